/- Functions of the program as plain Lean functions, and that a call of each comes to what its function tells. Written by a program of this seat. -/
import Derived.Test.YtogilihkphjjbaaQ0
import Derived.Test.YtogilihkphjjbaaQ2
import Derived.Test.YtogilihkphjjbaaQ6
import Derived.Test.YtogilihkphjjbaaQ7
import Derived.Test.YtogilihkphjjbaaQ14
import Derived.Test.YtogilihkphjjbaaQ15
import Derived.Test.YtogilihkphjjbaaQ57
import Derived.Test.YtogilihkphjjbaaQ58
import Derived.Test.YtogilihkphjjbaaQ59
namespace Go.Proofs.Ytogilihkphjjbaa.Q
open Go.RowKit Go.Proofs.YtogilihkphjjbaaW.PrintWords Go.Proofs.YtogilihkphjjbaaW.PrintLast Go.Proofs.YtogilihkphjjbaaW.PrintMore
attribute [local go_sem] max2_int min2_int max_two min_two max_three min_three max_four min_four   -- for this text's walks alone
set_option linter.unusedVariables false
set_option linter.unusedSimpArgs false

/-! ### laws_FnExactAllFalls: function 14 -/
def laws_FnExactAllFalls.f (k : Nat) (l0_0 : List Int) (l0_1 : List Int) (a0_2 : Int) (a0_3 : Int) (a0_4 : Int) (l0_5 : List (S51)) : Option Bool := ((laws_szDisk.f k l0_0 l0_1 a0_2 a0_3 a0_4 l0_5 1048576).bind fun b4 => (if b4 < 0 then some true else ((laws_toDisk.f k l0_0 l0_1 a0_2 a0_3 a0_4 l0_5).bind fun b9 => ((spec_AllFalls.f k b9.1 b9.2.1 b9.2.2.1 b9.2.2.2.1 b9.2.2.2.2.1 b9.2.2.2.2.2).bind fun b28 => ((laws_toDisk.f k l0_0 l0_1 a0_2 a0_3 a0_4 l0_5).bind fun b36 => ((impl_AllFalls.f k b36.1 b36.2.1 b36.2.2.1 b36.2.2.2.1 b36.2.2.2.2.1 b36.2.2.2.2.2).bind fun b59 => ((laws_eqDiskS.f k b59 b28).bind fun b67 => (if b67 = true then ((laws_toDisk.f k l0_0 l0_1 a0_2 a0_3 a0_4 l0_5).bind fun b72 => ((laws_eqDisk.f k b36.1 b36.2.1 b36.2.2.1 b36.2.2.2.1 b36.2.2.2.2.1 b36.2.2.2.2.2 b72.1 b72.2.1 b72.2.2.1 b72.2.2.2.1 b72.2.2.2.2.1 b72.2.2.2.2.2).bind fun b91 => (if b91 = true then ((laws_markDisk.f k b36.1 b36.2.1 b36.2.2.1 b36.2.2.2.1 b36.2.2.2.2.1 b36.2.2.2.2.2 1).bind fun b95 => (if b95.1 < 0 then none else ((laws_eqDiskS.f k b59 b28).bind fun b103 => (if b103 = true then ((laws_markDiskS.f k b59 1).bind fun b107 => ((laws_heldDiskS.f k b107.2 1).bind fun b112 => (if b112 < 0 then none else (if b112 = b107.1 then ((laws_toDisk.f k l0_0 l0_1 a0_2 a0_3 a0_4 l0_5).bind fun b118 => ((impl_AllFalls.f k b118.1 b118.2.1 b118.2.2.1 b118.2.2.2.1 b118.2.2.2.2.1 b118.2.2.2.2.2).bind fun b137 => ((laws_eqDiskS.f k b137 b28).bind fun b145 => (if b145 = true then ((laws_heldDiskS.f k b107.2 1).bind fun b149 => (if b149 < 0 then none else (if b149 = b107.1 then (some true) else none))) else none)))) else none)))) else none)))) else none))) else none))))))))
set_option maxHeartbeats 40000000 in
set_option maxRecDepth 100000 in
theorem laws_FnExactAllFalls.calls (k : Nat) (al : Option Addr) (ak : Nat) (ac : List Int) (ao : Option Addr) (am : Nat) (ab : List Int) (ae : Int) (af : Int) (ad : Int) (an : Option Addr) (aj : Nat) (aa : List (S51)) (r : Bool) (w : World) (aq : Kd.C (Kd.int .u8) w al ac.length ac) (av : ac.length ≤ ak) (ar : Kd.C (Kd.int .u8) w ao ab.length ab) (au : ab.length ≤ am) (aw : Kd.C k51 w an aa.length aa) (ap : aa.length ≤ aj) (h : laws_FnExactAllFalls.f k ac ab ae af ad aa = some r) :
  Calls Try.prog 14 #[.agg #[.slice al ac.length ak, .slice ao ab.length am, .int .i64 ae, .int .i64 af, .int .i64 ad, .slice an aa.length aj]] w fun e w' => e = .returned (.bool r) ∧ Below w.heap.size w w' := by
 have hu27 := Try.underlying27
 have hu33 := Try.underlying33
 have ai := aM (And.intro aq av)
 have ah := aM (And.intro ar au)
 have ag := aM (And.intro aw ap)
 clear aq av ar au aw ap
 have HB := aM (Below.refl w.heap.size w)
 have HS := aM (show Sep w.heap.size w [] from trivial)
 unfold laws_FnExactAllFalls.f at h
 go_enter Try.func14, Try.ntmps14
 replace h := bE h; obtain ⟨t5, A6, h⟩ := h
 go_wp2_with (first | ((with_reducible refine gate_dst (N := 1) rfl ?_); refine gBx 1 #[.slice al ac.length ak, .slice ao ab.length am, .int .i64 ae, .int .i64 af, .int .i64 ad, .slice an aa.length aj] 27 ?_; intro g1 hg w2 hbox hb; replace HS := aM (Sep.blk HS.out hb HB.out.size hg hbox); replace HB := aM (below_step HB.out hb); clear hb hbox hg; (simp only [Act.put, List.setIfInBounds_toArray, List.set_cons_zero, List.set_cons_succ])) | ((with_reducible refine gate_dst (N := 11) rfl ?_); refine gLd 11 (blkP (Sep.p0 HS.out)) ?_; (simp only [Act.put, List.setIfInBounds_toArray, List.set_cons_zero, List.set_cons_succ])) | ((with_reducible refine gate_callee (f := 15) rfl ?_); (with_reducible refine gate_dst (N := 13) rfl ?_); refine gL (some 13) Try.func15 #[.agg #[.slice al ac.length ak, .slice ao ab.length am, .int .i64 ae, .int .i64 af, .int .i64 ad, .slice an aa.length aj], .int .i64 1048576] ?_; refine (laws_szDisk.calls k _ _ ac _ _ ab ae af ad _ _ aa 1048576 t5 _ (Kd.C_below ai.out.1 HB.out) ai.out.2 (Kd.C_below ah.out.1 HB.out) ah.out.2 (Kd.C_below ag.out.1 HB.out) ag.out.2 A6.out).mono ?_; rintro e w7 ⟨rfl, hb⟩; refine ⟨_, rfl, ?_⟩; replace HS := aM (HS.out.below hb); replace HB := aM (below_step HB.out hb); clear hb; (simp only [Act.put, List.setIfInBounds_toArray, List.set_cons_zero, List.set_cons_succ])) | ((with_reducible refine gate_dst (N := 15) rfl ?_); generalize hG_ : wpList _ _ _ _ _ _ = G_))
 subst hG_
 by_cases c8 : t5 < 0
 ·rw [if_pos c8] at h
  have c8b0 : decide (t5 < 0) = true := decide_eq_true c8
  obtain rfl := Option.some.inj h
  clear h c8
  go_wp2
  go_ret
  exact ⟨rfl, HB.out⟩
 rw [if_neg c8] at h
 have c8b0 : decide (t5 < 0) = false := decide_eq_false c8
 clear c8
 replace h := bE h; obtain ⟨⟨t10, t11, t12, t13, t14, t15⟩, A16, h⟩ := h
 dsimp only at h
 replace h := bE h; obtain ⟨t29, A30, h⟩ := h
 replace h := bE h; obtain ⟨⟨t37, t38, t39, t40, t41, t42⟩, A43, h⟩ := h
 dsimp only at h
 replace h := bE h; obtain ⟨t60, A61, h⟩ := h
 replace h := bE h; obtain ⟨t68, A69, h⟩ := h
 replace h := ifN h; obtain ⟨hq, h⟩ := h
 subst hq
 replace h := bE h; obtain ⟨⟨t73, t74, t75, t76, t77, t78⟩, A79, h⟩ := h
 dsimp only at h
 replace h := bE h; obtain ⟨t92, A93, h⟩ := h
 replace h := ifN h; obtain ⟨hq, h⟩ := h
 subst hq
 go_wp2_with (first | ((with_reducible refine gate_dst (N := 16) rfl ?_); refine gLd 16 (blkP (Sep.p0 HS.out)) ?_; (simp only [Act.put, List.setIfInBounds_toArray, List.set_cons_zero, List.set_cons_succ])) | ((with_reducible refine gate_callee (f := 17) rfl ?_); (with_reducible refine gate_dst (N := 17) rfl ?_); refine gL (some 17) Try.func17 #[.agg #[.slice al ac.length ak, .slice ao ab.length am, .int .i64 ae, .int .i64 af, .int .i64 ad, .slice an aa.length aj]] ?_; refine (laws_toDisk.calls k _ _ ac _ _ ab ae af ad _ _ aa t10 t11 t12 t13 t14 t15 _ (Kd.C_below ai.out.1 HB.out) ai.out.2 (Kd.C_below ah.out.1 HB.out) ah.out.2 (Kd.C_below ag.out.1 HB.out) ag.out.2 A16.out).mono ?_; rintro e w17 ⟨v18, v19, v20, rfl, ho0, ho1, ho2, hb⟩; refine ⟨_, rfl, ?_⟩; obtain ⟨A21, c22, hz⟩ := Kd.R_slice ho0; subst hz; obtain ⟨A23, c24, hz⟩ := Kd.R_slice ho1; subst hz; obtain ⟨A25, c26, hz⟩ := Kd.S_slice ho2; subst hz; replace HS := aM (Sep.disk HS.out hb HB.out.size ho0 ho1 ho2); replace HB := aM (below_step HB.out hb); clear ho0 ho1 ho2 hb; (simp only [Act.put, List.setIfInBounds_toArray, List.set_cons_zero, List.set_cons_succ])) | ((with_reducible refine gate_callee (f := 51) rfl ?_); (with_reducible refine gate_dst (N := 18) rfl ?_); refine gL (some 18) Try.func51 #[.agg #[.slice A21 t10.length c22, .slice A23 t11.length c24, .int .i64 t12, .int .i64 t13, .int .i64 t14, .slice A25 t15.length c26]] ?_; refine (spec_AllFalls.calls k _ _ t10 _ _ t11 t12 t13 t14 _ _ t15 t29 _ (diskC0 (Sep.p0 HS.out)) (diskL0 (Sep.p0 HS.out)) (diskC1 (Sep.p0 HS.out)) (diskL1 (Sep.p0 HS.out)) (diskC2 (Sep.p0 HS.out)) (diskL2 (Sep.p0 HS.out)) A30.out).mono ?_; rintro e w31 ⟨v32, rfl, ho0, hb⟩; refine ⟨_, rfl, ?_⟩; obtain ⟨A33, c34, hz⟩ := Kd.R_slice ho0; subst hz; replace HS := aM (Sep.row HS.out hb HB.out.size ho0); replace HB := aM (below_step HB.out hb); clear ho0 hb; (simp only [Act.put, List.setIfInBounds_toArray, List.set_cons_zero, List.set_cons_succ])) | ((with_reducible refine gate_dst (N := 19) rfl ?_); refine gLd 19 (blkP (Sep.p2 HS.out)) ?_; (simp only [Act.put, List.setIfInBounds_toArray, List.set_cons_zero, List.set_cons_succ])) | ((with_reducible refine gate_callee (f := 17) rfl ?_); (with_reducible refine gate_dst (N := 20) rfl ?_); refine gL (some 20) Try.func17 #[.agg #[.slice al ac.length ak, .slice ao ab.length am, .int .i64 ae, .int .i64 af, .int .i64 ad, .slice an aa.length aj]] ?_; refine (laws_toDisk.calls k _ _ ac _ _ ab ae af ad _ _ aa t37 t38 t39 t40 t41 t42 _ (Kd.C_below ai.out.1 HB.out) ai.out.2 (Kd.C_below ah.out.1 HB.out) ah.out.2 (Kd.C_below ag.out.1 HB.out) ag.out.2 A43.out).mono ?_; rintro e w44 ⟨v45, v46, v47, rfl, ho0, ho1, ho2, hb⟩; refine ⟨_, rfl, ?_⟩; obtain ⟨A48, c49, hz⟩ := Kd.R_slice ho0; subst hz; obtain ⟨A50, c51, hz⟩ := Kd.R_slice ho1; subst hz; obtain ⟨A52, c53, hz⟩ := Kd.S_slice ho2; subst hz; replace HS := aM (Sep.disk HS.out hb HB.out.size ho0 ho1 ho2); replace HB := aM (below_step HB.out hb); clear ho0 ho1 ho2 hb; (simp only [Act.put, List.setIfInBounds_toArray, List.set_cons_zero, List.set_cons_succ])) | ((with_reducible refine gate_dst (N := 5) rfl ?_); refine gBx 5 #[.slice none 0 0, .slice none 0 0, .int .i64 0, .int .i64 0, .int .i64 0, .slice none 0 0] 33 ?_; intro g55 hg w56 hbox hb; replace HS := aM (Sep.blk HS.out hb HB.out.size hg hbox); replace HB := aM (below_step HB.out hb); clear hb hbox hg; (simp only [Act.put, List.setIfInBounds_toArray, List.set_cons_zero, List.set_cons_succ])) | ((with_reducible refine gate_store (t := 33) (p := 5) rfl ?_); refine gSt [.slice A48 t37.length c49, .slice A50 t38.length c51, .int .i64 t39, .int .i64 t40, .int .i64 t41, .slice A52 t42.length c53] #[.slice A48 t37.length c49, .slice A50 t38.length c51, .int .i64 t39, .int .i64 t40, .int .i64 t41, .slice A52 t42.length c53] (blkP (Sep.p0 HS.out)) ?_; intro w58 hw hbox; replace HB := aM (hw.below HB.out (Sep.r0 HS.out).1); replace HS := aM (Sep.wr HS.out hw hbox); clear hw hbox) | ((with_reducible refine gate_dst (N := 21) rfl ?_); refine gLd 21 (blkP (Sep.p0 HS.out)) ?_; (simp only [Act.put, List.setIfInBounds_toArray, List.set_cons_zero, List.set_cons_succ])) | ((with_reducible refine gate_callee (f := 52) rfl ?_); (with_reducible refine gate_dst (N := 22) rfl ?_); refine gL (some 22) Try.func52 #[.agg #[.slice A48 t37.length c49, .slice A50 t38.length c51, .int .i64 t39, .int .i64 t40, .int .i64 t41, .slice A52 t42.length c53]] ?_; refine (impl_AllFalls.calls k _ _ t37 _ _ t38 t39 t40 t41 _ _ t42 t60 _ (diskC0 (Sep.p1 HS.out)) (diskL0 (Sep.p1 HS.out)) (diskC1 (Sep.p1 HS.out)) (diskL1 (Sep.p1 HS.out)) (diskC2 (Sep.p1 HS.out)) (diskL2 (Sep.p1 HS.out)) A61.out).mono ?_; rintro e w62 ⟨v63, rfl, ho0, hb⟩; refine ⟨_, rfl, ?_⟩; obtain ⟨A64, c65, hz⟩ := Kd.S_slice ho0; subst hz; replace HS := aM (Sep.sow HS.out hb HB.out.size ho0); replace HB := aM (below_step HB.out hb); clear ho0 hb; (simp only [Act.put, List.setIfInBounds_toArray, List.set_cons_zero, List.set_cons_succ])) | ((with_reducible refine gate_callee (f := 53) rfl ?_); (with_reducible refine gate_dst (N := 25) rfl ?_); refine gL (some 25) Try.func53 #[.slice A64 t60.length c65, .slice A33 t29.length c34] ?_; refine (laws_eqDiskS.calls k _ _ t60 _ _ t29 true _ (Kd.S_reads' (Sep.p0 HS.out)).2.2 (Kd.S_reads' (Sep.p0 HS.out)).2.1 (rowC (Sep.p3 HS.out)) (rowL (Sep.p3 HS.out)) A69.out).mono ?_; rintro e w70 ⟨rfl, hb⟩; refine ⟨_, rfl, ?_⟩; replace HS := aM (HS.out.below hb); replace HB := aM (below_step HB.out hb); clear hb; (simp only [Act.put, List.setIfInBounds_toArray, List.set_cons_zero, List.set_cons_succ])))
 replace HS := aM (HS.out.below (bd1 rfl))
 replace HB := aM (below_step HB.out (bd1 rfl))
 refine start_ (n := 5) (S := fun w' => w'.cell? ⟨g55, 0, none⟩ = some (.slice A48 t37.length c49) ∧ w'.cell? ⟨g55, 1, none⟩ = some (.slice A50 t38.length c51) ∧ w'.cell? ⟨g55, 2, none⟩ = some (.int .i64 t39) ∧ w'.cell? ⟨g55, 3, none⟩ = some (.int .i64 t40) ∧ w'.cell? ⟨g55, 4, none⟩ = some (.int .i64 t41) ∧ w'.cell? ⟨g55, 5, none⟩ = some (.slice A52 t42.length c53) ∧ w'.cell? ⟨g1, 0, none⟩ = some (.slice al ac.length ak) ∧ w'.cell? ⟨g1, 1, none⟩ = some (.slice ao ab.length am) ∧ w'.cell? ⟨g1, 2, none⟩ = some (.int .i64 ae) ∧ w'.cell? ⟨g1, 3, none⟩ = some (.int .i64 af) ∧ w'.cell? ⟨g1, 4, none⟩ = some (.int .i64 ad) ∧ w'.cell? ⟨g1, 5, none⟩ = some (.slice an aa.length aj)) (ds := []) (Array.replicate 5 false) (by kernel_rfl) rfl rfl ⟨(blk_cell (blkP (Sep.p1 HS.out)) 0).trans rfl, (blk_cell (blkP (Sep.p1 HS.out)) 1).trans rfl, (blk_cell (blkP (Sep.p1 HS.out)) 2).trans rfl, (blk_cell (blkP (Sep.p1 HS.out)) 3).trans rfl, (blk_cell (blkP (Sep.p1 HS.out)) 4).trans rfl, (blk_cell (blkP (Sep.p1 HS.out)) 5).trans rfl, (blk_cell (blkP (Sep.p5 HS.out)) 0).trans rfl, (blk_cell (blkP (Sep.p5 HS.out)) 1).trans rfl, (blk_cell (blkP (Sep.p5 HS.out)) 2).trans rfl, (blk_cell (blkP (Sep.p5 HS.out)) 3).trans rfl, (blk_cell (blkP (Sep.p5 HS.out)) 4).trans rfl, (blk_cell (blkP (Sep.p5 HS.out)) 5).trans rfl⟩ (fun hHeld => ?_)
 generalize hw_ : World.drew _ = w71 at HS HB hHeld ⊢
 clear hw_
 refine pT 0 (some 27) ?_
 refine pT 1 (some 28) ?_
 refine pO 2 (some 29) (fun K hK => ?_)
 refine gG Try.func17 #[.agg #[.slice al ac.length ak, .slice ao ab.length am, .int .i64 ae, .int .i64 af, .int .i64 ad, .slice an aa.length aj]] ?_
 refine (laws_toDisk.calls k _ _ ac _ _ ab ae af ad _ _ aa t73 t74 t75 t76 t77 t78 _ (Kd.C_below ai.out.1 HB.out) ai.out.2 (Kd.C_below ah.out.1 HB.out) ah.out.2 (Kd.C_below ag.out.1 HB.out) ag.out.2 A79.out).mono ?_
 rintro e w80 ⟨v81, v82, v83, rfl, ho0, ho1, ho2, hb⟩; refine ⟨_, rfl, ?_⟩
 obtain ⟨A84, c85, hz⟩ := Kd.R_slice ho0; subst hz
 obtain ⟨A86, c87, hz⟩ := Kd.R_slice ho1; subst hz
 obtain ⟨A88, c89, hz⟩ := Kd.S_slice ho2; subst hz
 replace HS := aM (Sep.disk HS.out hb HB.out.size ho0 ho1 ho2)
 replace HB := aM (below_step HB.out hb)
 clear ho0 ho1 ho2 hb
 refine hK.out _ _ ⟨(blk_cell (blkP (Sep.p2 HS.out)) 0).trans rfl, (blk_cell (blkP (Sep.p2 HS.out)) 1).trans rfl, (blk_cell (blkP (Sep.p2 HS.out)) 2).trans rfl, (blk_cell (blkP (Sep.p2 HS.out)) 3).trans rfl, (blk_cell (blkP (Sep.p2 HS.out)) 4).trans rfl, (blk_cell (blkP (Sep.p2 HS.out)) 5).trans rfl, (blk_cell (blkP (Sep.p6 HS.out)) 0).trans rfl, (blk_cell (blkP (Sep.p6 HS.out)) 1).trans rfl, (blk_cell (blkP (Sep.p6 HS.out)) 2).trans rfl, (blk_cell (blkP (Sep.p6 HS.out)) 3).trans rfl, (blk_cell (blkP (Sep.p6 HS.out)) 4).trans rfl, (blk_cell (blkP (Sep.p6 HS.out)) 5).trans rfl⟩ (fun hHeld => ?_)
 clear hK K
 refine nR ?_
 refine pO 3 (some 30) (fun K hK => ?_)
 refine gG Try.func19 #[.agg #[.slice A48 t37.length c49, .slice A50 t38.length c51, .int .i64 t39, .int .i64 t40, .int .i64 t41, .slice A52 t42.length c53], .agg #[.slice A84 t73.length c85, .slice A86 t74.length c87, .int .i64 t75, .int .i64 t76, .int .i64 t77, .slice A88 t78.length c89]] ?_
 refine (laws_eqDisk.calls k _ _ t37 _ _ t38 t39 t40 t41 _ _ t42 _ _ t73 _ _ t74 t75 t76 t77 _ _ t78 true _ (diskC0 (Sep.p3 HS.out)) (diskL0 (Sep.p3 HS.out)) (diskC1 (Sep.p3 HS.out)) (diskL1 (Sep.p3 HS.out)) (diskC2 (Sep.p3 HS.out)) (diskL2 (Sep.p3 HS.out)) (diskC0 (Sep.p0 HS.out)) (diskL0 (Sep.p0 HS.out)) (diskC1 (Sep.p0 HS.out)) (diskL1 (Sep.p0 HS.out)) (diskC2 (Sep.p0 HS.out)) (diskL2 (Sep.p0 HS.out)) A93.out).mono ?_
 rintro e w94 ⟨rfl, hb⟩; refine ⟨_, rfl, ?_⟩
 replace HS := aM (HS.out.below hb)
 replace HB := aM (below_step HB.out hb)
 clear hb
 refine hK.out _ _ ⟨(blk_cell (blkP (Sep.p2 HS.out)) 0).trans rfl, (blk_cell (blkP (Sep.p2 HS.out)) 1).trans rfl, (blk_cell (blkP (Sep.p2 HS.out)) 2).trans rfl, (blk_cell (blkP (Sep.p2 HS.out)) 3).trans rfl, (blk_cell (blkP (Sep.p2 HS.out)) 4).trans rfl, (blk_cell (blkP (Sep.p2 HS.out)) 5).trans rfl, (blk_cell (blkP (Sep.p6 HS.out)) 0).trans rfl, (blk_cell (blkP (Sep.p6 HS.out)) 1).trans rfl, (blk_cell (blkP (Sep.p6 HS.out)) 2).trans rfl, (blk_cell (blkP (Sep.p6 HS.out)) 3).trans rfl, (blk_cell (blkP (Sep.p6 HS.out)) 4).trans rfl, (blk_cell (blkP (Sep.p6 HS.out)) 5).trans rfl⟩ (fun hHeld => ?_)
 clear hK K
 refine nR ?_
 refine pP 4 (some 31) ?_
 refine done_ (by kernel_rfl) ?_
 replace h := bE h; obtain ⟨⟨t96, t97, t98, t99⟩, A100, h⟩ := h
 dsimp only at h
 replace h := ifM h; obtain ⟨c102, h⟩ := h
 have c102b : decide (t96 < 0) = false := decide_eq_false c102
 clear c102
 replace h := bE h; obtain ⟨t104, A105, h⟩ := h
 replace h := ifN h; obtain ⟨hq, h⟩ := h
 subst hq
 replace h := bE h; obtain ⟨⟨t108, t109⟩, A110, h⟩ := h
 dsimp only at h
 replace h := bE h; obtain ⟨t113, A114, h⟩ := h
 replace h := ifM h; obtain ⟨c116, h⟩ := h
 have c116b : decide (t113 < 0) = false := decide_eq_false c116
 clear c116
 replace h := ifN h; obtain ⟨c117, h⟩ := h
 have c117b : (t113 != t108) = false := bne_eq_false_iff_eq.mpr c117
 clear c117
 replace h := bE h; obtain ⟨⟨t119, t120, t121, t122, t123, t124⟩, A125, h⟩ := h
 dsimp only at h
 replace h := bE h; obtain ⟨t138, A139, h⟩ := h
 replace h := bE h; obtain ⟨t146, A147, h⟩ := h
 replace h := ifN h; obtain ⟨hq, h⟩ := h
 subst hq
 replace h := bE h; obtain ⟨t150, A151, h⟩ := h
 replace h := ifM h; obtain ⟨c153, h⟩ := h
 have c153b : decide (t150 < 0) = false := decide_eq_false c153
 clear c153
 replace h := ifN h; obtain ⟨c154, h⟩ := h
 have c154b : (t150 != t108) = false := bne_eq_false_iff_eq.mpr c154
 clear c154
 go_wp2_with (first | ((with_reducible refine gate_dst (N := 32) rfl ?_); refine gLd 32 (blkP (Sep.p2 HS.out)) ?_; (simp only [Act.put, List.setIfInBounds_toArray, List.set_cons_zero, List.set_cons_succ])) | ((with_reducible refine gate_callee (f := 25) rfl ?_); (with_reducible refine gate_dst (N := 34) rfl ?_); refine gL (some 34) Try.func25 #[.agg #[.slice A48 t37.length c49, .slice A50 t38.length c51, .int .i64 t39, .int .i64 t40, .int .i64 t41, .slice A52 t42.length c53], .int .i64 1] ?_; replace HS := aM (Sep.f3 HS.out); refine (laws_markDisk.calls k _ _ _ t37 _ _ t38 t39 t40 t41 _ _ t42 1 t96 t97 t98 t99 w _ HB.out (Sep.p0 HS.out) A100.out).mono ?_; rintro e w101 ⟨rfl, hd, hb, hk⟩; refine ⟨_, rfl, ?_⟩; replace HS := aM (Sep.put HS.out (KeptR.of_kept hk (fun _ q => q)) (iDisk _ _ _ _ _ _ t97 t98 t99) rfl rfl hd); replace HB := aM hb; have e0 := (Kd.R_reads' hd.1).1; have e1 := (Kd.R_reads' hd.2.1).1; have e2 := (Kd.S_reads' hd.2.2).1; clear hd hb hk; simp only [e0, e1, e2] at HS ⊢; clear e0 e1 e2; (simp only [Act.put, List.setIfInBounds_toArray, List.set_cons_zero, List.set_cons_succ])) | ((with_reducible refine gate_callee (f := 53) rfl ?_); (with_reducible refine gate_dst (N := 40) rfl ?_); refine gGd rfl ?_; refine gL (some 40) Try.func53 #[.slice A64 t60.length c65, .slice A33 t29.length c34] ?_; refine (laws_eqDiskS.calls k _ _ t60 _ _ t29 true _ (Kd.S_reads' (Sep.p2 HS.out)).2.2 (Kd.S_reads' (Sep.p2 HS.out)).2.1 (rowC (Sep.p4 HS.out)) (rowL (Sep.p4 HS.out)) A105.out).mono ?_; rintro e w106 ⟨rfl, hb⟩; refine ⟨_, rfl, ?_⟩; replace HS := aM (HS.out.below hb); replace HB := aM (below_step HB.out hb); clear hb; (simp only [Act.put, List.setIfInBounds_toArray, List.set_cons_zero, List.set_cons_succ])) | ((with_reducible refine gate_callee (f := 54) rfl ?_); (with_reducible refine gate_dst (N := 45) rfl ?_); refine gL (some 45) Try.func54 #[.slice A64 t60.length c65, .int .i64 1] ?_; replace HS := aM (Sep.f2 HS.out); refine (laws_markDiskS.calls k _ _ t60 1 t108 t109 w _ HB.out (Sep.p0 HS.out) A110.out).mono ?_; rintro e w111 ⟨rfl, hd, hb, hk⟩; refine ⟨_, rfl, ?_⟩; replace HS := aM (Sep.put HS.out (KeptR.of_kept hk (fun _ q => q)) (iSow kD 33 _ _ _ _ t109) rfl rfl hd); replace HB := aM hb; have e0 := (Kd.S_reads' hd).1; clear hd hb hk; simp only [e0] at HS ⊢; clear e0; (simp only [Act.put, List.setIfInBounds_toArray, List.set_cons_zero, List.set_cons_succ])) | ((with_reducible refine gate_callee (f := 55) rfl ?_); (with_reducible refine gate_dst (N := 48) rfl ?_); refine gL (some 48) Try.func55 #[.slice A64 t109.length c65, .int .i64 1] ?_; refine (laws_heldDiskS.calls k _ _ t109 1 t113 _ (Kd.S_reads' (Sep.p0 HS.out)).2.2 (Kd.S_reads' (Sep.p0 HS.out)).2.1 A114.out).mono ?_; rintro e w115 ⟨rfl, hd⟩; have hb := hd.below; clear hd; refine ⟨_, rfl, ?_⟩; replace HS := aM (HS.out.below hb); replace HB := aM (below_step HB.out hb); clear hb; (simp only [Act.put, List.setIfInBounds_toArray, List.set_cons_zero, List.set_cons_succ])) | ((with_reducible refine gate_dst (N := 54) rfl ?_); refine gLd 54 (blkP (Sep.p6 HS.out)) ?_; (simp only [Act.put, List.setIfInBounds_toArray, List.set_cons_zero, List.set_cons_succ])) | ((with_reducible refine gate_callee (f := 17) rfl ?_); (with_reducible refine gate_dst (N := 55) rfl ?_); refine gL (some 55) Try.func17 #[.agg #[.slice al ac.length ak, .slice ao ab.length am, .int .i64 ae, .int .i64 af, .int .i64 ad, .slice an aa.length aj]] ?_; refine (laws_toDisk.calls k _ _ ac _ _ ab ae af ad _ _ aa t119 t120 t121 t122 t123 t124 _ (Kd.C_below ai.out.1 HB.out) ai.out.2 (Kd.C_below ah.out.1 HB.out) ah.out.2 (Kd.C_below ag.out.1 HB.out) ag.out.2 A125.out).mono ?_; rintro e w126 ⟨v127, v128, v129, rfl, ho0, ho1, ho2, hb⟩; refine ⟨_, rfl, ?_⟩; obtain ⟨A130, c131, hz⟩ := Kd.R_slice ho0; subst hz; obtain ⟨A132, c133, hz⟩ := Kd.R_slice ho1; subst hz; obtain ⟨A134, c135, hz⟩ := Kd.S_slice ho2; subst hz; replace HS := aM (Sep.disk HS.out hb HB.out.size ho0 ho1 ho2); replace HB := aM (below_step HB.out hb); clear ho0 ho1 ho2 hb; (simp only [Act.put, List.setIfInBounds_toArray, List.set_cons_zero, List.set_cons_succ])) | ((with_reducible refine gate_callee (f := 52) rfl ?_); (with_reducible refine gate_dst (N := 56) rfl ?_); refine gL (some 56) Try.func52 #[.agg #[.slice A130 t119.length c131, .slice A132 t120.length c133, .int .i64 t121, .int .i64 t122, .int .i64 t123, .slice A134 t124.length c135]] ?_; refine (impl_AllFalls.calls k _ _ t119 _ _ t120 t121 t122 t123 _ _ t124 t138 _ (diskC0 (Sep.p0 HS.out)) (diskL0 (Sep.p0 HS.out)) (diskC1 (Sep.p0 HS.out)) (diskL1 (Sep.p0 HS.out)) (diskC2 (Sep.p0 HS.out)) (diskL2 (Sep.p0 HS.out)) A139.out).mono ?_; rintro e w140 ⟨v141, rfl, ho0, hb⟩; refine ⟨_, rfl, ?_⟩; obtain ⟨A142, c143, hz⟩ := Kd.S_slice ho0; subst hz; replace HS := aM (Sep.sow HS.out hb HB.out.size ho0); replace HB := aM (below_step HB.out hb); clear ho0 hb; (simp only [Act.put, List.setIfInBounds_toArray, List.set_cons_zero, List.set_cons_succ])) | ((with_reducible refine gate_callee (f := 53) rfl ?_); (with_reducible refine gate_dst (N := 59) rfl ?_); refine gL (some 59) Try.func53 #[.slice A142 t138.length c143, .slice A33 t29.length c34] ?_; refine (laws_eqDiskS.calls k _ _ t138 _ _ t29 true _ (Kd.S_reads' (Sep.p0 HS.out)).2.2 (Kd.S_reads' (Sep.p0 HS.out)).2.1 (rowC (Sep.p6 HS.out)) (rowL (Sep.p6 HS.out)) A147.out).mono ?_; rintro e w148 ⟨rfl, hb⟩; refine ⟨_, rfl, ?_⟩; replace HS := aM (HS.out.below hb); replace HB := aM (below_step HB.out hb); clear hb; (simp only [Act.put, List.setIfInBounds_toArray, List.set_cons_zero, List.set_cons_succ])) | ((with_reducible refine gate_callee (f := 55) rfl ?_); (with_reducible refine gate_dst (N := 63) rfl ?_); refine gL (some 63) Try.func55 #[.slice A64 t109.length c65, .int .i64 1] ?_; refine (laws_heldDiskS.calls k _ _ t109 1 t150 _ (Kd.S_reads' (Sep.p2 HS.out)).2.2 (Kd.S_reads' (Sep.p2 HS.out)).2.1 A151.out).mono ?_; rintro e w152 ⟨rfl, hd⟩; have hb := hd.below; clear hd; refine ⟨_, rfl, ?_⟩; replace HS := aM (HS.out.below hb); replace HB := aM (below_step HB.out hb); clear hb; (simp only [Act.put, List.setIfInBounds_toArray, List.set_cons_zero, List.set_cons_succ])))
 obtain rfl := Option.some.inj h
 (try go_wp2)
 go_ret
 exact ⟨rfl, HB.out⟩

end Go.Proofs.Ytogilihkphjjbaa.Q
