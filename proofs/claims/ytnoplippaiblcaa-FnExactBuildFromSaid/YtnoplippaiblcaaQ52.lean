/- Functions of the program as plain Lean functions, and that a call of each comes to what its function tells. Written by a program of this seat. -/
import Derived.Test.YtnoplippaiblcaaQ0
import Derived.Test.YtnoplippaiblcaaQ2
import Derived.Test.YtnoplippaiblcaaQ4
import Derived.Test.YtnoplippaiblcaaQ8
import Derived.Test.YtnoplippaiblcaaQ9
import Derived.Test.YtnoplippaiblcaaQ18
import Derived.Test.YtnoplippaiblcaaQ19
import Derived.Test.YtnoplippaiblcaaQ50
import Derived.Test.YtnoplippaiblcaaQ51
namespace Go.Proofs.Ytnoplippaiblcaa.Q
open Go.RowKit Go.Proofs.YtnoplippaiblcaaW.PrintWords Go.Proofs.YtnoplippaiblcaaW.PrintLast Go.Proofs.YtnoplippaiblcaaW.PrintMore
attribute [local go_sem] max2_int min2_int max_two min_two max_three min_three max_four min_four   -- for this text's walks alone
set_option linter.unusedVariables false
set_option linter.unusedSimpArgs false

/-! ### laws_FnExactBuildFrom: function 10 -/
def laws_FnExactBuildFrom.f (k : Nat) (a0_0 : Int) (a0_1 : Int) (a0_2 : Int) (l0_3 : List (S86)) (l1 : List Int) : Option Bool := (if (l1.length : Int) > 1048576 then some true else ((laws_szManifest.f a0_0 a0_1 a0_2 l0_3 1048576).bind fun b5 => (if b5 < 0 then some true else ((laws_toManifest.f k a0_0 a0_1 a0_2 l0_3).bind fun b10 => ((laws_toByteS.f k l1).bind fun b21 => ((spec_BuildFrom.f k b10.1 b10.2.1 b10.2.2.1 b10.2.2.2 b21).bind fun b29 => ((laws_toManifest.f k a0_0 a0_1 a0_2 l0_3).bind fun b42 => ((laws_toByteS.f k l1).bind fun b57 => ((impl_BuildFrom.f k b42.1 b42.2.1 b42.2.2.1 b42.2.2.2 b57).bind fun b65 => ((laws_eqBuild.f k b65.1 b65.2 b29.1 b29.2).bind fun b78 => (if b78 = true then ((laws_toManifest.f k a0_0 a0_1 a0_2 l0_3).bind fun b83 => ((laws_eqManifest.f k b42.1 b42.2.1 b42.2.2.1 b42.2.2.2 b83.1 b83.2.1 b83.2.2.1 b83.2.2.2).bind fun b94 => (if b94 = true then ((laws_toByteS.f k l1).bind fun b98 => ((laws_eqByteS.f k b57 b98).bind fun b106 => (if b106 = true then ((laws_markManifest.f k b42.1 b42.2.1 b42.2.2.1 b42.2.2.2 1).bind fun b110 => ((laws_markByteS.f k b57 b110.1).bind fun b115 => (if b115.1 < 0 then none else ((laws_eqBuild.f k b65.1 b65.2 b29.1 b29.2).bind fun b121 => (if b121 = true then ((laws_markBuild.f k b65.1 b65.2 1).bind fun b125 => ((laws_heldBuild.f k b65.1 b125.2 1).bind fun b130 => (if b130 < 0 then none else (if b130 = b125.1 then ((laws_toManifest.f k a0_0 a0_1 a0_2 l0_3).bind fun b136 => ((laws_toByteS.f k l1).bind fun b147 => ((impl_BuildFrom.f k b136.1 b136.2.1 b136.2.2.1 b136.2.2.2 b147).bind fun b155 => ((laws_eqBuild.f k b155.1 b155.2 b29.1 b29.2).bind fun b168 => (if b168 = true then ((laws_heldBuild.f k b65.1 b125.2 1).bind fun b172 => (if b172 < 0 then none else (if b172 = b125.1 then (some true) else none))) else none))))) else none)))) else none))))) else none))) else none))) else none)))))))))))
set_option maxHeartbeats 40000000 in
set_option maxRecDepth 100000 in
theorem laws_FnExactBuildFrom.calls (k : Nat) (ad : Int) (ac : Int) (ab : Int) (af : Option Addr) (ag : Nat) (aa : List (S86)) (A1 : Option Addr) (c1 : Nat) (l1 : List Int) (r : Bool) (w : World) (ah : Kd.C k86 w af aa.length aa) (ai : aa.length ≤ ag) (hr1 : Kd.C (Kd.int .u8) w A1 l1.length l1) (hc1 : l1.length ≤ c1) (h : laws_FnExactBuildFrom.f k ad ac ab aa l1 = some r) :
  Calls Try.prog 10 #[.agg #[.int .i64 ad, .int .i64 ac, .int .i64 ab, .slice af aa.length ag], .slice A1 l1.length c1] w fun e w' => e = .returned (.bool r) ∧ Below w.heap.size w w' := by
 have hu24 := Try.underlying24
 have hu33 := Try.underlying33
 have hu35 := Try.underlying35
 have ae := aM (And.intro ah ai)
 have HR1 := aM (And.intro hr1 hc1)
 clear ah ai hr1 hc1
 have HB := aM (Below.refl w.heap.size w)
 have HS := aM (show Sep w.heap.size w [] from trivial)
 unfold laws_FnExactBuildFrom.f at h
 go_enter Try.func10, Try.ntmps10
 go_wp2_with (first | ((with_reducible refine gate_dst (N := 2) rfl ?_); refine gBx 2 #[.int .i64 ad, .int .i64 ac, .int .i64 ab, .slice af aa.length ag] 24 ?_; intro g1 hg w2 hbox hb; replace HS := aM (Sep.blk HS.out hb HB.out.size hg hbox); replace HB := aM (below_step HB.out hb); clear hb hbox hg; (simp only [Act.put, List.setIfInBounds_toArray, List.set_cons_zero, List.set_cons_succ])) | ((with_reducible refine gate_dst (N := 16) rfl ?_); generalize hG_ : wpList _ _ _ _ _ _ = G_))
 subst hG_
 by_cases c4 : (l1.length : Int) > 1048576
 ·rw [if_pos c4] at h
  have c4b0 : decide (1048576 < (l1.length : Int)) = true := decide_eq_true c4
  have c4n : decide (1048576 < l1.length) = true := decide_eq_true (by omega)
  obtain rfl := Option.some.inj h
  clear h c4
  go_wp2
  go_ret
  exact ⟨rfl, HB.out⟩
 rw [if_neg c4] at h
 have c4b0 : decide (1048576 < (l1.length : Int)) = false := decide_eq_false c4
 have c4n : decide (1048576 < l1.length) = false := decide_eq_false (by omega)
 clear c4
 replace h := bE h; obtain ⟨t6, A7, h⟩ := h
 go_wp2_with (first | ((with_reducible refine gate_dst (N := 17) rfl ?_); refine gLd 17 (blkP (Sep.p0 HS.out)) ?_; (simp only [Act.put, List.setIfInBounds_toArray, List.set_cons_zero, List.set_cons_succ])) | ((with_reducible refine gate_callee (f := 11) rfl ?_); (with_reducible refine gate_dst (N := 19) rfl ?_); refine gL (some 19) Try.func11 #[.agg #[.int .i64 ad, .int .i64 ac, .int .i64 ab, .slice af aa.length ag], .int .i64 1048576] ?_; refine (laws_szManifest.calls ad ac ab _ _ aa 1048576 t6 _ (Kd.C_below ae.out.1 HB.out) ae.out.2 A7.out).mono ?_; rintro e w8 ⟨rfl, hb⟩; refine ⟨_, rfl, ?_⟩; replace HS := aM (HS.out.below hb); replace HB := aM (below_step HB.out hb); clear hb; (simp only [Act.put, List.setIfInBounds_toArray, List.set_cons_zero, List.set_cons_succ])) | ((with_reducible refine gate_dst (N := 21) rfl ?_); generalize hG_ : wpList _ _ _ _ _ _ = G_))
 subst hG_
 by_cases c9 : t6 < 0
 ·rw [if_pos c9] at h
  have c9b0 : decide (t6 < 0) = true := decide_eq_true c9
  obtain rfl := Option.some.inj h
  clear h c9
  go_wp2
  go_ret
  exact ⟨rfl, HB.out⟩
 rw [if_neg c9] at h
 have c9b0 : decide (t6 < 0) = false := decide_eq_false c9
 clear c9
 replace h := bE h; obtain ⟨⟨t11, t12, t13, t14⟩, A15, h⟩ := h
 dsimp only at h
 replace h := bE h; obtain ⟨t22, A23, h⟩ := h
 replace h := bE h; obtain ⟨⟨t30, t31⟩, A32, h⟩ := h
 dsimp only at h
 replace h := bE h; obtain ⟨⟨t43, t44, t45, t46⟩, A47, h⟩ := h
 dsimp only at h
 replace h := bE h; obtain ⟨t58, A59, h⟩ := h
 replace h := bE h; obtain ⟨⟨t66, t67⟩, A68, h⟩ := h
 dsimp only at h
 replace h := bE h; obtain ⟨t79, A80, h⟩ := h
 replace h := ifN h; obtain ⟨hq, h⟩ := h
 subst hq
 replace h := bE h; obtain ⟨⟨t84, t85, t86, t87⟩, A88, h⟩ := h
 dsimp only at h
 replace h := bE h; obtain ⟨t95, A96, h⟩ := h
 replace h := ifN h; obtain ⟨hq, h⟩ := h
 subst hq
 go_wp2_with (first | ((with_reducible refine gate_dst (N := 22) rfl ?_); refine gLd 22 (blkP (Sep.p0 HS.out)) ?_; (simp only [Act.put, List.setIfInBounds_toArray, List.set_cons_zero, List.set_cons_succ])) | ((with_reducible refine gate_callee (f := 14) rfl ?_); (with_reducible refine gate_dst (N := 23) rfl ?_); refine gL (some 23) Try.func14 #[.agg #[.int .i64 ad, .int .i64 ac, .int .i64 ab, .slice af aa.length ag]] ?_; refine (laws_toManifest.calls k ad ac ab _ _ aa t11 t12 t13 t14 _ (Kd.C_below ae.out.1 HB.out) ae.out.2 A15.out).mono ?_; rintro e w16 ⟨v17, rfl, ho0, hb⟩; refine ⟨_, rfl, ?_⟩; obtain ⟨A18, c19, hz⟩ := Kd.R_slice ho0; subst hz; replace HS := aM (Sep.row HS.out hb HB.out.size ho0); replace HB := aM (below_step HB.out hb); clear ho0 hb; (simp only [Act.put, List.setIfInBounds_toArray, List.set_cons_zero, List.set_cons_succ])) | ((with_reducible refine gate_callee (f := 25) rfl ?_); (with_reducible refine gate_dst (N := 25) rfl ?_); refine gL (some 25) Try.func25 #[.slice A1 l1.length c1] ?_; refine (laws_toByteS.calls k _ _ l1 t22 _ (Kd.C_below HR1.out.1 HB.out) HR1.out.2 A23.out).mono ?_; rintro e w24 ⟨v25, rfl, ho0, hb⟩; refine ⟨_, rfl, ?_⟩; obtain ⟨A26, c27, hz⟩ := Kd.R_slice ho0; subst hz; replace HS := aM (Sep.row HS.out hb HB.out.size ho0); replace HB := aM (below_step HB.out hb); clear ho0 hb; (simp only [Act.put, List.setIfInBounds_toArray, List.set_cons_zero, List.set_cons_succ])) | ((with_reducible refine gate_callee (f := 38) rfl ?_); (with_reducible refine gate_dst (N := 26) rfl ?_); refine gL (some 26) Try.func38 #[.agg #[.int .i64 t11, .int .i64 t12, .int .i64 t13, .slice A18 t14.length c19], .slice A26 t22.length c27] ?_; refine (spec_BuildFrom.calls k t11 t12 t13 _ _ t14 _ _ t22 t30 t31 _ (rowC (Sep.p1 HS.out)) (rowL (Sep.p1 HS.out)) (rowC (Sep.p0 HS.out)) (rowL (Sep.p0 HS.out)) A32.out).mono ?_; rintro e w33 ⟨v34, rfl, ho0, hb⟩; refine ⟨_, rfl, ?_⟩; obtain ⟨A35, c36, hz⟩ := Kd.R_slice ho0; subst hz; replace HS := aM (Sep.row HS.out hb HB.out.size ho0); replace HB := aM (below_step HB.out hb); clear ho0 hb; (simp only [Act.put, List.setIfInBounds_toArray, List.set_cons_zero, List.set_cons_succ])) | ((with_reducible refine gate_dst (N := 6) rfl ?_); refine gBx 6 #[.int .i64 0, .slice none 0 0] 35 ?_; intro g38 hg w39 hbox hb; replace HS := aM (Sep.blk HS.out hb HB.out.size hg hbox); replace HB := aM (below_step HB.out hb); clear hb hbox hg; (simp only [Act.put, List.setIfInBounds_toArray, List.set_cons_zero, List.set_cons_succ])) | ((with_reducible refine gate_store (t := 35) (p := 6) rfl ?_); refine gSt [.int .i64 t30, .slice A35 t31.length c36] #[.int .i64 t30, .slice A35 t31.length c36] (blkP (Sep.p0 HS.out)) ?_; intro w41 hw hbox; replace HB := aM (hw.below HB.out (Sep.r0 HS.out).1); replace HS := aM (Sep.wr HS.out hw hbox); clear hw hbox) | ((with_reducible refine gate_dst (N := 27) rfl ?_); refine gLd 27 (blkP (Sep.p4 HS.out)) ?_; (simp only [Act.put, List.setIfInBounds_toArray, List.set_cons_zero, List.set_cons_succ])) | ((with_reducible refine gate_callee (f := 14) rfl ?_); (with_reducible refine gate_dst (N := 28) rfl ?_); refine gL (some 28) Try.func14 #[.agg #[.int .i64 ad, .int .i64 ac, .int .i64 ab, .slice af aa.length ag]] ?_; refine (laws_toManifest.calls k ad ac ab _ _ aa t43 t44 t45 t46 _ (Kd.C_below ae.out.1 HB.out) ae.out.2 A47.out).mono ?_; rintro e w48 ⟨v49, rfl, ho0, hb⟩; refine ⟨_, rfl, ?_⟩; obtain ⟨A50, c51, hz⟩ := Kd.R_slice ho0; subst hz; replace HS := aM (Sep.row HS.out hb HB.out.size ho0); replace HB := aM (below_step HB.out hb); clear ho0 hb; (simp only [Act.put, List.setIfInBounds_toArray, List.set_cons_zero, List.set_cons_succ])) | ((with_reducible refine gate_dst (N := 7) rfl ?_); refine gBx 7 #[.int .i64 0, .int .i64 0, .int .i64 0, .slice none 0 0] 33 ?_; intro g53 hg w54 hbox hb; replace HS := aM (Sep.blk HS.out hb HB.out.size hg hbox); replace HB := aM (below_step HB.out hb); clear hb hbox hg; (simp only [Act.put, List.setIfInBounds_toArray, List.set_cons_zero, List.set_cons_succ])) | ((with_reducible refine gate_store (t := 33) (p := 7) rfl ?_); refine gSt [.int .i64 t43, .int .i64 t44, .int .i64 t45, .slice A50 t46.length c51] #[.int .i64 t43, .int .i64 t44, .int .i64 t45, .slice A50 t46.length c51] (blkP (Sep.p0 HS.out)) ?_; intro w56 hw hbox; replace HB := aM (hw.below HB.out (Sep.r0 HS.out).1); replace HS := aM (Sep.wr HS.out hw hbox); clear hw hbox) | ((with_reducible refine gate_callee (f := 25) rfl ?_); (with_reducible refine gate_dst (N := 30) rfl ?_); refine gL (some 30) Try.func25 #[.slice A1 l1.length c1] ?_; refine (laws_toByteS.calls k _ _ l1 t58 _ (Kd.C_below HR1.out.1 HB.out) HR1.out.2 A59.out).mono ?_; rintro e w60 ⟨v61, rfl, ho0, hb⟩; refine ⟨_, rfl, ?_⟩; obtain ⟨A62, c63, hz⟩ := Kd.R_slice ho0; subst hz; replace HS := aM (Sep.row HS.out hb HB.out.size ho0); replace HB := aM (below_step HB.out hb); clear ho0 hb; (simp only [Act.put, List.setIfInBounds_toArray, List.set_cons_zero, List.set_cons_succ])) | ((with_reducible refine gate_dst (N := 31) rfl ?_); refine gLd 31 (blkP (Sep.p1 HS.out)) ?_; (simp only [Act.put, List.setIfInBounds_toArray, List.set_cons_zero, List.set_cons_succ])) | ((with_reducible refine gate_callee (f := 39) rfl ?_); (with_reducible refine gate_dst (N := 33) rfl ?_); refine gL (some 33) Try.func39 #[.agg #[.int .i64 t43, .int .i64 t44, .int .i64 t45, .slice A50 t46.length c51], .slice A62 t58.length c63] ?_; refine (impl_BuildFrom.calls k t43 t44 t45 _ _ t46 _ _ t58 t66 t67 _ (rowC (Sep.p2 HS.out)) (rowL (Sep.p2 HS.out)) (rowC (Sep.p0 HS.out)) (rowL (Sep.p0 HS.out)) A68.out).mono ?_; rintro e w69 ⟨v70, rfl, ho0, hb⟩; refine ⟨_, rfl, ?_⟩; obtain ⟨A71, c72, hz⟩ := Kd.R_slice ho0; subst hz; replace HS := aM (Sep.row HS.out hb HB.out.size ho0); replace HB := aM (below_step HB.out hb); clear ho0 hb; (simp only [Act.put, List.setIfInBounds_toArray, List.set_cons_zero, List.set_cons_succ])) | ((with_reducible refine gate_dst (N := 9) rfl ?_); refine gBx 9 #[.int .i64 0, .slice none 0 0] 35 ?_; intro g74 hg w75 hbox hb; replace HS := aM (Sep.blk HS.out hb HB.out.size hg hbox); replace HB := aM (below_step HB.out hb); clear hb hbox hg; (simp only [Act.put, List.setIfInBounds_toArray, List.set_cons_zero, List.set_cons_succ])) | ((with_reducible refine gate_store (t := 35) (p := 9) rfl ?_); refine gSt [.int .i64 t66, .slice A71 t67.length c72] #[.int .i64 t66, .slice A71 t67.length c72] (blkP (Sep.p0 HS.out)) ?_; intro w77 hw hbox; replace HB := aM (hw.below HB.out (Sep.r0 HS.out).1); replace HS := aM (Sep.wr HS.out hw hbox); clear hw hbox) | ((with_reducible refine gate_dst (N := 34) rfl ?_); refine gLd 34 (blkP (Sep.p0 HS.out)) ?_; (simp only [Act.put, List.setIfInBounds_toArray, List.set_cons_zero, List.set_cons_succ])) | ((with_reducible refine gate_dst (N := 35) rfl ?_); refine gLd 35 (blkP (Sep.p5 HS.out)) ?_; (simp only [Act.put, List.setIfInBounds_toArray, List.set_cons_zero, List.set_cons_succ])) | ((with_reducible refine gate_callee (f := 18) rfl ?_); (with_reducible refine gate_dst (N := 36) rfl ?_); refine gL (some 36) Try.func18 #[.agg #[.int .i64 t66, .slice A71 t67.length c72], .agg #[.int .i64 t30, .slice A35 t31.length c36]] ?_; refine (laws_eqBuild.calls k t66 _ _ t67 t30 _ _ t31 true _ (rowC (Sep.p1 HS.out)) (rowL (Sep.p1 HS.out)) (rowC (Sep.p6 HS.out)) (rowL (Sep.p6 HS.out)) A80.out).mono ?_; rintro e w81 ⟨rfl, hb⟩; refine ⟨_, rfl, ?_⟩; replace HS := aM (HS.out.below hb); replace HB := aM (below_step HB.out hb); clear hb; (simp only [Act.put, List.setIfInBounds_toArray, List.set_cons_zero, List.set_cons_succ])))
 replace HS := aM (HS.out.below (bd1 rfl))
 replace HB := aM (below_step HB.out (bd1 rfl))
 refine start_ (n := 5) (S := fun w' => w'.cell? ⟨g53, 0, none⟩ = some (.int .i64 t43) ∧ w'.cell? ⟨g53, 1, none⟩ = some (.int .i64 t44) ∧ w'.cell? ⟨g53, 2, none⟩ = some (.int .i64 t45) ∧ w'.cell? ⟨g53, 3, none⟩ = some (.slice A50 t46.length c51) ∧ w'.cell? ⟨g1, 0, none⟩ = some (.int .i64 ad) ∧ w'.cell? ⟨g1, 1, none⟩ = some (.int .i64 ac) ∧ w'.cell? ⟨g1, 2, none⟩ = some (.int .i64 ab) ∧ w'.cell? ⟨g1, 3, none⟩ = some (.slice af aa.length ag)) (ds := []) (Array.replicate 5 false) (by kernel_rfl) rfl rfl ⟨(blk_cell (blkP (Sep.p3 HS.out)) 0).trans rfl, (blk_cell (blkP (Sep.p3 HS.out)) 1).trans rfl, (blk_cell (blkP (Sep.p3 HS.out)) 2).trans rfl, (blk_cell (blkP (Sep.p3 HS.out)) 3).trans rfl, (blk_cell (blkP (Sep.p9 HS.out)) 0).trans rfl, (blk_cell (blkP (Sep.p9 HS.out)) 1).trans rfl, (blk_cell (blkP (Sep.p9 HS.out)) 2).trans rfl, (blk_cell (blkP (Sep.p9 HS.out)) 3).trans rfl⟩ (fun hHeld => ?_)
 generalize hw_ : World.drew _ = w82 at HS HB hHeld ⊢
 clear hw_
 refine pT 0 (some 38) ?_
 refine pT 1 (some 39) ?_
 refine pO 2 (some 40) (fun K hK => ?_)
 refine gG Try.func14 #[.agg #[.int .i64 ad, .int .i64 ac, .int .i64 ab, .slice af aa.length ag]] ?_
 refine (laws_toManifest.calls k ad ac ab _ _ aa t84 t85 t86 t87 _ (Kd.C_below ae.out.1 HB.out) ae.out.2 A88.out).mono ?_
 rintro e w89 ⟨v90, rfl, ho0, hb⟩; refine ⟨_, rfl, ?_⟩
 obtain ⟨A91, c92, hz⟩ := Kd.R_slice ho0; subst hz
 replace HS := aM (Sep.row HS.out hb HB.out.size ho0)
 replace HB := aM (below_step HB.out hb)
 clear ho0 hb
 refine hK.out _ _ ⟨(blk_cell (blkP (Sep.p4 HS.out)) 0).trans rfl, (blk_cell (blkP (Sep.p4 HS.out)) 1).trans rfl, (blk_cell (blkP (Sep.p4 HS.out)) 2).trans rfl, (blk_cell (blkP (Sep.p4 HS.out)) 3).trans rfl, (blk_cell (blkP (Sep.p10 HS.out)) 0).trans rfl, (blk_cell (blkP (Sep.p10 HS.out)) 1).trans rfl, (blk_cell (blkP (Sep.p10 HS.out)) 2).trans rfl, (blk_cell (blkP (Sep.p10 HS.out)) 3).trans rfl⟩ (fun hHeld => ?_)
 clear hK K
 refine nR ?_
 refine pO 3 (some 41) (fun K hK => ?_)
 refine gG Try.func17 #[.agg #[.int .i64 t43, .int .i64 t44, .int .i64 t45, .slice A50 t46.length c51], .agg #[.int .i64 t84, .int .i64 t85, .int .i64 t86, .slice A91 t87.length c92]] ?_
 refine (laws_eqManifest.calls k t43 t44 t45 _ _ t46 t84 t85 t86 _ _ t87 true _ (rowC (Sep.p5 HS.out)) (rowL (Sep.p5 HS.out)) (rowC (Sep.p0 HS.out)) (rowL (Sep.p0 HS.out)) A96.out).mono ?_
 rintro e w97 ⟨rfl, hb⟩; refine ⟨_, rfl, ?_⟩
 replace HS := aM (HS.out.below hb)
 replace HB := aM (below_step HB.out hb)
 clear hb
 refine hK.out _ _ ⟨(blk_cell (blkP (Sep.p4 HS.out)) 0).trans rfl, (blk_cell (blkP (Sep.p4 HS.out)) 1).trans rfl, (blk_cell (blkP (Sep.p4 HS.out)) 2).trans rfl, (blk_cell (blkP (Sep.p4 HS.out)) 3).trans rfl, (blk_cell (blkP (Sep.p10 HS.out)) 0).trans rfl, (blk_cell (blkP (Sep.p10 HS.out)) 1).trans rfl, (blk_cell (blkP (Sep.p10 HS.out)) 2).trans rfl, (blk_cell (blkP (Sep.p10 HS.out)) 3).trans rfl⟩ (fun hHeld => ?_)
 clear hK K
 refine nR ?_
 refine pP 4 (some 42) ?_
 refine done_ (by kernel_rfl) ?_
 replace h := bE h; obtain ⟨t99, A100, h⟩ := h
 replace h := bE h; obtain ⟨t107, A108, h⟩ := h
 replace h := ifN h; obtain ⟨hq, h⟩ := h
 subst hq
 replace h := bE h; obtain ⟨⟨t111, t112⟩, A113, h⟩ := h
 dsimp only at h
 replace h := bE h; obtain ⟨⟨t116, t117⟩, A118, h⟩ := h
 dsimp only at h
 replace h := ifM h; obtain ⟨c120, h⟩ := h
 have c120b : decide (t116 < 0) = false := decide_eq_false c120
 clear c120
 replace h := bE h; obtain ⟨t122, A123, h⟩ := h
 replace h := ifN h; obtain ⟨hq, h⟩ := h
 subst hq
 replace h := bE h; obtain ⟨⟨t126, t127⟩, A128, h⟩ := h
 dsimp only at h
 replace h := bE h; obtain ⟨t131, A132, h⟩ := h
 replace h := ifM h; obtain ⟨c134, h⟩ := h
 have c134b : decide (t131 < 0) = false := decide_eq_false c134
 clear c134
 replace h := ifN h; obtain ⟨c135, h⟩ := h
 have c135b : (t131 != t126) = false := bne_eq_false_iff_eq.mpr c135
 clear c135
 replace h := bE h; obtain ⟨⟨t137, t138, t139, t140⟩, A141, h⟩ := h
 dsimp only at h
 replace h := bE h; obtain ⟨t148, A149, h⟩ := h
 replace h := bE h; obtain ⟨⟨t156, t157⟩, A158, h⟩ := h
 dsimp only at h
 replace h := bE h; obtain ⟨t169, A170, h⟩ := h
 replace h := ifN h; obtain ⟨hq, h⟩ := h
 subst hq
 replace h := bE h; obtain ⟨t173, A174, h⟩ := h
 replace h := ifM h; obtain ⟨c176, h⟩ := h
 have c176b : decide (t173 < 0) = false := decide_eq_false c176
 clear c176
 replace h := ifN h; obtain ⟨c177, h⟩ := h
 have c177b : (t173 != t126) = false := bne_eq_false_iff_eq.mpr c177
 clear c177
 go_wp2_with (first | ((with_reducible refine gate_callee (f := 25) rfl ?_); (with_reducible refine gate_dst (N := 45) rfl ?_); refine gL (some 45) Try.func25 #[.slice A1 l1.length c1] ?_; refine (laws_toByteS.calls k _ _ l1 t99 _ (Kd.C_below HR1.out.1 HB.out) HR1.out.2 A100.out).mono ?_; rintro e w101 ⟨v102, rfl, ho0, hb⟩; refine ⟨_, rfl, ?_⟩; obtain ⟨A103, c104, hz⟩ := Kd.R_slice ho0; subst hz; replace HS := aM (Sep.row HS.out hb HB.out.size ho0); replace HB := aM (below_step HB.out hb); clear ho0 hb; (simp only [Act.put, List.setIfInBounds_toArray, List.set_cons_zero, List.set_cons_succ])) | ((with_reducible refine gate_callee (f := 27) rfl ?_); (with_reducible refine gate_dst (N := 46) rfl ?_); refine gL (some 46) Try.func27 #[.slice A62 t58.length c63, .slice A103 t99.length c104] ?_; refine (laws_eqByteS.calls k _ _ t58 _ _ t99 true _ (rowC (Sep.p4 HS.out)) (rowL (Sep.p4 HS.out)) (rowC (Sep.p0 HS.out)) (rowL (Sep.p0 HS.out)) A108.out).mono ?_; rintro e w109 ⟨rfl, hd⟩; have hb := hd.below; clear hd; refine ⟨_, rfl, ?_⟩; replace HS := aM (HS.out.below hb); replace HB := aM (below_step HB.out hb); clear hb; (simp only [Act.put, List.setIfInBounds_toArray, List.set_cons_zero, List.set_cons_succ])) | ((with_reducible refine gate_dst (N := 48) rfl ?_); refine gLd 48 (blkP (Sep.p5 HS.out)) ?_; (simp only [Act.put, List.setIfInBounds_toArray, List.set_cons_zero, List.set_cons_succ])) | ((with_reducible refine gate_callee (f := 21) rfl ?_); (with_reducible refine gate_dst (N := 50) rfl ?_); refine gL (some 50) Try.func21 #[.agg #[.int .i64 t43, .int .i64 t44, .int .i64 t45, .slice A50 t46.length c51], .int .i64 1] ?_; replace HS := aM (Sep.f6 HS.out); refine (laws_markManifest.calls k t43 t44 t45 _ _ t46 1 t111 t112 w _ HB.out (Sep.p0 HS.out) A113.out).mono ?_; rintro e w114 ⟨rfl, hd, hb, hk⟩; refine ⟨_, rfl, ?_⟩; replace HS := aM (Sep.put HS.out (KeptR.of_kept hk (fun _ q => q)) (iRow k72 72 _ _ _ _ t112) rfl rfl (Kd.R_reok rfl hd (fun k e => (Sep.p0 HS.out).1 k e))); replace HB := aM hb; have e0 := (Kd.R_reads' hd).1; clear hd hb hk; simp only [e0] at HS ⊢; clear e0; (simp only [Act.put, List.setIfInBounds_toArray, List.set_cons_zero, List.set_cons_succ])) | ((with_reducible refine gate_callee (f := 34) rfl ?_); (with_reducible refine gate_dst (N := 53) rfl ?_); refine gL (some 53) Try.func34 #[.slice A62 t58.length c63, .int .i64 t111] ?_; replace HS := aM (Sep.f5 HS.out); refine (laws_markByteS.calls k _ _ t58 t111 t116 t117 w _ HB.out (Sep.p0 HS.out) A118.out).mono ?_; rintro e w119 ⟨rfl, hd, hb, hk⟩; refine ⟨_, rfl, ?_⟩; replace HS := aM (Sep.put HS.out (KeptR.of_kept hk (fun _ q => q)) (iRow (Kd.int .u8) 5 _ _ _ _ t117) rfl rfl (Kd.R_reok rfl hd (fun k e => (Sep.p0 HS.out).1 k e))); replace HB := aM hb; have e0 := (Kd.R_reads' hd).1; clear hd hb hk; simp only [e0] at HS ⊢; clear e0; (simp only [Act.put, List.setIfInBounds_toArray, List.set_cons_zero, List.set_cons_succ])) | ((with_reducible refine gate_dst (N := 57) rfl ?_); refine gGd rfl ?_; refine gLd 57 (blkP (Sep.p4 HS.out)) ?_; (simp only [Act.put, List.setIfInBounds_toArray, List.set_cons_zero, List.set_cons_succ])) | ((with_reducible refine gate_dst (N := 58) rfl ?_); refine gGd rfl ?_; refine gLd 58 (blkP (Sep.p7 HS.out)) ?_; (simp only [Act.put, List.setIfInBounds_toArray, List.set_cons_zero, List.set_cons_succ])) | ((with_reducible refine gate_callee (f := 18) rfl ?_); (with_reducible refine gate_dst (N := 59) rfl ?_); refine gGd rfl ?_; refine gL (some 59) Try.func18 #[.agg #[.int .i64 t66, .slice A71 t67.length c72], .agg #[.int .i64 t30, .slice A35 t31.length c36]] ?_; refine (laws_eqBuild.calls k t66 _ _ t67 t30 _ _ t31 true _ (rowC (Sep.p5 HS.out)) (rowL (Sep.p5 HS.out)) (rowC (Sep.p8 HS.out)) (rowL (Sep.p8 HS.out)) A123.out).mono ?_; rintro e w124 ⟨rfl, hb⟩; refine ⟨_, rfl, ?_⟩; replace HS := aM (HS.out.below hb); replace HB := aM (below_step HB.out hb); clear hb; (simp only [Act.put, List.setIfInBounds_toArray, List.set_cons_zero, List.set_cons_succ])) | ((with_reducible refine gate_dst (N := 62) rfl ?_); refine gLd 62 (blkP (Sep.p4 HS.out)) ?_; (simp only [Act.put, List.setIfInBounds_toArray, List.set_cons_zero, List.set_cons_succ])) | ((with_reducible refine gate_callee (f := 22) rfl ?_); (with_reducible refine gate_dst (N := 64) rfl ?_); refine gL (some 64) Try.func22 #[.agg #[.int .i64 t66, .slice A71 t67.length c72], .int .i64 1] ?_; replace HS := aM (Sep.f5 HS.out); refine (laws_markBuild.calls k t66 _ _ t67 1 t126 t127 w _ HB.out (Sep.p0 HS.out) A128.out).mono ?_; rintro e w129 ⟨rfl, hd, hb, hk⟩; refine ⟨_, rfl, ?_⟩; replace HS := aM (Sep.put HS.out (KeptR.of_kept hk (fun _ q => q)) (iRow (Kd.int .u8) 5 _ _ _ _ t127) rfl rfl (Kd.R_reok rfl hd (fun k e => (Sep.p0 HS.out).1 k e))); replace HB := aM hb; have e0 := (Kd.R_reads' hd).1; clear hd hb hk; simp only [e0] at HS ⊢; clear e0; (simp only [Act.put, List.setIfInBounds_toArray, List.set_cons_zero, List.set_cons_succ])) | ((with_reducible refine gate_dst (N := 65) rfl ?_); refine gLd 65 (blkP (Sep.p5 HS.out)) ?_; (simp only [Act.put, List.setIfInBounds_toArray, List.set_cons_zero, List.set_cons_succ])) | ((with_reducible refine gate_callee (f := 23) rfl ?_); (with_reducible refine gate_dst (N := 67) rfl ?_); refine gL (some 67) Try.func23 #[.agg #[.int .i64 t66, .slice A71 t127.length c72], .int .i64 1] ?_; refine (laws_heldBuild.calls k t66 _ _ t127 1 t131 _ (rowC (Sep.p0 HS.out)) (rowL (Sep.p0 HS.out)) A132.out).mono ?_; rintro e w133 ⟨rfl, hb⟩; refine ⟨_, rfl, ?_⟩; replace HS := aM (HS.out.below hb); replace HB := aM (below_step HB.out hb); clear hb; (simp only [Act.put, List.setIfInBounds_toArray, List.set_cons_zero, List.set_cons_succ])) | ((with_reducible refine gate_dst (N := 73) rfl ?_); refine gLd 73 (blkP (Sep.p11 HS.out)) ?_; (simp only [Act.put, List.setIfInBounds_toArray, List.set_cons_zero, List.set_cons_succ])) | ((with_reducible refine gate_callee (f := 14) rfl ?_); (with_reducible refine gate_dst (N := 74) rfl ?_); refine gL (some 74) Try.func14 #[.agg #[.int .i64 ad, .int .i64 ac, .int .i64 ab, .slice af aa.length ag]] ?_; refine (laws_toManifest.calls k ad ac ab _ _ aa t137 t138 t139 t140 _ (Kd.C_below ae.out.1 HB.out) ae.out.2 A141.out).mono ?_; rintro e w142 ⟨v143, rfl, ho0, hb⟩; refine ⟨_, rfl, ?_⟩; obtain ⟨A144, c145, hz⟩ := Kd.R_slice ho0; subst hz; replace HS := aM (Sep.row HS.out hb HB.out.size ho0); replace HB := aM (below_step HB.out hb); clear ho0 hb; (simp only [Act.put, List.setIfInBounds_toArray, List.set_cons_zero, List.set_cons_succ])) | ((with_reducible refine gate_callee (f := 25) rfl ?_); (with_reducible refine gate_dst (N := 76) rfl ?_); refine gL (some 76) Try.func25 #[.slice A1 l1.length c1] ?_; refine (laws_toByteS.calls k _ _ l1 t148 _ (Kd.C_below HR1.out.1 HB.out) HR1.out.2 A149.out).mono ?_; rintro e w150 ⟨v151, rfl, ho0, hb⟩; refine ⟨_, rfl, ?_⟩; obtain ⟨A152, c153, hz⟩ := Kd.R_slice ho0; subst hz; replace HS := aM (Sep.row HS.out hb HB.out.size ho0); replace HB := aM (below_step HB.out hb); clear ho0 hb; (simp only [Act.put, List.setIfInBounds_toArray, List.set_cons_zero, List.set_cons_succ])) | ((with_reducible refine gate_callee (f := 39) rfl ?_); (with_reducible refine gate_dst (N := 77) rfl ?_); refine gL (some 77) Try.func39 #[.agg #[.int .i64 t137, .int .i64 t138, .int .i64 t139, .slice A144 t140.length c145], .slice A152 t148.length c153] ?_; refine (impl_BuildFrom.calls k t137 t138 t139 _ _ t140 _ _ t148 t156 t157 _ (rowC (Sep.p1 HS.out)) (rowL (Sep.p1 HS.out)) (rowC (Sep.p0 HS.out)) (rowL (Sep.p0 HS.out)) A158.out).mono ?_; rintro e w159 ⟨v160, rfl, ho0, hb⟩; refine ⟨_, rfl, ?_⟩; obtain ⟨A161, c162, hz⟩ := Kd.R_slice ho0; subst hz; replace HS := aM (Sep.row HS.out hb HB.out.size ho0); replace HB := aM (below_step HB.out hb); clear ho0 hb; (simp only [Act.put, List.setIfInBounds_toArray, List.set_cons_zero, List.set_cons_succ])) | ((with_reducible refine gate_dst (N := 13) rfl ?_); refine gBx 13 #[.int .i64 0, .slice none 0 0] 35 ?_; intro g164 hg w165 hbox hb; replace HS := aM (Sep.blk HS.out hb HB.out.size hg hbox); replace HB := aM (below_step HB.out hb); clear hb hbox hg; (simp only [Act.put, List.setIfInBounds_toArray, List.set_cons_zero, List.set_cons_succ])) | ((with_reducible refine gate_store (t := 35) (p := 13) rfl ?_); refine gSt [.int .i64 t156, .slice A161 t157.length c162] #[.int .i64 t156, .slice A161 t157.length c162] (blkP (Sep.p0 HS.out)) ?_; intro w167 hw hbox; replace HB := aM (hw.below HB.out (Sep.r0 HS.out).1); replace HS := aM (Sep.wr HS.out hw hbox); clear hw hbox) | ((with_reducible refine gate_dst (N := 78) rfl ?_); refine gLd 78 (blkP (Sep.p0 HS.out)) ?_; (simp only [Act.put, List.setIfInBounds_toArray, List.set_cons_zero, List.set_cons_succ])) | ((with_reducible refine gate_dst (N := 79) rfl ?_); refine gLd 79 (blkP (Sep.p11 HS.out)) ?_; (simp only [Act.put, List.setIfInBounds_toArray, List.set_cons_zero, List.set_cons_succ])) | ((with_reducible refine gate_callee (f := 18) rfl ?_); (with_reducible refine gate_dst (N := 80) rfl ?_); refine gL (some 80) Try.func18 #[.agg #[.int .i64 t156, .slice A161 t157.length c162], .agg #[.int .i64 t30, .slice A35 t31.length c36]] ?_; refine (laws_eqBuild.calls k t156 _ _ t157 t30 _ _ t31 true _ (rowC (Sep.p1 HS.out)) (rowL (Sep.p1 HS.out)) (rowC (Sep.p12 HS.out)) (rowL (Sep.p12 HS.out)) A170.out).mono ?_; rintro e w171 ⟨rfl, hb⟩; refine ⟨_, rfl, ?_⟩; replace HS := aM (HS.out.below hb); replace HB := aM (below_step HB.out hb); clear hb; (simp only [Act.put, List.setIfInBounds_toArray, List.set_cons_zero, List.set_cons_succ])) | ((with_reducible refine gate_dst (N := 82) rfl ?_); refine gLd 82 (blkP (Sep.p9 HS.out)) ?_; (simp only [Act.put, List.setIfInBounds_toArray, List.set_cons_zero, List.set_cons_succ])) | ((with_reducible refine gate_callee (f := 23) rfl ?_); (with_reducible refine gate_dst (N := 84) rfl ?_); refine gL (some 84) Try.func23 #[.agg #[.int .i64 t66, .slice A71 t127.length c72], .int .i64 1] ?_; refine (laws_heldBuild.calls k t66 _ _ t127 1 t173 _ (rowC (Sep.p4 HS.out)) (rowL (Sep.p4 HS.out)) A174.out).mono ?_; rintro e w175 ⟨rfl, hb⟩; refine ⟨_, rfl, ?_⟩; replace HS := aM (HS.out.below hb); replace HB := aM (below_step HB.out hb); clear hb; (simp only [Act.put, List.setIfInBounds_toArray, List.set_cons_zero, List.set_cons_succ])))
 obtain rfl := Option.some.inj h
 (try go_wp2)
 go_ret
 exact ⟨rfl, HB.out⟩

end Go.Proofs.Ytnoplippaiblcaa.Q
