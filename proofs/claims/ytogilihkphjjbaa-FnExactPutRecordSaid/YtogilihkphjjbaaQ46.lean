/- Functions of the program as plain Lean functions, and that a call of each comes to what its function tells. Written by a program of this seat. -/
import Derived.Test.YtogilihkphjjbaaQ0
import Derived.Test.YtogilihkphjjbaaQ2
import Derived.Test.YtogilihkphjjbaaQ6
import Derived.Test.YtogilihkphjjbaaQ7
import Derived.Test.YtogilihkphjjbaaQ14
import Derived.Test.YtogilihkphjjbaaQ15
import Derived.Test.YtogilihkphjjbaaQ17
import Derived.Test.YtogilihkphjjbaaQ43
import Derived.Test.YtogilihkphjjbaaQ45
namespace Go.Proofs.Ytogilihkphjjbaa.Q
open Go.RowKit Go.Proofs.YtogilihkphjjbaaW.PrintWords Go.Proofs.YtogilihkphjjbaaW.PrintLast Go.Proofs.YtogilihkphjjbaaW.PrintMore
attribute [local go_sem] max2_int min2_int max_two min_two max_three min_three max_four min_four   -- for this text's walks alone
set_option linter.unusedVariables false
set_option linter.unusedSimpArgs false

/-! ### laws_FnExactPutRecord: function 10 -/
def laws_FnExactPutRecord.f (k : Nat) (l0_0 : List Int) (l0_1 : List Int) (a0_2 : Int) (a0_3 : Int) (a0_4 : Int) (l0_5 : List (S51)) (a1_0 : Int) (a1_1 : Int) (a1_2 : Int) : Option Bool := ((laws_szDisk.f k l0_0 l0_1 a0_2 a0_3 a0_4 l0_5 1048576).bind fun b7 => (if b7 < 0 then some true else ((laws_toDisk.f k l0_0 l0_1 a0_2 a0_3 a0_4 l0_5).bind fun b13 => ((laws_toRecord.f a1_0 a1_1 a1_2).bind fun b73 => ((spec_PutRecord.f k b13.1 b13.2.1 b13.2.2.1 b13.2.2.2.1 b13.2.2.2.2.1 b13.2.2.2.2.2 b73.1 b73.2.1 b73.2.2).bind fun b133 => ((laws_toDisk.f k l0_0 l0_1 a0_2 a0_3 a0_4 l0_5).bind fun b316 => ((laws_toRecord.f a1_0 a1_1 a1_2).bind fun b340 => ((impl_PutRecord.f k b316.1 b316.2.1 b316.2.2.1 b316.2.2.2.1 b316.2.2.2.2.1 b316.2.2.2.2.2 b340.1 b340.2.1 b340.2.2).bind fun b400 => ((laws_eqDisk.f k b400.1 b400.2.1 b400.2.2.1 b400.2.2.2.1 b400.2.2.2.2.1 b400.2.2.2.2.2.1 b133.1 b133.2.1 b133.2.2.1 b133.2.2.2.1 b133.2.2.2.2.1 b133.2.2.2.2.2.1).bind fun b583 => (if b583 = true then (if b400.2.2.2.2.2.2 = b133.2.2.2.2.2.2 then ((laws_toDisk.f k l0_0 l0_1 a0_2 a0_3 a0_4 l0_5).bind fun b589 => ((laws_eqDisk.f k b316.1 b316.2.1 b316.2.2.1 b316.2.2.2.1 b316.2.2.2.2.1 b316.2.2.2.2.2 b589.1 b589.2.1 b589.2.2.1 b589.2.2.2.1 b589.2.2.2.2.1 b589.2.2.2.2.2).bind fun b608 => (if b608 = true then ((laws_markDisk.f k b316.1 b316.2.1 b316.2.2.1 b316.2.2.2.1 b316.2.2.2.2.1 b316.2.2.2.2.2 1).bind fun b612 => (if b612.1 < 0 then none else ((laws_eqDisk.f k b400.1 b400.2.1 b400.2.2.1 b400.2.2.2.1 b400.2.2.2.2.1 b400.2.2.2.2.2.1 b133.1 b133.2.1 b133.2.2.1 b133.2.2.2.1 b133.2.2.2.2.1 b133.2.2.2.2.2.1).bind fun b620 => (if b620 = true then (if b400.2.2.2.2.2.2 = b133.2.2.2.2.2.2 then ((laws_markDisk.f k b400.1 b400.2.1 b400.2.2.1 b400.2.2.2.1 b400.2.2.2.2.1 b400.2.2.2.2.2.1 1).bind fun b625 => ((laws_heldDisk.f k b625.2.1 b625.2.2.1 b400.2.2.1 b400.2.2.2.1 b400.2.2.2.2.1 b625.2.2.2 1).bind fun b632 => (if b632 < 0 then none else (if b632 = b625.1 then ((laws_toDisk.f k l0_0 l0_1 a0_2 a0_3 a0_4 l0_5).bind fun b639 => ((laws_toRecord.f a1_0 a1_1 a1_2).bind fun b699 => ((impl_PutRecord.f k b639.1 b639.2.1 b639.2.2.1 b639.2.2.2.1 b639.2.2.2.2.1 b639.2.2.2.2.2 b699.1 b699.2.1 b699.2.2).bind fun b759 => ((laws_eqDisk.f k b759.1 b759.2.1 b759.2.2.1 b759.2.2.2.1 b759.2.2.2.2.1 b759.2.2.2.2.2.1 b133.1 b133.2.1 b133.2.2.1 b133.2.2.2.1 b133.2.2.2.2.1 b133.2.2.2.2.2.1).bind fun b942 => (if b942 = true then (if b759.2.2.2.2.2.2 = b133.2.2.2.2.2.2 then ((laws_heldDisk.f k b625.2.1 b625.2.2.1 b400.2.2.1 b400.2.2.2.1 b400.2.2.2.2.1 b625.2.2.2 1).bind fun b947 => (if b947 < 0 then none else (if b947 = b625.1 then (some true) else none))) else none) else none))))) else none)))) else none) else none)))) else none))) else none) else none))))))))))
set_option maxHeartbeats 40000000 in
set_option maxRecDepth 100000 in
theorem laws_FnExactPutRecord.calls (k : Nat) (A0_0 : Option Addr) (c0_0 : Nat) (l0_0 : List Int) (A0_1 : Option Addr) (c0_1 : Nat) (l0_1 : List Int) (a0_2 : Int) (a0_3 : Int) (a0_4 : Int) (A0_5 : Option Addr) (c0_5 : Nat) (l0_5 : List (S51)) (a1_0 : Int) (a1_1 : Int) (a1_2 : Int) (r : Bool) (w : World) (hr0_0 : Kd.C (Kd.int .u8) w A0_0 l0_0.length l0_0) (hc0_0 : l0_0.length ≤ c0_0) (hr0_1 : Kd.C (Kd.int .u8) w A0_1 l0_1.length l0_1) (hc0_1 : l0_1.length ≤ c0_1) (hr0_5 : Kd.C k51 w A0_5 l0_5.length l0_5) (hc0_5 : l0_5.length ≤ c0_5) (h : laws_FnExactPutRecord.f k l0_0 l0_1 a0_2 a0_3 a0_4 l0_5 a1_0 a1_1 a1_2 = some r) :
    Calls Try.prog 10 #[.agg #[.slice A0_0 l0_0.length c0_0, .slice A0_1 l0_1.length c0_1, .int .i64 a0_2, .int .i64 a0_3, .int .i64 a0_4, .slice A0_5 l0_5.length c0_5], .agg #[.int .i64 a1_0, .int .i64 a1_1, .int .i64 a1_2]] w fun e w' => e = .returned (.bool r) ∧ Below w.heap.size w w' := by
  have hu24 := Try.underlying24
  have hu27 := Try.underlying27
  have hu33 := Try.underlying33
  have HR0_0 := aM (And.intro hr0_0 hc0_0)
  have HR0_1 := aM (And.intro hr0_1 hc0_1)
  have HR0_5 := aM (And.intro hr0_5 hc0_5)
  clear hr0_0 hc0_0 hr0_1 hc0_1 hr0_5 hc0_5
  have HB := aM (Below.refl w.heap.size w)
  have HS := aM (show Sep w.heap.size w [] from trivial)
  unfold laws_FnExactPutRecord.f at h
  go_enter Try.func10, Try.ntmps10
  replace h := bE h; obtain ⟨t8, A9, h⟩ := h
  go_wp2_with (first | ((with_reducible refine gate_dst (N := 2) rfl ?_); refine gBx 2 #[.slice A0_0 l0_0.length c0_0, .slice A0_1 l0_1.length c0_1, .int .i64 a0_2, .int .i64 a0_3, .int .i64 a0_4, .slice A0_5 l0_5.length c0_5] 27 ?_; intro g1 hg w2 hbox hb; replace HS := aM (Sep.blk HS.out hb HB.out.size hg hbox); replace HB := aM (below_step HB.out hb); clear hb hbox hg; (simp only [Act.put, List.setIfInBounds_toArray, List.set_cons_zero, List.set_cons_succ])) | ((with_reducible refine gate_dst (N := 3) rfl ?_); refine gBx 3 #[.int .i64 a1_0, .int .i64 a1_1, .int .i64 a1_2] 24 ?_; intro g4 hg w5 hbox hb; replace HS := aM (Sep.blk HS.out hb HB.out.size hg hbox); replace HB := aM (below_step HB.out hb); clear hb hbox hg; (simp only [Act.put, List.setIfInBounds_toArray, List.set_cons_zero, List.set_cons_succ])) | ((with_reducible refine gate_dst (N := 16) rfl ?_); refine gLd 16 (blkP (Sep.p1 HS.out)) ?_; (simp only [Act.put, List.setIfInBounds_toArray, List.set_cons_zero, List.set_cons_succ])) | ((with_reducible refine gate_callee (f := 15) rfl ?_); (with_reducible refine gate_dst (N := 18) rfl ?_); refine gL (some 18) Try.func15 #[.agg #[.slice A0_0 l0_0.length c0_0, .slice A0_1 l0_1.length c0_1, .int .i64 a0_2, .int .i64 a0_3, .int .i64 a0_4, .slice A0_5 l0_5.length c0_5], .int .i64 1048576] ?_; refine (laws_szDisk.calls k _ _ l0_0 _ _ l0_1 a0_2 a0_3 a0_4 _ _ l0_5 1048576 t8 _ (Kd.C_below HR0_0.out.1 HB.out) HR0_0.out.2 (Kd.C_below HR0_1.out.1 HB.out) HR0_1.out.2 (Kd.C_below HR0_5.out.1 HB.out) HR0_5.out.2 A9.out).mono ?_; rintro e w10 ⟨rfl, hb⟩; refine ⟨_, rfl, ?_⟩; replace HS := aM (HS.out.below hb); replace HB := aM (below_step HB.out hb); clear hb; (simp only [Act.put, List.setIfInBounds_toArray, List.set_cons_zero, List.set_cons_succ])) | ((with_reducible refine gate_dst (N := 20) rfl ?_); generalize hG_ : wpList _ _ _ _ _ _ = G_))
  subst hG_
  by_cases c11 : t8 < 0
  · rw [if_pos c11] at h
    have c11b0 : decide (t8 < 0) = true := decide_eq_true c11
    obtain rfl := Option.some.inj h
    clear h c11
    go_wp2
    go_ret
    exact ⟨rfl, HB.out⟩
  rw [if_neg c11] at h
  have c11b0 : decide (t8 < 0) = false := decide_eq_false c11
  clear c11
  replace h := bE h; obtain ⟨⟨t14, t15, t16, t17, t18, t19⟩, A20, h⟩ := h
  dsimp only at h
  replace h := bE h; obtain ⟨⟨t74, t75, t76⟩, A77, h⟩ := h
  dsimp only at h
  replace h := bE h; obtain ⟨⟨t134, t135, t136, t137, t138, t139, t140⟩, A141, h⟩ := h
  dsimp only at h
  go_wp2_with (first | fail)
  replace HS := aM (HS.out.below (bd1 rfl))
  replace HB := aM (below_step HB.out (bd1 rfl))
  refine start_ (n := 11) (S := fun w' => w'.cell? ⟨g1, 0, none⟩ = some (.slice A0_0 l0_0.length c0_0) ∧ w'.cell? ⟨g1, 1, none⟩ = some (.slice A0_1 l0_1.length c0_1) ∧ w'.cell? ⟨g1, 2, none⟩ = some (.int .i64 a0_2) ∧ w'.cell? ⟨g1, 3, none⟩ = some (.int .i64 a0_3) ∧ w'.cell? ⟨g1, 4, none⟩ = some (.int .i64 a0_4) ∧ w'.cell? ⟨g1, 5, none⟩ = some (.slice A0_5 l0_5.length c0_5) ∧ w'.cell? ⟨g4, 0, none⟩ = some (.int .i64 a1_0) ∧ w'.cell? ⟨g4, 1, none⟩ = some (.int .i64 a1_1) ∧ w'.cell? ⟨g4, 2, none⟩ = some (.int .i64 a1_2)) (ds := []) (Array.replicate 11 false) (by kernel_rfl) rfl rfl ⟨(blk_cell (blkP (Sep.p1 HS.out)) 0).trans rfl, (blk_cell (blkP (Sep.p1 HS.out)) 1).trans rfl, (blk_cell (blkP (Sep.p1 HS.out)) 2).trans rfl, (blk_cell (blkP (Sep.p1 HS.out)) 3).trans rfl, (blk_cell (blkP (Sep.p1 HS.out)) 4).trans rfl, (blk_cell (blkP (Sep.p1 HS.out)) 5).trans rfl, (blk_cell (blkP (Sep.p0 HS.out)) 0).trans rfl, (blk_cell (blkP (Sep.p0 HS.out)) 1).trans rfl, (blk_cell (blkP (Sep.p0 HS.out)) 2).trans rfl⟩ (fun hHeld => ?_)
  generalize hw_ : World.drew _ = w12 at HS HB hHeld ⊢
  clear hw_
  refine pT 0 (some 22) ?_
  refine pT 2 (some 24) ?_
  refine join_ (σ := Value × Value × Value × Value × Value × Value × Value × Value) 0 (Array.replicate 11 true) (fun s => [(23, s.1), (25, s.2.1), (26, s.2.2.1), (21, s.2.2.2.1), (27, s.2.2.2.2.1), (28, s.2.2.2.2.2.1), (6, s.2.2.2.2.2.2.1), (7, s.2.2.2.2.2.2.2)]) (fun s w' => ∃ (g193 : Nat) (x313 : Nat) (y314 : Nat) (A25 : Option Addr) (c26 : Nat) (A27 : Option Addr) (c28 : Nat) (A29 : Option Addr) (c30 : Nat) (A146 : Option Addr) (c147 : Nat) (A148 : Option Addr) (c149 : Nat) (A150 : Option Addr) (c151 : Nat), s = (.agg #[.slice A25 t14.length c26, .slice A27 t15.length c28, .int .i64 t16, .int .i64 t17, .int .i64 t18, .slice A29 t19.length c30], .agg #[.int .i64 t74, .int .i64 t75, .int .i64 t76], .tuple #[.agg #[.slice A146 t134.length c147, .slice A148 t135.length c149, .int .i64 t136, .int .i64 t137, .int .i64 t138, .slice A150 t139.length c151], .bool t140], .tuple #[.agg #[.slice A146 t134.length c147, .slice A148 t135.length c149, .int .i64 t136, .int .i64 t137, .int .i64 t138, .slice A150 t139.length c151], .bool t140], .agg #[.slice A146 t134.length c147, .slice A148 t135.length c149, .int .i64 t136, .int .i64 t137, .int .i64 t138, .slice A150 t139.length c151], .bool t140, .pointer (some ⟨g193, 0, none⟩), .bool t140) ∧ Sep w.heap.size w' (iBlk g193 #[.slice A146 t134.length c147, .slice A148 t135.length c149, .int .i64 t136, .int .i64 t137, .int .i64 t138, .slice A150 t139.length c151] 33 :: iDisk w.heap.size x313 y314 (.slice A146 t134.length c147) (.slice A148 t135.length c149) (.slice A150 t139.length c151) t134 t135 t139 :: [iBlk g4 #[.int .i64 a1_0, .int .i64 a1_1, .int .i64 a1_2] 24, iBlk g1 #[.slice A0_0 l0_0.length c0_0, .slice A0_1 l0_1.length c0_1, .int .i64 a0_2, .int .i64 a0_3, .int .i64 a0_4, .slice A0_5 l0_5.length c0_5] 27]) ∧ Below w.heap.size w w') ?_ ?_
  rotate_left
  · intro hCont
    refine two_ (i := 1) (j := 8) (Ni := (some 23)) (Nj := (some 6)) #[true, true, true, false, false, false, false, false, false, false, false] #[true, false, true, false, false, false, false, false, true, false, false] rfl rfl rfl rfl (by kernel_rfl) (by decide) (by decide) (fun K hK => ?_) (fun K hK => ?_)
    · skip
      refine gG Try.func17 #[.agg #[.slice A0_0 l0_0.length c0_0, .slice A0_1 l0_1.length c0_1, .int .i64 a0_2, .int .i64 a0_3, .int .i64 a0_4, .slice A0_5 l0_5.length c0_5]] ?_
      refine (laws_toDisk.calls k _ _ l0_0 _ _ l0_1 a0_2 a0_3 a0_4 _ _ l0_5 t14 t15 t16 t17 t18 t19 _ (Kd.C_below HR0_0.out.1 HB.out) HR0_0.out.2 (Kd.C_below HR0_1.out.1 HB.out) HR0_1.out.2 (Kd.C_below HR0_5.out.1 HB.out) HR0_5.out.2 A20.out).mono ?_
      rintro e w21 ⟨v22, v23, v24, rfl, ho0, ho1, ho2, hb⟩; refine ⟨_, rfl, ?_⟩
      obtain ⟨A25, c26, hz⟩ := Kd.R_slice ho0; subst hz
      obtain ⟨A27, c28, hz⟩ := Kd.R_slice ho1; subst hz
      obtain ⟨A29, c30, hz⟩ := Kd.S_slice ho2; subst hz
      replace HS := aM (Sep.disk HS.out hb HB.out.size ho0 ho1 ho2)
      replace HB := aM (below_step HB.out hb)
      clear ho0 ho1 ho2 hb
      refine hK.out _ _ ⟨(blk_cell (blkP (Sep.p2 HS.out)) 0).trans rfl, (blk_cell (blkP (Sep.p2 HS.out)) 1).trans rfl, (blk_cell (blkP (Sep.p2 HS.out)) 2).trans rfl, (blk_cell (blkP (Sep.p2 HS.out)) 3).trans rfl, (blk_cell (blkP (Sep.p2 HS.out)) 4).trans rfl, (blk_cell (blkP (Sep.p2 HS.out)) 5).trans rfl, (blk_cell (blkP (Sep.p1 HS.out)) 0).trans rfl, (blk_cell (blkP (Sep.p1 HS.out)) 1).trans rfl, (blk_cell (blkP (Sep.p1 HS.out)) 2).trans rfl⟩ (fun hHeld => ?_)
      clear hK K
      refine nR ?_
      refine two_ (i := 3) (j := 8) (Ni := (some 25)) (Nj := (some 6)) #[true, true, true, true, false, false, false, false, false, false, false] #[true, true, true, false, false, false, false, false, true, false, false] rfl rfl rfl rfl (by kernel_rfl) (by decide) (by decide) (fun K hK => ?_) (fun K hK => ?_)
      · skip
        refine gG Try.func43 #[.agg #[.int .i64 a1_0, .int .i64 a1_1, .int .i64 a1_2]] ?_
        refine (laws_toRecord.calls a1_0 a1_1 a1_2 t74 t75 t76 _ A77.out).mono ?_
        rintro e w78 ⟨rfl, hb⟩; refine ⟨_, rfl, ?_⟩
        replace HS := aM (HS.out.below hb)
        replace HB := aM (below_step HB.out hb)
        clear hb
        refine hK.out _ _ ⟨(blk_cell (blkP (Sep.p2 HS.out)) 0).trans rfl, (blk_cell (blkP (Sep.p2 HS.out)) 1).trans rfl, (blk_cell (blkP (Sep.p2 HS.out)) 2).trans rfl, (blk_cell (blkP (Sep.p2 HS.out)) 3).trans rfl, (blk_cell (blkP (Sep.p2 HS.out)) 4).trans rfl, (blk_cell (blkP (Sep.p2 HS.out)) 5).trans rfl, (blk_cell (blkP (Sep.p1 HS.out)) 0).trans rfl, (blk_cell (blkP (Sep.p1 HS.out)) 1).trans rfl, (blk_cell (blkP (Sep.p1 HS.out)) 2).trans rfl⟩ (fun hHeld => ?_)
        clear hK K
        refine nR ?_
        refine two_ (i := 4) (j := 8) (Ni := (some 26)) (Nj := (some 6)) #[true, true, true, true, true, false, false, false, false, false, false] #[true, true, true, true, false, false, false, false, true, false, false] rfl rfl rfl rfl (by kernel_rfl) (by decide) (by decide) (fun K hK => ?_) (fun K hK => ?_)
        · skip
          refine gG Try.func42 #[.agg #[.slice A25 t14.length c26, .slice A27 t15.length c28, .int .i64 t16, .int .i64 t17, .int .i64 t18, .slice A29 t19.length c30], .agg #[.int .i64 t74, .int .i64 t75, .int .i64 t76]] ?_
          refine (spec_PutRecord.calls k _ _ t14 _ _ t15 t16 t17 t18 _ _ t19 t74 t75 t76 t134 t135 t136 t137 t138 t139 t140 _ (diskC0 (Sep.p0 HS.out)) (diskL0 (Sep.p0 HS.out)) (diskC1 (Sep.p0 HS.out)) (diskL1 (Sep.p0 HS.out)) (diskC2 (Sep.p0 HS.out)) (diskL2 (Sep.p0 HS.out)) A141.out).mono ?_
          rintro e w142 ⟨v143, v144, v145, rfl, ho0, ho1, ho2, hb⟩; refine ⟨_, rfl, ?_⟩
          obtain ⟨A146, c147, hz⟩ := Kd.R_slice ho0; subst hz
          obtain ⟨A148, c149, hz⟩ := Kd.R_slice ho1; subst hz
          obtain ⟨A150, c151, hz⟩ := Kd.S_slice ho2; subst hz
          replace HS := aM (Sep.disk HS.out hb HB.out.size ho0 ho1 ho2)
          replace HB := aM (below_step HB.out hb)
          clear ho0 ho1 ho2 hb
          refine hK.out _ _ ⟨(blk_cell (blkP (Sep.p3 HS.out)) 0).trans rfl, (blk_cell (blkP (Sep.p3 HS.out)) 1).trans rfl, (blk_cell (blkP (Sep.p3 HS.out)) 2).trans rfl, (blk_cell (blkP (Sep.p3 HS.out)) 3).trans rfl, (blk_cell (blkP (Sep.p3 HS.out)) 4).trans rfl, (blk_cell (blkP (Sep.p3 HS.out)) 5).trans rfl, (blk_cell (blkP (Sep.p2 HS.out)) 0).trans rfl, (blk_cell (blkP (Sep.p2 HS.out)) 1).trans rfl, (blk_cell (blkP (Sep.p2 HS.out)) 2).trans rfl⟩ (fun hHeld => ?_)
          clear hK K
          refine nR ?_
          refine pP 5 (some 21) ?_
          refine pP 6 (some 27) ?_
          refine pP 7 (some 28) ?_
          refine pO 8 (some 6) (fun K hK => ?_)
          refine gBxS 6 #[.slice none 0 0, .slice none 0 0, .int .i64 0, .int .i64 0, .int .i64 0, .slice none 0 0] 33 ?_
          intro g193 hg w194 hbox hb; replace HS := aM (Sep.blk HS.out hb HB.out.size hg hbox); replace HB := aM (below_step HB.out hb); clear hb hbox hg
          refine hK.out _ _ ⟨(blk_cell (blkP (Sep.p4 HS.out)) 0).trans rfl, (blk_cell (blkP (Sep.p4 HS.out)) 1).trans rfl, (blk_cell (blkP (Sep.p4 HS.out)) 2).trans rfl, (blk_cell (blkP (Sep.p4 HS.out)) 3).trans rfl, (blk_cell (blkP (Sep.p4 HS.out)) 4).trans rfl, (blk_cell (blkP (Sep.p4 HS.out)) 5).trans rfl, (blk_cell (blkP (Sep.p3 HS.out)) 0).trans rfl, (blk_cell (blkP (Sep.p3 HS.out)) 1).trans rfl, (blk_cell (blkP (Sep.p3 HS.out)) 2).trans rfl⟩ (fun hHeld => ?_)
          clear hK K
          refine nR ?_
          refine pO 9 none (fun K hK => ?_)
          refine gStS [.slice A146 t134.length c147, .slice A148 t135.length c149, .int .i64 t136, .int .i64 t137, .int .i64 t138, .slice A150 t139.length c151] #[.slice A146 t134.length c147, .slice A148 t135.length c149, .int .i64 t136, .int .i64 t137, .int .i64 t138, .slice A150 t139.length c151] (blkP (Sep.p0 HS.out)) ?_
          intro w253 hw hbox; replace HB := aM (hw.below HB.out (Sep.r0 HS.out).1); replace HS := aM (Sep.wr HS.out hw hbox); clear hw hbox
          refine hK.out _ _ ⟨(blk_cell (blkP (Sep.p4 HS.out)) 0).trans rfl, (blk_cell (blkP (Sep.p4 HS.out)) 1).trans rfl, (blk_cell (blkP (Sep.p4 HS.out)) 2).trans rfl, (blk_cell (blkP (Sep.p4 HS.out)) 3).trans rfl, (blk_cell (blkP (Sep.p4 HS.out)) 4).trans rfl, (blk_cell (blkP (Sep.p4 HS.out)) 5).trans rfl, (blk_cell (blkP (Sep.p3 HS.out)) 0).trans rfl, (blk_cell (blkP (Sep.p3 HS.out)) 1).trans rfl, (blk_cell (blkP (Sep.p3 HS.out)) 2).trans rfl⟩ (fun hHeld => ?_)
          clear hK K
          refine pP 10 (some 7) ?_
          replace HS := aM (Sep.f2 HS.out).drop
          replace HS := aM (Sep.f3 HS.out)
          replace HS := aM (Sep.f3 HS.out)
          replace HS := aM (Sep.f3 HS.out)
          replace HS := aM (Sep.f3 HS.out)
          exact norm_ (by first | (simp only [putAll, Act.put, List.setIfInBounds_toArray, List.set_cons_zero, List.set_cons_succ]; done) | (simp only [putAll, Act.put, List.setIfInBounds_toArray, List.set_cons_zero, List.set_cons_succ]; rfl)) (hCont (.agg #[.slice A25 t14.length c26, .slice A27 t15.length c28, .int .i64 t16, .int .i64 t17, .int .i64 t18, .slice A29 t19.length c30], .agg #[.int .i64 t74, .int .i64 t75, .int .i64 t76], .tuple #[.agg #[.slice A146 t134.length c147, .slice A148 t135.length c149, .int .i64 t136, .int .i64 t137, .int .i64 t138, .slice A150 t139.length c151], .bool t140], .tuple #[.agg #[.slice A146 t134.length c147, .slice A148 t135.length c149, .int .i64 t136, .int .i64 t137, .int .i64 t138, .slice A150 t139.length c151], .bool t140], .agg #[.slice A146 t134.length c147, .slice A148 t135.length c149, .int .i64 t136, .int .i64 t137, .int .i64 t138, .slice A150 t139.length c151], .bool t140, .pointer (some ⟨g193, 0, none⟩), .bool t140) _ ⟨_, _, _, _, _, _, _, _, _, _, _, _, _, _, _, rfl, HS.out, HB.out⟩)
        · skip
          refine gBxS 6 #[.slice none 0 0, .slice none 0 0, .int .i64 0, .int .i64 0, .int .i64 0, .slice none 0 0] 33 ?_
          intro g193 hg w194 hbox hb; replace HS := aM (Sep.blk HS.out hb HB.out.size hg hbox); replace HB := aM (below_step HB.out hb); clear hb hbox hg
          refine hK.out _ _ ⟨(blk_cell (blkP (Sep.p3 HS.out)) 0).trans rfl, (blk_cell (blkP (Sep.p3 HS.out)) 1).trans rfl, (blk_cell (blkP (Sep.p3 HS.out)) 2).trans rfl, (blk_cell (blkP (Sep.p3 HS.out)) 3).trans rfl, (blk_cell (blkP (Sep.p3 HS.out)) 4).trans rfl, (blk_cell (blkP (Sep.p3 HS.out)) 5).trans rfl, (blk_cell (blkP (Sep.p2 HS.out)) 0).trans rfl, (blk_cell (blkP (Sep.p2 HS.out)) 1).trans rfl, (blk_cell (blkP (Sep.p2 HS.out)) 2).trans rfl⟩ (fun hHeld => ?_)
          clear hK K
          refine nR ?_
          refine pO 4 (some 26) (fun K hK => ?_)
          refine gG Try.func42 #[.agg #[.slice A25 t14.length c26, .slice A27 t15.length c28, .int .i64 t16, .int .i64 t17, .int .i64 t18, .slice A29 t19.length c30], .agg #[.int .i64 t74, .int .i64 t75, .int .i64 t76]] ?_
          refine (spec_PutRecord.calls k _ _ t14 _ _ t15 t16 t17 t18 _ _ t19 t74 t75 t76 t134 t135 t136 t137 t138 t139 t140 _ (diskC0 (Sep.p1 HS.out)) (diskL0 (Sep.p1 HS.out)) (diskC1 (Sep.p1 HS.out)) (diskL1 (Sep.p1 HS.out)) (diskC2 (Sep.p1 HS.out)) (diskL2 (Sep.p1 HS.out)) A141.out).mono ?_
          rintro e w142 ⟨v143, v144, v145, rfl, ho0, ho1, ho2, hb⟩; refine ⟨_, rfl, ?_⟩
          obtain ⟨A146, c147, hz⟩ := Kd.R_slice ho0; subst hz
          obtain ⟨A148, c149, hz⟩ := Kd.R_slice ho1; subst hz
          obtain ⟨A150, c151, hz⟩ := Kd.S_slice ho2; subst hz
          replace HS := aM (Sep.disk HS.out hb HB.out.size ho0 ho1 ho2)
          replace HB := aM (below_step HB.out hb)
          clear ho0 ho1 ho2 hb
          refine hK.out _ _ ⟨(blk_cell (blkP (Sep.p4 HS.out)) 0).trans rfl, (blk_cell (blkP (Sep.p4 HS.out)) 1).trans rfl, (blk_cell (blkP (Sep.p4 HS.out)) 2).trans rfl, (blk_cell (blkP (Sep.p4 HS.out)) 3).trans rfl, (blk_cell (blkP (Sep.p4 HS.out)) 4).trans rfl, (blk_cell (blkP (Sep.p4 HS.out)) 5).trans rfl, (blk_cell (blkP (Sep.p3 HS.out)) 0).trans rfl, (blk_cell (blkP (Sep.p3 HS.out)) 1).trans rfl, (blk_cell (blkP (Sep.p3 HS.out)) 2).trans rfl⟩ (fun hHeld => ?_)
          clear hK K
          refine nR ?_
          refine pP 5 (some 21) ?_
          refine pP 6 (some 27) ?_
          refine pP 7 (some 28) ?_
          refine pO 9 none (fun K hK => ?_)
          replace HS := aM (Sep.f1 HS.out)
          refine gStS [.slice A146 t134.length c147, .slice A148 t135.length c149, .int .i64 t136, .int .i64 t137, .int .i64 t138, .slice A150 t139.length c151] #[.slice A146 t134.length c147, .slice A148 t135.length c149, .int .i64 t136, .int .i64 t137, .int .i64 t138, .slice A150 t139.length c151] (blkP (Sep.p0 HS.out)) ?_
          intro w253 hw hbox; replace HB := aM (hw.below HB.out (Sep.r0 HS.out).1); replace HS := aM (Sep.wr HS.out hw hbox); clear hw hbox
          refine hK.out _ _ ⟨(blk_cell (blkP (Sep.p4 HS.out)) 0).trans rfl, (blk_cell (blkP (Sep.p4 HS.out)) 1).trans rfl, (blk_cell (blkP (Sep.p4 HS.out)) 2).trans rfl, (blk_cell (blkP (Sep.p4 HS.out)) 3).trans rfl, (blk_cell (blkP (Sep.p4 HS.out)) 4).trans rfl, (blk_cell (blkP (Sep.p4 HS.out)) 5).trans rfl, (blk_cell (blkP (Sep.p3 HS.out)) 0).trans rfl, (blk_cell (blkP (Sep.p3 HS.out)) 1).trans rfl, (blk_cell (blkP (Sep.p3 HS.out)) 2).trans rfl⟩ (fun hHeld => ?_)
          clear hK K
          refine pP 10 (some 7) ?_
          replace HS := aM (Sep.f2 HS.out).drop
          replace HS := aM (Sep.f3 HS.out)
          replace HS := aM (Sep.f3 HS.out)
          replace HS := aM (Sep.f3 HS.out)
          replace HS := aM (Sep.f3 HS.out)
          exact norm_ (by first | (simp only [putAll, Act.put, List.setIfInBounds_toArray, List.set_cons_zero, List.set_cons_succ]; done) | (simp only [putAll, Act.put, List.setIfInBounds_toArray, List.set_cons_zero, List.set_cons_succ]; rfl)) (hCont (.agg #[.slice A25 t14.length c26, .slice A27 t15.length c28, .int .i64 t16, .int .i64 t17, .int .i64 t18, .slice A29 t19.length c30], .agg #[.int .i64 t74, .int .i64 t75, .int .i64 t76], .tuple #[.agg #[.slice A146 t134.length c147, .slice A148 t135.length c149, .int .i64 t136, .int .i64 t137, .int .i64 t138, .slice A150 t139.length c151], .bool t140], .tuple #[.agg #[.slice A146 t134.length c147, .slice A148 t135.length c149, .int .i64 t136, .int .i64 t137, .int .i64 t138, .slice A150 t139.length c151], .bool t140], .agg #[.slice A146 t134.length c147, .slice A148 t135.length c149, .int .i64 t136, .int .i64 t137, .int .i64 t138, .slice A150 t139.length c151], .bool t140, .pointer (some ⟨g193, 0, none⟩), .bool t140) _ ⟨_, _, _, _, _, _, _, _, _, _, _, _, _, _, _, rfl, HS.out, HB.out⟩)
      · skip
        refine gBxS 6 #[.slice none 0 0, .slice none 0 0, .int .i64 0, .int .i64 0, .int .i64 0, .slice none 0 0] 33 ?_
        intro g193 hg w194 hbox hb; replace HS := aM (Sep.blk HS.out hb HB.out.size hg hbox); replace HB := aM (below_step HB.out hb); clear hb hbox hg
        refine hK.out _ _ ⟨(blk_cell (blkP (Sep.p3 HS.out)) 0).trans rfl, (blk_cell (blkP (Sep.p3 HS.out)) 1).trans rfl, (blk_cell (blkP (Sep.p3 HS.out)) 2).trans rfl, (blk_cell (blkP (Sep.p3 HS.out)) 3).trans rfl, (blk_cell (blkP (Sep.p3 HS.out)) 4).trans rfl, (blk_cell (blkP (Sep.p3 HS.out)) 5).trans rfl, (blk_cell (blkP (Sep.p2 HS.out)) 0).trans rfl, (blk_cell (blkP (Sep.p2 HS.out)) 1).trans rfl, (blk_cell (blkP (Sep.p2 HS.out)) 2).trans rfl⟩ (fun hHeld => ?_)
        clear hK K
        refine nR ?_
        refine pO 3 (some 25) (fun K hK => ?_)
        refine gG Try.func43 #[.agg #[.int .i64 a1_0, .int .i64 a1_1, .int .i64 a1_2]] ?_
        refine (laws_toRecord.calls a1_0 a1_1 a1_2 t74 t75 t76 _ A77.out).mono ?_
        rintro e w78 ⟨rfl, hb⟩; refine ⟨_, rfl, ?_⟩
        replace HS := aM (HS.out.below hb)
        replace HB := aM (below_step HB.out hb)
        clear hb
        refine hK.out _ _ ⟨(blk_cell (blkP (Sep.p3 HS.out)) 0).trans rfl, (blk_cell (blkP (Sep.p3 HS.out)) 1).trans rfl, (blk_cell (blkP (Sep.p3 HS.out)) 2).trans rfl, (blk_cell (blkP (Sep.p3 HS.out)) 3).trans rfl, (blk_cell (blkP (Sep.p3 HS.out)) 4).trans rfl, (blk_cell (blkP (Sep.p3 HS.out)) 5).trans rfl, (blk_cell (blkP (Sep.p2 HS.out)) 0).trans rfl, (blk_cell (blkP (Sep.p2 HS.out)) 1).trans rfl, (blk_cell (blkP (Sep.p2 HS.out)) 2).trans rfl⟩ (fun hHeld => ?_)
        clear hK K
        refine nR ?_
        refine pO 4 (some 26) (fun K hK => ?_)
        refine gG Try.func42 #[.agg #[.slice A25 t14.length c26, .slice A27 t15.length c28, .int .i64 t16, .int .i64 t17, .int .i64 t18, .slice A29 t19.length c30], .agg #[.int .i64 t74, .int .i64 t75, .int .i64 t76]] ?_
        refine (spec_PutRecord.calls k _ _ t14 _ _ t15 t16 t17 t18 _ _ t19 t74 t75 t76 t134 t135 t136 t137 t138 t139 t140 _ (diskC0 (Sep.p1 HS.out)) (diskL0 (Sep.p1 HS.out)) (diskC1 (Sep.p1 HS.out)) (diskL1 (Sep.p1 HS.out)) (diskC2 (Sep.p1 HS.out)) (diskL2 (Sep.p1 HS.out)) A141.out).mono ?_
        rintro e w142 ⟨v143, v144, v145, rfl, ho0, ho1, ho2, hb⟩; refine ⟨_, rfl, ?_⟩
        obtain ⟨A146, c147, hz⟩ := Kd.R_slice ho0; subst hz
        obtain ⟨A148, c149, hz⟩ := Kd.R_slice ho1; subst hz
        obtain ⟨A150, c151, hz⟩ := Kd.S_slice ho2; subst hz
        replace HS := aM (Sep.disk HS.out hb HB.out.size ho0 ho1 ho2)
        replace HB := aM (below_step HB.out hb)
        clear ho0 ho1 ho2 hb
        refine hK.out _ _ ⟨(blk_cell (blkP (Sep.p4 HS.out)) 0).trans rfl, (blk_cell (blkP (Sep.p4 HS.out)) 1).trans rfl, (blk_cell (blkP (Sep.p4 HS.out)) 2).trans rfl, (blk_cell (blkP (Sep.p4 HS.out)) 3).trans rfl, (blk_cell (blkP (Sep.p4 HS.out)) 4).trans rfl, (blk_cell (blkP (Sep.p4 HS.out)) 5).trans rfl, (blk_cell (blkP (Sep.p3 HS.out)) 0).trans rfl, (blk_cell (blkP (Sep.p3 HS.out)) 1).trans rfl, (blk_cell (blkP (Sep.p3 HS.out)) 2).trans rfl⟩ (fun hHeld => ?_)
        clear hK K
        refine nR ?_
        refine pP 5 (some 21) ?_
        refine pP 6 (some 27) ?_
        refine pP 7 (some 28) ?_
        refine pO 9 none (fun K hK => ?_)
        replace HS := aM (Sep.f1 HS.out)
        refine gStS [.slice A146 t134.length c147, .slice A148 t135.length c149, .int .i64 t136, .int .i64 t137, .int .i64 t138, .slice A150 t139.length c151] #[.slice A146 t134.length c147, .slice A148 t135.length c149, .int .i64 t136, .int .i64 t137, .int .i64 t138, .slice A150 t139.length c151] (blkP (Sep.p0 HS.out)) ?_
        intro w253 hw hbox; replace HB := aM (hw.below HB.out (Sep.r0 HS.out).1); replace HS := aM (Sep.wr HS.out hw hbox); clear hw hbox
        refine hK.out _ _ ⟨(blk_cell (blkP (Sep.p4 HS.out)) 0).trans rfl, (blk_cell (blkP (Sep.p4 HS.out)) 1).trans rfl, (blk_cell (blkP (Sep.p4 HS.out)) 2).trans rfl, (blk_cell (blkP (Sep.p4 HS.out)) 3).trans rfl, (blk_cell (blkP (Sep.p4 HS.out)) 4).trans rfl, (blk_cell (blkP (Sep.p4 HS.out)) 5).trans rfl, (blk_cell (blkP (Sep.p3 HS.out)) 0).trans rfl, (blk_cell (blkP (Sep.p3 HS.out)) 1).trans rfl, (blk_cell (blkP (Sep.p3 HS.out)) 2).trans rfl⟩ (fun hHeld => ?_)
        clear hK K
        refine pP 10 (some 7) ?_
        replace HS := aM (Sep.f2 HS.out).drop
        replace HS := aM (Sep.f3 HS.out)
        replace HS := aM (Sep.f3 HS.out)
        replace HS := aM (Sep.f3 HS.out)
        replace HS := aM (Sep.f3 HS.out)
        exact norm_ (by first | (simp only [putAll, Act.put, List.setIfInBounds_toArray, List.set_cons_zero, List.set_cons_succ]; done) | (simp only [putAll, Act.put, List.setIfInBounds_toArray, List.set_cons_zero, List.set_cons_succ]; rfl)) (hCont (.agg #[.slice A25 t14.length c26, .slice A27 t15.length c28, .int .i64 t16, .int .i64 t17, .int .i64 t18, .slice A29 t19.length c30], .agg #[.int .i64 t74, .int .i64 t75, .int .i64 t76], .tuple #[.agg #[.slice A146 t134.length c147, .slice A148 t135.length c149, .int .i64 t136, .int .i64 t137, .int .i64 t138, .slice A150 t139.length c151], .bool t140], .tuple #[.agg #[.slice A146 t134.length c147, .slice A148 t135.length c149, .int .i64 t136, .int .i64 t137, .int .i64 t138, .slice A150 t139.length c151], .bool t140], .agg #[.slice A146 t134.length c147, .slice A148 t135.length c149, .int .i64 t136, .int .i64 t137, .int .i64 t138, .slice A150 t139.length c151], .bool t140, .pointer (some ⟨g193, 0, none⟩), .bool t140) _ ⟨_, _, _, _, _, _, _, _, _, _, _, _, _, _, _, rfl, HS.out, HB.out⟩)
    · skip
      refine gBxS 6 #[.slice none 0 0, .slice none 0 0, .int .i64 0, .int .i64 0, .int .i64 0, .slice none 0 0] 33 ?_
      intro g193 hg w194 hbox hb; replace HS := aM (Sep.blk HS.out hb HB.out.size hg hbox); replace HB := aM (below_step HB.out hb); clear hb hbox hg
      refine hK.out _ _ ⟨(blk_cell (blkP (Sep.p2 HS.out)) 0).trans rfl, (blk_cell (blkP (Sep.p2 HS.out)) 1).trans rfl, (blk_cell (blkP (Sep.p2 HS.out)) 2).trans rfl, (blk_cell (blkP (Sep.p2 HS.out)) 3).trans rfl, (blk_cell (blkP (Sep.p2 HS.out)) 4).trans rfl, (blk_cell (blkP (Sep.p2 HS.out)) 5).trans rfl, (blk_cell (blkP (Sep.p1 HS.out)) 0).trans rfl, (blk_cell (blkP (Sep.p1 HS.out)) 1).trans rfl, (blk_cell (blkP (Sep.p1 HS.out)) 2).trans rfl⟩ (fun hHeld => ?_)
      clear hK K
      refine nR ?_
      refine pO 1 (some 23) (fun K hK => ?_)
      refine gG Try.func17 #[.agg #[.slice A0_0 l0_0.length c0_0, .slice A0_1 l0_1.length c0_1, .int .i64 a0_2, .int .i64 a0_3, .int .i64 a0_4, .slice A0_5 l0_5.length c0_5]] ?_
      refine (laws_toDisk.calls k _ _ l0_0 _ _ l0_1 a0_2 a0_3 a0_4 _ _ l0_5 t14 t15 t16 t17 t18 t19 _ (Kd.C_below HR0_0.out.1 HB.out) HR0_0.out.2 (Kd.C_below HR0_1.out.1 HB.out) HR0_1.out.2 (Kd.C_below HR0_5.out.1 HB.out) HR0_5.out.2 A20.out).mono ?_
      rintro e w21 ⟨v22, v23, v24, rfl, ho0, ho1, ho2, hb⟩; refine ⟨_, rfl, ?_⟩
      obtain ⟨A25, c26, hz⟩ := Kd.R_slice ho0; subst hz
      obtain ⟨A27, c28, hz⟩ := Kd.R_slice ho1; subst hz
      obtain ⟨A29, c30, hz⟩ := Kd.S_slice ho2; subst hz
      replace HS := aM (Sep.disk HS.out hb HB.out.size ho0 ho1 ho2)
      replace HB := aM (below_step HB.out hb)
      clear ho0 ho1 ho2 hb
      refine hK.out _ _ ⟨(blk_cell (blkP (Sep.p3 HS.out)) 0).trans rfl, (blk_cell (blkP (Sep.p3 HS.out)) 1).trans rfl, (blk_cell (blkP (Sep.p3 HS.out)) 2).trans rfl, (blk_cell (blkP (Sep.p3 HS.out)) 3).trans rfl, (blk_cell (blkP (Sep.p3 HS.out)) 4).trans rfl, (blk_cell (blkP (Sep.p3 HS.out)) 5).trans rfl, (blk_cell (blkP (Sep.p2 HS.out)) 0).trans rfl, (blk_cell (blkP (Sep.p2 HS.out)) 1).trans rfl, (blk_cell (blkP (Sep.p2 HS.out)) 2).trans rfl⟩ (fun hHeld => ?_)
      clear hK K
      refine nR ?_
      refine pO 3 (some 25) (fun K hK => ?_)
      refine gG Try.func43 #[.agg #[.int .i64 a1_0, .int .i64 a1_1, .int .i64 a1_2]] ?_
      refine (laws_toRecord.calls a1_0 a1_1 a1_2 t74 t75 t76 _ A77.out).mono ?_
      rintro e w78 ⟨rfl, hb⟩; refine ⟨_, rfl, ?_⟩
      replace HS := aM (HS.out.below hb)
      replace HB := aM (below_step HB.out hb)
      clear hb
      refine hK.out _ _ ⟨(blk_cell (blkP (Sep.p3 HS.out)) 0).trans rfl, (blk_cell (blkP (Sep.p3 HS.out)) 1).trans rfl, (blk_cell (blkP (Sep.p3 HS.out)) 2).trans rfl, (blk_cell (blkP (Sep.p3 HS.out)) 3).trans rfl, (blk_cell (blkP (Sep.p3 HS.out)) 4).trans rfl, (blk_cell (blkP (Sep.p3 HS.out)) 5).trans rfl, (blk_cell (blkP (Sep.p2 HS.out)) 0).trans rfl, (blk_cell (blkP (Sep.p2 HS.out)) 1).trans rfl, (blk_cell (blkP (Sep.p2 HS.out)) 2).trans rfl⟩ (fun hHeld => ?_)
      clear hK K
      refine nR ?_
      refine pO 4 (some 26) (fun K hK => ?_)
      refine gG Try.func42 #[.agg #[.slice A25 t14.length c26, .slice A27 t15.length c28, .int .i64 t16, .int .i64 t17, .int .i64 t18, .slice A29 t19.length c30], .agg #[.int .i64 t74, .int .i64 t75, .int .i64 t76]] ?_
      refine (spec_PutRecord.calls k _ _ t14 _ _ t15 t16 t17 t18 _ _ t19 t74 t75 t76 t134 t135 t136 t137 t138 t139 t140 _ (diskC0 (Sep.p0 HS.out)) (diskL0 (Sep.p0 HS.out)) (diskC1 (Sep.p0 HS.out)) (diskL1 (Sep.p0 HS.out)) (diskC2 (Sep.p0 HS.out)) (diskL2 (Sep.p0 HS.out)) A141.out).mono ?_
      rintro e w142 ⟨v143, v144, v145, rfl, ho0, ho1, ho2, hb⟩; refine ⟨_, rfl, ?_⟩
      obtain ⟨A146, c147, hz⟩ := Kd.R_slice ho0; subst hz
      obtain ⟨A148, c149, hz⟩ := Kd.R_slice ho1; subst hz
      obtain ⟨A150, c151, hz⟩ := Kd.S_slice ho2; subst hz
      replace HS := aM (Sep.disk HS.out hb HB.out.size ho0 ho1 ho2)
      replace HB := aM (below_step HB.out hb)
      clear ho0 ho1 ho2 hb
      refine hK.out _ _ ⟨(blk_cell (blkP (Sep.p4 HS.out)) 0).trans rfl, (blk_cell (blkP (Sep.p4 HS.out)) 1).trans rfl, (blk_cell (blkP (Sep.p4 HS.out)) 2).trans rfl, (blk_cell (blkP (Sep.p4 HS.out)) 3).trans rfl, (blk_cell (blkP (Sep.p4 HS.out)) 4).trans rfl, (blk_cell (blkP (Sep.p4 HS.out)) 5).trans rfl, (blk_cell (blkP (Sep.p3 HS.out)) 0).trans rfl, (blk_cell (blkP (Sep.p3 HS.out)) 1).trans rfl, (blk_cell (blkP (Sep.p3 HS.out)) 2).trans rfl⟩ (fun hHeld => ?_)
      clear hK K
      refine nR ?_
      refine pP 5 (some 21) ?_
      refine pP 6 (some 27) ?_
      refine pP 7 (some 28) ?_
      refine pO 9 none (fun K hK => ?_)
      replace HS := aM (Sep.f2 HS.out)
      refine gStS [.slice A146 t134.length c147, .slice A148 t135.length c149, .int .i64 t136, .int .i64 t137, .int .i64 t138, .slice A150 t139.length c151] #[.slice A146 t134.length c147, .slice A148 t135.length c149, .int .i64 t136, .int .i64 t137, .int .i64 t138, .slice A150 t139.length c151] (blkP (Sep.p0 HS.out)) ?_
      intro w253 hw hbox; replace HB := aM (hw.below HB.out (Sep.r0 HS.out).1); replace HS := aM (Sep.wr HS.out hw hbox); clear hw hbox
      refine hK.out _ _ ⟨(blk_cell (blkP (Sep.p4 HS.out)) 0).trans rfl, (blk_cell (blkP (Sep.p4 HS.out)) 1).trans rfl, (blk_cell (blkP (Sep.p4 HS.out)) 2).trans rfl, (blk_cell (blkP (Sep.p4 HS.out)) 3).trans rfl, (blk_cell (blkP (Sep.p4 HS.out)) 4).trans rfl, (blk_cell (blkP (Sep.p4 HS.out)) 5).trans rfl, (blk_cell (blkP (Sep.p3 HS.out)) 0).trans rfl, (blk_cell (blkP (Sep.p3 HS.out)) 1).trans rfl, (blk_cell (blkP (Sep.p3 HS.out)) 2).trans rfl⟩ (fun hHeld => ?_)
      clear hK K
      refine pP 10 (some 7) ?_
      replace HS := aM (Sep.f2 HS.out).drop
      replace HS := aM (Sep.f3 HS.out)
      replace HS := aM (Sep.f3 HS.out)
      replace HS := aM (Sep.f3 HS.out)
      replace HS := aM (Sep.f3 HS.out)
      exact norm_ (by first | (simp only [putAll, Act.put, List.setIfInBounds_toArray, List.set_cons_zero, List.set_cons_succ]; done) | (simp only [putAll, Act.put, List.setIfInBounds_toArray, List.set_cons_zero, List.set_cons_succ]; rfl)) (hCont (.agg #[.slice A25 t14.length c26, .slice A27 t15.length c28, .int .i64 t16, .int .i64 t17, .int .i64 t18, .slice A29 t19.length c30], .agg #[.int .i64 t74, .int .i64 t75, .int .i64 t76], .tuple #[.agg #[.slice A146 t134.length c147, .slice A148 t135.length c149, .int .i64 t136, .int .i64 t137, .int .i64 t138, .slice A150 t139.length c151], .bool t140], .tuple #[.agg #[.slice A146 t134.length c147, .slice A148 t135.length c149, .int .i64 t136, .int .i64 t137, .int .i64 t138, .slice A150 t139.length c151], .bool t140], .agg #[.slice A146 t134.length c147, .slice A148 t135.length c149, .int .i64 t136, .int .i64 t137, .int .i64 t138, .slice A150 t139.length c151], .bool t140, .pointer (some ⟨g193, 0, none⟩), .bool t140) _ ⟨_, _, _, _, _, _, _, _, _, _, _, _, _, _, _, rfl, HS.out, HB.out⟩)
  rintro _ w315 ⟨g193, x313, y314, A25, c26, A27, c28, A29, c30, A146, c147, A148, c149, A150, c151, rfl, hs_, hb_⟩
  replace HS := aM hs_
  replace HB := aM hb_
  clear hs_ hb_ hHeld
  refine norm_ (a' := ?_) ?_ ?_
  rotate_left
  · simp only [putAll, Act.put, List.setIfInBounds_toArray, List.set_cons_zero, List.set_cons_succ]
    rfl
  refine done_ (by kernel_rfl) ?_
  replace h := bE h; obtain ⟨⟨t317, t318, t319, t320, t321, t322⟩, A323, h⟩ := h
  dsimp only at h
  replace h := bE h; obtain ⟨⟨t341, t342, t343⟩, A344, h⟩ := h
  dsimp only at h
  replace h := bE h; obtain ⟨⟨t401, t402, t403, t404, t405, t406, t407⟩, A408, h⟩ := h
  dsimp only at h
  go_wp2_with (first | ((with_reducible refine gate_dst (N := 29) rfl ?_); refine gLd 29 (blkP (Sep.p3 HS.out)) ?_; (simp only [Act.put, List.setIfInBounds_toArray, List.set_cons_zero, List.set_cons_succ])) | ((with_reducible refine gate_callee (f := 17) rfl ?_); (with_reducible refine gate_dst (N := 30) rfl ?_); refine gL (some 30) Try.func17 #[.agg #[.slice A0_0 l0_0.length c0_0, .slice A0_1 l0_1.length c0_1, .int .i64 a0_2, .int .i64 a0_3, .int .i64 a0_4, .slice A0_5 l0_5.length c0_5]] ?_; refine (laws_toDisk.calls k _ _ l0_0 _ _ l0_1 a0_2 a0_3 a0_4 _ _ l0_5 t317 t318 t319 t320 t321 t322 _ (Kd.C_below HR0_0.out.1 HB.out) HR0_0.out.2 (Kd.C_below HR0_1.out.1 HB.out) HR0_1.out.2 (Kd.C_below HR0_5.out.1 HB.out) HR0_5.out.2 A323.out).mono ?_; rintro e w324 ⟨v325, v326, v327, rfl, ho0, ho1, ho2, hb⟩; refine ⟨_, rfl, ?_⟩; obtain ⟨A328, c329, hz⟩ := Kd.R_slice ho0; subst hz; obtain ⟨A330, c331, hz⟩ := Kd.R_slice ho1; subst hz; obtain ⟨A332, c333, hz⟩ := Kd.S_slice ho2; subst hz; replace HS := aM (Sep.disk HS.out hb HB.out.size ho0 ho1 ho2); replace HB := aM (below_step HB.out hb); clear ho0 ho1 ho2 hb; (simp only [Act.put, List.setIfInBounds_toArray, List.set_cons_zero, List.set_cons_succ])) | ((with_reducible refine gate_dst (N := 8) rfl ?_); refine gBx 8 #[.slice none 0 0, .slice none 0 0, .int .i64 0, .int .i64 0, .int .i64 0, .slice none 0 0] 33 ?_; intro g335 hg w336 hbox hb; replace HS := aM (Sep.blk HS.out hb HB.out.size hg hbox); replace HB := aM (below_step HB.out hb); clear hb hbox hg; (simp only [Act.put, List.setIfInBounds_toArray, List.set_cons_zero, List.set_cons_succ])) | ((with_reducible refine gate_store (t := 33) (p := 8) rfl ?_); refine gSt [.slice A328 t317.length c329, .slice A330 t318.length c331, .int .i64 t319, .int .i64 t320, .int .i64 t321, .slice A332 t322.length c333] #[.slice A328 t317.length c329, .slice A330 t318.length c331, .int .i64 t319, .int .i64 t320, .int .i64 t321, .slice A332 t322.length c333] (blkP (Sep.p0 HS.out)) ?_; intro w338 hw hbox; replace HB := aM (hw.below HB.out (Sep.r0 HS.out).1); replace HS := aM (Sep.wr HS.out hw hbox); clear hw hbox))
  replace HS := aM (HS.out.below (bd1 rfl))
  replace HB := aM (below_step HB.out (bd1 rfl))
  refine start_ (n := 10) (S := fun w' => w'.cell? ⟨g335, 0, none⟩ = some (.slice A328 t317.length c329) ∧ w'.cell? ⟨g335, 1, none⟩ = some (.slice A330 t318.length c331) ∧ w'.cell? ⟨g335, 2, none⟩ = some (.int .i64 t319) ∧ w'.cell? ⟨g335, 3, none⟩ = some (.int .i64 t320) ∧ w'.cell? ⟨g335, 4, none⟩ = some (.int .i64 t321) ∧ w'.cell? ⟨g335, 5, none⟩ = some (.slice A332 t322.length c333) ∧ w'.cell? ⟨g4, 0, none⟩ = some (.int .i64 a1_0) ∧ w'.cell? ⟨g4, 1, none⟩ = some (.int .i64 a1_1) ∧ w'.cell? ⟨g4, 2, none⟩ = some (.int .i64 a1_2)) (ds := []) (Array.replicate 10 false) (by kernel_rfl) rfl rfl ⟨(blk_cell (blkP (Sep.p0 HS.out)) 0).trans rfl, (blk_cell (blkP (Sep.p0 HS.out)) 1).trans rfl, (blk_cell (blkP (Sep.p0 HS.out)) 2).trans rfl, (blk_cell (blkP (Sep.p0 HS.out)) 3).trans rfl, (blk_cell (blkP (Sep.p0 HS.out)) 4).trans rfl, (blk_cell (blkP (Sep.p0 HS.out)) 5).trans rfl, (blk_cell (blkP (Sep.p4 HS.out)) 0).trans rfl, (blk_cell (blkP (Sep.p4 HS.out)) 1).trans rfl, (blk_cell (blkP (Sep.p4 HS.out)) 2).trans rfl⟩ (fun hHeld => ?_)
  generalize hw_ : World.drew _ = w339 at HS HB hHeld ⊢
  clear hw_
  refine pT 0 (some 32) ?_
  refine pT 1 (some 33) ?_
  refine join_ (σ := Value × Value × Value × Value × Value × Value × Value) 0 (Array.replicate 10 true) (fun s => [(34, s.1), (35, s.2.1), (31, s.2.2.1), (36, s.2.2.2.1), (37, s.2.2.2.2.1), (9, s.2.2.2.2.2.1), (10, s.2.2.2.2.2.2)]) (fun s w' => ∃ (g460 : Nat) (x580 : Nat) (y581 : Nat) (A413 : Option Addr) (c414 : Nat) (A415 : Option Addr) (c416 : Nat) (A417 : Option Addr) (c418 : Nat), s = (.agg #[.int .i64 t341, .int .i64 t342, .int .i64 t343], .tuple #[.agg #[.slice A413 t401.length c414, .slice A415 t402.length c416, .int .i64 t403, .int .i64 t404, .int .i64 t405, .slice A417 t406.length c418], .bool t407], .tuple #[.agg #[.slice A413 t401.length c414, .slice A415 t402.length c416, .int .i64 t403, .int .i64 t404, .int .i64 t405, .slice A417 t406.length c418], .bool t407], .agg #[.slice A413 t401.length c414, .slice A415 t402.length c416, .int .i64 t403, .int .i64 t404, .int .i64 t405, .slice A417 t406.length c418], .bool t407, .pointer (some ⟨g460, 0, none⟩), .bool t407) ∧ Sep w.heap.size w' (iBlk g460 #[.slice A413 t401.length c414, .slice A415 t402.length c416, .int .i64 t403, .int .i64 t404, .int .i64 t405, .slice A417 t406.length c418] 33 :: iDisk w.heap.size x580 y581 (.slice A413 t401.length c414) (.slice A415 t402.length c416) (.slice A417 t406.length c418) t401 t402 t406 :: [iBlk g335 #[.slice A328 t317.length c329, .slice A330 t318.length c331, .int .i64 t319, .int .i64 t320, .int .i64 t321, .slice A332 t322.length c333] 33, iDisk w.heap.size w315.heap.size w324.heap.size (.slice A328 t317.length c329) (.slice A330 t318.length c331) (.slice A332 t322.length c333) t317 t318 t322, iBlk g193 #[.slice A146 t134.length c147, .slice A148 t135.length c149, .int .i64 t136, .int .i64 t137, .int .i64 t138, .slice A150 t139.length c151] 33, iDisk w.heap.size x313 y314 (.slice A146 t134.length c147) (.slice A148 t135.length c149) (.slice A150 t139.length c151) t134 t135 t139, iBlk g4 #[.int .i64 a1_0, .int .i64 a1_1, .int .i64 a1_2] 24, iBlk g1 #[.slice A0_0 l0_0.length c0_0, .slice A0_1 l0_1.length c0_1, .int .i64 a0_2, .int .i64 a0_3, .int .i64 a0_4, .slice A0_5 l0_5.length c0_5] 27]) ∧ Below w.heap.size w w') ?_ ?_
  rotate_left
  · intro hCont
    refine two_ (i := 2) (j := 7) (Ni := (some 34)) (Nj := (some 9)) #[true, true, true, false, false, false, false, false, false, false] #[true, true, false, false, false, false, false, true, false, false] rfl rfl rfl rfl (by kernel_rfl) (by decide) (by decide) (fun K hK => ?_) (fun K hK => ?_)
    · skip
      refine gG Try.func43 #[.agg #[.int .i64 a1_0, .int .i64 a1_1, .int .i64 a1_2]] ?_
      refine (laws_toRecord.calls a1_0 a1_1 a1_2 t341 t342 t343 _ A344.out).mono ?_
      rintro e w345 ⟨rfl, hb⟩; refine ⟨_, rfl, ?_⟩
      replace HS := aM (HS.out.below hb)
      replace HB := aM (below_step HB.out hb)
      clear hb
      refine hK.out _ _ ⟨(blk_cell (blkP (Sep.p0 HS.out)) 0).trans rfl, (blk_cell (blkP (Sep.p0 HS.out)) 1).trans rfl, (blk_cell (blkP (Sep.p0 HS.out)) 2).trans rfl, (blk_cell (blkP (Sep.p0 HS.out)) 3).trans rfl, (blk_cell (blkP (Sep.p0 HS.out)) 4).trans rfl, (blk_cell (blkP (Sep.p0 HS.out)) 5).trans rfl, (blk_cell (blkP (Sep.p4 HS.out)) 0).trans rfl, (blk_cell (blkP (Sep.p4 HS.out)) 1).trans rfl, (blk_cell (blkP (Sep.p4 HS.out)) 2).trans rfl⟩ (fun hHeld => ?_)
      clear hK K
      refine nR ?_
      refine two_ (i := 3) (j := 7) (Ni := (some 35)) (Nj := (some 9)) #[true, true, true, true, false, false, false, false, false, false] #[true, true, true, false, false, false, false, true, false, false] rfl rfl rfl rfl (by kernel_rfl) (by decide) (by decide) (fun K hK => ?_) (fun K hK => ?_)
      · skip
        refine gG Try.func44 #[.agg #[.slice A328 t317.length c329, .slice A330 t318.length c331, .int .i64 t319, .int .i64 t320, .int .i64 t321, .slice A332 t322.length c333], .agg #[.int .i64 t341, .int .i64 t342, .int .i64 t343]] ?_
        refine (impl_PutRecord.calls k _ _ t317 _ _ t318 t319 t320 t321 _ _ t322 t341 t342 t343 t401 t402 t403 t404 t405 t406 t407 _ (diskC0 (Sep.p1 HS.out)) (diskL0 (Sep.p1 HS.out)) (diskC1 (Sep.p1 HS.out)) (diskL1 (Sep.p1 HS.out)) (diskC2 (Sep.p1 HS.out)) (diskL2 (Sep.p1 HS.out)) A408.out).mono ?_
        rintro e w409 ⟨v410, v411, v412, rfl, ho0, ho1, ho2, hb⟩; refine ⟨_, rfl, ?_⟩
        obtain ⟨A413, c414, hz⟩ := Kd.R_slice ho0; subst hz
        obtain ⟨A415, c416, hz⟩ := Kd.R_slice ho1; subst hz
        obtain ⟨A417, c418, hz⟩ := Kd.S_slice ho2; subst hz
        replace HS := aM (Sep.disk HS.out hb HB.out.size ho0 ho1 ho2)
        replace HB := aM (below_step HB.out hb)
        clear ho0 ho1 ho2 hb
        refine hK.out _ _ ⟨(blk_cell (blkP (Sep.p1 HS.out)) 0).trans rfl, (blk_cell (blkP (Sep.p1 HS.out)) 1).trans rfl, (blk_cell (blkP (Sep.p1 HS.out)) 2).trans rfl, (blk_cell (blkP (Sep.p1 HS.out)) 3).trans rfl, (blk_cell (blkP (Sep.p1 HS.out)) 4).trans rfl, (blk_cell (blkP (Sep.p1 HS.out)) 5).trans rfl, (blk_cell (blkP (Sep.p5 HS.out)) 0).trans rfl, (blk_cell (blkP (Sep.p5 HS.out)) 1).trans rfl, (blk_cell (blkP (Sep.p5 HS.out)) 2).trans rfl⟩ (fun hHeld => ?_)
        clear hK K
        refine nR ?_
        refine pP 4 (some 31) ?_
        refine pP 5 (some 36) ?_
        refine pP 6 (some 37) ?_
        refine pO 7 (some 9) (fun K hK => ?_)
        refine gBxS 9 #[.slice none 0 0, .slice none 0 0, .int .i64 0, .int .i64 0, .int .i64 0, .slice none 0 0] 33 ?_
        intro g460 hg w461 hbox hb; replace HS := aM (Sep.blk HS.out hb HB.out.size hg hbox); replace HB := aM (below_step HB.out hb); clear hb hbox hg
        refine hK.out _ _ ⟨(blk_cell (blkP (Sep.p2 HS.out)) 0).trans rfl, (blk_cell (blkP (Sep.p2 HS.out)) 1).trans rfl, (blk_cell (blkP (Sep.p2 HS.out)) 2).trans rfl, (blk_cell (blkP (Sep.p2 HS.out)) 3).trans rfl, (blk_cell (blkP (Sep.p2 HS.out)) 4).trans rfl, (blk_cell (blkP (Sep.p2 HS.out)) 5).trans rfl, (blk_cell (blkP (Sep.p6 HS.out)) 0).trans rfl, (blk_cell (blkP (Sep.p6 HS.out)) 1).trans rfl, (blk_cell (blkP (Sep.p6 HS.out)) 2).trans rfl⟩ (fun hHeld => ?_)
        clear hK K
        refine nR ?_
        refine pO 8 none (fun K hK => ?_)
        refine gStS [.slice A413 t401.length c414, .slice A415 t402.length c416, .int .i64 t403, .int .i64 t404, .int .i64 t405, .slice A417 t406.length c418] #[.slice A413 t401.length c414, .slice A415 t402.length c416, .int .i64 t403, .int .i64 t404, .int .i64 t405, .slice A417 t406.length c418] (blkP (Sep.p0 HS.out)) ?_
        intro w520 hw hbox; replace HB := aM (hw.below HB.out (Sep.r0 HS.out).1); replace HS := aM (Sep.wr HS.out hw hbox); clear hw hbox
        refine hK.out _ _ ⟨(blk_cell (blkP (Sep.p2 HS.out)) 0).trans rfl, (blk_cell (blkP (Sep.p2 HS.out)) 1).trans rfl, (blk_cell (blkP (Sep.p2 HS.out)) 2).trans rfl, (blk_cell (blkP (Sep.p2 HS.out)) 3).trans rfl, (blk_cell (blkP (Sep.p2 HS.out)) 4).trans rfl, (blk_cell (blkP (Sep.p2 HS.out)) 5).trans rfl, (blk_cell (blkP (Sep.p6 HS.out)) 0).trans rfl, (blk_cell (blkP (Sep.p6 HS.out)) 1).trans rfl, (blk_cell (blkP (Sep.p6 HS.out)) 2).trans rfl⟩ (fun hHeld => ?_)
        clear hK K
        refine pP 9 (some 10) ?_
        replace HS := aM (Sep.f7 HS.out)
        replace HS := aM (Sep.f7 HS.out)
        replace HS := aM (Sep.f7 HS.out)
        replace HS := aM (Sep.f7 HS.out)
        replace HS := aM (Sep.f7 HS.out)
        replace HS := aM (Sep.f7 HS.out)
        replace HS := aM (Sep.f7 HS.out)
        replace HS := aM (Sep.f7 HS.out)
        exact norm_ (by first | (simp only [putAll, Act.put, List.setIfInBounds_toArray, List.set_cons_zero, List.set_cons_succ]; done) | (simp only [putAll, Act.put, List.setIfInBounds_toArray, List.set_cons_zero, List.set_cons_succ]; rfl)) (hCont (.agg #[.int .i64 t341, .int .i64 t342, .int .i64 t343], .tuple #[.agg #[.slice A413 t401.length c414, .slice A415 t402.length c416, .int .i64 t403, .int .i64 t404, .int .i64 t405, .slice A417 t406.length c418], .bool t407], .tuple #[.agg #[.slice A413 t401.length c414, .slice A415 t402.length c416, .int .i64 t403, .int .i64 t404, .int .i64 t405, .slice A417 t406.length c418], .bool t407], .agg #[.slice A413 t401.length c414, .slice A415 t402.length c416, .int .i64 t403, .int .i64 t404, .int .i64 t405, .slice A417 t406.length c418], .bool t407, .pointer (some ⟨g460, 0, none⟩), .bool t407) _ ⟨_, _, _, _, _, _, _, _, _, rfl, HS.out, HB.out⟩)
      · skip
        refine gBxS 9 #[.slice none 0 0, .slice none 0 0, .int .i64 0, .int .i64 0, .int .i64 0, .slice none 0 0] 33 ?_
        intro g460 hg w461 hbox hb; replace HS := aM (Sep.blk HS.out hb HB.out.size hg hbox); replace HB := aM (below_step HB.out hb); clear hb hbox hg
        refine hK.out _ _ ⟨(blk_cell (blkP (Sep.p1 HS.out)) 0).trans rfl, (blk_cell (blkP (Sep.p1 HS.out)) 1).trans rfl, (blk_cell (blkP (Sep.p1 HS.out)) 2).trans rfl, (blk_cell (blkP (Sep.p1 HS.out)) 3).trans rfl, (blk_cell (blkP (Sep.p1 HS.out)) 4).trans rfl, (blk_cell (blkP (Sep.p1 HS.out)) 5).trans rfl, (blk_cell (blkP (Sep.p5 HS.out)) 0).trans rfl, (blk_cell (blkP (Sep.p5 HS.out)) 1).trans rfl, (blk_cell (blkP (Sep.p5 HS.out)) 2).trans rfl⟩ (fun hHeld => ?_)
        clear hK K
        refine nR ?_
        refine pO 3 (some 35) (fun K hK => ?_)
        refine gG Try.func44 #[.agg #[.slice A328 t317.length c329, .slice A330 t318.length c331, .int .i64 t319, .int .i64 t320, .int .i64 t321, .slice A332 t322.length c333], .agg #[.int .i64 t341, .int .i64 t342, .int .i64 t343]] ?_
        refine (impl_PutRecord.calls k _ _ t317 _ _ t318 t319 t320 t321 _ _ t322 t341 t342 t343 t401 t402 t403 t404 t405 t406 t407 _ (diskC0 (Sep.p2 HS.out)) (diskL0 (Sep.p2 HS.out)) (diskC1 (Sep.p2 HS.out)) (diskL1 (Sep.p2 HS.out)) (diskC2 (Sep.p2 HS.out)) (diskL2 (Sep.p2 HS.out)) A408.out).mono ?_
        rintro e w409 ⟨v410, v411, v412, rfl, ho0, ho1, ho2, hb⟩; refine ⟨_, rfl, ?_⟩
        obtain ⟨A413, c414, hz⟩ := Kd.R_slice ho0; subst hz
        obtain ⟨A415, c416, hz⟩ := Kd.R_slice ho1; subst hz
        obtain ⟨A417, c418, hz⟩ := Kd.S_slice ho2; subst hz
        replace HS := aM (Sep.disk HS.out hb HB.out.size ho0 ho1 ho2)
        replace HB := aM (below_step HB.out hb)
        clear ho0 ho1 ho2 hb
        refine hK.out _ _ ⟨(blk_cell (blkP (Sep.p2 HS.out)) 0).trans rfl, (blk_cell (blkP (Sep.p2 HS.out)) 1).trans rfl, (blk_cell (blkP (Sep.p2 HS.out)) 2).trans rfl, (blk_cell (blkP (Sep.p2 HS.out)) 3).trans rfl, (blk_cell (blkP (Sep.p2 HS.out)) 4).trans rfl, (blk_cell (blkP (Sep.p2 HS.out)) 5).trans rfl, (blk_cell (blkP (Sep.p6 HS.out)) 0).trans rfl, (blk_cell (blkP (Sep.p6 HS.out)) 1).trans rfl, (blk_cell (blkP (Sep.p6 HS.out)) 2).trans rfl⟩ (fun hHeld => ?_)
        clear hK K
        refine nR ?_
        refine pP 4 (some 31) ?_
        refine pP 5 (some 36) ?_
        refine pP 6 (some 37) ?_
        refine pO 8 none (fun K hK => ?_)
        replace HS := aM (Sep.f1 HS.out)
        refine gStS [.slice A413 t401.length c414, .slice A415 t402.length c416, .int .i64 t403, .int .i64 t404, .int .i64 t405, .slice A417 t406.length c418] #[.slice A413 t401.length c414, .slice A415 t402.length c416, .int .i64 t403, .int .i64 t404, .int .i64 t405, .slice A417 t406.length c418] (blkP (Sep.p0 HS.out)) ?_
        intro w520 hw hbox; replace HB := aM (hw.below HB.out (Sep.r0 HS.out).1); replace HS := aM (Sep.wr HS.out hw hbox); clear hw hbox
        refine hK.out _ _ ⟨(blk_cell (blkP (Sep.p2 HS.out)) 0).trans rfl, (blk_cell (blkP (Sep.p2 HS.out)) 1).trans rfl, (blk_cell (blkP (Sep.p2 HS.out)) 2).trans rfl, (blk_cell (blkP (Sep.p2 HS.out)) 3).trans rfl, (blk_cell (blkP (Sep.p2 HS.out)) 4).trans rfl, (blk_cell (blkP (Sep.p2 HS.out)) 5).trans rfl, (blk_cell (blkP (Sep.p6 HS.out)) 0).trans rfl, (blk_cell (blkP (Sep.p6 HS.out)) 1).trans rfl, (blk_cell (blkP (Sep.p6 HS.out)) 2).trans rfl⟩ (fun hHeld => ?_)
        clear hK K
        refine pP 9 (some 10) ?_
        replace HS := aM (Sep.f7 HS.out)
        replace HS := aM (Sep.f7 HS.out)
        replace HS := aM (Sep.f7 HS.out)
        replace HS := aM (Sep.f7 HS.out)
        replace HS := aM (Sep.f7 HS.out)
        replace HS := aM (Sep.f7 HS.out)
        replace HS := aM (Sep.f7 HS.out)
        replace HS := aM (Sep.f7 HS.out)
        exact norm_ (by first | (simp only [putAll, Act.put, List.setIfInBounds_toArray, List.set_cons_zero, List.set_cons_succ]; done) | (simp only [putAll, Act.put, List.setIfInBounds_toArray, List.set_cons_zero, List.set_cons_succ]; rfl)) (hCont (.agg #[.int .i64 t341, .int .i64 t342, .int .i64 t343], .tuple #[.agg #[.slice A413 t401.length c414, .slice A415 t402.length c416, .int .i64 t403, .int .i64 t404, .int .i64 t405, .slice A417 t406.length c418], .bool t407], .tuple #[.agg #[.slice A413 t401.length c414, .slice A415 t402.length c416, .int .i64 t403, .int .i64 t404, .int .i64 t405, .slice A417 t406.length c418], .bool t407], .agg #[.slice A413 t401.length c414, .slice A415 t402.length c416, .int .i64 t403, .int .i64 t404, .int .i64 t405, .slice A417 t406.length c418], .bool t407, .pointer (some ⟨g460, 0, none⟩), .bool t407) _ ⟨_, _, _, _, _, _, _, _, _, rfl, HS.out, HB.out⟩)
    · skip
      refine gBxS 9 #[.slice none 0 0, .slice none 0 0, .int .i64 0, .int .i64 0, .int .i64 0, .slice none 0 0] 33 ?_
      intro g460 hg w461 hbox hb; replace HS := aM (Sep.blk HS.out hb HB.out.size hg hbox); replace HB := aM (below_step HB.out hb); clear hb hbox hg
      refine hK.out _ _ ⟨(blk_cell (blkP (Sep.p1 HS.out)) 0).trans rfl, (blk_cell (blkP (Sep.p1 HS.out)) 1).trans rfl, (blk_cell (blkP (Sep.p1 HS.out)) 2).trans rfl, (blk_cell (blkP (Sep.p1 HS.out)) 3).trans rfl, (blk_cell (blkP (Sep.p1 HS.out)) 4).trans rfl, (blk_cell (blkP (Sep.p1 HS.out)) 5).trans rfl, (blk_cell (blkP (Sep.p5 HS.out)) 0).trans rfl, (blk_cell (blkP (Sep.p5 HS.out)) 1).trans rfl, (blk_cell (blkP (Sep.p5 HS.out)) 2).trans rfl⟩ (fun hHeld => ?_)
      clear hK K
      refine nR ?_
      refine pO 2 (some 34) (fun K hK => ?_)
      refine gG Try.func43 #[.agg #[.int .i64 a1_0, .int .i64 a1_1, .int .i64 a1_2]] ?_
      refine (laws_toRecord.calls a1_0 a1_1 a1_2 t341 t342 t343 _ A344.out).mono ?_
      rintro e w345 ⟨rfl, hb⟩; refine ⟨_, rfl, ?_⟩
      replace HS := aM (HS.out.below hb)
      replace HB := aM (below_step HB.out hb)
      clear hb
      refine hK.out _ _ ⟨(blk_cell (blkP (Sep.p1 HS.out)) 0).trans rfl, (blk_cell (blkP (Sep.p1 HS.out)) 1).trans rfl, (blk_cell (blkP (Sep.p1 HS.out)) 2).trans rfl, (blk_cell (blkP (Sep.p1 HS.out)) 3).trans rfl, (blk_cell (blkP (Sep.p1 HS.out)) 4).trans rfl, (blk_cell (blkP (Sep.p1 HS.out)) 5).trans rfl, (blk_cell (blkP (Sep.p5 HS.out)) 0).trans rfl, (blk_cell (blkP (Sep.p5 HS.out)) 1).trans rfl, (blk_cell (blkP (Sep.p5 HS.out)) 2).trans rfl⟩ (fun hHeld => ?_)
      clear hK K
      refine nR ?_
      refine pO 3 (some 35) (fun K hK => ?_)
      refine gG Try.func44 #[.agg #[.slice A328 t317.length c329, .slice A330 t318.length c331, .int .i64 t319, .int .i64 t320, .int .i64 t321, .slice A332 t322.length c333], .agg #[.int .i64 t341, .int .i64 t342, .int .i64 t343]] ?_
      refine (impl_PutRecord.calls k _ _ t317 _ _ t318 t319 t320 t321 _ _ t322 t341 t342 t343 t401 t402 t403 t404 t405 t406 t407 _ (diskC0 (Sep.p2 HS.out)) (diskL0 (Sep.p2 HS.out)) (diskC1 (Sep.p2 HS.out)) (diskL1 (Sep.p2 HS.out)) (diskC2 (Sep.p2 HS.out)) (diskL2 (Sep.p2 HS.out)) A408.out).mono ?_
      rintro e w409 ⟨v410, v411, v412, rfl, ho0, ho1, ho2, hb⟩; refine ⟨_, rfl, ?_⟩
      obtain ⟨A413, c414, hz⟩ := Kd.R_slice ho0; subst hz
      obtain ⟨A415, c416, hz⟩ := Kd.R_slice ho1; subst hz
      obtain ⟨A417, c418, hz⟩ := Kd.S_slice ho2; subst hz
      replace HS := aM (Sep.disk HS.out hb HB.out.size ho0 ho1 ho2)
      replace HB := aM (below_step HB.out hb)
      clear ho0 ho1 ho2 hb
      refine hK.out _ _ ⟨(blk_cell (blkP (Sep.p2 HS.out)) 0).trans rfl, (blk_cell (blkP (Sep.p2 HS.out)) 1).trans rfl, (blk_cell (blkP (Sep.p2 HS.out)) 2).trans rfl, (blk_cell (blkP (Sep.p2 HS.out)) 3).trans rfl, (blk_cell (blkP (Sep.p2 HS.out)) 4).trans rfl, (blk_cell (blkP (Sep.p2 HS.out)) 5).trans rfl, (blk_cell (blkP (Sep.p6 HS.out)) 0).trans rfl, (blk_cell (blkP (Sep.p6 HS.out)) 1).trans rfl, (blk_cell (blkP (Sep.p6 HS.out)) 2).trans rfl⟩ (fun hHeld => ?_)
      clear hK K
      refine nR ?_
      refine pP 4 (some 31) ?_
      refine pP 5 (some 36) ?_
      refine pP 6 (some 37) ?_
      refine pO 8 none (fun K hK => ?_)
      replace HS := aM (Sep.f1 HS.out)
      refine gStS [.slice A413 t401.length c414, .slice A415 t402.length c416, .int .i64 t403, .int .i64 t404, .int .i64 t405, .slice A417 t406.length c418] #[.slice A413 t401.length c414, .slice A415 t402.length c416, .int .i64 t403, .int .i64 t404, .int .i64 t405, .slice A417 t406.length c418] (blkP (Sep.p0 HS.out)) ?_
      intro w520 hw hbox; replace HB := aM (hw.below HB.out (Sep.r0 HS.out).1); replace HS := aM (Sep.wr HS.out hw hbox); clear hw hbox
      refine hK.out _ _ ⟨(blk_cell (blkP (Sep.p2 HS.out)) 0).trans rfl, (blk_cell (blkP (Sep.p2 HS.out)) 1).trans rfl, (blk_cell (blkP (Sep.p2 HS.out)) 2).trans rfl, (blk_cell (blkP (Sep.p2 HS.out)) 3).trans rfl, (blk_cell (blkP (Sep.p2 HS.out)) 4).trans rfl, (blk_cell (blkP (Sep.p2 HS.out)) 5).trans rfl, (blk_cell (blkP (Sep.p6 HS.out)) 0).trans rfl, (blk_cell (blkP (Sep.p6 HS.out)) 1).trans rfl, (blk_cell (blkP (Sep.p6 HS.out)) 2).trans rfl⟩ (fun hHeld => ?_)
      clear hK K
      refine pP 9 (some 10) ?_
      replace HS := aM (Sep.f7 HS.out)
      replace HS := aM (Sep.f7 HS.out)
      replace HS := aM (Sep.f7 HS.out)
      replace HS := aM (Sep.f7 HS.out)
      replace HS := aM (Sep.f7 HS.out)
      replace HS := aM (Sep.f7 HS.out)
      replace HS := aM (Sep.f7 HS.out)
      replace HS := aM (Sep.f7 HS.out)
      exact norm_ (by first | (simp only [putAll, Act.put, List.setIfInBounds_toArray, List.set_cons_zero, List.set_cons_succ]; done) | (simp only [putAll, Act.put, List.setIfInBounds_toArray, List.set_cons_zero, List.set_cons_succ]; rfl)) (hCont (.agg #[.int .i64 t341, .int .i64 t342, .int .i64 t343], .tuple #[.agg #[.slice A413 t401.length c414, .slice A415 t402.length c416, .int .i64 t403, .int .i64 t404, .int .i64 t405, .slice A417 t406.length c418], .bool t407], .tuple #[.agg #[.slice A413 t401.length c414, .slice A415 t402.length c416, .int .i64 t403, .int .i64 t404, .int .i64 t405, .slice A417 t406.length c418], .bool t407], .agg #[.slice A413 t401.length c414, .slice A415 t402.length c416, .int .i64 t403, .int .i64 t404, .int .i64 t405, .slice A417 t406.length c418], .bool t407, .pointer (some ⟨g460, 0, none⟩), .bool t407) _ ⟨_, _, _, _, _, _, _, _, _, rfl, HS.out, HB.out⟩)
  rintro _ w582 ⟨g460, x580, y581, A413, c414, A415, c416, A417, c418, rfl, hs_, hb_⟩
  replace HS := aM hs_
  replace HB := aM hb_
  clear hs_ hb_ hHeld
  refine norm_ (a' := ?_) ?_ ?_
  rotate_left
  · simp only [putAll, Act.put, List.setIfInBounds_toArray, List.set_cons_zero, List.set_cons_succ]
    rfl
  refine done_ (by kernel_rfl) ?_
  replace h := bE h; obtain ⟨t584, A585, h⟩ := h
  replace h := ifN h; obtain ⟨hq, h⟩ := h
  subst hq
  replace h := ifN h; obtain ⟨c587, h⟩ := h
  have c587b : (t407 == t140) = true := by rw [c587]; simp
  replace h := bE h; obtain ⟨⟨t590, t591, t592, t593, t594, t595⟩, A596, h⟩ := h
  dsimp only at h
  replace h := bE h; obtain ⟨t609, A610, h⟩ := h
  replace h := ifN h; obtain ⟨hq, h⟩ := h
  subst hq
  go_wp2_with (first | ((with_reducible refine gate_dst (N := 38) rfl ?_); refine gLd 38 (blkP (Sep.p0 HS.out)) ?_; (simp only [Act.put, List.setIfInBounds_toArray, List.set_cons_zero, List.set_cons_succ])) | ((with_reducible refine gate_dst (N := 39) rfl ?_); refine gLd 39 (blkP (Sep.p4 HS.out)) ?_; (simp only [Act.put, List.setIfInBounds_toArray, List.set_cons_zero, List.set_cons_succ])) | ((with_reducible refine gate_callee (f := 19) rfl ?_); (with_reducible refine gate_dst (N := 40) rfl ?_); refine gL (some 40) Try.func19 #[.agg #[.slice A413 t401.length c414, .slice A415 t402.length c416, .int .i64 t403, .int .i64 t404, .int .i64 t405, .slice A417 t406.length c418], .agg #[.slice A146 t134.length c147, .slice A148 t135.length c149, .int .i64 t136, .int .i64 t137, .int .i64 t138, .slice A150 t139.length c151]] ?_; refine (laws_eqDisk.calls k _ _ t401 _ _ t402 t403 t404 t405 _ _ t406 _ _ t134 _ _ t135 t136 t137 t138 _ _ t139 true _ (diskC0 (Sep.p1 HS.out)) (diskL0 (Sep.p1 HS.out)) (diskC1 (Sep.p1 HS.out)) (diskL1 (Sep.p1 HS.out)) (diskC2 (Sep.p1 HS.out)) (diskL2 (Sep.p1 HS.out)) (diskC0 (Sep.p5 HS.out)) (diskL0 (Sep.p5 HS.out)) (diskC1 (Sep.p5 HS.out)) (diskL1 (Sep.p5 HS.out)) (diskC2 (Sep.p5 HS.out)) (diskL2 (Sep.p5 HS.out)) A585.out).mono ?_; rintro e w586 ⟨rfl, hb⟩; refine ⟨_, rfl, ?_⟩; replace HS := aM (HS.out.below hb); replace HB := aM (below_step HB.out hb); clear hb; (simp only [Act.put, List.setIfInBounds_toArray, List.set_cons_zero, List.set_cons_succ])))
  replace HS := aM (HS.out.below (bd1 rfl))
  replace HB := aM (below_step HB.out (bd1 rfl))
  refine start_ (n := 5) (S := fun w' => w'.cell? ⟨g335, 0, none⟩ = some (.slice A328 t317.length c329) ∧ w'.cell? ⟨g335, 1, none⟩ = some (.slice A330 t318.length c331) ∧ w'.cell? ⟨g335, 2, none⟩ = some (.int .i64 t319) ∧ w'.cell? ⟨g335, 3, none⟩ = some (.int .i64 t320) ∧ w'.cell? ⟨g335, 4, none⟩ = some (.int .i64 t321) ∧ w'.cell? ⟨g335, 5, none⟩ = some (.slice A332 t322.length c333) ∧ w'.cell? ⟨g1, 0, none⟩ = some (.slice A0_0 l0_0.length c0_0) ∧ w'.cell? ⟨g1, 1, none⟩ = some (.slice A0_1 l0_1.length c0_1) ∧ w'.cell? ⟨g1, 2, none⟩ = some (.int .i64 a0_2) ∧ w'.cell? ⟨g1, 3, none⟩ = some (.int .i64 a0_3) ∧ w'.cell? ⟨g1, 4, none⟩ = some (.int .i64 a0_4) ∧ w'.cell? ⟨g1, 5, none⟩ = some (.slice A0_5 l0_5.length c0_5)) (ds := []) (Array.replicate 5 false) (by kernel_rfl) rfl rfl ⟨(blk_cell (blkP (Sep.p2 HS.out)) 0).trans rfl, (blk_cell (blkP (Sep.p2 HS.out)) 1).trans rfl, (blk_cell (blkP (Sep.p2 HS.out)) 2).trans rfl, (blk_cell (blkP (Sep.p2 HS.out)) 3).trans rfl, (blk_cell (blkP (Sep.p2 HS.out)) 4).trans rfl, (blk_cell (blkP (Sep.p2 HS.out)) 5).trans rfl, (blk_cell (blkP (Sep.p7 HS.out)) 0).trans rfl, (blk_cell (blkP (Sep.p7 HS.out)) 1).trans rfl, (blk_cell (blkP (Sep.p7 HS.out)) 2).trans rfl, (blk_cell (blkP (Sep.p7 HS.out)) 3).trans rfl, (blk_cell (blkP (Sep.p7 HS.out)) 4).trans rfl, (blk_cell (blkP (Sep.p7 HS.out)) 5).trans rfl⟩ (fun hHeld => ?_)
  generalize hw_ : World.drew _ = w588 at HS HB hHeld ⊢
  clear hw_
  refine pT 0 (some 47) ?_
  refine pT 1 (some 48) ?_
  refine pO 2 (some 49) (fun K hK => ?_)
  refine gG Try.func17 #[.agg #[.slice A0_0 l0_0.length c0_0, .slice A0_1 l0_1.length c0_1, .int .i64 a0_2, .int .i64 a0_3, .int .i64 a0_4, .slice A0_5 l0_5.length c0_5]] ?_
  refine (laws_toDisk.calls k _ _ l0_0 _ _ l0_1 a0_2 a0_3 a0_4 _ _ l0_5 t590 t591 t592 t593 t594 t595 _ (Kd.C_below HR0_0.out.1 HB.out) HR0_0.out.2 (Kd.C_below HR0_1.out.1 HB.out) HR0_1.out.2 (Kd.C_below HR0_5.out.1 HB.out) HR0_5.out.2 A596.out).mono ?_
  rintro e w597 ⟨v598, v599, v600, rfl, ho0, ho1, ho2, hb⟩; refine ⟨_, rfl, ?_⟩
  obtain ⟨A601, c602, hz⟩ := Kd.R_slice ho0; subst hz
  obtain ⟨A603, c604, hz⟩ := Kd.R_slice ho1; subst hz
  obtain ⟨A605, c606, hz⟩ := Kd.S_slice ho2; subst hz
  replace HS := aM (Sep.disk HS.out hb HB.out.size ho0 ho1 ho2)
  replace HB := aM (below_step HB.out hb)
  clear ho0 ho1 ho2 hb
  refine hK.out _ _ ⟨(blk_cell (blkP (Sep.p3 HS.out)) 0).trans rfl, (blk_cell (blkP (Sep.p3 HS.out)) 1).trans rfl, (blk_cell (blkP (Sep.p3 HS.out)) 2).trans rfl, (blk_cell (blkP (Sep.p3 HS.out)) 3).trans rfl, (blk_cell (blkP (Sep.p3 HS.out)) 4).trans rfl, (blk_cell (blkP (Sep.p3 HS.out)) 5).trans rfl, (blk_cell (blkP (Sep.p8 HS.out)) 0).trans rfl, (blk_cell (blkP (Sep.p8 HS.out)) 1).trans rfl, (blk_cell (blkP (Sep.p8 HS.out)) 2).trans rfl, (blk_cell (blkP (Sep.p8 HS.out)) 3).trans rfl, (blk_cell (blkP (Sep.p8 HS.out)) 4).trans rfl, (blk_cell (blkP (Sep.p8 HS.out)) 5).trans rfl⟩ (fun hHeld => ?_)
  clear hK K
  refine nR ?_
  refine pO 3 (some 50) (fun K hK => ?_)
  refine gG Try.func19 #[.agg #[.slice A328 t317.length c329, .slice A330 t318.length c331, .int .i64 t319, .int .i64 t320, .int .i64 t321, .slice A332 t322.length c333], .agg #[.slice A601 t590.length c602, .slice A603 t591.length c604, .int .i64 t592, .int .i64 t593, .int .i64 t594, .slice A605 t595.length c606]] ?_
  refine (laws_eqDisk.calls k _ _ t317 _ _ t318 t319 t320 t321 _ _ t322 _ _ t590 _ _ t591 t592 t593 t594 _ _ t595 true _ (diskC0 (Sep.p4 HS.out)) (diskL0 (Sep.p4 HS.out)) (diskC1 (Sep.p4 HS.out)) (diskL1 (Sep.p4 HS.out)) (diskC2 (Sep.p4 HS.out)) (diskL2 (Sep.p4 HS.out)) (diskC0 (Sep.p0 HS.out)) (diskL0 (Sep.p0 HS.out)) (diskC1 (Sep.p0 HS.out)) (diskL1 (Sep.p0 HS.out)) (diskC2 (Sep.p0 HS.out)) (diskL2 (Sep.p0 HS.out)) A610.out).mono ?_
  rintro e w611 ⟨rfl, hb⟩; refine ⟨_, rfl, ?_⟩
  replace HS := aM (HS.out.below hb)
  replace HB := aM (below_step HB.out hb)
  clear hb
  refine hK.out _ _ ⟨(blk_cell (blkP (Sep.p3 HS.out)) 0).trans rfl, (blk_cell (blkP (Sep.p3 HS.out)) 1).trans rfl, (blk_cell (blkP (Sep.p3 HS.out)) 2).trans rfl, (blk_cell (blkP (Sep.p3 HS.out)) 3).trans rfl, (blk_cell (blkP (Sep.p3 HS.out)) 4).trans rfl, (blk_cell (blkP (Sep.p3 HS.out)) 5).trans rfl, (blk_cell (blkP (Sep.p8 HS.out)) 0).trans rfl, (blk_cell (blkP (Sep.p8 HS.out)) 1).trans rfl, (blk_cell (blkP (Sep.p8 HS.out)) 2).trans rfl, (blk_cell (blkP (Sep.p8 HS.out)) 3).trans rfl, (blk_cell (blkP (Sep.p8 HS.out)) 4).trans rfl, (blk_cell (blkP (Sep.p8 HS.out)) 5).trans rfl⟩ (fun hHeld => ?_)
  clear hK K
  refine nR ?_
  refine pP 4 (some 51) ?_
  refine done_ (by kernel_rfl) ?_
  replace h := bE h; obtain ⟨⟨t613, t614, t615, t616⟩, A617, h⟩ := h
  dsimp only at h
  replace h := ifM h; obtain ⟨c619, h⟩ := h
  have c619b : decide (t613 < 0) = false := decide_eq_false c619
  clear c619
  replace h := bE h; obtain ⟨t621, A622, h⟩ := h
  replace h := ifN h; obtain ⟨hq, h⟩ := h
  subst hq
  replace h := ifN h; obtain ⟨c624, h⟩ := h
  have c624b : (t407 == t140) = true := by rw [c624]; simp
  replace h := bE h; obtain ⟨⟨t626, t627, t628, t629⟩, A630, h⟩ := h
  dsimp only at h
  replace h := bE h; obtain ⟨t633, A634, h⟩ := h
  replace h := ifM h; obtain ⟨c636, h⟩ := h
  have c636b : decide (t633 < 0) = false := decide_eq_false c636
  clear c636
  replace h := ifN h; obtain ⟨c637, h⟩ := h
  have c637b : (t633 != t626) = false := bne_eq_false_iff_eq.mpr c637
  clear c637
  replace h := bE h; obtain ⟨⟨t640, t641, t642, t643, t644, t645⟩, A646, h⟩ := h
  dsimp only at h
  replace h := bE h; obtain ⟨⟨t700, t701, t702⟩, A703, h⟩ := h
  dsimp only at h
  replace h := bE h; obtain ⟨⟨t760, t761, t762, t763, t764, t765, t766⟩, A767, h⟩ := h
  dsimp only at h
  go_wp2_with (first | ((with_reducible refine gate_dst (N := 52) rfl ?_); refine gLd 52 (blkP (Sep.p3 HS.out)) ?_; (simp only [Act.put, List.setIfInBounds_toArray, List.set_cons_zero, List.set_cons_succ])) | ((with_reducible refine gate_callee (f := 25) rfl ?_); (with_reducible refine gate_dst (N := 54) rfl ?_); refine gL (some 54) Try.func25 #[.agg #[.slice A328 t317.length c329, .slice A330 t318.length c331, .int .i64 t319, .int .i64 t320, .int .i64 t321, .slice A332 t322.length c333], .int .i64 1] ?_; replace HS := aM (Sep.f4 HS.out); refine (laws_markDisk.calls k _ _ _ t317 _ _ t318 t319 t320 t321 _ _ t322 1 t613 t614 t615 t616 w _ HB.out (Sep.p0 HS.out) A617.out).mono ?_; rintro e w618 ⟨rfl, hd, hb, hk⟩; refine ⟨_, rfl, ?_⟩; replace HS := aM (Sep.put HS.out (KeptR.of_kept hk (fun _ q => q)) (iDisk _ _ _ _ _ _ t614 t615 t616) rfl rfl hd); replace HB := aM hb; have e0 := (Kd.R_reads' hd.1).1; have e1 := (Kd.R_reads' hd.2.1).1; have e2 := (Kd.S_reads' hd.2.2).1; clear hd hb hk; simp only [e0, e1, e2] at HS ⊢; clear e0 e1 e2; (simp only [Act.put, List.setIfInBounds_toArray, List.set_cons_zero, List.set_cons_succ])) | ((with_reducible refine gate_dst (N := 58) rfl ?_); refine gGd rfl ?_; refine gLd 58 (blkP (Sep.p2 HS.out)) ?_; (simp only [Act.put, List.setIfInBounds_toArray, List.set_cons_zero, List.set_cons_succ])) | ((with_reducible refine gate_dst (N := 59) rfl ?_); refine gGd rfl ?_; refine gLd 59 (blkP (Sep.p5 HS.out)) ?_; (simp only [Act.put, List.setIfInBounds_toArray, List.set_cons_zero, List.set_cons_succ])) | ((with_reducible refine gate_callee (f := 19) rfl ?_); (with_reducible refine gate_dst (N := 60) rfl ?_); refine gGd rfl ?_; refine gL (some 60) Try.func19 #[.agg #[.slice A413 t401.length c414, .slice A415 t402.length c416, .int .i64 t403, .int .i64 t404, .int .i64 t405, .slice A417 t406.length c418], .agg #[.slice A146 t134.length c147, .slice A148 t135.length c149, .int .i64 t136, .int .i64 t137, .int .i64 t138, .slice A150 t139.length c151]] ?_; refine (laws_eqDisk.calls k _ _ t401 _ _ t402 t403 t404 t405 _ _ t406 _ _ t134 _ _ t135 t136 t137 t138 _ _ t139 true _ (diskC0 (Sep.p3 HS.out)) (diskL0 (Sep.p3 HS.out)) (diskC1 (Sep.p3 HS.out)) (diskL1 (Sep.p3 HS.out)) (diskC2 (Sep.p3 HS.out)) (diskL2 (Sep.p3 HS.out)) (diskC0 (Sep.p6 HS.out)) (diskL0 (Sep.p6 HS.out)) (diskC1 (Sep.p6 HS.out)) (diskL1 (Sep.p6 HS.out)) (diskC2 (Sep.p6 HS.out)) (diskL2 (Sep.p6 HS.out)) A622.out).mono ?_; rintro e w623 ⟨rfl, hb⟩; refine ⟨_, rfl, ?_⟩; replace HS := aM (HS.out.below hb); replace HB := aM (below_step HB.out hb); clear hb; (simp only [Act.put, List.setIfInBounds_toArray, List.set_cons_zero, List.set_cons_succ])) | ((with_reducible refine gate_dst (N := 68) rfl ?_); refine gLd 68 (blkP (Sep.p2 HS.out)) ?_; (simp only [Act.put, List.setIfInBounds_toArray, List.set_cons_zero, List.set_cons_succ])) | ((with_reducible refine gate_callee (f := 25) rfl ?_); (with_reducible refine gate_dst (N := 70) rfl ?_); refine gL (some 70) Try.func25 #[.agg #[.slice A413 t401.length c414, .slice A415 t402.length c416, .int .i64 t403, .int .i64 t404, .int .i64 t405, .slice A417 t406.length c418], .int .i64 1] ?_; replace HS := aM (Sep.f3 HS.out); refine (laws_markDisk.calls k _ _ _ t401 _ _ t402 t403 t404 t405 _ _ t406 1 t626 t627 t628 t629 w _ HB.out (Sep.p0 HS.out) A630.out).mono ?_; rintro e w631 ⟨rfl, hd, hb, hk⟩; refine ⟨_, rfl, ?_⟩; replace HS := aM (Sep.put HS.out (KeptR.of_kept hk (fun _ q => q)) (iDisk _ _ _ _ _ _ t627 t628 t629) rfl rfl hd); replace HB := aM hb; have e0 := (Kd.R_reads' hd.1).1; have e1 := (Kd.R_reads' hd.2.1).1; have e2 := (Kd.S_reads' hd.2.2).1; clear hd hb hk; simp only [e0, e1, e2] at HS ⊢; clear e0 e1 e2; (simp only [Act.put, List.setIfInBounds_toArray, List.set_cons_zero, List.set_cons_succ])) | ((with_reducible refine gate_dst (N := 71) rfl ?_); refine gLd 71 (blkP (Sep.p3 HS.out)) ?_; (simp only [Act.put, List.setIfInBounds_toArray, List.set_cons_zero, List.set_cons_succ])) | ((with_reducible refine gate_callee (f := 26) rfl ?_); (with_reducible refine gate_dst (N := 73) rfl ?_); refine gL (some 73) Try.func26 #[.agg #[.slice A413 t627.length c414, .slice A415 t628.length c416, .int .i64 t403, .int .i64 t404, .int .i64 t405, .slice A417 t629.length c418], .int .i64 1] ?_; refine (laws_heldDisk.calls k _ _ t627 _ _ t628 t403 t404 t405 _ _ t629 1 t633 _ (diskC0 (Sep.p0 HS.out)) (diskL0 (Sep.p0 HS.out)) (diskC1 (Sep.p0 HS.out)) (diskL1 (Sep.p0 HS.out)) (diskC2 (Sep.p0 HS.out)) (diskL2 (Sep.p0 HS.out)) A634.out).mono ?_; rintro e w635 ⟨rfl, hb⟩; refine ⟨_, rfl, ?_⟩; replace HS := aM (HS.out.below hb); replace HB := aM (below_step HB.out hb); clear hb; (simp only [Act.put, List.setIfInBounds_toArray, List.set_cons_zero, List.set_cons_succ])))
  replace HS := aM (HS.out.below (bd1 rfl))
  replace HB := aM (below_step HB.out (bd1 rfl))
  refine start_ (n := 11) (S := fun w' => w'.cell? ⟨g1, 0, none⟩ = some (.slice A0_0 l0_0.length c0_0) ∧ w'.cell? ⟨g1, 1, none⟩ = some (.slice A0_1 l0_1.length c0_1) ∧ w'.cell? ⟨g1, 2, none⟩ = some (.int .i64 a0_2) ∧ w'.cell? ⟨g1, 3, none⟩ = some (.int .i64 a0_3) ∧ w'.cell? ⟨g1, 4, none⟩ = some (.int .i64 a0_4) ∧ w'.cell? ⟨g1, 5, none⟩ = some (.slice A0_5 l0_5.length c0_5) ∧ w'.cell? ⟨g4, 0, none⟩ = some (.int .i64 a1_0) ∧ w'.cell? ⟨g4, 1, none⟩ = some (.int .i64 a1_1) ∧ w'.cell? ⟨g4, 2, none⟩ = some (.int .i64 a1_2)) (ds := []) (Array.replicate 11 false) (by kernel_rfl) rfl rfl ⟨(blk_cell (blkP (Sep.p8 HS.out)) 0).trans rfl, (blk_cell (blkP (Sep.p8 HS.out)) 1).trans rfl, (blk_cell (blkP (Sep.p8 HS.out)) 2).trans rfl, (blk_cell (blkP (Sep.p8 HS.out)) 3).trans rfl, (blk_cell (blkP (Sep.p8 HS.out)) 4).trans rfl, (blk_cell (blkP (Sep.p8 HS.out)) 5).trans rfl, (blk_cell (blkP (Sep.p7 HS.out)) 0).trans rfl, (blk_cell (blkP (Sep.p7 HS.out)) 1).trans rfl, (blk_cell (blkP (Sep.p7 HS.out)) 2).trans rfl⟩ (fun hHeld => ?_)
  generalize hw_ : World.drew _ = w638 at HS HB hHeld ⊢
  clear hw_
  refine pT 0 (some 80) ?_
  refine pT 2 (some 82) ?_
  refine join_ (σ := Value × Value × Value × Value × Value × Value × Value × Value) 0 (Array.replicate 11 true) (fun s => [(81, s.1), (83, s.2.1), (84, s.2.2.1), (79, s.2.2.2.1), (85, s.2.2.2.2.1), (86, s.2.2.2.2.2.1), (14, s.2.2.2.2.2.2.1), (15, s.2.2.2.2.2.2.2)]) (fun s w' => ∃ (g819 : Nat) (x939 : Nat) (y940 : Nat) (A651 : Option Addr) (c652 : Nat) (A653 : Option Addr) (c654 : Nat) (A655 : Option Addr) (c656 : Nat) (A772 : Option Addr) (c773 : Nat) (A774 : Option Addr) (c775 : Nat) (A776 : Option Addr) (c777 : Nat), s = (.agg #[.slice A651 t640.length c652, .slice A653 t641.length c654, .int .i64 t642, .int .i64 t643, .int .i64 t644, .slice A655 t645.length c656], .agg #[.int .i64 t700, .int .i64 t701, .int .i64 t702], .tuple #[.agg #[.slice A772 t760.length c773, .slice A774 t761.length c775, .int .i64 t762, .int .i64 t763, .int .i64 t764, .slice A776 t765.length c777], .bool t766], .tuple #[.agg #[.slice A772 t760.length c773, .slice A774 t761.length c775, .int .i64 t762, .int .i64 t763, .int .i64 t764, .slice A776 t765.length c777], .bool t766], .agg #[.slice A772 t760.length c773, .slice A774 t761.length c775, .int .i64 t762, .int .i64 t763, .int .i64 t764, .slice A776 t765.length c777], .bool t766, .pointer (some ⟨g819, 0, none⟩), .bool t766) ∧ Sep w.heap.size w' (iBlk g819 #[.slice A772 t760.length c773, .slice A774 t761.length c775, .int .i64 t762, .int .i64 t763, .int .i64 t764, .slice A776 t765.length c777] 33 :: iDisk w.heap.size x939 y940 (.slice A772 t760.length c773) (.slice A774 t761.length c775) (.slice A776 t765.length c777) t760 t761 t765 :: [iDisk w.heap.size x580 y581 (.slice A413 t627.length c414) (.slice A415 t628.length c416) (.slice A417 t629.length c418) t627 t628 t629, iDisk w.heap.size w315.heap.size w324.heap.size (.slice A328 t614.length c329) (.slice A330 t615.length c331) (.slice A332 t616.length c333) t614 t615 t616, iDisk w.heap.size w588.heap.size w597.heap.size (.slice A601 t590.length c602) (.slice A603 t591.length c604) (.slice A605 t595.length c606) t590 t591 t595, iBlk g460 #[.slice A413 t627.length c414, .slice A415 t628.length c416, .int .i64 t403, .int .i64 t404, .int .i64 t405, .slice A417 t629.length c418] 33, iBlk g335 #[.slice A328 t614.length c329, .slice A330 t615.length c331, .int .i64 t319, .int .i64 t320, .int .i64 t321, .slice A332 t616.length c333] 33, iBlk g193 #[.slice A146 t134.length c147, .slice A148 t135.length c149, .int .i64 t136, .int .i64 t137, .int .i64 t138, .slice A150 t139.length c151] 33, iDisk w.heap.size x313 y314 (.slice A146 t134.length c147) (.slice A148 t135.length c149) (.slice A150 t139.length c151) t134 t135 t139, iBlk g4 #[.int .i64 a1_0, .int .i64 a1_1, .int .i64 a1_2] 24, iBlk g1 #[.slice A0_0 l0_0.length c0_0, .slice A0_1 l0_1.length c0_1, .int .i64 a0_2, .int .i64 a0_3, .int .i64 a0_4, .slice A0_5 l0_5.length c0_5] 27]) ∧ Below w.heap.size w w') ?_ ?_
  rotate_left
  · intro hCont
    refine two_ (i := 1) (j := 8) (Ni := (some 81)) (Nj := (some 14)) #[true, true, true, false, false, false, false, false, false, false, false] #[true, false, true, false, false, false, false, false, true, false, false] rfl rfl rfl rfl (by kernel_rfl) (by decide) (by decide) (fun K hK => ?_) (fun K hK => ?_)
    · skip
      refine gG Try.func17 #[.agg #[.slice A0_0 l0_0.length c0_0, .slice A0_1 l0_1.length c0_1, .int .i64 a0_2, .int .i64 a0_3, .int .i64 a0_4, .slice A0_5 l0_5.length c0_5]] ?_
      refine (laws_toDisk.calls k _ _ l0_0 _ _ l0_1 a0_2 a0_3 a0_4 _ _ l0_5 t640 t641 t642 t643 t644 t645 _ (Kd.C_below HR0_0.out.1 HB.out) HR0_0.out.2 (Kd.C_below HR0_1.out.1 HB.out) HR0_1.out.2 (Kd.C_below HR0_5.out.1 HB.out) HR0_5.out.2 A646.out).mono ?_
      rintro e w647 ⟨v648, v649, v650, rfl, ho0, ho1, ho2, hb⟩; refine ⟨_, rfl, ?_⟩
      obtain ⟨A651, c652, hz⟩ := Kd.R_slice ho0; subst hz
      obtain ⟨A653, c654, hz⟩ := Kd.R_slice ho1; subst hz
      obtain ⟨A655, c656, hz⟩ := Kd.S_slice ho2; subst hz
      replace HS := aM (Sep.disk HS.out hb HB.out.size ho0 ho1 ho2)
      replace HB := aM (below_step HB.out hb)
      clear ho0 ho1 ho2 hb
      refine hK.out _ _ ⟨(blk_cell (blkP (Sep.p9 HS.out)) 0).trans rfl, (blk_cell (blkP (Sep.p9 HS.out)) 1).trans rfl, (blk_cell (blkP (Sep.p9 HS.out)) 2).trans rfl, (blk_cell (blkP (Sep.p9 HS.out)) 3).trans rfl, (blk_cell (blkP (Sep.p9 HS.out)) 4).trans rfl, (blk_cell (blkP (Sep.p9 HS.out)) 5).trans rfl, (blk_cell (blkP (Sep.p8 HS.out)) 0).trans rfl, (blk_cell (blkP (Sep.p8 HS.out)) 1).trans rfl, (blk_cell (blkP (Sep.p8 HS.out)) 2).trans rfl⟩ (fun hHeld => ?_)
      clear hK K
      refine nR ?_
      refine two_ (i := 3) (j := 8) (Ni := (some 83)) (Nj := (some 14)) #[true, true, true, true, false, false, false, false, false, false, false] #[true, true, true, false, false, false, false, false, true, false, false] rfl rfl rfl rfl (by kernel_rfl) (by decide) (by decide) (fun K hK => ?_) (fun K hK => ?_)
      · skip
        refine gG Try.func43 #[.agg #[.int .i64 a1_0, .int .i64 a1_1, .int .i64 a1_2]] ?_
        refine (laws_toRecord.calls a1_0 a1_1 a1_2 t700 t701 t702 _ A703.out).mono ?_
        rintro e w704 ⟨rfl, hb⟩; refine ⟨_, rfl, ?_⟩
        replace HS := aM (HS.out.below hb)
        replace HB := aM (below_step HB.out hb)
        clear hb
        refine hK.out _ _ ⟨(blk_cell (blkP (Sep.p9 HS.out)) 0).trans rfl, (blk_cell (blkP (Sep.p9 HS.out)) 1).trans rfl, (blk_cell (blkP (Sep.p9 HS.out)) 2).trans rfl, (blk_cell (blkP (Sep.p9 HS.out)) 3).trans rfl, (blk_cell (blkP (Sep.p9 HS.out)) 4).trans rfl, (blk_cell (blkP (Sep.p9 HS.out)) 5).trans rfl, (blk_cell (blkP (Sep.p8 HS.out)) 0).trans rfl, (blk_cell (blkP (Sep.p8 HS.out)) 1).trans rfl, (blk_cell (blkP (Sep.p8 HS.out)) 2).trans rfl⟩ (fun hHeld => ?_)
        clear hK K
        refine nR ?_
        refine two_ (i := 4) (j := 8) (Ni := (some 84)) (Nj := (some 14)) #[true, true, true, true, true, false, false, false, false, false, false] #[true, true, true, true, false, false, false, false, true, false, false] rfl rfl rfl rfl (by kernel_rfl) (by decide) (by decide) (fun K hK => ?_) (fun K hK => ?_)
        · skip
          refine gG Try.func44 #[.agg #[.slice A651 t640.length c652, .slice A653 t641.length c654, .int .i64 t642, .int .i64 t643, .int .i64 t644, .slice A655 t645.length c656], .agg #[.int .i64 t700, .int .i64 t701, .int .i64 t702]] ?_
          refine (impl_PutRecord.calls k _ _ t640 _ _ t641 t642 t643 t644 _ _ t645 t700 t701 t702 t760 t761 t762 t763 t764 t765 t766 _ (diskC0 (Sep.p0 HS.out)) (diskL0 (Sep.p0 HS.out)) (diskC1 (Sep.p0 HS.out)) (diskL1 (Sep.p0 HS.out)) (diskC2 (Sep.p0 HS.out)) (diskL2 (Sep.p0 HS.out)) A767.out).mono ?_
          rintro e w768 ⟨v769, v770, v771, rfl, ho0, ho1, ho2, hb⟩; refine ⟨_, rfl, ?_⟩
          obtain ⟨A772, c773, hz⟩ := Kd.R_slice ho0; subst hz
          obtain ⟨A774, c775, hz⟩ := Kd.R_slice ho1; subst hz
          obtain ⟨A776, c777, hz⟩ := Kd.S_slice ho2; subst hz
          replace HS := aM (Sep.disk HS.out hb HB.out.size ho0 ho1 ho2)
          replace HB := aM (below_step HB.out hb)
          clear ho0 ho1 ho2 hb
          refine hK.out _ _ ⟨(blk_cell (blkP (Sep.p10 HS.out)) 0).trans rfl, (blk_cell (blkP (Sep.p10 HS.out)) 1).trans rfl, (blk_cell (blkP (Sep.p10 HS.out)) 2).trans rfl, (blk_cell (blkP (Sep.p10 HS.out)) 3).trans rfl, (blk_cell (blkP (Sep.p10 HS.out)) 4).trans rfl, (blk_cell (blkP (Sep.p10 HS.out)) 5).trans rfl, (blk_cell (blkP (Sep.p9 HS.out)) 0).trans rfl, (blk_cell (blkP (Sep.p9 HS.out)) 1).trans rfl, (blk_cell (blkP (Sep.p9 HS.out)) 2).trans rfl⟩ (fun hHeld => ?_)
          clear hK K
          refine nR ?_
          refine pP 5 (some 79) ?_
          refine pP 6 (some 85) ?_
          refine pP 7 (some 86) ?_
          refine pO 8 (some 14) (fun K hK => ?_)
          refine gBxS 14 #[.slice none 0 0, .slice none 0 0, .int .i64 0, .int .i64 0, .int .i64 0, .slice none 0 0] 33 ?_
          intro g819 hg w820 hbox hb; replace HS := aM (Sep.blk HS.out hb HB.out.size hg hbox); replace HB := aM (below_step HB.out hb); clear hb hbox hg
          refine hK.out _ _ ⟨(blk_cell (blkP (Sep.p11 HS.out)) 0).trans rfl, (blk_cell (blkP (Sep.p11 HS.out)) 1).trans rfl, (blk_cell (blkP (Sep.p11 HS.out)) 2).trans rfl, (blk_cell (blkP (Sep.p11 HS.out)) 3).trans rfl, (blk_cell (blkP (Sep.p11 HS.out)) 4).trans rfl, (blk_cell (blkP (Sep.p11 HS.out)) 5).trans rfl, (blk_cell (blkP (Sep.p10 HS.out)) 0).trans rfl, (blk_cell (blkP (Sep.p10 HS.out)) 1).trans rfl, (blk_cell (blkP (Sep.p10 HS.out)) 2).trans rfl⟩ (fun hHeld => ?_)
          clear hK K
          refine nR ?_
          refine pO 9 none (fun K hK => ?_)
          refine gStS [.slice A772 t760.length c773, .slice A774 t761.length c775, .int .i64 t762, .int .i64 t763, .int .i64 t764, .slice A776 t765.length c777] #[.slice A772 t760.length c773, .slice A774 t761.length c775, .int .i64 t762, .int .i64 t763, .int .i64 t764, .slice A776 t765.length c777] (blkP (Sep.p0 HS.out)) ?_
          intro w879 hw hbox; replace HB := aM (hw.below HB.out (Sep.r0 HS.out).1); replace HS := aM (Sep.wr HS.out hw hbox); clear hw hbox
          refine hK.out _ _ ⟨(blk_cell (blkP (Sep.p11 HS.out)) 0).trans rfl, (blk_cell (blkP (Sep.p11 HS.out)) 1).trans rfl, (blk_cell (blkP (Sep.p11 HS.out)) 2).trans rfl, (blk_cell (blkP (Sep.p11 HS.out)) 3).trans rfl, (blk_cell (blkP (Sep.p11 HS.out)) 4).trans rfl, (blk_cell (blkP (Sep.p11 HS.out)) 5).trans rfl, (blk_cell (blkP (Sep.p10 HS.out)) 0).trans rfl, (blk_cell (blkP (Sep.p10 HS.out)) 1).trans rfl, (blk_cell (blkP (Sep.p10 HS.out)) 2).trans rfl⟩ (fun hHeld => ?_)
          clear hK K
          refine pP 10 (some 15) ?_
          replace HS := aM (Sep.f2 HS.out).drop
          replace HS := aM (Sep.f10 HS.out)
          replace HS := aM (Sep.f10 HS.out)
          replace HS := aM (Sep.f10 HS.out)
          replace HS := aM (Sep.f10 HS.out)
          replace HS := aM (Sep.f10 HS.out)
          replace HS := aM (Sep.f10 HS.out)
          replace HS := aM (Sep.f10 HS.out)
          replace HS := aM (Sep.f10 HS.out)
          replace HS := aM (Sep.f10 HS.out)
          replace HS := aM (Sep.f10 HS.out)
          replace HS := aM (Sep.f10 HS.out)
          exact norm_ (by first | (simp only [putAll, Act.put, List.setIfInBounds_toArray, List.set_cons_zero, List.set_cons_succ]; done) | (simp only [putAll, Act.put, List.setIfInBounds_toArray, List.set_cons_zero, List.set_cons_succ]; rfl)) (hCont (.agg #[.slice A651 t640.length c652, .slice A653 t641.length c654, .int .i64 t642, .int .i64 t643, .int .i64 t644, .slice A655 t645.length c656], .agg #[.int .i64 t700, .int .i64 t701, .int .i64 t702], .tuple #[.agg #[.slice A772 t760.length c773, .slice A774 t761.length c775, .int .i64 t762, .int .i64 t763, .int .i64 t764, .slice A776 t765.length c777], .bool t766], .tuple #[.agg #[.slice A772 t760.length c773, .slice A774 t761.length c775, .int .i64 t762, .int .i64 t763, .int .i64 t764, .slice A776 t765.length c777], .bool t766], .agg #[.slice A772 t760.length c773, .slice A774 t761.length c775, .int .i64 t762, .int .i64 t763, .int .i64 t764, .slice A776 t765.length c777], .bool t766, .pointer (some ⟨g819, 0, none⟩), .bool t766) _ ⟨_, _, _, _, _, _, _, _, _, _, _, _, _, _, _, rfl, HS.out, HB.out⟩)
        · skip
          refine gBxS 14 #[.slice none 0 0, .slice none 0 0, .int .i64 0, .int .i64 0, .int .i64 0, .slice none 0 0] 33 ?_
          intro g819 hg w820 hbox hb; replace HS := aM (Sep.blk HS.out hb HB.out.size hg hbox); replace HB := aM (below_step HB.out hb); clear hb hbox hg
          refine hK.out _ _ ⟨(blk_cell (blkP (Sep.p10 HS.out)) 0).trans rfl, (blk_cell (blkP (Sep.p10 HS.out)) 1).trans rfl, (blk_cell (blkP (Sep.p10 HS.out)) 2).trans rfl, (blk_cell (blkP (Sep.p10 HS.out)) 3).trans rfl, (blk_cell (blkP (Sep.p10 HS.out)) 4).trans rfl, (blk_cell (blkP (Sep.p10 HS.out)) 5).trans rfl, (blk_cell (blkP (Sep.p9 HS.out)) 0).trans rfl, (blk_cell (blkP (Sep.p9 HS.out)) 1).trans rfl, (blk_cell (blkP (Sep.p9 HS.out)) 2).trans rfl⟩ (fun hHeld => ?_)
          clear hK K
          refine nR ?_
          refine pO 4 (some 84) (fun K hK => ?_)
          refine gG Try.func44 #[.agg #[.slice A651 t640.length c652, .slice A653 t641.length c654, .int .i64 t642, .int .i64 t643, .int .i64 t644, .slice A655 t645.length c656], .agg #[.int .i64 t700, .int .i64 t701, .int .i64 t702]] ?_
          refine (impl_PutRecord.calls k _ _ t640 _ _ t641 t642 t643 t644 _ _ t645 t700 t701 t702 t760 t761 t762 t763 t764 t765 t766 _ (diskC0 (Sep.p1 HS.out)) (diskL0 (Sep.p1 HS.out)) (diskC1 (Sep.p1 HS.out)) (diskL1 (Sep.p1 HS.out)) (diskC2 (Sep.p1 HS.out)) (diskL2 (Sep.p1 HS.out)) A767.out).mono ?_
          rintro e w768 ⟨v769, v770, v771, rfl, ho0, ho1, ho2, hb⟩; refine ⟨_, rfl, ?_⟩
          obtain ⟨A772, c773, hz⟩ := Kd.R_slice ho0; subst hz
          obtain ⟨A774, c775, hz⟩ := Kd.R_slice ho1; subst hz
          obtain ⟨A776, c777, hz⟩ := Kd.S_slice ho2; subst hz
          replace HS := aM (Sep.disk HS.out hb HB.out.size ho0 ho1 ho2)
          replace HB := aM (below_step HB.out hb)
          clear ho0 ho1 ho2 hb
          refine hK.out _ _ ⟨(blk_cell (blkP (Sep.p11 HS.out)) 0).trans rfl, (blk_cell (blkP (Sep.p11 HS.out)) 1).trans rfl, (blk_cell (blkP (Sep.p11 HS.out)) 2).trans rfl, (blk_cell (blkP (Sep.p11 HS.out)) 3).trans rfl, (blk_cell (blkP (Sep.p11 HS.out)) 4).trans rfl, (blk_cell (blkP (Sep.p11 HS.out)) 5).trans rfl, (blk_cell (blkP (Sep.p10 HS.out)) 0).trans rfl, (blk_cell (blkP (Sep.p10 HS.out)) 1).trans rfl, (blk_cell (blkP (Sep.p10 HS.out)) 2).trans rfl⟩ (fun hHeld => ?_)
          clear hK K
          refine nR ?_
          refine pP 5 (some 79) ?_
          refine pP 6 (some 85) ?_
          refine pP 7 (some 86) ?_
          refine pO 9 none (fun K hK => ?_)
          replace HS := aM (Sep.f1 HS.out)
          refine gStS [.slice A772 t760.length c773, .slice A774 t761.length c775, .int .i64 t762, .int .i64 t763, .int .i64 t764, .slice A776 t765.length c777] #[.slice A772 t760.length c773, .slice A774 t761.length c775, .int .i64 t762, .int .i64 t763, .int .i64 t764, .slice A776 t765.length c777] (blkP (Sep.p0 HS.out)) ?_
          intro w879 hw hbox; replace HB := aM (hw.below HB.out (Sep.r0 HS.out).1); replace HS := aM (Sep.wr HS.out hw hbox); clear hw hbox
          refine hK.out _ _ ⟨(blk_cell (blkP (Sep.p11 HS.out)) 0).trans rfl, (blk_cell (blkP (Sep.p11 HS.out)) 1).trans rfl, (blk_cell (blkP (Sep.p11 HS.out)) 2).trans rfl, (blk_cell (blkP (Sep.p11 HS.out)) 3).trans rfl, (blk_cell (blkP (Sep.p11 HS.out)) 4).trans rfl, (blk_cell (blkP (Sep.p11 HS.out)) 5).trans rfl, (blk_cell (blkP (Sep.p10 HS.out)) 0).trans rfl, (blk_cell (blkP (Sep.p10 HS.out)) 1).trans rfl, (blk_cell (blkP (Sep.p10 HS.out)) 2).trans rfl⟩ (fun hHeld => ?_)
          clear hK K
          refine pP 10 (some 15) ?_
          replace HS := aM (Sep.f2 HS.out).drop
          replace HS := aM (Sep.f10 HS.out)
          replace HS := aM (Sep.f10 HS.out)
          replace HS := aM (Sep.f10 HS.out)
          replace HS := aM (Sep.f10 HS.out)
          replace HS := aM (Sep.f10 HS.out)
          replace HS := aM (Sep.f10 HS.out)
          replace HS := aM (Sep.f10 HS.out)
          replace HS := aM (Sep.f10 HS.out)
          replace HS := aM (Sep.f10 HS.out)
          replace HS := aM (Sep.f10 HS.out)
          replace HS := aM (Sep.f10 HS.out)
          exact norm_ (by first | (simp only [putAll, Act.put, List.setIfInBounds_toArray, List.set_cons_zero, List.set_cons_succ]; done) | (simp only [putAll, Act.put, List.setIfInBounds_toArray, List.set_cons_zero, List.set_cons_succ]; rfl)) (hCont (.agg #[.slice A651 t640.length c652, .slice A653 t641.length c654, .int .i64 t642, .int .i64 t643, .int .i64 t644, .slice A655 t645.length c656], .agg #[.int .i64 t700, .int .i64 t701, .int .i64 t702], .tuple #[.agg #[.slice A772 t760.length c773, .slice A774 t761.length c775, .int .i64 t762, .int .i64 t763, .int .i64 t764, .slice A776 t765.length c777], .bool t766], .tuple #[.agg #[.slice A772 t760.length c773, .slice A774 t761.length c775, .int .i64 t762, .int .i64 t763, .int .i64 t764, .slice A776 t765.length c777], .bool t766], .agg #[.slice A772 t760.length c773, .slice A774 t761.length c775, .int .i64 t762, .int .i64 t763, .int .i64 t764, .slice A776 t765.length c777], .bool t766, .pointer (some ⟨g819, 0, none⟩), .bool t766) _ ⟨_, _, _, _, _, _, _, _, _, _, _, _, _, _, _, rfl, HS.out, HB.out⟩)
      · skip
        refine gBxS 14 #[.slice none 0 0, .slice none 0 0, .int .i64 0, .int .i64 0, .int .i64 0, .slice none 0 0] 33 ?_
        intro g819 hg w820 hbox hb; replace HS := aM (Sep.blk HS.out hb HB.out.size hg hbox); replace HB := aM (below_step HB.out hb); clear hb hbox hg
        refine hK.out _ _ ⟨(blk_cell (blkP (Sep.p10 HS.out)) 0).trans rfl, (blk_cell (blkP (Sep.p10 HS.out)) 1).trans rfl, (blk_cell (blkP (Sep.p10 HS.out)) 2).trans rfl, (blk_cell (blkP (Sep.p10 HS.out)) 3).trans rfl, (blk_cell (blkP (Sep.p10 HS.out)) 4).trans rfl, (blk_cell (blkP (Sep.p10 HS.out)) 5).trans rfl, (blk_cell (blkP (Sep.p9 HS.out)) 0).trans rfl, (blk_cell (blkP (Sep.p9 HS.out)) 1).trans rfl, (blk_cell (blkP (Sep.p9 HS.out)) 2).trans rfl⟩ (fun hHeld => ?_)
        clear hK K
        refine nR ?_
        refine pO 3 (some 83) (fun K hK => ?_)
        refine gG Try.func43 #[.agg #[.int .i64 a1_0, .int .i64 a1_1, .int .i64 a1_2]] ?_
        refine (laws_toRecord.calls a1_0 a1_1 a1_2 t700 t701 t702 _ A703.out).mono ?_
        rintro e w704 ⟨rfl, hb⟩; refine ⟨_, rfl, ?_⟩
        replace HS := aM (HS.out.below hb)
        replace HB := aM (below_step HB.out hb)
        clear hb
        refine hK.out _ _ ⟨(blk_cell (blkP (Sep.p10 HS.out)) 0).trans rfl, (blk_cell (blkP (Sep.p10 HS.out)) 1).trans rfl, (blk_cell (blkP (Sep.p10 HS.out)) 2).trans rfl, (blk_cell (blkP (Sep.p10 HS.out)) 3).trans rfl, (blk_cell (blkP (Sep.p10 HS.out)) 4).trans rfl, (blk_cell (blkP (Sep.p10 HS.out)) 5).trans rfl, (blk_cell (blkP (Sep.p9 HS.out)) 0).trans rfl, (blk_cell (blkP (Sep.p9 HS.out)) 1).trans rfl, (blk_cell (blkP (Sep.p9 HS.out)) 2).trans rfl⟩ (fun hHeld => ?_)
        clear hK K
        refine nR ?_
        refine pO 4 (some 84) (fun K hK => ?_)
        refine gG Try.func44 #[.agg #[.slice A651 t640.length c652, .slice A653 t641.length c654, .int .i64 t642, .int .i64 t643, .int .i64 t644, .slice A655 t645.length c656], .agg #[.int .i64 t700, .int .i64 t701, .int .i64 t702]] ?_
        refine (impl_PutRecord.calls k _ _ t640 _ _ t641 t642 t643 t644 _ _ t645 t700 t701 t702 t760 t761 t762 t763 t764 t765 t766 _ (diskC0 (Sep.p1 HS.out)) (diskL0 (Sep.p1 HS.out)) (diskC1 (Sep.p1 HS.out)) (diskL1 (Sep.p1 HS.out)) (diskC2 (Sep.p1 HS.out)) (diskL2 (Sep.p1 HS.out)) A767.out).mono ?_
        rintro e w768 ⟨v769, v770, v771, rfl, ho0, ho1, ho2, hb⟩; refine ⟨_, rfl, ?_⟩
        obtain ⟨A772, c773, hz⟩ := Kd.R_slice ho0; subst hz
        obtain ⟨A774, c775, hz⟩ := Kd.R_slice ho1; subst hz
        obtain ⟨A776, c777, hz⟩ := Kd.S_slice ho2; subst hz
        replace HS := aM (Sep.disk HS.out hb HB.out.size ho0 ho1 ho2)
        replace HB := aM (below_step HB.out hb)
        clear ho0 ho1 ho2 hb
        refine hK.out _ _ ⟨(blk_cell (blkP (Sep.p11 HS.out)) 0).trans rfl, (blk_cell (blkP (Sep.p11 HS.out)) 1).trans rfl, (blk_cell (blkP (Sep.p11 HS.out)) 2).trans rfl, (blk_cell (blkP (Sep.p11 HS.out)) 3).trans rfl, (blk_cell (blkP (Sep.p11 HS.out)) 4).trans rfl, (blk_cell (blkP (Sep.p11 HS.out)) 5).trans rfl, (blk_cell (blkP (Sep.p10 HS.out)) 0).trans rfl, (blk_cell (blkP (Sep.p10 HS.out)) 1).trans rfl, (blk_cell (blkP (Sep.p10 HS.out)) 2).trans rfl⟩ (fun hHeld => ?_)
        clear hK K
        refine nR ?_
        refine pP 5 (some 79) ?_
        refine pP 6 (some 85) ?_
        refine pP 7 (some 86) ?_
        refine pO 9 none (fun K hK => ?_)
        replace HS := aM (Sep.f1 HS.out)
        refine gStS [.slice A772 t760.length c773, .slice A774 t761.length c775, .int .i64 t762, .int .i64 t763, .int .i64 t764, .slice A776 t765.length c777] #[.slice A772 t760.length c773, .slice A774 t761.length c775, .int .i64 t762, .int .i64 t763, .int .i64 t764, .slice A776 t765.length c777] (blkP (Sep.p0 HS.out)) ?_
        intro w879 hw hbox; replace HB := aM (hw.below HB.out (Sep.r0 HS.out).1); replace HS := aM (Sep.wr HS.out hw hbox); clear hw hbox
        refine hK.out _ _ ⟨(blk_cell (blkP (Sep.p11 HS.out)) 0).trans rfl, (blk_cell (blkP (Sep.p11 HS.out)) 1).trans rfl, (blk_cell (blkP (Sep.p11 HS.out)) 2).trans rfl, (blk_cell (blkP (Sep.p11 HS.out)) 3).trans rfl, (blk_cell (blkP (Sep.p11 HS.out)) 4).trans rfl, (blk_cell (blkP (Sep.p11 HS.out)) 5).trans rfl, (blk_cell (blkP (Sep.p10 HS.out)) 0).trans rfl, (blk_cell (blkP (Sep.p10 HS.out)) 1).trans rfl, (blk_cell (blkP (Sep.p10 HS.out)) 2).trans rfl⟩ (fun hHeld => ?_)
        clear hK K
        refine pP 10 (some 15) ?_
        replace HS := aM (Sep.f2 HS.out).drop
        replace HS := aM (Sep.f10 HS.out)
        replace HS := aM (Sep.f10 HS.out)
        replace HS := aM (Sep.f10 HS.out)
        replace HS := aM (Sep.f10 HS.out)
        replace HS := aM (Sep.f10 HS.out)
        replace HS := aM (Sep.f10 HS.out)
        replace HS := aM (Sep.f10 HS.out)
        replace HS := aM (Sep.f10 HS.out)
        replace HS := aM (Sep.f10 HS.out)
        replace HS := aM (Sep.f10 HS.out)
        replace HS := aM (Sep.f10 HS.out)
        exact norm_ (by first | (simp only [putAll, Act.put, List.setIfInBounds_toArray, List.set_cons_zero, List.set_cons_succ]; done) | (simp only [putAll, Act.put, List.setIfInBounds_toArray, List.set_cons_zero, List.set_cons_succ]; rfl)) (hCont (.agg #[.slice A651 t640.length c652, .slice A653 t641.length c654, .int .i64 t642, .int .i64 t643, .int .i64 t644, .slice A655 t645.length c656], .agg #[.int .i64 t700, .int .i64 t701, .int .i64 t702], .tuple #[.agg #[.slice A772 t760.length c773, .slice A774 t761.length c775, .int .i64 t762, .int .i64 t763, .int .i64 t764, .slice A776 t765.length c777], .bool t766], .tuple #[.agg #[.slice A772 t760.length c773, .slice A774 t761.length c775, .int .i64 t762, .int .i64 t763, .int .i64 t764, .slice A776 t765.length c777], .bool t766], .agg #[.slice A772 t760.length c773, .slice A774 t761.length c775, .int .i64 t762, .int .i64 t763, .int .i64 t764, .slice A776 t765.length c777], .bool t766, .pointer (some ⟨g819, 0, none⟩), .bool t766) _ ⟨_, _, _, _, _, _, _, _, _, _, _, _, _, _, _, rfl, HS.out, HB.out⟩)
    · skip
      refine gBxS 14 #[.slice none 0 0, .slice none 0 0, .int .i64 0, .int .i64 0, .int .i64 0, .slice none 0 0] 33 ?_
      intro g819 hg w820 hbox hb; replace HS := aM (Sep.blk HS.out hb HB.out.size hg hbox); replace HB := aM (below_step HB.out hb); clear hb hbox hg
      refine hK.out _ _ ⟨(blk_cell (blkP (Sep.p9 HS.out)) 0).trans rfl, (blk_cell (blkP (Sep.p9 HS.out)) 1).trans rfl, (blk_cell (blkP (Sep.p9 HS.out)) 2).trans rfl, (blk_cell (blkP (Sep.p9 HS.out)) 3).trans rfl, (blk_cell (blkP (Sep.p9 HS.out)) 4).trans rfl, (blk_cell (blkP (Sep.p9 HS.out)) 5).trans rfl, (blk_cell (blkP (Sep.p8 HS.out)) 0).trans rfl, (blk_cell (blkP (Sep.p8 HS.out)) 1).trans rfl, (blk_cell (blkP (Sep.p8 HS.out)) 2).trans rfl⟩ (fun hHeld => ?_)
      clear hK K
      refine nR ?_
      refine pO 1 (some 81) (fun K hK => ?_)
      refine gG Try.func17 #[.agg #[.slice A0_0 l0_0.length c0_0, .slice A0_1 l0_1.length c0_1, .int .i64 a0_2, .int .i64 a0_3, .int .i64 a0_4, .slice A0_5 l0_5.length c0_5]] ?_
      refine (laws_toDisk.calls k _ _ l0_0 _ _ l0_1 a0_2 a0_3 a0_4 _ _ l0_5 t640 t641 t642 t643 t644 t645 _ (Kd.C_below HR0_0.out.1 HB.out) HR0_0.out.2 (Kd.C_below HR0_1.out.1 HB.out) HR0_1.out.2 (Kd.C_below HR0_5.out.1 HB.out) HR0_5.out.2 A646.out).mono ?_
      rintro e w647 ⟨v648, v649, v650, rfl, ho0, ho1, ho2, hb⟩; refine ⟨_, rfl, ?_⟩
      obtain ⟨A651, c652, hz⟩ := Kd.R_slice ho0; subst hz
      obtain ⟨A653, c654, hz⟩ := Kd.R_slice ho1; subst hz
      obtain ⟨A655, c656, hz⟩ := Kd.S_slice ho2; subst hz
      replace HS := aM (Sep.disk HS.out hb HB.out.size ho0 ho1 ho2)
      replace HB := aM (below_step HB.out hb)
      clear ho0 ho1 ho2 hb
      refine hK.out _ _ ⟨(blk_cell (blkP (Sep.p10 HS.out)) 0).trans rfl, (blk_cell (blkP (Sep.p10 HS.out)) 1).trans rfl, (blk_cell (blkP (Sep.p10 HS.out)) 2).trans rfl, (blk_cell (blkP (Sep.p10 HS.out)) 3).trans rfl, (blk_cell (blkP (Sep.p10 HS.out)) 4).trans rfl, (blk_cell (blkP (Sep.p10 HS.out)) 5).trans rfl, (blk_cell (blkP (Sep.p9 HS.out)) 0).trans rfl, (blk_cell (blkP (Sep.p9 HS.out)) 1).trans rfl, (blk_cell (blkP (Sep.p9 HS.out)) 2).trans rfl⟩ (fun hHeld => ?_)
      clear hK K
      refine nR ?_
      refine pO 3 (some 83) (fun K hK => ?_)
      refine gG Try.func43 #[.agg #[.int .i64 a1_0, .int .i64 a1_1, .int .i64 a1_2]] ?_
      refine (laws_toRecord.calls a1_0 a1_1 a1_2 t700 t701 t702 _ A703.out).mono ?_
      rintro e w704 ⟨rfl, hb⟩; refine ⟨_, rfl, ?_⟩
      replace HS := aM (HS.out.below hb)
      replace HB := aM (below_step HB.out hb)
      clear hb
      refine hK.out _ _ ⟨(blk_cell (blkP (Sep.p10 HS.out)) 0).trans rfl, (blk_cell (blkP (Sep.p10 HS.out)) 1).trans rfl, (blk_cell (blkP (Sep.p10 HS.out)) 2).trans rfl, (blk_cell (blkP (Sep.p10 HS.out)) 3).trans rfl, (blk_cell (blkP (Sep.p10 HS.out)) 4).trans rfl, (blk_cell (blkP (Sep.p10 HS.out)) 5).trans rfl, (blk_cell (blkP (Sep.p9 HS.out)) 0).trans rfl, (blk_cell (blkP (Sep.p9 HS.out)) 1).trans rfl, (blk_cell (blkP (Sep.p9 HS.out)) 2).trans rfl⟩ (fun hHeld => ?_)
      clear hK K
      refine nR ?_
      refine pO 4 (some 84) (fun K hK => ?_)
      refine gG Try.func44 #[.agg #[.slice A651 t640.length c652, .slice A653 t641.length c654, .int .i64 t642, .int .i64 t643, .int .i64 t644, .slice A655 t645.length c656], .agg #[.int .i64 t700, .int .i64 t701, .int .i64 t702]] ?_
      refine (impl_PutRecord.calls k _ _ t640 _ _ t641 t642 t643 t644 _ _ t645 t700 t701 t702 t760 t761 t762 t763 t764 t765 t766 _ (diskC0 (Sep.p0 HS.out)) (diskL0 (Sep.p0 HS.out)) (diskC1 (Sep.p0 HS.out)) (diskL1 (Sep.p0 HS.out)) (diskC2 (Sep.p0 HS.out)) (diskL2 (Sep.p0 HS.out)) A767.out).mono ?_
      rintro e w768 ⟨v769, v770, v771, rfl, ho0, ho1, ho2, hb⟩; refine ⟨_, rfl, ?_⟩
      obtain ⟨A772, c773, hz⟩ := Kd.R_slice ho0; subst hz
      obtain ⟨A774, c775, hz⟩ := Kd.R_slice ho1; subst hz
      obtain ⟨A776, c777, hz⟩ := Kd.S_slice ho2; subst hz
      replace HS := aM (Sep.disk HS.out hb HB.out.size ho0 ho1 ho2)
      replace HB := aM (below_step HB.out hb)
      clear ho0 ho1 ho2 hb
      refine hK.out _ _ ⟨(blk_cell (blkP (Sep.p11 HS.out)) 0).trans rfl, (blk_cell (blkP (Sep.p11 HS.out)) 1).trans rfl, (blk_cell (blkP (Sep.p11 HS.out)) 2).trans rfl, (blk_cell (blkP (Sep.p11 HS.out)) 3).trans rfl, (blk_cell (blkP (Sep.p11 HS.out)) 4).trans rfl, (blk_cell (blkP (Sep.p11 HS.out)) 5).trans rfl, (blk_cell (blkP (Sep.p10 HS.out)) 0).trans rfl, (blk_cell (blkP (Sep.p10 HS.out)) 1).trans rfl, (blk_cell (blkP (Sep.p10 HS.out)) 2).trans rfl⟩ (fun hHeld => ?_)
      clear hK K
      refine nR ?_
      refine pP 5 (some 79) ?_
      refine pP 6 (some 85) ?_
      refine pP 7 (some 86) ?_
      refine pO 9 none (fun K hK => ?_)
      replace HS := aM (Sep.f2 HS.out)
      refine gStS [.slice A772 t760.length c773, .slice A774 t761.length c775, .int .i64 t762, .int .i64 t763, .int .i64 t764, .slice A776 t765.length c777] #[.slice A772 t760.length c773, .slice A774 t761.length c775, .int .i64 t762, .int .i64 t763, .int .i64 t764, .slice A776 t765.length c777] (blkP (Sep.p0 HS.out)) ?_
      intro w879 hw hbox; replace HB := aM (hw.below HB.out (Sep.r0 HS.out).1); replace HS := aM (Sep.wr HS.out hw hbox); clear hw hbox
      refine hK.out _ _ ⟨(blk_cell (blkP (Sep.p11 HS.out)) 0).trans rfl, (blk_cell (blkP (Sep.p11 HS.out)) 1).trans rfl, (blk_cell (blkP (Sep.p11 HS.out)) 2).trans rfl, (blk_cell (blkP (Sep.p11 HS.out)) 3).trans rfl, (blk_cell (blkP (Sep.p11 HS.out)) 4).trans rfl, (blk_cell (blkP (Sep.p11 HS.out)) 5).trans rfl, (blk_cell (blkP (Sep.p10 HS.out)) 0).trans rfl, (blk_cell (blkP (Sep.p10 HS.out)) 1).trans rfl, (blk_cell (blkP (Sep.p10 HS.out)) 2).trans rfl⟩ (fun hHeld => ?_)
      clear hK K
      refine pP 10 (some 15) ?_
      replace HS := aM (Sep.f2 HS.out).drop
      replace HS := aM (Sep.f10 HS.out)
      replace HS := aM (Sep.f10 HS.out)
      replace HS := aM (Sep.f10 HS.out)
      replace HS := aM (Sep.f10 HS.out)
      replace HS := aM (Sep.f10 HS.out)
      replace HS := aM (Sep.f10 HS.out)
      replace HS := aM (Sep.f10 HS.out)
      replace HS := aM (Sep.f10 HS.out)
      replace HS := aM (Sep.f10 HS.out)
      replace HS := aM (Sep.f10 HS.out)
      replace HS := aM (Sep.f10 HS.out)
      exact norm_ (by first | (simp only [putAll, Act.put, List.setIfInBounds_toArray, List.set_cons_zero, List.set_cons_succ]; done) | (simp only [putAll, Act.put, List.setIfInBounds_toArray, List.set_cons_zero, List.set_cons_succ]; rfl)) (hCont (.agg #[.slice A651 t640.length c652, .slice A653 t641.length c654, .int .i64 t642, .int .i64 t643, .int .i64 t644, .slice A655 t645.length c656], .agg #[.int .i64 t700, .int .i64 t701, .int .i64 t702], .tuple #[.agg #[.slice A772 t760.length c773, .slice A774 t761.length c775, .int .i64 t762, .int .i64 t763, .int .i64 t764, .slice A776 t765.length c777], .bool t766], .tuple #[.agg #[.slice A772 t760.length c773, .slice A774 t761.length c775, .int .i64 t762, .int .i64 t763, .int .i64 t764, .slice A776 t765.length c777], .bool t766], .agg #[.slice A772 t760.length c773, .slice A774 t761.length c775, .int .i64 t762, .int .i64 t763, .int .i64 t764, .slice A776 t765.length c777], .bool t766, .pointer (some ⟨g819, 0, none⟩), .bool t766) _ ⟨_, _, _, _, _, _, _, _, _, _, _, _, _, _, _, rfl, HS.out, HB.out⟩)
  rintro _ w941 ⟨g819, x939, y940, A651, c652, A653, c654, A655, c656, A772, c773, A774, c775, A776, c777, rfl, hs_, hb_⟩
  replace HS := aM hs_
  replace HB := aM hb_
  clear hs_ hb_ hHeld
  refine norm_ (a' := ?_) ?_ ?_
  rotate_left
  · simp only [putAll, Act.put, List.setIfInBounds_toArray, List.set_cons_zero, List.set_cons_succ]
    rfl
  refine done_ (by kernel_rfl) ?_
  replace h := bE h; obtain ⟨t943, A944, h⟩ := h
  replace h := ifN h; obtain ⟨hq, h⟩ := h
  subst hq
  replace h := ifN h; obtain ⟨c946, h⟩ := h
  have c946b : (t766 == t140) = true := by rw [c946]; simp
  replace h := bE h; obtain ⟨t948, A949, h⟩ := h
  replace h := ifM h; obtain ⟨c951, h⟩ := h
  have c951b : decide (t948 < 0) = false := decide_eq_false c951
  clear c951
  replace h := ifN h; obtain ⟨c952, h⟩ := h
  have c952b : (t948 != t626) = false := bne_eq_false_iff_eq.mpr c952
  clear c952
  go_wp2_with (first | ((with_reducible refine gate_dst (N := 87) rfl ?_); refine gLd 87 (blkP (Sep.p0 HS.out)) ?_; (simp only [Act.put, List.setIfInBounds_toArray, List.set_cons_zero, List.set_cons_succ])) | ((with_reducible refine gate_dst (N := 88) rfl ?_); refine gLd 88 (blkP (Sep.p7 HS.out)) ?_; (simp only [Act.put, List.setIfInBounds_toArray, List.set_cons_zero, List.set_cons_succ])) | ((with_reducible refine gate_callee (f := 19) rfl ?_); (with_reducible refine gate_dst (N := 89) rfl ?_); refine gL (some 89) Try.func19 #[.agg #[.slice A772 t760.length c773, .slice A774 t761.length c775, .int .i64 t762, .int .i64 t763, .int .i64 t764, .slice A776 t765.length c777], .agg #[.slice A146 t134.length c147, .slice A148 t135.length c149, .int .i64 t136, .int .i64 t137, .int .i64 t138, .slice A150 t139.length c151]] ?_; refine (laws_eqDisk.calls k _ _ t760 _ _ t761 t762 t763 t764 _ _ t765 _ _ t134 _ _ t135 t136 t137 t138 _ _ t139 true _ (diskC0 (Sep.p1 HS.out)) (diskL0 (Sep.p1 HS.out)) (diskC1 (Sep.p1 HS.out)) (diskL1 (Sep.p1 HS.out)) (diskC2 (Sep.p1 HS.out)) (diskL2 (Sep.p1 HS.out)) (diskC0 (Sep.p8 HS.out)) (diskL0 (Sep.p8 HS.out)) (diskC1 (Sep.p8 HS.out)) (diskL1 (Sep.p8 HS.out)) (diskC2 (Sep.p8 HS.out)) (diskL2 (Sep.p8 HS.out)) A944.out).mono ?_; rintro e w945 ⟨rfl, hb⟩; refine ⟨_, rfl, ?_⟩; replace HS := aM (HS.out.below hb); replace HB := aM (below_step HB.out hb); clear hb; (simp only [Act.put, List.setIfInBounds_toArray, List.set_cons_zero, List.set_cons_succ])) | ((with_reducible refine gate_dst (N := 96) rfl ?_); refine gLd 96 (blkP (Sep.p5 HS.out)) ?_; (simp only [Act.put, List.setIfInBounds_toArray, List.set_cons_zero, List.set_cons_succ])) | ((with_reducible refine gate_callee (f := 26) rfl ?_); (with_reducible refine gate_dst (N := 98) rfl ?_); refine gL (some 98) Try.func26 #[.agg #[.slice A413 t627.length c414, .slice A415 t628.length c416, .int .i64 t403, .int .i64 t404, .int .i64 t405, .slice A417 t629.length c418], .int .i64 1] ?_; refine (laws_heldDisk.calls k _ _ t627 _ _ t628 t403 t404 t405 _ _ t629 1 t948 _ (diskC0 (Sep.p2 HS.out)) (diskL0 (Sep.p2 HS.out)) (diskC1 (Sep.p2 HS.out)) (diskL1 (Sep.p2 HS.out)) (diskC2 (Sep.p2 HS.out)) (diskL2 (Sep.p2 HS.out)) A949.out).mono ?_; rintro e w950 ⟨rfl, hb⟩; refine ⟨_, rfl, ?_⟩; replace HS := aM (HS.out.below hb); replace HB := aM (below_step HB.out hb); clear hb; (simp only [Act.put, List.setIfInBounds_toArray, List.set_cons_zero, List.set_cons_succ])))
  obtain rfl := Option.some.inj h
  (try go_wp2)
  go_ret
  exact ⟨rfl, HB.out⟩

end Go.Proofs.Ytogilihkphjjbaa.Q
