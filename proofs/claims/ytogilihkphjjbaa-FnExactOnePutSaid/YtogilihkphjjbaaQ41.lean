/- Functions of the program as plain Lean functions, and that a call of each comes to what its function tells. Written by a program of this seat. -/
import Derived.Test.YtogilihkphjjbaaQ0
import Derived.Test.YtogilihkphjjbaaQ2
import Derived.Test.YtogilihkphjjbaaQ4
import Derived.Test.YtogilihkphjjbaaQ5
import Derived.Test.YtogilihkphjjbaaQ6
import Derived.Test.YtogilihkphjjbaaQ7
import Derived.Test.YtogilihkphjjbaaQ14
import Derived.Test.YtogilihkphjjbaaQ15
import Derived.Test.YtogilihkphjjbaaQ17
import Derived.Test.YtogilihkphjjbaaQ36
import Derived.Test.YtogilihkphjjbaaQ40
namespace Go.Proofs.Ytogilihkphjjbaa.Q
open Go.RowKit Go.Proofs.YtogilihkphjjbaaW.PrintWords Go.Proofs.YtogilihkphjjbaaW.PrintLast Go.Proofs.YtogilihkphjjbaaW.PrintMore
attribute [local go_sem] max2_int min2_int max_two min_two max_three min_three max_four min_four   -- for this text's walks alone
set_option linter.unusedVariables false
set_option linter.unusedSimpArgs false

/-! ### laws_FnExactOnePut: function 9 -/
def laws_FnExactOnePut.f (k : Nat) (l0_0 : List Int) (l0_1 : List Int) (a0_2 : Int) (a0_3 : Int) (a0_4 : Int) (l0_5 : List (S51)) (a1_0 : Int) (a1_1 : Int) (l1_2 : List Int) (a1_3 : Int) (a1_4 : Int) (a1_5 : Int) : Option Bool := ((laws_szDisk.f k l0_0 l0_1 a0_2 a0_3 a0_4 l0_5 1048576).bind fun b7 => (if b7 < 0 then some true else ((laws_szPut.f a1_0 a1_1 l1_2 a1_3 a1_4 a1_5 b7).bind fun b12 => (if b12 < 0 then some true else ((laws_toDisk.f k l0_0 l0_1 a0_2 a0_3 a0_4 l0_5).bind fun b18 => ((laws_toPut.f k a1_0 a1_1 l1_2 a1_3 a1_4 a1_5).bind fun b78 => ((spec_OnePut.f k b18.1 b18.2.1 b18.2.2.1 b18.2.2.2.1 b18.2.2.2.2.1 b18.2.2.2.2.2 b78.1 b78.2.1 b78.2.2.1 b78.2.2.2.1 b78.2.2.2.2.1 b78.2.2.2.2.2).bind fun b138 => ((laws_toDisk.f k l0_0 l0_1 a0_2 a0_3 a0_4 l0_5).bind fun b321 => ((laws_toPut.f k a1_0 a1_1 l1_2 a1_3 a1_4 a1_5).bind fun b344 => ((impl_OnePut.f k b321.1 b321.2.1 b321.2.2.1 b321.2.2.2.1 b321.2.2.2.2.1 b321.2.2.2.2.2 b344.1 b344.2.1 b344.2.2.1 b344.2.2.2.1 b344.2.2.2.2.1 b344.2.2.2.2.2).bind fun b361 => ((laws_eqDisk.f k b361.1 b361.2.1 b361.2.2.1 b361.2.2.2.1 b361.2.2.2.2.1 b361.2.2.2.2.2 b138.1 b138.2.1 b138.2.2.1 b138.2.2.2.1 b138.2.2.2.2.1 b138.2.2.2.2.2).bind fun b384 => (if b384 = true then ((laws_toDisk.f k l0_0 l0_1 a0_2 a0_3 a0_4 l0_5).bind fun b389 => ((laws_eqDisk.f k b321.1 b321.2.1 b321.2.2.1 b321.2.2.2.1 b321.2.2.2.2.1 b321.2.2.2.2.2 b389.1 b389.2.1 b389.2.2.1 b389.2.2.2.1 b389.2.2.2.2.1 b389.2.2.2.2.2).bind fun b408 => (if b408 = true then ((laws_toPut.f k a1_0 a1_1 l1_2 a1_3 a1_4 a1_5).bind fun b413 => ((laws_eqPut.f k b344.1 b344.2.1 b344.2.2.1 b344.2.2.2.1 b344.2.2.2.2.1 b344.2.2.2.2.2 b413.1 b413.2.1 b413.2.2.1 b413.2.2.2.1 b413.2.2.2.2.1 b413.2.2.2.2.2).bind fun b426 => (if b426 = true then ((laws_markDisk.f k b321.1 b321.2.1 b321.2.2.1 b321.2.2.2.1 b321.2.2.2.2.1 b321.2.2.2.2.2 1).bind fun b430 => ((laws_markPut.f k b344.1 b344.2.1 b344.2.2.1 b344.2.2.2.1 b344.2.2.2.2.1 b344.2.2.2.2.2 b430.1).bind fun b437 => (if b437.1 < 0 then none else ((laws_eqDisk.f k b361.1 b361.2.1 b361.2.2.1 b361.2.2.2.1 b361.2.2.2.2.1 b361.2.2.2.2.2 b138.1 b138.2.1 b138.2.2.1 b138.2.2.2.1 b138.2.2.2.2.1 b138.2.2.2.2.2).bind fun b443 => (if b443 = true then ((laws_markDisk.f k b361.1 b361.2.1 b361.2.2.1 b361.2.2.2.1 b361.2.2.2.2.1 b361.2.2.2.2.2 1).bind fun b447 => ((laws_heldDisk.f k b447.2.1 b447.2.2.1 b361.2.2.1 b361.2.2.2.1 b361.2.2.2.2.1 b447.2.2.2 1).bind fun b454 => (if b454 < 0 then none else (if b454 = b447.1 then ((laws_toDisk.f k l0_0 l0_1 a0_2 a0_3 a0_4 l0_5).bind fun b461 => ((laws_toPut.f k a1_0 a1_1 l1_2 a1_3 a1_4 a1_5).bind fun b521 => ((impl_OnePut.f k b461.1 b461.2.1 b461.2.2.1 b461.2.2.2.1 b461.2.2.2.2.1 b461.2.2.2.2.2 b521.1 b521.2.1 b521.2.2.1 b521.2.2.2.1 b521.2.2.2.2.1 b521.2.2.2.2.2).bind fun b581 => ((laws_eqDisk.f k b581.1 b581.2.1 b581.2.2.1 b581.2.2.2.1 b581.2.2.2.2.1 b581.2.2.2.2.2 b138.1 b138.2.1 b138.2.2.1 b138.2.2.2.1 b138.2.2.2.2.1 b138.2.2.2.2.2).bind fun b764 => (if b764 = true then ((laws_heldDisk.f k b447.2.1 b447.2.2.1 b361.2.2.1 b361.2.2.2.1 b361.2.2.2.2.1 b447.2.2.2 1).bind fun b768 => (if b768 < 0 then none else (if b768 = b447.1 then (some true) else none))) else none))))) else none)))) else none))))) else none))) else none))) else none))))))))))))
set_option maxHeartbeats 40000000 in
set_option maxRecDepth 100000 in
theorem laws_FnExactOnePut.calls (k : Nat) (A0_0 : Option Addr) (c0_0 : Nat) (l0_0 : List Int) (A0_1 : Option Addr) (c0_1 : Nat) (l0_1 : List Int) (a0_2 : Int) (a0_3 : Int) (a0_4 : Int) (A0_5 : Option Addr) (c0_5 : Nat) (l0_5 : List (S51)) (a1_0 : Int) (a1_1 : Int) (A1_2 : Option Addr) (c1_2 : Nat) (l1_2 : List Int) (a1_3 : Int) (a1_4 : Int) (a1_5 : Int) (r : Bool) (w : World) (hr0_0 : Kd.C (Kd.int .u8) w A0_0 l0_0.length l0_0) (hc0_0 : l0_0.length ≤ c0_0) (hr0_1 : Kd.C (Kd.int .u8) w A0_1 l0_1.length l0_1) (hc0_1 : l0_1.length ≤ c0_1) (hr0_5 : Kd.C k51 w A0_5 l0_5.length l0_5) (hc0_5 : l0_5.length ≤ c0_5) (hr1_2 : Kd.C (Kd.int .u8) w A1_2 l1_2.length l1_2) (hc1_2 : l1_2.length ≤ c1_2) (h : laws_FnExactOnePut.f k l0_0 l0_1 a0_2 a0_3 a0_4 l0_5 a1_0 a1_1 l1_2 a1_3 a1_4 a1_5 = some r) :
    Calls Try.prog 9 #[.agg #[.slice A0_0 l0_0.length c0_0, .slice A0_1 l0_1.length c0_1, .int .i64 a0_2, .int .i64 a0_3, .int .i64 a0_4, .slice A0_5 l0_5.length c0_5], .agg #[.int .i64 a1_0, .int .i64 a1_1, .slice A1_2 l1_2.length c1_2, .int .i64 a1_3, .int .i64 a1_4, .int .i64 a1_5]] w fun e w' => e = .returned (.bool r) ∧ Below w.heap.size w w' := by
  have hu27 := Try.underlying27
  have hu33 := Try.underlying33
  have hu51 := Try.underlying51
  have hu55 := Try.underlying55
  have HR0_0 := aM (And.intro hr0_0 hc0_0)
  have HR0_1 := aM (And.intro hr0_1 hc0_1)
  have HR0_5 := aM (And.intro hr0_5 hc0_5)
  have HR1_2 := aM (And.intro hr1_2 hc1_2)
  clear hr0_0 hc0_0 hr0_1 hc0_1 hr0_5 hc0_5 hr1_2 hc1_2
  have HB := aM (Below.refl w.heap.size w)
  have HS := aM (show Sep w.heap.size w [] from trivial)
  unfold laws_FnExactOnePut.f at h
  go_enter Try.func9, Try.ntmps9
  replace h := bE h; obtain ⟨t8, A9, h⟩ := h
  go_wp2_with (first | ((with_reducible refine gate_dst (N := 2) rfl ?_); refine gBx 2 #[.slice A0_0 l0_0.length c0_0, .slice A0_1 l0_1.length c0_1, .int .i64 a0_2, .int .i64 a0_3, .int .i64 a0_4, .slice A0_5 l0_5.length c0_5] 27 ?_; intro g1 hg w2 hbox hb; replace HS := aM (Sep.blk HS.out hb HB.out.size hg hbox); replace HB := aM (below_step HB.out hb); clear hb hbox hg; (simp only [Act.put, List.setIfInBounds_toArray, List.set_cons_zero, List.set_cons_succ])) | ((with_reducible refine gate_dst (N := 3) rfl ?_); refine gBx 3 #[.int .i64 a1_0, .int .i64 a1_1, .slice A1_2 l1_2.length c1_2, .int .i64 a1_3, .int .i64 a1_4, .int .i64 a1_5] 51 ?_; intro g4 hg w5 hbox hb; replace HS := aM (Sep.blk HS.out hb HB.out.size hg hbox); replace HB := aM (below_step HB.out hb); clear hb hbox hg; (simp only [Act.put, List.setIfInBounds_toArray, List.set_cons_zero, List.set_cons_succ])) | ((with_reducible refine gate_dst (N := 14) rfl ?_); refine gLd 14 (blkP (Sep.p1 HS.out)) ?_; (simp only [Act.put, List.setIfInBounds_toArray, List.set_cons_zero, List.set_cons_succ])) | ((with_reducible refine gate_callee (f := 15) rfl ?_); (with_reducible refine gate_dst (N := 16) rfl ?_); refine gL (some 16) Try.func15 #[.agg #[.slice A0_0 l0_0.length c0_0, .slice A0_1 l0_1.length c0_1, .int .i64 a0_2, .int .i64 a0_3, .int .i64 a0_4, .slice A0_5 l0_5.length c0_5], .int .i64 1048576] ?_; refine (laws_szDisk.calls k _ _ l0_0 _ _ l0_1 a0_2 a0_3 a0_4 _ _ l0_5 1048576 t8 _ (Kd.C_below HR0_0.out.1 HB.out) HR0_0.out.2 (Kd.C_below HR0_1.out.1 HB.out) HR0_1.out.2 (Kd.C_below HR0_5.out.1 HB.out) HR0_5.out.2 A9.out).mono ?_; rintro e w10 ⟨rfl, hb⟩; refine ⟨_, rfl, ?_⟩; replace HS := aM (HS.out.below hb); replace HB := aM (below_step HB.out hb); clear hb; (simp only [Act.put, List.setIfInBounds_toArray, List.set_cons_zero, List.set_cons_succ])) | ((with_reducible refine gate_dst (N := 18) rfl ?_); generalize hG_ : wpList _ _ _ _ _ _ = G_))
  subst hG_
  by_cases c11 : t8 < 0
  · rw [if_pos c11] at h
    have c11b0 : decide (t8 < 0) = true := decide_eq_true c11
    obtain rfl := Option.some.inj h
    clear h c11
    go_wp2
    go_ret
    exact ⟨rfl, HB.out⟩
  rw [if_neg c11] at h
  have c11b0 : decide (t8 < 0) = false := decide_eq_false c11
  clear c11
  replace h := bE h; obtain ⟨t13, A14, h⟩ := h
  go_wp2_with (first | ((with_reducible refine gate_dst (N := 19) rfl ?_); refine gLd 19 (blkP (Sep.p0 HS.out)) ?_; (simp only [Act.put, List.setIfInBounds_toArray, List.set_cons_zero, List.set_cons_succ])) | ((with_reducible refine gate_callee (f := 36) rfl ?_); (with_reducible refine gate_dst (N := 21) rfl ?_); refine gL (some 21) Try.func36 #[.agg #[.int .i64 a1_0, .int .i64 a1_1, .slice A1_2 l1_2.length c1_2, .int .i64 a1_3, .int .i64 a1_4, .int .i64 a1_5], .int .i64 t8] ?_; refine (laws_szPut.calls a1_0 a1_1 _ _ l1_2 a1_3 a1_4 a1_5 t8 t13 _ (Kd.C_below HR1_2.out.1 HB.out) HR1_2.out.2 A14.out).mono ?_; rintro e w15 ⟨rfl, hb⟩; refine ⟨_, rfl, ?_⟩; replace HS := aM (HS.out.below hb); replace HB := aM (below_step HB.out hb); clear hb; (simp only [Act.put, List.setIfInBounds_toArray, List.set_cons_zero, List.set_cons_succ])) | ((with_reducible refine gate_dst (N := 23) rfl ?_); generalize hG_ : wpList _ _ _ _ _ _ = G_))
  subst hG_
  by_cases c16 : t13 < 0
  · rw [if_pos c16] at h
    have c16b0 : decide (t13 < 0) = true := decide_eq_true c16
    obtain rfl := Option.some.inj h
    clear h c16
    go_wp2
    go_ret
    exact ⟨rfl, HB.out⟩
  rw [if_neg c16] at h
  have c16b0 : decide (t13 < 0) = false := decide_eq_false c16
  clear c16
  replace h := bE h; obtain ⟨⟨t19, t20, t21, t22, t23, t24⟩, A25, h⟩ := h
  dsimp only at h
  replace h := bE h; obtain ⟨⟨t79, t80, t81, t82, t83, t84⟩, A85, h⟩ := h
  dsimp only at h
  replace h := bE h; obtain ⟨⟨t139, t140, t141, t142, t143, t144⟩, A145, h⟩ := h
  dsimp only at h
  go_wp2_with (first | fail)
  replace HS := aM (HS.out.below (bd1 rfl))
  replace HB := aM (below_step HB.out (bd1 rfl))
  refine start_ (n := 7) (S := fun w' => w'.cell? ⟨g1, 0, none⟩ = some (.slice A0_0 l0_0.length c0_0) ∧ w'.cell? ⟨g1, 1, none⟩ = some (.slice A0_1 l0_1.length c0_1) ∧ w'.cell? ⟨g1, 2, none⟩ = some (.int .i64 a0_2) ∧ w'.cell? ⟨g1, 3, none⟩ = some (.int .i64 a0_3) ∧ w'.cell? ⟨g1, 4, none⟩ = some (.int .i64 a0_4) ∧ w'.cell? ⟨g1, 5, none⟩ = some (.slice A0_5 l0_5.length c0_5) ∧ w'.cell? ⟨g4, 0, none⟩ = some (.int .i64 a1_0) ∧ w'.cell? ⟨g4, 1, none⟩ = some (.int .i64 a1_1) ∧ w'.cell? ⟨g4, 2, none⟩ = some (.slice A1_2 l1_2.length c1_2) ∧ w'.cell? ⟨g4, 3, none⟩ = some (.int .i64 a1_3) ∧ w'.cell? ⟨g4, 4, none⟩ = some (.int .i64 a1_4) ∧ w'.cell? ⟨g4, 5, none⟩ = some (.int .i64 a1_5)) (ds := []) (Array.replicate 7 false) (by kernel_rfl) rfl rfl ⟨(blk_cell (blkP (Sep.p1 HS.out)) 0).trans rfl, (blk_cell (blkP (Sep.p1 HS.out)) 1).trans rfl, (blk_cell (blkP (Sep.p1 HS.out)) 2).trans rfl, (blk_cell (blkP (Sep.p1 HS.out)) 3).trans rfl, (blk_cell (blkP (Sep.p1 HS.out)) 4).trans rfl, (blk_cell (blkP (Sep.p1 HS.out)) 5).trans rfl, (blk_cell (blkP (Sep.p0 HS.out)) 0).trans rfl, (blk_cell (blkP (Sep.p0 HS.out)) 1).trans rfl, (blk_cell (blkP (Sep.p0 HS.out)) 2).trans rfl, (blk_cell (blkP (Sep.p0 HS.out)) 3).trans rfl, (blk_cell (blkP (Sep.p0 HS.out)) 4).trans rfl, (blk_cell (blkP (Sep.p0 HS.out)) 5).trans rfl⟩ (fun hHeld => ?_)
  generalize hw_ : World.drew _ = w17 at HS HB hHeld ⊢
  clear hw_
  refine pT 0 (some 24) ?_
  refine pT 2 (some 26) ?_
  refine join_ (σ := Value × Value × Value × Value) 0 (Array.replicate 7 true) (fun s => [(25, s.1), (27, s.2.1), (28, s.2.2.1), (6, s.2.2.2)]) (fun s w' => ∃ (g198 : Nat) (x318 : Nat) (y319 : Nat) (A30 : Option Addr) (c31 : Nat) (A32 : Option Addr) (c33 : Nat) (A34 : Option Addr) (c35 : Nat) (A88 : Option Addr) (c89 : Nat) (A150 : Option Addr) (c151 : Nat) (A152 : Option Addr) (c153 : Nat) (A154 : Option Addr) (c155 : Nat), s = (.agg #[.slice A30 t19.length c31, .slice A32 t20.length c33, .int .i64 t21, .int .i64 t22, .int .i64 t23, .slice A34 t24.length c35], .agg #[.int .i64 t79, .int .i64 t80, .slice A88 t81.length c89, .int .i64 t82, .int .i64 t83, .int .i64 t84], .agg #[.slice A150 t139.length c151, .slice A152 t140.length c153, .int .i64 t141, .int .i64 t142, .int .i64 t143, .slice A154 t144.length c155], .pointer (some ⟨g198, 0, none⟩)) ∧ Sep w.heap.size w' (iBlk g198 #[.slice A150 t139.length c151, .slice A152 t140.length c153, .int .i64 t141, .int .i64 t142, .int .i64 t143, .slice A154 t144.length c155] 33 :: iDisk w.heap.size x318 y319 (.slice A150 t139.length c151) (.slice A152 t140.length c153) (.slice A154 t144.length c155) t139 t140 t144 :: [iBlk g4 #[.int .i64 a1_0, .int .i64 a1_1, .slice A1_2 l1_2.length c1_2, .int .i64 a1_3, .int .i64 a1_4, .int .i64 a1_5] 51, iBlk g1 #[.slice A0_0 l0_0.length c0_0, .slice A0_1 l0_1.length c0_1, .int .i64 a0_2, .int .i64 a0_3, .int .i64 a0_4, .slice A0_5 l0_5.length c0_5] 27]) ∧ Below w.heap.size w w') ?_ ?_
  rotate_left
  · intro hCont
    refine two_ (i := 1) (j := 5) (Ni := (some 25)) (Nj := (some 6)) #[true, true, true, false, false, false, false] #[true, false, true, false, false, true, false] rfl rfl rfl rfl (by kernel_rfl) (by decide) (by decide) (fun K hK => ?_) (fun K hK => ?_)
    · skip
      refine gG Try.func17 #[.agg #[.slice A0_0 l0_0.length c0_0, .slice A0_1 l0_1.length c0_1, .int .i64 a0_2, .int .i64 a0_3, .int .i64 a0_4, .slice A0_5 l0_5.length c0_5]] ?_
      refine (laws_toDisk.calls k _ _ l0_0 _ _ l0_1 a0_2 a0_3 a0_4 _ _ l0_5 t19 t20 t21 t22 t23 t24 _ (Kd.C_below HR0_0.out.1 HB.out) HR0_0.out.2 (Kd.C_below HR0_1.out.1 HB.out) HR0_1.out.2 (Kd.C_below HR0_5.out.1 HB.out) HR0_5.out.2 A25.out).mono ?_
      rintro e w26 ⟨v27, v28, v29, rfl, ho0, ho1, ho2, hb⟩; refine ⟨_, rfl, ?_⟩
      obtain ⟨A30, c31, hz⟩ := Kd.R_slice ho0; subst hz
      obtain ⟨A32, c33, hz⟩ := Kd.R_slice ho1; subst hz
      obtain ⟨A34, c35, hz⟩ := Kd.S_slice ho2; subst hz
      replace HS := aM (Sep.disk HS.out hb HB.out.size ho0 ho1 ho2)
      replace HB := aM (below_step HB.out hb)
      clear ho0 ho1 ho2 hb
      refine hK.out _ _ ⟨(blk_cell (blkP (Sep.p2 HS.out)) 0).trans rfl, (blk_cell (blkP (Sep.p2 HS.out)) 1).trans rfl, (blk_cell (blkP (Sep.p2 HS.out)) 2).trans rfl, (blk_cell (blkP (Sep.p2 HS.out)) 3).trans rfl, (blk_cell (blkP (Sep.p2 HS.out)) 4).trans rfl, (blk_cell (blkP (Sep.p2 HS.out)) 5).trans rfl, (blk_cell (blkP (Sep.p1 HS.out)) 0).trans rfl, (blk_cell (blkP (Sep.p1 HS.out)) 1).trans rfl, (blk_cell (blkP (Sep.p1 HS.out)) 2).trans rfl, (blk_cell (blkP (Sep.p1 HS.out)) 3).trans rfl, (blk_cell (blkP (Sep.p1 HS.out)) 4).trans rfl, (blk_cell (blkP (Sep.p1 HS.out)) 5).trans rfl⟩ (fun hHeld => ?_)
      clear hK K
      refine nR ?_
      refine two_ (i := 3) (j := 5) (Ni := (some 27)) (Nj := (some 6)) #[true, true, true, true, false, false, false] #[true, true, true, false, false, true, false] rfl rfl rfl rfl (by kernel_rfl) (by decide) (by decide) (fun K hK => ?_) (fun K hK => ?_)
      · skip
        refine gG Try.func38 #[.agg #[.int .i64 a1_0, .int .i64 a1_1, .slice A1_2 l1_2.length c1_2, .int .i64 a1_3, .int .i64 a1_4, .int .i64 a1_5]] ?_
        refine (laws_toPut.calls k a1_0 a1_1 _ _ l1_2 a1_3 a1_4 a1_5 t79 t80 t81 t82 t83 t84 _ (Kd.C_below HR1_2.out.1 HB.out) HR1_2.out.2 A85.out).mono ?_
        rintro e w86 ⟨v87, rfl, ho0, hb⟩; refine ⟨_, rfl, ?_⟩
        obtain ⟨A88, c89, hz⟩ := Kd.R_slice ho0; subst hz
        replace HS := aM (Sep.row HS.out hb HB.out.size ho0)
        replace HB := aM (below_step HB.out hb)
        clear ho0 hb
        refine hK.out _ _ ⟨(blk_cell (blkP (Sep.p3 HS.out)) 0).trans rfl, (blk_cell (blkP (Sep.p3 HS.out)) 1).trans rfl, (blk_cell (blkP (Sep.p3 HS.out)) 2).trans rfl, (blk_cell (blkP (Sep.p3 HS.out)) 3).trans rfl, (blk_cell (blkP (Sep.p3 HS.out)) 4).trans rfl, (blk_cell (blkP (Sep.p3 HS.out)) 5).trans rfl, (blk_cell (blkP (Sep.p2 HS.out)) 0).trans rfl, (blk_cell (blkP (Sep.p2 HS.out)) 1).trans rfl, (blk_cell (blkP (Sep.p2 HS.out)) 2).trans rfl, (blk_cell (blkP (Sep.p2 HS.out)) 3).trans rfl, (blk_cell (blkP (Sep.p2 HS.out)) 4).trans rfl, (blk_cell (blkP (Sep.p2 HS.out)) 5).trans rfl⟩ (fun hHeld => ?_)
        clear hK K
        refine nR ?_
        refine two_ (i := 4) (j := 5) (Ni := (some 28)) (Nj := (some 6)) #[true, true, true, true, true, false, false] #[true, true, true, true, false, true, false] rfl rfl rfl rfl (by kernel_rfl) (by decide) (by decide) (fun K hK => ?_) (fun K hK => ?_)
        · skip
          refine gG Try.func37 #[.agg #[.slice A30 t19.length c31, .slice A32 t20.length c33, .int .i64 t21, .int .i64 t22, .int .i64 t23, .slice A34 t24.length c35], .agg #[.int .i64 t79, .int .i64 t80, .slice A88 t81.length c89, .int .i64 t82, .int .i64 t83, .int .i64 t84]] ?_
          refine (spec_OnePut.calls k _ _ t19 _ _ t20 t21 t22 t23 _ _ t24 t79 t80 _ _ t81 t82 t83 t84 t139 t140 t141 t142 t143 t144 _ (diskC0 (Sep.p1 HS.out)) (diskL0 (Sep.p1 HS.out)) (diskC1 (Sep.p1 HS.out)) (diskL1 (Sep.p1 HS.out)) (diskC2 (Sep.p1 HS.out)) (diskL2 (Sep.p1 HS.out)) (rowC (Sep.p0 HS.out)) (rowL (Sep.p0 HS.out)) A145.out).mono ?_
          rintro e w146 ⟨v147, v148, v149, rfl, ho0, ho1, ho2, hb⟩; refine ⟨_, rfl, ?_⟩
          obtain ⟨A150, c151, hz⟩ := Kd.R_slice ho0; subst hz
          obtain ⟨A152, c153, hz⟩ := Kd.R_slice ho1; subst hz
          obtain ⟨A154, c155, hz⟩ := Kd.S_slice ho2; subst hz
          replace HS := aM (Sep.disk HS.out hb HB.out.size ho0 ho1 ho2)
          replace HB := aM (below_step HB.out hb)
          clear ho0 ho1 ho2 hb
          refine hK.out _ _ ⟨(blk_cell (blkP (Sep.p4 HS.out)) 0).trans rfl, (blk_cell (blkP (Sep.p4 HS.out)) 1).trans rfl, (blk_cell (blkP (Sep.p4 HS.out)) 2).trans rfl, (blk_cell (blkP (Sep.p4 HS.out)) 3).trans rfl, (blk_cell (blkP (Sep.p4 HS.out)) 4).trans rfl, (blk_cell (blkP (Sep.p4 HS.out)) 5).trans rfl, (blk_cell (blkP (Sep.p3 HS.out)) 0).trans rfl, (blk_cell (blkP (Sep.p3 HS.out)) 1).trans rfl, (blk_cell (blkP (Sep.p3 HS.out)) 2).trans rfl, (blk_cell (blkP (Sep.p3 HS.out)) 3).trans rfl, (blk_cell (blkP (Sep.p3 HS.out)) 4).trans rfl, (blk_cell (blkP (Sep.p3 HS.out)) 5).trans rfl⟩ (fun hHeld => ?_)
          clear hK K
          refine nR ?_
          refine pO 5 (some 6) (fun K hK => ?_)
          refine gBxS 6 #[.slice none 0 0, .slice none 0 0, .int .i64 0, .int .i64 0, .int .i64 0, .slice none 0 0] 33 ?_
          intro g198 hg w199 hbox hb; replace HS := aM (Sep.blk HS.out hb HB.out.size hg hbox); replace HB := aM (below_step HB.out hb); clear hb hbox hg
          refine hK.out _ _ ⟨(blk_cell (blkP (Sep.p5 HS.out)) 0).trans rfl, (blk_cell (blkP (Sep.p5 HS.out)) 1).trans rfl, (blk_cell (blkP (Sep.p5 HS.out)) 2).trans rfl, (blk_cell (blkP (Sep.p5 HS.out)) 3).trans rfl, (blk_cell (blkP (Sep.p5 HS.out)) 4).trans rfl, (blk_cell (blkP (Sep.p5 HS.out)) 5).trans rfl, (blk_cell (blkP (Sep.p4 HS.out)) 0).trans rfl, (blk_cell (blkP (Sep.p4 HS.out)) 1).trans rfl, (blk_cell (blkP (Sep.p4 HS.out)) 2).trans rfl, (blk_cell (blkP (Sep.p4 HS.out)) 3).trans rfl, (blk_cell (blkP (Sep.p4 HS.out)) 4).trans rfl, (blk_cell (blkP (Sep.p4 HS.out)) 5).trans rfl⟩ (fun hHeld => ?_)
          clear hK K
          refine nR ?_
          refine pO 6 none (fun K hK => ?_)
          refine gStS [.slice A150 t139.length c151, .slice A152 t140.length c153, .int .i64 t141, .int .i64 t142, .int .i64 t143, .slice A154 t144.length c155] #[.slice A150 t139.length c151, .slice A152 t140.length c153, .int .i64 t141, .int .i64 t142, .int .i64 t143, .slice A154 t144.length c155] (blkP (Sep.p0 HS.out)) ?_
          intro w258 hw hbox; replace HB := aM (hw.below HB.out (Sep.r0 HS.out).1); replace HS := aM (Sep.wr HS.out hw hbox); clear hw hbox
          refine hK.out _ _ ⟨(blk_cell (blkP (Sep.p5 HS.out)) 0).trans rfl, (blk_cell (blkP (Sep.p5 HS.out)) 1).trans rfl, (blk_cell (blkP (Sep.p5 HS.out)) 2).trans rfl, (blk_cell (blkP (Sep.p5 HS.out)) 3).trans rfl, (blk_cell (blkP (Sep.p5 HS.out)) 4).trans rfl, (blk_cell (blkP (Sep.p5 HS.out)) 5).trans rfl, (blk_cell (blkP (Sep.p4 HS.out)) 0).trans rfl, (blk_cell (blkP (Sep.p4 HS.out)) 1).trans rfl, (blk_cell (blkP (Sep.p4 HS.out)) 2).trans rfl, (blk_cell (blkP (Sep.p4 HS.out)) 3).trans rfl, (blk_cell (blkP (Sep.p4 HS.out)) 4).trans rfl, (blk_cell (blkP (Sep.p4 HS.out)) 5).trans rfl⟩ (fun hHeld => ?_)
          clear hK K
          replace HS := aM (Sep.f2 HS.out).drop
          replace HS := aM (Sep.f2 HS.out).drop
          replace HS := aM (Sep.f3 HS.out)
          replace HS := aM (Sep.f3 HS.out)
          replace HS := aM (Sep.f3 HS.out)
          replace HS := aM (Sep.f3 HS.out)
          exact norm_ (by first | (simp only [putAll, Act.put, List.setIfInBounds_toArray, List.set_cons_zero, List.set_cons_succ]; done) | (simp only [putAll, Act.put, List.setIfInBounds_toArray, List.set_cons_zero, List.set_cons_succ]; rfl)) (hCont (.agg #[.slice A30 t19.length c31, .slice A32 t20.length c33, .int .i64 t21, .int .i64 t22, .int .i64 t23, .slice A34 t24.length c35], .agg #[.int .i64 t79, .int .i64 t80, .slice A88 t81.length c89, .int .i64 t82, .int .i64 t83, .int .i64 t84], .agg #[.slice A150 t139.length c151, .slice A152 t140.length c153, .int .i64 t141, .int .i64 t142, .int .i64 t143, .slice A154 t144.length c155], .pointer (some ⟨g198, 0, none⟩)) _ ⟨_, _, _, _, _, _, _, _, _, _, _, _, _, _, _, _, _, rfl, HS.out, HB.out⟩)
        · skip
          refine gBxS 6 #[.slice none 0 0, .slice none 0 0, .int .i64 0, .int .i64 0, .int .i64 0, .slice none 0 0] 33 ?_
          intro g198 hg w199 hbox hb; replace HS := aM (Sep.blk HS.out hb HB.out.size hg hbox); replace HB := aM (below_step HB.out hb); clear hb hbox hg
          refine hK.out _ _ ⟨(blk_cell (blkP (Sep.p4 HS.out)) 0).trans rfl, (blk_cell (blkP (Sep.p4 HS.out)) 1).trans rfl, (blk_cell (blkP (Sep.p4 HS.out)) 2).trans rfl, (blk_cell (blkP (Sep.p4 HS.out)) 3).trans rfl, (blk_cell (blkP (Sep.p4 HS.out)) 4).trans rfl, (blk_cell (blkP (Sep.p4 HS.out)) 5).trans rfl, (blk_cell (blkP (Sep.p3 HS.out)) 0).trans rfl, (blk_cell (blkP (Sep.p3 HS.out)) 1).trans rfl, (blk_cell (blkP (Sep.p3 HS.out)) 2).trans rfl, (blk_cell (blkP (Sep.p3 HS.out)) 3).trans rfl, (blk_cell (blkP (Sep.p3 HS.out)) 4).trans rfl, (blk_cell (blkP (Sep.p3 HS.out)) 5).trans rfl⟩ (fun hHeld => ?_)
          clear hK K
          refine nR ?_
          refine pO 4 (some 28) (fun K hK => ?_)
          refine gG Try.func37 #[.agg #[.slice A30 t19.length c31, .slice A32 t20.length c33, .int .i64 t21, .int .i64 t22, .int .i64 t23, .slice A34 t24.length c35], .agg #[.int .i64 t79, .int .i64 t80, .slice A88 t81.length c89, .int .i64 t82, .int .i64 t83, .int .i64 t84]] ?_
          refine (spec_OnePut.calls k _ _ t19 _ _ t20 t21 t22 t23 _ _ t24 t79 t80 _ _ t81 t82 t83 t84 t139 t140 t141 t142 t143 t144 _ (diskC0 (Sep.p2 HS.out)) (diskL0 (Sep.p2 HS.out)) (diskC1 (Sep.p2 HS.out)) (diskL1 (Sep.p2 HS.out)) (diskC2 (Sep.p2 HS.out)) (diskL2 (Sep.p2 HS.out)) (rowC (Sep.p1 HS.out)) (rowL (Sep.p1 HS.out)) A145.out).mono ?_
          rintro e w146 ⟨v147, v148, v149, rfl, ho0, ho1, ho2, hb⟩; refine ⟨_, rfl, ?_⟩
          obtain ⟨A150, c151, hz⟩ := Kd.R_slice ho0; subst hz
          obtain ⟨A152, c153, hz⟩ := Kd.R_slice ho1; subst hz
          obtain ⟨A154, c155, hz⟩ := Kd.S_slice ho2; subst hz
          replace HS := aM (Sep.disk HS.out hb HB.out.size ho0 ho1 ho2)
          replace HB := aM (below_step HB.out hb)
          clear ho0 ho1 ho2 hb
          refine hK.out _ _ ⟨(blk_cell (blkP (Sep.p5 HS.out)) 0).trans rfl, (blk_cell (blkP (Sep.p5 HS.out)) 1).trans rfl, (blk_cell (blkP (Sep.p5 HS.out)) 2).trans rfl, (blk_cell (blkP (Sep.p5 HS.out)) 3).trans rfl, (blk_cell (blkP (Sep.p5 HS.out)) 4).trans rfl, (blk_cell (blkP (Sep.p5 HS.out)) 5).trans rfl, (blk_cell (blkP (Sep.p4 HS.out)) 0).trans rfl, (blk_cell (blkP (Sep.p4 HS.out)) 1).trans rfl, (blk_cell (blkP (Sep.p4 HS.out)) 2).trans rfl, (blk_cell (blkP (Sep.p4 HS.out)) 3).trans rfl, (blk_cell (blkP (Sep.p4 HS.out)) 4).trans rfl, (blk_cell (blkP (Sep.p4 HS.out)) 5).trans rfl⟩ (fun hHeld => ?_)
          clear hK K
          refine nR ?_
          refine pO 6 none (fun K hK => ?_)
          replace HS := aM (Sep.f1 HS.out)
          refine gStS [.slice A150 t139.length c151, .slice A152 t140.length c153, .int .i64 t141, .int .i64 t142, .int .i64 t143, .slice A154 t144.length c155] #[.slice A150 t139.length c151, .slice A152 t140.length c153, .int .i64 t141, .int .i64 t142, .int .i64 t143, .slice A154 t144.length c155] (blkP (Sep.p0 HS.out)) ?_
          intro w258 hw hbox; replace HB := aM (hw.below HB.out (Sep.r0 HS.out).1); replace HS := aM (Sep.wr HS.out hw hbox); clear hw hbox
          refine hK.out _ _ ⟨(blk_cell (blkP (Sep.p5 HS.out)) 0).trans rfl, (blk_cell (blkP (Sep.p5 HS.out)) 1).trans rfl, (blk_cell (blkP (Sep.p5 HS.out)) 2).trans rfl, (blk_cell (blkP (Sep.p5 HS.out)) 3).trans rfl, (blk_cell (blkP (Sep.p5 HS.out)) 4).trans rfl, (blk_cell (blkP (Sep.p5 HS.out)) 5).trans rfl, (blk_cell (blkP (Sep.p4 HS.out)) 0).trans rfl, (blk_cell (blkP (Sep.p4 HS.out)) 1).trans rfl, (blk_cell (blkP (Sep.p4 HS.out)) 2).trans rfl, (blk_cell (blkP (Sep.p4 HS.out)) 3).trans rfl, (blk_cell (blkP (Sep.p4 HS.out)) 4).trans rfl, (blk_cell (blkP (Sep.p4 HS.out)) 5).trans rfl⟩ (fun hHeld => ?_)
          clear hK K
          replace HS := aM (Sep.f2 HS.out).drop
          replace HS := aM (Sep.f2 HS.out).drop
          replace HS := aM (Sep.f3 HS.out)
          replace HS := aM (Sep.f3 HS.out)
          replace HS := aM (Sep.f3 HS.out)
          replace HS := aM (Sep.f3 HS.out)
          exact norm_ (by first | (simp only [putAll, Act.put, List.setIfInBounds_toArray, List.set_cons_zero, List.set_cons_succ]; done) | (simp only [putAll, Act.put, List.setIfInBounds_toArray, List.set_cons_zero, List.set_cons_succ]; rfl)) (hCont (.agg #[.slice A30 t19.length c31, .slice A32 t20.length c33, .int .i64 t21, .int .i64 t22, .int .i64 t23, .slice A34 t24.length c35], .agg #[.int .i64 t79, .int .i64 t80, .slice A88 t81.length c89, .int .i64 t82, .int .i64 t83, .int .i64 t84], .agg #[.slice A150 t139.length c151, .slice A152 t140.length c153, .int .i64 t141, .int .i64 t142, .int .i64 t143, .slice A154 t144.length c155], .pointer (some ⟨g198, 0, none⟩)) _ ⟨_, _, _, _, _, _, _, _, _, _, _, _, _, _, _, _, _, rfl, HS.out, HB.out⟩)
      · skip
        refine gBxS 6 #[.slice none 0 0, .slice none 0 0, .int .i64 0, .int .i64 0, .int .i64 0, .slice none 0 0] 33 ?_
        intro g198 hg w199 hbox hb; replace HS := aM (Sep.blk HS.out hb HB.out.size hg hbox); replace HB := aM (below_step HB.out hb); clear hb hbox hg
        refine hK.out _ _ ⟨(blk_cell (blkP (Sep.p3 HS.out)) 0).trans rfl, (blk_cell (blkP (Sep.p3 HS.out)) 1).trans rfl, (blk_cell (blkP (Sep.p3 HS.out)) 2).trans rfl, (blk_cell (blkP (Sep.p3 HS.out)) 3).trans rfl, (blk_cell (blkP (Sep.p3 HS.out)) 4).trans rfl, (blk_cell (blkP (Sep.p3 HS.out)) 5).trans rfl, (blk_cell (blkP (Sep.p2 HS.out)) 0).trans rfl, (blk_cell (blkP (Sep.p2 HS.out)) 1).trans rfl, (blk_cell (blkP (Sep.p2 HS.out)) 2).trans rfl, (blk_cell (blkP (Sep.p2 HS.out)) 3).trans rfl, (blk_cell (blkP (Sep.p2 HS.out)) 4).trans rfl, (blk_cell (blkP (Sep.p2 HS.out)) 5).trans rfl⟩ (fun hHeld => ?_)
        clear hK K
        refine nR ?_
        refine pO 3 (some 27) (fun K hK => ?_)
        refine gG Try.func38 #[.agg #[.int .i64 a1_0, .int .i64 a1_1, .slice A1_2 l1_2.length c1_2, .int .i64 a1_3, .int .i64 a1_4, .int .i64 a1_5]] ?_
        refine (laws_toPut.calls k a1_0 a1_1 _ _ l1_2 a1_3 a1_4 a1_5 t79 t80 t81 t82 t83 t84 _ (Kd.C_below HR1_2.out.1 HB.out) HR1_2.out.2 A85.out).mono ?_
        rintro e w86 ⟨v87, rfl, ho0, hb⟩; refine ⟨_, rfl, ?_⟩
        obtain ⟨A88, c89, hz⟩ := Kd.R_slice ho0; subst hz
        replace HS := aM (Sep.row HS.out hb HB.out.size ho0)
        replace HB := aM (below_step HB.out hb)
        clear ho0 hb
        refine hK.out _ _ ⟨(blk_cell (blkP (Sep.p4 HS.out)) 0).trans rfl, (blk_cell (blkP (Sep.p4 HS.out)) 1).trans rfl, (blk_cell (blkP (Sep.p4 HS.out)) 2).trans rfl, (blk_cell (blkP (Sep.p4 HS.out)) 3).trans rfl, (blk_cell (blkP (Sep.p4 HS.out)) 4).trans rfl, (blk_cell (blkP (Sep.p4 HS.out)) 5).trans rfl, (blk_cell (blkP (Sep.p3 HS.out)) 0).trans rfl, (blk_cell (blkP (Sep.p3 HS.out)) 1).trans rfl, (blk_cell (blkP (Sep.p3 HS.out)) 2).trans rfl, (blk_cell (blkP (Sep.p3 HS.out)) 3).trans rfl, (blk_cell (blkP (Sep.p3 HS.out)) 4).trans rfl, (blk_cell (blkP (Sep.p3 HS.out)) 5).trans rfl⟩ (fun hHeld => ?_)
        clear hK K
        refine nR ?_
        refine pO 4 (some 28) (fun K hK => ?_)
        refine gG Try.func37 #[.agg #[.slice A30 t19.length c31, .slice A32 t20.length c33, .int .i64 t21, .int .i64 t22, .int .i64 t23, .slice A34 t24.length c35], .agg #[.int .i64 t79, .int .i64 t80, .slice A88 t81.length c89, .int .i64 t82, .int .i64 t83, .int .i64 t84]] ?_
        refine (spec_OnePut.calls k _ _ t19 _ _ t20 t21 t22 t23 _ _ t24 t79 t80 _ _ t81 t82 t83 t84 t139 t140 t141 t142 t143 t144 _ (diskC0 (Sep.p2 HS.out)) (diskL0 (Sep.p2 HS.out)) (diskC1 (Sep.p2 HS.out)) (diskL1 (Sep.p2 HS.out)) (diskC2 (Sep.p2 HS.out)) (diskL2 (Sep.p2 HS.out)) (rowC (Sep.p0 HS.out)) (rowL (Sep.p0 HS.out)) A145.out).mono ?_
        rintro e w146 ⟨v147, v148, v149, rfl, ho0, ho1, ho2, hb⟩; refine ⟨_, rfl, ?_⟩
        obtain ⟨A150, c151, hz⟩ := Kd.R_slice ho0; subst hz
        obtain ⟨A152, c153, hz⟩ := Kd.R_slice ho1; subst hz
        obtain ⟨A154, c155, hz⟩ := Kd.S_slice ho2; subst hz
        replace HS := aM (Sep.disk HS.out hb HB.out.size ho0 ho1 ho2)
        replace HB := aM (below_step HB.out hb)
        clear ho0 ho1 ho2 hb
        refine hK.out _ _ ⟨(blk_cell (blkP (Sep.p5 HS.out)) 0).trans rfl, (blk_cell (blkP (Sep.p5 HS.out)) 1).trans rfl, (blk_cell (blkP (Sep.p5 HS.out)) 2).trans rfl, (blk_cell (blkP (Sep.p5 HS.out)) 3).trans rfl, (blk_cell (blkP (Sep.p5 HS.out)) 4).trans rfl, (blk_cell (blkP (Sep.p5 HS.out)) 5).trans rfl, (blk_cell (blkP (Sep.p4 HS.out)) 0).trans rfl, (blk_cell (blkP (Sep.p4 HS.out)) 1).trans rfl, (blk_cell (blkP (Sep.p4 HS.out)) 2).trans rfl, (blk_cell (blkP (Sep.p4 HS.out)) 3).trans rfl, (blk_cell (blkP (Sep.p4 HS.out)) 4).trans rfl, (blk_cell (blkP (Sep.p4 HS.out)) 5).trans rfl⟩ (fun hHeld => ?_)
        clear hK K
        refine nR ?_
        refine pO 6 none (fun K hK => ?_)
        replace HS := aM (Sep.f2 HS.out)
        refine gStS [.slice A150 t139.length c151, .slice A152 t140.length c153, .int .i64 t141, .int .i64 t142, .int .i64 t143, .slice A154 t144.length c155] #[.slice A150 t139.length c151, .slice A152 t140.length c153, .int .i64 t141, .int .i64 t142, .int .i64 t143, .slice A154 t144.length c155] (blkP (Sep.p0 HS.out)) ?_
        intro w258 hw hbox; replace HB := aM (hw.below HB.out (Sep.r0 HS.out).1); replace HS := aM (Sep.wr HS.out hw hbox); clear hw hbox
        refine hK.out _ _ ⟨(blk_cell (blkP (Sep.p5 HS.out)) 0).trans rfl, (blk_cell (blkP (Sep.p5 HS.out)) 1).trans rfl, (blk_cell (blkP (Sep.p5 HS.out)) 2).trans rfl, (blk_cell (blkP (Sep.p5 HS.out)) 3).trans rfl, (blk_cell (blkP (Sep.p5 HS.out)) 4).trans rfl, (blk_cell (blkP (Sep.p5 HS.out)) 5).trans rfl, (blk_cell (blkP (Sep.p4 HS.out)) 0).trans rfl, (blk_cell (blkP (Sep.p4 HS.out)) 1).trans rfl, (blk_cell (blkP (Sep.p4 HS.out)) 2).trans rfl, (blk_cell (blkP (Sep.p4 HS.out)) 3).trans rfl, (blk_cell (blkP (Sep.p4 HS.out)) 4).trans rfl, (blk_cell (blkP (Sep.p4 HS.out)) 5).trans rfl⟩ (fun hHeld => ?_)
        clear hK K
        replace HS := aM (Sep.f2 HS.out).drop
        replace HS := aM (Sep.f2 HS.out).drop
        replace HS := aM (Sep.f3 HS.out)
        replace HS := aM (Sep.f3 HS.out)
        replace HS := aM (Sep.f3 HS.out)
        replace HS := aM (Sep.f3 HS.out)
        exact norm_ (by first | (simp only [putAll, Act.put, List.setIfInBounds_toArray, List.set_cons_zero, List.set_cons_succ]; done) | (simp only [putAll, Act.put, List.setIfInBounds_toArray, List.set_cons_zero, List.set_cons_succ]; rfl)) (hCont (.agg #[.slice A30 t19.length c31, .slice A32 t20.length c33, .int .i64 t21, .int .i64 t22, .int .i64 t23, .slice A34 t24.length c35], .agg #[.int .i64 t79, .int .i64 t80, .slice A88 t81.length c89, .int .i64 t82, .int .i64 t83, .int .i64 t84], .agg #[.slice A150 t139.length c151, .slice A152 t140.length c153, .int .i64 t141, .int .i64 t142, .int .i64 t143, .slice A154 t144.length c155], .pointer (some ⟨g198, 0, none⟩)) _ ⟨_, _, _, _, _, _, _, _, _, _, _, _, _, _, _, _, _, rfl, HS.out, HB.out⟩)
    · skip
      refine gBxS 6 #[.slice none 0 0, .slice none 0 0, .int .i64 0, .int .i64 0, .int .i64 0, .slice none 0 0] 33 ?_
      intro g198 hg w199 hbox hb; replace HS := aM (Sep.blk HS.out hb HB.out.size hg hbox); replace HB := aM (below_step HB.out hb); clear hb hbox hg
      refine hK.out _ _ ⟨(blk_cell (blkP (Sep.p2 HS.out)) 0).trans rfl, (blk_cell (blkP (Sep.p2 HS.out)) 1).trans rfl, (blk_cell (blkP (Sep.p2 HS.out)) 2).trans rfl, (blk_cell (blkP (Sep.p2 HS.out)) 3).trans rfl, (blk_cell (blkP (Sep.p2 HS.out)) 4).trans rfl, (blk_cell (blkP (Sep.p2 HS.out)) 5).trans rfl, (blk_cell (blkP (Sep.p1 HS.out)) 0).trans rfl, (blk_cell (blkP (Sep.p1 HS.out)) 1).trans rfl, (blk_cell (blkP (Sep.p1 HS.out)) 2).trans rfl, (blk_cell (blkP (Sep.p1 HS.out)) 3).trans rfl, (blk_cell (blkP (Sep.p1 HS.out)) 4).trans rfl, (blk_cell (blkP (Sep.p1 HS.out)) 5).trans rfl⟩ (fun hHeld => ?_)
      clear hK K
      refine nR ?_
      refine pO 1 (some 25) (fun K hK => ?_)
      refine gG Try.func17 #[.agg #[.slice A0_0 l0_0.length c0_0, .slice A0_1 l0_1.length c0_1, .int .i64 a0_2, .int .i64 a0_3, .int .i64 a0_4, .slice A0_5 l0_5.length c0_5]] ?_
      refine (laws_toDisk.calls k _ _ l0_0 _ _ l0_1 a0_2 a0_3 a0_4 _ _ l0_5 t19 t20 t21 t22 t23 t24 _ (Kd.C_below HR0_0.out.1 HB.out) HR0_0.out.2 (Kd.C_below HR0_1.out.1 HB.out) HR0_1.out.2 (Kd.C_below HR0_5.out.1 HB.out) HR0_5.out.2 A25.out).mono ?_
      rintro e w26 ⟨v27, v28, v29, rfl, ho0, ho1, ho2, hb⟩; refine ⟨_, rfl, ?_⟩
      obtain ⟨A30, c31, hz⟩ := Kd.R_slice ho0; subst hz
      obtain ⟨A32, c33, hz⟩ := Kd.R_slice ho1; subst hz
      obtain ⟨A34, c35, hz⟩ := Kd.S_slice ho2; subst hz
      replace HS := aM (Sep.disk HS.out hb HB.out.size ho0 ho1 ho2)
      replace HB := aM (below_step HB.out hb)
      clear ho0 ho1 ho2 hb
      refine hK.out _ _ ⟨(blk_cell (blkP (Sep.p3 HS.out)) 0).trans rfl, (blk_cell (blkP (Sep.p3 HS.out)) 1).trans rfl, (blk_cell (blkP (Sep.p3 HS.out)) 2).trans rfl, (blk_cell (blkP (Sep.p3 HS.out)) 3).trans rfl, (blk_cell (blkP (Sep.p3 HS.out)) 4).trans rfl, (blk_cell (blkP (Sep.p3 HS.out)) 5).trans rfl, (blk_cell (blkP (Sep.p2 HS.out)) 0).trans rfl, (blk_cell (blkP (Sep.p2 HS.out)) 1).trans rfl, (blk_cell (blkP (Sep.p2 HS.out)) 2).trans rfl, (blk_cell (blkP (Sep.p2 HS.out)) 3).trans rfl, (blk_cell (blkP (Sep.p2 HS.out)) 4).trans rfl, (blk_cell (blkP (Sep.p2 HS.out)) 5).trans rfl⟩ (fun hHeld => ?_)
      clear hK K
      refine nR ?_
      refine pO 3 (some 27) (fun K hK => ?_)
      refine gG Try.func38 #[.agg #[.int .i64 a1_0, .int .i64 a1_1, .slice A1_2 l1_2.length c1_2, .int .i64 a1_3, .int .i64 a1_4, .int .i64 a1_5]] ?_
      refine (laws_toPut.calls k a1_0 a1_1 _ _ l1_2 a1_3 a1_4 a1_5 t79 t80 t81 t82 t83 t84 _ (Kd.C_below HR1_2.out.1 HB.out) HR1_2.out.2 A85.out).mono ?_
      rintro e w86 ⟨v87, rfl, ho0, hb⟩; refine ⟨_, rfl, ?_⟩
      obtain ⟨A88, c89, hz⟩ := Kd.R_slice ho0; subst hz
      replace HS := aM (Sep.row HS.out hb HB.out.size ho0)
      replace HB := aM (below_step HB.out hb)
      clear ho0 hb
      refine hK.out _ _ ⟨(blk_cell (blkP (Sep.p4 HS.out)) 0).trans rfl, (blk_cell (blkP (Sep.p4 HS.out)) 1).trans rfl, (blk_cell (blkP (Sep.p4 HS.out)) 2).trans rfl, (blk_cell (blkP (Sep.p4 HS.out)) 3).trans rfl, (blk_cell (blkP (Sep.p4 HS.out)) 4).trans rfl, (blk_cell (blkP (Sep.p4 HS.out)) 5).trans rfl, (blk_cell (blkP (Sep.p3 HS.out)) 0).trans rfl, (blk_cell (blkP (Sep.p3 HS.out)) 1).trans rfl, (blk_cell (blkP (Sep.p3 HS.out)) 2).trans rfl, (blk_cell (blkP (Sep.p3 HS.out)) 3).trans rfl, (blk_cell (blkP (Sep.p3 HS.out)) 4).trans rfl, (blk_cell (blkP (Sep.p3 HS.out)) 5).trans rfl⟩ (fun hHeld => ?_)
      clear hK K
      refine nR ?_
      refine pO 4 (some 28) (fun K hK => ?_)
      refine gG Try.func37 #[.agg #[.slice A30 t19.length c31, .slice A32 t20.length c33, .int .i64 t21, .int .i64 t22, .int .i64 t23, .slice A34 t24.length c35], .agg #[.int .i64 t79, .int .i64 t80, .slice A88 t81.length c89, .int .i64 t82, .int .i64 t83, .int .i64 t84]] ?_
      refine (spec_OnePut.calls k _ _ t19 _ _ t20 t21 t22 t23 _ _ t24 t79 t80 _ _ t81 t82 t83 t84 t139 t140 t141 t142 t143 t144 _ (diskC0 (Sep.p1 HS.out)) (diskL0 (Sep.p1 HS.out)) (diskC1 (Sep.p1 HS.out)) (diskL1 (Sep.p1 HS.out)) (diskC2 (Sep.p1 HS.out)) (diskL2 (Sep.p1 HS.out)) (rowC (Sep.p0 HS.out)) (rowL (Sep.p0 HS.out)) A145.out).mono ?_
      rintro e w146 ⟨v147, v148, v149, rfl, ho0, ho1, ho2, hb⟩; refine ⟨_, rfl, ?_⟩
      obtain ⟨A150, c151, hz⟩ := Kd.R_slice ho0; subst hz
      obtain ⟨A152, c153, hz⟩ := Kd.R_slice ho1; subst hz
      obtain ⟨A154, c155, hz⟩ := Kd.S_slice ho2; subst hz
      replace HS := aM (Sep.disk HS.out hb HB.out.size ho0 ho1 ho2)
      replace HB := aM (below_step HB.out hb)
      clear ho0 ho1 ho2 hb
      refine hK.out _ _ ⟨(blk_cell (blkP (Sep.p5 HS.out)) 0).trans rfl, (blk_cell (blkP (Sep.p5 HS.out)) 1).trans rfl, (blk_cell (blkP (Sep.p5 HS.out)) 2).trans rfl, (blk_cell (blkP (Sep.p5 HS.out)) 3).trans rfl, (blk_cell (blkP (Sep.p5 HS.out)) 4).trans rfl, (blk_cell (blkP (Sep.p5 HS.out)) 5).trans rfl, (blk_cell (blkP (Sep.p4 HS.out)) 0).trans rfl, (blk_cell (blkP (Sep.p4 HS.out)) 1).trans rfl, (blk_cell (blkP (Sep.p4 HS.out)) 2).trans rfl, (blk_cell (blkP (Sep.p4 HS.out)) 3).trans rfl, (blk_cell (blkP (Sep.p4 HS.out)) 4).trans rfl, (blk_cell (blkP (Sep.p4 HS.out)) 5).trans rfl⟩ (fun hHeld => ?_)
      clear hK K
      refine nR ?_
      refine pO 6 none (fun K hK => ?_)
      replace HS := aM (Sep.f3 HS.out)
      refine gStS [.slice A150 t139.length c151, .slice A152 t140.length c153, .int .i64 t141, .int .i64 t142, .int .i64 t143, .slice A154 t144.length c155] #[.slice A150 t139.length c151, .slice A152 t140.length c153, .int .i64 t141, .int .i64 t142, .int .i64 t143, .slice A154 t144.length c155] (blkP (Sep.p0 HS.out)) ?_
      intro w258 hw hbox; replace HB := aM (hw.below HB.out (Sep.r0 HS.out).1); replace HS := aM (Sep.wr HS.out hw hbox); clear hw hbox
      refine hK.out _ _ ⟨(blk_cell (blkP (Sep.p5 HS.out)) 0).trans rfl, (blk_cell (blkP (Sep.p5 HS.out)) 1).trans rfl, (blk_cell (blkP (Sep.p5 HS.out)) 2).trans rfl, (blk_cell (blkP (Sep.p5 HS.out)) 3).trans rfl, (blk_cell (blkP (Sep.p5 HS.out)) 4).trans rfl, (blk_cell (blkP (Sep.p5 HS.out)) 5).trans rfl, (blk_cell (blkP (Sep.p4 HS.out)) 0).trans rfl, (blk_cell (blkP (Sep.p4 HS.out)) 1).trans rfl, (blk_cell (blkP (Sep.p4 HS.out)) 2).trans rfl, (blk_cell (blkP (Sep.p4 HS.out)) 3).trans rfl, (blk_cell (blkP (Sep.p4 HS.out)) 4).trans rfl, (blk_cell (blkP (Sep.p4 HS.out)) 5).trans rfl⟩ (fun hHeld => ?_)
      clear hK K
      replace HS := aM (Sep.f2 HS.out).drop
      replace HS := aM (Sep.f2 HS.out).drop
      replace HS := aM (Sep.f3 HS.out)
      replace HS := aM (Sep.f3 HS.out)
      replace HS := aM (Sep.f3 HS.out)
      replace HS := aM (Sep.f3 HS.out)
      exact norm_ (by first | (simp only [putAll, Act.put, List.setIfInBounds_toArray, List.set_cons_zero, List.set_cons_succ]; done) | (simp only [putAll, Act.put, List.setIfInBounds_toArray, List.set_cons_zero, List.set_cons_succ]; rfl)) (hCont (.agg #[.slice A30 t19.length c31, .slice A32 t20.length c33, .int .i64 t21, .int .i64 t22, .int .i64 t23, .slice A34 t24.length c35], .agg #[.int .i64 t79, .int .i64 t80, .slice A88 t81.length c89, .int .i64 t82, .int .i64 t83, .int .i64 t84], .agg #[.slice A150 t139.length c151, .slice A152 t140.length c153, .int .i64 t141, .int .i64 t142, .int .i64 t143, .slice A154 t144.length c155], .pointer (some ⟨g198, 0, none⟩)) _ ⟨_, _, _, _, _, _, _, _, _, _, _, _, _, _, _, _, _, rfl, HS.out, HB.out⟩)
  rintro _ w320 ⟨g198, x318, y319, A30, c31, A32, c33, A34, c35, A88, c89, A150, c151, A152, c153, A154, c155, rfl, hs_, hb_⟩
  replace HS := aM hs_
  replace HB := aM hb_
  clear hs_ hb_ hHeld
  refine norm_ (a' := ?_) ?_ ?_
  rotate_left
  · simp only [putAll, Act.put, List.setIfInBounds_toArray, List.set_cons_zero, List.set_cons_succ]
    rfl
  refine done_ (by kernel_rfl) ?_
  replace h := bE h; obtain ⟨⟨t322, t323, t324, t325, t326, t327⟩, A328, h⟩ := h
  dsimp only at h
  replace h := bE h; obtain ⟨⟨t345, t346, t347, t348, t349, t350⟩, A351, h⟩ := h
  dsimp only at h
  replace h := bE h; obtain ⟨⟨t362, t363, t364, t365, t366, t367⟩, A368, h⟩ := h
  dsimp only at h
  replace h := bE h; obtain ⟨t385, A386, h⟩ := h
  replace h := ifN h; obtain ⟨hq, h⟩ := h
  subst hq
  replace h := bE h; obtain ⟨⟨t390, t391, t392, t393, t394, t395⟩, A396, h⟩ := h
  dsimp only at h
  replace h := bE h; obtain ⟨t409, A410, h⟩ := h
  replace h := ifN h; obtain ⟨hq, h⟩ := h
  subst hq
  go_wp2_with (first | ((with_reducible refine gate_dst (N := 29) rfl ?_); refine gLd 29 (blkP (Sep.p3 HS.out)) ?_; (simp only [Act.put, List.setIfInBounds_toArray, List.set_cons_zero, List.set_cons_succ])) | ((with_reducible refine gate_callee (f := 17) rfl ?_); (with_reducible refine gate_dst (N := 30) rfl ?_); refine gL (some 30) Try.func17 #[.agg #[.slice A0_0 l0_0.length c0_0, .slice A0_1 l0_1.length c0_1, .int .i64 a0_2, .int .i64 a0_3, .int .i64 a0_4, .slice A0_5 l0_5.length c0_5]] ?_; refine (laws_toDisk.calls k _ _ l0_0 _ _ l0_1 a0_2 a0_3 a0_4 _ _ l0_5 t322 t323 t324 t325 t326 t327 _ (Kd.C_below HR0_0.out.1 HB.out) HR0_0.out.2 (Kd.C_below HR0_1.out.1 HB.out) HR0_1.out.2 (Kd.C_below HR0_5.out.1 HB.out) HR0_5.out.2 A328.out).mono ?_; rintro e w329 ⟨v330, v331, v332, rfl, ho0, ho1, ho2, hb⟩; refine ⟨_, rfl, ?_⟩; obtain ⟨A333, c334, hz⟩ := Kd.R_slice ho0; subst hz; obtain ⟨A335, c336, hz⟩ := Kd.R_slice ho1; subst hz; obtain ⟨A337, c338, hz⟩ := Kd.S_slice ho2; subst hz; replace HS := aM (Sep.disk HS.out hb HB.out.size ho0 ho1 ho2); replace HB := aM (below_step HB.out hb); clear ho0 ho1 ho2 hb; (simp only [Act.put, List.setIfInBounds_toArray, List.set_cons_zero, List.set_cons_succ])) | ((with_reducible refine gate_dst (N := 7) rfl ?_); refine gBx 7 #[.slice none 0 0, .slice none 0 0, .int .i64 0, .int .i64 0, .int .i64 0, .slice none 0 0] 33 ?_; intro g340 hg w341 hbox hb; replace HS := aM (Sep.blk HS.out hb HB.out.size hg hbox); replace HB := aM (below_step HB.out hb); clear hb hbox hg; (simp only [Act.put, List.setIfInBounds_toArray, List.set_cons_zero, List.set_cons_succ])) | ((with_reducible refine gate_store (t := 33) (p := 7) rfl ?_); refine gSt [.slice A333 t322.length c334, .slice A335 t323.length c336, .int .i64 t324, .int .i64 t325, .int .i64 t326, .slice A337 t327.length c338] #[.slice A333 t322.length c334, .slice A335 t323.length c336, .int .i64 t324, .int .i64 t325, .int .i64 t326, .slice A337 t327.length c338] (blkP (Sep.p0 HS.out)) ?_; intro w343 hw hbox; replace HB := aM (hw.below HB.out (Sep.r0 HS.out).1); replace HS := aM (Sep.wr HS.out hw hbox); clear hw hbox) | ((with_reducible refine gate_dst (N := 31) rfl ?_); refine gLd 31 (blkP (Sep.p4 HS.out)) ?_; (simp only [Act.put, List.setIfInBounds_toArray, List.set_cons_zero, List.set_cons_succ])) | ((with_reducible refine gate_callee (f := 38) rfl ?_); (with_reducible refine gate_dst (N := 32) rfl ?_); refine gL (some 32) Try.func38 #[.agg #[.int .i64 a1_0, .int .i64 a1_1, .slice A1_2 l1_2.length c1_2, .int .i64 a1_3, .int .i64 a1_4, .int .i64 a1_5]] ?_; refine (laws_toPut.calls k a1_0 a1_1 _ _ l1_2 a1_3 a1_4 a1_5 t345 t346 t347 t348 t349 t350 _ (Kd.C_below HR1_2.out.1 HB.out) HR1_2.out.2 A351.out).mono ?_; rintro e w352 ⟨v353, rfl, ho0, hb⟩; refine ⟨_, rfl, ?_⟩; obtain ⟨A354, c355, hz⟩ := Kd.R_slice ho0; subst hz; replace HS := aM (Sep.row HS.out hb HB.out.size ho0); replace HB := aM (below_step HB.out hb); clear ho0 hb; (simp only [Act.put, List.setIfInBounds_toArray, List.set_cons_zero, List.set_cons_succ])) | ((with_reducible refine gate_dst (N := 8) rfl ?_); refine gBx 8 #[.int .i64 0, .int .i64 0, .slice none 0 0, .int .i64 0, .int .i64 0, .int .i64 0] 55 ?_; intro g357 hg w358 hbox hb; replace HS := aM (Sep.blk HS.out hb HB.out.size hg hbox); replace HB := aM (below_step HB.out hb); clear hb hbox hg; (simp only [Act.put, List.setIfInBounds_toArray, List.set_cons_zero, List.set_cons_succ])) | ((with_reducible refine gate_store (t := 55) (p := 8) rfl ?_); refine gSt [.int .i64 t345, .int .i64 t346, .slice A354 t347.length c355, .int .i64 t348, .int .i64 t349, .int .i64 t350] #[.int .i64 t345, .int .i64 t346, .slice A354 t347.length c355, .int .i64 t348, .int .i64 t349, .int .i64 t350] (blkP (Sep.p0 HS.out)) ?_; intro w360 hw hbox; replace HB := aM (hw.below HB.out (Sep.r0 HS.out).1); replace HS := aM (Sep.wr HS.out hw hbox); clear hw hbox) | ((with_reducible refine gate_dst (N := 33) rfl ?_); refine gLd 33 (blkP (Sep.p2 HS.out)) ?_; (simp only [Act.put, List.setIfInBounds_toArray, List.set_cons_zero, List.set_cons_succ])) | ((with_reducible refine gate_dst (N := 34) rfl ?_); refine gLd 34 (blkP (Sep.p0 HS.out)) ?_; (simp only [Act.put, List.setIfInBounds_toArray, List.set_cons_zero, List.set_cons_succ])) | ((with_reducible refine gate_callee (f := 39) rfl ?_); (with_reducible refine gate_dst (N := 35) rfl ?_); refine gL (some 35) Try.func39 #[.agg #[.slice A333 t322.length c334, .slice A335 t323.length c336, .int .i64 t324, .int .i64 t325, .int .i64 t326, .slice A337 t327.length c338], .agg #[.int .i64 t345, .int .i64 t346, .slice A354 t347.length c355, .int .i64 t348, .int .i64 t349, .int .i64 t350]] ?_; refine (impl_OnePut.calls k _ _ t322 _ _ t323 t324 t325 t326 _ _ t327 t345 t346 _ _ t347 t348 t349 t350 t362 t363 t364 t365 t366 t367 _ (diskC0 (Sep.p3 HS.out)) (diskL0 (Sep.p3 HS.out)) (diskC1 (Sep.p3 HS.out)) (diskL1 (Sep.p3 HS.out)) (diskC2 (Sep.p3 HS.out)) (diskL2 (Sep.p3 HS.out)) (rowC (Sep.p1 HS.out)) (rowL (Sep.p1 HS.out)) A368.out).mono ?_; rintro e w369 ⟨v370, v371, v372, rfl, ho0, ho1, ho2, hb⟩; refine ⟨_, rfl, ?_⟩; obtain ⟨A373, c374, hz⟩ := Kd.R_slice ho0; subst hz; obtain ⟨A375, c376, hz⟩ := Kd.R_slice ho1; subst hz; obtain ⟨A377, c378, hz⟩ := Kd.S_slice ho2; subst hz; replace HS := aM (Sep.disk HS.out hb HB.out.size ho0 ho1 ho2); replace HB := aM (below_step HB.out hb); clear ho0 ho1 ho2 hb; (simp only [Act.put, List.setIfInBounds_toArray, List.set_cons_zero, List.set_cons_succ])) | ((with_reducible refine gate_dst (N := 9) rfl ?_); refine gBx 9 #[.slice none 0 0, .slice none 0 0, .int .i64 0, .int .i64 0, .int .i64 0, .slice none 0 0] 33 ?_; intro g380 hg w381 hbox hb; replace HS := aM (Sep.blk HS.out hb HB.out.size hg hbox); replace HB := aM (below_step HB.out hb); clear hb hbox hg; (simp only [Act.put, List.setIfInBounds_toArray, List.set_cons_zero, List.set_cons_succ])) | ((with_reducible refine gate_store (t := 33) (p := 9) rfl ?_); refine gSt [.slice A373 t362.length c374, .slice A375 t363.length c376, .int .i64 t364, .int .i64 t365, .int .i64 t366, .slice A377 t367.length c378] #[.slice A373 t362.length c374, .slice A375 t363.length c376, .int .i64 t364, .int .i64 t365, .int .i64 t366, .slice A377 t367.length c378] (blkP (Sep.p0 HS.out)) ?_; intro w383 hw hbox; replace HB := aM (hw.below HB.out (Sep.r0 HS.out).1); replace HS := aM (Sep.wr HS.out hw hbox); clear hw hbox) | ((with_reducible refine gate_dst (N := 36) rfl ?_); refine gLd 36 (blkP (Sep.p0 HS.out)) ?_; (simp only [Act.put, List.setIfInBounds_toArray, List.set_cons_zero, List.set_cons_succ])) | ((with_reducible refine gate_dst (N := 37) rfl ?_); refine gLd 37 (blkP (Sep.p6 HS.out)) ?_; (simp only [Act.put, List.setIfInBounds_toArray, List.set_cons_zero, List.set_cons_succ])) | ((with_reducible refine gate_callee (f := 19) rfl ?_); (with_reducible refine gate_dst (N := 38) rfl ?_); refine gL (some 38) Try.func19 #[.agg #[.slice A373 t362.length c374, .slice A375 t363.length c376, .int .i64 t364, .int .i64 t365, .int .i64 t366, .slice A377 t367.length c378], .agg #[.slice A150 t139.length c151, .slice A152 t140.length c153, .int .i64 t141, .int .i64 t142, .int .i64 t143, .slice A154 t144.length c155]] ?_; refine (laws_eqDisk.calls k _ _ t362 _ _ t363 t364 t365 t366 _ _ t367 _ _ t139 _ _ t140 t141 t142 t143 _ _ t144 true _ (diskC0 (Sep.p1 HS.out)) (diskL0 (Sep.p1 HS.out)) (diskC1 (Sep.p1 HS.out)) (diskL1 (Sep.p1 HS.out)) (diskC2 (Sep.p1 HS.out)) (diskL2 (Sep.p1 HS.out)) (diskC0 (Sep.p7 HS.out)) (diskL0 (Sep.p7 HS.out)) (diskC1 (Sep.p7 HS.out)) (diskL1 (Sep.p7 HS.out)) (diskC2 (Sep.p7 HS.out)) (diskL2 (Sep.p7 HS.out)) A386.out).mono ?_; rintro e w387 ⟨rfl, hb⟩; refine ⟨_, rfl, ?_⟩; replace HS := aM (HS.out.below hb); replace HB := aM (below_step HB.out hb); clear hb; (simp only [Act.put, List.setIfInBounds_toArray, List.set_cons_zero, List.set_cons_succ])))
  replace HS := aM (HS.out.below (bd1 rfl))
  replace HB := aM (below_step HB.out (bd1 rfl))
  refine start_ (n := 5) (S := fun w' => w'.cell? ⟨g340, 0, none⟩ = some (.slice A333 t322.length c334) ∧ w'.cell? ⟨g340, 1, none⟩ = some (.slice A335 t323.length c336) ∧ w'.cell? ⟨g340, 2, none⟩ = some (.int .i64 t324) ∧ w'.cell? ⟨g340, 3, none⟩ = some (.int .i64 t325) ∧ w'.cell? ⟨g340, 4, none⟩ = some (.int .i64 t326) ∧ w'.cell? ⟨g340, 5, none⟩ = some (.slice A337 t327.length c338) ∧ w'.cell? ⟨g1, 0, none⟩ = some (.slice A0_0 l0_0.length c0_0) ∧ w'.cell? ⟨g1, 1, none⟩ = some (.slice A0_1 l0_1.length c0_1) ∧ w'.cell? ⟨g1, 2, none⟩ = some (.int .i64 a0_2) ∧ w'.cell? ⟨g1, 3, none⟩ = some (.int .i64 a0_3) ∧ w'.cell? ⟨g1, 4, none⟩ = some (.int .i64 a0_4) ∧ w'.cell? ⟨g1, 5, none⟩ = some (.slice A0_5 l0_5.length c0_5)) (ds := []) (Array.replicate 5 false) (by kernel_rfl) rfl rfl ⟨(blk_cell (blkP (Sep.p4 HS.out)) 0).trans rfl, (blk_cell (blkP (Sep.p4 HS.out)) 1).trans rfl, (blk_cell (blkP (Sep.p4 HS.out)) 2).trans rfl, (blk_cell (blkP (Sep.p4 HS.out)) 3).trans rfl, (blk_cell (blkP (Sep.p4 HS.out)) 4).trans rfl, (blk_cell (blkP (Sep.p4 HS.out)) 5).trans rfl, (blk_cell (blkP (Sep.p9 HS.out)) 0).trans rfl, (blk_cell (blkP (Sep.p9 HS.out)) 1).trans rfl, (blk_cell (blkP (Sep.p9 HS.out)) 2).trans rfl, (blk_cell (blkP (Sep.p9 HS.out)) 3).trans rfl, (blk_cell (blkP (Sep.p9 HS.out)) 4).trans rfl, (blk_cell (blkP (Sep.p9 HS.out)) 5).trans rfl⟩ (fun hHeld => ?_)
  generalize hw_ : World.drew _ = w388 at HS HB hHeld ⊢
  clear hw_
  refine pT 0 (some 40) ?_
  refine pT 1 (some 41) ?_
  refine pO 2 (some 42) (fun K hK => ?_)
  refine gG Try.func17 #[.agg #[.slice A0_0 l0_0.length c0_0, .slice A0_1 l0_1.length c0_1, .int .i64 a0_2, .int .i64 a0_3, .int .i64 a0_4, .slice A0_5 l0_5.length c0_5]] ?_
  refine (laws_toDisk.calls k _ _ l0_0 _ _ l0_1 a0_2 a0_3 a0_4 _ _ l0_5 t390 t391 t392 t393 t394 t395 _ (Kd.C_below HR0_0.out.1 HB.out) HR0_0.out.2 (Kd.C_below HR0_1.out.1 HB.out) HR0_1.out.2 (Kd.C_below HR0_5.out.1 HB.out) HR0_5.out.2 A396.out).mono ?_
  rintro e w397 ⟨v398, v399, v400, rfl, ho0, ho1, ho2, hb⟩; refine ⟨_, rfl, ?_⟩
  obtain ⟨A401, c402, hz⟩ := Kd.R_slice ho0; subst hz
  obtain ⟨A403, c404, hz⟩ := Kd.R_slice ho1; subst hz
  obtain ⟨A405, c406, hz⟩ := Kd.S_slice ho2; subst hz
  replace HS := aM (Sep.disk HS.out hb HB.out.size ho0 ho1 ho2)
  replace HB := aM (below_step HB.out hb)
  clear ho0 ho1 ho2 hb
  refine hK.out _ _ ⟨(blk_cell (blkP (Sep.p5 HS.out)) 0).trans rfl, (blk_cell (blkP (Sep.p5 HS.out)) 1).trans rfl, (blk_cell (blkP (Sep.p5 HS.out)) 2).trans rfl, (blk_cell (blkP (Sep.p5 HS.out)) 3).trans rfl, (blk_cell (blkP (Sep.p5 HS.out)) 4).trans rfl, (blk_cell (blkP (Sep.p5 HS.out)) 5).trans rfl, (blk_cell (blkP (Sep.p10 HS.out)) 0).trans rfl, (blk_cell (blkP (Sep.p10 HS.out)) 1).trans rfl, (blk_cell (blkP (Sep.p10 HS.out)) 2).trans rfl, (blk_cell (blkP (Sep.p10 HS.out)) 3).trans rfl, (blk_cell (blkP (Sep.p10 HS.out)) 4).trans rfl, (blk_cell (blkP (Sep.p10 HS.out)) 5).trans rfl⟩ (fun hHeld => ?_)
  clear hK K
  refine nR ?_
  refine pO 3 (some 43) (fun K hK => ?_)
  refine gG Try.func19 #[.agg #[.slice A333 t322.length c334, .slice A335 t323.length c336, .int .i64 t324, .int .i64 t325, .int .i64 t326, .slice A337 t327.length c338], .agg #[.slice A401 t390.length c402, .slice A403 t391.length c404, .int .i64 t392, .int .i64 t393, .int .i64 t394, .slice A405 t395.length c406]] ?_
  refine (laws_eqDisk.calls k _ _ t322 _ _ t323 t324 t325 t326 _ _ t327 _ _ t390 _ _ t391 t392 t393 t394 _ _ t395 true _ (diskC0 (Sep.p6 HS.out)) (diskL0 (Sep.p6 HS.out)) (diskC1 (Sep.p6 HS.out)) (diskL1 (Sep.p6 HS.out)) (diskC2 (Sep.p6 HS.out)) (diskL2 (Sep.p6 HS.out)) (diskC0 (Sep.p0 HS.out)) (diskL0 (Sep.p0 HS.out)) (diskC1 (Sep.p0 HS.out)) (diskL1 (Sep.p0 HS.out)) (diskC2 (Sep.p0 HS.out)) (diskL2 (Sep.p0 HS.out)) A410.out).mono ?_
  rintro e w411 ⟨rfl, hb⟩; refine ⟨_, rfl, ?_⟩
  replace HS := aM (HS.out.below hb)
  replace HB := aM (below_step HB.out hb)
  clear hb
  refine hK.out _ _ ⟨(blk_cell (blkP (Sep.p5 HS.out)) 0).trans rfl, (blk_cell (blkP (Sep.p5 HS.out)) 1).trans rfl, (blk_cell (blkP (Sep.p5 HS.out)) 2).trans rfl, (blk_cell (blkP (Sep.p5 HS.out)) 3).trans rfl, (blk_cell (blkP (Sep.p5 HS.out)) 4).trans rfl, (blk_cell (blkP (Sep.p5 HS.out)) 5).trans rfl, (blk_cell (blkP (Sep.p10 HS.out)) 0).trans rfl, (blk_cell (blkP (Sep.p10 HS.out)) 1).trans rfl, (blk_cell (blkP (Sep.p10 HS.out)) 2).trans rfl, (blk_cell (blkP (Sep.p10 HS.out)) 3).trans rfl, (blk_cell (blkP (Sep.p10 HS.out)) 4).trans rfl, (blk_cell (blkP (Sep.p10 HS.out)) 5).trans rfl⟩ (fun hHeld => ?_)
  clear hK K
  refine nR ?_
  refine pP 4 (some 44) ?_
  refine done_ (by kernel_rfl) ?_
  replace h := bE h; obtain ⟨⟨t414, t415, t416, t417, t418, t419⟩, A420, h⟩ := h
  dsimp only at h
  replace h := bE h; obtain ⟨t427, A428, h⟩ := h
  replace h := ifN h; obtain ⟨hq, h⟩ := h
  subst hq
  go_wp2_with (first | fail)
  replace HS := aM (HS.out.below (bd1 rfl))
  replace HB := aM (below_step HB.out (bd1 rfl))
  refine start_ (n := 5) (S := fun w' => w'.cell? ⟨g357, 0, none⟩ = some (.int .i64 t345) ∧ w'.cell? ⟨g357, 1, none⟩ = some (.int .i64 t346) ∧ w'.cell? ⟨g357, 2, none⟩ = some (.slice A354 t347.length c355) ∧ w'.cell? ⟨g357, 3, none⟩ = some (.int .i64 t348) ∧ w'.cell? ⟨g357, 4, none⟩ = some (.int .i64 t349) ∧ w'.cell? ⟨g357, 5, none⟩ = some (.int .i64 t350) ∧ w'.cell? ⟨g4, 0, none⟩ = some (.int .i64 a1_0) ∧ w'.cell? ⟨g4, 1, none⟩ = some (.int .i64 a1_1) ∧ w'.cell? ⟨g4, 2, none⟩ = some (.slice A1_2 l1_2.length c1_2) ∧ w'.cell? ⟨g4, 3, none⟩ = some (.int .i64 a1_3) ∧ w'.cell? ⟨g4, 4, none⟩ = some (.int .i64 a1_4) ∧ w'.cell? ⟨g4, 5, none⟩ = some (.int .i64 a1_5)) (ds := []) (Array.replicate 5 false) (by kernel_rfl) rfl rfl ⟨(blk_cell (blkP (Sep.p3 HS.out)) 0).trans rfl, (blk_cell (blkP (Sep.p3 HS.out)) 1).trans rfl, (blk_cell (blkP (Sep.p3 HS.out)) 2).trans rfl, (blk_cell (blkP (Sep.p3 HS.out)) 3).trans rfl, (blk_cell (blkP (Sep.p3 HS.out)) 4).trans rfl, (blk_cell (blkP (Sep.p3 HS.out)) 5).trans rfl, (blk_cell (blkP (Sep.p9 HS.out)) 0).trans rfl, (blk_cell (blkP (Sep.p9 HS.out)) 1).trans rfl, (blk_cell (blkP (Sep.p9 HS.out)) 2).trans rfl, (blk_cell (blkP (Sep.p9 HS.out)) 3).trans rfl, (blk_cell (blkP (Sep.p9 HS.out)) 4).trans rfl, (blk_cell (blkP (Sep.p9 HS.out)) 5).trans rfl⟩ (fun hHeld => ?_)
  generalize hw_ : World.drew _ = w412 at HS HB hHeld ⊢
  clear hw_
  refine pT 0 (some 45) ?_
  refine pT 1 (some 46) ?_
  refine pO 2 (some 47) (fun K hK => ?_)
  refine gG Try.func38 #[.agg #[.int .i64 a1_0, .int .i64 a1_1, .slice A1_2 l1_2.length c1_2, .int .i64 a1_3, .int .i64 a1_4, .int .i64 a1_5]] ?_
  refine (laws_toPut.calls k a1_0 a1_1 _ _ l1_2 a1_3 a1_4 a1_5 t414 t415 t416 t417 t418 t419 _ (Kd.C_below HR1_2.out.1 HB.out) HR1_2.out.2 A420.out).mono ?_
  rintro e w421 ⟨v422, rfl, ho0, hb⟩; refine ⟨_, rfl, ?_⟩
  obtain ⟨A423, c424, hz⟩ := Kd.R_slice ho0; subst hz
  replace HS := aM (Sep.row HS.out hb HB.out.size ho0)
  replace HB := aM (below_step HB.out hb)
  clear ho0 hb
  refine hK.out _ _ ⟨(blk_cell (blkP (Sep.p4 HS.out)) 0).trans rfl, (blk_cell (blkP (Sep.p4 HS.out)) 1).trans rfl, (blk_cell (blkP (Sep.p4 HS.out)) 2).trans rfl, (blk_cell (blkP (Sep.p4 HS.out)) 3).trans rfl, (blk_cell (blkP (Sep.p4 HS.out)) 4).trans rfl, (blk_cell (blkP (Sep.p4 HS.out)) 5).trans rfl, (blk_cell (blkP (Sep.p10 HS.out)) 0).trans rfl, (blk_cell (blkP (Sep.p10 HS.out)) 1).trans rfl, (blk_cell (blkP (Sep.p10 HS.out)) 2).trans rfl, (blk_cell (blkP (Sep.p10 HS.out)) 3).trans rfl, (blk_cell (blkP (Sep.p10 HS.out)) 4).trans rfl, (blk_cell (blkP (Sep.p10 HS.out)) 5).trans rfl⟩ (fun hHeld => ?_)
  clear hK K
  refine nR ?_
  refine pO 3 (some 48) (fun K hK => ?_)
  refine gG Try.func40 #[.agg #[.int .i64 t345, .int .i64 t346, .slice A354 t347.length c355, .int .i64 t348, .int .i64 t349, .int .i64 t350], .agg #[.int .i64 t414, .int .i64 t415, .slice A423 t416.length c424, .int .i64 t417, .int .i64 t418, .int .i64 t419]] ?_
  refine (laws_eqPut.calls k t345 t346 _ _ t347 t348 t349 t350 t414 t415 _ _ t416 t417 t418 t419 true _ (rowC (Sep.p5 HS.out)) (rowL (Sep.p5 HS.out)) (rowC (Sep.p0 HS.out)) (rowL (Sep.p0 HS.out)) A428.out).mono ?_
  rintro e w429 ⟨rfl, hb⟩; refine ⟨_, rfl, ?_⟩
  replace HS := aM (HS.out.below hb)
  replace HB := aM (below_step HB.out hb)
  clear hb
  refine hK.out _ _ ⟨(blk_cell (blkP (Sep.p4 HS.out)) 0).trans rfl, (blk_cell (blkP (Sep.p4 HS.out)) 1).trans rfl, (blk_cell (blkP (Sep.p4 HS.out)) 2).trans rfl, (blk_cell (blkP (Sep.p4 HS.out)) 3).trans rfl, (blk_cell (blkP (Sep.p4 HS.out)) 4).trans rfl, (blk_cell (blkP (Sep.p4 HS.out)) 5).trans rfl, (blk_cell (blkP (Sep.p10 HS.out)) 0).trans rfl, (blk_cell (blkP (Sep.p10 HS.out)) 1).trans rfl, (blk_cell (blkP (Sep.p10 HS.out)) 2).trans rfl, (blk_cell (blkP (Sep.p10 HS.out)) 3).trans rfl, (blk_cell (blkP (Sep.p10 HS.out)) 4).trans rfl, (blk_cell (blkP (Sep.p10 HS.out)) 5).trans rfl⟩ (fun hHeld => ?_)
  clear hK K
  refine nR ?_
  refine pP 4 (some 49) ?_
  refine done_ (by kernel_rfl) ?_
  replace h := bE h; obtain ⟨⟨t431, t432, t433, t434⟩, A435, h⟩ := h
  dsimp only at h
  replace h := bE h; obtain ⟨⟨t438, t439⟩, A440, h⟩ := h
  dsimp only at h
  replace h := ifM h; obtain ⟨c442, h⟩ := h
  have c442b : decide (t438 < 0) = false := decide_eq_false c442
  clear c442
  replace h := bE h; obtain ⟨t444, A445, h⟩ := h
  replace h := ifN h; obtain ⟨hq, h⟩ := h
  subst hq
  replace h := bE h; obtain ⟨⟨t448, t449, t450, t451⟩, A452, h⟩ := h
  dsimp only at h
  replace h := bE h; obtain ⟨t455, A456, h⟩ := h
  replace h := ifM h; obtain ⟨c458, h⟩ := h
  have c458b : decide (t455 < 0) = false := decide_eq_false c458
  clear c458
  replace h := ifN h; obtain ⟨c459, h⟩ := h
  have c459b : (t455 != t448) = false := bne_eq_false_iff_eq.mpr c459
  clear c459
  replace h := bE h; obtain ⟨⟨t462, t463, t464, t465, t466, t467⟩, A468, h⟩ := h
  dsimp only at h
  replace h := bE h; obtain ⟨⟨t522, t523, t524, t525, t526, t527⟩, A528, h⟩ := h
  dsimp only at h
  replace h := bE h; obtain ⟨⟨t582, t583, t584, t585, t586, t587⟩, A588, h⟩ := h
  dsimp only at h
  go_wp2_with (first | ((with_reducible refine gate_dst (N := 50) rfl ?_); refine gLd 50 (blkP (Sep.p6 HS.out)) ?_; (simp only [Act.put, List.setIfInBounds_toArray, List.set_cons_zero, List.set_cons_succ])) | ((with_reducible refine gate_callee (f := 25) rfl ?_); (with_reducible refine gate_dst (N := 52) rfl ?_); refine gL (some 52) Try.func25 #[.agg #[.slice A333 t322.length c334, .slice A335 t323.length c336, .int .i64 t324, .int .i64 t325, .int .i64 t326, .slice A337 t327.length c338], .int .i64 1] ?_; replace HS := aM (Sep.f7 HS.out); refine (laws_markDisk.calls k _ _ _ t322 _ _ t323 t324 t325 t326 _ _ t327 1 t431 t432 t433 t434 w _ HB.out (Sep.p0 HS.out) A435.out).mono ?_; rintro e w436 ⟨rfl, hd, hb, hk⟩; refine ⟨_, rfl, ?_⟩; replace HS := aM (Sep.put HS.out (KeptR.of_kept hk (fun _ q => q)) (iDisk _ _ _ _ _ _ t432 t433 t434) rfl rfl hd); replace HB := aM hb; have e0 := (Kd.R_reads' hd.1).1; have e1 := (Kd.R_reads' hd.2.1).1; have e2 := (Kd.S_reads' hd.2.2).1; clear hd hb hk; simp only [e0, e1, e2] at HS ⊢; clear e0 e1 e2; (simp only [Act.put, List.setIfInBounds_toArray, List.set_cons_zero, List.set_cons_succ])) | ((with_reducible refine gate_dst (N := 53) rfl ?_); refine gLd 53 (blkP (Sep.p5 HS.out)) ?_; (simp only [Act.put, List.setIfInBounds_toArray, List.set_cons_zero, List.set_cons_succ])) | ((with_reducible refine gate_callee (f := 41) rfl ?_); (with_reducible refine gate_dst (N := 55) rfl ?_); refine gL (some 55) Try.func41 #[.agg #[.int .i64 t345, .int .i64 t346, .slice A354 t347.length c355, .int .i64 t348, .int .i64 t349, .int .i64 t350], .int .i64 t431] ?_; replace HS := aM (Sep.f6 HS.out); refine (laws_markPut.calls k t345 t346 _ _ t347 t348 t349 t350 t431 t438 t439 w _ HB.out (Sep.p0 HS.out) A440.out).mono ?_; rintro e w441 ⟨rfl, hd, hb, hk⟩; refine ⟨_, rfl, ?_⟩; replace HS := aM (Sep.put HS.out (KeptR.of_kept hk (fun _ q => q)) (iRow (Kd.int .u8) 5 _ _ _ _ t439) rfl rfl (Kd.R_reok rfl hd (fun k e => (Sep.p0 HS.out).1 k e))); replace HB := aM hb; have e0 := (Kd.R_reads' hd).1; clear hd hb hk; simp only [e0] at HS ⊢; clear e0; (simp only [Act.put, List.setIfInBounds_toArray, List.set_cons_zero, List.set_cons_succ])) | ((with_reducible refine gate_dst (N := 59) rfl ?_); refine gGd rfl ?_; refine gLd 59 (blkP (Sep.p4 HS.out)) ?_; (simp only [Act.put, List.setIfInBounds_toArray, List.set_cons_zero, List.set_cons_succ])) | ((with_reducible refine gate_dst (N := 60) rfl ?_); refine gGd rfl ?_; refine gLd 60 (blkP (Sep.p8 HS.out)) ?_; (simp only [Act.put, List.setIfInBounds_toArray, List.set_cons_zero, List.set_cons_succ])) | ((with_reducible refine gate_callee (f := 19) rfl ?_); (with_reducible refine gate_dst (N := 61) rfl ?_); refine gGd rfl ?_; refine gL (some 61) Try.func19 #[.agg #[.slice A373 t362.length c374, .slice A375 t363.length c376, .int .i64 t364, .int .i64 t365, .int .i64 t366, .slice A377 t367.length c378], .agg #[.slice A150 t139.length c151, .slice A152 t140.length c153, .int .i64 t141, .int .i64 t142, .int .i64 t143, .slice A154 t144.length c155]] ?_; refine (laws_eqDisk.calls k _ _ t362 _ _ t363 t364 t365 t366 _ _ t367 _ _ t139 _ _ t140 t141 t142 t143 _ _ t144 true _ (diskC0 (Sep.p5 HS.out)) (diskL0 (Sep.p5 HS.out)) (diskC1 (Sep.p5 HS.out)) (diskL1 (Sep.p5 HS.out)) (diskC2 (Sep.p5 HS.out)) (diskL2 (Sep.p5 HS.out)) (diskC0 (Sep.p9 HS.out)) (diskL0 (Sep.p9 HS.out)) (diskC1 (Sep.p9 HS.out)) (diskL1 (Sep.p9 HS.out)) (diskC2 (Sep.p9 HS.out)) (diskL2 (Sep.p9 HS.out)) A445.out).mono ?_; rintro e w446 ⟨rfl, hb⟩; refine ⟨_, rfl, ?_⟩; replace HS := aM (HS.out.below hb); replace HB := aM (below_step HB.out hb); clear hb; (simp only [Act.put, List.setIfInBounds_toArray, List.set_cons_zero, List.set_cons_succ])) | ((with_reducible refine gate_dst (N := 64) rfl ?_); refine gLd 64 (blkP (Sep.p4 HS.out)) ?_; (simp only [Act.put, List.setIfInBounds_toArray, List.set_cons_zero, List.set_cons_succ])) | ((with_reducible refine gate_callee (f := 25) rfl ?_); (with_reducible refine gate_dst (N := 66) rfl ?_); refine gL (some 66) Try.func25 #[.agg #[.slice A373 t362.length c374, .slice A375 t363.length c376, .int .i64 t364, .int .i64 t365, .int .i64 t366, .slice A377 t367.length c378], .int .i64 1] ?_; replace HS := aM (Sep.f5 HS.out); refine (laws_markDisk.calls k _ _ _ t362 _ _ t363 t364 t365 t366 _ _ t367 1 t448 t449 t450 t451 w _ HB.out (Sep.p0 HS.out) A452.out).mono ?_; rintro e w453 ⟨rfl, hd, hb, hk⟩; refine ⟨_, rfl, ?_⟩; replace HS := aM (Sep.put HS.out (KeptR.of_kept hk (fun _ q => q)) (iDisk _ _ _ _ _ _ t449 t450 t451) rfl rfl hd); replace HB := aM hb; have e0 := (Kd.R_reads' hd.1).1; have e1 := (Kd.R_reads' hd.2.1).1; have e2 := (Kd.S_reads' hd.2.2).1; clear hd hb hk; simp only [e0, e1, e2] at HS ⊢; clear e0 e1 e2; (simp only [Act.put, List.setIfInBounds_toArray, List.set_cons_zero, List.set_cons_succ])) | ((with_reducible refine gate_dst (N := 67) rfl ?_); refine gLd 67 (blkP (Sep.p5 HS.out)) ?_; (simp only [Act.put, List.setIfInBounds_toArray, List.set_cons_zero, List.set_cons_succ])) | ((with_reducible refine gate_callee (f := 26) rfl ?_); (with_reducible refine gate_dst (N := 69) rfl ?_); refine gL (some 69) Try.func26 #[.agg #[.slice A373 t449.length c374, .slice A375 t450.length c376, .int .i64 t364, .int .i64 t365, .int .i64 t366, .slice A377 t451.length c378], .int .i64 1] ?_; refine (laws_heldDisk.calls k _ _ t449 _ _ t450 t364 t365 t366 _ _ t451 1 t455 _ (diskC0 (Sep.p0 HS.out)) (diskL0 (Sep.p0 HS.out)) (diskC1 (Sep.p0 HS.out)) (diskL1 (Sep.p0 HS.out)) (diskC2 (Sep.p0 HS.out)) (diskL2 (Sep.p0 HS.out)) A456.out).mono ?_; rintro e w457 ⟨rfl, hb⟩; refine ⟨_, rfl, ?_⟩; replace HS := aM (HS.out.below hb); replace HB := aM (below_step HB.out hb); clear hb; (simp only [Act.put, List.setIfInBounds_toArray, List.set_cons_zero, List.set_cons_succ])))
  replace HS := aM (HS.out.below (bd1 rfl))
  replace HB := aM (below_step HB.out (bd1 rfl))
  refine start_ (n := 7) (S := fun w' => w'.cell? ⟨g1, 0, none⟩ = some (.slice A0_0 l0_0.length c0_0) ∧ w'.cell? ⟨g1, 1, none⟩ = some (.slice A0_1 l0_1.length c0_1) ∧ w'.cell? ⟨g1, 2, none⟩ = some (.int .i64 a0_2) ∧ w'.cell? ⟨g1, 3, none⟩ = some (.int .i64 a0_3) ∧ w'.cell? ⟨g1, 4, none⟩ = some (.int .i64 a0_4) ∧ w'.cell? ⟨g1, 5, none⟩ = some (.slice A0_5 l0_5.length c0_5) ∧ w'.cell? ⟨g4, 0, none⟩ = some (.int .i64 a1_0) ∧ w'.cell? ⟨g4, 1, none⟩ = some (.int .i64 a1_1) ∧ w'.cell? ⟨g4, 2, none⟩ = some (.slice A1_2 l1_2.length c1_2) ∧ w'.cell? ⟨g4, 3, none⟩ = some (.int .i64 a1_3) ∧ w'.cell? ⟨g4, 4, none⟩ = some (.int .i64 a1_4) ∧ w'.cell? ⟨g4, 5, none⟩ = some (.int .i64 a1_5)) (ds := []) (Array.replicate 7 false) (by kernel_rfl) rfl rfl ⟨(blk_cell (blkP (Sep.p11 HS.out)) 0).trans rfl, (blk_cell (blkP (Sep.p11 HS.out)) 1).trans rfl, (blk_cell (blkP (Sep.p11 HS.out)) 2).trans rfl, (blk_cell (blkP (Sep.p11 HS.out)) 3).trans rfl, (blk_cell (blkP (Sep.p11 HS.out)) 4).trans rfl, (blk_cell (blkP (Sep.p11 HS.out)) 5).trans rfl, (blk_cell (blkP (Sep.p10 HS.out)) 0).trans rfl, (blk_cell (blkP (Sep.p10 HS.out)) 1).trans rfl, (blk_cell (blkP (Sep.p10 HS.out)) 2).trans rfl, (blk_cell (blkP (Sep.p10 HS.out)) 3).trans rfl, (blk_cell (blkP (Sep.p10 HS.out)) 4).trans rfl, (blk_cell (blkP (Sep.p10 HS.out)) 5).trans rfl⟩ (fun hHeld => ?_)
  generalize hw_ : World.drew _ = w460 at HS HB hHeld ⊢
  clear hw_
  refine pT 0 (some 75) ?_
  refine pT 2 (some 77) ?_
  refine join_ (σ := Value × Value × Value × Value) 0 (Array.replicate 7 true) (fun s => [(76, s.1), (78, s.2.1), (79, s.2.2.1), (13, s.2.2.2)]) (fun s w' => ∃ (g641 : Nat) (x761 : Nat) (y762 : Nat) (A473 : Option Addr) (c474 : Nat) (A475 : Option Addr) (c476 : Nat) (A477 : Option Addr) (c478 : Nat) (A531 : Option Addr) (c532 : Nat) (A593 : Option Addr) (c594 : Nat) (A595 : Option Addr) (c596 : Nat) (A597 : Option Addr) (c598 : Nat), s = (.agg #[.slice A473 t462.length c474, .slice A475 t463.length c476, .int .i64 t464, .int .i64 t465, .int .i64 t466, .slice A477 t467.length c478], .agg #[.int .i64 t522, .int .i64 t523, .slice A531 t524.length c532, .int .i64 t525, .int .i64 t526, .int .i64 t527], .agg #[.slice A593 t582.length c594, .slice A595 t583.length c596, .int .i64 t584, .int .i64 t585, .int .i64 t586, .slice A597 t587.length c598], .pointer (some ⟨g641, 0, none⟩)) ∧ Sep w.heap.size w' (iBlk g641 #[.slice A593 t582.length c594, .slice A595 t583.length c596, .int .i64 t584, .int .i64 t585, .int .i64 t586, .slice A597 t587.length c598] 33 :: iDisk w.heap.size x761 y762 (.slice A593 t582.length c594) (.slice A595 t583.length c596) (.slice A597 t587.length c598) t582 t583 t587 :: [iDisk w.heap.size w360.heap.size w369.heap.size (.slice A373 t449.length c374) (.slice A375 t450.length c376) (.slice A377 t451.length c378) t449 t450 t451, iRow (Kd.int .u8) 5 w.heap.size w343.heap.size w352.heap.size (.slice A354 t439.length c355) t439, iDisk w.heap.size w320.heap.size w329.heap.size (.slice A333 t432.length c334) (.slice A335 t433.length c336) (.slice A337 t434.length c338) t432 t433 t434, iRow (Kd.int .u8) 5 w.heap.size w412.heap.size w421.heap.size (.slice A423 t416.length c424) t416, iDisk w.heap.size w388.heap.size w397.heap.size (.slice A401 t390.length c402) (.slice A403 t391.length c404) (.slice A405 t395.length c406) t390 t391 t395, iBlk g380 #[.slice A373 t449.length c374, .slice A375 t450.length c376, .int .i64 t364, .int .i64 t365, .int .i64 t366, .slice A377 t451.length c378] 33, iBlk g357 #[.int .i64 t345, .int .i64 t346, .slice A354 t439.length c355, .int .i64 t348, .int .i64 t349, .int .i64 t350] 55, iBlk g340 #[.slice A333 t432.length c334, .slice A335 t433.length c336, .int .i64 t324, .int .i64 t325, .int .i64 t326, .slice A337 t434.length c338] 33, iBlk g198 #[.slice A150 t139.length c151, .slice A152 t140.length c153, .int .i64 t141, .int .i64 t142, .int .i64 t143, .slice A154 t144.length c155] 33, iDisk w.heap.size x318 y319 (.slice A150 t139.length c151) (.slice A152 t140.length c153) (.slice A154 t144.length c155) t139 t140 t144, iBlk g4 #[.int .i64 a1_0, .int .i64 a1_1, .slice A1_2 l1_2.length c1_2, .int .i64 a1_3, .int .i64 a1_4, .int .i64 a1_5] 51, iBlk g1 #[.slice A0_0 l0_0.length c0_0, .slice A0_1 l0_1.length c0_1, .int .i64 a0_2, .int .i64 a0_3, .int .i64 a0_4, .slice A0_5 l0_5.length c0_5] 27]) ∧ Below w.heap.size w w') ?_ ?_
  rotate_left
  · intro hCont
    refine two_ (i := 1) (j := 5) (Ni := (some 76)) (Nj := (some 13)) #[true, true, true, false, false, false, false] #[true, false, true, false, false, true, false] rfl rfl rfl rfl (by kernel_rfl) (by decide) (by decide) (fun K hK => ?_) (fun K hK => ?_)
    · skip
      refine gG Try.func17 #[.agg #[.slice A0_0 l0_0.length c0_0, .slice A0_1 l0_1.length c0_1, .int .i64 a0_2, .int .i64 a0_3, .int .i64 a0_4, .slice A0_5 l0_5.length c0_5]] ?_
      refine (laws_toDisk.calls k _ _ l0_0 _ _ l0_1 a0_2 a0_3 a0_4 _ _ l0_5 t462 t463 t464 t465 t466 t467 _ (Kd.C_below HR0_0.out.1 HB.out) HR0_0.out.2 (Kd.C_below HR0_1.out.1 HB.out) HR0_1.out.2 (Kd.C_below HR0_5.out.1 HB.out) HR0_5.out.2 A468.out).mono ?_
      rintro e w469 ⟨v470, v471, v472, rfl, ho0, ho1, ho2, hb⟩; refine ⟨_, rfl, ?_⟩
      obtain ⟨A473, c474, hz⟩ := Kd.R_slice ho0; subst hz
      obtain ⟨A475, c476, hz⟩ := Kd.R_slice ho1; subst hz
      obtain ⟨A477, c478, hz⟩ := Kd.S_slice ho2; subst hz
      replace HS := aM (Sep.disk HS.out hb HB.out.size ho0 ho1 ho2)
      replace HB := aM (below_step HB.out hb)
      clear ho0 ho1 ho2 hb
      refine hK.out _ _ ⟨(blk_cell (blkP (Sep.p12 HS.out)) 0).trans rfl, (blk_cell (blkP (Sep.p12 HS.out)) 1).trans rfl, (blk_cell (blkP (Sep.p12 HS.out)) 2).trans rfl, (blk_cell (blkP (Sep.p12 HS.out)) 3).trans rfl, (blk_cell (blkP (Sep.p12 HS.out)) 4).trans rfl, (blk_cell (blkP (Sep.p12 HS.out)) 5).trans rfl, (blk_cell (blkP (Sep.p11 HS.out)) 0).trans rfl, (blk_cell (blkP (Sep.p11 HS.out)) 1).trans rfl, (blk_cell (blkP (Sep.p11 HS.out)) 2).trans rfl, (blk_cell (blkP (Sep.p11 HS.out)) 3).trans rfl, (blk_cell (blkP (Sep.p11 HS.out)) 4).trans rfl, (blk_cell (blkP (Sep.p11 HS.out)) 5).trans rfl⟩ (fun hHeld => ?_)
      clear hK K
      refine nR ?_
      refine two_ (i := 3) (j := 5) (Ni := (some 78)) (Nj := (some 13)) #[true, true, true, true, false, false, false] #[true, true, true, false, false, true, false] rfl rfl rfl rfl (by kernel_rfl) (by decide) (by decide) (fun K hK => ?_) (fun K hK => ?_)
      · skip
        refine gG Try.func38 #[.agg #[.int .i64 a1_0, .int .i64 a1_1, .slice A1_2 l1_2.length c1_2, .int .i64 a1_3, .int .i64 a1_4, .int .i64 a1_5]] ?_
        refine (laws_toPut.calls k a1_0 a1_1 _ _ l1_2 a1_3 a1_4 a1_5 t522 t523 t524 t525 t526 t527 _ (Kd.C_below HR1_2.out.1 HB.out) HR1_2.out.2 A528.out).mono ?_
        rintro e w529 ⟨v530, rfl, ho0, hb⟩; refine ⟨_, rfl, ?_⟩
        obtain ⟨A531, c532, hz⟩ := Kd.R_slice ho0; subst hz
        replace HS := aM (Sep.row HS.out hb HB.out.size ho0)
        replace HB := aM (below_step HB.out hb)
        clear ho0 hb
        refine hK.out _ _ ⟨(blk_cell (blkP (Sep.p13 HS.out)) 0).trans rfl, (blk_cell (blkP (Sep.p13 HS.out)) 1).trans rfl, (blk_cell (blkP (Sep.p13 HS.out)) 2).trans rfl, (blk_cell (blkP (Sep.p13 HS.out)) 3).trans rfl, (blk_cell (blkP (Sep.p13 HS.out)) 4).trans rfl, (blk_cell (blkP (Sep.p13 HS.out)) 5).trans rfl, (blk_cell (blkP (Sep.p12 HS.out)) 0).trans rfl, (blk_cell (blkP (Sep.p12 HS.out)) 1).trans rfl, (blk_cell (blkP (Sep.p12 HS.out)) 2).trans rfl, (blk_cell (blkP (Sep.p12 HS.out)) 3).trans rfl, (blk_cell (blkP (Sep.p12 HS.out)) 4).trans rfl, (blk_cell (blkP (Sep.p12 HS.out)) 5).trans rfl⟩ (fun hHeld => ?_)
        clear hK K
        refine nR ?_
        refine two_ (i := 4) (j := 5) (Ni := (some 79)) (Nj := (some 13)) #[true, true, true, true, true, false, false] #[true, true, true, true, false, true, false] rfl rfl rfl rfl (by kernel_rfl) (by decide) (by decide) (fun K hK => ?_) (fun K hK => ?_)
        · skip
          refine gG Try.func39 #[.agg #[.slice A473 t462.length c474, .slice A475 t463.length c476, .int .i64 t464, .int .i64 t465, .int .i64 t466, .slice A477 t467.length c478], .agg #[.int .i64 t522, .int .i64 t523, .slice A531 t524.length c532, .int .i64 t525, .int .i64 t526, .int .i64 t527]] ?_
          refine (impl_OnePut.calls k _ _ t462 _ _ t463 t464 t465 t466 _ _ t467 t522 t523 _ _ t524 t525 t526 t527 t582 t583 t584 t585 t586 t587 _ (diskC0 (Sep.p1 HS.out)) (diskL0 (Sep.p1 HS.out)) (diskC1 (Sep.p1 HS.out)) (diskL1 (Sep.p1 HS.out)) (diskC2 (Sep.p1 HS.out)) (diskL2 (Sep.p1 HS.out)) (rowC (Sep.p0 HS.out)) (rowL (Sep.p0 HS.out)) A588.out).mono ?_
          rintro e w589 ⟨v590, v591, v592, rfl, ho0, ho1, ho2, hb⟩; refine ⟨_, rfl, ?_⟩
          obtain ⟨A593, c594, hz⟩ := Kd.R_slice ho0; subst hz
          obtain ⟨A595, c596, hz⟩ := Kd.R_slice ho1; subst hz
          obtain ⟨A597, c598, hz⟩ := Kd.S_slice ho2; subst hz
          replace HS := aM (Sep.disk HS.out hb HB.out.size ho0 ho1 ho2)
          replace HB := aM (below_step HB.out hb)
          clear ho0 ho1 ho2 hb
          refine hK.out _ _ ⟨(blk_cell (blkP (Sep.p14 HS.out)) 0).trans rfl, (blk_cell (blkP (Sep.p14 HS.out)) 1).trans rfl, (blk_cell (blkP (Sep.p14 HS.out)) 2).trans rfl, (blk_cell (blkP (Sep.p14 HS.out)) 3).trans rfl, (blk_cell (blkP (Sep.p14 HS.out)) 4).trans rfl, (blk_cell (blkP (Sep.p14 HS.out)) 5).trans rfl, (blk_cell (blkP (Sep.p13 HS.out)) 0).trans rfl, (blk_cell (blkP (Sep.p13 HS.out)) 1).trans rfl, (blk_cell (blkP (Sep.p13 HS.out)) 2).trans rfl, (blk_cell (blkP (Sep.p13 HS.out)) 3).trans rfl, (blk_cell (blkP (Sep.p13 HS.out)) 4).trans rfl, (blk_cell (blkP (Sep.p13 HS.out)) 5).trans rfl⟩ (fun hHeld => ?_)
          clear hK K
          refine nR ?_
          refine pO 5 (some 13) (fun K hK => ?_)
          refine gBxS 13 #[.slice none 0 0, .slice none 0 0, .int .i64 0, .int .i64 0, .int .i64 0, .slice none 0 0] 33 ?_
          intro g641 hg w642 hbox hb; replace HS := aM (Sep.blk HS.out hb HB.out.size hg hbox); replace HB := aM (below_step HB.out hb); clear hb hbox hg
          refine hK.out _ _ ⟨(blk_cell (blkP (Sep.p15 HS.out)) 0).trans rfl, (blk_cell (blkP (Sep.p15 HS.out)) 1).trans rfl, (blk_cell (blkP (Sep.p15 HS.out)) 2).trans rfl, (blk_cell (blkP (Sep.p15 HS.out)) 3).trans rfl, (blk_cell (blkP (Sep.p15 HS.out)) 4).trans rfl, (blk_cell (blkP (Sep.p15 HS.out)) 5).trans rfl, (blk_cell (blkP (Sep.p14 HS.out)) 0).trans rfl, (blk_cell (blkP (Sep.p14 HS.out)) 1).trans rfl, (blk_cell (blkP (Sep.p14 HS.out)) 2).trans rfl, (blk_cell (blkP (Sep.p14 HS.out)) 3).trans rfl, (blk_cell (blkP (Sep.p14 HS.out)) 4).trans rfl, (blk_cell (blkP (Sep.p14 HS.out)) 5).trans rfl⟩ (fun hHeld => ?_)
          clear hK K
          refine nR ?_
          refine pO 6 none (fun K hK => ?_)
          refine gStS [.slice A593 t582.length c594, .slice A595 t583.length c596, .int .i64 t584, .int .i64 t585, .int .i64 t586, .slice A597 t587.length c598] #[.slice A593 t582.length c594, .slice A595 t583.length c596, .int .i64 t584, .int .i64 t585, .int .i64 t586, .slice A597 t587.length c598] (blkP (Sep.p0 HS.out)) ?_
          intro w701 hw hbox; replace HB := aM (hw.below HB.out (Sep.r0 HS.out).1); replace HS := aM (Sep.wr HS.out hw hbox); clear hw hbox
          refine hK.out _ _ ⟨(blk_cell (blkP (Sep.p15 HS.out)) 0).trans rfl, (blk_cell (blkP (Sep.p15 HS.out)) 1).trans rfl, (blk_cell (blkP (Sep.p15 HS.out)) 2).trans rfl, (blk_cell (blkP (Sep.p15 HS.out)) 3).trans rfl, (blk_cell (blkP (Sep.p15 HS.out)) 4).trans rfl, (blk_cell (blkP (Sep.p15 HS.out)) 5).trans rfl, (blk_cell (blkP (Sep.p14 HS.out)) 0).trans rfl, (blk_cell (blkP (Sep.p14 HS.out)) 1).trans rfl, (blk_cell (blkP (Sep.p14 HS.out)) 2).trans rfl, (blk_cell (blkP (Sep.p14 HS.out)) 3).trans rfl, (blk_cell (blkP (Sep.p14 HS.out)) 4).trans rfl, (blk_cell (blkP (Sep.p14 HS.out)) 5).trans rfl⟩ (fun hHeld => ?_)
          clear hK K
          replace HS := aM (Sep.f2 HS.out).drop
          replace HS := aM (Sep.f2 HS.out).drop
          replace HS := aM (Sep.f13 HS.out)
          replace HS := aM (Sep.f13 HS.out)
          replace HS := aM (Sep.f13 HS.out)
          replace HS := aM (Sep.f13 HS.out)
          replace HS := aM (Sep.f13 HS.out)
          replace HS := aM (Sep.f13 HS.out)
          replace HS := aM (Sep.f13 HS.out)
          replace HS := aM (Sep.f13 HS.out)
          replace HS := aM (Sep.f13 HS.out)
          replace HS := aM (Sep.f13 HS.out)
          replace HS := aM (Sep.f13 HS.out)
          replace HS := aM (Sep.f13 HS.out)
          replace HS := aM (Sep.f13 HS.out)
          replace HS := aM (Sep.f13 HS.out)
          exact norm_ (by first | (simp only [putAll, Act.put, List.setIfInBounds_toArray, List.set_cons_zero, List.set_cons_succ]; done) | (simp only [putAll, Act.put, List.setIfInBounds_toArray, List.set_cons_zero, List.set_cons_succ]; rfl)) (hCont (.agg #[.slice A473 t462.length c474, .slice A475 t463.length c476, .int .i64 t464, .int .i64 t465, .int .i64 t466, .slice A477 t467.length c478], .agg #[.int .i64 t522, .int .i64 t523, .slice A531 t524.length c532, .int .i64 t525, .int .i64 t526, .int .i64 t527], .agg #[.slice A593 t582.length c594, .slice A595 t583.length c596, .int .i64 t584, .int .i64 t585, .int .i64 t586, .slice A597 t587.length c598], .pointer (some ⟨g641, 0, none⟩)) _ ⟨_, _, _, _, _, _, _, _, _, _, _, _, _, _, _, _, _, rfl, HS.out, HB.out⟩)
        · skip
          refine gBxS 13 #[.slice none 0 0, .slice none 0 0, .int .i64 0, .int .i64 0, .int .i64 0, .slice none 0 0] 33 ?_
          intro g641 hg w642 hbox hb; replace HS := aM (Sep.blk HS.out hb HB.out.size hg hbox); replace HB := aM (below_step HB.out hb); clear hb hbox hg
          refine hK.out _ _ ⟨(blk_cell (blkP (Sep.p14 HS.out)) 0).trans rfl, (blk_cell (blkP (Sep.p14 HS.out)) 1).trans rfl, (blk_cell (blkP (Sep.p14 HS.out)) 2).trans rfl, (blk_cell (blkP (Sep.p14 HS.out)) 3).trans rfl, (blk_cell (blkP (Sep.p14 HS.out)) 4).trans rfl, (blk_cell (blkP (Sep.p14 HS.out)) 5).trans rfl, (blk_cell (blkP (Sep.p13 HS.out)) 0).trans rfl, (blk_cell (blkP (Sep.p13 HS.out)) 1).trans rfl, (blk_cell (blkP (Sep.p13 HS.out)) 2).trans rfl, (blk_cell (blkP (Sep.p13 HS.out)) 3).trans rfl, (blk_cell (blkP (Sep.p13 HS.out)) 4).trans rfl, (blk_cell (blkP (Sep.p13 HS.out)) 5).trans rfl⟩ (fun hHeld => ?_)
          clear hK K
          refine nR ?_
          refine pO 4 (some 79) (fun K hK => ?_)
          refine gG Try.func39 #[.agg #[.slice A473 t462.length c474, .slice A475 t463.length c476, .int .i64 t464, .int .i64 t465, .int .i64 t466, .slice A477 t467.length c478], .agg #[.int .i64 t522, .int .i64 t523, .slice A531 t524.length c532, .int .i64 t525, .int .i64 t526, .int .i64 t527]] ?_
          refine (impl_OnePut.calls k _ _ t462 _ _ t463 t464 t465 t466 _ _ t467 t522 t523 _ _ t524 t525 t526 t527 t582 t583 t584 t585 t586 t587 _ (diskC0 (Sep.p2 HS.out)) (diskL0 (Sep.p2 HS.out)) (diskC1 (Sep.p2 HS.out)) (diskL1 (Sep.p2 HS.out)) (diskC2 (Sep.p2 HS.out)) (diskL2 (Sep.p2 HS.out)) (rowC (Sep.p1 HS.out)) (rowL (Sep.p1 HS.out)) A588.out).mono ?_
          rintro e w589 ⟨v590, v591, v592, rfl, ho0, ho1, ho2, hb⟩; refine ⟨_, rfl, ?_⟩
          obtain ⟨A593, c594, hz⟩ := Kd.R_slice ho0; subst hz
          obtain ⟨A595, c596, hz⟩ := Kd.R_slice ho1; subst hz
          obtain ⟨A597, c598, hz⟩ := Kd.S_slice ho2; subst hz
          replace HS := aM (Sep.disk HS.out hb HB.out.size ho0 ho1 ho2)
          replace HB := aM (below_step HB.out hb)
          clear ho0 ho1 ho2 hb
          refine hK.out _ _ ⟨(blk_cell (blkP (Sep.p15 HS.out)) 0).trans rfl, (blk_cell (blkP (Sep.p15 HS.out)) 1).trans rfl, (blk_cell (blkP (Sep.p15 HS.out)) 2).trans rfl, (blk_cell (blkP (Sep.p15 HS.out)) 3).trans rfl, (blk_cell (blkP (Sep.p15 HS.out)) 4).trans rfl, (blk_cell (blkP (Sep.p15 HS.out)) 5).trans rfl, (blk_cell (blkP (Sep.p14 HS.out)) 0).trans rfl, (blk_cell (blkP (Sep.p14 HS.out)) 1).trans rfl, (blk_cell (blkP (Sep.p14 HS.out)) 2).trans rfl, (blk_cell (blkP (Sep.p14 HS.out)) 3).trans rfl, (blk_cell (blkP (Sep.p14 HS.out)) 4).trans rfl, (blk_cell (blkP (Sep.p14 HS.out)) 5).trans rfl⟩ (fun hHeld => ?_)
          clear hK K
          refine nR ?_
          refine pO 6 none (fun K hK => ?_)
          replace HS := aM (Sep.f1 HS.out)
          refine gStS [.slice A593 t582.length c594, .slice A595 t583.length c596, .int .i64 t584, .int .i64 t585, .int .i64 t586, .slice A597 t587.length c598] #[.slice A593 t582.length c594, .slice A595 t583.length c596, .int .i64 t584, .int .i64 t585, .int .i64 t586, .slice A597 t587.length c598] (blkP (Sep.p0 HS.out)) ?_
          intro w701 hw hbox; replace HB := aM (hw.below HB.out (Sep.r0 HS.out).1); replace HS := aM (Sep.wr HS.out hw hbox); clear hw hbox
          refine hK.out _ _ ⟨(blk_cell (blkP (Sep.p15 HS.out)) 0).trans rfl, (blk_cell (blkP (Sep.p15 HS.out)) 1).trans rfl, (blk_cell (blkP (Sep.p15 HS.out)) 2).trans rfl, (blk_cell (blkP (Sep.p15 HS.out)) 3).trans rfl, (blk_cell (blkP (Sep.p15 HS.out)) 4).trans rfl, (blk_cell (blkP (Sep.p15 HS.out)) 5).trans rfl, (blk_cell (blkP (Sep.p14 HS.out)) 0).trans rfl, (blk_cell (blkP (Sep.p14 HS.out)) 1).trans rfl, (blk_cell (blkP (Sep.p14 HS.out)) 2).trans rfl, (blk_cell (blkP (Sep.p14 HS.out)) 3).trans rfl, (blk_cell (blkP (Sep.p14 HS.out)) 4).trans rfl, (blk_cell (blkP (Sep.p14 HS.out)) 5).trans rfl⟩ (fun hHeld => ?_)
          clear hK K
          replace HS := aM (Sep.f2 HS.out).drop
          replace HS := aM (Sep.f2 HS.out).drop
          replace HS := aM (Sep.f13 HS.out)
          replace HS := aM (Sep.f13 HS.out)
          replace HS := aM (Sep.f13 HS.out)
          replace HS := aM (Sep.f13 HS.out)
          replace HS := aM (Sep.f13 HS.out)
          replace HS := aM (Sep.f13 HS.out)
          replace HS := aM (Sep.f13 HS.out)
          replace HS := aM (Sep.f13 HS.out)
          replace HS := aM (Sep.f13 HS.out)
          replace HS := aM (Sep.f13 HS.out)
          replace HS := aM (Sep.f13 HS.out)
          replace HS := aM (Sep.f13 HS.out)
          replace HS := aM (Sep.f13 HS.out)
          replace HS := aM (Sep.f13 HS.out)
          exact norm_ (by first | (simp only [putAll, Act.put, List.setIfInBounds_toArray, List.set_cons_zero, List.set_cons_succ]; done) | (simp only [putAll, Act.put, List.setIfInBounds_toArray, List.set_cons_zero, List.set_cons_succ]; rfl)) (hCont (.agg #[.slice A473 t462.length c474, .slice A475 t463.length c476, .int .i64 t464, .int .i64 t465, .int .i64 t466, .slice A477 t467.length c478], .agg #[.int .i64 t522, .int .i64 t523, .slice A531 t524.length c532, .int .i64 t525, .int .i64 t526, .int .i64 t527], .agg #[.slice A593 t582.length c594, .slice A595 t583.length c596, .int .i64 t584, .int .i64 t585, .int .i64 t586, .slice A597 t587.length c598], .pointer (some ⟨g641, 0, none⟩)) _ ⟨_, _, _, _, _, _, _, _, _, _, _, _, _, _, _, _, _, rfl, HS.out, HB.out⟩)
      · skip
        refine gBxS 13 #[.slice none 0 0, .slice none 0 0, .int .i64 0, .int .i64 0, .int .i64 0, .slice none 0 0] 33 ?_
        intro g641 hg w642 hbox hb; replace HS := aM (Sep.blk HS.out hb HB.out.size hg hbox); replace HB := aM (below_step HB.out hb); clear hb hbox hg
        refine hK.out _ _ ⟨(blk_cell (blkP (Sep.p13 HS.out)) 0).trans rfl, (blk_cell (blkP (Sep.p13 HS.out)) 1).trans rfl, (blk_cell (blkP (Sep.p13 HS.out)) 2).trans rfl, (blk_cell (blkP (Sep.p13 HS.out)) 3).trans rfl, (blk_cell (blkP (Sep.p13 HS.out)) 4).trans rfl, (blk_cell (blkP (Sep.p13 HS.out)) 5).trans rfl, (blk_cell (blkP (Sep.p12 HS.out)) 0).trans rfl, (blk_cell (blkP (Sep.p12 HS.out)) 1).trans rfl, (blk_cell (blkP (Sep.p12 HS.out)) 2).trans rfl, (blk_cell (blkP (Sep.p12 HS.out)) 3).trans rfl, (blk_cell (blkP (Sep.p12 HS.out)) 4).trans rfl, (blk_cell (blkP (Sep.p12 HS.out)) 5).trans rfl⟩ (fun hHeld => ?_)
        clear hK K
        refine nR ?_
        refine pO 3 (some 78) (fun K hK => ?_)
        refine gG Try.func38 #[.agg #[.int .i64 a1_0, .int .i64 a1_1, .slice A1_2 l1_2.length c1_2, .int .i64 a1_3, .int .i64 a1_4, .int .i64 a1_5]] ?_
        refine (laws_toPut.calls k a1_0 a1_1 _ _ l1_2 a1_3 a1_4 a1_5 t522 t523 t524 t525 t526 t527 _ (Kd.C_below HR1_2.out.1 HB.out) HR1_2.out.2 A528.out).mono ?_
        rintro e w529 ⟨v530, rfl, ho0, hb⟩; refine ⟨_, rfl, ?_⟩
        obtain ⟨A531, c532, hz⟩ := Kd.R_slice ho0; subst hz
        replace HS := aM (Sep.row HS.out hb HB.out.size ho0)
        replace HB := aM (below_step HB.out hb)
        clear ho0 hb
        refine hK.out _ _ ⟨(blk_cell (blkP (Sep.p14 HS.out)) 0).trans rfl, (blk_cell (blkP (Sep.p14 HS.out)) 1).trans rfl, (blk_cell (blkP (Sep.p14 HS.out)) 2).trans rfl, (blk_cell (blkP (Sep.p14 HS.out)) 3).trans rfl, (blk_cell (blkP (Sep.p14 HS.out)) 4).trans rfl, (blk_cell (blkP (Sep.p14 HS.out)) 5).trans rfl, (blk_cell (blkP (Sep.p13 HS.out)) 0).trans rfl, (blk_cell (blkP (Sep.p13 HS.out)) 1).trans rfl, (blk_cell (blkP (Sep.p13 HS.out)) 2).trans rfl, (blk_cell (blkP (Sep.p13 HS.out)) 3).trans rfl, (blk_cell (blkP (Sep.p13 HS.out)) 4).trans rfl, (blk_cell (blkP (Sep.p13 HS.out)) 5).trans rfl⟩ (fun hHeld => ?_)
        clear hK K
        refine nR ?_
        refine pO 4 (some 79) (fun K hK => ?_)
        refine gG Try.func39 #[.agg #[.slice A473 t462.length c474, .slice A475 t463.length c476, .int .i64 t464, .int .i64 t465, .int .i64 t466, .slice A477 t467.length c478], .agg #[.int .i64 t522, .int .i64 t523, .slice A531 t524.length c532, .int .i64 t525, .int .i64 t526, .int .i64 t527]] ?_
        refine (impl_OnePut.calls k _ _ t462 _ _ t463 t464 t465 t466 _ _ t467 t522 t523 _ _ t524 t525 t526 t527 t582 t583 t584 t585 t586 t587 _ (diskC0 (Sep.p2 HS.out)) (diskL0 (Sep.p2 HS.out)) (diskC1 (Sep.p2 HS.out)) (diskL1 (Sep.p2 HS.out)) (diskC2 (Sep.p2 HS.out)) (diskL2 (Sep.p2 HS.out)) (rowC (Sep.p0 HS.out)) (rowL (Sep.p0 HS.out)) A588.out).mono ?_
        rintro e w589 ⟨v590, v591, v592, rfl, ho0, ho1, ho2, hb⟩; refine ⟨_, rfl, ?_⟩
        obtain ⟨A593, c594, hz⟩ := Kd.R_slice ho0; subst hz
        obtain ⟨A595, c596, hz⟩ := Kd.R_slice ho1; subst hz
        obtain ⟨A597, c598, hz⟩ := Kd.S_slice ho2; subst hz
        replace HS := aM (Sep.disk HS.out hb HB.out.size ho0 ho1 ho2)
        replace HB := aM (below_step HB.out hb)
        clear ho0 ho1 ho2 hb
        refine hK.out _ _ ⟨(blk_cell (blkP (Sep.p15 HS.out)) 0).trans rfl, (blk_cell (blkP (Sep.p15 HS.out)) 1).trans rfl, (blk_cell (blkP (Sep.p15 HS.out)) 2).trans rfl, (blk_cell (blkP (Sep.p15 HS.out)) 3).trans rfl, (blk_cell (blkP (Sep.p15 HS.out)) 4).trans rfl, (blk_cell (blkP (Sep.p15 HS.out)) 5).trans rfl, (blk_cell (blkP (Sep.p14 HS.out)) 0).trans rfl, (blk_cell (blkP (Sep.p14 HS.out)) 1).trans rfl, (blk_cell (blkP (Sep.p14 HS.out)) 2).trans rfl, (blk_cell (blkP (Sep.p14 HS.out)) 3).trans rfl, (blk_cell (blkP (Sep.p14 HS.out)) 4).trans rfl, (blk_cell (blkP (Sep.p14 HS.out)) 5).trans rfl⟩ (fun hHeld => ?_)
        clear hK K
        refine nR ?_
        refine pO 6 none (fun K hK => ?_)
        replace HS := aM (Sep.f2 HS.out)
        refine gStS [.slice A593 t582.length c594, .slice A595 t583.length c596, .int .i64 t584, .int .i64 t585, .int .i64 t586, .slice A597 t587.length c598] #[.slice A593 t582.length c594, .slice A595 t583.length c596, .int .i64 t584, .int .i64 t585, .int .i64 t586, .slice A597 t587.length c598] (blkP (Sep.p0 HS.out)) ?_
        intro w701 hw hbox; replace HB := aM (hw.below HB.out (Sep.r0 HS.out).1); replace HS := aM (Sep.wr HS.out hw hbox); clear hw hbox
        refine hK.out _ _ ⟨(blk_cell (blkP (Sep.p15 HS.out)) 0).trans rfl, (blk_cell (blkP (Sep.p15 HS.out)) 1).trans rfl, (blk_cell (blkP (Sep.p15 HS.out)) 2).trans rfl, (blk_cell (blkP (Sep.p15 HS.out)) 3).trans rfl, (blk_cell (blkP (Sep.p15 HS.out)) 4).trans rfl, (blk_cell (blkP (Sep.p15 HS.out)) 5).trans rfl, (blk_cell (blkP (Sep.p14 HS.out)) 0).trans rfl, (blk_cell (blkP (Sep.p14 HS.out)) 1).trans rfl, (blk_cell (blkP (Sep.p14 HS.out)) 2).trans rfl, (blk_cell (blkP (Sep.p14 HS.out)) 3).trans rfl, (blk_cell (blkP (Sep.p14 HS.out)) 4).trans rfl, (blk_cell (blkP (Sep.p14 HS.out)) 5).trans rfl⟩ (fun hHeld => ?_)
        clear hK K
        replace HS := aM (Sep.f2 HS.out).drop
        replace HS := aM (Sep.f2 HS.out).drop
        replace HS := aM (Sep.f13 HS.out)
        replace HS := aM (Sep.f13 HS.out)
        replace HS := aM (Sep.f13 HS.out)
        replace HS := aM (Sep.f13 HS.out)
        replace HS := aM (Sep.f13 HS.out)
        replace HS := aM (Sep.f13 HS.out)
        replace HS := aM (Sep.f13 HS.out)
        replace HS := aM (Sep.f13 HS.out)
        replace HS := aM (Sep.f13 HS.out)
        replace HS := aM (Sep.f13 HS.out)
        replace HS := aM (Sep.f13 HS.out)
        replace HS := aM (Sep.f13 HS.out)
        replace HS := aM (Sep.f13 HS.out)
        replace HS := aM (Sep.f13 HS.out)
        exact norm_ (by first | (simp only [putAll, Act.put, List.setIfInBounds_toArray, List.set_cons_zero, List.set_cons_succ]; done) | (simp only [putAll, Act.put, List.setIfInBounds_toArray, List.set_cons_zero, List.set_cons_succ]; rfl)) (hCont (.agg #[.slice A473 t462.length c474, .slice A475 t463.length c476, .int .i64 t464, .int .i64 t465, .int .i64 t466, .slice A477 t467.length c478], .agg #[.int .i64 t522, .int .i64 t523, .slice A531 t524.length c532, .int .i64 t525, .int .i64 t526, .int .i64 t527], .agg #[.slice A593 t582.length c594, .slice A595 t583.length c596, .int .i64 t584, .int .i64 t585, .int .i64 t586, .slice A597 t587.length c598], .pointer (some ⟨g641, 0, none⟩)) _ ⟨_, _, _, _, _, _, _, _, _, _, _, _, _, _, _, _, _, rfl, HS.out, HB.out⟩)
    · skip
      refine gBxS 13 #[.slice none 0 0, .slice none 0 0, .int .i64 0, .int .i64 0, .int .i64 0, .slice none 0 0] 33 ?_
      intro g641 hg w642 hbox hb; replace HS := aM (Sep.blk HS.out hb HB.out.size hg hbox); replace HB := aM (below_step HB.out hb); clear hb hbox hg
      refine hK.out _ _ ⟨(blk_cell (blkP (Sep.p12 HS.out)) 0).trans rfl, (blk_cell (blkP (Sep.p12 HS.out)) 1).trans rfl, (blk_cell (blkP (Sep.p12 HS.out)) 2).trans rfl, (blk_cell (blkP (Sep.p12 HS.out)) 3).trans rfl, (blk_cell (blkP (Sep.p12 HS.out)) 4).trans rfl, (blk_cell (blkP (Sep.p12 HS.out)) 5).trans rfl, (blk_cell (blkP (Sep.p11 HS.out)) 0).trans rfl, (blk_cell (blkP (Sep.p11 HS.out)) 1).trans rfl, (blk_cell (blkP (Sep.p11 HS.out)) 2).trans rfl, (blk_cell (blkP (Sep.p11 HS.out)) 3).trans rfl, (blk_cell (blkP (Sep.p11 HS.out)) 4).trans rfl, (blk_cell (blkP (Sep.p11 HS.out)) 5).trans rfl⟩ (fun hHeld => ?_)
      clear hK K
      refine nR ?_
      refine pO 1 (some 76) (fun K hK => ?_)
      refine gG Try.func17 #[.agg #[.slice A0_0 l0_0.length c0_0, .slice A0_1 l0_1.length c0_1, .int .i64 a0_2, .int .i64 a0_3, .int .i64 a0_4, .slice A0_5 l0_5.length c0_5]] ?_
      refine (laws_toDisk.calls k _ _ l0_0 _ _ l0_1 a0_2 a0_3 a0_4 _ _ l0_5 t462 t463 t464 t465 t466 t467 _ (Kd.C_below HR0_0.out.1 HB.out) HR0_0.out.2 (Kd.C_below HR0_1.out.1 HB.out) HR0_1.out.2 (Kd.C_below HR0_5.out.1 HB.out) HR0_5.out.2 A468.out).mono ?_
      rintro e w469 ⟨v470, v471, v472, rfl, ho0, ho1, ho2, hb⟩; refine ⟨_, rfl, ?_⟩
      obtain ⟨A473, c474, hz⟩ := Kd.R_slice ho0; subst hz
      obtain ⟨A475, c476, hz⟩ := Kd.R_slice ho1; subst hz
      obtain ⟨A477, c478, hz⟩ := Kd.S_slice ho2; subst hz
      replace HS := aM (Sep.disk HS.out hb HB.out.size ho0 ho1 ho2)
      replace HB := aM (below_step HB.out hb)
      clear ho0 ho1 ho2 hb
      refine hK.out _ _ ⟨(blk_cell (blkP (Sep.p13 HS.out)) 0).trans rfl, (blk_cell (blkP (Sep.p13 HS.out)) 1).trans rfl, (blk_cell (blkP (Sep.p13 HS.out)) 2).trans rfl, (blk_cell (blkP (Sep.p13 HS.out)) 3).trans rfl, (blk_cell (blkP (Sep.p13 HS.out)) 4).trans rfl, (blk_cell (blkP (Sep.p13 HS.out)) 5).trans rfl, (blk_cell (blkP (Sep.p12 HS.out)) 0).trans rfl, (blk_cell (blkP (Sep.p12 HS.out)) 1).trans rfl, (blk_cell (blkP (Sep.p12 HS.out)) 2).trans rfl, (blk_cell (blkP (Sep.p12 HS.out)) 3).trans rfl, (blk_cell (blkP (Sep.p12 HS.out)) 4).trans rfl, (blk_cell (blkP (Sep.p12 HS.out)) 5).trans rfl⟩ (fun hHeld => ?_)
      clear hK K
      refine nR ?_
      refine pO 3 (some 78) (fun K hK => ?_)
      refine gG Try.func38 #[.agg #[.int .i64 a1_0, .int .i64 a1_1, .slice A1_2 l1_2.length c1_2, .int .i64 a1_3, .int .i64 a1_4, .int .i64 a1_5]] ?_
      refine (laws_toPut.calls k a1_0 a1_1 _ _ l1_2 a1_3 a1_4 a1_5 t522 t523 t524 t525 t526 t527 _ (Kd.C_below HR1_2.out.1 HB.out) HR1_2.out.2 A528.out).mono ?_
      rintro e w529 ⟨v530, rfl, ho0, hb⟩; refine ⟨_, rfl, ?_⟩
      obtain ⟨A531, c532, hz⟩ := Kd.R_slice ho0; subst hz
      replace HS := aM (Sep.row HS.out hb HB.out.size ho0)
      replace HB := aM (below_step HB.out hb)
      clear ho0 hb
      refine hK.out _ _ ⟨(blk_cell (blkP (Sep.p14 HS.out)) 0).trans rfl, (blk_cell (blkP (Sep.p14 HS.out)) 1).trans rfl, (blk_cell (blkP (Sep.p14 HS.out)) 2).trans rfl, (blk_cell (blkP (Sep.p14 HS.out)) 3).trans rfl, (blk_cell (blkP (Sep.p14 HS.out)) 4).trans rfl, (blk_cell (blkP (Sep.p14 HS.out)) 5).trans rfl, (blk_cell (blkP (Sep.p13 HS.out)) 0).trans rfl, (blk_cell (blkP (Sep.p13 HS.out)) 1).trans rfl, (blk_cell (blkP (Sep.p13 HS.out)) 2).trans rfl, (blk_cell (blkP (Sep.p13 HS.out)) 3).trans rfl, (blk_cell (blkP (Sep.p13 HS.out)) 4).trans rfl, (blk_cell (blkP (Sep.p13 HS.out)) 5).trans rfl⟩ (fun hHeld => ?_)
      clear hK K
      refine nR ?_
      refine pO 4 (some 79) (fun K hK => ?_)
      refine gG Try.func39 #[.agg #[.slice A473 t462.length c474, .slice A475 t463.length c476, .int .i64 t464, .int .i64 t465, .int .i64 t466, .slice A477 t467.length c478], .agg #[.int .i64 t522, .int .i64 t523, .slice A531 t524.length c532, .int .i64 t525, .int .i64 t526, .int .i64 t527]] ?_
      refine (impl_OnePut.calls k _ _ t462 _ _ t463 t464 t465 t466 _ _ t467 t522 t523 _ _ t524 t525 t526 t527 t582 t583 t584 t585 t586 t587 _ (diskC0 (Sep.p1 HS.out)) (diskL0 (Sep.p1 HS.out)) (diskC1 (Sep.p1 HS.out)) (diskL1 (Sep.p1 HS.out)) (diskC2 (Sep.p1 HS.out)) (diskL2 (Sep.p1 HS.out)) (rowC (Sep.p0 HS.out)) (rowL (Sep.p0 HS.out)) A588.out).mono ?_
      rintro e w589 ⟨v590, v591, v592, rfl, ho0, ho1, ho2, hb⟩; refine ⟨_, rfl, ?_⟩
      obtain ⟨A593, c594, hz⟩ := Kd.R_slice ho0; subst hz
      obtain ⟨A595, c596, hz⟩ := Kd.R_slice ho1; subst hz
      obtain ⟨A597, c598, hz⟩ := Kd.S_slice ho2; subst hz
      replace HS := aM (Sep.disk HS.out hb HB.out.size ho0 ho1 ho2)
      replace HB := aM (below_step HB.out hb)
      clear ho0 ho1 ho2 hb
      refine hK.out _ _ ⟨(blk_cell (blkP (Sep.p15 HS.out)) 0).trans rfl, (blk_cell (blkP (Sep.p15 HS.out)) 1).trans rfl, (blk_cell (blkP (Sep.p15 HS.out)) 2).trans rfl, (blk_cell (blkP (Sep.p15 HS.out)) 3).trans rfl, (blk_cell (blkP (Sep.p15 HS.out)) 4).trans rfl, (blk_cell (blkP (Sep.p15 HS.out)) 5).trans rfl, (blk_cell (blkP (Sep.p14 HS.out)) 0).trans rfl, (blk_cell (blkP (Sep.p14 HS.out)) 1).trans rfl, (blk_cell (blkP (Sep.p14 HS.out)) 2).trans rfl, (blk_cell (blkP (Sep.p14 HS.out)) 3).trans rfl, (blk_cell (blkP (Sep.p14 HS.out)) 4).trans rfl, (blk_cell (blkP (Sep.p14 HS.out)) 5).trans rfl⟩ (fun hHeld => ?_)
      clear hK K
      refine nR ?_
      refine pO 6 none (fun K hK => ?_)
      replace HS := aM (Sep.f3 HS.out)
      refine gStS [.slice A593 t582.length c594, .slice A595 t583.length c596, .int .i64 t584, .int .i64 t585, .int .i64 t586, .slice A597 t587.length c598] #[.slice A593 t582.length c594, .slice A595 t583.length c596, .int .i64 t584, .int .i64 t585, .int .i64 t586, .slice A597 t587.length c598] (blkP (Sep.p0 HS.out)) ?_
      intro w701 hw hbox; replace HB := aM (hw.below HB.out (Sep.r0 HS.out).1); replace HS := aM (Sep.wr HS.out hw hbox); clear hw hbox
      refine hK.out _ _ ⟨(blk_cell (blkP (Sep.p15 HS.out)) 0).trans rfl, (blk_cell (blkP (Sep.p15 HS.out)) 1).trans rfl, (blk_cell (blkP (Sep.p15 HS.out)) 2).trans rfl, (blk_cell (blkP (Sep.p15 HS.out)) 3).trans rfl, (blk_cell (blkP (Sep.p15 HS.out)) 4).trans rfl, (blk_cell (blkP (Sep.p15 HS.out)) 5).trans rfl, (blk_cell (blkP (Sep.p14 HS.out)) 0).trans rfl, (blk_cell (blkP (Sep.p14 HS.out)) 1).trans rfl, (blk_cell (blkP (Sep.p14 HS.out)) 2).trans rfl, (blk_cell (blkP (Sep.p14 HS.out)) 3).trans rfl, (blk_cell (blkP (Sep.p14 HS.out)) 4).trans rfl, (blk_cell (blkP (Sep.p14 HS.out)) 5).trans rfl⟩ (fun hHeld => ?_)
      clear hK K
      replace HS := aM (Sep.f2 HS.out).drop
      replace HS := aM (Sep.f2 HS.out).drop
      replace HS := aM (Sep.f13 HS.out)
      replace HS := aM (Sep.f13 HS.out)
      replace HS := aM (Sep.f13 HS.out)
      replace HS := aM (Sep.f13 HS.out)
      replace HS := aM (Sep.f13 HS.out)
      replace HS := aM (Sep.f13 HS.out)
      replace HS := aM (Sep.f13 HS.out)
      replace HS := aM (Sep.f13 HS.out)
      replace HS := aM (Sep.f13 HS.out)
      replace HS := aM (Sep.f13 HS.out)
      replace HS := aM (Sep.f13 HS.out)
      replace HS := aM (Sep.f13 HS.out)
      replace HS := aM (Sep.f13 HS.out)
      replace HS := aM (Sep.f13 HS.out)
      exact norm_ (by first | (simp only [putAll, Act.put, List.setIfInBounds_toArray, List.set_cons_zero, List.set_cons_succ]; done) | (simp only [putAll, Act.put, List.setIfInBounds_toArray, List.set_cons_zero, List.set_cons_succ]; rfl)) (hCont (.agg #[.slice A473 t462.length c474, .slice A475 t463.length c476, .int .i64 t464, .int .i64 t465, .int .i64 t466, .slice A477 t467.length c478], .agg #[.int .i64 t522, .int .i64 t523, .slice A531 t524.length c532, .int .i64 t525, .int .i64 t526, .int .i64 t527], .agg #[.slice A593 t582.length c594, .slice A595 t583.length c596, .int .i64 t584, .int .i64 t585, .int .i64 t586, .slice A597 t587.length c598], .pointer (some ⟨g641, 0, none⟩)) _ ⟨_, _, _, _, _, _, _, _, _, _, _, _, _, _, _, _, _, rfl, HS.out, HB.out⟩)
  rintro _ w763 ⟨g641, x761, y762, A473, c474, A475, c476, A477, c478, A531, c532, A593, c594, A595, c596, A597, c598, rfl, hs_, hb_⟩
  replace HS := aM hs_
  replace HB := aM hb_
  clear hs_ hb_ hHeld
  refine norm_ (a' := ?_) ?_ ?_
  rotate_left
  · simp only [putAll, Act.put, List.setIfInBounds_toArray, List.set_cons_zero, List.set_cons_succ]
    rfl
  refine done_ (by kernel_rfl) ?_
  replace h := bE h; obtain ⟨t765, A766, h⟩ := h
  replace h := ifN h; obtain ⟨hq, h⟩ := h
  subst hq
  replace h := bE h; obtain ⟨t769, A770, h⟩ := h
  replace h := ifM h; obtain ⟨c772, h⟩ := h
  have c772b : decide (t769 < 0) = false := decide_eq_false c772
  clear c772
  replace h := ifN h; obtain ⟨c773, h⟩ := h
  have c773b : (t769 != t448) = false := bne_eq_false_iff_eq.mpr c773
  clear c773
  go_wp2_with (first | ((with_reducible refine gate_dst (N := 80) rfl ?_); refine gLd 80 (blkP (Sep.p0 HS.out)) ?_; (simp only [Act.put, List.setIfInBounds_toArray, List.set_cons_zero, List.set_cons_succ])) | ((with_reducible refine gate_dst (N := 81) rfl ?_); refine gLd 81 (blkP (Sep.p10 HS.out)) ?_; (simp only [Act.put, List.setIfInBounds_toArray, List.set_cons_zero, List.set_cons_succ])) | ((with_reducible refine gate_callee (f := 19) rfl ?_); (with_reducible refine gate_dst (N := 82) rfl ?_); refine gL (some 82) Try.func19 #[.agg #[.slice A593 t582.length c594, .slice A595 t583.length c596, .int .i64 t584, .int .i64 t585, .int .i64 t586, .slice A597 t587.length c598], .agg #[.slice A150 t139.length c151, .slice A152 t140.length c153, .int .i64 t141, .int .i64 t142, .int .i64 t143, .slice A154 t144.length c155]] ?_; refine (laws_eqDisk.calls k _ _ t582 _ _ t583 t584 t585 t586 _ _ t587 _ _ t139 _ _ t140 t141 t142 t143 _ _ t144 true _ (diskC0 (Sep.p1 HS.out)) (diskL0 (Sep.p1 HS.out)) (diskC1 (Sep.p1 HS.out)) (diskL1 (Sep.p1 HS.out)) (diskC2 (Sep.p1 HS.out)) (diskL2 (Sep.p1 HS.out)) (diskC0 (Sep.p11 HS.out)) (diskL0 (Sep.p11 HS.out)) (diskC1 (Sep.p11 HS.out)) (diskL1 (Sep.p11 HS.out)) (diskC2 (Sep.p11 HS.out)) (diskL2 (Sep.p11 HS.out)) A766.out).mono ?_; rintro e w767 ⟨rfl, hb⟩; refine ⟨_, rfl, ?_⟩; replace HS := aM (HS.out.below hb); replace HB := aM (below_step HB.out hb); clear hb; (simp only [Act.put, List.setIfInBounds_toArray, List.set_cons_zero, List.set_cons_succ])) | ((with_reducible refine gate_dst (N := 84) rfl ?_); refine gLd 84 (blkP (Sep.p7 HS.out)) ?_; (simp only [Act.put, List.setIfInBounds_toArray, List.set_cons_zero, List.set_cons_succ])) | ((with_reducible refine gate_callee (f := 26) rfl ?_); (with_reducible refine gate_dst (N := 86) rfl ?_); refine gL (some 86) Try.func26 #[.agg #[.slice A373 t449.length c374, .slice A375 t450.length c376, .int .i64 t364, .int .i64 t365, .int .i64 t366, .slice A377 t451.length c378], .int .i64 1] ?_; refine (laws_heldDisk.calls k _ _ t449 _ _ t450 t364 t365 t366 _ _ t451 1 t769 _ (diskC0 (Sep.p2 HS.out)) (diskL0 (Sep.p2 HS.out)) (diskC1 (Sep.p2 HS.out)) (diskL1 (Sep.p2 HS.out)) (diskC2 (Sep.p2 HS.out)) (diskL2 (Sep.p2 HS.out)) A770.out).mono ?_; rintro e w771 ⟨rfl, hb⟩; refine ⟨_, rfl, ?_⟩; replace HS := aM (HS.out.below hb); replace HB := aM (below_step HB.out hb); clear hb; (simp only [Act.put, List.setIfInBounds_toArray, List.set_cons_zero, List.set_cons_succ])))
  obtain rfl := Option.some.inj h
  (try go_wp2)
  go_ret
  exact ⟨rfl, HB.out⟩

end Go.Proofs.Ytogilihkphjjbaa.Q
