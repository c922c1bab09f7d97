/- Functions of the program as plain Lean functions, and that a call of each comes to what its function tells. Written by a program of this seat. -/
import Derived.Test.YtfkndpjbkndhcaaQ0
import Derived.Test.YtfkndpjbkndhcaaQ3
import Derived.Test.YtfkndpjbkndhcaaQ5
import Derived.Test.YtfkndpjbkndhcaaQ7
namespace Go.Proofs.Ytfkndpjbkndhcaa.Q
open Go.RowKit Go.Proofs.YtfkndpjbkndhcaaW.PrintWords Go.Proofs.YtfkndpjbkndhcaaW.PrintLast Go.Proofs.YtfkndpjbkndhcaaW.PrintMore
attribute [local go_sem] max2_int min2_int max_two min_two max_three min_three max_four min_four   -- for this text's walks alone
set_option linter.unusedVariables false
set_option linter.unusedSimpArgs false

/-! ### impl_ManOk: function 64 -/
mutual
def impl_ManOk.j0 : Nat → Bool → Int → Int → Int → List (S48) → Option (Bool)
  | 0, _, _, _, _, _ => none
  | k + 1, x33, x209000, x209001, x209002, x209003 => if x33 = true then (some false) else (impl_ManOk.l0 k x209003 (x209003.length : Int) 0 x209000 x209001 x209002 x209003)
def impl_ManOk.l0 : Nat → List (S48) → Int → Int → Int → Int → Int → List (S48) → Option (Bool)
  | 0, _, _, _, _, _, _, _ => none
  | k + 1, x35, x36, x37, x209000, x209001, x209002, x209003 => if x37 < x36 then (if 0 ≤ x37 then (if x37 < (x35.length : Int) then ((impl_BytesOf.f k ((rd_T48 x35 x37).f1)).bind fun bt215 => ((impl_SpanOf.f x209001 x209002 x37).bind fun bt219 => (if bt215.2 = true then (if (bt215.1.length : Int) = bt219.2 then ((impl_WeakOf.f k bt215.1).bind fun t221 => (if t221 = ((rd_T48 x35 x37).f0) then (impl_ManOk.l0 k x35 x36 (wrap64 (x37 + 1)) x209000 x209001 x209002 x209003) else (some false))) else (some false)) else (some false)))) else (none)) else (none)) else (some true)
end
def impl_ManOk.f (k : Nat) (a0_0 : Int) (a0_1 : Int) (a0_2 : Int) (l0_3 : List (S48)) : Option (Bool) := (impl_isZeroMan.f a0_0 a0_1 a0_2 l0_3).bind fun t209 => (if t209 = true then (some true) else ((impl_within.f a0_0 1 1000000).bind fun t210 => (if t210 = true then ((impl_SizeOk.f a0_1 a0_2).bind fun t211 => (if t211 = true then ((impl_Blocks.f a0_1 a0_2).bind fun t212 => (impl_ManOk.j0 k ((l0_3.length : Int) != t212) a0_0 a0_1 a0_2 l0_3)) else (impl_ManOk.j0 k true a0_0 a0_1 a0_2 l0_3))) else (impl_ManOk.j0 k true a0_0 a0_1 a0_2 l0_3))))
theorem impl_ManOk.mono_l : ∀ k, (∀ y0 y1 y2 y3 y4, LeO (impl_ManOk.j0 k y0 y1 y2 y3 y4) (impl_ManOk.j0 (k + 1) y0 y1 y2 y3 y4)) ∧ (∀ y0 y1 y2 y3 y4 y5 y6, LeO (impl_ManOk.l0 k y0 y1 y2 y3 y4 y5 y6) (impl_ManOk.l0 (k + 1) y0 y1 y2 y3 y4 y5 y6))
  | 0 => ⟨fun _ _ _ _ _ r h => by simp [impl_ManOk.j0] at h, fun _ _ _ _ _ _ _ r h => by simp [impl_ManOk.l0] at h⟩
  | k + 1 => by
    have m0_ := @impl_BytesOf.mono
    have m1_ := @impl_WeakOf.mono
    obtain ⟨ih0, ih1⟩ := impl_ManOk.mono_l k
    refine ⟨?_, ?_⟩
    · intro y0 y1 y2 y3 y4
      unfold impl_ManOk.j0
      exact LM
    · intro y0 y1 y2 y3 y4 y5 y6
      unfold impl_ManOk.l0
      exact LM
theorem impl_ManOk.mono : ∀ a0 a1 a2 a3 k, LeO (impl_ManOk.f k a0 a1 a2 a3) (impl_ManOk.f (k + 1) a0 a1 a2 a3) := by
  intro a0 a1 a2 a3 k
  have m0_ := @impl_BytesOf.mono
  have m1_ := @impl_WeakOf.mono
  obtain ⟨ih0, ih1⟩ := impl_ManOk.mono_l k
  unfold impl_ManOk.f
  exact LM
set_option maxHeartbeats 40000000 in
set_option maxRecDepth 100000 in
theorem impl_ManOk.calls (k : Nat) (af : Int) (ad : Int) (ae : Int) (ap : Option Addr) (am : Nat) (ac : List (S48)) (r : Bool) (w : World) (bc : Kd.C k48 w ap ac.length ac) (bb : ac.length ≤ am) (h : impl_ManOk.f k af ad ae ac = some r) :
  Calls Try.prog 64 #[.agg #[.int .i64 af, .int .i64 ad, .int .i64 ae, .slice ap ac.length am]] w fun e w' => e = .returned (.bool r) ∧ Below w.heap.size w w' := by
 have hu28 := Try.underlying28
 have hu48 := Try.underlying48
 have an := aM bc
 have ao := aM bb
 clear bc bb
 have HB := aM (Below.refl w.heap.size w)
 have H := h
 clear h
 unfold impl_ManOk.f at H
 replace H := bE H
 obtain ⟨t209, A2, H⟩ := H
 go_enter Try.func64, Try.ntmps64
 go_wp2_with (first | ((with_reducible refine gate_dst (N := 1) rfl ?_); (try (refine gate_guard (by rfl) ?_; dsimp only)); refine gBx 1 #[.int .i64 af, .int .i64 ad, .int .i64 ae, .slice ap ac.length am] 28 ?_; intro ag hg w4 hbox hb; have aa := aM (hbox); have GW208 := aM ((by rw [hg]; exact (below_size TB) : w.heap.size ≤ ag)); have GE208 := aM ((by rw [hg]; exact (below_size TB) : w.heap.size ≤ ag)); replace HB := aM (below_step TB hb); clear hb hbox hg; obtain ⟨az, au, aq, av⟩ := cz4 aa.out; obtain ⟨ay, ax, ar, aw⟩ := fz4 aa.out) | ((with_reducible refine gate_callee (f := 107) rfl ?_); (with_reducible refine gate_dst (N := 10) rfl ?_); generalize hG_ : wpList _ _ _ _ _ _ = G_))
 repeat (go_quiet (first | ((with_reducible refine gate_dst (N := 1) rfl ?_); (try (refine gate_guard (by rfl) ?_; dsimp only)); refine gBx 1 #[.int .i64 af, .int .i64 ad, .int .i64 ae, .slice ap ac.length am] 28 ?_; intro ag hg w4 hbox hb; have aa := aM (hbox); have GW208 := aM ((by rw [hg]; exact (below_size TB) : w.heap.size ≤ ag)); have GE208 := aM ((by rw [hg]; exact (below_size TB) : w.heap.size ≤ ag)); replace HB := aM (below_step TB hb); clear hb hbox hg; obtain ⟨az, au, aq, av⟩ := cz4 aa.out; obtain ⟨ay, ax, ar, aw⟩ := fz4 aa.out) | ((with_reducible refine gate_callee (f := 107) rfl ?_); (with_reducible refine gate_dst (N := 10) rfl ?_); generalize hG_ : wpList _ _ _ _ _ _ = G_)); try go_wp2_with (first | ((with_reducible refine gate_dst (N := 1) rfl ?_); (try (refine gate_guard (by rfl) ?_; dsimp only)); refine gBx 1 #[.int .i64 af, .int .i64 ad, .int .i64 ae, .slice ap ac.length am] 28 ?_; intro ag hg w4 hbox hb; have aa := aM (hbox); have GW208 := aM ((by rw [hg]; exact (below_size TB) : w.heap.size ≤ ag)); have GE208 := aM ((by rw [hg]; exact (below_size TB) : w.heap.size ≤ ag)); replace HB := aM (below_step TB hb); clear hb hbox hg; obtain ⟨az, au, aq, av⟩ := cz4 aa.out; obtain ⟨ay, ax, ar, aw⟩ := fz4 aa.out) | ((with_reducible refine gate_callee (f := 107) rfl ?_); (with_reducible refine gate_dst (N := 10) rfl ?_); generalize hG_ : wpList _ _ _ _ _ _ = G_)))
 subst hG_
 by_cases c6 : t209 = true
 ·subst c6
  replace H := ifT H
  obtain rfl := Option.some.inj H
  go_wp2_with (first | (go_at_call 107; (with_reducible refine (impl_isZeroMan.calls af ad ae _ _ ac true _ ?side1 ?side2 A2.out).mono ?_); (case side1 => repeat (first | exact (Kd.C_below an.out TB) | (with_reducible refine Kd.C_alloc ?_ _) | (with_reducible refine Kd.C_drewN ?_ _) | (with_reducible refine Kd.C_drew ?_))); (case side2 => exact ao.out); rintro e w7 ⟨rfl, hb⟩; replace aa := aM (blk_below (by have X_ := aa.out; exact TX) hb); replace HB := aM (below_step TB hb); clear hb))
  repeat (go_quiet (first | (go_at_call 107; (with_reducible refine (impl_isZeroMan.calls af ad ae _ _ ac true _ ?side1 ?side2 A2.out).mono ?_); (case side1 => repeat (first | exact (Kd.C_below an.out TB) | (with_reducible refine Kd.C_alloc ?_ _) | (with_reducible refine Kd.C_drewN ?_ _) | (with_reducible refine Kd.C_drew ?_))); (case side2 => exact ao.out); rintro e w7 ⟨rfl, hb⟩; replace aa := aM (blk_below (by have X_ := aa.out; exact TX) hb); replace HB := aM (below_step TB hb); clear hb)); try go_wp2_with (first | (go_at_call 107; (with_reducible refine (impl_isZeroMan.calls af ad ae _ _ ac true _ ?side1 ?side2 A2.out).mono ?_); (case side1 => repeat (first | exact (Kd.C_below an.out TB) | (with_reducible refine Kd.C_alloc ?_ _) | (with_reducible refine Kd.C_drewN ?_ _) | (with_reducible refine Kd.C_drew ?_))); (case side2 => exact ao.out); rintro e w7 ⟨rfl, hb⟩; replace aa := aM (blk_below (by have X_ := aa.out; exact TX) hb); replace HB := aM (below_step TB hb); clear hb)))
  go_ret
  exact ⟨by first | rfl | (simp [errW_none, errW_some] <;> rfl) | (simp [*, errW_none, errW_some] <;> rfl), TB⟩
 ·replace c6 := Bool.eq_false_iff.mpr c6
  subst c6
  replace H := ifF H
  have HC8 := aM H
  clear H
  go_upto_region 3 with (first | (go_at_call 107; (with_reducible refine (impl_isZeroMan.calls af ad ae _ _ ac false _ ?side1 ?side2 A2.out).mono ?_); (case side1 => repeat (first | exact (Kd.C_below an.out TB) | (with_reducible refine Kd.C_alloc ?_ _) | (with_reducible refine Kd.C_drewN ?_ _) | (with_reducible refine Kd.C_drew ?_))); (case side2 => exact ao.out); rintro e w9 ⟨rfl, hb⟩; replace aa := aM (blk_below (by have X_ := aa.out; exact TX) hb); replace HB := aM (below_step TB hb); clear hb))
  repeat (go_quiet (first | (go_at_call 107; (with_reducible refine (impl_isZeroMan.calls af ad ae _ _ ac false _ ?side1 ?side2 A2.out).mono ?_); (case side1 => repeat (first | exact (Kd.C_below an.out TB) | (with_reducible refine Kd.C_alloc ?_ _) | (with_reducible refine Kd.C_drewN ?_ _) | (with_reducible refine Kd.C_drew ?_))); (case side2 => exact ao.out); rintro e w9 ⟨rfl, hb⟩; replace aa := aM (blk_below (by have X_ := aa.out; exact TX) hb); replace HB := aM (below_step TB hb); clear hb)); go_upto_region 3 with (first | (go_at_call 107; (with_reducible refine (impl_isZeroMan.calls af ad ae _ _ ac false _ ?side1 ?side2 A2.out).mono ?_); (case side1 => repeat (first | exact (Kd.C_below an.out TB) | (with_reducible refine Kd.C_alloc ?_ _) | (with_reducible refine Kd.C_drewN ?_ _) | (with_reducible refine Kd.C_drew ?_))); (case side2 => exact ao.out); rintro e w9 ⟨rfl, hb⟩; replace aa := aM (blk_below (by have X_ := aa.out; exact TX) hb); replace HB := aM (below_step TB hb); clear hb)))
  (try simp only [Act.put, List.setIfInBounds_toArray, List.set_cons_zero, List.set_cons_succ])
  go_cut [33] (fun v33 wc => ∃ (kq : Nat) (aC : Bool), v33 = .bool aC ∧ Aside0 (impl_ManOk.j0 kq aC af ad ae ac = some r) ∧ Aside0 (kq ≤ k) ∧ Aside0 (wc.heap[ag]? = some (.cells #[.int .i64 af, .int .i64 ad, .int .i64 ae, (.slice ap ac.length am)] 28 (0, 0))) ∧ Aside0 (Below w.heap.size w wc))
  case first =>
   have H := HC8.out
   clear HC8
   replace H := bE H
   obtain ⟨t210, A10, H⟩ := H
   by_cases c11 : t210 = true
   ·subst c11
    replace H := ifT H
    replace H := bE H
    obtain ⟨t211, A12, H⟩ := H
    by_cases c13 : t211 = true
    ·subst c13
     replace H := ifT H
     replace H := bE H
     obtain ⟨a6, A14, H⟩ := H
     have H' := aM H
     clear H
     obtain ⟨aG, a5, aW, aL⟩ := cz4 aa.out
     obtain ⟨aQ, aX, aE, aJ⟩ := fz4 aa.out
     go_wp2_with (first | (go_at_call 61; (with_reducible refine (impl_within.calls af 1 1000000 true _ A10.out).mono ?_); rintro e w' ⟨rfl, ⟨nd, rfl⟩⟩; (try first | exact ⟨rfl, _, World.drewN_drewN _ _ _⟩ | exact ⟨rfl, _, Eq.trans (World.drewN_drewN _ _ _) (congrArg (World.drewN _) (Nat.add_assoc _ _ _))⟩)) | (go_at_call 62; (with_reducible refine (impl_SizeOk.calls ad ae true _ A12.out).mono ?_); rintro e w' ⟨rfl, ⟨nd, rfl⟩⟩; (try first | exact ⟨rfl, _, World.drewN_drewN _ _ _⟩ | exact ⟨rfl, _, Eq.trans (World.drewN_drewN _ _ _) (congrArg (World.drewN _) (Nat.add_assoc _ _ _))⟩)) | (go_at_call 12; (with_reducible refine (impl_Blocks.calls ad ae a6 _ A14.out).mono ?_); rintro e w' ⟨rfl, ⟨nd, rfl⟩⟩; (try first | exact ⟨rfl, _, World.drewN_drewN _ _ _⟩ | exact ⟨rfl, _, Eq.trans (World.drewN_drewN _ _ _) (congrArg (World.drewN _) (Nat.add_assoc _ _ _))⟩)))
     repeat (go_quiet (first | (go_at_call 61; (with_reducible refine (impl_within.calls af 1 1000000 true _ A10.out).mono ?_); rintro e w' ⟨rfl, ⟨nd, rfl⟩⟩; (try first | exact ⟨rfl, _, World.drewN_drewN _ _ _⟩ | exact ⟨rfl, _, Eq.trans (World.drewN_drewN _ _ _) (congrArg (World.drewN _) (Nat.add_assoc _ _ _))⟩)) | (go_at_call 62; (with_reducible refine (impl_SizeOk.calls ad ae true _ A12.out).mono ?_); rintro e w' ⟨rfl, ⟨nd, rfl⟩⟩; (try first | exact ⟨rfl, _, World.drewN_drewN _ _ _⟩ | exact ⟨rfl, _, Eq.trans (World.drewN_drewN _ _ _) (congrArg (World.drewN _) (Nat.add_assoc _ _ _))⟩)) | (go_at_call 12; (with_reducible refine (impl_Blocks.calls ad ae a6 _ A14.out).mono ?_); rintro e w' ⟨rfl, ⟨nd, rfl⟩⟩; (try first | exact ⟨rfl, _, World.drewN_drewN _ _ _⟩ | exact ⟨rfl, _, Eq.trans (World.drewN_drewN _ _ _) (congrArg (World.drewN _) (Nat.add_assoc _ _ _))⟩))); try go_wp2_with (first | (go_at_call 61; (with_reducible refine (impl_within.calls af 1 1000000 true _ A10.out).mono ?_); rintro e w' ⟨rfl, ⟨nd, rfl⟩⟩; (try first | exact ⟨rfl, _, World.drewN_drewN _ _ _⟩ | exact ⟨rfl, _, Eq.trans (World.drewN_drewN _ _ _) (congrArg (World.drewN _) (Nat.add_assoc _ _ _))⟩)) | (go_at_call 62; (with_reducible refine (impl_SizeOk.calls ad ae true _ A12.out).mono ?_); rintro e w' ⟨rfl, ⟨nd, rfl⟩⟩; (try first | exact ⟨rfl, _, World.drewN_drewN _ _ _⟩ | exact ⟨rfl, _, Eq.trans (World.drewN_drewN _ _ _) (congrArg (World.drewN _) (Nat.add_assoc _ _ _))⟩)) | (go_at_call 12; (with_reducible refine (impl_Blocks.calls ad ae a6 _ A14.out).mono ?_); rintro e w' ⟨rfl, ⟨nd, rfl⟩⟩; (try first | exact ⟨rfl, _, World.drewN_drewN _ _ _⟩ | exact ⟨rfl, _, Eq.trans (World.drewN_drewN _ _ _) (congrArg (World.drewN _) (Nat.add_assoc _ _ _))⟩))))
     go_meet
     case rel => exact ⟨_, (((ac.length : Int) != a6)), (by first | rfl | (simp; done) | (simp [*]; done)), H', ⟨by first | omega | exact Nat.le_refl _⟩, ⟨TK⟩, ⟨TB⟩⟩
    ·replace c13 := Bool.eq_false_iff.mpr c13
     subst c13
     replace H := ifF H
     have H' := aM H
     clear H
     obtain ⟨aK, aS, aV, aN⟩ := cz4 aa.out
     obtain ⟨aD, aI, aY, aR⟩ := fz4 aa.out
     go_wp2_with (first | (go_at_call 61; (with_reducible refine (impl_within.calls af 1 1000000 true _ A10.out).mono ?_); rintro e w' ⟨rfl, ⟨nd, rfl⟩⟩; (try first | exact ⟨rfl, _, World.drewN_drewN _ _ _⟩ | exact ⟨rfl, _, Eq.trans (World.drewN_drewN _ _ _) (congrArg (World.drewN _) (Nat.add_assoc _ _ _))⟩)) | (go_at_call 62; (with_reducible refine (impl_SizeOk.calls ad ae false _ A12.out).mono ?_); rintro e w' ⟨rfl, ⟨nd, rfl⟩⟩; (try first | exact ⟨rfl, _, World.drewN_drewN _ _ _⟩ | exact ⟨rfl, _, Eq.trans (World.drewN_drewN _ _ _) (congrArg (World.drewN _) (Nat.add_assoc _ _ _))⟩)))
     repeat (go_quiet (first | (go_at_call 61; (with_reducible refine (impl_within.calls af 1 1000000 true _ A10.out).mono ?_); rintro e w' ⟨rfl, ⟨nd, rfl⟩⟩; (try first | exact ⟨rfl, _, World.drewN_drewN _ _ _⟩ | exact ⟨rfl, _, Eq.trans (World.drewN_drewN _ _ _) (congrArg (World.drewN _) (Nat.add_assoc _ _ _))⟩)) | (go_at_call 62; (with_reducible refine (impl_SizeOk.calls ad ae false _ A12.out).mono ?_); rintro e w' ⟨rfl, ⟨nd, rfl⟩⟩; (try first | exact ⟨rfl, _, World.drewN_drewN _ _ _⟩ | exact ⟨rfl, _, Eq.trans (World.drewN_drewN _ _ _) (congrArg (World.drewN _) (Nat.add_assoc _ _ _))⟩))); try go_wp2_with (first | (go_at_call 61; (with_reducible refine (impl_within.calls af 1 1000000 true _ A10.out).mono ?_); rintro e w' ⟨rfl, ⟨nd, rfl⟩⟩; (try first | exact ⟨rfl, _, World.drewN_drewN _ _ _⟩ | exact ⟨rfl, _, Eq.trans (World.drewN_drewN _ _ _) (congrArg (World.drewN _) (Nat.add_assoc _ _ _))⟩)) | (go_at_call 62; (with_reducible refine (impl_SizeOk.calls ad ae false _ A12.out).mono ?_); rintro e w' ⟨rfl, ⟨nd, rfl⟩⟩; (try first | exact ⟨rfl, _, World.drewN_drewN _ _ _⟩ | exact ⟨rfl, _, Eq.trans (World.drewN_drewN _ _ _) (congrArg (World.drewN _) (Nat.add_assoc _ _ _))⟩))))
     go_meet
     case rel => exact ⟨_, (true), (by first | rfl | (simp; done) | (simp [*]; done)), H', ⟨by first | omega | exact Nat.le_refl _⟩, ⟨TK⟩, ⟨TB⟩⟩
   ·replace c11 := Bool.eq_false_iff.mpr c11
    subst c11
    replace H := ifF H
    have H' := aM H
    clear H
    obtain ⟨aO, aZ, aU, aP⟩ := cz4 aa.out
    obtain ⟨aT, a4, aF, aH⟩ := fz4 aa.out
    go_wp2_with (first | (go_at_call 61; (with_reducible refine (impl_within.calls af 1 1000000 false _ A10.out).mono ?_); rintro e w' ⟨rfl, ⟨nd, rfl⟩⟩; (try first | exact ⟨rfl, _, World.drewN_drewN _ _ _⟩ | exact ⟨rfl, _, Eq.trans (World.drewN_drewN _ _ _) (congrArg (World.drewN _) (Nat.add_assoc _ _ _))⟩)))
    repeat (go_quiet (first | (go_at_call 61; (with_reducible refine (impl_within.calls af 1 1000000 false _ A10.out).mono ?_); rintro e w' ⟨rfl, ⟨nd, rfl⟩⟩; (try first | exact ⟨rfl, _, World.drewN_drewN _ _ _⟩ | exact ⟨rfl, _, Eq.trans (World.drewN_drewN _ _ _) (congrArg (World.drewN _) (Nat.add_assoc _ _ _))⟩))); try go_wp2_with (first | (go_at_call 61; (with_reducible refine (impl_within.calls af 1 1000000 false _ A10.out).mono ?_); rintro e w' ⟨rfl, ⟨nd, rfl⟩⟩; (try first | exact ⟨rfl, _, World.drewN_drewN _ _ _⟩ | exact ⟨rfl, _, Eq.trans (World.drewN_drewN _ _ _) (congrArg (World.drewN _) (Nat.add_assoc _ _ _))⟩))))
    go_meet
    case rel => exact ⟨_, (true), (by first | rfl | (simp; done) | (simp [*]; done)), H', ⟨by first | omega | exact Nat.le_refl _⟩, ⟨TK⟩, ⟨TB⟩⟩
  case rest =>
   clear HC8
   try clear c1
   try clear p2
   try clear c6
   try clear c11
   try clear c13
   try clear aG
   try clear a5
   try clear aW
   try clear aL
   try clear aK
   try clear aS
   try clear aV
   try clear aN
   try clear aO
   try clear aZ
   try clear aU
   try clear aP
   try clear az
   try clear au
   try clear aq
   try clear av
   try clear aQ
   try clear aX
   try clear aE
   try clear aJ
   try clear aD
   try clear aI
   try clear aY
   try clear aR
   try clear aT
   try clear a4
   try clear aF
   try clear aH
   try clear ay
   try clear ax
   try clear ar
   try clear aw
   obtain ⟨kq, aC, rfl, HA, HJ7, aa, HB⟩ := hcut
   cases kq with
   | zero => exact absurd HA.out (by simp [impl_ManOk.j0])
   | succ kj7 =>
    have H := HA.out
    clear HA
    simp only [impl_ManOk.j0] at H
    by_cases c18 : aC = true
    ·subst c18
     replace H := ifT H
     obtain rfl := Option.some.inj H
     go_wp2
     repeat (go_quiet (fail); try go_wp2)
     go_ret
     exact ⟨by first | rfl | (simp [errW_none, errW_some] <;> rfl) | (simp [*, errW_none, errW_some] <;> rfl), TB⟩
    ·replace c18 := Bool.eq_false_iff.mpr c18
     subst c18
     replace H := ifF H
     have H' := aM H
     clear H
     obtain ⟨bh, bk, bi, bd⟩ := cz4 aa.out
     obtain ⟨bg, be, bf, bj⟩ := fz4 aa.out
     go_wp2
     repeat (go_quiet (fail); try go_wp2)
     go_loopg [37] kj7 (fun kq v37 w' => ∃ (ab : Int), v37 = .int .i64 ab ∧ Aside0 (impl_ManOk.l0 kq ac (ac.length : Int) ab af ad ae ac = some r) ∧ Aside0 (kq ≤ kj7) ∧ Aside0 (w'.heap[ag]? = some (.cells #[.int .i64 af, .int .i64 ad, .int .i64 ae, (.slice ap ac.length am)] 28 (0, 0))) ∧ Aside0 (Below w.heap.size w w'))
     case atStart => exact ⟨(0), (by first | rfl | (simp; done) | (simp [*]; done)), H', ⟨Nat.le_refl _⟩, ⟨TK⟩, ⟨TB⟩⟩
     case round =>
      clear H'
      try clear c1
      try clear p2
      try clear c6
      try clear c11
      try clear c13
      try clear c18
      try clear aG
      try clear a5
      try clear aW
      try clear aL
      try clear aK
      try clear aS
      try clear aV
      try clear aN
      try clear aO
      try clear aZ
      try clear aU
      try clear aP
      try clear bh
      try clear bk
      try clear bi
      try clear bd
      try clear az
      try clear au
      try clear aq
      try clear av
      try clear aQ
      try clear aX
      try clear aE
      try clear aJ
      try clear aD
      try clear aI
      try clear aY
      try clear aR
      try clear aT
      try clear a4
      try clear aF
      try clear aH
      try clear bg
      try clear be
      try clear bf
      try clear bj
      try clear ay
      try clear ax
      try clear ar
      try clear aw
      try clear p2
      obtain ⟨ab, rfl, HA, HK2, aa, HB⟩ := hrel
      cases gk with
      | zero => exact absurd HA.out (by simp [impl_ManOk.l0])
      | succ k2 =>
       have H := HA.out
       clear HA
       simp only [impl_ManOk.l0] at H
       by_cases c20 : ab < (ac.length : Int)
       ·rw [if_pos c20] at H
        have c20b0 : decide (ab < (ac.length : Int)) = true := decide_eq_true c20
        clear c20
        replace H := ifN H
        obtain ⟨c21, H⟩ := H
        have c21b0 : decide (0 ≤ ab) = true := decide_eq_true c21
        clear c21
        replace H := ifN H
        obtain ⟨c22, H⟩ := H
        have c22b0 : decide (ab < (ac.length : Int)) = true := decide_eq_true c22
        clear c22
        replace H := bE H
        obtain ⟨⟨aj, a7⟩, A23, H⟩ := H
        dsimp only at H
        replace H := bE H
        obtain ⟨⟨ak, ai⟩, A24, H⟩ := H
        dsimp only at H
        have a9 : 0 ≤ (ab : Int) := DT
        have ba : ab < (ac.length : Int) := DT
        obtain ⟨a8, e213, aA, aB⟩ := at_T48 an.out ab a9 ba
        cases e213
        replace aA := (HB.out.cell (World.block_lt_of_cell? w _ aA)).trans aA
        replace aB := (HB.out.cell (World.block_lt_of_cell? w _ aB)).trans aB
        replace a9 := eq_true a9
        replace ba := eq_true ba
        go_wp2_with (first | ((with_reducible refine gate_dst (N := 4) rfl ?_); (try (refine gate_guard (by rfl) ?_; dsimp only)); refine gBx 4 #[.int .i64 0, .int .i64 0] 48 ?_; intro ah hg w26 hbox hb; have BK214 := aM (hbox); have GW214 := aM ((by rw [hg]; exact (below_size TB) : w.heap.size ≤ ah)); have GE214 := aM ((by rw [hg]; exact (below_size TB) : w.heap.size ≤ ah)); have NB208_214 := aM ((by rw [hg]; exact Nat.ne_of_lt (blk_lt (by have X_ := aa.out; exact TX)) : ag ≠ ah)); have NB214_208 := aM ((by rw [hg]; exact Nat.ne_of_gt (blk_lt (by have X_ := aa.out; exact TX)) : ah ≠ ag)); replace aa := aM (blk_below (by have X_ := aa.out; exact TX) hb); replace HB := aM (below_step TB hb); clear hb hbox hg; have hnb27 := NB214_208.out; have hnc27 := NB208_214.out; obtain ⟨hcz28_0, hcz28_1⟩ := cz2 BK214.out; obtain ⟨hfz28_0, hfz28_1⟩ := fz2 BK214.out) | (go_at_call 108; (with_reducible refine (impl_BytesOf.calls k2 ((rd_T48 ac ab).f1) aj a7 _ A23.out).mono ?_); rintro e w29 ⟨v217, rfl, ho0, hb⟩; have HO218 := aM (Kd.R_lower ho0 (below_size TB)); replace aa := aM (blk_below (g := ag) (o := .cells #[.int .i64 af, .int .i64 ad, .int .i64 ae, .slice (some a8) ac.length am] 28 (0, 0)) (by (with_reducible repeat (first | refine blk_drewN ?_ _ | refine blk_drew ?_ | refine blk_alloc ?_ _)); refine blk_far ?_ NB208_214.out _; (with_reducible repeat (first | refine blk_drewN ?_ _ | refine blk_drew ?_ | refine blk_alloc ?_ _)); refine blk_far ?_ NB208_214.out _; (with_reducible repeat (first | refine blk_drewN ?_ _ | refine blk_drew ?_ | refine blk_alloc ?_ _)); exact aa.out) hb); replace BK214 := aM (blk_below (g := ah) (o := .cells #[.int .i64 ((rd_T48 ac ab).f0), .int .i64 ((rd_T48 ac ab).f1)] 48 (0, 0)) (by (with_reducible repeat (first | refine blk_drewN ?_ _ | refine blk_drew ?_ | refine blk_alloc ?_ _)); refine blk_put (cs := #[.int .i64 ((rd_T48 ac ab).f0), .int .i64 0]) ?_ 1 _ rfl; (with_reducible repeat (first | refine blk_drewN ?_ _ | refine blk_drew ?_ | refine blk_alloc ?_ _)); refine blk_put (cs := #[.int .i64 0, .int .i64 0]) ?_ 0 _ rfl; (with_reducible repeat (first | refine blk_drewN ?_ _ | refine blk_drew ?_ | refine blk_alloc ?_ _)); exact BK214.out) hb); replace HB := aM (below_step TB hb); clear ho0 hb; obtain ⟨hcz30_0, hcz30_1, hcz30_2, hcz30_3⟩ := cz4 aa.out; obtain ⟨hfz30_0, hfz30_1, hfz30_2, hfz30_3⟩ := fz4 aa.out) | ((with_reducible refine gate_callee (f := 66) rfl ?_); (with_reducible refine gate_dst (N := 54) rfl ?_); generalize hG_ : wpList _ _ _ _ _ _ = G_))
        repeat (go_quiet (first | ((with_reducible refine gate_dst (N := 4) rfl ?_); (try (refine gate_guard (by rfl) ?_; dsimp only)); refine gBx 4 #[.int .i64 0, .int .i64 0] 48 ?_; intro ah hg w26 hbox hb; have BK214 := aM (hbox); have GW214 := aM ((by rw [hg]; exact (below_size TB) : w.heap.size ≤ ah)); have GE214 := aM ((by rw [hg]; exact (below_size TB) : w.heap.size ≤ ah)); have NB208_214 := aM ((by rw [hg]; exact Nat.ne_of_lt (blk_lt (by have X_ := aa.out; exact TX)) : ag ≠ ah)); have NB214_208 := aM ((by rw [hg]; exact Nat.ne_of_gt (blk_lt (by have X_ := aa.out; exact TX)) : ah ≠ ag)); replace aa := aM (blk_below (by have X_ := aa.out; exact TX) hb); replace HB := aM (below_step TB hb); clear hb hbox hg; have hnb27 := NB214_208.out; have hnc27 := NB208_214.out; obtain ⟨hcz28_0, hcz28_1⟩ := cz2 BK214.out; obtain ⟨hfz28_0, hfz28_1⟩ := fz2 BK214.out) | (go_at_call 108; (with_reducible refine (impl_BytesOf.calls k2 ((rd_T48 ac ab).f1) aj a7 _ A23.out).mono ?_); rintro e w29 ⟨v217, rfl, ho0, hb⟩; have HO218 := aM (Kd.R_lower ho0 (below_size TB)); replace aa := aM (blk_below (g := ag) (o := .cells #[.int .i64 af, .int .i64 ad, .int .i64 ae, .slice (some a8) ac.length am] 28 (0, 0)) (by (with_reducible repeat (first | refine blk_drewN ?_ _ | refine blk_drew ?_ | refine blk_alloc ?_ _)); refine blk_far ?_ NB208_214.out _; (with_reducible repeat (first | refine blk_drewN ?_ _ | refine blk_drew ?_ | refine blk_alloc ?_ _)); refine blk_far ?_ NB208_214.out _; (with_reducible repeat (first | refine blk_drewN ?_ _ | refine blk_drew ?_ | refine blk_alloc ?_ _)); exact aa.out) hb); replace BK214 := aM (blk_below (g := ah) (o := .cells #[.int .i64 ((rd_T48 ac ab).f0), .int .i64 ((rd_T48 ac ab).f1)] 48 (0, 0)) (by (with_reducible repeat (first | refine blk_drewN ?_ _ | refine blk_drew ?_ | refine blk_alloc ?_ _)); refine blk_put (cs := #[.int .i64 ((rd_T48 ac ab).f0), .int .i64 0]) ?_ 1 _ rfl; (with_reducible repeat (first | refine blk_drewN ?_ _ | refine blk_drew ?_ | refine blk_alloc ?_ _)); refine blk_put (cs := #[.int .i64 0, .int .i64 0]) ?_ 0 _ rfl; (with_reducible repeat (first | refine blk_drewN ?_ _ | refine blk_drew ?_ | refine blk_alloc ?_ _)); exact BK214.out) hb); replace HB := aM (below_step TB hb); clear ho0 hb; obtain ⟨hcz30_0, hcz30_1, hcz30_2, hcz30_3⟩ := cz4 aa.out; obtain ⟨hfz30_0, hfz30_1, hfz30_2, hfz30_3⟩ := fz4 aa.out) | ((with_reducible refine gate_callee (f := 66) rfl ?_); (with_reducible refine gate_dst (N := 54) rfl ?_); generalize hG_ : wpList _ _ _ _ _ _ = G_)); try go_wp2_with (first | ((with_reducible refine gate_dst (N := 4) rfl ?_); (try (refine gate_guard (by rfl) ?_; dsimp only)); refine gBx 4 #[.int .i64 0, .int .i64 0] 48 ?_; intro ah hg w26 hbox hb; have BK214 := aM (hbox); have GW214 := aM ((by rw [hg]; exact (below_size TB) : w.heap.size ≤ ah)); have GE214 := aM ((by rw [hg]; exact (below_size TB) : w.heap.size ≤ ah)); have NB208_214 := aM ((by rw [hg]; exact Nat.ne_of_lt (blk_lt (by have X_ := aa.out; exact TX)) : ag ≠ ah)); have NB214_208 := aM ((by rw [hg]; exact Nat.ne_of_gt (blk_lt (by have X_ := aa.out; exact TX)) : ah ≠ ag)); replace aa := aM (blk_below (by have X_ := aa.out; exact TX) hb); replace HB := aM (below_step TB hb); clear hb hbox hg; have hnb27 := NB214_208.out; have hnc27 := NB208_214.out; obtain ⟨hcz28_0, hcz28_1⟩ := cz2 BK214.out; obtain ⟨hfz28_0, hfz28_1⟩ := fz2 BK214.out) | (go_at_call 108; (with_reducible refine (impl_BytesOf.calls k2 ((rd_T48 ac ab).f1) aj a7 _ A23.out).mono ?_); rintro e w29 ⟨v217, rfl, ho0, hb⟩; have HO218 := aM (Kd.R_lower ho0 (below_size TB)); replace aa := aM (blk_below (g := ag) (o := .cells #[.int .i64 af, .int .i64 ad, .int .i64 ae, .slice (some a8) ac.length am] 28 (0, 0)) (by (with_reducible repeat (first | refine blk_drewN ?_ _ | refine blk_drew ?_ | refine blk_alloc ?_ _)); refine blk_far ?_ NB208_214.out _; (with_reducible repeat (first | refine blk_drewN ?_ _ | refine blk_drew ?_ | refine blk_alloc ?_ _)); refine blk_far ?_ NB208_214.out _; (with_reducible repeat (first | refine blk_drewN ?_ _ | refine blk_drew ?_ | refine blk_alloc ?_ _)); exact aa.out) hb); replace BK214 := aM (blk_below (g := ah) (o := .cells #[.int .i64 ((rd_T48 ac ab).f0), .int .i64 ((rd_T48 ac ab).f1)] 48 (0, 0)) (by (with_reducible repeat (first | refine blk_drewN ?_ _ | refine blk_drew ?_ | refine blk_alloc ?_ _)); refine blk_put (cs := #[.int .i64 ((rd_T48 ac ab).f0), .int .i64 0]) ?_ 1 _ rfl; (with_reducible repeat (first | refine blk_drewN ?_ _ | refine blk_drew ?_ | refine blk_alloc ?_ _)); refine blk_put (cs := #[.int .i64 0, .int .i64 0]) ?_ 0 _ rfl; (with_reducible repeat (first | refine blk_drewN ?_ _ | refine blk_drew ?_ | refine blk_alloc ?_ _)); exact BK214.out) hb); replace HB := aM (below_step TB hb); clear ho0 hb; obtain ⟨hcz30_0, hcz30_1, hcz30_2, hcz30_3⟩ := cz4 aa.out; obtain ⟨hfz30_0, hfz30_1, hfz30_2, hfz30_3⟩ := fz4 aa.out) | ((with_reducible refine gate_callee (f := 66) rfl ?_); (with_reducible refine gate_dst (N := 54) rfl ?_); generalize hG_ : wpList _ _ _ _ _ _ = G_)))
        subst hG_
        by_cases c31 : a7 = true
        ·subst c31
         replace H := ifT H
         by_cases c32 : (aj.length : Int) = ai
         ·rw [if_pos c32] at H
          have c32b0 : ((aj.length : Int) == ai) = true := beq_iff_eq.mpr c32
          have c32b1 : ((aj.length : Int) != ai) = false := bne_eq_false_iff_eq.mpr c32
          clear c32
          replace H := bE H
          obtain ⟨al, A33, H⟩ := H
          by_cases c34 : al = ((rd_T48 ac ab).f0)
          ·rw [if_pos c34] at H
           have c34b0 : (al == ((rd_T48 ac ab).f0)) = true := beq_iff_eq.mpr c34
           have c34b1 : (al != ((rd_T48 ac ab).f0)) = false := bne_eq_false_iff_eq.mpr c34
           clear c34
           have H' := aM H
           clear H
           go_wp2_with (first | (go_at_call 66; (with_reducible refine (impl_SpanOf.calls ad ae ab ak ai _ A24.out).mono ?_); rintro e w35 ⟨rfl, hb⟩; replace HO218 := aM (Kd.R_below (by have X_ := HO218.out; exact TR) hb); replace aa := aM (blk_below (by have X_ := aa.out; exact TX) hb); replace BK214 := aM (blk_below (by have X_ := BK214.out; exact TX) hb); replace HB := aM (below_step TB hb); clear hb; obtain ⟨Ao36, co36, eo36⟩ := Kd.R_slice HO218.out; subst eo36) | (go_at_call 105; (with_reducible refine (impl_WeakOf.calls k2 _ _ aj al _ ?side1 ?side2 A33.out).mono ?_); (case side1 => have X_ := (Kd.R_reads' HO218.out).2.2; exact TC); (case side2 => exact (Kd.R_reads' HO218.out).2.1); rintro e w' ⟨rfl, ⟨nd, rfl⟩⟩; (try first | exact ⟨rfl, _, World.drewN_drewN _ _ _⟩ | exact ⟨rfl, _, Eq.trans (World.drewN_drewN _ _ _) (congrArg (World.drewN _) (Nat.add_assoc _ _ _))⟩); have hnb37 := NB214_208.out; have hnc37 := NB208_214.out; obtain ⟨hcz38_0, hcz38_1⟩ := cz2 BK214.out; obtain ⟨hfz38_0, hfz38_1⟩ := fz2 BK214.out))
           repeat (go_quiet (first | (go_at_call 66; (with_reducible refine (impl_SpanOf.calls ad ae ab ak ai _ A24.out).mono ?_); rintro e w35 ⟨rfl, hb⟩; replace HO218 := aM (Kd.R_below (by have X_ := HO218.out; exact TR) hb); replace aa := aM (blk_below (by have X_ := aa.out; exact TX) hb); replace BK214 := aM (blk_below (by have X_ := BK214.out; exact TX) hb); replace HB := aM (below_step TB hb); clear hb; obtain ⟨Ao36, co36, eo36⟩ := Kd.R_slice HO218.out; subst eo36) | (go_at_call 105; (with_reducible refine (impl_WeakOf.calls k2 _ _ aj al _ ?side1 ?side2 A33.out).mono ?_); (case side1 => have X_ := (Kd.R_reads' HO218.out).2.2; exact TC); (case side2 => exact (Kd.R_reads' HO218.out).2.1); rintro e w' ⟨rfl, ⟨nd, rfl⟩⟩; (try first | exact ⟨rfl, _, World.drewN_drewN _ _ _⟩ | exact ⟨rfl, _, Eq.trans (World.drewN_drewN _ _ _) (congrArg (World.drewN _) (Nat.add_assoc _ _ _))⟩); have hnb37 := NB214_208.out; have hnc37 := NB208_214.out; obtain ⟨hcz38_0, hcz38_1⟩ := cz2 BK214.out; obtain ⟨hfz38_0, hfz38_1⟩ := fz2 BK214.out)); try go_wp2_with (first | (go_at_call 66; (with_reducible refine (impl_SpanOf.calls ad ae ab ak ai _ A24.out).mono ?_); rintro e w35 ⟨rfl, hb⟩; replace HO218 := aM (Kd.R_below (by have X_ := HO218.out; exact TR) hb); replace aa := aM (blk_below (by have X_ := aa.out; exact TX) hb); replace BK214 := aM (blk_below (by have X_ := BK214.out; exact TX) hb); replace HB := aM (below_step TB hb); clear hb; obtain ⟨Ao36, co36, eo36⟩ := Kd.R_slice HO218.out; subst eo36) | (go_at_call 105; (with_reducible refine (impl_WeakOf.calls k2 _ _ aj al _ ?side1 ?side2 A33.out).mono ?_); (case side1 => have X_ := (Kd.R_reads' HO218.out).2.2; exact TC); (case side2 => exact (Kd.R_reads' HO218.out).2.1); rintro e w' ⟨rfl, ⟨nd, rfl⟩⟩; (try first | exact ⟨rfl, _, World.drewN_drewN _ _ _⟩ | exact ⟨rfl, _, Eq.trans (World.drewN_drewN _ _ _) (congrArg (World.drewN _) (Nat.add_assoc _ _ _))⟩); have hnb37 := NB214_208.out; have hnc37 := NB208_214.out; obtain ⟨hcz38_0, hcz38_1⟩ := cz2 BK214.out; obtain ⟨hfz38_0, hfz38_1⟩ := fz2 BK214.out)))
           go_roundg k2
           case measure => have := HJ7.out; have := HK2.out; omega
           case rel => exact ⟨(wrap64 (ab + 1)), (by first | rfl | (simp; done) | (simp [*]; done)), H', ⟨by have := HJ7.out; have := HK2.out; omega⟩, ⟨TK⟩, ⟨TB⟩⟩
          ·rw [if_neg c34] at H
           have c34b0 : (al == ((rd_T48 ac ab).f0)) = false := beq_eq_false_iff_ne.mpr c34
           have c34b1 : (al != ((rd_T48 ac ab).f0)) = true := bne_iff_ne.mpr c34
           obtain rfl := Option.some.inj H
           go_wp2_with (first | (go_at_call 66; (with_reducible refine (impl_SpanOf.calls ad ae ab ak ai _ A24.out).mono ?_); rintro e w39 ⟨rfl, hb⟩; replace HO218 := aM (Kd.R_below (by have X_ := HO218.out; exact TR) hb); replace aa := aM (blk_below (by have X_ := aa.out; exact TX) hb); replace BK214 := aM (blk_below (by have X_ := BK214.out; exact TX) hb); replace HB := aM (below_step TB hb); clear hb; obtain ⟨Ao40, co40, eo40⟩ := Kd.R_slice HO218.out; subst eo40) | (go_at_call 105; (with_reducible refine (impl_WeakOf.calls k2 _ _ aj al _ ?side1 ?side2 A33.out).mono ?_); (case side1 => have X_ := (Kd.R_reads' HO218.out).2.2; exact TC); (case side2 => exact (Kd.R_reads' HO218.out).2.1); rintro e w' ⟨rfl, ⟨nd, rfl⟩⟩; (try first | exact ⟨rfl, _, World.drewN_drewN _ _ _⟩ | exact ⟨rfl, _, Eq.trans (World.drewN_drewN _ _ _) (congrArg (World.drewN _) (Nat.add_assoc _ _ _))⟩); have hnb41 := NB214_208.out; have hnc41 := NB208_214.out; obtain ⟨hcz42_0, hcz42_1⟩ := cz2 BK214.out; obtain ⟨hfz42_0, hfz42_1⟩ := fz2 BK214.out))
           repeat (go_quiet (first | (go_at_call 66; (with_reducible refine (impl_SpanOf.calls ad ae ab ak ai _ A24.out).mono ?_); rintro e w39 ⟨rfl, hb⟩; replace HO218 := aM (Kd.R_below (by have X_ := HO218.out; exact TR) hb); replace aa := aM (blk_below (by have X_ := aa.out; exact TX) hb); replace BK214 := aM (blk_below (by have X_ := BK214.out; exact TX) hb); replace HB := aM (below_step TB hb); clear hb; obtain ⟨Ao40, co40, eo40⟩ := Kd.R_slice HO218.out; subst eo40) | (go_at_call 105; (with_reducible refine (impl_WeakOf.calls k2 _ _ aj al _ ?side1 ?side2 A33.out).mono ?_); (case side1 => have X_ := (Kd.R_reads' HO218.out).2.2; exact TC); (case side2 => exact (Kd.R_reads' HO218.out).2.1); rintro e w' ⟨rfl, ⟨nd, rfl⟩⟩; (try first | exact ⟨rfl, _, World.drewN_drewN _ _ _⟩ | exact ⟨rfl, _, Eq.trans (World.drewN_drewN _ _ _) (congrArg (World.drewN _) (Nat.add_assoc _ _ _))⟩); have hnb41 := NB214_208.out; have hnc41 := NB208_214.out; obtain ⟨hcz42_0, hcz42_1⟩ := cz2 BK214.out; obtain ⟨hfz42_0, hfz42_1⟩ := fz2 BK214.out)); try go_wp2_with (first | (go_at_call 66; (with_reducible refine (impl_SpanOf.calls ad ae ab ak ai _ A24.out).mono ?_); rintro e w39 ⟨rfl, hb⟩; replace HO218 := aM (Kd.R_below (by have X_ := HO218.out; exact TR) hb); replace aa := aM (blk_below (by have X_ := aa.out; exact TX) hb); replace BK214 := aM (blk_below (by have X_ := BK214.out; exact TX) hb); replace HB := aM (below_step TB hb); clear hb; obtain ⟨Ao40, co40, eo40⟩ := Kd.R_slice HO218.out; subst eo40) | (go_at_call 105; (with_reducible refine (impl_WeakOf.calls k2 _ _ aj al _ ?side1 ?side2 A33.out).mono ?_); (case side1 => have X_ := (Kd.R_reads' HO218.out).2.2; exact TC); (case side2 => exact (Kd.R_reads' HO218.out).2.1); rintro e w' ⟨rfl, ⟨nd, rfl⟩⟩; (try first | exact ⟨rfl, _, World.drewN_drewN _ _ _⟩ | exact ⟨rfl, _, Eq.trans (World.drewN_drewN _ _ _) (congrArg (World.drewN _) (Nat.add_assoc _ _ _))⟩); have hnb41 := NB214_208.out; have hnc41 := NB208_214.out; obtain ⟨hcz42_0, hcz42_1⟩ := cz2 BK214.out; obtain ⟨hfz42_0, hfz42_1⟩ := fz2 BK214.out)))
           go_ret
           exact ⟨by first | rfl | (simp [errW_none, errW_some] <;> rfl) | (simp [*, errW_none, errW_some] <;> rfl), TB⟩
         ·rw [if_neg c32] at H
          have c32b0 : ((aj.length : Int) == ai) = false := beq_eq_false_iff_ne.mpr c32
          have c32b1 : ((aj.length : Int) != ai) = true := bne_iff_ne.mpr c32
          obtain rfl := Option.some.inj H
          go_wp2_with (first | (go_at_call 66; (with_reducible refine (impl_SpanOf.calls ad ae ab ak ai _ A24.out).mono ?_); rintro e w43 ⟨rfl, hb⟩; replace HO218 := aM (Kd.R_below (by have X_ := HO218.out; exact TR) hb); replace aa := aM (blk_below (by have X_ := aa.out; exact TX) hb); replace BK214 := aM (blk_below (by have X_ := BK214.out; exact TX) hb); replace HB := aM (below_step TB hb); clear hb; obtain ⟨Ao44, co44, eo44⟩ := Kd.R_slice HO218.out; subst eo44))
          repeat (go_quiet (first | (go_at_call 66; (with_reducible refine (impl_SpanOf.calls ad ae ab ak ai _ A24.out).mono ?_); rintro e w43 ⟨rfl, hb⟩; replace HO218 := aM (Kd.R_below (by have X_ := HO218.out; exact TR) hb); replace aa := aM (blk_below (by have X_ := aa.out; exact TX) hb); replace BK214 := aM (blk_below (by have X_ := BK214.out; exact TX) hb); replace HB := aM (below_step TB hb); clear hb; obtain ⟨Ao44, co44, eo44⟩ := Kd.R_slice HO218.out; subst eo44)); try go_wp2_with (first | (go_at_call 66; (with_reducible refine (impl_SpanOf.calls ad ae ab ak ai _ A24.out).mono ?_); rintro e w43 ⟨rfl, hb⟩; replace HO218 := aM (Kd.R_below (by have X_ := HO218.out; exact TR) hb); replace aa := aM (blk_below (by have X_ := aa.out; exact TX) hb); replace BK214 := aM (blk_below (by have X_ := BK214.out; exact TX) hb); replace HB := aM (below_step TB hb); clear hb; obtain ⟨Ao44, co44, eo44⟩ := Kd.R_slice HO218.out; subst eo44)))
          go_ret
          exact ⟨by first | rfl | (simp [errW_none, errW_some] <;> rfl) | (simp [*, errW_none, errW_some] <;> rfl), TB⟩
        ·replace c31 := Bool.eq_false_iff.mpr c31
         subst c31
         replace H := ifF H
         obtain rfl := Option.some.inj H
         go_wp2_with (first | (go_at_call 66; (with_reducible refine (impl_SpanOf.calls ad ae ab ak ai _ A24.out).mono ?_); rintro e w45 ⟨rfl, hb⟩; replace HO218 := aM (Kd.R_below (by have X_ := HO218.out; exact TR) hb); replace aa := aM (blk_below (by have X_ := aa.out; exact TX) hb); replace BK214 := aM (blk_below (by have X_ := BK214.out; exact TX) hb); replace HB := aM (below_step TB hb); clear hb))
         repeat (go_quiet (first | (go_at_call 66; (with_reducible refine (impl_SpanOf.calls ad ae ab ak ai _ A24.out).mono ?_); rintro e w45 ⟨rfl, hb⟩; replace HO218 := aM (Kd.R_below (by have X_ := HO218.out; exact TR) hb); replace aa := aM (blk_below (by have X_ := aa.out; exact TX) hb); replace BK214 := aM (blk_below (by have X_ := BK214.out; exact TX) hb); replace HB := aM (below_step TB hb); clear hb)); try go_wp2_with (first | (go_at_call 66; (with_reducible refine (impl_SpanOf.calls ad ae ab ak ai _ A24.out).mono ?_); rintro e w45 ⟨rfl, hb⟩; replace HO218 := aM (Kd.R_below (by have X_ := HO218.out; exact TR) hb); replace aa := aM (blk_below (by have X_ := aa.out; exact TX) hb); replace BK214 := aM (blk_below (by have X_ := BK214.out; exact TX) hb); replace HB := aM (below_step TB hb); clear hb)))
         go_ret
         exact ⟨by first | rfl | (simp [errW_none, errW_some] <;> rfl) | (simp [*, errW_none, errW_some] <;> rfl), TB⟩
       ·rw [if_neg c20] at H
        have c20b0 : decide (ab < (ac.length : Int)) = false := decide_eq_false c20
        clear c20
        obtain rfl := Option.some.inj H
        go_wp2
        repeat (go_quiet (fail); try go_wp2)
        go_ret
        exact ⟨by first | rfl | (simp [errW_none, errW_some] <;> rfl) | (simp [*, errW_none, errW_some] <;> rfl), TB⟩

end Go.Proofs.Ytfkndpjbkndhcaa.Q
