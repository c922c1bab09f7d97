/- Functions of the program as plain Lean functions, and that a call of each comes to what its function tells. Written by a program of this seat. -/
import Derived.Test.YtanpaipapcjpoaaDoorQ0
import Derived.Test.YtanpaipapcjpoaaDoorQ8
import Derived.Test.YtanpaipapcjpoaaDoorQ9
namespace Go.Proofs.YtanpaipapcjpoaaDoor.Q
open Go.RowKit Go.Proofs.YtanpaipapcjpoaaDoorW.PrintWords Go.Proofs.YtanpaipapcjpoaaDoorW.PrintLast Go.Proofs.YtanpaipapcjpoaaDoorW.PrintMore
attribute [local go_sem] max2_int min2_int max_two min_two max_three min_three max_four min_four   -- for this text's walks alone
set_option linter.unusedVariables false
set_option linter.unusedSimpArgs false

/-! ### impl_ManOk: function 28 -/
mutual
def impl_ManOk.j0 : Nat → Bool → Int → Int → Int → List (S61) → Option (Bool)
  | 0, _, _, _, _, _ => none
  | k + 1, x33, x237000, x237001, x237002, x237003 => if x33 = true then (some false) else (impl_ManOk.l0 k x237003 (x237003.length : Int) 0 x237000 x237001 x237002 x237003)
def impl_ManOk.l0 : Nat → List (S61) → Int → Int → Int → Int → Int → List (S61) → Option (Bool)
  | 0, _, _, _, _, _, _, _ => none
  | k + 1, x35, x36, x37, x237000, x237001, x237002, x237003 => if x37 < x36 then (if 0 ≤ x37 then (if x37 < (x35.length : Int) then ((impl_BytesOf.f k ((rd_T61 x35 x37).f1)).bind fun bt243 => ((impl_SpanOf.f x237001 x237002 x37).bind fun bt247 => (if bt243.2 = true then (if (bt243.1.length : Int) = bt247.2 then ((impl_WeakOf.f k bt243.1).bind fun t249 => (if t249 = ((rd_T61 x35 x37).f0) then (impl_ManOk.l0 k x35 x36 (wrap64 (x37 + 1)) x237000 x237001 x237002 x237003) else (some false))) else (some false)) else (some false)))) else (none)) else (none)) else (some true)
end
def impl_ManOk.f (k : Nat) (a0_0 : Int) (a0_1 : Int) (a0_2 : Int) (l0_3 : List (S61)) : Option (Bool) := (impl_isZeroMan.f a0_0 a0_1 a0_2 l0_3).bind fun t237 => (if t237 = true then (some true) else ((impl_within.f a0_0 1 1000000).bind fun t238 => (if t238 = true then ((impl_SizeOk.f a0_1 a0_2).bind fun t239 => (if t239 = true then ((impl_Blocks.f a0_1 a0_2).bind fun t240 => (impl_ManOk.j0 k ((l0_3.length : Int) != t240) a0_0 a0_1 a0_2 l0_3)) else (impl_ManOk.j0 k true a0_0 a0_1 a0_2 l0_3))) else (impl_ManOk.j0 k true a0_0 a0_1 a0_2 l0_3))))
theorem impl_ManOk.mono_l : ∀ k, (∀ y0 y1 y2 y3 y4, LeO (impl_ManOk.j0 k y0 y1 y2 y3 y4) (impl_ManOk.j0 (k + 1) y0 y1 y2 y3 y4)) ∧ (∀ y0 y1 y2 y3 y4 y5 y6, LeO (impl_ManOk.l0 k y0 y1 y2 y3 y4 y5 y6) (impl_ManOk.l0 (k + 1) y0 y1 y2 y3 y4 y5 y6))
  | 0 => ⟨fun _ _ _ _ _ r h => by simp [impl_ManOk.j0] at h, fun _ _ _ _ _ _ _ r h => by simp [impl_ManOk.l0] at h⟩
  | k + 1 => by
    have m0_ := @impl_BytesOf.mono
    have m1_ := @impl_WeakOf.mono
    obtain ⟨ih0, ih1⟩ := impl_ManOk.mono_l k
    refine ⟨?_, ?_⟩
    · intro y0 y1 y2 y3 y4
      unfold impl_ManOk.j0
      exact LM
    · intro y0 y1 y2 y3 y4 y5 y6
      unfold impl_ManOk.l0
      exact LM
theorem impl_ManOk.mono : ∀ a0 a1 a2 a3 k, LeO (impl_ManOk.f k a0 a1 a2 a3) (impl_ManOk.f (k + 1) a0 a1 a2 a3) := by
  intro a0 a1 a2 a3 k
  have m0_ := @impl_BytesOf.mono
  have m1_ := @impl_WeakOf.mono
  obtain ⟨ih0, ih1⟩ := impl_ManOk.mono_l k
  unfold impl_ManOk.f
  exact LM
set_option maxHeartbeats 40000000 in
set_option maxRecDepth 100000 in
theorem impl_ManOk.calls (k : Nat) (a0_0 : Int) (a0_1 : Int) (a0_2 : Int) (A0_3 : Option Addr) (c0_3 : Nat) (l0_3 : List (S61)) (r : Bool) (w : World) (hr0_3 : Kd.C k61 w A0_3 l0_3.length l0_3) (hc0_3 : l0_3.length ≤ c0_3) (h : impl_ManOk.f k a0_0 a0_1 a0_2 l0_3 = some r) :
    Calls Tryd.prog 28 #[.agg #[.int .i64 a0_0, .int .i64 a0_1, .int .i64 a0_2, .slice A0_3 l0_3.length c0_3]] w fun e w' => e = .returned (.bool r) ∧ Below w.heap.size w w' := by
  have hu32 := Tryd.underlying32
  have hu61 := Tryd.underlying61
  have HR0_3 := aM hr0_3
  have HC0_3 := aM hc0_3
  clear hr0_3 hc0_3
  have HB := aM (Below.refl w.heap.size w)
  have H := h
  clear h
  unfold impl_ManOk.f at H
  replace H := bE H
  obtain ⟨t237, A2, H⟩ := H
  go_enter Tryd.func28, Tryd.ntmps28
  go_wp2_with (first | ((with_reducible refine gate_dst (N := 1) rfl ?_); (try (refine gate_guard (by rfl) ?_; dsimp only)); refine gBx 1 #[.int .i64 a0_0, .int .i64 a0_1, .int .i64 a0_2, .slice A0_3 l0_3.length c0_3] 32 ?_; intro gb236 hg w4 hbox hb; have BK236 := aM (hbox); have GW236 := aM ((by rw [hg]; exact (below_size TB) : w.heap.size ≤ gb236)); have GE236 := aM ((by rw [hg]; exact (below_size TB) : w.heap.size ≤ gb236)); replace HB := aM (below_step TB hb); clear hb hbox hg; obtain ⟨hcz5_0, hcz5_1, hcz5_2, hcz5_3⟩ := cz4 BK236.out; obtain ⟨hfz5_0, hfz5_1, hfz5_2, hfz5_3⟩ := fz4 BK236.out) | ((with_reducible refine gate_callee (f := 44) rfl ?_); (with_reducible refine gate_dst (N := 10) rfl ?_); generalize hG_ : wpList _ _ _ _ _ _ = G_))
  repeat (go_quiet (first | ((with_reducible refine gate_dst (N := 1) rfl ?_); (try (refine gate_guard (by rfl) ?_; dsimp only)); refine gBx 1 #[.int .i64 a0_0, .int .i64 a0_1, .int .i64 a0_2, .slice A0_3 l0_3.length c0_3] 32 ?_; intro gb236 hg w4 hbox hb; have BK236 := aM (hbox); have GW236 := aM ((by rw [hg]; exact (below_size TB) : w.heap.size ≤ gb236)); have GE236 := aM ((by rw [hg]; exact (below_size TB) : w.heap.size ≤ gb236)); replace HB := aM (below_step TB hb); clear hb hbox hg; obtain ⟨hcz5_0, hcz5_1, hcz5_2, hcz5_3⟩ := cz4 BK236.out; obtain ⟨hfz5_0, hfz5_1, hfz5_2, hfz5_3⟩ := fz4 BK236.out) | ((with_reducible refine gate_callee (f := 44) rfl ?_); (with_reducible refine gate_dst (N := 10) rfl ?_); generalize hG_ : wpList _ _ _ _ _ _ = G_)); try go_wp2_with (first | ((with_reducible refine gate_dst (N := 1) rfl ?_); (try (refine gate_guard (by rfl) ?_; dsimp only)); refine gBx 1 #[.int .i64 a0_0, .int .i64 a0_1, .int .i64 a0_2, .slice A0_3 l0_3.length c0_3] 32 ?_; intro gb236 hg w4 hbox hb; have BK236 := aM (hbox); have GW236 := aM ((by rw [hg]; exact (below_size TB) : w.heap.size ≤ gb236)); have GE236 := aM ((by rw [hg]; exact (below_size TB) : w.heap.size ≤ gb236)); replace HB := aM (below_step TB hb); clear hb hbox hg; obtain ⟨hcz5_0, hcz5_1, hcz5_2, hcz5_3⟩ := cz4 BK236.out; obtain ⟨hfz5_0, hfz5_1, hfz5_2, hfz5_3⟩ := fz4 BK236.out) | ((with_reducible refine gate_callee (f := 44) rfl ?_); (with_reducible refine gate_dst (N := 10) rfl ?_); generalize hG_ : wpList _ _ _ _ _ _ = G_)))
  subst hG_
  by_cases c6 : t237 = true
  · subst c6
    replace H := ifT H
    obtain rfl := Option.some.inj H
    go_wp2_with (first | (go_at_call 44; (with_reducible refine (impl_isZeroMan.calls a0_0 a0_1 a0_2 _ _ l0_3 true _ ?side1 ?side2 A2.out).mono ?_); (case side1 => repeat (first | exact (Kd.C_below HR0_3.out TB) | (with_reducible refine Kd.C_alloc ?_ _) | (with_reducible refine Kd.C_drewN ?_ _) | (with_reducible refine Kd.C_drew ?_))); (case side2 => exact HC0_3.out); rintro e w7 ⟨rfl, hb⟩; replace BK236 := aM (blk_below (by have X_ := BK236.out; exact TX) hb); replace HB := aM (below_step TB hb); clear hb))
    repeat (go_quiet (first | (go_at_call 44; (with_reducible refine (impl_isZeroMan.calls a0_0 a0_1 a0_2 _ _ l0_3 true _ ?side1 ?side2 A2.out).mono ?_); (case side1 => repeat (first | exact (Kd.C_below HR0_3.out TB) | (with_reducible refine Kd.C_alloc ?_ _) | (with_reducible refine Kd.C_drewN ?_ _) | (with_reducible refine Kd.C_drew ?_))); (case side2 => exact HC0_3.out); rintro e w7 ⟨rfl, hb⟩; replace BK236 := aM (blk_below (by have X_ := BK236.out; exact TX) hb); replace HB := aM (below_step TB hb); clear hb)); try go_wp2_with (first | (go_at_call 44; (with_reducible refine (impl_isZeroMan.calls a0_0 a0_1 a0_2 _ _ l0_3 true _ ?side1 ?side2 A2.out).mono ?_); (case side1 => repeat (first | exact (Kd.C_below HR0_3.out TB) | (with_reducible refine Kd.C_alloc ?_ _) | (with_reducible refine Kd.C_drewN ?_ _) | (with_reducible refine Kd.C_drew ?_))); (case side2 => exact HC0_3.out); rintro e w7 ⟨rfl, hb⟩; replace BK236 := aM (blk_below (by have X_ := BK236.out; exact TX) hb); replace HB := aM (below_step TB hb); clear hb)))
    go_ret
    exact ⟨by first | rfl | (simp [errW_none, errW_some] <;> rfl) | (simp [*, errW_none, errW_some] <;> rfl), TB⟩
  · replace c6 := Bool.eq_false_iff.mpr c6
    subst c6
    replace H := ifF H
    have HC8 := aM H
    clear H
    go_upto_region 3 with (first | (go_at_call 44; (with_reducible refine (impl_isZeroMan.calls a0_0 a0_1 a0_2 _ _ l0_3 false _ ?side1 ?side2 A2.out).mono ?_); (case side1 => repeat (first | exact (Kd.C_below HR0_3.out TB) | (with_reducible refine Kd.C_alloc ?_ _) | (with_reducible refine Kd.C_drewN ?_ _) | (with_reducible refine Kd.C_drew ?_))); (case side2 => exact HC0_3.out); rintro e w9 ⟨rfl, hb⟩; replace BK236 := aM (blk_below (by have X_ := BK236.out; exact TX) hb); replace HB := aM (below_step TB hb); clear hb))
    repeat (go_quiet (first | (go_at_call 44; (with_reducible refine (impl_isZeroMan.calls a0_0 a0_1 a0_2 _ _ l0_3 false _ ?side1 ?side2 A2.out).mono ?_); (case side1 => repeat (first | exact (Kd.C_below HR0_3.out TB) | (with_reducible refine Kd.C_alloc ?_ _) | (with_reducible refine Kd.C_drewN ?_ _) | (with_reducible refine Kd.C_drew ?_))); (case side2 => exact HC0_3.out); rintro e w9 ⟨rfl, hb⟩; replace BK236 := aM (blk_below (by have X_ := BK236.out; exact TX) hb); replace HB := aM (below_step TB hb); clear hb)); go_upto_region 3 with (first | (go_at_call 44; (with_reducible refine (impl_isZeroMan.calls a0_0 a0_1 a0_2 _ _ l0_3 false _ ?side1 ?side2 A2.out).mono ?_); (case side1 => repeat (first | exact (Kd.C_below HR0_3.out TB) | (with_reducible refine Kd.C_alloc ?_ _) | (with_reducible refine Kd.C_drewN ?_ _) | (with_reducible refine Kd.C_drew ?_))); (case side2 => exact HC0_3.out); rintro e w9 ⟨rfl, hb⟩; replace BK236 := aM (blk_below (by have X_ := BK236.out; exact TX) hb); replace HB := aM (below_step TB hb); clear hb)))
    (try simp only [Act.put, List.setIfInBounds_toArray, List.set_cons_zero, List.set_cons_succ])
    go_cut [33] (fun v33 wc => ∃ (kq : Nat) (x33_7 : Bool), v33 = .bool x33_7 ∧ Aside0 (impl_ManOk.j0 kq x33_7 a0_0 a0_1 a0_2 l0_3 = some r) ∧ Aside0 (kq ≤ k) ∧ Aside0 (wc.heap[gb236]? = some (.cells #[.int .i64 a0_0, .int .i64 a0_1, .int .i64 a0_2, (.slice A0_3 l0_3.length c0_3)] 32 (0, 0))) ∧ Aside0 (Below w.heap.size w wc))
    case first =>
      have H := HC8.out
      clear HC8
      replace H := bE H
      obtain ⟨t238, A10, H⟩ := H
      by_cases c11 : t238 = true
      · subst c11
        replace H := ifT H
        replace H := bE H
        obtain ⟨t239, A12, H⟩ := H
        by_cases c13 : t239 = true
        · subst c13
          replace H := ifT H
          replace H := bE H
          obtain ⟨t240, A14, H⟩ := H
          have H' := aM H
          clear H
          obtain ⟨hcz15_0, hcz15_1, hcz15_2, hcz15_3⟩ := cz4 BK236.out
          obtain ⟨hfz15_0, hfz15_1, hfz15_2, hfz15_3⟩ := fz4 BK236.out
          go_wp2_with (first | (go_at_call 32; (with_reducible refine (impl_within.calls a0_0 1 1000000 true _ A10.out).mono ?_); rintro e w' ⟨rfl, ⟨nd, rfl⟩⟩; (try first | exact ⟨rfl, _, World.drewN_drewN _ _ _⟩ | exact ⟨rfl, _, Eq.trans (World.drewN_drewN _ _ _) (congrArg (World.drewN _) (Nat.add_assoc _ _ _))⟩)) | (go_at_call 45; (with_reducible refine (impl_SizeOk.calls a0_1 a0_2 true _ A12.out).mono ?_); rintro e w' ⟨rfl, ⟨nd, rfl⟩⟩; (try first | exact ⟨rfl, _, World.drewN_drewN _ _ _⟩ | exact ⟨rfl, _, Eq.trans (World.drewN_drewN _ _ _) (congrArg (World.drewN _) (Nat.add_assoc _ _ _))⟩)) | (go_at_call 46; (with_reducible refine (impl_Blocks.calls a0_1 a0_2 t240 _ A14.out).mono ?_); rintro e w' ⟨rfl, ⟨nd, rfl⟩⟩; (try first | exact ⟨rfl, _, World.drewN_drewN _ _ _⟩ | exact ⟨rfl, _, Eq.trans (World.drewN_drewN _ _ _) (congrArg (World.drewN _) (Nat.add_assoc _ _ _))⟩)))
          repeat (go_quiet (first | (go_at_call 32; (with_reducible refine (impl_within.calls a0_0 1 1000000 true _ A10.out).mono ?_); rintro e w' ⟨rfl, ⟨nd, rfl⟩⟩; (try first | exact ⟨rfl, _, World.drewN_drewN _ _ _⟩ | exact ⟨rfl, _, Eq.trans (World.drewN_drewN _ _ _) (congrArg (World.drewN _) (Nat.add_assoc _ _ _))⟩)) | (go_at_call 45; (with_reducible refine (impl_SizeOk.calls a0_1 a0_2 true _ A12.out).mono ?_); rintro e w' ⟨rfl, ⟨nd, rfl⟩⟩; (try first | exact ⟨rfl, _, World.drewN_drewN _ _ _⟩ | exact ⟨rfl, _, Eq.trans (World.drewN_drewN _ _ _) (congrArg (World.drewN _) (Nat.add_assoc _ _ _))⟩)) | (go_at_call 46; (with_reducible refine (impl_Blocks.calls a0_1 a0_2 t240 _ A14.out).mono ?_); rintro e w' ⟨rfl, ⟨nd, rfl⟩⟩; (try first | exact ⟨rfl, _, World.drewN_drewN _ _ _⟩ | exact ⟨rfl, _, Eq.trans (World.drewN_drewN _ _ _) (congrArg (World.drewN _) (Nat.add_assoc _ _ _))⟩))); try go_wp2_with (first | (go_at_call 32; (with_reducible refine (impl_within.calls a0_0 1 1000000 true _ A10.out).mono ?_); rintro e w' ⟨rfl, ⟨nd, rfl⟩⟩; (try first | exact ⟨rfl, _, World.drewN_drewN _ _ _⟩ | exact ⟨rfl, _, Eq.trans (World.drewN_drewN _ _ _) (congrArg (World.drewN _) (Nat.add_assoc _ _ _))⟩)) | (go_at_call 45; (with_reducible refine (impl_SizeOk.calls a0_1 a0_2 true _ A12.out).mono ?_); rintro e w' ⟨rfl, ⟨nd, rfl⟩⟩; (try first | exact ⟨rfl, _, World.drewN_drewN _ _ _⟩ | exact ⟨rfl, _, Eq.trans (World.drewN_drewN _ _ _) (congrArg (World.drewN _) (Nat.add_assoc _ _ _))⟩)) | (go_at_call 46; (with_reducible refine (impl_Blocks.calls a0_1 a0_2 t240 _ A14.out).mono ?_); rintro e w' ⟨rfl, ⟨nd, rfl⟩⟩; (try first | exact ⟨rfl, _, World.drewN_drewN _ _ _⟩ | exact ⟨rfl, _, Eq.trans (World.drewN_drewN _ _ _) (congrArg (World.drewN _) (Nat.add_assoc _ _ _))⟩))))
          go_meet
          case rel => exact ⟨_, (((l0_3.length : Int) != t240)), (by first | rfl | (simp; done) | (simp [*]; done)), H', ⟨by first | omega | exact Nat.le_refl _⟩, ⟨TK⟩, ⟨TB⟩⟩
        · replace c13 := Bool.eq_false_iff.mpr c13
          subst c13
          replace H := ifF H
          have H' := aM H
          clear H
          obtain ⟨hcz16_0, hcz16_1, hcz16_2, hcz16_3⟩ := cz4 BK236.out
          obtain ⟨hfz16_0, hfz16_1, hfz16_2, hfz16_3⟩ := fz4 BK236.out
          go_wp2_with (first | (go_at_call 32; (with_reducible refine (impl_within.calls a0_0 1 1000000 true _ A10.out).mono ?_); rintro e w' ⟨rfl, ⟨nd, rfl⟩⟩; (try first | exact ⟨rfl, _, World.drewN_drewN _ _ _⟩ | exact ⟨rfl, _, Eq.trans (World.drewN_drewN _ _ _) (congrArg (World.drewN _) (Nat.add_assoc _ _ _))⟩)) | (go_at_call 45; (with_reducible refine (impl_SizeOk.calls a0_1 a0_2 false _ A12.out).mono ?_); rintro e w' ⟨rfl, ⟨nd, rfl⟩⟩; (try first | exact ⟨rfl, _, World.drewN_drewN _ _ _⟩ | exact ⟨rfl, _, Eq.trans (World.drewN_drewN _ _ _) (congrArg (World.drewN _) (Nat.add_assoc _ _ _))⟩)))
          repeat (go_quiet (first | (go_at_call 32; (with_reducible refine (impl_within.calls a0_0 1 1000000 true _ A10.out).mono ?_); rintro e w' ⟨rfl, ⟨nd, rfl⟩⟩; (try first | exact ⟨rfl, _, World.drewN_drewN _ _ _⟩ | exact ⟨rfl, _, Eq.trans (World.drewN_drewN _ _ _) (congrArg (World.drewN _) (Nat.add_assoc _ _ _))⟩)) | (go_at_call 45; (with_reducible refine (impl_SizeOk.calls a0_1 a0_2 false _ A12.out).mono ?_); rintro e w' ⟨rfl, ⟨nd, rfl⟩⟩; (try first | exact ⟨rfl, _, World.drewN_drewN _ _ _⟩ | exact ⟨rfl, _, Eq.trans (World.drewN_drewN _ _ _) (congrArg (World.drewN _) (Nat.add_assoc _ _ _))⟩))); try go_wp2_with (first | (go_at_call 32; (with_reducible refine (impl_within.calls a0_0 1 1000000 true _ A10.out).mono ?_); rintro e w' ⟨rfl, ⟨nd, rfl⟩⟩; (try first | exact ⟨rfl, _, World.drewN_drewN _ _ _⟩ | exact ⟨rfl, _, Eq.trans (World.drewN_drewN _ _ _) (congrArg (World.drewN _) (Nat.add_assoc _ _ _))⟩)) | (go_at_call 45; (with_reducible refine (impl_SizeOk.calls a0_1 a0_2 false _ A12.out).mono ?_); rintro e w' ⟨rfl, ⟨nd, rfl⟩⟩; (try first | exact ⟨rfl, _, World.drewN_drewN _ _ _⟩ | exact ⟨rfl, _, Eq.trans (World.drewN_drewN _ _ _) (congrArg (World.drewN _) (Nat.add_assoc _ _ _))⟩))))
          go_meet
          case rel => exact ⟨_, (true), (by first | rfl | (simp; done) | (simp [*]; done)), H', ⟨by first | omega | exact Nat.le_refl _⟩, ⟨TK⟩, ⟨TB⟩⟩
      · replace c11 := Bool.eq_false_iff.mpr c11
        subst c11
        replace H := ifF H
        have H' := aM H
        clear H
        obtain ⟨hcz17_0, hcz17_1, hcz17_2, hcz17_3⟩ := cz4 BK236.out
        obtain ⟨hfz17_0, hfz17_1, hfz17_2, hfz17_3⟩ := fz4 BK236.out
        go_wp2_with (first | (go_at_call 32; (with_reducible refine (impl_within.calls a0_0 1 1000000 false _ A10.out).mono ?_); rintro e w' ⟨rfl, ⟨nd, rfl⟩⟩; (try first | exact ⟨rfl, _, World.drewN_drewN _ _ _⟩ | exact ⟨rfl, _, Eq.trans (World.drewN_drewN _ _ _) (congrArg (World.drewN _) (Nat.add_assoc _ _ _))⟩)))
        repeat (go_quiet (first | (go_at_call 32; (with_reducible refine (impl_within.calls a0_0 1 1000000 false _ A10.out).mono ?_); rintro e w' ⟨rfl, ⟨nd, rfl⟩⟩; (try first | exact ⟨rfl, _, World.drewN_drewN _ _ _⟩ | exact ⟨rfl, _, Eq.trans (World.drewN_drewN _ _ _) (congrArg (World.drewN _) (Nat.add_assoc _ _ _))⟩))); try go_wp2_with (first | (go_at_call 32; (with_reducible refine (impl_within.calls a0_0 1 1000000 false _ A10.out).mono ?_); rintro e w' ⟨rfl, ⟨nd, rfl⟩⟩; (try first | exact ⟨rfl, _, World.drewN_drewN _ _ _⟩ | exact ⟨rfl, _, Eq.trans (World.drewN_drewN _ _ _) (congrArg (World.drewN _) (Nat.add_assoc _ _ _))⟩))))
        go_meet
        case rel => exact ⟨_, (true), (by first | rfl | (simp; done) | (simp [*]; done)), H', ⟨by first | omega | exact Nat.le_refl _⟩, ⟨TK⟩, ⟨TB⟩⟩
    case rest =>
      clear HC8
      try clear c1
      try clear c2
      try clear p2
      try clear c6
      try clear c11
      try clear c13
      try clear hcz15_0
      try clear hcz15_1
      try clear hcz15_2
      try clear hcz15_3
      try clear hcz16_0
      try clear hcz16_1
      try clear hcz16_2
      try clear hcz16_3
      try clear hcz17_0
      try clear hcz17_1
      try clear hcz17_2
      try clear hcz17_3
      try clear hcz5_0
      try clear hcz5_1
      try clear hcz5_2
      try clear hcz5_3
      try clear hfz15_0
      try clear hfz15_1
      try clear hfz15_2
      try clear hfz15_3
      try clear hfz16_0
      try clear hfz16_1
      try clear hfz16_2
      try clear hfz16_3
      try clear hfz17_0
      try clear hfz17_1
      try clear hfz17_2
      try clear hfz17_3
      try clear hfz5_0
      try clear hfz5_1
      try clear hfz5_2
      try clear hfz5_3
      obtain ⟨kq, x33_7, rfl, HA, HJ7, BK236, HB⟩ := hcut
      cases kq with
      | zero => exact absurd HA.out (by simp [impl_ManOk.j0])
      | succ kj7 =>
        have H := HA.out
        clear HA
        simp only [impl_ManOk.j0] at H
        by_cases c18 : x33_7 = true
        · subst c18
          replace H := ifT H
          obtain rfl := Option.some.inj H
          go_wp2
          repeat (go_quiet (fail); try go_wp2)
          go_ret
          exact ⟨by first | rfl | (simp [errW_none, errW_some] <;> rfl) | (simp [*, errW_none, errW_some] <;> rfl), TB⟩
        · replace c18 := Bool.eq_false_iff.mpr c18
          subst c18
          replace H := ifF H
          have H' := aM H
          clear H
          obtain ⟨hcz19_0, hcz19_1, hcz19_2, hcz19_3⟩ := cz4 BK236.out
          obtain ⟨hfz19_0, hfz19_1, hfz19_2, hfz19_3⟩ := fz4 BK236.out
          go_wp2
          repeat (go_quiet (fail); try go_wp2)
          go_loopg [37] kj7 (fun kq v37 w' => ∃ (x37_2 : Int), v37 = .int .i64 x37_2 ∧ Aside0 (impl_ManOk.l0 kq l0_3 (l0_3.length : Int) x37_2 a0_0 a0_1 a0_2 l0_3 = some r) ∧ Aside0 (kq ≤ kj7) ∧ Aside0 (w'.heap[gb236]? = some (.cells #[.int .i64 a0_0, .int .i64 a0_1, .int .i64 a0_2, (.slice A0_3 l0_3.length c0_3)] 32 (0, 0))) ∧ Aside0 (Below w.heap.size w w'))
          case atStart => exact ⟨(0), (by first | rfl | (simp; done) | (simp [*]; done)), H', ⟨Nat.le_refl _⟩, ⟨TK⟩, ⟨TB⟩⟩
          case round =>
            clear H'
            try clear c1
            try clear c2
            try clear p2
            try clear c6
            try clear c11
            try clear c13
            try clear c18
            try clear hcz15_0
            try clear hcz15_1
            try clear hcz15_2
            try clear hcz15_3
            try clear hcz16_0
            try clear hcz16_1
            try clear hcz16_2
            try clear hcz16_3
            try clear hcz17_0
            try clear hcz17_1
            try clear hcz17_2
            try clear hcz17_3
            try clear hcz19_0
            try clear hcz19_1
            try clear hcz19_2
            try clear hcz19_3
            try clear hcz5_0
            try clear hcz5_1
            try clear hcz5_2
            try clear hcz5_3
            try clear hfz15_0
            try clear hfz15_1
            try clear hfz15_2
            try clear hfz15_3
            try clear hfz16_0
            try clear hfz16_1
            try clear hfz16_2
            try clear hfz16_3
            try clear hfz17_0
            try clear hfz17_1
            try clear hfz17_2
            try clear hfz17_3
            try clear hfz19_0
            try clear hfz19_1
            try clear hfz19_2
            try clear hfz19_3
            try clear hfz5_0
            try clear hfz5_1
            try clear hfz5_2
            try clear hfz5_3
            try clear p2
            obtain ⟨x37_2, rfl, HA, HK2, BK236, HB⟩ := hrel
            cases gk with
            | zero => exact absurd HA.out (by simp [impl_ManOk.l0])
            | succ k2 =>
              have H := HA.out
              clear HA
              simp only [impl_ManOk.l0] at H
              by_cases c20 : x37_2 < (l0_3.length : Int)
              · rw [if_pos c20] at H
                have c20b0 : decide (x37_2 < (l0_3.length : Int)) = true := decide_eq_true c20
                clear c20
                replace H := ifN H
                obtain ⟨c21, H⟩ := H
                have c21b0 : decide (0 ≤ x37_2) = true := decide_eq_true c21
                clear c21
                replace H := ifN H
                obtain ⟨c22, H⟩ := H
                have c22b0 : decide (x37_2 < (l0_3.length : Int)) = true := decide_eq_true c22
                clear c22
                replace H := bE H
                obtain ⟨⟨t243, t244⟩, A23, H⟩ := H
                dsimp only at H
                replace H := bE H
                obtain ⟨⟨t247, t248⟩, A24, H⟩ := H
                dsimp only at H
                have p241 : 0 ≤ (x37_2 : Int) := DT
                have q241 : x37_2 < (l0_3.length : Int) := DT
                obtain ⟨ad241, e241, hx241_0, hx241_1⟩ := at_T61 HR0_3.out x37_2 p241 q241
                cases e241
                replace hx241_0 := (HB.out.cell (World.block_lt_of_cell? w _ hx241_0)).trans hx241_0
                replace hx241_1 := (HB.out.cell (World.block_lt_of_cell? w _ hx241_1)).trans hx241_1
                replace p241 := eq_true p241
                replace q241 := eq_true q241
                go_wp2_with (first | ((with_reducible refine gate_dst (N := 4) rfl ?_); (try (refine gate_guard (by rfl) ?_; dsimp only)); refine gBx 4 #[.int .i64 0, .int .i64 0] 61 ?_; intro gb242 hg w26 hbox hb; have BK242 := aM (hbox); have GW242 := aM ((by rw [hg]; exact (below_size TB) : w.heap.size ≤ gb242)); have GE242 := aM ((by rw [hg]; exact (below_size TB) : w.heap.size ≤ gb242)); have NB236_242 := aM ((by rw [hg]; exact Nat.ne_of_lt (blk_lt (by have X_ := BK236.out; exact TX)) : gb236 ≠ gb242)); have NB242_236 := aM ((by rw [hg]; exact Nat.ne_of_gt (blk_lt (by have X_ := BK236.out; exact TX)) : gb242 ≠ gb236)); replace BK236 := aM (blk_below (by have X_ := BK236.out; exact TX) hb); replace HB := aM (below_step TB hb); clear hb hbox hg; have hnb27 := NB242_236.out; have hnc27 := NB236_242.out; obtain ⟨hcz28_0, hcz28_1⟩ := cz2 BK242.out; obtain ⟨hfz28_0, hfz28_1⟩ := fz2 BK242.out) | (go_at_call 47; (with_reducible refine (impl_BytesOf.calls k2 ((rd_T61 l0_3 x37_2).f1) t243 t244 _ A23.out).mono ?_); rintro e w29 ⟨v245, rfl, ho0, hb⟩; have HO246 := aM (Kd.R_lower ho0 (below_size TB)); replace BK236 := aM (blk_below (g := gb236) (o := .cells #[.int .i64 a0_0, .int .i64 a0_1, .int .i64 a0_2, .slice (some ad241) l0_3.length c0_3] 32 (0, 0)) (by (with_reducible repeat (first | refine blk_drewN ?_ _ | refine blk_drew ?_ | refine blk_alloc ?_ _)); refine blk_far ?_ NB236_242.out _; (with_reducible repeat (first | refine blk_drewN ?_ _ | refine blk_drew ?_ | refine blk_alloc ?_ _)); refine blk_far ?_ NB236_242.out _; (with_reducible repeat (first | refine blk_drewN ?_ _ | refine blk_drew ?_ | refine blk_alloc ?_ _)); exact BK236.out) hb); replace BK242 := aM (blk_below (g := gb242) (o := .cells #[.int .i64 ((rd_T61 l0_3 x37_2).f0), .int .i64 ((rd_T61 l0_3 x37_2).f1)] 61 (0, 0)) (by (with_reducible repeat (first | refine blk_drewN ?_ _ | refine blk_drew ?_ | refine blk_alloc ?_ _)); refine blk_put (cs := #[.int .i64 ((rd_T61 l0_3 x37_2).f0), .int .i64 0]) ?_ 1 _ rfl; (with_reducible repeat (first | refine blk_drewN ?_ _ | refine blk_drew ?_ | refine blk_alloc ?_ _)); refine blk_put (cs := #[.int .i64 0, .int .i64 0]) ?_ 0 _ rfl; (with_reducible repeat (first | refine blk_drewN ?_ _ | refine blk_drew ?_ | refine blk_alloc ?_ _)); exact BK242.out) hb); replace HB := aM (below_step TB hb); clear ho0 hb; obtain ⟨hcz30_0, hcz30_1, hcz30_2, hcz30_3⟩ := cz4 BK236.out; obtain ⟨hfz30_0, hfz30_1, hfz30_2, hfz30_3⟩ := fz4 BK236.out) | ((with_reducible refine gate_callee (f := 48) rfl ?_); (with_reducible refine gate_dst (N := 54) rfl ?_); generalize hG_ : wpList _ _ _ _ _ _ = G_))
                repeat (go_quiet (first | ((with_reducible refine gate_dst (N := 4) rfl ?_); (try (refine gate_guard (by rfl) ?_; dsimp only)); refine gBx 4 #[.int .i64 0, .int .i64 0] 61 ?_; intro gb242 hg w26 hbox hb; have BK242 := aM (hbox); have GW242 := aM ((by rw [hg]; exact (below_size TB) : w.heap.size ≤ gb242)); have GE242 := aM ((by rw [hg]; exact (below_size TB) : w.heap.size ≤ gb242)); have NB236_242 := aM ((by rw [hg]; exact Nat.ne_of_lt (blk_lt (by have X_ := BK236.out; exact TX)) : gb236 ≠ gb242)); have NB242_236 := aM ((by rw [hg]; exact Nat.ne_of_gt (blk_lt (by have X_ := BK236.out; exact TX)) : gb242 ≠ gb236)); replace BK236 := aM (blk_below (by have X_ := BK236.out; exact TX) hb); replace HB := aM (below_step TB hb); clear hb hbox hg; have hnb27 := NB242_236.out; have hnc27 := NB236_242.out; obtain ⟨hcz28_0, hcz28_1⟩ := cz2 BK242.out; obtain ⟨hfz28_0, hfz28_1⟩ := fz2 BK242.out) | (go_at_call 47; (with_reducible refine (impl_BytesOf.calls k2 ((rd_T61 l0_3 x37_2).f1) t243 t244 _ A23.out).mono ?_); rintro e w29 ⟨v245, rfl, ho0, hb⟩; have HO246 := aM (Kd.R_lower ho0 (below_size TB)); replace BK236 := aM (blk_below (g := gb236) (o := .cells #[.int .i64 a0_0, .int .i64 a0_1, .int .i64 a0_2, .slice (some ad241) l0_3.length c0_3] 32 (0, 0)) (by (with_reducible repeat (first | refine blk_drewN ?_ _ | refine blk_drew ?_ | refine blk_alloc ?_ _)); refine blk_far ?_ NB236_242.out _; (with_reducible repeat (first | refine blk_drewN ?_ _ | refine blk_drew ?_ | refine blk_alloc ?_ _)); refine blk_far ?_ NB236_242.out _; (with_reducible repeat (first | refine blk_drewN ?_ _ | refine blk_drew ?_ | refine blk_alloc ?_ _)); exact BK236.out) hb); replace BK242 := aM (blk_below (g := gb242) (o := .cells #[.int .i64 ((rd_T61 l0_3 x37_2).f0), .int .i64 ((rd_T61 l0_3 x37_2).f1)] 61 (0, 0)) (by (with_reducible repeat (first | refine blk_drewN ?_ _ | refine blk_drew ?_ | refine blk_alloc ?_ _)); refine blk_put (cs := #[.int .i64 ((rd_T61 l0_3 x37_2).f0), .int .i64 0]) ?_ 1 _ rfl; (with_reducible repeat (first | refine blk_drewN ?_ _ | refine blk_drew ?_ | refine blk_alloc ?_ _)); refine blk_put (cs := #[.int .i64 0, .int .i64 0]) ?_ 0 _ rfl; (with_reducible repeat (first | refine blk_drewN ?_ _ | refine blk_drew ?_ | refine blk_alloc ?_ _)); exact BK242.out) hb); replace HB := aM (below_step TB hb); clear ho0 hb; obtain ⟨hcz30_0, hcz30_1, hcz30_2, hcz30_3⟩ := cz4 BK236.out; obtain ⟨hfz30_0, hfz30_1, hfz30_2, hfz30_3⟩ := fz4 BK236.out) | ((with_reducible refine gate_callee (f := 48) rfl ?_); (with_reducible refine gate_dst (N := 54) rfl ?_); generalize hG_ : wpList _ _ _ _ _ _ = G_)); try go_wp2_with (first | ((with_reducible refine gate_dst (N := 4) rfl ?_); (try (refine gate_guard (by rfl) ?_; dsimp only)); refine gBx 4 #[.int .i64 0, .int .i64 0] 61 ?_; intro gb242 hg w26 hbox hb; have BK242 := aM (hbox); have GW242 := aM ((by rw [hg]; exact (below_size TB) : w.heap.size ≤ gb242)); have GE242 := aM ((by rw [hg]; exact (below_size TB) : w.heap.size ≤ gb242)); have NB236_242 := aM ((by rw [hg]; exact Nat.ne_of_lt (blk_lt (by have X_ := BK236.out; exact TX)) : gb236 ≠ gb242)); have NB242_236 := aM ((by rw [hg]; exact Nat.ne_of_gt (blk_lt (by have X_ := BK236.out; exact TX)) : gb242 ≠ gb236)); replace BK236 := aM (blk_below (by have X_ := BK236.out; exact TX) hb); replace HB := aM (below_step TB hb); clear hb hbox hg; have hnb27 := NB242_236.out; have hnc27 := NB236_242.out; obtain ⟨hcz28_0, hcz28_1⟩ := cz2 BK242.out; obtain ⟨hfz28_0, hfz28_1⟩ := fz2 BK242.out) | (go_at_call 47; (with_reducible refine (impl_BytesOf.calls k2 ((rd_T61 l0_3 x37_2).f1) t243 t244 _ A23.out).mono ?_); rintro e w29 ⟨v245, rfl, ho0, hb⟩; have HO246 := aM (Kd.R_lower ho0 (below_size TB)); replace BK236 := aM (blk_below (g := gb236) (o := .cells #[.int .i64 a0_0, .int .i64 a0_1, .int .i64 a0_2, .slice (some ad241) l0_3.length c0_3] 32 (0, 0)) (by (with_reducible repeat (first | refine blk_drewN ?_ _ | refine blk_drew ?_ | refine blk_alloc ?_ _)); refine blk_far ?_ NB236_242.out _; (with_reducible repeat (first | refine blk_drewN ?_ _ | refine blk_drew ?_ | refine blk_alloc ?_ _)); refine blk_far ?_ NB236_242.out _; (with_reducible repeat (first | refine blk_drewN ?_ _ | refine blk_drew ?_ | refine blk_alloc ?_ _)); exact BK236.out) hb); replace BK242 := aM (blk_below (g := gb242) (o := .cells #[.int .i64 ((rd_T61 l0_3 x37_2).f0), .int .i64 ((rd_T61 l0_3 x37_2).f1)] 61 (0, 0)) (by (with_reducible repeat (first | refine blk_drewN ?_ _ | refine blk_drew ?_ | refine blk_alloc ?_ _)); refine blk_put (cs := #[.int .i64 ((rd_T61 l0_3 x37_2).f0), .int .i64 0]) ?_ 1 _ rfl; (with_reducible repeat (first | refine blk_drewN ?_ _ | refine blk_drew ?_ | refine blk_alloc ?_ _)); refine blk_put (cs := #[.int .i64 0, .int .i64 0]) ?_ 0 _ rfl; (with_reducible repeat (first | refine blk_drewN ?_ _ | refine blk_drew ?_ | refine blk_alloc ?_ _)); exact BK242.out) hb); replace HB := aM (below_step TB hb); clear ho0 hb; obtain ⟨hcz30_0, hcz30_1, hcz30_2, hcz30_3⟩ := cz4 BK236.out; obtain ⟨hfz30_0, hfz30_1, hfz30_2, hfz30_3⟩ := fz4 BK236.out) | ((with_reducible refine gate_callee (f := 48) rfl ?_); (with_reducible refine gate_dst (N := 54) rfl ?_); generalize hG_ : wpList _ _ _ _ _ _ = G_)))
                subst hG_
                by_cases c31 : t244 = true
                · subst c31
                  replace H := ifT H
                  by_cases c32 : (t243.length : Int) = t248
                  · rw [if_pos c32] at H
                    have c32b0 : ((t243.length : Int) == t248) = true := beq_iff_eq.mpr c32
                    have c32b1 : ((t243.length : Int) != t248) = false := bne_eq_false_iff_eq.mpr c32
                    clear c32
                    replace H := bE H
                    obtain ⟨t249, A33, H⟩ := H
                    by_cases c34 : t249 = ((rd_T61 l0_3 x37_2).f0)
                    · rw [if_pos c34] at H
                      have c34b0 : (t249 == ((rd_T61 l0_3 x37_2).f0)) = true := beq_iff_eq.mpr c34
                      have c34b1 : (t249 != ((rd_T61 l0_3 x37_2).f0)) = false := bne_eq_false_iff_eq.mpr c34
                      clear c34
                      have H' := aM H
                      clear H
                      go_wp2_with (first | (go_at_call 48; (with_reducible refine (impl_SpanOf.calls a0_1 a0_2 x37_2 t247 t248 _ A24.out).mono ?_); rintro e w35 ⟨rfl, hb⟩; replace HO246 := aM (Kd.R_below (by have X_ := HO246.out; exact TR) hb); replace BK236 := aM (blk_below (by have X_ := BK236.out; exact TX) hb); replace BK242 := aM (blk_below (by have X_ := BK242.out; exact TX) hb); replace HB := aM (below_step TB hb); clear hb; obtain ⟨Ao36, co36, eo36⟩ := Kd.R_slice HO246.out; subst eo36) | (go_at_call 49; (with_reducible refine (impl_WeakOf.calls k2 _ _ t243 t249 _ ?side1 ?side2 A33.out).mono ?_); (case side1 => have X_ := (Kd.R_reads' HO246.out).2.2; exact TC); (case side2 => exact (Kd.R_reads' HO246.out).2.1); rintro e w' ⟨rfl, ⟨nd, rfl⟩⟩; (try first | exact ⟨rfl, _, World.drewN_drewN _ _ _⟩ | exact ⟨rfl, _, Eq.trans (World.drewN_drewN _ _ _) (congrArg (World.drewN _) (Nat.add_assoc _ _ _))⟩); have hnb37 := NB242_236.out; have hnc37 := NB236_242.out; obtain ⟨hcz38_0, hcz38_1⟩ := cz2 BK242.out; obtain ⟨hfz38_0, hfz38_1⟩ := fz2 BK242.out))
                      repeat (go_quiet (first | (go_at_call 48; (with_reducible refine (impl_SpanOf.calls a0_1 a0_2 x37_2 t247 t248 _ A24.out).mono ?_); rintro e w35 ⟨rfl, hb⟩; replace HO246 := aM (Kd.R_below (by have X_ := HO246.out; exact TR) hb); replace BK236 := aM (blk_below (by have X_ := BK236.out; exact TX) hb); replace BK242 := aM (blk_below (by have X_ := BK242.out; exact TX) hb); replace HB := aM (below_step TB hb); clear hb; obtain ⟨Ao36, co36, eo36⟩ := Kd.R_slice HO246.out; subst eo36) | (go_at_call 49; (with_reducible refine (impl_WeakOf.calls k2 _ _ t243 t249 _ ?side1 ?side2 A33.out).mono ?_); (case side1 => have X_ := (Kd.R_reads' HO246.out).2.2; exact TC); (case side2 => exact (Kd.R_reads' HO246.out).2.1); rintro e w' ⟨rfl, ⟨nd, rfl⟩⟩; (try first | exact ⟨rfl, _, World.drewN_drewN _ _ _⟩ | exact ⟨rfl, _, Eq.trans (World.drewN_drewN _ _ _) (congrArg (World.drewN _) (Nat.add_assoc _ _ _))⟩); have hnb37 := NB242_236.out; have hnc37 := NB236_242.out; obtain ⟨hcz38_0, hcz38_1⟩ := cz2 BK242.out; obtain ⟨hfz38_0, hfz38_1⟩ := fz2 BK242.out)); try go_wp2_with (first | (go_at_call 48; (with_reducible refine (impl_SpanOf.calls a0_1 a0_2 x37_2 t247 t248 _ A24.out).mono ?_); rintro e w35 ⟨rfl, hb⟩; replace HO246 := aM (Kd.R_below (by have X_ := HO246.out; exact TR) hb); replace BK236 := aM (blk_below (by have X_ := BK236.out; exact TX) hb); replace BK242 := aM (blk_below (by have X_ := BK242.out; exact TX) hb); replace HB := aM (below_step TB hb); clear hb; obtain ⟨Ao36, co36, eo36⟩ := Kd.R_slice HO246.out; subst eo36) | (go_at_call 49; (with_reducible refine (impl_WeakOf.calls k2 _ _ t243 t249 _ ?side1 ?side2 A33.out).mono ?_); (case side1 => have X_ := (Kd.R_reads' HO246.out).2.2; exact TC); (case side2 => exact (Kd.R_reads' HO246.out).2.1); rintro e w' ⟨rfl, ⟨nd, rfl⟩⟩; (try first | exact ⟨rfl, _, World.drewN_drewN _ _ _⟩ | exact ⟨rfl, _, Eq.trans (World.drewN_drewN _ _ _) (congrArg (World.drewN _) (Nat.add_assoc _ _ _))⟩); have hnb37 := NB242_236.out; have hnc37 := NB236_242.out; obtain ⟨hcz38_0, hcz38_1⟩ := cz2 BK242.out; obtain ⟨hfz38_0, hfz38_1⟩ := fz2 BK242.out)))
                      go_roundg k2
                      case measure => have := HJ7.out; have := HK2.out; omega
                      case rel => exact ⟨(wrap64 (x37_2 + 1)), (by first | rfl | (simp; done) | (simp [*]; done)), H', ⟨by have := HJ7.out; have := HK2.out; omega⟩, ⟨TK⟩, ⟨TB⟩⟩
                    · rw [if_neg c34] at H
                      have c34b0 : (t249 == ((rd_T61 l0_3 x37_2).f0)) = false := beq_eq_false_iff_ne.mpr c34
                      have c34b1 : (t249 != ((rd_T61 l0_3 x37_2).f0)) = true := bne_iff_ne.mpr c34
                      obtain rfl := Option.some.inj H
                      go_wp2_with (first | (go_at_call 48; (with_reducible refine (impl_SpanOf.calls a0_1 a0_2 x37_2 t247 t248 _ A24.out).mono ?_); rintro e w39 ⟨rfl, hb⟩; replace HO246 := aM (Kd.R_below (by have X_ := HO246.out; exact TR) hb); replace BK236 := aM (blk_below (by have X_ := BK236.out; exact TX) hb); replace BK242 := aM (blk_below (by have X_ := BK242.out; exact TX) hb); replace HB := aM (below_step TB hb); clear hb; obtain ⟨Ao40, co40, eo40⟩ := Kd.R_slice HO246.out; subst eo40) | (go_at_call 49; (with_reducible refine (impl_WeakOf.calls k2 _ _ t243 t249 _ ?side1 ?side2 A33.out).mono ?_); (case side1 => have X_ := (Kd.R_reads' HO246.out).2.2; exact TC); (case side2 => exact (Kd.R_reads' HO246.out).2.1); rintro e w' ⟨rfl, ⟨nd, rfl⟩⟩; (try first | exact ⟨rfl, _, World.drewN_drewN _ _ _⟩ | exact ⟨rfl, _, Eq.trans (World.drewN_drewN _ _ _) (congrArg (World.drewN _) (Nat.add_assoc _ _ _))⟩); have hnb41 := NB242_236.out; have hnc41 := NB236_242.out; obtain ⟨hcz42_0, hcz42_1⟩ := cz2 BK242.out; obtain ⟨hfz42_0, hfz42_1⟩ := fz2 BK242.out))
                      repeat (go_quiet (first | (go_at_call 48; (with_reducible refine (impl_SpanOf.calls a0_1 a0_2 x37_2 t247 t248 _ A24.out).mono ?_); rintro e w39 ⟨rfl, hb⟩; replace HO246 := aM (Kd.R_below (by have X_ := HO246.out; exact TR) hb); replace BK236 := aM (blk_below (by have X_ := BK236.out; exact TX) hb); replace BK242 := aM (blk_below (by have X_ := BK242.out; exact TX) hb); replace HB := aM (below_step TB hb); clear hb; obtain ⟨Ao40, co40, eo40⟩ := Kd.R_slice HO246.out; subst eo40) | (go_at_call 49; (with_reducible refine (impl_WeakOf.calls k2 _ _ t243 t249 _ ?side1 ?side2 A33.out).mono ?_); (case side1 => have X_ := (Kd.R_reads' HO246.out).2.2; exact TC); (case side2 => exact (Kd.R_reads' HO246.out).2.1); rintro e w' ⟨rfl, ⟨nd, rfl⟩⟩; (try first | exact ⟨rfl, _, World.drewN_drewN _ _ _⟩ | exact ⟨rfl, _, Eq.trans (World.drewN_drewN _ _ _) (congrArg (World.drewN _) (Nat.add_assoc _ _ _))⟩); have hnb41 := NB242_236.out; have hnc41 := NB236_242.out; obtain ⟨hcz42_0, hcz42_1⟩ := cz2 BK242.out; obtain ⟨hfz42_0, hfz42_1⟩ := fz2 BK242.out)); try go_wp2_with (first | (go_at_call 48; (with_reducible refine (impl_SpanOf.calls a0_1 a0_2 x37_2 t247 t248 _ A24.out).mono ?_); rintro e w39 ⟨rfl, hb⟩; replace HO246 := aM (Kd.R_below (by have X_ := HO246.out; exact TR) hb); replace BK236 := aM (blk_below (by have X_ := BK236.out; exact TX) hb); replace BK242 := aM (blk_below (by have X_ := BK242.out; exact TX) hb); replace HB := aM (below_step TB hb); clear hb; obtain ⟨Ao40, co40, eo40⟩ := Kd.R_slice HO246.out; subst eo40) | (go_at_call 49; (with_reducible refine (impl_WeakOf.calls k2 _ _ t243 t249 _ ?side1 ?side2 A33.out).mono ?_); (case side1 => have X_ := (Kd.R_reads' HO246.out).2.2; exact TC); (case side2 => exact (Kd.R_reads' HO246.out).2.1); rintro e w' ⟨rfl, ⟨nd, rfl⟩⟩; (try first | exact ⟨rfl, _, World.drewN_drewN _ _ _⟩ | exact ⟨rfl, _, Eq.trans (World.drewN_drewN _ _ _) (congrArg (World.drewN _) (Nat.add_assoc _ _ _))⟩); have hnb41 := NB242_236.out; have hnc41 := NB236_242.out; obtain ⟨hcz42_0, hcz42_1⟩ := cz2 BK242.out; obtain ⟨hfz42_0, hfz42_1⟩ := fz2 BK242.out)))
                      go_ret
                      exact ⟨by first | rfl | (simp [errW_none, errW_some] <;> rfl) | (simp [*, errW_none, errW_some] <;> rfl), TB⟩
                  · rw [if_neg c32] at H
                    have c32b0 : ((t243.length : Int) == t248) = false := beq_eq_false_iff_ne.mpr c32
                    have c32b1 : ((t243.length : Int) != t248) = true := bne_iff_ne.mpr c32
                    obtain rfl := Option.some.inj H
                    go_wp2_with (first | (go_at_call 48; (with_reducible refine (impl_SpanOf.calls a0_1 a0_2 x37_2 t247 t248 _ A24.out).mono ?_); rintro e w43 ⟨rfl, hb⟩; replace HO246 := aM (Kd.R_below (by have X_ := HO246.out; exact TR) hb); replace BK236 := aM (blk_below (by have X_ := BK236.out; exact TX) hb); replace BK242 := aM (blk_below (by have X_ := BK242.out; exact TX) hb); replace HB := aM (below_step TB hb); clear hb; obtain ⟨Ao44, co44, eo44⟩ := Kd.R_slice HO246.out; subst eo44))
                    repeat (go_quiet (first | (go_at_call 48; (with_reducible refine (impl_SpanOf.calls a0_1 a0_2 x37_2 t247 t248 _ A24.out).mono ?_); rintro e w43 ⟨rfl, hb⟩; replace HO246 := aM (Kd.R_below (by have X_ := HO246.out; exact TR) hb); replace BK236 := aM (blk_below (by have X_ := BK236.out; exact TX) hb); replace BK242 := aM (blk_below (by have X_ := BK242.out; exact TX) hb); replace HB := aM (below_step TB hb); clear hb; obtain ⟨Ao44, co44, eo44⟩ := Kd.R_slice HO246.out; subst eo44)); try go_wp2_with (first | (go_at_call 48; (with_reducible refine (impl_SpanOf.calls a0_1 a0_2 x37_2 t247 t248 _ A24.out).mono ?_); rintro e w43 ⟨rfl, hb⟩; replace HO246 := aM (Kd.R_below (by have X_ := HO246.out; exact TR) hb); replace BK236 := aM (blk_below (by have X_ := BK236.out; exact TX) hb); replace BK242 := aM (blk_below (by have X_ := BK242.out; exact TX) hb); replace HB := aM (below_step TB hb); clear hb; obtain ⟨Ao44, co44, eo44⟩ := Kd.R_slice HO246.out; subst eo44)))
                    go_ret
                    exact ⟨by first | rfl | (simp [errW_none, errW_some] <;> rfl) | (simp [*, errW_none, errW_some] <;> rfl), TB⟩
                · replace c31 := Bool.eq_false_iff.mpr c31
                  subst c31
                  replace H := ifF H
                  obtain rfl := Option.some.inj H
                  go_wp2_with (first | (go_at_call 48; (with_reducible refine (impl_SpanOf.calls a0_1 a0_2 x37_2 t247 t248 _ A24.out).mono ?_); rintro e w45 ⟨rfl, hb⟩; replace HO246 := aM (Kd.R_below (by have X_ := HO246.out; exact TR) hb); replace BK236 := aM (blk_below (by have X_ := BK236.out; exact TX) hb); replace BK242 := aM (blk_below (by have X_ := BK242.out; exact TX) hb); replace HB := aM (below_step TB hb); clear hb))
                  repeat (go_quiet (first | (go_at_call 48; (with_reducible refine (impl_SpanOf.calls a0_1 a0_2 x37_2 t247 t248 _ A24.out).mono ?_); rintro e w45 ⟨rfl, hb⟩; replace HO246 := aM (Kd.R_below (by have X_ := HO246.out; exact TR) hb); replace BK236 := aM (blk_below (by have X_ := BK236.out; exact TX) hb); replace BK242 := aM (blk_below (by have X_ := BK242.out; exact TX) hb); replace HB := aM (below_step TB hb); clear hb)); try go_wp2_with (first | (go_at_call 48; (with_reducible refine (impl_SpanOf.calls a0_1 a0_2 x37_2 t247 t248 _ A24.out).mono ?_); rintro e w45 ⟨rfl, hb⟩; replace HO246 := aM (Kd.R_below (by have X_ := HO246.out; exact TR) hb); replace BK236 := aM (blk_below (by have X_ := BK236.out; exact TX) hb); replace BK242 := aM (blk_below (by have X_ := BK242.out; exact TX) hb); replace HB := aM (below_step TB hb); clear hb)))
                  go_ret
                  exact ⟨by first | rfl | (simp [errW_none, errW_some] <;> rfl) | (simp [*, errW_none, errW_some] <;> rfl), TB⟩
              · rw [if_neg c20] at H
                have c20b0 : decide (x37_2 < (l0_3.length : Int)) = false := decide_eq_false c20
                clear c20
                obtain rfl := Option.some.inj H
                go_wp2
                repeat (go_quiet (fail); try go_wp2)
                go_ret
                exact ⟨by first | rfl | (simp [errW_none, errW_some] <;> rfl) | (simp [*, errW_none, errW_some] <;> rfl), TB⟩

end Go.Proofs.YtanpaipapcjpoaaDoor.Q
