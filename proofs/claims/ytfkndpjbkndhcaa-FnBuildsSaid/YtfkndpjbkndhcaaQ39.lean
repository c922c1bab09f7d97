/- Functions of the program as plain Lean functions, and that a call of each comes to what its function tells. Written by a program of this seat. -/
import Derived.Test.YtfkndpjbkndhcaaQ0
import Derived.Test.YtfkndpjbkndhcaaQ3
import Derived.Test.YtfkndpjbkndhcaaQ5
import Derived.Test.YtfkndpjbkndhcaaQ9
import Derived.Test.YtfkndpjbkndhcaaQ12
namespace Go.Proofs.Ytfkndpjbkndhcaa.Q
open Go.RowKit Go.Proofs.YtfkndpjbkndhcaaW.PrintWords Go.Proofs.YtfkndpjbkndhcaaW.PrintLast Go.Proofs.YtfkndpjbkndhcaaW.PrintMore
attribute [local go_sem] max2_int min2_int max_two min_two max_three min_three max_four min_four   -- for this text's walks alone
set_option linter.unusedVariables false
set_option linter.unusedSimpArgs false

/-! ### impl_PieceAt: function 44 -/
def impl_PieceAt.j0 : Nat → Int → Bool → Int → Int → Int → List (S48) → Int → List Int → Option (List Int × Bool)
  | 0, _, _, _, _, _, _, _, _ => none
  | k + 1, x2, x18, x817000, x817001, x817002, x817003, x818000, x818001 => if x18 = true then (some (([] : List Int), false)) else ((impl_Build_block.f x818000 x818001 x817000 x817001 x817002 x817003 x2).bind fun t820 => ((impl_cloned.f t820).bind fun t823 => (some (t823, true))))
def impl_PieceAt.f (k : Nat) (a0_0 : Int) (a0_1 : Int) (a0_2 : Int) (l0_3 : List (S48)) (a1_0 : Int) (l1_1 : List Int) (a2 : Int) : Option (List Int × Bool) := (impl_BuildOk.f k a0_0 a0_1 a0_2 l0_3 a1_0 l1_1).bind fun t818 => (if t818 = true then ((impl_InSet.f a1_0 a2).bind fun t819 => (impl_PieceAt.j0 k a2 (!t819) a0_0 a0_1 a0_2 l0_3 a1_0 l1_1)) else (impl_PieceAt.j0 k a2 true a0_0 a0_1 a0_2 l0_3 a1_0 l1_1))
theorem impl_PieceAt.mono_l : ∀ k, (∀ y0 y1 y2 y3 y4 y5 y6 y7, LeO (impl_PieceAt.j0 k y0 y1 y2 y3 y4 y5 y6 y7) (impl_PieceAt.j0 (k + 1) y0 y1 y2 y3 y4 y5 y6 y7))
  | 0 => fun _ _ _ _ _ _ _ _ r h => by simp [impl_PieceAt.j0] at h
  | k + 1 => by
    have m0_ := @impl_BuildOk.mono
    have ih0 := impl_PieceAt.mono_l k
    · intro y0 y1 y2 y3 y4 y5 y6 y7
      unfold impl_PieceAt.j0
      exact LM
theorem impl_PieceAt.mono : ∀ a0 a1 a2 a3 a4 a5 a6 k, LeO (impl_PieceAt.f k a0 a1 a2 a3 a4 a5 a6) (impl_PieceAt.f (k + 1) a0 a1 a2 a3 a4 a5 a6) := by
  intro a0 a1 a2 a3 a4 a5 a6 k
  have m0_ := @impl_BuildOk.mono
  have ih0 := impl_PieceAt.mono_l k
  unfold impl_PieceAt.f
  exact LM
set_option maxHeartbeats 40000000 in
set_option maxRecDepth 100000 in
theorem impl_PieceAt.calls (k : Nat) (a0_0 : Int) (a0_1 : Int) (a0_2 : Int) (A0_3 : Option Addr) (c0_3 : Nat) (l0_3 : List (S48)) (a1_0 : Int) (A1_1 : Option Addr) (c1_1 : Nat) (l1_1 : List Int) (a2 : Int) (r1 : List Int) (r2 : Bool) (w : World) (hr0_3 : Kd.C k48 w A0_3 l0_3.length l0_3) (hc0_3 : l0_3.length ≤ c0_3) (hr1_1 : Kd.C (Kd.int .u8) w A1_1 l1_1.length l1_1) (hc1_1 : l1_1.length ≤ c1_1) (h : impl_PieceAt.f k a0_0 a0_1 a0_2 l0_3 a1_0 l1_1 a2 = some (r1, r2)) :
    Calls Try.prog 44 #[.agg #[.int .i64 a0_0, .int .i64 a0_1, .int .i64 a0_2, .slice A0_3 l0_3.length c0_3], .agg #[.int .i64 a1_0, .slice A1_1 l1_1.length c1_1], .int .i64 a2] w fun e w' => ∃ v0_ : Value, e = .returned (.tuple #[v0_, .bool r2]) ∧ Kd.R (Kd.int .u8) 5 w' w.heap.size (fun _ => True) v0_ r1 ∧ Below w.heap.size w w' := by
  have hu28 := Try.underlying28
  have hu31 := Try.underlying31
  have HR0_3 := aM hr0_3
  have HC0_3 := aM hc0_3
  clear hr0_3 hc0_3
  have HR1_1 := aM hr1_1
  have HC1_1 := aM hc1_1
  clear hr1_1 hc1_1
  have HB := aM (Below.refl w.heap.size w)
  have H := h
  clear h
  unfold impl_PieceAt.f at H
  have HC4 := aM H
  clear H
  go_enter Try.func44, Try.ntmps44
  go_upto_region 1 with (first | ((with_reducible refine gate_dst (N := 3) rfl ?_); refine gBx 3 #[.int .i64 a0_0, .int .i64 a0_1, .int .i64 a0_2, .slice A0_3 l0_3.length c0_3] 28 ?_; intro gb816 hg w5 hbox hb; have BK816 := aM (hbox); have GW816 := aM ((by rw [hg]; exact (below_size TB) : w.heap.size ≤ gb816)); have GE816 := aM ((by rw [hg]; exact (below_size TB) : w.heap.size ≤ gb816)); replace HB := aM (below_step TB hb); clear hb hbox hg) | ((with_reducible refine gate_dst (N := 4) rfl ?_); refine gBx 4 #[.int .i64 a1_0, .slice A1_1 l1_1.length c1_1] 31 ?_; intro gb817 hg w6 hbox hb; have BK817 := aM (hbox); have GW817 := aM ((by rw [hg]; exact (below_size TB) : w.heap.size ≤ gb817)); have GE817 := aM ((by rw [hg]; exact (below_size TB) : w.heap.size ≤ gb817)); have NB816_817 := aM ((by rw [hg]; exact Nat.ne_of_lt (blk_lt (by have X_ := BK816.out; exact TX)) : gb816 ≠ gb817)); have NB817_816 := aM ((by rw [hg]; exact Nat.ne_of_gt (blk_lt (by have X_ := BK816.out; exact TX)) : gb817 ≠ gb816)); replace BK816 := aM (blk_below (by have X_ := BK816.out; exact TX) hb); replace HB := aM (below_step TB hb); clear hb hbox hg))
  (try simp only [Act.put, List.setIfInBounds_toArray, List.set_cons_zero, List.set_cons_succ])
  go_cut [18] (fun v18 wc => ∃ (kq : Nat) (x18_3 : Bool), v18 = .bool x18_3 ∧ Aside0 (impl_PieceAt.j0 kq a2 x18_3 a0_0 a0_1 a0_2 l0_3 a1_0 l1_1 = some (r1, r2)) ∧ Aside0 (kq ≤ k) ∧ Aside0 (wc.heap[gb816]? = some (.cells #[.int .i64 a0_0, .int .i64 a0_1, .int .i64 a0_2, (.slice A0_3 l0_3.length c0_3)] 28 (0, 0))) ∧ Aside0 (wc.heap[gb817]? = some (.cells #[.int .i64 a1_0, (.slice A1_1 l1_1.length c1_1)] 31 (0, 0))) ∧ Aside0 (Below w.heap.size w wc))
  case first =>
    have H := HC4.out
    clear HC4
    replace H := bE H
    obtain ⟨t818, A7, H⟩ := H
    by_cases c8 : t818 = true
    · subst c8
      replace H := ifT H
      replace H := bE H
      obtain ⟨t819, A9, H⟩ := H
      have H' := aM H
      clear H
      have hnb10 := NB816_817.out
      have hnc10 := NB817_816.out
      obtain ⟨hcz11_0, hcz11_1, hcz11_2, hcz11_3⟩ := cz4 BK816.out
      obtain ⟨hfz11_0, hfz11_1, hfz11_2, hfz11_3⟩ := fz4 BK816.out
      obtain ⟨hcz12_0, hcz12_1⟩ := cz2 BK817.out
      obtain ⟨hfz12_0, hfz12_1⟩ := fz2 BK817.out
      go_wp2_with (first | ((with_reducible refine gate_callee (f := 42) rfl ?_); refine gL (some 10) Try.func42 #[.agg #[.int .i64 a0_0, .int .i64 a0_1, .int .i64 a0_2, .slice A0_3 l0_3.length c0_3], .agg #[.int .i64 a1_0, .slice A1_1 l1_1.length c1_1]] ?_; (with_reducible refine (impl_BuildOk.calls k a0_0 a0_1 a0_2 _ _ l0_3 a1_0 _ _ l1_1 true _ ?side1 ?side2 ?side3 ?side4 A7.out).mono ?_); (case side1 => have X_ := (Kd.C_below HR0_3.out HB.out); exact TC); (case side2 => exact HC0_3.out); (case side3 => have X_ := (Kd.C_below HR1_1.out HB.out); exact TC); (case side4 => exact HC1_1.out); rintro e w13 ⟨rfl, hb⟩; refine ⟨_, rfl, ?_⟩; replace BK816 := aM (blk_below (by have X_ := BK816.out; exact TX) hb); replace BK817 := aM (blk_below (by have X_ := BK817.out; exact TX) hb); replace HB := aM (below_step TB hb); clear hb; obtain ⟨hcz14_0, hcz14_1⟩ := cz2 BK817.out; obtain ⟨hfz14_0, hfz14_1⟩ := fz2 BK817.out) | (go_at_call 37; (with_reducible refine (impl_InSet.calls a1_0 a2 t819 _ A9.out).mono ?_); rintro e w' ⟨rfl, ⟨nd, rfl⟩⟩))
      go_meet
      case rel => exact ⟨_, (!t819), (by first | rfl | (simp; done) | (simp [*]; done)), H', ⟨by first | omega | exact Nat.le_refl _⟩, ⟨TK⟩, ⟨TK⟩, ⟨TB⟩⟩
    · replace c8 := Bool.eq_false_iff.mpr c8
      subst c8
      replace H := ifF H
      have H' := aM H
      clear H
      have hnb15 := NB816_817.out
      have hnc15 := NB817_816.out
      obtain ⟨hcz16_0, hcz16_1, hcz16_2, hcz16_3⟩ := cz4 BK816.out
      obtain ⟨hfz16_0, hfz16_1, hfz16_2, hfz16_3⟩ := fz4 BK816.out
      obtain ⟨hcz17_0, hcz17_1⟩ := cz2 BK817.out
      obtain ⟨hfz17_0, hfz17_1⟩ := fz2 BK817.out
      go_wp2_with (first | ((with_reducible refine gate_callee (f := 42) rfl ?_); refine gL (some 10) Try.func42 #[.agg #[.int .i64 a0_0, .int .i64 a0_1, .int .i64 a0_2, .slice A0_3 l0_3.length c0_3], .agg #[.int .i64 a1_0, .slice A1_1 l1_1.length c1_1]] ?_; (with_reducible refine (impl_BuildOk.calls k a0_0 a0_1 a0_2 _ _ l0_3 a1_0 _ _ l1_1 false _ ?side1 ?side2 ?side3 ?side4 A7.out).mono ?_); (case side1 => have X_ := (Kd.C_below HR0_3.out HB.out); exact TC); (case side2 => exact HC0_3.out); (case side3 => have X_ := (Kd.C_below HR1_1.out HB.out); exact TC); (case side4 => exact HC1_1.out); rintro e w18 ⟨rfl, hb⟩; refine ⟨_, rfl, ?_⟩; replace BK816 := aM (blk_below (by have X_ := BK816.out; exact TX) hb); replace BK817 := aM (blk_below (by have X_ := BK817.out; exact TX) hb); replace HB := aM (below_step TB hb); clear hb))
      go_meet
      case rel => exact ⟨_, (true), (by first | rfl | (simp; done) | (simp [*]; done)), H', ⟨by first | omega | exact Nat.le_refl _⟩, ⟨TK⟩, ⟨TK⟩, ⟨TB⟩⟩
  case rest =>
    clear HC4
    try clear c1
    try clear p2
    try clear c4
    try clear c8
    try clear c10
    try clear c15
    try clear hcz11_0
    try clear hcz11_1
    try clear hcz11_2
    try clear hcz11_3
    try clear hcz12_0
    try clear hcz12_1
    try clear hcz14_0
    try clear hcz14_1
    try clear hcz16_0
    try clear hcz16_1
    try clear hcz16_2
    try clear hcz16_3
    try clear hcz17_0
    try clear hcz17_1
    try clear hfz11_0
    try clear hfz11_1
    try clear hfz11_2
    try clear hfz11_3
    try clear hfz12_0
    try clear hfz12_1
    try clear hfz14_0
    try clear hfz14_1
    try clear hfz16_0
    try clear hfz16_1
    try clear hfz16_2
    try clear hfz16_3
    try clear hfz17_0
    try clear hfz17_1
    obtain ⟨kq, x18_3, rfl, HA, HJ3, BK816, BK817, HB⟩ := hcut
    cases kq with
    | zero => exact absurd HA.out (by simp [impl_PieceAt.j0])
    | succ kj3 =>
      have H := HA.out
      clear HA
      simp only [impl_PieceAt.j0] at H
      by_cases c19 : x18_3 = true
      · subst c19
        replace H := ifT H
        simp only [Option.some.injEq, Prod.mk.injEq] at H
        obtain ⟨rfl, rfl⟩ := H
        go_wp2
        go_ret2
        exact ⟨_, by first | rfl | (simp [errW_none, errW_some] <;> rfl) | (simp [*, errW_none, errW_some] <;> rfl), by first | exact Kd.R_nil _ _ _ _ _ | exact Kd.N_nil _ _ _ _ _ | exact Kd.V_nil _ _ _ _ _ | exact Kd.Q_nil _ _ _ _ _ | exact Kd.S_nil _ _ _ _ _, TB⟩
      · replace c19 := Bool.eq_false_iff.mpr c19
        subst c19
        replace H := ifF H
        replace H := bE H
        obtain ⟨t820, A20, H⟩ := H
        replace H := bE H
        obtain ⟨t823, A21, H⟩ := H
        simp only [Option.some.injEq, Prod.mk.injEq] at H
        obtain ⟨rfl, rfl⟩ := H
        have hnb22 := NB817_816.out
        have hnc22 := NB816_817.out
        obtain ⟨hcz23_0, hcz23_1⟩ := cz2 BK817.out
        obtain ⟨hfz23_0, hfz23_1⟩ := fz2 BK817.out
        obtain ⟨hcz24_0, hcz24_1, hcz24_2, hcz24_3⟩ := cz4 BK816.out
        obtain ⟨hfz24_0, hfz24_1, hfz24_2, hfz24_3⟩ := fz4 BK816.out
        go_wp2_with (first | ((with_reducible refine gate_callee (f := 89) rfl ?_); refine gL (some 22) Try.func89 #[.agg #[.int .i64 a1_0, .slice A1_1 l1_1.length c1_1], .agg #[.int .i64 a0_0, .int .i64 a0_1, .int .i64 a0_2, .slice A0_3 l0_3.length c0_3], .int .i64 a2] ?_; (with_reducible refine (impl_Build_block.calls a1_0 (fun k_ => k_ < w.heap.size) _ _ l1_1 a0_0 a0_1 a0_2 _ _ l0_3 a2 t820 _ ?side1 ?side2 ?side3 A20.out).mono ?_); (case side1 => exact Kd.V_mk HC1_1.out (Kd.F_below (Kd.C_F (Kd.heap_int .u8) HR1_1.out) TB)); (case side2 => have X_ := (Kd.C_below HR0_3.out HB.out); exact TC); (case side3 => exact HC0_3.out); rintro e w25 ⟨v821, rfl, ho0, hb⟩; refine ⟨_, rfl, ?_⟩; have HO822 := aM (Kd.V_lower (Kd.V_mono (ok' := fun k_ => k_ ≠ gb816 ∧ k_ ≠ gb817) ho0 (fun k_ hk_ => ⟨Or.elim hk_ (fun hs_ => fun e_ => Nat.not_le.2 hs_ (by rw [e_]; exact GW816.out)) (fun hn_ => (Kd.freshB (g := gb816) (o := .cells #[.int .i64 a0_0, .int .i64 a0_1, .int .i64 a0_2, .slice A0_3 l0_3.length c0_3] 28 (0, 0)) TK k_ hn_)), Or.elim hk_ (fun hs_ => fun e_ => Nat.not_le.2 hs_ (by rw [e_]; exact GW817.out)) (fun hn_ => (Kd.freshB (g := gb817) (o := .cells #[.int .i64 a1_0, .slice A1_1 l1_1.length c1_1] 31 (0, 0)) TK k_ hn_))⟩)) (below_size TB)); replace BK816 := aM (blk_below (by have X_ := BK816.out; exact TX) hb); replace BK817 := aM (blk_below (by have X_ := BK817.out; exact TX) hb); replace HB := aM (below_step TB hb); clear ho0 hb; obtain ⟨Ao26, co26, eo26⟩ := Kd.V_slice HO822.out; subst eo26) | ((with_reducible refine gate_callee (f := 94) rfl ?_); refine gL (some 23) Try.func94 #[.slice Ao26 t820.length co26] ?_; (with_reducible refine (impl_cloned.calls _ _ t820 t823 _ ?side1 ?side2 A21.out).mono ?_); (case side1 => have X_ := (Kd.V_reads' HO822.out).2.2; exact TC); (case side2 => exact (Kd.V_reads' HO822.out).2.1); rintro e w27 ⟨v824, rfl, ho0, hb⟩; refine ⟨_, rfl, ?_⟩; have HO825 := aM (Kd.R_lower ho0 (below_size TB)); replace HO822 := aM (Kd.V_elder' (by (with_reducible repeat (first | apply Kd.V_alloc | apply Kd.V_drewN | apply Kd.V_drew)); exact HO822.out) (Kd.R_base ho0) hb); replace BK816 := aM (blk_below (by have X_ := BK816.out; exact TX) hb); replace BK817 := aM (blk_below (by have X_ := BK817.out; exact TX) hb); replace HB := aM (below_step TB hb); clear ho0 hb))
        go_ret2
        exact ⟨_, by first | rfl | (simp [errW_none, errW_some] <;> rfl) | (simp [*, errW_none, errW_some] <;> rfl), by have X_ := HO825.out; exact TR, TB⟩

end Go.Proofs.Ytfkndpjbkndhcaa.Q
