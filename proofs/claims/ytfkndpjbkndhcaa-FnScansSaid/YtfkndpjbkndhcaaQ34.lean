/- Functions of the program as plain Lean functions, and that a call of each comes to what its function tells. Written by a program of this seat. -/
import Derived.Test.YtfkndpjbkndhcaaQ0
import Derived.Test.YtfkndpjbkndhcaaQ33
namespace Go.Proofs.Ytfkndpjbkndhcaa.Q
open Go.RowKit Go.Proofs.YtfkndpjbkndhcaaW.PrintWords Go.Proofs.YtfkndpjbkndhcaaW.PrintLast Go.Proofs.YtfkndpjbkndhcaaW.PrintMore
attribute [local go_sem] max2_int min2_int max_two min_two max_three min_three max_four min_four   -- for this text's walks alone
set_option linter.unusedVariables false
set_option linter.unusedSimpArgs false

/-! ### spec_Found: function 30 -/
mutual
def spec_Found.l0 : Nat → List Int → Int → Int → Int → Int → Int → List (S48) → Option (Int)
  | 0, _, _, _, _, _, _, _ => none
  | k + 1, x0, x5, x6, x805000, x805001, x805002, x805003 => if x6 < (x805003.length : Int) then (spec_Found.j1 k x0 x5 x6 (decide (x6 < 40)) x805000 x805001 x805002 x805003) else (spec_Found.j1 k x0 x5 x6 false x805000 x805001 x805002 x805003)
def spec_Found.j1 : Nat → List Int → Int → Int → Bool → Int → Int → Int → List (S48) → Option (Int)
  | 0, _, _, _, _, _, _, _, _ => none
  | k + 1, x0, x5, x6, x15, x805000, x805001, x805002, x805003 => if x15 = true then ((spec_PlaceOf.f k x0 x805000 x805001 x805002 x805003 x6).bind fun t805 => (if t805 ≥ 0 then ((spec_WithPart.f x5 x6).bind fun t806 => (spec_Found.l0 k x0 t806 (wrap64 (x6 + 1)) x805000 x805001 x805002 x805003)) else (spec_Found.l0 k x0 x5 (wrap64 (x6 + 1)) x805000 x805001 x805002 x805003))) else (some x5)
end
def spec_Found.f (k : Nat) (l0 : List Int) (a1_0 : Int) (a1_1 : Int) (a1_2 : Int) (l1_3 : List (S48)) : Option (Int) := spec_Found.l0 k l0 0 0 a1_0 a1_1 a1_2 l1_3
theorem spec_Found.mono_l : ∀ k, (∀ y0 y1 y2 y3 y4 y5 y6, LeO (spec_Found.l0 k y0 y1 y2 y3 y4 y5 y6) (spec_Found.l0 (k + 1) y0 y1 y2 y3 y4 y5 y6)) ∧ (∀ y0 y1 y2 y3 y4 y5 y6 y7, LeO (spec_Found.j1 k y0 y1 y2 y3 y4 y5 y6 y7) (spec_Found.j1 (k + 1) y0 y1 y2 y3 y4 y5 y6 y7))
  | 0 => ⟨fun _ _ _ _ _ _ _ r h => by simp [spec_Found.l0] at h, fun _ _ _ _ _ _ _ _ r h => by simp [spec_Found.j1] at h⟩
  | k + 1 => by
    have m0_ := @spec_PlaceOf.mono
    obtain ⟨ih0, ih1⟩ := spec_Found.mono_l k
    refine ⟨?_, ?_⟩
    · intro y0 y1 y2 y3 y4 y5 y6
      unfold spec_Found.l0
      exact LM
    · intro y0 y1 y2 y3 y4 y5 y6 y7
      unfold spec_Found.j1
      exact LM
theorem spec_Found.mono : ∀ a0 a1 a2 a3 a4 k, LeO (spec_Found.f k a0 a1 a2 a3 a4) (spec_Found.f (k + 1) a0 a1 a2 a3 a4) := by
  intro a0 a1 a2 a3 a4 k
  have m0_ := @spec_PlaceOf.mono
  obtain ⟨ih0, ih1⟩ := spec_Found.mono_l k
  unfold spec_Found.f
  exact LM
set_option maxHeartbeats 40000000 in
set_option maxRecDepth 100000 in
theorem spec_Found.calls (k : Nat) (A0 : Option Addr) (c0 : Nat) (l0 : List Int) (a1_0 : Int) (a1_1 : Int) (a1_2 : Int) (A1_3 : Option Addr) (c1_3 : Nat) (l1_3 : List (S48)) (r : Int) (w : World) (hr0 : Kd.C (Kd.int .u8) w A0 l0.length l0) (hc0 : l0.length ≤ c0) (hr1_3 : Kd.C k48 w A1_3 l1_3.length l1_3) (hc1_3 : l1_3.length ≤ c1_3) (h : spec_Found.f k l0 a1_0 a1_1 a1_2 l1_3 = some r) :
    Calls Try.prog 30 #[.slice A0 l0.length c0, .agg #[.int .i64 a1_0, .int .i64 a1_1, .int .i64 a1_2, .slice A1_3 l1_3.length c1_3]] w fun e w' => e = .returned (.int .i64 r) ∧ Below w.heap.size w w' := by
  have hu28 := Try.underlying28
  have HR0 := aM hr0
  have HC0 := aM hc0
  clear hr0 hc0
  have HR1_3 := aM hr1_3
  have HC1_3 := aM hc1_3
  clear hr1_3 hc1_3
  have HB := aM (Below.refl w.heap.size w)
  have H := h
  clear h
  unfold spec_Found.f at H
  have H' := aM H
  clear H
  go_enter Try.func30, Try.ntmps30
  go_wp2_with (first | ((with_reducible refine gate_dst (N := 3) rfl ?_); refine gBx 3 #[.int .i64 a1_0, .int .i64 a1_1, .int .i64 a1_2, .slice A1_3 l1_3.length c1_3] 28 ?_; intro gb804 hg w3 hbox hb; have BK804 := aM (hbox); have GW804 := aM ((by rw [hg]; exact (below_size TB) : w.heap.size ≤ gb804)); have GE804 := aM ((by rw [hg]; exact (below_size TB) : w.heap.size ≤ gb804)); replace HB := aM (below_step TB hb); clear hb hbox hg))
  go_loopg [5, 6] k (fun kq v5 v6 w' => ∃ (x5_1 : Int) (x6_1 : Int), v5 = .int .i64 x5_1 ∧ v6 = .int .i64 x6_1 ∧ Aside0 (spec_Found.l0 kq l0 x5_1 x6_1 a1_0 a1_1 a1_2 l1_3 = some r) ∧ Aside0 (kq ≤ k) ∧ Aside0 (w'.heap[gb804]? = some (.cells #[.int .i64 a1_0, .int .i64 a1_1, .int .i64 a1_2, (.slice A1_3 l1_3.length c1_3)] 28 (0, 0))) ∧ Aside0 (Below w.heap.size w w'))
  case atStart => exact ⟨(0), (0), (by first | rfl | (simp; done) | (simp [*]; done)), (by first | rfl | (simp; done) | (simp [*]; done)), H', ⟨Nat.le_refl _⟩, ⟨TK⟩, ⟨TB⟩⟩
  case round =>
    clear H'
    try clear c1
    try clear p2
    try clear c3
    obtain ⟨x5_1, x6_1, rfl, rfl, HA, HK1, BK804, HB⟩ := hrel
    cases gk with
    | zero => exact absurd HA.out (by simp [spec_Found.l0])
    | succ k1 =>
      have H := HA.out
      clear HA
      simp only [spec_Found.l0] at H
      have HC4 := aM H
      clear H
      go_upto_region 3 with (fail)
      go_cut [15] (fun v15 wc => ∃ (kq : Nat) (x15_3 : Bool), v15 = .bool x15_3 ∧ Aside0 (spec_Found.j1 kq l0 x5_1 x6_1 x15_3 a1_0 a1_1 a1_2 l1_3 = some r) ∧ Aside0 (kq ≤ k1) ∧ Aside0 (wc.heap[gb804]? = some (.cells #[.int .i64 a1_0, .int .i64 a1_1, .int .i64 a1_2, (.slice A1_3 l1_3.length c1_3)] 28 (0, 0))) ∧ Aside0 (Below w.heap.size w wc))
      case first =>
        have H := HC4.out
        clear HC4
        by_cases c5 : x6_1 < (l1_3.length : Int)
        · rw [if_pos c5] at H
          have c5b0 : decide (x6_1 < (l1_3.length : Int)) = true := decide_eq_true c5
          clear c5
          (first | rw [c5b0] | (simp only [i64_w, i32_w]; rw [c5b0]) | skip)
          have H' := aM H
          clear H
          obtain ⟨hcz6_0, hcz6_1, hcz6_2, hcz6_3⟩ := cz4 BK804.out
          obtain ⟨hfz6_0, hfz6_1, hfz6_2, hfz6_3⟩ := fz4 BK804.out
          go_wp2
          go_meet
          case rel => exact ⟨_, (decide (x6_1 < 40)), (by first | rfl | (simp; done) | (simp [*]; done)), H', ⟨by have := HK1.out; first | omega | exact Nat.le_refl _⟩, ⟨TK⟩, ⟨TB⟩⟩
        · rw [if_neg c5] at H
          have c5b0 : decide (x6_1 < (l1_3.length : Int)) = false := decide_eq_false c5
          clear c5
          (first | rw [c5b0] | (simp only [i64_w, i32_w]; rw [c5b0]) | skip)
          have H' := aM H
          clear H
          obtain ⟨hcz7_0, hcz7_1, hcz7_2, hcz7_3⟩ := cz4 BK804.out
          obtain ⟨hfz7_0, hfz7_1, hfz7_2, hfz7_3⟩ := fz4 BK804.out
          go_wp2
          go_meet
          case rel => exact ⟨_, (false), (by first | rfl | (simp; done) | (simp [*]; done)), H', ⟨by have := HK1.out; first | omega | exact Nat.le_refl _⟩, ⟨TK⟩, ⟨TB⟩⟩
      case rest =>
        clear HC4
        try clear c1
        try clear p2
        try clear c3
        try clear c5
        try clear c5b0
        try clear hcz6_0
        try clear hcz6_1
        try clear hcz6_2
        try clear hcz6_3
        try clear hcz7_0
        try clear hcz7_1
        try clear hcz7_2
        try clear hcz7_3
        try clear hfz6_0
        try clear hfz6_1
        try clear hfz6_2
        try clear hfz6_3
        try clear hfz7_0
        try clear hfz7_1
        try clear hfz7_2
        try clear hfz7_3
        try clear p2
        obtain ⟨kq, x15_3, rfl, HA, HJ3, BK804, HB⟩ := hcut
        cases kq with
        | zero => exact absurd HA.out (by simp [spec_Found.j1])
        | succ kj3 =>
          have H := HA.out
          clear HA
          simp only [spec_Found.j1] at H
          by_cases c8 : x15_3 = true
          · subst c8
            replace H := ifT H
            replace H := bE H
            obtain ⟨t805, A9, H⟩ := H
            by_cases c10 : t805 ≥ 0
            · rw [if_pos c10] at H
              have c10b0 : decide (0 ≤ t805) = true := decide_eq_true c10
              clear c10
              replace H := bE H
              obtain ⟨t806, A11, H⟩ := H
              have H' := aM H
              clear H
              obtain ⟨hcz12_0, hcz12_1, hcz12_2, hcz12_3⟩ := cz4 BK804.out
              obtain ⟨hfz12_0, hfz12_1, hfz12_2, hfz12_3⟩ := fz4 BK804.out
              go_wp2_with (first | ((with_reducible refine gate_callee (f := 34) rfl ?_); refine gL (some 21) Try.func34 #[.slice A0 l0.length c0, .agg #[.int .i64 a1_0, .int .i64 a1_1, .int .i64 a1_2, .slice A1_3 l1_3.length c1_3], .int .i64 x6_1] ?_; (with_reducible refine (spec_PlaceOf.calls kj3 _ _ l0 a1_0 a1_1 a1_2 _ _ l1_3 x6_1 t805 _ ?side1 ?side2 ?side3 ?side4 A9.out).mono ?_); (case side1 => have X_ := (Kd.C_below HR0.out HB.out); exact TC); (case side2 => exact HC0.out); (case side3 => have X_ := (Kd.C_below HR1_3.out HB.out); exact TC); (case side4 => exact HC1_3.out); rintro e w13 ⟨rfl, hb⟩; refine ⟨_, rfl, ?_⟩; replace BK804 := aM (blk_below (by have X_ := BK804.out; exact TX) hb); replace HB := aM (below_step TB hb); clear hb) | ((with_reducible refine gate_callee (f := 82) rfl ?_); refine gL (some 25) Try.func82 #[.int .i64 x5_1, .int .i64 x6_1] ?_; (with_reducible refine (spec_WithPart.calls x5_1 x6_1 t806 _ A11.out).mono ?_); rintro e w' ⟨rfl, ⟨nd, rfl⟩⟩; refine ⟨_, rfl, ?_⟩))
              go_roundg kj3
              case measure => have := HK1.out; have := HJ3.out; omega
              case rel => exact ⟨(t806), (wrap64 (x6_1 + 1)), (by first | rfl | (simp; done) | (simp [*]; done)), (by first | rfl | (simp; done) | (simp [*]; done)), H', ⟨by have := HK1.out; have := HJ3.out; omega⟩, ⟨TK⟩, ⟨TB⟩⟩
            · rw [if_neg c10] at H
              have c10b0 : decide (0 ≤ t805) = false := decide_eq_false c10
              clear c10
              have H' := aM H
              clear H
              obtain ⟨hcz14_0, hcz14_1, hcz14_2, hcz14_3⟩ := cz4 BK804.out
              obtain ⟨hfz14_0, hfz14_1, hfz14_2, hfz14_3⟩ := fz4 BK804.out
              go_wp2_with (first | ((with_reducible refine gate_callee (f := 34) rfl ?_); refine gL (some 21) Try.func34 #[.slice A0 l0.length c0, .agg #[.int .i64 a1_0, .int .i64 a1_1, .int .i64 a1_2, .slice A1_3 l1_3.length c1_3], .int .i64 x6_1] ?_; (with_reducible refine (spec_PlaceOf.calls kj3 _ _ l0 a1_0 a1_1 a1_2 _ _ l1_3 x6_1 t805 _ ?side1 ?side2 ?side3 ?side4 A9.out).mono ?_); (case side1 => have X_ := (Kd.C_below HR0.out HB.out); exact TC); (case side2 => exact HC0.out); (case side3 => have X_ := (Kd.C_below HR1_3.out HB.out); exact TC); (case side4 => exact HC1_3.out); rintro e w15 ⟨rfl, hb⟩; refine ⟨_, rfl, ?_⟩; replace BK804 := aM (blk_below (by have X_ := BK804.out; exact TX) hb); replace HB := aM (below_step TB hb); clear hb))
              go_roundg kj3
              case measure => have := HK1.out; have := HJ3.out; omega
              case rel => exact ⟨(x5_1), (wrap64 (x6_1 + 1)), (by first | rfl | (simp; done) | (simp [*]; done)), (by first | rfl | (simp; done) | (simp [*]; done)), H', ⟨by have := HK1.out; have := HJ3.out; omega⟩, ⟨TK⟩, ⟨TB⟩⟩
          · replace c8 := Bool.eq_false_iff.mpr c8
            subst c8
            replace H := ifF H
            obtain rfl := Option.some.inj H
            go_wp2
            go_ret
            exact ⟨by first | rfl | (simp [errW_none, errW_some] <;> rfl) | (simp [*, errW_none, errW_some] <;> rfl), TB⟩

end Go.Proofs.Ytfkndpjbkndhcaa.Q
