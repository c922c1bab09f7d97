/- Functions of the program as plain Lean functions, and that a call of each comes to what its function tells. Written by a program of this seat. -/
import Derived.Test.YtfkndpjbkndhcaaQ0
import Derived.Test.YtfkndpjbkndhcaaQ3
import Derived.Test.YtfkndpjbkndhcaaQ18
import Derived.Test.YtfkndpjbkndhcaaQ19
namespace Go.Proofs.Ytfkndpjbkndhcaa.Q
open Go.RowKit Go.Proofs.YtfkndpjbkndhcaaW.PrintWords Go.Proofs.YtfkndpjbkndhcaaW.PrintLast Go.Proofs.YtfkndpjbkndhcaaW.PrintMore
attribute [local go_sem] max2_int min2_int max_two min_two max_three min_three max_four min_four   -- for this text's walks alone
set_option linter.unusedVariables false
set_option linter.unusedSimpArgs false

/-! ### impl_BytesLacking: function 20 -/
def impl_BytesLacking.l0 : Nat → Int → List Int → Int → Int → Int → Int → Int → List (S48) → Option (Int)
  | 0, _, _, _, _, _, _, _, _ => none
  | k + 1, x5, x13, x14, x15, x472000, x472001, x472002, x472003 => if x15 < x14 then (if 0 ≤ x15 then (if x15 < (x13.length : Int) then ((impl_SpanOf.f x472001 x472002 (rd x13 x15)).bind fun bt477 => (impl_BytesLacking.l0 k (wrap64 (x5 + bt477.2)) x13 x14 (wrap64 (x15 + 1)) x472000 x472001 x472002 x472003)) else (none)) else (none)) else (some x5)
def impl_BytesLacking.f (k : Nat) (l0 : List Int) (a1_0 : Int) (a1_1 : Int) (a1_2 : Int) (l1_3 : List (S48)) : Option (Int) := (impl_Lacking.f k l0 a1_0 a1_1 a1_2 l1_3).bind fun t472 => ((impl_PartsIn.f k t472).bind fun t473 => (impl_BytesLacking.l0 k 0 t473 (t473.length : Int) 0 a1_0 a1_1 a1_2 l1_3))
theorem impl_BytesLacking.mono_l : ∀ k, (∀ y0 y1 y2 y3 y4 y5 y6 y7, LeO (impl_BytesLacking.l0 k y0 y1 y2 y3 y4 y5 y6 y7) (impl_BytesLacking.l0 (k + 1) y0 y1 y2 y3 y4 y5 y6 y7))
  | 0 => fun _ _ _ _ _ _ _ _ r h => by simp [impl_BytesLacking.l0] at h
  | k + 1 => by
    have m0_ := @impl_Lacking.mono
    have m1_ := @impl_PartsIn.mono
    have ih0 := impl_BytesLacking.mono_l k
    · intro y0 y1 y2 y3 y4 y5 y6 y7
      unfold impl_BytesLacking.l0
      exact LM
theorem impl_BytesLacking.mono : ∀ a0 a1 a2 a3 a4 k, LeO (impl_BytesLacking.f k a0 a1 a2 a3 a4) (impl_BytesLacking.f (k + 1) a0 a1 a2 a3 a4) := by
  intro a0 a1 a2 a3 a4 k
  have m0_ := @impl_Lacking.mono
  have m1_ := @impl_PartsIn.mono
  have ih0 := impl_BytesLacking.mono_l k
  unfold impl_BytesLacking.f
  exact LM
set_option maxHeartbeats 40000000 in
set_option maxRecDepth 100000 in
theorem impl_BytesLacking.calls (k : Nat) (A0 : Option Addr) (c0 : Nat) (l0 : List Int) (a1_0 : Int) (a1_1 : Int) (a1_2 : Int) (A1_3 : Option Addr) (c1_3 : Nat) (l1_3 : List (S48)) (r : Int) (w : World) (hr0 : Kd.C (Kd.int .u8) w A0 l0.length l0) (hc0 : l0.length ≤ c0) (hr1_3 : Kd.C k48 w A1_3 l1_3.length l1_3) (hc1_3 : l1_3.length ≤ c1_3) (h : impl_BytesLacking.f k l0 a1_0 a1_1 a1_2 l1_3 = some r) :
    Calls Try.prog 20 #[.slice A0 l0.length c0, .agg #[.int .i64 a1_0, .int .i64 a1_1, .int .i64 a1_2, .slice A1_3 l1_3.length c1_3]] w fun e w' => e = .returned (.int .i64 r) ∧ Below w.heap.size w w' := by
  have hu28 := Try.underlying28
  have HR0 := aM hr0
  have HC0 := aM hc0
  clear hr0 hc0
  have HR1_3 := aM hr1_3
  have HC1_3 := aM hc1_3
  clear hr1_3 hc1_3
  have HB := aM (Below.refl w.heap.size w)
  have H := h
  clear h
  unfold impl_BytesLacking.f at H
  replace H := bE H
  obtain ⟨t472, A3, H⟩ := H
  replace H := bE H
  obtain ⟨t473, A4, H⟩ := H
  have H' := aM H
  clear H
  go_enter Try.func20, Try.ntmps20
  go_wp2_with (first | ((with_reducible refine gate_dst (N := 3) rfl ?_); refine gBx 3 #[.int .i64 a1_0, .int .i64 a1_1, .int .i64 a1_2, .slice A1_3 l1_3.length c1_3] 28 ?_; intro gb471 hg w5 hbox hb; have BK471 := aM (hbox); have GW471 := aM ((by rw [hg]; exact (below_size TB) : w.heap.size ≤ gb471)); have GE471 := aM ((by rw [hg]; exact (below_size TB) : w.heap.size ≤ gb471)); replace HB := aM (below_step TB hb); clear hb hbox hg; obtain ⟨hcz6_0, hcz6_1, hcz6_2, hcz6_3⟩ := cz4 BK471.out; obtain ⟨hfz6_0, hfz6_1, hfz6_2, hfz6_3⟩ := fz4 BK471.out) | ((with_reducible refine gate_callee (f := 19) rfl ?_); refine gL (some 12) Try.func19 #[.slice A0 l0.length c0, .agg #[.int .i64 a1_0, .int .i64 a1_1, .int .i64 a1_2, .slice A1_3 l1_3.length c1_3]] ?_; (with_reducible refine (impl_Lacking.calls k _ _ l0 a1_0 a1_1 a1_2 _ _ l1_3 t472 _ ?side1 ?side2 ?side3 ?side4 A3.out).mono ?_); (case side1 => have X_ := (Kd.C_below HR0.out HB.out); exact TC); (case side2 => exact HC0.out); (case side3 => have X_ := (Kd.C_below HR1_3.out HB.out); exact TC); (case side4 => exact HC1_3.out); rintro e w7 ⟨rfl, hb⟩; refine ⟨_, rfl, ?_⟩; replace BK471 := aM (blk_below (by have X_ := BK471.out; exact TX) hb); replace HB := aM (below_step TB hb); clear hb) | ((with_reducible refine gate_callee (f := 40) rfl ?_); refine gL (some 13) Try.func40 #[.int .i64 t472] ?_; (with_reducible refine (impl_PartsIn.calls k t472 t473 _ A4.out).mono ?_); rintro e w8 ⟨v474, rfl, ho0, hb⟩; refine ⟨_, rfl, ?_⟩; have HO475 := aM (Kd.R_lower ho0 (below_size TB)); replace BK471 := aM (blk_below (by have X_ := BK471.out; exact TX) hb); replace HB := aM (below_step TB hb); clear ho0 hb; obtain ⟨Ao9, co9, eo9⟩ := Kd.R_slice HO475.out; subst eo9))
  go_loopg [5, 15] k (fun kq v5 v15 w' => ∃ (x5_1 : Int) (x15_1 : Int), v5 = .int .i64 x5_1 ∧ v15 = .int .i64 x15_1 ∧ Aside0 (impl_BytesLacking.l0 kq x5_1 t473 (t473.length : Int) x15_1 a1_0 a1_1 a1_2 l1_3 = some r) ∧ Aside0 (kq ≤ k) ∧ Aside0 (Kd.R (Kd.int .i64) 3 w' w.heap.size (fun _ => True) (.slice Ao9 t473.length co9) t473) ∧ Aside0 (w'.heap[gb471]? = some (.cells #[.int .i64 a1_0, .int .i64 a1_1, .int .i64 a1_2, (.slice A1_3 l1_3.length c1_3)] 28 (0, 0))) ∧ Aside0 (Below w.heap.size w w'))
  case atStart => exact ⟨(0), (0), (by first | rfl | (simp; done) | (simp [*]; done)), (by first | rfl | (simp; done) | (simp [*]; done)), H', ⟨Nat.le_refl _⟩, ⟨by have X_ := HO475.out; exact TR⟩, ⟨TK⟩, ⟨TB⟩⟩
  case round =>
    clear H'
    try clear c1
    try clear c2
    try clear p2
    try clear c4
    try clear hcz6_0
    try clear hcz6_1
    try clear hcz6_2
    try clear hcz6_3
    try clear hfz6_0
    try clear hfz6_1
    try clear hfz6_2
    try clear hfz6_3
    obtain ⟨x5_1, x15_1, rfl, rfl, HA, HK1, HO_13, BK471, HB⟩ := hrel
    cases gk with
    | zero => exact absurd HA.out (by simp [impl_BytesLacking.l0])
    | succ k1 =>
      have H := HA.out
      clear HA
      simp only [impl_BytesLacking.l0] at H
      by_cases c10 : x15_1 < (t473.length : Int)
      · rw [if_pos c10] at H
        have c10b0 : decide (x15_1 < (t473.length : Int)) = true := decide_eq_true c10
        clear c10
        replace H := ifN H
        obtain ⟨c11, H⟩ := H
        have c11b0 : decide (0 ≤ x15_1) = true := decide_eq_true c11
        clear c11
        replace H := ifN H
        obtain ⟨c12, H⟩ := H
        have c12b0 : decide (x15_1 < (t473.length : Int)) = true := decide_eq_true c12
        clear c12
        replace H := bE H
        obtain ⟨⟨t477, t478⟩, A13, H⟩ := H
        dsimp only at H
        have H' := aM H
        clear H
        have p476 : 0 ≤ (x15_1 : Int) := DT
        have q476 : x15_1 < (t473.length : Int) := DT
        obtain ⟨ad476, e476, hx476_0⟩ := Kd.at_int (Kd.R_reads' HO_13.out).2.2 x15_1 p476 q476
        cases e476
        replace p476 := eq_true p476
        replace q476 := eq_true q476
        obtain ⟨hcz14_0, hcz14_1, hcz14_2, hcz14_3⟩ := cz4 BK471.out
        obtain ⟨hfz14_0, hfz14_1, hfz14_2, hfz14_3⟩ := fz4 BK471.out
        go_wp2_with (first | ((with_reducible refine gate_callee (f := 66) rfl ?_); refine gL (some 25) Try.func66 #[.int .i64 a1_1, .int .i64 a1_2, .int .i64 (rd t473 x15_1)] ?_; (with_reducible refine (impl_SpanOf.calls a1_1 a1_2 (rd t473 x15_1) t477 t478 _ A13.out).mono ?_); rintro e w15 ⟨rfl, hb⟩; refine ⟨_, rfl, ?_⟩; replace HO_13 := aM (Kd.R_below (by have X_ := HO_13.out; exact TR) hb); replace BK471 := aM (blk_below (by have X_ := BK471.out; exact TX) hb); replace HB := aM (below_step TB hb); clear hb))
        go_roundg k1
        case measure => have := HK1.out; omega
        case rel => exact ⟨(wrap64 (x5_1 + t478)), (wrap64 (x15_1 + 1)), (by first | rfl | (simp; done) | (simp [*]; done)), (by first | rfl | (simp; done) | (simp [*]; done)), H', ⟨by have := HK1.out; omega⟩, ⟨by have X_ := HO_13.out; exact TR⟩, ⟨TK⟩, ⟨TB⟩⟩
      · rw [if_neg c10] at H
        have c10b0 : decide (x15_1 < (t473.length : Int)) = false := decide_eq_false c10
        clear c10
        obtain rfl := Option.some.inj H
        go_wp2
        go_ret
        exact ⟨by first | rfl | (simp [errW_none, errW_some] <;> rfl) | (simp [*, errW_none, errW_some] <;> rfl), TB⟩

end Go.Proofs.Ytfkndpjbkndhcaa.Q
