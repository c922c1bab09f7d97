/- Functions of the program as plain Lean functions, and that a call of each comes to what its function tells. Written by a program of this seat. -/
import Derived.Test.YtanpaipapcjpoaaQ0
import Derived.Test.YtanpaipapcjpoaaQ2
namespace Go.Proofs.Ytanpaipapcjpoaa.Q
open Go.RowKit Go.Proofs.YtanpaipapcjpoaaW.PrintWords Go.Proofs.YtanpaipapcjpoaaW.PrintLast Go.Proofs.YtanpaipapcjpoaaW.PrintMore
attribute [local go_sem] min2_int min_two
set_option linter.unusedVariables false
set_option linter.unusedSimpArgs false

def spec_SumOf.l0 : Nat → List Int → Int → Int → Option (Int × Int)
  | 0, _, _, _ => none
  | k + 1, x0, x3, x4 => if x4 < (x0.length : Int) then (if 0 ≤ x4 then (spec_SumOf.l0 k x0 (wrap64 ((wrap64 (256 * x3)) + (wrap64 (rd x0 x4)))) (wrap64 (x4 + 1))) else (none)) else ((spec_WeakOf.f k x0).bind fun t127 => (some (t127, x3)))
def spec_SumOf.f (k : Nat) (l0 : List Int) : Option (Int × Int) := if (l0.length : Int) > 6 then (some (0, 0)) else (spec_SumOf.l0 k l0 1 0)
theorem spec_SumOf.mono_l : ∀ k, (∀ y0 y1 y2, LeO (spec_SumOf.l0 k y0 y1 y2) (spec_SumOf.l0 (k + 1) y0 y1 y2))
  | 0 => fun _ _ _ r h => by simp [spec_SumOf.l0] at h
  | k + 1 => by
    have m0_ := @spec_WeakOf.mono
    have ih0 := spec_SumOf.mono_l k
    · intro y0 y1 y2
      unfold spec_SumOf.l0
      exact LM
theorem spec_SumOf.mono : ∀ a0 k, LeO (spec_SumOf.f k a0) (spec_SumOf.f (k + 1) a0) := by
  intro a0 k;have m0_ := @spec_WeakOf.mono;have ih0 := spec_SumOf.mono_l k;unfold spec_SumOf.f;exact LM
set_option maxHeartbeats 40000000 in
set_option maxRecDepth 100000 in
theorem spec_SumOf.calls (k : Nat) (A0 : Option Addr) (c0 : Nat) (l0 : List Int) (r1 : Int) (r2 : Int) (w : World) (hr0 : Kd.C (Kd.int .u8) w A0 l0.length l0) (hc0 : l0.length ≤ c0) (h : spec_SumOf.f k l0 = some (r1, r2)) :
    Calls Try.prog 84 #[.slice A0 l0.length c0] w fun e w' => e = .returned (.agg #[.int .i64 r1, .int .i64 r2]) ∧ Below w.heap.size w w' := by
  have hu83 := Try.underlying83
  have HR0 := aM hr0
  have HC0 := aM hc0
  clear hr0 hc0
  have HB := aM (Below.refl w.heap.size w)
  have H := h
  clear h
  unfold spec_SumOf.f at H
  by_cases c2 : (l0.length : Int) > 6
  · rw [if_pos c2] at H
    have c2b0 : decide (6 < (l0.length : Int)) = true := decide_eq_true c2
    have c2b1 : decide (6 < l0.length) = true := decide_eq_true (by omega)
    clear c2
    simp only [Option.some.injEq, Prod.mk.injEq] at H
    obtain ⟨rfl, rfl⟩ := H
    go_enter Try.func84, Try.ntmps84
    go_wp2_with (first | ((with_reducible refine gate_dst (N := 2) rfl ?_); refine gBx 2 #[.int .i64 0, .int .i64 0] 83 ?_; intro gb125 hg w3 hbox hb; have BK125 := aM (hbox); have GW125 := gW HB hg; have GE125 := gW HB hg; replace HB := bS HB hb; clear hb hbox hg; obtain ⟨hcz4_0, hcz4_1⟩ := cz2 BK125.out; obtain ⟨hfz4_0, hfz4_1⟩ := fz2 BK125.out))
    refine bodyPost_ret (results_cell_row rfl _ _ gb125 83 #[.int .i64 0, .int .i64 0] (0, 0) _ rfl (blk_put (blk_put (cs := #[.int .i64 0, .int .i64 0]) (TZ BK125) 0 _ rfl) 1 _ rfl) Try.underlying83 rfl (by kernel_rfl)) rfl ?_
    exact ⟨TE, TB⟩
  · rw [if_neg c2] at H
    have c2b0 : decide (6 < (l0.length : Int)) = false := decide_eq_false c2
    have c2b1 : decide (6 < l0.length) = false := decide_eq_false (by omega)
    clear c2
    have H' := aM H
    clear H
    go_enter Try.func84, Try.ntmps84
    go_wp2_with (first | ((with_reducible refine gate_dst (N := 2) rfl ?_); refine gBx 2 #[.int .i64 0, .int .i64 0] 83 ?_; intro gb125 hg w5 hbox hb; have BK125 := aM (hbox); have GW125 := gW HB hg; have GE125 := gW HB hg; replace HB := bS HB hb; clear hb hbox hg))
    go_loopg [3, 4] k (fun kq v3 v4 w' => ∃ (x3_1 : Int) (x4_1 : Int), v3 = .int .i64 x3_1 ∧ v4 = .int .i64 x4_1 ∧ Aside0 (spec_SumOf.l0 kq l0 x3_1 x4_1 = some (r1, r2)) ∧ Aside0 (kq ≤ k) ∧ Aside0 (w'.heap[gb125]? = some (.cells #[.int .i64 0, .int .i64 0] 83 (0, 0))) ∧ Aside0 (Below w.heap.size w w'))
    case atStart => exact ⟨(1), (0), TF, TF, H', ⟨Nat.le_refl _⟩, ⟨TK⟩, ⟨TB⟩⟩
    case round =>
      clear H'
      try clear c2
      try clear c2b0
      try clear c2b1
      try clear p2
      try clear hcz4_0
      try clear hcz4_1
      try clear hfz4_0
      try clear hfz4_1
      obtain ⟨x3_1, x4_1, rfl, rfl, HA, HK1, BK125, HB⟩ := hrel
      cases gk with
      | zero => exact absurd HA.out (by simp [spec_SumOf.l0])
      | succ k1 =>
        have H := HA.out
        clear HA
        simp only [spec_SumOf.l0] at H
        by_cases c6 : x4_1 < (l0.length : Int)
        · rw [if_pos c6] at H
          have c6b0 : decide (x4_1 < (l0.length : Int)) = true := decide_eq_true c6
          clear c6
          replace H := ifN H
          obtain ⟨c7, H⟩ := H
          have c7b0 : decide (0 ≤ x4_1) = true := decide_eq_true c7
          clear c7
          have H' := aM H
          clear H
          have p126 : 0 ≤ (x4_1 : Int) := DT
          have q126 : x4_1 < (l0.length : Int) := DT
          obtain ⟨ad126, e126, hx126_0⟩ := Kd.at_int HR0.out x4_1 p126 q126
          cases e126
          replace hx126_0 := (HB.out.cell (World.block_lt_of_cell? w _ hx126_0)).trans hx126_0
          replace p126 := eq_true p126
          replace q126 := eq_true q126
          go_wp2
          go_roundg k1
          case measure => have := HK1.out; omega
          case rel => exact ⟨(wrap64 ((wrap64 (256 * x3_1)) + (wrap64 (rd l0 x4_1)))), (wrap64 (x4_1 + 1)), TF, TF, H', ⟨by have := HK1.out; omega⟩, ⟨TK⟩, ⟨TB⟩⟩
        · rw [if_neg c6] at H
          have c6b0 : decide (x4_1 < (l0.length : Int)) = false := decide_eq_false c6
          clear c6
          replace H := bE H
          obtain ⟨t127, A8, H⟩ := H
          simp only [Option.some.injEq, Prod.mk.injEq] at H
          obtain ⟨rfl, rfl⟩ := H
          go_wp2_with (first | ((with_reducible refine gate_callee (f := 23) rfl ?_); refine gL (some 24) Try.func23 #[.slice A0 l0.length c0] ?_; (with_reducible refine (spec_WeakOf.calls k1 _ _ l0 t127 _ ?side1 ?side2 A8.out).mono ?_); (case side1 => have X_ := (Kd.C_below HR0.out HB.out); exact TC); (case side2 => exact HC0.out); rintro e w' ⟨rfl, ⟨nd, rfl⟩⟩; refine ⟨_, rfl, ?_⟩; (try (rw [drewN_self wr]; generalize hq_ : World.drewN wr _ = wr; have n0_ : Aside0 (wr.heap[gb125]? = some (.cells #[.int .i64 0, .int .i64 0] 83 (0, 0))) := ⟨by rw [← hq_]; exact TK⟩; have n1_ : Aside0 (Below w.heap.size w wr) := ⟨by rw [← hq_]; exact TB⟩; clear BK125 HB hq_; have BK125 := n0_; have HB := n1_; clear n0_ n1_)); obtain ⟨hcz9_0, hcz9_1⟩ := cz2 BK125.out; obtain ⟨hfz9_0, hfz9_1⟩ := fz2 BK125.out))
          refine bodyPost_ret (results_cell_row rfl _ _ gb125 83 #[.int .i64 t127, .int .i64 x3_1] (0, 0) _ rfl (blk_put (blk_put (cs := #[.int .i64 0, .int .i64 0]) (TZ BK125) 0 _ rfl) 1 _ rfl) Try.underlying83 rfl (by kernel_rfl)) rfl ?_
          exact ⟨TE, TB⟩

def spec_Least.f (a0 : Int) (a1 : Int) : Option (Int) := if a1 < a0 then (some a1) else (some a0)
set_option maxHeartbeats 40000000 in
set_option maxRecDepth 100000 in
theorem spec_Least.calls (a0 : Int) (a1 : Int) (r : Int) (w : World) (h : spec_Least.f a0 a1 = some r) :
    Calls Try.prog 99 #[.int .i64 a0, .int .i64 a1] w fun e w' => e = .returned (.int .i64 r) ∧ Drawn0 w w' := by
  have H := h
  clear h
  unfold spec_Least.f at H
  by_cases c3 : a1 < a0
  · rw [if_pos c3] at H
    have c3b0 : decide (a1 < a0) = true := decide_eq_true c3
    clear c3
    obtain rfl := Option.some.inj H
    go_enter Try.func99, Try.ntmps99
    go_wp2
    go_ret
    exact ⟨by first | rfl | (simp; done) | (simp [*]; done), TD⟩
  · rw [if_neg c3] at H
    have c3b0 : decide (a1 < a0) = false := decide_eq_false c3
    clear c3
    obtain rfl := Option.some.inj H
    go_enter Try.func99, Try.ntmps99
    go_wp2
    go_ret
    exact ⟨by first | rfl | (simp; done) | (simp [*]; done), TD⟩

def spec_SpanOf.f (a0 : Int) (a1 : Int) (a2 : Int) : Option (Int × Int) := (spec_Blocks.f a0 a1).bind fun t128 => ((spec_l1In.f a2 0 (wrap64 (t128 - 1))).bind fun t129 => (if t129 = true then ((spec_Least.f a0 (wrap64 (a1 - (wrap64 (a2 * a0))))).bind fun t130 => (some (wrap64 (a2 * a0), t130))) else (some (0, 0))))
set_option maxHeartbeats 40000000 in
set_option maxRecDepth 100000 in
theorem spec_SpanOf.calls (a0 : Int) (a1 : Int) (a2 : Int) (r1 : Int) (r2 : Int) (w : World) (h : spec_SpanOf.f a0 a1 a2 = some (r1, r2)) :
    Calls Try.prog 87 #[.int .i64 a0, .int .i64 a1, .int .i64 a2] w fun e w' => e = .returned (.tuple #[.int .i64 r1, .int .i64 r2]) ∧ Drawn0 w w' := by
  have H := h
  clear h
  unfold spec_SpanOf.f at H
  replace H := bE H
  obtain ⟨t128, A4, H⟩ := H
  replace H := bE H
  obtain ⟨t129, A5, H⟩ := H
  go_enter Try.func87, Try.ntmps87
  go_wp2_with (first | ((with_reducible refine gate_callee (f := 81) rfl ?_); refine gL (some 11) Try.func81 #[.int .i64 a0, .int .i64 a1] ?_; (with_reducible refine (spec_Blocks.calls a0 a1 t128 _ A4.out).mono ?_); rintro e w' ⟨rfl, ⟨nd, rfl⟩⟩; refine ⟨_, rfl, ?_⟩) | ((with_reducible refine gate_callee (f := 51) rfl ?_); refine gL (some 13) Try.func51 #[.int .i64 a2, .int .i64 0, .int .i64 (wrap64 (t128 - 1))] ?_; (with_reducible refine (spec_l1In.calls a2 0 (wrap64 (t128 - 1)) t129 _ A5.out).mono ?_); rintro e w' ⟨rfl, ⟨nd, rfl⟩⟩; refine ⟨_, rfl, ?_⟩) | ((with_reducible refine gate_dst (N := 14) rfl ?_); generalize hG_ : wpList _ _ _ _ _ _ = G_))
  subst hG_
  by_cases c7 : t129 = true
  · subst c7
    replace H := ifT H
    replace H := bE H
    obtain ⟨t130, A8, H⟩ := H
    simp only [Option.some.injEq, Prod.mk.injEq] at H
    obtain ⟨rfl, rfl⟩ := H
    go_wp2_with (first | ((with_reducible refine gate_callee (f := 99) rfl ?_); refine gL (some 24) Try.func99 #[.int .i64 a0, .int .i64 (wrap64 (a1 - (wrap64 (a2 * a0))))] ?_; (with_reducible refine (spec_Least.calls a0 (wrap64 (a1 - (wrap64 (a2 * a0)))) t130 _ A8.out).mono ?_); rintro e w' ⟨rfl, ⟨nd, rfl⟩⟩; refine ⟨_, rfl, ?_⟩))
    go_ret2
    exact ⟨by first | rfl | (simp; done) | (simp [*]; done), TD⟩
  · replace c7 := Bool.eq_false_iff.mpr c7
    subst c7
    replace H := ifF H
    simp only [Option.some.injEq, Prod.mk.injEq] at H
    obtain ⟨rfl, rfl⟩ := H
    go_wp2
    go_ret2
    exact ⟨by first | rfl | (simp; done) | (simp [*]; done), TD⟩

end Go.Proofs.Ytanpaipapcjpoaa.Q
