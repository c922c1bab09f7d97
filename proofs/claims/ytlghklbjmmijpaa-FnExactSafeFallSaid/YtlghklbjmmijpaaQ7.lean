/- Functions of the program as plain Lean functions, and that a call of each comes to what its function tells. Written by a program of this seat. -/
import Derived.Test.YtlghklbjmmijpaaQ0
import Derived.Test.YtlghklbjmmijpaaQ1
import Derived.Test.YtlghklbjmmijpaaQ3
namespace Go.Proofs.Ytlghklbjmmijpaa.Q
open Go.RowKit Go.Proofs.YtlghklbjmmijpaaW.PrintWords Go.Proofs.YtlghklbjmmijpaaW.PrintLast Go.Proofs.YtlghklbjmmijpaaW.PrintMore
attribute [local go_sem] max2_int min2_int max_two min_two max_three min_three max_four min_four   -- for this text's walks alone
set_option linter.unusedVariables false
set_option linter.unusedSimpArgs false

attribute [local go_sem high] eqA30
/-! ### spec_l9Put: function 115 -/
def spec_l9Put.f (a0_0 : Int) (a0_1 : Int) (l0_2 : List Int) (a0_3 : Int) (a0_4 : Int) (a0_5 : Int) : Option (Bool) := if a0_0 = 2 then (if a0_1 = 0 then (if (l0_2.length : Int) = 0 then ((spec_l9Record.f a0_3 a0_4 a0_5).bind fun t124 => (some t124)) else (some false)) else (some false)) else ((spec_l1In.f a0_0 0 1).bind fun t125 => (if t125 = true then ((spec_l1In.f a0_1 0 240).bind fun t126 => (if t126 = true then (if (l0_2.length : Int) ≤ (wrap64 (240 - a0_1)) then (some (a0_3 == 0 && (a0_4 == 0 && (a0_5 == 0)))) else (some false)) else (some false))) else (some false)))
set_option maxHeartbeats 40000000 in
set_option maxRecDepth 100000 in
theorem spec_l9Put.calls (a0_0 : Int) (a0_1 : Int) (A0_2 : Option Addr) (c0_2 : Nat) (l0_2 : List Int) (a0_3 : Int) (a0_4 : Int) (a0_5 : Int) (r : Bool) (w : World) (hr0_2 : Kd.C (Kd.int .u8) w A0_2 l0_2.length l0_2) (hc0_2 : l0_2.length ≤ c0_2) (h : spec_l9Put.f a0_0 a0_1 l0_2 a0_3 a0_4 a0_5 = some r) :
    Calls Try.prog 115 #[.agg #[.int .i64 a0_0, .int .i64 a0_1, .slice A0_2 l0_2.length c0_2, .int .i64 a0_3, .int .i64 a0_4, .int .i64 a0_5]] w fun e w' => e = .returned (.bool r) ∧ Below w.heap.size w w' := by
  have hu110 := Try.underlying110
  have hu30 := Try.underlying30
  have HR0_2 := aM hr0_2
  have HC0_2 := aM hc0_2
  clear hr0_2 hc0_2
  have HB := aM (Below.refl w.heap.size w)
  have H := h
  clear h
  unfold spec_l9Put.f at H
  by_cases c2 : a0_0 = 2
  · rw [if_pos c2] at H
    have c2b0 : (a0_0 == 2) = true := beq_iff_eq.mpr c2
    have c2b1 : (a0_0 != 2) = false := bne_eq_false_iff_eq.mpr c2
    clear c2
    by_cases c3 : a0_1 = 0
    · rw [if_pos c3] at H
      have c3b0 : (a0_1 == 0) = true := beq_iff_eq.mpr c3
      have c3b1 : (a0_1 != 0) = false := bne_eq_false_iff_eq.mpr c3
      clear c3
      by_cases c4 : (l0_2.length : Int) = 0
      · rw [if_pos c4] at H
        have c4b0 : ((l0_2.length : Int) == 0) = true := beq_iff_eq.mpr c4
        have c4b1 : ((l0_2.length : Int) != 0) = false := bne_eq_false_iff_eq.mpr c4
        clear c4
        replace H := bE H
        obtain ⟨t124, A5, H⟩ := H
        obtain rfl := Option.some.inj H
        go_enter Try.func115, Try.ntmps115
        go_wp2_with (first | ((with_reducible refine gate_dst (N := 1) rfl ?_); (try (refine gate_guard (by rfl) ?_; dsimp only)); refine gBx 1 #[.int .i64 a0_0, .int .i64 a0_1, .slice A0_2 l0_2.length c0_2, .int .i64 a0_3, .int .i64 a0_4, .int .i64 a0_5] 110 ?_; intro gb122 hg w6 hbox hb; have BK122 := aM (hbox); have GW122 := aM ((by rw [hg]; exact (below_size TB) : w.heap.size ≤ gb122)); have GE122 := aM ((by rw [hg]; exact (below_size TB) : w.heap.size ≤ gb122)); replace HB := aM (below_step TB hb); clear hb hbox hg) | ((with_reducible refine gate_dst (N := 3) rfl ?_); (try (refine gate_guard (by rfl) ?_; dsimp only)); refine gBx 3 #[.int .i64 0, .int .i64 0, .int .i64 0] 30 ?_; intro gb123 hg w7 hbox hb; have BK123 := aM (hbox); have GW123 := aM ((by rw [hg]; exact (below_size TB) : w.heap.size ≤ gb123)); have GE123 := aM ((by rw [hg]; exact (below_size TB) : w.heap.size ≤ gb123)); have NB122_123 := aM ((by rw [hg]; exact Nat.ne_of_lt (blk_lt (by have X_ := BK122.out; exact TX)) : gb122 ≠ gb123)); have NB123_122 := aM ((by rw [hg]; exact Nat.ne_of_gt (blk_lt (by have X_ := BK122.out; exact TX)) : gb123 ≠ gb122)); replace BK122 := aM (blk_below (by have X_ := BK122.out; exact TX) hb); replace HB := aM (below_step TB hb); clear hb hbox hg; have hnb8 := NB123_122.out; have hnc8 := NB122_123.out; obtain ⟨hcz9_0, hcz9_1, hcz9_2⟩ := cz3 BK123.out; obtain ⟨hfz9_0, hfz9_1, hfz9_2⟩ := fz3 BK123.out; obtain ⟨hcz10_0, hcz10_1, hcz10_2, hcz10_3, hcz10_4, hcz10_5⟩ := cz6 BK122.out; obtain ⟨hfz10_0, hfz10_1, hfz10_2, hfz10_3, hfz10_4, hfz10_5⟩ := fz6 BK122.out) | (go_at_call 113; (with_reducible refine (spec_l9Record.calls a0_3 a0_4 a0_5 t124 _ A5.out).mono ?_); rintro e w11 ⟨rfl, hb⟩; replace BK122 := aM (blk_below (g := gb122) (o := .cells #[.int .i64 a0_0, .int .i64 a0_1, .slice A0_2 l0_2.length c0_2, .int .i64 a0_3, .int .i64 a0_4, .int .i64 a0_5] 110 (0, 0)) (by (with_reducible repeat (first | refine blk_drewN ?_ _ | refine blk_drew ?_ | refine blk_alloc ?_ _)); refine blk_far ?_ NB122_123.out _; (with_reducible repeat (first | refine blk_drewN ?_ _ | refine blk_drew ?_ | refine blk_alloc ?_ _)); refine blk_far ?_ NB122_123.out _; (with_reducible repeat (first | refine blk_drewN ?_ _ | refine blk_drew ?_ | refine blk_alloc ?_ _)); refine blk_far ?_ NB122_123.out _; (with_reducible repeat (first | refine blk_drewN ?_ _ | refine blk_drew ?_ | refine blk_alloc ?_ _)); exact BK122.out) hb); replace BK123 := aM (blk_below (g := gb123) (o := .cells #[.int .i64 0, .int .i64 0, .int .i64 0] 30 (0, 0)) (by (with_reducible repeat (first | refine blk_drewN ?_ _ | refine blk_drew ?_ | refine blk_alloc ?_ _)); refine blk_put (cs := #[.int .i64 0, .int .i64 0, .int .i64 0]) ?_ 2 _ rfl; (with_reducible repeat (first | refine blk_drewN ?_ _ | refine blk_drew ?_ | refine blk_alloc ?_ _)); refine blk_put (cs := #[.int .i64 0, .int .i64 0, .int .i64 0]) ?_ 1 _ rfl; (with_reducible repeat (first | refine blk_drewN ?_ _ | refine blk_drew ?_ | refine blk_alloc ?_ _)); refine blk_put (cs := #[.int .i64 0, .int .i64 0, .int .i64 0]) ?_ 0 _ rfl; (with_reducible repeat (first | refine blk_drewN ?_ _ | refine blk_drew ?_ | refine blk_alloc ?_ _)); exact BK123.out) hb); replace HB := aM (below_step TB hb); clear hb))
        go_ret
        exact ⟨by first | rfl | (simp [errW_none, errW_some] <;> rfl) | (simp [*, errW_none, errW_some] <;> rfl), TB⟩
      · rw [if_neg c4] at H
        have c4b0 : ((l0_2.length : Int) == 0) = false := beq_eq_false_iff_ne.mpr c4
        have c4b1 : ((l0_2.length : Int) != 0) = true := bne_iff_ne.mpr c4
        have c4b2 : ¬ (l0_2 = []) := fun h_ => c4 (by rw [h_]; rfl)
        obtain rfl := Option.some.inj H
        go_enter Try.func115, Try.ntmps115
        go_wp2_with (first | ((with_reducible refine gate_dst (N := 1) rfl ?_); (try (refine gate_guard (by rfl) ?_; dsimp only)); refine gBx 1 #[.int .i64 a0_0, .int .i64 a0_1, .slice A0_2 l0_2.length c0_2, .int .i64 a0_3, .int .i64 a0_4, .int .i64 a0_5] 110 ?_; intro gb122 hg w12 hbox hb; have BK122 := aM (hbox); have GW122 := aM ((by rw [hg]; exact (below_size TB) : w.heap.size ≤ gb122)); have GE122 := aM ((by rw [hg]; exact (below_size TB) : w.heap.size ≤ gb122)); replace HB := aM (below_step TB hb); clear hb hbox hg) | ((with_reducible refine gate_dst (N := 3) rfl ?_); (try (refine gate_guard (by rfl) ?_; dsimp only)); refine gBx 3 #[.int .i64 0, .int .i64 0, .int .i64 0] 30 ?_; intro gb123 hg w13 hbox hb; have BK123 := aM (hbox); have GW123 := aM ((by rw [hg]; exact (below_size TB) : w.heap.size ≤ gb123)); have GE123 := aM ((by rw [hg]; exact (below_size TB) : w.heap.size ≤ gb123)); have NB122_123 := aM ((by rw [hg]; exact Nat.ne_of_lt (blk_lt (by have X_ := BK122.out; exact TX)) : gb122 ≠ gb123)); have NB123_122 := aM ((by rw [hg]; exact Nat.ne_of_gt (blk_lt (by have X_ := BK122.out; exact TX)) : gb123 ≠ gb122)); replace BK122 := aM (blk_below (by have X_ := BK122.out; exact TX) hb); replace HB := aM (below_step TB hb); clear hb hbox hg; have hnb14 := NB123_122.out; have hnc14 := NB122_123.out; obtain ⟨hcz15_0, hcz15_1, hcz15_2⟩ := cz3 BK123.out; obtain ⟨hfz15_0, hfz15_1, hfz15_2⟩ := fz3 BK123.out; obtain ⟨hcz16_0, hcz16_1, hcz16_2, hcz16_3, hcz16_4, hcz16_5⟩ := cz6 BK122.out; obtain ⟨hfz16_0, hfz16_1, hfz16_2, hfz16_3, hfz16_4, hfz16_5⟩ := fz6 BK122.out))
        go_ret
        exact ⟨by first | rfl | (simp [errW_none, errW_some] <;> rfl) | (simp [*, errW_none, errW_some] <;> rfl), TB⟩
    · rw [if_neg c3] at H
      have c3b0 : (a0_1 == 0) = false := beq_eq_false_iff_ne.mpr c3
      have c3b1 : (a0_1 != 0) = true := bne_iff_ne.mpr c3
      obtain rfl := Option.some.inj H
      go_enter Try.func115, Try.ntmps115
      go_wp2_with (first | ((with_reducible refine gate_dst (N := 1) rfl ?_); (try (refine gate_guard (by rfl) ?_; dsimp only)); refine gBx 1 #[.int .i64 a0_0, .int .i64 a0_1, .slice A0_2 l0_2.length c0_2, .int .i64 a0_3, .int .i64 a0_4, .int .i64 a0_5] 110 ?_; intro gb122 hg w17 hbox hb; have BK122 := aM (hbox); have GW122 := aM ((by rw [hg]; exact (below_size TB) : w.heap.size ≤ gb122)); have GE122 := aM ((by rw [hg]; exact (below_size TB) : w.heap.size ≤ gb122)); replace HB := aM (below_step TB hb); clear hb hbox hg) | ((with_reducible refine gate_dst (N := 3) rfl ?_); (try (refine gate_guard (by rfl) ?_; dsimp only)); refine gBx 3 #[.int .i64 0, .int .i64 0, .int .i64 0] 30 ?_; intro gb123 hg w18 hbox hb; have BK123 := aM (hbox); have GW123 := aM ((by rw [hg]; exact (below_size TB) : w.heap.size ≤ gb123)); have GE123 := aM ((by rw [hg]; exact (below_size TB) : w.heap.size ≤ gb123)); have NB122_123 := aM ((by rw [hg]; exact Nat.ne_of_lt (blk_lt (by have X_ := BK122.out; exact TX)) : gb122 ≠ gb123)); have NB123_122 := aM ((by rw [hg]; exact Nat.ne_of_gt (blk_lt (by have X_ := BK122.out; exact TX)) : gb123 ≠ gb122)); replace BK122 := aM (blk_below (by have X_ := BK122.out; exact TX) hb); replace HB := aM (below_step TB hb); clear hb hbox hg; have hnb19 := NB123_122.out; have hnc19 := NB122_123.out; obtain ⟨hcz20_0, hcz20_1, hcz20_2⟩ := cz3 BK123.out; obtain ⟨hfz20_0, hfz20_1, hfz20_2⟩ := fz3 BK123.out; obtain ⟨hcz21_0, hcz21_1, hcz21_2, hcz21_3, hcz21_4, hcz21_5⟩ := cz6 BK122.out; obtain ⟨hfz21_0, hfz21_1, hfz21_2, hfz21_3, hfz21_4, hfz21_5⟩ := fz6 BK122.out))
      go_ret
      exact ⟨by first | rfl | (simp [errW_none, errW_some] <;> rfl) | (simp [*, errW_none, errW_some] <;> rfl), TB⟩
  · rw [if_neg c2] at H
    have c2b0 : (a0_0 == 2) = false := beq_eq_false_iff_ne.mpr c2
    have c2b1 : (a0_0 != 2) = true := bne_iff_ne.mpr c2
    replace H := bE H
    obtain ⟨t125, A22, H⟩ := H
    go_enter Try.func115, Try.ntmps115
    go_wp2_with (first | ((with_reducible refine gate_dst (N := 1) rfl ?_); (try (refine gate_guard (by rfl) ?_; dsimp only)); refine gBx 1 #[.int .i64 a0_0, .int .i64 a0_1, .slice A0_2 l0_2.length c0_2, .int .i64 a0_3, .int .i64 a0_4, .int .i64 a0_5] 110 ?_; intro gb122 hg w24 hbox hb; have BK122 := aM (hbox); have GW122 := aM ((by rw [hg]; exact (below_size TB) : w.heap.size ≤ gb122)); have GE122 := aM ((by rw [hg]; exact (below_size TB) : w.heap.size ≤ gb122)); replace HB := aM (below_step TB hb); clear hb hbox hg) | ((with_reducible refine gate_dst (N := 3) rfl ?_); (try (refine gate_guard (by rfl) ?_; dsimp only)); refine gBx 3 #[.int .i64 0, .int .i64 0, .int .i64 0] 30 ?_; intro gb123 hg w25 hbox hb; have BK123 := aM (hbox); have GW123 := aM ((by rw [hg]; exact (below_size TB) : w.heap.size ≤ gb123)); have GE123 := aM ((by rw [hg]; exact (below_size TB) : w.heap.size ≤ gb123)); have NB122_123 := aM ((by rw [hg]; exact Nat.ne_of_lt (blk_lt (by have X_ := BK122.out; exact TX)) : gb122 ≠ gb123)); have NB123_122 := aM ((by rw [hg]; exact Nat.ne_of_gt (blk_lt (by have X_ := BK122.out; exact TX)) : gb123 ≠ gb122)); replace BK122 := aM (blk_below (by have X_ := BK122.out; exact TX) hb); replace HB := aM (below_step TB hb); clear hb hbox hg; have hnb26 := NB123_122.out; have hnc26 := NB122_123.out; obtain ⟨hcz27_0, hcz27_1, hcz27_2⟩ := cz3 BK123.out; obtain ⟨hfz27_0, hfz27_1, hfz27_2⟩ := fz3 BK123.out; obtain ⟨hcz28_0, hcz28_1, hcz28_2, hcz28_3, hcz28_4, hcz28_5⟩ := cz6 BK122.out; obtain ⟨hfz28_0, hfz28_1, hfz28_2, hfz28_3, hfz28_4, hfz28_5⟩ := fz6 BK122.out) | ((with_reducible refine gate_callee (f := 116) rfl ?_); (with_reducible refine gate_dst (N := 24) rfl ?_); generalize hG_ : wpList _ _ _ _ _ _ = G_))
    subst hG_
    by_cases c29 : t125 = true
    · subst c29
      replace H := ifT H
      replace H := bE H
      obtain ⟨t126, A30, H⟩ := H
      by_cases c31 : t126 = true
      · subst c31
        replace H := ifT H
        by_cases c32 : (l0_2.length : Int) ≤ (wrap64 (240 - a0_1))
        · rw [if_pos c32] at H
          have c32b0 : decide ((l0_2.length : Int) ≤ (wrap64 (240 - a0_1))) = true := decide_eq_true c32
          clear c32
          obtain rfl := Option.some.inj H
          go_wp2_with (first | ((with_reducible refine gate_callee (f := 116) rfl ?_); refine gL (some 24) Try.func116 #[.int .i64 a0_0, .int .i64 0, .int .i64 1] ?_; (with_reducible refine (spec_l1In.calls a0_0 0 1 true _ A22.out).mono ?_); rintro e w' ⟨rfl, ⟨nd, rfl⟩⟩; refine ⟨_, rfl, ?_⟩; have hnb33 := NB122_123.out; have hnc33 := NB123_122.out; obtain ⟨hcz34_0, hcz34_1, hcz34_2, hcz34_3, hcz34_4, hcz34_5⟩ := cz6 BK122.out; obtain ⟨hfz34_0, hfz34_1, hfz34_2, hfz34_3, hfz34_4, hfz34_5⟩ := fz6 BK122.out) | (go_at_call 116; (with_reducible refine (spec_l1In.calls a0_1 0 240 true _ A30.out).mono ?_); rintro e w' ⟨rfl, ⟨nd, rfl⟩⟩; obtain ⟨hcz35_0, hcz35_1, hcz35_2⟩ := cz3 BK123.out; obtain ⟨hfz35_0, hfz35_1, hfz35_2⟩ := fz3 BK123.out))
          go_ret
          exact ⟨by first | rfl | (simp [errW_none, errW_some] <;> rfl) | (simp [*, errW_none, errW_some] <;> rfl), TB⟩
        · rw [if_neg c32] at H
          have c32b0 : decide ((l0_2.length : Int) ≤ (wrap64 (240 - a0_1))) = false := decide_eq_false c32
          clear c32
          obtain rfl := Option.some.inj H
          go_wp2_with (first | ((with_reducible refine gate_callee (f := 116) rfl ?_); refine gL (some 24) Try.func116 #[.int .i64 a0_0, .int .i64 0, .int .i64 1] ?_; (with_reducible refine (spec_l1In.calls a0_0 0 1 true _ A22.out).mono ?_); rintro e w' ⟨rfl, ⟨nd, rfl⟩⟩; refine ⟨_, rfl, ?_⟩; have hnb36 := NB122_123.out; have hnc36 := NB123_122.out; obtain ⟨hcz37_0, hcz37_1, hcz37_2, hcz37_3, hcz37_4, hcz37_5⟩ := cz6 BK122.out; obtain ⟨hfz37_0, hfz37_1, hfz37_2, hfz37_3, hfz37_4, hfz37_5⟩ := fz6 BK122.out) | (go_at_call 116; (with_reducible refine (spec_l1In.calls a0_1 0 240 true _ A30.out).mono ?_); rintro e w' ⟨rfl, ⟨nd, rfl⟩⟩))
          go_ret
          exact ⟨by first | rfl | (simp [errW_none, errW_some] <;> rfl) | (simp [*, errW_none, errW_some] <;> rfl), TB⟩
      · replace c31 := Bool.eq_false_iff.mpr c31
        subst c31
        replace H := ifF H
        obtain rfl := Option.some.inj H
        go_wp2_with (first | ((with_reducible refine gate_callee (f := 116) rfl ?_); refine gL (some 24) Try.func116 #[.int .i64 a0_0, .int .i64 0, .int .i64 1] ?_; (with_reducible refine (spec_l1In.calls a0_0 0 1 true _ A22.out).mono ?_); rintro e w' ⟨rfl, ⟨nd, rfl⟩⟩; refine ⟨_, rfl, ?_⟩; have hnb38 := NB122_123.out; have hnc38 := NB123_122.out; obtain ⟨hcz39_0, hcz39_1, hcz39_2, hcz39_3, hcz39_4, hcz39_5⟩ := cz6 BK122.out; obtain ⟨hfz39_0, hfz39_1, hfz39_2, hfz39_3, hfz39_4, hfz39_5⟩ := fz6 BK122.out) | (go_at_call 116; (with_reducible refine (spec_l1In.calls a0_1 0 240 false _ A30.out).mono ?_); rintro e w' ⟨rfl, ⟨nd, rfl⟩⟩))
        go_ret
        exact ⟨by first | rfl | (simp [errW_none, errW_some] <;> rfl) | (simp [*, errW_none, errW_some] <;> rfl), TB⟩
    · replace c29 := Bool.eq_false_iff.mpr c29
      subst c29
      replace H := ifF H
      obtain rfl := Option.some.inj H
      go_wp2_with (first | ((with_reducible refine gate_callee (f := 116) rfl ?_); refine gL (some 24) Try.func116 #[.int .i64 a0_0, .int .i64 0, .int .i64 1] ?_; (with_reducible refine (spec_l1In.calls a0_0 0 1 false _ A22.out).mono ?_); rintro e w' ⟨rfl, ⟨nd, rfl⟩⟩; refine ⟨_, rfl, ?_⟩))
      go_ret
      exact ⟨by first | rfl | (simp [errW_none, errW_some] <;> rfl) | (simp [*, errW_none, errW_some] <;> rfl), TB⟩

end Go.Proofs.Ytlghklbjmmijpaa.Q
