/- Functions of the program as plain Lean functions, and that a call of each comes to what its function tells. Written by a program of this seat. -/
import Derived.Test.YtlghklbjmmijpaaQ0
import Derived.Test.YtlghklbjmmijpaaQ17
namespace Go.Proofs.Ytlghklbjmmijpaa.Q
open Go.RowKit Go.Proofs.YtlghklbjmmijpaaW.PrintWords Go.Proofs.YtlghklbjmmijpaaW.PrintLast Go.Proofs.YtlghklbjmmijpaaW.PrintMore
attribute [local go_sem] max2_int min2_int max_two min_two max_three min_three max_four min_four   -- for this text's walks alone
set_option linter.unusedVariables false
set_option linter.unusedSimpArgs false

/-! ### laws_eqPut: function 97 -/
def laws_eqPut.f (k : Nat) (a0_0 : Int) (a0_1 : Int) (l0_2 : List Int) (a0_3 : Int) (a0_4 : Int) (a0_5 : Int) (a1_0 : Int) (a1_1 : Int) (l1_2 : List Int) (a1_3 : Int) (a1_4 : Int) (a1_5 : Int) : Option (Bool) := if a0_0 = a1_0 then (if a0_1 = a1_1 then ((laws_eqByteS.f k l0_2 l1_2).bind fun t393 => (if t393 = true then ((laws_eqRecord.f a0_3 a0_4 a0_5 a1_3 a1_4 a1_5).bind fun t394 => (if t394 = true then (some true) else (some false))) else (some false))) else (some false)) else (some false)
theorem laws_eqPut.mono : ∀ a0 a1 a2 a3 a4 a5 a6 a7 a8 a9 a10 a11 k, LeO (laws_eqPut.f k a0 a1 a2 a3 a4 a5 a6 a7 a8 a9 a10 a11) (laws_eqPut.f (k + 1) a0 a1 a2 a3 a4 a5 a6 a7 a8 a9 a10 a11) := by
  intro a0 a1 a2 a3 a4 a5 a6 a7 a8 a9 a10 a11 k
  have m0_ := @laws_eqByteS.mono
  unfold laws_eqPut.f
  exact LM
set_option maxHeartbeats 40000000 in
set_option maxRecDepth 100000 in
theorem laws_eqPut.calls (k : Nat) (a0_0 : Int) (a0_1 : Int) (A0_2 : Option Addr) (c0_2 : Nat) (l0_2 : List Int) (a0_3 : Int) (a0_4 : Int) (a0_5 : Int) (a1_0 : Int) (a1_1 : Int) (A1_2 : Option Addr) (c1_2 : Nat) (l1_2 : List Int) (a1_3 : Int) (a1_4 : Int) (a1_5 : Int) (r : Bool) (w : World) (hr0_2 : Kd.C (Kd.int .u8) w A0_2 l0_2.length l0_2) (hc0_2 : l0_2.length ≤ c0_2) (hr1_2 : Kd.C (Kd.int .u8) w A1_2 l1_2.length l1_2) (hc1_2 : l1_2.length ≤ c1_2) (h : laws_eqPut.f k a0_0 a0_1 l0_2 a0_3 a0_4 a0_5 a1_0 a1_1 l1_2 a1_3 a1_4 a1_5 = some r) :
    Calls Try.prog 97 #[.agg #[.int .i64 a0_0, .int .i64 a0_1, .slice A0_2 l0_2.length c0_2, .int .i64 a0_3, .int .i64 a0_4, .int .i64 a0_5], .agg #[.int .i64 a1_0, .int .i64 a1_1, .slice A1_2 l1_2.length c1_2, .int .i64 a1_3, .int .i64 a1_4, .int .i64 a1_5]] w fun e w' => e = .returned (.bool r) ∧ Below w.heap.size w w' := by
  have hu110 := Try.underlying110
  have hu30 := Try.underlying30
  have HR0_2 := aM hr0_2
  have HC0_2 := aM hc0_2
  clear hr0_2 hc0_2
  have HR1_2 := aM hr1_2
  have HC1_2 := aM hc1_2
  clear hr1_2 hc1_2
  have HB := aM (Below.refl w.heap.size w)
  have H := h
  clear h
  unfold laws_eqPut.f at H
  by_cases c3 : a0_0 = a1_0
  · rw [if_pos c3] at H
    have c3b0 : (a0_0 == a1_0) = true := beq_iff_eq.mpr c3
    have c3b1 : (a0_0 != a1_0) = false := bne_eq_false_iff_eq.mpr c3
    clear c3
    by_cases c4 : a0_1 = a1_1
    · rw [if_pos c4] at H
      have c4b0 : (a0_1 == a1_1) = true := beq_iff_eq.mpr c4
      have c4b1 : (a0_1 != a1_1) = false := bne_eq_false_iff_eq.mpr c4
      clear c4
      replace H := bE H
      obtain ⟨t393, A5, H⟩ := H
      go_enter Try.func97, Try.ntmps97
      go_wp2_with (first | ((with_reducible refine gate_dst (N := 2) rfl ?_); refine gBx 2 #[.int .i64 a0_0, .int .i64 a0_1, .slice A0_2 l0_2.length c0_2, .int .i64 a0_3, .int .i64 a0_4, .int .i64 a0_5] 110 ?_; intro gb391 hg w7 hbox hb; have BK391 := aM (hbox); have GW391 := aM ((by rw [hg]; exact (below_size TB) : w.heap.size ≤ gb391)); have GE391 := aM ((by rw [hg]; exact (below_size TB) : w.heap.size ≤ gb391)); replace HB := aM (below_step TB hb); clear hb hbox hg) | ((with_reducible refine gate_dst (N := 3) rfl ?_); refine gBx 3 #[.int .i64 a1_0, .int .i64 a1_1, .slice A1_2 l1_2.length c1_2, .int .i64 a1_3, .int .i64 a1_4, .int .i64 a1_5] 110 ?_; intro gb392 hg w8 hbox hb; have BK392 := aM (hbox); have GW392 := aM ((by rw [hg]; exact (below_size TB) : w.heap.size ≤ gb392)); have GE392 := aM ((by rw [hg]; exact (below_size TB) : w.heap.size ≤ gb392)); have NB391_392 := aM ((by rw [hg]; exact Nat.ne_of_lt (blk_lt (by have X_ := BK391.out; exact TX)) : gb391 ≠ gb392)); have NB392_391 := aM ((by rw [hg]; exact Nat.ne_of_gt (blk_lt (by have X_ := BK391.out; exact TX)) : gb392 ≠ gb391)); replace BK391 := aM (blk_below (by have X_ := BK391.out; exact TX) hb); replace HB := aM (below_step TB hb); clear hb hbox hg; have hnb9 := NB391_392.out; have hnc9 := NB392_391.out; obtain ⟨hcz10_0, hcz10_1, hcz10_2, hcz10_3, hcz10_4, hcz10_5⟩ := cz6 BK391.out; obtain ⟨hfz10_0, hfz10_1, hfz10_2, hfz10_3, hfz10_4, hfz10_5⟩ := fz6 BK391.out; obtain ⟨hcz11_0, hcz11_1, hcz11_2, hcz11_3, hcz11_4, hcz11_5⟩ := cz6 BK392.out; obtain ⟨hfz11_0, hfz11_1, hfz11_2, hfz11_3, hfz11_4, hfz11_5⟩ := fz6 BK392.out) | ((with_reducible refine gate_callee (f := 14) rfl ?_); (with_reducible refine gate_dst (N := 19) rfl ?_); generalize hG_ : wpList _ _ _ _ _ _ = G_))
      subst hG_
      by_cases c12 : t393 = true
      · subst c12
        replace H := ifT H
        replace H := bE H
        obtain ⟨t394, A13, H⟩ := H
        go_wp2_with (first | ((with_reducible refine gate_callee (f := 14) rfl ?_); refine gL (some 19) Try.func14 #[.slice A0_2 l0_2.length c0_2, .slice A1_2 l1_2.length c1_2] ?_; (with_reducible refine (laws_eqByteS.calls k _ _ l0_2 _ _ l1_2 true _ ?side1 ?side2 ?side3 ?side4 A5.out).mono ?_); (case side1 => repeat (first | exact (Kd.C_below HR0_2.out TB) | (with_reducible refine Kd.C_alloc ?_ _) | (with_reducible refine Kd.C_drewN ?_ _) | (with_reducible refine Kd.C_drew ?_))); (case side2 => exact HC0_2.out); (case side3 => repeat (first | exact (Kd.C_below HR1_2.out TB) | (with_reducible refine Kd.C_alloc ?_ _) | (with_reducible refine Kd.C_drewN ?_ _) | (with_reducible refine Kd.C_drew ?_))); (case side4 => exact HC1_2.out); rintro e w' ⟨rfl, ⟨nd, rfl⟩⟩; refine ⟨_, rfl, ?_⟩; have hnb15 := NB391_392.out; have hnc15 := NB392_391.out; obtain ⟨hcz16_0, hcz16_1, hcz16_2, hcz16_3, hcz16_4, hcz16_5⟩ := cz6 BK391.out; obtain ⟨hfz16_0, hfz16_1, hfz16_2, hfz16_3, hfz16_4, hfz16_5⟩ := fz6 BK391.out; obtain ⟨hcz17_0, hcz17_1, hcz17_2, hcz17_3, hcz17_4, hcz17_5⟩ := cz6 BK392.out; obtain ⟨hfz17_0, hfz17_1, hfz17_2, hfz17_3, hfz17_4, hfz17_5⟩ := fz6 BK392.out) | ((with_reducible refine gate_callee (f := 47) rfl ?_); (with_reducible refine gate_dst (N := 25) rfl ?_); generalize hG_ : wpList _ _ _ _ _ _ = G_))
        subst hG_
        by_cases c18 : t394 = true
        · subst c18
          replace H := ifT H
          obtain rfl := Option.some.inj H
          go_wp2_with (first | ((with_reducible refine gate_callee (f := 47) rfl ?_); refine gL (some 25) Try.func47 #[.agg #[.int .i64 a0_3, .int .i64 a0_4, .int .i64 a0_5], .agg #[.int .i64 a1_3, .int .i64 a1_4, .int .i64 a1_5]] ?_; (with_reducible refine (laws_eqRecord.calls a0_3 a0_4 a0_5 a1_3 a1_4 a1_5 true _ A13.out).mono ?_); rintro e w19 ⟨rfl, hb⟩; refine ⟨_, rfl, ?_⟩; replace BK391 := aM (blk_below (by have X_ := BK391.out; exact TX) hb); replace BK392 := aM (blk_below (by have X_ := BK392.out; exact TX) hb); replace HB := aM (below_step TB hb); clear hb))
          go_ret
          exact ⟨by first | rfl | (simp [errW_none, errW_some] <;> rfl) | (simp [*, errW_none, errW_some] <;> rfl), TB⟩
        · replace c18 := Bool.eq_false_iff.mpr c18
          subst c18
          replace H := ifF H
          obtain rfl := Option.some.inj H
          go_wp2_with (first | ((with_reducible refine gate_callee (f := 47) rfl ?_); refine gL (some 25) Try.func47 #[.agg #[.int .i64 a0_3, .int .i64 a0_4, .int .i64 a0_5], .agg #[.int .i64 a1_3, .int .i64 a1_4, .int .i64 a1_5]] ?_; (with_reducible refine (laws_eqRecord.calls a0_3 a0_4 a0_5 a1_3 a1_4 a1_5 false _ A13.out).mono ?_); rintro e w20 ⟨rfl, hb⟩; refine ⟨_, rfl, ?_⟩; replace BK391 := aM (blk_below (by have X_ := BK391.out; exact TX) hb); replace BK392 := aM (blk_below (by have X_ := BK392.out; exact TX) hb); replace HB := aM (below_step TB hb); clear hb))
          go_ret
          exact ⟨by first | rfl | (simp [errW_none, errW_some] <;> rfl) | (simp [*, errW_none, errW_some] <;> rfl), TB⟩
      · replace c12 := Bool.eq_false_iff.mpr c12
        subst c12
        replace H := ifF H
        obtain rfl := Option.some.inj H
        go_wp2_with (first | ((with_reducible refine gate_callee (f := 14) rfl ?_); refine gL (some 19) Try.func14 #[.slice A0_2 l0_2.length c0_2, .slice A1_2 l1_2.length c1_2] ?_; (with_reducible refine (laws_eqByteS.calls k _ _ l0_2 _ _ l1_2 false _ ?side1 ?side2 ?side3 ?side4 A5.out).mono ?_); (case side1 => repeat (first | exact (Kd.C_below HR0_2.out TB) | (with_reducible refine Kd.C_alloc ?_ _) | (with_reducible refine Kd.C_drewN ?_ _) | (with_reducible refine Kd.C_drew ?_))); (case side2 => exact HC0_2.out); (case side3 => repeat (first | exact (Kd.C_below HR1_2.out TB) | (with_reducible refine Kd.C_alloc ?_ _) | (with_reducible refine Kd.C_drewN ?_ _) | (with_reducible refine Kd.C_drew ?_))); (case side4 => exact HC1_2.out); rintro e w' ⟨rfl, ⟨nd, rfl⟩⟩; refine ⟨_, rfl, ?_⟩))
        go_ret
        exact ⟨by first | rfl | (simp [errW_none, errW_some] <;> rfl) | (simp [*, errW_none, errW_some] <;> rfl), TB⟩
    · rw [if_neg c4] at H
      have c4b0 : (a0_1 == a1_1) = false := beq_eq_false_iff_ne.mpr c4
      have c4b1 : (a0_1 != a1_1) = true := bne_iff_ne.mpr c4
      obtain rfl := Option.some.inj H
      go_enter Try.func97, Try.ntmps97
      go_wp2_with (first | ((with_reducible refine gate_dst (N := 2) rfl ?_); refine gBx 2 #[.int .i64 a0_0, .int .i64 a0_1, .slice A0_2 l0_2.length c0_2, .int .i64 a0_3, .int .i64 a0_4, .int .i64 a0_5] 110 ?_; intro gb391 hg w21 hbox hb; have BK391 := aM (hbox); have GW391 := aM ((by rw [hg]; exact (below_size TB) : w.heap.size ≤ gb391)); have GE391 := aM ((by rw [hg]; exact (below_size TB) : w.heap.size ≤ gb391)); replace HB := aM (below_step TB hb); clear hb hbox hg) | ((with_reducible refine gate_dst (N := 3) rfl ?_); refine gBx 3 #[.int .i64 a1_0, .int .i64 a1_1, .slice A1_2 l1_2.length c1_2, .int .i64 a1_3, .int .i64 a1_4, .int .i64 a1_5] 110 ?_; intro gb392 hg w22 hbox hb; have BK392 := aM (hbox); have GW392 := aM ((by rw [hg]; exact (below_size TB) : w.heap.size ≤ gb392)); have GE392 := aM ((by rw [hg]; exact (below_size TB) : w.heap.size ≤ gb392)); have NB391_392 := aM ((by rw [hg]; exact Nat.ne_of_lt (blk_lt (by have X_ := BK391.out; exact TX)) : gb391 ≠ gb392)); have NB392_391 := aM ((by rw [hg]; exact Nat.ne_of_gt (blk_lt (by have X_ := BK391.out; exact TX)) : gb392 ≠ gb391)); replace BK391 := aM (blk_below (by have X_ := BK391.out; exact TX) hb); replace HB := aM (below_step TB hb); clear hb hbox hg; have hnb23 := NB391_392.out; have hnc23 := NB392_391.out; obtain ⟨hcz24_0, hcz24_1, hcz24_2, hcz24_3, hcz24_4, hcz24_5⟩ := cz6 BK391.out; obtain ⟨hfz24_0, hfz24_1, hfz24_2, hfz24_3, hfz24_4, hfz24_5⟩ := fz6 BK391.out; obtain ⟨hcz25_0, hcz25_1, hcz25_2, hcz25_3, hcz25_4, hcz25_5⟩ := cz6 BK392.out; obtain ⟨hfz25_0, hfz25_1, hfz25_2, hfz25_3, hfz25_4, hfz25_5⟩ := fz6 BK392.out))
      go_ret
      exact ⟨by first | rfl | (simp [errW_none, errW_some] <;> rfl) | (simp [*, errW_none, errW_some] <;> rfl), TB⟩
  · rw [if_neg c3] at H
    have c3b0 : (a0_0 == a1_0) = false := beq_eq_false_iff_ne.mpr c3
    have c3b1 : (a0_0 != a1_0) = true := bne_iff_ne.mpr c3
    obtain rfl := Option.some.inj H
    go_enter Try.func97, Try.ntmps97
    go_wp2_with (first | ((with_reducible refine gate_dst (N := 2) rfl ?_); refine gBx 2 #[.int .i64 a0_0, .int .i64 a0_1, .slice A0_2 l0_2.length c0_2, .int .i64 a0_3, .int .i64 a0_4, .int .i64 a0_5] 110 ?_; intro gb391 hg w26 hbox hb; have BK391 := aM (hbox); have GW391 := aM ((by rw [hg]; exact (below_size TB) : w.heap.size ≤ gb391)); have GE391 := aM ((by rw [hg]; exact (below_size TB) : w.heap.size ≤ gb391)); replace HB := aM (below_step TB hb); clear hb hbox hg) | ((with_reducible refine gate_dst (N := 3) rfl ?_); refine gBx 3 #[.int .i64 a1_0, .int .i64 a1_1, .slice A1_2 l1_2.length c1_2, .int .i64 a1_3, .int .i64 a1_4, .int .i64 a1_5] 110 ?_; intro gb392 hg w27 hbox hb; have BK392 := aM (hbox); have GW392 := aM ((by rw [hg]; exact (below_size TB) : w.heap.size ≤ gb392)); have GE392 := aM ((by rw [hg]; exact (below_size TB) : w.heap.size ≤ gb392)); have NB391_392 := aM ((by rw [hg]; exact Nat.ne_of_lt (blk_lt (by have X_ := BK391.out; exact TX)) : gb391 ≠ gb392)); have NB392_391 := aM ((by rw [hg]; exact Nat.ne_of_gt (blk_lt (by have X_ := BK391.out; exact TX)) : gb392 ≠ gb391)); replace BK391 := aM (blk_below (by have X_ := BK391.out; exact TX) hb); replace HB := aM (below_step TB hb); clear hb hbox hg; have hnb28 := NB391_392.out; have hnc28 := NB392_391.out; obtain ⟨hcz29_0, hcz29_1, hcz29_2, hcz29_3, hcz29_4, hcz29_5⟩ := cz6 BK391.out; obtain ⟨hfz29_0, hfz29_1, hfz29_2, hfz29_3, hfz29_4, hfz29_5⟩ := fz6 BK391.out; obtain ⟨hcz30_0, hcz30_1, hcz30_2, hcz30_3, hcz30_4, hcz30_5⟩ := cz6 BK392.out; obtain ⟨hfz30_0, hfz30_1, hfz30_2, hfz30_3, hfz30_4, hfz30_5⟩ := fz6 BK392.out))
    go_ret
    exact ⟨by first | rfl | (simp [errW_none, errW_some] <;> rfl) | (simp [*, errW_none, errW_some] <;> rfl), TB⟩

/-! ### laws_eqPutS: function 48 -/
def laws_eqPutS.l0 : Nat → List (S110) → List (S110) → Int → Option (Bool)
  | 0, _, _, _ => none
  | k + 1, x0, x1, x5 => if x5 < (x0.length : Int) then (if 0 ≤ x5 then (if x5 < (x1.length : Int) then ((laws_eqPut.f k ((rd_T110 x0 x5).f0) ((rd_T110 x0 x5).f1) ((rd_T110 x0 x5).f2) ((rd_T110 x0 x5).f3.f0) ((rd_T110 x0 x5).f3.f1) ((rd_T110 x0 x5).f3.f2) ((rd_T110 x1 x5).f0) ((rd_T110 x1 x5).f1) ((rd_T110 x1 x5).f2) ((rd_T110 x1 x5).f3.f0) ((rd_T110 x1 x5).f3.f1) ((rd_T110 x1 x5).f3.f2)).bind fun t397 => (if t397 = true then (laws_eqPutS.l0 k x0 x1 (wrap64 (x5 + 1))) else (some false))) else (none)) else (none)) else (some true)
def laws_eqPutS.f (k : Nat) (l0 : List (S110)) (l1 : List (S110)) : Option (Bool) := if (l0.length : Int) = (l1.length : Int) then (laws_eqPutS.l0 k l0 l1 0) else (some false)
theorem laws_eqPutS.mono_l : ∀ k, (∀ y0 y1 y2, LeO (laws_eqPutS.l0 k y0 y1 y2) (laws_eqPutS.l0 (k + 1) y0 y1 y2))
  | 0 => fun _ _ _ r h => by simp [laws_eqPutS.l0] at h
  | k + 1 => by
    have m0_ := @laws_eqPut.mono
    have ih0 := laws_eqPutS.mono_l k
    · intro y0 y1 y2
      unfold laws_eqPutS.l0
      exact LM
theorem laws_eqPutS.mono : ∀ a0 a1 k, LeO (laws_eqPutS.f k a0 a1) (laws_eqPutS.f (k + 1) a0 a1) := by
  intro a0 a1 k
  have m0_ := @laws_eqPut.mono
  have ih0 := laws_eqPutS.mono_l k
  unfold laws_eqPutS.f
  exact LM
def laws_eqPutS.T6 : Bool × List (List Nat × List Nat) := (true, [([], []), ([], []), ([0, 1], [0, 1]), ([2], [2]), ([], []), ([], []), ([4, 5], [4, 5]), ([6], [6]), ([3, 7], [3, 7]), ([8], [8])])
def laws_eqPutS.B6 : List Nat := [0, 0, 3, 7, 0, 0, 48, 112, 255, 511]
theorem laws_eqPutS.tab6 : rtab .any (opsOf Try.f48 6) = laws_eqPutS.T6 := by kernel_rfl
theorem laws_eqPutS.bits6 : waitsOk laws_eqPutS.T6.2 laws_eqPutS.B6 = true := by kernel_rfl
set_option maxHeartbeats 40000000 in
set_option maxRecDepth 100000 in
theorem laws_eqPutS.calls (k : Nat) (A0 : Option Addr) (c0 : Nat) (l0 : List (S110)) (A1 : Option Addr) (c1 : Nat) (l1 : List (S110)) (r : Bool) (w : World) (hr0 : Kd.C k110 w A0 l0.length l0) (hc0 : l0.length ≤ c0) (hr1 : Kd.C k110 w A1 l1.length l1) (hc1 : l1.length ≤ c1) (h : laws_eqPutS.f k l0 l1 = some r) :
  Calls Try.prog 48 #[.slice A0 l0.length c0, .slice A1 l1.length c1] w fun e w' => e = .returned (.bool r) ∧ Below w.heap.size w w' := by
 have hu110 := Try.underlying110
 have HR0 := aM hr0
 have HC0 := aM hc0
 clear hr0 hc0
 have HR1 := aM hr1
 have HC1 := aM hc1
 clear hr1 hc1
 have HB := aM (Below.refl w.heap.size w)
 have H := h
 clear h
 unfold laws_eqPutS.f at H
 by_cases c3 : (l0.length : Int) = (l1.length : Int)
 ·rw [if_pos c3] at H
  have c3b0 : ((l0.length : Int) == (l1.length : Int)) = true := beq_iff_eq.mpr c3
  have c3b1 : ((l0.length : Int) != (l1.length : Int)) = false := bne_eq_false_iff_eq.mpr c3
  have c3b2 : (l0.length == l1.length) = true := by first | simpa using c3 | (simp at c3 ⊢; omega)
  clear c3
  have H' := aM H
  clear H
  go_enter Try.func48, Try.ntmps48
  go_wp2
  go_loopg [5] k (fun kq v5 w' => ∃ (aa : Int), v5 = .int .i64 aa ∧ Aside0 (laws_eqPutS.l0 kq l0 l1 aa = some r) ∧ Aside0 (kq ≤ k) ∧ Aside0 (Below w.heap.size w w'))
  case atStart => exact ⟨(0), (by first | rfl | (simp; done) | (simp [*]; done)), H', ⟨Nat.le_refl _⟩, ⟨TB⟩⟩
  case round =>
   clear H'
   try clear c1
   try clear p2
   try clear c3
   try clear c3b0
   try clear c3b1
   try clear c3b2
   obtain ⟨aa, rfl, HA, HK1, HB⟩ := hrel
   cases gk with
   | zero => exact absurd HA.out (by simp [laws_eqPutS.l0])
   | succ k1 =>
    have H := HA.out
    clear HA
    simp only [laws_eqPutS.l0] at H
    by_cases c4 : aa < (l0.length : Int)
    ·rw [if_pos c4] at H
     have c4b0 : decide (aa < (l0.length : Int)) = true := decide_eq_true c4
     clear c4
     replace H := ifN H
     obtain ⟨c5, H⟩ := H
     have c5b0 : decide (0 ≤ aa) = true := decide_eq_true c5
     clear c5
     replace H := ifN H
     obtain ⟨c6, H⟩ := H
     have c6b0 : decide (aa < (l1.length : Int)) = true := decide_eq_true c6
     clear c6
     replace H := bE H
     obtain ⟨t397, A7, H⟩ := H
     by_cases c8 : t397 = true
     ·subst c8
      replace H := ifT H
      have H' := aM H
      clear H
      try go_wp2
      replace HB := aM (below_drew1 HB.out)
      have aQ : 0 ≤ (aa : Int) := DT
      have aP : aa < (l0.length : Int) := DT
      obtain ⟨ab, aN, aL, aU, ak, ag, ad, an, ah, aj, aD, aH⟩ := at_T110 HR0.out aa aQ aP
      have aB := aj
      have az := ah
      have ap := an
      have aw := ad
      have au := ag
      have ax := ak
      cases aU
      replace ak := (HB.out.cell (World.block_lt_of_cell? w _ ak)).trans ak
      replace ag := (HB.out.cell (World.block_lt_of_cell? w _ ag)).trans ag
      replace ad := (HB.out.cell (World.block_lt_of_cell? w _ ad)).trans ad
      replace an := (HB.out.cell (World.block_lt_of_cell? w _ an)).trans an
      replace ah := (HB.out.cell (World.block_lt_of_cell? w _ ah)).trans ah
      replace aj := (HB.out.cell (World.block_lt_of_cell? w _ aj)).trans aj
      have aI := aM aH
      have aS := aM aD
      clear aH aD
      replace aQ := eq_true aQ
      replace aP := eq_true aP
      have aO : 0 ≤ (aa : Int) := DT
      have aR : aa < (l1.length : Int) := DT
      obtain ⟨ac, aJ, aK, aV, al, am, af, ai, ao, ae, aG, aF⟩ := at_T110 HR1.out aa aO aR
      have aq := ae
      have aC := ao
      have aA := ai
      have ar := af
      have ay := am
      have av := al
      cases aV
      replace al := (HB.out.cell (World.block_lt_of_cell? w _ al)).trans al
      replace am := (HB.out.cell (World.block_lt_of_cell? w _ am)).trans am
      replace af := (HB.out.cell (World.block_lt_of_cell? w _ af)).trans af
      replace ai := (HB.out.cell (World.block_lt_of_cell? w _ ai)).trans ai
      replace ao := (HB.out.cell (World.block_lt_of_cell? w _ ao)).trans ao
      replace ae := (HB.out.cell (World.block_lt_of_cell? w _ ae)).trans ae
      have aE := aM aF
      have aT := aM aG
      clear aF aG
      replace aO := eq_true aO
      replace aR := eq_true aR
      refine start_ (n := 10) (S := fun w' => w'.cell? (ab.add ((aa).toNat * 6)) = some (.int .i64 ((rd_T110 l0 aa).f0)) ∧ w'.cell? ⟨(ab.add ((aa).toNat * 6)).block, (ab.add ((aa).toNat * 6)).off + 1, none⟩ = some (.int .i64 ((rd_T110 l0 aa).f1)) ∧ w'.cell? ⟨(ab.add ((aa).toNat * 6)).block, (ab.add ((aa).toNat * 6)).off + 2, none⟩ = some (.slice aN ((rd_T110 l0 aa).f2).length aL) ∧ w'.cell? ⟨(ab.add ((aa).toNat * 6)).block, (ab.add ((aa).toNat * 6)).off + 3, none⟩ = some (.int .i64 ((rd_T110 l0 aa).f3.f0)) ∧ w'.cell? ⟨(ab.add ((aa).toNat * 6)).block, (ab.add ((aa).toNat * 6)).off + 4, none⟩ = some (.int .i64 ((rd_T110 l0 aa).f3.f1)) ∧ w'.cell? ⟨(ab.add ((aa).toNat * 6)).block, (ab.add ((aa).toNat * 6)).off + 5, none⟩ = some (.int .i64 ((rd_T110 l0 aa).f3.f2)) ∧ w'.cell? (ac.add ((aa).toNat * 6)) = some (.int .i64 ((rd_T110 l1 aa).f0)) ∧ w'.cell? ⟨(ac.add ((aa).toNat * 6)).block, (ac.add ((aa).toNat * 6)).off + 1, none⟩ = some (.int .i64 ((rd_T110 l1 aa).f1)) ∧ w'.cell? ⟨(ac.add ((aa).toNat * 6)).block, (ac.add ((aa).toNat * 6)).off + 2, none⟩ = some (.slice aJ ((rd_T110 l1 aa).f2).length aK) ∧ w'.cell? ⟨(ac.add ((aa).toNat * 6)).block, (ac.add ((aa).toNat * 6)).off + 3, none⟩ = some (.int .i64 ((rd_T110 l1 aa).f3.f0)) ∧ w'.cell? ⟨(ac.add ((aa).toNat * 6)).block, (ac.add ((aa).toNat * 6)).off + 4, none⟩ = some (.int .i64 ((rd_T110 l1 aa).f3.f1)) ∧ w'.cell? ⟨(ac.add ((aa).toNat * 6)).block, (ac.add ((aa).toNat * 6)).off + 5, none⟩ = some (.int .i64 ((rd_T110 l1 aa).f3.f2))) (ds := []) (Array.replicate 10 false) (by kernel_rfl) rfl rfl ⟨((HB.out.cell (World.block_lt_of_cell? w _ ax)).trans ax), ((HB.out.cell (World.block_lt_of_cell? w _ au)).trans au), ((HB.out.cell (World.block_lt_of_cell? w _ aw)).trans aw), ((HB.out.cell (World.block_lt_of_cell? w _ ap)).trans ap), ((HB.out.cell (World.block_lt_of_cell? w _ az)).trans az), ((HB.out.cell (World.block_lt_of_cell? w _ aB)).trans aB), ((HB.out.cell (World.block_lt_of_cell? w _ av)).trans av), ((HB.out.cell (World.block_lt_of_cell? w _ ay)).trans ay), ((HB.out.cell (World.block_lt_of_cell? w _ ar)).trans ar), ((HB.out.cell (World.block_lt_of_cell? w _ aA)).trans aA), ((HB.out.cell (World.block_lt_of_cell? w _ aC)).trans aC), ((HB.out.cell (World.block_lt_of_cell? w _ aq)).trans aq)⟩ (fun hHeld => ?_); refine with_tabW laws_eqPutS.tab6 laws_eqPutS.bits6 (fun HT_ HW_ => ?_)
      generalize wr.drew = w9 at HB aI aE ak ag ad an ah aj al am af ai ao ae hHeld ⊢
      refine pP 0 (some 17) ?_
      refine pP 1 (some 18) ?_
      refine pP 2 (some 19) ?_
      refine pP 4 (some 21) ?_
      refine pP 5 (some 22) ?_
      refine pP 6 (some 23) ?_
      refine pT 3 (some 20) ?_
      refine pT 7 (some 24) ?_
      refine pO 8 (some 25) (fun K hK => ?_)
      refine gG Try.func97 #[.agg #[.int .i64 ((rd_T110 l0 aa).f0), .int .i64 ((rd_T110 l0 aa).f1), .slice aN ((rd_T110 l0 aa).f2).length aL, .int .i64 ((rd_T110 l0 aa).f3.f0), .int .i64 ((rd_T110 l0 aa).f3.f1), .int .i64 ((rd_T110 l0 aa).f3.f2)], .agg #[.int .i64 ((rd_T110 l1 aa).f0), .int .i64 ((rd_T110 l1 aa).f1), .slice aJ ((rd_T110 l1 aa).f2).length aK, .int .i64 ((rd_T110 l1 aa).f3.f0), .int .i64 ((rd_T110 l1 aa).f3.f1), .int .i64 ((rd_T110 l1 aa).f3.f2)]] ?_
      with_reducible refine (laws_eqPut.calls k1 ((rd_T110 l0 aa).f0) ((rd_T110 l0 aa).f1) _ _ ((rd_T110 l0 aa).f2) ((rd_T110 l0 aa).f3.f0) ((rd_T110 l0 aa).f3.f1) ((rd_T110 l0 aa).f3.f2) ((rd_T110 l1 aa).f0) ((rd_T110 l1 aa).f1) _ _ ((rd_T110 l1 aa).f2) ((rd_T110 l1 aa).f3.f0) ((rd_T110 l1 aa).f3.f1) ((rd_T110 l1 aa).f3.f2) true _ ?side1 ?side2 ?side3 ?side4 A7.out).mono ?_
      (case side1 => have X_ := (Kd.C_below aI.out HB.out); exact TC)
      (case side2 => exact aS.out)
      (case side3 => have X_ := (Kd.C_below aE.out HB.out); exact TC)
      (case side4 => exact aT.out)
      rintro e w10 ⟨rfl, hb⟩
      refine ⟨_, rfl, ?_⟩
      have n0_ := aM (below_step TB hb)
      clear HB
      have HB := n0_
      clear n0_
      (try clear hb)
      (try clear hb2)
      (try clear hk)
      (try clear hi)
      refine hK.out _ _ ⟨((HB.out.cell (World.block_lt_of_cell? w _ ax)).trans ax), ((HB.out.cell (World.block_lt_of_cell? w _ au)).trans au), ((HB.out.cell (World.block_lt_of_cell? w _ aw)).trans aw), ((HB.out.cell (World.block_lt_of_cell? w _ ap)).trans ap), ((HB.out.cell (World.block_lt_of_cell? w _ az)).trans az), ((HB.out.cell (World.block_lt_of_cell? w _ aB)).trans aB), ((HB.out.cell (World.block_lt_of_cell? w _ av)).trans av), ((HB.out.cell (World.block_lt_of_cell? w _ ay)).trans ay), ((HB.out.cell (World.block_lt_of_cell? w _ ar)).trans ar), ((HB.out.cell (World.block_lt_of_cell? w _ aA)).trans aA), ((HB.out.cell (World.block_lt_of_cell? w _ aC)).trans aC), ((HB.out.cell (World.block_lt_of_cell? w _ aq)).trans aq)⟩ (fun hHeld => ?_)
      clear hK K
      refine nR ?_
      refine pP 9 (some 26) ?_
      refine done_ (done_of HT_.out (by kernel_rfl)) ?_
      try go_wp2
      go_roundg k1
      case measure => have := HK1.out; omega
      case rel => exact ⟨(wrap64 (aa + 1)), (by first | rfl | (simp; done) | (simp [*]; done)), H', ⟨by have := HK1.out; omega⟩, ⟨TB⟩⟩
     ·replace c8 := Bool.eq_false_iff.mpr c8
      subst c8
      replace H := ifF H
      obtain rfl := Option.some.inj H
      try go_wp2
      replace HB := aM (below_drew1 HB.out)
      have aQ : 0 ≤ (aa : Int) := DT
      have aP : aa < (l0.length : Int) := DT
      obtain ⟨ab, aN, aL, aU, ak, ag, ad, an, ah, aj, aD, aH⟩ := at_T110 HR0.out aa aQ aP
      have aB := aj
      have az := ah
      have ap := an
      have aw := ad
      have au := ag
      have ax := ak
      cases aU
      replace ak := (HB.out.cell (World.block_lt_of_cell? w _ ak)).trans ak
      replace ag := (HB.out.cell (World.block_lt_of_cell? w _ ag)).trans ag
      replace ad := (HB.out.cell (World.block_lt_of_cell? w _ ad)).trans ad
      replace an := (HB.out.cell (World.block_lt_of_cell? w _ an)).trans an
      replace ah := (HB.out.cell (World.block_lt_of_cell? w _ ah)).trans ah
      replace aj := (HB.out.cell (World.block_lt_of_cell? w _ aj)).trans aj
      have aI := aM aH
      have aS := aM aD
      clear aH aD
      replace aQ := eq_true aQ
      replace aP := eq_true aP
      have aO : 0 ≤ (aa : Int) := DT
      have aR : aa < (l1.length : Int) := DT
      obtain ⟨ac, aJ, aK, aV, al, am, af, ai, ao, ae, aG, aF⟩ := at_T110 HR1.out aa aO aR
      have aq := ae
      have aC := ao
      have aA := ai
      have ar := af
      have ay := am
      have av := al
      cases aV
      replace al := (HB.out.cell (World.block_lt_of_cell? w _ al)).trans al
      replace am := (HB.out.cell (World.block_lt_of_cell? w _ am)).trans am
      replace af := (HB.out.cell (World.block_lt_of_cell? w _ af)).trans af
      replace ai := (HB.out.cell (World.block_lt_of_cell? w _ ai)).trans ai
      replace ao := (HB.out.cell (World.block_lt_of_cell? w _ ao)).trans ao
      replace ae := (HB.out.cell (World.block_lt_of_cell? w _ ae)).trans ae
      have aE := aM aF
      have aT := aM aG
      clear aF aG
      replace aO := eq_true aO
      replace aR := eq_true aR
      refine start_ (n := 10) (S := fun w' => w'.cell? (ab.add ((aa).toNat * 6)) = some (.int .i64 ((rd_T110 l0 aa).f0)) ∧ w'.cell? ⟨(ab.add ((aa).toNat * 6)).block, (ab.add ((aa).toNat * 6)).off + 1, none⟩ = some (.int .i64 ((rd_T110 l0 aa).f1)) ∧ w'.cell? ⟨(ab.add ((aa).toNat * 6)).block, (ab.add ((aa).toNat * 6)).off + 2, none⟩ = some (.slice aN ((rd_T110 l0 aa).f2).length aL) ∧ w'.cell? ⟨(ab.add ((aa).toNat * 6)).block, (ab.add ((aa).toNat * 6)).off + 3, none⟩ = some (.int .i64 ((rd_T110 l0 aa).f3.f0)) ∧ w'.cell? ⟨(ab.add ((aa).toNat * 6)).block, (ab.add ((aa).toNat * 6)).off + 4, none⟩ = some (.int .i64 ((rd_T110 l0 aa).f3.f1)) ∧ w'.cell? ⟨(ab.add ((aa).toNat * 6)).block, (ab.add ((aa).toNat * 6)).off + 5, none⟩ = some (.int .i64 ((rd_T110 l0 aa).f3.f2)) ∧ w'.cell? (ac.add ((aa).toNat * 6)) = some (.int .i64 ((rd_T110 l1 aa).f0)) ∧ w'.cell? ⟨(ac.add ((aa).toNat * 6)).block, (ac.add ((aa).toNat * 6)).off + 1, none⟩ = some (.int .i64 ((rd_T110 l1 aa).f1)) ∧ w'.cell? ⟨(ac.add ((aa).toNat * 6)).block, (ac.add ((aa).toNat * 6)).off + 2, none⟩ = some (.slice aJ ((rd_T110 l1 aa).f2).length aK) ∧ w'.cell? ⟨(ac.add ((aa).toNat * 6)).block, (ac.add ((aa).toNat * 6)).off + 3, none⟩ = some (.int .i64 ((rd_T110 l1 aa).f3.f0)) ∧ w'.cell? ⟨(ac.add ((aa).toNat * 6)).block, (ac.add ((aa).toNat * 6)).off + 4, none⟩ = some (.int .i64 ((rd_T110 l1 aa).f3.f1)) ∧ w'.cell? ⟨(ac.add ((aa).toNat * 6)).block, (ac.add ((aa).toNat * 6)).off + 5, none⟩ = some (.int .i64 ((rd_T110 l1 aa).f3.f2))) (ds := []) (Array.replicate 10 false) (by kernel_rfl) rfl rfl ⟨((HB.out.cell (World.block_lt_of_cell? w _ ax)).trans ax), ((HB.out.cell (World.block_lt_of_cell? w _ au)).trans au), ((HB.out.cell (World.block_lt_of_cell? w _ aw)).trans aw), ((HB.out.cell (World.block_lt_of_cell? w _ ap)).trans ap), ((HB.out.cell (World.block_lt_of_cell? w _ az)).trans az), ((HB.out.cell (World.block_lt_of_cell? w _ aB)).trans aB), ((HB.out.cell (World.block_lt_of_cell? w _ av)).trans av), ((HB.out.cell (World.block_lt_of_cell? w _ ay)).trans ay), ((HB.out.cell (World.block_lt_of_cell? w _ ar)).trans ar), ((HB.out.cell (World.block_lt_of_cell? w _ aA)).trans aA), ((HB.out.cell (World.block_lt_of_cell? w _ aC)).trans aC), ((HB.out.cell (World.block_lt_of_cell? w _ aq)).trans aq)⟩ (fun hHeld => ?_); refine with_tabW laws_eqPutS.tab6 laws_eqPutS.bits6 (fun HT_ HW_ => ?_)
      generalize wr.drew = w11 at HB aI aE ak ag ad an ah aj al am af ai ao ae hHeld ⊢
      refine pP 0 (some 17) ?_
      refine pP 1 (some 18) ?_
      refine pP 2 (some 19) ?_
      refine pP 4 (some 21) ?_
      refine pP 5 (some 22) ?_
      refine pP 6 (some 23) ?_
      refine pT 3 (some 20) ?_
      refine pT 7 (some 24) ?_
      refine pO 8 (some 25) (fun K hK => ?_)
      refine gG Try.func97 #[.agg #[.int .i64 ((rd_T110 l0 aa).f0), .int .i64 ((rd_T110 l0 aa).f1), .slice aN ((rd_T110 l0 aa).f2).length aL, .int .i64 ((rd_T110 l0 aa).f3.f0), .int .i64 ((rd_T110 l0 aa).f3.f1), .int .i64 ((rd_T110 l0 aa).f3.f2)], .agg #[.int .i64 ((rd_T110 l1 aa).f0), .int .i64 ((rd_T110 l1 aa).f1), .slice aJ ((rd_T110 l1 aa).f2).length aK, .int .i64 ((rd_T110 l1 aa).f3.f0), .int .i64 ((rd_T110 l1 aa).f3.f1), .int .i64 ((rd_T110 l1 aa).f3.f2)]] ?_
      with_reducible refine (laws_eqPut.calls k1 ((rd_T110 l0 aa).f0) ((rd_T110 l0 aa).f1) _ _ ((rd_T110 l0 aa).f2) ((rd_T110 l0 aa).f3.f0) ((rd_T110 l0 aa).f3.f1) ((rd_T110 l0 aa).f3.f2) ((rd_T110 l1 aa).f0) ((rd_T110 l1 aa).f1) _ _ ((rd_T110 l1 aa).f2) ((rd_T110 l1 aa).f3.f0) ((rd_T110 l1 aa).f3.f1) ((rd_T110 l1 aa).f3.f2) false _ ?side1 ?side2 ?side3 ?side4 A7.out).mono ?_
      (case side1 => have X_ := (Kd.C_below aI.out HB.out); exact TC)
      (case side2 => exact aS.out)
      (case side3 => have X_ := (Kd.C_below aE.out HB.out); exact TC)
      (case side4 => exact aT.out)
      rintro e w12 ⟨rfl, hb⟩
      refine ⟨_, rfl, ?_⟩
      have n0_ := aM (below_step TB hb)
      clear HB
      have HB := n0_
      clear n0_
      (try clear hb)
      (try clear hb2)
      (try clear hk)
      (try clear hi)
      refine hK.out _ _ ⟨((HB.out.cell (World.block_lt_of_cell? w _ ax)).trans ax), ((HB.out.cell (World.block_lt_of_cell? w _ au)).trans au), ((HB.out.cell (World.block_lt_of_cell? w _ aw)).trans aw), ((HB.out.cell (World.block_lt_of_cell? w _ ap)).trans ap), ((HB.out.cell (World.block_lt_of_cell? w _ az)).trans az), ((HB.out.cell (World.block_lt_of_cell? w _ aB)).trans aB), ((HB.out.cell (World.block_lt_of_cell? w _ av)).trans av), ((HB.out.cell (World.block_lt_of_cell? w _ ay)).trans ay), ((HB.out.cell (World.block_lt_of_cell? w _ ar)).trans ar), ((HB.out.cell (World.block_lt_of_cell? w _ aA)).trans aA), ((HB.out.cell (World.block_lt_of_cell? w _ aC)).trans aC), ((HB.out.cell (World.block_lt_of_cell? w _ aq)).trans aq)⟩ (fun hHeld => ?_)
      clear hK K
      refine nR ?_
      refine pP 9 (some 26) ?_
      refine done_ (done_of HT_.out (by kernel_rfl)) ?_
      try go_wp2
      go_ret
      exact ⟨by first | rfl | (simp [errW_none, errW_some] <;> rfl) | (simp [*, errW_none, errW_some] <;> rfl), TB⟩
    ·rw [if_neg c4] at H
     have c4b0 : decide (aa < (l0.length : Int)) = false := decide_eq_false c4
     clear c4
     obtain rfl := Option.some.inj H
     go_wp2
     go_ret
     exact ⟨by first | rfl | (simp [errW_none, errW_some] <;> rfl) | (simp [*, errW_none, errW_some] <;> rfl), TB⟩
 ·rw [if_neg c3] at H
  have c3b0 : ((l0.length : Int) == (l1.length : Int)) = false := beq_eq_false_iff_ne.mpr c3
  have c3b1 : ((l0.length : Int) != (l1.length : Int)) = true := bne_iff_ne.mpr c3
  have c3b2 : (l0.length == l1.length) = false := by first | simpa using c3 | (simp at c3 ⊢; omega)
  obtain rfl := Option.some.inj H
  go_enter Try.func48, Try.ntmps48
  go_wp2
  go_ret
  exact ⟨by first | rfl | (simp [errW_none, errW_some] <;> rfl) | (simp [*, errW_none, errW_some] <;> rfl), TB⟩

end Go.Proofs.Ytlghklbjmmijpaa.Q
