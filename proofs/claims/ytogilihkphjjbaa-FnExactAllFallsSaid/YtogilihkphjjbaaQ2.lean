/- Functions of the program as plain Lean functions, and that a call of each comes to what its function tells. Written by a program of this seat. -/
import Derived.Test.YtogilihkphjjbaaQ0
namespace Go.Proofs.Ytogilihkphjjbaa.Q
open Go.RowKit Go.Proofs.YtogilihkphjjbaaW.PrintWords Go.Proofs.YtogilihkphjjbaaW.PrintLast Go.Proofs.YtogilihkphjjbaaW.PrintMore
attribute [local go_sem] max2_int min2_int max_two min_two max_three min_three max_four min_four   -- for this text's walks alone
set_option linter.unusedVariables false
set_option linter.unusedSimpArgs false

/-! ### laws_szByteS: function 56 -/
def laws_szByteS.f (l0 : List Int) (a1 : Int) : Option (Int) := if (wrap64 (a1 - (l0.length : Int))) < 0 then (some (-1)) else (some (wrap64 (a1 - (l0.length : Int))))
set_option maxHeartbeats 40000000 in
set_option maxRecDepth 100000 in
theorem laws_szByteS.calls (A0 : Option Addr) (c0 : Nat) (l0 : List Int) (a1 : Int) (r : Int) (w : World) (hr0 : Kd.C (Kd.int .u8) w A0 l0.length l0) (hc0 : l0.length ≤ c0) (h : laws_szByteS.f l0 a1 = some r) :
    Calls Try.prog 56 #[.slice A0 l0.length c0, .int .i64 a1] w fun e w' => e = .returned (.int .i64 r) ∧ Drawn0 w w' := by
  have HR0 := aM hr0
  have HC0 := aM hc0
  clear hr0 hc0
  have H := h
  clear h
  unfold laws_szByteS.f at H
  by_cases c3 : (wrap64 (a1 - (l0.length : Int))) < 0
  · rw [if_pos c3] at H
    have c3b0 : decide ((wrap64 (a1 - (l0.length : Int))) < 0) = true := decide_eq_true c3
    clear c3
    obtain rfl := Option.some.inj H
    go_enter Try.func56, Try.ntmps56
    go_wp2
    go_ret
    exact ⟨by first | rfl | (simp; done) | (simp [*]; done), TD⟩
  · rw [if_neg c3] at H
    have c3b0 : decide ((wrap64 (a1 - (l0.length : Int))) < 0) = false := decide_eq_false c3
    clear c3
    obtain rfl := Option.some.inj H
    go_enter Try.func56, Try.ntmps56
    go_wp2
    go_ret
    exact ⟨by first | rfl | (simp; done) | (simp [*]; done), TD⟩

/-! ### laws_szPut: function 36 -/
def laws_szPut.f (a0_0 : Int) (a0_1 : Int) (l0_2 : List Int) (a0_3 : Int) (a0_4 : Int) (a0_5 : Int) (a1 : Int) : Option (Int) := (laws_szByteS.f l0_2 a1).bind fun t102 => (if t102 < 0 then (some (-1)) else (some t102))
set_option maxHeartbeats 40000000 in
set_option maxRecDepth 100000 in
theorem laws_szPut.calls (a0_0 : Int) (a0_1 : Int) (A0_2 : Option Addr) (c0_2 : Nat) (l0_2 : List Int) (a0_3 : Int) (a0_4 : Int) (a0_5 : Int) (a1 : Int) (r : Int) (w : World) (hr0_2 : Kd.C (Kd.int .u8) w A0_2 l0_2.length l0_2) (hc0_2 : l0_2.length ≤ c0_2) (h : laws_szPut.f a0_0 a0_1 l0_2 a0_3 a0_4 a0_5 a1 = some r) :
    Calls Try.prog 36 #[.agg #[.int .i64 a0_0, .int .i64 a0_1, .slice A0_2 l0_2.length c0_2, .int .i64 a0_3, .int .i64 a0_4, .int .i64 a0_5], .int .i64 a1] w fun e w' => e = .returned (.int .i64 r) ∧ Below w.heap.size w w' := by
  have hu51 := Try.underlying51
  have HR0_2 := aM hr0_2
  have HC0_2 := aM hc0_2
  clear hr0_2 hc0_2
  have HB := aM (Below.refl w.heap.size w)
  have H := h
  clear h
  unfold laws_szPut.f at H
  replace H := bE H
  obtain ⟨t102, A3, H⟩ := H
  go_enter Try.func36, Try.ntmps36
  go_wp2_with (first | ((with_reducible refine gate_dst (N := 2) rfl ?_); refine gBx 2 #[.int .i64 a0_0, .int .i64 a0_1, .slice A0_2 l0_2.length c0_2, .int .i64 a0_3, .int .i64 a0_4, .int .i64 a0_5] 51 ?_; intro gb101 hg w4 hbox hb; have BK101 := aM (hbox); have GW101 := aM ((by rw [hg]; exact (below_size TB) : w.heap.size ≤ gb101)); have GE101 := aM ((by rw [hg]; exact (below_size TB) : w.heap.size ≤ gb101)); replace HB := aM (below_step TB hb); clear hb hbox hg; obtain ⟨hcz5_0, hcz5_1, hcz5_2, hcz5_3, hcz5_4, hcz5_5⟩ := cz6 BK101.out; obtain ⟨hfz5_0, hfz5_1, hfz5_2, hfz5_3, hfz5_4, hfz5_5⟩ := fz6 BK101.out) | ((with_reducible refine gate_callee (f := 56) rfl ?_); (with_reducible refine gate_dst (N := 8) rfl ?_); generalize hG_ : wpList _ _ _ _ _ _ = G_))
  subst hG_
  by_cases c6 : t102 < 0
  · rw [if_pos c6] at H
    have c6b0 : decide (t102 < 0) = true := decide_eq_true c6
    clear c6
    obtain rfl := Option.some.inj H
    go_wp2_with (first | ((with_reducible refine gate_callee (f := 56) rfl ?_); refine gL (some 8) Try.func56 #[.slice A0_2 l0_2.length c0_2, .int .i64 a1] ?_; (with_reducible refine (laws_szByteS.calls _ _ l0_2 a1 t102 _ ?side1 ?side2 A3.out).mono ?_); (case side1 => repeat (first | exact (Kd.C_below HR0_2.out TB) | (with_reducible refine Kd.C_alloc ?_ _) | (with_reducible refine Kd.C_drewN ?_ _) | (with_reducible refine Kd.C_drew ?_))); (case side2 => exact HC0_2.out); rintro e w' ⟨rfl, ⟨nd, rfl⟩⟩; refine ⟨_, rfl, ?_⟩))
    go_ret
    exact ⟨by first | rfl | (simp [errW_none, errW_some] <;> rfl) | (simp [*, errW_none, errW_some] <;> rfl), TB⟩
  · rw [if_neg c6] at H
    have c6b0 : decide (t102 < 0) = false := decide_eq_false c6
    clear c6
    obtain rfl := Option.some.inj H
    go_wp2_with (first | ((with_reducible refine gate_callee (f := 56) rfl ?_); refine gL (some 8) Try.func56 #[.slice A0_2 l0_2.length c0_2, .int .i64 a1] ?_; (with_reducible refine (laws_szByteS.calls _ _ l0_2 a1 t102 _ ?side1 ?side2 A3.out).mono ?_); (case side1 => repeat (first | exact (Kd.C_below HR0_2.out TB) | (with_reducible refine Kd.C_alloc ?_ _) | (with_reducible refine Kd.C_drewN ?_ _) | (with_reducible refine Kd.C_drew ?_))); (case side2 => exact HC0_2.out); rintro e w' ⟨rfl, ⟨nd, rfl⟩⟩; refine ⟨_, rfl, ?_⟩))
    go_ret
    exact ⟨by first | rfl | (simp [errW_none, errW_some] <;> rfl) | (simp [*, errW_none, errW_some] <;> rfl), TB⟩

/-! ### laws_szPutS: function 57 -/
def laws_szPutS.l0 : Nat → List (S51) → Int → Int → Option (Int)
  | 0, _, _, _ => none
  | k + 1, x0, x1, x5 => if x5 < (x0.length : Int) then (if 0 ≤ x5 then ((laws_szPut.f ((rd_T51 x0 x5).f0) ((rd_T51 x0 x5).f1) ((rd_T51 x0 x5).f2) ((rd_T51 x0 x5).f3.f0) ((rd_T51 x0 x5).f3.f1) ((rd_T51 x0 x5).f3.f2) x1).bind fun t104 => (if t104 < 0 then (some (-1)) else (laws_szPutS.l0 k x0 t104 (wrap64 (x5 + 1))))) else (none)) else (some x1)
def laws_szPutS.f (k : Nat) (l0 : List (S51)) (a1 : Int) : Option (Int) := if (wrap64 (a1 - (l0.length : Int))) < 0 then (some (-1)) else (laws_szPutS.l0 k l0 (wrap64 (a1 - (l0.length : Int))) 0)
theorem laws_szPutS.mono_l : ∀ k, (∀ y0 y1 y2, LeO (laws_szPutS.l0 k y0 y1 y2) (laws_szPutS.l0 (k + 1) y0 y1 y2))
  | 0 => fun _ _ _ r h => by simp [laws_szPutS.l0] at h
  | k + 1 => by
    have ih0 := laws_szPutS.mono_l k
    · intro y0 y1 y2
      unfold laws_szPutS.l0
      exact LM
theorem laws_szPutS.mono : ∀ a0 a1 k, LeO (laws_szPutS.f k a0 a1) (laws_szPutS.f (k + 1) a0 a1) := by
  intro a0 a1 k
  have ih0 := laws_szPutS.mono_l k
  unfold laws_szPutS.f
  exact LM
set_option maxHeartbeats 40000000 in
set_option maxRecDepth 100000 in
theorem laws_szPutS.calls (k : Nat) (A0 : Option Addr) (c0 : Nat) (l0 : List (S51)) (a1 : Int) (r : Int) (w : World) (hr0 : Kd.C k51 w A0 l0.length l0) (hc0 : l0.length ≤ c0) (h : laws_szPutS.f k l0 a1 = some r) :
    Calls Try.prog 57 #[.slice A0 l0.length c0, .int .i64 a1] w fun e w' => e = .returned (.int .i64 r) ∧ Below w.heap.size w w' := by
  have hu51 := Try.underlying51
  have HR0 := aM hr0
  have HC0 := aM hc0
  clear hr0 hc0
  have HB := aM (Below.refl w.heap.size w)
  have H := h
  clear h
  unfold laws_szPutS.f at H
  by_cases c3 : (wrap64 (a1 - (l0.length : Int))) < 0
  · rw [if_pos c3] at H
    have c3b0 : decide ((wrap64 (a1 - (l0.length : Int))) < 0) = true := decide_eq_true c3
    clear c3
    obtain rfl := Option.some.inj H
    go_enter Try.func57, Try.ntmps57
    go_wp2
    go_ret
    exact ⟨by first | rfl | (simp [errW_none, errW_some] <;> rfl) | (simp [*, errW_none, errW_some] <;> rfl), TB⟩
  · rw [if_neg c3] at H
    have c3b0 : decide ((wrap64 (a1 - (l0.length : Int))) < 0) = false := decide_eq_false c3
    clear c3
    have H' := aM H
    clear H
    go_enter Try.func57, Try.ntmps57
    go_wp2
    go_loopg [1, 5] k (fun kq v1 v5 w' => ∃ (x1_1 : Int) (x5_1 : Int), v1 = .int .i64 x1_1 ∧ v5 = .int .i64 x5_1 ∧ Aside0 (laws_szPutS.l0 kq l0 x1_1 x5_1 = some r) ∧ Aside0 (kq ≤ k) ∧ Aside0 (Below w.heap.size w w'))
    case atStart => exact ⟨(wrap64 (a1 - (l0.length : Int))), (0), (by first | rfl | (simp; done) | (simp [*]; done)), (by first | rfl | (simp; done) | (simp [*]; done)), H', ⟨Nat.le_refl _⟩, ⟨TB⟩⟩
    case round =>
      clear H'
      try clear p2
      try clear c3
      try clear c3b0
      obtain ⟨x1_1, x5_1, rfl, rfl, HA, HK1, HB⟩ := hrel
      cases gk with
      | zero => exact absurd HA.out (by simp [laws_szPutS.l0])
      | succ k1 =>
        have H := HA.out
        clear HA
        simp only [laws_szPutS.l0] at H
        by_cases c4 : x5_1 < (l0.length : Int)
        · rw [if_pos c4] at H
          have c4b0 : decide (x5_1 < (l0.length : Int)) = true := decide_eq_true c4
          clear c4
          replace H := ifN H
          obtain ⟨c5, H⟩ := H
          have c5b0 : decide (0 ≤ x5_1) = true := decide_eq_true c5
          clear c5
          replace H := bE H
          obtain ⟨t104, A6, H⟩ := H
          have p103 : 0 ≤ (x5_1 : Int) := DT
          have q103 : x5_1 < (l0.length : Int) := DT
          obtain ⟨ad103, A103_2, c103_2, e103, hx103_0, hx103_1, hx103_2, hx103_3, hx103_4, hx103_5, hl103_2, hi103_2⟩ := at_T51 HR0.out x5_1 p103 q103
          cases e103
          replace hx103_0 := (HB.out.cell (World.block_lt_of_cell? w _ hx103_0)).trans hx103_0
          replace hx103_1 := (HB.out.cell (World.block_lt_of_cell? w _ hx103_1)).trans hx103_1
          replace hx103_2 := (HB.out.cell (World.block_lt_of_cell? w _ hx103_2)).trans hx103_2
          replace hx103_3 := (HB.out.cell (World.block_lt_of_cell? w _ hx103_3)).trans hx103_3
          replace hx103_4 := (HB.out.cell (World.block_lt_of_cell? w _ hx103_4)).trans hx103_4
          replace hx103_5 := (HB.out.cell (World.block_lt_of_cell? w _ hx103_5)).trans hx103_5
          have HR103_2 := aM hi103_2
          have HC103_2 := aM hl103_2
          clear hi103_2 hl103_2
          replace p103 := eq_true p103
          replace q103 := eq_true q103
          go_wp2_with (first | ((with_reducible refine gate_callee (f := 36) rfl ?_); (with_reducible refine gate_dst (N := 23) rfl ?_); generalize hG_ : wpList _ _ _ _ _ _ = G_))
          subst hG_
          by_cases c7 : t104 < 0
          · rw [if_pos c7] at H
            have c7b0 : decide (t104 < 0) = true := decide_eq_true c7
            clear c7
            obtain rfl := Option.some.inj H
            go_wp2_with (first | ((with_reducible refine gate_callee (f := 36) rfl ?_); refine gL (some 23) Try.func36 #[.agg #[.int .i64 ((rd_T51 l0 x5_1).f0), .int .i64 ((rd_T51 l0 x5_1).f1), .slice A103_2 ((rd_T51 l0 x5_1).f2).length c103_2, .int .i64 ((rd_T51 l0 x5_1).f3.f0), .int .i64 ((rd_T51 l0 x5_1).f3.f1), .int .i64 ((rd_T51 l0 x5_1).f3.f2)], .int .i64 x1_1] ?_; (with_reducible refine (laws_szPut.calls ((rd_T51 l0 x5_1).f0) ((rd_T51 l0 x5_1).f1) _ _ ((rd_T51 l0 x5_1).f2) ((rd_T51 l0 x5_1).f3.f0) ((rd_T51 l0 x5_1).f3.f1) ((rd_T51 l0 x5_1).f3.f2) x1_1 t104 _ ?side1 ?side2 A6.out).mono ?_); (case side1 => repeat (first | exact (Kd.C_below HR103_2.out TB) | (with_reducible refine Kd.C_alloc ?_ _) | (with_reducible refine Kd.C_drewN ?_ _) | (with_reducible refine Kd.C_drew ?_))); (case side2 => exact HC103_2.out); rintro e w8 ⟨rfl, hb⟩; refine ⟨_, rfl, ?_⟩; replace HB := aM (below_step TB hb); clear hb))
            go_ret
            exact ⟨by first | rfl | (simp [errW_none, errW_some] <;> rfl) | (simp [*, errW_none, errW_some] <;> rfl), TB⟩
          · rw [if_neg c7] at H
            have c7b0 : decide (t104 < 0) = false := decide_eq_false c7
            clear c7
            have H' := aM H
            clear H
            go_wp2_with (first | ((with_reducible refine gate_callee (f := 36) rfl ?_); refine gL (some 23) Try.func36 #[.agg #[.int .i64 ((rd_T51 l0 x5_1).f0), .int .i64 ((rd_T51 l0 x5_1).f1), .slice A103_2 ((rd_T51 l0 x5_1).f2).length c103_2, .int .i64 ((rd_T51 l0 x5_1).f3.f0), .int .i64 ((rd_T51 l0 x5_1).f3.f1), .int .i64 ((rd_T51 l0 x5_1).f3.f2)], .int .i64 x1_1] ?_; (with_reducible refine (laws_szPut.calls ((rd_T51 l0 x5_1).f0) ((rd_T51 l0 x5_1).f1) _ _ ((rd_T51 l0 x5_1).f2) ((rd_T51 l0 x5_1).f3.f0) ((rd_T51 l0 x5_1).f3.f1) ((rd_T51 l0 x5_1).f3.f2) x1_1 t104 _ ?side1 ?side2 A6.out).mono ?_); (case side1 => repeat (first | exact (Kd.C_below HR103_2.out TB) | (with_reducible refine Kd.C_alloc ?_ _) | (with_reducible refine Kd.C_drewN ?_ _) | (with_reducible refine Kd.C_drew ?_))); (case side2 => exact HC103_2.out); rintro e w9 ⟨rfl, hb⟩; refine ⟨_, rfl, ?_⟩; replace HB := aM (below_step TB hb); clear hb))
            go_roundg k1
            case measure => have := HK1.out; omega
            case rel => exact ⟨(t104), (wrap64 (x5_1 + 1)), (by first | rfl | (simp; done) | (simp [*]; done)), (by first | rfl | (simp; done) | (simp [*]; done)), H', ⟨by have := HK1.out; omega⟩, ⟨TB⟩⟩
        · rw [if_neg c4] at H
          have c4b0 : decide (x5_1 < (l0.length : Int)) = false := decide_eq_false c4
          clear c4
          obtain rfl := Option.some.inj H
          go_wp2
          go_ret
          exact ⟨by first | rfl | (simp [errW_none, errW_some] <;> rfl) | (simp [*, errW_none, errW_some] <;> rfl), TB⟩

/-! ### laws_szDisk: function 15 -/
def laws_szDisk.f (k : Nat) (l0_0 : List Int) (l0_1 : List Int) (a0_2 : Int) (a0_3 : Int) (a0_4 : Int) (l0_5 : List (S51)) (a1 : Int) : Option (Int) := (laws_szByteS.f l0_0 a1).bind fun t106 => (if t106 < 0 then (some (-1)) else ((laws_szByteS.f l0_1 t106).bind fun t107 => (if t107 < 0 then (some (-1)) else ((laws_szPutS.f k l0_5 t107).bind fun t108 => (if t108 < 0 then (some (-1)) else (some t108))))))
theorem laws_szDisk.mono : ∀ a0 a1 a2 a3 a4 a5 a6 k, LeO (laws_szDisk.f k a0 a1 a2 a3 a4 a5 a6) (laws_szDisk.f (k + 1) a0 a1 a2 a3 a4 a5 a6) := by
  intro a0 a1 a2 a3 a4 a5 a6 k
  have m0_ := @laws_szPutS.mono
  unfold laws_szDisk.f
  exact LM
set_option maxHeartbeats 40000000 in
set_option maxRecDepth 100000 in
theorem laws_szDisk.calls (k : Nat) (A0_0 : Option Addr) (c0_0 : Nat) (l0_0 : List Int) (A0_1 : Option Addr) (c0_1 : Nat) (l0_1 : List Int) (a0_2 : Int) (a0_3 : Int) (a0_4 : Int) (A0_5 : Option Addr) (c0_5 : Nat) (l0_5 : List (S51)) (a1 : Int) (r : Int) (w : World) (hr0_0 : Kd.C (Kd.int .u8) w A0_0 l0_0.length l0_0) (hc0_0 : l0_0.length ≤ c0_0) (hr0_1 : Kd.C (Kd.int .u8) w A0_1 l0_1.length l0_1) (hc0_1 : l0_1.length ≤ c0_1) (hr0_5 : Kd.C k51 w A0_5 l0_5.length l0_5) (hc0_5 : l0_5.length ≤ c0_5) (h : laws_szDisk.f k l0_0 l0_1 a0_2 a0_3 a0_4 l0_5 a1 = some r) :
    Calls Try.prog 15 #[.agg #[.slice A0_0 l0_0.length c0_0, .slice A0_1 l0_1.length c0_1, .int .i64 a0_2, .int .i64 a0_3, .int .i64 a0_4, .slice A0_5 l0_5.length c0_5], .int .i64 a1] w fun e w' => e = .returned (.int .i64 r) ∧ Below w.heap.size w w' := by
  have hu27 := Try.underlying27
  have HR0_0 := aM hr0_0
  have HC0_0 := aM hc0_0
  clear hr0_0 hc0_0
  have HR0_1 := aM hr0_1
  have HC0_1 := aM hc0_1
  clear hr0_1 hc0_1
  have HR0_5 := aM hr0_5
  have HC0_5 := aM hc0_5
  clear hr0_5 hc0_5
  have HB := aM (Below.refl w.heap.size w)
  have H := h
  clear h
  unfold laws_szDisk.f at H
  replace H := bE H
  obtain ⟨t106, A3, H⟩ := H
  go_enter Try.func15, Try.ntmps15
  go_wp2_with (first | ((with_reducible refine gate_dst (N := 2) rfl ?_); refine gBx 2 #[.slice A0_0 l0_0.length c0_0, .slice A0_1 l0_1.length c0_1, .int .i64 a0_2, .int .i64 a0_3, .int .i64 a0_4, .slice A0_5 l0_5.length c0_5] 27 ?_; intro gb105 hg w4 hbox hb; have BK105 := aM (hbox); have GW105 := aM ((by rw [hg]; exact (below_size TB) : w.heap.size ≤ gb105)); have GE105 := aM ((by rw [hg]; exact (below_size TB) : w.heap.size ≤ gb105)); replace HB := aM (below_step TB hb); clear hb hbox hg; obtain ⟨hcz5_0, hcz5_1, hcz5_2, hcz5_3, hcz5_4, hcz5_5⟩ := cz6 BK105.out; obtain ⟨hfz5_0, hfz5_1, hfz5_2, hfz5_3, hfz5_4, hfz5_5⟩ := fz6 BK105.out) | ((with_reducible refine gate_callee (f := 56) rfl ?_); (with_reducible refine gate_dst (N := 8) rfl ?_); generalize hG_ : wpList _ _ _ _ _ _ = G_))
  subst hG_
  by_cases c6 : t106 < 0
  · rw [if_pos c6] at H
    have c6b0 : decide (t106 < 0) = true := decide_eq_true c6
    clear c6
    obtain rfl := Option.some.inj H
    go_wp2_with (first | ((with_reducible refine gate_callee (f := 56) rfl ?_); refine gL (some 8) Try.func56 #[.slice A0_0 l0_0.length c0_0, .int .i64 a1] ?_; (with_reducible refine (laws_szByteS.calls _ _ l0_0 a1 t106 _ ?side1 ?side2 A3.out).mono ?_); (case side1 => repeat (first | exact (Kd.C_below HR0_0.out TB) | (with_reducible refine Kd.C_alloc ?_ _) | (with_reducible refine Kd.C_drewN ?_ _) | (with_reducible refine Kd.C_drew ?_))); (case side2 => exact HC0_0.out); rintro e w' ⟨rfl, ⟨nd, rfl⟩⟩; refine ⟨_, rfl, ?_⟩))
    go_ret
    exact ⟨by first | rfl | (simp [errW_none, errW_some] <;> rfl) | (simp [*, errW_none, errW_some] <;> rfl), TB⟩
  · rw [if_neg c6] at H
    have c6b0 : decide (t106 < 0) = false := decide_eq_false c6
    clear c6
    replace H := bE H
    obtain ⟨t107, A7, H⟩ := H
    go_wp2_with (first | ((with_reducible refine gate_callee (f := 56) rfl ?_); refine gL (some 8) Try.func56 #[.slice A0_0 l0_0.length c0_0, .int .i64 a1] ?_; (with_reducible refine (laws_szByteS.calls _ _ l0_0 a1 t106 _ ?side1 ?side2 A3.out).mono ?_); (case side1 => repeat (first | exact (Kd.C_below HR0_0.out TB) | (with_reducible refine Kd.C_alloc ?_ _) | (with_reducible refine Kd.C_drewN ?_ _) | (with_reducible refine Kd.C_drew ?_))); (case side2 => exact HC0_0.out); rintro e w' ⟨rfl, ⟨nd, rfl⟩⟩; refine ⟨_, rfl, ?_⟩; obtain ⟨hcz8_0, hcz8_1, hcz8_2, hcz8_3, hcz8_4, hcz8_5⟩ := cz6 BK105.out; obtain ⟨hfz8_0, hfz8_1, hfz8_2, hfz8_3, hfz8_4, hfz8_5⟩ := fz6 BK105.out) | ((with_reducible refine gate_callee (f := 56) rfl ?_); (with_reducible refine gate_dst (N := 14) rfl ?_); generalize hG_ : wpList _ _ _ _ _ _ = G_))
    subst hG_
    by_cases c9 : t107 < 0
    · rw [if_pos c9] at H
      have c9b0 : decide (t107 < 0) = true := decide_eq_true c9
      clear c9
      obtain rfl := Option.some.inj H
      go_wp2_with (first | ((with_reducible refine gate_callee (f := 56) rfl ?_); refine gL (some 14) Try.func56 #[.slice A0_1 l0_1.length c0_1, .int .i64 t106] ?_; (with_reducible refine (laws_szByteS.calls _ _ l0_1 t106 t107 _ ?side1 ?side2 A7.out).mono ?_); (case side1 => repeat (first | exact (Kd.C_below HR0_1.out TB) | (with_reducible refine Kd.C_alloc ?_ _) | (with_reducible refine Kd.C_drewN ?_ _) | (with_reducible refine Kd.C_drew ?_))); (case side2 => exact HC0_1.out); rintro e w' ⟨rfl, ⟨nd, rfl⟩⟩; refine ⟨_, rfl, ?_⟩))
      go_ret
      exact ⟨by first | rfl | (simp [errW_none, errW_some] <;> rfl) | (simp [*, errW_none, errW_some] <;> rfl), TB⟩
    · rw [if_neg c9] at H
      have c9b0 : decide (t107 < 0) = false := decide_eq_false c9
      clear c9
      replace H := bE H
      obtain ⟨t108, A10, H⟩ := H
      go_wp2_with (first | ((with_reducible refine gate_callee (f := 56) rfl ?_); refine gL (some 14) Try.func56 #[.slice A0_1 l0_1.length c0_1, .int .i64 t106] ?_; (with_reducible refine (laws_szByteS.calls _ _ l0_1 t106 t107 _ ?side1 ?side2 A7.out).mono ?_); (case side1 => repeat (first | exact (Kd.C_below HR0_1.out TB) | (with_reducible refine Kd.C_alloc ?_ _) | (with_reducible refine Kd.C_drewN ?_ _) | (with_reducible refine Kd.C_drew ?_))); (case side2 => exact HC0_1.out); rintro e w' ⟨rfl, ⟨nd, rfl⟩⟩; refine ⟨_, rfl, ?_⟩; obtain ⟨hcz11_0, hcz11_1, hcz11_2, hcz11_3, hcz11_4, hcz11_5⟩ := cz6 BK105.out; obtain ⟨hfz11_0, hfz11_1, hfz11_2, hfz11_3, hfz11_4, hfz11_5⟩ := fz6 BK105.out) | ((with_reducible refine gate_callee (f := 57) rfl ?_); (with_reducible refine gate_dst (N := 20) rfl ?_); generalize hG_ : wpList _ _ _ _ _ _ = G_))
      subst hG_
      by_cases c12 : t108 < 0
      · rw [if_pos c12] at H
        have c12b0 : decide (t108 < 0) = true := decide_eq_true c12
        clear c12
        obtain rfl := Option.some.inj H
        go_wp2_with (first | ((with_reducible refine gate_callee (f := 57) rfl ?_); refine gL (some 20) Try.func57 #[.slice A0_5 l0_5.length c0_5, .int .i64 t107] ?_; (with_reducible refine (laws_szPutS.calls k _ _ l0_5 t107 t108 _ ?side1 ?side2 A10.out).mono ?_); (case side1 => repeat (first | exact (Kd.C_below HR0_5.out TB) | (with_reducible refine Kd.C_alloc ?_ _) | (with_reducible refine Kd.C_drewN ?_ _) | (with_reducible refine Kd.C_drew ?_))); (case side2 => exact HC0_5.out); rintro e w13 ⟨rfl, hb⟩; refine ⟨_, rfl, ?_⟩; replace BK105 := aM (blk_below (by have X_ := BK105.out; exact TX) hb); replace HB := aM (below_step TB hb); clear hb))
        go_ret
        exact ⟨by first | rfl | (simp [errW_none, errW_some] <;> rfl) | (simp [*, errW_none, errW_some] <;> rfl), TB⟩
      · rw [if_neg c12] at H
        have c12b0 : decide (t108 < 0) = false := decide_eq_false c12
        clear c12
        obtain rfl := Option.some.inj H
        go_wp2_with (first | ((with_reducible refine gate_callee (f := 57) rfl ?_); refine gL (some 20) Try.func57 #[.slice A0_5 l0_5.length c0_5, .int .i64 t107] ?_; (with_reducible refine (laws_szPutS.calls k _ _ l0_5 t107 t108 _ ?side1 ?side2 A10.out).mono ?_); (case side1 => repeat (first | exact (Kd.C_below HR0_5.out TB) | (with_reducible refine Kd.C_alloc ?_ _) | (with_reducible refine Kd.C_drewN ?_ _) | (with_reducible refine Kd.C_drew ?_))); (case side2 => exact HC0_5.out); rintro e w14 ⟨rfl, hb⟩; refine ⟨_, rfl, ?_⟩; replace BK105 := aM (blk_below (by have X_ := BK105.out; exact TX) hb); replace HB := aM (below_step TB hb); clear hb))
        go_ret
        exact ⟨by first | rfl | (simp [errW_none, errW_some] <;> rfl) | (simp [*, errW_none, errW_some] <;> rfl), TB⟩

/-! ### laws_toRecord: function 43 -/
def laws_toRecord.f (a0_0 : Int) (a0_1 : Int) (a0_2 : Int) : Option (Int × Int × Int) := some (a0_0, a0_1, a0_2)
set_option maxHeartbeats 40000000 in
set_option maxRecDepth 100000 in
theorem laws_toRecord.calls (ab : Int) (ac : Int) (ad : Int) (r1 : Int) (r2 : Int) (r3 : Int) (w : World) (h : laws_toRecord.f ab ac ad = some (r1, r2, r3)) :
  Calls Try.prog 43 #[.agg #[.int .i64 ab, .int .i64 ac, .int .i64 ad]] w fun e w' => e = .returned (.agg #[.int .i64 r1, .int .i64 r2, .int .i64 r3]) ∧ Below w.heap.size w w' := by
 have hu24 := Try.underlying24
 have hu30 := Try.underlying30
 have HB := aM (Below.refl w.heap.size w)
 have H := h
 clear h
 unfold laws_toRecord.f at H
 simp only [Option.some.injEq, Prod.mk.injEq] at H
 obtain ⟨rfl, rfl, rfl⟩ := H
 go_enter Try.func43, Try.ntmps43
 go_wp2_with (first | ((with_reducible refine gate_dst (N := 1) rfl ?_); refine gBx 1 #[.int .i64 ab, .int .i64 ac, .int .i64 ad] 24 ?_; intro aa hg w2 hbox hb; have BK115 := aM (hbox); have GW115 := aM ((by rw [hg]; exact (below_size TB) : w.heap.size ≤ aa)); have GE115 := aM ((by rw [hg]; exact (below_size TB) : w.heap.size ≤ aa)); replace HB := aM (below_step TB hb); clear hb hbox hg) | ((with_reducible refine gate_dst (N := 2) rfl ?_); refine gBx 2 #[.int .i64 0, .int .i64 0, .int .i64 0] 30 ?_; intro gb116 hg w3 hbox hb; have BK116 := aM (hbox); have GW116 := aM ((by rw [hg]; exact (below_size TB) : w.heap.size ≤ gb116)); have GE116 := aM ((by rw [hg]; exact (below_size TB) : w.heap.size ≤ gb116)); have NB115_116 := aM ((by rw [hg]; exact Nat.ne_of_lt (blk_lt (by have X_ := BK115.out; exact TX)) : aa ≠ gb116)); have NB116_115 := aM ((by rw [hg]; exact Nat.ne_of_gt (blk_lt (by have X_ := BK115.out; exact TX)) : gb116 ≠ aa)); replace BK115 := aM (blk_below (by have X_ := BK115.out; exact TX) hb); replace HB := aM (below_step TB hb); clear hb hbox hg) | ((with_reducible refine gate_dst (N := 3) rfl ?_); refine gBx 3 #[.int .i64 0, .int .i64 0, .int .i64 0] 30 ?_; intro gb117 hg w4 hbox hb; have BK117 := aM (hbox); have GW117 := aM ((by rw [hg]; exact (below_size TB) : w.heap.size ≤ gb117)); have GE117 := aM ((by rw [hg]; exact (below_size TB) : w.heap.size ≤ gb117)); have NB115_117 := aM ((by rw [hg]; exact Nat.ne_of_lt (blk_lt (by have X_ := BK115.out; exact TX)) : aa ≠ gb117)); have NB117_115 := aM ((by rw [hg]; exact Nat.ne_of_gt (blk_lt (by have X_ := BK115.out; exact TX)) : gb117 ≠ aa)); have NB116_117 := aM ((by rw [hg]; exact Nat.ne_of_lt (blk_lt (by have X_ := BK116.out; exact TX)) : gb116 ≠ gb117)); have NB117_116 := aM ((by rw [hg]; exact Nat.ne_of_gt (blk_lt (by have X_ := BK116.out; exact TX)) : gb117 ≠ gb116)); replace BK115 := aM (blk_below (by have X_ := BK115.out; exact TX) hb); replace BK116 := aM (blk_below (by have X_ := BK116.out; exact TX) hb); replace HB := aM (below_step TB hb); clear hb hbox hg; have hnb5 := NB115_116.out; have hnc5 := NB116_115.out; have hnb6 := NB115_117.out; have hnc6 := NB117_115.out; obtain ⟨hcz7_0, hcz7_1, hcz7_2⟩ := cz3 BK115.out; obtain ⟨hfz7_0, hfz7_1, hfz7_2⟩ := fz3 BK115.out; have hnb8 := NB117_116.out; have hnc8 := NB116_117.out; obtain ⟨hcz9_0, hcz9_1, hcz9_2⟩ := cz3 BK117.out; obtain ⟨hfz9_0, hfz9_1, hfz9_2⟩ := fz3 BK117.out; obtain ⟨hcz10_0, hcz10_1, hcz10_2⟩ := cz3 BK116.out; obtain ⟨hfz10_0, hfz10_1, hfz10_2⟩ := fz3 BK116.out))
 refine bodyPost_ret (results_cell_row rfl _ _ gb116 30 #[.int .i64 ab, .int .i64 ac, .int .i64 ad] (0, 0) _ rfl (by (with_reducible repeat (first | refine blk_drewN ?_ _ | refine blk_drew ?_ | refine blk_alloc ?_ _)); refine blk_put (cs := #[.int .i64 ab, .int .i64 ac, .int .i64 0]) ?_ 2 _ rfl; (with_reducible repeat (first | refine blk_drewN ?_ _ | refine blk_drew ?_ | refine blk_alloc ?_ _)); refine blk_put (cs := #[.int .i64 ab, .int .i64 0, .int .i64 0]) ?_ 1 _ rfl; (with_reducible repeat (first | refine blk_drewN ?_ _ | refine blk_drew ?_ | refine blk_alloc ?_ _)); refine blk_put (cs := #[.int .i64 0, .int .i64 0, .int .i64 0]) ?_ 0 _ rfl; (with_reducible repeat (first | refine blk_drewN ?_ _ | refine blk_drew ?_ | refine blk_alloc ?_ _)); refine blk_far ?_ NB116_117.out _; (with_reducible repeat (first | refine blk_drewN ?_ _ | refine blk_drew ?_ | refine blk_alloc ?_ _)); refine blk_far ?_ NB116_117.out _; (with_reducible repeat (first | refine blk_drewN ?_ _ | refine blk_drew ?_ | refine blk_alloc ?_ _)); refine blk_far ?_ NB116_117.out _; (with_reducible repeat (first | refine blk_drewN ?_ _ | refine blk_drew ?_ | refine blk_alloc ?_ _)); exact BK116.out) Try.underlying30 rfl (by kernel_rfl)) rfl ?_
 exact ⟨by first | rfl | (simp [errW_none, errW_some] <;> rfl) | (simp [*, errW_none, errW_some] <;> rfl), TB⟩

end Go.Proofs.Ytogilihkphjjbaa.Q
