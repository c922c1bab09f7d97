/- Functions of the program as plain Lean functions, and that a call of each comes to what its function tells. Written by a program of this seat. -/
import Derived.Test.YtogilihkphjjbaaQ0
import Derived.Test.YtogilihkphjjbaaQ21
namespace Go.Proofs.Ytogilihkphjjbaa.Q
open Go.RowKit Go.Proofs.YtogilihkphjjbaaW.PrintWords Go.Proofs.YtogilihkphjjbaaW.PrintLast Go.Proofs.YtogilihkphjjbaaW.PrintMore
attribute [local go_sem] max2_int min2_int max_two min_two max_three min_three max_four min_four   -- for this text's walks alone
set_option linter.unusedVariables false
set_option linter.unusedSimpArgs false

/-! ### impl_DiskOk_1: function 72 -/
def impl_DiskOk_1.f (a0_0 : Int) (a0_1 : Int) (l0_2 : List Int) (a0_3 : Int) (a0_4 : Int) (a0_5 : Int) : Option (Bool) := (impl_isPut.f a0_0 a0_1 l0_2 a0_3 a0_4 a0_5).bind fun t324 => (some (!t324))
set_option maxHeartbeats 40000000 in
set_option maxRecDepth 100000 in
theorem impl_DiskOk_1.calls (a0_0 : Int) (a0_1 : Int) (A0_2 : Option Addr) (c0_2 : Nat) (l0_2 : List Int) (a0_3 : Int) (a0_4 : Int) (a0_5 : Int) (r : Bool) (w : World) (hr0_2 : Kd.C (Kd.int .u8) w A0_2 l0_2.length l0_2) (hc0_2 : l0_2.length ≤ c0_2) (h : impl_DiskOk_1.f a0_0 a0_1 l0_2 a0_3 a0_4 a0_5 = some r) :
    Calls Try.prog 72 #[.agg #[.int .i64 a0_0, .int .i64 a0_1, .slice A0_2 l0_2.length c0_2, .int .i64 a0_3, .int .i64 a0_4, .int .i64 a0_5]] w fun e w' => e = .returned (.bool r) ∧ Below w.heap.size w w' := by
  have hu55 := Try.underlying55
  have HR0_2 := aM hr0_2
  have HC0_2 := aM hc0_2
  clear hr0_2 hc0_2
  have HB := aM (Below.refl w.heap.size w)
  have H := h
  clear h
  unfold impl_DiskOk_1.f at H
  replace H := bE H
  obtain ⟨t324, A2, H⟩ := H
  obtain rfl := Option.some.inj H
  go_enter Try.func72, Try.ntmps72
  go_wp2_with (first | ((with_reducible refine gate_dst (N := 1) rfl ?_); refine gBx 1 #[.int .i64 a0_0, .int .i64 a0_1, .slice A0_2 l0_2.length c0_2, .int .i64 a0_3, .int .i64 a0_4, .int .i64 a0_5] 55 ?_; intro gb323 hg w3 hbox hb; have BK323 := aM (hbox); have GW323 := aM ((by rw [hg]; exact (below_size TB) : w.heap.size ≤ gb323)); have GE323 := aM ((by rw [hg]; exact (below_size TB) : w.heap.size ≤ gb323)); replace HB := aM (below_step TB hb); clear hb hbox hg; obtain ⟨hcz4_0, hcz4_1, hcz4_2, hcz4_3, hcz4_4, hcz4_5⟩ := cz6 BK323.out; obtain ⟨hfz4_0, hfz4_1, hfz4_2, hfz4_3, hfz4_4, hfz4_5⟩ := fz6 BK323.out) | ((with_reducible refine gate_callee (f := 73) rfl ?_); refine gL (some 4) Try.func73 #[.agg #[.int .i64 a0_0, .int .i64 a0_1, .slice A0_2 l0_2.length c0_2, .int .i64 a0_3, .int .i64 a0_4, .int .i64 a0_5]] ?_; (with_reducible refine (impl_isPut.calls a0_0 a0_1 _ _ l0_2 a0_3 a0_4 a0_5 t324 _ ?side1 ?side2 A2.out).mono ?_); (case side1 => have X_ := (Kd.C_below HR0_2.out HB.out); exact TC); (case side2 => exact HC0_2.out); rintro e w5 ⟨rfl, hb⟩; refine ⟨_, rfl, ?_⟩; replace BK323 := aM (blk_below (by have X_ := BK323.out; exact TX) hb); replace HB := aM (below_step TB hb); clear hb))
  go_ret
  exact ⟨by first | rfl | (simp [errW_none, errW_some] <;> rfl) | (simp [*, errW_none, errW_some] <;> rfl), TB⟩

/-! ### impl_Put_90: function 90 -/
def impl_Put_90.l0 : Nat → List (S55) → Int → Int → Option (Int)
  | 0, _, _, _ => none
  | k + 1, x0, x7, x8 => if x8 < x7 then (if 0 ≤ x8 then (if x8 < (x0.length : Int) then ((impl_DiskOk_1.f ((rd_T55 x0 x8).f0) ((rd_T55 x0 x8).f1) ((rd_T55 x0 x8).f2) ((rd_T55 x0 x8).f3.f0) ((rd_T55 x0 x8).f3.f1) ((rd_T55 x0 x8).f3.f2)).bind fun t326 => (if t326 = true then (some x8) else (impl_Put_90.l0 k x0 x7 (wrap64 (x8 + 1))))) else (none)) else (none)) else (some (-1))
def impl_Put_90.f (k : Nat) (l0 : List (S55))  : Option (Int) := impl_Put_90.l0 k l0 (l0.length : Int) 0
theorem impl_Put_90.mono_l : ∀ k, (∀ y0 y1 y2, LeO (impl_Put_90.l0 k y0 y1 y2) (impl_Put_90.l0 (k + 1) y0 y1 y2))
  | 0 => fun _ _ _ r h => by simp [impl_Put_90.l0] at h
  | k + 1 => by
    have ih0 := impl_Put_90.mono_l k
    · intro y0 y1 y2
      unfold impl_Put_90.l0
      exact LM
theorem impl_Put_90.mono : ∀ a0 k, LeO (impl_Put_90.f k a0) (impl_Put_90.f (k + 1) a0) := by
  intro a0 k
  have ih0 := impl_Put_90.mono_l k
  unfold impl_Put_90.f
  exact LM
set_option maxHeartbeats 40000000 in
set_option maxRecDepth 100000 in
theorem impl_Put_90.calls (k : Nat) (A0 : Option Addr) (c0 : Nat) (l0 : List (S55))  (r : Int) (w : World) (hr0 : Kd.C k55 w A0 l0.length l0) (hc0 : l0.length ≤ c0) (h : impl_Put_90.f k l0 = some r) :
    Calls Try.prog 90 #[.slice A0 l0.length c0, .func (.func 72) #[] #[]] w fun e w' => e = .returned (.int .i64 r) ∧ Below w.heap.size w w' := by
  have hu55 := Try.underlying55
  have HR0 := aM hr0
  have HC0 := aM hc0
  clear hr0 hc0
  have HB := aM (Below.refl w.heap.size w)
  have H := h
  clear h
  unfold impl_Put_90.f at H
  have H' := aM H
  clear H
  go_enter Try.func90, Try.ntmps90
  go_wp2
  go_loopg [8] k (fun kq v8 w' => ∃ (x8_1 : Int), v8 = .int .i64 x8_1 ∧ Aside0 (impl_Put_90.l0 kq l0 (l0.length : Int) x8_1 = some r) ∧ Aside0 (kq ≤ k) ∧ Aside0 (Below w.heap.size w w'))
  case atStart => exact ⟨(0), (by first | rfl | (simp; done) | (simp [*]; done)), H', ⟨Nat.le_refl _⟩, ⟨TB⟩⟩
  case round =>
    clear H'
    try clear p2
    obtain ⟨x8_1, rfl, HA, HK1, HB⟩ := hrel
    cases gk with
    | zero => exact absurd HA.out (by simp [impl_Put_90.l0])
    | succ k1 =>
      have H := HA.out
      clear HA
      simp only [impl_Put_90.l0] at H
      by_cases c3 : x8_1 < (l0.length : Int)
      · rw [if_pos c3] at H
        have c3b0 : decide (x8_1 < (l0.length : Int)) = true := decide_eq_true c3
        clear c3
        replace H := ifN H
        obtain ⟨c4, H⟩ := H
        have c4b0 : decide (0 ≤ x8_1) = true := decide_eq_true c4
        clear c4
        replace H := ifN H
        obtain ⟨c5, H⟩ := H
        have c5b0 : decide (x8_1 < (l0.length : Int)) = true := decide_eq_true c5
        clear c5
        replace H := bE H
        obtain ⟨t326, A6, H⟩ := H
        by_cases c7 : t326 = true
        · subst c7
          replace H := ifT H
          obtain rfl := Option.some.inj H
          have p325 : 0 ≤ (x8_1 : Int) := DT
          have q325 : x8_1 < (l0.length : Int) := DT
          obtain ⟨ad325, A325_2, c325_2, e325, hx325_0, hx325_1, hx325_2, hx325_3, hx325_4, hx325_5, hl325_2, hi325_2⟩ := at_T55 HR0.out x8_1 p325 q325
          cases e325
          replace hx325_0 := (HB.out.cell (World.block_lt_of_cell? w _ hx325_0)).trans hx325_0
          replace hx325_1 := (HB.out.cell (World.block_lt_of_cell? w _ hx325_1)).trans hx325_1
          replace hx325_2 := (HB.out.cell (World.block_lt_of_cell? w _ hx325_2)).trans hx325_2
          replace hx325_3 := (HB.out.cell (World.block_lt_of_cell? w _ hx325_3)).trans hx325_3
          replace hx325_4 := (HB.out.cell (World.block_lt_of_cell? w _ hx325_4)).trans hx325_4
          replace hx325_5 := (HB.out.cell (World.block_lt_of_cell? w _ hx325_5)).trans hx325_5
          have HR325_2 := aM hi325_2
          have HC325_2 := aM hl325_2
          clear hi325_2 hl325_2
          replace p325 := eq_true p325
          replace q325 := eq_true q325
          go_wp2_with (first | fail)
          (with_reducible refine (impl_DiskOk_1.calls ((rd_T55 l0 x8_1).f0) ((rd_T55 l0 x8_1).f1) _ _ ((rd_T55 l0 x8_1).f2) ((rd_T55 l0 x8_1).f3.f0) ((rd_T55 l0 x8_1).f3.f1) ((rd_T55 l0 x8_1).f3.f2) true _ ?side1 ?side2 A6.out).mono ?_)
          (case side1 => have X_ := (Kd.C_below HR325_2.out HB.out); exact TC)
          (case side2 => exact HC325_2.out)
          rintro e w8 ⟨rfl, hb⟩
          (try dsimp only)
          replace HB := aM (below_step TB hb)
          clear hb
          go_wp2_with (first | fail)
          go_ret
          exact ⟨by first | rfl | (simp [errW_none, errW_some] <;> rfl) | (simp [*, errW_none, errW_some] <;> rfl), TB⟩
        · replace c7 := Bool.eq_false_iff.mpr c7
          subst c7
          replace H := ifF H
          have H' := aM H
          clear H
          have p325 : 0 ≤ (x8_1 : Int) := DT
          have q325 : x8_1 < (l0.length : Int) := DT
          obtain ⟨ad325, A325_2, c325_2, e325, hx325_0, hx325_1, hx325_2, hx325_3, hx325_4, hx325_5, hl325_2, hi325_2⟩ := at_T55 HR0.out x8_1 p325 q325
          cases e325
          replace hx325_0 := (HB.out.cell (World.block_lt_of_cell? w _ hx325_0)).trans hx325_0
          replace hx325_1 := (HB.out.cell (World.block_lt_of_cell? w _ hx325_1)).trans hx325_1
          replace hx325_2 := (HB.out.cell (World.block_lt_of_cell? w _ hx325_2)).trans hx325_2
          replace hx325_3 := (HB.out.cell (World.block_lt_of_cell? w _ hx325_3)).trans hx325_3
          replace hx325_4 := (HB.out.cell (World.block_lt_of_cell? w _ hx325_4)).trans hx325_4
          replace hx325_5 := (HB.out.cell (World.block_lt_of_cell? w _ hx325_5)).trans hx325_5
          have HR325_2 := aM hi325_2
          have HC325_2 := aM hl325_2
          clear hi325_2 hl325_2
          replace p325 := eq_true p325
          replace q325 := eq_true q325
          go_wp2_with (first | fail)
          (with_reducible refine (impl_DiskOk_1.calls ((rd_T55 l0 x8_1).f0) ((rd_T55 l0 x8_1).f1) _ _ ((rd_T55 l0 x8_1).f2) ((rd_T55 l0 x8_1).f3.f0) ((rd_T55 l0 x8_1).f3.f1) ((rd_T55 l0 x8_1).f3.f2) false _ ?side1 ?side2 A6.out).mono ?_)
          (case side1 => have X_ := (Kd.C_below HR325_2.out HB.out); exact TC)
          (case side2 => exact HC325_2.out)
          rintro e w9 ⟨rfl, hb⟩
          (try dsimp only)
          replace HB := aM (below_step TB hb)
          clear hb
          go_wp2_with (first | fail)
          go_roundg k1
          case measure => have := HK1.out; omega
          case rel => exact ⟨(wrap64 (x8_1 + 1)), (by first | rfl | (simp; done) | (simp [*]; done)), H', ⟨by have := HK1.out; omega⟩, ⟨TB⟩⟩
      · rw [if_neg c3] at H
        have c3b0 : decide (x8_1 < (l0.length : Int)) = false := decide_eq_false c3
        clear c3
        obtain rfl := Option.some.inj H
        go_wp2
        go_ret
        exact ⟨by first | rfl | (simp [errW_none, errW_some] <;> rfl) | (simp [*, errW_none, errW_some] <;> rfl), TB⟩

/-! ### impl_Put_71: function 71 -/
def impl_Put_71.f (k : Nat) (l0 : List (S55))  : Option (Bool) := (impl_Put_90.f k l0).bind fun t327 => (some (decide (t327 ≥ 0)))
theorem impl_Put_71.mono : ∀ a0 k, LeO (impl_Put_71.f k a0) (impl_Put_71.f (k + 1) a0) := by
  intro a0 k
  have m0_ := @impl_Put_90.mono
  unfold impl_Put_71.f
  exact LM
set_option maxHeartbeats 40000000 in
set_option maxRecDepth 100000 in
theorem impl_Put_71.calls (k : Nat) (A0 : Option Addr) (c0 : Nat) (l0 : List (S55))  (r : Bool) (w : World) (hr0 : Kd.C k55 w A0 l0.length l0) (hc0 : l0.length ≤ c0) (h : impl_Put_71.f k l0 = some r) :
    Calls Try.prog 71 #[.slice A0 l0.length c0, .func (.func 72) #[] #[]] w fun e w' => e = .returned (.bool r) ∧ Below w.heap.size w w' := by
  have HR0 := aM hr0
  have HC0 := aM hc0
  clear hr0 hc0
  have HB := aM (Below.refl w.heap.size w)
  have H := h
  clear h
  unfold impl_Put_71.f at H
  replace H := bE H
  obtain ⟨t327, A3, H⟩ := H
  obtain rfl := Option.some.inj H
  go_enter Try.func71, Try.ntmps71
  go_wp2_with (first | ((with_reducible refine gate_callee (f := 90) rfl ?_); refine gL (some 7) Try.func90 #[.slice A0 l0.length c0, .func (.func 72) #[] #[]] ?_; (with_reducible refine (impl_Put_90.calls k _ _ l0  t327 _ ?side1 ?side2 A3.out).mono ?_); (case side1 => have X_ := HR0.out; exact TC); (case side2 => exact HC0.out); rintro e w4 ⟨rfl, hb⟩; refine ⟨_, rfl, ?_⟩; replace HB := aM (below_step TB hb); clear hb))
  go_ret
  exact ⟨by first | rfl | (simp [errW_none, errW_some] <;> rfl) | (simp [*, errW_none, errW_some] <;> rfl), TB⟩

end Go.Proofs.Ytogilihkphjjbaa.Q
