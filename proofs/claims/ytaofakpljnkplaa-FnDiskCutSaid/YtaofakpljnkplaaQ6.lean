/- Functions of the program as plain Lean functions, and that a call of each comes to what its function tells. Written by a program of this seat. -/
import Derived.Test.YtaofakpljnkplaaQ0
import Derived.Test.YtaofakpljnkplaaQ4
namespace Go.Proofs.Ytaofakpljnkplaa.Q
open Go.RowKit Go.Proofs.YtaofakpljnkplaaW.PrintWords Go.Proofs.YtaofakpljnkplaaW.PrintLast Go.Proofs.YtaofakpljnkplaaW.PrintMore
attribute [local go_sem] min2_int min_two
set_option linter.unusedVariables false
set_option linter.unusedSimpArgs false

def impl_BlockAt.f (l0 : List Int) (a1 : Int) (a2 : Int) : Option (List Int × Bool) := (impl_SpanOf.f a1 (l0.length : Int) a2).bind fun bt170 => (if bt170.2 = 0 then (some (([] : List Int), false)) else ((impl_Slice.f l0 bt170.1 bt170.2).bind fun bt172 => (some (bt172.1, bt172.2))))
set_option maxHeartbeats 40000000 in
set_option maxRecDepth 100000 in
theorem impl_BlockAt.calls {A0 : Option Addr} {c0 : Nat} {l0 : List Int} {a1 : Int} {a2 : Int} {r1 : List Int} {r2 : Bool} {w : World} (hr0 : Kd.C (Kd.int .u8) w A0 l0.length l0) (hc0 : l0.length ≤ c0) (h : impl_BlockAt.f l0 a1 a2 = some (r1, r2)) :
    Calls Try.prog 11 #[.slice A0 l0.length c0, .int .i64 a1, .int .i64 a2] w fun e w' => ∃ v0_ : Value, e = .returned (.tuple #[v0_, .bool r2]) ∧ Kd.R (Kd.int .u8) 5 w' w.heap.size (fun _ => True) v0_ r1 ∧ Below w.heap.size w w' := by
  have HR0 := aM hr0
  have HC0 := aM hc0
  clear hr0 hc0
  have HB := aM (Below.refl w.heap.size w)
  have H := h
  clear h
  unfold impl_BlockAt.f at H
  replace H := bE H
  obtain ⟨⟨t170, t171⟩, A4, H⟩ := H
  dsimp only at H
  by_cases c5 : t171 = 0
  · rw [if_pos c5] at H
    have c5b0 : (t171 == 0) = true := beq_iff_eq.mpr c5
    have c5b1 : (t171 != 0) = false := bne_eq_false_iff_eq.mpr c5
    clear c5
    simp only [Option.some.injEq, Prod.mk.injEq] at H
    obtain ⟨rfl, rfl⟩ := H
    go_enter Try.func11, Try.ntmps11
    go_wp2_with (first | ((with_reducible refine gate_callee (f := 36) rfl ?_); refine gL (some 15) Try.func36 #[.int .i64 a1, .int .i64 (l0.length : Int), .int .i64 a2] ?_; (with_reducible refine (impl_SpanOf.calls A4.out).mono ?_); rintro e w6 ⟨rfl, hb⟩; refine ⟨_, rfl, ?_⟩; replace HB := bS HB hb; clear hb))
    go_ret2
    exact ⟨_, TE, by first | exact Kd.R_nil _ _ _ _ _ | exact Kd.N_nil _ _ _ _ _ | exact Kd.V_nil _ _ _ _ _ | exact Kd.Q_nil _ _ _ _ _ | exact Kd.S_nil _ _ _ _ _, TB⟩
  · rw [if_neg c5] at H
    have c5b0 : (t171 == 0) = false := beq_eq_false_iff_ne.mpr c5
    have c5b1 : (t171 != 0) = true := bne_iff_ne.mpr c5
    replace H := bE H
    obtain ⟨⟨t172, t173⟩, A7, H⟩ := H
    dsimp only at H
    simp only [Option.some.injEq, Prod.mk.injEq] at H
    obtain ⟨rfl, rfl⟩ := H
    go_enter Try.func11, Try.ntmps11
    go_wp2_with (first | ((with_reducible refine gate_callee (f := 36) rfl ?_); refine gL (some 15) Try.func36 #[.int .i64 a1, .int .i64 (l0.length : Int), .int .i64 a2] ?_; (with_reducible refine (impl_SpanOf.calls A4.out).mono ?_); rintro e w8 ⟨rfl, hb⟩; refine ⟨_, rfl, ?_⟩; replace HB := bS HB hb; clear hb) | ((with_reducible refine gate_callee (f := 37) rfl ?_); refine gL (some 23) Try.func37 #[.slice A0 l0.length c0, .int .i64 t170, .int .i64 t171] ?_; (with_reducible refine (impl_Slice.calls ?side1 ?side2 A7.out).mono ?_); (case side1 => have X_ := (Kd.C_below HR0.out HB.out); exact TC); (case side2 => exact HC0.out); rintro e w9 ⟨v174, rfl, ho0, hb⟩; refine ⟨_, rfl, ?_⟩; have HO175 := aM (Kd.R_lower ho0 (below_size TB)); replace HB := bS HB hb; clear ho0 hb))
    go_ret2
    exact ⟨_, TE, by have X_ := HO175.out; exact TR, TB⟩

def impl_Wrap.f (a0 : Int) (a1 : Int) : Option (Int) := (impl_within.f a1 1 1000000000000).bind fun t176 => (if t176 = true then (if a1 = 0 then (none) else (some (Int.tmod (wrap64 ((Int.tmod a0 a1) + a1)) a1))) else (some 0))
set_option maxHeartbeats 40000000 in
set_option maxRecDepth 100000 in
theorem impl_Wrap.calls {a0 : Int} {a1 : Int} {r : Int} {w : World} (h : impl_Wrap.f a0 a1 = some r) :
    Calls Try.prog 93 #[.int .i64 a0, .int .i64 a1] w fun e w' => e = .returned (.int .i64 r) ∧ Drawn0 w w' := by
  have H := h
  clear h
  unfold impl_Wrap.f at H
  replace H := bE H
  obtain ⟨t176, A3, H⟩ := H
  by_cases c4 : t176 = true
  · subst c4
    replace H := ifT H
    replace H := ifM H
    obtain ⟨c5, H⟩ := H
    have c5b0 : (a1 == 0) = false := beq_eq_false_iff_ne.mpr c5
    have c5b1 : (a1 != 0) = true := bne_iff_ne.mpr c5
    obtain rfl := o_I H
    go_enter Try.func93, Try.ntmps93
    go_wp2_with (first | ((with_reducible refine gate_callee (f := 31) rfl ?_); refine gL (some 6) Try.func31 #[.int .i64 a1, .int .i64 1, .int .i64 1000000000000] ?_; (with_reducible refine (impl_within.calls A3.out).mono ?_); rintro e w' ⟨rfl, ⟨nd, rfl⟩⟩; refine ⟨_, rfl, ?_⟩))
    go_ret
    exact ⟨by first | rfl | (simp; done) | (simp [*]; done), TD⟩
  · replace c4 := b_F c4
    subst c4
    replace H := ifF H
    obtain rfl := o_I H
    go_enter Try.func93, Try.ntmps93
    go_wp2_with (first | ((with_reducible refine gate_callee (f := 31) rfl ?_); refine gL (some 6) Try.func31 #[.int .i64 a1, .int .i64 1, .int .i64 1000000000000] ?_; (with_reducible refine (impl_within.calls A3.out).mono ?_); rintro e w' ⟨rfl, ⟨nd, rfl⟩⟩; refine ⟨_, rfl, ?_⟩))
    go_ret
    exact ⟨by first | rfl | (simp; done) | (simp [*]; done), TD⟩

def impl_weak.f (a0 : Int) (a1 : Int) : Option (Int) := (impl_Wrap.f a0 251).bind fun t177 => ((impl_Wrap.f a1 251).bind fun t178 => (some (wrap64 (t177 + (wrap64 (251 * t178))))))
set_option maxHeartbeats 40000000 in
set_option maxRecDepth 100000 in
theorem impl_weak.calls {a0 : Int} {a1 : Int} {r : Int} {w : World} (h : impl_weak.f a0 a1 = some r) :
    Calls Try.prog 83 #[.int .i64 a0, .int .i64 a1] w fun e w' => e = .returned (.int .i64 r) ∧ Drawn0 w w' := by
  have H := h
  clear h
  unfold impl_weak.f at H
  replace H := bE H
  obtain ⟨t177, A3, H⟩ := H
  replace H := bE H
  obtain ⟨t178, A4, H⟩ := H
  obtain rfl := o_I H
  go_enter Try.func83, Try.ntmps83
  go_wp2_with (first | ((with_reducible refine gate_callee (f := 93) rfl ?_); refine gL (some 6) Try.func93 #[.int .i64 a0, .int .i64 251] ?_; (with_reducible refine (impl_Wrap.calls A3.out).mono ?_); rintro e w' ⟨rfl, ⟨nd, rfl⟩⟩; refine ⟨_, rfl, ?_⟩) | ((with_reducible refine gate_callee (f := 93) rfl ?_); refine gL (some 8) Try.func93 #[.int .i64 a1, .int .i64 251] ?_; (with_reducible refine (impl_Wrap.calls A4.out).mono ?_); rintro e w' ⟨rfl, ⟨nd, rfl⟩⟩; refine ⟨_, rfl, ?_⟩))
  go_ret
  exact ⟨by first | rfl | (simp; done) | (simp [*]; done), TD⟩

def impl_WeakOf.l0 : Nat → Int → Int → List Int → Int → Int → Option (Int)
  | 0, _, _, _, _, _ => none
  | k + 1, x3, x4, x7, x8, x9 => if x9 < x8 then (if 0 ≤ x9 then (if x9 < (x7.length : Int) then (impl_WeakOf.l0 k (Int.tmod (wrap64 (x3 + (wrap64 (rd x7 x9)))) 251) (Int.tmod (wrap64 (x4 + (Int.tmod (wrap64 (x3 + (wrap64 (rd x7 x9)))) 251))) 251) x7 x8 (wrap64 (x9 + 1))) else (none)) else (none)) else ((impl_weak.f x3 x4).bind fun t180 => (some t180))
def impl_WeakOf.f (k : Nat) (l0 : List Int) : Option (Int) := impl_WeakOf.l0 k 0 0 l0 (l0.length : Int) 0
theorem impl_WeakOf.mono_l : ∀ k, (∀ y0 y1 y2 y3 y4, LeO (impl_WeakOf.l0 k y0 y1 y2 y3 y4) (impl_WeakOf.l0 (k + 1) y0 y1 y2 y3 y4))
  | 0 => fun _ _ _ _ _ r h => by simp [impl_WeakOf.l0] at h
  | k + 1 => by
    have ih0 := impl_WeakOf.mono_l k
    · intro y0 y1 y2 y3 y4
      unfold impl_WeakOf.l0
      exact LM
theorem impl_WeakOf.mono : ∀ a0 k, LeO (impl_WeakOf.f k a0) (impl_WeakOf.f (k + 1) a0) := by
  intro a0 k;have ih0 := impl_WeakOf.mono_l k;unfold impl_WeakOf.f;exact LM
set_option maxHeartbeats 40000000 in
set_option maxRecDepth 100000 in
theorem impl_WeakOf.calls {k : Nat} {A0 : Option Addr} {c0 : Nat} {l0 : List Int} {r : Int} {w : World} (hr0 : Kd.C (Kd.int .u8) w A0 l0.length l0) (hc0 : l0.length ≤ c0) (h : impl_WeakOf.f k l0 = some r) :
    Calls Try.prog 63 #[.slice A0 l0.length c0] w fun e w' => e = .returned (.int .i64 r) ∧ Drawn0 w w' := by
  have HR0 := aM hr0
  have HC0 := aM hc0
  clear hr0 hc0
  have H := h
  clear h
  unfold impl_WeakOf.f at H
  have H' := aM H
  clear H
  go_enter Try.func63, Try.ntmps63
  go_wp2
  go_loopg [3, 4, 9] k (fun kq v3 v4 v9 w' => ∃ (x3_1 : Int) (x4_1 : Int) (x9_1 : Int), v3 = .int .i64 x3_1 ∧ v4 = .int .i64 x4_1 ∧ v9 = .int .i64 x9_1 ∧ Aside0 (impl_WeakOf.l0 kq x3_1 x4_1 l0 (l0.length : Int) x9_1 = some r) ∧ Aside0 (kq ≤ k) ∧ Drawn0 w w')
  case atStart => exact ⟨(0), (0), (0), TF, TF, TF, H', ⟨Nat.le_refl _⟩, TD⟩
  case round =>
    clear H'
    obtain ⟨x3_1, x4_1, x9_1, rfl, rfl, rfl, HA, HK1, ⟨m1, rfl⟩⟩ := hrel
    cases gk with
    | zero => exact absurd HA.out (by simp [impl_WeakOf.l0])
    | succ k1 =>
      have H := HA.out
      clear HA
      simp only [impl_WeakOf.l0] at H
      by_cases c2 : x9_1 < (l0.length : Int)
      · rw [if_pos c2] at H
        have c2b0 : decide (x9_1 < (l0.length : Int)) = true := decide_eq_true c2
        clear c2
        replace H := ifN H
        obtain ⟨c3, H⟩ := H
        have c3b0 : decide (0 ≤ x9_1) = true := decide_eq_true c3
        clear c3
        replace H := ifN H
        obtain ⟨c4, H⟩ := H
        have c4b0 : decide (x9_1 < (l0.length : Int)) = true := decide_eq_true c4
        clear c4
        have H' := aM H
        clear H
        have p179 : 0 ≤ (x9_1 : Int) := DT
        have q179 : x9_1 < (l0.length : Int) := DT
        obtain ⟨ad179, e179, hx179_0⟩ := Kd.at_int HR0.out x9_1 p179 q179
        cases e179
        replace p179 := eq_true p179
        replace q179 := eq_true q179
        go_wp2
        go_roundg k1
        case measure => have := HK1.out; omega
        case rel => exact ⟨(Int.tmod (wrap64 (x3_1 + (wrap64 (rd l0 x9_1)))) 251), (Int.tmod (wrap64 (x4_1 + (Int.tmod (wrap64 (x3_1 + (wrap64 (rd l0 x9_1)))) 251))) 251), (wrap64 (x9_1 + 1)), TF, TF, TF, H', ⟨by have := HK1.out; omega⟩, TD⟩
      · rw [if_neg c2] at H
        have c2b0 : decide (x9_1 < (l0.length : Int)) = false := decide_eq_false c2
        clear c2
        replace H := bE H
        obtain ⟨t180, A5, H⟩ := H
        obtain rfl := o_I H
        go_wp2_with (first | ((with_reducible refine gate_callee (f := 83) rfl ?_); refine gL (some 25) Try.func83 #[.int .i64 x3_1, .int .i64 x4_1] ?_; (with_reducible refine (impl_weak.calls A5.out).mono ?_); rintro e w' ⟨rfl, ⟨nd, rfl⟩⟩; refine ⟨_, rfl, ?_⟩))
        go_ret
        exact ⟨by first | rfl | (simp; done) | (simp [*]; done), TD⟩

def impl_SumOf.l0 : Nat → List Int → Int → List Int → Int → Int → Option (Int × Int)
  | 0, _, _, _, _, _ => none
  | k + 1, x0, x3, x10, x11, x12 => if x12 < x11 then (if 0 ≤ x12 then (if x12 < (x10.length : Int) then (impl_SumOf.l0 k x0 (Go.bits .or .i64 (wrap64 (x3 * 256)) (wrap64 (rd x10 x12))) x10 x11 (wrap64 (x12 + 1))) else (none)) else (none)) else ((impl_WeakOf.f k x0).bind fun t183 => (some (t183, x3)))
def impl_SumOf.f (k : Nat) (l0 : List Int) : Option (Int × Int) := if (l0.length : Int) > 6 then (some (0, 0)) else (impl_SumOf.l0 k l0 1 l0 (l0.length : Int) 0)
theorem impl_SumOf.mono_l : ∀ k, (∀ y0 y1 y2 y3 y4, LeO (impl_SumOf.l0 k y0 y1 y2 y3 y4) (impl_SumOf.l0 (k + 1) y0 y1 y2 y3 y4))
  | 0 => fun _ _ _ _ _ r h => by simp [impl_SumOf.l0] at h
  | k + 1 => by
    have m0_ := @impl_WeakOf.mono
    have ih0 := impl_SumOf.mono_l k
    · intro y0 y1 y2 y3 y4
      unfold impl_SumOf.l0
      exact LM
theorem impl_SumOf.mono : ∀ a0 k, LeO (impl_SumOf.f k a0) (impl_SumOf.f (k + 1) a0) := by
  intro a0 k;have m0_ := @impl_WeakOf.mono;have ih0 := impl_SumOf.mono_l k;unfold impl_SumOf.f;exact LM
set_option maxHeartbeats 40000000 in
set_option maxRecDepth 100000 in
theorem impl_SumOf.calls {k : Nat} {A0 : Option Addr} {c0 : Nat} {l0 : List Int} {r1 : Int} {r2 : Int} {w : World} (hr0 : Kd.C (Kd.int .u8) w A0 l0.length l0) (hc0 : l0.length ≤ c0) (h : impl_SumOf.f k l0 = some (r1, r2)) :
    Calls Try.prog 41 #[.slice A0 l0.length c0] w fun e w' => e = .returned (.agg #[.int .i64 r1, .int .i64 r2]) ∧ Below w.heap.size w w' := by
  have hu71 := Try.underlying71
  have HR0 := aM hr0
  have HC0 := aM hc0
  clear hr0 hc0
  have HB := aM (Below.refl w.heap.size w)
  have H := h
  clear h
  unfold impl_SumOf.f at H
  by_cases c2 : (l0.length : Int) > 6
  · rw [if_pos c2] at H
    have c2b0 : decide (6 < (l0.length : Int)) = true := decide_eq_true c2
    have c2b1 : decide (6 < l0.length) = true := decide_eq_true (by omega)
    clear c2
    simp only [Option.some.injEq, Prod.mk.injEq] at H
    obtain ⟨rfl, rfl⟩ := H
    go_enter Try.func41, Try.ntmps41
    go_wp2_with (first | ((with_reducible refine gate_dst (N := 2) rfl ?_); refine gBx 2 #[.int .i64 0, .int .i64 0] 71 ?_; intro gb181 hg w3 hbox hb; have BK181 := aM (hbox); have GW181 := gW HB hg; have GE181 := gW HB hg; replace HB := bS HB hb; clear hb hbox hg; obtain ⟨hcz4_0, hcz4_1⟩ := cz2 BK181.out; obtain ⟨hfz4_0, hfz4_1⟩ := fz2 BK181.out))
    refine bodyPost_ret (results_cell_row rfl _ _ gb181 71 #[.int .i64 0, .int .i64 0] (0, 0) _ rfl (blk_put (blk_put (cs := #[.int .i64 0, .int .i64 0]) (TZ BK181) 0 _ rfl) 1 _ rfl) Try.underlying71 rfl (by kernel_rfl)) rfl ?_
    exact ⟨TE, TB⟩
  · rw [if_neg c2] at H
    have c2b0 : decide (6 < (l0.length : Int)) = false := decide_eq_false c2
    have c2b1 : decide (6 < l0.length) = false := decide_eq_false (by omega)
    clear c2
    have H' := aM H
    clear H
    go_enter Try.func41, Try.ntmps41
    go_wp2_with (first | ((with_reducible refine gate_dst (N := 2) rfl ?_); refine gBx 2 #[.int .i64 0, .int .i64 0] 71 ?_; intro gb181 hg w5 hbox hb; have BK181 := aM (hbox); have GW181 := gW HB hg; have GE181 := gW HB hg; replace HB := bS HB hb; clear hb hbox hg))
    go_loopg [3, 12] k (fun kq v3 v12 w' => ∃ (x3_1 : Int) (x12_1 : Int), v3 = .int .i64 x3_1 ∧ v12 = .int .i64 x12_1 ∧ Aside0 (impl_SumOf.l0 kq l0 x3_1 l0 (l0.length : Int) x12_1 = some (r1, r2)) ∧ Aside0 (kq ≤ k) ∧ Aside0 (w'.heap[gb181]? = some (.cells #[.int .i64 0, .int .i64 0] 71 (0, 0))) ∧ Aside0 (Below w.heap.size w w'))
    case atStart => exact ⟨(1), (0), TF, TF, H', ⟨Nat.le_refl _⟩, ⟨TK⟩, ⟨TB⟩⟩
    case round =>
      clear H'
      try clear c2
      try clear c2b0
      try clear c2b1
      try clear p2
      try clear c4
      try clear hcz4_0
      try clear hcz4_1
      try clear hfz4_0
      try clear hfz4_1
      obtain ⟨x3_1, x12_1, rfl, rfl, HA, HK1, BK181, HB⟩ := hrel
      cases gk with
      | zero => exact absurd HA.out (by simp [impl_SumOf.l0])
      | succ k1 =>
        have H := HA.out
        clear HA
        simp only [impl_SumOf.l0] at H
        by_cases c6 : x12_1 < (l0.length : Int)
        · rw [if_pos c6] at H
          have c6b0 : decide (x12_1 < (l0.length : Int)) = true := decide_eq_true c6
          clear c6
          replace H := ifN H
          obtain ⟨c7, H⟩ := H
          have c7b0 : decide (0 ≤ x12_1) = true := decide_eq_true c7
          clear c7
          replace H := ifN H
          obtain ⟨c8, H⟩ := H
          have c8b0 : decide (x12_1 < (l0.length : Int)) = true := decide_eq_true c8
          clear c8
          have H' := aM H
          clear H
          have p182 : 0 ≤ (x12_1 : Int) := DT
          have q182 : x12_1 < (l0.length : Int) := DT
          obtain ⟨ad182, e182, hx182_0⟩ := Kd.at_int HR0.out x12_1 p182 q182
          cases e182
          replace hx182_0 := (HB.out.cell (World.block_lt_of_cell? w _ hx182_0)).trans hx182_0
          replace p182 := eq_true p182
          replace q182 := eq_true q182
          go_wp2
          go_roundg k1
          case measure => have := HK1.out; omega
          case rel => exact ⟨(Go.bits .or .i64 (wrap64 (x3_1 * 256)) (wrap64 (rd l0 x12_1))), (wrap64 (x12_1 + 1)), TF, TF, H', ⟨by have := HK1.out; omega⟩, ⟨TK⟩, ⟨TB⟩⟩
        · rw [if_neg c6] at H
          have c6b0 : decide (x12_1 < (l0.length : Int)) = false := decide_eq_false c6
          clear c6
          replace H := bE H
          obtain ⟨t183, A9, H⟩ := H
          simp only [Option.some.injEq, Prod.mk.injEq] at H
          obtain ⟨rfl, rfl⟩ := H
          go_wp2_with (first | ((with_reducible refine gate_callee (f := 63) rfl ?_); refine gL (some 23) Try.func63 #[.slice A0 l0.length c0] ?_; (with_reducible refine (impl_WeakOf.calls ?side1 ?side2 A9.out).mono ?_); (case side1 => have X_ := (Kd.C_below HR0.out HB.out); exact TC); (case side2 => exact HC0.out); rintro e w' ⟨rfl, ⟨nd, rfl⟩⟩; refine ⟨_, rfl, ?_⟩; (try (rw [drewN_self wr]; generalize hq_ : World.drewN wr _ = wr; have n0_ : Aside0 (wr.heap[gb181]? = some (.cells #[.int .i64 0, .int .i64 0] 71 (0, 0))) := ⟨by rw [← hq_]; exact TK⟩; have n1_ : Aside0 (Below w.heap.size w wr) := ⟨by rw [← hq_]; exact TB⟩; clear BK181 HB hq_; have BK181 := n0_; have HB := n1_; clear n0_ n1_)); obtain ⟨hcz10_0, hcz10_1⟩ := cz2 BK181.out; obtain ⟨hfz10_0, hfz10_1⟩ := fz2 BK181.out))
          refine bodyPost_ret (results_cell_row rfl _ _ gb181 71 #[.int .i64 t183, .int .i64 x3_1] (0, 0) _ rfl (blk_put (blk_put (cs := #[.int .i64 0, .int .i64 0]) (TZ BK181) 0 _ rfl) 1 _ rfl) Try.underlying71 rfl (by kernel_rfl)) rfl ?_
          exact ⟨TE, TB⟩

def impl_SumsOf.l0 : Nat → List Int → Int → List (S71) → Int → Int → Option ((List (S71)))
  | 0, _, _, _, _, _ => none
  | k + 1, x0, x1, x5, x13, x14 => if x14 < x13 then ((impl_BlockAt.f x0 x1 x14).bind fun bt188 => ((impl_SumOf.f k bt188.1).bind fun bt192 => (if x5.length < 8796093022208 then (impl_SumsOf.l0 k x0 x1 (x5 ++ [(⟨bt192.1, bt192.2⟩ : S71)]) x13 (wrap64 (x14 + 1))) else (none)))) else (some x5)
def impl_SumsOf.f (k : Nat) (l0 : List Int) (a1 : Int) : Option ((List (S71))) := (impl_Blocks.f a1 (l0.length : Int)).bind fun t187 => (impl_SumsOf.l0 k l0 a1 (([] : List (S71))) t187 0)
theorem impl_SumsOf.mono_l : ∀ k, (∀ y0 y1 y2 y3 y4, LeO (impl_SumsOf.l0 k y0 y1 y2 y3 y4) (impl_SumsOf.l0 (k + 1) y0 y1 y2 y3 y4))
  | 0 => fun _ _ _ _ _ r h => by simp [impl_SumsOf.l0] at h
  | k + 1 => by
    have m0_ := @impl_SumOf.mono
    have ih0 := impl_SumsOf.mono_l k
    · intro y0 y1 y2 y3 y4
      unfold impl_SumsOf.l0
      exact LM
theorem impl_SumsOf.mono : ∀ a0 a1 k, LeO (impl_SumsOf.f k a0 a1) (impl_SumsOf.f (k + 1) a0 a1) := by
  intro a0 a1 k;have m0_ := @impl_SumOf.mono;have ih0 := impl_SumsOf.mono_l k;unfold impl_SumsOf.f;exact LM
set_option maxHeartbeats 40000000 in
set_option maxRecDepth 100000 in
theorem impl_SumsOf.calls {k : Nat} {A0 : Option Addr} {c0 : Nat} {l0 : List Int} {a1 : Int} {r : List (S71)} {w : World} (hr0 : Kd.C (Kd.int .u8) w A0 l0.length l0) (hc0 : l0.length ≤ c0) (h : impl_SumsOf.f k l0 a1 = some r) :
    Calls Try.prog 33 #[.slice A0 l0.length c0, .int .i64 a1] w fun e w' => ∃ v0_ : Value, e = .returned (v0_) ∧ Kd.R k71 71 w' w.heap.size (fun _ => True) v0_ r ∧ Below w.heap.size w w' := by
  have HR0 := aM hr0
  have HC0 := aM hc0
  clear hr0 hc0
  have HB := aM (Below.refl w.heap.size w)
  have H := h
  clear h
  unfold impl_SumsOf.f at H
  obtain ⟨y184, hy184⟩ : ∃ y_ : List (S71), y_ = (([] : List (S71))) := ⟨_, rfl⟩
  rw [← hy184] at H
  have Ny184 := aM hy184
  clear hy184
  replace H := bE H
  obtain ⟨t187, A3, H⟩ := H
  have H' := aM H
  clear H
  go_enter Try.func33, Try.ntmps33
  go_wp2_with (first | ((with_reducible refine gate_dst (N := 9) rfl ?_); refine Kd.R_lit k71 _ 71 ?hg (N := 9) ?hd (xs := ([] : List (S71))) (inner := []) (ok := fun _ => True) (okp := fun _ => True) ?hr ?hp (fun _ hk => hk) trivial (Below.refl _ _) (Nat.le_refl _) (by simp) ?_; (case hd => rfl); (case hg => rfl); (case hr => first | (go_simp; done) | (go_simp; rfl)); (case hp => exact (Reps.none _ _)); intro v185 w4 ho5 hb hg_ hnew_; clear hg_ hnew_; (first | rw [← Ny184.out] at ho5 | (simp only [Int.reduceToNat] at ho5; rw [← Ny184.out] at ho5)); have HO186 := aM (Kd.R_lower ho5 (below_size TB)); replace HB := bS HB hb; clear hb ho5) | ((with_reducible refine gate_callee (f := 10) rfl ?_); refine gL (some 13) Try.func10 #[.int .i64 a1, .int .i64 (l0.length : Int)] ?_; (with_reducible refine (impl_Blocks.calls A3.out).mono ?_); rintro e w' ⟨rfl, ⟨nd, rfl⟩⟩; refine ⟨_, rfl, ?_⟩))
  go_loopg [5, 14] k (fun kq v5 v14 w' => ∃ (x5_1 : List (S71)) (x14_1 : Int), v14 = .int .i64 x14_1 ∧ Aside0 (impl_SumsOf.l0 kq l0 a1 x5_1 t187 x14_1 = some r) ∧ Aside0 (kq ≤ k) ∧ Aside0 (Kd.R k71 71 w' w.heap.size (fun _ => True) v5 x5_1) ∧ Aside0 (Below w.heap.size w w'))
  case atStart => exact ⟨(y184), (0), TF, H', ⟨Nat.le_refl _⟩, ⟨by have X_ := HO186.out; exact TR⟩, ⟨TB⟩⟩
  case round =>
    clear H'
    try clear c1
    try clear p2
    try clear c3
    obtain ⟨x5_1, x14_1, rfl, HA, HK1, HO_5, HB⟩ := hrel
    cases gk with
    | zero => exact absurd HA.out (by simp [impl_SumsOf.l0])
    | succ k1 =>
      have H := HA.out
      clear HA
      simp only [impl_SumsOf.l0] at H
      by_cases c6 : x14_1 < t187
      · rw [if_pos c6] at H
        have c6b0 : decide (x14_1 < t187) = true := decide_eq_true c6
        clear c6
        replace H := bE H
        obtain ⟨⟨t188, t189⟩, A7, H⟩ := H
        dsimp only at H
        replace H := bE H
        obtain ⟨⟨t192, t193⟩, A8, H⟩ := H
        dsimp only at H
        replace H := ifN H
        obtain ⟨c9, H⟩ := H
        have LMc9 := aM c9
        clear c9
        obtain ⟨y194, hy194⟩ : ∃ y_ : List (S71), y_ = (x5_1 ++ [(⟨t192, t193⟩ : S71)]) := ⟨_, rfl⟩
        rw [← hy194] at H
        have Ny194 := aM hy194
        clear hy194
        have H' := aM H
        clear H
        go_wp2_with (first | ((with_reducible refine gate_callee (f := 11) rfl ?_); refine gL (some 21) Try.func11 #[.slice A0 l0.length c0, .int .i64 a1, .int .i64 x14_1] ?_; (with_reducible refine (impl_BlockAt.calls ?side1 ?side2 A7.out).mono ?_); (case side1 => have X_ := (Kd.C_below HR0.out HB.out); exact TC); (case side2 => exact HC0.out); rintro e w10 ⟨v190, rfl, ho0, hb⟩; refine ⟨_, rfl, ?_⟩; have HO191 := aM (Kd.R_lower ho0 (below_size TB)); replace HO_5 := mR HO_5 hb; replace HB := bS HB hb; clear ho0 hb; obtain ⟨Ao11, co11, eo11⟩ := Kd.R_slice HO191.out; subst eo11) | ((with_reducible refine gate_callee (f := 41) rfl ?_); refine gL (some 26) Try.func41 #[.slice Ao11 t188.length co11] ?_; (with_reducible refine (impl_SumOf.calls ?side1 ?side2 A8.out).mono ?_); (case side1 => have X_ := (Kd.R_reads' HO191.out).2.2; exact TC); (case side2 => exact (Kd.R_reads' HO191.out).2.1); rintro e w12 ⟨rfl, hb⟩; refine ⟨_, rfl, ?_⟩; replace HO_5 := mR HO_5 hb; replace HO191 := mR HO191 hb; replace HB := bS HB hb; clear hb) | ((with_reducible refine gate_builtin (b := .append) (xs := #[.tmp 24, .tmp 27]) rfl ?_); at_builtin; refine Kd.R_append k71 (w0 := w) w.heap.size rfl (.tmp 24) (.tmp 27) 26 71 (.agg #[(.int .i64 0), (.int .i64 0)]) 16 rfl Try.underlying26 info71 rfl (by decide) (by omega) u5 x5_1 (⟨t192, t193⟩ : S71) [.int .i64 t192, .int .i64 t193] (fun _ => True) (fun _ => False) rfl rfl ?aP (fun _ hk => hk.elim) ?aF ?aO ?aB ?aS ?aL ?_; (case aP => exact k71_mkM _ _ _ (⟨t192, t193⟩ : S71)); (case aB => exact TB); (case aF => exact (fun _ _ => trivial)); (case aO => exact (TRf HO_5)); (case aS => exact (below_size TB)); (case aL => have := LMc9.out; omega); intro v195 w13 ho hb hg hat; rw [← Ny194.out] at ho; have HO196 := aM (ho); replace HO191 := aM (Kd.R_over' (TRf HO191) (Kd.R_typed (TRf HO_5)) (by decide) hg); replace HB := aM (hb); clear HO_5; clear ho hb hg hat))
        go_roundg k1
        case measure => have := HK1.out; omega
        case rel => exact ⟨(y194), (wrap64 (x14_1 + 1)), TF, H', ⟨by have := HK1.out; omega⟩, ⟨by have X_ := HO196.out; exact TR⟩, ⟨TB⟩⟩
      · rw [if_neg c6] at H
        have c6b0 : decide (x14_1 < t187) = false := decide_eq_false c6
        clear c6
        obtain rfl := o_I H
        go_wp2
        go_ret
        exact ⟨_, TE, by have X_ := HO_5.out; exact TR, TB⟩

def impl_ManOf.f (k : Nat) (a0 : Int) (l1 : List Int) (a2 : Int) : Option (Int × Int × Int × (List (S71))) := (impl_within.f a0 1 1000000).bind fun t198 => (if t198 = true then ((impl_SizeOk.f a2 (l1.length : Int)).bind fun t199 => (if t199 = true then ((impl_SumsOf.f k l1 a2).bind fun t200 => (some (a0, a2, (l1.length : Int), t200))) else (some (0, 0, 0, ([] : List (S71)))))) else (some (0, 0, 0, ([] : List (S71)))))
theorem impl_ManOf.mono : ∀ a0 a1 a2 k, LeO (impl_ManOf.f k a0 a1 a2) (impl_ManOf.f (k + 1) a0 a1 a2) := by
  intro a0 a1 a2 k;have m0_ := @impl_SumsOf.mono;unfold impl_ManOf.f;exact LM
theorem Yq6_0 {p : Prop} (h : p := by
 refine bodyPost_ret (results_cell_row rfl _ _ aa 28 #[.int .i64 0, .int .i64 0, .int .i64 0, .slice none 0 0] (0, 0) _ rfl (blk_put (blk_put (blk_put (blk_put (cs := #[.int .i64 0, .int .i64 0, .int .i64 0, .slice none 0 0]) (TZ BKq1) 0 _ rfl) 1 _ rfl) 2 _ rfl) 3 _ rfl) Try.underlying28 rfl (by kernel_rfl)) rfl ?_;exact ⟨_, TE, by first | exact Kd.R_nil _ _ _ _ _ | exact Kd.N_nil _ _ _ _ _ | exact Kd.V_nil _ _ _ _ _ | exact Kd.Q_nil _ _ _ _ _ | exact Kd.S_nil _ _ _ _ _, TB⟩) : p := h
set_option maxHeartbeats 40000000 in
set_option maxRecDepth 100000 in
theorem impl_ManOf.calls {k : Nat} {a0 : Int} {A1 : Option Addr} {c1 : Nat} {l1 : List Int} {a2 : Int} {r1 : Int} {r2 : Int} {r3 : Int} {r4 : List (S71)} {w : World} (hr1 : Kd.C (Kd.int .u8) w A1 l1.length l1) (hc1 : l1.length ≤ c1) (h : impl_ManOf.f k a0 l1 a2 = some (r1, r2, r3, r4)) :
  Calls Try.prog 8 #[.int .i64 a0, .slice A1 l1.length c1, .int .i64 a2] w fun e w' => ∃ v3_ : Value, e = .returned (.agg #[.int .i64 r1, .int .i64 r2, .int .i64 r3, v3_]) ∧ Kd.R k71 71 w' w.heap.size (fun _ => True) v3_ r4 ∧ Below w.heap.size w w' := by
 have huq1 := Try.underlying28;have HRq1 := aM hr1;have HCq1 := aM hc1;clear hr1 hc1;have HB := aM (Below.refl w.heap.size w);have H := h;clear h;unfold impl_ManOf.f at H;replace H := bE H;obtain ⟨t198, A4, H⟩ := H;go_enter Try.func8, Try.ntmps8;go_wp2_with (first | ((with_reducible refine gate_dst (N := 6) rfl ?_); (try (refine gate_guard (by rfl) ?_; dsimp only)); refine gBx 6 #[.int .i64 0, .int .i64 0, .int .i64 0, .slice none 0 0] 28 ?_; intro aa hg w6 hbox hb; have BKq1 := aM (hbox); have GWq1 := gW HB hg; have GEq1 := gW HB hg; replace HB := bS HB hb; clear hb hbox hg) | ((with_reducible refine gate_callee (f := 31) rfl ?_); refine gL (some 8) Try.func31 #[.int .i64 a0, .int .i64 1, .int .i64 1000000] ?_; (with_reducible refine (impl_within.calls A4.out).mono ?_); rintro e w' ⟨rfl, ⟨nd, rfl⟩⟩; refine ⟨_, rfl, ?_⟩) | ((with_reducible refine gate_dst (N := 9) rfl ?_); generalize hG_ : wpList _ _ _ _ _ _ = G_))
 subst hG_
 by_cases c7 : t198 = true
 ·subst c7;replace H := ifT H;replace H := bE H;obtain ⟨t199, A8, H⟩ := H
  by_cases c9 : t199 = true
  ·subst c9;replace H := ifT H;replace H := bE H;obtain ⟨t200, Aq1, H⟩ := H;simp only [Option.some.injEq, Prod.mk.injEq] at H;obtain ⟨rfl, rfl, rfl, rfl⟩ := H;go_wp2_with (first | (go_at_call 32; (with_reducible refine (impl_SizeOk.calls A8.out).mono ?_); rintro e w' ⟨rfl, ⟨nd, rfl⟩⟩; (try (rw [drewN_self w6]; generalize hq_ : World.drewN w6 _ = w6; have n0_ : Aside0 (w6.heap[aa]? = some (.cells #[.int .i64 0, .int .i64 0, .int .i64 0, .slice none 0 0] 28 (0, 0))) := ⟨by rw [← hq_]; exact TK⟩; have n1_ : Aside0 (Below w.heap.size w w6) := ⟨by rw [← hq_]; exact TB⟩; clear BKq1 HB hq_; have BKq1 := n0_; have HB := n1_; clear n0_ n1_))) | ((with_reducible refine gate_callee (f := 33) rfl ?_); refine gL (some 24) Try.func33 #[.slice A1 l1.length c1, .int .i64 a2] ?_; (with_reducible refine (impl_SumsOf.calls ?side1 ?side2 Aq1.out).mono ?_); (case side1 => have X_ := (Kd.C_below HRq1.out HB.out); exact TC); (case side2 => exact HCq1.out); rintro e wq1 ⟨vq1, rfl, ho0, hb⟩; refine ⟨_, rfl, ?_⟩; have HOq1 := aM (Kd.R_lower ho0 (below_size TB)); replace BKq1 := mB BKq1 hb; replace HB := bS HB hb; clear ho0 hb; obtain ⟨Aoq1, coq1, eoq1⟩ := Kd.R_slice HOq1.out; subst eoq1; obtain ⟨ad, ah, ac, ag⟩ := cz4 BKq1.out; obtain ⟨ab, af, ai, ae⟩ := fz4 BKq1.out))
   refine bodyPost_ret (results_cell_row rfl _ _ aa 28 #[.int .i64 a0, .int .i64 a2, .int .i64 (l1.length : Int), .slice Aoq1 t200.length coq1] (0, 0) _ rfl (blk_put (blk_put (blk_put (blk_put (cs := #[.int .i64 0, .int .i64 0, .int .i64 0, .slice none 0 0]) (TZ BKq1) 0 _ rfl) 1 _ rfl) 2 _ rfl) 3 _ rfl) Try.underlying28 rfl (by kernel_rfl)) rfl ?_;exact ⟨_, TE, by (with_reducible repeat (first | apply Kd.R_alloc | apply Kd.R_drewN | apply Kd.R_drew)); exact Kd.R_mono (RK1 (Kd.R_types HOq1.out BKq1.out (by decide))) (fun _ hk => trivial), TB⟩
  ·replace c9 := b_F c9;subst c9;replace H := ifF H;simp only [Option.some.injEq, Prod.mk.injEq] at H;obtain ⟨rfl, rfl, rfl, rfl⟩ := H;go_wp2_with (first | (go_at_call 32; (with_reducible refine (impl_SizeOk.calls A8.out).mono ?_); rintro e w' ⟨rfl, ⟨nd, rfl⟩⟩; (try (rw [drewN_self w6]; generalize hq_ : World.drewN w6 _ = w6; have n0_ : Aside0 (w6.heap[aa]? = some (.cells #[.int .i64 0, .int .i64 0, .int .i64 0, .slice none 0 0] 28 (0, 0))) := ⟨by rw [← hq_]; exact TK⟩; have n1_ : Aside0 (Below w.heap.size w w6) := ⟨by rw [← hq_]; exact TB⟩; clear BKq1 HB hq_; have BKq1 := n0_; have HB := n1_; clear n0_ n1_)); obtain ⟨ad, ah, ac, ag⟩ := cz4 BKq1.out; obtain ⟨ab, af, ai, ae⟩ := fz4 BKq1.out))
   exact Yq6_0
 ·replace c7 := b_F c7;subst c7;replace H := ifF H;simp only [Option.some.injEq, Prod.mk.injEq] at H;obtain ⟨rfl, rfl, rfl, rfl⟩ := H;obtain ⟨ad, ah, ac, ag⟩ := cz4 BKq1.out;obtain ⟨ab, af, ai, ae⟩ := fz4 BKq1.out;go_wp2
  exact Yq6_0
end Go.Proofs.Ytaofakpljnkplaa.Q
