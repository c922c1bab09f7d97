/- Functions of the program as plain Lean functions, and that a call of each comes to what its function tells. Written by a program of this seat. -/
import Derived.Test.YtlghklbjmmijpaaQ0
import Derived.Test.YtlghklbjmmijpaaQ2
import Derived.Test.YtlghklbjmmijpaaQ44
namespace Go.Proofs.Ytlghklbjmmijpaa.Q
open Go.RowKit Go.Proofs.YtlghklbjmmijpaaW.PrintWords Go.Proofs.YtlghklbjmmijpaaW.PrintLast Go.Proofs.YtlghklbjmmijpaaW.PrintMore
attribute [local go_sem] max2_int min2_int max_two min_two max_three min_three max_four min_four   -- for this text's walks alone
set_option linter.unusedVariables false
set_option linter.unusedSimpArgs false

attribute [local go_sem high] eqA119
/-! ### laws_szSumS: function 87 -/
def laws_szSumS.f (l0 : List (S140)) (a1 : Int) : Option (Int) := if (wrap64 (a1 - (l0.length : Int))) < 0 then (some (-1)) else (some (wrap64 (a1 - (l0.length : Int))))
set_option maxHeartbeats 40000000 in
set_option maxRecDepth 100000 in
theorem laws_szSumS.calls (A0 : Option Addr) (c0 : Nat) (l0 : List (S140)) (a1 : Int) (r : Int) (w : World) (hr0 : Kd.C k140 w A0 l0.length l0) (hc0 : l0.length ≤ c0) (h : laws_szSumS.f l0 a1 = some r) :
    Calls Try.prog 87 #[.slice A0 l0.length c0, .int .i64 a1] w fun e w' => e = .returned (.int .i64 r) ∧ Drawn0 w w' := by
  have HR0 := aM hr0
  have HC0 := aM hc0
  clear hr0 hc0
  have H := h
  clear h
  unfold laws_szSumS.f at H
  by_cases c3 : (wrap64 (a1 - (l0.length : Int))) < 0
  · rw [if_pos c3] at H
    have c3b0 : decide ((wrap64 (a1 - (l0.length : Int))) < 0) = true := decide_eq_true c3
    clear c3
    obtain rfl := Option.some.inj H
    go_enter Try.func87, Try.ntmps87
    go_wp2
    go_ret
    exact ⟨by first | rfl | (simp; done) | (simp [*]; done), TD⟩
  · rw [if_neg c3] at H
    have c3b0 : decide ((wrap64 (a1 - (l0.length : Int))) < 0) = false := decide_eq_false c3
    clear c3
    obtain rfl := Option.some.inj H
    go_enter Try.func87, Try.ntmps87
    go_wp2
    go_ret
    exact ⟨by first | rfl | (simp; done) | (simp [*]; done), TD⟩

/-! ### laws_szManifest: function 34 -/
def laws_szManifest.f (a0_0 : Int) (a0_1 : Int) (a0_2 : Int) (l0_3 : List (S140)) (a1 : Int) : Option (Int) := (laws_szSumS.f l0_3 a1).bind fun t1062 => (if t1062 < 0 then (some (-1)) else (some t1062))
set_option maxHeartbeats 40000000 in
set_option maxRecDepth 100000 in
theorem laws_szManifest.calls (a0_0 : Int) (a0_1 : Int) (a0_2 : Int) (A0_3 : Option Addr) (c0_3 : Nat) (l0_3 : List (S140)) (a1 : Int) (r : Int) (w : World) (hr0_3 : Kd.C k140 w A0_3 l0_3.length l0_3) (hc0_3 : l0_3.length ≤ c0_3) (h : laws_szManifest.f a0_0 a0_1 a0_2 l0_3 a1 = some r) :
    Calls Try.prog 34 #[.agg #[.int .i64 a0_0, .int .i64 a0_1, .int .i64 a0_2, .slice A0_3 l0_3.length c0_3], .int .i64 a1] w fun e w' => e = .returned (.int .i64 r) ∧ Below w.heap.size w w' := by
  have hu64 := Try.underlying64
  have HR0_3 := aM hr0_3
  have HC0_3 := aM hc0_3
  clear hr0_3 hc0_3
  have HB := aM (Below.refl w.heap.size w)
  have H := h
  clear h
  unfold laws_szManifest.f at H
  replace H := bE H
  obtain ⟨t1062, A3, H⟩ := H
  go_enter Try.func34, Try.ntmps34
  go_wp2_with (first | ((with_reducible refine gate_dst (N := 2) rfl ?_); refine gBx 2 #[.int .i64 a0_0, .int .i64 a0_1, .int .i64 a0_2, .slice A0_3 l0_3.length c0_3] 64 ?_; intro gb1061 hg w4 hbox hb; have BK1061 := aM (hbox); have GW1061 := aM ((by rw [hg]; exact (below_size TB) : w.heap.size ≤ gb1061)); have GE1061 := aM ((by rw [hg]; exact (below_size TB) : w.heap.size ≤ gb1061)); replace HB := aM (below_step TB hb); clear hb hbox hg; obtain ⟨hcz5_0, hcz5_1, hcz5_2, hcz5_3⟩ := cz4 BK1061.out; obtain ⟨hfz5_0, hfz5_1, hfz5_2, hfz5_3⟩ := fz4 BK1061.out) | ((with_reducible refine gate_callee (f := 87) rfl ?_); (with_reducible refine gate_dst (N := 8) rfl ?_); generalize hG_ : wpList _ _ _ _ _ _ = G_))
  subst hG_
  by_cases c6 : t1062 < 0
  · rw [if_pos c6] at H
    have c6b0 : decide (t1062 < 0) = true := decide_eq_true c6
    clear c6
    obtain rfl := Option.some.inj H
    go_wp2_with (first | ((with_reducible refine gate_callee (f := 87) rfl ?_); refine gL (some 8) Try.func87 #[.slice A0_3 l0_3.length c0_3, .int .i64 a1] ?_; (with_reducible refine (laws_szSumS.calls _ _ l0_3 a1 t1062 _ ?side1 ?side2 A3.out).mono ?_); (case side1 => repeat (first | exact (Kd.C_below HR0_3.out TB) | (with_reducible refine Kd.C_alloc ?_ _) | (with_reducible refine Kd.C_drewN ?_ _) | (with_reducible refine Kd.C_drew ?_))); (case side2 => exact HC0_3.out); rintro e w' ⟨rfl, ⟨nd, rfl⟩⟩; refine ⟨_, rfl, ?_⟩))
    go_ret
    exact ⟨by first | rfl | (simp [errW_none, errW_some] <;> rfl) | (simp [*, errW_none, errW_some] <;> rfl), TB⟩
  · rw [if_neg c6] at H
    have c6b0 : decide (t1062 < 0) = false := decide_eq_false c6
    clear c6
    obtain rfl := Option.some.inj H
    go_wp2_with (first | ((with_reducible refine gate_callee (f := 87) rfl ?_); refine gL (some 8) Try.func87 #[.slice A0_3 l0_3.length c0_3, .int .i64 a1] ?_; (with_reducible refine (laws_szSumS.calls _ _ l0_3 a1 t1062 _ ?side1 ?side2 A3.out).mono ?_); (case side1 => repeat (first | exact (Kd.C_below HR0_3.out TB) | (with_reducible refine Kd.C_alloc ?_ _) | (with_reducible refine Kd.C_drewN ?_ _) | (with_reducible refine Kd.C_drew ?_))); (case side2 => exact HC0_3.out); rintro e w' ⟨rfl, ⟨nd, rfl⟩⟩; refine ⟨_, rfl, ?_⟩))
    go_ret
    exact ⟨by first | rfl | (simp [errW_none, errW_some] <;> rfl) | (simp [*, errW_none, errW_some] <;> rfl), TB⟩

/-! ### spec_l6SameSums: function 134 -/
def spec_l6SameSums.l0 : Nat → List (S119) → List (S119) → Int → Option (Bool)
  | 0, _, _, _ => none
  | k + 1, x0, x1, x5 => if x5 < (x0.length : Int) then (if 0 ≤ x5 then (if x5 < (x1.length : Int) then (if (!(((rd_T119 x0 x5).f0) == ((rd_T119 x1 x5).f0)) || (!(((rd_T119 x0 x5).f1) == ((rd_T119 x1 x5).f1)))) = true then (some false) else (spec_l6SameSums.l0 k x0 x1 (wrap64 (x5 + 1)))) else (none)) else (none)) else (some true)
def spec_l6SameSums.f (k : Nat) (l0 : List (S119)) (l1 : List (S119)) : Option (Bool) := if (l0.length : Int) = (l1.length : Int) then (spec_l6SameSums.l0 k l0 l1 0) else (some false)
theorem spec_l6SameSums.mono_l : ∀ k, (∀ y0 y1 y2, LeO (spec_l6SameSums.l0 k y0 y1 y2) (spec_l6SameSums.l0 (k + 1) y0 y1 y2))
  | 0 => fun _ _ _ r h => by simp [spec_l6SameSums.l0] at h
  | k + 1 => by
    have ih0 := spec_l6SameSums.mono_l k
    · intro y0 y1 y2
      unfold spec_l6SameSums.l0
      exact LM
theorem spec_l6SameSums.mono : ∀ a0 a1 k, LeO (spec_l6SameSums.f k a0 a1) (spec_l6SameSums.f (k + 1) a0 a1) := by
  intro a0 a1 k
  have ih0 := spec_l6SameSums.mono_l k
  unfold spec_l6SameSums.f
  exact LM
set_option maxHeartbeats 40000000 in
set_option maxRecDepth 100000 in
theorem spec_l6SameSums.calls (k : Nat) (A0 : Option Addr) (c0 : Nat) (l0 : List (S119)) (A1 : Option Addr) (c1 : Nat) (l1 : List (S119)) (r : Bool) (w : World) (hr0 : Kd.C k119 w A0 l0.length l0) (hc0 : l0.length ≤ c0) (hr1 : Kd.C k119 w A1 l1.length l1) (hc1 : l1.length ≤ c1) (h : spec_l6SameSums.f k l0 l1 = some r) :
    Calls Try.prog 134 #[.slice A0 l0.length c0, .slice A1 l1.length c1] w fun e w' => e = .returned (.bool r) ∧ Drawn0 w w' := by
  have hu119 := Try.underlying119
  have HR0 := aM hr0
  have HC0 := aM hc0
  clear hr0 hc0
  have HR1 := aM hr1
  have HC1 := aM hc1
  clear hr1 hc1
  have H := h
  clear h
  unfold spec_l6SameSums.f at H
  by_cases c3 : (l0.length : Int) = (l1.length : Int)
  · rw [if_pos c3] at H
    have c3b0 : ((l0.length : Int) == (l1.length : Int)) = true := beq_iff_eq.mpr c3
    have c3b1 : ((l0.length : Int) != (l1.length : Int)) = false := bne_eq_false_iff_eq.mpr c3
    have c3b2 : (l0.length == l1.length) = true := by first | simpa using c3 | (simp at c3 ⊢; omega)
    clear c3
    have H' := aM H
    clear H
    go_enter Try.func134, Try.ntmps134
    go_wp2
    repeat (go_quiet (fail); try go_wp2)
    go_loopg [5] k (fun kq v5 w' => ∃ (x5_1 : Int), v5 = .int .i64 x5_1 ∧ Aside0 (spec_l6SameSums.l0 kq l0 l1 x5_1 = some r) ∧ Aside0 (kq ≤ k) ∧ Drawn0 w w')
    case atStart => exact ⟨(0), (by first | rfl | (simp; done) | (simp [*]; done)), H', ⟨Nat.le_refl _⟩, TD⟩
    case round =>
      clear H'
      try clear c1
      try clear p2
      try clear c3
      try clear c3b0
      try clear c3b1
      try clear c3b2
      obtain ⟨x5_1, rfl, HA, HK1, ⟨m1, rfl⟩⟩ := hrel
      cases gk with
      | zero => exact absurd HA.out (by simp [spec_l6SameSums.l0])
      | succ k1 =>
        have H := HA.out
        clear HA
        simp only [spec_l6SameSums.l0] at H
        by_cases c4 : x5_1 < (l0.length : Int)
        · rw [if_pos c4] at H
          have c4b0 : decide (x5_1 < (l0.length : Int)) = true := decide_eq_true c4
          clear c4
          replace H := ifN H
          obtain ⟨c5, H⟩ := H
          have c5b0 : decide (0 ≤ x5_1) = true := decide_eq_true c5
          clear c5
          replace H := ifN H
          obtain ⟨c6, H⟩ := H
          have c6b0 : decide (x5_1 < (l1.length : Int)) = true := decide_eq_true c6
          clear c6
          by_cases c7 : (!(((rd_T119 l0 x5_1).f0) == ((rd_T119 l1 x5_1).f0)) || (!(((rd_T119 l0 x5_1).f1) == ((rd_T119 l1 x5_1).f1)))) = true
          · rw [if_pos c7] at H
            have c7b0 : (!(((rd_T119 l0 x5_1).f0) == ((rd_T119 l1 x5_1).f0)) || (!(((rd_T119 l0 x5_1).f1) == ((rd_T119 l1 x5_1).f1)))) = true := c7
            clear c7
            obtain rfl := Option.some.inj H
            have p1063 : 0 ≤ (x5_1 : Int) := DT
            have q1063 : x5_1 < (l0.length : Int) := DT
            obtain ⟨ad1063, e1063, hx1063_0, hx1063_1⟩ := at_T119 HR0.out x5_1 p1063 q1063
            cases e1063
            replace p1063 := eq_true p1063
            replace q1063 := eq_true q1063
            have p1064 : 0 ≤ (x5_1 : Int) := DT
            have q1064 : x5_1 < (l1.length : Int) := DT
            obtain ⟨ad1064, e1064, hx1064_0, hx1064_1⟩ := at_T119 HR1.out x5_1 p1064 q1064
            cases e1064
            replace p1064 := eq_true p1064
            replace q1064 := eq_true q1064
            go_wp2
            repeat (go_quiet (fail); try go_wp2)
            go_ret
            exact ⟨by first | rfl | (simp; done) | (simp [*]; done), TD⟩
          · rw [if_neg c7] at H
            have c7b0 : (!(((rd_T119 l0 x5_1).f0) == ((rd_T119 l1 x5_1).f0)) || (!(((rd_T119 l0 x5_1).f1) == ((rd_T119 l1 x5_1).f1)))) = false := by simpa using c7
            clear c7
            have H' := aM H
            clear H
            have p1063 : 0 ≤ (x5_1 : Int) := DT
            have q1063 : x5_1 < (l0.length : Int) := DT
            obtain ⟨ad1063, e1063, hx1063_0, hx1063_1⟩ := at_T119 HR0.out x5_1 p1063 q1063
            cases e1063
            replace p1063 := eq_true p1063
            replace q1063 := eq_true q1063
            have p1064 : 0 ≤ (x5_1 : Int) := DT
            have q1064 : x5_1 < (l1.length : Int) := DT
            obtain ⟨ad1064, e1064, hx1064_0, hx1064_1⟩ := at_T119 HR1.out x5_1 p1064 q1064
            cases e1064
            replace p1064 := eq_true p1064
            replace q1064 := eq_true q1064
            go_wp2
            repeat (go_quiet (fail); try go_wp2)
            go_roundg k1
            case measure => have := HK1.out; omega
            case rel => exact ⟨(wrap64 (x5_1 + 1)), (by first | rfl | (simp; done) | (simp [*]; done)), H', ⟨by have := HK1.out; omega⟩, TD⟩
        · rw [if_neg c4] at H
          have c4b0 : decide (x5_1 < (l0.length : Int)) = false := decide_eq_false c4
          clear c4
          obtain rfl := Option.some.inj H
          go_wp2
          repeat (go_quiet (fail); try go_wp2)
          go_ret
          exact ⟨by first | rfl | (simp; done) | (simp [*]; done), TD⟩
  · rw [if_neg c3] at H
    have c3b0 : ((l0.length : Int) == (l1.length : Int)) = false := beq_eq_false_iff_ne.mpr c3
    have c3b1 : ((l0.length : Int) != (l1.length : Int)) = true := bne_iff_ne.mpr c3
    have c3b2 : (l0.length == l1.length) = false := by first | simpa using c3 | (simp at c3 ⊢; omega)
    obtain rfl := Option.some.inj H
    go_enter Try.func134, Try.ntmps134
    go_wp2
    repeat (go_quiet (fail); try go_wp2)
    go_ret
    exact ⟨by first | rfl | (simp; done) | (simp [*]; done), TD⟩

/-! ### spec_WeakOf: function 154 -/
def spec_WeakOf.l0 : Nat → List Int → Int → Int → Int → Option (Int)
  | 0, _, _, _, _ => none
  | k + 1, x0, x3, x4, x5 => if x5 < (x0.length : Int) then (if 0 ≤ x5 then (spec_WeakOf.l0 k x0 (Int.tmod (wrap64 (x3 + (wrap64 (rd x0 x5)))) 251) (Int.tmod (wrap64 (x4 + (Int.tmod (wrap64 (x3 + (wrap64 (rd x0 x5)))) 251))) 251) (wrap64 (x5 + 1))) else (none)) else (some (wrap64 (x3 + (wrap64 (251 * x4)))))
def spec_WeakOf.f (k : Nat) (l0 : List Int) : Option (Int) := spec_WeakOf.l0 k l0 0 0 0
theorem spec_WeakOf.mono_l : ∀ k, (∀ y0 y1 y2 y3, LeO (spec_WeakOf.l0 k y0 y1 y2 y3) (spec_WeakOf.l0 (k + 1) y0 y1 y2 y3))
  | 0 => fun _ _ _ _ r h => by simp [spec_WeakOf.l0] at h
  | k + 1 => by
    have ih0 := spec_WeakOf.mono_l k
    · intro y0 y1 y2 y3
      unfold spec_WeakOf.l0
      exact LM
theorem spec_WeakOf.mono : ∀ a0 k, LeO (spec_WeakOf.f k a0) (spec_WeakOf.f (k + 1) a0) := by
  intro a0 k
  have ih0 := spec_WeakOf.mono_l k
  unfold spec_WeakOf.f
  exact LM
set_option maxHeartbeats 40000000 in
set_option maxRecDepth 100000 in
theorem spec_WeakOf.calls (k : Nat) (A0 : Option Addr) (c0 : Nat) (l0 : List Int) (r : Int) (w : World) (hr0 : Kd.C (Kd.int .u8) w A0 l0.length l0) (hc0 : l0.length ≤ c0) (h : spec_WeakOf.f k l0 = some r) :
    Calls Try.prog 154 #[.slice A0 l0.length c0] w fun e w' => e = .returned (.int .i64 r) ∧ Drawn0 w w' := by
  have HR0 := aM hr0
  have HC0 := aM hc0
  clear hr0 hc0
  have H := h
  clear h
  unfold spec_WeakOf.f at H
  have H' := aM H
  clear H
  go_enter Try.func154, Try.ntmps154
  go_wp2
  go_loopg [3, 4, 5] k (fun kq v3 v4 v5 w' => ∃ (x3_1 : Int) (x4_1 : Int) (x5_1 : Int), v3 = .int .i64 x3_1 ∧ v4 = .int .i64 x4_1 ∧ v5 = .int .i64 x5_1 ∧ Aside0 (spec_WeakOf.l0 kq l0 x3_1 x4_1 x5_1 = some r) ∧ Aside0 (kq ≤ k) ∧ Drawn0 w w')
  case atStart => exact ⟨(0), (0), (0), (by first | rfl | (simp; done) | (simp [*]; done)), (by first | rfl | (simp; done) | (simp [*]; done)), (by first | rfl | (simp; done) | (simp [*]; done)), H', ⟨Nat.le_refl _⟩, TD⟩
  case round =>
    clear H'
    try clear c1
    obtain ⟨x3_1, x4_1, x5_1, rfl, rfl, rfl, HA, HK1, ⟨m1, rfl⟩⟩ := hrel
    cases gk with
    | zero => exact absurd HA.out (by simp [spec_WeakOf.l0])
    | succ k1 =>
      have H := HA.out
      clear HA
      simp only [spec_WeakOf.l0] at H
      by_cases c2 : x5_1 < (l0.length : Int)
      · rw [if_pos c2] at H
        have c2b0 : decide (x5_1 < (l0.length : Int)) = true := decide_eq_true c2
        clear c2
        replace H := ifN H
        obtain ⟨c3, H⟩ := H
        have c3b0 : decide (0 ≤ x5_1) = true := decide_eq_true c3
        clear c3
        have H' := aM H
        clear H
        have p1065 : 0 ≤ (x5_1 : Int) := DT
        have q1065 : x5_1 < (l0.length : Int) := DT
        obtain ⟨ad1065, e1065, hx1065_0⟩ := Kd.at_int HR0.out x5_1 p1065 q1065
        cases e1065
        replace p1065 := eq_true p1065
        replace q1065 := eq_true q1065
        go_wp2
        go_roundg k1
        case measure => have := HK1.out; omega
        case rel => exact ⟨(Int.tmod (wrap64 (x3_1 + (wrap64 (rd l0 x5_1)))) 251), (Int.tmod (wrap64 (x4_1 + (Int.tmod (wrap64 (x3_1 + (wrap64 (rd l0 x5_1)))) 251))) 251), (wrap64 (x5_1 + 1)), (by first | rfl | (simp; done) | (simp [*]; done)), (by first | rfl | (simp; done) | (simp [*]; done)), (by first | rfl | (simp; done) | (simp [*]; done)), H', ⟨by have := HK1.out; omega⟩, TD⟩
      · rw [if_neg c2] at H
        have c2b0 : decide (x5_1 < (l0.length : Int)) = false := decide_eq_false c2
        clear c2
        obtain rfl := Option.some.inj H
        go_wp2
        go_ret
        exact ⟨by first | rfl | (simp; done) | (simp [*]; done), TD⟩

/-! ### spec_SumOf: function 148 -/
def spec_SumOf.l0 : Nat → List Int → Int → Int → Option (Int × Int)
  | 0, _, _, _ => none
  | k + 1, x0, x3, x4 => if x4 < (x0.length : Int) then (if 0 ≤ x4 then (spec_SumOf.l0 k x0 (wrap64 ((wrap64 (256 * x3)) + (wrap64 (rd x0 x4)))) (wrap64 (x4 + 1))) else (none)) else ((spec_WeakOf.f k x0).bind fun t1068 => (some (t1068, x3)))
def spec_SumOf.f (k : Nat) (l0 : List Int) : Option (Int × Int) := if (l0.length : Int) > 6 then (some (0, 0)) else (spec_SumOf.l0 k l0 1 0)
theorem spec_SumOf.mono_l : ∀ k, (∀ y0 y1 y2, LeO (spec_SumOf.l0 k y0 y1 y2) (spec_SumOf.l0 (k + 1) y0 y1 y2))
  | 0 => fun _ _ _ r h => by simp [spec_SumOf.l0] at h
  | k + 1 => by
    have m0_ := @spec_WeakOf.mono
    have ih0 := spec_SumOf.mono_l k
    · intro y0 y1 y2
      unfold spec_SumOf.l0
      exact LM
theorem spec_SumOf.mono : ∀ a0 k, LeO (spec_SumOf.f k a0) (spec_SumOf.f (k + 1) a0) := by
  intro a0 k
  have m0_ := @spec_WeakOf.mono
  have ih0 := spec_SumOf.mono_l k
  unfold spec_SumOf.f
  exact LM
set_option maxHeartbeats 40000000 in
set_option maxRecDepth 100000 in
theorem spec_SumOf.calls (k : Nat) (A0 : Option Addr) (c0 : Nat) (l0 : List Int) (r1 : Int) (r2 : Int) (w : World) (hr0 : Kd.C (Kd.int .u8) w A0 l0.length l0) (hc0 : l0.length ≤ c0) (h : spec_SumOf.f k l0 = some (r1, r2)) :
    Calls Try.prog 148 #[.slice A0 l0.length c0] w fun e w' => e = .returned (.agg #[.int .i64 r1, .int .i64 r2]) ∧ Below w.heap.size w w' := by
  have hu119 := Try.underlying119
  have HR0 := aM hr0
  have HC0 := aM hc0
  clear hr0 hc0
  have HB := aM (Below.refl w.heap.size w)
  have H := h
  clear h
  unfold spec_SumOf.f at H
  by_cases c2 : (l0.length : Int) > 6
  · rw [if_pos c2] at H
    have c2b0 : decide (6 < (l0.length : Int)) = true := decide_eq_true c2
    have c2b1 : decide (6 < l0.length) = true := decide_eq_true (by omega)
    clear c2
    simp only [Option.some.injEq, Prod.mk.injEq] at H
    obtain ⟨rfl, rfl⟩ := H
    go_enter Try.func148, Try.ntmps148
    go_wp2_with (first | ((with_reducible refine gate_dst (N := 2) rfl ?_); refine gBx 2 #[.int .i64 0, .int .i64 0] 119 ?_; intro gb1066 hg w3 hbox hb; have BK1066 := aM (hbox); have GW1066 := aM ((by rw [hg]; exact (below_size TB) : w.heap.size ≤ gb1066)); have GE1066 := aM ((by rw [hg]; exact (below_size TB) : w.heap.size ≤ gb1066)); replace HB := aM (below_step TB hb); clear hb hbox hg; obtain ⟨hcz4_0, hcz4_1⟩ := cz2 BK1066.out; obtain ⟨hfz4_0, hfz4_1⟩ := fz2 BK1066.out))
    refine bodyPost_ret (results_cell_row rfl _ _ gb1066 119 #[.int .i64 0, .int .i64 0] (0, 0) _ rfl (by (with_reducible repeat (first | refine blk_drewN ?_ _ | refine blk_drew ?_ | refine blk_alloc ?_ _)); refine blk_put (cs := #[.int .i64 0, .int .i64 0]) ?_ 1 _ rfl; (with_reducible repeat (first | refine blk_drewN ?_ _ | refine blk_drew ?_ | refine blk_alloc ?_ _)); refine blk_put (cs := #[.int .i64 0, .int .i64 0]) ?_ 0 _ rfl; (with_reducible repeat (first | refine blk_drewN ?_ _ | refine blk_drew ?_ | refine blk_alloc ?_ _)); exact BK1066.out) Try.underlying119 rfl (by kernel_rfl)) rfl ?_
    exact ⟨by first | rfl | (simp [errW_none, errW_some] <;> rfl) | (simp [*, errW_none, errW_some] <;> rfl), TB⟩
  · rw [if_neg c2] at H
    have c2b0 : decide (6 < (l0.length : Int)) = false := decide_eq_false c2
    have c2b1 : decide (6 < l0.length) = false := decide_eq_false (by omega)
    clear c2
    have H' := aM H
    clear H
    go_enter Try.func148, Try.ntmps148
    go_wp2_with (first | ((with_reducible refine gate_dst (N := 2) rfl ?_); refine gBx 2 #[.int .i64 0, .int .i64 0] 119 ?_; intro gb1066 hg w5 hbox hb; have BK1066 := aM (hbox); have GW1066 := aM ((by rw [hg]; exact (below_size TB) : w.heap.size ≤ gb1066)); have GE1066 := aM ((by rw [hg]; exact (below_size TB) : w.heap.size ≤ gb1066)); replace HB := aM (below_step TB hb); clear hb hbox hg))
    go_loopg [3, 4] k (fun kq v3 v4 w' => ∃ (x3_1 : Int) (x4_1 : Int), v3 = .int .i64 x3_1 ∧ v4 = .int .i64 x4_1 ∧ Aside0 (spec_SumOf.l0 kq l0 x3_1 x4_1 = some (r1, r2)) ∧ Aside0 (kq ≤ k) ∧ Aside0 (w'.heap[gb1066]? = some (.cells #[.int .i64 0, .int .i64 0] 119 (0, 0))) ∧ Aside0 (Below w.heap.size w w'))
    case atStart => exact ⟨(1), (0), (by first | rfl | (simp; done) | (simp [*]; done)), (by first | rfl | (simp; done) | (simp [*]; done)), H', ⟨Nat.le_refl _⟩, ⟨TK⟩, ⟨TB⟩⟩
    case round =>
      clear H'
      try clear c1
      try clear c2
      try clear c2b0
      try clear c2b1
      try clear p2
      try clear hcz4_0
      try clear hcz4_1
      try clear hfz4_0
      try clear hfz4_1
      obtain ⟨x3_1, x4_1, rfl, rfl, HA, HK1, BK1066, HB⟩ := hrel
      cases gk with
      | zero => exact absurd HA.out (by simp [spec_SumOf.l0])
      | succ k1 =>
        have H := HA.out
        clear HA
        simp only [spec_SumOf.l0] at H
        by_cases c6 : x4_1 < (l0.length : Int)
        · rw [if_pos c6] at H
          have c6b0 : decide (x4_1 < (l0.length : Int)) = true := decide_eq_true c6
          clear c6
          replace H := ifN H
          obtain ⟨c7, H⟩ := H
          have c7b0 : decide (0 ≤ x4_1) = true := decide_eq_true c7
          clear c7
          have H' := aM H
          clear H
          have p1067 : 0 ≤ (x4_1 : Int) := DT
          have q1067 : x4_1 < (l0.length : Int) := DT
          obtain ⟨ad1067, e1067, hx1067_0⟩ := Kd.at_int HR0.out x4_1 p1067 q1067
          cases e1067
          replace hx1067_0 := (HB.out.cell (World.block_lt_of_cell? w _ hx1067_0)).trans hx1067_0
          replace p1067 := eq_true p1067
          replace q1067 := eq_true q1067
          go_wp2
          go_roundg k1
          case measure => have := HK1.out; omega
          case rel => exact ⟨(wrap64 ((wrap64 (256 * x3_1)) + (wrap64 (rd l0 x4_1)))), (wrap64 (x4_1 + 1)), (by first | rfl | (simp; done) | (simp [*]; done)), (by first | rfl | (simp; done) | (simp [*]; done)), H', ⟨by have := HK1.out; omega⟩, ⟨TK⟩, ⟨TB⟩⟩
        · rw [if_neg c6] at H
          have c6b0 : decide (x4_1 < (l0.length : Int)) = false := decide_eq_false c6
          clear c6
          replace H := bE H
          obtain ⟨t1068, A8, H⟩ := H
          simp only [Option.some.injEq, Prod.mk.injEq] at H
          obtain ⟨rfl, rfl⟩ := H
          go_wp2_with (first | ((with_reducible refine gate_callee (f := 154) rfl ?_); refine gL (some 24) Try.func154 #[.slice A0 l0.length c0] ?_; (with_reducible refine (spec_WeakOf.calls k1 _ _ l0 t1068 _ ?side1 ?side2 A8.out).mono ?_); (case side1 => have X_ := (Kd.C_below HR0.out HB.out); exact TC); (case side2 => exact HC0.out); rintro e w' ⟨rfl, ⟨nd, rfl⟩⟩; refine ⟨_, rfl, ?_⟩; (try (rw [drewN_self wr]; generalize hq_ : World.drewN wr _ = wr; have n0_ : Aside0 (wr.heap[gb1066]? = some (.cells #[.int .i64 0, .int .i64 0] 119 (0, 0))) := ⟨by rw [← hq_]; exact TK⟩; have n1_ : Aside0 (Below w.heap.size w wr) := ⟨by rw [← hq_]; exact TB⟩; clear BK1066 HB hq_; have BK1066 := n0_; have HB := n1_; clear n0_ n1_)); obtain ⟨hcz9_0, hcz9_1⟩ := cz2 BK1066.out; obtain ⟨hfz9_0, hfz9_1⟩ := fz2 BK1066.out))
          refine bodyPost_ret (results_cell_row rfl _ _ gb1066 119 #[.int .i64 t1068, .int .i64 x3_1] (0, 0) _ rfl (by (with_reducible repeat (first | refine blk_drewN ?_ _ | refine blk_drew ?_ | refine blk_alloc ?_ _)); refine blk_put (cs := #[.int .i64 t1068, .int .i64 0]) ?_ 1 _ rfl; (with_reducible repeat (first | refine blk_drewN ?_ _ | refine blk_drew ?_ | refine blk_alloc ?_ _)); refine blk_put (cs := #[.int .i64 0, .int .i64 0]) ?_ 0 _ rfl; (with_reducible repeat (first | refine blk_drewN ?_ _ | refine blk_drew ?_ | refine blk_alloc ?_ _)); exact BK1066.out) Try.underlying119 rfl (by kernel_rfl)) rfl ?_
          exact ⟨by first | rfl | (simp [errW_none, errW_some] <;> rfl) | (simp [*, errW_none, errW_some] <;> rfl), TB⟩

/-! ### spec_SumsOf: function 135 -/
def spec_SumsOf.l0 : Nat → List Int → Int → List (S119) → Int → Option ((List (S119)))
  | 0, _, _, _, _ => none
  | k + 1, x0, x1, x5, x6 => (spec_Blocks.f x1 (x0.length : Int)).bind fun t1072 => (if x6 < t1072 then ((spec_BlockAt.f x0 x1 x6).bind fun bt1073 => ((spec_SumOf.f k bt1073.1).bind fun bt1077 => (if x5.length < 8796093022208 then (spec_SumsOf.l0 k x0 x1 (x5 ++ [(⟨bt1077.1, bt1077.2⟩ : S119)]) (wrap64 (x6 + 1))) else (none)))) else (some x5))
def spec_SumsOf.f (k : Nat) (l0 : List Int) (a1 : Int) : Option ((List (S119))) := spec_SumsOf.l0 k l0 a1 (([] : List (S119))) 0
theorem spec_SumsOf.mono_l : ∀ k, (∀ y0 y1 y2 y3, LeO (spec_SumsOf.l0 k y0 y1 y2 y3) (spec_SumsOf.l0 (k + 1) y0 y1 y2 y3))
  | 0 => fun _ _ _ _ r h => by simp [spec_SumsOf.l0] at h
  | k + 1 => by
    have m0_ := @spec_SumOf.mono
    have ih0 := spec_SumsOf.mono_l k
    · intro y0 y1 y2 y3
      unfold spec_SumsOf.l0
      exact LM
theorem spec_SumsOf.mono : ∀ a0 a1 k, LeO (spec_SumsOf.f k a0 a1) (spec_SumsOf.f (k + 1) a0 a1) := by
  intro a0 a1 k
  have m0_ := @spec_SumOf.mono
  have ih0 := spec_SumsOf.mono_l k
  unfold spec_SumsOf.f
  exact LM
set_option maxHeartbeats 40000000 in
set_option maxRecDepth 100000 in
theorem spec_SumsOf.calls (k : Nat) (A0 : Option Addr) (c0 : Nat) (l0 : List Int) (a1 : Int) (r : List (S119)) (w : World) (hr0 : Kd.C (Kd.int .u8) w A0 l0.length l0) (hc0 : l0.length ≤ c0) (h : spec_SumsOf.f k l0 a1 = some r) :
    Calls Try.prog 135 #[.slice A0 l0.length c0, .int .i64 a1] w fun e w' => ∃ v0_ : Value, e = .returned (v0_) ∧ Kd.R k119 119 w' w.heap.size (fun _ => True) v0_ r ∧ Below w.heap.size w w' := by
  have HR0 := aM hr0
  have HC0 := aM hc0
  clear hr0 hc0
  have HB := aM (Below.refl w.heap.size w)
  have H := h
  clear h
  unfold spec_SumsOf.f at H
  obtain ⟨y1069, hy1069⟩ : ∃ y_ : List (S119), y_ = (([] : List (S119))) := ⟨_, rfl⟩
  rw [← hy1069] at H
  have Ny1069 := aM hy1069
  clear hy1069
  have H' := aM H
  clear H
  go_enter Try.func135, Try.ntmps135
  go_wp2_with (first | ((with_reducible refine gate_dst (N := 9) rfl ?_); refine Kd.R_lit k119 _ 119 ?hg (N := 9) ?hd (xs := ([] : List (S119))) (inner := []) (ok := fun _ => True) (okp := fun _ => True) ?hr ?hp (fun _ hk => hk) trivial (Below.refl _ _) (Nat.le_refl _) (by simp) ?_; (case hd => rfl); (case hg => rfl); (case hr => first | (go_simp; done) | (go_simp; rfl)); (case hp => exact (Reps.none _ _)); intro v1070 w3 ho4 hb hg_ hnew_; clear hg_ hnew_; (first | rw [← Ny1069.out] at ho4 | (simp only [Int.reduceToNat] at ho4; rw [← Ny1069.out] at ho4)); have HO1071 := aM (Kd.R_lower ho4 (below_size TB)); replace HB := aM (below_step TB hb); clear hb ho4))
  go_loopg [5, 6] k (fun kq v5 v6 w' => ∃ (x5_1 : List (S119)) (x6_1 : Int), v6 = .int .i64 x6_1 ∧ Aside0 (spec_SumsOf.l0 kq l0 a1 x5_1 x6_1 = some r) ∧ Aside0 (kq ≤ k) ∧ Aside0 (Kd.R k119 119 w' w.heap.size (fun _ => True) v5 x5_1) ∧ Aside0 (Below w.heap.size w w'))
  case atStart => exact ⟨(y1069), (0), (by first | rfl | (simp; done) | (simp [*]; done)), H', ⟨Nat.le_refl _⟩, ⟨by have X_ := HO1071.out; exact TR⟩, ⟨TB⟩⟩
  case round =>
    clear H'
    try clear c1
    try clear p2
    obtain ⟨x5_1, x6_1, rfl, HA, HK1, HO_5, HB⟩ := hrel
    cases gk with
    | zero => exact absurd HA.out (by simp [spec_SumsOf.l0])
    | succ k1 =>
      have H := HA.out
      clear HA
      simp only [spec_SumsOf.l0] at H
      replace H := bE H
      obtain ⟨t1072, A5, H⟩ := H
      by_cases c6 : x6_1 < t1072
      · rw [if_pos c6] at H
        have c6b0 : decide (x6_1 < t1072) = true := decide_eq_true c6
        clear c6
        replace H := bE H
        obtain ⟨⟨t1073, t1074⟩, A7, H⟩ := H
        dsimp only at H
        replace H := bE H
        obtain ⟨⟨t1077, t1078⟩, A8, H⟩ := H
        dsimp only at H
        replace H := ifN H
        obtain ⟨c9, H⟩ := H
        have LMc9 := aM c9
        clear c9
        obtain ⟨y1079, hy1079⟩ : ∃ y_ : List (S119), y_ = (x5_1 ++ [(⟨t1077, t1078⟩ : S119)]) := ⟨_, rfl⟩
        rw [← hy1079] at H
        have Ny1079 := aM hy1079
        clear hy1079
        have H' := aM H
        clear H
        go_wp2_with (first | ((with_reducible refine gate_callee (f := 71) rfl ?_); refine gL (some 14) Try.func71 #[.int .i64 a1, .int .i64 (l0.length : Int)] ?_; (with_reducible refine (spec_Blocks.calls a1 (l0.length : Int) t1072 _ A5.out).mono ?_); rintro e w' ⟨rfl, ⟨nd, rfl⟩⟩; refine ⟨_, rfl, ?_⟩) | ((with_reducible refine gate_callee (f := 73) rfl ?_); refine gL (some 22) Try.func73 #[.slice A0 l0.length c0, .int .i64 a1, .int .i64 x6_1] ?_; (with_reducible refine (spec_BlockAt.calls _ _ l0 a1 x6_1 t1073 t1074 _ ?side1 ?side2 A7.out).mono ?_); (case side1 => repeat (first | exact (Kd.C_below HR0.out TB) | (with_reducible refine Kd.C_alloc ?_ _) | (with_reducible refine Kd.C_drewN ?_ _) | (with_reducible refine Kd.C_drew ?_))); (case side2 => exact HC0.out); rintro e w10 ⟨v1075, rfl, ho0, hb⟩; refine ⟨_, rfl, ?_⟩; have HO1076 := aM (Kd.R_lower ho0 (below_size TB)); replace HO_5 := aM (Kd.R_below (by have X_ := HO_5.out; exact TR) hb); replace HB := aM (below_step TB hb); clear ho0 hb; obtain ⟨Ao11, co11, eo11⟩ := Kd.R_slice HO1076.out; subst eo11) | ((with_reducible refine gate_callee (f := 148) rfl ?_); refine gL (some 27) Try.func148 #[.slice Ao11 t1073.length co11] ?_; (with_reducible refine (spec_SumOf.calls k1 _ _ t1073 t1077 t1078 _ ?side1 ?side2 A8.out).mono ?_); (case side1 => have X_ := (Kd.R_reads' HO1076.out).2.2; exact TC); (case side2 => exact (Kd.R_reads' HO1076.out).2.1); rintro e w12 ⟨rfl, hb⟩; refine ⟨_, rfl, ?_⟩; replace HO_5 := aM (Kd.R_below (by have X_ := HO_5.out; exact TR) hb); replace HO1076 := aM (Kd.R_below (by have X_ := HO1076.out; exact TR) hb); replace HB := aM (below_step TB hb); clear hb) | ((with_reducible refine gate_builtin (b := .append) (xs := #[.tmp 25, .tmp 28]) rfl ?_); at_builtin; refine Kd.R_append k119 (w0 := w) w.heap.size rfl (.tmp 25) (.tmp 28) 42 119 (.agg #[(.int .i64 0), (.int .i64 0)]) 16 rfl Try.underlying42 info119 rfl (by decide) (by omega) u5 x5_1 (⟨t1077, t1078⟩ : S119) [.int .i64 t1077, .int .i64 t1078] (fun _ => True) (fun _ => False) rfl rfl ?aP (fun _ hk => hk.elim) ?aF ?aO ?aB ?aS ?aL ?_; (case aP => exact k119_mkM _ _ _ (⟨t1077, t1078⟩ : S119)); (case aB => exact TB); (case aF => exact (fun _ _ => trivial)); (case aO => exact (by have X_ := HO_5.out; exact TR)); (case aS => exact (below_size TB)); (case aL => have := LMc9.out; omega); intro v1080 w13 ho hb hg hat; rw [← Ny1079.out] at ho; have HO1081 := aM (ho); replace HO1076 := aM (Kd.R_over' (by have X_ := HO1076.out; exact TR) (Kd.R_typed (by have X_ := HO_5.out; exact TR)) (by decide) hg); replace HB := aM (hb); clear HO_5; clear ho hb hg hat))
        go_roundg k1
        case measure => have := HK1.out; omega
        case rel => exact ⟨(y1079), (wrap64 (x6_1 + 1)), (by first | rfl | (simp; done) | (simp [*]; done)), H', ⟨by have := HK1.out; omega⟩, ⟨by have X_ := HO1081.out; exact TR⟩, ⟨TB⟩⟩
      · rw [if_neg c6] at H
        have c6b0 : decide (x6_1 < t1072) = false := decide_eq_false c6
        clear c6
        obtain rfl := Option.some.inj H
        go_wp2_with (first | ((with_reducible refine gate_callee (f := 71) rfl ?_); refine gL (some 14) Try.func71 #[.int .i64 a1, .int .i64 (l0.length : Int)] ?_; (with_reducible refine (spec_Blocks.calls a1 (l0.length : Int) t1072 _ A5.out).mono ?_); rintro e w' ⟨rfl, ⟨nd, rfl⟩⟩; refine ⟨_, rfl, ?_⟩))
        go_ret
        exact ⟨_, by first | rfl | (simp [errW_none, errW_some] <;> rfl) | (simp [*, errW_none, errW_some] <;> rfl), by have X_ := HO_5.out; exact TR, TB⟩

/-! ### spec_Tells: function 89 -/
def spec_Tells.f (k : Nat) (a0_0 : Int) (a0_1 : Int) (a0_2 : Int) (l0_3 : List (S119)) (l1 : List Int) : Option (Bool) := if (l1.length : Int) = a0_2 then ((spec_SumsOf.f k l1 a0_1).bind fun t1083 => ((spec_l6SameSums.f k t1083 l0_3).bind fun t1086 => (some t1086))) else (some false)
theorem spec_Tells.mono : ∀ a0 a1 a2 a3 a4 k, LeO (spec_Tells.f k a0 a1 a2 a3 a4) (spec_Tells.f (k + 1) a0 a1 a2 a3 a4) := by
  intro a0 a1 a2 a3 a4 k
  have m0_ := @spec_SumsOf.mono
  have m1_ := @spec_l6SameSums.mono
  unfold spec_Tells.f
  exact LM
def spec_Tells.T1 : Bool × List (List Nat × List Nat) := (true, [([], []), ([0], [0]), ([], []), ([2], [2]), ([1, 3], [1, 3]), ([4], [4]), ([5], [5]), ([5], [5]), ([7, 5], [5, 7]), ([6, 8, 5, 5], [5, 6, 8]), ([5], [5]), ([10, 5], [5, 10]), ([9, 11, 9, 5], [5, 9, 11]), ([5, 12], [5, 12]), ([13, 12, 0, 1, 2, 3, 4, 5, 6, 7, 8, 9, 10, 11, 12, 13], [13])])
def spec_Tells.B1 : List Nat := [0, 1, 0, 4, 15, 31, 63, 63, 191, 511, 63, 1087, 4095, 8191, 16383]
theorem spec_Tells.tab1 : rtab .any (opsOf Try.f89 1) = spec_Tells.T1 := by kernel_rfl
theorem spec_Tells.bits1 : waitsOk spec_Tells.T1.2 spec_Tells.B1 = true := by kernel_rfl
set_option maxHeartbeats 40000000 in
set_option maxRecDepth 100000 in
theorem spec_Tells.calls (k : Nat) (a0_0 : Int) (a0_1 : Int) (a0_2 : Int) (A0_3 : Option Addr) (c0_3 : Nat) (l0_3 : List (S119)) (A1 : Option Addr) (c1 : Nat) (l1 : List Int) (r : Bool) (w : World) (hr0_3 : Kd.C k119 w A0_3 l0_3.length l0_3) (hc0_3 : l0_3.length ≤ c0_3) (hr1 : Kd.C (Kd.int .u8) w A1 l1.length l1) (hc1 : l1.length ≤ c1) (h : spec_Tells.f k a0_0 a0_1 a0_2 l0_3 l1 = some r) :
    Calls Try.prog 89 #[.agg #[.int .i64 a0_0, .int .i64 a0_1, .int .i64 a0_2, .slice A0_3 l0_3.length c0_3], .slice A1 l1.length c1] w fun e w' => e = .returned (.bool r) ∧ Below w.heap.size w w' := by
  have hu44 := Try.underlying44
  have HR0_3 := aM hr0_3
  have HC0_3 := aM hc0_3
  clear hr0_3 hc0_3
  have HR1 := aM hr1
  have HC1 := aM hc1
  clear hr1 hc1
  have HB := aM (Below.refl w.heap.size w)
  have H := h
  clear h
  unfold spec_Tells.f at H
  by_cases c3 : (l1.length : Int) = a0_2
  · rw [if_pos c3] at H
    have c3b0 : ((l1.length : Int) == a0_2) = true := beq_iff_eq.mpr c3
    have c3b1 : ((l1.length : Int) != a0_2) = false := bne_eq_false_iff_eq.mpr c3
    clear c3
    replace H := bE H
    obtain ⟨t1083, A4, H⟩ := H
    replace H := bE H
    obtain ⟨t1086, A5, H⟩ := H
    obtain rfl := Option.some.inj H
    go_enter Try.func89, Try.ntmps89
    try go_wp2_with (first | ((with_reducible refine gate_dst (N := 2) rfl ?_); refine gBx 2 #[.int .i64 a0_0, .int .i64 a0_1, .int .i64 a0_2, .slice A0_3 l0_3.length c0_3] 44 ?_; intro gb1082 hg w6 hbox hb; have BK1082 := aM (hbox); have GW1082 := aM ((by rw [hg]; exact (below_size TB) : w.heap.size ≤ gb1082)); have GE1082 := aM ((by rw [hg]; exact (below_size TB) : w.heap.size ≤ gb1082)); replace HB := aM (below_step TB hb); clear hb hbox hg))
    replace BK1082 := aM (blk_drew BK1082.out)
    replace HB := aM (below_drew1 HB.out)
    refine start_ (n := 15) (S := fun w' => w'.cell? ⟨gb1082, 0, none⟩ = some (.int .i64 a0_0) ∧ w'.cell? ⟨gb1082, 1, none⟩ = some (.int .i64 a0_1) ∧ w'.cell? ⟨gb1082, 2, none⟩ = some (.int .i64 a0_2) ∧ w'.cell? ⟨gb1082, 3, none⟩ = some (.slice A0_3 l0_3.length c0_3)) (ds := []) (Array.replicate 15 false) (by kernel_rfl) rfl rfl (cz4 BK1082.out) (fun hHeld => ?_); refine with_tabW spec_Tells.tab1 spec_Tells.bits1 (fun HT_ HW_ => ?_)
    generalize w6.drew = w7 at BK1082 HB hHeld ⊢
    refine pP 0 (some 5) ?_
    refine pP 1 (some 6) ?_
    refine pP 2 (some 7) ?_
    refine pT 3 (some 8) ?_
    refine pP 4 (some 9) ?_
    refine pP 5 (some 10) ?_
    refine pP 6 (some 11) ?_
    refine pP 7 (some 12) ?_
    refine pP 10 (some 15) ?_
    refine pT 8 (some 13) ?_
    refine pT 11 (some 16) ?_
    refine pO 9 (some 14) (fun K hK => ?_)
    refine gG Try.func135 #[.slice A1 l1.length c1, .int .i64 a0_1] ?_
    with_reducible refine (spec_SumsOf.calls k _ _ l1 a0_1 t1083 _ ?side1 ?side2 A4.out).mono ?_
    (case side1 => have X_ := (Kd.C_below HR1.out HB.out); exact TC)
    (case side2 => exact HC1.out)
    rintro e w8 ⟨v1084, rfl, ho0, hb⟩
    refine ⟨_, rfl, ?_⟩
    have n0_ := aM (Kd.R_lower ho0 (below_size TB))
    have n1_ := aM (blk_below (by have X_ := BK1082.out; exact TX) hb)
    have n2_ := aM (below_step TB hb)
    clear BK1082
    clear HB
    have HO1085 := n0_
    have BK1082 := n1_
    have HB := n2_
    clear n0_ n1_ n2_
    (try clear hb)
    (try clear hb2)
    (try clear hk)
    (try clear hi)
    (try clear ho0)
    obtain ⟨Ao9, co9, eo9⟩ := Kd.R_slice HO1085.out
    (first | subst eo9 | (injection eo9 with f1_ f2_ f3_; have f4_ := f1_.symm; have f5_ := f3_.symm; clear f1_ f2_ f3_; subst f4_; subst f5_))
    refine hK.out _ _ (cz4 BK1082.out) (fun hHeld => ?_)
    clear hK K
    refine nR ?_
    refine pO 12 (some 17) (fun K hK => ?_)
    refine gG Try.func134 #[.slice Ao9 t1083.length co9, .slice A0_3 l0_3.length c0_3] ?_
    with_reducible refine (spec_l6SameSums.calls k _ _ t1083 _ _ l0_3 t1086 _ ?side1 ?side2 ?side3 ?side4 A5.out).mono ?_
    (case side1 => have X_ := (Kd.R_reads' HO1085.out).2.2; exact TC)
    (case side2 => exact (Kd.R_reads' HO1085.out).2.1)
    (case side3 => have X_ := (Kd.C_below HR0_3.out HB.out); exact TC)
    (case side4 => exact HC0_3.out)
    rintro e w' ⟨rfl, ⟨nd, rfl⟩⟩
    refine ⟨_, rfl, ?_⟩
    refine hK.out _ _ (cz4 BK1082.out) (fun hHeld => ?_)
    clear hK K
    refine nR ?_
    refine pP 13 (some 18) ?_
    refine pP 14 (some 4) ?_
    refine done_ (done_of HT_.out (by kernel_rfl)) ?_
    try go_wp2
    go_ret
    exact ⟨by first | rfl | (simp [errW_none, errW_some] <;> rfl) | (simp [*, errW_none, errW_some] <;> rfl), TB⟩
  · rw [if_neg c3] at H
    have c3b0 : ((l1.length : Int) == a0_2) = false := beq_eq_false_iff_ne.mpr c3
    have c3b1 : ((l1.length : Int) != a0_2) = true := bne_iff_ne.mpr c3
    obtain rfl := Option.some.inj H
    go_enter Try.func89, Try.ntmps89
    try go_wp2_with (first | ((with_reducible refine gate_dst (N := 2) rfl ?_); refine gBx 2 #[.int .i64 a0_0, .int .i64 a0_1, .int .i64 a0_2, .slice A0_3 l0_3.length c0_3] 44 ?_; intro gb1082 hg w10 hbox hb; have BK1082 := aM (hbox); have GW1082 := aM ((by rw [hg]; exact (below_size TB) : w.heap.size ≤ gb1082)); have GE1082 := aM ((by rw [hg]; exact (below_size TB) : w.heap.size ≤ gb1082)); replace HB := aM (below_step TB hb); clear hb hbox hg))
    replace BK1082 := aM (blk_drew BK1082.out)
    replace HB := aM (below_drew1 HB.out)
    refine start_ (n := 15) (S := fun w' => w'.cell? ⟨gb1082, 0, none⟩ = some (.int .i64 a0_0) ∧ w'.cell? ⟨gb1082, 1, none⟩ = some (.int .i64 a0_1) ∧ w'.cell? ⟨gb1082, 2, none⟩ = some (.int .i64 a0_2) ∧ w'.cell? ⟨gb1082, 3, none⟩ = some (.slice A0_3 l0_3.length c0_3)) (ds := []) (Array.replicate 15 false) (by kernel_rfl) rfl rfl (cz4 BK1082.out) (fun hHeld => ?_); refine with_tabW spec_Tells.tab1 spec_Tells.bits1 (fun HT_ HW_ => ?_)
    generalize w10.drew = w11 at BK1082 HB hHeld ⊢
    refine pP 0 (some 5) ?_
    refine pP 1 (some 6) ?_
    refine pP 2 (some 7) ?_
    refine pT 3 (some 8) ?_
    refine pP 4 (some 9) ?_
    refine pP 5 (some 10) ?_
    refine pX 6 (some 11) ?_
    refine pX 7 (some 12) ?_
    refine pX 8 (some 13) ?_
    refine pX 9 (some 14) ?_
    refine pX 10 (some 15) ?_
    refine pX 11 (some 16) ?_
    refine pX 12 (some 17) ?_
    refine pP 13 (some 18) ?_
    refine pP 14 (some 4) ?_
    refine done_ (done_of HT_.out (by kernel_rfl)) ?_
    try go_wp2
    go_ret
    exact ⟨by first | rfl | (simp [errW_none, errW_some] <;> rfl) | (simp [*, errW_none, errW_some] <;> rfl), TB⟩

end Go.Proofs.Ytlghklbjmmijpaa.Q
