/- Functions of the program as plain Lean functions, and that a call of each comes to what its function tells. Written by a program of this seat. -/
import Derived.Test.YtogilihkphjjbaaQ0
namespace Go.Proofs.Ytogilihkphjjbaa.Q
open Go.RowKit Go.Proofs.YtogilihkphjjbaaW.PrintWords Go.Proofs.YtogilihkphjjbaaW.PrintLast Go.Proofs.YtogilihkphjjbaaW.PrintMore
attribute [local go_sem] max2_int min2_int max_two min_two max_three min_three max_four min_four   -- for this text's walks alone
set_option linter.unusedVariables false
set_option linter.unusedSimpArgs false

/-! ### laws_toByteS: function 21 -/
def laws_toByteS.l0 : Nat → List Int → List Int → Int → Option (List Int)
  | 0, _, _, _ => none
  | k + 1, x0, x3, x4 => if x4 < (x0.length : Int) then (if 0 ≤ x4 then (if x4 < (x3.length : Int) then (laws_toByteS.l0 k x0 (x3.set (x4 : Int).toNat (rd x0 x4)) (wrap64 (x4 + 1))) else (none)) else (none)) else (some x3)
def laws_toByteS.f (k : Nat) (l0 : List Int) : Option (List Int) := if 0 ≤ (l0.length : Int) then (if ((l0.length : Int) : Int).toNat ≤ 281474976710656 then (laws_toByteS.l0 k l0 (List.replicate ((l0.length : Int) : Int).toNat 0) 0) else (none)) else (none)
theorem laws_toByteS.mono_l : ∀ k, (∀ y0 y1 y2, LeO (laws_toByteS.l0 k y0 y1 y2) (laws_toByteS.l0 (k + 1) y0 y1 y2))
  | 0 => fun _ _ _ r h => by simp [laws_toByteS.l0] at h
  | k + 1 => by
    have ih0 := laws_toByteS.mono_l k
    · intro y0 y1 y2
      unfold laws_toByteS.l0
      exact LM
theorem laws_toByteS.mono : ∀ a0 k, LeO (laws_toByteS.f k a0) (laws_toByteS.f (k + 1) a0) := by
  intro a0 k
  have ih0 := laws_toByteS.mono_l k
  unfold laws_toByteS.f
  exact LM
set_option maxHeartbeats 40000000 in
set_option maxRecDepth 100000 in
theorem laws_toByteS.calls (k : Nat) (A0 : Option Addr) (c0 : Nat) (l0 : List Int) (r : List Int) (w : World) (hr0 : Kd.C (Kd.int .u8) w A0 l0.length l0) (hc0 : l0.length ≤ c0) (h : laws_toByteS.f k l0 = some r) :
    Calls Try.prog 21 #[.slice A0 l0.length c0] w fun e w' => ∃ v0_ : Value, e = .returned (v0_) ∧ Kd.R (Kd.int .u8) 5 w' w.heap.size (fun _ => True) v0_ r ∧ Below w.heap.size w w' := by
  have HR0 := aM hr0
  have HC0 := aM hc0
  clear hr0 hc0
  have HB := aM (Below.refl w.heap.size w)
  have H := h
  clear h
  unfold laws_toByteS.f at H
  replace H := ifN H
  obtain ⟨c2, H⟩ := H
  have c2b0 := eq_true c2
  have c2b1 : decide (0 ≤ (l0.length : Int)) = true := decide_eq_true c2
  clear c2
  replace H := ifN H
  obtain ⟨c3, H⟩ := H
  have c3b0 := eq_true c3
  have c3b1 : decide (((l0.length : Int) : Int).toNat ≤ 281474976710656) = true := decide_eq_true c3
  clear c3
  obtain ⟨y110, hy110⟩ : ∃ y_ : List Int, y_ = (List.replicate ((l0.length : Int) : Int).toNat 0) := ⟨_, rfl⟩
  rw [← hy110] at H
  have Ny110 := aM hy110
  clear hy110
  have H' := aM H
  clear H
  go_enter Try.func21, Try.ntmps21
  go_wp2_with (first | ((with_reducible refine gate_dst (N := 7) rfl ?_); refine Kd.R_make (Kd.int .u8) _ 5 rfl (N := 7) rfl 22 _ _ rfl (l0.length : Int) rfl rfl Try.underlying22 (.int .u8 0) 1 info5 rfl (by decide) (by omega) 0 (ok := fun _ => True) (okp := fun _ => True) rfl (fun _ hk => hk) trivial DT (Nat.le_trans (Nat.mul_le_mul_right _ (DT : (l0.length : Int).toNat ≤ 281474976710656)) (by omega)) (Below.refl _ _) (Nat.le_refl _) ?_; intro v111 w4 ho5 hb hg_ hnew_; clear hg_ hnew_; (first | rw [← Ny110.out] at ho5 | (simp only [Int.reduceToNat] at ho5; rw [← Ny110.out] at ho5)); have HO112 := aM (Kd.R_lower ho5 (below_size TB)); replace HB := aM (below_step TB hb); clear hb ho5))
  go_loopg [4] k (fun kq v4 w' => ∃ (x3_1 : List Int) (x4_1 : Int), v4 = .int .i64 x4_1 ∧ Aside0 (laws_toByteS.l0 kq l0 x3_1 x4_1 = some r) ∧ Aside0 (kq ≤ k) ∧ Aside0 (Kd.R (Kd.int .u8) 5 w' w.heap.size (fun _ => True) v111 x3_1) ∧ Aside0 (Below w.heap.size w w'))
  case atStart => exact ⟨(y110), (0), (by first | rfl | (simp; done) | (simp [*]; done)), H', ⟨Nat.le_refl _⟩, ⟨by have X_ := HO112.out; exact TR⟩, ⟨TB⟩⟩
  case round =>
    clear H'
    try clear c2
    try clear c2b0
    try clear c2b1
    try clear p2
    try clear c3
    try clear c3b0
    try clear c3b1
    obtain ⟨x3_1, x4_1, rfl, HA, HK1, HO_3, HB⟩ := hrel
    cases gk with
    | zero => exact absurd HA.out (by simp [laws_toByteS.l0])
    | succ k1 =>
      have H := HA.out
      clear HA
      simp only [laws_toByteS.l0] at H
      by_cases c6 : x4_1 < (l0.length : Int)
      · rw [if_pos c6] at H
        have c6b0 : decide (x4_1 < (l0.length : Int)) = true := decide_eq_true c6
        clear c6
        replace H := ifN H
        obtain ⟨c7, H⟩ := H
        have c7b0 : decide (0 ≤ x4_1) = true := decide_eq_true c7
        clear c7
        replace H := ifN H
        obtain ⟨c8, H⟩ := H
        have c8b0 : decide (x4_1 < (x3_1.length : Int)) = true := decide_eq_true c8
        clear c8
        obtain ⟨y114, hy114⟩ : ∃ y_ : List Int, y_ = (x3_1.set (x4_1 : Int).toNat (rd l0 x4_1)) := ⟨_, rfl⟩
        rw [← hy114] at H
        have Ny114 := aM hy114
        clear hy114
        have H' := aM H
        clear H
        have p113 : 0 ≤ (x4_1 : Int) := DT
        have q113 : x4_1 < (l0.length : Int) := DT
        obtain ⟨ad113, e113, hx113_0⟩ := Kd.at_int HR0.out x4_1 p113 q113
        cases e113
        replace hx113_0 := (HB.out.cell (World.block_lt_of_cell? w _ hx113_0)).trans hx113_0
        replace p113 := eq_true p113
        replace q113 := eq_true q113
        have p9 : 0 ≤ (x4_1 : Int) := DT
        have q9 : (x4_1 : Int) < ((x3_1.length : Int) : Int) := DT
        obtain ⟨go9, co9, eo9, gb9, gl9, cl9, HG9⟩ := Kd.R_form HO_3.out (by omega)
        (first | cases eo9 | (injection eo9 with ea_ en_ ec_; (first | subst ea_ | (injection ea_ with ea_; subst ea_)); subst ec_; clear en_))
        have GB9 := aM gb9
        have GG9 := aM HG9
        clear gb9 gl9 HG9
        obtain ⟨hx9_0, hf9_0⟩ := Kd.R_celln 0 HO_3.out (x4_1 : Int) p9 q9
        replace p9 := eq_true p9
        replace q9 := eq_true q9
        have HP10 := Kd.R_putg HO_3.out (x4_1 : Int) (rd l0 x4_1)
        go_wp2_with (first | ((with_reducible refine gate_store (t := 5) (p := 20) rfl ?_); refine store_event (t := 5) (p := 20) (v := ?vo_w11) (w1 := (wr.setCell ⟨go9, (x4_1 : Int).toNat, none⟩ (.int .u8 (rd l0 x4_1)))) ?hg ?ho ?hn ?hr ?_; (case ho => rfl); (case hg => rfl); (case hn => rfl); (case hr => first | (go_simp; done) | (go_simp; rfl)); intro w11 hw; have hg : wr.grownBy w11 (some go9) := (by rw [hw]; exact HP10.2); have hp_ : Kd.R (Kd.int .u8) 5 w11 w.heap.size (fun _ => True) (.slice (some ⟨go9, 0, none⟩) x3_1.length co9) y114 := (by rw [hw, Ny114.out]; exact HP10.1); clear HP10; replace HO_3 := aM (hp_); replace HB := aM ((by rw [hw]; exact below_set (HB.out) GB9.out : Below w.heap.size w w11)); clear hg hw hp_))
        go_roundg k1
        case measure => have := HK1.out; omega
        case rel => exact ⟨(y114), (wrap64 (x4_1 + 1)), (by first | rfl | (simp; done) | (simp [*]; done)), H', ⟨by have := HK1.out; omega⟩, ⟨by have X_ := HO_3.out; exact TR⟩, ⟨TB⟩⟩
      · rw [if_neg c6] at H
        have c6b0 : decide (x4_1 < (l0.length : Int)) = false := decide_eq_false c6
        clear c6
        obtain rfl := Option.some.inj H
        go_wp2
        go_ret
        exact ⟨_, by first | rfl | (simp [errW_none, errW_some] <;> rfl) | (simp [*, errW_none, errW_some] <;> rfl), by have X_ := HO_3.out; exact TR, TB⟩

/-! ### laws_eqByteS: function 23 -/
def laws_eqByteS.l0 : Nat → List Int → List Int → Int → Option (Bool)
  | 0, _, _, _ => none
  | k + 1, x0, x1, x5 => if x5 < (x0.length : Int) then (if 0 ≤ x5 then (if x5 < (x1.length : Int) then (if (rd x0 x5) = (rd x1 x5) then (laws_eqByteS.l0 k x0 x1 (wrap64 (x5 + 1))) else (some false)) else (none)) else (none)) else (some true)
def laws_eqByteS.f (k : Nat) (l0 : List Int) (l1 : List Int) : Option (Bool) := if (l0.length : Int) = (l1.length : Int) then (laws_eqByteS.l0 k l0 l1 0) else (some false)
theorem laws_eqByteS.mono_l : ∀ k, (∀ y0 y1 y2, LeO (laws_eqByteS.l0 k y0 y1 y2) (laws_eqByteS.l0 (k + 1) y0 y1 y2))
  | 0 => fun _ _ _ r h => by simp [laws_eqByteS.l0] at h
  | k + 1 => by
    have ih0 := laws_eqByteS.mono_l k
    · intro y0 y1 y2
      unfold laws_eqByteS.l0
      exact LM
theorem laws_eqByteS.mono : ∀ a0 a1 k, LeO (laws_eqByteS.f k a0 a1) (laws_eqByteS.f (k + 1) a0 a1) := by
  intro a0 a1 k
  have ih0 := laws_eqByteS.mono_l k
  unfold laws_eqByteS.f
  exact LM
set_option maxHeartbeats 40000000 in
set_option maxRecDepth 100000 in
theorem laws_eqByteS.calls (k : Nat) (A0 : Option Addr) (c0 : Nat) (l0 : List Int) (A1 : Option Addr) (c1 : Nat) (l1 : List Int) (r : Bool) (w : World) (hr0 : Kd.C (Kd.int .u8) w A0 l0.length l0) (hc0 : l0.length ≤ c0) (hr1 : Kd.C (Kd.int .u8) w A1 l1.length l1) (hc1 : l1.length ≤ c1) (h : laws_eqByteS.f k l0 l1 = some r) :
    Calls Try.prog 23 #[.slice A0 l0.length c0, .slice A1 l1.length c1] w fun e w' => e = .returned (.bool r) ∧ Drawn0 w w' := by
  have HR0 := aM hr0
  have HC0 := aM hc0
  clear hr0 hc0
  have HR1 := aM hr1
  have HC1 := aM hc1
  clear hr1 hc1
  have H := h
  clear h
  unfold laws_eqByteS.f at H
  by_cases c3 : (l0.length : Int) = (l1.length : Int)
  · rw [if_pos c3] at H
    have c3b0 : ((l0.length : Int) == (l1.length : Int)) = true := beq_iff_eq.mpr c3
    have c3b1 : ((l0.length : Int) != (l1.length : Int)) = false := bne_eq_false_iff_eq.mpr c3
    have c3b2 : (l0.length == l1.length) = true := by first | simpa using c3 | (simp at c3 ⊢; omega)
    clear c3
    have H' := aM H
    clear H
    go_enter Try.func23, Try.ntmps23
    go_wp2
    repeat (go_quiet (fail); try go_wp2)
    go_loopg [5] k (fun kq v5 w' => ∃ (x5_1 : Int), v5 = .int .i64 x5_1 ∧ Aside0 (laws_eqByteS.l0 kq l0 l1 x5_1 = some r) ∧ Aside0 (kq ≤ k) ∧ Drawn0 w w')
    case atStart => exact ⟨(0), (by first | rfl | (simp; done) | (simp [*]; done)), H', ⟨Nat.le_refl _⟩, TD⟩
    case round =>
      clear H'
      try clear c1
      try clear c2
      try clear p2
      try clear c3
      try clear c3b0
      try clear c3b1
      try clear c3b2
      obtain ⟨x5_1, rfl, HA, HK1, ⟨m1, rfl⟩⟩ := hrel
      cases gk with
      | zero => exact absurd HA.out (by simp [laws_eqByteS.l0])
      | succ k1 =>
        have H := HA.out
        clear HA
        simp only [laws_eqByteS.l0] at H
        by_cases c4 : x5_1 < (l0.length : Int)
        · rw [if_pos c4] at H
          have c4b0 : decide (x5_1 < (l0.length : Int)) = true := decide_eq_true c4
          clear c4
          replace H := ifN H
          obtain ⟨c5, H⟩ := H
          have c5b0 : decide (0 ≤ x5_1) = true := decide_eq_true c5
          clear c5
          replace H := ifN H
          obtain ⟨c6, H⟩ := H
          have c6b0 : decide (x5_1 < (l1.length : Int)) = true := decide_eq_true c6
          clear c6
          by_cases c7 : (rd l0 x5_1) = (rd l1 x5_1)
          · rw [if_pos c7] at H
            have c7b0 : ((rd l0 x5_1) == (rd l1 x5_1)) = true := beq_iff_eq.mpr c7
            have c7b1 : ((rd l0 x5_1) != (rd l1 x5_1)) = false := bne_eq_false_iff_eq.mpr c7
            clear c7
            have H' := aM H
            clear H
            have p156 : 0 ≤ (x5_1 : Int) := DT
            have q156 : x5_1 < (l0.length : Int) := DT
            obtain ⟨ad156, e156, hx156_0⟩ := Kd.at_int HR0.out x5_1 p156 q156
            cases e156
            replace p156 := eq_true p156
            replace q156 := eq_true q156
            have p157 : 0 ≤ (x5_1 : Int) := DT
            have q157 : x5_1 < (l1.length : Int) := DT
            obtain ⟨ad157, e157, hx157_0⟩ := Kd.at_int HR1.out x5_1 p157 q157
            cases e157
            replace p157 := eq_true p157
            replace q157 := eq_true q157
            go_wp2
            repeat (go_quiet (fail); try go_wp2)
            go_roundg k1
            case measure => have := HK1.out; omega
            case rel => exact ⟨(wrap64 (x5_1 + 1)), (by first | rfl | (simp; done) | (simp [*]; done)), H', ⟨by have := HK1.out; omega⟩, TD⟩
          · rw [if_neg c7] at H
            have c7b0 : ((rd l0 x5_1) == (rd l1 x5_1)) = false := beq_eq_false_iff_ne.mpr c7
            have c7b1 : ((rd l0 x5_1) != (rd l1 x5_1)) = true := bne_iff_ne.mpr c7
            obtain rfl := Option.some.inj H
            have p156 : 0 ≤ (x5_1 : Int) := DT
            have q156 : x5_1 < (l0.length : Int) := DT
            obtain ⟨ad156, e156, hx156_0⟩ := Kd.at_int HR0.out x5_1 p156 q156
            cases e156
            replace p156 := eq_true p156
            replace q156 := eq_true q156
            have p157 : 0 ≤ (x5_1 : Int) := DT
            have q157 : x5_1 < (l1.length : Int) := DT
            obtain ⟨ad157, e157, hx157_0⟩ := Kd.at_int HR1.out x5_1 p157 q157
            cases e157
            replace p157 := eq_true p157
            replace q157 := eq_true q157
            go_wp2
            repeat (go_quiet (fail); try go_wp2)
            go_ret
            exact ⟨by first | rfl | (simp; done) | (simp [*]; done), TD⟩
        · rw [if_neg c4] at H
          have c4b0 : decide (x5_1 < (l0.length : Int)) = false := decide_eq_false c4
          clear c4
          obtain rfl := Option.some.inj H
          go_wp2
          repeat (go_quiet (fail); try go_wp2)
          go_ret
          exact ⟨by first | rfl | (simp; done) | (simp [*]; done), TD⟩
  · rw [if_neg c3] at H
    have c3b0 : ((l0.length : Int) == (l1.length : Int)) = false := beq_eq_false_iff_ne.mpr c3
    have c3b1 : ((l0.length : Int) != (l1.length : Int)) = true := bne_iff_ne.mpr c3
    have c3b2 : (l0.length == l1.length) = false := by first | simpa using c3 | (simp at c3 ⊢; omega)
    obtain rfl := Option.some.inj H
    go_enter Try.func23, Try.ntmps23
    go_wp2
    repeat (go_quiet (fail); try go_wp2)
    go_ret
    exact ⟨by first | rfl | (simp; done) | (simp [*]; done), TD⟩

/-! ### laws_eqRecord: function 59 -/
def laws_eqRecord.f (a0_0 : Int) (a0_1 : Int) (a0_2 : Int) (a1_0 : Int) (a1_1 : Int) (a1_2 : Int) : Option (Bool) := if a0_0 = a1_0 then (if a0_1 = a1_1 then (if a0_2 = a1_2 then (some true) else (some false)) else (some false)) else (some false)
set_option maxHeartbeats 40000000 in
set_option maxRecDepth 100000 in
theorem laws_eqRecord.calls (a0_0 : Int) (a0_1 : Int) (a0_2 : Int) (a1_0 : Int) (a1_1 : Int) (a1_2 : Int) (r : Bool) (w : World) (h : laws_eqRecord.f a0_0 a0_1 a0_2 a1_0 a1_1 a1_2 = some r) :
    Calls Try.prog 59 #[.agg #[.int .i64 a0_0, .int .i64 a0_1, .int .i64 a0_2], .agg #[.int .i64 a1_0, .int .i64 a1_1, .int .i64 a1_2]] w fun e w' => e = .returned (.bool r) ∧ Below w.heap.size w w' := by
  have hu30 := Try.underlying30
  have HB := aM (Below.refl w.heap.size w)
  have H := h
  clear h
  unfold laws_eqRecord.f at H
  by_cases c3 : a0_0 = a1_0
  · rw [if_pos c3] at H
    have c3b0 : (a0_0 == a1_0) = true := beq_iff_eq.mpr c3
    have c3b1 : (a0_0 != a1_0) = false := bne_eq_false_iff_eq.mpr c3
    clear c3
    by_cases c4 : a0_1 = a1_1
    · rw [if_pos c4] at H
      have c4b0 : (a0_1 == a1_1) = true := beq_iff_eq.mpr c4
      have c4b1 : (a0_1 != a1_1) = false := bne_eq_false_iff_eq.mpr c4
      clear c4
      by_cases c5 : a0_2 = a1_2
      · rw [if_pos c5] at H
        have c5b0 : (a0_2 == a1_2) = true := beq_iff_eq.mpr c5
        have c5b1 : (a0_2 != a1_2) = false := bne_eq_false_iff_eq.mpr c5
        clear c5
        obtain rfl := Option.some.inj H
        go_enter Try.func59, Try.ntmps59
        go_wp2_with (first | ((with_reducible refine gate_dst (N := 2) rfl ?_); refine gBx 2 #[.int .i64 a0_0, .int .i64 a0_1, .int .i64 a0_2] 30 ?_; intro gb158 hg w6 hbox hb; have BK158 := aM (hbox); have GW158 := aM ((by rw [hg]; exact (below_size TB) : w.heap.size ≤ gb158)); have GE158 := aM ((by rw [hg]; exact (below_size TB) : w.heap.size ≤ gb158)); replace HB := aM (below_step TB hb); clear hb hbox hg) | ((with_reducible refine gate_dst (N := 3) rfl ?_); refine gBx 3 #[.int .i64 a1_0, .int .i64 a1_1, .int .i64 a1_2] 30 ?_; intro gb159 hg w7 hbox hb; have BK159 := aM (hbox); have GW159 := aM ((by rw [hg]; exact (below_size TB) : w.heap.size ≤ gb159)); have GE159 := aM ((by rw [hg]; exact (below_size TB) : w.heap.size ≤ gb159)); have NB158_159 := aM ((by rw [hg]; exact Nat.ne_of_lt (blk_lt (by have X_ := BK158.out; exact TX)) : gb158 ≠ gb159)); have NB159_158 := aM ((by rw [hg]; exact Nat.ne_of_gt (blk_lt (by have X_ := BK158.out; exact TX)) : gb159 ≠ gb158)); replace BK158 := aM (blk_below (by have X_ := BK158.out; exact TX) hb); replace HB := aM (below_step TB hb); clear hb hbox hg; have hnb8 := NB158_159.out; have hnc8 := NB159_158.out; obtain ⟨hcz9_0, hcz9_1, hcz9_2⟩ := cz3 BK158.out; obtain ⟨hfz9_0, hfz9_1, hfz9_2⟩ := fz3 BK158.out; obtain ⟨hcz10_0, hcz10_1, hcz10_2⟩ := cz3 BK159.out; obtain ⟨hfz10_0, hfz10_1, hfz10_2⟩ := fz3 BK159.out))
        go_ret
        exact ⟨by first | rfl | (simp [errW_none, errW_some] <;> rfl) | (simp [*, errW_none, errW_some] <;> rfl), TB⟩
      · rw [if_neg c5] at H
        have c5b0 : (a0_2 == a1_2) = false := beq_eq_false_iff_ne.mpr c5
        have c5b1 : (a0_2 != a1_2) = true := bne_iff_ne.mpr c5
        obtain rfl := Option.some.inj H
        go_enter Try.func59, Try.ntmps59
        go_wp2_with (first | ((with_reducible refine gate_dst (N := 2) rfl ?_); refine gBx 2 #[.int .i64 a0_0, .int .i64 a0_1, .int .i64 a0_2] 30 ?_; intro gb158 hg w11 hbox hb; have BK158 := aM (hbox); have GW158 := aM ((by rw [hg]; exact (below_size TB) : w.heap.size ≤ gb158)); have GE158 := aM ((by rw [hg]; exact (below_size TB) : w.heap.size ≤ gb158)); replace HB := aM (below_step TB hb); clear hb hbox hg) | ((with_reducible refine gate_dst (N := 3) rfl ?_); refine gBx 3 #[.int .i64 a1_0, .int .i64 a1_1, .int .i64 a1_2] 30 ?_; intro gb159 hg w12 hbox hb; have BK159 := aM (hbox); have GW159 := aM ((by rw [hg]; exact (below_size TB) : w.heap.size ≤ gb159)); have GE159 := aM ((by rw [hg]; exact (below_size TB) : w.heap.size ≤ gb159)); have NB158_159 := aM ((by rw [hg]; exact Nat.ne_of_lt (blk_lt (by have X_ := BK158.out; exact TX)) : gb158 ≠ gb159)); have NB159_158 := aM ((by rw [hg]; exact Nat.ne_of_gt (blk_lt (by have X_ := BK158.out; exact TX)) : gb159 ≠ gb158)); replace BK158 := aM (blk_below (by have X_ := BK158.out; exact TX) hb); replace HB := aM (below_step TB hb); clear hb hbox hg; have hnb13 := NB158_159.out; have hnc13 := NB159_158.out; obtain ⟨hcz14_0, hcz14_1, hcz14_2⟩ := cz3 BK158.out; obtain ⟨hfz14_0, hfz14_1, hfz14_2⟩ := fz3 BK158.out; obtain ⟨hcz15_0, hcz15_1, hcz15_2⟩ := cz3 BK159.out; obtain ⟨hfz15_0, hfz15_1, hfz15_2⟩ := fz3 BK159.out))
        go_ret
        exact ⟨by first | rfl | (simp [errW_none, errW_some] <;> rfl) | (simp [*, errW_none, errW_some] <;> rfl), TB⟩
    · rw [if_neg c4] at H
      have c4b0 : (a0_1 == a1_1) = false := beq_eq_false_iff_ne.mpr c4
      have c4b1 : (a0_1 != a1_1) = true := bne_iff_ne.mpr c4
      obtain rfl := Option.some.inj H
      go_enter Try.func59, Try.ntmps59
      go_wp2_with (first | ((with_reducible refine gate_dst (N := 2) rfl ?_); refine gBx 2 #[.int .i64 a0_0, .int .i64 a0_1, .int .i64 a0_2] 30 ?_; intro gb158 hg w16 hbox hb; have BK158 := aM (hbox); have GW158 := aM ((by rw [hg]; exact (below_size TB) : w.heap.size ≤ gb158)); have GE158 := aM ((by rw [hg]; exact (below_size TB) : w.heap.size ≤ gb158)); replace HB := aM (below_step TB hb); clear hb hbox hg) | ((with_reducible refine gate_dst (N := 3) rfl ?_); refine gBx 3 #[.int .i64 a1_0, .int .i64 a1_1, .int .i64 a1_2] 30 ?_; intro gb159 hg w17 hbox hb; have BK159 := aM (hbox); have GW159 := aM ((by rw [hg]; exact (below_size TB) : w.heap.size ≤ gb159)); have GE159 := aM ((by rw [hg]; exact (below_size TB) : w.heap.size ≤ gb159)); have NB158_159 := aM ((by rw [hg]; exact Nat.ne_of_lt (blk_lt (by have X_ := BK158.out; exact TX)) : gb158 ≠ gb159)); have NB159_158 := aM ((by rw [hg]; exact Nat.ne_of_gt (blk_lt (by have X_ := BK158.out; exact TX)) : gb159 ≠ gb158)); replace BK158 := aM (blk_below (by have X_ := BK158.out; exact TX) hb); replace HB := aM (below_step TB hb); clear hb hbox hg; have hnb18 := NB158_159.out; have hnc18 := NB159_158.out; obtain ⟨hcz19_0, hcz19_1, hcz19_2⟩ := cz3 BK158.out; obtain ⟨hfz19_0, hfz19_1, hfz19_2⟩ := fz3 BK158.out; obtain ⟨hcz20_0, hcz20_1, hcz20_2⟩ := cz3 BK159.out; obtain ⟨hfz20_0, hfz20_1, hfz20_2⟩ := fz3 BK159.out))
      go_ret
      exact ⟨by first | rfl | (simp [errW_none, errW_some] <;> rfl) | (simp [*, errW_none, errW_some] <;> rfl), TB⟩
  · rw [if_neg c3] at H
    have c3b0 : (a0_0 == a1_0) = false := beq_eq_false_iff_ne.mpr c3
    have c3b1 : (a0_0 != a1_0) = true := bne_iff_ne.mpr c3
    obtain rfl := Option.some.inj H
    go_enter Try.func59, Try.ntmps59
    go_wp2_with (first | ((with_reducible refine gate_dst (N := 2) rfl ?_); refine gBx 2 #[.int .i64 a0_0, .int .i64 a0_1, .int .i64 a0_2] 30 ?_; intro gb158 hg w21 hbox hb; have BK158 := aM (hbox); have GW158 := aM ((by rw [hg]; exact (below_size TB) : w.heap.size ≤ gb158)); have GE158 := aM ((by rw [hg]; exact (below_size TB) : w.heap.size ≤ gb158)); replace HB := aM (below_step TB hb); clear hb hbox hg) | ((with_reducible refine gate_dst (N := 3) rfl ?_); refine gBx 3 #[.int .i64 a1_0, .int .i64 a1_1, .int .i64 a1_2] 30 ?_; intro gb159 hg w22 hbox hb; have BK159 := aM (hbox); have GW159 := aM ((by rw [hg]; exact (below_size TB) : w.heap.size ≤ gb159)); have GE159 := aM ((by rw [hg]; exact (below_size TB) : w.heap.size ≤ gb159)); have NB158_159 := aM ((by rw [hg]; exact Nat.ne_of_lt (blk_lt (by have X_ := BK158.out; exact TX)) : gb158 ≠ gb159)); have NB159_158 := aM ((by rw [hg]; exact Nat.ne_of_gt (blk_lt (by have X_ := BK158.out; exact TX)) : gb159 ≠ gb158)); replace BK158 := aM (blk_below (by have X_ := BK158.out; exact TX) hb); replace HB := aM (below_step TB hb); clear hb hbox hg; have hnb23 := NB158_159.out; have hnc23 := NB159_158.out; obtain ⟨hcz24_0, hcz24_1, hcz24_2⟩ := cz3 BK158.out; obtain ⟨hfz24_0, hfz24_1, hfz24_2⟩ := fz3 BK158.out; obtain ⟨hcz25_0, hcz25_1, hcz25_2⟩ := cz3 BK159.out; obtain ⟨hfz25_0, hfz25_1, hfz25_2⟩ := fz3 BK159.out))
    go_ret
    exact ⟨by first | rfl | (simp [errW_none, errW_some] <;> rfl) | (simp [*, errW_none, errW_some] <;> rfl), TB⟩

/-! ### laws_eqPut: function 40 -/
def laws_eqPut.f (k : Nat) (a0_0 : Int) (a0_1 : Int) (l0_2 : List Int) (a0_3 : Int) (a0_4 : Int) (a0_5 : Int) (a1_0 : Int) (a1_1 : Int) (l1_2 : List Int) (a1_3 : Int) (a1_4 : Int) (a1_5 : Int) : Option (Bool) := if a0_0 = a1_0 then (if a0_1 = a1_1 then ((laws_eqByteS.f k l0_2 l1_2).bind fun t162 => (if t162 = true then ((laws_eqRecord.f a0_3 a0_4 a0_5 a1_3 a1_4 a1_5).bind fun t163 => (if t163 = true then (some true) else (some false))) else (some false))) else (some false)) else (some false)
theorem laws_eqPut.mono : ∀ a0 a1 a2 a3 a4 a5 a6 a7 a8 a9 a10 a11 k, LeO (laws_eqPut.f k a0 a1 a2 a3 a4 a5 a6 a7 a8 a9 a10 a11) (laws_eqPut.f (k + 1) a0 a1 a2 a3 a4 a5 a6 a7 a8 a9 a10 a11) := by
  intro a0 a1 a2 a3 a4 a5 a6 a7 a8 a9 a10 a11 k
  have m0_ := @laws_eqByteS.mono
  unfold laws_eqPut.f
  exact LM
set_option maxHeartbeats 40000000 in
set_option maxRecDepth 100000 in
theorem laws_eqPut.calls (k : Nat) (af : Int) (ag : Int) (aq : Option Addr) (an : Nat) (ab : List Int) (am : Int) (ah : Int) (aj : Int) (ae : Int) (ad : Int) (ao : Option Addr) (ap : Nat) (ac : List Int) (al : Int) (ai : Int) (ak : Int) (r : Bool) (w : World) (aw : Kd.C (Kd.int .u8) w aq ab.length ab) (au : ab.length ≤ an) (aA : Kd.C (Kd.int .u8) w ao ac.length ac) (av : ac.length ≤ ap) (h : laws_eqPut.f k af ag ab am ah aj ae ad ac al ai ak = some r) :
  Calls Try.prog 40 #[.agg #[.int .i64 af, .int .i64 ag, .slice aq ab.length an, .int .i64 am, .int .i64 ah, .int .i64 aj], .agg #[.int .i64 ae, .int .i64 ad, .slice ao ac.length ap, .int .i64 al, .int .i64 ai, .int .i64 ak]] w fun e w' => e = .returned (.bool r) ∧ Below w.heap.size w w' := by
 have hu55 := Try.underlying55
 have hu30 := Try.underlying30
 have ay := aM aw
 have ax := aM au
 clear aw au
 have ar := aM aA
 have az := aM av
 clear aA av
 have HB := aM (Below.refl w.heap.size w)
 have H := h
 clear h
 unfold laws_eqPut.f at H
 by_cases c3 : af = ae
 ·rw [if_pos c3] at H
  have c3b0 : (af == ae) = true := beq_iff_eq.mpr c3
  have c3b1 : (af != ae) = false := bne_eq_false_iff_eq.mpr c3
  clear c3
  by_cases c4 : ag = ad
  ·rw [if_pos c4] at H
   have c4b0 : (ag == ad) = true := beq_iff_eq.mpr c4
   have c4b1 : (ag != ad) = false := bne_eq_false_iff_eq.mpr c4
   clear c4
   replace H := bE H
   obtain ⟨t162, A5, H⟩ := H
   go_enter Try.func40, Try.ntmps40
   go_wp2_with (first | ((with_reducible refine gate_dst (N := 2) rfl ?_); refine gBx 2 #[.int .i64 af, .int .i64 ag, .slice aq ab.length an, .int .i64 am, .int .i64 ah, .int .i64 aj] 55 ?_; intro aa hg w7 hbox hb; have BK160 := aM (hbox); have GW160 := aM ((by rw [hg]; exact (below_size TB) : w.heap.size ≤ aa)); have GE160 := aM ((by rw [hg]; exact (below_size TB) : w.heap.size ≤ aa)); replace HB := aM (below_step TB hb); clear hb hbox hg) | ((with_reducible refine gate_dst (N := 3) rfl ?_); refine gBx 3 #[.int .i64 ae, .int .i64 ad, .slice ao ac.length ap, .int .i64 al, .int .i64 ai, .int .i64 ak] 55 ?_; intro gb161 hg w8 hbox hb; have BK161 := aM (hbox); have GW161 := aM ((by rw [hg]; exact (below_size TB) : w.heap.size ≤ gb161)); have GE161 := aM ((by rw [hg]; exact (below_size TB) : w.heap.size ≤ gb161)); have NB160_161 := aM ((by rw [hg]; exact Nat.ne_of_lt (blk_lt (by have X_ := BK160.out; exact TX)) : aa ≠ gb161)); have NB161_160 := aM ((by rw [hg]; exact Nat.ne_of_gt (blk_lt (by have X_ := BK160.out; exact TX)) : gb161 ≠ aa)); replace BK160 := aM (blk_below (by have X_ := BK160.out; exact TX) hb); replace HB := aM (below_step TB hb); clear hb hbox hg; have hnb9 := NB160_161.out; have hnc9 := NB161_160.out; obtain ⟨hcz10_0, hcz10_1, hcz10_2, hcz10_3, hcz10_4, hcz10_5⟩ := cz6 BK160.out; obtain ⟨hfz10_0, hfz10_1, hfz10_2, hfz10_3, hfz10_4, hfz10_5⟩ := fz6 BK160.out; obtain ⟨hcz11_0, hcz11_1, hcz11_2, hcz11_3, hcz11_4, hcz11_5⟩ := cz6 BK161.out; obtain ⟨hfz11_0, hfz11_1, hfz11_2, hfz11_3, hfz11_4, hfz11_5⟩ := fz6 BK161.out) | ((with_reducible refine gate_callee (f := 23) rfl ?_); (with_reducible refine gate_dst (N := 19) rfl ?_); generalize hG_ : wpList _ _ _ _ _ _ = G_))
   subst hG_
   by_cases c12 : t162 = true
   ·subst c12
    replace H := ifT H
    replace H := bE H
    obtain ⟨t163, A13, H⟩ := H
    go_wp2_with (first | ((with_reducible refine gate_callee (f := 23) rfl ?_); refine gL (some 19) Try.func23 #[.slice aq ab.length an, .slice ao ac.length ap] ?_; (with_reducible refine (laws_eqByteS.calls k _ _ ab _ _ ac true _ ?side1 ?side2 ?side3 ?side4 A5.out).mono ?_); (case side1 => repeat (first | exact (Kd.C_below ay.out TB) | (with_reducible refine Kd.C_alloc ?_ _) | (with_reducible refine Kd.C_drewN ?_ _) | (with_reducible refine Kd.C_drew ?_))); (case side2 => exact ax.out); (case side3 => repeat (first | exact (Kd.C_below ar.out TB) | (with_reducible refine Kd.C_alloc ?_ _) | (with_reducible refine Kd.C_drewN ?_ _) | (with_reducible refine Kd.C_drew ?_))); (case side4 => exact az.out); rintro e w' ⟨rfl, ⟨nd, rfl⟩⟩; refine ⟨_, rfl, ?_⟩; have hnb15 := NB160_161.out; have hnc15 := NB161_160.out; obtain ⟨hcz16_0, hcz16_1, hcz16_2, hcz16_3, hcz16_4, hcz16_5⟩ := cz6 BK160.out; obtain ⟨hfz16_0, hfz16_1, hfz16_2, hfz16_3, hfz16_4, hfz16_5⟩ := fz6 BK160.out; obtain ⟨hcz17_0, hcz17_1, hcz17_2, hcz17_3, hcz17_4, hcz17_5⟩ := cz6 BK161.out; obtain ⟨hfz17_0, hfz17_1, hfz17_2, hfz17_3, hfz17_4, hfz17_5⟩ := fz6 BK161.out) | ((with_reducible refine gate_callee (f := 59) rfl ?_); (with_reducible refine gate_dst (N := 25) rfl ?_); generalize hG_ : wpList _ _ _ _ _ _ = G_))
    subst hG_
    by_cases c18 : t163 = true
    ·subst c18
     replace H := ifT H
     obtain rfl := Option.some.inj H
     go_wp2_with (first | ((with_reducible refine gate_callee (f := 59) rfl ?_); refine gL (some 25) Try.func59 #[.agg #[.int .i64 am, .int .i64 ah, .int .i64 aj], .agg #[.int .i64 al, .int .i64 ai, .int .i64 ak]] ?_; (with_reducible refine (laws_eqRecord.calls am ah aj al ai ak true _ A13.out).mono ?_); rintro e w19 ⟨rfl, hb⟩; refine ⟨_, rfl, ?_⟩; replace BK160 := aM (blk_below (by have X_ := BK160.out; exact TX) hb); replace BK161 := aM (blk_below (by have X_ := BK161.out; exact TX) hb); replace HB := aM (below_step TB hb); clear hb))
     go_ret
     exact ⟨by first | rfl | (simp [errW_none, errW_some] <;> rfl) | (simp [*, errW_none, errW_some] <;> rfl), TB⟩
    ·replace c18 := Bool.eq_false_iff.mpr c18
     subst c18
     replace H := ifF H
     obtain rfl := Option.some.inj H
     go_wp2_with (first | ((with_reducible refine gate_callee (f := 59) rfl ?_); refine gL (some 25) Try.func59 #[.agg #[.int .i64 am, .int .i64 ah, .int .i64 aj], .agg #[.int .i64 al, .int .i64 ai, .int .i64 ak]] ?_; (with_reducible refine (laws_eqRecord.calls am ah aj al ai ak false _ A13.out).mono ?_); rintro e w20 ⟨rfl, hb⟩; refine ⟨_, rfl, ?_⟩; replace BK160 := aM (blk_below (by have X_ := BK160.out; exact TX) hb); replace BK161 := aM (blk_below (by have X_ := BK161.out; exact TX) hb); replace HB := aM (below_step TB hb); clear hb))
     go_ret
     exact ⟨by first | rfl | (simp [errW_none, errW_some] <;> rfl) | (simp [*, errW_none, errW_some] <;> rfl), TB⟩
   ·replace c12 := Bool.eq_false_iff.mpr c12
    subst c12
    replace H := ifF H
    obtain rfl := Option.some.inj H
    go_wp2_with (first | ((with_reducible refine gate_callee (f := 23) rfl ?_); refine gL (some 19) Try.func23 #[.slice aq ab.length an, .slice ao ac.length ap] ?_; (with_reducible refine (laws_eqByteS.calls k _ _ ab _ _ ac false _ ?side1 ?side2 ?side3 ?side4 A5.out).mono ?_); (case side1 => repeat (first | exact (Kd.C_below ay.out TB) | (with_reducible refine Kd.C_alloc ?_ _) | (with_reducible refine Kd.C_drewN ?_ _) | (with_reducible refine Kd.C_drew ?_))); (case side2 => exact ax.out); (case side3 => repeat (first | exact (Kd.C_below ar.out TB) | (with_reducible refine Kd.C_alloc ?_ _) | (with_reducible refine Kd.C_drewN ?_ _) | (with_reducible refine Kd.C_drew ?_))); (case side4 => exact az.out); rintro e w' ⟨rfl, ⟨nd, rfl⟩⟩; refine ⟨_, rfl, ?_⟩))
    go_ret
    exact ⟨by first | rfl | (simp [errW_none, errW_some] <;> rfl) | (simp [*, errW_none, errW_some] <;> rfl), TB⟩
  ·rw [if_neg c4] at H
   have c4b0 : (ag == ad) = false := beq_eq_false_iff_ne.mpr c4
   have c4b1 : (ag != ad) = true := bne_iff_ne.mpr c4
   obtain rfl := Option.some.inj H
   go_enter Try.func40, Try.ntmps40
   go_wp2_with (first | ((with_reducible refine gate_dst (N := 2) rfl ?_); refine gBx 2 #[.int .i64 af, .int .i64 ag, .slice aq ab.length an, .int .i64 am, .int .i64 ah, .int .i64 aj] 55 ?_; intro aa hg w21 hbox hb; have BK160 := aM (hbox); have GW160 := aM ((by rw [hg]; exact (below_size TB) : w.heap.size ≤ aa)); have GE160 := aM ((by rw [hg]; exact (below_size TB) : w.heap.size ≤ aa)); replace HB := aM (below_step TB hb); clear hb hbox hg) | ((with_reducible refine gate_dst (N := 3) rfl ?_); refine gBx 3 #[.int .i64 ae, .int .i64 ad, .slice ao ac.length ap, .int .i64 al, .int .i64 ai, .int .i64 ak] 55 ?_; intro gb161 hg w22 hbox hb; have BK161 := aM (hbox); have GW161 := aM ((by rw [hg]; exact (below_size TB) : w.heap.size ≤ gb161)); have GE161 := aM ((by rw [hg]; exact (below_size TB) : w.heap.size ≤ gb161)); have NB160_161 := aM ((by rw [hg]; exact Nat.ne_of_lt (blk_lt (by have X_ := BK160.out; exact TX)) : aa ≠ gb161)); have NB161_160 := aM ((by rw [hg]; exact Nat.ne_of_gt (blk_lt (by have X_ := BK160.out; exact TX)) : gb161 ≠ aa)); replace BK160 := aM (blk_below (by have X_ := BK160.out; exact TX) hb); replace HB := aM (below_step TB hb); clear hb hbox hg; have hnb23 := NB160_161.out; have hnc23 := NB161_160.out; obtain ⟨hcz24_0, hcz24_1, hcz24_2, hcz24_3, hcz24_4, hcz24_5⟩ := cz6 BK160.out; obtain ⟨hfz24_0, hfz24_1, hfz24_2, hfz24_3, hfz24_4, hfz24_5⟩ := fz6 BK160.out; obtain ⟨hcz25_0, hcz25_1, hcz25_2, hcz25_3, hcz25_4, hcz25_5⟩ := cz6 BK161.out; obtain ⟨hfz25_0, hfz25_1, hfz25_2, hfz25_3, hfz25_4, hfz25_5⟩ := fz6 BK161.out))
   go_ret
   exact ⟨by first | rfl | (simp [errW_none, errW_some] <;> rfl) | (simp [*, errW_none, errW_some] <;> rfl), TB⟩
 ·rw [if_neg c3] at H
  have c3b0 : (af == ae) = false := beq_eq_false_iff_ne.mpr c3
  have c3b1 : (af != ae) = true := bne_iff_ne.mpr c3
  obtain rfl := Option.some.inj H
  go_enter Try.func40, Try.ntmps40
  go_wp2_with (first | ((with_reducible refine gate_dst (N := 2) rfl ?_); refine gBx 2 #[.int .i64 af, .int .i64 ag, .slice aq ab.length an, .int .i64 am, .int .i64 ah, .int .i64 aj] 55 ?_; intro aa hg w26 hbox hb; have BK160 := aM (hbox); have GW160 := aM ((by rw [hg]; exact (below_size TB) : w.heap.size ≤ aa)); have GE160 := aM ((by rw [hg]; exact (below_size TB) : w.heap.size ≤ aa)); replace HB := aM (below_step TB hb); clear hb hbox hg) | ((with_reducible refine gate_dst (N := 3) rfl ?_); refine gBx 3 #[.int .i64 ae, .int .i64 ad, .slice ao ac.length ap, .int .i64 al, .int .i64 ai, .int .i64 ak] 55 ?_; intro gb161 hg w27 hbox hb; have BK161 := aM (hbox); have GW161 := aM ((by rw [hg]; exact (below_size TB) : w.heap.size ≤ gb161)); have GE161 := aM ((by rw [hg]; exact (below_size TB) : w.heap.size ≤ gb161)); have NB160_161 := aM ((by rw [hg]; exact Nat.ne_of_lt (blk_lt (by have X_ := BK160.out; exact TX)) : aa ≠ gb161)); have NB161_160 := aM ((by rw [hg]; exact Nat.ne_of_gt (blk_lt (by have X_ := BK160.out; exact TX)) : gb161 ≠ aa)); replace BK160 := aM (blk_below (by have X_ := BK160.out; exact TX) hb); replace HB := aM (below_step TB hb); clear hb hbox hg; have hnb28 := NB160_161.out; have hnc28 := NB161_160.out; obtain ⟨hcz29_0, hcz29_1, hcz29_2, hcz29_3, hcz29_4, hcz29_5⟩ := cz6 BK160.out; obtain ⟨hfz29_0, hfz29_1, hfz29_2, hfz29_3, hfz29_4, hfz29_5⟩ := fz6 BK160.out; obtain ⟨hcz30_0, hcz30_1, hcz30_2, hcz30_3, hcz30_4, hcz30_5⟩ := cz6 BK161.out; obtain ⟨hfz30_0, hfz30_1, hfz30_2, hfz30_3, hfz30_4, hfz30_5⟩ := fz6 BK161.out))
  go_ret
  exact ⟨by first | rfl | (simp [errW_none, errW_some] <;> rfl) | (simp [*, errW_none, errW_some] <;> rfl), TB⟩

end Go.Proofs.Ytogilihkphjjbaa.Q
