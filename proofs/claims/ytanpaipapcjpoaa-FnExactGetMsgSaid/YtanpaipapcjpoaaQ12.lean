/- Functions of the program as plain Lean functions, and that a call of each comes to what its function tells. Written by a program of this seat. -/
import Derived.Test.YtanpaipapcjpoaaQ0
namespace Go.Proofs.Ytanpaipapcjpoaa.Q
open Go.RowKit Go.Proofs.YtanpaipapcjpoaaW.PrintWords Go.Proofs.YtanpaipapcjpoaaW.PrintLast Go.Proofs.YtanpaipapcjpoaaW.PrintMore
attribute [local go_sem] min2_int min_two
set_option linter.unusedVariables false
set_option linter.unusedSimpArgs false

def laws_toByteS.l0 : Nat → List Int → List Int → Int → Option (List Int)
  | 0, _, _, _ => none
  | k + 1, x0, x3, x4 => if x4 < (x0.length : Int) then (if 0 ≤ x4 then (if x4 < (x3.length : Int) then (laws_toByteS.l0 k x0 (x3.set (x4 : Int).toNat (rd x0 x4)) (wrap64 (x4 + 1))) else (none)) else (none)) else (some x3)
def laws_toByteS.f (k : Nat) (l0 : List Int) : Option (List Int) := if 0 ≤ (l0.length : Int) then (if ((l0.length : Int) : Int).toNat ≤ 281474976710656 then (laws_toByteS.l0 k l0 (List.replicate ((l0.length : Int) : Int).toNat 0) 0) else (none)) else (none)
theorem laws_toByteS.mono_l : ∀ k, (∀ y0 y1 y2, LeO (laws_toByteS.l0 k y0 y1 y2) (laws_toByteS.l0 (k + 1) y0 y1 y2))
  | 0 => fun _ _ _ r h => by simp [laws_toByteS.l0] at h
  | k + 1 => by
    have ih0 := laws_toByteS.mono_l k
    · intro y0 y1 y2
      unfold laws_toByteS.l0
      exact LM
theorem laws_toByteS.mono : ∀ a0 k, LeO (laws_toByteS.f k a0) (laws_toByteS.f (k + 1) a0) := by
  intro a0 k;have ih0 := laws_toByteS.mono_l k;unfold laws_toByteS.f;exact LM
set_option maxHeartbeats 40000000 in
set_option maxRecDepth 100000 in
theorem laws_toByteS.calls (k : Nat) (A0 : Option Addr) (c0 : Nat) (l0 : List Int) (r : List Int) (w : World) (hr0 : Kd.C (Kd.int .u8) w A0 l0.length l0) (hc0 : l0.length ≤ c0) (h : laws_toByteS.f k l0 = some r) :
    Calls Try.prog 6 #[.slice A0 l0.length c0] w fun e w' => ∃ v0_ : Value, e = .returned (v0_) ∧ Kd.R (Kd.int .u8) 5 w' w.heap.size (fun _ => True) v0_ r ∧ Below w.heap.size w w' := by
  have HR0 := aM hr0
  have HC0 := aM hc0
  clear hr0 hc0
  have HB := aM (Below.refl w.heap.size w)
  have H := h
  clear h
  unfold laws_toByteS.f at H
  replace H := ifN H
  obtain ⟨c2, H⟩ := H
  have c2b0 := eq_true c2
  have c2b1 : decide (0 ≤ (l0.length : Int)) = true := decide_eq_true c2
  clear c2
  replace H := ifN H
  obtain ⟨c3, H⟩ := H
  have c3b0 := eq_true c3
  have c3b1 : decide (((l0.length : Int) : Int).toNat ≤ 281474976710656) = true := decide_eq_true c3
  clear c3
  obtain ⟨y270, hy270⟩ : ∃ y_ : List Int, y_ = (List.replicate ((l0.length : Int) : Int).toNat 0) := ⟨_, rfl⟩
  rw [← hy270] at H
  have Ny270 := aM hy270
  clear hy270
  have H' := aM H
  clear H
  go_enter Try.func6, Try.ntmps6
  go_wp2_with (first | ((with_reducible refine gate_dst (N := 7) rfl ?_); refine Kd.R_make (Kd.int .u8) _ 5 rfl (N := 7) rfl 22 _ _ rfl (l0.length : Int) rfl rfl Try.underlying22 (.int .u8 0) 1 info5 rfl (by decide) (by omega) 0 (ok := fun _ => True) (okp := fun _ => True) rfl (fun _ hk => hk) trivial DT (Nat.le_trans (Nat.mul_le_mul_right _ (DT : (l0.length : Int).toNat ≤ 281474976710656)) (by omega)) (Below.refl _ _) (Nat.le_refl _) ?_; intro v271 w4 ho5 hb hg_ hnew_; clear hg_ hnew_; (first | rw [← Ny270.out] at ho5 | (simp only [Int.reduceToNat] at ho5; rw [← Ny270.out] at ho5)); have HO272 := aM (Kd.R_lower ho5 (below_size TB)); replace HB := bS HB hb; clear hb ho5))
  go_loopg [4] k (fun kq v4 w' => ∃ (x3_1 : List Int) (x4_1 : Int), v4 = .int .i64 x4_1 ∧ Aside0 (laws_toByteS.l0 kq l0 x3_1 x4_1 = some r) ∧ Aside0 (kq ≤ k) ∧ Aside0 (Kd.R (Kd.int .u8) 5 w' w.heap.size (fun _ => True) v271 x3_1) ∧ Aside0 (Below w.heap.size w w'))
  case atStart => exact ⟨(y270), (0), TF, H', ⟨Nat.le_refl _⟩, ⟨by have X_ := HO272.out; exact TR⟩, ⟨TB⟩⟩
  case round =>
    clear H'
    try clear c2
    try clear c2b0
    try clear c2b1
    try clear p2
    try clear c3
    try clear c3b0
    try clear c3b1
    obtain ⟨x3_1, x4_1, rfl, HA, HK1, HO_3, HB⟩ := hrel
    cases gk with
    | zero => exact absurd HA.out (by simp [laws_toByteS.l0])
    | succ k1 =>
      have H := HA.out
      clear HA
      simp only [laws_toByteS.l0] at H
      by_cases c6 : x4_1 < (l0.length : Int)
      · rw [if_pos c6] at H
        have c6b0 : decide (x4_1 < (l0.length : Int)) = true := decide_eq_true c6
        clear c6
        replace H := ifN H
        obtain ⟨c7, H⟩ := H
        have c7b0 : decide (0 ≤ x4_1) = true := decide_eq_true c7
        clear c7
        replace H := ifN H
        obtain ⟨c8, H⟩ := H
        have c8b0 : decide (x4_1 < (x3_1.length : Int)) = true := decide_eq_true c8
        clear c8
        obtain ⟨y274, hy274⟩ : ∃ y_ : List Int, y_ = (x3_1.set (x4_1 : Int).toNat (rd l0 x4_1)) := ⟨_, rfl⟩
        rw [← hy274] at H
        have Ny274 := aM hy274
        clear hy274
        have H' := aM H
        clear H
        have p273 : 0 ≤ (x4_1 : Int) := DT
        have q273 : x4_1 < (l0.length : Int) := DT
        obtain ⟨ad273, e273, hx273_0⟩ := Kd.at_int HR0.out x4_1 p273 q273
        cases e273
        replace hx273_0 := (HB.out.cell (World.block_lt_of_cell? w _ hx273_0)).trans hx273_0
        replace p273 := eq_true p273
        replace q273 := eq_true q273
        have p9 : 0 ≤ (x4_1 : Int) := DT
        have q9 : (x4_1 : Int) < ((x3_1.length : Int) : Int) := DT
        obtain ⟨go9, co9, eo9, gb9, gl9, cl9, HG9⟩ := Kd.R_form HO_3.out (by omega)
        (first | cases eo9 | (injection eo9 with ea_ en_ ec_; (first | subst ea_ | (injection ea_ with ea_; subst ea_)); subst ec_; clear en_))
        have GB9 := aM gb9
        have GG9 := aM HG9
        clear gb9 gl9 HG9
        obtain ⟨hx9_0, hf9_0⟩ := Kd.R_celln 0 HO_3.out (x4_1 : Int) p9 q9
        replace p9 := eq_true p9
        replace q9 := eq_true q9
        have HP10 := Kd.R_putg HO_3.out (x4_1 : Int) (rd l0 x4_1)
        go_wp2_with (first | ((with_reducible refine gate_store (t := 5) (p := 20) rfl ?_); refine store_event (t := 5) (p := 20) (v := ?vo_w11) (w1 := (wr.setCell ⟨go9, (x4_1 : Int).toNat, none⟩ (.int .u8 (rd l0 x4_1)))) ?hg ?ho ?hn ?hr ?_; (case ho => rfl); (case hg => rfl); (case hn => rfl); (case hr => first | (go_simp; done) | (go_simp; rfl)); intro w11 hw; have hg : wr.grownBy w11 (some go9) := (by rw [hw]; exact HP10.2); have hp_ : Kd.R (Kd.int .u8) 5 w11 w.heap.size (fun _ => True) (.slice (some ⟨go9, 0, none⟩) x3_1.length co9) y274 := (by rw [hw, Ny274.out]; exact HP10.1); clear HP10; replace HO_3 := aM (hp_); replace HB := aM ((by rw [hw]; exact below_set (HB.out) GB9.out : Below w.heap.size w w11)); clear hg hw hp_))
        go_roundg k1
        case measure => have := HK1.out; omega
        case rel => exact ⟨(y274), (wrap64 (x4_1 + 1)), TF, H', ⟨by have := HK1.out; omega⟩, ⟨by have X_ := HO_3.out; exact TR⟩, ⟨TB⟩⟩
      · rw [if_neg c6] at H
        have c6b0 : decide (x4_1 < (l0.length : Int)) = false := decide_eq_false c6
        clear c6
        obtain rfl := Option.some.inj H
        go_wp2
        go_ret
        exact ⟨_, TE, by have X_ := HO_3.out; exact TR, TB⟩

def laws_eqByteS.l0 : Nat → List Int → List Int → Int → Option (Bool)
  | 0, _, _, _ => none
  | k + 1, x0, x1, x5 => if x5 < (x0.length : Int) then (if 0 ≤ x5 then (if x5 < (x1.length : Int) then (if (rd x0 x5) = (rd x1 x5) then (laws_eqByteS.l0 k x0 x1 (wrap64 (x5 + 1))) else (some false)) else (none)) else (none)) else (some true)
def laws_eqByteS.f (k : Nat) (l0 : List Int) (l1 : List Int) : Option (Bool) := if (l0.length : Int) = (l1.length : Int) then (laws_eqByteS.l0 k l0 l1 0) else (some false)
theorem laws_eqByteS.mono_l : ∀ k, (∀ y0 y1 y2, LeO (laws_eqByteS.l0 k y0 y1 y2) (laws_eqByteS.l0 (k + 1) y0 y1 y2))
  | 0 => fun _ _ _ r h => by simp [laws_eqByteS.l0] at h
  | k + 1 => by
    have ih0 := laws_eqByteS.mono_l k
    · intro y0 y1 y2
      unfold laws_eqByteS.l0
      exact LM
theorem laws_eqByteS.mono : ∀ a0 a1 k, LeO (laws_eqByteS.f k a0 a1) (laws_eqByteS.f (k + 1) a0 a1) := by
  intro a0 a1 k;have ih0 := laws_eqByteS.mono_l k;unfold laws_eqByteS.f;exact LM
set_option maxHeartbeats 40000000 in
set_option maxRecDepth 100000 in
theorem laws_eqByteS.calls (k : Nat) (A0 : Option Addr) (c0 : Nat) (l0 : List Int) (A1 : Option Addr) (c1 : Nat) (l1 : List Int) (r : Bool) (w : World) (hr0 : Kd.C (Kd.int .u8) w A0 l0.length l0) (hc0 : l0.length ≤ c0) (hr1 : Kd.C (Kd.int .u8) w A1 l1.length l1) (hc1 : l1.length ≤ c1) (h : laws_eqByteS.f k l0 l1 = some r) :
    Calls Try.prog 9 #[.slice A0 l0.length c0, .slice A1 l1.length c1] w fun e w' => e = .returned (.bool r) ∧ Drawn0 w w' := by
  have HR0 := aM hr0
  have HC0 := aM hc0
  clear hr0 hc0
  have HR1 := aM hr1
  have HC1 := aM hc1
  clear hr1 hc1
  have H := h
  clear h
  unfold laws_eqByteS.f at H
  by_cases c3 : (l0.length : Int) = (l1.length : Int)
  · rw [if_pos c3] at H
    have c3b0 : ((l0.length : Int) == (l1.length : Int)) = true := beq_iff_eq.mpr c3
    have c3b1 : ((l0.length : Int) != (l1.length : Int)) = false := bne_eq_false_iff_eq.mpr c3
    have c3b2 : (l0.length == l1.length) = true := by first | simpa using c3 | (simp at c3 ⊢; omega)
    clear c3
    have H' := aM H
    clear H
    go_enter Try.func9, Try.ntmps9
    go_wp2
    repeat (go_quiet (fail); try go_wp2)
    go_loopg [5] k (fun kq v5 w' => ∃ (x5_1 : Int), v5 = .int .i64 x5_1 ∧ Aside0 (laws_eqByteS.l0 kq l0 l1 x5_1 = some r) ∧ Aside0 (kq ≤ k) ∧ Drawn0 w w')
    case atStart => exact ⟨(0), TF, H', ⟨Nat.le_refl _⟩, TD⟩
    case round =>
      clear H'
      try clear c1
      try clear p2
      try clear c3
      try clear c3b0
      try clear c3b1
      try clear c3b2
      obtain ⟨x5_1, rfl, HA, HK1, ⟨m1, rfl⟩⟩ := hrel
      cases gk with
      | zero => exact absurd HA.out (by simp [laws_eqByteS.l0])
      | succ k1 =>
        have H := HA.out
        clear HA
        simp only [laws_eqByteS.l0] at H
        by_cases c4 : x5_1 < (l0.length : Int)
        · rw [if_pos c4] at H
          have c4b0 : decide (x5_1 < (l0.length : Int)) = true := decide_eq_true c4
          clear c4
          replace H := ifN H
          obtain ⟨c5, H⟩ := H
          have c5b0 : decide (0 ≤ x5_1) = true := decide_eq_true c5
          clear c5
          replace H := ifN H
          obtain ⟨c6, H⟩ := H
          have c6b0 : decide (x5_1 < (l1.length : Int)) = true := decide_eq_true c6
          clear c6
          by_cases c7 : (rd l0 x5_1) = (rd l1 x5_1)
          · rw [if_pos c7] at H
            have c7b0 : ((rd l0 x5_1) == (rd l1 x5_1)) = true := beq_iff_eq.mpr c7
            have c7b1 : ((rd l0 x5_1) != (rd l1 x5_1)) = false := bne_eq_false_iff_eq.mpr c7
            clear c7
            have H' := aM H
            clear H
            have p533 : 0 ≤ (x5_1 : Int) := DT
            have q533 : x5_1 < (l0.length : Int) := DT
            obtain ⟨ad533, e533, hx533_0⟩ := Kd.at_int HR0.out x5_1 p533 q533
            cases e533
            replace p533 := eq_true p533
            replace q533 := eq_true q533
            have p534 : 0 ≤ (x5_1 : Int) := DT
            have q534 : x5_1 < (l1.length : Int) := DT
            obtain ⟨ad534, e534, hx534_0⟩ := Kd.at_int HR1.out x5_1 p534 q534
            cases e534
            replace p534 := eq_true p534
            replace q534 := eq_true q534
            go_wp2
            repeat (go_quiet (fail); try go_wp2)
            go_roundg k1
            case measure => have := HK1.out; omega
            case rel => exact ⟨(wrap64 (x5_1 + 1)), TF, H', ⟨by have := HK1.out; omega⟩, TD⟩
          · rw [if_neg c7] at H
            have c7b0 : ((rd l0 x5_1) == (rd l1 x5_1)) = false := beq_eq_false_iff_ne.mpr c7
            have c7b1 : ((rd l0 x5_1) != (rd l1 x5_1)) = true := bne_iff_ne.mpr c7
            obtain rfl := Option.some.inj H
            have p533 : 0 ≤ (x5_1 : Int) := DT
            have q533 : x5_1 < (l0.length : Int) := DT
            obtain ⟨ad533, e533, hx533_0⟩ := Kd.at_int HR0.out x5_1 p533 q533
            cases e533
            replace p533 := eq_true p533
            replace q533 := eq_true q533
            have p534 : 0 ≤ (x5_1 : Int) := DT
            have q534 : x5_1 < (l1.length : Int) := DT
            obtain ⟨ad534, e534, hx534_0⟩ := Kd.at_int HR1.out x5_1 p534 q534
            cases e534
            replace p534 := eq_true p534
            replace q534 := eq_true q534
            go_wp2
            repeat (go_quiet (fail); try go_wp2)
            go_ret
            exact ⟨by first | rfl | (simp; done) | (simp [*]; done), TD⟩
        · rw [if_neg c4] at H
          have c4b0 : decide (x5_1 < (l0.length : Int)) = false := decide_eq_false c4
          clear c4
          obtain rfl := Option.some.inj H
          go_wp2
          repeat (go_quiet (fail); try go_wp2)
          go_ret
          exact ⟨by first | rfl | (simp; done) | (simp [*]; done), TD⟩
  · rw [if_neg c3] at H
    have c3b0 : ((l0.length : Int) == (l1.length : Int)) = false := beq_eq_false_iff_ne.mpr c3
    have c3b1 : ((l0.length : Int) != (l1.length : Int)) = true := bne_iff_ne.mpr c3
    have c3b2 : (l0.length == l1.length) = false := by first | simpa using c3 | (simp at c3 ⊢; omega)
    obtain rfl := Option.some.inj H
    go_enter Try.func9, Try.ntmps9
    go_wp2
    repeat (go_quiet (fail); try go_wp2)
    go_ret
    exact ⟨by first | rfl | (simp; done) | (simp [*]; done), TD⟩

def laws_eqSum.f (a0_0 : Int) (a0_1 : Int) (a1_0 : Int) (a1_1 : Int) : Option (Bool) := if a0_0 = a1_0 then (if a0_1 = a1_1 then (some true) else (some false)) else (some false)
set_option maxHeartbeats 40000000 in
set_option maxRecDepth 100000 in
theorem laws_eqSum.calls (a0_0 : Int) (a0_1 : Int) (a1_0 : Int) (a1_1 : Int) (r : Bool) (w : World) (h : laws_eqSum.f a0_0 a0_1 a1_0 a1_1 = some r) :
    Calls Try.prog 90 #[.agg #[.int .i64 a0_0, .int .i64 a0_1], .agg #[.int .i64 a1_0, .int .i64 a1_1]] w fun e w' => e = .returned (.bool r) ∧ Below w.heap.size w w' := by
  have hu83 := Try.underlying83
  have HB := aM (Below.refl w.heap.size w)
  have H := h
  clear h
  unfold laws_eqSum.f at H
  by_cases c3 : a0_0 = a1_0
  · rw [if_pos c3] at H
    have c3b0 : (a0_0 == a1_0) = true := beq_iff_eq.mpr c3
    have c3b1 : (a0_0 != a1_0) = false := bne_eq_false_iff_eq.mpr c3
    clear c3
    by_cases c4 : a0_1 = a1_1
    · rw [if_pos c4] at H
      have c4b0 : (a0_1 == a1_1) = true := beq_iff_eq.mpr c4
      have c4b1 : (a0_1 != a1_1) = false := bne_eq_false_iff_eq.mpr c4
      clear c4
      obtain rfl := Option.some.inj H
      go_enter Try.func90, Try.ntmps90
      go_wp2_with (first | ((with_reducible refine gate_dst (N := 2) rfl ?_); refine gBx 2 #[.int .i64 a0_0, .int .i64 a0_1] 83 ?_; intro gb535 hg w5 hbox hb; have BK535 := aM (hbox); have GW535 := gW HB hg; have GE535 := gW HB hg; replace HB := bS HB hb; clear hb hbox hg) | ((with_reducible refine gate_dst (N := 3) rfl ?_); refine gBx 3 #[.int .i64 a1_0, .int .i64 a1_1] 83 ?_; intro gb536 hg w6 hbox hb; have BK536 := aM (hbox); have GW536 := gW HB hg; have GE536 := gW HB hg; obtain ⟨NB535_536, NB536_535⟩ := nB BK535 hg; replace BK535 := mB BK535 hb; replace HB := bS HB hb; clear hb hbox hg; obtain ⟨hnb7, hnc7⟩ := oB NB535_536; obtain ⟨hcz8_0, hcz8_1⟩ := cz2 BK535.out; obtain ⟨hfz8_0, hfz8_1⟩ := fz2 BK535.out; obtain ⟨hcz9_0, hcz9_1⟩ := cz2 BK536.out; obtain ⟨hfz9_0, hfz9_1⟩ := fz2 BK536.out))
      go_ret
      exact ⟨TE, TB⟩
    · rw [if_neg c4] at H
      have c4b0 : (a0_1 == a1_1) = false := beq_eq_false_iff_ne.mpr c4
      have c4b1 : (a0_1 != a1_1) = true := bne_iff_ne.mpr c4
      obtain rfl := Option.some.inj H
      go_enter Try.func90, Try.ntmps90
      go_wp2_with (first | ((with_reducible refine gate_dst (N := 2) rfl ?_); refine gBx 2 #[.int .i64 a0_0, .int .i64 a0_1] 83 ?_; intro gb535 hg w10 hbox hb; have BK535 := aM (hbox); have GW535 := gW HB hg; have GE535 := gW HB hg; replace HB := bS HB hb; clear hb hbox hg) | ((with_reducible refine gate_dst (N := 3) rfl ?_); refine gBx 3 #[.int .i64 a1_0, .int .i64 a1_1] 83 ?_; intro gb536 hg w11 hbox hb; have BK536 := aM (hbox); have GW536 := gW HB hg; have GE536 := gW HB hg; obtain ⟨NB535_536, NB536_535⟩ := nB BK535 hg; replace BK535 := mB BK535 hb; replace HB := bS HB hb; clear hb hbox hg; obtain ⟨hnb12, hnc12⟩ := oB NB535_536; obtain ⟨hcz13_0, hcz13_1⟩ := cz2 BK535.out; obtain ⟨hfz13_0, hfz13_1⟩ := fz2 BK535.out; obtain ⟨hcz14_0, hcz14_1⟩ := cz2 BK536.out; obtain ⟨hfz14_0, hfz14_1⟩ := fz2 BK536.out))
      go_ret
      exact ⟨TE, TB⟩
  · rw [if_neg c3] at H
    have c3b0 : (a0_0 == a1_0) = false := beq_eq_false_iff_ne.mpr c3
    have c3b1 : (a0_0 != a1_0) = true := bne_iff_ne.mpr c3
    obtain rfl := Option.some.inj H
    go_enter Try.func90, Try.ntmps90
    go_wp2_with (first | ((with_reducible refine gate_dst (N := 2) rfl ?_); refine gBx 2 #[.int .i64 a0_0, .int .i64 a0_1] 83 ?_; intro gb535 hg w15 hbox hb; have BK535 := aM (hbox); have GW535 := gW HB hg; have GE535 := gW HB hg; replace HB := bS HB hb; clear hb hbox hg) | ((with_reducible refine gate_dst (N := 3) rfl ?_); refine gBx 3 #[.int .i64 a1_0, .int .i64 a1_1] 83 ?_; intro gb536 hg w16 hbox hb; have BK536 := aM (hbox); have GW536 := gW HB hg; have GE536 := gW HB hg; obtain ⟨NB535_536, NB536_535⟩ := nB BK535 hg; replace BK535 := mB BK535 hb; replace HB := bS HB hb; clear hb hbox hg; obtain ⟨hnb17, hnc17⟩ := oB NB535_536; obtain ⟨hcz18_0, hcz18_1⟩ := cz2 BK535.out; obtain ⟨hfz18_0, hfz18_1⟩ := fz2 BK535.out; obtain ⟨hcz19_0, hcz19_1⟩ := cz2 BK536.out; obtain ⟨hfz19_0, hfz19_1⟩ := fz2 BK536.out))
    go_ret
    exact ⟨TE, TB⟩

def laws_eqSumS.l0 : Nat → List (S83) → List (S83) → Int → Option (Bool)
  | 0, _, _, _ => none
  | k + 1, x0, x1, x5 => if x5 < (x0.length : Int) then (if 0 ≤ x5 then (if x5 < (x1.length : Int) then ((laws_eqSum.f ((rd_T83 x0 x5).f0) ((rd_T83 x0 x5).f1) ((rd_T83 x1 x5).f0) ((rd_T83 x1 x5).f1)).bind fun t539 => (if t539 = true then (laws_eqSumS.l0 k x0 x1 (wrap64 (x5 + 1))) else (some false))) else (none)) else (none)) else (some true)
def laws_eqSumS.f (k : Nat) (l0 : List (S83)) (l1 : List (S83)) : Option (Bool) := if (l0.length : Int) = (l1.length : Int) then (laws_eqSumS.l0 k l0 l1 0) else (some false)
theorem laws_eqSumS.mono_l : ∀ k, (∀ y0 y1 y2, LeO (laws_eqSumS.l0 k y0 y1 y2) (laws_eqSumS.l0 (k + 1) y0 y1 y2))
  | 0 => fun _ _ _ r h => by simp [laws_eqSumS.l0] at h
  | k + 1 => by
    have ih0 := laws_eqSumS.mono_l k
    · intro y0 y1 y2
      unfold laws_eqSumS.l0
      exact LM
theorem laws_eqSumS.mono : ∀ a0 a1 k, LeO (laws_eqSumS.f k a0 a1) (laws_eqSumS.f (k + 1) a0 a1) := by
  intro a0 a1 k;have ih0 := laws_eqSumS.mono_l k;unfold laws_eqSumS.f;exact LM
def laws_eqSumS.T6 : Bool × List (List Nat × List Nat) := (true, [([], []), ([], []), ([0, 1], [0, 1]), ([2], [2]), ([], []), ([], []), ([4, 5], [4, 5]), ([6], [6]), ([3, 7], [3, 7]), ([8], [8])])
def laws_eqSumS.B6 : List Nat := [0, 0, 3, 7, 0, 0, 48, 112, 255, 511]
theorem laws_eqSumS.tab6 : rtab .any (opsOf Try.f58 6) = laws_eqSumS.T6 := by kernel_rfl
theorem laws_eqSumS.bits6 : waitsOk laws_eqSumS.T6.2 laws_eqSumS.B6 = true := by kernel_rfl
set_option maxHeartbeats 40000000 in
set_option maxRecDepth 100000 in
theorem laws_eqSumS.calls (k : Nat) (A0 : Option Addr) (c0 : Nat) (l0 : List (S83)) (A1 : Option Addr) (c1 : Nat) (l1 : List (S83)) (r : Bool) (w : World) (hr0 : Kd.C k83 w A0 l0.length l0) (hc0 : l0.length ≤ c0) (hr1 : Kd.C k83 w A1 l1.length l1) (hc1 : l1.length ≤ c1) (h : laws_eqSumS.f k l0 l1 = some r) :
  Calls Try.prog 58 #[.slice A0 l0.length c0, .slice A1 l1.length c1] w fun e w' => e = .returned (.bool r) ∧ Below w.heap.size w w' := by
 have hu83 := Try.underlying83;have HR0 := aM hr0;have HC0 := aM hc0;clear hr0 hc0;have HR1 := aM hr1;have HC1 := aM hc1;clear hr1 hc1;have HB := aM (Below.refl w.heap.size w);have H := h;clear h;unfold laws_eqSumS.f at H
 by_cases c3 : (l0.length : Int) = (l1.length : Int)
 ·rw [if_pos c3] at H;have c3b0 : ((l0.length : Int) == (l1.length : Int)) = true := beq_iff_eq.mpr c3;have c3b1 : ((l0.length : Int) != (l1.length : Int)) = false := bne_eq_false_iff_eq.mpr c3;have c3b2 : (l0.length == l1.length) = true := by first | simpa using c3 | (simp at c3 ⊢; omega)
  clear c3;have H' := aM H;clear H;go_enter Try.func58, Try.ntmps58;go_wp2
  go_loopg [5] k (fun kq v5 w' => ∃ (aa : Int), v5 = .int .i64 aa ∧ Aside0 (laws_eqSumS.l0 kq l0 l1 aa = some r) ∧ Aside0 (kq ≤ k) ∧ Aside0 (Below w.heap.size w w'))
  case atStart => exact ⟨(0), TF, H', ⟨Nat.le_refl _⟩, ⟨TB⟩⟩
  case round =>
   clear H';try clear c1
   try clear p2
   try clear c3
   try clear c3b0
   try clear c3b1
   try clear c3b2
   obtain ⟨aa, rfl, HA, HK1, HB⟩ := hrel;cases gk with
   | zero => exact absurd HA.out (by simp [laws_eqSumS.l0])
   | succ k1 =>
    have H := HA.out;clear HA;simp only [laws_eqSumS.l0] at H
    by_cases c4 : aa < (l0.length : Int)
    ·rw [if_pos c4] at H;have c4b0 : decide (aa < (l0.length : Int)) = true := decide_eq_true c4;clear c4;replace H := ifN H;obtain ⟨c5, H⟩ := H;have c5b0 : decide (0 ≤ aa) = true := decide_eq_true c5;clear c5;replace H := ifN H;obtain ⟨c6, H⟩ := H;have c6b0 : decide (aa < (l1.length : Int)) = true := decide_eq_true c6;clear c6;replace H := bE H;obtain ⟨t539, A7, H⟩ := H
     by_cases c8 : t539 = true
     ·subst c8;replace H := ifT H;have H' := aM H;clear H;try go_wp2
      replace HB := aM (below_drew1 HB.out);have al : 0 ≤ (aa : Int) := DT;have ao : aa < (l0.length : Int) := DT;obtain ⟨aj, ap, ad, ab⟩ := at_T83 HR0.out aa al ao;have ag := ab;have ai := ad;cases ap;replace ad := (HB.out.cell (World.block_lt_of_cell? w _ ad)).trans ad;replace ab := (HB.out.cell (World.block_lt_of_cell? w _ ab)).trans ab;replace al := eq_true al;replace ao := eq_true ao;have an : 0 ≤ (aa : Int) := DT;have am : aa < (l1.length : Int) := DT;obtain ⟨ak, aq, ac, ae⟩ := at_T83 HR1.out aa an am;have af := ae;have ah := ac;cases aq;replace ac := (HB.out.cell (World.block_lt_of_cell? w _ ac)).trans ac;replace ae := (HB.out.cell (World.block_lt_of_cell? w _ ae)).trans ae;replace an := eq_true an;replace am := eq_true am;refine start_ (n := 10) (S := fun w' => w'.cell? (aj.add ((aa).toNat * 2)) = some (.int .i64 ((rd_T83 l0 aa).f0)) ∧ w'.cell? ⟨(aj.add ((aa).toNat * 2)).block, (aj.add ((aa).toNat * 2)).off + 1, none⟩ = some (.int .i64 ((rd_T83 l0 aa).f1)) ∧ w'.cell? (ak.add ((aa).toNat * 2)) = some (.int .i64 ((rd_T83 l1 aa).f0)) ∧ w'.cell? ⟨(ak.add ((aa).toNat * 2)).block, (ak.add ((aa).toNat * 2)).off + 1, none⟩ = some (.int .i64 ((rd_T83 l1 aa).f1))) (ds := []) (Array.replicate 10 false) (by kernel_rfl) rfl rfl ⟨((HB.out.cell (World.block_lt_of_cell? w _ ai)).trans ai), ((HB.out.cell (World.block_lt_of_cell? w _ ag)).trans ag), ((HB.out.cell (World.block_lt_of_cell? w _ ah)).trans ah), ((HB.out.cell (World.block_lt_of_cell? w _ af)).trans af)⟩ (fun hHeld => ?_); refine with_tabW laws_eqSumS.tab6 laws_eqSumS.bits6 (fun HT_ HW_ => ?_);generalize wr.drew = w9 at HB ad ab ac ae hHeld ⊢;refine pP 0 (some 17) ?_;refine pP 1 (some 18) ?_;refine pP 2 (some 19) ?_;refine pP 4 (some 21) ?_;refine pP 5 (some 22) ?_;refine pP 6 (some 23) ?_;refine pT 3 (some 20) ?_;refine pT 7 (some 24) ?_;refine pO 8 (some 25) (fun K hK => ?_);refine gG Try.func90 #[.agg #[.int .i64 ((rd_T83 l0 aa).f0), .int .i64 ((rd_T83 l0 aa).f1)], .agg #[.int .i64 ((rd_T83 l1 aa).f0), .int .i64 ((rd_T83 l1 aa).f1)]] ?_;with_reducible refine (laws_eqSum.calls ((rd_T83 l0 aa).f0) ((rd_T83 l0 aa).f1) ((rd_T83 l1 aa).f0) ((rd_T83 l1 aa).f1) true _ A7.out).mono ?_
      rintro e w10 ⟨rfl, hb⟩;refine ⟨_, rfl, ?_⟩;replace HB := bS HB hb;(try clear hb);(try clear hb2);(try clear hk);(try clear hi);refine hK.out _ _ ⟨((HB.out.cell (World.block_lt_of_cell? w _ ai)).trans ai), ((HB.out.cell (World.block_lt_of_cell? w _ ag)).trans ag), ((HB.out.cell (World.block_lt_of_cell? w _ ah)).trans ah), ((HB.out.cell (World.block_lt_of_cell? w _ af)).trans af)⟩ (fun hHeld => ?_);clear hK K;refine nR ?_;refine pP 9 (some 26) ?_;refine done_ (done_of HT_.out (by kernel_rfl)) ?_;try go_wp2
      go_roundg k1
      case measure => have := HK1.out; omega
      case rel => exact ⟨(wrap64 (aa + 1)), TF, H', ⟨by have := HK1.out; omega⟩, ⟨TB⟩⟩
     ·replace c8 := Bool.eq_false_iff.mpr c8;subst c8;replace H := ifF H;obtain rfl := Option.some.inj H;try go_wp2
      replace HB := aM (below_drew1 HB.out);have al : 0 ≤ (aa : Int) := DT;have ao : aa < (l0.length : Int) := DT;obtain ⟨aj, ap, ad, ab⟩ := at_T83 HR0.out aa al ao;have ag := ab;have ai := ad;cases ap;replace ad := (HB.out.cell (World.block_lt_of_cell? w _ ad)).trans ad;replace ab := (HB.out.cell (World.block_lt_of_cell? w _ ab)).trans ab;replace al := eq_true al;replace ao := eq_true ao;have an : 0 ≤ (aa : Int) := DT;have am : aa < (l1.length : Int) := DT;obtain ⟨ak, aq, ac, ae⟩ := at_T83 HR1.out aa an am;have af := ae;have ah := ac;cases aq;replace ac := (HB.out.cell (World.block_lt_of_cell? w _ ac)).trans ac;replace ae := (HB.out.cell (World.block_lt_of_cell? w _ ae)).trans ae;replace an := eq_true an;replace am := eq_true am;refine start_ (n := 10) (S := fun w' => w'.cell? (aj.add ((aa).toNat * 2)) = some (.int .i64 ((rd_T83 l0 aa).f0)) ∧ w'.cell? ⟨(aj.add ((aa).toNat * 2)).block, (aj.add ((aa).toNat * 2)).off + 1, none⟩ = some (.int .i64 ((rd_T83 l0 aa).f1)) ∧ w'.cell? (ak.add ((aa).toNat * 2)) = some (.int .i64 ((rd_T83 l1 aa).f0)) ∧ w'.cell? ⟨(ak.add ((aa).toNat * 2)).block, (ak.add ((aa).toNat * 2)).off + 1, none⟩ = some (.int .i64 ((rd_T83 l1 aa).f1))) (ds := []) (Array.replicate 10 false) (by kernel_rfl) rfl rfl ⟨((HB.out.cell (World.block_lt_of_cell? w _ ai)).trans ai), ((HB.out.cell (World.block_lt_of_cell? w _ ag)).trans ag), ((HB.out.cell (World.block_lt_of_cell? w _ ah)).trans ah), ((HB.out.cell (World.block_lt_of_cell? w _ af)).trans af)⟩ (fun hHeld => ?_); refine with_tabW laws_eqSumS.tab6 laws_eqSumS.bits6 (fun HT_ HW_ => ?_);generalize wr.drew = w11 at HB ad ab ac ae hHeld ⊢;refine pP 0 (some 17) ?_;refine pP 1 (some 18) ?_;refine pP 2 (some 19) ?_;refine pP 4 (some 21) ?_;refine pP 5 (some 22) ?_;refine pP 6 (some 23) ?_;refine pT 3 (some 20) ?_;refine pT 7 (some 24) ?_;refine pO 8 (some 25) (fun K hK => ?_);refine gG Try.func90 #[.agg #[.int .i64 ((rd_T83 l0 aa).f0), .int .i64 ((rd_T83 l0 aa).f1)], .agg #[.int .i64 ((rd_T83 l1 aa).f0), .int .i64 ((rd_T83 l1 aa).f1)]] ?_;with_reducible refine (laws_eqSum.calls ((rd_T83 l0 aa).f0) ((rd_T83 l0 aa).f1) ((rd_T83 l1 aa).f0) ((rd_T83 l1 aa).f1) false _ A7.out).mono ?_
      rintro e w12 ⟨rfl, hb⟩;refine ⟨_, rfl, ?_⟩;replace HB := bS HB hb;(try clear hb);(try clear hb2);(try clear hk);(try clear hi);refine hK.out _ _ ⟨((HB.out.cell (World.block_lt_of_cell? w _ ai)).trans ai), ((HB.out.cell (World.block_lt_of_cell? w _ ag)).trans ag), ((HB.out.cell (World.block_lt_of_cell? w _ ah)).trans ah), ((HB.out.cell (World.block_lt_of_cell? w _ af)).trans af)⟩ (fun hHeld => ?_);clear hK K;refine nR ?_;refine pP 9 (some 26) ?_;refine done_ (done_of HT_.out (by kernel_rfl)) ?_;try go_wp2
      go_ret
      exact ⟨TE, TB⟩
    ·rw [if_neg c4] at H;have c4b0 : decide (aa < (l0.length : Int)) = false := decide_eq_false c4;clear c4;obtain rfl := Option.some.inj H;go_wp2
     go_ret
     exact ⟨TE, TB⟩
 ·rw [if_neg c3] at H;have c3b0 : ((l0.length : Int) == (l1.length : Int)) = false := beq_eq_false_iff_ne.mpr c3;have c3b1 : ((l0.length : Int) != (l1.length : Int)) = true := bne_iff_ne.mpr c3;have c3b2 : (l0.length == l1.length) = false := by first | simpa using c3 | (simp at c3 ⊢; omega)
  obtain rfl := Option.some.inj H;go_enter Try.func58, Try.ntmps58;go_wp2
  go_ret
  exact ⟨TE, TB⟩

end Go.Proofs.Ytanpaipapcjpoaa.Q
