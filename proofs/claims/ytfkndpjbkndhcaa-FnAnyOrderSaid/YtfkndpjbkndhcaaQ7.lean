/- Functions of the program as plain Lean functions, and that a call of each comes to what its function tells. Written by a program of this seat. -/
import Derived.Test.YtfkndpjbkndhcaaQ0
namespace Go.Proofs.Ytfkndpjbkndhcaa.Q
open Go.RowKit Go.Proofs.YtfkndpjbkndhcaaW.PrintWords Go.Proofs.YtfkndpjbkndhcaaW.PrintLast Go.Proofs.YtfkndpjbkndhcaaW.PrintMore
attribute [local go_sem] max2_int min2_int max_two min_two max_three min_three max_four min_four   -- for this text's walks alone
set_option linter.unusedVariables false
set_option linter.unusedSimpArgs false

/-! ### impl_isZeroMan: function 107 -/
def impl_isZeroMan.f (a0_0 : Int) (a0_1 : Int) (a0_2 : Int) (l0_3 : List (S48)) : Option (Bool) := if a0_0 = 0 then (if a0_1 = 0 then (if a0_2 = 0 then (some ((l0_3.length : Int) == 0)) else (some false)) else (some false)) else (some false)
set_option maxHeartbeats 40000000 in
set_option maxRecDepth 100000 in
theorem impl_isZeroMan.calls (a0_0 : Int) (a0_1 : Int) (a0_2 : Int) (A0_3 : Option Addr) (c0_3 : Nat) (l0_3 : List (S48)) (r : Bool) (w : World) (hr0_3 : Kd.C k48 w A0_3 l0_3.length l0_3) (hc0_3 : l0_3.length ≤ c0_3) (h : impl_isZeroMan.f a0_0 a0_1 a0_2 l0_3 = some r) :
    Calls Try.prog 107 #[.agg #[.int .i64 a0_0, .int .i64 a0_1, .int .i64 a0_2, .slice A0_3 l0_3.length c0_3]] w fun e w' => e = .returned (.bool r) ∧ Below w.heap.size w w' := by
  have hu28 := Try.underlying28
  have HR0_3 := aM hr0_3
  have HC0_3 := aM hc0_3
  clear hr0_3 hc0_3
  have HB := aM (Below.refl w.heap.size w)
  have H := h
  clear h
  unfold impl_isZeroMan.f at H
  by_cases c2 : a0_0 = 0
  · rw [if_pos c2] at H
    have c2b0 : (a0_0 == 0) = true := beq_iff_eq.mpr c2
    have c2b1 : (a0_0 != 0) = false := bne_eq_false_iff_eq.mpr c2
    clear c2
    by_cases c3 : a0_1 = 0
    · rw [if_pos c3] at H
      have c3b0 : (a0_1 == 0) = true := beq_iff_eq.mpr c3
      have c3b1 : (a0_1 != 0) = false := bne_eq_false_iff_eq.mpr c3
      clear c3
      by_cases c4 : a0_2 = 0
      · rw [if_pos c4] at H
        have c4b0 : (a0_2 == 0) = true := beq_iff_eq.mpr c4
        have c4b1 : (a0_2 != 0) = false := bne_eq_false_iff_eq.mpr c4
        clear c4
        obtain rfl := Option.some.inj H
        go_enter Try.func107, Try.ntmps107
        go_wp2_with (first | ((with_reducible refine gate_dst (N := 1) rfl ?_); (try (refine gate_guard (by rfl) ?_; dsimp only)); refine gBx 1 #[.int .i64 a0_0, .int .i64 a0_1, .int .i64 a0_2, .slice A0_3 l0_3.length c0_3] 28 ?_; intro gb203 hg w5 hbox hb; have BK203 := aM (hbox); have GW203 := aM ((by rw [hg]; exact (below_size TB) : w.heap.size ≤ gb203)); have GE203 := aM ((by rw [hg]; exact (below_size TB) : w.heap.size ≤ gb203)); replace HB := aM (below_step TB hb); clear hb hbox hg; obtain ⟨hcz6_0, hcz6_1, hcz6_2, hcz6_3⟩ := cz4 BK203.out; obtain ⟨hfz6_0, hfz6_1, hfz6_2, hfz6_3⟩ := fz4 BK203.out))
        go_ret
        exact ⟨by first | rfl | (simp [errW_none, errW_some] <;> rfl) | (simp [*, errW_none, errW_some] <;> rfl), TB⟩
      · rw [if_neg c4] at H
        have c4b0 : (a0_2 == 0) = false := beq_eq_false_iff_ne.mpr c4
        have c4b1 : (a0_2 != 0) = true := bne_iff_ne.mpr c4
        obtain rfl := Option.some.inj H
        go_enter Try.func107, Try.ntmps107
        go_wp2_with (first | ((with_reducible refine gate_dst (N := 1) rfl ?_); (try (refine gate_guard (by rfl) ?_; dsimp only)); refine gBx 1 #[.int .i64 a0_0, .int .i64 a0_1, .int .i64 a0_2, .slice A0_3 l0_3.length c0_3] 28 ?_; intro gb203 hg w7 hbox hb; have BK203 := aM (hbox); have GW203 := aM ((by rw [hg]; exact (below_size TB) : w.heap.size ≤ gb203)); have GE203 := aM ((by rw [hg]; exact (below_size TB) : w.heap.size ≤ gb203)); replace HB := aM (below_step TB hb); clear hb hbox hg; obtain ⟨hcz8_0, hcz8_1, hcz8_2, hcz8_3⟩ := cz4 BK203.out; obtain ⟨hfz8_0, hfz8_1, hfz8_2, hfz8_3⟩ := fz4 BK203.out))
        go_ret
        exact ⟨by first | rfl | (simp [errW_none, errW_some] <;> rfl) | (simp [*, errW_none, errW_some] <;> rfl), TB⟩
    · rw [if_neg c3] at H
      have c3b0 : (a0_1 == 0) = false := beq_eq_false_iff_ne.mpr c3
      have c3b1 : (a0_1 != 0) = true := bne_iff_ne.mpr c3
      obtain rfl := Option.some.inj H
      go_enter Try.func107, Try.ntmps107
      go_wp2_with (first | ((with_reducible refine gate_dst (N := 1) rfl ?_); (try (refine gate_guard (by rfl) ?_; dsimp only)); refine gBx 1 #[.int .i64 a0_0, .int .i64 a0_1, .int .i64 a0_2, .slice A0_3 l0_3.length c0_3] 28 ?_; intro gb203 hg w9 hbox hb; have BK203 := aM (hbox); have GW203 := aM ((by rw [hg]; exact (below_size TB) : w.heap.size ≤ gb203)); have GE203 := aM ((by rw [hg]; exact (below_size TB) : w.heap.size ≤ gb203)); replace HB := aM (below_step TB hb); clear hb hbox hg; obtain ⟨hcz10_0, hcz10_1, hcz10_2, hcz10_3⟩ := cz4 BK203.out; obtain ⟨hfz10_0, hfz10_1, hfz10_2, hfz10_3⟩ := fz4 BK203.out))
      go_ret
      exact ⟨by first | rfl | (simp [errW_none, errW_some] <;> rfl) | (simp [*, errW_none, errW_some] <;> rfl), TB⟩
  · rw [if_neg c2] at H
    have c2b0 : (a0_0 == 0) = false := beq_eq_false_iff_ne.mpr c2
    have c2b1 : (a0_0 != 0) = true := bne_iff_ne.mpr c2
    obtain rfl := Option.some.inj H
    go_enter Try.func107, Try.ntmps107
    go_wp2_with (first | ((with_reducible refine gate_dst (N := 1) rfl ?_); (try (refine gate_guard (by rfl) ?_; dsimp only)); refine gBx 1 #[.int .i64 a0_0, .int .i64 a0_1, .int .i64 a0_2, .slice A0_3 l0_3.length c0_3] 28 ?_; intro gb203 hg w11 hbox hb; have BK203 := aM (hbox); have GW203 := aM ((by rw [hg]; exact (below_size TB) : w.heap.size ≤ gb203)); have GE203 := aM ((by rw [hg]; exact (below_size TB) : w.heap.size ≤ gb203)); replace HB := aM (below_step TB hb); clear hb hbox hg; obtain ⟨hcz12_0, hcz12_1, hcz12_2, hcz12_3⟩ := cz4 BK203.out; obtain ⟨hfz12_0, hfz12_1, hfz12_2, hfz12_3⟩ := fz4 BK203.out))
    go_ret
    exact ⟨by first | rfl | (simp [errW_none, errW_some] <;> rfl) | (simp [*, errW_none, errW_some] <;> rfl), TB⟩

/-! ### impl_BytesOf: function 108 -/
mutual
def impl_BytesOf.j1 : Nat → Int → Int → Option (List Int × Bool)
  | 0, _, _ => none
  | k + 1, x0, x4 => if x0 < 1 then (impl_BytesOf.j2 k x0 x4 true) else (if 0 ≤ (wrap64 (8 * x4)) then (impl_BytesOf.j2 k x0 x4 ((shr .i64 x0 (wrap64 (8 * x4))) != 1)) else (none))
def impl_BytesOf.j2 : Nat → Int → Int → Bool → Option (List Int × Bool)
  | 0, _, _, _ => none
  | k + 1, x0, x4, x26 => if x26 = true then (some (([] : List Int), false)) else (if 0 ≤ x4 then (if (x4 : Int).toNat ≤ 281474976710656 then ((some (List.replicate (x4 : Int).toNat 0 : List Int)).bind fun y204 => (impl_BytesOf.l1 k x0 x4 y204 (y204.length : Int) 0)) else (none)) else (none))
def impl_BytesOf.l1 : Nat → Int → Int → List Int → Int → Int → Option (List Int × Bool)
  | 0, _, _, _, _, _ => none
  | k + 1, x0, x4, x5, x30, x31 => if x31 < x30 then (if 0 ≤ (wrap64 (8 * (wrap64 ((wrap64 (x4 - 1)) - x31)))) then (if 0 ≤ x31 then (if x31 < (x5.length : Int) then (impl_BytesOf.l1 k x0 x4 (x5.set (x31 : Int).toNat ((shr .i64 x0 (wrap64 (8 * (wrap64 ((wrap64 (x4 - 1)) - x31))))) % 256)) x30 (wrap64 (x31 + 1))) else (none)) else (none)) else (none)) else (some (x5, true))
def impl_BytesOf.l0 : Nat → Int → Int → Option (List Int × Bool)
  | 0, _, _ => none
  | k + 1, x0, x4 => if x4 < 6 then (if 0 ≤ (wrap64 (8 * x4)) then (if (shr .i64 x0 (wrap64 (8 * x4))) > 1 then (impl_BytesOf.l0 k x0 (wrap64 (x4 + 1))) else (impl_BytesOf.j1 k x0 x4)) else (none)) else (impl_BytesOf.j1 k x0 x4)
end
def impl_BytesOf.f (k : Nat) (a0 : Int) : Option (List Int × Bool) := impl_BytesOf.l0 k a0 0
theorem impl_BytesOf.mono_l : ∀ k, (∀ y0 y1, LeO (impl_BytesOf.j1 k y0 y1) (impl_BytesOf.j1 (k + 1) y0 y1)) ∧ (∀ y0 y1 y2, LeO (impl_BytesOf.j2 k y0 y1 y2) (impl_BytesOf.j2 (k + 1) y0 y1 y2)) ∧ (∀ y0 y1 y2 y3 y4, LeO (impl_BytesOf.l1 k y0 y1 y2 y3 y4) (impl_BytesOf.l1 (k + 1) y0 y1 y2 y3 y4)) ∧ (∀ y0 y1, LeO (impl_BytesOf.l0 k y0 y1) (impl_BytesOf.l0 (k + 1) y0 y1))
  | 0 => ⟨fun _ _ r h => by simp [impl_BytesOf.j1] at h, fun _ _ _ r h => by simp [impl_BytesOf.j2] at h, fun _ _ _ _ _ r h => by simp [impl_BytesOf.l1] at h, fun _ _ r h => by simp [impl_BytesOf.l0] at h⟩
  | k + 1 => by
    obtain ⟨ih0, ih1, ih2, ih3⟩ := impl_BytesOf.mono_l k
    refine ⟨?_, ?_, ?_, ?_⟩
    · intro y0 y1
      unfold impl_BytesOf.j1
      exact LM
    · intro y0 y1 y2
      unfold impl_BytesOf.j2
      exact LM
    · intro y0 y1 y2 y3 y4
      unfold impl_BytesOf.l1
      exact LM
    · intro y0 y1
      unfold impl_BytesOf.l0
      exact LM
theorem impl_BytesOf.mono : ∀ a0 k, LeO (impl_BytesOf.f k a0) (impl_BytesOf.f (k + 1) a0) := by
  intro a0 k
  obtain ⟨ih0, ih1, ih2, ih3⟩ := impl_BytesOf.mono_l k
  unfold impl_BytesOf.f
  exact LM
set_option maxHeartbeats 40000000 in
set_option maxRecDepth 100000 in
theorem impl_BytesOf.calls (k : Nat) (a0 : Int) (r1 : List Int) (r2 : Bool) (w : World) (h : impl_BytesOf.f k a0 = some (r1, r2)) :
  Calls Try.prog 108 #[.int .i64 a0] w fun e w' => ∃ v0_ : Value, e = .returned (.tuple #[v0_, .bool r2]) ∧ Kd.R (Kd.int .u8) 5 w' w.heap.size (fun _ => True) v0_ r1 ∧ Below w.heap.size w w' := by
 have HB := aM (Below.refl w.heap.size w)
 have H := h
 clear h
 unfold impl_BytesOf.f at H
 have HC2 := aM H
 clear H
 go_enter Try.func108, Try.ntmps108
 go_upto_block 0 with (fail)
 go_cut [4] (fun v4 wc => ∃ (kq : Nat) (aa : Int), v4 = .int .i64 aa ∧ Aside0 (impl_BytesOf.j1 kq a0 aa = some (r1, r2)) ∧ Aside0 (kq ≤ k) ∧ Aside0 (Below w.heap.size w wc))
 case first =>
  have H := HC2.out
  clear HC2
  have H' := aM H
  clear H
  go_wp2
  go_loopg [4] k (fun kq v4 w' => ∃ (aa : Int), v4 = .int .i64 aa ∧ Aside0 (impl_BytesOf.l0 kq a0 aa = some (r1, r2)) ∧ Aside0 (kq ≤ k) ∧ Aside0 (Below w.heap.size w w'))
  case atStart => exact ⟨(0), (by first | rfl | (simp; done) | (simp [*]; done)), H', ⟨Nat.le_refl _⟩, ⟨TB⟩⟩
  case round =>
   clear H'
   try clear c1
   try clear p2
   obtain ⟨aa, rfl, HA, HK1, HB⟩ := hrel
   cases gk with
   | zero => exact absurd HA.out (by simp [impl_BytesOf.l0])
   | succ k1 =>
    have H := HA.out
    clear HA
    simp only [impl_BytesOf.l0] at H
    by_cases c3 : aa < 6
    ·rw [if_pos c3] at H
     have ad : decide (aa < 6) = true := decide_eq_true c3
     clear c3
     (first | rw [ad] | (simp only [i64_w, i32_w]; rw [ad]) | skip)
     obtain ⟨ji4, ax⟩ : ∃ j_ : Int, (wrap64 (8 * aa)) = j_ := ⟨_, rfl⟩
     (first | rw [ax] at H | simp only [ax] at H | skip)
     have hji4w : (IntKind.i64.wrap (8 * aa)) = ji4 := (i64_w _).trans ax
     replace H := ifN H
     obtain ⟨c5, H⟩ := H
     have az := eq_true c5
     have aA : decide (0 ≤ (ji4)) = true := decide_eq_true c5
     clear c5
     obtain ⟨ji6, aw⟩ : ∃ j_ : Int, (shr .i64 a0 (ji4)) = j_ := ⟨_, rfl⟩
     (first | rw [aw] at H | simp only [aw] at H | skip)
     have hji6_ : (a0 / 2 ^ min (ji4).toNat 64) = ji6 := aw
     have hji6z : (ji4) ≤ 64 → (a0 / 2 ^ (ji4).toNat) = ji6 := shr_small aw
     by_cases c7 : (ji6) > 1
     ·rw [if_pos c7] at H
      have av : decide (1 < (ji6)) = true := decide_eq_true c7
      clear c7
      have H' := aM H
      clear H
      go_wp2
      go_roundg k1
      case measure => have := HK1.out; omega
      case rel => exact ⟨(wrap64 (aa + 1)), (by first | rfl | (simp; done) | (simp [*]; done)), H', ⟨by have := HK1.out; omega⟩, ⟨TB⟩⟩
     ·rw [if_neg c7] at H
      have av : decide (1 < (ji6)) = false := decide_eq_false c7
      clear c7
      have H' := aM H
      clear H
      go_wp2
      go_meet
      case rel => exact ⟨_, (aa), (by first | rfl | (simp; done) | (simp [*]; done)), H', ⟨by have := HK1.out; first | omega | exact Nat.le_refl _⟩, ⟨TB⟩⟩
    ·rw [if_neg c3] at H
     have ad : decide (aa < 6) = false := decide_eq_false c3
     clear c3
     (first | rw [ad] | (simp only [i64_w, i32_w]; rw [ad]) | skip)
     have H' := aM H
     clear H
     go_wp2
     go_meet
     case rel => exact ⟨_, (aa), (by first | rfl | (simp; done) | (simp [*]; done)), H', ⟨by have := HK1.out; first | omega | exact Nat.le_refl _⟩, ⟨TB⟩⟩
 case rest =>
  clear HC2
  try clear c1
  try clear p2
  try clear c3
  try clear ad
  try clear c5
  try clear az
  try clear aA
  try clear p6
  try clear c7
  try clear av
  try clear p2
  obtain ⟨kq, aa, rfl, HA, HJ1, HB⟩ := hcut
  cases kq with
  | zero => exact absurd HA.out (by simp [impl_BytesOf.j1])
  | succ kj1 =>
   have H := HA.out
   clear HA
   simp only [impl_BytesOf.j1] at H
   have HC8 := aM H
   clear H
   go_upto_region 4 with (fail)
   go_cut [26] (fun v26 wc => ∃ (kq : Nat) (al : Bool), v26 = .bool al ∧ Aside0 (impl_BytesOf.j2 kq a0 aa al = some (r1, r2)) ∧ Aside0 (kq ≤ kj1) ∧ Aside0 (Below w.heap.size w wc))
   case first =>
    have H := HC8.out
    clear HC8
    by_cases c9 : a0 < 1
    ·rw [if_pos c9] at H
     have ae : decide (a0 < 1) = true := decide_eq_true c9
     clear c9
     (first | rw [ae] | (simp only [i64_w, i32_w]; rw [ae]) | skip)
     have H' := aM H
     clear H
     go_wp2
     go_meet
     case rel => exact ⟨_, (true), (by first | rfl | (simp; done) | (simp [*]; done)), H', ⟨by have := HJ1.out; first | omega | exact Nat.le_refl _⟩, ⟨TB⟩⟩
    ·rw [if_neg c9] at H
     have ae : decide (a0 < 1) = false := decide_eq_false c9
     clear c9
     (first | rw [ae] | (simp only [i64_w, i32_w]; rw [ae]) | skip)
     obtain ⟨aj, ap⟩ : ∃ j_ : Int, (wrap64 (8 * aa)) = j_ := ⟨_, rfl⟩
     (first | rw [ap] at H | simp only [ap] at H | skip)
     have hji10w : (IntKind.i64.wrap (8 * aa)) = aj := (i64_w _).trans ap
     replace H := ifN H
     obtain ⟨c11, H⟩ := H
     have aD := eq_true c11
     have aE : decide (0 ≤ (aj)) = true := decide_eq_true c11
     clear c11
     obtain ⟨aC, ah⟩ : ∃ j_ : Int, (shr .i64 a0 (aj)) = j_ := ⟨_, rfl⟩
     (first | rw [ah] at H | simp only [ah] at H | skip)
     have hji12_ : (a0 / 2 ^ min (aj).toNat 64) = aC := ah
     have hji12z : (aj) ≤ 64 → (a0 / 2 ^ (aj).toNat) = aC := shr_small ah
     have H' := aM H
     clear H
     go_wp2
     go_meet
     case rel => exact ⟨_, (((aC) != 1)), (by first | rfl | (simp; done) | (simp only [← ah] <;> (first | rfl | simp)) | (simp [*]; done)), H', ⟨by have := HJ1.out; first | omega | exact Nat.le_refl _⟩, ⟨TB⟩⟩
   case rest =>
    clear HC8
    try clear c1
    try clear p2
    try clear c3
    try clear ad
    try clear c5
    try clear az
    try clear aA
    try clear p6
    try clear c7
    try clear av
    try clear c9
    try clear ae
    try clear c10
    try clear c11
    try clear aD
    try clear aE
    try clear p2
    try clear p6
    obtain ⟨kq, al, rfl, HA, HJ7, HB⟩ := hcut
    cases kq with
    | zero => exact absurd HA.out (by simp [impl_BytesOf.j2])
    | succ kj7 =>
     have H := HA.out
     clear HA
     simp only [impl_BytesOf.j2] at H
     by_cases c13 : al = true
     ·subst c13
      replace H := ifT H
      simp only [Option.some.injEq, Prod.mk.injEq] at H
      obtain ⟨rfl, rfl⟩ := H
      go_wp2
      go_ret2
      exact ⟨_, by first | rfl | (simp [errW_none, errW_some] <;> rfl) | (simp [*, errW_none, errW_some] <;> rfl), by first | exact Kd.R_nil _ _ _ _ _ | exact Kd.N_nil _ _ _ _ _ | exact Kd.V_nil _ _ _ _ _ | exact Kd.Q_nil _ _ _ _ _ | exact Kd.S_nil _ _ _ _ _, TB⟩
     ·replace c13 := Bool.eq_false_iff.mpr c13
      subst c13
      replace H := ifF H
      replace H := ifN H
      obtain ⟨c14, H⟩ := H
      have c14b0 := eq_true c14
      have c14b1 : decide (0 ≤ aa) = true := decide_eq_true c14
      clear c14
      replace H := ifN H
      obtain ⟨c15, H⟩ := H
      have c15b0 := eq_true c15
      have c15b1 : decide ((aa : Int).toNat ≤ 281474976710656) = true := decide_eq_true c15
      clear c15
      obtain ⟨ai, ar⟩ : ∃ y_ : List Int, y_ = (List.replicate (aa : Int).toNat 0) := ⟨_, rfl⟩
      replace H := someE H ar
      have aG := aM ar
      clear ar
      have H' := aM H
      clear H
      go_wp2_with (first | ((with_reducible refine gate_dst (N := 28) rfl ?_); refine Kd.R_make (Kd.int .u8) _ 5 rfl (N := 28) rfl 22 _ _ rfl aa rfl rfl Try.underlying22 (.int .u8 0) 1 info5 rfl (by decide) (by omega) 0 (ok := fun _ => True) (okp := fun _ => True) rfl (fun _ hk => hk) trivial DT (Nat.le_trans (Nat.mul_le_mul_right _ (DT : aa.toNat ≤ 281474976710656)) (by omega)) (Below.refl _ _) (Nat.le_refl _) ?_; intro v205 w16 an hb hg_ hnew_; clear hg_ hnew_; (first | rw [← aG.out] at an | (simp only [Int.reduceToNat] at an; rw [← aG.out] at an)); have HO206 := aM (Kd.R_lower an (below_size TB)); replace HB := aM (below_step TB hb); clear hb an; obtain ⟨Ao18, co18, eo18⟩ := Kd.R_slice HO206.out; subst eo18))
      go_loopg [31] kj7 (fun kq v31 w' => ∃ (af : List Int) (ab : Int), v31 = .int .i64 ab ∧ Aside0 (impl_BytesOf.l1 kq a0 aa af (ai.length : Int) ab = some (r1, r2)) ∧ Aside0 (kq ≤ kj7) ∧ Aside0 (Kd.R (Kd.int .u8) 5 w' w.heap.size (fun _ => True) (.slice Ao18 ai.length co18) af) ∧ Aside0 (Below w.heap.size w w'))
      case atStart => exact ⟨(ai), (0), (by first | rfl | (simp; done) | (simp [*]; done)), H', ⟨Nat.le_refl _⟩, ⟨by have X_ := HO206.out; exact TR⟩, ⟨TB⟩⟩
      case round =>
       clear H'
       try clear c1
       try clear p2
       try clear c3
       try clear ad
       try clear c5
       try clear az
       try clear aA
       try clear p6
       try clear c7
       try clear av
       try clear c9
       try clear ae
       try clear c10
       try clear c11
       try clear aD
       try clear aE
       try clear c13
       try clear c14
       try clear c14b0
       try clear c14b1
       try clear c15
       try clear c15b0
       try clear c15b1
       try clear p2
       try clear p6
       obtain ⟨af, ab, rfl, HA, HK3, ac, HB⟩ := hrel
       have ag := (Kd.R_reads' ac.out).1
       rw [ag] at ac
       (try simp only [ag])
       cases gk with
       | zero => exact absurd HA.out (by simp [impl_BytesOf.l1])
       | succ k3 =>
        have H := HA.out
        clear HA
        simp only [impl_BytesOf.l1] at H
        by_cases c19 : ab < (ai.length : Int)
        ·rw [if_pos c19] at H
         have aF : decide (ab < (ai.length : Int)) = true := decide_eq_true c19
         clear c19
         obtain ⟨ak, aq⟩ : ∃ j_ : Int, (wrap64 (8 * (wrap64 ((wrap64 (aa - 1)) - ab)))) = j_ := ⟨_, rfl⟩
         (first | rw [aq] at H | simp only [aq] at H | skip)
         have hji20w : (IntKind.i64.wrap (8 * (wrap64 ((wrap64 (aa - 1)) - ab)))) = ak := (i64_w _).trans aq
         replace H := ifN H
         obtain ⟨c21, H⟩ := H
         have c21b0 := eq_true c21
         have c21b1 : decide (0 ≤ (ak)) = true := decide_eq_true c21
         clear c21
         obtain ⟨ao, am⟩ : ∃ j_ : Int, (shr .i64 a0 (ak)) = j_ := ⟨_, rfl⟩
         (first | rw [am] at H | simp only [am] at H | skip)
         have hji22_ : (a0 / 2 ^ min (ak).toNat 64) = ao := am
         have hji22z : (ak) ≤ 64 → (a0 / 2 ^ (ak).toNat) = ao := shr_small am
         replace H := ifN H
         obtain ⟨c23, H⟩ := H
         have c23b0 : decide (0 ≤ ab) = true := decide_eq_true c23
         clear c23
         replace H := ifN H
         obtain ⟨c24, H⟩ := H
         have c24b0 : decide (ab < (af.length : Int)) = true := decide_eq_true c24
         clear c24
         obtain ⟨y207, au⟩ : ∃ y_ : List Int, y_ = (af.set (ab : Int).toNat ((ao) % 256)) := ⟨_, rfl⟩
         rw [← au] at H
         have Ny207 := aM au
         clear au
         have H' := aM H
         clear H
         have p25 : 0 ≤ (ab : Int) := DT
         have q25 : (ab : Int) < ((af.length : Int) : Int) := DT
         obtain ⟨aB, co25, eo25, gb25, gl25, cl25, HG25⟩ := Kd.R_form ac.out (by omega)
         (first | cases eo25 | (injection eo25 with ea_ en_ ec_; (first | subst ea_ | (injection ea_ with ea_; subst ea_)); subst ec_; clear en_))
         have GB25 := aM gb25
         have GG25 := aM HG25
         clear gb25 gl25 HG25
         obtain ⟨hx25_0, hf25_0⟩ := Kd.R_celln 0 ac.out (ab : Int) p25 q25
         replace p25 := eq_true p25
         replace q25 := eq_true q25
         have ay := Kd.R_putg ac.out (ab : Int) ((ao) % 256)
         go_wp2_with (first | ((with_reducible refine gate_store (t := 5) (p := 44) rfl ?_); refine store_event (t := 5) (p := 44) (v := ?vo_w27) (w1 := (wr.setCell ⟨aB, (ab : Int).toNat, none⟩ (.int .u8 ((ao) % 256)))) ?hg ?ho ?hn ?hr ?_; (case ho => rfl); (case hg => rfl); (case hn => rfl); (case hr => first | (go_simp; done) | (go_simp; rfl)); intro w27 hw; have hg : wr.grownBy w27 (some aB) := (by rw [hw]; exact ay.2); have hp_ : Kd.R (Kd.int .u8) 5 w27 w.heap.size (fun _ => True) (.slice (some ⟨aB, 0, none⟩) af.length co18) y207 := (by rw [hw, Ny207.out]; exact ay.1); clear ay; replace ac := aM (hp_); replace HB := aM ((by rw [hw]; exact below_set (HB.out) GB25.out : Below w.heap.size w w27)); clear hg hw hp_))
         (try simp only [← ag])
         go_roundg k3
         case measure => have := HJ1.out; have := HJ7.out; have := HK3.out; omega
         case rel => exact ⟨(y207), (wrap64 (ab + 1)), (by first | rfl | (simp; done) | (simp [*]; done)), H', ⟨by have := HJ1.out; have := HJ7.out; have := HK3.out; omega⟩, ⟨by (try simp only [ag]); (with_reducible repeat (first | apply Kd.R_alloc | apply Kd.R_drewN | apply Kd.R_drew)); exact ac.out⟩, ⟨TB⟩⟩
        ·rw [if_neg c19] at H
         have aF : decide (ab < (ai.length : Int)) = false := decide_eq_false c19
         (try rw [ag] at aF)
         clear c19
         simp only [Option.some.injEq, Prod.mk.injEq] at H
         obtain ⟨rfl, rfl⟩ := H
         go_wp2
         go_ret2
         exact ⟨_, by first | rfl | (simp [errW_none, errW_some] <;> rfl) | (simp [*, errW_none, errW_some] <;> rfl), by have X_ := ac.out; exact TR, TB⟩

end Go.Proofs.Ytfkndpjbkndhcaa.Q
