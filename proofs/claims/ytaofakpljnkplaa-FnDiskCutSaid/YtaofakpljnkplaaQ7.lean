/- Functions of the program as plain Lean functions, and that a call of each comes to what its function tells. Written by a program of this seat. -/
import Derived.Test.YtaofakpljnkplaaQ0
namespace Go.Proofs.Ytaofakpljnkplaa.Q
open Go.RowKit Go.Proofs.YtaofakpljnkplaaW.PrintWords Go.Proofs.YtaofakpljnkplaaW.PrintLast Go.Proofs.YtaofakpljnkplaaW.PrintMore
attribute [local go_sem] min2_int min_two
set_option linter.unusedVariables false
set_option linter.unusedSimpArgs false

def impl_isZeroMan.f (a0_0 : Int) (a0_1 : Int) (a0_2 : Int) (l0_3 : List (S71)) : Option (Bool) := if a0_0 = 0 then (if a0_1 = 0 then (if a0_2 = 0 then (some ((l0_3.length : Int) == 0)) else (some false)) else (some false)) else (some false)
set_option maxHeartbeats 40000000 in
set_option maxRecDepth 100000 in
theorem impl_isZeroMan.calls {a0_0 : Int} {a0_1 : Int} {a0_2 : Int} {A0_3 : Option Addr} {c0_3 : Nat} {l0_3 : List (S71)} {r : Bool} {w : World} (hr0_3 : Kd.C k71 w A0_3 l0_3.length l0_3) (hc0_3 : l0_3.length ≤ c0_3) (h : impl_isZeroMan.f a0_0 a0_1 a0_2 l0_3 = some r) :
    Calls Try.prog 61 #[.agg #[.int .i64 a0_0, .int .i64 a0_1, .int .i64 a0_2, .slice A0_3 l0_3.length c0_3]] w fun e w' => e = .returned (.bool r) ∧ Below w.heap.size w w' := by
  have hu28 := Try.underlying28
  have HR0_3 := aM hr0_3
  have HC0_3 := aM hc0_3
  clear hr0_3 hc0_3
  have HB := aM (Below.refl w.heap.size w)
  have H := h
  clear h
  unfold impl_isZeroMan.f at H
  by_cases c2 : a0_0 = 0
  · rw [if_pos c2] at H
    have c2b0 : (a0_0 == 0) = true := beq_iff_eq.mpr c2
    have c2b1 : (a0_0 != 0) = false := bne_eq_false_iff_eq.mpr c2
    clear c2
    by_cases c3 : a0_1 = 0
    · rw [if_pos c3] at H
      have c3b0 : (a0_1 == 0) = true := beq_iff_eq.mpr c3
      have c3b1 : (a0_1 != 0) = false := bne_eq_false_iff_eq.mpr c3
      clear c3
      by_cases c4 : a0_2 = 0
      · rw [if_pos c4] at H
        have c4b0 : (a0_2 == 0) = true := beq_iff_eq.mpr c4
        have c4b1 : (a0_2 != 0) = false := bne_eq_false_iff_eq.mpr c4
        clear c4
        obtain rfl := o_I H
        go_enter Try.func61, Try.ntmps61
        go_wp2_with (first | ((with_reducible refine gate_dst (N := 1) rfl ?_); (try (refine gate_guard (by rfl) ?_; dsimp only)); refine gBx 1 #[.int .i64 a0_0, .int .i64 a0_1, .int .i64 a0_2, .slice A0_3 l0_3.length c0_3] 28 ?_; intro gb203 hg w5 hbox hb; have BK203 := aM (hbox); have GW203 := gW HB hg; have GE203 := gW HB hg; replace HB := bS HB hb; clear hb hbox hg; obtain ⟨hcz6_0, hcz6_1, hcz6_2, hcz6_3⟩ := cz4 BK203.out; obtain ⟨hfz6_0, hfz6_1, hfz6_2, hfz6_3⟩ := fz4 BK203.out))
        go_ret
        exact ⟨TE, TB⟩
      · rw [if_neg c4] at H
        have c4b0 : (a0_2 == 0) = false := beq_eq_false_iff_ne.mpr c4
        have c4b1 : (a0_2 != 0) = true := bne_iff_ne.mpr c4
        obtain rfl := o_I H
        go_enter Try.func61, Try.ntmps61
        go_wp2_with (first | ((with_reducible refine gate_dst (N := 1) rfl ?_); (try (refine gate_guard (by rfl) ?_; dsimp only)); refine gBx 1 #[.int .i64 a0_0, .int .i64 a0_1, .int .i64 a0_2, .slice A0_3 l0_3.length c0_3] 28 ?_; intro gb203 hg w7 hbox hb; have BK203 := aM (hbox); have GW203 := gW HB hg; have GE203 := gW HB hg; replace HB := bS HB hb; clear hb hbox hg; obtain ⟨hcz8_0, hcz8_1, hcz8_2, hcz8_3⟩ := cz4 BK203.out; obtain ⟨hfz8_0, hfz8_1, hfz8_2, hfz8_3⟩ := fz4 BK203.out))
        go_ret
        exact ⟨TE, TB⟩
    · rw [if_neg c3] at H
      have c3b0 : (a0_1 == 0) = false := beq_eq_false_iff_ne.mpr c3
      have c3b1 : (a0_1 != 0) = true := bne_iff_ne.mpr c3
      obtain rfl := o_I H
      go_enter Try.func61, Try.ntmps61
      go_wp2_with (first | ((with_reducible refine gate_dst (N := 1) rfl ?_); (try (refine gate_guard (by rfl) ?_; dsimp only)); refine gBx 1 #[.int .i64 a0_0, .int .i64 a0_1, .int .i64 a0_2, .slice A0_3 l0_3.length c0_3] 28 ?_; intro gb203 hg w9 hbox hb; have BK203 := aM (hbox); have GW203 := gW HB hg; have GE203 := gW HB hg; replace HB := bS HB hb; clear hb hbox hg; obtain ⟨hcz10_0, hcz10_1, hcz10_2, hcz10_3⟩ := cz4 BK203.out; obtain ⟨hfz10_0, hfz10_1, hfz10_2, hfz10_3⟩ := fz4 BK203.out))
      go_ret
      exact ⟨TE, TB⟩
  · rw [if_neg c2] at H
    have c2b0 : (a0_0 == 0) = false := beq_eq_false_iff_ne.mpr c2
    have c2b1 : (a0_0 != 0) = true := bne_iff_ne.mpr c2
    obtain rfl := o_I H
    go_enter Try.func61, Try.ntmps61
    go_wp2_with (first | ((with_reducible refine gate_dst (N := 1) rfl ?_); (try (refine gate_guard (by rfl) ?_; dsimp only)); refine gBx 1 #[.int .i64 a0_0, .int .i64 a0_1, .int .i64 a0_2, .slice A0_3 l0_3.length c0_3] 28 ?_; intro gb203 hg w11 hbox hb; have BK203 := aM (hbox); have GW203 := gW HB hg; have GE203 := gW HB hg; replace HB := bS HB hb; clear hb hbox hg; obtain ⟨hcz12_0, hcz12_1, hcz12_2, hcz12_3⟩ := cz4 BK203.out; obtain ⟨hfz12_0, hfz12_1, hfz12_2, hfz12_3⟩ := fz4 BK203.out))
    go_ret
    exact ⟨TE, TB⟩

mutual
def impl_BytesOf.j1 : Nat → Int → Int → Option (List Int × Bool)
  | 0, _, _ => none
  | k + 1, x0, x4 => if x0 < 1 then (impl_BytesOf.j2 k x0 x4 true) else (if 0 ≤ (wrap64 (8 * x4)) then (impl_BytesOf.j2 k x0 x4 ((shr .i64 x0 (wrap64 (8 * x4))) != 1)) else (none))
def impl_BytesOf.j2 : Nat → Int → Int → Bool → Option (List Int × Bool)
  | 0, _, _, _ => none
  | k + 1, x0, x4, x26 => if x26 = true then (some (([] : List Int), false)) else (if 0 ≤ x4 then (if (x4 : Int).toNat ≤ 281474976710656 then ((some (List.replicate (x4 : Int).toNat 0 : List Int)).bind fun y204 => (impl_BytesOf.l1 k x0 x4 y204 (y204.length : Int) 0)) else (none)) else (none))
def impl_BytesOf.l1 : Nat → Int → Int → List Int → Int → Int → Option (List Int × Bool)
  | 0, _, _, _, _, _ => none
  | k + 1, x0, x4, x5, x30, x31 => if x31 < x30 then (if 0 ≤ (wrap64 (8 * (wrap64 ((wrap64 (x4 - 1)) - x31)))) then (if 0 ≤ x31 then (if x31 < (x5.length : Int) then (impl_BytesOf.l1 k x0 x4 (x5.set (x31 : Int).toNat ((shr .i64 x0 (wrap64 (8 * (wrap64 ((wrap64 (x4 - 1)) - x31))))) % 256)) x30 (wrap64 (x31 + 1))) else (none)) else (none)) else (none)) else (some (x5, true))
def impl_BytesOf.l0 : Nat → Int → Int → Option (List Int × Bool)
  | 0, _, _ => none
  | k + 1, x0, x4 => if x4 < 6 then (if 0 ≤ (wrap64 (8 * x4)) then (if (shr .i64 x0 (wrap64 (8 * x4))) > 1 then (impl_BytesOf.l0 k x0 (wrap64 (x4 + 1))) else (impl_BytesOf.j1 k x0 x4)) else (none)) else (impl_BytesOf.j1 k x0 x4)
end
def impl_BytesOf.f (k : Nat) (a0 : Int) : Option (List Int × Bool) := impl_BytesOf.l0 k a0 0
theorem impl_BytesOf.mono_l : ∀ k, (∀ y0 y1, LeO (impl_BytesOf.j1 k y0 y1) (impl_BytesOf.j1 (k + 1) y0 y1)) ∧ (∀ y0 y1 y2, LeO (impl_BytesOf.j2 k y0 y1 y2) (impl_BytesOf.j2 (k + 1) y0 y1 y2)) ∧ (∀ y0 y1 y2 y3 y4, LeO (impl_BytesOf.l1 k y0 y1 y2 y3 y4) (impl_BytesOf.l1 (k + 1) y0 y1 y2 y3 y4)) ∧ (∀ y0 y1, LeO (impl_BytesOf.l0 k y0 y1) (impl_BytesOf.l0 (k + 1) y0 y1))
  | 0 => ⟨fun _ _ r h => by simp [impl_BytesOf.j1] at h, fun _ _ _ r h => by simp [impl_BytesOf.j2] at h, fun _ _ _ _ _ r h => by simp [impl_BytesOf.l1] at h, fun _ _ r h => by simp [impl_BytesOf.l0] at h⟩
  | k + 1 => by
    obtain ⟨ih0, ih1, ih2, ih3⟩ := impl_BytesOf.mono_l k
    refine ⟨?_, ?_, ?_, ?_⟩
    · intro y0 y1
      unfold impl_BytesOf.j1
      exact LM
    · intro y0 y1 y2
      unfold impl_BytesOf.j2
      exact LM
    · intro y0 y1 y2 y3 y4
      unfold impl_BytesOf.l1
      exact LM
    · intro y0 y1
      unfold impl_BytesOf.l0
      exact LM
theorem impl_BytesOf.mono : ∀ a0 k, LeO (impl_BytesOf.f k a0) (impl_BytesOf.f (k + 1) a0) := by
  intro a0 k;obtain ⟨ih0, ih1, ih2, ih3⟩ := impl_BytesOf.mono_l k;unfold impl_BytesOf.f;exact LM
set_option maxHeartbeats 40000000 in
set_option maxRecDepth 100000 in
theorem impl_BytesOf.calls {k : Nat} {a0 : Int} {r1 : List Int} {r2 : Bool} {w : World} (h : impl_BytesOf.f k a0 = some (r1, r2)) :
  Calls Try.prog 62 #[.int .i64 a0] w fun e w' => ∃ v0_ : Value, e = .returned (.tuple #[v0_, .bool r2]) ∧ Kd.R (Kd.int .u8) 5 w' w.heap.size (fun _ => True) v0_ r1 ∧ Below w.heap.size w w' := by
 have HB := aM (Below.refl w.heap.size w);have H := h;clear h;unfold impl_BytesOf.f at H;have aw := aM H;clear H;go_enter Try.func62, Try.ntmps62;go_upto_block 0 with (fail)
 go_cut [4] (fun vq1 wc => ∃ (kq : Nat) (xq1 : Int), vq1 = .int .i64 xq1 ∧ Aside0 (impl_BytesOf.j1 kq a0 xq1 = some (r1, r2)) ∧ Aside0 (kq ≤ k) ∧ Aside0 (Below w.heap.size w wc))
 case first =>
  have H := aw.out;clear aw;have H' := aM H;clear H;go_wp2
  go_loopg [4] k (fun kq vq1 w' => ∃ (xq1 : Int), vq1 = .int .i64 xq1 ∧ Aside0 (impl_BytesOf.l0 kq a0 xq1 = some (r1, r2)) ∧ Aside0 (kq ≤ k) ∧ Aside0 (Below w.heap.size w w'))
  case atStart => exact ⟨(0), TF, H', ⟨Nat.le_refl _⟩, ⟨TB⟩⟩
  case round =>
   clear H';obtain ⟨xq1, rfl, HA, ag, HB⟩ := hrel;cases gk with
   | zero => exact absurd HA.out (by simp [impl_BytesOf.l0])
   | succ k1 =>
    have H := HA.out;clear HA;simp only [impl_BytesOf.l0] at H
    by_cases c3 : xq1 < 6
    ·rw [if_pos c3] at H;have af : decide (xq1 < 6) = true := decide_eq_true c3;clear c3;(first | rw [af] | (simp only [i64_w, i32_w]; rw [af]) | skip);obtain ⟨aa, ad⟩ : ∃ j_ : Int, (wrap64 (8 * xq1)) = j_ := ⟨_, rfl⟩;(first | rw [ad] at H | simp only [ad] at H | skip);have ay : (IntKind.i64.wrap (8 * xq1)) = aa := (i64_w _).trans ad;replace H := ifN H;obtain ⟨cq1, H⟩ := H;have cq2 := eq_true cq1;have cq3 : decide (0 ≤ (aa)) = true := decide_eq_true cq1;clear cq1;obtain ⟨ac, ab⟩ : ∃ j_ : Int, (shr .i64 a0 (aa)) = j_ := ⟨_, rfl⟩;(first | rw [ab] at H | simp only [ab] at H | skip);have az : (a0 / 2 ^ min (aa).toNat 64) = ac := ab;have aA : (aa) ≤ 64 → (a0 / 2 ^ (aa).toNat) = ac := shr_small ab
     by_cases cq4 : (ac) > 1
     ·rw [if_pos cq4] at H;have cq5 : decide (1 < (ac)) = true := decide_eq_true cq4;clear cq4;have H' := aM H;clear H;go_wp2
      go_roundg k1
      case measure => have := ag.out; omega
      case rel => exact ⟨(wrap64 (xq1 + 1)), TF, H', ⟨by have := ag.out; omega⟩, ⟨TB⟩⟩
     ·rw [if_neg cq4] at H;have cq5 : decide (1 < (ac)) = false := decide_eq_false cq4;clear cq4;have H' := aM H;clear H;go_wp2
      go_meet
      case rel => exact ⟨_, (xq1), TF, H', ⟨by have := ag.out; first | omega | exact Nat.le_refl _⟩, ⟨TB⟩⟩
    ·rw [if_neg c3] at H;have af : decide (xq1 < 6) = false := decide_eq_false c3;clear c3;(first | rw [af] | (simp only [i64_w, i32_w]; rw [af]) | skip);have H' := aM H;clear H;go_wp2
     go_meet
     case rel => exact ⟨_, (xq1), TF, H', ⟨by have := ag.out; first | omega | exact Nat.le_refl _⟩, ⟨TB⟩⟩
 case rest =>
  clear aw;obtain ⟨kq, xq1, rfl, HA, ao, HB⟩ := hcut;cases kq with
  | zero => exact absurd HA.out (by simp [impl_BytesOf.j1])
  | succ kj1 =>
   have H := HA.out;clear HA;simp only [impl_BytesOf.j1] at H;have ap := aM H;clear H;go_upto_region 4 with (fail)
   go_cut [26] (fun vq2 wc => ∃ (kq : Nat) (xq2 : Bool), vq2 = .bool xq2 ∧ Aside0 (impl_BytesOf.j2 kq a0 xq1 xq2 = some (r1, r2)) ∧ Aside0 (kq ≤ kj1) ∧ Aside0 (Below w.heap.size w wc))
   case first =>
    have H := ap.out;clear ap
    by_cases cq7 : a0 < 1
    ·rw [if_pos cq7] at H;have cq8 : decide (a0 < 1) = true := decide_eq_true cq7;clear cq7;(first | rw [cq8] | (simp only [i64_w, i32_w]; rw [cq8]) | skip);have H' := aM H;clear H;go_wp2
     go_meet
     case rel => exact ⟨_, (true), TF, H', ⟨by have := ao.out; first | omega | exact Nat.le_refl _⟩, ⟨TB⟩⟩
    ·rw [if_neg cq7] at H;have cq8 : decide (a0 < 1) = false := decide_eq_false cq7;clear cq7;(first | rw [cq8] | (simp only [i64_w, i32_w]; rw [cq8]) | skip);obtain ⟨aa, ad⟩ : ∃ j_ : Int, (wrap64 (8 * xq1)) = j_ := ⟨_, rfl⟩;(first | rw [ad] at H | simp only [ad] at H | skip);have ay : (IntKind.i64.wrap (8 * xq1)) = aa := (i64_w _).trans ad;replace H := ifN H;obtain ⟨cq9, H⟩ := H;have cq10 := eq_true cq9;have cq11 : decide (0 ≤ (aa)) = true := decide_eq_true cq9;clear cq9;obtain ⟨ac, ab⟩ : ∃ j_ : Int, (shr .i64 a0 (aa)) = j_ := ⟨_, rfl⟩;(first | rw [ab] at H | simp only [ab] at H | skip);have az : (a0 / 2 ^ min (aa).toNat 64) = ac := ab;have aA : (aa) ≤ 64 → (a0 / 2 ^ (aa).toNat) = ac := shr_small ab;have H' := aM H;clear H;go_wp2
     go_meet
     case rel => exact ⟨_, (((ac) != 1)), (by first | rfl | (simp; done) | (simp only [← ab] <;> (first | rfl | simp)) | (simp [*]; done)), H', ⟨by have := ao.out; first | omega | exact Nat.le_refl _⟩, ⟨TB⟩⟩
   case rest =>
    clear ap;obtain ⟨kq, xq2, rfl, HA, HJq2, HB⟩ := hcut;cases kq with
    | zero => exact absurd HA.out (by simp [impl_BytesOf.j2])
    | succ kj7 =>
     have H := HA.out;clear HA;simp only [impl_BytesOf.j2] at H
     by_cases ak : xq2 = true
     ·subst ak;replace H := ifT H;simp only [Option.some.injEq, Prod.mk.injEq] at H;obtain ⟨rfl, rfl⟩ := H;go_wp2
      go_ret2
      exact ⟨_, TE, by first | exact Kd.R_nil _ _ _ _ _ | exact Kd.N_nil _ _ _ _ _ | exact Kd.V_nil _ _ _ _ _ | exact Kd.Q_nil _ _ _ _ _ | exact Kd.S_nil _ _ _ _ _, TB⟩
     ·replace ak := b_F ak;subst ak;replace H := ifF H;replace H := ifN H;obtain ⟨am, H⟩ := H;have cq15 := eq_true am;have cq16 : decide (0 ≤ xq1) = true := decide_eq_true am;clear am;replace H := ifN H;obtain ⟨an, H⟩ := H;have cq18 := eq_true an;have cq19 : decide ((xq1 : Int).toNat ≤ 281474976710656) = true := decide_eq_true an;clear an;obtain ⟨ai, aq⟩ : ∃ y_ : List Int, y_ = (List.replicate (xq1 : Int).toNat 0) := ⟨_, rfl⟩;replace H := someE H aq;have Nyq1 := aM aq;clear aq;have H' := aM H;clear H;go_wp2_with (first | ((with_reducible refine gate_dst (N := 28) rfl ?_); refine Kd.R_make (Kd.int .u8) _ 5 rfl (N := 28) rfl 22 _ _ rfl xq1 rfl rfl Try.underlying22 (.int .u8 0) 1 info5 rfl (by decide) (by omega) 0 (ok := fun _ => True) (okp := fun _ => True) rfl (fun _ hk => hk) trivial DT (Nat.le_trans (Nat.mul_le_mul_right _ (DT : xq1.toNat ≤ 281474976710656)) (by omega)) (Below.refl _ _) (Nat.le_refl _) ?_; intro vq3 wq1 aj hb hg_ hnew_; clear hg_ hnew_; (first | rw [← Nyq1.out] at aj | (simp only [Int.reduceToNat] at aj; rw [← Nyq1.out] at aj)); have HOq1 := aM (Kd.R_lower aj (below_size TB)); replace HB := bS HB hb; clear hb aj; obtain ⟨Aoq1, coq1, eoq1⟩ := Kd.R_slice HOq1.out; subst eoq1))
      go_loopg [31] kj7 (fun kq vq4 w' => ∃ (xq3 : List Int) (xq4 : Int), vq4 = .int .i64 xq4 ∧ Aside0 (impl_BytesOf.l1 kq a0 xq1 xq3 (ai.length : Int) xq4 = some (r1, r2)) ∧ Aside0 (kq ≤ kj7) ∧ Aside0 (Kd.R (Kd.int .u8) 5 w' w.heap.size (fun _ => True) (.slice Aoq1 ai.length coq1) xq3) ∧ Aside0 (Below w.heap.size w w'))
      case atStart => exact ⟨(ai), (0), TF, H', ⟨Nat.le_refl _⟩, ⟨by have X_ := HOq1.out; exact TR⟩, ⟨TB⟩⟩
      case round =>
       clear H';try clear ak
       try clear am
       try clear cq15
       try clear cq16
       try clear an
       try clear cq18
       try clear cq19
       obtain ⟨xq3, xq4, rfl, HA, ag, ae, HB⟩ := hrel;have al := (Kd.R_reads' ae.out).1;rw [al] at ae;(try simp only [al]);cases gk with
       | zero => exact absurd HA.out (by simp [impl_BytesOf.l1])
       | succ k3 =>
        have H := HA.out;clear HA;simp only [impl_BytesOf.l1] at H
        by_cases ah : xq4 < (ai.length : Int)
        ·rw [if_pos ah] at H;have cq21 : decide (xq4 < (ai.length : Int)) = true := decide_eq_true ah;clear ah;obtain ⟨aa, ad⟩ : ∃ j_ : Int, (wrap64 (8 * (wrap64 ((wrap64 (xq1 - 1)) - xq4)))) = j_ := ⟨_, rfl⟩;(first | rw [ad] at H | simp only [ad] at H | skip);have ay : (IntKind.i64.wrap (8 * (wrap64 ((wrap64 (xq1 - 1)) - xq4)))) = aa := (i64_w _).trans ad;replace H := ifN H;obtain ⟨av, H⟩ := H;have cq23 := eq_true av;have cq24 : decide (0 ≤ (aa)) = true := decide_eq_true av;clear av;obtain ⟨ac, ab⟩ : ∃ j_ : Int, (shr .i64 a0 (aa)) = j_ := ⟨_, rfl⟩;(first | rw [ab] at H | simp only [ab] at H | skip);have az : (a0 / 2 ^ min (aa).toNat 64) = ac := ab;have aA : (aa) ≤ 64 → (a0 / 2 ^ (aa).toNat) = ac := shr_small ab;replace H := ifN H;obtain ⟨cq25, H⟩ := H;have cq26 : decide (0 ≤ xq4) = true := decide_eq_true cq25;clear cq25;replace H := ifN H;obtain ⟨cq27, H⟩ := H;have cq28 : decide (xq4 < (xq3.length : Int)) = true := decide_eq_true cq27;clear cq27;obtain ⟨yq1, ax⟩ : ∃ y_ : List Int, y_ = (xq3.set (xq4 : Int).toNat ((ac) % 256)) := ⟨_, rfl⟩;rw [← ax] at H;have Nyq2 := aM ax;clear ax;have H' := aM H;clear H;have pq3 : 0 ≤ (xq4 : Int) := DT;have qq1 : (xq4 : Int) < ((xq3.length : Int) : Int) := DT;obtain ⟨ar, coq2, eoq2, gbq1, glq1, clq1, HGq1⟩ := Kd.R_form ae.out (by omega);(first | cases eoq2 | (injection eoq2 with ea_ en_ ec_; (first | subst ea_ | (injection ea_ with ea_; subst ea_)); subst ec_; clear en_));have GBq1 := aM gbq1;have GGq1 := aM HGq1;clear gbq1 glq1 HGq1;obtain ⟨hxq1, hfq1⟩ := Kd.R_celln 0 ae.out (xq4 : Int) pq3 qq1;replace pq3 := eq_true pq3;replace qq1 := eq_true qq1;have au := Kd.R_putg ae.out (xq4 : Int) ((ac) % 256);go_wp2_with (first | ((with_reducible refine gate_store (t := 5) (p := 44) rfl ?_); refine store_event (t := 5) (p := 44) (v := ?vo_w27) (w1 := (wr.setCell ⟨ar, (xq4 : Int).toNat, none⟩ (.int .u8 ((ac) % 256)))) ?hg ?ho ?hn ?hr ?_; (case ho => rfl); (case hg => rfl); (case hn => rfl); (case hr => first | (go_simp; done) | (go_simp; rfl)); intro wq2 hw; have hg : wr.grownBy wq2 (some ar) := (by rw [hw]; exact au.2); have hp_ : Kd.R (Kd.int .u8) 5 wq2 w.heap.size (fun _ => True) (.slice (some ⟨ar, 0, none⟩) xq3.length coq1) yq1 := (by rw [hw, Nyq2.out]; exact au.1); clear au; replace ae := aM (hp_); replace HB := aM ((by rw [hw]; exact below_set (HB.out) GBq1.out : Below w.heap.size w wq2)); clear hg hw hp_))
         (try simp only [← al]);go_roundg k3
         case measure => have := ao.out; have := HJq2.out; have := ag.out; omega
         case rel => exact ⟨(yq1), (wrap64 (xq4 + 1)), TF, H', ⟨by have := ao.out; have := HJq2.out; have := ag.out; omega⟩, ⟨by (try simp only [al]); (with_reducible repeat (first | apply Kd.R_alloc | apply Kd.R_drewN | apply Kd.R_drew)); exact ae.out⟩, ⟨TB⟩⟩
        ·rw [if_neg ah] at H;have cq21 : decide (xq4 < (ai.length : Int)) = false := decide_eq_false ah;(try rw [al] at cq21);clear ah;simp only [Option.some.injEq, Prod.mk.injEq] at H;obtain ⟨rfl, rfl⟩ := H;go_wp2
         go_ret2
         exact ⟨_, TE, by have X_ := ae.out; exact TR, TB⟩

end Go.Proofs.Ytaofakpljnkplaa.Q
