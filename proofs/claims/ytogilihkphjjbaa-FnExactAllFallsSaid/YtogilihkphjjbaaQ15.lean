/- Functions of the program as plain Lean functions, and that a call of each comes to what its function tells. Written by a program of this seat. -/
import Derived.Test.YtogilihkphjjbaaQ0
import Derived.Test.YtogilihkphjjbaaQ13
import Derived.Test.YtogilihkphjjbaaQ14
namespace Go.Proofs.Ytogilihkphjjbaa.Q
open Go.RowKit Go.Proofs.YtogilihkphjjbaaW.PrintWords Go.Proofs.YtogilihkphjjbaaW.PrintLast Go.Proofs.YtogilihkphjjbaaW.PrintMore
attribute [local go_sem] max2_int min2_int max_two min_two max_three min_three max_four min_four   -- for this text's walks alone
set_option linter.unusedVariables false
set_option linter.unusedSimpArgs false

/-! ### laws_markDisk: function 25 -/
def laws_markDisk.f (k : Nat) (l0_0 : List Int) (l0_1 : List Int) (a0_2 a0_3 a0_4 : Int) (l0_5 : List S55) (a1 : Int) : Option (Int × List Int × List Int × List S55) := (laws_markByteS.f k l0_0 a1).bind fun b => ((laws_markByteS.f k l0_1 b.1).bind fun c => ((laws_markPutS.f k l0_5 c.1).bind fun d => (some (d.1, b.2, c.2, d.2))))
theorem laws_markDisk.mono : ∀ a0 a1 a2 a3 a4 a5 a6 k, LeO (laws_markDisk.f k a0 a1 a2 a3 a4 a5 a6) (laws_markDisk.f (k + 1) a0 a1 a2 a3 a4 a5 a6) := by
  intro a0 a1 a2 a3 a4 a5 a6 k
  have m0_ := @laws_markByteS.mono
  have m1_ := @laws_markPutS.mono
  unfold laws_markDisk.f
  exact LM
set_option maxHeartbeats 4000000 in
set_option maxRecDepth 100000 in
theorem laws_markDisk.calls (k : Nat) (I : Nat → Prop) (A0 : Option Addr) (c0 : Nat) (l0 : List Int) (A1 : Option Addr) (c1 : Nat) (l1 : List Int) (a2 a3 a4 : Int) (A5 : Option Addr) (c5 : Nat) (l5 : List S55) (a1 : Int) (r1 : Int) (r2 r3 : List Int) (r4 : List S55) (w0 w : World)
    (hB : Below w0.heap.size w0 w) (hD : DskI w w0.heap.size I (.slice A0 l0.length c0) (.slice A1 l1.length c1) (.slice A5 l5.length c5) l0 l1 l5) (h : laws_markDisk.f k l0 l1 a2 a3 a4 l5 a1 = some (r1, r2, r3, r4)) :
    Calls Try.prog 25 #[.agg #[.slice A0 l0.length c0, .slice A1 l1.length c1, .int .i64 a2, .int .i64 a3, .int .i64 a4, .slice A5 l5.length c5], .int .i64 a1] w fun e w' => e = .returned (.int .i64 r1) ∧ DskI w' w0.heap.size I (.slice A0 l0.length c0) (.slice A1 l1.length c1) (.slice A5 l5.length c5) r2 r3 r4 ∧ Below w0.heap.size w0 w' ∧ Kept w w' I := by
  have hu33 := Try.underlying33
  have HB := aM hB
  have HK := aM (Kept.refl w I)
  have HA := aM hD.1
  have HE := aM hD.2.1
  have HP := aM hD.2.2
  clear hB hD
  unfold laws_markDisk.f at h
  obtain ⟨⟨b1, b2⟩, A1', h⟩ := bE h
  obtain ⟨⟨d1, d2⟩, A2', h⟩ := bE h
  obtain ⟨⟨e1, e2⟩, A3', h⟩ := bE h
  dsimp only at A1' A2' A3' h
  obtain ⟨rfl, rfl, rfl, rfl⟩ : e1 = r1 ∧ b2 = r2 ∧ d2 = r3 ∧ e2 = r4 := by simpa using h
  clear h
  go_enter Try.func25, Try.ntmps25
  go_wp2_with (first | ((with_reducible refine gate_dst (N := 2) rfl ?_); refine gBx 2 #[.slice A0 l0.length c0, .slice A1 l1.length c1, .int .i64 a2, .int .i64 a3, .int .i64 a4, .slice A5 l5.length c5] 33 ?_; intro g2 hg w2 hbox hb; have B2 := aM hbox; replace HA := aM (Kd.R_below HA.out hb); replace HE := aM (Kd.R_below HE.out hb); replace HP := aM (Kd.S_below HP.out hb); replace HK := aM (HK.out.below hb); replace HB := aM (below_step HB.out hb); clear hb hbox hg; obtain ⟨hcz0, hcz1, hcz2, hcz3, hcz4, hcz5⟩ := cz6 B2.out) | ((with_reducible refine gate_callee (f := 24) rfl ?_); (with_reducible refine gate_dst (N := 8) rfl ?_); refine gL (some 8) Try.func24 #[.slice A0 l0.length c0, .int .i64 a1] ?_; refine (laws_markByteS.calls k (fun j => some j = (Value.slice A0 l0.length c0).ownBlock) _ l0 a1 b1 b2 w0 _ HB.out (Kd.R_reok rfl HA.out (fun _ e => e.symm)) A1'.out).mono ?_; rintro e w3 ⟨rfl, hv, hb, hk⟩; refine ⟨_, rfl, ?_⟩; replace HE := aM (Kd.R_kept HE.out hk (fun k q e => q.2 e)); replace HP := aM (Kd.S_kept HP.out hk (fun k q e => q.2.1 e)); replace B2 := aM (blk_kept B2.out hk (Kd.R_ne HA.out B2.out (by decide))); replace HK := aM (HK.out.then_ hk (fun k e => .inl (HA.out.1 k e.symm).1)); replace HA := aM (Kd.R_reok (ok := fun k => I k ∧ some k ≠ (Value.slice A1 l1.length c1).ownBlock) rfl hv (fun k e => HA.out.1 k e)); replace HB := aM hb; clear hv hb hk hcz0 hcz1 hcz2 hcz3 hcz4 hcz5; obtain ⟨hcz0, hcz1, hcz2, hcz3, hcz4, hcz5⟩ := cz6 B2.out) | ((with_reducible refine gate_callee (f := 24) rfl ?_); (with_reducible refine gate_dst (N := 12) rfl ?_); refine gL (some 12) Try.func24 #[.slice A1 l1.length c1, .int .i64 b1] ?_; refine (laws_markByteS.calls k (fun j => some j = (Value.slice A1 l1.length c1).ownBlock) _ l1 b1 d1 d2 w0 _ HB.out (Kd.R_reok rfl HE.out (fun _ e => e.symm)) A2'.out).mono ?_; rintro e w3 ⟨rfl, hv, hb, hk⟩; refine ⟨_, rfl, ?_⟩; replace HA := aM (Kd.R_kept HA.out hk (fun k q e => q.2 e)); replace HP := aM (Kd.S_kept HP.out hk (fun k q e => q.2.2 e)); replace B2 := aM (blk_kept B2.out hk (Kd.R_ne HE.out B2.out (by decide))); replace HK := aM (HK.out.then_ hk (fun k e => .inl (HE.out.1 k e.symm).1)); replace HE := aM (Kd.R_reok (ok := fun k => I k ∧ some k ≠ (Value.slice A0 l0.length c0).ownBlock) rfl hv (fun k e => HE.out.1 k e)); replace HB := aM hb; clear hv hb hk hcz0 hcz1 hcz2 hcz3 hcz4 hcz5; obtain ⟨hcz0, hcz1, hcz2, hcz3, hcz4, hcz5⟩ := cz6 B2.out) | ((with_reducible refine gate_callee (f := 64) rfl ?_); refine gL (some 16) Try.func64 #[.slice A5 l5.length c5, .int .i64 d1] ?_; refine (laws_markPutS.calls k _ _ l5 d1 e1 e2 w0 _ HB.out HP.out A3'.out).mono ?_; rintro e w3 ⟨rfl, hv, hb, hk⟩; refine ⟨_, rfl, ?_⟩; replace HA := aM (R_kept1 rfl HA.out hk (fun k e q => q.2.1 e.symm)); replace HE := aM (R_kept1 rfl HE.out hk (fun k e q => q.2.2 e.symm)); replace HK := aM (HK.out.then_ hk (fun k e => .inl e.1)); replace HP := aM hv; replace HB := aM hb; clear hv hb hk hcz0 hcz1 hcz2 hcz3 hcz4 hcz5 B2))
  go_ret
  exact ⟨rfl, ⟨HA.out, HE.out, HP.out⟩, HB.out, HK.out⟩

/-! ### laws_heldByteS: function 35 -/
def laws_heldByteS.l0 : Nat → List Int → Int → Int → Option (Int)
  | 0, _, _, _ => none
  | k + 1, x0, x1, x5 => if x5 < (x0.length : Int) then (if 0 ≤ x5 then (if (rd x0 x5) = ((x1) % 256) then (laws_heldByteS.l0 k x0 (wrap64 (x1 + 1)) (wrap64 (x5 + 1))) else (some (-1))) else (none)) else (some x1)
def laws_heldByteS.f (k : Nat) (l0 : List Int) (a1 : Int) : Option (Int) := laws_heldByteS.l0 k l0 a1 0
theorem laws_heldByteS.mono_l : ∀ k, (∀ y0 y1 y2, LeO (laws_heldByteS.l0 k y0 y1 y2) (laws_heldByteS.l0 (k + 1) y0 y1 y2))
  | 0 => fun _ _ _ r h => by simp [laws_heldByteS.l0] at h
  | k + 1 => by
    have ih0 := laws_heldByteS.mono_l k
    · intro y0 y1 y2
      unfold laws_heldByteS.l0
      exact LM
theorem laws_heldByteS.mono : ∀ a0 a1 k, LeO (laws_heldByteS.f k a0 a1) (laws_heldByteS.f (k + 1) a0 a1) := by
  intro a0 a1 k
  have ih0 := laws_heldByteS.mono_l k
  unfold laws_heldByteS.f
  exact LM
set_option maxHeartbeats 40000000 in
set_option maxRecDepth 100000 in
theorem laws_heldByteS.calls (k : Nat) (A0 : Option Addr) (c0 : Nat) (l0 : List Int) (a1 : Int) (r : Int) (w : World) (hr0 : Kd.C (Kd.int .u8) w A0 l0.length l0) (hc0 : l0.length ≤ c0) (h : laws_heldByteS.f k l0 a1 = some r) :
    Calls Try.prog 35 #[.slice A0 l0.length c0, .int .i64 a1] w fun e w' => e = .returned (.int .i64 r) ∧ Drawn0 w w' := by
  have HR0 := aM hr0
  have HC0 := aM hc0
  clear hr0 hc0
  have H := h
  clear h
  unfold laws_heldByteS.f at H
  have H' := aM H
  clear H
  go_enter Try.func35, Try.ntmps35
  go_wp2
  go_loopg [1, 5] k (fun kq v1 v5 w' => ∃ (x1_1 : Int) (x5_1 : Int), v1 = .int .i64 x1_1 ∧ v5 = .int .i64 x5_1 ∧ Aside0 (laws_heldByteS.l0 kq l0 x1_1 x5_1 = some r) ∧ Aside0 (kq ≤ k) ∧ Drawn0 w w')
  case atStart => exact ⟨(a1), (0), (by first | rfl | (simp; done) | (simp [*]; done)), (by first | rfl | (simp; done) | (simp [*]; done)), H', ⟨Nat.le_refl _⟩, TD⟩
  case round =>
    clear H'
    try clear p2
    obtain ⟨x1_1, x5_1, rfl, rfl, HA, HK1, ⟨m1, rfl⟩⟩ := hrel
    cases gk with
    | zero => exact absurd HA.out (by simp [laws_heldByteS.l0])
    | succ k1 =>
      have H := HA.out
      clear HA
      simp only [laws_heldByteS.l0] at H
      by_cases c3 : x5_1 < (l0.length : Int)
      · rw [if_pos c3] at H
        have c3b0 : decide (x5_1 < (l0.length : Int)) = true := decide_eq_true c3
        clear c3
        replace H := ifN H
        obtain ⟨c4, H⟩ := H
        have c4b0 : decide (0 ≤ x5_1) = true := decide_eq_true c4
        clear c4
        by_cases c5 : (rd l0 x5_1) = ((x1_1) % 256)
        · rw [if_pos c5] at H
          have c5b0 : ((rd l0 x5_1) == ((x1_1) % 256)) = true := beq_iff_eq.mpr c5
          have c5b1 : ((rd l0 x5_1) != ((x1_1) % 256)) = false := bne_eq_false_iff_eq.mpr c5
          clear c5
          have H' := aM H
          clear H
          have p230 : 0 ≤ (x5_1 : Int) := DT
          have q230 : x5_1 < (l0.length : Int) := DT
          obtain ⟨ad230, e230, hx230_0⟩ := Kd.at_int HR0.out x5_1 p230 q230
          cases e230
          replace p230 := eq_true p230
          replace q230 := eq_true q230
          go_wp2
          go_roundg k1
          case measure => have := HK1.out; omega
          case rel => exact ⟨(wrap64 (x1_1 + 1)), (wrap64 (x5_1 + 1)), (by first | rfl | (simp; done) | (simp [*]; done)), (by first | rfl | (simp; done) | (simp [*]; done)), H', ⟨by have := HK1.out; omega⟩, TD⟩
        · rw [if_neg c5] at H
          have c5b0 : ((rd l0 x5_1) == ((x1_1) % 256)) = false := beq_eq_false_iff_ne.mpr c5
          have c5b1 : ((rd l0 x5_1) != ((x1_1) % 256)) = true := bne_iff_ne.mpr c5
          obtain rfl := Option.some.inj H
          have p230 : 0 ≤ (x5_1 : Int) := DT
          have q230 : x5_1 < (l0.length : Int) := DT
          obtain ⟨ad230, e230, hx230_0⟩ := Kd.at_int HR0.out x5_1 p230 q230
          cases e230
          replace p230 := eq_true p230
          replace q230 := eq_true q230
          go_wp2
          go_ret
          exact ⟨by first | rfl | (simp; done) | (simp [*]; done), TD⟩
      · rw [if_neg c3] at H
        have c3b0 : decide (x5_1 < (l0.length : Int)) = false := decide_eq_false c3
        clear c3
        obtain rfl := Option.some.inj H
        go_wp2
        go_ret
        exact ⟨by first | rfl | (simp; done) | (simp [*]; done), TD⟩

end Go.Proofs.Ytogilihkphjjbaa.Q
