/- Functions of the program as plain Lean functions, and that a call of each comes to what its function tells. Written by a program of this seat. -/
import Derived.Test.YtanpaipapcjpoaaGreatDoorQ0
import Derived.Test.YtanpaipapcjpoaaGreatDoorQ10
set_option maxHeartbeats 40000000
set_option maxRecDepth 100000
namespace Go.Proofs.YtanpaipapcjpoaaGreatDoor.Q
open Go.RowKit Go.Proofs.YtanpaipapcjpoaaGreatDoorW.PrintWords Go.Proofs.YtanpaipapcjpoaaGreatDoorW.PrintLast Go.Proofs.YtanpaipapcjpoaaGreatDoorW.PrintMore
attribute [local go_sem] min2_int min_two
set_option linter.unusedVariables false
set_option linter.unusedSimpArgs false
def impl_readVar.l0 : Nat → List Int → Int → Int → Int → Int → Option (Int × Int × Bool)
  | 0, _, _, _, _, _ => none
  | k + 1, x0, x1, x9, x12, x13 => if x13 < x12 then ((impl_within.f x1 0 (wrap64 ((wrap64 ((x0.length : Int) - 1)) - x13))).bind fun t862 => (if t862 = true then (if 0 ≤ (wrap64 (x1 + x13)) then (if (wrap64 (x1 + x13)) < (x0.length : Int) then (if 0 ≤ (wrap64 (7 * x13)) then (if (wrap64 (rd x0 (wrap64 (x1 + x13)))) < 128 then (if x13 = 0 then (some (Go.bits .or .i64 x9 (shl .i64 (Go.bits .and .i64 (wrap64 (rd x0 (wrap64 (x1 + x13)))) 127) (wrap64 (7 * x13))), wrap64 ((wrap64 (x1 + x13)) + 1), true)) else (some (Go.bits .or .i64 x9 (shl .i64 (Go.bits .and .i64 (wrap64 (rd x0 (wrap64 (x1 + x13)))) 127) (wrap64 (7 * x13))), wrap64 ((wrap64 (x1 + x13)) + 1), decide ((wrap64 (rd x0 (wrap64 (x1 + x13)))) > 0)))) else (impl_readVar.l0 k x0 x1 (Go.bits .or .i64 x9 (shl .i64 (Go.bits .and .i64 (wrap64 (rd x0 (wrap64 (x1 + x13)))) 127) (wrap64 (7 * x13)))) x12 (wrap64 (x13 + 1)))) else (none)) else (none)) else (none)) else (some (0, 0, false)))) else (some (0, 0, false))
def impl_readVar.f (k : Nat) (l0 : List Int) (a1 : Int) (a2 : Int) : Option (Int × Int × Bool) := impl_readVar.l0 k l0 a1 0 a2 0
theorem impl_readVar.mono_l : ∀ k, (∀ y0 y1 y2 y3 y4, LeO (impl_readVar.l0 k y0 y1 y2 y3 y4) (impl_readVar.l0 (k + 1) y0 y1 y2 y3 y4))
  | 0 => fun _ _ _ _ _ r h => by simp [impl_readVar.l0] at h
  | k + 1 => by
    have ih0 := impl_readVar.mono_l k
    · intro y0 y1 y2 y3 y4
      unfold impl_readVar.l0
      exact LM
theorem impl_readVar.mono : ∀ a0 a1 a2 k, LeO (impl_readVar.f k a0 a1 a2) (impl_readVar.f (k + 1) a0 a1 a2) := by
  intro a0 a1 a2 k;have ih0 := impl_readVar.mono_l k;unfold impl_readVar.f;exact LM
theorem impl_readVar.calls {k : Nat} {A0 : Option Addr} {c0 : Nat} {l0 : List Int} {a1 : Int} {a2 : Int} {r1 : Int} {r2 : Int} {r3 : Bool} {w : World} (hr0 : Kd.C (Kd.int .u8) w A0 l0.length l0) (hc0 : l0.length ≤ c0) (h : impl_readVar.f k l0 a1 a2 = some (r1, r2, r3)) :
    Calls Tryz.prog 85 #[.slice A0 l0.length c0, .int .i64 a1, .int .i64 a2] w fun e w' => e = .returned (.tuple #[.int .i64 r1, .int .i64 r2, .bool r3]) ∧ Drawn0 w w' := by
  have HR0 := aM hr0
  have HC0 := aM hc0
  clear hr0 hc0
  have H := h
  clear h
  unfold impl_readVar.f at H
  have H' := aM H
  clear H
  go_enter Tryz.func85, Tryz.ntmps85
  go_wp2
  go_loopg [9, 13] k (fun kq v9 v13 w' => ∃ (x9_1 : Int) (x13_1 : Int), v9 = .int .i64 x9_1 ∧ v13 = .int .i64 x13_1 ∧ Aside0 (impl_readVar.l0 kq l0 a1 x9_1 a2 x13_1 = some (r1, r2, r3)) ∧ Aside0 (kq ≤ k) ∧ Drawn0 w w')
  case atStart => exact ⟨(0), (0), TF, TF, H', ⟨Nat.le_refl _⟩, TD⟩
  case round =>
    clear H'
    try clear p2
    obtain ⟨x9_1, x13_1, rfl, rfl, HA, HK1, ⟨m1, rfl⟩⟩ := hrel
    cases gk with
    | zero => exact absurd HA.out (by simp [impl_readVar.l0])
    | succ k1 =>
      have H := HA.out
      clear HA
      simp only [impl_readVar.l0] at H
      by_cases c4 : x13_1 < a2
      · rw [if_pos c4] at H
        have c4b0 : decide (x13_1 < a2) = true := decide_eq_true c4
        clear c4
        replace H := bE H
        obtain ⟨t862, A5, H⟩ := H
        by_cases c6 : t862 = true
        · subst c6
          replace H := ifT H
          obtain ⟨ji7, hji7⟩ : ∃ j_ : Int, (wrap64 (a1 + x13_1)) = j_ := ⟨_, rfl⟩
          (first | rw [hji7] at H | simp only [hji7] at H | skip)
          (try rw [hji7] at A5)
          have hji7w : (IntKind.i64.wrap (a1 + x13_1)) = ji7 := (i64_w _).trans hji7
          replace H := ifN H
          obtain ⟨c8, H⟩ := H
          have c8b0 : decide (0 ≤ (ji7)) = true := decide_eq_true c8
          clear c8
          replace H := ifN H
          obtain ⟨c9, H⟩ := H
          have c9b0 : decide ((ji7) < (l0.length : Int)) = true := decide_eq_true c9
          clear c9
          obtain ⟨ji10, hji10⟩ : ∃ j_ : Int, (wrap64 (7 * x13_1)) = j_ := ⟨_, rfl⟩
          (first | rw [hji10] at H | simp only [hji10] at H | skip)
          (try rw [hji10] at A5)
          have hji10w : (IntKind.i64.wrap (7 * x13_1)) = ji10 := (i64_w _).trans hji10
          replace H := ifN H
          obtain ⟨c11, H⟩ := H
          have c11b0 := eq_true c11
          have c11b1 : decide (0 ≤ (ji10)) = true := decide_eq_true c11
          clear c11
          obtain ⟨ji12, hji12⟩ : ∃ j_ : Int, (shl .i64 (Go.bits .and .i64 (wrap64 (rd l0 (ji7))) 127) (ji10)) = j_ := ⟨_, rfl⟩
          (first | rw [hji12] at H | simp only [hji12] at H | skip)
          (try rw [hji12] at A5)
          have hji12_ : (IntKind.i64.wrap ((Go.bits .and .i64 (wrap64 (rd l0 (ji7))) 127) * 2 ^ min (ji10).toNat 64)) = ji12 := hji12
          have hji12z : (ji10) ≤ 64 → (IntKind.i64.wrap ((Go.bits .and .i64 (wrap64 (rd l0 (ji7))) 127) * 2 ^ (ji10).toNat)) = ji12 := shl_small hji12
          have hji12y : (wrap64 ((Go.bits .and .i64 (wrap64 (rd l0 (ji7))) 127) * 2 ^ min (ji10).toNat 64)) = ji12 := (i64_w _).symm.trans hji12_
          have hji12x : (ji10) ≤ 64 → (wrap64 ((Go.bits .and .i64 (wrap64 (rd l0 (ji7))) 127) * 2 ^ (ji10).toNat)) = ji12 := fun h_ => (i64_w _).symm.trans (hji12z h_)
          by_cases c13 : (wrap64 (rd l0 (ji7))) < 128
          · rw [if_pos c13] at H
            have c13b0 : decide ((wrap64 (rd l0 (ji7))) < 128) = true := decide_eq_true c13
            clear c13
            by_cases c14 : x13_1 = 0
            · rw [if_pos c14] at H
              have c14b0 : (x13_1 == 0) = true := beq_iff_eq.mpr c14
              have c14b1 : (x13_1 != 0) = false := bne_eq_false_iff_eq.mpr c14
              clear c14
              simp only [Option.some.injEq, Prod.mk.injEq] at H
              obtain ⟨rfl, rfl, rfl⟩ := H
              go_wp2_with (first | ((with_reducible refine gate_callee (f := 47) rfl ?_); refine gL (some 22) Tryz.func47 #[.int .i64 a1, .int .i64 0, .int .i64 (wrap64 ((wrap64 ((l0.length : Int) - 1)) - x13_1))] ?_; (with_reducible refine (impl_within.calls A5.out).mono ?_); rintro e w' ⟨rfl, ⟨nd, rfl⟩⟩; refine ⟨_, rfl, ?_⟩; have p863 : 0 ≤ ((ji7) : Int) := DT; have q863 : (ji7) < (l0.length : Int) := DT; obtain ⟨ad863, e863, hx863_0⟩ := Kd.at_int HR0.out (ji7) p863 q863; cases e863; replace p863 := eq_true p863; replace q863 := eq_true q863))
              go_ret3
              exact ⟨by first | rfl | (simp; done) | (simp only [← hji7, ← hji10, ← hji12] <;> (first | rfl | simp)) | (simp [*]; done), TD⟩
            · rw [if_neg c14] at H
              have c14b0 : (x13_1 == 0) = false := beq_eq_false_iff_ne.mpr c14
              have c14b1 : (x13_1 != 0) = true := bne_iff_ne.mpr c14
              simp only [Option.some.injEq, Prod.mk.injEq] at H
              obtain ⟨rfl, rfl, rfl⟩ := H
              go_wp2_with (first | ((with_reducible refine gate_callee (f := 47) rfl ?_); refine gL (some 22) Tryz.func47 #[.int .i64 a1, .int .i64 0, .int .i64 (wrap64 ((wrap64 ((l0.length : Int) - 1)) - x13_1))] ?_; (with_reducible refine (impl_within.calls A5.out).mono ?_); rintro e w' ⟨rfl, ⟨nd, rfl⟩⟩; refine ⟨_, rfl, ?_⟩; have p863 : 0 ≤ ((ji7) : Int) := DT; have q863 : (ji7) < (l0.length : Int) := DT; obtain ⟨ad863, e863, hx863_0⟩ := Kd.at_int HR0.out (ji7) p863 q863; cases e863; replace p863 := eq_true p863; replace q863 := eq_true q863))
              go_ret3
              exact ⟨by first | rfl | (simp; done) | (simp only [← hji7, ← hji10, ← hji12] <;> (first | rfl | simp)) | (simp [*]; done), TD⟩
          · rw [if_neg c13] at H
            have c13b0 : decide ((wrap64 (rd l0 (ji7))) < 128) = false := decide_eq_false c13
            clear c13
            have H' := aM H
            clear H
            go_wp2_with (first | ((with_reducible refine gate_callee (f := 47) rfl ?_); refine gL (some 22) Tryz.func47 #[.int .i64 a1, .int .i64 0, .int .i64 (wrap64 ((wrap64 ((l0.length : Int) - 1)) - x13_1))] ?_; (with_reducible refine (impl_within.calls A5.out).mono ?_); rintro e w' ⟨rfl, ⟨nd, rfl⟩⟩; refine ⟨_, rfl, ?_⟩; have p863 : 0 ≤ ((ji7) : Int) := DT; have q863 : (ji7) < (l0.length : Int) := DT; obtain ⟨ad863, e863, hx863_0⟩ := Kd.at_int HR0.out (ji7) p863 q863; cases e863; replace p863 := eq_true p863; replace q863 := eq_true q863))
            go_roundg k1
            case measure => have := HK1.out; omega
            case rel => exact ⟨(Go.bits .or .i64 x9_1 (ji12)), (wrap64 (x13_1 + 1)), (by first | rfl | (simp; done) | (simp only [← hji12] <;> (first | rfl | simp)) | (simp [*]; done)), TF, H', ⟨by have := HK1.out; omega⟩, TD⟩
        · replace c6 := bF c6
          subst c6
          replace H := ifF H
          simp only [Option.some.injEq, Prod.mk.injEq] at H
          obtain ⟨rfl, rfl, rfl⟩ := H
          go_wp2_with (first | ((with_reducible refine gate_callee (f := 47) rfl ?_); refine gL (some 22) Tryz.func47 #[.int .i64 a1, .int .i64 0, .int .i64 (wrap64 ((wrap64 ((l0.length : Int) - 1)) - x13_1))] ?_; (with_reducible refine (impl_within.calls A5.out).mono ?_); rintro e w' ⟨rfl, ⟨nd, rfl⟩⟩; refine ⟨_, rfl, ?_⟩))
          go_ret3
          exact ⟨by first | rfl | (simp; done) | (simp [*]; done), TD⟩
      · rw [if_neg c4] at H
        have c4b0 : decide (x13_1 < a2) = false := decide_eq_false c4
        clear c4
        simp only [Option.some.injEq, Prod.mk.injEq] at H
        obtain ⟨rfl, rfl, rfl⟩ := H
        go_wp2
        go_ret3
        exact ⟨by first | rfl | (simp; done) | (simp [*]; done), TD⟩
def impl_GetVar.f (k : Nat) (l0 : List Int) (a1 : Int) : Option (Int × Int × Bool) := (impl_readVar.f k l0 a1 6).bind fun bt864 => (if bt864.2.2 = true then (if bt864.1 > 1000000000000 then (some (0, 0, false)) else (some (bt864.1, bt864.2.1, true))) else (some (0, 0, false)))
theorem impl_GetVar.mono : ∀ a0 a1 k, LeO (impl_GetVar.f k a0 a1) (impl_GetVar.f (k + 1) a0 a1) := by
  intro a0 a1 k;have m0_ := @impl_readVar.mono;unfold impl_GetVar.f;exact LM
theorem impl_GetVar.calls {k : Nat} {A0 : Option Addr} {c0 : Nat} {l0 : List Int} {a1 : Int} {r1 : Int} {r2 : Int} {r3 : Bool} {w : World} (hr0 : Kd.C (Kd.int .u8) w A0 l0.length l0) (hc0 : l0.length ≤ c0) (h : impl_GetVar.f k l0 a1 = some (r1, r2, r3)) :
    Calls Tryz.prog 58 #[.slice A0 l0.length c0, .int .i64 a1] w fun e w' => e = .returned (.tuple #[.int .i64 r1, .int .i64 r2, .bool r3]) ∧ Drawn0 w w' := by
  have HR0 := aM hr0
  have HC0 := aM hc0
  clear hr0 hc0
  have H := h
  clear h
  unfold impl_GetVar.f at H
  replace H := bE H
  obtain ⟨⟨t864, t865, t866⟩, A3, H⟩ := H
  dsimp only at H
  by_cases c4 : t866 = true
  · subst c4
    replace H := ifT H
    by_cases c5 : t864 > 1000000000000
    · rw [if_pos c5] at H
      have c5b0 : decide (1000000000000 < t864) = true := decide_eq_true c5
      clear c5
      simp only [Option.some.injEq, Prod.mk.injEq] at H
      obtain ⟨rfl, rfl, rfl⟩ := H
      go_enter Tryz.func58, Tryz.ntmps58
      go_wp2_with (first | ((with_reducible refine gate_callee (f := 85) rfl ?_); refine gL (some 13) Tryz.func85 #[.slice A0 l0.length c0, .int .i64 a1, .int .i64 6] ?_; (with_reducible refine (impl_readVar.calls ?side1 ?side2 A3.out).mono ?_); (case side1 => have X_ := HR0.out; exact TC); (case side2 => exact HC0.out); rintro e w' ⟨rfl, ⟨nd, rfl⟩⟩; refine ⟨_, rfl, ?_⟩))
      go_ret3
      exact ⟨by first | rfl | (simp; done) | (simp [*]; done), TD⟩
    · rw [if_neg c5] at H
      have c5b0 : decide (1000000000000 < t864) = false := decide_eq_false c5
      clear c5
      simp only [Option.some.injEq, Prod.mk.injEq] at H
      obtain ⟨rfl, rfl, rfl⟩ := H
      go_enter Tryz.func58, Tryz.ntmps58
      go_wp2_with (first | ((with_reducible refine gate_callee (f := 85) rfl ?_); refine gL (some 13) Tryz.func85 #[.slice A0 l0.length c0, .int .i64 a1, .int .i64 6] ?_; (with_reducible refine (impl_readVar.calls ?side1 ?side2 A3.out).mono ?_); (case side1 => have X_ := HR0.out; exact TC); (case side2 => exact HC0.out); rintro e w' ⟨rfl, ⟨nd, rfl⟩⟩; refine ⟨_, rfl, ?_⟩))
      go_ret3
      exact ⟨by first | rfl | (simp; done) | (simp [*]; done), TD⟩
  · replace c4 := bF c4
    subst c4
    replace H := ifF H
    simp only [Option.some.injEq, Prod.mk.injEq] at H
    obtain ⟨rfl, rfl, rfl⟩ := H
    go_enter Tryz.func58, Tryz.ntmps58
    go_wp2_with (first | ((with_reducible refine gate_callee (f := 85) rfl ?_); refine gL (some 13) Tryz.func85 #[.slice A0 l0.length c0, .int .i64 a1, .int .i64 6] ?_; (with_reducible refine (impl_readVar.calls ?side1 ?side2 A3.out).mono ?_); (case side1 => have X_ := HR0.out; exact TC); (case side2 => exact HC0.out); rintro e w' ⟨rfl, ⟨nd, rfl⟩⟩; refine ⟨_, rfl, ?_⟩))
    go_ret3
    exact ⟨by first | rfl | (simp; done) | (simp [*]; done), TD⟩
def impl_readVars.l0 : Nat → List Int → Int → List Int → Int → Int → Option (List Int × Int × Bool)
  | 0, _, _, _, _, _ => none
  | k + 1, x0, x1, x9, x14, x15 => if x15 < x14 then ((impl_GetVar.f k x0 x1).bind fun bt870 => (if bt870.2.2 = true then (if x9.length < 17592186044416 then (impl_readVars.l0 k x0 bt870.2.1 (x9 ++ [bt870.1]) x14 (wrap64 (x15 + 1))) else (none)) else (some (([] : List Int), 0, false)))) else (some (x9, x1, true))
def impl_readVars.f (k : Nat) (l0 : List Int) (a1 : Int) (a2 : Int) : Option (List Int × Int × Bool) := impl_readVars.l0 k l0 a1 (([] : List Int)) a2 0
theorem impl_readVars.mono_l : ∀ k, (∀ y0 y1 y2 y3 y4, LeO (impl_readVars.l0 k y0 y1 y2 y3 y4) (impl_readVars.l0 (k + 1) y0 y1 y2 y3 y4))
  | 0 => fun _ _ _ _ _ r h => by simp [impl_readVars.l0] at h
  | k + 1 => by
    have m0_ := @impl_GetVar.mono
    have ih0 := impl_readVars.mono_l k
    · intro y0 y1 y2 y3 y4
      unfold impl_readVars.l0
      exact LM
theorem impl_readVars.mono : ∀ a0 a1 a2 k, LeO (impl_readVars.f k a0 a1 a2) (impl_readVars.f (k + 1) a0 a1 a2) := by
  intro a0 a1 a2 k;have m0_ := @impl_GetVar.mono;have ih0 := impl_readVars.mono_l k;unfold impl_readVars.f;exact LM
theorem impl_readVars.calls {k : Nat} {A0 : Option Addr} {c0 : Nat} {l0 : List Int} {a1 : Int} {a2 : Int} {r1 : List Int} {r2 : Int} {r3 : Bool} {w : World} (hr0 : Kd.C (Kd.int .u8) w A0 l0.length l0) (hc0 : l0.length ≤ c0) (h : impl_readVars.f k l0 a1 a2 = some (r1, r2, r3)) :
    Calls Tryz.prog 87 #[.slice A0 l0.length c0, .int .i64 a1, .int .i64 a2] w fun e w' => ∃ v0_ : Value, e = .returned (.tuple #[v0_, .int .i64 r2, .bool r3]) ∧ Kd.R (Kd.int .i64) 3 w' w.heap.size (fun _ => True) v0_ r1 ∧ Below w.heap.size w w' := by
  have HR0 := aM hr0
  have HC0 := aM hc0
  clear hr0 hc0
  have HB := aM (Below.refl w.heap.size w)
  have H := h
  clear h
  unfold impl_readVars.f at H
  obtain ⟨y867, hy867⟩ : ∃ y_ : List Int, y_ = (([] : List Int)) := ⟨_, rfl⟩
  rw [← hy867] at H
  have Ny867 := aM hy867
  clear hy867
  have H' := aM H
  clear H
  go_enter Tryz.func87, Tryz.ntmps87
  go_wp2_with (first | ((with_reducible refine gate_dst (N := 13) rfl ?_); refine Kd.R_lit (Kd.int .i64) _ 3 ?hg (N := 13) ?hd (xs := ([] : List Int)) (inner := []) (ok := fun _ => True) (okp := fun _ => True) ?hr ?hp (fun _ hk => hk) trivial (Below.refl _ _) (Nat.le_refl _) (by simp) ?_; (case hd => rfl); (case hg => rfl); (case hr => first | (go_simp; done) | (go_simp; rfl)); (case hp => exact (Reps.none _ _)); intro v868 w4 ho5 hb hg_ hnew_; clear hg_ hnew_; (first | rw [← Ny867.out] at ho5 | (simp only [Int.reduceToNat] at ho5; rw [← Ny867.out] at ho5)); have HO869 := aM (Kd.R_lower ho5 (below_size TB)); replace HB := bS HB hb; clear hb ho5))
  go_loopg [1, 9, 15] k (fun kq v1 v9 v15 w' => ∃ (x1_1 : Int) (x9_1 : List Int) (x15_1 : Int), v1 = .int .i64 x1_1 ∧ v15 = .int .i64 x15_1 ∧ Aside0 (impl_readVars.l0 kq l0 x1_1 x9_1 a2 x15_1 = some (r1, r2, r3)) ∧ Aside0 (kq ≤ k) ∧ Aside0 (Kd.R (Kd.int .i64) 3 w' w.heap.size (fun _ => True) v9 x9_1) ∧ Aside0 (Below w.heap.size w w'))
  case atStart => exact ⟨(a1), (y867), (0), TF, TF, H', ⟨Nat.le_refl _⟩, ⟨by have X_ := HO869.out; exact TR⟩, ⟨TB⟩⟩
  case round =>
    clear H'
    try clear p2
    obtain ⟨x1_1, x9_1, x15_1, rfl, rfl, HA, HK1, HO_9, HB⟩ := hrel
    cases gk with
    | zero => exact absurd HA.out (by simp [impl_readVars.l0])
    | succ k1 =>
      have H := HA.out
      clear HA
      simp only [impl_readVars.l0] at H
      by_cases c6 : x15_1 < a2
      · rw [if_pos c6] at H
        have c6b0 : decide (x15_1 < a2) = true := decide_eq_true c6
        clear c6
        replace H := bE H
        obtain ⟨⟨t870, t871, t872⟩, A7, H⟩ := H
        dsimp only at H
        by_cases c8 : t872 = true
        · subst c8
          replace H := ifT H
          replace H := ifN H
          obtain ⟨c9, H⟩ := H
          have LMc9 := aM c9
          clear c9
          obtain ⟨y873, hy873⟩ : ∃ y_ : List Int, y_ = (x9_1 ++ [t870]) := ⟨_, rfl⟩
          rw [← hy873] at H
          have Ny873 := aM hy873
          clear hy873
          have H' := aM H
          clear H
          go_wp2_with (first | ((with_reducible refine gate_callee (f := 58) rfl ?_); refine gL (some 20) Tryz.func58 #[.slice A0 l0.length c0, .int .i64 x1_1] ?_; (with_reducible refine (impl_GetVar.calls ?side1 ?side2 A7.out).mono ?_); (case side1 => have X_ := (Kd.C_below HR0.out HB.out); exact TC); (case side2 => exact HC0.out); rintro e w' ⟨rfl, ⟨nd, rfl⟩⟩; refine ⟨_, rfl, ?_⟩) | ((with_reducible refine gate_builtin (b := .append) (xs := #[.tmp 26, .tmp 28]) rfl ?_); at_builtin; refine Kd.R_append (Kd.int .i64) (w0 := w) w.heap.size rfl (.tmp 26) (.tmp 28) 72 3 (.int .i64 0) 8 rfl Tryz.underlying72 info3 rfl (by decide) (by omega) u9 x9_1 t870 [.int .i64 t870] (fun _ => True) (fun _ => False) rfl rfl ?aP (fun _ hk => hk.elim) ?aF ?aO ?aB ?aS ?aL ?_; (case aP => exact rfl); (case aB => exact TB); (case aF => exact (fun _ _ => trivial)); (case aO => exact (TRf HO_9)); (case aS => exact (below_size TB)); (case aL => have := LMc9.out; omega); intro v874 w10 ho hb hg hat; rw [← Ny873.out] at ho; have HO875 := aM (ho); replace HB := aM (hb); clear HO_9; clear ho hb hg hat))
          go_roundg k1
          case measure => have := HK1.out; omega
          case rel => exact ⟨(t871), (y873), (wrap64 (x15_1 + 1)), TF, TF, H', ⟨by have := HK1.out; omega⟩, ⟨by have X_ := HO875.out; exact TR⟩, ⟨TB⟩⟩
        · replace c8 := bF c8
          subst c8
          replace H := ifF H
          simp only [Option.some.injEq, Prod.mk.injEq] at H
          obtain ⟨rfl, rfl, rfl⟩ := H
          go_wp2_with (first | ((with_reducible refine gate_callee (f := 58) rfl ?_); refine gL (some 20) Tryz.func58 #[.slice A0 l0.length c0, .int .i64 x1_1] ?_; (with_reducible refine (impl_GetVar.calls ?side1 ?side2 A7.out).mono ?_); (case side1 => have X_ := (Kd.C_below HR0.out HB.out); exact TC); (case side2 => exact HC0.out); rintro e w' ⟨rfl, ⟨nd, rfl⟩⟩; refine ⟨_, rfl, ?_⟩))
          go_ret3
          exact ⟨_, TE, by first | exact Kd.R_nil _ _ _ _ _ | exact Kd.N_nil _ _ _ _ _ | exact Kd.V_nil _ _ _ _ _ | exact Kd.Q_nil _ _ _ _ _ | exact Kd.S_nil _ _ _ _ _, TB⟩
      · rw [if_neg c6] at H
        have c6b0 : decide (x15_1 < a2) = false := decide_eq_false c6
        clear c6
        simp only [Option.some.injEq, Prod.mk.injEq] at H
        obtain ⟨rfl, rfl, rfl⟩ := H
        go_wp2
        go_ret3
        exact ⟨_, TE, by have X_ := HO_9.out; exact TR, TB⟩
def impl_SumOf.l0 : Nat → List Int → Int → List Int → Int → Int → Option (Int × Int)
  | 0, _, _, _, _, _ => none
  | k + 1, x0, x3, x10, x11, x12 => if x12 < x11 then (if 0 ≤ x12 then (if x12 < (x10.length : Int) then (impl_SumOf.l0 k x0 (Go.bits .or .i64 (wrap64 (x3 * 256)) (wrap64 (rd x10 x12))) x10 x11 (wrap64 (x12 + 1))) else (none)) else (none)) else ((impl_WeakOf.f k x0).bind fun t878 => (some (t878, x3)))
def impl_SumOf.f (k : Nat) (l0 : List Int) : Option (Int × Int) := if (l0.length : Int) > 6 then (some (0, 0)) else (impl_SumOf.l0 k l0 1 l0 (l0.length : Int) 0)
theorem impl_SumOf.mono_l : ∀ k, (∀ y0 y1 y2 y3 y4, LeO (impl_SumOf.l0 k y0 y1 y2 y3 y4) (impl_SumOf.l0 (k + 1) y0 y1 y2 y3 y4))
  | 0 => fun _ _ _ _ _ r h => by simp [impl_SumOf.l0] at h
  | k + 1 => by
    have m0_ := @impl_WeakOf.mono
    have ih0 := impl_SumOf.mono_l k
    · intro y0 y1 y2 y3 y4
      unfold impl_SumOf.l0
      exact LM
theorem impl_SumOf.mono : ∀ a0 k, LeO (impl_SumOf.f k a0) (impl_SumOf.f (k + 1) a0) := by
  intro a0 k;have m0_ := @impl_WeakOf.mono;have ih0 := impl_SumOf.mono_l k;unfold impl_SumOf.f;exact LM
theorem impl_SumOf.calls {k : Nat} {A0 : Option Addr} {c0 : Nat} {l0 : List Int} {r1 : Int} {r2 : Int} {w : World} (hr0 : Kd.C (Kd.int .u8) w A0 l0.length l0) (hc0 : l0.length ≤ c0) (h : impl_SumOf.f k l0 = some (r1, r2)) :
  Calls Tryz.prog 95 #[.slice A0 l0.length c0] w fun e w' => e = .returned (.agg #[.int .i64 r1, .int .i64 r2]) ∧ Below w.heap.size w w' := by
 have huq1 := Tryz.underlying75;have HR0 := aM hr0;have HC0 := aM hc0;clear hr0 hc0;have HB := aM (Below.refl w.heap.size w);have H := h;clear h;unfold impl_SumOf.f at H
 by_cases cq1 : (l0.length : Int) > 6
 ·rw [if_pos cq1] at H;have cq2 : decide (6 < (l0.length : Int)) = true := decide_eq_true cq1;have cq3 : decide (6 < l0.length) = true := decide_eq_true (by omega);clear cq1;simp only [Option.some.injEq, Prod.mk.injEq] at H;obtain ⟨rfl, rfl⟩ := H;go_enter Tryz.func95, Tryz.ntmps95;go_wp2_with (first | ((with_reducible refine gate_dst (N := 2) rfl ?_); refine gBx 2 #[.int .i64 0, .int .i64 0] 75 ?_; intro ab hg wq1 hbox hb; have aa := aM (hbox); have GWq1 := gW HB hg; have GEq1 := gW HB hg; replace HB := bS HB hb; clear hb hbox hg; obtain ⟨hczq1, hczq2⟩ := cz2 aa.out; obtain ⟨hfzq1, hfzq2⟩ := fz2 aa.out))
  refine bodyPost_ret (results_cell_row rfl _ _ ab 75 #[.int .i64 0, .int .i64 0] (0, 0) _ rfl (blk_put (blk_put (cs := #[.int .i64 0, .int .i64 0]) (TZ aa) 0 _ rfl) 1 _ rfl) Tryz.underlying75 rfl (by kernel_rfl)) rfl ?_;exact ⟨TE, TB⟩
 ·rw [if_neg cq1] at H;have cq2 : decide (6 < (l0.length : Int)) = false := decide_eq_false cq1;have cq3 : decide (6 < l0.length) = false := decide_eq_false (by omega);clear cq1;have H' := aM H;clear H;go_enter Tryz.func95, Tryz.ntmps95;go_wp2_with (first | ((with_reducible refine gate_dst (N := 2) rfl ?_); refine gBx 2 #[.int .i64 0, .int .i64 0] 75 ?_; intro ab hg wq1 hbox hb; have aa := aM (hbox); have GWq1 := gW HB hg; have GEq1 := gW HB hg; replace HB := bS HB hb; clear hb hbox hg))
  go_loopg [3, 12] k (fun kq vq1 vq2 w' => ∃ (xq1 : Int) (xq2 : Int), vq1 = .int .i64 xq1 ∧ vq2 = .int .i64 xq2 ∧ Aside0 (impl_SumOf.l0 kq l0 xq1 l0 (l0.length : Int) xq2 = some (r1, r2)) ∧ Aside0 (kq ≤ k) ∧ Aside0 (w'.heap[ab]? = some (.cells #[.int .i64 0, .int .i64 0] 75 (0, 0))) ∧ Aside0 (Below w.heap.size w w'))
  case atStart => exact ⟨(1), (0), TF, TF, H', ⟨Nat.le_refl _⟩, ⟨TK⟩, ⟨TB⟩⟩
  case round =>
   clear H';try clear cq1
   try clear cq2
   try clear cq3
   obtain ⟨xq1, xq2, rfl, rfl, HA, HK1, aa, HB⟩ := hrel;cases gk with
   | zero => exact absurd HA.out (by simp [impl_SumOf.l0])
   | succ k1 =>
    have H := HA.out;clear HA;simp only [impl_SumOf.l0] at H
    by_cases c6 : xq2 < (l0.length : Int)
    ·rw [if_pos c6] at H;have c6b0 : decide (xq2 < (l0.length : Int)) = true := decide_eq_true c6;clear c6;replace H := ifN H;obtain ⟨cq4, H⟩ := H;have cq5 : decide (0 ≤ xq2) = true := decide_eq_true cq4;clear cq4;replace H := ifN H;obtain ⟨c8, H⟩ := H;have c8b0 : decide (xq2 < (l0.length : Int)) = true := decide_eq_true c8;clear c8;have H' := aM H;clear H;have pq1 : 0 ≤ (xq2 : Int) := DT;have qq1 : xq2 < (l0.length : Int) := DT;obtain ⟨adq1, eq1, ac⟩ := Kd.at_int HR0.out xq2 pq1 qq1;cases eq1;replace ac := (HB.out.cell (World.block_lt_of_cell? w _ ac)).trans ac;replace pq1 := eq_true pq1;replace qq1 := eq_true qq1;go_wp2
     go_roundg k1
     case measure => have := HK1.out; omega
     case rel => exact ⟨(Go.bits .or .i64 (wrap64 (xq1 * 256)) (wrap64 (rd l0 xq2))), (wrap64 (xq2 + 1)), TF, TF, H', ⟨by have := HK1.out; omega⟩, ⟨TK⟩, ⟨TB⟩⟩
    ·rw [if_neg c6] at H;have c6b0 : decide (xq2 < (l0.length : Int)) = false := decide_eq_false c6;clear c6;replace H := bE H;obtain ⟨t878, Aq1, H⟩ := H;simp only [Option.some.injEq, Prod.mk.injEq] at H;obtain ⟨rfl, rfl⟩ := H;go_wp2_with (first | ((with_reducible refine gate_callee (f := 29) rfl ?_); refine gL (some 23) Tryz.func29 #[.slice A0 l0.length c0] ?_; (with_reducible refine (impl_WeakOf.calls ?side1 ?side2 Aq1.out).mono ?_); (case side1 => have X_ := (Kd.C_below HR0.out HB.out); exact TC); (case side2 => exact HC0.out); rintro e w' ⟨rfl, ⟨nd, rfl⟩⟩; refine ⟨_, rfl, ?_⟩; (try (rw [drewN_self wr]; generalize hq_ : World.drewN wr _ = wr; have n0_ : Aside0 (wr.heap[ab]? = some (.cells #[.int .i64 0, .int .i64 0] 75 (0, 0))) := ⟨by rw [← hq_]; exact TK⟩; have n1_ : Aside0 (Below w.heap.size w wr) := ⟨by rw [← hq_]; exact TB⟩; clear aa HB hq_; have aa := n0_; have HB := n1_; clear n0_ n1_)); obtain ⟨hczq3, hczq4⟩ := cz2 aa.out; obtain ⟨hfzq3, hfzq4⟩ := fz2 aa.out))
     refine bodyPost_ret (results_cell_row rfl _ _ ab 75 #[.int .i64 t878, .int .i64 xq1] (0, 0) _ rfl (blk_put (blk_put (cs := #[.int .i64 0, .int .i64 0]) (TZ aa) 0 _ rfl) 1 _ rfl) Tryz.underlying75 rfl (by kernel_rfl)) rfl ?_;exact ⟨TE, TB⟩
end Go.Proofs.YtanpaipapcjpoaaGreatDoor.Q
