/- Functions of the program as plain Lean functions, and that a call of each comes to what its function tells. Written by a program of this seat. -/
import Derived.Test.YtnoplippaiblcaaQ0
import Derived.Test.YtnoplippaiblcaaQ2
import Derived.Test.YtnoplippaiblcaaQ11
namespace Go.Proofs.Ytnoplippaiblcaa.Q
open Go.RowKit Go.Proofs.YtnoplippaiblcaaW.PrintWords Go.Proofs.YtnoplippaiblcaaW.PrintLast Go.Proofs.YtnoplippaiblcaaW.PrintMore
attribute [local go_sem] max2_int min2_int max_two min_two max_three min_three max_four min_four   -- for this text's walks alone
set_option linter.unusedVariables false
set_option linter.unusedSimpArgs false

/-! ### spec_l3Ok: function 103 -/
def spec_l3Ok.f (a0 : Int) : Option (Bool) := (spec_l1In.f a0 0 63000).bind fun t365 => (some t365)
set_option maxHeartbeats 40000000 in
set_option maxRecDepth 100000 in
theorem spec_l3Ok.calls (a0 : Int) (r : Bool) (w : World) (h : spec_l3Ok.f a0 = some r) :
    Calls Try.prog 103 #[.int .i64 a0] w fun e w' => e = .returned (.bool r) ∧ Drawn0 w w' := by
  have H := h
  clear h
  unfold spec_l3Ok.f at H
  replace H := bE H
  obtain ⟨t365, A2, H⟩ := H
  obtain rfl := Option.some.inj H
  go_enter Try.func103, Try.ntmps103
  go_wp2_with (first | ((with_reducible refine gate_callee (f := 79) rfl ?_); refine gL (some 4) Try.func79 #[.int .i64 a0, .int .i64 0, .int .i64 63000] ?_; (with_reducible refine (spec_l1In.calls a0 0 63000 t365 _ A2.out).mono ?_); rintro e w' ⟨rfl, ⟨nd, rfl⟩⟩; refine ⟨_, rfl, ?_⟩))
  go_ret
  exact ⟨by first | rfl | (simp; done) | (simp [*]; done), TD⟩

/-! ### spec_WeakHalves: function 104 -/
def spec_WeakHalves.f (a0 : Int) : Option (Int × Int) := (spec_l3Ok.f a0).bind fun t366 => (if t366 = true then (some (Int.tmod a0 251, wrap64 (Int.tdiv a0 251))) else (some (0, 0)))
set_option maxHeartbeats 40000000 in
set_option maxRecDepth 100000 in
theorem spec_WeakHalves.calls (a0 : Int) (r1 : Int) (r2 : Int) (w : World) (h : spec_WeakHalves.f a0 = some (r1, r2)) :
    Calls Try.prog 104 #[.int .i64 a0] w fun e w' => e = .returned (.tuple #[.int .i64 r1, .int .i64 r2]) ∧ Drawn0 w w' := by
  have H := h
  clear h
  unfold spec_WeakHalves.f at H
  replace H := bE H
  obtain ⟨t366, A2, H⟩ := H
  by_cases c3 : t366 = true
  · subst c3
    replace H := ifT H
    simp only [Option.some.injEq, Prod.mk.injEq] at H
    obtain ⟨rfl, rfl⟩ := H
    go_enter Try.func104, Try.ntmps104
    go_wp2_with (first | ((with_reducible refine gate_callee (f := 103) rfl ?_); refine gL (some 5) Try.func103 #[.int .i64 a0] ?_; (with_reducible refine (spec_l3Ok.calls a0 true _ A2.out).mono ?_); rintro e w' ⟨rfl, ⟨nd, rfl⟩⟩; refine ⟨_, rfl, ?_⟩))
    go_ret2
    exact ⟨by first | rfl | (simp; done) | (simp [*]; done), TD⟩
  · replace c3 := Bool.eq_false_iff.mpr c3
    subst c3
    replace H := ifF H
    simp only [Option.some.injEq, Prod.mk.injEq] at H
    obtain ⟨rfl, rfl⟩ := H
    go_enter Try.func104, Try.ntmps104
    go_wp2_with (first | ((with_reducible refine gate_callee (f := 103) rfl ?_); refine gL (some 5) Try.func103 #[.int .i64 a0] ?_; (with_reducible refine (spec_l3Ok.calls a0 false _ A2.out).mono ?_); rintro e w' ⟨rfl, ⟨nd, rfl⟩⟩; refine ⟨_, rfl, ?_⟩))
    go_ret2
    exact ⟨by first | rfl | (simp; done) | (simp [*]; done), TD⟩

/-! ### spec_Wrap: function 105 -/
def spec_Wrap.f (a0 : Int) (a1 : Int) : Option (Int) := (spec_l1In.f a1 1 1000000000000).bind fun t367 => (if t367 = true then (if a1 = 0 then (none) else (some (Int.tmod (wrap64 ((Int.tmod a0 a1) + a1)) a1))) else (some 0))
set_option maxHeartbeats 40000000 in
set_option maxRecDepth 100000 in
theorem spec_Wrap.calls (a0 : Int) (a1 : Int) (r : Int) (w : World) (h : spec_Wrap.f a0 a1 = some r) :
    Calls Try.prog 105 #[.int .i64 a0, .int .i64 a1] w fun e w' => e = .returned (.int .i64 r) ∧ Drawn0 w w' := by
  have H := h
  clear h
  unfold spec_Wrap.f at H
  replace H := bE H
  obtain ⟨t367, A3, H⟩ := H
  by_cases c4 : t367 = true
  · subst c4
    replace H := ifT H
    replace H := ifM H
    obtain ⟨c5, H⟩ := H
    have c5b0 : (a1 == 0) = false := beq_eq_false_iff_ne.mpr c5
    have c5b1 : (a1 != 0) = true := bne_iff_ne.mpr c5
    obtain rfl := Option.some.inj H
    go_enter Try.func105, Try.ntmps105
    go_wp2_with (first | ((with_reducible refine gate_callee (f := 79) rfl ?_); refine gL (some 6) Try.func79 #[.int .i64 a1, .int .i64 1, .int .i64 1000000000000] ?_; (with_reducible refine (spec_l1In.calls a1 1 1000000000000 true _ A3.out).mono ?_); rintro e w' ⟨rfl, ⟨nd, rfl⟩⟩; refine ⟨_, rfl, ?_⟩))
    go_ret
    exact ⟨by first | rfl | (simp; done) | (simp [*]; done), TD⟩
  · replace c4 := Bool.eq_false_iff.mpr c4
    subst c4
    replace H := ifF H
    obtain rfl := Option.some.inj H
    go_enter Try.func105, Try.ntmps105
    go_wp2_with (first | ((with_reducible refine gate_callee (f := 79) rfl ?_); refine gL (some 6) Try.func79 #[.int .i64 a1, .int .i64 1, .int .i64 1000000000000] ?_; (with_reducible refine (spec_l1In.calls a1 1 1000000000000 false _ A3.out).mono ?_); rintro e w' ⟨rfl, ⟨nd, rfl⟩⟩; refine ⟨_, rfl, ?_⟩))
    go_ret
    exact ⟨by first | rfl | (simp; done) | (simp [*]; done), TD⟩

/-! ### spec_Roll: function 102 -/
def spec_Roll.j0 : Nat → Int → Int → Int → Int → Bool → Option (Int)
  | 0, _, _, _, _, _ => none
  | k + 1, x0, x1, x2, x3, x28 => if x28 = true then (some x0) else ((spec_WeakHalves.f x0).bind fun bt372 => ((spec_Wrap.f (wrap64 (bt372.2 - (wrap64 ((Int.tmod x1 251) * x2)))) 251).bind fun t374 => ((spec_Wrap.f (wrap64 ((wrap64 (bt372.1 - x2)) + x3)) 251).bind fun t375 => ((spec_Wrap.f (wrap64 (t374 + t375)) 251).bind fun t376 => (some (wrap64 (t375 + (wrap64 (251 * t376)))))))))
def spec_Roll.f (k : Nat) (a0 : Int) (a1 : Int) (a2 : Int) (a3 : Int) : Option (Int) := (spec_l3Ok.f a0).bind fun t368 => (if t368 = true then ((spec_l1In.f a1 1 1000000000000).bind fun t369 => (if t369 = true then ((spec_l1In.f a2 0 255).bind fun t370 => (if t370 = true then ((spec_l1In.f a3 0 255).bind fun t371 => (spec_Roll.j0 k a0 a1 a2 a3 (!t371))) else (spec_Roll.j0 k a0 a1 a2 a3 true))) else (spec_Roll.j0 k a0 a1 a2 a3 true))) else (spec_Roll.j0 k a0 a1 a2 a3 true))
theorem spec_Roll.mono_l : ∀ k, (∀ y0 y1 y2 y3 y4, LeO (spec_Roll.j0 k y0 y1 y2 y3 y4) (spec_Roll.j0 (k + 1) y0 y1 y2 y3 y4))
  | 0 => fun _ _ _ _ _ r h => by simp [spec_Roll.j0] at h
  | k + 1 => by
    have ih0 := spec_Roll.mono_l k
    · intro y0 y1 y2 y3 y4
      unfold spec_Roll.j0
      exact LM
theorem spec_Roll.mono : ∀ a0 a1 a2 a3 k, LeO (spec_Roll.f k a0 a1 a2 a3) (spec_Roll.f (k + 1) a0 a1 a2 a3) := by
  intro a0 a1 a2 a3 k
  have ih0 := spec_Roll.mono_l k
  unfold spec_Roll.f
  exact LM
set_option maxHeartbeats 40000000 in
set_option maxRecDepth 100000 in
theorem spec_Roll.calls (k : Nat) (a0 : Int) (a1 : Int) (a2 : Int) (a3 : Int) (r : Int) (w : World) (h : spec_Roll.f k a0 a1 a2 a3 = some r) :
    Calls Try.prog 102 #[.int .i64 a0, .int .i64 a1, .int .i64 a2, .int .i64 a3] w fun e w' => e = .returned (.int .i64 r) ∧ Drawn0 w w' := by
  have H := h
  clear h
  unfold spec_Roll.f at H
  have HC5 := aM H
  clear H
  go_enter Try.func102, Try.ntmps102
  go_upto_region 1 with (fail)
  go_cut [28] (fun v28 wc => ∃ (kq : Nat) (x28_4 : Bool), v28 = .bool x28_4 ∧ Aside0 (spec_Roll.j0 kq a0 a1 a2 a3 x28_4 = some r) ∧ Aside0 (kq ≤ k) ∧ Drawn0 w wc)
  case first =>
    have H := HC5.out
    clear HC5
    replace H := bE H
    obtain ⟨t368, A6, H⟩ := H
    by_cases c7 : t368 = true
    · subst c7
      replace H := ifT H
      replace H := bE H
      obtain ⟨t369, A8, H⟩ := H
      by_cases c9 : t369 = true
      · subst c9
        replace H := ifT H
        replace H := bE H
        obtain ⟨t370, A10, H⟩ := H
        by_cases c11 : t370 = true
        · subst c11
          replace H := ifT H
          replace H := bE H
          obtain ⟨t371, A12, H⟩ := H
          have H' := aM H
          clear H
          go_wp2_with (first | ((with_reducible refine gate_callee (f := 103) rfl ?_); refine gL (some 12) Try.func103 #[.int .i64 a0] ?_; (with_reducible refine (spec_l3Ok.calls a0 true _ A6.out).mono ?_); rintro e w' ⟨rfl, ⟨nd, rfl⟩⟩; refine ⟨_, rfl, ?_⟩) | (go_at_call 79; (with_reducible refine (spec_l1In.calls a1 1 1000000000000 true _ A8.out).mono ?_); rintro e w' ⟨rfl, ⟨nd, rfl⟩⟩) | (go_at_call 79; (with_reducible refine (spec_l1In.calls a2 0 255 true _ A10.out).mono ?_); rintro e w' ⟨rfl, ⟨nd, rfl⟩⟩) | (go_at_call 79; (with_reducible refine (spec_l1In.calls a3 0 255 t371 _ A12.out).mono ?_); rintro e w' ⟨rfl, ⟨nd, rfl⟩⟩))
          go_meet
          case rel => exact ⟨_, (!t371), (by first | rfl | (simp; done) | (simp [*]; done)), H', ⟨by first | omega | exact Nat.le_refl _⟩, TD⟩
        · replace c11 := Bool.eq_false_iff.mpr c11
          subst c11
          replace H := ifF H
          have H' := aM H
          clear H
          go_wp2_with (first | ((with_reducible refine gate_callee (f := 103) rfl ?_); refine gL (some 12) Try.func103 #[.int .i64 a0] ?_; (with_reducible refine (spec_l3Ok.calls a0 true _ A6.out).mono ?_); rintro e w' ⟨rfl, ⟨nd, rfl⟩⟩; refine ⟨_, rfl, ?_⟩) | (go_at_call 79; (with_reducible refine (spec_l1In.calls a1 1 1000000000000 true _ A8.out).mono ?_); rintro e w' ⟨rfl, ⟨nd, rfl⟩⟩) | (go_at_call 79; (with_reducible refine (spec_l1In.calls a2 0 255 false _ A10.out).mono ?_); rintro e w' ⟨rfl, ⟨nd, rfl⟩⟩))
          go_meet
          case rel => exact ⟨_, (true), (by first | rfl | (simp; done) | (simp [*]; done)), H', ⟨by first | omega | exact Nat.le_refl _⟩, TD⟩
      · replace c9 := Bool.eq_false_iff.mpr c9
        subst c9
        replace H := ifF H
        have H' := aM H
        clear H
        go_wp2_with (first | ((with_reducible refine gate_callee (f := 103) rfl ?_); refine gL (some 12) Try.func103 #[.int .i64 a0] ?_; (with_reducible refine (spec_l3Ok.calls a0 true _ A6.out).mono ?_); rintro e w' ⟨rfl, ⟨nd, rfl⟩⟩; refine ⟨_, rfl, ?_⟩) | (go_at_call 79; (with_reducible refine (spec_l1In.calls a1 1 1000000000000 false _ A8.out).mono ?_); rintro e w' ⟨rfl, ⟨nd, rfl⟩⟩))
        go_meet
        case rel => exact ⟨_, (true), (by first | rfl | (simp; done) | (simp [*]; done)), H', ⟨by first | omega | exact Nat.le_refl _⟩, TD⟩
    · replace c7 := Bool.eq_false_iff.mpr c7
      subst c7
      replace H := ifF H
      have H' := aM H
      clear H
      go_wp2_with (first | ((with_reducible refine gate_callee (f := 103) rfl ?_); refine gL (some 12) Try.func103 #[.int .i64 a0] ?_; (with_reducible refine (spec_l3Ok.calls a0 false _ A6.out).mono ?_); rintro e w' ⟨rfl, ⟨nd, rfl⟩⟩; refine ⟨_, rfl, ?_⟩))
      go_meet
      case rel => exact ⟨_, (true), (by first | rfl | (simp; done) | (simp [*]; done)), H', ⟨by first | omega | exact Nat.le_refl _⟩, TD⟩
  case rest =>
    clear HC5
    try clear c1
    try clear p2
    try clear c7
    try clear c9
    try clear c10
    try clear c11
    obtain ⟨kq, x28_4, rfl, HA, HJ4, ⟨mc4, rfl⟩⟩ := hcut
    cases kq with
    | zero => exact absurd HA.out (by simp [spec_Roll.j0])
    | succ kj4 =>
      have H := HA.out
      clear HA
      simp only [spec_Roll.j0] at H
      by_cases c13 : x28_4 = true
      · subst c13
        replace H := ifT H
        obtain rfl := Option.some.inj H
        go_wp2
        go_ret
        exact ⟨by first | rfl | (simp; done) | (simp [*]; done), TD⟩
      · replace c13 := Bool.eq_false_iff.mpr c13
        subst c13
        replace H := ifF H
        replace H := bE H
        obtain ⟨⟨t372, t373⟩, A14, H⟩ := H
        dsimp only at H
        replace H := bE H
        obtain ⟨t374, A15, H⟩ := H
        replace H := bE H
        obtain ⟨t375, A16, H⟩ := H
        replace H := bE H
        obtain ⟨t376, A17, H⟩ := H
        obtain rfl := Option.some.inj H
        go_wp2_with (first | ((with_reducible refine gate_callee (f := 104) rfl ?_); refine gL (some 32) Try.func104 #[.int .i64 a0] ?_; (with_reducible refine (spec_WeakHalves.calls a0 t372 t373 _ A14.out).mono ?_); rintro e w' ⟨rfl, ⟨nd, rfl⟩⟩; refine ⟨_, rfl, ?_⟩) | ((with_reducible refine gate_callee (f := 105) rfl ?_); refine gL (some 41) Try.func105 #[.int .i64 (wrap64 (t373 - (wrap64 ((Int.tmod a1 251) * a2)))), .int .i64 251] ?_; (with_reducible refine (spec_Wrap.calls (wrap64 (t373 - (wrap64 ((Int.tmod a1 251) * a2)))) 251 t374 _ A15.out).mono ?_); rintro e w' ⟨rfl, ⟨nd, rfl⟩⟩; refine ⟨_, rfl, ?_⟩) | ((with_reducible refine gate_callee (f := 105) rfl ?_); refine gL (some 47) Try.func105 #[.int .i64 (wrap64 ((wrap64 (t372 - a2)) + a3)), .int .i64 251] ?_; (with_reducible refine (spec_Wrap.calls (wrap64 ((wrap64 (t372 - a2)) + a3)) 251 t375 _ A16.out).mono ?_); rintro e w' ⟨rfl, ⟨nd, rfl⟩⟩; refine ⟨_, rfl, ?_⟩) | ((with_reducible refine gate_callee (f := 105) rfl ?_); refine gL (some 52) Try.func105 #[.int .i64 (wrap64 (t374 + t375)), .int .i64 251] ?_; (with_reducible refine (spec_Wrap.calls (wrap64 (t374 + t375)) 251 t376 _ A17.out).mono ?_); rintro e w' ⟨rfl, ⟨nd, rfl⟩⟩; refine ⟨_, rfl, ?_⟩))
        go_ret
        exact ⟨by first | rfl | (simp; done) | (simp [*]; done), TD⟩

/-! ### spec_Windows: function 100 -/
mutual
def spec_Windows.j0 : Nat → List Int → Int → List Int → Bool → Option (List Int)
  | 0, _, _, _, _ => none
  | k + 1, x0, x1, x5, x16 => if x16 = true then (some x5) else (if 0 ≤ x1 then (if x1 ≤ (x0.length : Int) then ((spec_WeakOf.f k (x0.take (x1 : Int).toNat)).bind fun t381 => (if x5.length < 17592186044416 then (spec_Windows.l0 k x0 x1 (x5 ++ [t381]) t381 x1) else (none))) else (none)) else (none))
def spec_Windows.l0 : Nat → List Int → Int → List Int → Int → Int → Option (List Int)
  | 0, _, _, _, _, _ => none
  | k + 1, x0, x1, x5, x6, x7 => if x7 < (x0.length : Int) then (if 0 ≤ (wrap64 (x7 - x1)) then (if (wrap64 (x7 - x1)) < (x0.length : Int) then (if 0 ≤ x7 then ((spec_Roll.f k x6 x1 (wrap64 (rd x0 (wrap64 (x7 - x1)))) (wrap64 (rd x0 x7))).bind fun t387 => (if x5.length < 17592186044416 then (spec_Windows.l0 k x0 x1 (x5 ++ [t387]) t387 (wrap64 (x7 + 1))) else (none))) else (none)) else (none)) else (none)) else (some x5)
end
def spec_Windows.f (k : Nat) (l0 : List Int) (a1 : Int) : Option (List Int) := (some (([] : List Int) : List Int)).bind fun y377 => (if a1 < 1 then (spec_Windows.j0 k l0 a1 y377 true) else (spec_Windows.j0 k l0 a1 y377 (decide (a1 > (l0.length : Int)))))
theorem spec_Windows.mono_l : ∀ k, (∀ y0 y1 y2 y3, LeO (spec_Windows.j0 k y0 y1 y2 y3) (spec_Windows.j0 (k + 1) y0 y1 y2 y3)) ∧ (∀ y0 y1 y2 y3 y4, LeO (spec_Windows.l0 k y0 y1 y2 y3 y4) (spec_Windows.l0 (k + 1) y0 y1 y2 y3 y4))
  | 0 => ⟨fun _ _ _ _ r h => by simp [spec_Windows.j0] at h, fun _ _ _ _ _ r h => by simp [spec_Windows.l0] at h⟩
  | k + 1 => by
    have m0_ := @spec_Roll.mono
    have m1_ := @spec_WeakOf.mono
    obtain ⟨ih0, ih1⟩ := spec_Windows.mono_l k
    refine ⟨?_, ?_⟩
    · intro y0 y1 y2 y3
      unfold spec_Windows.j0
      exact LM
    · intro y0 y1 y2 y3 y4
      unfold spec_Windows.l0
      exact LM
theorem spec_Windows.mono : ∀ a0 a1 k, LeO (spec_Windows.f k a0 a1) (spec_Windows.f (k + 1) a0 a1) := by
  intro a0 a1 k
  have m0_ := @spec_Roll.mono
  have m1_ := @spec_WeakOf.mono
  obtain ⟨ih0, ih1⟩ := spec_Windows.mono_l k
  unfold spec_Windows.f
  exact LM
set_option maxHeartbeats 40000000 in
set_option maxRecDepth 100000 in
theorem spec_Windows.calls (k : Nat) (A0 : Option Addr) (c0 : Nat) (l0 : List Int) (a1 : Int) (r : List Int) (w : World) (hr0 : Kd.C (Kd.int .u8) w A0 l0.length l0) (hc0 : l0.length ≤ c0) (h : spec_Windows.f k l0 a1 = some r) :
  Calls Try.prog 100 #[.slice A0 l0.length c0, .int .i64 a1] w fun e w' => ∃ v0_ : Value, e = .returned (v0_) ∧ Kd.R (Kd.int .i64) 3 w' w.heap.size (fun _ => True) v0_ r ∧ Below w.heap.size w w' := by
 have HR0 := aM hr0
 have HC0 := aM hc0
 clear hr0 hc0
 have HB := aM (Below.refl w.heap.size w)
 have H := h
 clear h
 unfold spec_Windows.f at H
 obtain ⟨aj, aq⟩ : ∃ y_ : List Int, y_ = (([] : List Int)) := ⟨_, rfl⟩
 replace H := someE H aq
 have af := aM aq
 clear aq
 have HC3 := aM H
 clear H
 go_enter Try.func100, Try.ntmps100
 go_upto_region 2 with (first | ((with_reducible refine gate_dst (N := 8) rfl ?_); (try (refine gate_guard (by rfl) ?_; dsimp only)); refine Kd.R_lit (Kd.int .i64) _ 3 ?hg (N := 8) ?hd (xs := ([] : List Int)) (inner := []) (ok := fun _ => True) (okp := fun _ => True) ?hr ?hp (fun _ hk => hk) trivial (Below.refl _ _) (Nat.le_refl _) (by simp) ?_; (case hd => rfl); (case hg => rfl); (case hr => first | (go_simp; done) | (go_simp; rfl)); (case hp => exact (Reps.none _ _)); intro am w4 ho5 hb hg_ hnew_; clear hg_ hnew_; (first | rw [← af.out] at ho5 | (simp only [Int.reduceToNat] at ho5; rw [← af.out] at ho5)); have HO379 := aM (Kd.R_lower ho5 (below_size TB)); replace HB := aM (below_step TB hb); clear hb ho5))
 repeat (go_quiet (first | ((with_reducible refine gate_dst (N := 8) rfl ?_); (try (refine gate_guard (by rfl) ?_; dsimp only)); refine Kd.R_lit (Kd.int .i64) _ 3 ?hg (N := 8) ?hd (xs := ([] : List Int)) (inner := []) (ok := fun _ => True) (okp := fun _ => True) ?hr ?hp (fun _ hk => hk) trivial (Below.refl _ _) (Nat.le_refl _) (by simp) ?_; (case hd => rfl); (case hg => rfl); (case hr => first | (go_simp; done) | (go_simp; rfl)); (case hp => exact (Reps.none _ _)); intro am w4 ho5 hb hg_ hnew_; clear hg_ hnew_; (first | rw [← af.out] at ho5 | (simp only [Int.reduceToNat] at ho5; rw [← af.out] at ho5)); have HO379 := aM (Kd.R_lower ho5 (below_size TB)); replace HB := aM (below_step TB hb); clear hb ho5)); go_upto_region 2 with (first | ((with_reducible refine gate_dst (N := 8) rfl ?_); (try (refine gate_guard (by rfl) ?_; dsimp only)); refine Kd.R_lit (Kd.int .i64) _ 3 ?hg (N := 8) ?hd (xs := ([] : List Int)) (inner := []) (ok := fun _ => True) (okp := fun _ => True) ?hr ?hp (fun _ hk => hk) trivial (Below.refl _ _) (Nat.le_refl _) (by simp) ?_; (case hd => rfl); (case hg => rfl); (case hr => first | (go_simp; done) | (go_simp; rfl)); (case hp => exact (Reps.none _ _)); intro am w4 ho5 hb hg_ hnew_; clear hg_ hnew_; (first | rw [← af.out] at ho5 | (simp only [Int.reduceToNat] at ho5; rw [← af.out] at ho5)); have HO379 := aM (Kd.R_lower ho5 (below_size TB)); replace HB := aM (below_step TB hb); clear hb ho5)))
 (try simp only [Act.put, List.setIfInBounds_toArray, List.set_cons_zero, List.set_cons_succ])
 go_cut [16] (fun v16 wc => ∃ (kq : Nat) (an : Bool), v16 = .bool an ∧ Aside0 (spec_Windows.j0 kq l0 a1 aj an = some r) ∧ Aside0 (kq ≤ k) ∧ Aside0 (Kd.R (Kd.int .i64) 3 wc w.heap.size (fun _ => True) am aj) ∧ Aside0 (Below w.heap.size w wc))
 case first =>
  have H := HC3.out
  clear HC3
  by_cases c6 : a1 < 1
  ·rw [if_pos c6] at H
   have ah : decide (a1 < 1) = true := decide_eq_true c6
   clear c6
   (first | rw [ah] | (simp only [i64_w, i32_w]; rw [ah]) | skip)
   have H' := aM H
   clear H
   go_wp2
   repeat (go_quiet (fail); try go_wp2)
   go_meet
   case rel => exact ⟨_, (true), (by first | rfl | (simp; done) | (simp [*]; done)), H', ⟨by first | omega | exact Nat.le_refl _⟩, ⟨by have X_ := HO379.out; exact TR⟩, ⟨TB⟩⟩
  ·rw [if_neg c6] at H
   have ah : decide (a1 < 1) = false := decide_eq_false c6
   clear c6
   (first | rw [ah] | (simp only [i64_w, i32_w]; rw [ah]) | skip)
   have H' := aM H
   clear H
   go_wp2
   repeat (go_quiet (fail); try go_wp2)
   go_meet
   case rel => exact ⟨_, (decide (a1 > (l0.length : Int))), (by first | rfl | (simp; done) | (simp [*]; done)), H', ⟨by first | omega | exact Nat.le_refl _⟩, ⟨by have X_ := HO379.out; exact TR⟩, ⟨TB⟩⟩
 case rest =>
  clear HC3
  try clear c1
  try clear p2
  try clear c6
  try clear ah
  obtain ⟨kq, an, rfl, HA, HJ2, ab, HB⟩ := hcut
  cases kq with
  | zero => exact absurd HA.out (by simp [spec_Windows.j0])
  | succ kj2 =>
   have H := HA.out
   clear HA
   simp only [spec_Windows.j0] at H
   by_cases c7 : an = true
   ·subst c7
    replace H := ifT H
    obtain rfl := Option.some.inj H
    go_wp2
    repeat (go_quiet (fail); try go_wp2)
    go_ret
    exact ⟨_, by first | rfl | (simp [errW_none, errW_some] <;> rfl) | (simp [*, errW_none, errW_some] <;> rfl), by have X_ := ab.out; exact TR, TB⟩
   ·replace c7 := Bool.eq_false_iff.mpr c7
    subst c7
    replace H := ifF H
    replace H := ifN H
    obtain ⟨c8, H⟩ := H
    have c8b0 := eq_true c8
    have c8b1 : decide (0 ≤ a1) = true := decide_eq_true c8
    clear c8
    replace H := ifN H
    obtain ⟨c9, H⟩ := H
    have c9b0 := eq_true c9
    have c9b1 : decide (a1 ≤ (l0.length : Int)) = true := decide_eq_true c9
    clear c9
    replace H := bE H
    obtain ⟨ad, A10, H⟩ := H
    replace H := ifN H
    obtain ⟨c11, H⟩ := H
    have ar := aM c11
    clear c11
    obtain ⟨y382, az⟩ : ∃ y_ : List Int, y_ = (aj ++ [ad]) := ⟨_, rfl⟩
    rw [← az] at H
    have ap := aM az
    clear az
    have H' := aM H
    clear H
    obtain ⟨i012, aH, _, aG, _⟩ := info_parts info5
    obtain ⟨hcut12, hA12, hC12⟩ := print_take_of (P := Try.prog) (Value.int .u8) 0 25 5 .i64 Try.underlying25 aH aG A0 c0 l0 a1 DT DT HC0.out
    have au := aM (Kd.C_of_reads (h1 := fun _ => rfl) (hA12 _ (Kd.reads_of_C HR0.out)))
    have ay := aM hC12
    clear hA12 hC12 aH aG
    go_wp2_with (first | (go_at_call 91; (try rw [show (a1 : Int).toNat = (l0.take (a1 : Int).toNat).length from by rw [List.length_take, Nat.min_eq_left]; have h_ : a1 ≤ (l0.length : Int) := of_decide_eq_true (by assumption); omega]); (with_reducible refine (spec_WeakOf.calls kj2 _ _ (l0.take (a1 : Int).toNat) ad _ ?side1 ?side2 A10.out).mono ?_); (case side1 => have X_ := (Kd.C_below au.out HB.out); exact TC); (case side2 => exact ay.out); rintro e w' ⟨rfl, ⟨nd, rfl⟩⟩; (try first | exact ⟨rfl, _, World.drewN_drewN _ _ _⟩ | exact ⟨rfl, _, Eq.trans (World.drewN_drewN _ _ _) (congrArg (World.drewN _) (Nat.add_assoc _ _ _))⟩)) | ((with_reducible refine gate_builtin (b := .append) (xs := #[.tmp 22, .tmp 24]) rfl ?_); (try (refine gate_guard (by rfl) ?_; dsimp only)); at_builtin; refine Kd.R_append (Kd.int .i64) (w0 := w) w.heap.size rfl (.tmp 22) (.tmp 24) 65 3 (.int .i64 0) 8 rfl Try.underlying65 info3 rfl (by decide) (by omega) am aj ad [.int .i64 ad] (fun _ => True) (fun _ => False) rfl rfl ?aP (fun _ hk => hk.elim) ?aF ?aO ?aB ?aS ?aL ?_; (case aP => exact rfl); (case aB => exact TB); (case aF => exact (fun _ _ => trivial)); (case aO => exact (by have X_ := ab.out; exact TR)); (case aS => exact (below_size TB)); (case aL => have := ar.out; omega); intro v383 w13 ho hb hg hat; rw [← ap.out] at ho; have HO384 := aM (ho); replace HB := aM (hb); clear ab; clear ho hb hg hat))
    repeat (go_quiet (first | (go_at_call 91; (try rw [show (a1 : Int).toNat = (l0.take (a1 : Int).toNat).length from by rw [List.length_take, Nat.min_eq_left]; have h_ : a1 ≤ (l0.length : Int) := of_decide_eq_true (by assumption); omega]); (with_reducible refine (spec_WeakOf.calls kj2 _ _ (l0.take (a1 : Int).toNat) ad _ ?side1 ?side2 A10.out).mono ?_); (case side1 => have X_ := (Kd.C_below au.out HB.out); exact TC); (case side2 => exact ay.out); rintro e w' ⟨rfl, ⟨nd, rfl⟩⟩; (try first | exact ⟨rfl, _, World.drewN_drewN _ _ _⟩ | exact ⟨rfl, _, Eq.trans (World.drewN_drewN _ _ _) (congrArg (World.drewN _) (Nat.add_assoc _ _ _))⟩)) | ((with_reducible refine gate_builtin (b := .append) (xs := #[.tmp 22, .tmp 24]) rfl ?_); (try (refine gate_guard (by rfl) ?_; dsimp only)); at_builtin; refine Kd.R_append (Kd.int .i64) (w0 := w) w.heap.size rfl (.tmp 22) (.tmp 24) 65 3 (.int .i64 0) 8 rfl Try.underlying65 info3 rfl (by decide) (by omega) am aj ad [.int .i64 ad] (fun _ => True) (fun _ => False) rfl rfl ?aP (fun _ hk => hk.elim) ?aF ?aO ?aB ?aS ?aL ?_; (case aP => exact rfl); (case aB => exact TB); (case aF => exact (fun _ _ => trivial)); (case aO => exact (by have X_ := ab.out; exact TR)); (case aS => exact (below_size TB)); (case aL => have := ar.out; omega); intro v383 w13 ho hb hg hat; rw [← ap.out] at ho; have HO384 := aM (ho); replace HB := aM (hb); clear ab; clear ho hb hg hat)); try go_wp2_with (first | (go_at_call 91; (try rw [show (a1 : Int).toNat = (l0.take (a1 : Int).toNat).length from by rw [List.length_take, Nat.min_eq_left]; have h_ : a1 ≤ (l0.length : Int) := of_decide_eq_true (by assumption); omega]); (with_reducible refine (spec_WeakOf.calls kj2 _ _ (l0.take (a1 : Int).toNat) ad _ ?side1 ?side2 A10.out).mono ?_); (case side1 => have X_ := (Kd.C_below au.out HB.out); exact TC); (case side2 => exact ay.out); rintro e w' ⟨rfl, ⟨nd, rfl⟩⟩; (try first | exact ⟨rfl, _, World.drewN_drewN _ _ _⟩ | exact ⟨rfl, _, Eq.trans (World.drewN_drewN _ _ _) (congrArg (World.drewN _) (Nat.add_assoc _ _ _))⟩)) | ((with_reducible refine gate_builtin (b := .append) (xs := #[.tmp 22, .tmp 24]) rfl ?_); (try (refine gate_guard (by rfl) ?_; dsimp only)); at_builtin; refine Kd.R_append (Kd.int .i64) (w0 := w) w.heap.size rfl (.tmp 22) (.tmp 24) 65 3 (.int .i64 0) 8 rfl Try.underlying65 info3 rfl (by decide) (by omega) am aj ad [.int .i64 ad] (fun _ => True) (fun _ => False) rfl rfl ?aP (fun _ hk => hk.elim) ?aF ?aO ?aB ?aS ?aL ?_; (case aP => exact rfl); (case aB => exact TB); (case aF => exact (fun _ _ => trivial)); (case aO => exact (by have X_ := ab.out; exact TR)); (case aS => exact (below_size TB)); (case aL => have := ar.out; omega); intro v383 w13 ho hb hg hat; rw [← ap.out] at ho; have HO384 := aM (ho); replace HB := aM (hb); clear ab; clear ho hb hg hat)))
    go_loopg [5, 6, 7] kj2 (fun kq v5 v6 v7 w' => ∃ (ag : List Int) (al : Int) (aa : Int), v6 = .int .i64 al ∧ v7 = .int .i64 aa ∧ Aside0 (spec_Windows.l0 kq l0 a1 ag al aa = some r) ∧ Aside0 (kq ≤ kj2) ∧ Aside0 (Kd.R (Kd.int .i64) 3 w' w.heap.size (fun _ => True) v5 ag) ∧ Aside0 (Below w.heap.size w w'))
    case atStart => exact ⟨(y382), (ad), (a1), (by first | rfl | (simp; done) | (simp [*]; done)), (by first | rfl | (simp; done) | (simp [*]; done)), H', ⟨Nat.le_refl _⟩, ⟨by have X_ := HO384.out; exact TR⟩, ⟨TB⟩⟩
    case round =>
     clear H'
     try clear c1
     try clear p2
     try clear c6
     try clear ah
     try clear c7
     try clear c8
     try clear c8b0
     try clear c8b1
     try clear c9
     try clear c9b0
     try clear c9b1
     try clear c10
     try clear c11
     try clear p2
     obtain ⟨ag, al, aa, rfl, rfl, HA, HK2, ab, HB⟩ := hrel
     cases gk with
     | zero => exact absurd HA.out (by simp [spec_Windows.l0])
     | succ k2 =>
      have H := HA.out
      clear HA
      simp only [spec_Windows.l0] at H
      by_cases c14 : aa < (l0.length : Int)
      ·rw [if_pos c14] at H
       have c14b0 : decide (aa < (l0.length : Int)) = true := decide_eq_true c14
       clear c14
       obtain ⟨ae, av⟩ : ∃ j_ : Int, (wrap64 (aa - a1)) = j_ := ⟨_, rfl⟩
       (first | rw [av] at H | simp only [av] at H | skip)
       have hji15w : (IntKind.i64.wrap (aa - a1)) = ae := (i64_w _).trans av
       replace H := ifN H
       obtain ⟨c16, H⟩ := H
       have c16b0 : decide (0 ≤ (ae)) = true := decide_eq_true c16
       clear c16
       replace H := ifN H
       obtain ⟨c17, H⟩ := H
       have c17b0 : decide ((ae) < (l0.length : Int)) = true := decide_eq_true c17
       clear c17
       replace H := ifN H
       obtain ⟨c18, H⟩ := H
       have c18b0 : decide (0 ≤ aa) = true := decide_eq_true c18
       clear c18
       replace H := bE H
       obtain ⟨ac, A19, H⟩ := H
       replace H := ifN H
       obtain ⟨c20, H⟩ := H
       have ao := aM c20
       clear c20
       obtain ⟨y388, aw⟩ : ∃ y_ : List Int, y_ = (ag ++ [ac]) := ⟨_, rfl⟩
       rw [← aw] at H
       have ax := aM aw
       clear aw
       have H' := aM H
       clear H
       have aA : 0 ≤ ((ae) : Int) := DT
       have aD : (ae) < (l0.length : Int) := DT
       obtain ⟨ad385, e385, ak⟩ := Kd.at_int HR0.out (ae) aA aD
       cases e385
       replace ak := (HB.out.cell (World.block_lt_of_cell? w _ ak)).trans ak
       replace aA := eq_true aA
       replace aD := eq_true aD
       have aE : 0 ≤ (aa : Int) := DT
       have aC : aa < (l0.length : Int) := DT
       obtain ⟨ad386, e386, ai⟩ := Kd.at_int HR0.out aa aE aC
       obtain rfl : ad385 = ad386 := (by injection e386)
       replace ai := (HB.out.cell (World.block_lt_of_cell? w _ ai)).trans ai
       replace aE := eq_true aE
       replace aC := eq_true aC
       go_wp2_with (first | (go_at_call 102; (with_reducible refine (spec_Roll.calls k2 al a1 (wrap64 (rd l0 (ae))) (wrap64 (rd l0 aa)) ac _ A19.out).mono ?_); rintro e w' ⟨rfl, ⟨nd, rfl⟩⟩; (try first | exact ⟨rfl, _, World.drewN_drewN _ _ _⟩ | exact ⟨rfl, _, Eq.trans (World.drewN_drewN _ _ _) (congrArg (World.drewN _) (Nat.add_assoc _ _ _))⟩)) | ((with_reducible refine gate_builtin (b := .append) (xs := #[.tmp 48, .tmp 50]) rfl ?_); (try (refine gate_guard (by rfl) ?_; dsimp only)); at_builtin; refine Kd.R_append (Kd.int .i64) (w0 := w) w.heap.size rfl (.tmp 48) (.tmp 50) 65 3 (.int .i64 0) 8 rfl Try.underlying65 info3 rfl (by decide) (by omega) u5 ag ac [.int .i64 ac] (fun _ => True) (fun _ => False) rfl rfl ?aP (fun _ hk => hk.elim) ?aF ?aO ?aB ?aS ?aL ?_; (case aP => exact rfl); (case aB => exact TB); (case aF => exact (fun _ _ => trivial)); (case aO => exact (by have X_ := ab.out; exact TR)); (case aS => exact (below_size TB)); (case aL => have := ao.out; omega); intro v389 w21 ho hb hg hat; rw [← ax.out] at ho; have HO390 := aM (ho); replace HB := aM (hb); clear ab; clear ho hb hg hat))
       repeat (go_quiet (first | (go_at_call 102; (with_reducible refine (spec_Roll.calls k2 al a1 (wrap64 (rd l0 (ae))) (wrap64 (rd l0 aa)) ac _ A19.out).mono ?_); rintro e w' ⟨rfl, ⟨nd, rfl⟩⟩; (try first | exact ⟨rfl, _, World.drewN_drewN _ _ _⟩ | exact ⟨rfl, _, Eq.trans (World.drewN_drewN _ _ _) (congrArg (World.drewN _) (Nat.add_assoc _ _ _))⟩)) | ((with_reducible refine gate_builtin (b := .append) (xs := #[.tmp 48, .tmp 50]) rfl ?_); (try (refine gate_guard (by rfl) ?_; dsimp only)); at_builtin; refine Kd.R_append (Kd.int .i64) (w0 := w) w.heap.size rfl (.tmp 48) (.tmp 50) 65 3 (.int .i64 0) 8 rfl Try.underlying65 info3 rfl (by decide) (by omega) u5 ag ac [.int .i64 ac] (fun _ => True) (fun _ => False) rfl rfl ?aP (fun _ hk => hk.elim) ?aF ?aO ?aB ?aS ?aL ?_; (case aP => exact rfl); (case aB => exact TB); (case aF => exact (fun _ _ => trivial)); (case aO => exact (by have X_ := ab.out; exact TR)); (case aS => exact (below_size TB)); (case aL => have := ao.out; omega); intro v389 w21 ho hb hg hat; rw [← ax.out] at ho; have HO390 := aM (ho); replace HB := aM (hb); clear ab; clear ho hb hg hat)); try go_wp2_with (first | (go_at_call 102; (with_reducible refine (spec_Roll.calls k2 al a1 (wrap64 (rd l0 (ae))) (wrap64 (rd l0 aa)) ac _ A19.out).mono ?_); rintro e w' ⟨rfl, ⟨nd, rfl⟩⟩; (try first | exact ⟨rfl, _, World.drewN_drewN _ _ _⟩ | exact ⟨rfl, _, Eq.trans (World.drewN_drewN _ _ _) (congrArg (World.drewN _) (Nat.add_assoc _ _ _))⟩)) | ((with_reducible refine gate_builtin (b := .append) (xs := #[.tmp 48, .tmp 50]) rfl ?_); (try (refine gate_guard (by rfl) ?_; dsimp only)); at_builtin; refine Kd.R_append (Kd.int .i64) (w0 := w) w.heap.size rfl (.tmp 48) (.tmp 50) 65 3 (.int .i64 0) 8 rfl Try.underlying65 info3 rfl (by decide) (by omega) u5 ag ac [.int .i64 ac] (fun _ => True) (fun _ => False) rfl rfl ?aP (fun _ hk => hk.elim) ?aF ?aO ?aB ?aS ?aL ?_; (case aP => exact rfl); (case aB => exact TB); (case aF => exact (fun _ _ => trivial)); (case aO => exact (by have X_ := ab.out; exact TR)); (case aS => exact (below_size TB)); (case aL => have := ao.out; omega); intro v389 w21 ho hb hg hat; rw [← ax.out] at ho; have HO390 := aM (ho); replace HB := aM (hb); clear ab; clear ho hb hg hat)))
       go_roundg k2
       case measure => have := HJ2.out; have := HK2.out; omega
       case rel => exact ⟨(y388), (ac), (wrap64 (aa + 1)), (by first | rfl | (simp; done) | (simp [*]; done)), (by first | rfl | (simp; done) | (simp [*]; done)), H', ⟨by have := HJ2.out; have := HK2.out; omega⟩, ⟨by have X_ := HO390.out; exact TR⟩, ⟨TB⟩⟩
      ·rw [if_neg c14] at H
       have c14b0 : decide (aa < (l0.length : Int)) = false := decide_eq_false c14
       clear c14
       obtain rfl := Option.some.inj H
       go_wp2
       repeat (go_quiet (fail); try go_wp2)
       go_ret
       exact ⟨_, by first | rfl | (simp [errW_none, errW_some] <;> rfl) | (simp [*, errW_none, errW_some] <;> rfl), by have X_ := ab.out; exact TR, TB⟩

end Go.Proofs.Ytnoplippaiblcaa.Q
