/- Functions of the program as plain Lean functions, and that a call of each comes to what its function tells. Written by a program of this seat. -/
import Derived.Test.YtlghklbjmmijpaaQ0
import Derived.Test.YtlghklbjmmijpaaQ5
namespace Go.Proofs.Ytlghklbjmmijpaa.Q
open Go.RowKit Go.Proofs.YtlghklbjmmijpaaW.PrintWords Go.Proofs.YtlghklbjmmijpaaW.PrintLast Go.Proofs.YtlghklbjmmijpaaW.PrintMore
attribute [local go_sem] max2_int min2_int max_two min_two max_three min_three max_four min_four   -- for this text's walks alone
set_option linter.unusedVariables false
set_option linter.unusedSimpArgs false

/-! ### impl_SizeOk: function 54 -/
def impl_SizeOk.f (a0 : Int) (a1 : Int) : Option (Bool) := (impl_within.f a0 2 6).bind fun t589 => (if t589 = true then ((impl_within.f a1 0 (wrap64 (40 * a0))).bind fun t590 => (some t590)) else (some false))
set_option maxHeartbeats 40000000 in
set_option maxRecDepth 100000 in
theorem impl_SizeOk.calls (a0 : Int) (a1 : Int) (r : Bool) (w : World) (h : impl_SizeOk.f a0 a1 = some r) :
    Calls Try.prog 54 #[.int .i64 a0, .int .i64 a1] w fun e w' => e = .returned (.bool r) ∧ Drawn0 w w' := by
  have H := h
  clear h
  unfold impl_SizeOk.f at H
  replace H := bE H
  obtain ⟨t589, A3, H⟩ := H
  by_cases c4 : t589 = true
  · subst c4
    replace H := ifT H
    replace H := bE H
    obtain ⟨t590, A5, H⟩ := H
    obtain rfl := Option.some.inj H
    go_enter Try.func54, Try.ntmps54
    go_wp2_with (first | ((with_reducible refine gate_callee (f := 53) rfl ?_); refine gL (some 6) Try.func53 #[.int .i64 a0, .int .i64 2, .int .i64 6] ?_; (with_reducible refine (impl_within.calls a0 2 6 true _ A3.out).mono ?_); rintro e w' ⟨rfl, ⟨nd, rfl⟩⟩; refine ⟨_, rfl, ?_⟩) | (go_at_call 53; (with_reducible refine (impl_within.calls a1 0 (wrap64 (40 * a0)) t590 _ A5.out).mono ?_); rintro e w' ⟨rfl, ⟨nd, rfl⟩⟩))
    go_ret
    exact ⟨by first | rfl | (simp; done) | (simp [*]; done), TD⟩
  · replace c4 := Bool.eq_false_iff.mpr c4
    subst c4
    replace H := ifF H
    obtain rfl := Option.some.inj H
    go_enter Try.func54, Try.ntmps54
    go_wp2_with (first | ((with_reducible refine gate_callee (f := 53) rfl ?_); refine gL (some 6) Try.func53 #[.int .i64 a0, .int .i64 2, .int .i64 6] ?_; (with_reducible refine (impl_within.calls a0 2 6 false _ A3.out).mono ?_); rintro e w' ⟨rfl, ⟨nd, rfl⟩⟩; refine ⟨_, rfl, ?_⟩))
    go_ret
    exact ⟨by first | rfl | (simp; done) | (simp [*]; done), TD⟩

/-! ### impl_CeilDiv: function 124 -/
def impl_CeilDiv.f (a0 : Int) (a1 : Int) : Option (Int) := (impl_within.f a0 0 1000000000000).bind fun t591 => (if t591 = true then ((impl_within.f a1 1 1000000000000).bind fun t592 => (if t592 = true then (if a1 = 0 then (none) else (some (wrap64 (Int.tdiv (wrap64 ((wrap64 (a0 + a1)) - 1)) a1)))) else (some 0))) else (some 0))
set_option maxHeartbeats 40000000 in
set_option maxRecDepth 100000 in
theorem impl_CeilDiv.calls (a0 : Int) (a1 : Int) (r : Int) (w : World) (h : impl_CeilDiv.f a0 a1 = some r) :
    Calls Try.prog 124 #[.int .i64 a0, .int .i64 a1] w fun e w' => e = .returned (.int .i64 r) ∧ Drawn0 w w' := by
  have H := h
  clear h
  unfold impl_CeilDiv.f at H
  replace H := bE H
  obtain ⟨t591, A3, H⟩ := H
  by_cases c4 : t591 = true
  · subst c4
    replace H := ifT H
    replace H := bE H
    obtain ⟨t592, A5, H⟩ := H
    by_cases c6 : t592 = true
    · subst c6
      replace H := ifT H
      replace H := ifM H
      obtain ⟨c7, H⟩ := H
      have c7b0 : (a1 == 0) = false := beq_eq_false_iff_ne.mpr c7
      have c7b1 : (a1 != 0) = true := bne_iff_ne.mpr c7
      obtain rfl := Option.some.inj H
      go_enter Try.func124, Try.ntmps124
      go_wp2_with (first | ((with_reducible refine gate_callee (f := 53) rfl ?_); refine gL (some 6) Try.func53 #[.int .i64 a0, .int .i64 0, .int .i64 1000000000000] ?_; (with_reducible refine (impl_within.calls a0 0 1000000000000 true _ A3.out).mono ?_); rintro e w' ⟨rfl, ⟨nd, rfl⟩⟩; refine ⟨_, rfl, ?_⟩) | (go_at_call 53; (with_reducible refine (impl_within.calls a1 1 1000000000000 true _ A5.out).mono ?_); rintro e w' ⟨rfl, ⟨nd, rfl⟩⟩))
      go_ret
      exact ⟨by first | rfl | (simp; done) | (simp [*]; done), TD⟩
    · replace c6 := Bool.eq_false_iff.mpr c6
      subst c6
      replace H := ifF H
      obtain rfl := Option.some.inj H
      go_enter Try.func124, Try.ntmps124
      go_wp2_with (first | ((with_reducible refine gate_callee (f := 53) rfl ?_); refine gL (some 6) Try.func53 #[.int .i64 a0, .int .i64 0, .int .i64 1000000000000] ?_; (with_reducible refine (impl_within.calls a0 0 1000000000000 true _ A3.out).mono ?_); rintro e w' ⟨rfl, ⟨nd, rfl⟩⟩; refine ⟨_, rfl, ?_⟩) | (go_at_call 53; (with_reducible refine (impl_within.calls a1 1 1000000000000 false _ A5.out).mono ?_); rintro e w' ⟨rfl, ⟨nd, rfl⟩⟩))
      go_ret
      exact ⟨by first | rfl | (simp; done) | (simp [*]; done), TD⟩
  · replace c4 := Bool.eq_false_iff.mpr c4
    subst c4
    replace H := ifF H
    obtain rfl := Option.some.inj H
    go_enter Try.func124, Try.ntmps124
    go_wp2_with (first | ((with_reducible refine gate_callee (f := 53) rfl ?_); refine gL (some 6) Try.func53 #[.int .i64 a0, .int .i64 0, .int .i64 1000000000000] ?_; (with_reducible refine (impl_within.calls a0 0 1000000000000 false _ A3.out).mono ?_); rintro e w' ⟨rfl, ⟨nd, rfl⟩⟩; refine ⟨_, rfl, ?_⟩))
    go_ret
    exact ⟨by first | rfl | (simp; done) | (simp [*]; done), TD⟩

/-! ### impl_Blocks: function 77 -/
def impl_Blocks.f (a0 : Int) (a1 : Int) : Option (Int) := (impl_SizeOk.f a0 a1).bind fun t593 => (if t593 = true then ((impl_CeilDiv.f a1 a0).bind fun t594 => (some t594)) else (some 0))
set_option maxHeartbeats 40000000 in
set_option maxRecDepth 100000 in
theorem impl_Blocks.calls (a0 : Int) (a1 : Int) (r : Int) (w : World) (h : impl_Blocks.f a0 a1 = some r) :
    Calls Try.prog 77 #[.int .i64 a0, .int .i64 a1] w fun e w' => e = .returned (.int .i64 r) ∧ Drawn0 w w' := by
  have H := h
  clear h
  unfold impl_Blocks.f at H
  replace H := bE H
  obtain ⟨t593, A3, H⟩ := H
  by_cases c4 : t593 = true
  · subst c4
    replace H := ifT H
    replace H := bE H
    obtain ⟨t594, A5, H⟩ := H
    obtain rfl := Option.some.inj H
    go_enter Try.func77, Try.ntmps77
    go_wp2_with (first | ((with_reducible refine gate_callee (f := 54) rfl ?_); refine gL (some 7) Try.func54 #[.int .i64 a0, .int .i64 a1] ?_; (with_reducible refine (impl_SizeOk.calls a0 a1 true _ A3.out).mono ?_); rintro e w' ⟨rfl, ⟨nd, rfl⟩⟩; refine ⟨_, rfl, ?_⟩) | ((with_reducible refine gate_callee (f := 124) rfl ?_); refine gL (some 11) Try.func124 #[.int .i64 a1, .int .i64 a0] ?_; (with_reducible refine (impl_CeilDiv.calls a1 a0 t594 _ A5.out).mono ?_); rintro e w' ⟨rfl, ⟨nd, rfl⟩⟩; refine ⟨_, rfl, ?_⟩))
    go_ret
    exact ⟨by first | rfl | (simp; done) | (simp [*]; done), TD⟩
  · replace c4 := Bool.eq_false_iff.mpr c4
    subst c4
    replace H := ifF H
    obtain rfl := Option.some.inj H
    go_enter Try.func77, Try.ntmps77
    go_wp2_with (first | ((with_reducible refine gate_callee (f := 54) rfl ?_); refine gL (some 7) Try.func54 #[.int .i64 a0, .int .i64 a1] ?_; (with_reducible refine (impl_SizeOk.calls a0 a1 false _ A3.out).mono ?_); rintro e w' ⟨rfl, ⟨nd, rfl⟩⟩; refine ⟨_, rfl, ?_⟩))
    go_ret
    exact ⟨by first | rfl | (simp; done) | (simp [*]; done), TD⟩

/-! ### impl_SpanOf: function 63 -/
def impl_SpanOf.f (a0 : Int) (a1 : Int) (a2 : Int) : Option (Int × Int) := (impl_Blocks.f a0 a1).bind fun t595 => ((impl_within.f a2 0 (wrap64 (t595 - 1))).bind fun t596 => (if t596 = true then (some (wrap64 (a2 * a0), mn a0 (wrap64 (a1 - (wrap64 (a2 * a0)))))) else (some (0, 0))))
set_option maxHeartbeats 40000000 in
set_option maxRecDepth 100000 in
theorem impl_SpanOf.calls (a0 : Int) (a1 : Int) (a2 : Int) (r1 : Int) (r2 : Int) (w : World) (h : impl_SpanOf.f a0 a1 a2 = some (r1, r2)) :
    Calls Try.prog 63 #[.int .i64 a0, .int .i64 a1, .int .i64 a2] w fun e w' => e = .returned (.tuple #[.int .i64 r1, .int .i64 r2]) ∧ Below w.heap.size w w' := by
  have HB := aM (Below.refl w.heap.size w)
  have H := h
  clear h
  unfold impl_SpanOf.f at H
  replace H := bE H
  obtain ⟨t595, A4, H⟩ := H
  replace H := bE H
  obtain ⟨t596, A5, H⟩ := H
  go_enter Try.func63, Try.ntmps63
  go_wp2_with (first | ((with_reducible refine gate_callee (f := 77) rfl ?_); refine gL (some 11) Try.func77 #[.int .i64 a0, .int .i64 a1] ?_; (with_reducible refine (impl_Blocks.calls a0 a1 t595 _ A4.out).mono ?_); rintro e w' ⟨rfl, ⟨nd, rfl⟩⟩; refine ⟨_, rfl, ?_⟩) | ((with_reducible refine gate_callee (f := 53) rfl ?_); (with_reducible refine gate_dst (N := 13) rfl ?_); generalize hG_ : wpList _ _ _ _ _ _ = G_))
  subst hG_
  by_cases c7 : t596 = true
  · subst c7
    replace H := ifT H
    obtain ⟨ji8, hji8⟩ : ∃ j_ : Int, (mn a0 (wrap64 (a1 - (wrap64 (a2 * a0))))) = j_ := ⟨_, rfl⟩
    (first | rw [hji8] at H | simp only [hji8] at H | skip)
    (try rw [hji8] at A5)
    have hji8_ : (if (wrap64 (a1 - (wrap64 (a2 * a0)))) < a0 then (wrap64 (a1 - (wrap64 (a2 * a0)))) else a0) = ji8 := hji8
    simp only [Option.some.injEq, Prod.mk.injEq] at H
    obtain ⟨rfl, rfl⟩ := H
    go_wp2_with (first | ((with_reducible refine gate_callee (f := 53) rfl ?_); refine gL (some 13) Try.func53 #[.int .i64 a2, .int .i64 0, .int .i64 (wrap64 (t595 - 1))] ?_; (with_reducible refine (impl_within.calls a2 0 (wrap64 (t595 - 1)) true _ A5.out).mono ?_); rintro e w' ⟨rfl, ⟨nd, rfl⟩⟩; refine ⟨_, rfl, ?_⟩))
    go_ret2
    exact ⟨by first | rfl | (simp [errW_none, errW_some] <;> rfl) | (simp only [← hji8]; first | rfl | (simp [errW_none, errW_some] <;> rfl)) | (simp [*, errW_none, errW_some] <;> rfl), TB⟩
  · replace c7 := Bool.eq_false_iff.mpr c7
    subst c7
    replace H := ifF H
    simp only [Option.some.injEq, Prod.mk.injEq] at H
    obtain ⟨rfl, rfl⟩ := H
    go_wp2_with (first | ((with_reducible refine gate_callee (f := 53) rfl ?_); refine gL (some 13) Try.func53 #[.int .i64 a2, .int .i64 0, .int .i64 (wrap64 (t595 - 1))] ?_; (with_reducible refine (impl_within.calls a2 0 (wrap64 (t595 - 1)) false _ A5.out).mono ?_); rintro e w' ⟨rfl, ⟨nd, rfl⟩⟩; refine ⟨_, rfl, ?_⟩))
    go_ret2
    exact ⟨by first | rfl | (simp [errW_none, errW_some] <;> rfl) | (simp [*, errW_none, errW_some] <;> rfl), TB⟩

/-! ### impl_Slice: function 125 -/
def impl_Slice.f (l0 : List Int) (a1 : Int) (a2 : Int) : Option (List Int × Bool) := (impl_within.f a1 0 (l0.length : Int)).bind fun t597 => (if t597 = true then ((impl_within.f a2 0 (wrap64 ((l0.length : Int) - a1))).bind fun t598 => (if t598 = true then (if 0 ≤ a1 then (if a1 ≤ (wrap64 (a1 + a2)) then (if (wrap64 (a1 + a2)) ≤ (l0.length : Int) then ((impl_cloned.f ((l0.take ((wrap64 (a1 + a2)) : Int).toNat).drop (a1 : Int).toNat)).bind fun t600 => (some (t600, true))) else (none)) else (none)) else (none)) else (some (([] : List Int), false)))) else (some (([] : List Int), false)))
set_option maxHeartbeats 40000000 in
set_option maxRecDepth 100000 in
theorem impl_Slice.calls (A0 : Option Addr) (c0 : Nat) (l0 : List Int) (a1 : Int) (a2 : Int) (r1 : List Int) (r2 : Bool) (w : World) (hr0 : Kd.C (Kd.int .u8) w A0 l0.length l0) (hc0 : l0.length ≤ c0) (h : impl_Slice.f l0 a1 a2 = some (r1, r2)) :
    Calls Try.prog 125 #[.slice A0 l0.length c0, .int .i64 a1, .int .i64 a2] w fun e w' => ∃ v0_ : Value, e = .returned (.tuple #[v0_, .bool r2]) ∧ Kd.R (Kd.int .u8) 5 w' w.heap.size (fun _ => True) v0_ r1 ∧ Below w.heap.size w w' := by
  have HR0 := aM hr0
  have HC0 := aM hc0
  clear hr0 hc0
  have HB := aM (Below.refl w.heap.size w)
  have H := h
  clear h
  unfold impl_Slice.f at H
  replace H := bE H
  obtain ⟨t597, A4, H⟩ := H
  by_cases c5 : t597 = true
  · subst c5
    replace H := ifT H
    replace H := bE H
    obtain ⟨t598, A6, H⟩ := H
    by_cases c7 : t598 = true
    · subst c7
      replace H := ifT H
      replace H := ifN H
      obtain ⟨c8, H⟩ := H
      have c8b0 := eq_true c8
      have c8b1 : decide (0 ≤ a1) = true := decide_eq_true c8
      clear c8
      replace H := ifN H
      obtain ⟨c9, H⟩ := H
      have c9b0 := eq_true c9
      have c9b1 : decide (a1 ≤ (wrap64 (a1 + a2))) = true := decide_eq_true c9
      replace H := ifN H
      obtain ⟨c10, H⟩ := H
      have c10b0 := eq_true c10
      have c10b1 : decide ((wrap64 (a1 + a2)) ≤ (l0.length : Int)) = true := decide_eq_true c10
      replace H := bE H
      obtain ⟨t600, A11, H⟩ := H
      simp only [Option.some.injEq, Prod.mk.injEq] at H
      obtain ⟨rfl, rfl⟩ := H
      go_enter Try.func125, Try.ntmps125
      go_wp2_with (first | ((with_reducible refine gate_callee (f := 53) rfl ?_); refine gL (some 11) Try.func53 #[.int .i64 a1, .int .i64 0, .int .i64 (l0.length : Int)] ?_; (with_reducible refine (impl_within.calls a1 0 (l0.length : Int) true _ A4.out).mono ?_); rintro e w' ⟨rfl, ⟨nd, rfl⟩⟩; refine ⟨_, rfl, ?_⟩) | (go_at_call 53; (with_reducible refine (impl_within.calls a2 0 (wrap64 ((l0.length : Int) - a1)) true _ A6.out).mono ?_); rintro e w' ⟨rfl, ⟨nd, rfl⟩⟩; obtain ⟨i012, hi012, _, hsz12, _⟩ := info_parts info5; obtain ⟨A12, hcut12, hA12, hC12⟩ := print_mid_of (P := Try.prog) (Value.int .u8) 0 22 5 .i64 .i64 Try.underlying22 hi012 hsz12 A0 c0 l0 a1 (wrap64 (a1 + a2)) DT (by first | omega | exact DT) DT HC0.out; have HR599 := aM (Kd.C_of_reads (h1 := fun _ => rfl) (hA12 _ (Kd.reads_of_C HR0.out))); have HC599 := aM hC12; clear hA12 hC12 hi012 hsz12) | ((with_reducible refine gate_callee (f := 57) rfl ?_); refine goesL_ (some 28) rfl rfl Try.func57 (by kernel_rfl) rfl #[.slice A12 ((l0.take ((wrap64 (a1 + a2)) : Int).toNat).drop (a1 : Int).toNat).length (c0 - a1.toNat)] rfl (by (try simp only [List.map_toArray, List.map_cons, List.map_nil]); first | done | (rw [show ((l0.take ((wrap64 (a1 + a2)) : Int).toNat).drop (a1 : Int).toNat).length = ((wrap64 (a1 + a2)).toNat - a1.toNat) from (by rw [List.length_drop, List.length_take]; have h_ : ((wrap64 (a1 + a2)) : Int) ≤ (l0.length : Int) := DT; omega)] <;> rfl) | rfl | (simp only [List.length_drop, List.length_take]; rfl)) ?_; (with_reducible refine (impl_cloned.calls _ _ ((l0.take ((wrap64 (a1 + a2)) : Int).toNat).drop (a1 : Int).toNat) t600 _ ?side1 ?side2 A11.out).mono ?_); (case side1 => have X_ := HR599.out; exact TC); (case side2 => exact HC599.out); rintro e w13 ⟨v601, rfl, ho0, hb⟩; refine ⟨_, rfl, ?_⟩; have HO602 := aM (Kd.R_lower ho0 (below_size TB)); replace HB := aM (below_step TB hb); clear ho0 hb))
      go_ret2
      exact ⟨_, by first | rfl | (simp [errW_none, errW_some] <;> rfl) | (simp [*, errW_none, errW_some] <;> rfl), by have X_ := HO602.out; exact TR, TB⟩
    · replace c7 := Bool.eq_false_iff.mpr c7
      subst c7
      replace H := ifF H
      simp only [Option.some.injEq, Prod.mk.injEq] at H
      obtain ⟨rfl, rfl⟩ := H
      go_enter Try.func125, Try.ntmps125
      go_wp2_with (first | ((with_reducible refine gate_callee (f := 53) rfl ?_); refine gL (some 11) Try.func53 #[.int .i64 a1, .int .i64 0, .int .i64 (l0.length : Int)] ?_; (with_reducible refine (impl_within.calls a1 0 (l0.length : Int) true _ A4.out).mono ?_); rintro e w' ⟨rfl, ⟨nd, rfl⟩⟩; refine ⟨_, rfl, ?_⟩) | (go_at_call 53; (with_reducible refine (impl_within.calls a2 0 (wrap64 ((l0.length : Int) - a1)) false _ A6.out).mono ?_); rintro e w' ⟨rfl, ⟨nd, rfl⟩⟩))
      go_ret2
      exact ⟨_, by first | rfl | (simp [errW_none, errW_some] <;> rfl) | (simp [*, errW_none, errW_some] <;> rfl), by first | exact Kd.R_nil _ _ _ _ _ | exact Kd.N_nil _ _ _ _ _ | exact Kd.V_nil _ _ _ _ _ | exact Kd.Q_nil _ _ _ _ _ | exact Kd.S_nil _ _ _ _ _, TB⟩
  · replace c5 := Bool.eq_false_iff.mpr c5
    subst c5
    replace H := ifF H
    simp only [Option.some.injEq, Prod.mk.injEq] at H
    obtain ⟨rfl, rfl⟩ := H
    go_enter Try.func125, Try.ntmps125
    go_wp2_with (first | ((with_reducible refine gate_callee (f := 53) rfl ?_); refine gL (some 11) Try.func53 #[.int .i64 a1, .int .i64 0, .int .i64 (l0.length : Int)] ?_; (with_reducible refine (impl_within.calls a1 0 (l0.length : Int) false _ A4.out).mono ?_); rintro e w' ⟨rfl, ⟨nd, rfl⟩⟩; refine ⟨_, rfl, ?_⟩))
    go_ret2
    exact ⟨_, by first | rfl | (simp [errW_none, errW_some] <;> rfl) | (simp [*, errW_none, errW_some] <;> rfl), by first | exact Kd.R_nil _ _ _ _ _ | exact Kd.N_nil _ _ _ _ _ | exact Kd.V_nil _ _ _ _ _ | exact Kd.Q_nil _ _ _ _ _ | exact Kd.S_nil _ _ _ _ _, TB⟩

/-! ### impl_BlockAt: function 78 -/
def impl_BlockAt.f (l0 : List Int) (a1 : Int) (a2 : Int) : Option (List Int × Bool) := (impl_SpanOf.f a1 (l0.length : Int) a2).bind fun bt603 => (if bt603.2 = 0 then (some (([] : List Int), false)) else ((impl_Slice.f l0 bt603.1 bt603.2).bind fun bt605 => (some (bt605.1, bt605.2))))
set_option maxHeartbeats 40000000 in
set_option maxRecDepth 100000 in
theorem impl_BlockAt.calls (A0 : Option Addr) (c0 : Nat) (l0 : List Int) (a1 : Int) (a2 : Int) (r1 : List Int) (r2 : Bool) (w : World) (hr0 : Kd.C (Kd.int .u8) w A0 l0.length l0) (hc0 : l0.length ≤ c0) (h : impl_BlockAt.f l0 a1 a2 = some (r1, r2)) :
  Calls Try.prog 78 #[.slice A0 l0.length c0, .int .i64 a1, .int .i64 a2] w fun e w' => ∃ v0_ : Value, e = .returned (.tuple #[v0_, .bool r2]) ∧ Kd.R (Kd.int .u8) 5 w' w.heap.size (fun _ => True) v0_ r1 ∧ Below w.heap.size w w' := by
 have HR0 := aM hr0
 have HC0 := aM hc0
 clear hr0 hc0
 have HB := aM (Below.refl w.heap.size w)
 have H := h
 clear h
 unfold impl_BlockAt.f at H
 replace H := bE H
 obtain ⟨⟨ab, aa⟩, A4, H⟩ := H
 dsimp only at H
 by_cases c5 : aa = 0
 ·rw [if_pos c5] at H
  have c5b0 : (aa == 0) = true := beq_iff_eq.mpr c5
  have c5b1 : (aa != 0) = false := bne_eq_false_iff_eq.mpr c5
  clear c5
  simp only [Option.some.injEq, Prod.mk.injEq] at H
  obtain ⟨rfl, rfl⟩ := H
  go_enter Try.func78, Try.ntmps78
  go_wp2_with (first | ((with_reducible refine gate_callee (f := 63) rfl ?_); refine gL (some 15) Try.func63 #[.int .i64 a1, .int .i64 (l0.length : Int), .int .i64 a2] ?_; (with_reducible refine (impl_SpanOf.calls a1 (l0.length : Int) a2 ab aa _ A4.out).mono ?_); rintro e w6 ⟨rfl, hb⟩; refine ⟨_, rfl, ?_⟩; replace HB := aM (below_step TB hb); clear hb))
  go_ret2
  exact ⟨_, by first | rfl | (simp [errW_none, errW_some] <;> rfl) | (simp [*, errW_none, errW_some] <;> rfl), by first | exact Kd.R_nil _ _ _ _ _ | exact Kd.N_nil _ _ _ _ _ | exact Kd.V_nil _ _ _ _ _ | exact Kd.Q_nil _ _ _ _ _ | exact Kd.S_nil _ _ _ _ _, TB⟩
 ·rw [if_neg c5] at H
  have c5b0 : (aa == 0) = false := beq_eq_false_iff_ne.mpr c5
  have c5b1 : (aa != 0) = true := bne_iff_ne.mpr c5
  replace H := bE H
  obtain ⟨⟨t605, t606⟩, A7, H⟩ := H
  dsimp only at H
  simp only [Option.some.injEq, Prod.mk.injEq] at H
  obtain ⟨rfl, rfl⟩ := H
  go_enter Try.func78, Try.ntmps78
  go_wp2_with (first | ((with_reducible refine gate_callee (f := 63) rfl ?_); refine gL (some 15) Try.func63 #[.int .i64 a1, .int .i64 (l0.length : Int), .int .i64 a2] ?_; (with_reducible refine (impl_SpanOf.calls a1 (l0.length : Int) a2 ab aa _ A4.out).mono ?_); rintro e w8 ⟨rfl, hb⟩; refine ⟨_, rfl, ?_⟩; replace HB := aM (below_step TB hb); clear hb) | ((with_reducible refine gate_callee (f := 125) rfl ?_); refine gL (some 23) Try.func125 #[.slice A0 l0.length c0, .int .i64 ab, .int .i64 aa] ?_; (with_reducible refine (impl_Slice.calls _ _ l0 ab aa t605 t606 _ ?side1 ?side2 A7.out).mono ?_); (case side1 => have X_ := (Kd.C_below HR0.out HB.out); exact TC); (case side2 => exact HC0.out); rintro e w9 ⟨v607, rfl, ho0, hb⟩; refine ⟨_, rfl, ?_⟩; have HO608 := aM (Kd.R_lower ho0 (below_size TB)); replace HB := aM (below_step TB hb); clear ho0 hb))
  go_ret2
  exact ⟨_, by first | rfl | (simp [errW_none, errW_some] <;> rfl) | (simp [*, errW_none, errW_some] <;> rfl), by have X_ := HO608.out; exact TR, TB⟩

end Go.Proofs.Ytlghklbjmmijpaa.Q
