/- Functions of the program as plain Lean functions, and that a call of each comes to what its function tells. Written by a program of this seat. -/
import Derived.Test.YtanpaipapcjpoaaGreatDoorQ0
import Derived.Test.YtanpaipapcjpoaaGreatDoorQ10
import Derived.Test.YtanpaipapcjpoaaGreatDoorQ14
import Derived.Test.YtanpaipapcjpoaaGreatDoorQ30
set_option maxHeartbeats 40000000
set_option maxRecDepth 100000
namespace Go.Proofs.YtanpaipapcjpoaaGreatDoor.Q
open Go.RowKit Go.Proofs.YtanpaipapcjpoaaGreatDoorW.PrintWords Go.Proofs.YtanpaipapcjpoaaGreatDoorW.PrintLast Go.Proofs.YtanpaipapcjpoaaGreatDoorW.PrintMore
attribute [local go_sem] min2_int min_two
set_option linter.unusedVariables false
set_option linter.unusedSimpArgs false
def impl_Slice.f (l0 : List Int) (a1 : Int) (a2 : Int) : Option (List Int × Bool) := (impl_within.f a1 0 (l0.length : Int)).bind fun t903 => (if t903 = true then ((impl_within.f a2 0 (wrap64 ((l0.length : Int) - a1))).bind fun t904 => (if t904 = true then (if 0 ≤ a1 then (if a1 ≤ (wrap64 (a1 + a2)) then (if (wrap64 (a1 + a2)) ≤ (l0.length : Int) then ((impl_cloned.f ((l0.take ((wrap64 (a1 + a2)) : Int).toNat).drop (a1 : Int).toNat)).bind fun t906 => (some (t906, true))) else (none)) else (none)) else (none)) else (some (([] : List Int), false)))) else (some (([] : List Int), false)))
theorem impl_Slice.calls {A0 : Option Addr} {c0 : Nat} {l0 : List Int} {a1 : Int} {a2 : Int} {r1 : List Int} {r2 : Bool} {w : World} (hr0 : Kd.C (Kd.int .u8) w A0 l0.length l0) (hc0 : l0.length ≤ c0) (h : impl_Slice.f l0 a1 a2 = some (r1, r2)) :
    Calls Tryz.prog 96 #[.slice A0 l0.length c0, .int .i64 a1, .int .i64 a2] w fun e w' => ∃ v0_ : Value, e = .returned (.tuple #[v0_, .bool r2]) ∧ Kd.R (Kd.int .u8) 5 w' w.heap.size (fun _ => True) v0_ r1 ∧ Below w.heap.size w w' := by
  have HR0 := aM hr0
  have HC0 := aM hc0
  clear hr0 hc0
  have HB := aM (Below.refl w.heap.size w)
  have H := h
  clear h
  unfold impl_Slice.f at H
  replace H := bE H
  obtain ⟨t903, A4, H⟩ := H
  by_cases c5 : t903 = true
  · subst c5
    replace H := ifT H
    replace H := bE H
    obtain ⟨t904, A6, H⟩ := H
    by_cases c7 : t904 = true
    · subst c7
      replace H := ifT H
      replace H := ifN H
      obtain ⟨c8, H⟩ := H
      have c8b0 := eq_true c8
      have c8b1 : decide (0 ≤ a1) = true := decide_eq_true c8
      clear c8
      replace H := ifN H
      obtain ⟨c9, H⟩ := H
      have c9b0 := eq_true c9
      have c9b1 : decide (a1 ≤ (wrap64 (a1 + a2))) = true := decide_eq_true c9
      replace H := ifN H
      obtain ⟨c10, H⟩ := H
      have c10b0 := eq_true c10
      have c10b1 : decide ((wrap64 (a1 + a2)) ≤ (l0.length : Int)) = true := decide_eq_true c10
      replace H := bE H
      obtain ⟨t906, A11, H⟩ := H
      simp only [Option.some.injEq, Prod.mk.injEq] at H
      obtain ⟨rfl, rfl⟩ := H
      go_enter Tryz.func96, Tryz.ntmps96
      go_wp2_with (first | ((with_reducible refine gate_callee (f := 47) rfl ?_); refine gL (some 11) Tryz.func47 #[.int .i64 a1, .int .i64 0, .int .i64 (l0.length : Int)] ?_; (with_reducible refine (impl_within.calls A4.out).mono ?_); rintro e w' ⟨rfl, ⟨nd, rfl⟩⟩; refine ⟨_, rfl, ?_⟩) | (go_at_call 47; (with_reducible refine (impl_within.calls A6.out).mono ?_); rintro e w' ⟨rfl, ⟨nd, rfl⟩⟩; obtain ⟨i012, hi012, _, hsz12, _⟩ := info_parts info5; obtain ⟨A12, hcut12, hA12, hC12⟩ := print_mid_of (P := Tryz.prog) (Value.int .u8) 0 22 5 .i64 .i64 Tryz.underlying22 hi012 hsz12 A0 c0 l0 a1 (wrap64 (a1 + a2)) DT (by first | omega | exact DT) DT HC0.out; have HR905 := aM (Kd.C_of_reads (h1 := fun _ => rfl) (hA12 _ (Kd.reads_of_C HR0.out))); have HC905 := aM hC12; clear hA12 hC12 hi012 hsz12) | ((with_reducible refine gate_callee (f := 57) rfl ?_); refine goesL_ (some 28) rfl rfl Tryz.func57 (by kernel_rfl) rfl #[.slice A12 ((l0.take ((wrap64 (a1 + a2)) : Int).toNat).drop (a1 : Int).toNat).length (c0 - a1.toNat)] rfl (by (try simp only [List.map_toArray, List.map_cons, List.map_nil]); first | done | (rw [show ((l0.take ((wrap64 (a1 + a2)) : Int).toNat).drop (a1 : Int).toNat).length = ((wrap64 (a1 + a2)).toNat - a1.toNat) from (by rw [List.length_drop, List.length_take]; have h_ : ((wrap64 (a1 + a2)) : Int) ≤ (l0.length : Int) := DT; omega)] <;> rfl) | rfl | (simp only [List.length_drop, List.length_take]; rfl)) ?_; (with_reducible refine (impl_cloned.calls ?side1 ?side2 A11.out).mono ?_); (case side1 => have X_ := HR905.out; exact TC); (case side2 => exact HC905.out); rintro e w13 ⟨v907, rfl, ho0, hb⟩; refine ⟨_, rfl, ?_⟩; have HO908 := aM (Kd.R_lower ho0 (below_size TB)); replace HB := bS HB hb; clear ho0 hb))
      go_ret2
      exact ⟨_, TE, by have X_ := HO908.out; exact TR, TB⟩
    · replace c7 := bF c7
      subst c7
      replace H := ifF H
      simp only [Option.some.injEq, Prod.mk.injEq] at H
      obtain ⟨rfl, rfl⟩ := H
      go_enter Tryz.func96, Tryz.ntmps96
      go_wp2_with (first | ((with_reducible refine gate_callee (f := 47) rfl ?_); refine gL (some 11) Tryz.func47 #[.int .i64 a1, .int .i64 0, .int .i64 (l0.length : Int)] ?_; (with_reducible refine (impl_within.calls A4.out).mono ?_); rintro e w' ⟨rfl, ⟨nd, rfl⟩⟩; refine ⟨_, rfl, ?_⟩) | (go_at_call 47; (with_reducible refine (impl_within.calls A6.out).mono ?_); rintro e w' ⟨rfl, ⟨nd, rfl⟩⟩))
      go_ret2
      exact ⟨_, TE, by first | exact Kd.R_nil _ _ _ _ _ | exact Kd.N_nil _ _ _ _ _ | exact Kd.V_nil _ _ _ _ _ | exact Kd.Q_nil _ _ _ _ _ | exact Kd.S_nil _ _ _ _ _, TB⟩
  · replace c5 := bF c5
    subst c5
    replace H := ifF H
    simp only [Option.some.injEq, Prod.mk.injEq] at H
    obtain ⟨rfl, rfl⟩ := H
    go_enter Tryz.func96, Tryz.ntmps96
    go_wp2_with (first | ((with_reducible refine gate_callee (f := 47) rfl ?_); refine gL (some 11) Tryz.func47 #[.int .i64 a1, .int .i64 0, .int .i64 (l0.length : Int)] ?_; (with_reducible refine (impl_within.calls A4.out).mono ?_); rintro e w' ⟨rfl, ⟨nd, rfl⟩⟩; refine ⟨_, rfl, ?_⟩))
    go_ret2
    exact ⟨_, TE, by first | exact Kd.R_nil _ _ _ _ _ | exact Kd.N_nil _ _ _ _ _ | exact Kd.V_nil _ _ _ _ _ | exact Kd.Q_nil _ _ _ _ _ | exact Kd.S_nil _ _ _ _ _, TB⟩
def impl_GetPart.j0 : Nat → List Int → Int → Int → Bool → Option (List Int × Int × Bool)
  | 0, _, _, _, _ => none
  | k + 1, x0, x9, x10, x26 => if x26 = true then (some (([] : List Int), 0, false)) else ((impl_Slice.f x0 x10 x9).bind fun bt912 => (if bt912.2 = true then (some (bt912.1, wrap64 (x10 + x9), true)) else (some (([] : List Int), 0, false))))
def impl_GetPart.f (k : Nat) (l0 : List Int) (a1 : Int) (a2 : Int) : Option (List Int × Int × Bool) := (impl_GetVar.f k l0 a1).bind fun bt909 => (if bt909.2.2 = true then (impl_GetPart.j0 k l0 bt909.1 bt909.2.1 (decide (bt909.1 > a2))) else (impl_GetPart.j0 k l0 bt909.1 bt909.2.1 true))
theorem impl_GetPart.mono_l : ∀ k, (∀ y0 y1 y2 y3, LeO (impl_GetPart.j0 k y0 y1 y2 y3) (impl_GetPart.j0 (k + 1) y0 y1 y2 y3))
  | 0 => fun _ _ _ _ r h => by simp [impl_GetPart.j0] at h
  | k + 1 => by
    have m0_ := @impl_GetVar.mono
    have ih0 := impl_GetPart.mono_l k
    · intro y0 y1 y2 y3
      unfold impl_GetPart.j0
      exact LM
theorem impl_GetPart.mono : ∀ a0 a1 a2 k, LeO (impl_GetPart.f k a0 a1 a2) (impl_GetPart.f (k + 1) a0 a1 a2) := by
  intro a0 a1 a2 k;have m0_ := @impl_GetVar.mono;have ih0 := impl_GetPart.mono_l k;unfold impl_GetPart.f;exact LM
theorem impl_GetPart.calls {k : Nat} {A0 : Option Addr} {c0 : Nat} {l0 : List Int} {a1 : Int} {a2 : Int} {r1 : List Int} {r2 : Int} {r3 : Bool} {w : World} (hr0 : Kd.C (Kd.int .u8) w A0 l0.length l0) (hc0 : l0.length ≤ c0) (h : impl_GetPart.f k l0 a1 a2 = some (r1, r2, r3)) :
    Calls Tryz.prog 88 #[.slice A0 l0.length c0, .int .i64 a1, .int .i64 a2] w fun e w' => ∃ v0_ : Value, e = .returned (.tuple #[v0_, .int .i64 r2, .bool r3]) ∧ Kd.R (Kd.int .u8) 5 w' w.heap.size (fun _ => True) v0_ r1 ∧ Below w.heap.size w w' := by
  have HR0 := aM hr0
  have HC0 := aM hc0
  clear hr0 hc0
  have HB := aM (Below.refl w.heap.size w)
  have H := h
  clear h
  unfold impl_GetPart.f at H
  replace H := bE H
  obtain ⟨⟨tq1, tq2, tq3⟩, A4, H⟩ := H
  dsimp only at H
  have HCq1 := aM H
  clear H
  go_enter Tryz.func88, Tryz.ntmps88
  go_upto_region 2 with (first | ((with_reducible refine gate_callee (f := 58) rfl ?_); refine gL (some 16) Tryz.func58 #[.slice A0 l0.length c0, .int .i64 a1] ?_; (with_reducible refine (impl_GetVar.calls ?side1 ?side2 A4.out).mono ?_); (case side1 => have X_ := HR0.out; exact TC); (case side2 => exact HC0.out); rintro e w' ⟨rfl, ⟨nd, rfl⟩⟩; refine ⟨_, rfl, ?_⟩))
  (try simp only [NP])
  go_cut [26] (fun vq1 wc => ∃ (kq : Nat) (xq1 : Bool), vq1 = .bool xq1 ∧ Aside0 (impl_GetPart.j0 kq l0 tq1 tq2 xq1 = some (r1, r2, r3)) ∧ Aside0 (kq ≤ k) ∧ Aside0 (Below w.heap.size w wc))
  case first =>
   have H := HCq1.out
   clear HCq1
   by_cases cq1 : tq3 = true
   ·subst cq1
    replace H := ifT H
    have H' := aM H
    clear H
    go_wp2
    go_meet
    case rel => exact ⟨_, (decide (tq1 > a2)), TF, H', ⟨by first | omega | exact Nat.le_refl _⟩, ⟨TB⟩⟩
   ·replace cq1 := bF cq1
    subst cq1
    replace H := ifF H
    have H' := aM H
    clear H
    go_wp2
    go_meet
    case rel => exact ⟨_, (true), TF, H', ⟨by first | omega | exact Nat.le_refl _⟩, ⟨TB⟩⟩
  case rest =>
   clear HCq1
   obtain ⟨kq, xq1, rfl, HA, HJq1, HB⟩ := hcut
   cases kq with
   | zero => exact absurd HA.out (by simp [impl_GetPart.j0])
   | succ kj4 =>
    have H := HA.out
    clear HA
    simp only [impl_GetPart.j0] at H
    by_cases c7 : xq1 = true
    ·subst c7
     replace H := ifT H
     simp only [Option.some.injEq, Prod.mk.injEq] at H
     obtain ⟨rfl, rfl, rfl⟩ := H
     go_wp2
     go_ret3
     exact ⟨_, TE, by first | exact Kd.R_nil _ _ _ _ _ | exact Kd.N_nil _ _ _ _ _ | exact Kd.V_nil _ _ _ _ _ | exact Kd.Q_nil _ _ _ _ _ | exact Kd.S_nil _ _ _ _ _, TB⟩
    ·replace c7 := bF c7
     subst c7
     replace H := ifF H
     replace H := bE H
     obtain ⟨⟨tq4, tq5⟩, Aq1, H⟩ := H
     dsimp only at H
     by_cases c9 : tq5 = true
     ·subst c9
      replace H := ifT H
      simp only [Option.some.injEq, Prod.mk.injEq] at H
      obtain ⟨rfl, rfl, rfl⟩ := H
      go_wp2_with (first | ((with_reducible refine gate_callee (f := 96) rfl ?_); refine gL (some 31) Tryz.func96 #[.slice A0 l0.length c0, .int .i64 tq2, .int .i64 tq1] ?_; (with_reducible refine (impl_Slice.calls ?side1 ?side2 Aq1.out).mono ?_); (case side1 => have X_ := (Kd.C_below HR0.out HB.out); exact TC); (case side2 => exact HC0.out); rintro e wq1 ⟨vq2, rfl, ho0, hb⟩; refine ⟨_, rfl, ?_⟩; have HOq1 := aM (Kd.R_lower ho0 (below_size TB)); replace HB := bS HB hb; clear ho0 hb))
      go_ret3
      exact ⟨_, TE, by have X_ := HOq1.out; exact TR, TB⟩
     ·replace c9 := bF c9
      subst c9
      replace H := ifF H
      simp only [Option.some.injEq, Prod.mk.injEq] at H
      obtain ⟨rfl, rfl, rfl⟩ := H
      go_wp2_with (first | ((with_reducible refine gate_callee (f := 96) rfl ?_); refine gL (some 31) Tryz.func96 #[.slice A0 l0.length c0, .int .i64 tq2, .int .i64 tq1] ?_; (with_reducible refine (impl_Slice.calls ?side1 ?side2 Aq1.out).mono ?_); (case side1 => have X_ := (Kd.C_below HR0.out HB.out); exact TC); (case side2 => exact HC0.out); rintro e wq1 ⟨vq2, rfl, ho0, hb⟩; refine ⟨_, rfl, ?_⟩; have HOq1 := aM (Kd.R_lower ho0 (below_size TB)); replace HB := bS HB hb; clear ho0 hb))
      go_ret3
      exact ⟨_, TE, by first | exact Kd.R_nil _ _ _ _ _ | exact Kd.N_nil _ _ _ _ _ | exact Kd.V_nil _ _ _ _ _ | exact Kd.Q_nil _ _ _ _ _ | exact Kd.S_nil _ _ _ _ _, TB⟩
end Go.Proofs.YtanpaipapcjpoaaGreatDoor.Q
