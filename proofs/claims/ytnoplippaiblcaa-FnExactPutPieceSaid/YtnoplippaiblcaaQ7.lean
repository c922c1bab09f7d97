/- Functions of the program as plain Lean functions, and that a call of each comes to what its function tells. Written by a program of this seat. -/
import Derived.Test.YtnoplippaiblcaaQ0
import Derived.Test.YtnoplippaiblcaaQ5
import Derived.Test.YtnoplippaiblcaaQ6
namespace Go.Proofs.Ytnoplippaiblcaa.Q
open Go.RowKit Go.Proofs.YtnoplippaiblcaaW.PrintWords Go.Proofs.YtnoplippaiblcaaW.PrintLast Go.Proofs.YtnoplippaiblcaaW.PrintMore
attribute [local go_sem] max2_int min2_int max_two min_two max_three min_three max_four min_four   -- for this text's walks alone
set_option linter.unusedVariables false
set_option linter.unusedSimpArgs false

/-! ### spec_Missing: function 13 -/
def spec_Missing.f (a0_0 : Int) (a0_1 : Int) (a0_2 : Int) (l0_3 : List (S72)) (a1_0 : Int) (l1_1 : List Int) : Option (Int) := (spec_AllParts.f a0_0 a0_1 a0_2 l0_3).bind fun t113 => ((spec_Without.f t113 a1_0).bind fun t114 => (some t114))
set_option maxHeartbeats 40000000 in
set_option maxRecDepth 100000 in
theorem spec_Missing.calls (a0_0 : Int) (a0_1 : Int) (a0_2 : Int) (A0_3 : Option Addr) (c0_3 : Nat) (l0_3 : List (S72)) (a1_0 : Int) (A1_1 : Option Addr) (c1_1 : Nat) (l1_1 : List Int) (r : Int) (w : World) (hr0_3 : Kd.C k72 w A0_3 l0_3.length l0_3) (hc0_3 : l0_3.length ≤ c0_3) (hr1_1 : Kd.C (Kd.int .u8) w A1_1 l1_1.length l1_1) (hc1_1 : l1_1.length ≤ c1_1) (h : spec_Missing.f a0_0 a0_1 a0_2 l0_3 a1_0 l1_1 = some r) :
    Calls Try.prog 13 #[.agg #[.int .i64 a0_0, .int .i64 a0_1, .int .i64 a0_2, .slice A0_3 l0_3.length c0_3], .agg #[.int .i64 a1_0, .slice A1_1 l1_1.length c1_1]] w fun e w' => e = .returned (.int .i64 r) ∧ Below w.heap.size w w' := by
  have hu33 := Try.underlying33
  have hu35 := Try.underlying35
  have HR0_3 := aM hr0_3
  have HC0_3 := aM hc0_3
  clear hr0_3 hc0_3
  have HR1_1 := aM hr1_1
  have HC1_1 := aM hc1_1
  clear hr1_1 hc1_1
  have HB := aM (Below.refl w.heap.size w)
  have H := h
  clear h
  unfold spec_Missing.f at H
  replace H := bE H
  obtain ⟨t113, A3, H⟩ := H
  replace H := bE H
  obtain ⟨t114, A4, H⟩ := H
  obtain rfl := Option.some.inj H
  go_enter Try.func13, Try.ntmps13
  try go_wp2_with (first | ((with_reducible refine gate_dst (N := 2) rfl ?_); refine gBx 2 #[.int .i64 a0_0, .int .i64 a0_1, .int .i64 a0_2, .slice A0_3 l0_3.length c0_3] 33 ?_; intro gb111 hg w5 hbox hb; have BK111 := aM (hbox); have GW111 := aM ((by rw [hg]; exact (below_size TB) : w.heap.size ≤ gb111)); have GE111 := aM ((by rw [hg]; exact (below_size TB) : w.heap.size ≤ gb111)); replace HB := aM (below_step TB hb); clear hb hbox hg) | ((with_reducible refine gate_dst (N := 3) rfl ?_); refine gBx 3 #[.int .i64 a1_0, .slice A1_1 l1_1.length c1_1] 35 ?_; intro gb112 hg w6 hbox hb; have BK112 := aM (hbox); have GW112 := aM ((by rw [hg]; exact (below_size TB) : w.heap.size ≤ gb112)); have GE112 := aM ((by rw [hg]; exact (below_size TB) : w.heap.size ≤ gb112)); have NB111_112 := aM ((by rw [hg]; exact Nat.ne_of_lt (blk_lt (by have X_ := BK111.out; exact TX)) : gb111 ≠ gb112)); have NB112_111 := aM ((by rw [hg]; exact Nat.ne_of_gt (blk_lt (by have X_ := BK111.out; exact TX)) : gb112 ≠ gb111)); replace BK111 := aM (blk_below (by have X_ := BK111.out; exact TX) hb); replace HB := aM (below_step TB hb); clear hb hbox hg))
  replace BK111 := aM (blk_drew BK111.out)
  replace BK112 := aM (blk_drew BK112.out)
  replace HB := aM (below_drew1 HB.out)
  refine start_ (n := 6) (S := fun w' => w'.cell? ⟨gb111, 0, none⟩ = some (.int .i64 a0_0) ∧ w'.cell? ⟨gb111, 1, none⟩ = some (.int .i64 a0_1) ∧ w'.cell? ⟨gb111, 2, none⟩ = some (.int .i64 a0_2) ∧ w'.cell? ⟨gb111, 3, none⟩ = some (.slice A0_3 l0_3.length c0_3) ∧ w'.cell? ⟨gb112, 0, none⟩ = some (.int .i64 a1_0) ∧ w'.cell? ⟨gb112, 1, none⟩ = some (.slice A1_1 l1_1.length c1_1)) (ds := []) (Array.replicate 6 false) (by kernel_rfl) rfl rfl ⟨(blk_cell BK111.out 0).trans rfl, (blk_cell BK111.out 1).trans rfl, (blk_cell BK111.out 2).trans rfl, (blk_cell BK111.out 3).trans rfl, (blk_cell BK112.out 0).trans rfl, (blk_cell BK112.out 1).trans rfl⟩ (fun hHeld => ?_)
  generalize w6.drew = w7 at BK111 BK112 HB hHeld ⊢
  refine pP 2 (some 7) ?_
  refine pT 0 (some 5) ?_
  refine pT 3 (some 8) ?_
  refine pO 1 (some 6) (fun K hK => ?_)
  refine gG Try.func43 #[.agg #[.int .i64 a0_0, .int .i64 a0_1, .int .i64 a0_2, .slice A0_3 l0_3.length c0_3]] ?_
  with_reducible refine (spec_AllParts.calls a0_0 a0_1 a0_2 _ _ l0_3 t113 _ ?side1 ?side2 A3.out).mono ?_
  (case side1 => have X_ := (Kd.C_below HR0_3.out HB.out); exact TC)
  (case side2 => exact HC0_3.out)
  rintro e w8 ⟨rfl, hb⟩
  refine ⟨_, rfl, ?_⟩
  have n0_ := aM (blk_below (by have X_ := BK111.out; exact TX) hb)
  have n1_ := aM (blk_below (by have X_ := BK112.out; exact TX) hb)
  have n2_ := aM (below_step TB hb)
  clear BK111
  clear BK112
  clear HB
  have BK111 := n0_
  have BK112 := n1_
  have HB := n2_
  clear n0_ n1_ n2_
  (try clear hb)
  (try clear hb2)
  (try clear hk)
  (try clear hi)
  refine hK.out _ _ ⟨(blk_cell BK111.out 0).trans rfl, (blk_cell BK111.out 1).trans rfl, (blk_cell BK111.out 2).trans rfl, (blk_cell BK111.out 3).trans rfl, (blk_cell BK112.out 0).trans rfl, (blk_cell BK112.out 1).trans rfl⟩ (fun hHeld => ?_)
  clear hK K
  refine nR ?_
  refine pO 4 (some 9) (fun K hK => ?_)
  refine gG Try.func42 #[.int .i64 t113, .int .i64 a1_0] ?_
  with_reducible refine (spec_Without.calls t113 a1_0 t114 _ A4.out).mono ?_
  rintro e w' ⟨rfl, ⟨nd, rfl⟩⟩
  refine ⟨_, rfl, ?_⟩
  refine hK.out _ _ ⟨(blk_cell BK111.out 0).trans rfl, (blk_cell BK111.out 1).trans rfl, (blk_cell BK111.out 2).trans rfl, (blk_cell BK111.out 3).trans rfl, (blk_cell BK112.out 0).trans rfl, (blk_cell BK112.out 1).trans rfl⟩ (fun hHeld => ?_)
  clear hK K
  refine nR ?_
  refine pP 5 (some 4) ?_
  refine done_ (by kernel_rfl) ?_
  try go_wp2
  go_ret
  exact ⟨by first | rfl | (simp [errW_none, errW_some] <;> rfl) | (simp [*, errW_none, errW_some] <;> rfl), TB⟩

/-! ### impl_Without: function 45 -/
def impl_Without.f (a0 : Int) (a1 : Int) : Option (Int) := (impl_SetOk.f a0).bind fun t143 => (if t143 = true then ((impl_SetOk.f a1).bind fun t144 => (if t144 = true then (some (Go.bits .andNot .i64 a0 a1)) else (some 0))) else (some 0))
set_option maxHeartbeats 40000000 in
set_option maxRecDepth 100000 in
theorem impl_Without.calls (a0 : Int) (a1 : Int) (r : Int) (w : World) (h : impl_Without.f a0 a1 = some r) :
    Calls Try.prog 45 #[.int .i64 a0, .int .i64 a1] w fun e w' => e = .returned (.int .i64 r) ∧ Drawn0 w w' := by
  have H := h
  clear h
  unfold impl_Without.f at H
  replace H := bE H
  obtain ⟨t143, A3, H⟩ := H
  by_cases c4 : t143 = true
  · subst c4
    replace H := ifT H
    replace H := bE H
    obtain ⟨t144, A5, H⟩ := H
    by_cases c6 : t144 = true
    · subst c6
      replace H := ifT H
      obtain rfl := Option.some.inj H
      go_enter Try.func45, Try.ntmps45
      go_wp2_with (first | ((with_reducible refine gate_callee (f := 61) rfl ?_); refine gL (some 6) Try.func61 #[.int .i64 a0] ?_; (with_reducible refine (impl_SetOk.calls a0 true _ A3.out).mono ?_); rintro e w' ⟨rfl, ⟨nd, rfl⟩⟩; refine ⟨_, rfl, ?_⟩) | (go_at_call 61; (with_reducible refine (impl_SetOk.calls a1 true _ A5.out).mono ?_); rintro e w' ⟨rfl, ⟨nd, rfl⟩⟩))
      go_ret
      exact ⟨by first | rfl | (simp; done) | (simp [*]; done), TD⟩
    · replace c6 := Bool.eq_false_iff.mpr c6
      subst c6
      replace H := ifF H
      obtain rfl := Option.some.inj H
      go_enter Try.func45, Try.ntmps45
      go_wp2_with (first | ((with_reducible refine gate_callee (f := 61) rfl ?_); refine gL (some 6) Try.func61 #[.int .i64 a0] ?_; (with_reducible refine (impl_SetOk.calls a0 true _ A3.out).mono ?_); rintro e w' ⟨rfl, ⟨nd, rfl⟩⟩; refine ⟨_, rfl, ?_⟩) | (go_at_call 61; (with_reducible refine (impl_SetOk.calls a1 false _ A5.out).mono ?_); rintro e w' ⟨rfl, ⟨nd, rfl⟩⟩))
      go_ret
      exact ⟨by first | rfl | (simp; done) | (simp [*]; done), TD⟩
  · replace c4 := Bool.eq_false_iff.mpr c4
    subst c4
    replace H := ifF H
    obtain rfl := Option.some.inj H
    go_enter Try.func45, Try.ntmps45
    go_wp2_with (first | ((with_reducible refine gate_callee (f := 61) rfl ?_); refine gL (some 6) Try.func61 #[.int .i64 a0] ?_; (with_reducible refine (impl_SetOk.calls a0 false _ A3.out).mono ?_); rintro e w' ⟨rfl, ⟨nd, rfl⟩⟩; refine ⟨_, rfl, ?_⟩))
    go_ret
    exact ⟨by first | rfl | (simp; done) | (simp [*]; done), TD⟩

/-! ### impl_Missing: function 16 -/
def impl_Missing.f (a0_0 : Int) (a0_1 : Int) (a0_2 : Int) (l0_3 : List (S72)) (a1_0 : Int) (l1_1 : List Int) : Option (Int) := (impl_AllParts.f a0_0 a0_1 a0_2 l0_3).bind fun t150 => ((impl_Without.f t150 a1_0).bind fun t151 => (some t151))
set_option maxHeartbeats 40000000 in
set_option maxRecDepth 100000 in
theorem impl_Missing.calls (a0_0 : Int) (a0_1 : Int) (a0_2 : Int) (A0_3 : Option Addr) (c0_3 : Nat) (l0_3 : List (S72)) (a1_0 : Int) (A1_1 : Option Addr) (c1_1 : Nat) (l1_1 : List Int) (r : Int) (w : World) (hr0_3 : Kd.C k72 w A0_3 l0_3.length l0_3) (hc0_3 : l0_3.length ≤ c0_3) (hr1_1 : Kd.C (Kd.int .u8) w A1_1 l1_1.length l1_1) (hc1_1 : l1_1.length ≤ c1_1) (h : impl_Missing.f a0_0 a0_1 a0_2 l0_3 a1_0 l1_1 = some r) :
    Calls Try.prog 16 #[.agg #[.int .i64 a0_0, .int .i64 a0_1, .int .i64 a0_2, .slice A0_3 l0_3.length c0_3], .agg #[.int .i64 a1_0, .slice A1_1 l1_1.length c1_1]] w fun e w' => e = .returned (.int .i64 r) ∧ Below w.heap.size w w' := by
  have hu33 := Try.underlying33
  have hu35 := Try.underlying35
  have HR0_3 := aM hr0_3
  have HC0_3 := aM hc0_3
  clear hr0_3 hc0_3
  have HR1_1 := aM hr1_1
  have HC1_1 := aM hc1_1
  clear hr1_1 hc1_1
  have HB := aM (Below.refl w.heap.size w)
  have H := h
  clear h
  unfold impl_Missing.f at H
  replace H := bE H
  obtain ⟨t150, A3, H⟩ := H
  replace H := bE H
  obtain ⟨t151, A4, H⟩ := H
  obtain rfl := Option.some.inj H
  go_enter Try.func16, Try.ntmps16
  try go_wp2_with (first | ((with_reducible refine gate_dst (N := 2) rfl ?_); refine gBx 2 #[.int .i64 a0_0, .int .i64 a0_1, .int .i64 a0_2, .slice A0_3 l0_3.length c0_3] 33 ?_; intro gb148 hg w5 hbox hb; have BK148 := aM (hbox); have GW148 := aM ((by rw [hg]; exact (below_size TB) : w.heap.size ≤ gb148)); have GE148 := aM ((by rw [hg]; exact (below_size TB) : w.heap.size ≤ gb148)); replace HB := aM (below_step TB hb); clear hb hbox hg) | ((with_reducible refine gate_dst (N := 3) rfl ?_); refine gBx 3 #[.int .i64 a1_0, .slice A1_1 l1_1.length c1_1] 35 ?_; intro gb149 hg w6 hbox hb; have BK149 := aM (hbox); have GW149 := aM ((by rw [hg]; exact (below_size TB) : w.heap.size ≤ gb149)); have GE149 := aM ((by rw [hg]; exact (below_size TB) : w.heap.size ≤ gb149)); have NB148_149 := aM ((by rw [hg]; exact Nat.ne_of_lt (blk_lt (by have X_ := BK148.out; exact TX)) : gb148 ≠ gb149)); have NB149_148 := aM ((by rw [hg]; exact Nat.ne_of_gt (blk_lt (by have X_ := BK148.out; exact TX)) : gb149 ≠ gb148)); replace BK148 := aM (blk_below (by have X_ := BK148.out; exact TX) hb); replace HB := aM (below_step TB hb); clear hb hbox hg))
  replace BK148 := aM (blk_drew BK148.out)
  replace BK149 := aM (blk_drew BK149.out)
  replace HB := aM (below_drew1 HB.out)
  refine start_ (n := 6) (S := fun w' => w'.cell? ⟨gb148, 0, none⟩ = some (.int .i64 a0_0) ∧ w'.cell? ⟨gb148, 1, none⟩ = some (.int .i64 a0_1) ∧ w'.cell? ⟨gb148, 2, none⟩ = some (.int .i64 a0_2) ∧ w'.cell? ⟨gb148, 3, none⟩ = some (.slice A0_3 l0_3.length c0_3) ∧ w'.cell? ⟨gb149, 0, none⟩ = some (.int .i64 a1_0) ∧ w'.cell? ⟨gb149, 1, none⟩ = some (.slice A1_1 l1_1.length c1_1)) (ds := []) (Array.replicate 6 false) (by kernel_rfl) rfl rfl ⟨(blk_cell BK148.out 0).trans rfl, (blk_cell BK148.out 1).trans rfl, (blk_cell BK148.out 2).trans rfl, (blk_cell BK148.out 3).trans rfl, (blk_cell BK149.out 0).trans rfl, (blk_cell BK149.out 1).trans rfl⟩ (fun hHeld => ?_)
  generalize w6.drew = w7 at BK148 BK149 HB hHeld ⊢
  refine pP 2 (some 7) ?_
  refine pT 0 (some 5) ?_
  refine pT 3 (some 8) ?_
  refine pO 1 (some 6) (fun K hK => ?_)
  refine gG Try.func46 #[.agg #[.int .i64 a0_0, .int .i64 a0_1, .int .i64 a0_2, .slice A0_3 l0_3.length c0_3]] ?_
  with_reducible refine (impl_AllParts.calls a0_0 a0_1 a0_2 _ _ l0_3 t150 _ ?side1 ?side2 A3.out).mono ?_
  (case side1 => have X_ := (Kd.C_below HR0_3.out HB.out); exact TC)
  (case side2 => exact HC0_3.out)
  rintro e w8 ⟨rfl, hb⟩
  refine ⟨_, rfl, ?_⟩
  have n0_ := aM (blk_below (by have X_ := BK148.out; exact TX) hb)
  have n1_ := aM (blk_below (by have X_ := BK149.out; exact TX) hb)
  have n2_ := aM (below_step TB hb)
  clear BK148
  clear BK149
  clear HB
  have BK148 := n0_
  have BK149 := n1_
  have HB := n2_
  clear n0_ n1_ n2_
  (try clear hb)
  (try clear hb2)
  (try clear hk)
  (try clear hi)
  refine hK.out _ _ ⟨(blk_cell BK148.out 0).trans rfl, (blk_cell BK148.out 1).trans rfl, (blk_cell BK148.out 2).trans rfl, (blk_cell BK148.out 3).trans rfl, (blk_cell BK149.out 0).trans rfl, (blk_cell BK149.out 1).trans rfl⟩ (fun hHeld => ?_)
  clear hK K
  refine nR ?_
  refine pO 4 (some 9) (fun K hK => ?_)
  refine gG Try.func45 #[.int .i64 t150, .int .i64 a1_0] ?_
  with_reducible refine (impl_Without.calls t150 a1_0 t151 _ A4.out).mono ?_
  rintro e w' ⟨rfl, ⟨nd, rfl⟩⟩
  refine ⟨_, rfl, ?_⟩
  refine hK.out _ _ ⟨(blk_cell BK148.out 0).trans rfl, (blk_cell BK148.out 1).trans rfl, (blk_cell BK148.out 2).trans rfl, (blk_cell BK148.out 3).trans rfl, (blk_cell BK149.out 0).trans rfl, (blk_cell BK149.out 1).trans rfl⟩ (fun hHeld => ?_)
  clear hK K
  refine nR ?_
  refine pP 5 (some 4) ?_
  refine done_ (by kernel_rfl) ?_
  try go_wp2
  go_ret
  exact ⟨by first | rfl | (simp [errW_none, errW_some] <;> rfl) | (simp [*, errW_none, errW_some] <;> rfl), TB⟩

end Go.Proofs.Ytnoplippaiblcaa.Q
