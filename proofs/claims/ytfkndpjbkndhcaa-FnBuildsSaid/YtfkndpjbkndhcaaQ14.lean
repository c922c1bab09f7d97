/- Functions of the program as plain Lean functions, and that a call of each comes to what its function tells. Written by a program of this seat. -/
import Derived.Test.YtfkndpjbkndhcaaQ0
import Derived.Test.YtfkndpjbkndhcaaQ5
import Derived.Test.YtfkndpjbkndhcaaQ9
import Derived.Test.YtfkndpjbkndhcaaQ10
import Derived.Test.YtfkndpjbkndhcaaQ12
namespace Go.Proofs.Ytfkndpjbkndhcaa.Q
open Go.RowKit Go.Proofs.YtfkndpjbkndhcaaW.PrintWords Go.Proofs.YtfkndpjbkndhcaaW.PrintLast Go.Proofs.YtfkndpjbkndhcaaW.PrintMore
attribute [local go_sem] max2_int min2_int max_two min_two max_three min_three max_four min_four   -- for this text's walks alone
set_option linter.unusedVariables false
set_option linter.unusedSimpArgs false

/-! ### laws_sameBuild: function 15 -/
def laws_sameBuild.f (k : Nat) (a0_0 : Int) (l0_1 : List Int) (a1_0 : Int) (l1_1 : List Int) : Option (Bool) := if a0_0 = a1_0 then ((laws_same.f k l0_1 l1_1).bind fun t291 => (some t291)) else (some false)
theorem laws_sameBuild.mono : ∀ a0 a1 a2 a3 k, LeO (laws_sameBuild.f k a0 a1 a2 a3) (laws_sameBuild.f (k + 1) a0 a1 a2 a3) := by
  intro a0 a1 a2 a3 k
  have m0_ := @laws_same.mono
  unfold laws_sameBuild.f
  exact LM
set_option maxHeartbeats 40000000 in
set_option maxRecDepth 100000 in
theorem laws_sameBuild.calls (k : Nat) (a0_0 : Int) (A0_1 : Option Addr) (c0_1 : Nat) (l0_1 : List Int) (a1_0 : Int) (A1_1 : Option Addr) (c1_1 : Nat) (l1_1 : List Int) (r : Bool) (w : World) (hr0_1 : Kd.C (Kd.int .u8) w A0_1 l0_1.length l0_1) (hc0_1 : l0_1.length ≤ c0_1) (hr1_1 : Kd.C (Kd.int .u8) w A1_1 l1_1.length l1_1) (hc1_1 : l1_1.length ≤ c1_1) (h : laws_sameBuild.f k a0_0 l0_1 a1_0 l1_1 = some r) :
    Calls Try.prog 15 #[.agg #[.int .i64 a0_0, .slice A0_1 l0_1.length c0_1], .agg #[.int .i64 a1_0, .slice A1_1 l1_1.length c1_1]] w fun e w' => e = .returned (.bool r) ∧ Below w.heap.size w w' := by
  have hu31 := Try.underlying31
  have HR0_1 := aM hr0_1
  have HC0_1 := aM hc0_1
  clear hr0_1 hc0_1
  have HR1_1 := aM hr1_1
  have HC1_1 := aM hc1_1
  clear hr1_1 hc1_1
  have HB := aM (Below.refl w.heap.size w)
  have H := h
  clear h
  unfold laws_sameBuild.f at H
  by_cases c3 : a0_0 = a1_0
  · rw [if_pos c3] at H
    have c3b0 : (a0_0 == a1_0) = true := beq_iff_eq.mpr c3
    have c3b1 : (a0_0 != a1_0) = false := bne_eq_false_iff_eq.mpr c3
    clear c3
    replace H := bE H
    obtain ⟨t291, A4, H⟩ := H
    obtain rfl := Option.some.inj H
    go_enter Try.func15, Try.ntmps15
    go_wp2_with (first | ((with_reducible refine gate_dst (N := 2) rfl ?_); refine gBx 2 #[.int .i64 a0_0, .slice A0_1 l0_1.length c0_1] 31 ?_; intro gb289 hg w5 hbox hb; have BK289 := aM (hbox); have GW289 := aM ((by rw [hg]; exact (below_size TB) : w.heap.size ≤ gb289)); have GE289 := aM ((by rw [hg]; exact (below_size TB) : w.heap.size ≤ gb289)); replace HB := aM (below_step TB hb); clear hb hbox hg) | ((with_reducible refine gate_dst (N := 3) rfl ?_); refine gBx 3 #[.int .i64 a1_0, .slice A1_1 l1_1.length c1_1] 31 ?_; intro gb290 hg w6 hbox hb; have BK290 := aM (hbox); have GW290 := aM ((by rw [hg]; exact (below_size TB) : w.heap.size ≤ gb290)); have GE290 := aM ((by rw [hg]; exact (below_size TB) : w.heap.size ≤ gb290)); have NB289_290 := aM ((by rw [hg]; exact Nat.ne_of_lt (blk_lt (by have X_ := BK289.out; exact TX)) : gb289 ≠ gb290)); have NB290_289 := aM ((by rw [hg]; exact Nat.ne_of_gt (blk_lt (by have X_ := BK289.out; exact TX)) : gb290 ≠ gb289)); replace BK289 := aM (blk_below (by have X_ := BK289.out; exact TX) hb); replace HB := aM (below_step TB hb); clear hb hbox hg; have hnb7 := NB289_290.out; have hnc7 := NB290_289.out; obtain ⟨hcz8_0, hcz8_1⟩ := cz2 BK289.out; obtain ⟨hfz8_0, hfz8_1⟩ := fz2 BK289.out; obtain ⟨hcz9_0, hcz9_1⟩ := cz2 BK290.out; obtain ⟨hfz9_0, hfz9_1⟩ := fz2 BK290.out) | (go_at_call 17; (with_reducible refine (laws_same.calls k _ _ l0_1 _ _ l1_1 t291 _ ?side1 ?side2 ?side3 ?side4 A4.out).mono ?_); (case side1 => have X_ := (Kd.C_below HR0_1.out HB.out); exact TC); (case side2 => exact HC0_1.out); (case side3 => have X_ := (Kd.C_below HR1_1.out HB.out); exact TC); (case side4 => exact HC1_1.out); rintro e w' ⟨rfl, ⟨nd, rfl⟩⟩))
    go_ret
    exact ⟨by first | rfl | (simp [errW_none, errW_some] <;> rfl) | (simp [*, errW_none, errW_some] <;> rfl), TB⟩
  · rw [if_neg c3] at H
    have c3b0 : (a0_0 == a1_0) = false := beq_eq_false_iff_ne.mpr c3
    have c3b1 : (a0_0 != a1_0) = true := bne_iff_ne.mpr c3
    obtain rfl := Option.some.inj H
    go_enter Try.func15, Try.ntmps15
    go_wp2_with (first | ((with_reducible refine gate_dst (N := 2) rfl ?_); refine gBx 2 #[.int .i64 a0_0, .slice A0_1 l0_1.length c0_1] 31 ?_; intro gb289 hg w10 hbox hb; have BK289 := aM (hbox); have GW289 := aM ((by rw [hg]; exact (below_size TB) : w.heap.size ≤ gb289)); have GE289 := aM ((by rw [hg]; exact (below_size TB) : w.heap.size ≤ gb289)); replace HB := aM (below_step TB hb); clear hb hbox hg) | ((with_reducible refine gate_dst (N := 3) rfl ?_); refine gBx 3 #[.int .i64 a1_0, .slice A1_1 l1_1.length c1_1] 31 ?_; intro gb290 hg w11 hbox hb; have BK290 := aM (hbox); have GW290 := aM ((by rw [hg]; exact (below_size TB) : w.heap.size ≤ gb290)); have GE290 := aM ((by rw [hg]; exact (below_size TB) : w.heap.size ≤ gb290)); have NB289_290 := aM ((by rw [hg]; exact Nat.ne_of_lt (blk_lt (by have X_ := BK289.out; exact TX)) : gb289 ≠ gb290)); have NB290_289 := aM ((by rw [hg]; exact Nat.ne_of_gt (blk_lt (by have X_ := BK289.out; exact TX)) : gb290 ≠ gb289)); replace BK289 := aM (blk_below (by have X_ := BK289.out; exact TX) hb); replace HB := aM (below_step TB hb); clear hb hbox hg; have hnb12 := NB289_290.out; have hnc12 := NB290_289.out; obtain ⟨hcz13_0, hcz13_1⟩ := cz2 BK289.out; obtain ⟨hfz13_0, hfz13_1⟩ := fz2 BK289.out; obtain ⟨hcz14_0, hcz14_1⟩ := cz2 BK290.out; obtain ⟨hfz14_0, hfz14_1⟩ := fz2 BK290.out))
    go_ret
    exact ⟨by first | rfl | (simp [errW_none, errW_some] <;> rfl) | (simp [*, errW_none, errW_some] <;> rfl), TB⟩

/-! ### impl_Missing: function 41 -/
def impl_Missing.f (a0_0 : Int) (a0_1 : Int) (a0_2 : Int) (l0_3 : List (S48)) (a1_0 : Int) (l1_1 : List Int) : Option (Int) := (impl_AllParts.f a0_0 a0_1 a0_2 l0_3).bind fun t296 => ((impl_Without.f t296 a1_0).bind fun t297 => (some t297))
set_option maxHeartbeats 40000000 in
set_option maxRecDepth 100000 in
theorem impl_Missing.calls (a0_0 : Int) (a0_1 : Int) (a0_2 : Int) (A0_3 : Option Addr) (c0_3 : Nat) (l0_3 : List (S48)) (a1_0 : Int) (A1_1 : Option Addr) (c1_1 : Nat) (l1_1 : List Int) (r : Int) (w : World) (hr0_3 : Kd.C k48 w A0_3 l0_3.length l0_3) (hc0_3 : l0_3.length ≤ c0_3) (hr1_1 : Kd.C (Kd.int .u8) w A1_1 l1_1.length l1_1) (hc1_1 : l1_1.length ≤ c1_1) (h : impl_Missing.f a0_0 a0_1 a0_2 l0_3 a1_0 l1_1 = some r) :
    Calls Try.prog 41 #[.agg #[.int .i64 a0_0, .int .i64 a0_1, .int .i64 a0_2, .slice A0_3 l0_3.length c0_3], .agg #[.int .i64 a1_0, .slice A1_1 l1_1.length c1_1]] w fun e w' => e = .returned (.int .i64 r) ∧ Below w.heap.size w w' := by
  have hu28 := Try.underlying28
  have hu31 := Try.underlying31
  have HR0_3 := aM hr0_3
  have HC0_3 := aM hc0_3
  clear hr0_3 hc0_3
  have HR1_1 := aM hr1_1
  have HC1_1 := aM hc1_1
  clear hr1_1 hc1_1
  have HB := aM (Below.refl w.heap.size w)
  have H := h
  clear h
  unfold impl_Missing.f at H
  replace H := bE H
  obtain ⟨t296, A3, H⟩ := H
  replace H := bE H
  obtain ⟨t297, A4, H⟩ := H
  obtain rfl := Option.some.inj H
  go_enter Try.func41, Try.ntmps41
  try go_wp2_with (first | ((with_reducible refine gate_dst (N := 2) rfl ?_); refine gBx 2 #[.int .i64 a0_0, .int .i64 a0_1, .int .i64 a0_2, .slice A0_3 l0_3.length c0_3] 28 ?_; intro gb294 hg w5 hbox hb; have BK294 := aM (hbox); have GW294 := aM ((by rw [hg]; exact (below_size TB) : w.heap.size ≤ gb294)); have GE294 := aM ((by rw [hg]; exact (below_size TB) : w.heap.size ≤ gb294)); replace HB := aM (below_step TB hb); clear hb hbox hg) | ((with_reducible refine gate_dst (N := 3) rfl ?_); refine gBx 3 #[.int .i64 a1_0, .slice A1_1 l1_1.length c1_1] 31 ?_; intro gb295 hg w6 hbox hb; have BK295 := aM (hbox); have GW295 := aM ((by rw [hg]; exact (below_size TB) : w.heap.size ≤ gb295)); have GE295 := aM ((by rw [hg]; exact (below_size TB) : w.heap.size ≤ gb295)); have NB294_295 := aM ((by rw [hg]; exact Nat.ne_of_lt (blk_lt (by have X_ := BK294.out; exact TX)) : gb294 ≠ gb295)); have NB295_294 := aM ((by rw [hg]; exact Nat.ne_of_gt (blk_lt (by have X_ := BK294.out; exact TX)) : gb295 ≠ gb294)); replace BK294 := aM (blk_below (by have X_ := BK294.out; exact TX) hb); replace HB := aM (below_step TB hb); clear hb hbox hg))
  replace BK294 := aM (blk_drew BK294.out)
  replace BK295 := aM (blk_drew BK295.out)
  replace HB := aM (below_drew1 HB.out)
  refine start_ (n := 6) (S := fun w' => w'.cell? ⟨gb294, 0, none⟩ = some (.int .i64 a0_0) ∧ w'.cell? ⟨gb294, 1, none⟩ = some (.int .i64 a0_1) ∧ w'.cell? ⟨gb294, 2, none⟩ = some (.int .i64 a0_2) ∧ w'.cell? ⟨gb294, 3, none⟩ = some (.slice A0_3 l0_3.length c0_3) ∧ w'.cell? ⟨gb295, 0, none⟩ = some (.int .i64 a1_0) ∧ w'.cell? ⟨gb295, 1, none⟩ = some (.slice A1_1 l1_1.length c1_1)) (ds := []) (Array.replicate 6 false) (by kernel_rfl) rfl rfl ⟨(blk_cell BK294.out 0).trans rfl, (blk_cell BK294.out 1).trans rfl, (blk_cell BK294.out 2).trans rfl, (blk_cell BK294.out 3).trans rfl, (blk_cell BK295.out 0).trans rfl, (blk_cell BK295.out 1).trans rfl⟩ (fun hHeld => ?_)
  generalize w6.drew = w7 at BK294 BK295 HB hHeld ⊢
  refine pP 2 (some 7) ?_
  refine pT 0 (some 5) ?_
  refine pT 3 (some 8) ?_
  refine pO 1 (some 6) (fun K hK => ?_)
  refine gG Try.func39 #[.agg #[.int .i64 a0_0, .int .i64 a0_1, .int .i64 a0_2, .slice A0_3 l0_3.length c0_3]] ?_
  with_reducible refine (impl_AllParts.calls a0_0 a0_1 a0_2 _ _ l0_3 t296 _ ?side1 ?side2 A3.out).mono ?_
  (case side1 => have X_ := (Kd.C_below HR0_3.out HB.out); exact TC)
  (case side2 => exact HC0_3.out)
  rintro e w8 ⟨rfl, hb⟩
  refine ⟨_, rfl, ?_⟩
  have n0_ := aM (blk_below (by have X_ := BK294.out; exact TX) hb)
  have n1_ := aM (blk_below (by have X_ := BK295.out; exact TX) hb)
  have n2_ := aM (below_step TB hb)
  clear BK294
  clear BK295
  clear HB
  have BK294 := n0_
  have BK295 := n1_
  have HB := n2_
  clear n0_ n1_ n2_
  (try clear hb)
  (try clear hb2)
  (try clear hk)
  (try clear hi)
  refine hK.out _ _ ⟨(blk_cell BK294.out 0).trans rfl, (blk_cell BK294.out 1).trans rfl, (blk_cell BK294.out 2).trans rfl, (blk_cell BK294.out 3).trans rfl, (blk_cell BK295.out 0).trans rfl, (blk_cell BK295.out 1).trans rfl⟩ (fun hHeld => ?_)
  clear hK K
  refine nR ?_
  refine pO 4 (some 9) (fun K hK => ?_)
  refine gG Try.func21 #[.int .i64 t296, .int .i64 a1_0] ?_
  with_reducible refine (impl_Without.calls t296 a1_0 t297 _ A4.out).mono ?_
  rintro e w' ⟨rfl, ⟨nd, rfl⟩⟩
  refine ⟨_, rfl, ?_⟩
  refine hK.out _ _ ⟨(blk_cell BK294.out 0).trans rfl, (blk_cell BK294.out 1).trans rfl, (blk_cell BK294.out 2).trans rfl, (blk_cell BK294.out 3).trans rfl, (blk_cell BK295.out 0).trans rfl, (blk_cell BK295.out 1).trans rfl⟩ (fun hHeld => ?_)
  clear hK K
  refine nR ?_
  refine pP 5 (some 4) ?_
  refine done_ (by kernel_rfl) ?_
  try go_wp2
  go_ret
  exact ⟨by first | rfl | (simp [errW_none, errW_some] <;> rfl) | (simp [*, errW_none, errW_some] <;> rfl), TB⟩

/-! ### impl_Whole: function 16 -/
def impl_Whole.f (k : Nat) (a0_0 : Int) (a0_1 : Int) (a0_2 : Int) (l0_3 : List (S48)) (a1_0 : Int) (l1_1 : List Int) : Option (Bool) := if a0_0 = 0 then (some false) else ((impl_BuildOk.f k a0_0 a0_1 a0_2 l0_3 a1_0 l1_1).bind fun t300 => (if t300 = true then ((impl_Missing.f a0_0 a0_1 a0_2 l0_3 a1_0 l1_1).bind fun t301 => (some (t301 == 0))) else (some false)))
theorem impl_Whole.mono : ∀ a0 a1 a2 a3 a4 a5 k, LeO (impl_Whole.f k a0 a1 a2 a3 a4 a5) (impl_Whole.f (k + 1) a0 a1 a2 a3 a4 a5) := by
  intro a0 a1 a2 a3 a4 a5 k
  have m0_ := @impl_BuildOk.mono
  unfold impl_Whole.f
  exact LM
set_option maxHeartbeats 40000000 in
set_option maxRecDepth 100000 in
theorem impl_Whole.calls (k : Nat) (ab : Int) (ag : Int) (ae : Int) (aj : Option Addr) (ak : Nat) (ac : List (S48)) (af : Int) (ah : Option Addr) (ai : Nat) (ad : List Int) (r : Bool) (w : World) (aq : Kd.C k48 w aj ac.length ac) (ap : ac.length ≤ ak) (au : Kd.C (Kd.int .u8) w ah ad.length ad) (ar : ad.length ≤ ai) (h : impl_Whole.f k ab ag ae ac af ad = some r) :
  Calls Try.prog 16 #[.agg #[.int .i64 ab, .int .i64 ag, .int .i64 ae, .slice aj ac.length ak], .agg #[.int .i64 af, .slice ah ad.length ai]] w fun e w' => e = .returned (.bool r) ∧ Below w.heap.size w w' := by
 have hu28 := Try.underlying28
 have hu31 := Try.underlying31
 have al := aM aq
 have am := aM ap
 clear aq ap
 have ao := aM au
 have an := aM ar
 clear au ar
 have HB := aM (Below.refl w.heap.size w)
 have H := h
 clear h
 unfold impl_Whole.f at H
 by_cases c3 : ab = 0
 ·rw [if_pos c3] at H
  have c3b0 : (ab == 0) = true := beq_iff_eq.mpr c3
  have c3b1 : (ab != 0) = false := bne_eq_false_iff_eq.mpr c3
  clear c3
  obtain rfl := Option.some.inj H
  go_enter Try.func16, Try.ntmps16
  go_wp2_with (first | ((with_reducible refine gate_dst (N := 2) rfl ?_); refine gBx 2 #[.int .i64 ab, .int .i64 ag, .int .i64 ae, .slice aj ac.length ak] 28 ?_; intro aa hg w4 hbox hb; have BK298 := aM (hbox); have GW298 := aM ((by rw [hg]; exact (below_size TB) : w.heap.size ≤ aa)); have GE298 := aM ((by rw [hg]; exact (below_size TB) : w.heap.size ≤ aa)); replace HB := aM (below_step TB hb); clear hb hbox hg) | ((with_reducible refine gate_dst (N := 3) rfl ?_); refine gBx 3 #[.int .i64 af, .slice ah ad.length ai] 31 ?_; intro gb299 hg w5 hbox hb; have BK299 := aM (hbox); have GW299 := aM ((by rw [hg]; exact (below_size TB) : w.heap.size ≤ gb299)); have GE299 := aM ((by rw [hg]; exact (below_size TB) : w.heap.size ≤ gb299)); have NB298_299 := aM ((by rw [hg]; exact Nat.ne_of_lt (blk_lt (by have X_ := BK298.out; exact TX)) : aa ≠ gb299)); have NB299_298 := aM ((by rw [hg]; exact Nat.ne_of_gt (blk_lt (by have X_ := BK298.out; exact TX)) : gb299 ≠ aa)); replace BK298 := aM (blk_below (by have X_ := BK298.out; exact TX) hb); replace HB := aM (below_step TB hb); clear hb hbox hg; have hnb6 := NB298_299.out; have hnc6 := NB299_298.out; obtain ⟨hcz7_0, hcz7_1, hcz7_2, hcz7_3⟩ := cz4 BK298.out; obtain ⟨hfz7_0, hfz7_1, hfz7_2, hfz7_3⟩ := fz4 BK298.out))
  go_ret
  exact ⟨by first | rfl | (simp [errW_none, errW_some] <;> rfl) | (simp [*, errW_none, errW_some] <;> rfl), TB⟩
 ·rw [if_neg c3] at H
  have c3b0 : (ab == 0) = false := beq_eq_false_iff_ne.mpr c3
  have c3b1 : (ab != 0) = true := bne_iff_ne.mpr c3
  replace H := bE H
  obtain ⟨t300, A8, H⟩ := H
  by_cases c9 : t300 = true
  ·subst c9
   replace H := ifT H
   replace H := bE H
   obtain ⟨t301, A10, H⟩ := H
   obtain rfl := Option.some.inj H
   go_enter Try.func16, Try.ntmps16
   go_wp2_with (first | ((with_reducible refine gate_dst (N := 2) rfl ?_); refine gBx 2 #[.int .i64 ab, .int .i64 ag, .int .i64 ae, .slice aj ac.length ak] 28 ?_; intro aa hg w11 hbox hb; have BK298 := aM (hbox); have GW298 := aM ((by rw [hg]; exact (below_size TB) : w.heap.size ≤ aa)); have GE298 := aM ((by rw [hg]; exact (below_size TB) : w.heap.size ≤ aa)); replace HB := aM (below_step TB hb); clear hb hbox hg) | ((with_reducible refine gate_dst (N := 3) rfl ?_); refine gBx 3 #[.int .i64 af, .slice ah ad.length ai] 31 ?_; intro gb299 hg w12 hbox hb; have BK299 := aM (hbox); have GW299 := aM ((by rw [hg]; exact (below_size TB) : w.heap.size ≤ gb299)); have GE299 := aM ((by rw [hg]; exact (below_size TB) : w.heap.size ≤ gb299)); have NB298_299 := aM ((by rw [hg]; exact Nat.ne_of_lt (blk_lt (by have X_ := BK298.out; exact TX)) : aa ≠ gb299)); have NB299_298 := aM ((by rw [hg]; exact Nat.ne_of_gt (blk_lt (by have X_ := BK298.out; exact TX)) : gb299 ≠ aa)); replace BK298 := aM (blk_below (by have X_ := BK298.out; exact TX) hb); replace HB := aM (below_step TB hb); clear hb hbox hg; have hnb13 := NB298_299.out; have hnc13 := NB299_298.out; obtain ⟨hcz14_0, hcz14_1, hcz14_2, hcz14_3⟩ := cz4 BK298.out; obtain ⟨hfz14_0, hfz14_1, hfz14_2, hfz14_3⟩ := fz4 BK298.out; obtain ⟨hcz15_0, hcz15_1⟩ := cz2 BK299.out; obtain ⟨hfz15_0, hfz15_1⟩ := fz2 BK299.out) | (go_at_call 42; (with_reducible refine (impl_BuildOk.calls k ab ag ae _ _ ac af _ _ ad true _ ?side1 ?side2 ?side3 ?side4 A8.out).mono ?_); (case side1 => have X_ := (Kd.C_below al.out HB.out); exact TC); (case side2 => exact am.out); (case side3 => have X_ := (Kd.C_below ao.out HB.out); exact TC); (case side4 => exact an.out); rintro e w16 ⟨rfl, hb⟩; replace BK298 := aM (blk_below (by have X_ := BK298.out; exact TX) hb); replace BK299 := aM (blk_below (by have X_ := BK299.out; exact TX) hb); replace HB := aM (below_step TB hb); clear hb; obtain ⟨hcz17_0, hcz17_1, hcz17_2, hcz17_3⟩ := cz4 BK298.out; obtain ⟨hfz17_0, hfz17_1, hfz17_2, hfz17_3⟩ := fz4 BK298.out; obtain ⟨hcz18_0, hcz18_1⟩ := cz2 BK299.out; obtain ⟨hfz18_0, hfz18_1⟩ := fz2 BK299.out) | (go_at_call 41; (with_reducible refine (impl_Missing.calls ab ag ae _ _ ac af _ _ ad t301 _ ?side1 ?side2 ?side3 ?side4 A10.out).mono ?_); (case side1 => have X_ := (Kd.C_below al.out HB.out); exact TC); (case side2 => exact am.out); (case side3 => have X_ := (Kd.C_below ao.out HB.out); exact TC); (case side4 => exact an.out); rintro e w19 ⟨rfl, hb⟩; replace BK298 := aM (blk_below (by have X_ := BK298.out; exact TX) hb); replace BK299 := aM (blk_below (by have X_ := BK299.out; exact TX) hb); replace HB := aM (below_step TB hb); clear hb))
   go_ret
   exact ⟨by first | rfl | (simp [errW_none, errW_some] <;> rfl) | (simp [*, errW_none, errW_some] <;> rfl), TB⟩
  ·replace c9 := Bool.eq_false_iff.mpr c9
   subst c9
   replace H := ifF H
   obtain rfl := Option.some.inj H
   go_enter Try.func16, Try.ntmps16
   go_wp2_with (first | ((with_reducible refine gate_dst (N := 2) rfl ?_); refine gBx 2 #[.int .i64 ab, .int .i64 ag, .int .i64 ae, .slice aj ac.length ak] 28 ?_; intro aa hg w20 hbox hb; have BK298 := aM (hbox); have GW298 := aM ((by rw [hg]; exact (below_size TB) : w.heap.size ≤ aa)); have GE298 := aM ((by rw [hg]; exact (below_size TB) : w.heap.size ≤ aa)); replace HB := aM (below_step TB hb); clear hb hbox hg) | ((with_reducible refine gate_dst (N := 3) rfl ?_); refine gBx 3 #[.int .i64 af, .slice ah ad.length ai] 31 ?_; intro gb299 hg w21 hbox hb; have BK299 := aM (hbox); have GW299 := aM ((by rw [hg]; exact (below_size TB) : w.heap.size ≤ gb299)); have GE299 := aM ((by rw [hg]; exact (below_size TB) : w.heap.size ≤ gb299)); have NB298_299 := aM ((by rw [hg]; exact Nat.ne_of_lt (blk_lt (by have X_ := BK298.out; exact TX)) : aa ≠ gb299)); have NB299_298 := aM ((by rw [hg]; exact Nat.ne_of_gt (blk_lt (by have X_ := BK298.out; exact TX)) : gb299 ≠ aa)); replace BK298 := aM (blk_below (by have X_ := BK298.out; exact TX) hb); replace HB := aM (below_step TB hb); clear hb hbox hg; have hnb22 := NB298_299.out; have hnc22 := NB299_298.out; obtain ⟨hcz23_0, hcz23_1, hcz23_2, hcz23_3⟩ := cz4 BK298.out; obtain ⟨hfz23_0, hfz23_1, hfz23_2, hfz23_3⟩ := fz4 BK298.out; obtain ⟨hcz24_0, hcz24_1⟩ := cz2 BK299.out; obtain ⟨hfz24_0, hfz24_1⟩ := fz2 BK299.out) | (go_at_call 42; (with_reducible refine (impl_BuildOk.calls k ab ag ae _ _ ac af _ _ ad false _ ?side1 ?side2 ?side3 ?side4 A8.out).mono ?_); (case side1 => have X_ := (Kd.C_below al.out HB.out); exact TC); (case side2 => exact am.out); (case side3 => have X_ := (Kd.C_below ao.out HB.out); exact TC); (case side4 => exact an.out); rintro e w25 ⟨rfl, hb⟩; replace BK298 := aM (blk_below (by have X_ := BK298.out; exact TX) hb); replace BK299 := aM (blk_below (by have X_ := BK299.out; exact TX) hb); replace HB := aM (below_step TB hb); clear hb))
   go_ret
   exact ⟨by first | rfl | (simp [errW_none, errW_some] <;> rfl) | (simp [*, errW_none, errW_some] <;> rfl), TB⟩

end Go.Proofs.Ytfkndpjbkndhcaa.Q
