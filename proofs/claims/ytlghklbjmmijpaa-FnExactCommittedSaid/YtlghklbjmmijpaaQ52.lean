/- Functions of the program as plain Lean functions, and that a call of each comes to what its function tells. Written by a program of this seat. -/
import Derived.Test.YtlghklbjmmijpaaQ0
import Derived.Test.YtlghklbjmmijpaaQ13
import Derived.Test.YtlghklbjmmijpaaQ51
namespace Go.Proofs.Ytlghklbjmmijpaa.Q
open Go.RowKit Go.Proofs.YtlghklbjmmijpaaW.PrintWords Go.Proofs.YtlghklbjmmijpaaW.PrintLast Go.Proofs.YtlghklbjmmijpaaW.PrintMore
attribute [local go_sem] max2_int min2_int max_two min_two max_three min_three max_four min_four   -- for this text's walks alone
set_option linter.unusedVariables false
set_option linter.unusedSimpArgs false

/-! ### spec_Committed: function 35 -/
def spec_Committed.f (k : Nat) (l0_0 : List Int) (l0_1 : List Int) (a0_2 : Int) (a0_3 : Int) (a0_4 : Int) (l0_5 : List (S110)) (a1_0 : Int) (a1_1 : Int) (a1_2 : Int) (l1_3 : List (S119)) (l2 : List Int) : Option (Bool) := (spec_Holds.f k l0_0 l0_1 a0_2 a0_3 a0_4 l0_5 a1_0 l2).bind fun t1089 => (if t1089 = true then ((spec_Tells.f k a1_0 a1_1 a1_2 l1_3 l2).bind fun t1090 => (some t1090)) else (some false))
theorem spec_Committed.mono : ∀ a0 a1 a2 a3 a4 a5 a6 a7 a8 a9 a10 k, LeO (spec_Committed.f k a0 a1 a2 a3 a4 a5 a6 a7 a8 a9 a10) (spec_Committed.f (k + 1) a0 a1 a2 a3 a4 a5 a6 a7 a8 a9 a10) := by
  intro a0 a1 a2 a3 a4 a5 a6 a7 a8 a9 a10 k
  have m0_ := @spec_Holds.mono
  have m1_ := @spec_Tells.mono
  unfold spec_Committed.f
  exact LM
set_option maxHeartbeats 40000000 in
set_option maxRecDepth 100000 in
theorem spec_Committed.calls (k : Nat) (A0_0 : Option Addr) (c0_0 : Nat) (l0_0 : List Int) (A0_1 : Option Addr) (c0_1 : Nat) (l0_1 : List Int) (a0_2 : Int) (a0_3 : Int) (a0_4 : Int) (A0_5 : Option Addr) (c0_5 : Nat) (l0_5 : List (S110)) (a1_0 : Int) (a1_1 : Int) (a1_2 : Int) (A1_3 : Option Addr) (c1_3 : Nat) (l1_3 : List (S119)) (A2 : Option Addr) (c2 : Nat) (l2 : List Int) (r : Bool) (w : World) (hr0_0 : Kd.C (Kd.int .u8) w A0_0 l0_0.length l0_0) (hc0_0 : l0_0.length ≤ c0_0) (hr0_1 : Kd.C (Kd.int .u8) w A0_1 l0_1.length l0_1) (hc0_1 : l0_1.length ≤ c0_1) (hr0_5 : Kd.C k110 w A0_5 l0_5.length l0_5) (hc0_5 : l0_5.length ≤ c0_5) (hr1_3 : Kd.C k119 w A1_3 l1_3.length l1_3) (hc1_3 : l1_3.length ≤ c1_3) (hr2 : Kd.C (Kd.int .u8) w A2 l2.length l2) (hc2 : l2.length ≤ c2) (h : spec_Committed.f k l0_0 l0_1 a0_2 a0_3 a0_4 l0_5 a1_0 a1_1 a1_2 l1_3 l2 = some r) :
    Calls Try.prog 35 #[.agg #[.slice A0_0 l0_0.length c0_0, .slice A0_1 l0_1.length c0_1, .int .i64 a0_2, .int .i64 a0_3, .int .i64 a0_4, .slice A0_5 l0_5.length c0_5], .agg #[.int .i64 a1_0, .int .i64 a1_1, .int .i64 a1_2, .slice A1_3 l1_3.length c1_3], .slice A2 l2.length c2] w fun e w' => e = .returned (.bool r) ∧ Below w.heap.size w w' := by
  have hu33 := Try.underlying33
  have hu44 := Try.underlying44
  have HR0_0 := aM hr0_0
  have HC0_0 := aM hc0_0
  clear hr0_0 hc0_0
  have HR0_1 := aM hr0_1
  have HC0_1 := aM hc0_1
  clear hr0_1 hc0_1
  have HR0_5 := aM hr0_5
  have HC0_5 := aM hc0_5
  clear hr0_5 hc0_5
  have HR1_3 := aM hr1_3
  have HC1_3 := aM hc1_3
  clear hr1_3 hc1_3
  have HR2 := aM hr2
  have HC2 := aM hc2
  clear hr2 hc2
  have HB := aM (Below.refl w.heap.size w)
  have H := h
  clear h
  unfold spec_Committed.f at H
  replace H := bE H
  obtain ⟨t1089, A4, H⟩ := H
  go_enter Try.func35, Try.ntmps35
  go_wp2_with (first | ((with_reducible refine gate_dst (N := 3) rfl ?_); refine gBx 3 #[.slice A0_0 l0_0.length c0_0, .slice A0_1 l0_1.length c0_1, .int .i64 a0_2, .int .i64 a0_3, .int .i64 a0_4, .slice A0_5 l0_5.length c0_5] 33 ?_; intro gb1087 hg w6 hbox hb; have BK1087 := aM (hbox); have GW1087 := aM ((by rw [hg]; exact (below_size TB) : w.heap.size ≤ gb1087)); have GE1087 := aM ((by rw [hg]; exact (below_size TB) : w.heap.size ≤ gb1087)); replace HB := aM (below_step TB hb); clear hb hbox hg) | ((with_reducible refine gate_dst (N := 4) rfl ?_); refine gBx 4 #[.int .i64 a1_0, .int .i64 a1_1, .int .i64 a1_2, .slice A1_3 l1_3.length c1_3] 44 ?_; intro gb1088 hg w7 hbox hb; have BK1088 := aM (hbox); have GW1088 := aM ((by rw [hg]; exact (below_size TB) : w.heap.size ≤ gb1088)); have GE1088 := aM ((by rw [hg]; exact (below_size TB) : w.heap.size ≤ gb1088)); have NB1087_1088 := aM ((by rw [hg]; exact Nat.ne_of_lt (blk_lt (by have X_ := BK1087.out; exact TX)) : gb1087 ≠ gb1088)); have NB1088_1087 := aM ((by rw [hg]; exact Nat.ne_of_gt (blk_lt (by have X_ := BK1087.out; exact TX)) : gb1088 ≠ gb1087)); replace BK1087 := aM (blk_below (by have X_ := BK1087.out; exact TX) hb); replace HB := aM (below_step TB hb); clear hb hbox hg; have hnb8 := NB1087_1088.out; have hnc8 := NB1088_1087.out; obtain ⟨hcz9_0, hcz9_1, hcz9_2, hcz9_3, hcz9_4, hcz9_5⟩ := cz6 BK1087.out; obtain ⟨hfz9_0, hfz9_1, hfz9_2, hfz9_3, hfz9_4, hfz9_5⟩ := fz6 BK1087.out; obtain ⟨hcz10_0, hcz10_1, hcz10_2, hcz10_3⟩ := cz4 BK1088.out; obtain ⟨hfz10_0, hfz10_1, hfz10_2, hfz10_3⟩ := fz4 BK1088.out) | ((with_reducible refine gate_callee (f := 88) rfl ?_); (with_reducible refine gate_dst (N := 11) rfl ?_); generalize hG_ : wpList _ _ _ _ _ _ = G_))
  subst hG_
  by_cases c11 : t1089 = true
  · subst c11
    replace H := ifT H
    replace H := bE H
    obtain ⟨t1090, A12, H⟩ := H
    obtain rfl := Option.some.inj H
    go_wp2_with (first | ((with_reducible refine gate_callee (f := 88) rfl ?_); refine gL (some 11) Try.func88 #[.agg #[.slice A0_0 l0_0.length c0_0, .slice A0_1 l0_1.length c0_1, .int .i64 a0_2, .int .i64 a0_3, .int .i64 a0_4, .slice A0_5 l0_5.length c0_5], .int .i64 a1_0, .slice A2 l2.length c2] ?_; (with_reducible refine (spec_Holds.calls k _ _ l0_0 _ _ l0_1 a0_2 a0_3 a0_4 _ _ l0_5 a1_0 _ _ l2 true _ ?side1 ?side2 ?side3 ?side4 ?side5 ?side6 ?side7 ?side8 A4.out).mono ?_); (case side1 => repeat (first | exact (Kd.C_below HR0_0.out TB) | (with_reducible refine Kd.C_alloc ?_ _) | (with_reducible refine Kd.C_drewN ?_ _) | (with_reducible refine Kd.C_drew ?_))); (case side2 => exact HC0_0.out); (case side3 => repeat (first | exact (Kd.C_below HR0_1.out TB) | (with_reducible refine Kd.C_alloc ?_ _) | (with_reducible refine Kd.C_drewN ?_ _) | (with_reducible refine Kd.C_drew ?_))); (case side4 => exact HC0_1.out); (case side5 => repeat (first | exact (Kd.C_below HR0_5.out TB) | (with_reducible refine Kd.C_alloc ?_ _) | (with_reducible refine Kd.C_drewN ?_ _) | (with_reducible refine Kd.C_drew ?_))); (case side6 => exact HC0_5.out); (case side7 => repeat (first | exact (Kd.C_below HR2.out TB) | (with_reducible refine Kd.C_alloc ?_ _) | (with_reducible refine Kd.C_drewN ?_ _) | (with_reducible refine Kd.C_drew ?_))); (case side8 => exact HC2.out); rintro e w13 ⟨rfl, hb⟩; refine ⟨_, rfl, ?_⟩; replace BK1087 := aM (blk_below (by have X_ := BK1087.out; exact TX) hb); replace BK1088 := aM (blk_below (by have X_ := BK1088.out; exact TX) hb); replace HB := aM (below_step TB hb); clear hb; have hnb14 := NB1088_1087.out; have hnc14 := NB1087_1088.out; obtain ⟨hcz15_0, hcz15_1, hcz15_2, hcz15_3⟩ := cz4 BK1088.out; obtain ⟨hfz15_0, hfz15_1, hfz15_2, hfz15_3⟩ := fz4 BK1088.out) | (go_at_call 89; (with_reducible refine (spec_Tells.calls k a1_0 a1_1 a1_2 _ _ l1_3 _ _ l2 t1090 _ ?side1 ?side2 ?side3 ?side4 A12.out).mono ?_); (case side1 => have X_ := (Kd.C_below HR1_3.out HB.out); exact TC); (case side2 => exact HC1_3.out); (case side3 => have X_ := (Kd.C_below HR2.out HB.out); exact TC); (case side4 => exact HC2.out); rintro e w16 ⟨rfl, hb⟩; replace BK1087 := aM (blk_below (by have X_ := BK1087.out; exact TX) hb); replace BK1088 := aM (blk_below (by have X_ := BK1088.out; exact TX) hb); replace HB := aM (below_step TB hb); clear hb))
    go_ret
    exact ⟨by first | rfl | (simp [errW_none, errW_some] <;> rfl) | (simp [*, errW_none, errW_some] <;> rfl), TB⟩
  · replace c11 := Bool.eq_false_iff.mpr c11
    subst c11
    replace H := ifF H
    obtain rfl := Option.some.inj H
    go_wp2_with (first | ((with_reducible refine gate_callee (f := 88) rfl ?_); refine gL (some 11) Try.func88 #[.agg #[.slice A0_0 l0_0.length c0_0, .slice A0_1 l0_1.length c0_1, .int .i64 a0_2, .int .i64 a0_3, .int .i64 a0_4, .slice A0_5 l0_5.length c0_5], .int .i64 a1_0, .slice A2 l2.length c2] ?_; (with_reducible refine (spec_Holds.calls k _ _ l0_0 _ _ l0_1 a0_2 a0_3 a0_4 _ _ l0_5 a1_0 _ _ l2 false _ ?side1 ?side2 ?side3 ?side4 ?side5 ?side6 ?side7 ?side8 A4.out).mono ?_); (case side1 => repeat (first | exact (Kd.C_below HR0_0.out TB) | (with_reducible refine Kd.C_alloc ?_ _) | (with_reducible refine Kd.C_drewN ?_ _) | (with_reducible refine Kd.C_drew ?_))); (case side2 => exact HC0_0.out); (case side3 => repeat (first | exact (Kd.C_below HR0_1.out TB) | (with_reducible refine Kd.C_alloc ?_ _) | (with_reducible refine Kd.C_drewN ?_ _) | (with_reducible refine Kd.C_drew ?_))); (case side4 => exact HC0_1.out); (case side5 => repeat (first | exact (Kd.C_below HR0_5.out TB) | (with_reducible refine Kd.C_alloc ?_ _) | (with_reducible refine Kd.C_drewN ?_ _) | (with_reducible refine Kd.C_drew ?_))); (case side6 => exact HC0_5.out); (case side7 => repeat (first | exact (Kd.C_below HR2.out TB) | (with_reducible refine Kd.C_alloc ?_ _) | (with_reducible refine Kd.C_drewN ?_ _) | (with_reducible refine Kd.C_drew ?_))); (case side8 => exact HC2.out); rintro e w17 ⟨rfl, hb⟩; refine ⟨_, rfl, ?_⟩; replace BK1087 := aM (blk_below (by have X_ := BK1087.out; exact TX) hb); replace BK1088 := aM (blk_below (by have X_ := BK1088.out; exact TX) hb); replace HB := aM (below_step TB hb); clear hb))
    go_ret
    exact ⟨by first | rfl | (simp [errW_none, errW_some] <;> rfl) | (simp [*, errW_none, errW_some] <;> rfl), TB⟩

/-! ### laws_toSum: function 136 -/
def laws_toSum.f (a0_0 : Int) (a0_1 : Int) : Option (Int × Int) := some (a0_0, a0_1)
set_option maxHeartbeats 40000000 in
set_option maxRecDepth 100000 in
theorem laws_toSum.calls (a0_0 : Int) (a0_1 : Int) (r1 : Int) (r2 : Int) (w : World) (h : laws_toSum.f a0_0 a0_1 = some (r1, r2)) :
    Calls Try.prog 136 #[.agg #[.int .i64 a0_0, .int .i64 a0_1]] w fun e w' => e = .returned (.agg #[.int .i64 r1, .int .i64 r2]) ∧ Below w.heap.size w w' := by
  have hu140 := Try.underlying140
  have hu119 := Try.underlying119
  have HB := aM (Below.refl w.heap.size w)
  have H := h
  clear h
  unfold laws_toSum.f at H
  simp only [Option.some.injEq, Prod.mk.injEq] at H
  obtain ⟨rfl, rfl⟩ := H
  go_enter Try.func136, Try.ntmps136
  go_wp2_with (first | ((with_reducible refine gate_dst (N := 1) rfl ?_); refine gBx 1 #[.int .i64 a0_0, .int .i64 a0_1] 140 ?_; intro gb1091 hg w2 hbox hb; have BK1091 := aM (hbox); have GW1091 := aM ((by rw [hg]; exact (below_size TB) : w.heap.size ≤ gb1091)); have GE1091 := aM ((by rw [hg]; exact (below_size TB) : w.heap.size ≤ gb1091)); replace HB := aM (below_step TB hb); clear hb hbox hg) | ((with_reducible refine gate_dst (N := 2) rfl ?_); refine gBx 2 #[.int .i64 0, .int .i64 0] 119 ?_; intro gb1092 hg w3 hbox hb; have BK1092 := aM (hbox); have GW1092 := aM ((by rw [hg]; exact (below_size TB) : w.heap.size ≤ gb1092)); have GE1092 := aM ((by rw [hg]; exact (below_size TB) : w.heap.size ≤ gb1092)); have NB1091_1092 := aM ((by rw [hg]; exact Nat.ne_of_lt (blk_lt (by have X_ := BK1091.out; exact TX)) : gb1091 ≠ gb1092)); have NB1092_1091 := aM ((by rw [hg]; exact Nat.ne_of_gt (blk_lt (by have X_ := BK1091.out; exact TX)) : gb1092 ≠ gb1091)); replace BK1091 := aM (blk_below (by have X_ := BK1091.out; exact TX) hb); replace HB := aM (below_step TB hb); clear hb hbox hg) | ((with_reducible refine gate_dst (N := 3) rfl ?_); refine gBx 3 #[.int .i64 0, .int .i64 0] 119 ?_; intro gb1093 hg w4 hbox hb; have BK1093 := aM (hbox); have GW1093 := aM ((by rw [hg]; exact (below_size TB) : w.heap.size ≤ gb1093)); have GE1093 := aM ((by rw [hg]; exact (below_size TB) : w.heap.size ≤ gb1093)); have NB1091_1093 := aM ((by rw [hg]; exact Nat.ne_of_lt (blk_lt (by have X_ := BK1091.out; exact TX)) : gb1091 ≠ gb1093)); have NB1093_1091 := aM ((by rw [hg]; exact Nat.ne_of_gt (blk_lt (by have X_ := BK1091.out; exact TX)) : gb1093 ≠ gb1091)); have NB1092_1093 := aM ((by rw [hg]; exact Nat.ne_of_lt (blk_lt (by have X_ := BK1092.out; exact TX)) : gb1092 ≠ gb1093)); have NB1093_1092 := aM ((by rw [hg]; exact Nat.ne_of_gt (blk_lt (by have X_ := BK1092.out; exact TX)) : gb1093 ≠ gb1092)); replace BK1091 := aM (blk_below (by have X_ := BK1091.out; exact TX) hb); replace BK1092 := aM (blk_below (by have X_ := BK1092.out; exact TX) hb); replace HB := aM (below_step TB hb); clear hb hbox hg; have hnb5 := NB1091_1092.out; have hnc5 := NB1092_1091.out; have hnb6 := NB1091_1093.out; have hnc6 := NB1093_1091.out; obtain ⟨hcz7_0, hcz7_1⟩ := cz2 BK1091.out; obtain ⟨hfz7_0, hfz7_1⟩ := fz2 BK1091.out; have hnb8 := NB1093_1092.out; have hnc8 := NB1092_1093.out; obtain ⟨hcz9_0, hcz9_1⟩ := cz2 BK1093.out; obtain ⟨hfz9_0, hfz9_1⟩ := fz2 BK1093.out; obtain ⟨hcz10_0, hcz10_1⟩ := cz2 BK1092.out; obtain ⟨hfz10_0, hfz10_1⟩ := fz2 BK1092.out))
  refine bodyPost_ret (results_cell_row rfl _ _ gb1092 119 #[.int .i64 a0_0, .int .i64 a0_1] (0, 0) _ rfl (by (with_reducible repeat (first | refine blk_drewN ?_ _ | refine blk_drew ?_ | refine blk_alloc ?_ _)); refine blk_put (cs := #[.int .i64 a0_0, .int .i64 0]) ?_ 1 _ rfl; (with_reducible repeat (first | refine blk_drewN ?_ _ | refine blk_drew ?_ | refine blk_alloc ?_ _)); refine blk_put (cs := #[.int .i64 0, .int .i64 0]) ?_ 0 _ rfl; (with_reducible repeat (first | refine blk_drewN ?_ _ | refine blk_drew ?_ | refine blk_alloc ?_ _)); refine blk_far ?_ NB1092_1093.out _; (with_reducible repeat (first | refine blk_drewN ?_ _ | refine blk_drew ?_ | refine blk_alloc ?_ _)); refine blk_far ?_ NB1092_1093.out _; (with_reducible repeat (first | refine blk_drewN ?_ _ | refine blk_drew ?_ | refine blk_alloc ?_ _)); exact BK1092.out) Try.underlying119 rfl (by kernel_rfl)) rfl ?_
  exact ⟨by first | rfl | (simp [errW_none, errW_some] <;> rfl) | (simp [*, errW_none, errW_some] <;> rfl), TB⟩

/-! ### laws_toSumS: function 90 -/
def laws_toSumS.l0 : Nat → List (S140) → List (S119) → Int → Option ((List (S119)))
  | 0, _, _, _ => none
  | k + 1, x0, x3, x4 => if x4 < (x0.length : Int) then (if 0 ≤ x4 then ((laws_toSum.f ((rd_T140 x0 x4).f0) ((rd_T140 x0 x4).f1)).bind fun bt1098 => (if x4 < (x3.length : Int) then (laws_toSumS.l0 k x0 (x3.set (x4 : Int).toNat (⟨bt1098.1, bt1098.2⟩ : S119)) (wrap64 (x4 + 1))) else (none))) else (none)) else (some x3)
def laws_toSumS.f (k : Nat) (l0 : List (S140)) : Option ((List (S119))) := if 0 ≤ (l0.length : Int) then (if ((l0.length : Int) : Int).toNat ≤ 17592186044416 then (laws_toSumS.l0 k l0 (List.replicate ((l0.length : Int) : Int).toNat z119) 0) else (none)) else (none)
theorem laws_toSumS.mono_l : ∀ k, (∀ y0 y1 y2, LeO (laws_toSumS.l0 k y0 y1 y2) (laws_toSumS.l0 (k + 1) y0 y1 y2))
  | 0 => fun _ _ _ r h => by simp [laws_toSumS.l0] at h
  | k + 1 => by
    have ih0 := laws_toSumS.mono_l k
    · intro y0 y1 y2
      unfold laws_toSumS.l0
      exact LM
theorem laws_toSumS.mono : ∀ a0 k, LeO (laws_toSumS.f k a0) (laws_toSumS.f (k + 1) a0) := by
  intro a0 k
  have ih0 := laws_toSumS.mono_l k
  unfold laws_toSumS.f
  exact LM
set_option maxHeartbeats 40000000 in
set_option maxRecDepth 100000 in
theorem laws_toSumS.calls (k : Nat) (A0 : Option Addr) (c0 : Nat) (l0 : List (S140)) (r : List (S119)) (w : World) (hr0 : Kd.C k140 w A0 l0.length l0) (hc0 : l0.length ≤ c0) (h : laws_toSumS.f k l0 = some r) :
    Calls Try.prog 90 #[.slice A0 l0.length c0] w fun e w' => ∃ v0_ : Value, e = .returned (v0_) ∧ Kd.R k119 119 w' w.heap.size (fun _ => True) v0_ r ∧ Below w.heap.size w w' := by
  have hu140 := Try.underlying140
  have hu119 := Try.underlying119
  have HR0 := aM hr0
  have HC0 := aM hc0
  clear hr0 hc0
  have HB := aM (Below.refl w.heap.size w)
  have H := h
  clear h
  unfold laws_toSumS.f at H
  replace H := ifN H
  obtain ⟨c2, H⟩ := H
  have c2b0 := eq_true c2
  have c2b1 : decide (0 ≤ (l0.length : Int)) = true := decide_eq_true c2
  clear c2
  replace H := ifN H
  obtain ⟨c3, H⟩ := H
  have c3b0 := eq_true c3
  have c3b1 : decide (((l0.length : Int) : Int).toNat ≤ 17592186044416) = true := decide_eq_true c3
  clear c3
  obtain ⟨y1094, hy1094⟩ : ∃ y_ : List (S119), y_ = (List.replicate ((l0.length : Int) : Int).toNat z119) := ⟨_, rfl⟩
  rw [← hy1094] at H
  have Ny1094 := aM hy1094
  clear hy1094
  have H' := aM H
  clear H
  go_enter Try.func90, Try.ntmps90
  go_wp2_with (first | ((with_reducible refine gate_dst (N := 7) rfl ?_); refine Kd.R_make k119 _ 119 rfl (N := 7) rfl 42 _ _ rfl (l0.length : Int) rfl rfl Try.underlying42 (.agg #[(.int .i64 0), (.int .i64 0)]) 16 info119 rfl (by decide) (by omega) z119 (ok := fun _ => True) (okp := fun _ => True) (k119_mkM _ _ _ z119 ) (fun _ hk => hk) trivial DT (Nat.le_trans (Nat.mul_le_mul_right _ (DT : (l0.length : Int).toNat ≤ 17592186044416)) (by omega)) (Below.refl _ _) (Nat.le_refl _) ?_; intro v1095 w4 ho5 hb hg_ hnew_; clear hg_ hnew_; (first | rw [← Ny1094.out] at ho5 | (simp only [Int.reduceToNat] at ho5; rw [← Ny1094.out] at ho5)); have HO1096 := aM (Kd.R_lower ho5 (below_size TB)); replace HB := aM (below_step TB hb); clear hb ho5))
  go_loopg [4] k (fun kq v4 w' => ∃ (x3_1 : List (S119)) (x4_1 : Int), v4 = .int .i64 x4_1 ∧ Aside0 (laws_toSumS.l0 kq l0 x3_1 x4_1 = some r) ∧ Aside0 (kq ≤ k) ∧ Aside0 (Kd.R k119 119 w' w.heap.size (fun _ => True) v1095 x3_1) ∧ Aside0 (Below w.heap.size w w'))
  case atStart => exact ⟨(y1094), (0), (by first | rfl | (simp; done) | (simp [*]; done)), H', ⟨Nat.le_refl _⟩, ⟨by have X_ := HO1096.out; exact TR⟩, ⟨TB⟩⟩
  case round =>
    clear H'
    try clear c2
    try clear c2b0
    try clear c2b1
    try clear p2
    try clear c3
    try clear c3b0
    try clear c3b1
    obtain ⟨x3_1, x4_1, rfl, HA, HK1, HO_3, HB⟩ := hrel
    cases gk with
    | zero => exact absurd HA.out (by simp [laws_toSumS.l0])
    | succ k1 =>
      have H := HA.out
      clear HA
      simp only [laws_toSumS.l0] at H
      by_cases c6 : x4_1 < (l0.length : Int)
      · rw [if_pos c6] at H
        have c6b0 : decide (x4_1 < (l0.length : Int)) = true := decide_eq_true c6
        clear c6
        replace H := ifN H
        obtain ⟨c7, H⟩ := H
        have c7b0 : decide (0 ≤ x4_1) = true := decide_eq_true c7
        clear c7
        replace H := bE H
        obtain ⟨⟨t1098, t1099⟩, A8, H⟩ := H
        dsimp only at H
        replace H := ifN H
        obtain ⟨c9, H⟩ := H
        have c9b0 : decide (x4_1 < (x3_1.length : Int)) = true := decide_eq_true c9
        clear c9
        obtain ⟨y1100, hy1100⟩ : ∃ y_ : List (S119), y_ = (x3_1.set (x4_1 : Int).toNat (⟨t1098, t1099⟩ : S119)) := ⟨_, rfl⟩
        rw [← hy1100] at H
        have Ny1100 := aM hy1100
        clear hy1100
        have H' := aM H
        clear H
        have p1097 : 0 ≤ (x4_1 : Int) := DT
        have q1097 : x4_1 < (l0.length : Int) := DT
        obtain ⟨ad1097, e1097, hx1097_0, hx1097_1⟩ := at_T140 HR0.out x4_1 p1097 q1097
        cases e1097
        replace hx1097_0 := (HB.out.cell (World.block_lt_of_cell? w _ hx1097_0)).trans hx1097_0
        replace hx1097_1 := (HB.out.cell (World.block_lt_of_cell? w _ hx1097_1)).trans hx1097_1
        replace p1097 := eq_true p1097
        replace q1097 := eq_true q1097
        go_wp2_with (first | ((with_reducible refine gate_callee (f := 136) rfl ?_); refine gL (some 20) Try.func136 #[.agg #[.int .i64 ((rd_T140 l0 x4_1).f0), .int .i64 ((rd_T140 l0 x4_1).f1)]] ?_; (with_reducible refine (laws_toSum.calls ((rd_T140 l0 x4_1).f0) ((rd_T140 l0 x4_1).f1) t1098 t1099 _ A8.out).mono ?_); rintro e w11 ⟨rfl, hb⟩; refine ⟨_, rfl, ?_⟩; replace HO_3 := aM (Kd.R_below (by have X_ := HO_3.out; exact TR) hb); replace HB := aM (below_step TB hb); clear hb; have p10 : 0 ≤ (x4_1 : Int) := DT; have q10 : (x4_1 : Int) < ((x3_1.length : Int) : Int) := DT; obtain ⟨go10, co10, eo10, gb10, gl10, cl10, HG10⟩ := Kd.R_form HO_3.out (by omega); (first | cases eo10 | (injection eo10 with ea_ en_ ec_; (first | subst ea_ | (injection ea_ with ea_; subst ea_)); subst ec_; clear en_)); have GB10 := aM gb10; have GG10 := aM HG10; clear gb10 gl10 HG10; obtain ⟨ce10, hcl10, hM10, hcc10, hfr10⟩ := Kd.R_elem HO_3.out z119 (x4_1 : Int) p10 q10; obtain rfl := k119_openM hM10; have hx10_0 : w11.cell? ⟨go10, (x4_1 : Int).toNat * 2, none⟩ = some (.int .i64 ((rd_T119 x3_1 x4_1).f0)) := hcc10 0 _ rfl; have hx10_1 : w11.cell? ⟨go10, (x4_1 : Int).toNat * 2 + 1, none⟩ = some (.int .i64 ((rd_T119 x3_1 x4_1).f1)) := hcc10 1 _ rfl; have hf10_0 : w11.frozen? ⟨go10, (x4_1 : Int).toNat * 2, none⟩ = false := hfr10 0; have hf10_1 : w11.frozen? ⟨go10, (x4_1 : Int).toNat * 2 + 1, none⟩ = false := hfr10 1; clear hcl10 hcc10 hfr10 hM10; replace p10 := eq_true p10; replace q10 := eq_true q10; have HX12 := aM (show Kd.R k119 119 w11 w.heap.size (fun _ => True) (.slice (some ⟨go10, 0, none⟩) x3_1.length co10) x3_1 from (by have X_ := HO_3.out; exact TR)); obtain ⟨ce12, hcl12, hM12, hcc12, hfr12⟩ := Kd.R_elem HX12.out z119 (x4_1 : Int) DT (by have h_ : (x4_1 : Int) < ((x3_1.length : Int) : Int) := DT; first | exact h_ | (have e_ := (Kd.R_reads' HO_3.out).1; omega) | simpa using h_); obtain rfl := k119_openM hM12; have HP12 := Kd.R_seg HX12.out (x4_1 : Int) DT (by have h_ : (x4_1 : Int) < ((x3_1.length : Int) : Int) := DT; first | exact h_ | (have e_ := (Kd.R_reads' HO_3.out).1; omega) | simpa using h_) (seg := [.int .i64 t1098, .int .i64 t1099]) (j := 0) hcl12 hcc12 (show 2 ≤ 2 from by decide) (x' := (⟨t1098, t1099⟩ : S119)) (k119_mkM _ _ _ (⟨t1098, t1099⟩ : S119) ) (fun _ hk => hk); have hx12_0 := hcc12 0 _ rfl; (try simp only [show (k119).sz = 2 from rfl, Nat.mul_one, Nat.add_zero] at hx12_0); have hf12_0 := hfr12 0; (try simp only [show (k119).sz = 2 from rfl, Nat.mul_one, Nat.add_zero] at hf12_0); have hx12_1 := hcc12 1 _ rfl; (try simp only [show (k119).sz = 2 from rfl, Nat.mul_one, Nat.add_zero] at hx12_1); have hf12_1 := hfr12 1; (try simp only [show (k119).sz = 2 from rfl, Nat.mul_one, Nat.add_zero] at hf12_1); clear hcl12 hcc12 hfr12 hM12) | ((with_reducible refine gate_store (t := 119) (p := 21) rfl ?_); refine store_event (t := 119) (p := 21) (v := ?vo_w13) (w1 := ((w11.setCell ⟨go10, (x4_1 : Int).toNat * 2, none⟩ (.int .i64 t1098)).setCell ⟨go10, (x4_1 : Int).toNat * 2 + 1, none⟩ (.int .i64 t1099))) ?hg ?ho ?hn ?hr ?_; (case ho => rfl); (case hg => rfl); (case hn => rfl); (case hr => first | (go_simp; done) | (go_simp; rfl)); intro w13 hw; have hg : w11.grownBy w13 (some go10) := (by rw [hw]; exact HP12.2); have hp_ : Kd.R k119 119 w13 w.heap.size (fun _ => True) (.slice (some ⟨go10, 0, none⟩) x3_1.length co10) y1100 := (by rw [hw, Ny1100.out]; exact HP12.1); clear HP12; replace HO_3 := aM (hp_); replace HB := aM ((by rw [hw]; exact below_set (below_set (HB.out) GB10.out) GB10.out : Below w.heap.size w w13)); clear hg hw hp_))
        go_roundg k1
        case measure => have := HK1.out; omega
        case rel => exact ⟨(y1100), (wrap64 (x4_1 + 1)), (by first | rfl | (simp; done) | (simp [*]; done)), H', ⟨by have := HK1.out; omega⟩, ⟨by have X_ := HO_3.out; exact TR⟩, ⟨TB⟩⟩
      · rw [if_neg c6] at H
        have c6b0 : decide (x4_1 < (l0.length : Int)) = false := decide_eq_false c6
        clear c6
        obtain rfl := Option.some.inj H
        go_wp2
        go_ret
        exact ⟨_, by first | rfl | (simp [errW_none, errW_some] <;> rfl) | (simp [*, errW_none, errW_some] <;> rfl), by have X_ := HO_3.out; exact TR, TB⟩

/-! ### laws_toManifest: function 36 -/
def laws_toManifest.f (k : Nat) (a0_0 : Int) (a0_1 : Int) (a0_2 : Int) (l0_3 : List (S140)) : Option (Int × Int × Int × (List (S119))) := (laws_toSumS.f k l0_3).bind fun t1104 => (some (a0_0, a0_1, a0_2, t1104))
theorem laws_toManifest.mono : ∀ a0 a1 a2 a3 k, LeO (laws_toManifest.f k a0 a1 a2 a3) (laws_toManifest.f (k + 1) a0 a1 a2 a3) := by
  intro a0 a1 a2 a3 k
  have m0_ := @laws_toSumS.mono
  unfold laws_toManifest.f
  exact LM
set_option maxHeartbeats 40000000 in
set_option maxRecDepth 100000 in
theorem laws_toManifest.calls (k : Nat) (a0_0 : Int) (a0_1 : Int) (a0_2 : Int) (A0_3 : Option Addr) (c0_3 : Nat) (l0_3 : List (S140)) (r1 : Int) (r2 : Int) (r3 : Int) (r4 : List (S119)) (w : World) (hr0_3 : Kd.C k140 w A0_3 l0_3.length l0_3) (hc0_3 : l0_3.length ≤ c0_3) (h : laws_toManifest.f k a0_0 a0_1 a0_2 l0_3 = some (r1, r2, r3, r4)) :
    Calls Try.prog 36 #[.agg #[.int .i64 a0_0, .int .i64 a0_1, .int .i64 a0_2, .slice A0_3 l0_3.length c0_3]] w fun e w' => ∃ v3_ : Value, e = .returned (.agg #[.int .i64 r1, .int .i64 r2, .int .i64 r3, v3_]) ∧ Kd.R k119 119 w' w.heap.size (fun _ => True) v3_ r4 ∧ Below w.heap.size w w' := by
  have hu64 := Try.underlying64
  have hu44 := Try.underlying44
  have HR0_3 := aM hr0_3
  have HC0_3 := aM hc0_3
  clear hr0_3 hc0_3
  have HB := aM (Below.refl w.heap.size w)
  have H := h
  clear h
  unfold laws_toManifest.f at H
  replace H := bE H
  obtain ⟨t1104, A2, H⟩ := H
  simp only [Option.some.injEq, Prod.mk.injEq] at H
  obtain ⟨rfl, rfl, rfl, rfl⟩ := H
  go_enter Try.func36, Try.ntmps36
  go_wp2_with (first | ((with_reducible refine gate_dst (N := 1) rfl ?_); refine gBx 1 #[.int .i64 a0_0, .int .i64 a0_1, .int .i64 a0_2, .slice A0_3 l0_3.length c0_3] 64 ?_; intro gb1101 hg w3 hbox hb; have BK1101 := aM (hbox); have GW1101 := aM ((by rw [hg]; exact (below_size TB) : w.heap.size ≤ gb1101)); have GE1101 := aM ((by rw [hg]; exact (below_size TB) : w.heap.size ≤ gb1101)); replace HB := aM (below_step TB hb); clear hb hbox hg) | ((with_reducible refine gate_dst (N := 2) rfl ?_); refine gBx 2 #[.int .i64 0, .int .i64 0, .int .i64 0, .slice none 0 0] 44 ?_; intro gb1102 hg w4 hbox hb; have BK1102 := aM (hbox); have GW1102 := aM ((by rw [hg]; exact (below_size TB) : w.heap.size ≤ gb1102)); have GE1102 := aM ((by rw [hg]; exact (below_size TB) : w.heap.size ≤ gb1102)); have NB1101_1102 := aM ((by rw [hg]; exact Nat.ne_of_lt (blk_lt (by have X_ := BK1101.out; exact TX)) : gb1101 ≠ gb1102)); have NB1102_1101 := aM ((by rw [hg]; exact Nat.ne_of_gt (blk_lt (by have X_ := BK1101.out; exact TX)) : gb1102 ≠ gb1101)); replace BK1101 := aM (blk_below (by have X_ := BK1101.out; exact TX) hb); replace HB := aM (below_step TB hb); clear hb hbox hg) | ((with_reducible refine gate_dst (N := 3) rfl ?_); refine gBx 3 #[.int .i64 0, .int .i64 0, .int .i64 0, .slice none 0 0] 44 ?_; intro gb1103 hg w5 hbox hb; have BK1103 := aM (hbox); have GW1103 := aM ((by rw [hg]; exact (below_size TB) : w.heap.size ≤ gb1103)); have GE1103 := aM ((by rw [hg]; exact (below_size TB) : w.heap.size ≤ gb1103)); have NB1101_1103 := aM ((by rw [hg]; exact Nat.ne_of_lt (blk_lt (by have X_ := BK1101.out; exact TX)) : gb1101 ≠ gb1103)); have NB1103_1101 := aM ((by rw [hg]; exact Nat.ne_of_gt (blk_lt (by have X_ := BK1101.out; exact TX)) : gb1103 ≠ gb1101)); have NB1102_1103 := aM ((by rw [hg]; exact Nat.ne_of_lt (blk_lt (by have X_ := BK1102.out; exact TX)) : gb1102 ≠ gb1103)); have NB1103_1102 := aM ((by rw [hg]; exact Nat.ne_of_gt (blk_lt (by have X_ := BK1102.out; exact TX)) : gb1103 ≠ gb1102)); replace BK1101 := aM (blk_below (by have X_ := BK1101.out; exact TX) hb); replace BK1102 := aM (blk_below (by have X_ := BK1102.out; exact TX) hb); replace HB := aM (below_step TB hb); clear hb hbox hg; have hnb6 := NB1101_1102.out; have hnc6 := NB1102_1101.out; have hnb7 := NB1101_1103.out; have hnc7 := NB1103_1101.out; obtain ⟨hcz8_0, hcz8_1, hcz8_2, hcz8_3⟩ := cz4 BK1101.out; obtain ⟨hfz8_0, hfz8_1, hfz8_2, hfz8_3⟩ := fz4 BK1101.out; have hnb9 := NB1103_1102.out; have hnc9 := NB1102_1103.out; obtain ⟨hcz10_0, hcz10_1, hcz10_2, hcz10_3⟩ := cz4 BK1103.out; obtain ⟨hfz10_0, hfz10_1, hfz10_2, hfz10_3⟩ := fz4 BK1103.out) | ((with_reducible refine gate_callee (f := 90) rfl ?_); refine gL (some 15) Try.func90 #[.slice A0_3 l0_3.length c0_3] ?_; (with_reducible refine (laws_toSumS.calls k _ _ l0_3 t1104 _ ?side1 ?side2 A2.out).mono ?_); (case side1 => exact Kd.C_below HR0_3.out TB); (case side2 => exact HC0_3.out); rintro e w11 ⟨v1105, rfl, ho0, hb⟩; refine ⟨_, rfl, ?_⟩; have HO1106 := aM (Kd.R_lower ho0 (below_size TB)); replace BK1101 := aM (blk_below (g := gb1101) (o := .cells #[.int .i64 a0_0, .int .i64 a0_1, .int .i64 a0_2, .slice A0_3 l0_3.length c0_3] 64 (0, 0)) (by (with_reducible repeat (first | refine blk_drewN ?_ _ | refine blk_drew ?_ | refine blk_alloc ?_ _)); refine blk_far ?_ NB1101_1103.out _; (with_reducible repeat (first | refine blk_drewN ?_ _ | refine blk_drew ?_ | refine blk_alloc ?_ _)); refine blk_far ?_ NB1101_1103.out _; (with_reducible repeat (first | refine blk_drewN ?_ _ | refine blk_drew ?_ | refine blk_alloc ?_ _)); refine blk_far ?_ NB1101_1103.out _; (with_reducible repeat (first | refine blk_drewN ?_ _ | refine blk_drew ?_ | refine blk_alloc ?_ _)); exact BK1101.out) hb); replace BK1102 := aM (blk_below (g := gb1102) (o := .cells #[.int .i64 0, .int .i64 0, .int .i64 0, .slice none 0 0] 44 (0, 0)) (by (with_reducible repeat (first | refine blk_drewN ?_ _ | refine blk_drew ?_ | refine blk_alloc ?_ _)); refine blk_far ?_ NB1102_1103.out _; (with_reducible repeat (first | refine blk_drewN ?_ _ | refine blk_drew ?_ | refine blk_alloc ?_ _)); refine blk_far ?_ NB1102_1103.out _; (with_reducible repeat (first | refine blk_drewN ?_ _ | refine blk_drew ?_ | refine blk_alloc ?_ _)); refine blk_far ?_ NB1102_1103.out _; (with_reducible repeat (first | refine blk_drewN ?_ _ | refine blk_drew ?_ | refine blk_alloc ?_ _)); exact BK1102.out) hb); replace BK1103 := aM (blk_below (g := gb1103) (o := .cells #[.int .i64 a0_0, .int .i64 a0_1, .int .i64 a0_2, .slice none 0 0] 44 (0, 0)) (by (with_reducible repeat (first | refine blk_drewN ?_ _ | refine blk_drew ?_ | refine blk_alloc ?_ _)); refine blk_put (cs := #[.int .i64 a0_0, .int .i64 a0_1, .int .i64 0, .slice none 0 0]) ?_ 2 _ rfl; (with_reducible repeat (first | refine blk_drewN ?_ _ | refine blk_drew ?_ | refine blk_alloc ?_ _)); refine blk_put (cs := #[.int .i64 a0_0, .int .i64 0, .int .i64 0, .slice none 0 0]) ?_ 1 _ rfl; (with_reducible repeat (first | refine blk_drewN ?_ _ | refine blk_drew ?_ | refine blk_alloc ?_ _)); refine blk_put (cs := #[.int .i64 0, .int .i64 0, .int .i64 0, .slice none 0 0]) ?_ 0 _ rfl; (with_reducible repeat (first | refine blk_drewN ?_ _ | refine blk_drew ?_ | refine blk_alloc ?_ _)); exact BK1103.out) hb); replace HB := aM (below_step TB hb); clear ho0 hb; obtain ⟨Ao12, co12, eo12⟩ := Kd.R_slice HO1106.out; subst eo12; obtain ⟨hcz13_0, hcz13_1, hcz13_2, hcz13_3⟩ := cz4 BK1103.out; obtain ⟨hfz13_0, hfz13_1, hfz13_2, hfz13_3⟩ := fz4 BK1103.out; obtain ⟨hcz14_0, hcz14_1, hcz14_2, hcz14_3⟩ := cz4 BK1102.out; obtain ⟨hfz14_0, hfz14_1, hfz14_2, hfz14_3⟩ := fz4 BK1102.out))
  refine bodyPost_ret (results_cell_row rfl _ _ gb1102 44 #[.int .i64 a0_0, .int .i64 a0_1, .int .i64 a0_2, .slice Ao12 t1104.length co12] (0, 0) _ rfl (by (with_reducible repeat (first | refine blk_drewN ?_ _ | refine blk_drew ?_ | refine blk_alloc ?_ _)); refine blk_put (cs := #[.int .i64 a0_0, .int .i64 a0_1, .int .i64 a0_2, .slice none 0 0]) ?_ 3 _ rfl; (with_reducible repeat (first | refine blk_drewN ?_ _ | refine blk_drew ?_ | refine blk_alloc ?_ _)); refine blk_put (cs := #[.int .i64 a0_0, .int .i64 a0_1, .int .i64 0, .slice none 0 0]) ?_ 2 _ rfl; (with_reducible repeat (first | refine blk_drewN ?_ _ | refine blk_drew ?_ | refine blk_alloc ?_ _)); refine blk_put (cs := #[.int .i64 a0_0, .int .i64 0, .int .i64 0, .slice none 0 0]) ?_ 1 _ rfl; (with_reducible repeat (first | refine blk_drewN ?_ _ | refine blk_drew ?_ | refine blk_alloc ?_ _)); refine blk_put (cs := #[.int .i64 0, .int .i64 0, .int .i64 0, .slice none 0 0]) ?_ 0 _ rfl; (with_reducible repeat (first | refine blk_drewN ?_ _ | refine blk_drew ?_ | refine blk_alloc ?_ _)); refine blk_far ?_ NB1102_1103.out _; (with_reducible repeat (first | refine blk_drewN ?_ _ | refine blk_drew ?_ | refine blk_alloc ?_ _)); exact BK1102.out) Try.underlying44 rfl (by kernel_rfl)) rfl ?_
  exact ⟨_, by first | rfl | (simp [errW_none, errW_some] <;> rfl) | (simp [*, errW_none, errW_some] <;> rfl), by (with_reducible repeat (first | apply Kd.R_alloc | apply Kd.R_drewN | apply Kd.R_drew)); exact Kd.R_mono (Kd.R_far (p := ⟨gb1102, 3, none⟩) (Kd.R_far (p := ⟨gb1102, 2, none⟩) (Kd.R_far (p := ⟨gb1102, 1, none⟩) (Kd.R_far (p := ⟨gb1102, 0, none⟩) (Kd.R_far (p := ⟨gb1103, 3, none⟩) (Kd.R_types (Kd.R_types HO1106.out BK1103.out (by decide)) BK1102.out (by decide)) (fun _ hk => hk.1.2) (.slice Ao12 t1104.length co12)) (fun _ hk => hk.2) (.int .i64 a0_0)) (fun _ hk => hk.2) (.int .i64 a0_1)) (fun _ hk => hk.2) (.int .i64 a0_2)) (fun _ hk => hk.2) (.slice Ao12 t1104.length co12)) (fun _ hk => trivial), TB⟩

/-! ### laws_eqSum: function 137 -/
def laws_eqSum.f (a0_0 : Int) (a0_1 : Int) (a1_0 : Int) (a1_1 : Int) : Option (Bool) := if a0_0 = a1_0 then (if a0_1 = a1_1 then (some true) else (some false)) else (some false)
set_option maxHeartbeats 40000000 in
set_option maxRecDepth 100000 in
theorem laws_eqSum.calls (a0_0 : Int) (a0_1 : Int) (a1_0 : Int) (a1_1 : Int) (r : Bool) (w : World) (h : laws_eqSum.f a0_0 a0_1 a1_0 a1_1 = some r) :
    Calls Try.prog 137 #[.agg #[.int .i64 a0_0, .int .i64 a0_1], .agg #[.int .i64 a1_0, .int .i64 a1_1]] w fun e w' => e = .returned (.bool r) ∧ Below w.heap.size w w' := by
  have hu119 := Try.underlying119
  have HB := aM (Below.refl w.heap.size w)
  have H := h
  clear h
  unfold laws_eqSum.f at H
  by_cases c3 : a0_0 = a1_0
  · rw [if_pos c3] at H
    have c3b0 : (a0_0 == a1_0) = true := beq_iff_eq.mpr c3
    have c3b1 : (a0_0 != a1_0) = false := bne_eq_false_iff_eq.mpr c3
    clear c3
    by_cases c4 : a0_1 = a1_1
    · rw [if_pos c4] at H
      have c4b0 : (a0_1 == a1_1) = true := beq_iff_eq.mpr c4
      have c4b1 : (a0_1 != a1_1) = false := bne_eq_false_iff_eq.mpr c4
      clear c4
      obtain rfl := Option.some.inj H
      go_enter Try.func137, Try.ntmps137
      go_wp2_with (first | ((with_reducible refine gate_dst (N := 2) rfl ?_); refine gBx 2 #[.int .i64 a0_0, .int .i64 a0_1] 119 ?_; intro gb1107 hg w5 hbox hb; have BK1107 := aM (hbox); have GW1107 := aM ((by rw [hg]; exact (below_size TB) : w.heap.size ≤ gb1107)); have GE1107 := aM ((by rw [hg]; exact (below_size TB) : w.heap.size ≤ gb1107)); replace HB := aM (below_step TB hb); clear hb hbox hg) | ((with_reducible refine gate_dst (N := 3) rfl ?_); refine gBx 3 #[.int .i64 a1_0, .int .i64 a1_1] 119 ?_; intro gb1108 hg w6 hbox hb; have BK1108 := aM (hbox); have GW1108 := aM ((by rw [hg]; exact (below_size TB) : w.heap.size ≤ gb1108)); have GE1108 := aM ((by rw [hg]; exact (below_size TB) : w.heap.size ≤ gb1108)); have NB1107_1108 := aM ((by rw [hg]; exact Nat.ne_of_lt (blk_lt (by have X_ := BK1107.out; exact TX)) : gb1107 ≠ gb1108)); have NB1108_1107 := aM ((by rw [hg]; exact Nat.ne_of_gt (blk_lt (by have X_ := BK1107.out; exact TX)) : gb1108 ≠ gb1107)); replace BK1107 := aM (blk_below (by have X_ := BK1107.out; exact TX) hb); replace HB := aM (below_step TB hb); clear hb hbox hg; have hnb7 := NB1107_1108.out; have hnc7 := NB1108_1107.out; obtain ⟨hcz8_0, hcz8_1⟩ := cz2 BK1107.out; obtain ⟨hfz8_0, hfz8_1⟩ := fz2 BK1107.out; obtain ⟨hcz9_0, hcz9_1⟩ := cz2 BK1108.out; obtain ⟨hfz9_0, hfz9_1⟩ := fz2 BK1108.out))
      go_ret
      exact ⟨by first | rfl | (simp [errW_none, errW_some] <;> rfl) | (simp [*, errW_none, errW_some] <;> rfl), TB⟩
    · rw [if_neg c4] at H
      have c4b0 : (a0_1 == a1_1) = false := beq_eq_false_iff_ne.mpr c4
      have c4b1 : (a0_1 != a1_1) = true := bne_iff_ne.mpr c4
      obtain rfl := Option.some.inj H
      go_enter Try.func137, Try.ntmps137
      go_wp2_with (first | ((with_reducible refine gate_dst (N := 2) rfl ?_); refine gBx 2 #[.int .i64 a0_0, .int .i64 a0_1] 119 ?_; intro gb1107 hg w10 hbox hb; have BK1107 := aM (hbox); have GW1107 := aM ((by rw [hg]; exact (below_size TB) : w.heap.size ≤ gb1107)); have GE1107 := aM ((by rw [hg]; exact (below_size TB) : w.heap.size ≤ gb1107)); replace HB := aM (below_step TB hb); clear hb hbox hg) | ((with_reducible refine gate_dst (N := 3) rfl ?_); refine gBx 3 #[.int .i64 a1_0, .int .i64 a1_1] 119 ?_; intro gb1108 hg w11 hbox hb; have BK1108 := aM (hbox); have GW1108 := aM ((by rw [hg]; exact (below_size TB) : w.heap.size ≤ gb1108)); have GE1108 := aM ((by rw [hg]; exact (below_size TB) : w.heap.size ≤ gb1108)); have NB1107_1108 := aM ((by rw [hg]; exact Nat.ne_of_lt (blk_lt (by have X_ := BK1107.out; exact TX)) : gb1107 ≠ gb1108)); have NB1108_1107 := aM ((by rw [hg]; exact Nat.ne_of_gt (blk_lt (by have X_ := BK1107.out; exact TX)) : gb1108 ≠ gb1107)); replace BK1107 := aM (blk_below (by have X_ := BK1107.out; exact TX) hb); replace HB := aM (below_step TB hb); clear hb hbox hg; have hnb12 := NB1107_1108.out; have hnc12 := NB1108_1107.out; obtain ⟨hcz13_0, hcz13_1⟩ := cz2 BK1107.out; obtain ⟨hfz13_0, hfz13_1⟩ := fz2 BK1107.out; obtain ⟨hcz14_0, hcz14_1⟩ := cz2 BK1108.out; obtain ⟨hfz14_0, hfz14_1⟩ := fz2 BK1108.out))
      go_ret
      exact ⟨by first | rfl | (simp [errW_none, errW_some] <;> rfl) | (simp [*, errW_none, errW_some] <;> rfl), TB⟩
  · rw [if_neg c3] at H
    have c3b0 : (a0_0 == a1_0) = false := beq_eq_false_iff_ne.mpr c3
    have c3b1 : (a0_0 != a1_0) = true := bne_iff_ne.mpr c3
    obtain rfl := Option.some.inj H
    go_enter Try.func137, Try.ntmps137
    go_wp2_with (first | ((with_reducible refine gate_dst (N := 2) rfl ?_); refine gBx 2 #[.int .i64 a0_0, .int .i64 a0_1] 119 ?_; intro gb1107 hg w15 hbox hb; have BK1107 := aM (hbox); have GW1107 := aM ((by rw [hg]; exact (below_size TB) : w.heap.size ≤ gb1107)); have GE1107 := aM ((by rw [hg]; exact (below_size TB) : w.heap.size ≤ gb1107)); replace HB := aM (below_step TB hb); clear hb hbox hg) | ((with_reducible refine gate_dst (N := 3) rfl ?_); refine gBx 3 #[.int .i64 a1_0, .int .i64 a1_1] 119 ?_; intro gb1108 hg w16 hbox hb; have BK1108 := aM (hbox); have GW1108 := aM ((by rw [hg]; exact (below_size TB) : w.heap.size ≤ gb1108)); have GE1108 := aM ((by rw [hg]; exact (below_size TB) : w.heap.size ≤ gb1108)); have NB1107_1108 := aM ((by rw [hg]; exact Nat.ne_of_lt (blk_lt (by have X_ := BK1107.out; exact TX)) : gb1107 ≠ gb1108)); have NB1108_1107 := aM ((by rw [hg]; exact Nat.ne_of_gt (blk_lt (by have X_ := BK1107.out; exact TX)) : gb1108 ≠ gb1107)); replace BK1107 := aM (blk_below (by have X_ := BK1107.out; exact TX) hb); replace HB := aM (below_step TB hb); clear hb hbox hg; have hnb17 := NB1107_1108.out; have hnc17 := NB1108_1107.out; obtain ⟨hcz18_0, hcz18_1⟩ := cz2 BK1107.out; obtain ⟨hfz18_0, hfz18_1⟩ := fz2 BK1107.out; obtain ⟨hcz19_0, hcz19_1⟩ := cz2 BK1108.out; obtain ⟨hfz19_0, hfz19_1⟩ := fz2 BK1108.out))
    go_ret
    exact ⟨by first | rfl | (simp [errW_none, errW_some] <;> rfl) | (simp [*, errW_none, errW_some] <;> rfl), TB⟩

end Go.Proofs.Ytlghklbjmmijpaa.Q
