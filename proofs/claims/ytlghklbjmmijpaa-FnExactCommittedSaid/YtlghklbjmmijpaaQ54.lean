/- Functions of the program as plain Lean functions, and that a call of each comes to what its function tells. Written by a program of this seat. -/
import Derived.Test.YtlghklbjmmijpaaQ0
import Derived.Test.YtlghklbjmmijpaaQ3
import Derived.Test.YtlghklbjmmijpaaQ15
import Derived.Test.YtlghklbjmmijpaaQ16
import Derived.Test.YtlghklbjmmijpaaQ25
import Derived.Test.YtlghklbjmmijpaaQ49
import Derived.Test.YtlghklbjmmijpaaQ51
import Derived.Test.YtlghklbjmmijpaaQ52
import Derived.Test.YtlghklbjmmijpaaQ53
namespace Go.Proofs.Ytlghklbjmmijpaa.Q
open Go.RowKit Go.Proofs.YtlghklbjmmijpaaW.PrintWords Go.Proofs.YtlghklbjmmijpaaW.PrintLast Go.Proofs.YtlghklbjmmijpaaW.PrintMore
attribute [local go_sem] max2_int min2_int max_two min_two max_three min_three max_four min_four   -- for this text's walks alone
set_option linter.unusedVariables false
set_option linter.unusedSimpArgs false

/-! ### laws_FnExactCommitted: function 7 -/
def laws_FnExactCommitted.f (k : Nat) (l0_0 : List Int) (l0_1 : List Int) (a0_2 : Int) (a0_3 : Int) (a0_4 : Int) (l0_5 : List (S108)) (a1_0 : Int) (a1_1 : Int) (a1_2 : Int) (l1_3 : List (S140)) (l2 : List Int) : Option (Bool) := if (l2.length : Int) > 1048576 then (some true) else ((laws_szDisk.f k l0_0 l0_1 a0_2 a0_3 a0_4 l0_5 1048576).bind fun t1117 => (if t1117 < 0 then (some true) else ((laws_szManifest.f a1_0 a1_1 a1_2 l1_3 t1117).bind fun t1118 => (if t1118 < 0 then (some true) else ((laws_toDisk.f k l0_0 l0_1 a0_2 a0_3 a0_4 l0_5).bind fun bt1119 => ((laws_toManifest.f k a1_0 a1_1 a1_2 l1_3).bind fun bt1131 => ((laws_toByteS.f k l2).bind fun t1137 => ((spec_Committed.f k bt1119.1 bt1119.2.1 bt1119.2.2.1 bt1119.2.2.2.1 bt1119.2.2.2.2.1 bt1119.2.2.2.2.2 bt1131.1 bt1131.2.1 bt1131.2.2.1 bt1131.2.2.2 t1137).bind fun t1140 => ((laws_toDisk.f k l0_0 l0_1 a0_2 a0_3 a0_4 l0_5).bind fun bt1141 => ((laws_toManifest.f k a1_0 a1_1 a1_2 l1_3).bind fun bt1154 => ((laws_toByteS.f k l2).bind fun t1161 => ((impl_Committed.f k bt1141.1 bt1141.2.1 bt1141.2.2.1 bt1141.2.2.2.1 bt1141.2.2.2.2.1 bt1141.2.2.2.2.2 bt1154.1 bt1154.2.1 bt1154.2.2.1 bt1154.2.2.2 t1161).bind fun t1164 => (if (t1164 != t1140) = true then (none) else ((laws_toDisk.f k l0_0 l0_1 a0_2 a0_3 a0_4 l0_5).bind fun bt1165 => ((laws_eqDisk.f k bt1141.1 bt1141.2.1 bt1141.2.2.1 bt1141.2.2.2.1 bt1141.2.2.2.2.1 bt1141.2.2.2.2.2 bt1165.1 bt1165.2.1 bt1165.2.2.1 bt1165.2.2.2.1 bt1165.2.2.2.2.1 bt1165.2.2.2.2.2).bind fun t1177 => (if t1177 = true then ((laws_toManifest.f k a1_0 a1_1 a1_2 l1_3).bind fun bt1178 => ((laws_eqManifest.f k bt1154.1 bt1154.2.1 bt1154.2.2.1 bt1154.2.2.2 bt1178.1 bt1178.2.1 bt1178.2.2.1 bt1178.2.2.2).bind fun t1184 => (if t1184 = true then ((laws_toByteS.f k l2).bind fun t1185 => ((laws_eqByteS.f k t1161 t1185).bind fun t1188 => (if t1188 = true then (some true) else (none)))) else (none)))) else (none)))))))))))))))))
theorem laws_FnExactCommitted.mono : ∀ a0 a1 a2 a3 a4 a5 a6 a7 a8 a9 a10 k, LeO (laws_FnExactCommitted.f k a0 a1 a2 a3 a4 a5 a6 a7 a8 a9 a10) (laws_FnExactCommitted.f (k + 1) a0 a1 a2 a3 a4 a5 a6 a7 a8 a9 a10) := by
  intro a0 a1 a2 a3 a4 a5 a6 a7 a8 a9 a10 k
  have m0_ := @impl_Committed.mono
  have m1_ := @laws_eqByteS.mono
  have m2_ := @laws_eqDisk.mono
  have m3_ := @laws_eqManifest.mono
  have m4_ := @laws_szDisk.mono
  have m5_ := @laws_toByteS.mono
  have m6_ := @laws_toDisk.mono
  have m7_ := @laws_toManifest.mono
  have m8_ := @spec_Committed.mono
  unfold laws_FnExactCommitted.f
  exact LM
def laws_FnExactCommitted.T10 : Bool × List (List Nat × List Nat) := (true, [([], []), ([0], [0]), ([], []), ([2, 1], [2]), ([], []), ([4, 3], [4]), ([1, 3, 5, 5], [1, 3, 5]), ([6, 6, 0, 1, 2, 3, 4, 5, 6], [6])])
def laws_FnExactCommitted.B10 : List Nat := [0, 1, 0, 7, 0, 31, 63, 127]
theorem laws_FnExactCommitted.tab10 : rtab .any (opsOf Try.f7 10) = laws_FnExactCommitted.T10 := by kernel_rfl
theorem laws_FnExactCommitted.bits10 : waitsOk laws_FnExactCommitted.T10.2 laws_FnExactCommitted.B10 = true := by kernel_rfl
set_option maxHeartbeats 40000000 in
set_option maxRecDepth 100000 in
theorem laws_FnExactCommitted.calls (k : Nat) (A0_0 : Option Addr) (c0_0 : Nat) (l0_0 : List Int) (A0_1 : Option Addr) (c0_1 : Nat) (l0_1 : List Int) (a0_2 : Int) (a0_3 : Int) (a0_4 : Int) (A0_5 : Option Addr) (c0_5 : Nat) (l0_5 : List (S108)) (a1_0 : Int) (a1_1 : Int) (a1_2 : Int) (A1_3 : Option Addr) (c1_3 : Nat) (l1_3 : List (S140)) (A2 : Option Addr) (c2 : Nat) (l2 : List Int) (r : Bool) (w : World) (hr0_0 : Kd.C (Kd.int .u8) w A0_0 l0_0.length l0_0) (hc0_0 : l0_0.length ≤ c0_0) (hr0_1 : Kd.C (Kd.int .u8) w A0_1 l0_1.length l0_1) (hc0_1 : l0_1.length ≤ c0_1) (hr0_5 : Kd.C k108 w A0_5 l0_5.length l0_5) (hc0_5 : l0_5.length ≤ c0_5) (hr1_3 : Kd.C k140 w A1_3 l1_3.length l1_3) (hc1_3 : l1_3.length ≤ c1_3) (hr2 : Kd.C (Kd.int .u8) w A2 l2.length l2) (hc2 : l2.length ≤ c2) (h : laws_FnExactCommitted.f k l0_0 l0_1 a0_2 a0_3 a0_4 l0_5 a1_0 a1_1 a1_2 l1_3 l2 = some r) :
    Calls Try.prog 7 #[.agg #[.slice A0_0 l0_0.length c0_0, .slice A0_1 l0_1.length c0_1, .int .i64 a0_2, .int .i64 a0_3, .int .i64 a0_4, .slice A0_5 l0_5.length c0_5], .agg #[.int .i64 a1_0, .int .i64 a1_1, .int .i64 a1_2, .slice A1_3 l1_3.length c1_3], .slice A2 l2.length c2] w fun e w' => e = .returned (.bool r) ∧ Below w.heap.size w w' := by
  have hu27 := Try.underlying27
  have hu64 := Try.underlying64
  have hu33 := Try.underlying33
  have hu44 := Try.underlying44
  have HR0_0 := aM hr0_0
  have HC0_0 := aM hc0_0
  clear hr0_0 hc0_0
  have HR0_1 := aM hr0_1
  have HC0_1 := aM hc0_1
  clear hr0_1 hc0_1
  have HR0_5 := aM hr0_5
  have HC0_5 := aM hc0_5
  clear hr0_5 hc0_5
  have HR1_3 := aM hr1_3
  have HC1_3 := aM hc1_3
  clear hr1_3 hc1_3
  have HR2 := aM hr2
  have HC2 := aM hc2
  clear hr2 hc2
  have HB := aM (Below.refl w.heap.size w)
  have H := h
  clear h
  unfold laws_FnExactCommitted.f at H
  by_cases c4 : (l2.length : Int) > 1048576
  · rw [if_pos c4] at H
    have c4b0 : decide (1048576 < (l2.length : Int)) = true := decide_eq_true c4
    have c4b1 : decide (1048576 < l2.length) = true := decide_eq_true (by omega)
    clear c4
    obtain rfl := Option.some.inj H
    go_enter Try.func7, Try.ntmps7
    go_wp2_with (first | ((with_reducible refine gate_dst (N := 3) rfl ?_); refine gBx 3 #[.slice A0_0 l0_0.length c0_0, .slice A0_1 l0_1.length c0_1, .int .i64 a0_2, .int .i64 a0_3, .int .i64 a0_4, .slice A0_5 l0_5.length c0_5] 27 ?_; intro gb1115 hg w5 hbox hb; have BK1115 := aM (hbox); have GW1115 := aM ((by rw [hg]; exact (below_size TB) : w.heap.size ≤ gb1115)); have GE1115 := aM ((by rw [hg]; exact (below_size TB) : w.heap.size ≤ gb1115)); replace HB := aM (below_step TB hb); clear hb hbox hg) | ((with_reducible refine gate_dst (N := 4) rfl ?_); refine gBx 4 #[.int .i64 a1_0, .int .i64 a1_1, .int .i64 a1_2, .slice A1_3 l1_3.length c1_3] 64 ?_; intro gb1116 hg w6 hbox hb; have BK1116 := aM (hbox); have GW1116 := aM ((by rw [hg]; exact (below_size TB) : w.heap.size ≤ gb1116)); have GE1116 := aM ((by rw [hg]; exact (below_size TB) : w.heap.size ≤ gb1116)); have NB1115_1116 := aM ((by rw [hg]; exact Nat.ne_of_lt (blk_lt (by have X_ := BK1115.out; exact TX)) : gb1115 ≠ gb1116)); have NB1116_1115 := aM ((by rw [hg]; exact Nat.ne_of_gt (blk_lt (by have X_ := BK1115.out; exact TX)) : gb1116 ≠ gb1115)); replace BK1115 := aM (blk_below (by have X_ := BK1115.out; exact TX) hb); replace HB := aM (below_step TB hb); clear hb hbox hg))
    go_ret
    exact ⟨by first | rfl | (simp [errW_none, errW_some] <;> rfl) | (simp [*, errW_none, errW_some] <;> rfl), TB⟩
  · rw [if_neg c4] at H
    have c4b0 : decide (1048576 < (l2.length : Int)) = false := decide_eq_false c4
    have c4b1 : decide (1048576 < l2.length) = false := decide_eq_false (by omega)
    clear c4
    replace H := bE H
    obtain ⟨t1117, A7, H⟩ := H
    go_enter Try.func7, Try.ntmps7
    go_wp2_with (first | ((with_reducible refine gate_dst (N := 3) rfl ?_); refine gBx 3 #[.slice A0_0 l0_0.length c0_0, .slice A0_1 l0_1.length c0_1, .int .i64 a0_2, .int .i64 a0_3, .int .i64 a0_4, .slice A0_5 l0_5.length c0_5] 27 ?_; intro gb1115 hg w8 hbox hb; have BK1115 := aM (hbox); have GW1115 := aM ((by rw [hg]; exact (below_size TB) : w.heap.size ≤ gb1115)); have GE1115 := aM ((by rw [hg]; exact (below_size TB) : w.heap.size ≤ gb1115)); replace HB := aM (below_step TB hb); clear hb hbox hg) | ((with_reducible refine gate_dst (N := 4) rfl ?_); refine gBx 4 #[.int .i64 a1_0, .int .i64 a1_1, .int .i64 a1_2, .slice A1_3 l1_3.length c1_3] 64 ?_; intro gb1116 hg w9 hbox hb; have BK1116 := aM (hbox); have GW1116 := aM ((by rw [hg]; exact (below_size TB) : w.heap.size ≤ gb1116)); have GE1116 := aM ((by rw [hg]; exact (below_size TB) : w.heap.size ≤ gb1116)); have NB1115_1116 := aM ((by rw [hg]; exact Nat.ne_of_lt (blk_lt (by have X_ := BK1115.out; exact TX)) : gb1115 ≠ gb1116)); have NB1116_1115 := aM ((by rw [hg]; exact Nat.ne_of_gt (blk_lt (by have X_ := BK1115.out; exact TX)) : gb1116 ≠ gb1115)); replace BK1115 := aM (blk_below (by have X_ := BK1115.out; exact TX) hb); replace HB := aM (below_step TB hb); clear hb hbox hg; have hnb10 := NB1115_1116.out; have hnc10 := NB1116_1115.out; obtain ⟨hcz11_0, hcz11_1, hcz11_2, hcz11_3, hcz11_4, hcz11_5⟩ := cz6 BK1115.out; obtain ⟨hfz11_0, hfz11_1, hfz11_2, hfz11_3, hfz11_4, hfz11_5⟩ := fz6 BK1115.out) | ((with_reducible refine gate_callee (f := 8) rfl ?_); (with_reducible refine gate_dst (N := 18) rfl ?_); generalize hG_ : wpList _ _ _ _ _ _ = G_))
    subst hG_
    by_cases c12 : t1117 < 0
    · rw [if_pos c12] at H
      have c12b0 : decide (t1117 < 0) = true := decide_eq_true c12
      clear c12
      obtain rfl := Option.some.inj H
      go_wp2_with (first | ((with_reducible refine gate_callee (f := 8) rfl ?_); refine gL (some 18) Try.func8 #[.agg #[.slice A0_0 l0_0.length c0_0, .slice A0_1 l0_1.length c0_1, .int .i64 a0_2, .int .i64 a0_3, .int .i64 a0_4, .slice A0_5 l0_5.length c0_5], .int .i64 1048576] ?_; (with_reducible refine (laws_szDisk.calls k _ _ l0_0 _ _ l0_1 a0_2 a0_3 a0_4 _ _ l0_5 1048576 t1117 _ ?side1 ?side2 ?side3 ?side4 ?side5 ?side6 A7.out).mono ?_); (case side1 => repeat (first | exact (Kd.C_below HR0_0.out TB) | (with_reducible refine Kd.C_alloc ?_ _) | (with_reducible refine Kd.C_drewN ?_ _) | (with_reducible refine Kd.C_drew ?_))); (case side2 => exact HC0_0.out); (case side3 => repeat (first | exact (Kd.C_below HR0_1.out TB) | (with_reducible refine Kd.C_alloc ?_ _) | (with_reducible refine Kd.C_drewN ?_ _) | (with_reducible refine Kd.C_drew ?_))); (case side4 => exact HC0_1.out); (case side5 => repeat (first | exact (Kd.C_below HR0_5.out TB) | (with_reducible refine Kd.C_alloc ?_ _) | (with_reducible refine Kd.C_drewN ?_ _) | (with_reducible refine Kd.C_drew ?_))); (case side6 => exact HC0_5.out); rintro e w13 ⟨rfl, hb⟩; refine ⟨_, rfl, ?_⟩; replace BK1115 := aM (blk_below (by have X_ := BK1115.out; exact TX) hb); replace BK1116 := aM (blk_below (by have X_ := BK1116.out; exact TX) hb); replace HB := aM (below_step TB hb); clear hb))
      go_ret
      exact ⟨by first | rfl | (simp [errW_none, errW_some] <;> rfl) | (simp [*, errW_none, errW_some] <;> rfl), TB⟩
    · rw [if_neg c12] at H
      have c12b0 : decide (t1117 < 0) = false := decide_eq_false c12
      clear c12
      replace H := bE H
      obtain ⟨t1118, A14, H⟩ := H
      go_wp2_with (first | ((with_reducible refine gate_callee (f := 8) rfl ?_); refine gL (some 18) Try.func8 #[.agg #[.slice A0_0 l0_0.length c0_0, .slice A0_1 l0_1.length c0_1, .int .i64 a0_2, .int .i64 a0_3, .int .i64 a0_4, .slice A0_5 l0_5.length c0_5], .int .i64 1048576] ?_; (with_reducible refine (laws_szDisk.calls k _ _ l0_0 _ _ l0_1 a0_2 a0_3 a0_4 _ _ l0_5 1048576 t1117 _ ?side1 ?side2 ?side3 ?side4 ?side5 ?side6 A7.out).mono ?_); (case side1 => repeat (first | exact (Kd.C_below HR0_0.out TB) | (with_reducible refine Kd.C_alloc ?_ _) | (with_reducible refine Kd.C_drewN ?_ _) | (with_reducible refine Kd.C_drew ?_))); (case side2 => exact HC0_0.out); (case side3 => repeat (first | exact (Kd.C_below HR0_1.out TB) | (with_reducible refine Kd.C_alloc ?_ _) | (with_reducible refine Kd.C_drewN ?_ _) | (with_reducible refine Kd.C_drew ?_))); (case side4 => exact HC0_1.out); (case side5 => repeat (first | exact (Kd.C_below HR0_5.out TB) | (with_reducible refine Kd.C_alloc ?_ _) | (with_reducible refine Kd.C_drewN ?_ _) | (with_reducible refine Kd.C_drew ?_))); (case side6 => exact HC0_5.out); rintro e w15 ⟨rfl, hb⟩; refine ⟨_, rfl, ?_⟩; replace BK1115 := aM (blk_below (by have X_ := BK1115.out; exact TX) hb); replace BK1116 := aM (blk_below (by have X_ := BK1116.out; exact TX) hb); replace HB := aM (below_step TB hb); clear hb; have hnb16 := NB1116_1115.out; have hnc16 := NB1115_1116.out; obtain ⟨hcz17_0, hcz17_1, hcz17_2, hcz17_3⟩ := cz4 BK1116.out; obtain ⟨hfz17_0, hfz17_1, hfz17_2, hfz17_3⟩ := fz4 BK1116.out) | ((with_reducible refine gate_callee (f := 34) rfl ?_); (with_reducible refine gate_dst (N := 23) rfl ?_); generalize hG_ : wpList _ _ _ _ _ _ = G_))
      subst hG_
      by_cases c18 : t1118 < 0
      · rw [if_pos c18] at H
        have c18b0 : decide (t1118 < 0) = true := decide_eq_true c18
        clear c18
        obtain rfl := Option.some.inj H
        go_wp2_with (first | ((with_reducible refine gate_callee (f := 34) rfl ?_); refine gL (some 23) Try.func34 #[.agg #[.int .i64 a1_0, .int .i64 a1_1, .int .i64 a1_2, .slice A1_3 l1_3.length c1_3], .int .i64 t1117] ?_; (with_reducible refine (laws_szManifest.calls a1_0 a1_1 a1_2 _ _ l1_3 t1117 t1118 _ ?side1 ?side2 A14.out).mono ?_); (case side1 => repeat (first | exact (Kd.C_below HR1_3.out TB) | (with_reducible refine Kd.C_alloc ?_ _) | (with_reducible refine Kd.C_drewN ?_ _) | (with_reducible refine Kd.C_drew ?_))); (case side2 => exact HC1_3.out); rintro e w19 ⟨rfl, hb⟩; refine ⟨_, rfl, ?_⟩; replace BK1115 := aM (blk_below (by have X_ := BK1115.out; exact TX) hb); replace BK1116 := aM (blk_below (by have X_ := BK1116.out; exact TX) hb); replace HB := aM (below_step TB hb); clear hb))
        go_ret
        exact ⟨by first | rfl | (simp [errW_none, errW_some] <;> rfl) | (simp [*, errW_none, errW_some] <;> rfl), TB⟩
      · rw [if_neg c18] at H
        have c18b0 : decide (t1118 < 0) = false := decide_eq_false c18
        clear c18
        replace H := bE H
        obtain ⟨⟨t1119, t1122, t1125, t1126, t1127, t1128⟩, A20, H⟩ := H
        dsimp only at H
        replace H := bE H
        obtain ⟨⟨t1131, t1132, t1133, t1134⟩, A21, H⟩ := H
        dsimp only at H
        replace H := bE H
        obtain ⟨t1137, A22, H⟩ := H
        replace H := bE H
        obtain ⟨t1140, A23, H⟩ := H
        replace H := bE H
        obtain ⟨⟨t1141, t1144, t1147, t1148, t1149, t1150⟩, A24, H⟩ := H
        dsimp only at H
        replace H := bE H
        obtain ⟨⟨t1154, t1155, t1156, t1157⟩, A25, H⟩ := H
        dsimp only at H
        replace H := bE H
        obtain ⟨t1161, A26, H⟩ := H
        replace H := bE H
        obtain ⟨t1164, A27, H⟩ := H
        replace H := ifM H
        obtain ⟨c28, H⟩ := H
        have c28b0 : (t1164 != t1140) = false := by simpa using c28
        (try (have c28b1 : decide (t1164 = t1140) = true := by simpa using c28))
        (try (have c28b2 : (t1164 == t1140) = true := by simpa using c28))
        clear c28
        replace H := bE H
        obtain ⟨⟨t1165, t1168, t1171, t1172, t1173, t1174⟩, A29, H⟩ := H
        dsimp only at H
        replace H := bE H
        obtain ⟨t1177, A30, H⟩ := H
        replace H := ifN H
        obtain ⟨c31, H⟩ := H
        subst c31
        replace H := bE H
        obtain ⟨⟨t1178, t1179, t1180, t1181⟩, A32, H⟩ := H
        dsimp only at H
        replace H := bE H
        obtain ⟨t1184, A33, H⟩ := H
        replace H := ifN H
        obtain ⟨c34, H⟩ := H
        subst c34
        replace H := bE H
        obtain ⟨t1185, A35, H⟩ := H
        replace H := bE H
        obtain ⟨t1188, A36, H⟩ := H
        replace H := ifN H
        obtain ⟨c37, H⟩ := H
        subst c37
        obtain rfl := Option.some.inj H
        try go_wp2_with (first | ((with_reducible refine gate_callee (f := 34) rfl ?_); refine gL (some 23) Try.func34 #[.agg #[.int .i64 a1_0, .int .i64 a1_1, .int .i64 a1_2, .slice A1_3 l1_3.length c1_3], .int .i64 t1117] ?_; (with_reducible refine (laws_szManifest.calls a1_0 a1_1 a1_2 _ _ l1_3 t1117 t1118 _ ?side1 ?side2 A14.out).mono ?_); (case side1 => repeat (first | exact (Kd.C_below HR1_3.out TB) | (with_reducible refine Kd.C_alloc ?_ _) | (with_reducible refine Kd.C_drewN ?_ _) | (with_reducible refine Kd.C_drew ?_))); (case side2 => exact HC1_3.out); rintro e w38 ⟨rfl, hb⟩; refine ⟨_, rfl, ?_⟩; replace BK1115 := aM (blk_below (by have X_ := BK1115.out; exact TX) hb); replace BK1116 := aM (blk_below (by have X_ := BK1116.out; exact TX) hb); replace HB := aM (below_step TB hb); clear hb))
        replace BK1115 := aM (blk_drew BK1115.out)
        replace BK1116 := aM (blk_drew BK1116.out)
        replace HB := aM (below_drew1 HB.out)
        refine start_ (n := 8) (S := fun w' => w'.cell? ⟨gb1115, 0, none⟩ = some (.slice A0_0 l0_0.length c0_0) ∧ w'.cell? ⟨gb1115, 1, none⟩ = some (.slice A0_1 l0_1.length c0_1) ∧ w'.cell? ⟨gb1115, 2, none⟩ = some (.int .i64 a0_2) ∧ w'.cell? ⟨gb1115, 3, none⟩ = some (.int .i64 a0_3) ∧ w'.cell? ⟨gb1115, 4, none⟩ = some (.int .i64 a0_4) ∧ w'.cell? ⟨gb1115, 5, none⟩ = some (.slice A0_5 l0_5.length c0_5) ∧ w'.cell? ⟨gb1116, 0, none⟩ = some (.int .i64 a1_0) ∧ w'.cell? ⟨gb1116, 1, none⟩ = some (.int .i64 a1_1) ∧ w'.cell? ⟨gb1116, 2, none⟩ = some (.int .i64 a1_2) ∧ w'.cell? ⟨gb1116, 3, none⟩ = some (.slice A1_3 l1_3.length c1_3)) (ds := []) (Array.replicate 8 false) (by kernel_rfl) rfl rfl ⟨(blk_cell BK1115.out 0).trans rfl, (blk_cell BK1115.out 1).trans rfl, (blk_cell BK1115.out 2).trans rfl, (blk_cell BK1115.out 3).trans rfl, (blk_cell BK1115.out 4).trans rfl, (blk_cell BK1115.out 5).trans rfl, (blk_cell BK1116.out 0).trans rfl, (blk_cell BK1116.out 1).trans rfl, (blk_cell BK1116.out 2).trans rfl, (blk_cell BK1116.out 3).trans rfl⟩ (fun hHeld => ?_); refine with_tabW laws_FnExactCommitted.tab10 laws_FnExactCommitted.bits10 (fun HT_ HW_ => ?_)
        generalize w38.drew = w39 at BK1115 BK1116 HB hHeld ⊢
        refine pP 4 (some 30) ?_
        refine pT 0 (some 26) ?_
        refine pT 2 (some 28) ?_
        refine pO 1 (some 27) (fun K hK => ?_)
        refine gG Try.func10 #[.agg #[.slice A0_0 l0_0.length c0_0, .slice A0_1 l0_1.length c0_1, .int .i64 a0_2, .int .i64 a0_3, .int .i64 a0_4, .slice A0_5 l0_5.length c0_5]] ?_
        with_reducible refine (laws_toDisk.calls k _ _ l0_0 _ _ l0_1 a0_2 a0_3 a0_4 _ _ l0_5 t1119 t1122 t1125 t1126 t1127 t1128 _ ?side1 ?side2 ?side3 ?side4 ?side5 ?side6 A20.out).mono ?_
        (case side1 => have X_ := (Kd.C_below HR0_0.out HB.out); exact TC)
        (case side2 => exact HC0_0.out)
        (case side3 => have X_ := (Kd.C_below HR0_1.out HB.out); exact TC)
        (case side4 => exact HC0_1.out)
        (case side5 => have X_ := (Kd.C_below HR0_5.out HB.out); exact TC)
        (case side6 => exact HC0_5.out)
        rintro e w40 ⟨v1120, v1123, v1129, rfl, ho0, ho1, ho2, hb⟩
        refine ⟨_, rfl, ?_⟩
        have n0_ := aM (Kd.R_lower ho0 (below_size TB))
        have n1_ := aM (Kd.R_lower ho1 (below_size TB))
        have n2_ := aM (Kd.S_lower ho2 (below_size TB))
        have n3_ := aM (blk_below (by have X_ := BK1115.out; exact TX) hb)
        have n4_ := aM (blk_below (by have X_ := BK1116.out; exact TX) hb)
        have n5_ := aM (below_step TB hb)
        clear BK1115
        clear BK1116
        clear HB
        have HO1121 := n0_
        have HO1124 := n1_
        have HO1130 := n2_
        have BK1115 := n3_
        have BK1116 := n4_
        have HB := n5_
        clear n0_ n1_ n2_ n3_ n4_ n5_
        (try clear hb)
        (try clear hb2)
        (try clear hk)
        (try clear hi)
        (try clear ho0)
        (try clear ho1)
        (try clear ho2)
        refine hK.out _ _ ⟨(blk_cell BK1115.out 0).trans rfl, (blk_cell BK1115.out 1).trans rfl, (blk_cell BK1115.out 2).trans rfl, (blk_cell BK1115.out 3).trans rfl, (blk_cell BK1115.out 4).trans rfl, (blk_cell BK1115.out 5).trans rfl, (blk_cell BK1116.out 0).trans rfl, (blk_cell BK1116.out 1).trans rfl, (blk_cell BK1116.out 2).trans rfl, (blk_cell BK1116.out 3).trans rfl⟩ (fun hHeld => ?_)
        clear hK K
        refine nR ?_
        refine pO 3 (some 29) (fun K hK => ?_)
        refine gG Try.func36 #[.agg #[.int .i64 a1_0, .int .i64 a1_1, .int .i64 a1_2, .slice A1_3 l1_3.length c1_3]] ?_
        with_reducible refine (laws_toManifest.calls k a1_0 a1_1 a1_2 _ _ l1_3 t1131 t1132 t1133 t1134 _ ?side1 ?side2 A21.out).mono ?_
        (case side1 => have X_ := (Kd.C_below HR1_3.out HB.out); exact TC)
        (case side2 => exact HC1_3.out)
        rintro e w41 ⟨v1135, rfl, ho0, hb⟩
        refine ⟨_, rfl, ?_⟩
        have n0_ := aM (Kd.R_below (by have X_ := HO1121.out; exact TR) hb)
        have n1_ := aM (Kd.R_below (by have X_ := HO1124.out; exact TR) hb)
        have n2_ := aM (Kd.S_below (by have X_ := HO1130.out; exact TS) hb)
        have n3_ := aM (Kd.R_lower ho0 (below_size TB))
        have n4_ := aM (blk_below (by have X_ := BK1115.out; exact TX) hb)
        have n5_ := aM (blk_below (by have X_ := BK1116.out; exact TX) hb)
        have n6_ := aM (below_step TB hb)
        clear HO1121
        clear HO1124
        clear HO1130
        clear BK1115
        clear BK1116
        clear HB
        have HO1121 := n0_
        have HO1124 := n1_
        have HO1130 := n2_
        have HO1136 := n3_
        have BK1115 := n4_
        have BK1116 := n5_
        have HB := n6_
        clear n0_ n1_ n2_ n3_ n4_ n5_ n6_
        (try clear hb)
        (try clear hb2)
        (try clear hk)
        (try clear hi)
        (try clear ho0)
        refine hK.out _ _ ⟨(blk_cell BK1115.out 0).trans rfl, (blk_cell BK1115.out 1).trans rfl, (blk_cell BK1115.out 2).trans rfl, (blk_cell BK1115.out 3).trans rfl, (blk_cell BK1115.out 4).trans rfl, (blk_cell BK1115.out 5).trans rfl, (blk_cell BK1116.out 0).trans rfl, (blk_cell BK1116.out 1).trans rfl, (blk_cell BK1116.out 2).trans rfl, (blk_cell BK1116.out 3).trans rfl⟩ (fun hHeld => ?_)
        clear hK K
        refine nR ?_
        refine pO 5 (some 31) (fun K hK => ?_)
        refine gG Try.func11 #[.slice A2 l2.length c2] ?_
        with_reducible refine (laws_toByteS.calls k _ _ l2 t1137 _ ?side1 ?side2 A22.out).mono ?_
        (case side1 => have X_ := (Kd.C_below HR2.out HB.out); exact TC)
        (case side2 => exact HC2.out)
        rintro e w42 ⟨v1138, rfl, ho0, hb⟩
        refine ⟨_, rfl, ?_⟩
        have n0_ := aM (Kd.R_elder' (by have X_ := HO1121.out; exact TR) (Kd.R_base ho0) hb)
        have n1_ := aM (Kd.R_elder' (by have X_ := HO1124.out; exact TR) (Kd.R_base ho0) hb)
        have n2_ := aM (Kd.S_elder' (by have X_ := HO1130.out; exact TS) (Kd.R_base ho0) hb)
        have n3_ := aM (Kd.R_below (by have X_ := HO1136.out; exact TR) hb)
        have n4_ := aM (Kd.R_lower (Kd.R_new' (Kd.R_new' ho0 (Kd.R_lt (by have X_ := HO1121.out; exact TR))) (Kd.R_lt (by have X_ := HO1124.out; exact TR))) (below_size TB))
        have n5_ := aM (blk_below (by have X_ := BK1115.out; exact TX) hb)
        have n6_ := aM (blk_below (by have X_ := BK1116.out; exact TX) hb)
        have n7_ := aM (below_step TB hb)
        clear HO1121
        clear HO1124
        clear HO1130
        clear HO1136
        clear BK1115
        clear BK1116
        clear HB
        have HO1121 := n0_
        have HO1124 := n1_
        have HO1130 := n2_
        have HO1136 := n3_
        have HO1139 := n4_
        have BK1115 := n5_
        have BK1116 := n6_
        have HB := n7_
        clear n0_ n1_ n2_ n3_ n4_ n5_ n6_ n7_
        (try clear hb)
        (try clear hb2)
        (try clear hk)
        (try clear hi)
        (try clear ho0)
        obtain ⟨Ao43, co43, eo43⟩ := Kd.R_slice HO1121.out
        (first | subst eo43 | (injection eo43 with f1_ f2_ f3_; have f4_ := f1_.symm; have f5_ := f3_.symm; clear f1_ f2_ f3_; subst f4_; subst f5_))
        obtain ⟨Ao44, co44, eo44⟩ := Kd.R_slice HO1124.out
        (first | subst eo44 | (injection eo44 with f1_ f2_ f3_; have f4_ := f1_.symm; have f5_ := f3_.symm; clear f1_ f2_ f3_; subst f4_; subst f5_))
        obtain ⟨Ao45, co45, eo45⟩ := Kd.S_slice HO1130.out
        (first | subst eo45 | (injection eo45 with f1_ f2_ f3_; have f4_ := f1_.symm; have f5_ := f3_.symm; clear f1_ f2_ f3_; subst f4_; subst f5_))
        obtain ⟨Ao46, co46, eo46⟩ := Kd.R_slice HO1136.out
        (first | subst eo46 | (injection eo46 with f1_ f2_ f3_; have f4_ := f1_.symm; have f5_ := f3_.symm; clear f1_ f2_ f3_; subst f4_; subst f5_))
        obtain ⟨Ao47, co47, eo47⟩ := Kd.R_slice HO1139.out
        (first | subst eo47 | (injection eo47 with f1_ f2_ f3_; have f4_ := f1_.symm; have f5_ := f3_.symm; clear f1_ f2_ f3_; subst f4_; subst f5_))
        refine hK.out _ _ ⟨(blk_cell BK1115.out 0).trans rfl, (blk_cell BK1115.out 1).trans rfl, (blk_cell BK1115.out 2).trans rfl, (blk_cell BK1115.out 3).trans rfl, (blk_cell BK1115.out 4).trans rfl, (blk_cell BK1115.out 5).trans rfl, (blk_cell BK1116.out 0).trans rfl, (blk_cell BK1116.out 1).trans rfl, (blk_cell BK1116.out 2).trans rfl, (blk_cell BK1116.out 3).trans rfl⟩ (fun hHeld => ?_)
        clear hK K
        refine nR ?_
        refine pO 6 (some 32) (fun K hK => ?_)
        refine gG Try.func35 #[.agg #[.slice Ao43 t1119.length co43, .slice Ao44 t1122.length co44, .int .i64 t1125, .int .i64 t1126, .int .i64 t1127, .slice Ao45 t1128.length co45], .agg #[.int .i64 t1131, .int .i64 t1132, .int .i64 t1133, .slice Ao46 t1134.length co46], .slice Ao47 t1137.length co47] ?_
        with_reducible refine (spec_Committed.calls k _ _ t1119 _ _ t1122 t1125 t1126 t1127 _ _ t1128 t1131 t1132 t1133 _ _ t1134 _ _ t1137 t1140 _ ?side1 ?side2 ?side3 ?side4 ?side5 ?side6 ?side7 ?side8 ?side9 ?side10 A23.out).mono ?_
        (case side1 => have X_ := (Kd.R_reads' HO1121.out).2.2; exact TC)
        (case side2 => exact (Kd.R_reads' HO1121.out).2.1)
        (case side3 => have X_ := (Kd.R_reads' HO1124.out).2.2; exact TC)
        (case side4 => exact (Kd.R_reads' HO1124.out).2.1)
        (case side5 => have X_ := (Kd.S_reads' HO1130.out).2.2; exact TC)
        (case side6 => exact (Kd.S_reads' HO1130.out).2.1)
        (case side7 => have X_ := (Kd.R_reads' HO1136.out).2.2; exact TC)
        (case side8 => exact (Kd.R_reads' HO1136.out).2.1)
        (case side9 => have X_ := (Kd.R_reads' HO1139.out).2.2; exact TC)
        (case side10 => exact (Kd.R_reads' HO1139.out).2.1)
        rintro e w48 ⟨rfl, hb⟩
        refine ⟨_, rfl, ?_⟩
        have n0_ := aM (Kd.R_below (by have X_ := HO1121.out; exact TR) hb)
        have n1_ := aM (Kd.R_below (by have X_ := HO1124.out; exact TR) hb)
        have n2_ := aM (Kd.S_below (by have X_ := HO1130.out; exact TS) hb)
        have n3_ := aM (Kd.R_below (by have X_ := HO1136.out; exact TR) hb)
        have n4_ := aM (Kd.R_below (by have X_ := HO1139.out; exact TR) hb)
        have n5_ := aM (blk_below (by have X_ := BK1115.out; exact TX) hb)
        have n6_ := aM (blk_below (by have X_ := BK1116.out; exact TX) hb)
        have n7_ := aM (below_step TB hb)
        clear HO1121
        clear HO1124
        clear HO1130
        clear HO1136
        clear HO1139
        clear BK1115
        clear BK1116
        clear HB
        have HO1121 := n0_
        have HO1124 := n1_
        have HO1130 := n2_
        have HO1136 := n3_
        have HO1139 := n4_
        have BK1115 := n5_
        have BK1116 := n6_
        have HB := n7_
        clear n0_ n1_ n2_ n3_ n4_ n5_ n6_ n7_
        (try clear hb)
        (try clear hb2)
        (try clear hk)
        (try clear hi)
        refine hK.out _ _ ⟨(blk_cell BK1115.out 0).trans rfl, (blk_cell BK1115.out 1).trans rfl, (blk_cell BK1115.out 2).trans rfl, (blk_cell BK1115.out 3).trans rfl, (blk_cell BK1115.out 4).trans rfl, (blk_cell BK1115.out 5).trans rfl, (blk_cell BK1116.out 0).trans rfl, (blk_cell BK1116.out 1).trans rfl, (blk_cell BK1116.out 2).trans rfl, (blk_cell BK1116.out 3).trans rfl⟩ (fun hHeld => ?_)
        clear hK K
        refine nR ?_
        refine pP 7 (some 8) ?_
        refine done_ (done_of HT_.out (by kernel_rfl)) ?_
        have hnb49 := NB1115_1116.out
        have hnc49 := NB1116_1115.out
        obtain ⟨hcz50_0, hcz50_1, hcz50_2, hcz50_3, hcz50_4, hcz50_5⟩ := cz6 BK1115.out
        obtain ⟨hfz50_0, hfz50_1, hfz50_2, hfz50_3, hfz50_4, hfz50_5⟩ := fz6 BK1115.out
        try go_wp2_with (first | ((with_reducible refine gate_callee (f := 10) rfl ?_); refine gL (some 34) Try.func10 #[.agg #[.slice A0_0 l0_0.length c0_0, .slice A0_1 l0_1.length c0_1, .int .i64 a0_2, .int .i64 a0_3, .int .i64 a0_4, .slice A0_5 l0_5.length c0_5]] ?_; (with_reducible refine (laws_toDisk.calls k _ _ l0_0 _ _ l0_1 a0_2 a0_3 a0_4 _ _ l0_5 t1141 t1144 t1147 t1148 t1149 t1150 _ ?side1 ?side2 ?side3 ?side4 ?side5 ?side6 A24.out).mono ?_); (case side1 => have X_ := (Kd.C_below HR0_0.out HB.out); exact TC); (case side2 => exact HC0_0.out); (case side3 => have X_ := (Kd.C_below HR0_1.out HB.out); exact TC); (case side4 => exact HC0_1.out); (case side5 => have X_ := (Kd.C_below HR0_5.out HB.out); exact TC); (case side6 => exact HC0_5.out); rintro e w51 ⟨v1142, v1145, v1151, rfl, ho0, ho1, ho2, hb⟩; refine ⟨_, rfl, ?_⟩; have HO1143 := aM (Kd.R_lower (Kd.R_new' (Kd.R_new' (Kd.R_new' ho0 (Kd.R_lt (by have X_ := HO1121.out; exact TR))) (Kd.R_lt (by have X_ := HO1124.out; exact TR))) (Kd.R_lt (by have X_ := HO1139.out; exact TR))) (below_size TB)); have HO1146 := aM (Kd.R_lower (Kd.R_new' (Kd.R_new' (Kd.R_new' ho1 (Kd.R_lt (by have X_ := HO1121.out; exact TR))) (Kd.R_lt (by have X_ := HO1124.out; exact TR))) (Kd.R_lt (by have X_ := HO1139.out; exact TR))) (below_size TB)); have HO1152 := aM (Kd.S_lower (Kd.S_new' (Kd.S_new' (Kd.S_new' (Kd.S_new' ho2 (Kd.R_lt (by have X_ := HO1121.out; exact TR))) (Kd.R_lt (by have X_ := HO1124.out; exact TR))) (Kd.S_lt (by have X_ := HO1130.out; exact TS))) (Kd.R_lt (by have X_ := HO1139.out; exact TR))) (below_size TB)); replace HO1121 := aM (Kd.R_mono (Kd.R_told (Kd.R_told (Kd.R_old (by have X_ := HO1121.out; exact TR) hb) (Kd.R_base ho0)) (Kd.R_base ho1)) (fun _ h_ => h_.1)); replace HO1124 := aM (Kd.R_mono (Kd.R_told (Kd.R_told (Kd.R_old (by have X_ := HO1124.out; exact TR) hb) (Kd.R_base ho0)) (Kd.R_base ho1)) (fun _ h_ => h_.1)); replace HO1130 := aM (Kd.S_mono (Kd.S_told (Kd.S_told (Kd.S_told (Kd.S_old (by have X_ := HO1130.out; exact TS) hb) (Kd.R_base ho0)) (Kd.R_base ho1)) (Kd.S_base ho2)) (fun _ h_ => h_.1)); replace HO1136 := aM (Kd.R_below (by have X_ := HO1136.out; exact TR) hb); replace HO1139 := aM (Kd.R_mono (Kd.R_told (Kd.R_told (Kd.R_old (by have X_ := HO1139.out; exact TR) hb) (Kd.R_base ho0)) (Kd.R_base ho1)) (fun _ h_ => h_.1)); replace BK1115 := aM (blk_below (by have X_ := BK1115.out; exact TX) hb); replace BK1116 := aM (blk_below (by have X_ := BK1116.out; exact TX) hb); replace HB := aM (below_step TB hb); clear ho0 ho1 ho2 hb) | ((with_reducible refine gate_dst (N := 9) rfl ?_); refine gBx 9 #[.slice none 0 0, .slice none 0 0, .int .i64 0, .int .i64 0, .int .i64 0, .slice none 0 0] 33 ?_; intro gb1153 hg w52 hbox hb; have BK1153 := aM (hbox); have GW1153 := aM ((by rw [hg]; exact (below_size TB) : w.heap.size ≤ gb1153)); have GE1153 := aM ((by rw [hg]; exact (below_size TB) : w.heap.size ≤ gb1153)); have NB1115_1153 := aM ((by rw [hg]; exact Nat.ne_of_lt (blk_lt (by have X_ := BK1115.out; exact TX)) : gb1115 ≠ gb1153)); have NB1153_1115 := aM ((by rw [hg]; exact Nat.ne_of_gt (blk_lt (by have X_ := BK1115.out; exact TX)) : gb1153 ≠ gb1115)); have NB1116_1153 := aM ((by rw [hg]; exact Nat.ne_of_lt (blk_lt (by have X_ := BK1116.out; exact TX)) : gb1116 ≠ gb1153)); have NB1153_1116 := aM ((by rw [hg]; exact Nat.ne_of_gt (blk_lt (by have X_ := BK1116.out; exact TX)) : gb1153 ≠ gb1116)); replace HO1121 := aM (Kd.R_below (by have X_ := HO1121.out; exact TR) hb); replace HO1124 := aM (Kd.R_below (by have X_ := HO1124.out; exact TR) hb); replace HO1130 := aM (Kd.S_below (by have X_ := HO1130.out; exact TS) hb); replace HO1136 := aM (Kd.R_below (by have X_ := HO1136.out; exact TR) hb); replace HO1139 := aM (Kd.R_below (by have X_ := HO1139.out; exact TR) hb); replace HO1143 := aM (Kd.R_below (by have X_ := HO1143.out; exact TR) hb); replace HO1146 := aM (Kd.R_below (by have X_ := HO1146.out; exact TR) hb); replace HO1152 := aM (Kd.S_below (by have X_ := HO1152.out; exact TS) hb); replace BK1115 := aM (blk_below (by have X_ := BK1115.out; exact TX) hb); replace BK1116 := aM (blk_below (by have X_ := BK1116.out; exact TX) hb); replace HB := aM (below_step TB hb); clear hb hbox hg; obtain ⟨Ao53, co53, eo53⟩ := Kd.R_slice HO1143.out; subst eo53; have hnb54 := NB1153_1115.out; have hnc54 := NB1115_1153.out; have hnb55 := NB1153_1116.out; have hnc55 := NB1116_1153.out; obtain ⟨hcz56_0, hcz56_1, hcz56_2, hcz56_3, hcz56_4, hcz56_5⟩ := cz6 BK1153.out; obtain ⟨hfz56_0, hfz56_1, hfz56_2, hfz56_3, hfz56_4, hfz56_5⟩ := fz6 BK1153.out; obtain ⟨Ao57, co57, eo57⟩ := Kd.R_slice HO1146.out; subst eo57; obtain ⟨Ao58, co58, eo58⟩ := Kd.S_slice HO1152.out; subst eo58; obtain ⟨hcz59_0, hcz59_1, hcz59_2, hcz59_3⟩ := cz4 BK1116.out; obtain ⟨hfz59_0, hfz59_1, hfz59_2, hfz59_3⟩ := fz4 BK1116.out) | ((with_reducible refine gate_callee (f := 36) rfl ?_); refine gL (some 36) Try.func36 #[.agg #[.int .i64 a1_0, .int .i64 a1_1, .int .i64 a1_2, .slice A1_3 l1_3.length c1_3]] ?_; (with_reducible refine (laws_toManifest.calls k a1_0 a1_1 a1_2 _ _ l1_3 t1154 t1155 t1156 t1157 _ ?side1 ?side2 A25.out).mono ?_); (case side1 => exact Kd.C_below HR1_3.out TB); (case side2 => exact HC1_3.out); rintro e w60 ⟨v1158, rfl, ho0, hb⟩; refine ⟨_, rfl, ?_⟩; have HO1159 := aM (Kd.R_lower (Kd.R_new' ho0 (Kd.R_lt (by (with_reducible repeat (first | apply Kd.R_alloc | apply Kd.R_drewN | apply Kd.R_drew)); exact (R_off (Kd.R_types HO1136.out BK1153.out (by decide)) TO)))) (below_size TB)); replace HO1121 := aM (Kd.R_below (by (with_reducible repeat (first | apply Kd.R_alloc | apply Kd.R_drewN | apply Kd.R_drew)); exact (R_off (Kd.R_types HO1121.out BK1153.out (by decide)) TO)) hb); replace HO1124 := aM (Kd.R_below (by (with_reducible repeat (first | apply Kd.R_alloc | apply Kd.R_drewN | apply Kd.R_drew)); exact (R_off (Kd.R_types HO1124.out BK1153.out (by decide)) TO)) hb); replace HO1130 := aM (Kd.S_below (by (with_reducible repeat (first | apply Kd.S_alloc | apply Kd.S_drewN | apply Kd.S_drew)); exact (S_off (Kd.S_types HO1130.out BK1153.out (by decide)) TO)) hb); replace HO1136 := aM (Kd.R_elder' (by (with_reducible repeat (first | apply Kd.R_alloc | apply Kd.R_drewN | apply Kd.R_drew)); exact (R_off (Kd.R_types HO1136.out BK1153.out (by decide)) TO)) (Kd.R_base ho0) hb); replace HO1139 := aM (Kd.R_below (by (with_reducible repeat (first | apply Kd.R_alloc | apply Kd.R_drewN | apply Kd.R_drew)); exact (R_off (Kd.R_types HO1139.out BK1153.out (by decide)) TO)) hb); replace HO1143 := aM (Kd.R_below (by (with_reducible repeat (first | apply Kd.R_alloc | apply Kd.R_drewN | apply Kd.R_drew)); exact (R_off (Kd.R_types HO1143.out BK1153.out (by decide)) TO)) hb); replace HO1146 := aM (Kd.R_below (by (with_reducible repeat (first | apply Kd.R_alloc | apply Kd.R_drewN | apply Kd.R_drew)); exact (R_off (Kd.R_types HO1146.out BK1153.out (by decide)) TO)) hb); replace HO1152 := aM (Kd.S_below (by (with_reducible repeat (first | apply Kd.S_alloc | apply Kd.S_drewN | apply Kd.S_drew)); exact (S_off (Kd.S_types HO1152.out BK1153.out (by decide)) TO)) hb); replace BK1115 := aM (blk_below (g := gb1115) (o := .cells #[.slice A0_0 l0_0.length c0_0, .slice A0_1 l0_1.length c0_1, .int .i64 a0_2, .int .i64 a0_3, .int .i64 a0_4, .slice A0_5 l0_5.length c0_5] 27 (0, 0)) (by (with_reducible repeat (first | refine blk_drewN ?_ _ | refine blk_drew ?_ | refine blk_alloc ?_ _)); refine blk_far ?_ NB1115_1153.out _; (with_reducible repeat (first | refine blk_drewN ?_ _ | refine blk_drew ?_ | refine blk_alloc ?_ _)); refine blk_far ?_ NB1115_1153.out _; (with_reducible repeat (first | refine blk_drewN ?_ _ | refine blk_drew ?_ | refine blk_alloc ?_ _)); refine blk_far ?_ NB1115_1153.out _; (with_reducible repeat (first | refine blk_drewN ?_ _ | refine blk_drew ?_ | refine blk_alloc ?_ _)); refine blk_far ?_ NB1115_1153.out _; (with_reducible repeat (first | refine blk_drewN ?_ _ | refine blk_drew ?_ | refine blk_alloc ?_ _)); refine blk_far ?_ NB1115_1153.out _; (with_reducible repeat (first | refine blk_drewN ?_ _ | refine blk_drew ?_ | refine blk_alloc ?_ _)); refine blk_far ?_ NB1115_1153.out _; (with_reducible repeat (first | refine blk_drewN ?_ _ | refine blk_drew ?_ | refine blk_alloc ?_ _)); exact BK1115.out) hb); replace BK1116 := aM (blk_below (g := gb1116) (o := .cells #[.int .i64 a1_0, .int .i64 a1_1, .int .i64 a1_2, .slice A1_3 l1_3.length c1_3] 64 (0, 0)) (by (with_reducible repeat (first | refine blk_drewN ?_ _ | refine blk_drew ?_ | refine blk_alloc ?_ _)); refine blk_far ?_ NB1116_1153.out _; (with_reducible repeat (first | refine blk_drewN ?_ _ | refine blk_drew ?_ | refine blk_alloc ?_ _)); refine blk_far ?_ NB1116_1153.out _; (with_reducible repeat (first | refine blk_drewN ?_ _ | refine blk_drew ?_ | refine blk_alloc ?_ _)); refine blk_far ?_ NB1116_1153.out _; (with_reducible repeat (first | refine blk_drewN ?_ _ | refine blk_drew ?_ | refine blk_alloc ?_ _)); refine blk_far ?_ NB1116_1153.out _; (with_reducible repeat (first | refine blk_drewN ?_ _ | refine blk_drew ?_ | refine blk_alloc ?_ _)); refine blk_far ?_ NB1116_1153.out _; (with_reducible repeat (first | refine blk_drewN ?_ _ | refine blk_drew ?_ | refine blk_alloc ?_ _)); refine blk_far ?_ NB1116_1153.out _; (with_reducible repeat (first | refine blk_drewN ?_ _ | refine blk_drew ?_ | refine blk_alloc ?_ _)); exact BK1116.out) hb); replace BK1153 := aM (blk_below (g := gb1153) (o := .cells #[.slice Ao53 t1141.length co53, .slice Ao57 t1144.length co57, .int .i64 t1147, .int .i64 t1148, .int .i64 t1149, .slice Ao58 t1150.length co58] 33 (0, 0)) (by (with_reducible repeat (first | refine blk_drewN ?_ _ | refine blk_drew ?_ | refine blk_alloc ?_ _)); refine blk_put (cs := #[.slice Ao53 t1141.length co53, .slice Ao57 t1144.length co57, .int .i64 t1147, .int .i64 t1148, .int .i64 t1149, .slice none 0 0]) ?_ 5 _ rfl; (with_reducible repeat (first | refine blk_drewN ?_ _ | refine blk_drew ?_ | refine blk_alloc ?_ _)); refine blk_put (cs := #[.slice Ao53 t1141.length co53, .slice Ao57 t1144.length co57, .int .i64 t1147, .int .i64 t1148, .int .i64 0, .slice none 0 0]) ?_ 4 _ rfl; (with_reducible repeat (first | refine blk_drewN ?_ _ | refine blk_drew ?_ | refine blk_alloc ?_ _)); refine blk_put (cs := #[.slice Ao53 t1141.length co53, .slice Ao57 t1144.length co57, .int .i64 t1147, .int .i64 0, .int .i64 0, .slice none 0 0]) ?_ 3 _ rfl; (with_reducible repeat (first | refine blk_drewN ?_ _ | refine blk_drew ?_ | refine blk_alloc ?_ _)); refine blk_put (cs := #[.slice Ao53 t1141.length co53, .slice Ao57 t1144.length co57, .int .i64 0, .int .i64 0, .int .i64 0, .slice none 0 0]) ?_ 2 _ rfl; (with_reducible repeat (first | refine blk_drewN ?_ _ | refine blk_drew ?_ | refine blk_alloc ?_ _)); refine blk_put (cs := #[.slice Ao53 t1141.length co53, .slice none 0 0, .int .i64 0, .int .i64 0, .int .i64 0, .slice none 0 0]) ?_ 1 _ rfl; (with_reducible repeat (first | refine blk_drewN ?_ _ | refine blk_drew ?_ | refine blk_alloc ?_ _)); refine blk_put (cs := #[.slice none 0 0, .slice none 0 0, .int .i64 0, .int .i64 0, .int .i64 0, .slice none 0 0]) ?_ 0 _ rfl; (with_reducible repeat (first | refine blk_drewN ?_ _ | refine blk_drew ?_ | refine blk_alloc ?_ _)); exact BK1153.out) hb); replace HB := aM (below_step TB hb); clear ho0 hb) | ((with_reducible refine gate_dst (N := 10) rfl ?_); refine gBx 10 #[.int .i64 0, .int .i64 0, .int .i64 0, .slice none 0 0] 44 ?_; intro gb1160 hg w61 hbox hb; have BK1160 := aM (hbox); have GW1160 := aM ((by rw [hg]; exact (below_size TB) : w.heap.size ≤ gb1160)); have GE1160 := aM ((by rw [hg]; exact (below_size TB) : w.heap.size ≤ gb1160)); have NB1115_1160 := aM ((by rw [hg]; exact Nat.ne_of_lt (blk_lt (by have X_ := BK1115.out; exact TX)) : gb1115 ≠ gb1160)); have NB1160_1115 := aM ((by rw [hg]; exact Nat.ne_of_gt (blk_lt (by have X_ := BK1115.out; exact TX)) : gb1160 ≠ gb1115)); have NB1116_1160 := aM ((by rw [hg]; exact Nat.ne_of_lt (blk_lt (by have X_ := BK1116.out; exact TX)) : gb1116 ≠ gb1160)); have NB1160_1116 := aM ((by rw [hg]; exact Nat.ne_of_gt (blk_lt (by have X_ := BK1116.out; exact TX)) : gb1160 ≠ gb1116)); have NB1153_1160 := aM ((by rw [hg]; exact Nat.ne_of_lt (blk_lt (by have X_ := BK1153.out; exact TX)) : gb1153 ≠ gb1160)); have NB1160_1153 := aM ((by rw [hg]; exact Nat.ne_of_gt (blk_lt (by have X_ := BK1153.out; exact TX)) : gb1160 ≠ gb1153)); replace HO1121 := aM (Kd.R_below (by have X_ := HO1121.out; exact TR) hb); replace HO1124 := aM (Kd.R_below (by have X_ := HO1124.out; exact TR) hb); replace HO1130 := aM (Kd.S_below (by have X_ := HO1130.out; exact TS) hb); replace HO1136 := aM (Kd.R_below (by have X_ := HO1136.out; exact TR) hb); replace HO1139 := aM (Kd.R_below (by have X_ := HO1139.out; exact TR) hb); replace HO1143 := aM (Kd.R_below (by have X_ := HO1143.out; exact TR) hb); replace HO1146 := aM (Kd.R_below (by have X_ := HO1146.out; exact TR) hb); replace HO1152 := aM (Kd.S_below (by have X_ := HO1152.out; exact TS) hb); replace HO1159 := aM (Kd.R_below (by have X_ := HO1159.out; exact TR) hb); replace BK1115 := aM (blk_below (by have X_ := BK1115.out; exact TX) hb); replace BK1116 := aM (blk_below (by have X_ := BK1116.out; exact TX) hb); replace BK1153 := aM (blk_below (by have X_ := BK1153.out; exact TX) hb); replace HB := aM (below_step TB hb); clear hb hbox hg; have hnb62 := NB1160_1115.out; have hnc62 := NB1115_1160.out; have hnb63 := NB1160_1116.out; have hnc63 := NB1116_1160.out; have hnb64 := NB1160_1153.out; have hnc64 := NB1153_1160.out; obtain ⟨hcz65_0, hcz65_1, hcz65_2, hcz65_3⟩ := cz4 BK1160.out; obtain ⟨hfz65_0, hfz65_1, hfz65_2, hfz65_3⟩ := fz4 BK1160.out; obtain ⟨Ao66, co66, eo66⟩ := Kd.R_slice HO1159.out; subst eo66) | ((with_reducible refine gate_callee (f := 11) rfl ?_); refine gL (some 38) Try.func11 #[.slice A2 l2.length c2] ?_; (with_reducible refine (laws_toByteS.calls k _ _ l2 t1161 _ ?side1 ?side2 A26.out).mono ?_); (case side1 => exact Kd.C_below HR2.out TB); (case side2 => exact HC2.out); rintro e w67 ⟨v1162, rfl, ho0, hb⟩; refine ⟨_, rfl, ?_⟩; have HO1163 := aM (Kd.R_lower (Kd.R_new' (Kd.R_new' (Kd.R_new' (Kd.R_new' (Kd.R_new' ho0 (Kd.R_lt (by (with_reducible repeat (first | apply Kd.R_alloc | apply Kd.R_drewN | apply Kd.R_drew)); exact (R_off (Kd.R_types HO1121.out BK1160.out (by decide)) TO)))) (Kd.R_lt (by (with_reducible repeat (first | apply Kd.R_alloc | apply Kd.R_drewN | apply Kd.R_drew)); exact (R_off (Kd.R_types HO1124.out BK1160.out (by decide)) TO)))) (Kd.R_lt (by (with_reducible repeat (first | apply Kd.R_alloc | apply Kd.R_drewN | apply Kd.R_drew)); exact (R_off (Kd.R_types HO1139.out BK1160.out (by decide)) TO)))) (Kd.R_lt (by (with_reducible repeat (first | apply Kd.R_alloc | apply Kd.R_drewN | apply Kd.R_drew)); exact (R_off (Kd.R_types HO1143.out BK1160.out (by decide)) TO)))) (Kd.R_lt (by (with_reducible repeat (first | apply Kd.R_alloc | apply Kd.R_drewN | apply Kd.R_drew)); exact (R_off (Kd.R_types HO1146.out BK1160.out (by decide)) TO)))) (below_size TB)); replace HO1121 := aM (Kd.R_elder' (by (with_reducible repeat (first | apply Kd.R_alloc | apply Kd.R_drewN | apply Kd.R_drew)); exact (R_off (Kd.R_types HO1121.out BK1160.out (by decide)) TO)) (Kd.R_base ho0) hb); replace HO1124 := aM (Kd.R_elder' (by (with_reducible repeat (first | apply Kd.R_alloc | apply Kd.R_drewN | apply Kd.R_drew)); exact (R_off (Kd.R_types HO1124.out BK1160.out (by decide)) TO)) (Kd.R_base ho0) hb); replace HO1130 := aM (Kd.S_elder' (by (with_reducible repeat (first | apply Kd.S_alloc | apply Kd.S_drewN | apply Kd.S_drew)); exact (S_off (Kd.S_types HO1130.out BK1160.out (by decide)) TO)) (Kd.R_base ho0) hb); replace HO1136 := aM (Kd.R_below (by (with_reducible repeat (first | apply Kd.R_alloc | apply Kd.R_drewN | apply Kd.R_drew)); exact (R_off (Kd.R_types HO1136.out BK1160.out (by decide)) TO)) hb); replace HO1139 := aM (Kd.R_elder' (by (with_reducible repeat (first | apply Kd.R_alloc | apply Kd.R_drewN | apply Kd.R_drew)); exact (R_off (Kd.R_types HO1139.out BK1160.out (by decide)) TO)) (Kd.R_base ho0) hb); replace HO1143 := aM (Kd.R_elder' (by (with_reducible repeat (first | apply Kd.R_alloc | apply Kd.R_drewN | apply Kd.R_drew)); exact (R_off (Kd.R_types HO1143.out BK1160.out (by decide)) TO)) (Kd.R_base ho0) hb); replace HO1146 := aM (Kd.R_elder' (by (with_reducible repeat (first | apply Kd.R_alloc | apply Kd.R_drewN | apply Kd.R_drew)); exact (R_off (Kd.R_types HO1146.out BK1160.out (by decide)) TO)) (Kd.R_base ho0) hb); replace HO1152 := aM (Kd.S_elder' (by (with_reducible repeat (first | apply Kd.S_alloc | apply Kd.S_drewN | apply Kd.S_drew)); exact (S_off (Kd.S_types HO1152.out BK1160.out (by decide)) TO)) (Kd.R_base ho0) hb); replace HO1159 := aM (Kd.R_below (by (with_reducible repeat (first | apply Kd.R_alloc | apply Kd.R_drewN | apply Kd.R_drew)); exact (R_off (Kd.R_types HO1159.out BK1160.out (by decide)) TO)) hb); replace BK1115 := aM (blk_below (g := gb1115) (o := .cells #[.slice A0_0 l0_0.length c0_0, .slice A0_1 l0_1.length c0_1, .int .i64 a0_2, .int .i64 a0_3, .int .i64 a0_4, .slice A0_5 l0_5.length c0_5] 27 (0, 0)) (by (with_reducible repeat (first | refine blk_drewN ?_ _ | refine blk_drew ?_ | refine blk_alloc ?_ _)); refine blk_far ?_ NB1115_1160.out _; (with_reducible repeat (first | refine blk_drewN ?_ _ | refine blk_drew ?_ | refine blk_alloc ?_ _)); refine blk_far ?_ NB1115_1160.out _; (with_reducible repeat (first | refine blk_drewN ?_ _ | refine blk_drew ?_ | refine blk_alloc ?_ _)); refine blk_far ?_ NB1115_1160.out _; (with_reducible repeat (first | refine blk_drewN ?_ _ | refine blk_drew ?_ | refine blk_alloc ?_ _)); refine blk_far ?_ NB1115_1160.out _; (with_reducible repeat (first | refine blk_drewN ?_ _ | refine blk_drew ?_ | refine blk_alloc ?_ _)); exact BK1115.out) hb); replace BK1116 := aM (blk_below (g := gb1116) (o := .cells #[.int .i64 a1_0, .int .i64 a1_1, .int .i64 a1_2, .slice A1_3 l1_3.length c1_3] 64 (0, 0)) (by (with_reducible repeat (first | refine blk_drewN ?_ _ | refine blk_drew ?_ | refine blk_alloc ?_ _)); refine blk_far ?_ NB1116_1160.out _; (with_reducible repeat (first | refine blk_drewN ?_ _ | refine blk_drew ?_ | refine blk_alloc ?_ _)); refine blk_far ?_ NB1116_1160.out _; (with_reducible repeat (first | refine blk_drewN ?_ _ | refine blk_drew ?_ | refine blk_alloc ?_ _)); refine blk_far ?_ NB1116_1160.out _; (with_reducible repeat (first | refine blk_drewN ?_ _ | refine blk_drew ?_ | refine blk_alloc ?_ _)); refine blk_far ?_ NB1116_1160.out _; (with_reducible repeat (first | refine blk_drewN ?_ _ | refine blk_drew ?_ | refine blk_alloc ?_ _)); exact BK1116.out) hb); replace BK1153 := aM (blk_below (g := gb1153) (o := .cells #[.slice Ao53 t1141.length co53, .slice Ao57 t1144.length co57, .int .i64 t1147, .int .i64 t1148, .int .i64 t1149, .slice Ao58 t1150.length co58] 33 (0, 0)) (by (with_reducible repeat (first | refine blk_drewN ?_ _ | refine blk_drew ?_ | refine blk_alloc ?_ _)); refine blk_far ?_ NB1153_1160.out _; (with_reducible repeat (first | refine blk_drewN ?_ _ | refine blk_drew ?_ | refine blk_alloc ?_ _)); refine blk_far ?_ NB1153_1160.out _; (with_reducible repeat (first | refine blk_drewN ?_ _ | refine blk_drew ?_ | refine blk_alloc ?_ _)); refine blk_far ?_ NB1153_1160.out _; (with_reducible repeat (first | refine blk_drewN ?_ _ | refine blk_drew ?_ | refine blk_alloc ?_ _)); refine blk_far ?_ NB1153_1160.out _; (with_reducible repeat (first | refine blk_drewN ?_ _ | refine blk_drew ?_ | refine blk_alloc ?_ _)); exact BK1153.out) hb); replace BK1160 := aM (blk_below (g := gb1160) (o := .cells #[.int .i64 t1154, .int .i64 t1155, .int .i64 t1156, .slice Ao66 t1157.length co66] 44 (0, 0)) (by (with_reducible repeat (first | refine blk_drewN ?_ _ | refine blk_drew ?_ | refine blk_alloc ?_ _)); refine blk_put (cs := #[.int .i64 t1154, .int .i64 t1155, .int .i64 t1156, .slice none 0 0]) ?_ 3 _ rfl; (with_reducible repeat (first | refine blk_drewN ?_ _ | refine blk_drew ?_ | refine blk_alloc ?_ _)); refine blk_put (cs := #[.int .i64 t1154, .int .i64 t1155, .int .i64 0, .slice none 0 0]) ?_ 2 _ rfl; (with_reducible repeat (first | refine blk_drewN ?_ _ | refine blk_drew ?_ | refine blk_alloc ?_ _)); refine blk_put (cs := #[.int .i64 t1154, .int .i64 0, .int .i64 0, .slice none 0 0]) ?_ 1 _ rfl; (with_reducible repeat (first | refine blk_drewN ?_ _ | refine blk_drew ?_ | refine blk_alloc ?_ _)); refine blk_put (cs := #[.int .i64 0, .int .i64 0, .int .i64 0, .slice none 0 0]) ?_ 0 _ rfl; (with_reducible repeat (first | refine blk_drewN ?_ _ | refine blk_drew ?_ | refine blk_alloc ?_ _)); exact BK1160.out) hb); replace HB := aM (below_step TB hb); clear ho0 hb; obtain ⟨hcz68_0, hcz68_1, hcz68_2, hcz68_3, hcz68_4, hcz68_5⟩ := cz6 BK1153.out; obtain ⟨hfz68_0, hfz68_1, hfz68_2, hfz68_3, hfz68_4, hfz68_5⟩ := fz6 BK1153.out; obtain ⟨hcz69_0, hcz69_1, hcz69_2, hcz69_3⟩ := cz4 BK1160.out; obtain ⟨hfz69_0, hfz69_1, hfz69_2, hfz69_3⟩ := fz4 BK1160.out; obtain ⟨Ao70, co70, eo70⟩ := Kd.R_slice HO1163.out; subst eo70) | ((with_reducible refine gate_callee (f := 33) rfl ?_); refine gL (some 42) Try.func33 #[.agg #[.slice Ao53 t1141.length co53, .slice Ao57 t1144.length co57, .int .i64 t1147, .int .i64 t1148, .int .i64 t1149, .slice Ao58 t1150.length co58], .agg #[.int .i64 t1154, .int .i64 t1155, .int .i64 t1156, .slice Ao66 t1157.length co66], .slice Ao70 t1161.length co70] ?_; (with_reducible refine (impl_Committed.calls k _ _ t1141 _ _ t1144 t1147 t1148 t1149 _ _ t1150 t1154 t1155 t1156 _ _ t1157 _ _ t1161 t1164 _ ?side1 ?side2 ?side3 ?side4 ?side5 ?side6 ?side7 ?side8 ?side9 ?side10 A27.out).mono ?_); (case side1 => have X_ := (Kd.R_reads' HO1143.out).2.2; exact TC); (case side2 => exact (Kd.R_reads' HO1143.out).2.1); (case side3 => have X_ := (Kd.R_reads' HO1146.out).2.2; exact TC); (case side4 => exact (Kd.R_reads' HO1146.out).2.1); (case side5 => have X_ := (Kd.S_reads' HO1152.out).2.2; exact TC); (case side6 => exact (Kd.S_reads' HO1152.out).2.1); (case side7 => have X_ := (Kd.R_reads' HO1159.out).2.2; exact TC); (case side8 => exact (Kd.R_reads' HO1159.out).2.1); (case side9 => have X_ := (Kd.R_reads' HO1163.out).2.2; exact TC); (case side10 => exact (Kd.R_reads' HO1163.out).2.1); rintro e w71 ⟨rfl, hb⟩; refine ⟨_, rfl, ?_⟩; replace HO1121 := aM (Kd.R_below (by have X_ := HO1121.out; exact TR) hb); replace HO1124 := aM (Kd.R_below (by have X_ := HO1124.out; exact TR) hb); replace HO1130 := aM (Kd.S_below (by have X_ := HO1130.out; exact TS) hb); replace HO1136 := aM (Kd.R_below (by have X_ := HO1136.out; exact TR) hb); replace HO1139 := aM (Kd.R_below (by have X_ := HO1139.out; exact TR) hb); replace HO1143 := aM (Kd.R_below (by have X_ := HO1143.out; exact TR) hb); replace HO1146 := aM (Kd.R_below (by have X_ := HO1146.out; exact TR) hb); replace HO1152 := aM (Kd.S_below (by have X_ := HO1152.out; exact TS) hb); replace HO1159 := aM (Kd.R_below (by have X_ := HO1159.out; exact TR) hb); replace HO1163 := aM (Kd.R_below (by have X_ := HO1163.out; exact TR) hb); replace BK1115 := aM (blk_below (by have X_ := BK1115.out; exact TX) hb); replace BK1116 := aM (blk_below (by have X_ := BK1116.out; exact TX) hb); replace BK1153 := aM (blk_below (by have X_ := BK1153.out; exact TX) hb); replace BK1160 := aM (blk_below (by have X_ := BK1160.out; exact TX) hb); replace HB := aM (below_step TB hb); clear hb))
        replace HO1121 := aM (Kd.R_drew HO1121.out)
        replace HO1124 := aM (Kd.R_drew HO1124.out)
        replace HO1130 := aM (Kd.S_drew HO1130.out)
        replace HO1136 := aM (Kd.R_drew HO1136.out)
        replace HO1139 := aM (Kd.R_drew HO1139.out)
        replace HO1143 := aM (Kd.R_drew HO1143.out)
        replace HO1146 := aM (Kd.R_drew HO1146.out)
        replace HO1152 := aM (Kd.S_drew HO1152.out)
        replace HO1159 := aM (Kd.R_drew HO1159.out)
        replace HO1163 := aM (Kd.R_drew HO1163.out)
        replace BK1115 := aM (blk_drew BK1115.out)
        replace BK1116 := aM (blk_drew BK1116.out)
        replace BK1153 := aM (blk_drew BK1153.out)
        replace BK1160 := aM (blk_drew BK1160.out)
        replace HB := aM (below_drew1 HB.out)
        refine start_ (n := 5) (S := fun w' => w'.cell? ⟨gb1153, 0, none⟩ = some (.slice Ao53 t1141.length co53) ∧ w'.cell? ⟨gb1153, 1, none⟩ = some (.slice Ao57 t1144.length co57) ∧ w'.cell? ⟨gb1153, 2, none⟩ = some (.int .i64 t1147) ∧ w'.cell? ⟨gb1153, 3, none⟩ = some (.int .i64 t1148) ∧ w'.cell? ⟨gb1153, 4, none⟩ = some (.int .i64 t1149) ∧ w'.cell? ⟨gb1153, 5, none⟩ = some (.slice Ao58 t1150.length co58) ∧ w'.cell? ⟨gb1115, 0, none⟩ = some (.slice A0_0 l0_0.length c0_0) ∧ w'.cell? ⟨gb1115, 1, none⟩ = some (.slice A0_1 l0_1.length c0_1) ∧ w'.cell? ⟨gb1115, 2, none⟩ = some (.int .i64 a0_2) ∧ w'.cell? ⟨gb1115, 3, none⟩ = some (.int .i64 a0_3) ∧ w'.cell? ⟨gb1115, 4, none⟩ = some (.int .i64 a0_4) ∧ w'.cell? ⟨gb1115, 5, none⟩ = some (.slice A0_5 l0_5.length c0_5)) (ds := []) (Array.replicate 5 false) (by kernel_rfl) rfl rfl ⟨(blk_cell BK1153.out 0).trans rfl, (blk_cell BK1153.out 1).trans rfl, (blk_cell BK1153.out 2).trans rfl, (blk_cell BK1153.out 3).trans rfl, (blk_cell BK1153.out 4).trans rfl, (blk_cell BK1153.out 5).trans rfl, (blk_cell BK1115.out 0).trans rfl, (blk_cell BK1115.out 1).trans rfl, (blk_cell BK1115.out 2).trans rfl, (blk_cell BK1115.out 3).trans rfl, (blk_cell BK1115.out 4).trans rfl, (blk_cell BK1115.out 5).trans rfl⟩ (fun hHeld => ?_)
        generalize w71.drew = w72 at HO1121 HO1124 HO1130 HO1136 HO1139 HO1143 HO1146 HO1152 HO1159 HO1163 BK1115 BK1116 BK1153 BK1160 HB hHeld ⊢
        refine pT 0 (some 46) ?_
        refine pT 1 (some 47) ?_
        refine pO 2 (some 48) (fun K hK => ?_)
        refine gG Try.func10 #[.agg #[.slice A0_0 l0_0.length c0_0, .slice A0_1 l0_1.length c0_1, .int .i64 a0_2, .int .i64 a0_3, .int .i64 a0_4, .slice A0_5 l0_5.length c0_5]] ?_
        with_reducible refine (laws_toDisk.calls k _ _ l0_0 _ _ l0_1 a0_2 a0_3 a0_4 _ _ l0_5 t1165 t1168 t1171 t1172 t1173 t1174 _ ?side1 ?side2 ?side3 ?side4 ?side5 ?side6 A29.out).mono ?_
        (case side1 => have X_ := (Kd.C_below HR0_0.out HB.out); exact TC)
        (case side2 => exact HC0_0.out)
        (case side3 => have X_ := (Kd.C_below HR0_1.out HB.out); exact TC)
        (case side4 => exact HC0_1.out)
        (case side5 => have X_ := (Kd.C_below HR0_5.out HB.out); exact TC)
        (case side6 => exact HC0_5.out)
        rintro e w73 ⟨v1166, v1169, v1175, rfl, ho0, ho1, ho2, hb⟩
        refine ⟨_, rfl, ?_⟩
        have n0_ := aM (Kd.R_mono (Kd.R_told (Kd.R_told (Kd.R_old (by have X_ := HO1121.out; exact TR) hb) (Kd.R_base ho0)) (Kd.R_base ho1)) (fun _ h_ => h_.1))
        have n1_ := aM (Kd.R_mono (Kd.R_told (Kd.R_told (Kd.R_old (by have X_ := HO1124.out; exact TR) hb) (Kd.R_base ho0)) (Kd.R_base ho1)) (fun _ h_ => h_.1))
        have n2_ := aM (Kd.S_mono (Kd.S_told (Kd.S_told (Kd.S_told (Kd.S_old (by have X_ := HO1130.out; exact TS) hb) (Kd.R_base ho0)) (Kd.R_base ho1)) (Kd.S_base ho2)) (fun _ h_ => h_.1))
        have n3_ := aM (Kd.R_below (by have X_ := HO1136.out; exact TR) hb)
        have n4_ := aM (Kd.R_mono (Kd.R_told (Kd.R_told (Kd.R_old (by have X_ := HO1139.out; exact TR) hb) (Kd.R_base ho0)) (Kd.R_base ho1)) (fun _ h_ => h_.1))
        have n5_ := aM (Kd.R_mono (Kd.R_told (Kd.R_told (Kd.R_old (by have X_ := HO1143.out; exact TR) hb) (Kd.R_base ho0)) (Kd.R_base ho1)) (fun _ h_ => h_.1))
        have n6_ := aM (Kd.R_mono (Kd.R_told (Kd.R_told (Kd.R_old (by have X_ := HO1146.out; exact TR) hb) (Kd.R_base ho0)) (Kd.R_base ho1)) (fun _ h_ => h_.1))
        have n7_ := aM (Kd.S_mono (Kd.S_told (Kd.S_told (Kd.S_told (Kd.S_old (by have X_ := HO1152.out; exact TS) hb) (Kd.R_base ho0)) (Kd.R_base ho1)) (Kd.S_base ho2)) (fun _ h_ => h_.1))
        have n8_ := aM (Kd.R_below (by have X_ := HO1159.out; exact TR) hb)
        have n9_ := aM (Kd.R_mono (Kd.R_told (Kd.R_told (Kd.R_old (by have X_ := HO1163.out; exact TR) hb) (Kd.R_base ho0)) (Kd.R_base ho1)) (fun _ h_ => h_.1))
        have n10_ := aM (Kd.R_lower (Kd.R_new' (Kd.R_new' (Kd.R_new' (Kd.R_new' (Kd.R_new' (Kd.R_new' ho0 (Kd.R_lt (by have X_ := HO1121.out; exact TR))) (Kd.R_lt (by have X_ := HO1124.out; exact TR))) (Kd.R_lt (by have X_ := HO1139.out; exact TR))) (Kd.R_lt (by have X_ := HO1143.out; exact TR))) (Kd.R_lt (by have X_ := HO1146.out; exact TR))) (Kd.R_lt (by have X_ := HO1163.out; exact TR))) (below_size TB))
        have n11_ := aM (Kd.R_lower (Kd.R_new' (Kd.R_new' (Kd.R_new' (Kd.R_new' (Kd.R_new' (Kd.R_new' ho1 (Kd.R_lt (by have X_ := HO1121.out; exact TR))) (Kd.R_lt (by have X_ := HO1124.out; exact TR))) (Kd.R_lt (by have X_ := HO1139.out; exact TR))) (Kd.R_lt (by have X_ := HO1143.out; exact TR))) (Kd.R_lt (by have X_ := HO1146.out; exact TR))) (Kd.R_lt (by have X_ := HO1163.out; exact TR))) (below_size TB))
        have n12_ := aM (Kd.S_lower (Kd.S_new' (Kd.S_new' (Kd.S_new' (Kd.S_new' (Kd.S_new' (Kd.S_new' (Kd.S_new' (Kd.S_new' ho2 (Kd.R_lt (by have X_ := HO1121.out; exact TR))) (Kd.R_lt (by have X_ := HO1124.out; exact TR))) (Kd.S_lt (by have X_ := HO1130.out; exact TS))) (Kd.R_lt (by have X_ := HO1139.out; exact TR))) (Kd.R_lt (by have X_ := HO1143.out; exact TR))) (Kd.R_lt (by have X_ := HO1146.out; exact TR))) (Kd.S_lt (by have X_ := HO1152.out; exact TS))) (Kd.R_lt (by have X_ := HO1163.out; exact TR))) (below_size TB))
        have n13_ := aM (blk_below (by have X_ := BK1115.out; exact TX) hb)
        have n14_ := aM (blk_below (by have X_ := BK1116.out; exact TX) hb)
        have n15_ := aM (blk_below (by have X_ := BK1153.out; exact TX) hb)
        have n16_ := aM (blk_below (by have X_ := BK1160.out; exact TX) hb)
        have n17_ := aM (below_step TB hb)
        clear HO1121
        clear HO1124
        clear HO1130
        clear HO1136
        clear HO1139
        clear HO1143
        clear HO1146
        clear HO1152
        clear HO1159
        clear HO1163
        clear BK1115
        clear BK1116
        clear BK1153
        clear BK1160
        clear HB
        have HO1121 := n0_
        have HO1124 := n1_
        have HO1130 := n2_
        have HO1136 := n3_
        have HO1139 := n4_
        have HO1143 := n5_
        have HO1146 := n6_
        have HO1152 := n7_
        have HO1159 := n8_
        have HO1163 := n9_
        have HO1167 := n10_
        have HO1170 := n11_
        have HO1176 := n12_
        have BK1115 := n13_
        have BK1116 := n14_
        have BK1153 := n15_
        have BK1160 := n16_
        have HB := n17_
        clear n0_ n1_ n2_ n3_ n4_ n5_ n6_ n7_ n8_ n9_ n10_ n11_ n12_ n13_ n14_ n15_ n16_ n17_
        (try clear hb)
        (try clear hb2)
        (try clear hk)
        (try clear hi)
        (try clear ho0)
        (try clear ho1)
        (try clear ho2)
        obtain ⟨Ao74, co74, eo74⟩ := Kd.R_slice HO1167.out
        (first | subst eo74 | (injection eo74 with f1_ f2_ f3_; have f4_ := f1_.symm; have f5_ := f3_.symm; clear f1_ f2_ f3_; subst f4_; subst f5_))
        obtain ⟨Ao75, co75, eo75⟩ := Kd.R_slice HO1170.out
        (first | subst eo75 | (injection eo75 with f1_ f2_ f3_; have f4_ := f1_.symm; have f5_ := f3_.symm; clear f1_ f2_ f3_; subst f4_; subst f5_))
        obtain ⟨Ao76, co76, eo76⟩ := Kd.S_slice HO1176.out
        (first | subst eo76 | (injection eo76 with f1_ f2_ f3_; have f4_ := f1_.symm; have f5_ := f3_.symm; clear f1_ f2_ f3_; subst f4_; subst f5_))
        refine hK.out _ _ ⟨(blk_cell BK1153.out 0).trans rfl, (blk_cell BK1153.out 1).trans rfl, (blk_cell BK1153.out 2).trans rfl, (blk_cell BK1153.out 3).trans rfl, (blk_cell BK1153.out 4).trans rfl, (blk_cell BK1153.out 5).trans rfl, (blk_cell BK1115.out 0).trans rfl, (blk_cell BK1115.out 1).trans rfl, (blk_cell BK1115.out 2).trans rfl, (blk_cell BK1115.out 3).trans rfl, (blk_cell BK1115.out 4).trans rfl, (blk_cell BK1115.out 5).trans rfl⟩ (fun hHeld => ?_)
        clear hK K
        refine nR ?_
        refine pO 3 (some 49) (fun K hK => ?_)
        refine gG Try.func13 #[.agg #[.slice Ao53 t1141.length co53, .slice Ao57 t1144.length co57, .int .i64 t1147, .int .i64 t1148, .int .i64 t1149, .slice Ao58 t1150.length co58], .agg #[.slice Ao74 t1165.length co74, .slice Ao75 t1168.length co75, .int .i64 t1171, .int .i64 t1172, .int .i64 t1173, .slice Ao76 t1174.length co76]] ?_
        with_reducible refine (laws_eqDisk.calls k _ _ t1141 _ _ t1144 t1147 t1148 t1149 _ _ t1150 _ _ t1165 _ _ t1168 t1171 t1172 t1173 _ _ t1174 true _ ?side1 ?side2 ?side3 ?side4 ?side5 ?side6 ?side7 ?side8 ?side9 ?side10 ?side11 ?side12 A30.out).mono ?_
        (case side1 => have X_ := (Kd.R_reads' HO1143.out).2.2; exact TC)
        (case side2 => exact (Kd.R_reads' HO1143.out).2.1)
        (case side3 => have X_ := (Kd.R_reads' HO1146.out).2.2; exact TC)
        (case side4 => exact (Kd.R_reads' HO1146.out).2.1)
        (case side5 => have X_ := (Kd.S_reads' HO1152.out).2.2; exact TC)
        (case side6 => exact (Kd.S_reads' HO1152.out).2.1)
        (case side7 => have X_ := (Kd.R_reads' HO1167.out).2.2; exact TC)
        (case side8 => exact (Kd.R_reads' HO1167.out).2.1)
        (case side9 => have X_ := (Kd.R_reads' HO1170.out).2.2; exact TC)
        (case side10 => exact (Kd.R_reads' HO1170.out).2.1)
        (case side11 => have X_ := (Kd.S_reads' HO1176.out).2.2; exact TC)
        (case side12 => exact (Kd.S_reads' HO1176.out).2.1)
        rintro e w77 ⟨rfl, hb⟩
        refine ⟨_, rfl, ?_⟩
        have n0_ := aM (Kd.R_below (by have X_ := HO1121.out; exact TR) hb)
        have n1_ := aM (Kd.R_below (by have X_ := HO1124.out; exact TR) hb)
        have n2_ := aM (Kd.S_below (by have X_ := HO1130.out; exact TS) hb)
        have n3_ := aM (Kd.R_below (by have X_ := HO1136.out; exact TR) hb)
        have n4_ := aM (Kd.R_below (by have X_ := HO1139.out; exact TR) hb)
        have n5_ := aM (Kd.R_below (by have X_ := HO1143.out; exact TR) hb)
        have n6_ := aM (Kd.R_below (by have X_ := HO1146.out; exact TR) hb)
        have n7_ := aM (Kd.S_below (by have X_ := HO1152.out; exact TS) hb)
        have n8_ := aM (Kd.R_below (by have X_ := HO1159.out; exact TR) hb)
        have n9_ := aM (Kd.R_below (by have X_ := HO1163.out; exact TR) hb)
        have n10_ := aM (Kd.R_below (by have X_ := HO1167.out; exact TR) hb)
        have n11_ := aM (Kd.R_below (by have X_ := HO1170.out; exact TR) hb)
        have n12_ := aM (Kd.S_below (by have X_ := HO1176.out; exact TS) hb)
        have n13_ := aM (blk_below (by have X_ := BK1115.out; exact TX) hb)
        have n14_ := aM (blk_below (by have X_ := BK1116.out; exact TX) hb)
        have n15_ := aM (blk_below (by have X_ := BK1153.out; exact TX) hb)
        have n16_ := aM (blk_below (by have X_ := BK1160.out; exact TX) hb)
        have n17_ := aM (below_step TB hb)
        clear HO1121
        clear HO1124
        clear HO1130
        clear HO1136
        clear HO1139
        clear HO1143
        clear HO1146
        clear HO1152
        clear HO1159
        clear HO1163
        clear HO1167
        clear HO1170
        clear HO1176
        clear BK1115
        clear BK1116
        clear BK1153
        clear BK1160
        clear HB
        have HO1121 := n0_
        have HO1124 := n1_
        have HO1130 := n2_
        have HO1136 := n3_
        have HO1139 := n4_
        have HO1143 := n5_
        have HO1146 := n6_
        have HO1152 := n7_
        have HO1159 := n8_
        have HO1163 := n9_
        have HO1167 := n10_
        have HO1170 := n11_
        have HO1176 := n12_
        have BK1115 := n13_
        have BK1116 := n14_
        have BK1153 := n15_
        have BK1160 := n16_
        have HB := n17_
        clear n0_ n1_ n2_ n3_ n4_ n5_ n6_ n7_ n8_ n9_ n10_ n11_ n12_ n13_ n14_ n15_ n16_ n17_
        (try clear hb)
        (try clear hb2)
        (try clear hk)
        (try clear hi)
        refine hK.out _ _ ⟨(blk_cell BK1153.out 0).trans rfl, (blk_cell BK1153.out 1).trans rfl, (blk_cell BK1153.out 2).trans rfl, (blk_cell BK1153.out 3).trans rfl, (blk_cell BK1153.out 4).trans rfl, (blk_cell BK1153.out 5).trans rfl, (blk_cell BK1115.out 0).trans rfl, (blk_cell BK1115.out 1).trans rfl, (blk_cell BK1115.out 2).trans rfl, (blk_cell BK1115.out 3).trans rfl, (blk_cell BK1115.out 4).trans rfl, (blk_cell BK1115.out 5).trans rfl⟩ (fun hHeld => ?_)
        clear hK K
        refine nR ?_
        refine pP 4 (some 50) ?_
        refine done_ (by kernel_rfl) ?_
        try go_wp2
        replace HO1121 := aM (Kd.R_drew HO1121.out)
        replace HO1124 := aM (Kd.R_drew HO1124.out)
        replace HO1130 := aM (Kd.S_drew HO1130.out)
        replace HO1136 := aM (Kd.R_drew HO1136.out)
        replace HO1139 := aM (Kd.R_drew HO1139.out)
        replace HO1143 := aM (Kd.R_drew HO1143.out)
        replace HO1146 := aM (Kd.R_drew HO1146.out)
        replace HO1152 := aM (Kd.S_drew HO1152.out)
        replace HO1159 := aM (Kd.R_drew HO1159.out)
        replace HO1163 := aM (Kd.R_drew HO1163.out)
        replace HO1167 := aM (Kd.R_drew HO1167.out)
        replace HO1170 := aM (Kd.R_drew HO1170.out)
        replace HO1176 := aM (Kd.S_drew HO1176.out)
        replace BK1115 := aM (blk_drew BK1115.out)
        replace BK1116 := aM (blk_drew BK1116.out)
        replace BK1153 := aM (blk_drew BK1153.out)
        replace BK1160 := aM (blk_drew BK1160.out)
        replace HB := aM (below_drew1 HB.out)
        refine start_ (n := 5) (S := fun w' => w'.cell? ⟨gb1160, 0, none⟩ = some (.int .i64 t1154) ∧ w'.cell? ⟨gb1160, 1, none⟩ = some (.int .i64 t1155) ∧ w'.cell? ⟨gb1160, 2, none⟩ = some (.int .i64 t1156) ∧ w'.cell? ⟨gb1160, 3, none⟩ = some (.slice Ao66 t1157.length co66) ∧ w'.cell? ⟨gb1116, 0, none⟩ = some (.int .i64 a1_0) ∧ w'.cell? ⟨gb1116, 1, none⟩ = some (.int .i64 a1_1) ∧ w'.cell? ⟨gb1116, 2, none⟩ = some (.int .i64 a1_2) ∧ w'.cell? ⟨gb1116, 3, none⟩ = some (.slice A1_3 l1_3.length c1_3)) (ds := []) (Array.replicate 5 false) (by kernel_rfl) rfl rfl ⟨(blk_cell BK1160.out 0).trans rfl, (blk_cell BK1160.out 1).trans rfl, (blk_cell BK1160.out 2).trans rfl, (blk_cell BK1160.out 3).trans rfl, (blk_cell BK1116.out 0).trans rfl, (blk_cell BK1116.out 1).trans rfl, (blk_cell BK1116.out 2).trans rfl, (blk_cell BK1116.out 3).trans rfl⟩ (fun hHeld => ?_)
        generalize w77.drew = w78 at HO1121 HO1124 HO1130 HO1136 HO1139 HO1143 HO1146 HO1152 HO1159 HO1163 HO1167 HO1170 HO1176 BK1115 BK1116 BK1153 BK1160 HB hHeld ⊢
        refine pT 0 (some 51) ?_
        refine pT 1 (some 52) ?_
        refine pO 2 (some 53) (fun K hK => ?_)
        refine gG Try.func36 #[.agg #[.int .i64 a1_0, .int .i64 a1_1, .int .i64 a1_2, .slice A1_3 l1_3.length c1_3]] ?_
        with_reducible refine (laws_toManifest.calls k a1_0 a1_1 a1_2 _ _ l1_3 t1178 t1179 t1180 t1181 _ ?side1 ?side2 A32.out).mono ?_
        (case side1 => have X_ := (Kd.C_below HR1_3.out HB.out); exact TC)
        (case side2 => exact HC1_3.out)
        rintro e w79 ⟨v1182, rfl, ho0, hb⟩
        refine ⟨_, rfl, ?_⟩
        have n0_ := aM (Kd.R_below (by have X_ := HO1121.out; exact TR) hb)
        have n1_ := aM (Kd.R_below (by have X_ := HO1124.out; exact TR) hb)
        have n2_ := aM (Kd.S_below (by have X_ := HO1130.out; exact TS) hb)
        have n3_ := aM (Kd.R_elder' (by have X_ := HO1136.out; exact TR) (Kd.R_base ho0) hb)
        have n4_ := aM (Kd.R_below (by have X_ := HO1139.out; exact TR) hb)
        have n5_ := aM (Kd.R_below (by have X_ := HO1143.out; exact TR) hb)
        have n6_ := aM (Kd.R_below (by have X_ := HO1146.out; exact TR) hb)
        have n7_ := aM (Kd.S_below (by have X_ := HO1152.out; exact TS) hb)
        have n8_ := aM (Kd.R_elder' (by have X_ := HO1159.out; exact TR) (Kd.R_base ho0) hb)
        have n9_ := aM (Kd.R_below (by have X_ := HO1163.out; exact TR) hb)
        have n10_ := aM (Kd.R_below (by have X_ := HO1167.out; exact TR) hb)
        have n11_ := aM (Kd.R_below (by have X_ := HO1170.out; exact TR) hb)
        have n12_ := aM (Kd.S_below (by have X_ := HO1176.out; exact TS) hb)
        have n13_ := aM (Kd.R_lower (Kd.R_new' (Kd.R_new' ho0 (Kd.R_lt (by have X_ := HO1136.out; exact TR))) (Kd.R_lt (by have X_ := HO1159.out; exact TR))) (below_size TB))
        have n14_ := aM (blk_below (by have X_ := BK1115.out; exact TX) hb)
        have n15_ := aM (blk_below (by have X_ := BK1116.out; exact TX) hb)
        have n16_ := aM (blk_below (by have X_ := BK1153.out; exact TX) hb)
        have n17_ := aM (blk_below (by have X_ := BK1160.out; exact TX) hb)
        have n18_ := aM (below_step TB hb)
        clear HO1121
        clear HO1124
        clear HO1130
        clear HO1136
        clear HO1139
        clear HO1143
        clear HO1146
        clear HO1152
        clear HO1159
        clear HO1163
        clear HO1167
        clear HO1170
        clear HO1176
        clear BK1115
        clear BK1116
        clear BK1153
        clear BK1160
        clear HB
        have HO1121 := n0_
        have HO1124 := n1_
        have HO1130 := n2_
        have HO1136 := n3_
        have HO1139 := n4_
        have HO1143 := n5_
        have HO1146 := n6_
        have HO1152 := n7_
        have HO1159 := n8_
        have HO1163 := n9_
        have HO1167 := n10_
        have HO1170 := n11_
        have HO1176 := n12_
        have HO1183 := n13_
        have BK1115 := n14_
        have BK1116 := n15_
        have BK1153 := n16_
        have BK1160 := n17_
        have HB := n18_
        clear n0_ n1_ n2_ n3_ n4_ n5_ n6_ n7_ n8_ n9_ n10_ n11_ n12_ n13_ n14_ n15_ n16_ n17_ n18_
        (try clear hb)
        (try clear hb2)
        (try clear hk)
        (try clear hi)
        (try clear ho0)
        obtain ⟨Ao80, co80, eo80⟩ := Kd.R_slice HO1183.out
        (first | subst eo80 | (injection eo80 with f1_ f2_ f3_; have f4_ := f1_.symm; have f5_ := f3_.symm; clear f1_ f2_ f3_; subst f4_; subst f5_))
        refine hK.out _ _ ⟨(blk_cell BK1160.out 0).trans rfl, (blk_cell BK1160.out 1).trans rfl, (blk_cell BK1160.out 2).trans rfl, (blk_cell BK1160.out 3).trans rfl, (blk_cell BK1116.out 0).trans rfl, (blk_cell BK1116.out 1).trans rfl, (blk_cell BK1116.out 2).trans rfl, (blk_cell BK1116.out 3).trans rfl⟩ (fun hHeld => ?_)
        clear hK K
        refine nR ?_
        refine pO 3 (some 54) (fun K hK => ?_)
        refine gG Try.func37 #[.agg #[.int .i64 t1154, .int .i64 t1155, .int .i64 t1156, .slice Ao66 t1157.length co66], .agg #[.int .i64 t1178, .int .i64 t1179, .int .i64 t1180, .slice Ao80 t1181.length co80]] ?_
        with_reducible refine (laws_eqManifest.calls k t1154 t1155 t1156 _ _ t1157 t1178 t1179 t1180 _ _ t1181 true _ ?side1 ?side2 ?side3 ?side4 A33.out).mono ?_
        (case side1 => have X_ := (Kd.R_reads' HO1159.out).2.2; exact TC)
        (case side2 => exact (Kd.R_reads' HO1159.out).2.1)
        (case side3 => have X_ := (Kd.R_reads' HO1183.out).2.2; exact TC)
        (case side4 => exact (Kd.R_reads' HO1183.out).2.1)
        rintro e w81 ⟨rfl, hb⟩
        refine ⟨_, rfl, ?_⟩
        have n0_ := aM (Kd.R_below (by have X_ := HO1121.out; exact TR) hb)
        have n1_ := aM (Kd.R_below (by have X_ := HO1124.out; exact TR) hb)
        have n2_ := aM (Kd.S_below (by have X_ := HO1130.out; exact TS) hb)
        have n3_ := aM (Kd.R_below (by have X_ := HO1136.out; exact TR) hb)
        have n4_ := aM (Kd.R_below (by have X_ := HO1139.out; exact TR) hb)
        have n5_ := aM (Kd.R_below (by have X_ := HO1143.out; exact TR) hb)
        have n6_ := aM (Kd.R_below (by have X_ := HO1146.out; exact TR) hb)
        have n7_ := aM (Kd.S_below (by have X_ := HO1152.out; exact TS) hb)
        have n8_ := aM (Kd.R_below (by have X_ := HO1159.out; exact TR) hb)
        have n9_ := aM (Kd.R_below (by have X_ := HO1163.out; exact TR) hb)
        have n10_ := aM (Kd.R_below (by have X_ := HO1167.out; exact TR) hb)
        have n11_ := aM (Kd.R_below (by have X_ := HO1170.out; exact TR) hb)
        have n12_ := aM (Kd.S_below (by have X_ := HO1176.out; exact TS) hb)
        have n13_ := aM (Kd.R_below (by have X_ := HO1183.out; exact TR) hb)
        have n14_ := aM (blk_below (by have X_ := BK1115.out; exact TX) hb)
        have n15_ := aM (blk_below (by have X_ := BK1116.out; exact TX) hb)
        have n16_ := aM (blk_below (by have X_ := BK1153.out; exact TX) hb)
        have n17_ := aM (blk_below (by have X_ := BK1160.out; exact TX) hb)
        have n18_ := aM (below_step TB hb)
        clear HO1121
        clear HO1124
        clear HO1130
        clear HO1136
        clear HO1139
        clear HO1143
        clear HO1146
        clear HO1152
        clear HO1159
        clear HO1163
        clear HO1167
        clear HO1170
        clear HO1176
        clear HO1183
        clear BK1115
        clear BK1116
        clear BK1153
        clear BK1160
        clear HB
        have HO1121 := n0_
        have HO1124 := n1_
        have HO1130 := n2_
        have HO1136 := n3_
        have HO1139 := n4_
        have HO1143 := n5_
        have HO1146 := n6_
        have HO1152 := n7_
        have HO1159 := n8_
        have HO1163 := n9_
        have HO1167 := n10_
        have HO1170 := n11_
        have HO1176 := n12_
        have HO1183 := n13_
        have BK1115 := n14_
        have BK1116 := n15_
        have BK1153 := n16_
        have BK1160 := n17_
        have HB := n18_
        clear n0_ n1_ n2_ n3_ n4_ n5_ n6_ n7_ n8_ n9_ n10_ n11_ n12_ n13_ n14_ n15_ n16_ n17_ n18_
        (try clear hb)
        (try clear hb2)
        (try clear hk)
        (try clear hi)
        refine hK.out _ _ ⟨(blk_cell BK1160.out 0).trans rfl, (blk_cell BK1160.out 1).trans rfl, (blk_cell BK1160.out 2).trans rfl, (blk_cell BK1160.out 3).trans rfl, (blk_cell BK1116.out 0).trans rfl, (blk_cell BK1116.out 1).trans rfl, (blk_cell BK1116.out 2).trans rfl, (blk_cell BK1116.out 3).trans rfl⟩ (fun hHeld => ?_)
        clear hK K
        refine nR ?_
        refine pP 4 (some 55) ?_
        refine done_ (by kernel_rfl) ?_
        try go_wp2_with (first | ((with_reducible refine gate_callee (f := 11) rfl ?_); refine gL (some 58) Try.func11 #[.slice A2 l2.length c2] ?_; (with_reducible refine (laws_toByteS.calls k _ _ l2 t1185 _ ?side1 ?side2 A35.out).mono ?_); (case side1 => have X_ := (Kd.C_below HR2.out HB.out); exact TC); (case side2 => exact HC2.out); rintro e w82 ⟨v1186, rfl, ho0, hb⟩; refine ⟨_, rfl, ?_⟩; have HO1187 := aM (Kd.R_lower (Kd.R_new' (Kd.R_new' (Kd.R_new' (Kd.R_new' (Kd.R_new' (Kd.R_new' (Kd.R_new' (Kd.R_new' ho0 (Kd.R_lt (by have X_ := HO1121.out; exact TR))) (Kd.R_lt (by have X_ := HO1124.out; exact TR))) (Kd.R_lt (by have X_ := HO1139.out; exact TR))) (Kd.R_lt (by have X_ := HO1143.out; exact TR))) (Kd.R_lt (by have X_ := HO1146.out; exact TR))) (Kd.R_lt (by have X_ := HO1163.out; exact TR))) (Kd.R_lt (by have X_ := HO1167.out; exact TR))) (Kd.R_lt (by have X_ := HO1170.out; exact TR))) (below_size TB)); replace HO1121 := aM (Kd.R_elder' (by have X_ := HO1121.out; exact TR) (Kd.R_base ho0) hb); replace HO1124 := aM (Kd.R_elder' (by have X_ := HO1124.out; exact TR) (Kd.R_base ho0) hb); replace HO1130 := aM (Kd.S_elder' (by have X_ := HO1130.out; exact TS) (Kd.R_base ho0) hb); replace HO1136 := aM (Kd.R_below (by have X_ := HO1136.out; exact TR) hb); replace HO1139 := aM (Kd.R_elder' (by have X_ := HO1139.out; exact TR) (Kd.R_base ho0) hb); replace HO1143 := aM (Kd.R_elder' (by have X_ := HO1143.out; exact TR) (Kd.R_base ho0) hb); replace HO1146 := aM (Kd.R_elder' (by have X_ := HO1146.out; exact TR) (Kd.R_base ho0) hb); replace HO1152 := aM (Kd.S_elder' (by have X_ := HO1152.out; exact TS) (Kd.R_base ho0) hb); replace HO1159 := aM (Kd.R_below (by have X_ := HO1159.out; exact TR) hb); replace HO1163 := aM (Kd.R_elder' (by have X_ := HO1163.out; exact TR) (Kd.R_base ho0) hb); replace HO1167 := aM (Kd.R_elder' (by have X_ := HO1167.out; exact TR) (Kd.R_base ho0) hb); replace HO1170 := aM (Kd.R_elder' (by have X_ := HO1170.out; exact TR) (Kd.R_base ho0) hb); replace HO1176 := aM (Kd.S_elder' (by have X_ := HO1176.out; exact TS) (Kd.R_base ho0) hb); replace HO1183 := aM (Kd.R_below (by have X_ := HO1183.out; exact TR) hb); replace BK1115 := aM (blk_below (by have X_ := BK1115.out; exact TX) hb); replace BK1116 := aM (blk_below (by have X_ := BK1116.out; exact TX) hb); replace BK1153 := aM (blk_below (by have X_ := BK1153.out; exact TX) hb); replace BK1160 := aM (blk_below (by have X_ := BK1160.out; exact TX) hb); replace HB := aM (below_step TB hb); clear ho0 hb; obtain ⟨Ao83, co83, eo83⟩ := Kd.R_slice HO1187.out; subst eo83) | ((with_reducible refine gate_callee (f := 14) rfl ?_); refine gL (some 59) Try.func14 #[.slice Ao70 t1161.length co70, .slice Ao83 t1185.length co83] ?_; (with_reducible refine (laws_eqByteS.calls k _ _ t1161 _ _ t1185 true _ ?side1 ?side2 ?side3 ?side4 A36.out).mono ?_); (case side1 => have X_ := (Kd.R_reads' HO1163.out).2.2; exact TC); (case side2 => exact (Kd.R_reads' HO1163.out).2.1); (case side3 => have X_ := (Kd.R_reads' HO1187.out).2.2; exact TC); (case side4 => exact (Kd.R_reads' HO1187.out).2.1); rintro e w' ⟨rfl, ⟨nd, rfl⟩⟩; refine ⟨_, rfl, ?_⟩))
        go_ret
        exact ⟨by first | rfl | (simp [errW_none, errW_some] <;> rfl) | (simp [*, errW_none, errW_some] <;> rfl), TB⟩

end Go.Proofs.Ytlghklbjmmijpaa.Q
