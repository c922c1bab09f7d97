/- Functions of the program as plain Lean functions, and that a call of each comes to what its function tells. Written by a program of this seat. -/
import Derived.Test.YtfkndpjbkndhcaaQ0
import Derived.Test.YtfkndpjbkndhcaaQ5
import Derived.Test.YtfkndpjbkndhcaaQ24
import Derived.Test.YtfkndpjbkndhcaaQ33
import Derived.Test.YtfkndpjbkndhcaaQ34
import Derived.Test.YtfkndpjbkndhcaaQ35
namespace Go.Proofs.Ytfkndpjbkndhcaa.Q
open Go.RowKit Go.Proofs.YtfkndpjbkndhcaaW.PrintWords Go.Proofs.YtfkndpjbkndhcaaW.PrintLast Go.Proofs.YtfkndpjbkndhcaaW.PrintMore
attribute [local go_sem] max2_int min2_int max_two min_two max_three min_three max_four min_four   -- for this text's walks alone
set_option linter.unusedVariables false
set_option linter.unusedSimpArgs false

/-! ### spec_Lacking: function 31 -/
def spec_Lacking.f (k : Nat) (l0 : List Int) (a1_0 : Int) (a1_1 : Int) (a1_2 : Int) (l1_3 : List (S48)) : Option (Int) := (spec_Least.f (l1_3.length : Int) 40).bind fun t811 => ((spec_FullSet.f t811).bind fun t812 => ((spec_Found.f k l0 a1_0 a1_1 a1_2 l1_3).bind fun t813 => ((spec_Without.f t812 t813).bind fun t814 => (some t814))))
theorem spec_Lacking.mono : ∀ a0 a1 a2 a3 a4 k, LeO (spec_Lacking.f k a0 a1 a2 a3 a4) (spec_Lacking.f (k + 1) a0 a1 a2 a3 a4) := by
  intro a0 a1 a2 a3 a4 k
  have m0_ := @spec_Found.mono
  unfold spec_Lacking.f
  exact LM
def spec_Lacking.T1 : Bool × List (List Nat × List Nat) := (true, [([], []), ([0], [0]), ([1], [1]), ([2], [2]), ([3, 3], [3]), ([], []), ([], []), ([5, 6, 4], [5, 6]), ([4, 7, 7], [4, 7]), ([8, 8, 0, 1, 2, 3, 4, 5, 6, 7, 8], [8])])
def spec_Lacking.B1 : List Nat := [0, 1, 3, 7, 15, 0, 0, 127, 255, 511]
theorem spec_Lacking.tab1 : rtab .any (opsOf Try.f31 1) = spec_Lacking.T1 := by kernel_rfl
theorem spec_Lacking.bits1 : waitsOk spec_Lacking.T1.2 spec_Lacking.B1 = true := by kernel_rfl
set_option maxHeartbeats 40000000 in
set_option maxRecDepth 100000 in
theorem spec_Lacking.calls (k : Nat) (A0 : Option Addr) (c0 : Nat) (l0 : List Int) (a1_0 : Int) (a1_1 : Int) (a1_2 : Int) (A1_3 : Option Addr) (c1_3 : Nat) (l1_3 : List (S48)) (r : Int) (w : World) (hr0 : Kd.C (Kd.int .u8) w A0 l0.length l0) (hc0 : l0.length ≤ c0) (hr1_3 : Kd.C k48 w A1_3 l1_3.length l1_3) (hc1_3 : l1_3.length ≤ c1_3) (h : spec_Lacking.f k l0 a1_0 a1_1 a1_2 l1_3 = some r) :
    Calls Try.prog 31 #[.slice A0 l0.length c0, .agg #[.int .i64 a1_0, .int .i64 a1_1, .int .i64 a1_2, .slice A1_3 l1_3.length c1_3]] w fun e w' => e = .returned (.int .i64 r) ∧ Below w.heap.size w w' := by
  have hu28 := Try.underlying28
  have HR0 := aM hr0
  have HC0 := aM hc0
  clear hr0 hc0
  have HR1_3 := aM hr1_3
  have HC1_3 := aM hc1_3
  clear hr1_3 hc1_3
  have HB := aM (Below.refl w.heap.size w)
  have H := h
  clear h
  unfold spec_Lacking.f at H
  replace H := bE H
  obtain ⟨t811, A3, H⟩ := H
  replace H := bE H
  obtain ⟨t812, A4, H⟩ := H
  replace H := bE H
  obtain ⟨t813, A5, H⟩ := H
  replace H := bE H
  obtain ⟨t814, A6, H⟩ := H
  obtain rfl := Option.some.inj H
  go_enter Try.func31, Try.ntmps31
  try go_wp2_with (first | ((with_reducible refine gate_dst (N := 3) rfl ?_); refine gBx 3 #[.int .i64 a1_0, .int .i64 a1_1, .int .i64 a1_2, .slice A1_3 l1_3.length c1_3] 28 ?_; intro gb810 hg w7 hbox hb; have BK810 := aM (hbox); have GW810 := aM ((by rw [hg]; exact (below_size TB) : w.heap.size ≤ gb810)); have GE810 := aM ((by rw [hg]; exact (below_size TB) : w.heap.size ≤ gb810)); replace HB := aM (below_step TB hb); clear hb hbox hg))
  replace BK810 := aM (blk_drew BK810.out)
  replace HB := aM (below_drew1 HB.out)
  refine start_ (n := 10) (S := fun w' => w'.cell? ⟨gb810, 0, none⟩ = some (.int .i64 a1_0) ∧ w'.cell? ⟨gb810, 1, none⟩ = some (.int .i64 a1_1) ∧ w'.cell? ⟨gb810, 2, none⟩ = some (.int .i64 a1_2) ∧ w'.cell? ⟨gb810, 3, none⟩ = some (.slice A1_3 l1_3.length c1_3)) (ds := []) (Array.replicate 10 false) (by kernel_rfl) rfl rfl (cz4 BK810.out) (fun hHeld => ?_); refine with_tabW spec_Lacking.tab1 spec_Lacking.bits1 (fun HT_ HW_ => ?_)
  generalize w7.drew = w8 at BK810 HB hHeld ⊢
  refine pP 0 (some 5) ?_
  refine pP 5 (some 10) ?_
  refine pT 1 (some 6) ?_
  refine pP 2 (some 7) ?_
  refine pT 6 (some 11) ?_
  refine pO 3 (some 8) (fun K hK => ?_)
  refine gG Try.func85 #[.int .i64 (l1_3.length : Int), .int .i64 40] ?_
  with_reducible refine (spec_Least.calls (l1_3.length : Int) 40 t811 _ A3.out).mono ?_
  rintro e w' ⟨rfl, ⟨nd, rfl⟩⟩
  refine ⟨_, rfl, ?_⟩
  refine hK.out _ _ (cz4 BK810.out) (fun hHeld => ?_)
  clear hK K
  refine nR ?_
  refine pO 4 (some 9) (fun K hK => ?_)
  refine gG Try.func84 #[.int .i64 t811] ?_
  with_reducible refine (spec_FullSet.calls t811 t812 _ A4.out).mono ?_
  rintro e w' ⟨rfl, ⟨nd, rfl⟩⟩
  refine ⟨_, rfl, ?_⟩
  refine hK.out _ _ (cz4 BK810.out) (fun hHeld => ?_)
  clear hK K
  refine nR ?_
  refine pO 7 (some 12) (fun K hK => ?_)
  refine gG Try.func30 #[.slice A0 l0.length c0, .agg #[.int .i64 a1_0, .int .i64 a1_1, .int .i64 a1_2, .slice A1_3 l1_3.length c1_3]] ?_
  with_reducible refine (spec_Found.calls k _ _ l0 a1_0 a1_1 a1_2 _ _ l1_3 t813 _ ?side1 ?side2 ?side3 ?side4 A5.out).mono ?_
  (case side1 => repeat (first | exact (Kd.C_below HR0.out TB) | (with_reducible refine Kd.C_alloc ?_ _) | (with_reducible refine Kd.C_drewN ?_ _) | (with_reducible refine Kd.C_drew ?_)))
  (case side2 => exact HC0.out)
  (case side3 => repeat (first | exact (Kd.C_below HR1_3.out TB) | (with_reducible refine Kd.C_alloc ?_ _) | (with_reducible refine Kd.C_drewN ?_ _) | (with_reducible refine Kd.C_drew ?_)))
  (case side4 => exact HC1_3.out)
  rintro e w9 ⟨rfl, hb⟩
  refine ⟨_, rfl, ?_⟩
  have n0_ := aM (blk_below (by have X_ := BK810.out; exact TX) hb)
  have n1_ := aM (below_step TB hb)
  clear BK810
  clear HB
  have BK810 := n0_
  have HB := n1_
  clear n0_ n1_
  (try clear hb)
  (try clear hb2)
  (try clear hk)
  (try clear hi)
  refine hK.out _ _ (cz4 BK810.out) (fun hHeld => ?_)
  clear hK K
  refine nR ?_
  refine pO 8 (some 13) (fun K hK => ?_)
  refine gG Try.func83 #[.int .i64 t812, .int .i64 t813] ?_
  with_reducible refine (spec_Without.calls t812 t813 t814 _ A6.out).mono ?_
  rintro e w' ⟨rfl, ⟨nd, rfl⟩⟩
  refine ⟨_, rfl, ?_⟩
  refine hK.out _ _ (cz4 BK810.out) (fun hHeld => ?_)
  clear hK K
  refine nR ?_
  refine pP 9 (some 4) ?_
  refine done_ (done_of HT_.out (by kernel_rfl)) ?_
  try go_wp2
  go_ret
  exact ⟨by first | rfl | (simp [errW_none, errW_some] <;> rfl) | (simp [*, errW_none, errW_some] <;> rfl), TB⟩

/-! ### spec_PartsIn: function 86 -/
def spec_PartsIn.l0 : Nat → Int → List Int → Int → Option (List Int)
  | 0, _, _, _ => none
  | k + 1, x0, x3, x4 => if x4 < 40 then ((spec_InSet.f x0 x4).bind fun t820 => (if t820 = true then (if x3.length < 17592186044416 then (spec_PartsIn.l0 k x0 (x3 ++ [x4]) (wrap64 (x4 + 1))) else (none)) else (spec_PartsIn.l0 k x0 x3 (wrap64 (x4 + 1))))) else (some x3)
def spec_PartsIn.f (k : Nat) (a0 : Int) : Option (List Int) := spec_PartsIn.l0 k a0 (([] : List Int)) 0
theorem spec_PartsIn.mono_l : ∀ k, (∀ y0 y1 y2, LeO (spec_PartsIn.l0 k y0 y1 y2) (spec_PartsIn.l0 (k + 1) y0 y1 y2))
  | 0 => fun _ _ _ r h => by simp [spec_PartsIn.l0] at h
  | k + 1 => by
    have ih0 := spec_PartsIn.mono_l k
    · intro y0 y1 y2
      unfold spec_PartsIn.l0
      exact LM
theorem spec_PartsIn.mono : ∀ a0 k, LeO (spec_PartsIn.f k a0) (spec_PartsIn.f (k + 1) a0) := by
  intro a0 k
  have ih0 := spec_PartsIn.mono_l k
  unfold spec_PartsIn.f
  exact LM
set_option maxHeartbeats 40000000 in
set_option maxRecDepth 100000 in
theorem spec_PartsIn.calls (k : Nat) (a0 : Int) (r : List Int) (w : World) (h : spec_PartsIn.f k a0 = some r) :
    Calls Try.prog 86 #[.int .i64 a0] w fun e w' => ∃ v0_ : Value, e = .returned (v0_) ∧ Kd.R (Kd.int .i64) 3 w' w.heap.size (fun _ => True) v0_ r ∧ Below w.heap.size w w' := by
  have HB := aM (Below.refl w.heap.size w)
  have H := h
  clear h
  unfold spec_PartsIn.f at H
  obtain ⟨y817, hy817⟩ : ∃ y_ : List Int, y_ = (([] : List Int)) := ⟨_, rfl⟩
  rw [← hy817] at H
  have Ny817 := aM hy817
  clear hy817
  have H' := aM H
  clear H
  go_enter Try.func86, Try.ntmps86
  go_wp2_with (first | ((with_reducible refine gate_dst (N := 5) rfl ?_); refine Kd.R_lit (Kd.int .i64) _ 3 ?hg (N := 5) ?hd (xs := ([] : List Int)) (inner := []) (ok := fun _ => True) (okp := fun _ => True) ?hr ?hp (fun _ hk => hk) trivial (Below.refl _ _) (Nat.le_refl _) (by simp) ?_; (case hd => rfl); (case hg => rfl); (case hr => first | (go_simp; done) | (go_simp; rfl)); (case hp => exact (Reps.none _ _)); intro v818 w2 ho3 hb hg_ hnew_; clear hg_ hnew_; (first | rw [← Ny817.out] at ho3 | (simp only [Int.reduceToNat] at ho3; rw [← Ny817.out] at ho3)); have HO819 := aM (Kd.R_lower ho3 (below_size TB)); replace HB := aM (below_step TB hb); clear hb ho3))
  go_loopg [3, 4] k (fun kq v3 v4 w' => ∃ (x3_1 : List Int) (x4_1 : Int), v4 = .int .i64 x4_1 ∧ Aside0 (spec_PartsIn.l0 kq a0 x3_1 x4_1 = some r) ∧ Aside0 (kq ≤ k) ∧ Aside0 (Kd.R (Kd.int .i64) 3 w' w.heap.size (fun _ => True) v3 x3_1) ∧ Aside0 (Below w.heap.size w w'))
  case atStart => exact ⟨(y817), (0), (by first | rfl | (simp; done) | (simp [*]; done)), H', ⟨Nat.le_refl _⟩, ⟨by have X_ := HO819.out; exact TR⟩, ⟨TB⟩⟩
  case round =>
    clear H'
    try clear p2
    obtain ⟨x3_1, x4_1, rfl, HA, HK1, HO_3, HB⟩ := hrel
    cases gk with
    | zero => exact absurd HA.out (by simp [spec_PartsIn.l0])
    | succ k1 =>
      have H := HA.out
      clear HA
      simp only [spec_PartsIn.l0] at H
      by_cases c4 : x4_1 < 40
      · rw [if_pos c4] at H
        have c4b0 : decide (x4_1 < 40) = true := decide_eq_true c4
        clear c4
        replace H := bE H
        obtain ⟨t820, A5, H⟩ := H
        by_cases c6 : t820 = true
        · subst c6
          replace H := ifT H
          replace H := ifN H
          obtain ⟨c7, H⟩ := H
          have LMc7 := aM c7
          clear c7
          obtain ⟨y821, hy821⟩ : ∃ y_ : List Int, y_ = (x3_1 ++ [x4_1]) := ⟨_, rfl⟩
          rw [← hy821] at H
          have Ny821 := aM hy821
          clear hy821
          have H' := aM H
          clear H
          go_wp2_with (first | ((with_reducible refine gate_callee (f := 98) rfl ?_); refine gL (some 12) Try.func98 #[.int .i64 a0, .int .i64 x4_1] ?_; (with_reducible refine (spec_InSet.calls a0 x4_1 true _ A5.out).mono ?_); rintro e w' ⟨rfl, ⟨nd, rfl⟩⟩; refine ⟨_, rfl, ?_⟩) | ((with_reducible refine gate_builtin (b := .append) (xs := #[.tmp 13, .tmp 15]) rfl ?_); at_builtin; refine Kd.R_append (Kd.int .i64) (w0 := w) w.heap.size rfl (.tmp 13) (.tmp 15) 45 3 (.int .i64 0) 8 rfl Try.underlying45 info3 rfl (by decide) (by omega) u3 x3_1 x4_1 [.int .i64 x4_1] (fun _ => True) (fun _ => False) rfl rfl ?aP (fun _ hk => hk.elim) ?aF ?aO ?aB ?aS ?aL ?_; (case aP => exact rfl); (case aB => exact TB); (case aF => exact (fun _ _ => trivial)); (case aO => exact (by have X_ := HO_3.out; exact TR)); (case aS => exact (below_size TB)); (case aL => have := LMc7.out; omega); intro v822 w8 ho hb hg hat; rw [← Ny821.out] at ho; have HO823 := aM (ho); replace HB := aM (hb); clear HO_3; clear ho hb hg hat))
          go_roundg k1
          case measure => have := HK1.out; omega
          case rel => exact ⟨(y821), (wrap64 (x4_1 + 1)), (by first | rfl | (simp; done) | (simp [*]; done)), H', ⟨by have := HK1.out; omega⟩, ⟨by have X_ := HO823.out; exact TR⟩, ⟨TB⟩⟩
        · replace c6 := Bool.eq_false_iff.mpr c6
          subst c6
          replace H := ifF H
          have H' := aM H
          clear H
          go_wp2_with (first | ((with_reducible refine gate_callee (f := 98) rfl ?_); refine gL (some 12) Try.func98 #[.int .i64 a0, .int .i64 x4_1] ?_; (with_reducible refine (spec_InSet.calls a0 x4_1 false _ A5.out).mono ?_); rintro e w' ⟨rfl, ⟨nd, rfl⟩⟩; refine ⟨_, rfl, ?_⟩))
          go_roundg k1
          case measure => have := HK1.out; omega
          case rel => exact ⟨(x3_1), (wrap64 (x4_1 + 1)), (by first | rfl | (simp; done) | (simp [*]; done)), H', ⟨by have := HK1.out; omega⟩, ⟨by have X_ := HO_3.out; exact TR⟩, ⟨TB⟩⟩
      · rw [if_neg c4] at H
        have c4b0 : decide (x4_1 < 40) = false := decide_eq_false c4
        clear c4
        obtain rfl := Option.some.inj H
        go_wp2
        go_ret
        exact ⟨_, by first | rfl | (simp [errW_none, errW_some] <;> rfl) | (simp [*, errW_none, errW_some] <;> rfl), by have X_ := HO_3.out; exact TR, TB⟩

/-! ### spec_BytesLacking: function 32 -/
def spec_BytesLacking.l0 : Nat → Int → List Int → Int → Int → Int → Int → List (S48) → Option (Int)
  | 0, _, _, _, _, _, _, _ => none
  | k + 1, x5, x6, x7, x825000, x825001, x825002, x825003 => if x7 < (x6.length : Int) then (if 0 ≤ x7 then ((spec_SpanOf.f x825001 x825002 (rd x6 x7)).bind fun bt830 => (spec_BytesLacking.l0 k (wrap64 (x5 + bt830.2)) x6 (wrap64 (x7 + 1)) x825000 x825001 x825002 x825003)) else (none)) else (some x5)
def spec_BytesLacking.f (k : Nat) (l0 : List Int) (a1_0 : Int) (a1_1 : Int) (a1_2 : Int) (l1_3 : List (S48)) : Option (Int) := (spec_Lacking.f k l0 a1_0 a1_1 a1_2 l1_3).bind fun t825 => ((spec_PartsIn.f k t825).bind fun t826 => (spec_BytesLacking.l0 k 0 t826 0 a1_0 a1_1 a1_2 l1_3))
theorem spec_BytesLacking.mono_l : ∀ k, (∀ y0 y1 y2 y3 y4 y5 y6, LeO (spec_BytesLacking.l0 k y0 y1 y2 y3 y4 y5 y6) (spec_BytesLacking.l0 (k + 1) y0 y1 y2 y3 y4 y5 y6))
  | 0 => fun _ _ _ _ _ _ _ r h => by simp [spec_BytesLacking.l0] at h
  | k + 1 => by
    have m0_ := @spec_Lacking.mono
    have m1_ := @spec_PartsIn.mono
    have ih0 := spec_BytesLacking.mono_l k
    · intro y0 y1 y2 y3 y4 y5 y6
      unfold spec_BytesLacking.l0
      exact LM
theorem spec_BytesLacking.mono : ∀ a0 a1 a2 a3 a4 k, LeO (spec_BytesLacking.f k a0 a1 a2 a3 a4) (spec_BytesLacking.f (k + 1) a0 a1 a2 a3 a4) := by
  intro a0 a1 a2 a3 a4 k
  have m0_ := @spec_Lacking.mono
  have m1_ := @spec_PartsIn.mono
  have ih0 := spec_BytesLacking.mono_l k
  unfold spec_BytesLacking.f
  exact LM
set_option maxHeartbeats 40000000 in
set_option maxRecDepth 100000 in
theorem spec_BytesLacking.calls (k : Nat) (A0 : Option Addr) (c0 : Nat) (l0 : List Int) (a1_0 : Int) (a1_1 : Int) (a1_2 : Int) (A1_3 : Option Addr) (c1_3 : Nat) (l1_3 : List (S48)) (r : Int) (w : World) (hr0 : Kd.C (Kd.int .u8) w A0 l0.length l0) (hc0 : l0.length ≤ c0) (hr1_3 : Kd.C k48 w A1_3 l1_3.length l1_3) (hc1_3 : l1_3.length ≤ c1_3) (h : spec_BytesLacking.f k l0 a1_0 a1_1 a1_2 l1_3 = some r) :
    Calls Try.prog 32 #[.slice A0 l0.length c0, .agg #[.int .i64 a1_0, .int .i64 a1_1, .int .i64 a1_2, .slice A1_3 l1_3.length c1_3]] w fun e w' => e = .returned (.int .i64 r) ∧ Below w.heap.size w w' := by
  have hu28 := Try.underlying28
  have HR0 := aM hr0
  have HC0 := aM hc0
  clear hr0 hc0
  have HR1_3 := aM hr1_3
  have HC1_3 := aM hc1_3
  clear hr1_3 hc1_3
  have HB := aM (Below.refl w.heap.size w)
  have H := h
  clear h
  unfold spec_BytesLacking.f at H
  replace H := bE H
  obtain ⟨t825, A3, H⟩ := H
  replace H := bE H
  obtain ⟨t826, A4, H⟩ := H
  have H' := aM H
  clear H
  go_enter Try.func32, Try.ntmps32
  go_wp2_with (first | ((with_reducible refine gate_dst (N := 3) rfl ?_); refine gBx 3 #[.int .i64 a1_0, .int .i64 a1_1, .int .i64 a1_2, .slice A1_3 l1_3.length c1_3] 28 ?_; intro gb824 hg w5 hbox hb; have BK824 := aM (hbox); have GW824 := aM ((by rw [hg]; exact (below_size TB) : w.heap.size ≤ gb824)); have GE824 := aM ((by rw [hg]; exact (below_size TB) : w.heap.size ≤ gb824)); replace HB := aM (below_step TB hb); clear hb hbox hg; obtain ⟨hcz6_0, hcz6_1, hcz6_2, hcz6_3⟩ := cz4 BK824.out; obtain ⟨hfz6_0, hfz6_1, hfz6_2, hfz6_3⟩ := fz4 BK824.out) | (go_at_call 31; (with_reducible refine (spec_Lacking.calls k _ _ l0 a1_0 a1_1 a1_2 _ _ l1_3 t825 _ ?side1 ?side2 ?side3 ?side4 A3.out).mono ?_); (case side1 => have X_ := (Kd.C_below HR0.out HB.out); exact TC); (case side2 => exact HC0.out); (case side3 => have X_ := (Kd.C_below HR1_3.out HB.out); exact TC); (case side4 => exact HC1_3.out); rintro e w7 ⟨rfl, hb⟩; replace BK824 := aM (blk_below (by have X_ := BK824.out; exact TX) hb); replace HB := aM (below_step TB hb); clear hb) | (go_at_call 86; (with_reducible refine (spec_PartsIn.calls k t825 t826 _ A4.out).mono ?_); rintro e w8 ⟨v827, rfl, ho0, hb⟩; have HO828 := aM (Kd.R_lower ho0 (below_size TB)); replace BK824 := aM (blk_below (by have X_ := BK824.out; exact TX) hb); replace HB := aM (below_step TB hb); clear ho0 hb))
  repeat (go_quiet (first | ((with_reducible refine gate_dst (N := 3) rfl ?_); refine gBx 3 #[.int .i64 a1_0, .int .i64 a1_1, .int .i64 a1_2, .slice A1_3 l1_3.length c1_3] 28 ?_; intro gb824 hg w5 hbox hb; have BK824 := aM (hbox); have GW824 := aM ((by rw [hg]; exact (below_size TB) : w.heap.size ≤ gb824)); have GE824 := aM ((by rw [hg]; exact (below_size TB) : w.heap.size ≤ gb824)); replace HB := aM (below_step TB hb); clear hb hbox hg; obtain ⟨hcz6_0, hcz6_1, hcz6_2, hcz6_3⟩ := cz4 BK824.out; obtain ⟨hfz6_0, hfz6_1, hfz6_2, hfz6_3⟩ := fz4 BK824.out) | (go_at_call 31; (with_reducible refine (spec_Lacking.calls k _ _ l0 a1_0 a1_1 a1_2 _ _ l1_3 t825 _ ?side1 ?side2 ?side3 ?side4 A3.out).mono ?_); (case side1 => have X_ := (Kd.C_below HR0.out HB.out); exact TC); (case side2 => exact HC0.out); (case side3 => have X_ := (Kd.C_below HR1_3.out HB.out); exact TC); (case side4 => exact HC1_3.out); rintro e w7 ⟨rfl, hb⟩; replace BK824 := aM (blk_below (by have X_ := BK824.out; exact TX) hb); replace HB := aM (below_step TB hb); clear hb) | (go_at_call 86; (with_reducible refine (spec_PartsIn.calls k t825 t826 _ A4.out).mono ?_); rintro e w8 ⟨v827, rfl, ho0, hb⟩; have HO828 := aM (Kd.R_lower ho0 (below_size TB)); replace BK824 := aM (blk_below (by have X_ := BK824.out; exact TX) hb); replace HB := aM (below_step TB hb); clear ho0 hb)); try go_wp2_with (first | ((with_reducible refine gate_dst (N := 3) rfl ?_); refine gBx 3 #[.int .i64 a1_0, .int .i64 a1_1, .int .i64 a1_2, .slice A1_3 l1_3.length c1_3] 28 ?_; intro gb824 hg w5 hbox hb; have BK824 := aM (hbox); have GW824 := aM ((by rw [hg]; exact (below_size TB) : w.heap.size ≤ gb824)); have GE824 := aM ((by rw [hg]; exact (below_size TB) : w.heap.size ≤ gb824)); replace HB := aM (below_step TB hb); clear hb hbox hg; obtain ⟨hcz6_0, hcz6_1, hcz6_2, hcz6_3⟩ := cz4 BK824.out; obtain ⟨hfz6_0, hfz6_1, hfz6_2, hfz6_3⟩ := fz4 BK824.out) | (go_at_call 31; (with_reducible refine (spec_Lacking.calls k _ _ l0 a1_0 a1_1 a1_2 _ _ l1_3 t825 _ ?side1 ?side2 ?side3 ?side4 A3.out).mono ?_); (case side1 => have X_ := (Kd.C_below HR0.out HB.out); exact TC); (case side2 => exact HC0.out); (case side3 => have X_ := (Kd.C_below HR1_3.out HB.out); exact TC); (case side4 => exact HC1_3.out); rintro e w7 ⟨rfl, hb⟩; replace BK824 := aM (blk_below (by have X_ := BK824.out; exact TX) hb); replace HB := aM (below_step TB hb); clear hb) | (go_at_call 86; (with_reducible refine (spec_PartsIn.calls k t825 t826 _ A4.out).mono ?_); rintro e w8 ⟨v827, rfl, ho0, hb⟩; have HO828 := aM (Kd.R_lower ho0 (below_size TB)); replace BK824 := aM (blk_below (by have X_ := BK824.out; exact TX) hb); replace HB := aM (below_step TB hb); clear ho0 hb)))
  go_loopg [5, 7] k (fun kq v5 v7 w' => ∃ (x5_1 : Int) (x7_1 : Int), v5 = .int .i64 x5_1 ∧ v7 = .int .i64 x7_1 ∧ Aside0 (spec_BytesLacking.l0 kq x5_1 t826 x7_1 a1_0 a1_1 a1_2 l1_3 = some r) ∧ Aside0 (kq ≤ k) ∧ Aside0 (Kd.R (Kd.int .i64) 3 w' w.heap.size (fun _ => True) v827 t826) ∧ Aside0 (w'.heap[gb824]? = some (.cells #[.int .i64 a1_0, .int .i64 a1_1, .int .i64 a1_2, (.slice A1_3 l1_3.length c1_3)] 28 (0, 0))) ∧ Aside0 (Below w.heap.size w w'))
  case atStart => exact ⟨(0), (0), (by first | rfl | (simp; done) | (simp [*]; done)), (by first | rfl | (simp; done) | (simp [*]; done)), H', ⟨Nat.le_refl _⟩, ⟨by have X_ := HO828.out; exact TR⟩, ⟨TK⟩, ⟨TB⟩⟩
  case round =>
    clear H'
    try clear c1
    try clear p2
    try clear c3
    try clear hcz6_0
    try clear hcz6_1
    try clear hcz6_2
    try clear hcz6_3
    try clear hfz6_0
    try clear hfz6_1
    try clear hfz6_2
    try clear hfz6_3
    obtain ⟨x5_1, x7_1, rfl, rfl, HA, HK1, HO_6, BK824, HB⟩ := hrel
    cases gk with
    | zero => exact absurd HA.out (by simp [spec_BytesLacking.l0])
    | succ k1 =>
      have H := HA.out
      clear HA
      simp only [spec_BytesLacking.l0] at H
      by_cases c9 : x7_1 < (t826.length : Int)
      · rw [if_pos c9] at H
        have c9b0 : decide (x7_1 < (t826.length : Int)) = true := decide_eq_true c9
        clear c9
        replace H := ifN H
        obtain ⟨c10, H⟩ := H
        have c10b0 : decide (0 ≤ x7_1) = true := decide_eq_true c10
        clear c10
        replace H := bE H
        obtain ⟨⟨t830, t831⟩, A11, H⟩ := H
        dsimp only at H
        have H' := aM H
        clear H
        obtain ⟨Ao12, co12, eo12⟩ := Kd.R_slice HO_6.out
        subst eo12
        obtain ⟨hcz13_0, hcz13_1, hcz13_2, hcz13_3⟩ := cz4 BK824.out
        obtain ⟨hfz13_0, hfz13_1, hfz13_2, hfz13_3⟩ := fz4 BK824.out
        have p829 : 0 ≤ (x7_1 : Int) := DT
        have q829 : x7_1 < (t826.length : Int) := DT
        obtain ⟨ad829, e829, hx829_0⟩ := Kd.at_int (Kd.R_reads' HO_6.out).2.2 x7_1 p829 q829
        cases e829
        replace p829 := eq_true p829
        replace q829 := eq_true q829
        go_wp2_with (first | (go_at_call 76; (with_reducible refine (spec_SpanOf.calls a1_1 a1_2 (rd t826 x7_1) t830 t831 _ A11.out).mono ?_); rintro e w' ⟨rfl, ⟨nd, rfl⟩⟩; (try first | exact ⟨rfl, _, World.drewN_drewN _ _ _⟩ | exact ⟨rfl, _, Eq.trans (World.drewN_drewN _ _ _) (congrArg (World.drewN _) (Nat.add_assoc _ _ _))⟩)))
        repeat (go_quiet (first | (go_at_call 76; (with_reducible refine (spec_SpanOf.calls a1_1 a1_2 (rd t826 x7_1) t830 t831 _ A11.out).mono ?_); rintro e w' ⟨rfl, ⟨nd, rfl⟩⟩; (try first | exact ⟨rfl, _, World.drewN_drewN _ _ _⟩ | exact ⟨rfl, _, Eq.trans (World.drewN_drewN _ _ _) (congrArg (World.drewN _) (Nat.add_assoc _ _ _))⟩))); try go_wp2_with (first | (go_at_call 76; (with_reducible refine (spec_SpanOf.calls a1_1 a1_2 (rd t826 x7_1) t830 t831 _ A11.out).mono ?_); rintro e w' ⟨rfl, ⟨nd, rfl⟩⟩; (try first | exact ⟨rfl, _, World.drewN_drewN _ _ _⟩ | exact ⟨rfl, _, Eq.trans (World.drewN_drewN _ _ _) (congrArg (World.drewN _) (Nat.add_assoc _ _ _))⟩))))
        go_roundg k1
        case measure => have := HK1.out; omega
        case rel => exact ⟨(wrap64 (x5_1 + t831)), (wrap64 (x7_1 + 1)), (by first | rfl | (simp; done) | (simp [*]; done)), (by first | rfl | (simp; done) | (simp [*]; done)), H', ⟨by have := HK1.out; omega⟩, ⟨by have X_ := HO_6.out; exact TR⟩, ⟨TK⟩, ⟨TB⟩⟩
      · rw [if_neg c9] at H
        have c9b0 : decide (x7_1 < (t826.length : Int)) = false := decide_eq_false c9
        clear c9
        obtain rfl := Option.some.inj H
        obtain ⟨Ao14, co14, eo14⟩ := Kd.R_slice HO_6.out
        subst eo14
        go_wp2
        repeat (go_quiet (fail); try go_wp2)
        go_ret
        exact ⟨by first | rfl | (simp [errW_none, errW_some] <;> rfl) | (simp [*, errW_none, errW_some] <;> rfl), TB⟩

/-! ### laws_sameInts: function 35 -/
def laws_sameInts.l0 : Nat → List Int → List Int → Int → Option (Bool)
  | 0, _, _, _ => none
  | k + 1, x0, x1, x5 => if x5 < (x0.length : Int) then (if 0 ≤ x5 then (if x5 < (x1.length : Int) then (if (rd x0 x5) = (rd x1 x5) then (laws_sameInts.l0 k x0 x1 (wrap64 (x5 + 1))) else (some false)) else (none)) else (none)) else (some true)
def laws_sameInts.f (k : Nat) (l0 : List Int) (l1 : List Int) : Option (Bool) := if (l0.length : Int) = (l1.length : Int) then (laws_sameInts.l0 k l0 l1 0) else (some false)
theorem laws_sameInts.mono_l : ∀ k, (∀ y0 y1 y2, LeO (laws_sameInts.l0 k y0 y1 y2) (laws_sameInts.l0 (k + 1) y0 y1 y2))
  | 0 => fun _ _ _ r h => by simp [laws_sameInts.l0] at h
  | k + 1 => by
    have ih0 := laws_sameInts.mono_l k
    · intro y0 y1 y2
      unfold laws_sameInts.l0
      exact LM
theorem laws_sameInts.mono : ∀ a0 a1 k, LeO (laws_sameInts.f k a0 a1) (laws_sameInts.f (k + 1) a0 a1) := by
  intro a0 a1 k
  have ih0 := laws_sameInts.mono_l k
  unfold laws_sameInts.f
  exact LM
set_option maxHeartbeats 40000000 in
set_option maxRecDepth 100000 in
theorem laws_sameInts.calls (k : Nat) (A0 : Option Addr) (c0 : Nat) (l0 : List Int) (A1 : Option Addr) (c1 : Nat) (l1 : List Int) (r : Bool) (w : World) (hr0 : Kd.C (Kd.int .i64) w A0 l0.length l0) (hc0 : l0.length ≤ c0) (hr1 : Kd.C (Kd.int .i64) w A1 l1.length l1) (hc1 : l1.length ≤ c1) (h : laws_sameInts.f k l0 l1 = some r) :
    Calls Try.prog 35 #[.slice A0 l0.length c0, .slice A1 l1.length c1] w fun e w' => e = .returned (.bool r) ∧ Drawn0 w w' := by
  have HR0 := aM hr0
  have HC0 := aM hc0
  clear hr0 hc0
  have HR1 := aM hr1
  have HC1 := aM hc1
  clear hr1 hc1
  have H := h
  clear h
  unfold laws_sameInts.f at H
  by_cases c3 : (l0.length : Int) = (l1.length : Int)
  · rw [if_pos c3] at H
    have c3b0 : ((l0.length : Int) == (l1.length : Int)) = true := beq_iff_eq.mpr c3
    have c3b1 : ((l0.length : Int) != (l1.length : Int)) = false := bne_eq_false_iff_eq.mpr c3
    have c3b2 : (l0.length == l1.length) = true := by first | simpa using c3 | (simp at c3 ⊢; omega)
    clear c3
    have H' := aM H
    clear H
    go_enter Try.func35, Try.ntmps35
    go_wp2
    repeat (go_quiet (fail); try go_wp2)
    go_loopg [5] k (fun kq v5 w' => ∃ (x5_1 : Int), v5 = .int .i64 x5_1 ∧ Aside0 (laws_sameInts.l0 kq l0 l1 x5_1 = some r) ∧ Aside0 (kq ≤ k) ∧ Drawn0 w w')
    case atStart => exact ⟨(0), (by first | rfl | (simp; done) | (simp [*]; done)), H', ⟨Nat.le_refl _⟩, TD⟩
    case round =>
      clear H'
      try clear c1
      try clear p2
      try clear c3
      try clear c3b0
      try clear c3b1
      try clear c3b2
      obtain ⟨x5_1, rfl, HA, HK1, ⟨m1, rfl⟩⟩ := hrel
      cases gk with
      | zero => exact absurd HA.out (by simp [laws_sameInts.l0])
      | succ k1 =>
        have H := HA.out
        clear HA
        simp only [laws_sameInts.l0] at H
        by_cases c4 : x5_1 < (l0.length : Int)
        · rw [if_pos c4] at H
          have c4b0 : decide (x5_1 < (l0.length : Int)) = true := decide_eq_true c4
          clear c4
          replace H := ifN H
          obtain ⟨c5, H⟩ := H
          have c5b0 : decide (0 ≤ x5_1) = true := decide_eq_true c5
          clear c5
          replace H := ifN H
          obtain ⟨c6, H⟩ := H
          have c6b0 : decide (x5_1 < (l1.length : Int)) = true := decide_eq_true c6
          clear c6
          by_cases c7 : (rd l0 x5_1) = (rd l1 x5_1)
          · rw [if_pos c7] at H
            have c7b0 : ((rd l0 x5_1) == (rd l1 x5_1)) = true := beq_iff_eq.mpr c7
            have c7b1 : ((rd l0 x5_1) != (rd l1 x5_1)) = false := bne_eq_false_iff_eq.mpr c7
            clear c7
            have H' := aM H
            clear H
            have p832 : 0 ≤ (x5_1 : Int) := DT
            have q832 : x5_1 < (l0.length : Int) := DT
            obtain ⟨ad832, e832, hx832_0⟩ := Kd.at_int HR0.out x5_1 p832 q832
            cases e832
            replace p832 := eq_true p832
            replace q832 := eq_true q832
            have p833 : 0 ≤ (x5_1 : Int) := DT
            have q833 : x5_1 < (l1.length : Int) := DT
            obtain ⟨ad833, e833, hx833_0⟩ := Kd.at_int HR1.out x5_1 p833 q833
            cases e833
            replace p833 := eq_true p833
            replace q833 := eq_true q833
            go_wp2
            repeat (go_quiet (fail); try go_wp2)
            go_roundg k1
            case measure => have := HK1.out; omega
            case rel => exact ⟨(wrap64 (x5_1 + 1)), (by first | rfl | (simp; done) | (simp [*]; done)), H', ⟨by have := HK1.out; omega⟩, TD⟩
          · rw [if_neg c7] at H
            have c7b0 : ((rd l0 x5_1) == (rd l1 x5_1)) = false := beq_eq_false_iff_ne.mpr c7
            have c7b1 : ((rd l0 x5_1) != (rd l1 x5_1)) = true := bne_iff_ne.mpr c7
            obtain rfl := Option.some.inj H
            have p832 : 0 ≤ (x5_1 : Int) := DT
            have q832 : x5_1 < (l0.length : Int) := DT
            obtain ⟨ad832, e832, hx832_0⟩ := Kd.at_int HR0.out x5_1 p832 q832
            cases e832
            replace p832 := eq_true p832
            replace q832 := eq_true q832
            have p833 : 0 ≤ (x5_1 : Int) := DT
            have q833 : x5_1 < (l1.length : Int) := DT
            obtain ⟨ad833, e833, hx833_0⟩ := Kd.at_int HR1.out x5_1 p833 q833
            cases e833
            replace p833 := eq_true p833
            replace q833 := eq_true q833
            go_wp2
            repeat (go_quiet (fail); try go_wp2)
            go_ret
            exact ⟨by first | rfl | (simp; done) | (simp [*]; done), TD⟩
        · rw [if_neg c4] at H
          have c4b0 : decide (x5_1 < (l0.length : Int)) = false := decide_eq_false c4
          clear c4
          obtain rfl := Option.some.inj H
          go_wp2
          repeat (go_quiet (fail); try go_wp2)
          go_ret
          exact ⟨by first | rfl | (simp; done) | (simp [*]; done), TD⟩
  · rw [if_neg c3] at H
    have c3b0 : ((l0.length : Int) == (l1.length : Int)) = false := beq_eq_false_iff_ne.mpr c3
    have c3b1 : ((l0.length : Int) != (l1.length : Int)) = true := bne_iff_ne.mpr c3
    have c3b2 : (l0.length == l1.length) = false := by first | simpa using c3 | (simp at c3 ⊢; omega)
    obtain rfl := Option.some.inj H
    go_enter Try.func35, Try.ntmps35
    go_wp2
    repeat (go_quiet (fail); try go_wp2)
    go_ret
    exact ⟨by first | rfl | (simp; done) | (simp [*]; done), TD⟩

/-! ### spec_Places: function 36 -/
def spec_Places.l0 : Nat → List Int → List Int → Int → Int → Int → Int → List (S48) → Option (List Int)
  | 0, _, _, _, _, _, _, _ => none
  | k + 1, x0, x5, x6, x835000, x835001, x835002, x835003 => if x6 < (x835003.length : Int) then ((spec_PlaceOf.f k x0 x835000 x835001 x835002 x835003 x6).bind fun t838 => (if x5.length < 17592186044416 then (spec_Places.l0 k x0 (x5 ++ [t838]) (wrap64 (x6 + 1)) x835000 x835001 x835002 x835003) else (none))) else (some x5)
def spec_Places.f (k : Nat) (l0 : List Int) (a1_0 : Int) (a1_1 : Int) (a1_2 : Int) (l1_3 : List (S48)) : Option (List Int) := spec_Places.l0 k l0 (([] : List Int)) 0 a1_0 a1_1 a1_2 l1_3
theorem spec_Places.mono_l : ∀ k, (∀ y0 y1 y2 y3 y4 y5 y6, LeO (spec_Places.l0 k y0 y1 y2 y3 y4 y5 y6) (spec_Places.l0 (k + 1) y0 y1 y2 y3 y4 y5 y6))
  | 0 => fun _ _ _ _ _ _ _ r h => by simp [spec_Places.l0] at h
  | k + 1 => by
    have m0_ := @spec_PlaceOf.mono
    have ih0 := spec_Places.mono_l k
    · intro y0 y1 y2 y3 y4 y5 y6
      unfold spec_Places.l0
      exact LM
theorem spec_Places.mono : ∀ a0 a1 a2 a3 a4 k, LeO (spec_Places.f k a0 a1 a2 a3 a4) (spec_Places.f (k + 1) a0 a1 a2 a3 a4) := by
  intro a0 a1 a2 a3 a4 k
  have m0_ := @spec_PlaceOf.mono
  have ih0 := spec_Places.mono_l k
  unfold spec_Places.f
  exact LM
set_option maxHeartbeats 40000000 in
set_option maxRecDepth 100000 in
theorem spec_Places.calls (k : Nat) (A0 : Option Addr) (c0 : Nat) (l0 : List Int) (a1_0 : Int) (a1_1 : Int) (a1_2 : Int) (A1_3 : Option Addr) (c1_3 : Nat) (l1_3 : List (S48)) (r : List Int) (w : World) (hr0 : Kd.C (Kd.int .u8) w A0 l0.length l0) (hc0 : l0.length ≤ c0) (hr1_3 : Kd.C k48 w A1_3 l1_3.length l1_3) (hc1_3 : l1_3.length ≤ c1_3) (h : spec_Places.f k l0 a1_0 a1_1 a1_2 l1_3 = some r) :
    Calls Try.prog 36 #[.slice A0 l0.length c0, .agg #[.int .i64 a1_0, .int .i64 a1_1, .int .i64 a1_2, .slice A1_3 l1_3.length c1_3]] w fun e w' => ∃ v0_ : Value, e = .returned (v0_) ∧ Kd.R (Kd.int .i64) 3 w' w.heap.size (fun _ => True) v0_ r ∧ Below w.heap.size w w' := by
  have hu28 := Try.underlying28
  have HR0 := aM hr0
  have HC0 := aM hc0
  clear hr0 hc0
  have HR1_3 := aM hr1_3
  have HC1_3 := aM hc1_3
  clear hr1_3 hc1_3
  have HB := aM (Below.refl w.heap.size w)
  have H := h
  clear h
  unfold spec_Places.f at H
  obtain ⟨y835, hy835⟩ : ∃ y_ : List Int, y_ = (([] : List Int)) := ⟨_, rfl⟩
  rw [← hy835] at H
  have Ny835 := aM hy835
  clear hy835
  have H' := aM H
  clear H
  go_enter Try.func36, Try.ntmps36
  go_wp2_with (first | ((with_reducible refine gate_dst (N := 3) rfl ?_); refine gBx 3 #[.int .i64 a1_0, .int .i64 a1_1, .int .i64 a1_2, .slice A1_3 l1_3.length c1_3] 28 ?_; intro gb834 hg w3 hbox hb; have BK834 := aM (hbox); have GW834 := aM ((by rw [hg]; exact (below_size TB) : w.heap.size ≤ gb834)); have GE834 := aM ((by rw [hg]; exact (below_size TB) : w.heap.size ≤ gb834)); replace HB := aM (below_step TB hb); clear hb hbox hg) | ((with_reducible refine gate_dst (N := 7) rfl ?_); refine Kd.R_lit (Kd.int .i64) _ 3 ?hg (N := 7) ?hd (xs := ([] : List Int)) (inner := []) (ok := fun _ => True) (okp := fun _ => True) ?hr ?hp (fun _ hk => hk) trivial (Below.refl _ _) (Nat.le_refl _) (by simp) ?_; (case hd => rfl); (case hg => rfl); (case hr => first | (go_simp; done) | (go_simp; rfl)); (case hp => exact (Reps.none _ _)); intro v836 w4 ho5 hb hg_ hnew_; clear hg_ hnew_; (first | rw [← Ny835.out] at ho5 | (simp only [Int.reduceToNat] at ho5; rw [← Ny835.out] at ho5)); have HO837 := aM (Kd.R_lower ho5 (below_size TB)); replace BK834 := aM (blk_below (by have X_ := BK834.out; exact TX) hb); replace HB := aM (below_step TB hb); clear hb ho5))
  go_loopg [5, 6] k (fun kq v5 v6 w' => ∃ (x5_1 : List Int) (x6_1 : Int), v6 = .int .i64 x6_1 ∧ Aside0 (spec_Places.l0 kq l0 x5_1 x6_1 a1_0 a1_1 a1_2 l1_3 = some r) ∧ Aside0 (kq ≤ k) ∧ Aside0 (Kd.R (Kd.int .i64) 3 w' w.heap.size (fun _ => True) v5 x5_1) ∧ Aside0 (w'.heap[gb834]? = some (.cells #[.int .i64 a1_0, .int .i64 a1_1, .int .i64 a1_2, (.slice A1_3 l1_3.length c1_3)] 28 (0, 0))) ∧ Aside0 (Below w.heap.size w w'))
  case atStart => exact ⟨(y835), (0), (by first | rfl | (simp; done) | (simp [*]; done)), H', ⟨Nat.le_refl _⟩, ⟨by have X_ := HO837.out; exact TR⟩, ⟨TK⟩, ⟨TB⟩⟩
  case round =>
    clear H'
    try clear c1
    try clear p2
    try clear c3
    obtain ⟨x5_1, x6_1, rfl, HA, HK1, HO_5, BK834, HB⟩ := hrel
    cases gk with
    | zero => exact absurd HA.out (by simp [spec_Places.l0])
    | succ k1 =>
      have H := HA.out
      clear HA
      simp only [spec_Places.l0] at H
      by_cases c6 : x6_1 < (l1_3.length : Int)
      · rw [if_pos c6] at H
        have c6b0 : decide (x6_1 < (l1_3.length : Int)) = true := decide_eq_true c6
        clear c6
        replace H := bE H
        obtain ⟨t838, A7, H⟩ := H
        replace H := ifN H
        obtain ⟨c8, H⟩ := H
        have LMc8 := aM c8
        clear c8
        obtain ⟨y839, hy839⟩ : ∃ y_ : List Int, y_ = (x5_1 ++ [t838]) := ⟨_, rfl⟩
        rw [← hy839] at H
        have Ny839 := aM hy839
        clear hy839
        have H' := aM H
        clear H
        obtain ⟨hcz9_0, hcz9_1, hcz9_2, hcz9_3⟩ := cz4 BK834.out
        obtain ⟨hfz9_0, hfz9_1, hfz9_2, hfz9_3⟩ := fz4 BK834.out
        go_wp2_with (first | ((with_reducible refine gate_callee (f := 34) rfl ?_); refine gL (some 19) Try.func34 #[.slice A0 l0.length c0, .agg #[.int .i64 a1_0, .int .i64 a1_1, .int .i64 a1_2, .slice A1_3 l1_3.length c1_3], .int .i64 x6_1] ?_; (with_reducible refine (spec_PlaceOf.calls k1 _ _ l0 a1_0 a1_1 a1_2 _ _ l1_3 x6_1 t838 _ ?side1 ?side2 ?side3 ?side4 A7.out).mono ?_); (case side1 => have X_ := (Kd.C_below HR0.out HB.out); exact TC); (case side2 => exact HC0.out); (case side3 => have X_ := (Kd.C_below HR1_3.out HB.out); exact TC); (case side4 => exact HC1_3.out); rintro e w10 ⟨rfl, hb⟩; refine ⟨_, rfl, ?_⟩; replace HO_5 := aM (Kd.R_below (by have X_ := HO_5.out; exact TR) hb); replace BK834 := aM (blk_below (by have X_ := BK834.out; exact TX) hb); replace HB := aM (below_step TB hb); clear hb) | ((with_reducible refine gate_builtin (b := .append) (xs := #[.tmp 15, .tmp 20]) rfl ?_); at_builtin; refine Kd.R_append (Kd.int .i64) (w0 := w) w.heap.size rfl (.tmp 15) (.tmp 20) 45 3 (.int .i64 0) 8 rfl Try.underlying45 info3 rfl (by decide) (by omega) u5 x5_1 t838 [.int .i64 t838] (fun _ => True) (fun _ => False) rfl rfl ?aP (fun _ hk => hk.elim) ?aF ?aO ?aB ?aS ?aL ?_; (case aP => exact rfl); (case aB => exact TB); (case aF => exact (fun _ _ => trivial)); (case aO => exact (by have X_ := HO_5.out; exact TR)); (case aS => exact (below_size TB)); (case aL => have := LMc8.out; omega); intro v840 w11 ho hb hg hat; rw [← Ny839.out] at ho; have HO841 := aM (ho); replace BK834 := aM (blk_grown (g := gb834) (o := .cells #[.int .i64 a1_0, .int .i64 a1_1, .int .i64 a1_2, .slice A1_3 l1_3.length c1_3] 28 (0, 0)) TK hg (Kd.R_ne HO_5.out BK834.out (by decide))); replace HB := aM (hb); clear HO_5; clear ho hb hg hat))
        go_roundg k1
        case measure => have := HK1.out; omega
        case rel => exact ⟨(y839), (wrap64 (x6_1 + 1)), (by first | rfl | (simp; done) | (simp [*]; done)), H', ⟨by have := HK1.out; omega⟩, ⟨by have X_ := HO841.out; exact TR⟩, ⟨TK⟩, ⟨TB⟩⟩
      · rw [if_neg c6] at H
        have c6b0 : decide (x6_1 < (l1_3.length : Int)) = false := decide_eq_false c6
        clear c6
        obtain rfl := Option.some.inj H
        obtain ⟨hcz12_0, hcz12_1, hcz12_2, hcz12_3⟩ := cz4 BK834.out
        obtain ⟨hfz12_0, hfz12_1, hfz12_2, hfz12_3⟩ := fz4 BK834.out
        go_wp2
        go_ret
        exact ⟨_, by first | rfl | (simp [errW_none, errW_some] <;> rfl) | (simp [*, errW_none, errW_some] <;> rfl), by have X_ := HO_5.out; exact TR, TB⟩

/-! ### impl_Union: function 38 -/
def impl_Union.f (a0 : Int) (a1 : Int) : Option (Int) := (impl_SetOk.f a0).bind fun t842 => (if t842 = true then ((impl_SetOk.f a1).bind fun t843 => (if t843 = true then (some (Go.bits .or .i64 a0 a1)) else (some 0))) else (some 0))
set_option maxHeartbeats 40000000 in
set_option maxRecDepth 100000 in
theorem impl_Union.calls (a0 : Int) (a1 : Int) (r : Int) (w : World) (h : impl_Union.f a0 a1 = some r) :
  Calls Try.prog 38 #[.int .i64 a0, .int .i64 a1] w fun e w' => e = .returned (.int .i64 r) ∧ Drawn0 w w' := by
 have H := h
 clear h
 unfold impl_Union.f at H
 replace H := bE H
 obtain ⟨t842, A3, H⟩ := H
 by_cases c4 : t842 = true
 ·subst c4
  replace H := ifT H
  replace H := bE H
  obtain ⟨t843, A5, H⟩ := H
  by_cases c6 : t843 = true
  ·subst c6
   replace H := ifT H
   obtain rfl := Option.some.inj H
   go_enter Try.func38, Try.ntmps38
   go_wp2_with (first | ((with_reducible refine gate_callee (f := 72) rfl ?_); refine gL (some 6) Try.func72 #[.int .i64 a0] ?_; (with_reducible refine (impl_SetOk.calls a0 true _ A3.out).mono ?_); rintro e w' ⟨rfl, ⟨nd, rfl⟩⟩; refine ⟨_, rfl, ?_⟩) | (go_at_call 72; (with_reducible refine (impl_SetOk.calls a1 true _ A5.out).mono ?_); rintro e w' ⟨rfl, ⟨nd, rfl⟩⟩))
   go_ret
   exact ⟨by first | rfl | (simp; done) | (simp [*]; done), TD⟩
  ·replace c6 := Bool.eq_false_iff.mpr c6
   subst c6
   replace H := ifF H
   obtain rfl := Option.some.inj H
   go_enter Try.func38, Try.ntmps38
   go_wp2_with (first | ((with_reducible refine gate_callee (f := 72) rfl ?_); refine gL (some 6) Try.func72 #[.int .i64 a0] ?_; (with_reducible refine (impl_SetOk.calls a0 true _ A3.out).mono ?_); rintro e w' ⟨rfl, ⟨nd, rfl⟩⟩; refine ⟨_, rfl, ?_⟩) | (go_at_call 72; (with_reducible refine (impl_SetOk.calls a1 false _ A5.out).mono ?_); rintro e w' ⟨rfl, ⟨nd, rfl⟩⟩))
   go_ret
   exact ⟨by first | rfl | (simp; done) | (simp [*]; done), TD⟩
 ·replace c4 := Bool.eq_false_iff.mpr c4
  subst c4
  replace H := ifF H
  obtain rfl := Option.some.inj H
  go_enter Try.func38, Try.ntmps38
  go_wp2_with (first | ((with_reducible refine gate_callee (f := 72) rfl ?_); refine gL (some 6) Try.func72 #[.int .i64 a0] ?_; (with_reducible refine (impl_SetOk.calls a0 false _ A3.out).mono ?_); rintro e w' ⟨rfl, ⟨nd, rfl⟩⟩; refine ⟨_, rfl, ?_⟩))
  go_ret
  exact ⟨by first | rfl | (simp; done) | (simp [*]; done), TD⟩

end Go.Proofs.Ytfkndpjbkndhcaa.Q
