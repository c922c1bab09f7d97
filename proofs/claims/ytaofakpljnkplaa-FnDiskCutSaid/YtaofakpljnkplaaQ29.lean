/- Functions of the program as plain Lean functions, and that a call of each comes to what its function tells. Written by a program of this seat. -/
import Derived.Test.YtaofakpljnkplaaQ0
import Derived.Test.YtaofakpljnkplaaQ2
import Derived.Test.YtaofakpljnkplaaQ4
import Derived.Test.YtaofakpljnkplaaQ6
namespace Go.Proofs.Ytaofakpljnkplaa.Q
open Go.RowKit Go.Proofs.YtaofakpljnkplaaW.PrintWords Go.Proofs.YtaofakpljnkplaaW.PrintLast Go.Proofs.YtaofakpljnkplaaW.PrintMore
attribute [local go_sem] min2_int min_two
set_option linter.unusedVariables false
set_option linter.unusedSimpArgs false

attribute [local go_sem high] eqA71
theorem Zq29_0 {p : Prop} (h : p := by (try simp only [List.map_toArray, List.map_cons, List.map_nil]); first | done | (rw [show ((l0.take ((wrap64 (x7_1 + a2)) : Int).toNat).drop (x7_1 : Int).toNat).length = ((wrap64 (x7_1 + a2)).toNat - x7_1.toNat) from (by rw [List.length_drop, List.length_take]; have h_ : ((wrap64 (x7_1 + a2)) : Int) ≤ (l0.length : Int) := DT; omega)] <;> rfl) | rfl | (simp only [List.length_drop, List.length_take]; rfl)) : p := h
def impl_FindSum.l0 : Nat → List Int → Int → Int → Int → Int → Option (Int)
  | 0, _, _, _, _, _ => none
  | k + 1, x0, x2, x7, x755000, x755001 => if (wrap64 (x7 + x2)) ≤ (x0.length : Int) then (if 0 ≤ x7 then (if x7 ≤ (wrap64 (x7 + x2)) then ((impl_SumOf.f k ((x0.take ((wrap64 (x7 + x2)) : Int).toNat).drop (x7 : Int).toNat)).bind fun bt757 => (if (bt757.1 == x755000 && (bt757.2 == x755001)) = true then (some x7) else (impl_FindSum.l0 k x0 x2 (wrap64 (x7 + 1)) x755000 x755001))) else (none)) else (none)) else (some (-1))
def impl_FindSum.f (k : Nat) (l0 : List Int) (a1_0 : Int) (a1_1 : Int) (a2 : Int) : Option (Int) := (impl_within.f a2 1 6).bind fun t755 => (if t755 = true then (impl_FindSum.l0 k l0 a2 0 a1_0 a1_1) else (some (-1)))
theorem impl_FindSum.mono_l : ∀ k, (∀ y0 y1 y2 y3 y4, LeO (impl_FindSum.l0 k y0 y1 y2 y3 y4) (impl_FindSum.l0 (k + 1) y0 y1 y2 y3 y4))
  | 0 => fun _ _ _ _ _ r h => by simp [impl_FindSum.l0] at h
  | k + 1 => by
    have m0_ := @impl_SumOf.mono
    have ih0 := impl_FindSum.mono_l k
    · intro y0 y1 y2 y3 y4
      unfold impl_FindSum.l0
      exact LM
theorem impl_FindSum.mono : ∀ a0 a1 a2 a3 k, LeO (impl_FindSum.f k a0 a1 a2 a3) (impl_FindSum.f (k + 1) a0 a1 a2 a3) := by
  intro a0 a1 a2 a3 k;have m0_ := @impl_SumOf.mono;have ih0 := impl_FindSum.mono_l k;unfold impl_FindSum.f;exact LM
def impl_FindSum.T6 : Bool × List (List Nat × List Nat) := (true, [([], []), ([], []), ([], []), ([], []), ([2, 3], [2, 3]), ([0, 1, 4], [0, 1, 4]), ([5], [5]), ([], []), ([6, 7], [6, 7])])
def impl_FindSum.B6 : List Nat := [0, 0, 0, 0, 12, 31, 63, 0, 255]
theorem impl_FindSum.tab6 : rtab .any (opsOf Try.f76 6) = impl_FindSum.T6 := by kernel_rfl
theorem impl_FindSum.bits6 : waitsOk impl_FindSum.T6.2 impl_FindSum.B6 = true := by kernel_rfl
set_option maxHeartbeats 40000000 in
set_option maxRecDepth 100000 in
theorem impl_FindSum.calls {k : Nat} {A0 : Option Addr} {c0 : Nat} {l0 : List Int} {a1_0 : Int} {a1_1 : Int} {a2 : Int} {r : Int} {w : World} (hr0 : Kd.C (Kd.int .u8) w A0 l0.length l0) (hc0 : l0.length ≤ c0) (h : impl_FindSum.f k l0 a1_0 a1_1 a2 = some r) :
    Calls Try.prog 76 #[.slice A0 l0.length c0, .agg #[.int .i64 a1_0, .int .i64 a1_1], .int .i64 a2] w fun e w' => e = .returned (.int .i64 r) ∧ Below w.heap.size w w' := by
  have hu71 := Try.underlying71
  have HR0 := aM hr0
  have HC0 := aM hc0
  clear hr0 hc0
  have HB := aM (Below.refl w.heap.size w)
  have H := h
  clear h
  unfold impl_FindSum.f at H
  replace H := bE H
  obtain ⟨t755, A4, H⟩ := H
  go_enter Try.func76, Try.ntmps76
  go_wp2_with (first | ((with_reducible refine gate_dst (N := 4) rfl ?_); refine gBx 4 #[.int .i64 a1_0, .int .i64 a1_1] 71 ?_; intro gb754 hg w6 hbox hb; have BK754 := aM (hbox); have GW754 := gW HB hg; have GE754 := gW HB hg; replace HB := bS HB hb; clear hb hbox hg) | ((with_reducible refine gate_callee (f := 31) rfl ?_); refine gL (some 9) Try.func31 #[.int .i64 a2, .int .i64 1, .int .i64 6] ?_; (with_reducible refine (impl_within.calls A4.out).mono ?_); rintro e w' ⟨rfl, ⟨nd, rfl⟩⟩; refine ⟨_, rfl, ?_⟩) | ((with_reducible refine gate_dst (N := 10) rfl ?_); generalize hG_ : wpList _ _ _ _ _ _ = G_))
  subst hG_
  by_cases c7 : t755 = true
  · subst c7
    replace H := ifT H
    have H' := aM H
    clear H
    go_wp2
    go_loopg [7] k (fun kq v7 w' => ∃ (x7_1 : Int), v7 = .int .i64 x7_1 ∧ Aside0 (impl_FindSum.l0 kq l0 a2 x7_1 a1_0 a1_1 = some r) ∧ Aside0 (kq ≤ k) ∧ Aside0 (w'.heap[gb754]? = some (.cells #[.int .i64 a1_0, .int .i64 a1_1] 71 (0, 0))) ∧ Aside0 (Below w.heap.size w w'))
    case atStart => exact ⟨(0), TF, H', ⟨Nat.le_refl _⟩, ⟨TK⟩, ⟨TB⟩⟩
    case round =>
      clear H'
      try clear p2
      try clear c3
      try clear c7
      obtain ⟨x7_1, rfl, HA, HK1, BK754, HB⟩ := hrel
      cases gk with
      | zero => exact absurd HA.out (by simp [impl_FindSum.l0])
      | succ k1 =>
        have H := HA.out
        clear HA
        simp only [impl_FindSum.l0] at H
        by_cases c8 : (wrap64 (x7_1 + a2)) ≤ (l0.length : Int)
        · rw [if_pos c8] at H
          have c8b0 : decide ((wrap64 (x7_1 + a2)) ≤ (l0.length : Int)) = true := decide_eq_true c8
          clear c8
          replace H := ifN H
          obtain ⟨c9, H⟩ := H
          have c9b0 := eq_true c9
          have c9b1 : decide (0 ≤ x7_1) = true := decide_eq_true c9
          clear c9
          replace H := ifN H
          obtain ⟨c10, H⟩ := H
          have c10b0 := eq_true c10
          have c10b1 : decide (x7_1 ≤ (wrap64 (x7_1 + a2))) = true := decide_eq_true c10
          have c11b0 := eq_true (DT : (wrap64 (x7_1 + a2)) ≤ (l0.length : Int))
          replace H := bE H
          obtain ⟨⟨t757, t758⟩, A12, H⟩ := H
          dsimp only at H
          by_cases c13 : (t757 == a1_0 && (t758 == a1_1)) = true
          · rw [if_pos c13] at H
            have c13b0 : (t757 == a1_0 && (t758 == a1_1)) = true := c13
            (try (have c13b1 : decide (t757 = a1_0 && (t758 == a1_1)) = true := by simpa using c13))
            (try (have c13b2 : (t757 == a1_0 && (t758 == a1_1)) = true := by simpa using c13))
            clear c13
            obtain rfl := o_I H
            try go_wp2
            (try (rw [drewN_self wr]; generalize hq_ : World.drewN wr _ = wr; have n0_ : Aside0 (wr.heap[gb754]? = some (.cells #[.int .i64 a1_0, .int .i64 a1_1] 71 (0, 0))) := ⟨by rw [← hq_]; exact TK⟩; have n1_ : Aside0 (Below w.heap.size w wr) := ⟨by rw [← hq_]; exact TB⟩; clear BK754 HB hq_; have BK754 := n0_; have HB := n1_; clear n0_ n1_))
            replace BK754 := bD BK754
            replace HB := aM (below_drew1 HB.out)
            obtain ⟨i015, hi015, _, hsz15, _⟩ := info_parts info5
            obtain ⟨A15, hcut15, hA15, hC15⟩ := print_mid_of (P := Try.prog) (Value.int .u8) 0 22 5 .i64 .i64 Try.underlying22 hi015 hsz15 A0 c0 l0 x7_1 (wrap64 (x7_1 + a2)) DT (by first | omega | exact DT) DT HC0.out
            have HR756 := aM (Kd.C_of_reads (h1 := fun _ => rfl) (hA15 _ (Kd.reads_of_C HR0.out)))
            have HC756 := aM hC15
            clear hA15 hC15 hi015 hsz15
            refine st_ (n := 9) (ds := []) (Array.replicate 9 false) (hK2 BK754.out) (by kernel_rfl) rfl rfl (fun hHeld => ?_); refine with_tabW impl_FindSum.tab6 impl_FindSum.bits6 (fun HT_ HW_ => ?_)
            generalize wr.drew = w14 at BK754 HB HR756 hHeld ⊢
            refine ppq 0 19 ?_
            refine ppq 1 20 ?_
            refine ppq 2 21 ?_
            refine ppq 3 22 ?_
            refine ppq 4 23 ?_
            refine ppq 5 24 ?_
            refine ptq 7 26 ?_
            refine poq 6 25 (fun K hK => ?_)
            refine goes_ Try.func41 (by kernel_rfl) rfl #[.slice A15 ((l0.take ((wrap64 (x7_1 + a2)) : Int).toNat).drop (x7_1 : Int).toNat).length (c0 - x7_1.toNat)] (by rfl) rfl rfl (by exact Zq29_0) ?_
            with_reducible refine (impl_SumOf.calls ?side1 ?side2 A12.out).mono ?_
            (case side1 => have X_ := (Kd.C_below HR756.out HB.out); exact TC)
            (case side2 => exact HC756.out)
            rintro e w16 ⟨rfl, hb⟩
            refine ⟨_, rfl, ?_⟩
            replace BK754 := mB BK754 hb
            replace HB := bS HB hb
            (try clear hb)
            (try clear hb2)
            (try clear hk)
            (try clear hi)
            refine hK.out _ _ (cz2 BK754.out) (fun hHeld => ?_)
            clear hK K
            refine nR ?_
            refine ppq 8 27 ?_
            refine done_ (done_of HT_.out (by kernel_rfl)) ?_
            try go_wp2
            go_ret
            exact ⟨TE, TB⟩
          · rw [if_neg c13] at H
            have c13b0 : (t757 == a1_0 && (t758 == a1_1)) = false := by simpa using c13
            (try (have c13b1 : decide (t757 = a1_0 && (t758 == a1_1)) = false := by simpa using c13))
            (try (have c13b2 : (t757 == a1_0 && (t758 == a1_1)) = false := by simpa using c13))
            (try (have c13b3 : ¬ (t757 = a1_0 && (t758 == a1_1)) := by simpa using c13))
            clear c13
            have H' := aM H
            clear H
            try go_wp2
            (try (rw [drewN_self wr]; generalize hq_ : World.drewN wr _ = wr; have n0_ : Aside0 (wr.heap[gb754]? = some (.cells #[.int .i64 a1_0, .int .i64 a1_1] 71 (0, 0))) := ⟨by rw [← hq_]; exact TK⟩; have n1_ : Aside0 (Below w.heap.size w wr) := ⟨by rw [← hq_]; exact TB⟩; clear BK754 HB hq_; have BK754 := n0_; have HB := n1_; clear n0_ n1_))
            replace BK754 := bD BK754
            replace HB := aM (below_drew1 HB.out)
            obtain ⟨i018, hi018, _, hsz18, _⟩ := info_parts info5
            obtain ⟨A18, hcut18, hA18, hC18⟩ := print_mid_of (P := Try.prog) (Value.int .u8) 0 22 5 .i64 .i64 Try.underlying22 hi018 hsz18 A0 c0 l0 x7_1 (wrap64 (x7_1 + a2)) DT (by first | omega | exact DT) DT HC0.out
            have HR756 := aM (Kd.C_of_reads (h1 := fun _ => rfl) (hA18 _ (Kd.reads_of_C HR0.out)))
            have HC756 := aM hC18
            clear hA18 hC18 hi018 hsz18
            refine st_ (n := 9) (ds := []) (Array.replicate 9 false) (hK2 BK754.out) (by kernel_rfl) rfl rfl (fun hHeld => ?_); refine with_tabW impl_FindSum.tab6 impl_FindSum.bits6 (fun HT_ HW_ => ?_)
            generalize wr.drew = w17 at BK754 HB HR756 hHeld ⊢
            refine ppq 0 19 ?_
            refine ppq 1 20 ?_
            refine ppq 2 21 ?_
            refine ppq 3 22 ?_
            refine ppq 4 23 ?_
            refine ppq 5 24 ?_
            refine ptq 7 26 ?_
            refine poq 6 25 (fun K hK => ?_)
            refine goes_ Try.func41 (by kernel_rfl) rfl #[.slice A18 ((l0.take ((wrap64 (x7_1 + a2)) : Int).toNat).drop (x7_1 : Int).toNat).length (c0 - x7_1.toNat)] (by rfl) rfl rfl (by exact Zq29_0) ?_
            with_reducible refine (impl_SumOf.calls ?side1 ?side2 A12.out).mono ?_
            (case side1 => have X_ := (Kd.C_below HR756.out HB.out); exact TC)
            (case side2 => exact HC756.out)
            rintro e w19 ⟨rfl, hb⟩
            refine ⟨_, rfl, ?_⟩
            replace BK754 := mB BK754 hb
            replace HB := bS HB hb
            (try clear hb)
            (try clear hb2)
            (try clear hk)
            (try clear hi)
            refine hK.out _ _ (cz2 BK754.out) (fun hHeld => ?_)
            clear hK K
            refine nR ?_
            refine ppq 8 27 ?_
            refine done_ (done_of HT_.out (by kernel_rfl)) ?_
            try go_wp2
            go_roundg k1
            case measure => have := HK1.out; omega
            case rel => exact ⟨(wrap64 (x7_1 + 1)), TF, H', ⟨by have := HK1.out; omega⟩, ⟨TK⟩, ⟨TB⟩⟩
        · rw [if_neg c8] at H
          have c8b0 : decide ((wrap64 (x7_1 + a2)) ≤ (l0.length : Int)) = false := decide_eq_false c8
          clear c8
          obtain rfl := o_I H
          go_wp2
          go_ret
          exact ⟨TE, TB⟩
  · replace c7 := b_F c7
    subst c7
    replace H := ifF H
    obtain rfl := o_I H
    go_wp2
    go_ret
    exact ⟨TE, TB⟩

def impl_PlaceOf.f (k : Nat) (l0 : List Int) (a1_0 : Int) (a1_1 : Int) (a1_2 : Int) (l1_3 : List (S71)) (a2 : Int) : Option (Int) := (impl_SpanOf.f a1_1 a1_2 a2).bind fun bt760 => ((impl_within.f a2 0 (wrap64 ((l1_3.length : Int) - 1))).bind fun t762 => (if t762 = true then (if 0 ≤ a2 then (if a2 < (l1_3.length : Int) then ((impl_FindSum.f k l0 ((rd_T71 l1_3 a2).f0) ((rd_T71 l1_3 a2).f1) bt760.2).bind fun t764 => (some t764)) else (none)) else (none)) else (some (-1))))
theorem impl_PlaceOf.mono : ∀ a0 a1 a2 a3 a4 a5 k, LeO (impl_PlaceOf.f k a0 a1 a2 a3 a4 a5) (impl_PlaceOf.f (k + 1) a0 a1 a2 a3 a4 a5) := by
  intro a0 a1 a2 a3 a4 a5 k;have m0_ := @impl_FindSum.mono;unfold impl_PlaceOf.f;exact LM
set_option maxHeartbeats 40000000 in
set_option maxRecDepth 100000 in
theorem impl_PlaceOf.calls {k : Nat} {A0 : Option Addr} {c0 : Nat} {l0 : List Int} {a1_0 : Int} {a1_1 : Int} {a1_2 : Int} {A1_3 : Option Addr} {c1_3 : Nat} {l1_3 : List (S71)} {a2 : Int} {r : Int} {w : World} (hr0 : Kd.C (Kd.int .u8) w A0 l0.length l0) (hc0 : l0.length ≤ c0) (hr1_3 : Kd.C k71 w A1_3 l1_3.length l1_3) (hc1_3 : l1_3.length ≤ c1_3) (h : impl_PlaceOf.f k l0 a1_0 a1_1 a1_2 l1_3 a2 = some r) :
    Calls Try.prog 50 #[.slice A0 l0.length c0, .agg #[.int .i64 a1_0, .int .i64 a1_1, .int .i64 a1_2, .slice A1_3 l1_3.length c1_3], .int .i64 a2] w fun e w' => e = .returned (.int .i64 r) ∧ Below w.heap.size w w' := by
  have huq1 := Try.underlying28
  have hu71 := Try.underlying71
  have HR0 := aM hr0
  have HC0 := aM hc0
  clear hr0 hc0
  have HRq1 := aM hr1_3
  have HCq1 := aM hc1_3
  clear hr1_3 hc1_3
  have HB := aM (Below.refl w.heap.size w)
  have H := h
  clear h
  unfold impl_PlaceOf.f at H
  replace H := bE H
  obtain ⟨⟨tq1, tq2⟩, A4, H⟩ := H
  dsimp only at H
  replace H := bE H
  obtain ⟨t762, Aq1, H⟩ := H
  go_enter Try.func50, Try.ntmps50
  go_wp2_with (first | ((with_reducible refine gate_dst (N := 4) rfl ?_); refine gBx 4 #[.int .i64 a1_0, .int .i64 a1_1, .int .i64 a1_2, .slice A1_3 l1_3.length c1_3] 28 ?_; intro gbq1 hg wq1 hbox hb; have BKq1 := aM (hbox); have GWq1 := gW HB hg; have GEq1 := gW HB hg; replace HB := bS HB hb; clear hb hbox hg; obtain ⟨hczq1, hczq2, hczq3, hczq4⟩ := cz4 BKq1.out; obtain ⟨hfzq1, hfzq2, hfzq3, hfzq4⟩ := fz4 BKq1.out) | ((with_reducible refine gate_callee (f := 36) rfl ?_); refine gL (some 15) Try.func36 #[.int .i64 a1_1, .int .i64 a1_2, .int .i64 a2] ?_; (with_reducible refine (impl_SpanOf.calls A4.out).mono ?_); rintro e wq2 ⟨rfl, hb⟩; refine ⟨_, rfl, ?_⟩; replace BKq1 := mB BKq1 hb; replace HB := bS HB hb; clear hb; obtain ⟨hczq5, hczq6, hczq7, hczq8⟩ := cz4 BKq1.out; obtain ⟨hfzq5, hfzq6, hfzq7, hfzq8⟩ := fz4 BKq1.out) | ((with_reducible refine gate_callee (f := 31) rfl ?_); refine gL (some 23) Try.func31 #[.int .i64 a2, .int .i64 0, .int .i64 (wrap64 ((l1_3.length : Int) - 1))] ?_; (with_reducible refine (impl_within.calls Aq1.out).mono ?_); rintro e w' ⟨rfl, ⟨nd, rfl⟩⟩; refine ⟨_, rfl, ?_⟩) | ((with_reducible refine gate_dst (N := 24) rfl ?_); generalize hG_ : wpList _ _ _ _ _ _ = G_))
  subst hG_
  by_cases cq1 : t762 = true
  ·subst cq1
   replace H := ifT H
   replace H := ifN H
   obtain ⟨cq2, H⟩ := H
   have cq3 : decide (0 ≤ a2) = true := decide_eq_true cq2
   clear cq2
   replace H := ifN H
   obtain ⟨c13, H⟩ := H
   have c13b0 : decide (a2 < (l1_3.length : Int)) = true := decide_eq_true c13
   clear c13
   replace H := bE H
   obtain ⟨t764, Aq2, H⟩ := H
   obtain rfl := o_I H
   obtain ⟨hczq9, hczq10, hczq11, hczq12⟩ := cz4 BKq1.out
   obtain ⟨hfzq9, hfzq10, hfzq11, hfzq12⟩ := fz4 BKq1.out
   have pq1 : 0 ≤ (a2 : Int) := DT
   have qq1 : a2 < (l1_3.length : Int) := DT
   obtain ⟨adq1, eq1, hxq1, hxq2⟩ := at_T71 HRq1.out a2 pq1 qq1
   cases eq1
   replace hxq1 := (HB.out.cell (World.block_lt_of_cell? w _ hxq1)).trans hxq1
   replace hxq2 := (HB.out.cell (World.block_lt_of_cell? w _ hxq2)).trans hxq2
   replace pq1 := eq_true pq1
   replace qq1 := eq_true qq1
   go_wp2_with (first | ((with_reducible refine gate_callee (f := 76) rfl ?_); refine gL (some 32) Try.func76 #[.slice A0 l0.length c0, .agg #[.int .i64 ((rd_T71 l1_3 a2).f0), .int .i64 ((rd_T71 l1_3 a2).f1)], .int .i64 tq2] ?_; (with_reducible refine (impl_FindSum.calls ?side1 ?side2 Aq2.out).mono ?_); (case side1 => repeat (first | exact (Kd.C_below HR0.out TB) | (with_reducible refine Kd.C_alloc ?_ _) | (with_reducible refine Kd.C_drewN ?_ _) | (with_reducible refine Kd.C_drew ?_))); (case side2 => exact HC0.out); rintro e w16 ⟨rfl, hb⟩; refine ⟨_, rfl, ?_⟩; replace BKq1 := mB BKq1 hb; replace HB := bS HB hb; clear hb))
   go_ret
   exact ⟨TE, TB⟩
  ·replace cq1 := b_F cq1
   subst cq1
   replace H := ifF H
   obtain rfl := o_I H
   go_wp2
   go_ret
   exact ⟨TE, TB⟩

end Go.Proofs.Ytaofakpljnkplaa.Q
