/- Functions of the program as plain Lean functions, and that a call of each comes to what its function tells. Written by a program of this seat. -/
import Derived.Test.YtfkndpjbkndhcaaQ0
import Derived.Test.YtfkndpjbkndhcaaQ1
import Derived.Test.YtfkndpjbkndhcaaQ24
import Derived.Test.YtfkndpjbkndhcaaQ32
namespace Go.Proofs.Ytfkndpjbkndhcaa.Q
open Go.RowKit Go.Proofs.YtfkndpjbkndhcaaW.PrintWords Go.Proofs.YtfkndpjbkndhcaaW.PrintLast Go.Proofs.YtfkndpjbkndhcaaW.PrintMore
attribute [local go_sem] max2_int min2_int max_two min_two max_three min_three max_four min_four   -- for this text's walks alone
set_option linter.unusedVariables false
set_option linter.unusedSimpArgs false

attribute [local go_sem high] eqA48
/-! ### spec_FindSum: function 28 -/
def spec_FindSum.l0 : Nat → List Int → Int → List Int → Int → Int → Int → Option (Int)
  | 0, _, _, _, _, _, _ => none
  | k + 1, x0, x2, x7, x8, x786000, x786001 => if x8 < (x7.length : Int) then (if 0 ≤ x8 then (if (rd x7 x8) = x786000 then (if x8 ≤ (wrap64 (x8 + x2)) then (if (wrap64 (x8 + x2)) ≤ (x0.length : Int) then ((spec_SumOf.f k ((x0.take ((wrap64 (x8 + x2)) : Int).toNat).drop (x8 : Int).toNat)).bind fun bt792 => (if (bt792.1 == x786000 && (bt792.2 == x786001)) = true then (some x8) else (spec_FindSum.l0 k x0 x2 x7 (wrap64 (x8 + 1)) x786000 x786001))) else (none)) else (none)) else (spec_FindSum.l0 k x0 x2 x7 (wrap64 (x8 + 1)) x786000 x786001)) else (none)) else (some (-1))
def spec_FindSum.f (k : Nat) (l0 : List Int) (a1_0 : Int) (a1_1 : Int) (a2 : Int) : Option (Int) := (spec_l1In.f a2 1 6).bind fun t786 => (if t786 = true then ((spec_Windows.f k l0 a2).bind fun t787 => (spec_FindSum.l0 k l0 a2 t787 0 a1_0 a1_1)) else (some (-1)))
theorem spec_FindSum.mono_l : ∀ k, (∀ y0 y1 y2 y3 y4 y5, LeO (spec_FindSum.l0 k y0 y1 y2 y3 y4 y5) (spec_FindSum.l0 (k + 1) y0 y1 y2 y3 y4 y5))
  | 0 => fun _ _ _ _ _ _ r h => by simp [spec_FindSum.l0] at h
  | k + 1 => by
    have m0_ := @spec_SumOf.mono
    have m1_ := @spec_Windows.mono
    have ih0 := spec_FindSum.mono_l k
    · intro y0 y1 y2 y3 y4 y5
      unfold spec_FindSum.l0
      exact LM
theorem spec_FindSum.mono : ∀ a0 a1 a2 a3 k, LeO (spec_FindSum.f k a0 a1 a2 a3) (spec_FindSum.f (k + 1) a0 a1 a2 a3) := by
  intro a0 a1 a2 a3 k
  have m0_ := @spec_SumOf.mono
  have m1_ := @spec_Windows.mono
  have ih0 := spec_FindSum.mono_l k
  unfold spec_FindSum.f
  exact LM
def spec_FindSum.T7 : Bool × List (List Nat × List Nat) := (true, [([], []), ([], []), ([0, 1], [0, 1]), ([2], [2]), ([], []), ([4], [4]), ([3, 5], [3, 5]), ([6], [6]), ([7], [7]), ([7], [7]), ([7], [7]), ([7], [7]), ([10, 11, 7], [7, 10, 11]), ([8, 9, 12, 7], [7, 8, 9, 12]), ([13, 7, 7], [7, 13]), ([7], [7]), ([14, 15, 7], [7, 14, 15]), ([7, 16], [7, 16])])
def spec_FindSum.B7 : List Nat := [0, 0, 3, 7, 0, 16, 63, 127, 255, 255, 255, 255, 3327, 8191, 16383, 255, 65535, 131071]
theorem spec_FindSum.tab7 : rtab .any (opsOf Try.f28 7) = spec_FindSum.T7 := by kernel_rfl
theorem spec_FindSum.bits7 : waitsOk spec_FindSum.T7.2 spec_FindSum.B7 = true := by kernel_rfl
set_option maxHeartbeats 40000000 in
set_option maxRecDepth 100000 in
theorem spec_FindSum.calls (k : Nat) (A0 : Option Addr) (c0 : Nat) (l0 : List Int) (a1_0 : Int) (a1_1 : Int) (a2 : Int) (r : Int) (w : World) (hr0 : Kd.C (Kd.int .u8) w A0 l0.length l0) (hc0 : l0.length ≤ c0) (h : spec_FindSum.f k l0 a1_0 a1_1 a2 = some r) :
    Calls Try.prog 28 #[.slice A0 l0.length c0, .agg #[.int .i64 a1_0, .int .i64 a1_1], .int .i64 a2] w fun e w' => e = .returned (.int .i64 r) ∧ Below w.heap.size w w' := by
  have hu48 := Try.underlying48
  have HR0 := aM hr0
  have HC0 := aM hc0
  clear hr0 hc0
  have HB := aM (Below.refl w.heap.size w)
  have H := h
  clear h
  unfold spec_FindSum.f at H
  replace H := bE H
  obtain ⟨t786, A4, H⟩ := H
  go_enter Try.func28, Try.ntmps28
  go_wp2_with (first | ((with_reducible refine gate_dst (N := 4) rfl ?_); refine gBx 4 #[.int .i64 a1_0, .int .i64 a1_1] 48 ?_; intro gb785 hg w6 hbox hb; have BK785 := aM (hbox); have GW785 := aM ((by rw [hg]; exact (below_size TB) : w.heap.size ≤ gb785)); have GE785 := aM ((by rw [hg]; exact (below_size TB) : w.heap.size ≤ gb785)); replace HB := aM (below_step TB hb); clear hb hbox hg) | ((with_reducible refine gate_callee (f := 80) rfl ?_); (with_reducible refine gate_dst (N := 10) rfl ?_); generalize hG_ : wpList _ _ _ _ _ _ = G_))
  subst hG_
  by_cases c7 : t786 = true
  · subst c7
    replace H := ifT H
    replace H := bE H
    obtain ⟨t787, A8, H⟩ := H
    have H' := aM H
    clear H
    go_wp2_with (first | ((with_reducible refine gate_callee (f := 80) rfl ?_); refine gL (some 10) Try.func80 #[.int .i64 a2, .int .i64 1, .int .i64 6] ?_; (with_reducible refine (spec_l1In.calls a2 1 6 true _ A4.out).mono ?_); rintro e w' ⟨rfl, ⟨nd, rfl⟩⟩; refine ⟨_, rfl, ?_⟩) | ((with_reducible refine gate_callee (f := 81) rfl ?_); refine gL (some 14) Try.func81 #[.slice A0 l0.length c0, .int .i64 a2] ?_; (with_reducible refine (spec_Windows.calls k _ _ l0 a2 t787 _ ?side1 ?side2 A8.out).mono ?_); (case side1 => repeat (first | exact (Kd.C_below HR0.out TB) | (with_reducible refine Kd.C_alloc ?_ _) | (with_reducible refine Kd.C_drewN ?_ _) | (with_reducible refine Kd.C_drew ?_))); (case side2 => exact HC0.out); rintro e w9 ⟨v788, rfl, ho0, hb⟩; refine ⟨_, rfl, ?_⟩; have HO789 := aM (Kd.R_lower ho0 (below_size TB)); replace BK785 := aM (blk_below (g := gb785) (o := .cells #[.int .i64 a1_0, .int .i64 a1_1] 48 (0, 0)) TK hb); replace HB := aM (below_step TB hb); clear ho0 hb))
    go_loopg [8] k (fun kq v8 w' => ∃ (x8_1 : Int), v8 = .int .i64 x8_1 ∧ Aside0 (spec_FindSum.l0 kq l0 a2 t787 x8_1 a1_0 a1_1 = some r) ∧ Aside0 (kq ≤ k) ∧ Aside0 (Kd.R (Kd.int .i64) 3 w' w.heap.size (fun _ => True) v788 t787) ∧ Aside0 (w'.heap[gb785]? = some (.cells #[.int .i64 a1_0, .int .i64 a1_1] 48 (0, 0))) ∧ Aside0 (Below w.heap.size w w'))
    case atStart => exact ⟨(0), (by first | rfl | (simp; done) | (simp [*]; done)), H', ⟨Nat.le_refl _⟩, ⟨by have X_ := HO789.out; exact TR⟩, ⟨TK⟩, ⟨TB⟩⟩
    case round =>
      clear H'
      try clear c2
      try clear p2
      try clear c7
      try clear c8
      obtain ⟨x8_1, rfl, HA, HK1, HO_7, BK785, HB⟩ := hrel
      cases gk with
      | zero => exact absurd HA.out (by simp [spec_FindSum.l0])
      | succ k1 =>
        have H := HA.out
        clear HA
        simp only [spec_FindSum.l0] at H
        by_cases c10 : x8_1 < (t787.length : Int)
        · rw [if_pos c10] at H
          have c10b0 : decide (x8_1 < (t787.length : Int)) = true := decide_eq_true c10
          clear c10
          replace H := ifN H
          obtain ⟨c11, H⟩ := H
          have c11b0 : decide (0 ≤ x8_1) = true := decide_eq_true c11
          clear c11
          by_cases c12 : (rd t787 x8_1) = a1_0
          · rw [if_pos c12] at H
            have c12b0 : ((rd t787 x8_1) == a1_0) = true := beq_iff_eq.mpr c12
            have c12b1 : ((rd t787 x8_1) != a1_0) = false := bne_eq_false_iff_eq.mpr c12
            clear c12
            have c13b0 := eq_true (DT : 0 ≤ x8_1)
            replace H := ifN H
            obtain ⟨c14, H⟩ := H
            have c14b0 := eq_true c14
            have c14b1 : decide (x8_1 ≤ (wrap64 (x8_1 + a2))) = true := decide_eq_true c14
            replace H := ifN H
            obtain ⟨c15, H⟩ := H
            have c15b0 := eq_true c15
            have c15b1 : decide ((wrap64 (x8_1 + a2)) ≤ (l0.length : Int)) = true := decide_eq_true c15
            replace H := bE H
            obtain ⟨⟨t792, t793⟩, A16, H⟩ := H
            dsimp only at H
            by_cases c17 : (t792 == a1_0 && (t793 == a1_1)) = true
            · rw [if_pos c17] at H
              have c17b0 : (t792 == a1_0 && (t793 == a1_1)) = true := c17
              (try (have c17b1 : decide (t792 = a1_0 && (t793 == a1_1)) = true := by simpa using c17))
              (try (have c17b2 : (t792 == a1_0 && (t793 == a1_1)) = true := by simpa using c17))
              clear c17
              obtain rfl := Option.some.inj H
              obtain ⟨Ao18, co18, eo18⟩ := Kd.R_slice HO_7.out
              subst eo18
              try go_wp2
              (try (rw [drewN_self wr]; generalize hq_ : World.drewN wr _ = wr; have n0_ : Aside0 (Kd.R (Kd.int .i64) 3 wr w.heap.size (fun _ => True) (.slice Ao18 t787.length co18) t787) := ⟨by rw [← hq_]; exact (by have X_ := HO_7.out; exact TR)⟩; have n1_ : Aside0 (wr.heap[gb785]? = some (.cells #[.int .i64 a1_0, .int .i64 a1_1] 48 (0, 0))) := ⟨by rw [← hq_]; exact TK⟩; have n2_ : Aside0 (Below w.heap.size w wr) := ⟨by rw [← hq_]; exact TB⟩; clear HO_7 BK785 HB hq_; have HO_7 := n0_; have BK785 := n1_; have HB := n2_; clear n0_ n1_ n2_))
              replace HO_7 := aM (Kd.R_drew HO_7.out)
              replace BK785 := aM (blk_drew BK785.out)
              replace HB := aM (below_drew1 HB.out)
              have p790 : 0 ≤ (x8_1 : Int) := DT
              have q790 : x8_1 < (t787.length : Int) := DT
              obtain ⟨ad790, e790, hx790_0⟩ := Kd.at_int (Kd.R_reads' HO_7.out).2.2 x8_1 p790 q790
              cases e790
              replace p790 := eq_true p790
              replace q790 := eq_true q790
              obtain ⟨i020, hi020, _, hsz20, _⟩ := info_parts info5
              obtain ⟨A20, hcut20, hA20, hC20⟩ := print_mid_of (P := Try.prog) (Value.int .u8) 0 22 5 .i64 .i64 Try.underlying22 hi020 hsz20 A0 c0 l0 x8_1 (wrap64 (x8_1 + a2)) DT (by first | omega | exact DT) DT HC0.out
              have HR791 := aM (Kd.C_of_reads (h1 := fun _ => rfl) (hA20 _ (Kd.reads_of_C HR0.out)))
              have HC791 := aM hC20
              clear hA20 hC20 hi020 hsz20
              refine start_ (n := 18) (S := fun w' => w'.cell? ⟨gb785, 0, none⟩ = some (.int .i64 a1_0) ∧ w'.cell? ⟨gb785, 1, none⟩ = some (.int .i64 a1_1) ∧ w'.cell? (ad790.add (x8_1).toNat) = some (.int .i64 (rd t787 x8_1))) (ds := []) (Array.replicate 18 false) (by kernel_rfl) rfl rfl ⟨(blk_cell BK785.out 0).trans rfl, (blk_cell BK785.out 1).trans rfl, hx790_0⟩ (fun hHeld => ?_); refine with_tabW spec_FindSum.tab7 spec_FindSum.bits7 (fun HT_ HW_ => ?_)
              generalize wr.drew = w19 at HO_7 BK785 HB HR791 hx790_0 hHeld ⊢
              refine pP 0 (some 21) ?_
              refine pP 1 (some 22) ?_
              refine pP 2 (some 23) ?_
              refine pP 4 (some 25) ?_
              refine pT 3 (some 24) ?_
              refine pT 5 (some 26) ?_
              refine pP 6 (some 27) ?_
              refine pP 7 (some 28) ?_
              refine pP 8 (some 29) ?_
              refine pP 9 (some 30) ?_
              refine pP 10 (some 31) ?_
              refine pP 11 (some 32) ?_
              refine pP 12 (some 33) ?_
              refine pP 13 (some 34) ?_
              refine pT 15 (some 36) ?_
              refine pO 14 (some 35) (fun K hK => ?_)
              refine goes_ Try.func77 (by kernel_rfl) rfl #[.slice A20 ((l0.take ((wrap64 (x8_1 + a2)) : Int).toNat).drop (x8_1 : Int).toNat).length (c0 - x8_1.toNat)] (by rfl) rfl rfl (by (try simp only [List.map_toArray, List.map_cons, List.map_nil]); first | done | (rw [show ((l0.take ((wrap64 (x8_1 + a2)) : Int).toNat).drop (x8_1 : Int).toNat).length = ((wrap64 (x8_1 + a2)).toNat - x8_1.toNat) from (by rw [List.length_drop, List.length_take]; have h_ : ((wrap64 (x8_1 + a2)) : Int) ≤ (l0.length : Int) := DT; omega)] <;> rfl) | rfl | (simp only [List.length_drop, List.length_take]; rfl)) ?_
              with_reducible refine (spec_SumOf.calls k1 _ _ ((l0.take ((wrap64 (x8_1 + a2)) : Int).toNat).drop (x8_1 : Int).toNat) t792 t793 _ ?side1 ?side2 A16.out).mono ?_
              (case side1 => have X_ := (Kd.C_below HR791.out HB.out); exact TC)
              (case side2 => exact HC791.out)
              rintro e w21 ⟨rfl, hb⟩
              have HS2_ := (hb.cell (World.block_lt_of_cell? _ _ (hHeld.2.2))).trans (hHeld.2.2)
              refine ⟨_, rfl, ?_⟩
              have n0_ := aM (Kd.R_below (by have X_ := HO_7.out; exact TR) hb)
              have n1_ := aM (blk_below (g := gb785) (o := .cells #[.int .i64 a1_0, .int .i64 a1_1] 48 (0, 0)) TK hb)
              have n2_ := aM (below_step TB hb)
              clear HO_7
              clear BK785
              clear HB
              have HO_7 := n0_
              have BK785 := n1_
              have HB := n2_
              clear n0_ n1_ n2_
              (try clear hb)
              (try clear hb2)
              (try clear hk)
              (try clear hi)
              refine hK.out _ _ ⟨(blk_cell BK785.out 0).trans rfl, (blk_cell BK785.out 1).trans rfl, HS2_⟩ (fun hHeld => ?_)
              clear hK K
              refine nR ?_
              refine pP 16 (some 37) ?_
              refine pP 17 (some 38) ?_
              refine done_ (done_of HT_.out (by kernel_rfl)) ?_
              try go_wp2
              go_ret
              exact ⟨by first | rfl | (simp [errW_none, errW_some] <;> rfl) | (simp [*, errW_none, errW_some] <;> rfl), TB⟩
            · rw [if_neg c17] at H
              have c17b0 : (t792 == a1_0 && (t793 == a1_1)) = false := by simpa using c17
              (try (have c17b1 : decide (t792 = a1_0 && (t793 == a1_1)) = false := by simpa using c17))
              (try (have c17b2 : (t792 == a1_0 && (t793 == a1_1)) = false := by simpa using c17))
              (try (have c17b3 : ¬ (t792 = a1_0 && (t793 == a1_1)) := by simpa using c17))
              clear c17
              have H' := aM H
              clear H
              obtain ⟨Ao22, co22, eo22⟩ := Kd.R_slice HO_7.out
              subst eo22
              try go_wp2
              (try (rw [drewN_self wr]; generalize hq_ : World.drewN wr _ = wr; have n0_ : Aside0 (Kd.R (Kd.int .i64) 3 wr w.heap.size (fun _ => True) (.slice Ao22 t787.length co22) t787) := ⟨by rw [← hq_]; exact (by have X_ := HO_7.out; exact TR)⟩; have n1_ : Aside0 (wr.heap[gb785]? = some (.cells #[.int .i64 a1_0, .int .i64 a1_1] 48 (0, 0))) := ⟨by rw [← hq_]; exact TK⟩; have n2_ : Aside0 (Below w.heap.size w wr) := ⟨by rw [← hq_]; exact TB⟩; clear HO_7 BK785 HB hq_; have HO_7 := n0_; have BK785 := n1_; have HB := n2_; clear n0_ n1_ n2_))
              replace HO_7 := aM (Kd.R_drew HO_7.out)
              replace BK785 := aM (blk_drew BK785.out)
              replace HB := aM (below_drew1 HB.out)
              have p790 : 0 ≤ (x8_1 : Int) := DT
              have q790 : x8_1 < (t787.length : Int) := DT
              obtain ⟨ad790, e790, hx790_0⟩ := Kd.at_int (Kd.R_reads' HO_7.out).2.2 x8_1 p790 q790
              cases e790
              replace p790 := eq_true p790
              replace q790 := eq_true q790
              obtain ⟨i024, hi024, _, hsz24, _⟩ := info_parts info5
              obtain ⟨A24, hcut24, hA24, hC24⟩ := print_mid_of (P := Try.prog) (Value.int .u8) 0 22 5 .i64 .i64 Try.underlying22 hi024 hsz24 A0 c0 l0 x8_1 (wrap64 (x8_1 + a2)) DT (by first | omega | exact DT) DT HC0.out
              have HR791 := aM (Kd.C_of_reads (h1 := fun _ => rfl) (hA24 _ (Kd.reads_of_C HR0.out)))
              have HC791 := aM hC24
              clear hA24 hC24 hi024 hsz24
              refine start_ (n := 18) (S := fun w' => w'.cell? ⟨gb785, 0, none⟩ = some (.int .i64 a1_0) ∧ w'.cell? ⟨gb785, 1, none⟩ = some (.int .i64 a1_1) ∧ w'.cell? (ad790.add (x8_1).toNat) = some (.int .i64 (rd t787 x8_1))) (ds := []) (Array.replicate 18 false) (by kernel_rfl) rfl rfl ⟨(blk_cell BK785.out 0).trans rfl, (blk_cell BK785.out 1).trans rfl, hx790_0⟩ (fun hHeld => ?_); refine with_tabW spec_FindSum.tab7 spec_FindSum.bits7 (fun HT_ HW_ => ?_)
              generalize wr.drew = w23 at HO_7 BK785 HB HR791 hx790_0 hHeld ⊢
              refine pP 0 (some 21) ?_
              refine pP 1 (some 22) ?_
              refine pP 2 (some 23) ?_
              refine pP 4 (some 25) ?_
              refine pT 3 (some 24) ?_
              refine pT 5 (some 26) ?_
              refine pP 6 (some 27) ?_
              refine pP 7 (some 28) ?_
              refine pP 8 (some 29) ?_
              refine pP 9 (some 30) ?_
              refine pP 10 (some 31) ?_
              refine pP 11 (some 32) ?_
              refine pP 12 (some 33) ?_
              refine pP 13 (some 34) ?_
              refine pT 15 (some 36) ?_
              refine pO 14 (some 35) (fun K hK => ?_)
              refine goes_ Try.func77 (by kernel_rfl) rfl #[.slice A24 ((l0.take ((wrap64 (x8_1 + a2)) : Int).toNat).drop (x8_1 : Int).toNat).length (c0 - x8_1.toNat)] (by rfl) rfl rfl (by (try simp only [List.map_toArray, List.map_cons, List.map_nil]); first | done | (rw [show ((l0.take ((wrap64 (x8_1 + a2)) : Int).toNat).drop (x8_1 : Int).toNat).length = ((wrap64 (x8_1 + a2)).toNat - x8_1.toNat) from (by rw [List.length_drop, List.length_take]; have h_ : ((wrap64 (x8_1 + a2)) : Int) ≤ (l0.length : Int) := DT; omega)] <;> rfl) | rfl | (simp only [List.length_drop, List.length_take]; rfl)) ?_
              with_reducible refine (spec_SumOf.calls k1 _ _ ((l0.take ((wrap64 (x8_1 + a2)) : Int).toNat).drop (x8_1 : Int).toNat) t792 t793 _ ?side1 ?side2 A16.out).mono ?_
              (case side1 => have X_ := (Kd.C_below HR791.out HB.out); exact TC)
              (case side2 => exact HC791.out)
              rintro e w25 ⟨rfl, hb⟩
              have HS2_ := (hb.cell (World.block_lt_of_cell? _ _ (hHeld.2.2))).trans (hHeld.2.2)
              refine ⟨_, rfl, ?_⟩
              have n0_ := aM (Kd.R_below (by have X_ := HO_7.out; exact TR) hb)
              have n1_ := aM (blk_below (g := gb785) (o := .cells #[.int .i64 a1_0, .int .i64 a1_1] 48 (0, 0)) TK hb)
              have n2_ := aM (below_step TB hb)
              clear HO_7
              clear BK785
              clear HB
              have HO_7 := n0_
              have BK785 := n1_
              have HB := n2_
              clear n0_ n1_ n2_
              (try clear hb)
              (try clear hb2)
              (try clear hk)
              (try clear hi)
              refine hK.out _ _ ⟨(blk_cell BK785.out 0).trans rfl, (blk_cell BK785.out 1).trans rfl, HS2_⟩ (fun hHeld => ?_)
              clear hK K
              refine nR ?_
              refine pP 16 (some 37) ?_
              refine pP 17 (some 38) ?_
              refine done_ (done_of HT_.out (by kernel_rfl)) ?_
              try go_wp2
              go_roundg k1
              case measure => have := HK1.out; omega
              case rel => exact ⟨(wrap64 (x8_1 + 1)), (by first | rfl | (simp; done) | (simp [*]; done)), H', ⟨by have := HK1.out; omega⟩, ⟨by have X_ := HO_7.out; exact TR⟩, ⟨TK⟩, ⟨TB⟩⟩
          · rw [if_neg c12] at H
            have c12b0 : ((rd t787 x8_1) == a1_0) = false := beq_eq_false_iff_ne.mpr c12
            have c12b1 : ((rd t787 x8_1) != a1_0) = true := bne_iff_ne.mpr c12
            have H' := aM H
            clear H
            obtain ⟨Ao26, co26, eo26⟩ := Kd.R_slice HO_7.out
            subst eo26
            try go_wp2
            (try (rw [drewN_self wr]; generalize hq_ : World.drewN wr _ = wr; have n0_ : Aside0 (Kd.R (Kd.int .i64) 3 wr w.heap.size (fun _ => True) (.slice Ao26 t787.length co26) t787) := ⟨by rw [← hq_]; exact (by have X_ := HO_7.out; exact TR)⟩; have n1_ : Aside0 (wr.heap[gb785]? = some (.cells #[.int .i64 a1_0, .int .i64 a1_1] 48 (0, 0))) := ⟨by rw [← hq_]; exact TK⟩; have n2_ : Aside0 (Below w.heap.size w wr) := ⟨by rw [← hq_]; exact TB⟩; clear HO_7 BK785 HB hq_; have HO_7 := n0_; have BK785 := n1_; have HB := n2_; clear n0_ n1_ n2_))
            replace HO_7 := aM (Kd.R_drew HO_7.out)
            replace BK785 := aM (blk_drew BK785.out)
            replace HB := aM (below_drew1 HB.out)
            have p790 : 0 ≤ (x8_1 : Int) := DT
            have q790 : x8_1 < (t787.length : Int) := DT
            obtain ⟨ad790, e790, hx790_0⟩ := Kd.at_int (Kd.R_reads' HO_7.out).2.2 x8_1 p790 q790
            cases e790
            replace p790 := eq_true p790
            replace q790 := eq_true q790
            refine start_ (n := 18) (S := fun w' => w'.cell? ⟨gb785, 0, none⟩ = some (.int .i64 a1_0) ∧ w'.cell? ⟨gb785, 1, none⟩ = some (.int .i64 a1_1) ∧ w'.cell? (ad790.add (x8_1).toNat) = some (.int .i64 (rd t787 x8_1))) (ds := []) (Array.replicate 18 false) (by kernel_rfl) rfl rfl ⟨(blk_cell BK785.out 0).trans rfl, (blk_cell BK785.out 1).trans rfl, hx790_0⟩ (fun hHeld => ?_); refine with_tabW spec_FindSum.tab7 spec_FindSum.bits7 (fun HT_ HW_ => ?_)
            generalize wr.drew = w27 at HO_7 BK785 HB hx790_0 hHeld ⊢
            refine pP 0 (some 21) ?_
            refine pP 1 (some 22) ?_
            refine pP 2 (some 23) ?_
            refine pP 4 (some 25) ?_
            refine pT 3 (some 24) ?_
            refine pT 5 (some 26) ?_
            refine pP 6 (some 27) ?_
            refine pP 7 (some 28) ?_
            refine pX 8 (some 29) ?_
            refine pX 9 (some 30) ?_
            refine pX 10 (some 31) ?_
            refine pX 11 (some 32) ?_
            refine pX 12 (some 33) ?_
            refine pX 13 (some 34) ?_
            refine pX 14 (some 35) ?_
            refine pX 15 (some 36) ?_
            refine pX 16 (some 37) ?_
            refine pP 17 (some 38) ?_
            refine done_ (done_of HT_.out (by kernel_rfl)) ?_
            try go_wp2
            go_roundg k1
            case measure => have := HK1.out; omega
            case rel => exact ⟨(wrap64 (x8_1 + 1)), (by first | rfl | (simp; done) | (simp [*]; done)), H', ⟨by have := HK1.out; omega⟩, ⟨by have X_ := HO_7.out; exact TR⟩, ⟨TK⟩, ⟨TB⟩⟩
        · rw [if_neg c10] at H
          have c10b0 : decide (x8_1 < (t787.length : Int)) = false := decide_eq_false c10
          clear c10
          obtain rfl := Option.some.inj H
          obtain ⟨Ao28, co28, eo28⟩ := Kd.R_slice HO_7.out
          subst eo28
          go_wp2
          go_ret
          exact ⟨by first | rfl | (simp [errW_none, errW_some] <;> rfl) | (simp [*, errW_none, errW_some] <;> rfl), TB⟩
  · replace c7 := Bool.eq_false_iff.mpr c7
    subst c7
    replace H := ifF H
    obtain rfl := Option.some.inj H
    go_wp2_with (first | ((with_reducible refine gate_callee (f := 80) rfl ?_); refine gL (some 10) Try.func80 #[.int .i64 a2, .int .i64 1, .int .i64 6] ?_; (with_reducible refine (spec_l1In.calls a2 1 6 false _ A4.out).mono ?_); rintro e w' ⟨rfl, ⟨nd, rfl⟩⟩; refine ⟨_, rfl, ?_⟩))
    go_ret
    exact ⟨by first | rfl | (simp [errW_none, errW_some] <;> rfl) | (simp [*, errW_none, errW_some] <;> rfl), TB⟩

/-! ### spec_PlaceOf: function 34 -/
def spec_PlaceOf.f (k : Nat) (l0 : List Int) (a1_0 : Int) (a1_1 : Int) (a1_2 : Int) (l1_3 : List (S48)) (a2 : Int) : Option (Int) := (spec_SpanOf.f a1_1 a1_2 a2).bind fun bt797 => (if bt797.2 = 0 then (some (-1)) else (if a2 ≥ (l1_3.length : Int) then (some (-1)) else (if 0 ≤ a2 then (if a2 < (l1_3.length : Int) then ((spec_FindSum.f k l0 ((rd_T48 l1_3 a2).f0) ((rd_T48 l1_3 a2).f1) bt797.2).bind fun t800 => (some t800)) else (none)) else (none))))
theorem spec_PlaceOf.mono : ∀ a0 a1 a2 a3 a4 a5 k, LeO (spec_PlaceOf.f k a0 a1 a2 a3 a4 a5) (spec_PlaceOf.f (k + 1) a0 a1 a2 a3 a4 a5) := by
  intro a0 a1 a2 a3 a4 a5 k
  have m0_ := @spec_FindSum.mono
  unfold spec_PlaceOf.f
  exact LM
set_option maxHeartbeats 40000000 in
set_option maxRecDepth 100000 in
theorem spec_PlaceOf.calls (k : Nat) (A0 : Option Addr) (c0 : Nat) (l0 : List Int) (a1_0 : Int) (a1_1 : Int) (a1_2 : Int) (A1_3 : Option Addr) (c1_3 : Nat) (l1_3 : List (S48)) (a2 : Int) (r : Int) (w : World) (hr0 : Kd.C (Kd.int .u8) w A0 l0.length l0) (hc0 : l0.length ≤ c0) (hr1_3 : Kd.C k48 w A1_3 l1_3.length l1_3) (hc1_3 : l1_3.length ≤ c1_3) (h : spec_PlaceOf.f k l0 a1_0 a1_1 a1_2 l1_3 a2 = some r) :
    Calls Try.prog 34 #[.slice A0 l0.length c0, .agg #[.int .i64 a1_0, .int .i64 a1_1, .int .i64 a1_2, .slice A1_3 l1_3.length c1_3], .int .i64 a2] w fun e w' => e = .returned (.int .i64 r) ∧ Below w.heap.size w w' := by
  have hu28 := Try.underlying28
  have hu48 := Try.underlying48
  have HR0 := aM hr0
  have HC0 := aM hc0
  clear hr0 hc0
  have HR1_3 := aM hr1_3
  have HC1_3 := aM hc1_3
  clear hr1_3 hc1_3
  have HB := aM (Below.refl w.heap.size w)
  have H := h
  clear h
  unfold spec_PlaceOf.f at H
  replace H := bE H
  obtain ⟨⟨t797, t798⟩, A4, H⟩ := H
  dsimp only at H
  go_enter Try.func34, Try.ntmps34
  go_wp2_with (first | ((with_reducible refine gate_dst (N := 4) rfl ?_); (try (refine gate_guard (by rfl) ?_; dsimp only)); refine gBx 4 #[.int .i64 a1_0, .int .i64 a1_1, .int .i64 a1_2, .slice A1_3 l1_3.length c1_3] 28 ?_; intro gb796 hg w5 hbox hb; have BK796 := aM (hbox); have GW796 := aM ((by rw [hg]; exact (below_size TB) : w.heap.size ≤ gb796)); have GE796 := aM ((by rw [hg]; exact (below_size TB) : w.heap.size ≤ gb796)); replace HB := aM (below_step TB hb); clear hb hbox hg; obtain ⟨hcz6_0, hcz6_1, hcz6_2, hcz6_3⟩ := cz4 BK796.out; obtain ⟨hfz6_0, hfz6_1, hfz6_2, hfz6_3⟩ := fz4 BK796.out) | ((with_reducible refine gate_callee (f := 76) rfl ?_); (with_reducible refine gate_dst (N := 15) rfl ?_); generalize hG_ : wpList _ _ _ _ _ _ = G_))
  subst hG_
  by_cases c7 : t798 = 0
  · rw [if_pos c7] at H
    have c7b0 : (t798 == 0) = true := beq_iff_eq.mpr c7
    have c7b1 : (t798 != 0) = false := bne_eq_false_iff_eq.mpr c7
    clear c7
    obtain rfl := Option.some.inj H
    go_wp2_with (first | ((with_reducible refine gate_callee (f := 76) rfl ?_); refine gL (some 15) Try.func76 #[.int .i64 a1_1, .int .i64 a1_2, .int .i64 a2] ?_; (with_reducible refine (spec_SpanOf.calls a1_1 a1_2 a2 t797 t798 _ A4.out).mono ?_); rintro e w' ⟨rfl, ⟨nd, rfl⟩⟩; refine ⟨_, rfl, ?_⟩))
    go_ret
    exact ⟨by first | rfl | (simp [errW_none, errW_some] <;> rfl) | (simp [*, errW_none, errW_some] <;> rfl), TB⟩
  · rw [if_neg c7] at H
    have c7b0 : (t798 == 0) = false := beq_eq_false_iff_ne.mpr c7
    have c7b1 : (t798 != 0) = true := bne_iff_ne.mpr c7
    by_cases c8 : a2 ≥ (l1_3.length : Int)
    · rw [if_pos c8] at H
      have c8b0 : decide ((l1_3.length : Int) ≤ a2) = true := decide_eq_true c8
      clear c8
      obtain rfl := Option.some.inj H
      go_wp2_with (first | ((with_reducible refine gate_callee (f := 76) rfl ?_); refine gL (some 15) Try.func76 #[.int .i64 a1_1, .int .i64 a1_2, .int .i64 a2] ?_; (with_reducible refine (spec_SpanOf.calls a1_1 a1_2 a2 t797 t798 _ A4.out).mono ?_); rintro e w' ⟨rfl, ⟨nd, rfl⟩⟩; refine ⟨_, rfl, ?_⟩; obtain ⟨hcz9_0, hcz9_1, hcz9_2, hcz9_3⟩ := cz4 BK796.out; obtain ⟨hfz9_0, hfz9_1, hfz9_2, hfz9_3⟩ := fz4 BK796.out))
      go_ret
      exact ⟨by first | rfl | (simp [errW_none, errW_some] <;> rfl) | (simp [*, errW_none, errW_some] <;> rfl), TB⟩
    · rw [if_neg c8] at H
      have c8b0 : decide ((l1_3.length : Int) ≤ a2) = false := decide_eq_false c8
      clear c8
      replace H := ifN H
      obtain ⟨c10, H⟩ := H
      have c10b0 : decide (0 ≤ a2) = true := decide_eq_true c10
      clear c10
      replace H := ifN H
      obtain ⟨c11, H⟩ := H
      have c11b0 : decide (a2 < (l1_3.length : Int)) = true := decide_eq_true c11
      clear c11
      replace H := bE H
      obtain ⟨t800, A12, H⟩ := H
      obtain rfl := Option.some.inj H
      go_wp2_with (first | ((with_reducible refine gate_callee (f := 76) rfl ?_); refine gL (some 15) Try.func76 #[.int .i64 a1_1, .int .i64 a1_2, .int .i64 a2] ?_; (with_reducible refine (spec_SpanOf.calls a1_1 a1_2 a2 t797 t798 _ A4.out).mono ?_); rintro e w' ⟨rfl, ⟨nd, rfl⟩⟩; refine ⟨_, rfl, ?_⟩; obtain ⟨hcz13_0, hcz13_1, hcz13_2, hcz13_3⟩ := cz4 BK796.out; obtain ⟨hfz13_0, hfz13_1, hfz13_2, hfz13_3⟩ := fz4 BK796.out; have p799 : 0 ≤ (a2 : Int) := DT; have q799 : a2 < (l1_3.length : Int) := DT; obtain ⟨ad799, e799, hx799_0, hx799_1⟩ := at_T48 HR1_3.out a2 p799 q799; cases e799; replace hx799_0 := (HB.out.cell (World.block_lt_of_cell? w _ hx799_0)).trans hx799_0; replace hx799_1 := (HB.out.cell (World.block_lt_of_cell? w _ hx799_1)).trans hx799_1; replace p799 := eq_true p799; replace q799 := eq_true q799) | ((with_reducible refine gate_callee (f := 28) rfl ?_); refine gL (some 34) Try.func28 #[.slice A0 l0.length c0, .agg #[.int .i64 ((rd_T48 l1_3 a2).f0), .int .i64 ((rd_T48 l1_3 a2).f1)], .int .i64 t798] ?_; (with_reducible refine (spec_FindSum.calls k _ _ l0 ((rd_T48 l1_3 a2).f0) ((rd_T48 l1_3 a2).f1) t798 t800 _ ?side1 ?side2 A12.out).mono ?_); (case side1 => repeat (first | exact (Kd.C_below HR0.out TB) | (with_reducible refine Kd.C_alloc ?_ _) | (with_reducible refine Kd.C_drewN ?_ _) | (with_reducible refine Kd.C_drew ?_))); (case side2 => exact HC0.out); rintro e w14 ⟨rfl, hb⟩; refine ⟨_, rfl, ?_⟩; replace BK796 := aM (blk_below (by have X_ := BK796.out; exact TX) hb); replace HB := aM (below_step TB hb); clear hb))
      go_ret
      exact ⟨by first | rfl | (simp [errW_none, errW_some] <;> rfl) | (simp [*, errW_none, errW_some] <;> rfl), TB⟩

/-! ### spec_SetOk: function 100 -/
def spec_SetOk.f (a0 : Int) : Option (Bool) := (spec_l1In.f a0 0 1099511627775).bind fun t801 => (some t801)
set_option maxHeartbeats 40000000 in
set_option maxRecDepth 100000 in
theorem spec_SetOk.calls (a0 : Int) (r : Bool) (w : World) (h : spec_SetOk.f a0 = some r) :
    Calls Try.prog 100 #[.int .i64 a0] w fun e w' => e = .returned (.bool r) ∧ Drawn0 w w' := by
  have H := h
  clear h
  unfold spec_SetOk.f at H
  replace H := bE H
  obtain ⟨t801, A2, H⟩ := H
  obtain rfl := Option.some.inj H
  go_enter Try.func100, Try.ntmps100
  go_wp2_with (first | ((with_reducible refine gate_callee (f := 80) rfl ?_); refine gL (some 4) Try.func80 #[.int .i64 a0, .int .i64 0, .int .i64 1099511627775] ?_; (with_reducible refine (spec_l1In.calls a0 0 1099511627775 t801 _ A2.out).mono ?_); rintro e w' ⟨rfl, ⟨nd, rfl⟩⟩; refine ⟨_, rfl, ?_⟩))
  go_ret
  exact ⟨by first | rfl | (simp; done) | (simp [*]; done), TD⟩

/-! ### spec_WithPart: function 82 -/
def spec_WithPart.f (a0 : Int) (a1 : Int) : Option (Int) := (spec_SetOk.f a0).bind fun t802 => (if t802 = true then ((spec_l1In.f a1 0 39).bind fun t803 => (if t803 = true then (if 0 ≤ a1 then (some (Go.bits .or .i64 a0 (shl .i64 1 a1))) else (none)) else (some a0))) else (some a0))
set_option maxHeartbeats 40000000 in
set_option maxRecDepth 100000 in
theorem spec_WithPart.calls (a0 : Int) (a1 : Int) (r : Int) (w : World) (h : spec_WithPart.f a0 a1 = some r) :
    Calls Try.prog 82 #[.int .i64 a0, .int .i64 a1] w fun e w' => e = .returned (.int .i64 r) ∧ Drawn0 w w' := by
  have H := h
  clear h
  unfold spec_WithPart.f at H
  replace H := bE H
  obtain ⟨t802, A3, H⟩ := H
  by_cases c4 : t802 = true
  · subst c4
    replace H := ifT H
    replace H := bE H
    obtain ⟨t803, A5, H⟩ := H
    by_cases c6 : t803 = true
    · subst c6
      replace H := ifT H
      replace H := ifN H
      obtain ⟨c7, H⟩ := H
      have c7b0 := eq_true c7
      have c7b1 : decide (0 ≤ a1) = true := decide_eq_true c7
      clear c7
      obtain ⟨ji8, hji8⟩ : ∃ j_ : Int, (shl .i64 1 a1) = j_ := ⟨_, rfl⟩
      (first | rw [hji8] at H | simp only [hji8] at H | skip)
      (try rw [hji8] at A3)
      (try rw [hji8] at A5)
      have hji8_ : (IntKind.i64.wrap (1 * 2 ^ min a1.toNat 64)) = ji8 := hji8
      have hji8z : a1 ≤ 64 → (IntKind.i64.wrap (1 * 2 ^ a1.toNat)) = ji8 := shl_small hji8
      have hji8u : (IntKind.i64.wrap (2 ^ min a1.toNat 64)) = ji8 := by have h_ := hji8_; rw [Int.one_mul] at h_; exact h_
      have hji8v : a1 ≤ 64 → (IntKind.i64.wrap (2 ^ a1.toNat)) = ji8 := fun hle_ => by have h_ := hji8z hle_; rw [Int.one_mul] at h_; exact h_
      have hji8y : (wrap64 (1 * 2 ^ min a1.toNat 64)) = ji8 := (i64_w _).symm.trans hji8_
      have hji8x : a1 ≤ 64 → (wrap64 (1 * 2 ^ a1.toNat)) = ji8 := fun h_ => (i64_w _).symm.trans (hji8z h_)
      obtain rfl := Option.some.inj H
      go_enter Try.func82, Try.ntmps82
      go_wp2_with (first | ((with_reducible refine gate_callee (f := 100) rfl ?_); refine gL (some 6) Try.func100 #[.int .i64 a0] ?_; (with_reducible refine (spec_SetOk.calls a0 true _ A3.out).mono ?_); rintro e w' ⟨rfl, ⟨nd, rfl⟩⟩; refine ⟨_, rfl, ?_⟩) | (go_at_call 80; (with_reducible refine (spec_l1In.calls a1 0 39 true _ A5.out).mono ?_); rintro e w' ⟨rfl, ⟨nd, rfl⟩⟩))
      go_ret
      exact ⟨by first | rfl | (simp; done) | (simp only [← hji8] <;> (first | rfl | simp)) | (simp [*]; done), TD⟩
    · replace c6 := Bool.eq_false_iff.mpr c6
      subst c6
      replace H := ifF H
      obtain rfl := Option.some.inj H
      go_enter Try.func82, Try.ntmps82
      go_wp2_with (first | ((with_reducible refine gate_callee (f := 100) rfl ?_); refine gL (some 6) Try.func100 #[.int .i64 a0] ?_; (with_reducible refine (spec_SetOk.calls a0 true _ A3.out).mono ?_); rintro e w' ⟨rfl, ⟨nd, rfl⟩⟩; refine ⟨_, rfl, ?_⟩) | (go_at_call 80; (with_reducible refine (spec_l1In.calls a1 0 39 false _ A5.out).mono ?_); rintro e w' ⟨rfl, ⟨nd, rfl⟩⟩))
      go_ret
      exact ⟨by first | rfl | (simp; done) | (simp [*]; done), TD⟩
  · replace c4 := Bool.eq_false_iff.mpr c4
    subst c4
    replace H := ifF H
    obtain rfl := Option.some.inj H
    go_enter Try.func82, Try.ntmps82
    go_wp2_with (first | ((with_reducible refine gate_callee (f := 100) rfl ?_); refine gL (some 6) Try.func100 #[.int .i64 a0] ?_; (with_reducible refine (spec_SetOk.calls a0 false _ A3.out).mono ?_); rintro e w' ⟨rfl, ⟨nd, rfl⟩⟩; refine ⟨_, rfl, ?_⟩))
    go_ret
    exact ⟨by first | rfl | (simp; done) | (simp [*]; done), TD⟩

/-! ### spec_InSet: function 98 -/
def spec_InSet.f (a0 : Int) (a1 : Int) : Option (Bool) := (spec_SetOk.f a0).bind fun t815 => (if t815 = true then ((spec_l1In.f a1 0 39).bind fun t816 => (if t816 = true then (if 0 ≤ a1 then (some ((Go.bits .and .i64 (shr .i64 a0 a1) 1) == 1)) else (none)) else (some false))) else (some false))
set_option maxHeartbeats 40000000 in
set_option maxRecDepth 100000 in
theorem spec_InSet.calls (a0 : Int) (a1 : Int) (r : Bool) (w : World) (h : spec_InSet.f a0 a1 = some r) :
  Calls Try.prog 98 #[.int .i64 a0, .int .i64 a1] w fun e w' => e = .returned (.bool r) ∧ Drawn0 w w' := by
 have H := h
 clear h
 unfold spec_InSet.f at H
 replace H := bE H
 obtain ⟨t815, A3, H⟩ := H
 by_cases c4 : t815 = true
 ·subst c4
  replace H := ifT H
  replace H := bE H
  obtain ⟨t816, A5, H⟩ := H
  by_cases c6 : t816 = true
  ·subst c6
   replace H := ifT H
   replace H := ifN H
   obtain ⟨c7, H⟩ := H
   have c7b0 := eq_true c7
   have c7b1 : decide (0 ≤ a1) = true := decide_eq_true c7
   clear c7
   obtain ⟨ji8, aa⟩ : ∃ j_ : Int, (shr .i64 a0 a1) = j_ := ⟨_, rfl⟩
   (first | rw [aa] at H | simp only [aa] at H | skip)
   (try rw [aa] at A3)
   (try rw [aa] at A5)
   have hji8_ : (a0 / 2 ^ min a1.toNat 64) = ji8 := aa
   have hji8z : a1 ≤ 64 → (a0 / 2 ^ a1.toNat) = ji8 := shr_small aa
   obtain rfl := Option.some.inj H
   go_enter Try.func98, Try.ntmps98
   go_wp2_with (first | ((with_reducible refine gate_callee (f := 100) rfl ?_); refine gL (some 6) Try.func100 #[.int .i64 a0] ?_; (with_reducible refine (spec_SetOk.calls a0 true _ A3.out).mono ?_); rintro e w' ⟨rfl, ⟨nd, rfl⟩⟩; refine ⟨_, rfl, ?_⟩) | (go_at_call 80; (with_reducible refine (spec_l1In.calls a1 0 39 true _ A5.out).mono ?_); rintro e w' ⟨rfl, ⟨nd, rfl⟩⟩))
   go_ret
   exact ⟨by first | rfl | (simp; done) | (simp only [← aa] <;> (first | rfl | simp)) | (simp [*]; done), TD⟩
  ·replace c6 := Bool.eq_false_iff.mpr c6
   subst c6
   replace H := ifF H
   obtain rfl := Option.some.inj H
   go_enter Try.func98, Try.ntmps98
   go_wp2_with (first | ((with_reducible refine gate_callee (f := 100) rfl ?_); refine gL (some 6) Try.func100 #[.int .i64 a0] ?_; (with_reducible refine (spec_SetOk.calls a0 true _ A3.out).mono ?_); rintro e w' ⟨rfl, ⟨nd, rfl⟩⟩; refine ⟨_, rfl, ?_⟩) | (go_at_call 80; (with_reducible refine (spec_l1In.calls a1 0 39 false _ A5.out).mono ?_); rintro e w' ⟨rfl, ⟨nd, rfl⟩⟩))
   go_ret
   exact ⟨by first | rfl | (simp; done) | (simp [*]; done), TD⟩
 ·replace c4 := Bool.eq_false_iff.mpr c4
  subst c4
  replace H := ifF H
  obtain rfl := Option.some.inj H
  go_enter Try.func98, Try.ntmps98
  go_wp2_with (first | ((with_reducible refine gate_callee (f := 100) rfl ?_); refine gL (some 6) Try.func100 #[.int .i64 a0] ?_; (with_reducible refine (spec_SetOk.calls a0 false _ A3.out).mono ?_); rintro e w' ⟨rfl, ⟨nd, rfl⟩⟩; refine ⟨_, rfl, ?_⟩))
  go_ret
  exact ⟨by first | rfl | (simp; done) | (simp [*]; done), TD⟩

end Go.Proofs.Ytfkndpjbkndhcaa.Q
