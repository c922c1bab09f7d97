/- Functions of the program as plain Lean functions, and that a call of each comes to what its function tells. Written by a program of this seat. -/
import Derived.Test.YtnoplippaiblcaaQ0
import Derived.Test.YtnoplippaiblcaaQ1
import Derived.Test.YtnoplippaiblcaaQ2
import Derived.Test.YtnoplippaiblcaaQ11
import Derived.Test.YtnoplippaiblcaaQ23
namespace Go.Proofs.Ytnoplippaiblcaa.Q
open Go.RowKit Go.Proofs.YtnoplippaiblcaaW.PrintWords Go.Proofs.YtnoplippaiblcaaW.PrintLast Go.Proofs.YtnoplippaiblcaaW.PrintMore
attribute [local go_sem] max2_int min2_int max_two min_two max_three min_three max_four min_four   -- for this text's walks alone
set_option linter.unusedVariables false
set_option linter.unusedSimpArgs false

attribute [local go_sem high] eqA72
/-! ### spec_FindSum: function 95 -/
def spec_FindSum.l0 : Nat → List Int → Int → List Int → Int → Int → Int → Option (Int)
  | 0, _, _, _, _, _, _ => none
  | k + 1, x0, x2, x7, x8, x392000, x392001 => if x8 < (x7.length : Int) then (if 0 ≤ x8 then (if (rd x7 x8) = x392000 then (if x8 ≤ (wrap64 (x8 + x2)) then (if (wrap64 (x8 + x2)) ≤ (x0.length : Int) then ((spec_SumOf.f k ((x0.take ((wrap64 (x8 + x2)) : Int).toNat).drop (x8 : Int).toNat)).bind fun bt398 => (if (bt398.1 == x392000 && (bt398.2 == x392001)) = true then (some x8) else (spec_FindSum.l0 k x0 x2 x7 (wrap64 (x8 + 1)) x392000 x392001))) else (none)) else (none)) else (spec_FindSum.l0 k x0 x2 x7 (wrap64 (x8 + 1)) x392000 x392001)) else (none)) else (some (-1))
def spec_FindSum.f (k : Nat) (l0 : List Int) (a1_0 : Int) (a1_1 : Int) (a2 : Int) : Option (Int) := (spec_l1In.f a2 1 6).bind fun t392 => (if t392 = true then ((spec_Windows.f k l0 a2).bind fun t393 => (spec_FindSum.l0 k l0 a2 t393 0 a1_0 a1_1)) else (some (-1)))
theorem spec_FindSum.mono_l : ∀ k, (∀ y0 y1 y2 y3 y4 y5, LeO (spec_FindSum.l0 k y0 y1 y2 y3 y4 y5) (spec_FindSum.l0 (k + 1) y0 y1 y2 y3 y4 y5))
  | 0 => fun _ _ _ _ _ _ r h => by simp [spec_FindSum.l0] at h
  | k + 1 => by
    have m0_ := @spec_SumOf.mono
    have m1_ := @spec_Windows.mono
    have ih0 := spec_FindSum.mono_l k
    · intro y0 y1 y2 y3 y4 y5
      unfold spec_FindSum.l0
      exact LM
theorem spec_FindSum.mono : ∀ a0 a1 a2 a3 k, LeO (spec_FindSum.f k a0 a1 a2 a3) (spec_FindSum.f (k + 1) a0 a1 a2 a3) := by
  intro a0 a1 a2 a3 k
  have m0_ := @spec_SumOf.mono
  have m1_ := @spec_Windows.mono
  have ih0 := spec_FindSum.mono_l k
  unfold spec_FindSum.f
  exact LM
def spec_FindSum.T7 : Bool × List (List Nat × List Nat) := (true, [([], []), ([], []), ([0, 1], [0, 1]), ([2], [2]), ([], []), ([4], [4]), ([3, 5], [3, 5]), ([6], [6]), ([7], [7]), ([7], [7]), ([7], [7]), ([7], [7]), ([10, 11, 7], [7, 10, 11]), ([8, 9, 12, 7], [7, 8, 9, 12]), ([13, 7, 7], [7, 13]), ([7], [7]), ([14, 15, 7], [7, 14, 15]), ([7, 16], [7, 16])])
def spec_FindSum.B7 : List Nat := [0, 0, 3, 7, 0, 16, 63, 127, 255, 255, 255, 255, 3327, 8191, 16383, 255, 65535, 131071]
theorem spec_FindSum.tab7 : rtab .any (opsOf Try.f95 7) = spec_FindSum.T7 := by kernel_rfl
theorem spec_FindSum.bits7 : waitsOk spec_FindSum.T7.2 spec_FindSum.B7 = true := by kernel_rfl
set_option maxHeartbeats 40000000 in
set_option maxRecDepth 100000 in
theorem spec_FindSum.calls (k : Nat) (A0 : Option Addr) (c0 : Nat) (l0 : List Int) (a1_0 : Int) (a1_1 : Int) (a2 : Int) (r : Int) (w : World) (hr0 : Kd.C (Kd.int .u8) w A0 l0.length l0) (hc0 : l0.length ≤ c0) (h : spec_FindSum.f k l0 a1_0 a1_1 a2 = some r) :
    Calls Try.prog 95 #[.slice A0 l0.length c0, .agg #[.int .i64 a1_0, .int .i64 a1_1], .int .i64 a2] w fun e w' => e = .returned (.int .i64 r) ∧ Below w.heap.size w w' := by
  have hu72 := Try.underlying72
  have HR0 := aM hr0
  have HC0 := aM hc0
  clear hr0 hc0
  have HB := aM (Below.refl w.heap.size w)
  have H := h
  clear h
  unfold spec_FindSum.f at H
  replace H := bE H
  obtain ⟨t392, A4, H⟩ := H
  go_enter Try.func95, Try.ntmps95
  go_wp2_with (first | ((with_reducible refine gate_dst (N := 4) rfl ?_); refine gBx 4 #[.int .i64 a1_0, .int .i64 a1_1] 72 ?_; intro gb391 hg w6 hbox hb; have BK391 := aM (hbox); have GW391 := aM ((by rw [hg]; exact (below_size TB) : w.heap.size ≤ gb391)); have GE391 := aM ((by rw [hg]; exact (below_size TB) : w.heap.size ≤ gb391)); replace HB := aM (below_step TB hb); clear hb hbox hg) | ((with_reducible refine gate_callee (f := 79) rfl ?_); (with_reducible refine gate_dst (N := 10) rfl ?_); generalize hG_ : wpList _ _ _ _ _ _ = G_))
  subst hG_
  by_cases c7 : t392 = true
  · subst c7
    replace H := ifT H
    replace H := bE H
    obtain ⟨t393, A8, H⟩ := H
    have H' := aM H
    clear H
    go_wp2_with (first | ((with_reducible refine gate_callee (f := 79) rfl ?_); refine gL (some 10) Try.func79 #[.int .i64 a2, .int .i64 1, .int .i64 6] ?_; (with_reducible refine (spec_l1In.calls a2 1 6 true _ A4.out).mono ?_); rintro e w' ⟨rfl, ⟨nd, rfl⟩⟩; refine ⟨_, rfl, ?_⟩) | ((with_reducible refine gate_callee (f := 100) rfl ?_); refine gL (some 14) Try.func100 #[.slice A0 l0.length c0, .int .i64 a2] ?_; (with_reducible refine (spec_Windows.calls k _ _ l0 a2 t393 _ ?side1 ?side2 A8.out).mono ?_); (case side1 => repeat (first | exact (Kd.C_below HR0.out TB) | (with_reducible refine Kd.C_alloc ?_ _) | (with_reducible refine Kd.C_drewN ?_ _) | (with_reducible refine Kd.C_drew ?_))); (case side2 => exact HC0.out); rintro e w9 ⟨v394, rfl, ho0, hb⟩; refine ⟨_, rfl, ?_⟩; have HO395 := aM (Kd.R_lower ho0 (below_size TB)); replace BK391 := aM (blk_below (g := gb391) (o := .cells #[.int .i64 a1_0, .int .i64 a1_1] 72 (0, 0)) TK hb); replace HB := aM (below_step TB hb); clear ho0 hb))
    go_loopg [8] k (fun kq v8 w' => ∃ (x8_1 : Int), v8 = .int .i64 x8_1 ∧ Aside0 (spec_FindSum.l0 kq l0 a2 t393 x8_1 a1_0 a1_1 = some r) ∧ Aside0 (kq ≤ k) ∧ Aside0 (Kd.R (Kd.int .i64) 3 w' w.heap.size (fun _ => True) v394 t393) ∧ Aside0 (w'.heap[gb391]? = some (.cells #[.int .i64 a1_0, .int .i64 a1_1] 72 (0, 0))) ∧ Aside0 (Below w.heap.size w w'))
    case atStart => exact ⟨(0), (by first | rfl | (simp; done) | (simp [*]; done)), H', ⟨Nat.le_refl _⟩, ⟨by have X_ := HO395.out; exact TR⟩, ⟨TK⟩, ⟨TB⟩⟩
    case round =>
      clear H'
      try clear c1
      try clear p2
      try clear c7
      try clear c9
      obtain ⟨x8_1, rfl, HA, HK1, HO_7, BK391, HB⟩ := hrel
      cases gk with
      | zero => exact absurd HA.out (by simp [spec_FindSum.l0])
      | succ k1 =>
        have H := HA.out
        clear HA
        simp only [spec_FindSum.l0] at H
        by_cases c10 : x8_1 < (t393.length : Int)
        · rw [if_pos c10] at H
          have c10b0 : decide (x8_1 < (t393.length : Int)) = true := decide_eq_true c10
          clear c10
          replace H := ifN H
          obtain ⟨c11, H⟩ := H
          have c11b0 : decide (0 ≤ x8_1) = true := decide_eq_true c11
          clear c11
          by_cases c12 : (rd t393 x8_1) = a1_0
          · rw [if_pos c12] at H
            have c12b0 : ((rd t393 x8_1) == a1_0) = true := beq_iff_eq.mpr c12
            have c12b1 : ((rd t393 x8_1) != a1_0) = false := bne_eq_false_iff_eq.mpr c12
            clear c12
            have c13b0 := eq_true (DT : 0 ≤ x8_1)
            replace H := ifN H
            obtain ⟨c14, H⟩ := H
            have c14b0 := eq_true c14
            have c14b1 : decide (x8_1 ≤ (wrap64 (x8_1 + a2))) = true := decide_eq_true c14
            replace H := ifN H
            obtain ⟨c15, H⟩ := H
            have c15b0 := eq_true c15
            have c15b1 : decide ((wrap64 (x8_1 + a2)) ≤ (l0.length : Int)) = true := decide_eq_true c15
            replace H := bE H
            obtain ⟨⟨t398, t399⟩, A16, H⟩ := H
            dsimp only at H
            by_cases c17 : (t398 == a1_0 && (t399 == a1_1)) = true
            · rw [if_pos c17] at H
              have c17b0 : (t398 == a1_0 && (t399 == a1_1)) = true := c17
              (try (have c17b1 : decide (t398 = a1_0 && (t399 == a1_1)) = true := by simpa using c17))
              (try (have c17b2 : (t398 == a1_0 && (t399 == a1_1)) = true := by simpa using c17))
              clear c17
              obtain rfl := Option.some.inj H
              obtain ⟨Ao18, co18, eo18⟩ := Kd.R_slice HO_7.out
              subst eo18
              try go_wp2
              (try (rw [drewN_self wr]; generalize hq_ : World.drewN wr _ = wr; have n0_ : Aside0 (Kd.R (Kd.int .i64) 3 wr w.heap.size (fun _ => True) (.slice Ao18 t393.length co18) t393) := ⟨by rw [← hq_]; exact (by have X_ := HO_7.out; exact TR)⟩; have n1_ : Aside0 (wr.heap[gb391]? = some (.cells #[.int .i64 a1_0, .int .i64 a1_1] 72 (0, 0))) := ⟨by rw [← hq_]; exact TK⟩; have n2_ : Aside0 (Below w.heap.size w wr) := ⟨by rw [← hq_]; exact TB⟩; clear HO_7 BK391 HB hq_; have HO_7 := n0_; have BK391 := n1_; have HB := n2_; clear n0_ n1_ n2_))
              replace HO_7 := aM (Kd.R_drew HO_7.out)
              replace BK391 := aM (blk_drew BK391.out)
              replace HB := aM (below_drew1 HB.out)
              have p396 : 0 ≤ (x8_1 : Int) := DT
              have q396 : x8_1 < (t393.length : Int) := DT
              obtain ⟨ad396, e396, hx396_0⟩ := Kd.at_int (Kd.R_reads' HO_7.out).2.2 x8_1 p396 q396
              cases e396
              replace p396 := eq_true p396
              replace q396 := eq_true q396
              obtain ⟨i020, hi020, _, hsz20, _⟩ := info_parts info5
              obtain ⟨A20, hcut20, hA20, hC20⟩ := print_mid_of (P := Try.prog) (Value.int .u8) 0 25 5 .i64 .i64 Try.underlying25 hi020 hsz20 A0 c0 l0 x8_1 (wrap64 (x8_1 + a2)) DT (by first | omega | exact DT) DT HC0.out
              have HR397 := aM (Kd.C_of_reads (h1 := fun _ => rfl) (hA20 _ (Kd.reads_of_C HR0.out)))
              have HC397 := aM hC20
              clear hA20 hC20 hi020 hsz20
              refine start_ (n := 18) (S := fun w' => w'.cell? ⟨gb391, 0, none⟩ = some (.int .i64 a1_0) ∧ w'.cell? ⟨gb391, 1, none⟩ = some (.int .i64 a1_1) ∧ w'.cell? (ad396.add (x8_1).toNat) = some (.int .i64 (rd t393 x8_1))) (ds := []) (Array.replicate 18 false) (by kernel_rfl) rfl rfl ⟨(blk_cell BK391.out 0).trans rfl, (blk_cell BK391.out 1).trans rfl, hx396_0⟩ (fun hHeld => ?_); refine with_tabW spec_FindSum.tab7 spec_FindSum.bits7 (fun HT_ HW_ => ?_)
              generalize wr.drew = w19 at HO_7 BK391 HB HR397 hx396_0 hHeld ⊢
              refine pP 0 (some 21) ?_
              refine pP 1 (some 22) ?_
              refine pP 2 (some 23) ?_
              refine pP 4 (some 25) ?_
              refine pT 3 (some 24) ?_
              refine pT 5 (some 26) ?_
              refine pP 6 (some 27) ?_
              refine pP 7 (some 28) ?_
              refine pP 8 (some 29) ?_
              refine pP 9 (some 30) ?_
              refine pP 10 (some 31) ?_
              refine pP 11 (some 32) ?_
              refine pP 12 (some 33) ?_
              refine pP 13 (some 34) ?_
              refine pT 15 (some 36) ?_
              refine pO 14 (some 35) (fun K hK => ?_)
              refine goes_ Try.func59 (by kernel_rfl) rfl #[.slice A20 ((l0.take ((wrap64 (x8_1 + a2)) : Int).toNat).drop (x8_1 : Int).toNat).length (c0 - x8_1.toNat)] (by rfl) rfl rfl (by (try simp only [List.map_toArray, List.map_cons, List.map_nil]); first | done | (rw [show ((l0.take ((wrap64 (x8_1 + a2)) : Int).toNat).drop (x8_1 : Int).toNat).length = ((wrap64 (x8_1 + a2)).toNat - x8_1.toNat) from (by rw [List.length_drop, List.length_take]; have h_ : ((wrap64 (x8_1 + a2)) : Int) ≤ (l0.length : Int) := DT; omega)] <;> rfl) | rfl | (simp only [List.length_drop, List.length_take]; rfl)) ?_
              with_reducible refine (spec_SumOf.calls k1 _ _ ((l0.take ((wrap64 (x8_1 + a2)) : Int).toNat).drop (x8_1 : Int).toNat) t398 t399 _ ?side1 ?side2 A16.out).mono ?_
              (case side1 => have X_ := (Kd.C_below HR397.out HB.out); exact TC)
              (case side2 => exact HC397.out)
              rintro e w21 ⟨rfl, hb⟩
              have HS2_ := (hb.cell (World.block_lt_of_cell? _ _ (hHeld.2.2))).trans (hHeld.2.2)
              refine ⟨_, rfl, ?_⟩
              have n0_ := aM (Kd.R_below (by have X_ := HO_7.out; exact TR) hb)
              have n1_ := aM (blk_below (g := gb391) (o := .cells #[.int .i64 a1_0, .int .i64 a1_1] 72 (0, 0)) TK hb)
              have n2_ := aM (below_step TB hb)
              clear HO_7
              clear BK391
              clear HB
              have HO_7 := n0_
              have BK391 := n1_
              have HB := n2_
              clear n0_ n1_ n2_
              (try clear hb)
              (try clear hb2)
              (try clear hk)
              (try clear hi)
              refine hK.out _ _ ⟨(blk_cell BK391.out 0).trans rfl, (blk_cell BK391.out 1).trans rfl, HS2_⟩ (fun hHeld => ?_)
              clear hK K
              refine nR ?_
              refine pP 16 (some 37) ?_
              refine pP 17 (some 38) ?_
              refine done_ (done_of HT_.out (by kernel_rfl)) ?_
              try go_wp2
              go_ret
              exact ⟨by first | rfl | (simp [errW_none, errW_some] <;> rfl) | (simp [*, errW_none, errW_some] <;> rfl), TB⟩
            · rw [if_neg c17] at H
              have c17b0 : (t398 == a1_0 && (t399 == a1_1)) = false := by simpa using c17
              (try (have c17b1 : decide (t398 = a1_0 && (t399 == a1_1)) = false := by simpa using c17))
              (try (have c17b2 : (t398 == a1_0 && (t399 == a1_1)) = false := by simpa using c17))
              (try (have c17b3 : ¬ (t398 = a1_0 && (t399 == a1_1)) := by simpa using c17))
              clear c17
              have H' := aM H
              clear H
              obtain ⟨Ao22, co22, eo22⟩ := Kd.R_slice HO_7.out
              subst eo22
              try go_wp2
              (try (rw [drewN_self wr]; generalize hq_ : World.drewN wr _ = wr; have n0_ : Aside0 (Kd.R (Kd.int .i64) 3 wr w.heap.size (fun _ => True) (.slice Ao22 t393.length co22) t393) := ⟨by rw [← hq_]; exact (by have X_ := HO_7.out; exact TR)⟩; have n1_ : Aside0 (wr.heap[gb391]? = some (.cells #[.int .i64 a1_0, .int .i64 a1_1] 72 (0, 0))) := ⟨by rw [← hq_]; exact TK⟩; have n2_ : Aside0 (Below w.heap.size w wr) := ⟨by rw [← hq_]; exact TB⟩; clear HO_7 BK391 HB hq_; have HO_7 := n0_; have BK391 := n1_; have HB := n2_; clear n0_ n1_ n2_))
              replace HO_7 := aM (Kd.R_drew HO_7.out)
              replace BK391 := aM (blk_drew BK391.out)
              replace HB := aM (below_drew1 HB.out)
              have p396 : 0 ≤ (x8_1 : Int) := DT
              have q396 : x8_1 < (t393.length : Int) := DT
              obtain ⟨ad396, e396, hx396_0⟩ := Kd.at_int (Kd.R_reads' HO_7.out).2.2 x8_1 p396 q396
              cases e396
              replace p396 := eq_true p396
              replace q396 := eq_true q396
              obtain ⟨i024, hi024, _, hsz24, _⟩ := info_parts info5
              obtain ⟨A24, hcut24, hA24, hC24⟩ := print_mid_of (P := Try.prog) (Value.int .u8) 0 25 5 .i64 .i64 Try.underlying25 hi024 hsz24 A0 c0 l0 x8_1 (wrap64 (x8_1 + a2)) DT (by first | omega | exact DT) DT HC0.out
              have HR397 := aM (Kd.C_of_reads (h1 := fun _ => rfl) (hA24 _ (Kd.reads_of_C HR0.out)))
              have HC397 := aM hC24
              clear hA24 hC24 hi024 hsz24
              refine start_ (n := 18) (S := fun w' => w'.cell? ⟨gb391, 0, none⟩ = some (.int .i64 a1_0) ∧ w'.cell? ⟨gb391, 1, none⟩ = some (.int .i64 a1_1) ∧ w'.cell? (ad396.add (x8_1).toNat) = some (.int .i64 (rd t393 x8_1))) (ds := []) (Array.replicate 18 false) (by kernel_rfl) rfl rfl ⟨(blk_cell BK391.out 0).trans rfl, (blk_cell BK391.out 1).trans rfl, hx396_0⟩ (fun hHeld => ?_); refine with_tabW spec_FindSum.tab7 spec_FindSum.bits7 (fun HT_ HW_ => ?_)
              generalize wr.drew = w23 at HO_7 BK391 HB HR397 hx396_0 hHeld ⊢
              refine pP 0 (some 21) ?_
              refine pP 1 (some 22) ?_
              refine pP 2 (some 23) ?_
              refine pP 4 (some 25) ?_
              refine pT 3 (some 24) ?_
              refine pT 5 (some 26) ?_
              refine pP 6 (some 27) ?_
              refine pP 7 (some 28) ?_
              refine pP 8 (some 29) ?_
              refine pP 9 (some 30) ?_
              refine pP 10 (some 31) ?_
              refine pP 11 (some 32) ?_
              refine pP 12 (some 33) ?_
              refine pP 13 (some 34) ?_
              refine pT 15 (some 36) ?_
              refine pO 14 (some 35) (fun K hK => ?_)
              refine goes_ Try.func59 (by kernel_rfl) rfl #[.slice A24 ((l0.take ((wrap64 (x8_1 + a2)) : Int).toNat).drop (x8_1 : Int).toNat).length (c0 - x8_1.toNat)] (by rfl) rfl rfl (by (try simp only [List.map_toArray, List.map_cons, List.map_nil]); first | done | (rw [show ((l0.take ((wrap64 (x8_1 + a2)) : Int).toNat).drop (x8_1 : Int).toNat).length = ((wrap64 (x8_1 + a2)).toNat - x8_1.toNat) from (by rw [List.length_drop, List.length_take]; have h_ : ((wrap64 (x8_1 + a2)) : Int) ≤ (l0.length : Int) := DT; omega)] <;> rfl) | rfl | (simp only [List.length_drop, List.length_take]; rfl)) ?_
              with_reducible refine (spec_SumOf.calls k1 _ _ ((l0.take ((wrap64 (x8_1 + a2)) : Int).toNat).drop (x8_1 : Int).toNat) t398 t399 _ ?side1 ?side2 A16.out).mono ?_
              (case side1 => have X_ := (Kd.C_below HR397.out HB.out); exact TC)
              (case side2 => exact HC397.out)
              rintro e w25 ⟨rfl, hb⟩
              have HS2_ := (hb.cell (World.block_lt_of_cell? _ _ (hHeld.2.2))).trans (hHeld.2.2)
              refine ⟨_, rfl, ?_⟩
              have n0_ := aM (Kd.R_below (by have X_ := HO_7.out; exact TR) hb)
              have n1_ := aM (blk_below (g := gb391) (o := .cells #[.int .i64 a1_0, .int .i64 a1_1] 72 (0, 0)) TK hb)
              have n2_ := aM (below_step TB hb)
              clear HO_7
              clear BK391
              clear HB
              have HO_7 := n0_
              have BK391 := n1_
              have HB := n2_
              clear n0_ n1_ n2_
              (try clear hb)
              (try clear hb2)
              (try clear hk)
              (try clear hi)
              refine hK.out _ _ ⟨(blk_cell BK391.out 0).trans rfl, (blk_cell BK391.out 1).trans rfl, HS2_⟩ (fun hHeld => ?_)
              clear hK K
              refine nR ?_
              refine pP 16 (some 37) ?_
              refine pP 17 (some 38) ?_
              refine done_ (done_of HT_.out (by kernel_rfl)) ?_
              try go_wp2
              go_roundg k1
              case measure => have := HK1.out; omega
              case rel => exact ⟨(wrap64 (x8_1 + 1)), (by first | rfl | (simp; done) | (simp [*]; done)), H', ⟨by have := HK1.out; omega⟩, ⟨by have X_ := HO_7.out; exact TR⟩, ⟨TK⟩, ⟨TB⟩⟩
          · rw [if_neg c12] at H
            have c12b0 : ((rd t393 x8_1) == a1_0) = false := beq_eq_false_iff_ne.mpr c12
            have c12b1 : ((rd t393 x8_1) != a1_0) = true := bne_iff_ne.mpr c12
            have H' := aM H
            clear H
            obtain ⟨Ao26, co26, eo26⟩ := Kd.R_slice HO_7.out
            subst eo26
            try go_wp2
            (try (rw [drewN_self wr]; generalize hq_ : World.drewN wr _ = wr; have n0_ : Aside0 (Kd.R (Kd.int .i64) 3 wr w.heap.size (fun _ => True) (.slice Ao26 t393.length co26) t393) := ⟨by rw [← hq_]; exact (by have X_ := HO_7.out; exact TR)⟩; have n1_ : Aside0 (wr.heap[gb391]? = some (.cells #[.int .i64 a1_0, .int .i64 a1_1] 72 (0, 0))) := ⟨by rw [← hq_]; exact TK⟩; have n2_ : Aside0 (Below w.heap.size w wr) := ⟨by rw [← hq_]; exact TB⟩; clear HO_7 BK391 HB hq_; have HO_7 := n0_; have BK391 := n1_; have HB := n2_; clear n0_ n1_ n2_))
            replace HO_7 := aM (Kd.R_drew HO_7.out)
            replace BK391 := aM (blk_drew BK391.out)
            replace HB := aM (below_drew1 HB.out)
            have p396 : 0 ≤ (x8_1 : Int) := DT
            have q396 : x8_1 < (t393.length : Int) := DT
            obtain ⟨ad396, e396, hx396_0⟩ := Kd.at_int (Kd.R_reads' HO_7.out).2.2 x8_1 p396 q396
            cases e396
            replace p396 := eq_true p396
            replace q396 := eq_true q396
            refine start_ (n := 18) (S := fun w' => w'.cell? ⟨gb391, 0, none⟩ = some (.int .i64 a1_0) ∧ w'.cell? ⟨gb391, 1, none⟩ = some (.int .i64 a1_1) ∧ w'.cell? (ad396.add (x8_1).toNat) = some (.int .i64 (rd t393 x8_1))) (ds := []) (Array.replicate 18 false) (by kernel_rfl) rfl rfl ⟨(blk_cell BK391.out 0).trans rfl, (blk_cell BK391.out 1).trans rfl, hx396_0⟩ (fun hHeld => ?_); refine with_tabW spec_FindSum.tab7 spec_FindSum.bits7 (fun HT_ HW_ => ?_)
            generalize wr.drew = w27 at HO_7 BK391 HB hx396_0 hHeld ⊢
            refine pP 0 (some 21) ?_
            refine pP 1 (some 22) ?_
            refine pP 2 (some 23) ?_
            refine pP 4 (some 25) ?_
            refine pT 3 (some 24) ?_
            refine pT 5 (some 26) ?_
            refine pP 6 (some 27) ?_
            refine pP 7 (some 28) ?_
            refine pX 8 (some 29) ?_
            refine pX 9 (some 30) ?_
            refine pX 10 (some 31) ?_
            refine pX 11 (some 32) ?_
            refine pX 12 (some 33) ?_
            refine pX 13 (some 34) ?_
            refine pX 14 (some 35) ?_
            refine pX 15 (some 36) ?_
            refine pX 16 (some 37) ?_
            refine pP 17 (some 38) ?_
            refine done_ (done_of HT_.out (by kernel_rfl)) ?_
            try go_wp2
            go_roundg k1
            case measure => have := HK1.out; omega
            case rel => exact ⟨(wrap64 (x8_1 + 1)), (by first | rfl | (simp; done) | (simp [*]; done)), H', ⟨by have := HK1.out; omega⟩, ⟨by have X_ := HO_7.out; exact TR⟩, ⟨TK⟩, ⟨TB⟩⟩
        · rw [if_neg c10] at H
          have c10b0 : decide (x8_1 < (t393.length : Int)) = false := decide_eq_false c10
          clear c10
          obtain rfl := Option.some.inj H
          obtain ⟨Ao28, co28, eo28⟩ := Kd.R_slice HO_7.out
          subst eo28
          go_wp2
          go_ret
          exact ⟨by first | rfl | (simp [errW_none, errW_some] <;> rfl) | (simp [*, errW_none, errW_some] <;> rfl), TB⟩
  · replace c7 := Bool.eq_false_iff.mpr c7
    subst c7
    replace H := ifF H
    obtain rfl := Option.some.inj H
    go_wp2_with (first | ((with_reducible refine gate_callee (f := 79) rfl ?_); refine gL (some 10) Try.func79 #[.int .i64 a2, .int .i64 1, .int .i64 6] ?_; (with_reducible refine (spec_l1In.calls a2 1 6 false _ A4.out).mono ?_); rintro e w' ⟨rfl, ⟨nd, rfl⟩⟩; refine ⟨_, rfl, ?_⟩))
    go_ret
    exact ⟨by first | rfl | (simp [errW_none, errW_some] <;> rfl) | (simp [*, errW_none, errW_some] <;> rfl), TB⟩

/-! ### spec_PlaceOf: function 73 -/
def spec_PlaceOf.f (k : Nat) (l0 : List Int) (a1_0 : Int) (a1_1 : Int) (a1_2 : Int) (l1_3 : List (S72)) (a2 : Int) : Option (Int) := (spec_SpanOf.f a1_1 a1_2 a2).bind fun bt401 => (if bt401.2 = 0 then (some (-1)) else (if a2 ≥ (l1_3.length : Int) then (some (-1)) else (if 0 ≤ a2 then (if a2 < (l1_3.length : Int) then ((spec_FindSum.f k l0 ((rd_T72 l1_3 a2).f0) ((rd_T72 l1_3 a2).f1) bt401.2).bind fun t404 => (some t404)) else (none)) else (none))))
theorem spec_PlaceOf.mono : ∀ a0 a1 a2 a3 a4 a5 k, LeO (spec_PlaceOf.f k a0 a1 a2 a3 a4 a5) (spec_PlaceOf.f (k + 1) a0 a1 a2 a3 a4 a5) := by
  intro a0 a1 a2 a3 a4 a5 k
  have m0_ := @spec_FindSum.mono
  unfold spec_PlaceOf.f
  exact LM
set_option maxHeartbeats 40000000 in
set_option maxRecDepth 100000 in
theorem spec_PlaceOf.calls (k : Nat) (A0 : Option Addr) (c0 : Nat) (l0 : List Int) (ag : Int) (ad : Int) (ac : Int) (af : Option Addr) (ae : Nat) (aa : List (S72)) (a2 : Int) (r : Int) (w : World) (hr0 : Kd.C (Kd.int .u8) w A0 l0.length l0) (hc0 : l0.length ≤ c0) (ai : Kd.C k72 w af aa.length aa) (ak : aa.length ≤ ae) (h : spec_PlaceOf.f k l0 ag ad ac aa a2 = some r) :
  Calls Try.prog 73 #[.slice A0 l0.length c0, .agg #[.int .i64 ag, .int .i64 ad, .int .i64 ac, .slice af aa.length ae], .int .i64 a2] w fun e w' => e = .returned (.int .i64 r) ∧ Below w.heap.size w w' := by
 have hu33 := Try.underlying33
 have hu72 := Try.underlying72
 have HR0 := aM hr0
 have HC0 := aM hc0
 clear hr0 hc0
 have HR1_3 := aM ai
 have HC1_3 := aM ak
 clear ai ak
 have HB := aM (Below.refl w.heap.size w)
 have H := h
 clear h
 unfold spec_PlaceOf.f at H
 replace H := bE H
 obtain ⟨⟨ah, ab⟩, A4, H⟩ := H
 dsimp only at H
 go_enter Try.func73, Try.ntmps73
 go_wp2_with (first | ((with_reducible refine gate_dst (N := 4) rfl ?_); (try (refine gate_guard (by rfl) ?_; dsimp only)); refine gBx 4 #[.int .i64 ag, .int .i64 ad, .int .i64 ac, .slice af aa.length ae] 33 ?_; intro aj hg w5 hbox hb; have BK400 := aM (hbox); have GW400 := aM ((by rw [hg]; exact (below_size TB) : w.heap.size ≤ aj)); have GE400 := aM ((by rw [hg]; exact (below_size TB) : w.heap.size ≤ aj)); replace HB := aM (below_step TB hb); clear hb hbox hg; obtain ⟨hcz6_0, hcz6_1, hcz6_2, hcz6_3⟩ := cz4 BK400.out; obtain ⟨hfz6_0, hfz6_1, hfz6_2, hfz6_3⟩ := fz4 BK400.out) | ((with_reducible refine gate_callee (f := 53) rfl ?_); (with_reducible refine gate_dst (N := 15) rfl ?_); generalize hG_ : wpList _ _ _ _ _ _ = G_))
 subst hG_
 by_cases c7 : ab = 0
 ·rw [if_pos c7] at H
  have c7b0 : (ab == 0) = true := beq_iff_eq.mpr c7
  have c7b1 : (ab != 0) = false := bne_eq_false_iff_eq.mpr c7
  clear c7
  obtain rfl := Option.some.inj H
  go_wp2_with (first | ((with_reducible refine gate_callee (f := 53) rfl ?_); refine gL (some 15) Try.func53 #[.int .i64 ad, .int .i64 ac, .int .i64 a2] ?_; (with_reducible refine (spec_SpanOf.calls ad ac a2 ah ab _ A4.out).mono ?_); rintro e w' ⟨rfl, ⟨nd, rfl⟩⟩; refine ⟨_, rfl, ?_⟩))
  go_ret
  exact ⟨by first | rfl | (simp [errW_none, errW_some] <;> rfl) | (simp [*, errW_none, errW_some] <;> rfl), TB⟩
 ·rw [if_neg c7] at H
  have c7b0 : (ab == 0) = false := beq_eq_false_iff_ne.mpr c7
  have c7b1 : (ab != 0) = true := bne_iff_ne.mpr c7
  by_cases c8 : a2 ≥ (aa.length : Int)
  ·rw [if_pos c8] at H
   have c8b0 : decide ((aa.length : Int) ≤ a2) = true := decide_eq_true c8
   clear c8
   obtain rfl := Option.some.inj H
   go_wp2_with (first | ((with_reducible refine gate_callee (f := 53) rfl ?_); refine gL (some 15) Try.func53 #[.int .i64 ad, .int .i64 ac, .int .i64 a2] ?_; (with_reducible refine (spec_SpanOf.calls ad ac a2 ah ab _ A4.out).mono ?_); rintro e w' ⟨rfl, ⟨nd, rfl⟩⟩; refine ⟨_, rfl, ?_⟩; obtain ⟨hcz9_0, hcz9_1, hcz9_2, hcz9_3⟩ := cz4 BK400.out; obtain ⟨hfz9_0, hfz9_1, hfz9_2, hfz9_3⟩ := fz4 BK400.out))
   go_ret
   exact ⟨by first | rfl | (simp [errW_none, errW_some] <;> rfl) | (simp [*, errW_none, errW_some] <;> rfl), TB⟩
  ·rw [if_neg c8] at H
   have c8b0 : decide ((aa.length : Int) ≤ a2) = false := decide_eq_false c8
   clear c8
   replace H := ifN H
   obtain ⟨c10, H⟩ := H
   have c10b0 : decide (0 ≤ a2) = true := decide_eq_true c10
   clear c10
   replace H := ifN H
   obtain ⟨c11, H⟩ := H
   have c11b0 : decide (a2 < (aa.length : Int)) = true := decide_eq_true c11
   clear c11
   replace H := bE H
   obtain ⟨t404, A12, H⟩ := H
   obtain rfl := Option.some.inj H
   go_wp2_with (first | ((with_reducible refine gate_callee (f := 53) rfl ?_); refine gL (some 15) Try.func53 #[.int .i64 ad, .int .i64 ac, .int .i64 a2] ?_; (with_reducible refine (spec_SpanOf.calls ad ac a2 ah ab _ A4.out).mono ?_); rintro e w' ⟨rfl, ⟨nd, rfl⟩⟩; refine ⟨_, rfl, ?_⟩; obtain ⟨hcz13_0, hcz13_1, hcz13_2, hcz13_3⟩ := cz4 BK400.out; obtain ⟨hfz13_0, hfz13_1, hfz13_2, hfz13_3⟩ := fz4 BK400.out; have p403 : 0 ≤ (a2 : Int) := DT; have q403 : a2 < (aa.length : Int) := DT; obtain ⟨ad403, e403, hx403_0, hx403_1⟩ := at_T72 HR1_3.out a2 p403 q403; cases e403; replace hx403_0 := (HB.out.cell (World.block_lt_of_cell? w _ hx403_0)).trans hx403_0; replace hx403_1 := (HB.out.cell (World.block_lt_of_cell? w _ hx403_1)).trans hx403_1; replace p403 := eq_true p403; replace q403 := eq_true q403) | ((with_reducible refine gate_callee (f := 95) rfl ?_); refine gL (some 34) Try.func95 #[.slice A0 l0.length c0, .agg #[.int .i64 ((rd_T72 aa a2).f0), .int .i64 ((rd_T72 aa a2).f1)], .int .i64 ab] ?_; (with_reducible refine (spec_FindSum.calls k _ _ l0 ((rd_T72 aa a2).f0) ((rd_T72 aa a2).f1) ab t404 _ ?side1 ?side2 A12.out).mono ?_); (case side1 => repeat (first | exact (Kd.C_below HR0.out TB) | (with_reducible refine Kd.C_alloc ?_ _) | (with_reducible refine Kd.C_drewN ?_ _) | (with_reducible refine Kd.C_drew ?_))); (case side2 => exact HC0.out); rintro e w14 ⟨rfl, hb⟩; refine ⟨_, rfl, ?_⟩; replace BK400 := aM (blk_below (by have X_ := BK400.out; exact TX) hb); replace HB := aM (below_step TB hb); clear hb))
   go_ret
   exact ⟨by first | rfl | (simp [errW_none, errW_some] <;> rfl) | (simp [*, errW_none, errW_some] <;> rfl), TB⟩

end Go.Proofs.Ytnoplippaiblcaa.Q
