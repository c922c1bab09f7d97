/- Functions of the program as plain Lean functions, and that a call of each comes to what its function tells. Written by a program of this seat. -/
import Derived.Test.YtlghklbjmmijpaaQ0
import Derived.Test.YtlghklbjmmijpaaQ5
import Derived.Test.YtlghklbjmmijpaaQ18
namespace Go.Proofs.Ytlghklbjmmijpaa.Q
open Go.RowKit Go.Proofs.YtlghklbjmmijpaaW.PrintWords Go.Proofs.YtlghklbjmmijpaaW.PrintLast Go.Proofs.YtlghklbjmmijpaaW.PrintMore
attribute [local go_sem] max2_int min2_int max_two min_two max_three min_three max_four min_four   -- for this text's walks alone
set_option linter.unusedVariables false
set_option linter.unusedSimpArgs false

/-! ### impl_Recover: function 129 -/
def impl_Recover.f (k : Nat) (l0_0 : List Int) (l0_1 : List Int) (a0_2 : Int) (a0_3 : Int) (a0_4 : Int) (l0_5 : List (S110)) : Option (Int × List Int) := (impl_DiskOk.f k l0_0 l0_1 a0_2 a0_3 a0_4 l0_5).bind fun t318 => (if t318 = true then (if a0_3 = 0 then ((impl_Disk_slot.f a0_3 0).bind fun _ => (if 0 ≤ a0_4 then (if a0_4 ≤ (l0_0.length : Int) then ((impl_cloned.f (l0_0.take (a0_4 : Int).toNat)).bind fun t320 => (some (a0_2, t320))) else (none)) else (none))) else ((impl_Disk_slot.f a0_3 1).bind fun _ => (if 0 ≤ a0_4 then (if a0_4 ≤ (l0_1.length : Int) then ((impl_cloned.f (l0_1.take (a0_4 : Int).toNat)).bind fun t324 => (some (a0_2, t324))) else (none)) else (none)))) else (some (0, ([] : List Int))))
theorem impl_Recover.mono : ∀ a0 a1 a2 a3 a4 a5 k, LeO (impl_Recover.f k a0 a1 a2 a3 a4 a5) (impl_Recover.f (k + 1) a0 a1 a2 a3 a4 a5) := by
  intro a0 a1 a2 a3 a4 a5 k
  have m0_ := @impl_DiskOk.mono
  unfold impl_Recover.f
  exact LM
def impl_Recover.T3 : Bool × List (List Nat × List Nat) := (true, [([], []), ([0], [0]), ([1], [1]), ([], []), ([3], [3]), ([4], [4]), ([5], [5]), ([6], [6]), ([7], [7]), ([], []), ([9], [9]), ([10], [10]), ([8, 11], [8, 11]), ([12, 6], [12]), ([2, 13, 0, 1, 2], [2]), ([13, 14, 0, 1, 2, 3, 4, 5, 6, 7, 8, 9, 10, 11, 12, 13, 14], [13])])
def impl_Recover.B3 : List Nat := [0, 1, 3, 0, 8, 24, 56, 120, 248, 0, 512, 1536, 4088, 8184, 16383, 32767]
theorem impl_Recover.tab3 : rtab .any (opsOf Try.f129 3) = impl_Recover.T3 := by kernel_rfl
theorem impl_Recover.bits3 : waitsOk impl_Recover.T3.2 impl_Recover.B3 = true := by kernel_rfl
set_option maxHeartbeats 40000000 in
set_option maxRecDepth 100000 in
theorem impl_Recover.calls (k : Nat) (A0_0 : Option Addr) (c0_0 : Nat) (l0_0 : List Int) (A0_1 : Option Addr) (c0_1 : Nat) (l0_1 : List Int) (a0_2 : Int) (a0_3 : Int) (a0_4 : Int) (A0_5 : Option Addr) (c0_5 : Nat) (l0_5 : List (S110)) (r1 : Int) (r2 : List Int) (w : World) (hr0_0 : Kd.C (Kd.int .u8) w A0_0 l0_0.length l0_0) (hc0_0 : l0_0.length ≤ c0_0) (hr0_1 : Kd.C (Kd.int .u8) w A0_1 l0_1.length l0_1) (hc0_1 : l0_1.length ≤ c0_1) (hr0_5 : Kd.C k110 w A0_5 l0_5.length l0_5) (hc0_5 : l0_5.length ≤ c0_5) (h : impl_Recover.f k l0_0 l0_1 a0_2 a0_3 a0_4 l0_5 = some (r1, r2)) :
    Calls Try.prog 129 #[.agg #[.slice A0_0 l0_0.length c0_0, .slice A0_1 l0_1.length c0_1, .int .i64 a0_2, .int .i64 a0_3, .int .i64 a0_4, .slice A0_5 l0_5.length c0_5]] w fun e w' => ∃ v1_ : Value, e = .returned (.tuple #[.int .i64 r1, v1_]) ∧ Kd.R (Kd.int .u8) 5 w' w.heap.size (fun _ => True) v1_ r2 ∧ Below w.heap.size w w' := by
  have hu33 := Try.underlying33
  have HR0_0 := aM hr0_0
  have HC0_0 := aM hc0_0
  clear hr0_0 hc0_0
  have HR0_1 := aM hr0_1
  have HC0_1 := aM hc0_1
  clear hr0_1 hc0_1
  have HR0_5 := aM hr0_5
  have HC0_5 := aM hc0_5
  clear hr0_5 hc0_5
  have HB := aM (Below.refl w.heap.size w)
  have H := h
  clear h
  unfold impl_Recover.f at H
  replace H := bE H
  obtain ⟨t318, A2, H⟩ := H
  go_enter Try.func129, Try.ntmps129
  go_wp2_with (first | ((with_reducible refine gate_dst (N := 1) rfl ?_); refine gBx 1 #[.slice A0_0 l0_0.length c0_0, .slice A0_1 l0_1.length c0_1, .int .i64 a0_2, .int .i64 a0_3, .int .i64 a0_4, .slice A0_5 l0_5.length c0_5] 33 ?_; intro gb317 hg w4 hbox hb; have BK317 := aM (hbox); have GW317 := aM ((by rw [hg]; exact (below_size TB) : w.heap.size ≤ gb317)); have GE317 := aM ((by rw [hg]; exact (below_size TB) : w.heap.size ≤ gb317)); replace HB := aM (below_step TB hb); clear hb hbox hg; obtain ⟨hcz5_0, hcz5_1, hcz5_2, hcz5_3, hcz5_4, hcz5_5⟩ := cz6 BK317.out; obtain ⟨hfz5_0, hfz5_1, hfz5_2, hfz5_3, hfz5_4, hfz5_5⟩ := fz6 BK317.out) | ((with_reducible refine gate_callee (f := 76) rfl ?_); (with_reducible refine gate_dst (N := 5) rfl ?_); generalize hG_ : wpList _ _ _ _ _ _ = G_))
  subst hG_
  by_cases c6 : t318 = true
  · subst c6
    replace H := ifT H
    by_cases c7 : a0_3 = 0
    · rw [if_pos c7] at H
      have c7b0 : (a0_3 == 0) = true := beq_iff_eq.mpr c7
      have c7b1 : (a0_3 != 0) = false := bne_eq_false_iff_eq.mpr c7
      clear c7
      replace H := bE H
      obtain ⟨_, A8, H⟩ := H
      replace H := ifN H
      obtain ⟨c9, H⟩ := H
      have c9b0 := eq_true c9
      have c9b1 : decide (0 ≤ a0_4) = true := decide_eq_true c9
      clear c9
      replace H := ifN H
      obtain ⟨c10, H⟩ := H
      have c10b0 := eq_true c10
      have c10b1 : decide (a0_4 ≤ (l0_0.length : Int)) = true := decide_eq_true c10
      clear c10
      replace H := bE H
      obtain ⟨t320, A11, H⟩ := H
      simp only [Option.some.injEq, Prod.mk.injEq] at H
      obtain ⟨rfl, rfl⟩ := H
      try go_wp2_with (first | ((with_reducible refine gate_callee (f := 76) rfl ?_); refine gL (some 5) Try.func76 #[.agg #[.slice A0_0 l0_0.length c0_0, .slice A0_1 l0_1.length c0_1, .int .i64 a0_2, .int .i64 a0_3, .int .i64 a0_4, .slice A0_5 l0_5.length c0_5]] ?_; (with_reducible refine (impl_DiskOk.calls k _ _ l0_0 _ _ l0_1 a0_2 a0_3 a0_4 _ _ l0_5 true _ ?side1 ?side2 ?side3 ?side4 ?side5 ?side6 A2.out).mono ?_); (case side1 => repeat (first | exact (Kd.C_below HR0_0.out TB) | (with_reducible refine Kd.C_alloc ?_ _) | (with_reducible refine Kd.C_drewN ?_ _) | (with_reducible refine Kd.C_drew ?_))); (case side2 => exact HC0_0.out); (case side3 => repeat (first | exact (Kd.C_below HR0_1.out TB) | (with_reducible refine Kd.C_alloc ?_ _) | (with_reducible refine Kd.C_drewN ?_ _) | (with_reducible refine Kd.C_drew ?_))); (case side4 => exact HC0_1.out); (case side5 => repeat (first | exact (Kd.C_below HR0_5.out TB) | (with_reducible refine Kd.C_alloc ?_ _) | (with_reducible refine Kd.C_drewN ?_ _) | (with_reducible refine Kd.C_drew ?_))); (case side6 => exact HC0_5.out); rintro e w12 ⟨rfl, hb⟩; refine ⟨_, rfl, ?_⟩; replace BK317 := aM (blk_below (by have X_ := BK317.out; exact TX) hb); replace HB := aM (below_step TB hb); clear hb))
      replace BK317 := aM (blk_drew BK317.out)
      replace HB := aM (below_drew1 HB.out)
      refine start_ (n := 16) (S := fun w' => w'.cell? ⟨gb317, 0, none⟩ = some (.slice A0_0 l0_0.length c0_0) ∧ w'.cell? ⟨gb317, 1, none⟩ = some (.slice A0_1 l0_1.length c0_1) ∧ w'.cell? ⟨gb317, 2, none⟩ = some (.int .i64 a0_2) ∧ w'.cell? ⟨gb317, 3, none⟩ = some (.int .i64 a0_3) ∧ w'.cell? ⟨gb317, 4, none⟩ = some (.int .i64 a0_4) ∧ w'.cell? ⟨gb317, 5, none⟩ = some (.slice A0_5 l0_5.length c0_5)) (ds := []) (Array.replicate 16 false) (by kernel_rfl) rfl rfl (cz6 BK317.out) (fun hHeld => ?_); refine with_tabW impl_Recover.tab3 impl_Recover.bits3 (fun HT_ HW_ => ?_)
      generalize w12.drew = w13 at BK317 HB hHeld ⊢
      refine pP 0 (some 7) ?_
      refine pP 1 (some 8) ?_
      refine pP 3 (some 10) ?_
      refine pP 4 (some 11) ?_
      refine pP 9 (some 16) ?_
      refine pP 10 (some 17) ?_
      refine pT 2 (some 9) ?_
      refine pT 5 (some 12) ?_
      refine pT 11 (some 18) ?_
      refine pO 6 (some 13) (fun K hK => ?_)
      refine gG Try.func120 #[.pointer (some ⟨gb317, 0, none⟩), .int .i64 a0_3] ?_
      with_reducible refine (impl_Disk_slot.calls gb317 a0_3  _ A8.out).mono ?_
      rintro e w' ⟨rfl, ⟨nd, rfl⟩⟩
      refine ⟨_, rfl, ?_⟩
      obtain ⟨i014, hi014, _, hsz14, _⟩ := info_parts info5
      obtain ⟨hcut14, hA14, hC14⟩ := print_take_of (P := Try.prog) (Value.int .u8) 0 22 5 .i64 Try.underlying22 hi014 hsz14 A0_0 c0_0 l0_0 a0_4 DT DT HC0_0.out
      have HR319 := aM (Kd.C_of_reads (h1 := fun _ => rfl) (hA14 _ (Kd.reads_of_C HR0_0.out)))
      have HC319 := aM hC14
      clear hA14 hC14 hi014 hsz14
      refine hK.out _ _ (cz6 BK317.out) (fun hHeld => ?_)
      clear hK K
      refine nR ?_
      refine pP 7 (some 14) ?_
      refine pT 8 (some 15) ?_
      refine pP 12 (some 19) ?_
      refine pO 13 (some 20) (fun K hK => ?_)
      refine goes_ Try.func57 (by kernel_rfl) rfl #[.slice A0_0 (l0_0.take (a0_4 : Int).toNat).length c0_0] (by rfl) rfl rfl (by (try simp only [List.map_toArray, List.map_cons, List.map_nil]); first | done | (rw [show (l0_0.take (a0_4 : Int).toNat).length = a0_4.toNat from (by rw [List.length_take]; have h_ : (a0_4 : Int) ≤ (l0_0.length : Int) := DT; omega)] <;> rfl) | rfl | (simp only [List.length_drop, List.length_take]; rfl)) ?_
      with_reducible refine (impl_cloned.calls _ _ (l0_0.take (a0_4 : Int).toNat) t320 _ ?side1 ?side2 A11.out).mono ?_
      (case side1 => repeat (first | exact (Kd.C_below HR319.out TB) | (with_reducible refine Kd.C_alloc ?_ _) | (with_reducible refine Kd.C_drewN ?_ _) | (with_reducible refine Kd.C_drew ?_)))
      (case side2 => exact HC319.out)
      rintro e w15 ⟨v321, rfl, ho0, hb⟩
      refine ⟨_, rfl, ?_⟩
      have n0_ := aM (Kd.R_lower ho0 (below_size TB))
      have n1_ := aM (blk_below (by have X_ := BK317.out; exact TX) hb)
      have n2_ := aM (below_step TB hb)
      clear BK317
      clear HB
      have HO322 := n0_
      have BK317 := n1_
      have HB := n2_
      clear n0_ n1_ n2_
      (try clear hb)
      (try clear hb2)
      (try clear hk)
      (try clear hi)
      (try clear ho0)
      refine hK.out _ _ (cz6 BK317.out) (fun hHeld => ?_)
      clear hK K
      refine nR ?_
      refine pP 14 (some 2) ?_
      refine pP 15 (some 3) ?_
      refine done_ (done_of HT_.out (by kernel_rfl)) ?_
      try go_wp2
      go_ret2
      exact ⟨_, by first | rfl | (simp [errW_none, errW_some] <;> rfl) | (simp [*, errW_none, errW_some] <;> rfl), by have X_ := HO322.out; exact TR, TB⟩
    · rw [if_neg c7] at H
      have c7b0 : (a0_3 == 0) = false := beq_eq_false_iff_ne.mpr c7
      have c7b1 : (a0_3 != 0) = true := bne_iff_ne.mpr c7
      replace H := bE H
      obtain ⟨_, A16, H⟩ := H
      replace H := ifN H
      obtain ⟨c17, H⟩ := H
      have c17b0 := eq_true c17
      have c17b1 : decide (0 ≤ a0_4) = true := decide_eq_true c17
      clear c17
      replace H := ifN H
      obtain ⟨c18, H⟩ := H
      have c18b0 := eq_true c18
      have c18b1 : decide (a0_4 ≤ (l0_1.length : Int)) = true := decide_eq_true c18
      clear c18
      replace H := bE H
      obtain ⟨t324, A19, H⟩ := H
      simp only [Option.some.injEq, Prod.mk.injEq] at H
      obtain ⟨rfl, rfl⟩ := H
      try go_wp2_with (first | ((with_reducible refine gate_callee (f := 76) rfl ?_); refine gL (some 5) Try.func76 #[.agg #[.slice A0_0 l0_0.length c0_0, .slice A0_1 l0_1.length c0_1, .int .i64 a0_2, .int .i64 a0_3, .int .i64 a0_4, .slice A0_5 l0_5.length c0_5]] ?_; (with_reducible refine (impl_DiskOk.calls k _ _ l0_0 _ _ l0_1 a0_2 a0_3 a0_4 _ _ l0_5 true _ ?side1 ?side2 ?side3 ?side4 ?side5 ?side6 A2.out).mono ?_); (case side1 => repeat (first | exact (Kd.C_below HR0_0.out TB) | (with_reducible refine Kd.C_alloc ?_ _) | (with_reducible refine Kd.C_drewN ?_ _) | (with_reducible refine Kd.C_drew ?_))); (case side2 => exact HC0_0.out); (case side3 => repeat (first | exact (Kd.C_below HR0_1.out TB) | (with_reducible refine Kd.C_alloc ?_ _) | (with_reducible refine Kd.C_drewN ?_ _) | (with_reducible refine Kd.C_drew ?_))); (case side4 => exact HC0_1.out); (case side5 => repeat (first | exact (Kd.C_below HR0_5.out TB) | (with_reducible refine Kd.C_alloc ?_ _) | (with_reducible refine Kd.C_drewN ?_ _) | (with_reducible refine Kd.C_drew ?_))); (case side6 => exact HC0_5.out); rintro e w20 ⟨rfl, hb⟩; refine ⟨_, rfl, ?_⟩; replace BK317 := aM (blk_below (by have X_ := BK317.out; exact TX) hb); replace HB := aM (below_step TB hb); clear hb))
      replace BK317 := aM (blk_drew BK317.out)
      replace HB := aM (below_drew1 HB.out)
      refine start_ (n := 16) (S := fun w' => w'.cell? ⟨gb317, 0, none⟩ = some (.slice A0_0 l0_0.length c0_0) ∧ w'.cell? ⟨gb317, 1, none⟩ = some (.slice A0_1 l0_1.length c0_1) ∧ w'.cell? ⟨gb317, 2, none⟩ = some (.int .i64 a0_2) ∧ w'.cell? ⟨gb317, 3, none⟩ = some (.int .i64 a0_3) ∧ w'.cell? ⟨gb317, 4, none⟩ = some (.int .i64 a0_4) ∧ w'.cell? ⟨gb317, 5, none⟩ = some (.slice A0_5 l0_5.length c0_5)) (ds := []) (Array.replicate 16 false) (by kernel_rfl) rfl rfl (cz6 BK317.out) (fun hHeld => ?_); refine with_tabW impl_Recover.tab3 impl_Recover.bits3 (fun HT_ HW_ => ?_)
      generalize w20.drew = w21 at BK317 HB hHeld ⊢
      refine pP 0 (some 7) ?_
      refine pP 1 (some 8) ?_
      refine pP 3 (some 10) ?_
      refine pP 4 (some 11) ?_
      refine pP 9 (some 16) ?_
      refine pP 10 (some 17) ?_
      refine pT 2 (some 9) ?_
      refine pT 5 (some 12) ?_
      refine pT 11 (some 18) ?_
      refine pO 6 (some 13) (fun K hK => ?_)
      refine gG Try.func120 #[.pointer (some ⟨gb317, 0, none⟩), .int .i64 a0_3] ?_
      with_reducible refine (impl_Disk_slot.calls gb317 a0_3  _ A16.out).mono ?_
      rintro e w' ⟨rfl, ⟨nd, rfl⟩⟩
      refine ⟨_, rfl, ?_⟩
      obtain ⟨i022, hi022, _, hsz22, _⟩ := info_parts info5
      obtain ⟨hcut22, hA22, hC22⟩ := print_take_of (P := Try.prog) (Value.int .u8) 0 22 5 .i64 Try.underlying22 hi022 hsz22 A0_1 c0_1 l0_1 a0_4 DT DT HC0_1.out
      have HR323 := aM (Kd.C_of_reads (h1 := fun _ => rfl) (hA22 _ (Kd.reads_of_C HR0_1.out)))
      have HC323 := aM hC22
      clear hA22 hC22 hi022 hsz22
      refine hK.out _ _ (cz6 BK317.out) (fun hHeld => ?_)
      clear hK K
      refine nR ?_
      refine pP 7 (some 14) ?_
      refine pT 8 (some 15) ?_
      refine pP 12 (some 19) ?_
      refine pO 13 (some 20) (fun K hK => ?_)
      refine goes_ Try.func57 (by kernel_rfl) rfl #[.slice A0_1 (l0_1.take (a0_4 : Int).toNat).length c0_1] (by rfl) rfl rfl (by (try simp only [List.map_toArray, List.map_cons, List.map_nil]); first | done | (rw [show (l0_1.take (a0_4 : Int).toNat).length = a0_4.toNat from (by rw [List.length_take]; have h_ : (a0_4 : Int) ≤ (l0_1.length : Int) := DT; omega)] <;> rfl) | rfl | (simp only [List.length_drop, List.length_take]; rfl)) ?_
      with_reducible refine (impl_cloned.calls _ _ (l0_1.take (a0_4 : Int).toNat) t324 _ ?side1 ?side2 A19.out).mono ?_
      (case side1 => repeat (first | exact (Kd.C_below HR323.out TB) | (with_reducible refine Kd.C_alloc ?_ _) | (with_reducible refine Kd.C_drewN ?_ _) | (with_reducible refine Kd.C_drew ?_)))
      (case side2 => exact HC323.out)
      rintro e w23 ⟨v325, rfl, ho0, hb⟩
      refine ⟨_, rfl, ?_⟩
      have n0_ := aM (Kd.R_lower ho0 (below_size TB))
      have n1_ := aM (blk_below (by have X_ := BK317.out; exact TX) hb)
      have n2_ := aM (below_step TB hb)
      clear BK317
      clear HB
      have HO326 := n0_
      have BK317 := n1_
      have HB := n2_
      clear n0_ n1_ n2_
      (try clear hb)
      (try clear hb2)
      (try clear hk)
      (try clear hi)
      (try clear ho0)
      refine hK.out _ _ (cz6 BK317.out) (fun hHeld => ?_)
      clear hK K
      refine nR ?_
      refine pP 14 (some 2) ?_
      refine pP 15 (some 3) ?_
      refine done_ (done_of HT_.out (by kernel_rfl)) ?_
      try go_wp2
      go_ret2
      exact ⟨_, by first | rfl | (simp [errW_none, errW_some] <;> rfl) | (simp [*, errW_none, errW_some] <;> rfl), by have X_ := HO326.out; exact TR, TB⟩
  · replace c6 := Bool.eq_false_iff.mpr c6
    subst c6
    replace H := ifF H
    simp only [Option.some.injEq, Prod.mk.injEq] at H
    obtain ⟨rfl, rfl⟩ := H
    go_wp2_with (first | ((with_reducible refine gate_callee (f := 76) rfl ?_); refine gL (some 5) Try.func76 #[.agg #[.slice A0_0 l0_0.length c0_0, .slice A0_1 l0_1.length c0_1, .int .i64 a0_2, .int .i64 a0_3, .int .i64 a0_4, .slice A0_5 l0_5.length c0_5]] ?_; (with_reducible refine (impl_DiskOk.calls k _ _ l0_0 _ _ l0_1 a0_2 a0_3 a0_4 _ _ l0_5 false _ ?side1 ?side2 ?side3 ?side4 ?side5 ?side6 A2.out).mono ?_); (case side1 => repeat (first | exact (Kd.C_below HR0_0.out TB) | (with_reducible refine Kd.C_alloc ?_ _) | (with_reducible refine Kd.C_drewN ?_ _) | (with_reducible refine Kd.C_drew ?_))); (case side2 => exact HC0_0.out); (case side3 => repeat (first | exact (Kd.C_below HR0_1.out TB) | (with_reducible refine Kd.C_alloc ?_ _) | (with_reducible refine Kd.C_drewN ?_ _) | (with_reducible refine Kd.C_drew ?_))); (case side4 => exact HC0_1.out); (case side5 => repeat (first | exact (Kd.C_below HR0_5.out TB) | (with_reducible refine Kd.C_alloc ?_ _) | (with_reducible refine Kd.C_drewN ?_ _) | (with_reducible refine Kd.C_drew ?_))); (case side6 => exact HC0_5.out); rintro e w24 ⟨rfl, hb⟩; refine ⟨_, rfl, ?_⟩; replace BK317 := aM (blk_below (by have X_ := BK317.out; exact TX) hb); replace HB := aM (below_step TB hb); clear hb))
    go_ret2
    exact ⟨_, by first | rfl | (simp [errW_none, errW_some] <;> rfl) | (simp [*, errW_none, errW_some] <;> rfl), by first | exact Kd.R_nil _ _ _ _ _ | exact Kd.N_nil _ _ _ _ _ | exact Kd.V_nil _ _ _ _ _ | exact Kd.Q_nil _ _ _ _ _ | exact Kd.S_nil _ _ _ _ _, TB⟩

/-! ### bytes_Equal: function 147 -/
def bytes_Equal.f (l0 : List Int) (l1 : List Int) : Option (Bool) := some ((strOfNums l0).toList == (strOfNums l1).toList)
set_option maxHeartbeats 40000000 in
set_option maxRecDepth 100000 in
theorem bytes_Equal.calls (A0 : Option Addr) (c0 : Nat) (l0 : List Int) (A1 : Option Addr) (c1 : Nat) (l1 : List Int) (r : Bool) (w : World) (hr0 : Kd.C (Kd.int .u8) w A0 l0.length l0) (hc0 : l0.length ≤ c0) (hr1 : Kd.C (Kd.int .u8) w A1 l1.length l1) (hc1 : l1.length ≤ c1) (h : bytes_Equal.f l0 l1 = some r) :
    Calls Try.prog 147 #[.slice A0 l0.length c0, .slice A1 l1.length c1] w fun e w' => e = .returned (.bool r) ∧ Drawn0 w w' := by
  have HR0 := aM hr0
  have HC0 := aM hc0
  clear hr0 hc0
  have HR1 := aM hr1
  have HC1 := aM hc1
  clear hr1 hc1
  have H := h
  clear h
  unfold bytes_Equal.f at H
  obtain rfl := Option.some.inj H
  have hcv3 := Kd.C_string (P := Try.prog) (A := A0) (c := c0) Try.underlying22 Try.underlying5 Try.underlying9 HR0.out
  have hcv4 := Kd.C_string (P := Try.prog) (A := A1) (c := c1) Try.underlying22 Try.underlying5 Try.underlying9 HR1.out
  go_enter Try.func147, Try.ntmps147
  go_wp2
  go_ret
  exact ⟨by first | rfl | (simp; done) | (simp [*]; done), TD⟩

/-! ### impl_SameBytes: function 130 -/
def impl_SameBytes.f (l0 : List Int) (l1 : List Int) : Option (Bool) := (bytes_Equal.f l0 l1).bind fun t327 => (some t327)
set_option maxHeartbeats 40000000 in
set_option maxRecDepth 100000 in
theorem impl_SameBytes.calls (A0 : Option Addr) (c0 : Nat) (l0 : List Int) (A1 : Option Addr) (c1 : Nat) (l1 : List Int) (r : Bool) (w : World) (hr0 : Kd.C (Kd.int .u8) w A0 l0.length l0) (hc0 : l0.length ≤ c0) (hr1 : Kd.C (Kd.int .u8) w A1 l1.length l1) (hc1 : l1.length ≤ c1) (h : impl_SameBytes.f l0 l1 = some r) :
    Calls Try.prog 130 #[.slice A0 l0.length c0, .slice A1 l1.length c1] w fun e w' => e = .returned (.bool r) ∧ Drawn0 w w' := by
  have HR0 := aM hr0
  have HC0 := aM hc0
  clear hr0 hc0
  have HR1 := aM hr1
  have HC1 := aM hc1
  clear hr1 hc1
  have H := h
  clear h
  unfold impl_SameBytes.f at H
  replace H := bE H
  obtain ⟨t327, A3, H⟩ := H
  obtain rfl := Option.some.inj H
  go_enter Try.func130, Try.ntmps130
  go_wp2_with (first | ((with_reducible refine gate_callee (f := 147) rfl ?_); refine gL (some 7) Try.func147 #[.slice A0 l0.length c0, .slice A1 l1.length c1] ?_; (with_reducible refine (bytes_Equal.calls _ _ l0 _ _ l1 t327 _ ?side1 ?side2 ?side3 ?side4 A3.out).mono ?_); (case side1 => have X_ := HR0.out; exact TC); (case side2 => exact HC0.out); (case side3 => have X_ := HR1.out; exact TC); (case side4 => exact HC1.out); rintro e w' ⟨rfl, ⟨nd, rfl⟩⟩; refine ⟨_, rfl, ?_⟩))
  go_ret
  exact ⟨by first | rfl | (simp; done) | (simp [*]; done), TD⟩

/-! ### impl_Holds: function 85 -/
def impl_Holds.f (k : Nat) (l0_0 : List Int) (l0_1 : List Int) (a0_2 : Int) (a0_3 : Int) (a0_4 : Int) (l0_5 : List (S110)) (a1 : Int) (l2 : List Int) : Option (Bool) := (impl_Recover.f k l0_0 l0_1 a0_2 a0_3 a0_4 l0_5).bind fun bt329 => (if bt329.1 = a1 then ((impl_SameBytes.f bt329.2 l2).bind fun t333 => (some t333)) else (some false))
theorem impl_Holds.mono : ∀ a0 a1 a2 a3 a4 a5 a6 a7 k, LeO (impl_Holds.f k a0 a1 a2 a3 a4 a5 a6 a7) (impl_Holds.f (k + 1) a0 a1 a2 a3 a4 a5 a6 a7) := by
  intro a0 a1 a2 a3 a4 a5 a6 a7 k
  have m0_ := @impl_Recover.mono
  unfold impl_Holds.f
  exact LM
set_option maxHeartbeats 40000000 in
set_option maxRecDepth 100000 in
theorem impl_Holds.calls (k : Nat) (aj : Option Addr) (ai : Nat) (ab : List Int) (ak : Option Addr) (al : Nat) (ac : List Int) (af : Int) (ad : Int) (ae : Int) (ah : Option Addr) (am : Nat) (aa : List (S110)) (a1 : Int) (A2 : Option Addr) (c2 : Nat) (l2 : List Int) (r : Bool) (w : World) (ao : Kd.C (Kd.int .u8) w aj ab.length ab) (ax : ab.length ≤ ai) (aq : Kd.C (Kd.int .u8) w ak ac.length ac) (ay : ac.length ≤ al) (au : Kd.C k110 w ah aa.length aa) (aA : aa.length ≤ am) (hr2 : Kd.C (Kd.int .u8) w A2 l2.length l2) (hc2 : l2.length ≤ c2) (h : impl_Holds.f k ab ac af ad ae aa a1 l2 = some r) :
  Calls Try.prog 85 #[.agg #[.slice aj ab.length ai, .slice ak ac.length al, .int .i64 af, .int .i64 ad, .int .i64 ae, .slice ah aa.length am], .int .i64 a1, .slice A2 l2.length c2] w fun e w' => e = .returned (.bool r) ∧ Below w.heap.size w w' := by
 have hu33 := Try.underlying33
 have av := aM ao
 have ar := aM ax
 clear ao ax
 have aC := aM aq
 have aw := aM ay
 clear aq ay
 have aB := aM au
 have az := aM aA
 clear au aA
 have HR2 := aM hr2
 have HC2 := aM hc2
 clear hr2 hc2
 have HB := aM (Below.refl w.heap.size w)
 have H := h
 clear h
 unfold impl_Holds.f at H
 replace H := bE H
 obtain ⟨⟨ag, an⟩, A4, H⟩ := H
 dsimp only at H
 go_enter Try.func85, Try.ntmps85
 go_wp2_with (first | ((with_reducible refine gate_dst (N := 3) rfl ?_); refine gBx 3 #[.slice aj ab.length ai, .slice ak ac.length al, .int .i64 af, .int .i64 ad, .int .i64 ae, .slice ah aa.length am] 33 ?_; intro ap hg w5 hbox hb; have BK328 := aM (hbox); have GW328 := aM ((by rw [hg]; exact (below_size TB) : w.heap.size ≤ ap)); have GE328 := aM ((by rw [hg]; exact (below_size TB) : w.heap.size ≤ ap)); replace HB := aM (below_step TB hb); clear hb hbox hg; obtain ⟨hcz6_0, hcz6_1, hcz6_2, hcz6_3, hcz6_4, hcz6_5⟩ := cz6 BK328.out; obtain ⟨hfz6_0, hfz6_1, hfz6_2, hfz6_3, hfz6_4, hfz6_5⟩ := fz6 BK328.out) | ((with_reducible refine gate_callee (f := 129) rfl ?_); (with_reducible refine gate_dst (N := 11) rfl ?_); generalize hG_ : wpList _ _ _ _ _ _ = G_))
 subst hG_
 by_cases c7 : ag = a1
 ·rw [if_pos c7] at H
  have c7b0 : (ag == a1) = true := beq_iff_eq.mpr c7
  have c7b1 : (ag != a1) = false := bne_eq_false_iff_eq.mpr c7
  clear c7
  replace H := bE H
  obtain ⟨t333, A8, H⟩ := H
  obtain rfl := Option.some.inj H
  go_wp2_with (first | ((with_reducible refine gate_callee (f := 129) rfl ?_); refine gL (some 11) Try.func129 #[.agg #[.slice aj ab.length ai, .slice ak ac.length al, .int .i64 af, .int .i64 ad, .int .i64 ae, .slice ah aa.length am]] ?_; (with_reducible refine (impl_Recover.calls k _ _ ab _ _ ac af ad ae _ _ aa ag an _ ?side1 ?side2 ?side3 ?side4 ?side5 ?side6 A4.out).mono ?_); (case side1 => repeat (first | exact (Kd.C_below av.out TB) | (with_reducible refine Kd.C_alloc ?_ _) | (with_reducible refine Kd.C_drewN ?_ _) | (with_reducible refine Kd.C_drew ?_))); (case side2 => exact ar.out); (case side3 => repeat (first | exact (Kd.C_below aC.out TB) | (with_reducible refine Kd.C_alloc ?_ _) | (with_reducible refine Kd.C_drewN ?_ _) | (with_reducible refine Kd.C_drew ?_))); (case side4 => exact aw.out); (case side5 => repeat (first | exact (Kd.C_below aB.out TB) | (with_reducible refine Kd.C_alloc ?_ _) | (with_reducible refine Kd.C_drewN ?_ _) | (with_reducible refine Kd.C_drew ?_))); (case side6 => exact az.out); rintro e w9 ⟨v331, rfl, ho0, hb⟩; refine ⟨_, rfl, ?_⟩; have HO332 := aM (Kd.R_lower ho0 (below_size TB)); replace BK328 := aM (blk_below (by have X_ := BK328.out; exact TX) hb); replace HB := aM (below_step TB hb); clear ho0 hb; obtain ⟨Ao10, co10, eo10⟩ := Kd.R_slice HO332.out; subst eo10) | (go_at_call 130; (with_reducible refine (impl_SameBytes.calls _ _ an _ _ l2 t333 _ ?side1 ?side2 ?side3 ?side4 A8.out).mono ?_); (case side1 => have X_ := (Kd.R_reads' HO332.out).2.2; exact TC); (case side2 => exact (Kd.R_reads' HO332.out).2.1); (case side3 => have X_ := (Kd.C_below HR2.out HB.out); exact TC); (case side4 => exact HC2.out); rintro e w' ⟨rfl, ⟨nd, rfl⟩⟩))
  go_ret
  exact ⟨by first | rfl | (simp [errW_none, errW_some] <;> rfl) | (simp [*, errW_none, errW_some] <;> rfl), TB⟩
 ·rw [if_neg c7] at H
  have c7b0 : (ag == a1) = false := beq_eq_false_iff_ne.mpr c7
  have c7b1 : (ag != a1) = true := bne_iff_ne.mpr c7
  obtain rfl := Option.some.inj H
  go_wp2_with (first | ((with_reducible refine gate_callee (f := 129) rfl ?_); refine gL (some 11) Try.func129 #[.agg #[.slice aj ab.length ai, .slice ak ac.length al, .int .i64 af, .int .i64 ad, .int .i64 ae, .slice ah aa.length am]] ?_; (with_reducible refine (impl_Recover.calls k _ _ ab _ _ ac af ad ae _ _ aa ag an _ ?side1 ?side2 ?side3 ?side4 ?side5 ?side6 A4.out).mono ?_); (case side1 => repeat (first | exact (Kd.C_below av.out TB) | (with_reducible refine Kd.C_alloc ?_ _) | (with_reducible refine Kd.C_drewN ?_ _) | (with_reducible refine Kd.C_drew ?_))); (case side2 => exact ar.out); (case side3 => repeat (first | exact (Kd.C_below aC.out TB) | (with_reducible refine Kd.C_alloc ?_ _) | (with_reducible refine Kd.C_drewN ?_ _) | (with_reducible refine Kd.C_drew ?_))); (case side4 => exact aw.out); (case side5 => repeat (first | exact (Kd.C_below aB.out TB) | (with_reducible refine Kd.C_alloc ?_ _) | (with_reducible refine Kd.C_drewN ?_ _) | (with_reducible refine Kd.C_drew ?_))); (case side6 => exact az.out); rintro e w11 ⟨v331, rfl, ho0, hb⟩; refine ⟨_, rfl, ?_⟩; have HO332 := aM (Kd.R_lower ho0 (below_size TB)); replace BK328 := aM (blk_below (by have X_ := BK328.out; exact TX) hb); replace HB := aM (below_step TB hb); clear ho0 hb))
  go_ret
  exact ⟨by first | rfl | (simp [errW_none, errW_some] <;> rfl) | (simp [*, errW_none, errW_some] <;> rfl), TB⟩

end Go.Proofs.Ytlghklbjmmijpaa.Q
