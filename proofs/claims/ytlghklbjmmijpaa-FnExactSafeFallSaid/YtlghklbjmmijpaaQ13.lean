/- Functions of the program as plain Lean functions, and that a call of each comes to what its function tells. Written by a program of this seat. -/
import Derived.Test.YtlghklbjmmijpaaQ0
import Derived.Test.YtlghklbjmmijpaaQ3
import Derived.Test.YtlghklbjmmijpaaQ8
namespace Go.Proofs.Ytlghklbjmmijpaa.Q
open Go.RowKit Go.Proofs.YtlghklbjmmijpaaW.PrintWords Go.Proofs.YtlghklbjmmijpaaW.PrintLast Go.Proofs.YtlghklbjmmijpaaW.PrintMore
attribute [local go_sem] max2_int min2_int max_two min_two max_three min_three max_four min_four   -- for this text's walks alone
set_option linter.unusedVariables false
set_option linter.unusedSimpArgs false

/-! ### spec_Recover: function 132 -/
def spec_Recover.f (k : Nat) (l0_0 : List Int) (l0_1 : List Int) (a0_2 : Int) (a0_3 : Int) (a0_4 : Int) (l0_5 : List (S110)) : Option (Int × List Int) := (spec_DiskOk.f k l0_0 l0_1 a0_2 a0_3 a0_4 l0_5).bind fun t223 => (if t223 = true then ((some (([] : List Int) : List Int)).bind fun y224 => (if a0_3 = 1 then ((spec_l9Slot.f a0_3 1).bind fun _ => (if 0 ≤ a0_4 then (if a0_4 ≤ (l0_1.length : Int) then (if y224.length + (l0_1.take (a0_4 : Int).toNat).length < 140737488355328 then (some (a0_2, (y224 ++ (l0_1.take (a0_4 : Int).toNat)))) else (none)) else (none)) else (none))) else ((spec_l9Slot.f a0_3 0).bind fun _ => (if 0 ≤ a0_4 then (if a0_4 ≤ (l0_0.length : Int) then (if y224.length + (l0_0.take (a0_4 : Int).toNat).length < 140737488355328 then (some (a0_2, (y224 ++ (l0_0.take (a0_4 : Int).toNat)))) else (none)) else (none)) else (none))))) else (some (0, (([] : List Int)))))
theorem spec_Recover.mono : ∀ a0 a1 a2 a3 a4 a5 k, LeO (spec_Recover.f k a0 a1 a2 a3 a4 a5) (spec_Recover.f (k + 1) a0 a1 a2 a3 a4 a5) := by
  intro a0 a1 a2 a3 a4 a5 k
  have m0_ := @spec_DiskOk.mono
  unfold spec_Recover.f
  exact LM
def spec_Recover.T3 : Bool × List (List Nat × List Nat) := (true, [([], []), ([0], [0]), ([1], [1]), ([], []), ([], []), ([], []), ([5], [5]), ([6], [6]), ([4, 7], [4, 7]), ([], []), ([9], [9]), ([10], [10]), ([8, 11], [8, 11]), ([3, 12, 8], [3, 12]), ([2, 13, 0, 1, 2], [2]), ([13, 14, 0, 1, 2, 3, 4, 5, 6, 7, 8, 9, 10, 11, 12, 13, 14], [13])])
def spec_Recover.B3 : List Nat := [0, 1, 3, 0, 0, 0, 32, 96, 240, 0, 512, 1536, 4080, 8184, 16383, 32767]
theorem spec_Recover.tab3 : rtab .any (opsOf Try.f132 3) = spec_Recover.T3 := by kernel_rfl
theorem spec_Recover.bits3 : waitsOk spec_Recover.T3.2 spec_Recover.B3 = true := by kernel_rfl
set_option maxHeartbeats 40000000 in
set_option maxRecDepth 100000 in
theorem spec_Recover.calls (k : Nat) (A0_0 : Option Addr) (c0_0 : Nat) (l0_0 : List Int) (A0_1 : Option Addr) (c0_1 : Nat) (l0_1 : List Int) (a0_2 : Int) (a0_3 : Int) (a0_4 : Int) (A0_5 : Option Addr) (c0_5 : Nat) (l0_5 : List (S110)) (r1 : Int) (r2 : List Int) (w : World) (hr0_0 : Kd.C (Kd.int .u8) w A0_0 l0_0.length l0_0) (hc0_0 : l0_0.length ≤ c0_0) (hr0_1 : Kd.C (Kd.int .u8) w A0_1 l0_1.length l0_1) (hc0_1 : l0_1.length ≤ c0_1) (hr0_5 : Kd.C k110 w A0_5 l0_5.length l0_5) (hc0_5 : l0_5.length ≤ c0_5) (h : spec_Recover.f k l0_0 l0_1 a0_2 a0_3 a0_4 l0_5 = some (r1, r2)) :
    Calls Try.prog 132 #[.agg #[.slice A0_0 l0_0.length c0_0, .slice A0_1 l0_1.length c0_1, .int .i64 a0_2, .int .i64 a0_3, .int .i64 a0_4, .slice A0_5 l0_5.length c0_5]] w fun e w' => ∃ v1_ : Value, e = .returned (.tuple #[.int .i64 r1, v1_]) ∧ Kd.R (Kd.int .u8) 5 w' w.heap.size (fun _ => True) v1_ r2 ∧ Below w.heap.size w w' := by
  have hu33 := Try.underlying33
  have HR0_0 := aM hr0_0
  have HC0_0 := aM hc0_0
  clear hr0_0 hc0_0
  have HR0_1 := aM hr0_1
  have HC0_1 := aM hc0_1
  clear hr0_1 hc0_1
  have HR0_5 := aM hr0_5
  have HC0_5 := aM hc0_5
  clear hr0_5 hc0_5
  have HB := aM (Below.refl w.heap.size w)
  have H := h
  clear h
  unfold spec_Recover.f at H
  replace H := bE H
  obtain ⟨t223, A2, H⟩ := H
  go_enter Try.func132, Try.ntmps132
  go_wp2_with (first | ((with_reducible refine gate_dst (N := 1) rfl ?_); refine gBx 1 #[.slice A0_0 l0_0.length c0_0, .slice A0_1 l0_1.length c0_1, .int .i64 a0_2, .int .i64 a0_3, .int .i64 a0_4, .slice A0_5 l0_5.length c0_5] 33 ?_; intro gb222 hg w4 hbox hb; have BK222 := aM (hbox); have GW222 := aM ((by rw [hg]; exact (below_size TB) : w.heap.size ≤ gb222)); have GE222 := aM ((by rw [hg]; exact (below_size TB) : w.heap.size ≤ gb222)); replace HB := aM (below_step TB hb); clear hb hbox hg; obtain ⟨hcz5_0, hcz5_1, hcz5_2, hcz5_3, hcz5_4, hcz5_5⟩ := cz6 BK222.out; obtain ⟨hfz5_0, hfz5_1, hfz5_2, hfz5_3, hfz5_4, hfz5_5⟩ := fz6 BK222.out) | ((with_reducible refine gate_callee (f := 69) rfl ?_); (with_reducible refine gate_dst (N := 5) rfl ?_); generalize hG_ : wpList _ _ _ _ _ _ = G_))
  subst hG_
  by_cases c6 : t223 = true
  · subst c6
    replace H := ifT H
    obtain ⟨y224, hy224⟩ : ∃ y_ : List Int, y_ = (([] : List Int)) := ⟨_, rfl⟩
    replace H := someE H hy224
    have Ny224 := aM hy224
    clear hy224
    by_cases c7 : a0_3 = 1
    · rw [if_pos c7] at H
      have c7b0 : (a0_3 == 1) = true := beq_iff_eq.mpr c7
      have c7b1 : (a0_3 != 1) = false := bne_eq_false_iff_eq.mpr c7
      clear c7
      replace H := bE H
      obtain ⟨_, A8, H⟩ := H
      replace H := ifN H
      obtain ⟨c9, H⟩ := H
      have c9b0 := eq_true c9
      have c9b1 : decide (0 ≤ a0_4) = true := decide_eq_true c9
      clear c9
      replace H := ifN H
      obtain ⟨c10, H⟩ := H
      have c10b0 := eq_true c10
      have c10b1 : decide (a0_4 ≤ (l0_1.length : Int)) = true := decide_eq_true c10
      clear c10
      replace H := ifN H
      obtain ⟨c11, H⟩ := H
      have LMc11 := aM c11
      clear c11
      obtain ⟨y228, hy228⟩ : ∃ y_ : List Int, y_ = (y224 ++ (l0_1.take (a0_4 : Int).toNat)) := ⟨_, rfl⟩
      rw [← hy228] at H
      have Ny228 := aM hy228
      clear hy228
      simp only [Option.some.injEq, Prod.mk.injEq] at H
      obtain ⟨rfl, rfl⟩ := H
      try go_wp2_with (first | ((with_reducible refine gate_callee (f := 69) rfl ?_); refine gL (some 5) Try.func69 #[.agg #[.slice A0_0 l0_0.length c0_0, .slice A0_1 l0_1.length c0_1, .int .i64 a0_2, .int .i64 a0_3, .int .i64 a0_4, .slice A0_5 l0_5.length c0_5]] ?_; (with_reducible refine (spec_DiskOk.calls k _ _ l0_0 _ _ l0_1 a0_2 a0_3 a0_4 _ _ l0_5 true _ ?side1 ?side2 ?side3 ?side4 ?side5 ?side6 A2.out).mono ?_); (case side1 => repeat (first | exact (Kd.C_below HR0_0.out TB) | (with_reducible refine Kd.C_alloc ?_ _) | (with_reducible refine Kd.C_drewN ?_ _) | (with_reducible refine Kd.C_drew ?_))); (case side2 => exact HC0_0.out); (case side3 => repeat (first | exact (Kd.C_below HR0_1.out TB) | (with_reducible refine Kd.C_alloc ?_ _) | (with_reducible refine Kd.C_drewN ?_ _) | (with_reducible refine Kd.C_drew ?_))); (case side4 => exact HC0_1.out); (case side5 => repeat (first | exact (Kd.C_below HR0_5.out TB) | (with_reducible refine Kd.C_alloc ?_ _) | (with_reducible refine Kd.C_drewN ?_ _) | (with_reducible refine Kd.C_drew ?_))); (case side6 => exact HC0_5.out); rintro e w12 ⟨rfl, hb⟩; refine ⟨_, rfl, ?_⟩; replace BK222 := aM (blk_below (by have X_ := BK222.out; exact TX) hb); replace HB := aM (below_step TB hb); clear hb; obtain ⟨i013, hi013, _, hsz13, _⟩ := info_parts info5; obtain ⟨hcut13, hA13, hC13⟩ := print_take_of (P := Try.prog) (Value.int .u8) 0 22 5 .i64 Try.underlying22 hi013 hsz13 A0_1 c0_1 l0_1 a0_4 DT DT HC0_1.out; have HR227 := aM (Kd.C_of_reads (h1 := fun _ => rfl) (hA13 _ (Kd.reads_of_C HR0_1.out))); have HC227 := aM hC13; clear hA13 hC13 hi013 hsz13))
      replace BK222 := aM (blk_drew BK222.out)
      replace HB := aM (below_drew1 HB.out)
      refine start_ (n := 16) (S := fun w' => w'.cell? ⟨gb222, 0, none⟩ = some (.slice A0_0 l0_0.length c0_0) ∧ w'.cell? ⟨gb222, 1, none⟩ = some (.slice A0_1 l0_1.length c0_1) ∧ w'.cell? ⟨gb222, 2, none⟩ = some (.int .i64 a0_2) ∧ w'.cell? ⟨gb222, 3, none⟩ = some (.int .i64 a0_3) ∧ w'.cell? ⟨gb222, 4, none⟩ = some (.int .i64 a0_4) ∧ w'.cell? ⟨gb222, 5, none⟩ = some (.slice A0_5 l0_5.length c0_5)) (ds := []) #[false, false, false, false, false, false, false, false, false, false, false, false, false, false, false, false] (by kernel_rfl) rfl rfl (cz6 BK222.out) (fun hHeld => ?_); refine with_tabW spec_Recover.tab3 spec_Recover.bits3 (fun HT_ HW_ => ?_)
      generalize w12.drew = w14 at BK222 HB hHeld ⊢
      refine pPe 0 (some 8) #[true, false, false, false, false, false, false, false, false, false, false, false, false, false, false, false] ?_
      refine pPe 1 (some 9) #[true, true, false, false, false, false, false, false, false, false, false, false, false, false, false, false] ?_
      refine pPe 5 (some 13) #[true, true, false, false, false, true, false, false, false, false, false, false, false, false, false, false] ?_
      refine pPe 6 (some 14) #[true, true, false, false, false, true, true, false, false, false, false, false, false, false, false, false] ?_
      refine pPe 9 (some 17) #[true, true, false, false, false, true, true, false, false, true, false, false, false, false, false, false] ?_
      refine pPe 10 (some 18) #[true, true, false, false, false, true, true, false, false, true, true, false, false, false, false, false] ?_
      refine pTe 2 (some 10) #[true, true, true, false, false, true, true, false, false, true, true, false, false, false, false, false] ?_
      refine pTe 4 (some 12) #[true, true, true, false, true, true, true, false, false, true, true, false, false, false, false, false] ?_
      refine pTe 7 (some 15) #[true, true, true, false, true, true, true, true, false, true, true, false, false, false, false, false] ?_
      refine pTe 11 (some 19) #[true, true, true, false, true, true, true, true, false, true, true, true, false, false, false, false] ?_
      refine join_ (σ := Value) 3 #[true, true, true, true, true, true, true, true, true, true, true, true, true, false, false, false] (fun s_ => [(11, s_), (16, .slice A0_1 l0_1.length c0_1), (20, .slice A0_1 a0_4.toNat c0_1)]) (fun s_ w' => (w'.cell? ⟨gb222, 0, none⟩ = some (.slice A0_0 l0_0.length c0_0) ∧ w'.cell? ⟨gb222, 1, none⟩ = some (.slice A0_1 l0_1.length c0_1) ∧ w'.cell? ⟨gb222, 2, none⟩ = some (.int .i64 a0_2) ∧ w'.cell? ⟨gb222, 3, none⟩ = some (.int .i64 a0_3) ∧ w'.cell? ⟨gb222, 4, none⟩ = some (.int .i64 a0_4) ∧ w'.cell? ⟨gb222, 5, none⟩ = some (.slice A0_5 l0_5.length c0_5)) ∧ (Kd.R (Kd.int .u8) 5 w' w.heap.size (fun _ => True) s_ y224) ∧ (w'.heap[gb222]? = some (.cells #[.slice A0_0 l0_0.length c0_0, .slice A0_1 l0_1.length c0_1, .int .i64 a0_2, .int .i64 a0_3, .int .i64 a0_4, .slice A0_5 l0_5.length c0_5] 33 (0, 0))) ∧ (Below w.heap.size w w')) ?_ ?_
      rotate_left
      · intro hCont
        refine two_ (i := 3) (j := 8) (Ni := some 11) (Nj := some 16) #[true, true, true, true, true, true, true, true, false, true, true, true, false, false, false, false] #[true, true, true, false, true, true, true, true, true, true, true, true, false, false, false, false] rfl rfl rfl rfl (two_of HT_.out (by kernel_rfl)) (by decide) (by decide) (fun K hK => ?_) (fun K hK => ?_)
        · skip
          refine Kd.R_lit_step (Kd.int .u8) _ 5 ?hg (N := 11) ?hd (xs := ([] : List Int)) (inner := []) (ok := fun _ => True) (okp := fun _ => True) ?hr ?hp (fun _ hk => hk) trivial (Below.refl _ _) (Nat.le_refl _) (by simp) ?_; (case hd => rfl); (case hg => rfl); (case hr => first | (go_simp; done) | (go_simp; rfl)); (case hp => exact (Reps.none _ _))
          intro v225 w15 ho16 hb hg_ hnew_
          clear hg_ hnew_
          (first | rw [← Ny224.out] at ho16 | (simp only [Int.reduceToNat] at ho16; rw [← Ny224.out] at ho16))
          have n0_ := aM (Kd.R_lower ho16 (below_size TB))
          have n1_ := aM (blk_below (by have X_ := BK222.out; exact TX) hb)
          have n2_ := aM (below_step TB hb)
          clear BK222
          clear HB
          have HO226 := n0_
          have BK222 := n1_
          have HB := n2_
          clear n0_ n1_ n2_
          clear hb ho16
          refine hK.out _ _ (cz6 BK222.out) (fun hHeld => ?_)
          clear hK K
          refine nR ?_
          refine pOe 8 (some 16) #[true, true, true, true, true, true, true, true, true, true, true, true, false, false, false, false] (fun K hK => ?_)
          refine gG Try.func114 #[.agg #[.slice A0_0 l0_0.length c0_0, .slice A0_1 l0_1.length c0_1, .int .i64 a0_2, .int .i64 a0_3, .int .i64 a0_4, .slice A0_5 l0_5.length c0_5], .int .i64 a0_3] ?_
          with_reducible refine (spec_l9Slot.o1.calls _ _ l0_0 _ _ l0_1 a0_2 a0_3 a0_4 _ _ l0_5 a0_3  _ ?side1 ?side2 ?side3 ?side4 ?side5 ?side6 A8.out).mono ?_
          (case side1 => have X_ := (Kd.C_below HR0_0.out HB.out); exact TC)
          (case side2 => exact HC0_0.out)
          (case side3 => have X_ := (Kd.C_below HR0_1.out HB.out); exact TC)
          (case side4 => exact HC0_1.out)
          (case side5 => have X_ := (Kd.C_below HR0_5.out HB.out); exact TC)
          (case side6 => exact HC0_5.out)
          rintro e w17 ⟨rfl, hb⟩
          refine ⟨_, rfl, ?_⟩
          have n0_ := aM (Kd.R_below (by have X_ := HO226.out; exact TR) hb)
          have n1_ := aM (blk_below (by have X_ := BK222.out; exact TX) hb)
          have n2_ := aM (below_step TB hb)
          clear HO226
          clear BK222
          clear HB
          have HO226 := n0_
          have BK222 := n1_
          have HB := n2_
          clear n0_ n1_ n2_
          (try clear hb)
          (try clear hb2)
          (try clear hk)
          (try clear hi)
          refine hK.out _ _ (cz6 BK222.out) (fun hHeld => ?_)
          clear hK K
          refine nR ?_
          refine pPe 12 (some 20) #[true, true, true, true, true, true, true, true, true, true, true, true, true, false, false, false] ?_
          exact norm_ (by simp only [putAll, Act.put, List.setIfInBounds_toArray, List.set_cons_zero, List.set_cons_succ]) (hCont (v225) _ ⟨hHeld, (by have X_ := HO226.out; exact TR), TK, TB⟩)
        · skip
          refine gG Try.func114 #[.agg #[.slice A0_0 l0_0.length c0_0, .slice A0_1 l0_1.length c0_1, .int .i64 a0_2, .int .i64 a0_3, .int .i64 a0_4, .slice A0_5 l0_5.length c0_5], .int .i64 a0_3] ?_
          with_reducible refine (spec_l9Slot.o1.calls _ _ l0_0 _ _ l0_1 a0_2 a0_3 a0_4 _ _ l0_5 a0_3  _ ?side1 ?side2 ?side3 ?side4 ?side5 ?side6 A8.out).mono ?_
          (case side1 => have X_ := (Kd.C_below HR0_0.out HB.out); exact TC)
          (case side2 => exact HC0_0.out)
          (case side3 => have X_ := (Kd.C_below HR0_1.out HB.out); exact TC)
          (case side4 => exact HC0_1.out)
          (case side5 => have X_ := (Kd.C_below HR0_5.out HB.out); exact TC)
          (case side6 => exact HC0_5.out)
          rintro e w15 ⟨rfl, hb⟩
          refine ⟨_, rfl, ?_⟩
          have n0_ := aM (blk_below (by have X_ := BK222.out; exact TX) hb)
          have n1_ := aM (below_step TB hb)
          clear BK222
          clear HB
          have BK222 := n0_
          have HB := n1_
          clear n0_ n1_
          (try clear hb)
          (try clear hb2)
          (try clear hk)
          (try clear hi)
          refine hK.out _ _ (cz6 BK222.out) (fun hHeld => ?_)
          clear hK K
          refine nR ?_
          refine pPe 12 (some 20) #[true, true, true, false, true, true, true, true, true, true, true, true, true, false, false, false] ?_
          refine pOe 3 (some 11) #[true, true, true, true, true, true, true, true, true, true, true, true, true, false, false, false] (fun K hK => ?_)
          refine Kd.R_lit_step (Kd.int .u8) _ 5 ?hg (N := 11) ?hd (xs := ([] : List Int)) (inner := []) (ok := fun _ => True) (okp := fun _ => True) ?hr ?hp (fun _ hk => hk) trivial (Below.refl _ _) (Nat.le_refl _) (by simp) ?_; (case hd => rfl); (case hg => rfl); (case hr => first | (go_simp; done) | (go_simp; rfl)); (case hp => exact (Reps.none _ _))
          intro v225 w16 ho17 hb hg_ hnew_
          clear hg_ hnew_
          (first | rw [← Ny224.out] at ho17 | (simp only [Int.reduceToNat] at ho17; rw [← Ny224.out] at ho17))
          have n0_ := aM (Kd.R_lower ho17 (below_size TB))
          have n1_ := aM (blk_below (by have X_ := BK222.out; exact TX) hb)
          have n2_ := aM (below_step TB hb)
          clear BK222
          clear HB
          have HO226 := n0_
          have BK222 := n1_
          have HB := n2_
          clear n0_ n1_ n2_
          clear hb ho17
          refine hK.out _ _ (cz6 BK222.out) (fun hHeld => ?_)
          clear hK K
          refine nR ?_
          exact norm_ (by simp only [putAll, Act.put, List.setIfInBounds_toArray, List.set_cons_zero, List.set_cons_succ]) (hCont (v225) _ ⟨hHeld, (by have X_ := HO226.out; exact TR), TK, TB⟩)
      rintro v225 w18 ⟨hS_, h0_, h1_, h2_⟩
      have n0_ : Aside0 (Kd.R (Kd.int .u8) 5 w18 w.heap.size (fun _ => True) v225 y224) := ⟨h0_⟩
      have n1_ : Aside0 (w18.heap[gb222]? = some (.cells #[.slice A0_0 l0_0.length c0_0, .slice A0_1 l0_1.length c0_1, .int .i64 a0_2, .int .i64 a0_3, .int .i64 a0_4, .slice A0_5 l0_5.length c0_5] 33 (0, 0))) := ⟨h1_⟩
      have n2_ : Aside0 (Below w.heap.size w w18) := ⟨h2_⟩
      clear BK222
      clear HB
      clear h0_ h1_ h2_
      have HO226 := n0_
      have BK222 := n1_
      have HB := n2_
      clear n0_ n1_ n2_
      have hHeld : w18.cell? ⟨gb222, 0, none⟩ = some (.slice A0_0 l0_0.length c0_0) ∧ w18.cell? ⟨gb222, 1, none⟩ = some (.slice A0_1 l0_1.length c0_1) ∧ w18.cell? ⟨gb222, 2, none⟩ = some (.int .i64 a0_2) ∧ w18.cell? ⟨gb222, 3, none⟩ = some (.int .i64 a0_3) ∧ w18.cell? ⟨gb222, 4, none⟩ = some (.int .i64 a0_4) ∧ w18.cell? ⟨gb222, 5, none⟩ = some (.slice A0_5 l0_5.length c0_5) := hS_
      refine norm_ (a' := ?_) ?_ ?_
      rotate_left
      · simp only [putAll, Act.put, List.setIfInBounds_toArray, List.set_cons_zero, List.set_cons_succ]
        rfl
      refine pOe 13 (some 21) #[true, true, true, true, true, true, true, true, true, true, true, true, true, true, false, false] (fun K hK => ?_)
      refine Kd.R_append_rows_step (Kd.int .u8) (w0 := w) w.heap.size (by rfl) (.tmp 11) (.tmp 20) 22 5 (.int .u8 0) 1 rfl Try.underlying22 info5 rfl (by decide) (by omega) v225 y224 (l0_1.take (a0_4 : Int).toNat) _ _ _ (fun _ => True) (fun _ => False) rfl rfl ?aO ?aR (fun _ _ h => h) (fun _ h => h.elim) ?aF ?aB ?aS ?aL ?_
      (case aR => first | (have hz_ := (Kd.C_below HR227.out HB.out); rw [show (l0_1.take (a0_4 : Int).toNat).length = a0_4.toNat from (by rw [List.length_take]; have h_ : (a0_4 : Int) ≤ (l0_1.length : Int) := DT; omega)] at hz_; exact hz_) | (rw [← show (l0_1.take (a0_4 : Int).toNat).length = a0_4.toNat from (by rw [List.length_take]; have h_ : (a0_4 : Int) ≤ (l0_1.length : Int) := DT; omega)]; repeat (first | exact (Kd.C_below HR227.out HB.out) | (with_reducible refine Kd.C_alloc ?_ _) | (with_reducible refine Kd.C_drewN ?_ _) | (with_reducible refine Kd.C_drew ?_))) | (repeat (first | exact (Kd.C_below HR227.out HB.out) | (with_reducible refine Kd.C_alloc ?_ _) | (with_reducible refine Kd.C_drewN ?_ _) | (with_reducible refine Kd.C_drew ?_))))
      (case aB => exact TB)
      (case aF => exact (fun _ _ => trivial))
      (case aO => exact (by have X_ := HO226.out; exact TR))
      (case aS => exact (below_size TB))
      (case aL => have := LMc11.out; have hlx_ := (show (l0_1.take (a0_4 : Int).toNat).length = a0_4.toNat from (by rw [List.length_take]; have h_ : (a0_4 : Int) ≤ (l0_1.length : Int) := DT; omega)); omega)
      intro v229 w19 ho hb hg hat
      rw [← Ny228.out] at ho
      have n0_ := aM (blk_grown (g := gb222) (o := .cells #[.slice A0_0 l0_0.length c0_0, .slice A0_1 l0_1.length c0_1, .int .i64 a0_2, .int .i64 a0_3, .int .i64 a0_4, .slice A0_5 l0_5.length c0_5] 33 (0, 0)) TK hg (Kd.R_ne HO226.out BK222.out (by decide)))
      have n1_ := aM (hb)
      have n2_ := aM (ho)
      clear BK222
      clear HB
      clear HO226
      have BK222 := n0_
      have HB := n1_
      have HO230 := n2_
      clear n0_ n1_ n2_
      clear ho hb hg hat
      refine hK.out _ _ (cz6 BK222.out) (fun hHeld => ?_)
      clear hK K
      refine nR ?_
      refine pPe 14 (some 2) #[true, true, true, true, true, true, true, true, true, true, true, true, true, true, true, false] ?_
      refine pPe 15 (some 3) #[true, true, true, true, true, true, true, true, true, true, true, true, true, true, true, true] ?_
      refine done_ (done_of HT_.out (by kernel_rfl)) ?_
      try go_wp2
      go_ret2
      exact ⟨_, by first | rfl | (simp [errW_none, errW_some] <;> rfl) | (simp [*, errW_none, errW_some] <;> rfl), by have X_ := HO230.out; exact TR, TB⟩
    · rw [if_neg c7] at H
      have c7b0 : (a0_3 == 1) = false := beq_eq_false_iff_ne.mpr c7
      have c7b1 : (a0_3 != 1) = true := bne_iff_ne.mpr c7
      replace H := bE H
      obtain ⟨_, A20, H⟩ := H
      replace H := ifN H
      obtain ⟨c21, H⟩ := H
      have c21b0 := eq_true c21
      have c21b1 : decide (0 ≤ a0_4) = true := decide_eq_true c21
      clear c21
      replace H := ifN H
      obtain ⟨c22, H⟩ := H
      have c22b0 := eq_true c22
      have c22b1 : decide (a0_4 ≤ (l0_0.length : Int)) = true := decide_eq_true c22
      clear c22
      replace H := ifN H
      obtain ⟨c23, H⟩ := H
      have LMc23 := aM c23
      clear c23
      obtain ⟨y232, hy232⟩ : ∃ y_ : List Int, y_ = (y224 ++ (l0_0.take (a0_4 : Int).toNat)) := ⟨_, rfl⟩
      rw [← hy232] at H
      have Ny232 := aM hy232
      clear hy232
      simp only [Option.some.injEq, Prod.mk.injEq] at H
      obtain ⟨rfl, rfl⟩ := H
      try go_wp2_with (first | ((with_reducible refine gate_callee (f := 69) rfl ?_); refine gL (some 5) Try.func69 #[.agg #[.slice A0_0 l0_0.length c0_0, .slice A0_1 l0_1.length c0_1, .int .i64 a0_2, .int .i64 a0_3, .int .i64 a0_4, .slice A0_5 l0_5.length c0_5]] ?_; (with_reducible refine (spec_DiskOk.calls k _ _ l0_0 _ _ l0_1 a0_2 a0_3 a0_4 _ _ l0_5 true _ ?side1 ?side2 ?side3 ?side4 ?side5 ?side6 A2.out).mono ?_); (case side1 => repeat (first | exact (Kd.C_below HR0_0.out TB) | (with_reducible refine Kd.C_alloc ?_ _) | (with_reducible refine Kd.C_drewN ?_ _) | (with_reducible refine Kd.C_drew ?_))); (case side2 => exact HC0_0.out); (case side3 => repeat (first | exact (Kd.C_below HR0_1.out TB) | (with_reducible refine Kd.C_alloc ?_ _) | (with_reducible refine Kd.C_drewN ?_ _) | (with_reducible refine Kd.C_drew ?_))); (case side4 => exact HC0_1.out); (case side5 => repeat (first | exact (Kd.C_below HR0_5.out TB) | (with_reducible refine Kd.C_alloc ?_ _) | (with_reducible refine Kd.C_drewN ?_ _) | (with_reducible refine Kd.C_drew ?_))); (case side6 => exact HC0_5.out); rintro e w24 ⟨rfl, hb⟩; refine ⟨_, rfl, ?_⟩; replace BK222 := aM (blk_below (by have X_ := BK222.out; exact TX) hb); replace HB := aM (below_step TB hb); clear hb; obtain ⟨i025, hi025, _, hsz25, _⟩ := info_parts info5; obtain ⟨hcut25, hA25, hC25⟩ := print_take_of (P := Try.prog) (Value.int .u8) 0 22 5 .i64 Try.underlying22 hi025 hsz25 A0_0 c0_0 l0_0 a0_4 DT DT HC0_0.out; have HR231 := aM (Kd.C_of_reads (h1 := fun _ => rfl) (hA25 _ (Kd.reads_of_C HR0_0.out))); have HC231 := aM hC25; clear hA25 hC25 hi025 hsz25))
      replace BK222 := aM (blk_drew BK222.out)
      replace HB := aM (below_drew1 HB.out)
      refine start_ (n := 16) (S := fun w' => w'.cell? ⟨gb222, 0, none⟩ = some (.slice A0_0 l0_0.length c0_0) ∧ w'.cell? ⟨gb222, 1, none⟩ = some (.slice A0_1 l0_1.length c0_1) ∧ w'.cell? ⟨gb222, 2, none⟩ = some (.int .i64 a0_2) ∧ w'.cell? ⟨gb222, 3, none⟩ = some (.int .i64 a0_3) ∧ w'.cell? ⟨gb222, 4, none⟩ = some (.int .i64 a0_4) ∧ w'.cell? ⟨gb222, 5, none⟩ = some (.slice A0_5 l0_5.length c0_5)) (ds := []) #[false, false, false, false, false, false, false, false, false, false, false, false, false, false, false, false] (by kernel_rfl) rfl rfl (cz6 BK222.out) (fun hHeld => ?_); refine with_tabW spec_Recover.tab3 spec_Recover.bits3 (fun HT_ HW_ => ?_)
      generalize w24.drew = w26 at BK222 HB hHeld ⊢
      refine pPe 0 (some 8) #[true, false, false, false, false, false, false, false, false, false, false, false, false, false, false, false] ?_
      refine pPe 1 (some 9) #[true, true, false, false, false, false, false, false, false, false, false, false, false, false, false, false] ?_
      refine pPe 5 (some 13) #[true, true, false, false, false, true, false, false, false, false, false, false, false, false, false, false] ?_
      refine pPe 6 (some 14) #[true, true, false, false, false, true, true, false, false, false, false, false, false, false, false, false] ?_
      refine pPe 9 (some 17) #[true, true, false, false, false, true, true, false, false, true, false, false, false, false, false, false] ?_
      refine pPe 10 (some 18) #[true, true, false, false, false, true, true, false, false, true, true, false, false, false, false, false] ?_
      refine pTe 2 (some 10) #[true, true, true, false, false, true, true, false, false, true, true, false, false, false, false, false] ?_
      refine pTe 4 (some 12) #[true, true, true, false, true, true, true, false, false, true, true, false, false, false, false, false] ?_
      refine pTe 7 (some 15) #[true, true, true, false, true, true, true, true, false, true, true, false, false, false, false, false] ?_
      refine pTe 11 (some 19) #[true, true, true, false, true, true, true, true, false, true, true, true, false, false, false, false] ?_
      refine join_ (σ := Value) 3 #[true, true, true, true, true, true, true, true, true, true, true, true, true, false, false, false] (fun s_ => [(11, s_), (16, .slice A0_0 l0_0.length c0_0), (20, .slice A0_0 a0_4.toNat c0_0)]) (fun s_ w' => (w'.cell? ⟨gb222, 0, none⟩ = some (.slice A0_0 l0_0.length c0_0) ∧ w'.cell? ⟨gb222, 1, none⟩ = some (.slice A0_1 l0_1.length c0_1) ∧ w'.cell? ⟨gb222, 2, none⟩ = some (.int .i64 a0_2) ∧ w'.cell? ⟨gb222, 3, none⟩ = some (.int .i64 a0_3) ∧ w'.cell? ⟨gb222, 4, none⟩ = some (.int .i64 a0_4) ∧ w'.cell? ⟨gb222, 5, none⟩ = some (.slice A0_5 l0_5.length c0_5)) ∧ (Kd.R (Kd.int .u8) 5 w' w.heap.size (fun _ => True) s_ y224) ∧ (w'.heap[gb222]? = some (.cells #[.slice A0_0 l0_0.length c0_0, .slice A0_1 l0_1.length c0_1, .int .i64 a0_2, .int .i64 a0_3, .int .i64 a0_4, .slice A0_5 l0_5.length c0_5] 33 (0, 0))) ∧ (Below w.heap.size w w')) ?_ ?_
      rotate_left
      · intro hCont
        refine two_ (i := 3) (j := 8) (Ni := some 11) (Nj := some 16) #[true, true, true, true, true, true, true, true, false, true, true, true, false, false, false, false] #[true, true, true, false, true, true, true, true, true, true, true, true, false, false, false, false] rfl rfl rfl rfl (two_of HT_.out (by kernel_rfl)) (by decide) (by decide) (fun K hK => ?_) (fun K hK => ?_)
        · skip
          refine Kd.R_lit_step (Kd.int .u8) _ 5 ?hg (N := 11) ?hd (xs := ([] : List Int)) (inner := []) (ok := fun _ => True) (okp := fun _ => True) ?hr ?hp (fun _ hk => hk) trivial (Below.refl _ _) (Nat.le_refl _) (by simp) ?_; (case hd => rfl); (case hg => rfl); (case hr => first | (go_simp; done) | (go_simp; rfl)); (case hp => exact (Reps.none _ _))
          intro v225 w27 ho28 hb hg_ hnew_
          clear hg_ hnew_
          (first | rw [← Ny224.out] at ho28 | (simp only [Int.reduceToNat] at ho28; rw [← Ny224.out] at ho28))
          have n0_ := aM (Kd.R_lower ho28 (below_size TB))
          have n1_ := aM (blk_below (by have X_ := BK222.out; exact TX) hb)
          have n2_ := aM (below_step TB hb)
          clear BK222
          clear HB
          have HO226 := n0_
          have BK222 := n1_
          have HB := n2_
          clear n0_ n1_ n2_
          clear hb ho28
          refine hK.out _ _ (cz6 BK222.out) (fun hHeld => ?_)
          clear hK K
          refine nR ?_
          refine pOe 8 (some 16) #[true, true, true, true, true, true, true, true, true, true, true, true, false, false, false, false] (fun K hK => ?_)
          refine gG Try.func114 #[.agg #[.slice A0_0 l0_0.length c0_0, .slice A0_1 l0_1.length c0_1, .int .i64 a0_2, .int .i64 a0_3, .int .i64 a0_4, .slice A0_5 l0_5.length c0_5], .int .i64 a0_3] ?_
          with_reducible refine (spec_l9Slot.o0.calls _ _ l0_0 _ _ l0_1 a0_2 a0_3 a0_4 _ _ l0_5 a0_3  _ ?side1 ?side2 ?side3 ?side4 ?side5 ?side6 A20.out).mono ?_
          (case side1 => have X_ := (Kd.C_below HR0_0.out HB.out); exact TC)
          (case side2 => exact HC0_0.out)
          (case side3 => have X_ := (Kd.C_below HR0_1.out HB.out); exact TC)
          (case side4 => exact HC0_1.out)
          (case side5 => have X_ := (Kd.C_below HR0_5.out HB.out); exact TC)
          (case side6 => exact HC0_5.out)
          rintro e w29 ⟨rfl, hb⟩
          refine ⟨_, rfl, ?_⟩
          have n0_ := aM (Kd.R_below (by have X_ := HO226.out; exact TR) hb)
          have n1_ := aM (blk_below (by have X_ := BK222.out; exact TX) hb)
          have n2_ := aM (below_step TB hb)
          clear HO226
          clear BK222
          clear HB
          have HO226 := n0_
          have BK222 := n1_
          have HB := n2_
          clear n0_ n1_ n2_
          (try clear hb)
          (try clear hb2)
          (try clear hk)
          (try clear hi)
          refine hK.out _ _ (cz6 BK222.out) (fun hHeld => ?_)
          clear hK K
          refine nR ?_
          refine pPe 12 (some 20) #[true, true, true, true, true, true, true, true, true, true, true, true, true, false, false, false] ?_
          exact norm_ (by simp only [putAll, Act.put, List.setIfInBounds_toArray, List.set_cons_zero, List.set_cons_succ]) (hCont (v225) _ ⟨hHeld, (by have X_ := HO226.out; exact TR), TK, TB⟩)
        · skip
          refine gG Try.func114 #[.agg #[.slice A0_0 l0_0.length c0_0, .slice A0_1 l0_1.length c0_1, .int .i64 a0_2, .int .i64 a0_3, .int .i64 a0_4, .slice A0_5 l0_5.length c0_5], .int .i64 a0_3] ?_
          with_reducible refine (spec_l9Slot.o0.calls _ _ l0_0 _ _ l0_1 a0_2 a0_3 a0_4 _ _ l0_5 a0_3  _ ?side1 ?side2 ?side3 ?side4 ?side5 ?side6 A20.out).mono ?_
          (case side1 => have X_ := (Kd.C_below HR0_0.out HB.out); exact TC)
          (case side2 => exact HC0_0.out)
          (case side3 => have X_ := (Kd.C_below HR0_1.out HB.out); exact TC)
          (case side4 => exact HC0_1.out)
          (case side5 => have X_ := (Kd.C_below HR0_5.out HB.out); exact TC)
          (case side6 => exact HC0_5.out)
          rintro e w27 ⟨rfl, hb⟩
          refine ⟨_, rfl, ?_⟩
          have n0_ := aM (blk_below (by have X_ := BK222.out; exact TX) hb)
          have n1_ := aM (below_step TB hb)
          clear BK222
          clear HB
          have BK222 := n0_
          have HB := n1_
          clear n0_ n1_
          (try clear hb)
          (try clear hb2)
          (try clear hk)
          (try clear hi)
          refine hK.out _ _ (cz6 BK222.out) (fun hHeld => ?_)
          clear hK K
          refine nR ?_
          refine pPe 12 (some 20) #[true, true, true, false, true, true, true, true, true, true, true, true, true, false, false, false] ?_
          refine pOe 3 (some 11) #[true, true, true, true, true, true, true, true, true, true, true, true, true, false, false, false] (fun K hK => ?_)
          refine Kd.R_lit_step (Kd.int .u8) _ 5 ?hg (N := 11) ?hd (xs := ([] : List Int)) (inner := []) (ok := fun _ => True) (okp := fun _ => True) ?hr ?hp (fun _ hk => hk) trivial (Below.refl _ _) (Nat.le_refl _) (by simp) ?_; (case hd => rfl); (case hg => rfl); (case hr => first | (go_simp; done) | (go_simp; rfl)); (case hp => exact (Reps.none _ _))
          intro v225 w28 ho29 hb hg_ hnew_
          clear hg_ hnew_
          (first | rw [← Ny224.out] at ho29 | (simp only [Int.reduceToNat] at ho29; rw [← Ny224.out] at ho29))
          have n0_ := aM (Kd.R_lower ho29 (below_size TB))
          have n1_ := aM (blk_below (by have X_ := BK222.out; exact TX) hb)
          have n2_ := aM (below_step TB hb)
          clear BK222
          clear HB
          have HO226 := n0_
          have BK222 := n1_
          have HB := n2_
          clear n0_ n1_ n2_
          clear hb ho29
          refine hK.out _ _ (cz6 BK222.out) (fun hHeld => ?_)
          clear hK K
          refine nR ?_
          exact norm_ (by simp only [putAll, Act.put, List.setIfInBounds_toArray, List.set_cons_zero, List.set_cons_succ]) (hCont (v225) _ ⟨hHeld, (by have X_ := HO226.out; exact TR), TK, TB⟩)
      rintro v225 w30 ⟨hS_, h0_, h1_, h2_⟩
      have n0_ : Aside0 (Kd.R (Kd.int .u8) 5 w30 w.heap.size (fun _ => True) v225 y224) := ⟨h0_⟩
      have n1_ : Aside0 (w30.heap[gb222]? = some (.cells #[.slice A0_0 l0_0.length c0_0, .slice A0_1 l0_1.length c0_1, .int .i64 a0_2, .int .i64 a0_3, .int .i64 a0_4, .slice A0_5 l0_5.length c0_5] 33 (0, 0))) := ⟨h1_⟩
      have n2_ : Aside0 (Below w.heap.size w w30) := ⟨h2_⟩
      clear BK222
      clear HB
      clear h0_ h1_ h2_
      have HO226 := n0_
      have BK222 := n1_
      have HB := n2_
      clear n0_ n1_ n2_
      have hHeld : w30.cell? ⟨gb222, 0, none⟩ = some (.slice A0_0 l0_0.length c0_0) ∧ w30.cell? ⟨gb222, 1, none⟩ = some (.slice A0_1 l0_1.length c0_1) ∧ w30.cell? ⟨gb222, 2, none⟩ = some (.int .i64 a0_2) ∧ w30.cell? ⟨gb222, 3, none⟩ = some (.int .i64 a0_3) ∧ w30.cell? ⟨gb222, 4, none⟩ = some (.int .i64 a0_4) ∧ w30.cell? ⟨gb222, 5, none⟩ = some (.slice A0_5 l0_5.length c0_5) := hS_
      refine norm_ (a' := ?_) ?_ ?_
      rotate_left
      · simp only [putAll, Act.put, List.setIfInBounds_toArray, List.set_cons_zero, List.set_cons_succ]
        rfl
      refine pOe 13 (some 21) #[true, true, true, true, true, true, true, true, true, true, true, true, true, true, false, false] (fun K hK => ?_)
      refine Kd.R_append_rows_step (Kd.int .u8) (w0 := w) w.heap.size (by rfl) (.tmp 11) (.tmp 20) 22 5 (.int .u8 0) 1 rfl Try.underlying22 info5 rfl (by decide) (by omega) v225 y224 (l0_0.take (a0_4 : Int).toNat) _ _ _ (fun _ => True) (fun _ => False) rfl rfl ?aO ?aR (fun _ _ h => h) (fun _ h => h.elim) ?aF ?aB ?aS ?aL ?_
      (case aR => first | (have hz_ := (Kd.C_below HR231.out HB.out); rw [show (l0_0.take (a0_4 : Int).toNat).length = a0_4.toNat from (by rw [List.length_take]; have h_ : (a0_4 : Int) ≤ (l0_0.length : Int) := DT; omega)] at hz_; exact hz_) | (rw [← show (l0_0.take (a0_4 : Int).toNat).length = a0_4.toNat from (by rw [List.length_take]; have h_ : (a0_4 : Int) ≤ (l0_0.length : Int) := DT; omega)]; repeat (first | exact (Kd.C_below HR231.out HB.out) | (with_reducible refine Kd.C_alloc ?_ _) | (with_reducible refine Kd.C_drewN ?_ _) | (with_reducible refine Kd.C_drew ?_))) | (repeat (first | exact (Kd.C_below HR231.out HB.out) | (with_reducible refine Kd.C_alloc ?_ _) | (with_reducible refine Kd.C_drewN ?_ _) | (with_reducible refine Kd.C_drew ?_))))
      (case aB => exact TB)
      (case aF => exact (fun _ _ => trivial))
      (case aO => exact (by have X_ := HO226.out; exact TR))
      (case aS => exact (below_size TB))
      (case aL => have := LMc23.out; have hlx_ := (show (l0_0.take (a0_4 : Int).toNat).length = a0_4.toNat from (by rw [List.length_take]; have h_ : (a0_4 : Int) ≤ (l0_0.length : Int) := DT; omega)); omega)
      intro v233 w31 ho hb hg hat
      rw [← Ny232.out] at ho
      have n0_ := aM (blk_grown (g := gb222) (o := .cells #[.slice A0_0 l0_0.length c0_0, .slice A0_1 l0_1.length c0_1, .int .i64 a0_2, .int .i64 a0_3, .int .i64 a0_4, .slice A0_5 l0_5.length c0_5] 33 (0, 0)) TK hg (Kd.R_ne HO226.out BK222.out (by decide)))
      have n1_ := aM (hb)
      have n2_ := aM (ho)
      clear BK222
      clear HB
      clear HO226
      have BK222 := n0_
      have HB := n1_
      have HO234 := n2_
      clear n0_ n1_ n2_
      clear ho hb hg hat
      refine hK.out _ _ (cz6 BK222.out) (fun hHeld => ?_)
      clear hK K
      refine nR ?_
      refine pPe 14 (some 2) #[true, true, true, true, true, true, true, true, true, true, true, true, true, true, true, false] ?_
      refine pPe 15 (some 3) #[true, true, true, true, true, true, true, true, true, true, true, true, true, true, true, true] ?_
      refine done_ (done_of HT_.out (by kernel_rfl)) ?_
      try go_wp2
      go_ret2
      exact ⟨_, by first | rfl | (simp [errW_none, errW_some] <;> rfl) | (simp [*, errW_none, errW_some] <;> rfl), by have X_ := HO234.out; exact TR, TB⟩
  · replace c6 := Bool.eq_false_iff.mpr c6
    subst c6
    replace H := ifF H
    obtain ⟨y235, hy235⟩ : ∃ y_ : List Int, y_ = (([] : List Int)) := ⟨_, rfl⟩
    rw [← hy235] at H
    have Ny235 := aM hy235
    clear hy235
    simp only [Option.some.injEq, Prod.mk.injEq] at H
    obtain ⟨rfl, rfl⟩ := H
    go_wp2_with (first | ((with_reducible refine gate_callee (f := 69) rfl ?_); refine gL (some 5) Try.func69 #[.agg #[.slice A0_0 l0_0.length c0_0, .slice A0_1 l0_1.length c0_1, .int .i64 a0_2, .int .i64 a0_3, .int .i64 a0_4, .slice A0_5 l0_5.length c0_5]] ?_; (with_reducible refine (spec_DiskOk.calls k _ _ l0_0 _ _ l0_1 a0_2 a0_3 a0_4 _ _ l0_5 false _ ?side1 ?side2 ?side3 ?side4 ?side5 ?side6 A2.out).mono ?_); (case side1 => repeat (first | exact (Kd.C_below HR0_0.out TB) | (with_reducible refine Kd.C_alloc ?_ _) | (with_reducible refine Kd.C_drewN ?_ _) | (with_reducible refine Kd.C_drew ?_))); (case side2 => exact HC0_0.out); (case side3 => repeat (first | exact (Kd.C_below HR0_1.out TB) | (with_reducible refine Kd.C_alloc ?_ _) | (with_reducible refine Kd.C_drewN ?_ _) | (with_reducible refine Kd.C_drew ?_))); (case side4 => exact HC0_1.out); (case side5 => repeat (first | exact (Kd.C_below HR0_5.out TB) | (with_reducible refine Kd.C_alloc ?_ _) | (with_reducible refine Kd.C_drewN ?_ _) | (with_reducible refine Kd.C_drew ?_))); (case side6 => exact HC0_5.out); rintro e w32 ⟨rfl, hb⟩; refine ⟨_, rfl, ?_⟩; replace BK222 := aM (blk_below (by have X_ := BK222.out; exact TX) hb); replace HB := aM (below_step TB hb); clear hb) | ((with_reducible refine gate_dst (N := 7) rfl ?_); refine Kd.R_lit (Kd.int .u8) _ 5 ?hg (N := 7) ?hd (xs := ([] : List Int)) (inner := []) (ok := fun _ => True) (okp := fun _ => True) ?hr ?hp (fun _ hk => hk) trivial (Below.refl _ _) (Nat.le_refl _) (by simp) ?_; (case hd => rfl); (case hg => rfl); (case hr => first | (go_simp; done) | (go_simp; rfl)); (case hp => exact (Reps.none _ _)); intro v236 w33 ho34 hb hg_ hnew_; clear hg_ hnew_; (first | rw [← Ny235.out] at ho34 | (simp only [Int.reduceToNat] at ho34; rw [← Ny235.out] at ho34)); have HO237 := aM (Kd.R_lower ho34 (below_size TB)); replace BK222 := aM (blk_below (by have X_ := BK222.out; exact TX) hb); replace HB := aM (below_step TB hb); clear hb ho34))
    go_ret2
    exact ⟨_, by first | rfl | (simp [errW_none, errW_some] <;> rfl) | (simp [*, errW_none, errW_some] <;> rfl), by have X_ := HO237.out; exact TR, TB⟩

/-! ### spec_SameBytes: function 133 -/
def spec_SameBytes.f (l0 : List Int) (l1 : List Int) : Option (Bool) := some ((strOfNums l0).toList == (strOfNums l1).toList)
set_option maxHeartbeats 40000000 in
set_option maxRecDepth 100000 in
theorem spec_SameBytes.calls (A0 : Option Addr) (c0 : Nat) (l0 : List Int) (A1 : Option Addr) (c1 : Nat) (l1 : List Int) (r : Bool) (w : World) (hr0 : Kd.C (Kd.int .u8) w A0 l0.length l0) (hc0 : l0.length ≤ c0) (hr1 : Kd.C (Kd.int .u8) w A1 l1.length l1) (hc1 : l1.length ≤ c1) (h : spec_SameBytes.f l0 l1 = some r) :
  Calls Try.prog 133 #[.slice A0 l0.length c0, .slice A1 l1.length c1] w fun e w' => e = .returned (.bool r) ∧ Drawn0 w w' := by
 have HR0 := aM hr0
 have HC0 := aM hc0
 clear hr0 hc0
 have HR1 := aM hr1
 have HC1 := aM hc1
 clear hr1 hc1
 have H := h
 clear h
 unfold spec_SameBytes.f at H
 obtain rfl := Option.some.inj H
 have hcv3 := Kd.C_string (P := Try.prog) (A := A0) (c := c0) Try.underlying22 Try.underlying5 Try.underlying9 HR0.out
 have hcv4 := Kd.C_string (P := Try.prog) (A := A1) (c := c1) Try.underlying22 Try.underlying5 Try.underlying9 HR1.out
 go_enter Try.func133, Try.ntmps133
 go_wp2
 go_ret
 exact ⟨by first | rfl | (simp; done) | (simp [*]; done), TD⟩

end Go.Proofs.Ytlghklbjmmijpaa.Q
