/- Functions of the program as plain Lean functions, and that a call of each comes to what its function tells. Written by a program of this seat. -/
import Derived.Test.YtogilihkphjjbaaQ0
import Derived.Test.YtogilihkphjjbaaQ4
namespace Go.Proofs.Ytogilihkphjjbaa.Q
open Go.RowKit Go.Proofs.YtogilihkphjjbaaW.PrintWords Go.Proofs.YtogilihkphjjbaaW.PrintLast Go.Proofs.YtogilihkphjjbaaW.PrintMore
attribute [local go_sem] max2_int min2_int max_two min_two max_three min_three max_four min_four   -- for this text's walks alone
set_option linter.unusedVariables false
set_option linter.unusedSimpArgs false

/-! ### laws_eqPutS: function 60 -/
def laws_eqPutS.l0 : Nat → List (S55) → List (S55) → Int → Option (Bool)
  | 0, _, _, _ => none
  | k + 1, x0, x1, x5 => if x5 < (x0.length : Int) then (if 0 ≤ x5 then (if x5 < (x1.length : Int) then ((laws_eqPut.f k ((rd_T55 x0 x5).f0) ((rd_T55 x0 x5).f1) ((rd_T55 x0 x5).f2) ((rd_T55 x0 x5).f3.f0) ((rd_T55 x0 x5).f3.f1) ((rd_T55 x0 x5).f3.f2) ((rd_T55 x1 x5).f0) ((rd_T55 x1 x5).f1) ((rd_T55 x1 x5).f2) ((rd_T55 x1 x5).f3.f0) ((rd_T55 x1 x5).f3.f1) ((rd_T55 x1 x5).f3.f2)).bind fun t166 => (if t166 = true then (laws_eqPutS.l0 k x0 x1 (wrap64 (x5 + 1))) else (some false))) else (none)) else (none)) else (some true)
def laws_eqPutS.f (k : Nat) (l0 : List (S55)) (l1 : List (S55)) : Option (Bool) := if (l0.length : Int) = (l1.length : Int) then (laws_eqPutS.l0 k l0 l1 0) else (some false)
theorem laws_eqPutS.mono_l : ∀ k, (∀ y0 y1 y2, LeO (laws_eqPutS.l0 k y0 y1 y2) (laws_eqPutS.l0 (k + 1) y0 y1 y2))
  | 0 => fun _ _ _ r h => by simp [laws_eqPutS.l0] at h
  | k + 1 => by
    have m0_ := @laws_eqPut.mono
    have ih0 := laws_eqPutS.mono_l k
    · intro y0 y1 y2
      unfold laws_eqPutS.l0
      exact LM
theorem laws_eqPutS.mono : ∀ a0 a1 k, LeO (laws_eqPutS.f k a0 a1) (laws_eqPutS.f (k + 1) a0 a1) := by
  intro a0 a1 k
  have m0_ := @laws_eqPut.mono
  have ih0 := laws_eqPutS.mono_l k
  unfold laws_eqPutS.f
  exact LM
def laws_eqPutS.T6 : Bool × List (List Nat × List Nat) := (true, [([], []), ([], []), ([0, 1], [0, 1]), ([2], [2]), ([], []), ([], []), ([4, 5], [4, 5]), ([6], [6]), ([3, 7], [3, 7]), ([8], [8])])
def laws_eqPutS.B6 : List Nat := [0, 0, 3, 7, 0, 0, 48, 112, 255, 511]
theorem laws_eqPutS.tab6 : rtab .any (opsOf Try.f60 6) = laws_eqPutS.T6 := by kernel_rfl
theorem laws_eqPutS.bits6 : waitsOk laws_eqPutS.T6.2 laws_eqPutS.B6 = true := by kernel_rfl
set_option maxHeartbeats 40000000 in
set_option maxRecDepth 100000 in
theorem laws_eqPutS.calls (k : Nat) (A0 : Option Addr) (c0 : Nat) (l0 : List (S55)) (A1 : Option Addr) (c1 : Nat) (l1 : List (S55)) (r : Bool) (w : World) (hr0 : Kd.C k55 w A0 l0.length l0) (hc0 : l0.length ≤ c0) (hr1 : Kd.C k55 w A1 l1.length l1) (hc1 : l1.length ≤ c1) (h : laws_eqPutS.f k l0 l1 = some r) :
    Calls Try.prog 60 #[.slice A0 l0.length c0, .slice A1 l1.length c1] w fun e w' => e = .returned (.bool r) ∧ Below w.heap.size w w' := by
  have hu55 := Try.underlying55
  have HR0 := aM hr0
  have HC0 := aM hc0
  clear hr0 hc0
  have HR1 := aM hr1
  have HC1 := aM hc1
  clear hr1 hc1
  have HB := aM (Below.refl w.heap.size w)
  have H := h
  clear h
  unfold laws_eqPutS.f at H
  by_cases c3 : (l0.length : Int) = (l1.length : Int)
  · rw [if_pos c3] at H
    have c3b0 : ((l0.length : Int) == (l1.length : Int)) = true := beq_iff_eq.mpr c3
    have c3b1 : ((l0.length : Int) != (l1.length : Int)) = false := bne_eq_false_iff_eq.mpr c3
    have c3b2 : (l0.length == l1.length) = true := by first | simpa using c3 | (simp at c3 ⊢; omega)
    clear c3
    have H' := aM H
    clear H
    go_enter Try.func60, Try.ntmps60
    go_wp2
    go_loopg [5] k (fun kq v5 w' => ∃ (x5_1 : Int), v5 = .int .i64 x5_1 ∧ Aside0 (laws_eqPutS.l0 kq l0 l1 x5_1 = some r) ∧ Aside0 (kq ≤ k) ∧ Aside0 (Below w.heap.size w w'))
    case atStart => exact ⟨(0), (by first | rfl | (simp; done) | (simp [*]; done)), H', ⟨Nat.le_refl _⟩, ⟨TB⟩⟩
    case round =>
      clear H'
      try clear c1
      try clear p2
      try clear c3
      try clear c3b0
      try clear c3b1
      try clear c3b2
      obtain ⟨x5_1, rfl, HA, HK1, HB⟩ := hrel
      cases gk with
      | zero => exact absurd HA.out (by simp [laws_eqPutS.l0])
      | succ k1 =>
        have H := HA.out
        clear HA
        simp only [laws_eqPutS.l0] at H
        by_cases c4 : x5_1 < (l0.length : Int)
        · rw [if_pos c4] at H
          have c4b0 : decide (x5_1 < (l0.length : Int)) = true := decide_eq_true c4
          clear c4
          replace H := ifN H
          obtain ⟨c5, H⟩ := H
          have c5b0 : decide (0 ≤ x5_1) = true := decide_eq_true c5
          clear c5
          replace H := ifN H
          obtain ⟨c6, H⟩ := H
          have c6b0 : decide (x5_1 < (l1.length : Int)) = true := decide_eq_true c6
          clear c6
          replace H := bE H
          obtain ⟨t166, A7, H⟩ := H
          by_cases c8 : t166 = true
          · subst c8
            replace H := ifT H
            have H' := aM H
            clear H
            try go_wp2
            replace HB := aM (below_drew1 HB.out)
            have p164 : 0 ≤ (x5_1 : Int) := DT
            have q164 : x5_1 < (l0.length : Int) := DT
            obtain ⟨ad164, A164_2, c164_2, e164, hx164_0, hx164_1, hx164_2, hx164_3, hx164_4, hx164_5, hl164_2, hi164_2⟩ := at_T55 HR0.out x5_1 p164 q164
            have hw164_5 := hx164_5
            have hw164_4 := hx164_4
            have hw164_3 := hx164_3
            have hw164_2 := hx164_2
            have hw164_1 := hx164_1
            have hw164_0 := hx164_0
            cases e164
            replace hx164_0 := (HB.out.cell (World.block_lt_of_cell? w _ hx164_0)).trans hx164_0
            replace hx164_1 := (HB.out.cell (World.block_lt_of_cell? w _ hx164_1)).trans hx164_1
            replace hx164_2 := (HB.out.cell (World.block_lt_of_cell? w _ hx164_2)).trans hx164_2
            replace hx164_3 := (HB.out.cell (World.block_lt_of_cell? w _ hx164_3)).trans hx164_3
            replace hx164_4 := (HB.out.cell (World.block_lt_of_cell? w _ hx164_4)).trans hx164_4
            replace hx164_5 := (HB.out.cell (World.block_lt_of_cell? w _ hx164_5)).trans hx164_5
            have HR164_2 := aM hi164_2
            have HC164_2 := aM hl164_2
            clear hi164_2 hl164_2
            replace p164 := eq_true p164
            replace q164 := eq_true q164
            have p165 : 0 ≤ (x5_1 : Int) := DT
            have q165 : x5_1 < (l1.length : Int) := DT
            obtain ⟨ad165, A165_2, c165_2, e165, hx165_0, hx165_1, hx165_2, hx165_3, hx165_4, hx165_5, hl165_2, hi165_2⟩ := at_T55 HR1.out x5_1 p165 q165
            have hw165_5 := hx165_5
            have hw165_4 := hx165_4
            have hw165_3 := hx165_3
            have hw165_2 := hx165_2
            have hw165_1 := hx165_1
            have hw165_0 := hx165_0
            cases e165
            replace hx165_0 := (HB.out.cell (World.block_lt_of_cell? w _ hx165_0)).trans hx165_0
            replace hx165_1 := (HB.out.cell (World.block_lt_of_cell? w _ hx165_1)).trans hx165_1
            replace hx165_2 := (HB.out.cell (World.block_lt_of_cell? w _ hx165_2)).trans hx165_2
            replace hx165_3 := (HB.out.cell (World.block_lt_of_cell? w _ hx165_3)).trans hx165_3
            replace hx165_4 := (HB.out.cell (World.block_lt_of_cell? w _ hx165_4)).trans hx165_4
            replace hx165_5 := (HB.out.cell (World.block_lt_of_cell? w _ hx165_5)).trans hx165_5
            have HR165_2 := aM hi165_2
            have HC165_2 := aM hl165_2
            clear hi165_2 hl165_2
            replace p165 := eq_true p165
            replace q165 := eq_true q165
            refine start_ (n := 10) (S := fun w' => w'.cell? (ad164.add ((x5_1).toNat * 6)) = some (.int .i64 ((rd_T55 l0 x5_1).f0)) ∧ w'.cell? ⟨(ad164.add ((x5_1).toNat * 6)).block, (ad164.add ((x5_1).toNat * 6)).off + 1, none⟩ = some (.int .i64 ((rd_T55 l0 x5_1).f1)) ∧ w'.cell? ⟨(ad164.add ((x5_1).toNat * 6)).block, (ad164.add ((x5_1).toNat * 6)).off + 2, none⟩ = some (.slice A164_2 ((rd_T55 l0 x5_1).f2).length c164_2) ∧ w'.cell? ⟨(ad164.add ((x5_1).toNat * 6)).block, (ad164.add ((x5_1).toNat * 6)).off + 3, none⟩ = some (.int .i64 ((rd_T55 l0 x5_1).f3.f0)) ∧ w'.cell? ⟨(ad164.add ((x5_1).toNat * 6)).block, (ad164.add ((x5_1).toNat * 6)).off + 4, none⟩ = some (.int .i64 ((rd_T55 l0 x5_1).f3.f1)) ∧ w'.cell? ⟨(ad164.add ((x5_1).toNat * 6)).block, (ad164.add ((x5_1).toNat * 6)).off + 5, none⟩ = some (.int .i64 ((rd_T55 l0 x5_1).f3.f2)) ∧ w'.cell? (ad165.add ((x5_1).toNat * 6)) = some (.int .i64 ((rd_T55 l1 x5_1).f0)) ∧ w'.cell? ⟨(ad165.add ((x5_1).toNat * 6)).block, (ad165.add ((x5_1).toNat * 6)).off + 1, none⟩ = some (.int .i64 ((rd_T55 l1 x5_1).f1)) ∧ w'.cell? ⟨(ad165.add ((x5_1).toNat * 6)).block, (ad165.add ((x5_1).toNat * 6)).off + 2, none⟩ = some (.slice A165_2 ((rd_T55 l1 x5_1).f2).length c165_2) ∧ w'.cell? ⟨(ad165.add ((x5_1).toNat * 6)).block, (ad165.add ((x5_1).toNat * 6)).off + 3, none⟩ = some (.int .i64 ((rd_T55 l1 x5_1).f3.f0)) ∧ w'.cell? ⟨(ad165.add ((x5_1).toNat * 6)).block, (ad165.add ((x5_1).toNat * 6)).off + 4, none⟩ = some (.int .i64 ((rd_T55 l1 x5_1).f3.f1)) ∧ w'.cell? ⟨(ad165.add ((x5_1).toNat * 6)).block, (ad165.add ((x5_1).toNat * 6)).off + 5, none⟩ = some (.int .i64 ((rd_T55 l1 x5_1).f3.f2))) (ds := []) (Array.replicate 10 false) (by kernel_rfl) rfl rfl ⟨((HB.out.cell (World.block_lt_of_cell? w _ hw164_0)).trans hw164_0), ((HB.out.cell (World.block_lt_of_cell? w _ hw164_1)).trans hw164_1), ((HB.out.cell (World.block_lt_of_cell? w _ hw164_2)).trans hw164_2), ((HB.out.cell (World.block_lt_of_cell? w _ hw164_3)).trans hw164_3), ((HB.out.cell (World.block_lt_of_cell? w _ hw164_4)).trans hw164_4), ((HB.out.cell (World.block_lt_of_cell? w _ hw164_5)).trans hw164_5), ((HB.out.cell (World.block_lt_of_cell? w _ hw165_0)).trans hw165_0), ((HB.out.cell (World.block_lt_of_cell? w _ hw165_1)).trans hw165_1), ((HB.out.cell (World.block_lt_of_cell? w _ hw165_2)).trans hw165_2), ((HB.out.cell (World.block_lt_of_cell? w _ hw165_3)).trans hw165_3), ((HB.out.cell (World.block_lt_of_cell? w _ hw165_4)).trans hw165_4), ((HB.out.cell (World.block_lt_of_cell? w _ hw165_5)).trans hw165_5)⟩ (fun hHeld => ?_); refine with_tabW laws_eqPutS.tab6 laws_eqPutS.bits6 (fun HT_ HW_ => ?_)
            generalize wr.drew = w9 at HB HR164_2 HR165_2 hx164_0 hx164_1 hx164_2 hx164_3 hx164_4 hx164_5 hx165_0 hx165_1 hx165_2 hx165_3 hx165_4 hx165_5 hHeld ⊢
            refine pP 0 (some 17) ?_
            refine pP 1 (some 18) ?_
            refine pP 2 (some 19) ?_
            refine pP 4 (some 21) ?_
            refine pP 5 (some 22) ?_
            refine pP 6 (some 23) ?_
            refine pT 3 (some 20) ?_
            refine pT 7 (some 24) ?_
            refine pO 8 (some 25) (fun K hK => ?_)
            refine gG Try.func40 #[.agg #[.int .i64 ((rd_T55 l0 x5_1).f0), .int .i64 ((rd_T55 l0 x5_1).f1), .slice A164_2 ((rd_T55 l0 x5_1).f2).length c164_2, .int .i64 ((rd_T55 l0 x5_1).f3.f0), .int .i64 ((rd_T55 l0 x5_1).f3.f1), .int .i64 ((rd_T55 l0 x5_1).f3.f2)], .agg #[.int .i64 ((rd_T55 l1 x5_1).f0), .int .i64 ((rd_T55 l1 x5_1).f1), .slice A165_2 ((rd_T55 l1 x5_1).f2).length c165_2, .int .i64 ((rd_T55 l1 x5_1).f3.f0), .int .i64 ((rd_T55 l1 x5_1).f3.f1), .int .i64 ((rd_T55 l1 x5_1).f3.f2)]] ?_
            with_reducible refine (laws_eqPut.calls k1 ((rd_T55 l0 x5_1).f0) ((rd_T55 l0 x5_1).f1) _ _ ((rd_T55 l0 x5_1).f2) ((rd_T55 l0 x5_1).f3.f0) ((rd_T55 l0 x5_1).f3.f1) ((rd_T55 l0 x5_1).f3.f2) ((rd_T55 l1 x5_1).f0) ((rd_T55 l1 x5_1).f1) _ _ ((rd_T55 l1 x5_1).f2) ((rd_T55 l1 x5_1).f3.f0) ((rd_T55 l1 x5_1).f3.f1) ((rd_T55 l1 x5_1).f3.f2) true _ ?side1 ?side2 ?side3 ?side4 A7.out).mono ?_
            (case side1 => have X_ := (Kd.C_below HR164_2.out HB.out); exact TC)
            (case side2 => exact HC164_2.out)
            (case side3 => have X_ := (Kd.C_below HR165_2.out HB.out); exact TC)
            (case side4 => exact HC165_2.out)
            rintro e w10 ⟨rfl, hb⟩
            refine ⟨_, rfl, ?_⟩
            have n0_ := aM (below_step TB hb)
            clear HB
            have HB := n0_
            clear n0_
            (try clear hb)
            (try clear hb2)
            (try clear hk)
            (try clear hi)
            refine hK.out _ _ ⟨((HB.out.cell (World.block_lt_of_cell? w _ hw164_0)).trans hw164_0), ((HB.out.cell (World.block_lt_of_cell? w _ hw164_1)).trans hw164_1), ((HB.out.cell (World.block_lt_of_cell? w _ hw164_2)).trans hw164_2), ((HB.out.cell (World.block_lt_of_cell? w _ hw164_3)).trans hw164_3), ((HB.out.cell (World.block_lt_of_cell? w _ hw164_4)).trans hw164_4), ((HB.out.cell (World.block_lt_of_cell? w _ hw164_5)).trans hw164_5), ((HB.out.cell (World.block_lt_of_cell? w _ hw165_0)).trans hw165_0), ((HB.out.cell (World.block_lt_of_cell? w _ hw165_1)).trans hw165_1), ((HB.out.cell (World.block_lt_of_cell? w _ hw165_2)).trans hw165_2), ((HB.out.cell (World.block_lt_of_cell? w _ hw165_3)).trans hw165_3), ((HB.out.cell (World.block_lt_of_cell? w _ hw165_4)).trans hw165_4), ((HB.out.cell (World.block_lt_of_cell? w _ hw165_5)).trans hw165_5)⟩ (fun hHeld => ?_)
            clear hK K
            refine nR ?_
            refine pP 9 (some 26) ?_
            refine done_ (done_of HT_.out (by kernel_rfl)) ?_
            try go_wp2
            go_roundg k1
            case measure => have := HK1.out; omega
            case rel => exact ⟨(wrap64 (x5_1 + 1)), (by first | rfl | (simp; done) | (simp [*]; done)), H', ⟨by have := HK1.out; omega⟩, ⟨TB⟩⟩
          · replace c8 := Bool.eq_false_iff.mpr c8
            subst c8
            replace H := ifF H
            obtain rfl := Option.some.inj H
            try go_wp2
            replace HB := aM (below_drew1 HB.out)
            have p164 : 0 ≤ (x5_1 : Int) := DT
            have q164 : x5_1 < (l0.length : Int) := DT
            obtain ⟨ad164, A164_2, c164_2, e164, hx164_0, hx164_1, hx164_2, hx164_3, hx164_4, hx164_5, hl164_2, hi164_2⟩ := at_T55 HR0.out x5_1 p164 q164
            have hw164_5 := hx164_5
            have hw164_4 := hx164_4
            have hw164_3 := hx164_3
            have hw164_2 := hx164_2
            have hw164_1 := hx164_1
            have hw164_0 := hx164_0
            cases e164
            replace hx164_0 := (HB.out.cell (World.block_lt_of_cell? w _ hx164_0)).trans hx164_0
            replace hx164_1 := (HB.out.cell (World.block_lt_of_cell? w _ hx164_1)).trans hx164_1
            replace hx164_2 := (HB.out.cell (World.block_lt_of_cell? w _ hx164_2)).trans hx164_2
            replace hx164_3 := (HB.out.cell (World.block_lt_of_cell? w _ hx164_3)).trans hx164_3
            replace hx164_4 := (HB.out.cell (World.block_lt_of_cell? w _ hx164_4)).trans hx164_4
            replace hx164_5 := (HB.out.cell (World.block_lt_of_cell? w _ hx164_5)).trans hx164_5
            have HR164_2 := aM hi164_2
            have HC164_2 := aM hl164_2
            clear hi164_2 hl164_2
            replace p164 := eq_true p164
            replace q164 := eq_true q164
            have p165 : 0 ≤ (x5_1 : Int) := DT
            have q165 : x5_1 < (l1.length : Int) := DT
            obtain ⟨ad165, A165_2, c165_2, e165, hx165_0, hx165_1, hx165_2, hx165_3, hx165_4, hx165_5, hl165_2, hi165_2⟩ := at_T55 HR1.out x5_1 p165 q165
            have hw165_5 := hx165_5
            have hw165_4 := hx165_4
            have hw165_3 := hx165_3
            have hw165_2 := hx165_2
            have hw165_1 := hx165_1
            have hw165_0 := hx165_0
            cases e165
            replace hx165_0 := (HB.out.cell (World.block_lt_of_cell? w _ hx165_0)).trans hx165_0
            replace hx165_1 := (HB.out.cell (World.block_lt_of_cell? w _ hx165_1)).trans hx165_1
            replace hx165_2 := (HB.out.cell (World.block_lt_of_cell? w _ hx165_2)).trans hx165_2
            replace hx165_3 := (HB.out.cell (World.block_lt_of_cell? w _ hx165_3)).trans hx165_3
            replace hx165_4 := (HB.out.cell (World.block_lt_of_cell? w _ hx165_4)).trans hx165_4
            replace hx165_5 := (HB.out.cell (World.block_lt_of_cell? w _ hx165_5)).trans hx165_5
            have HR165_2 := aM hi165_2
            have HC165_2 := aM hl165_2
            clear hi165_2 hl165_2
            replace p165 := eq_true p165
            replace q165 := eq_true q165
            refine start_ (n := 10) (S := fun w' => w'.cell? (ad164.add ((x5_1).toNat * 6)) = some (.int .i64 ((rd_T55 l0 x5_1).f0)) ∧ w'.cell? ⟨(ad164.add ((x5_1).toNat * 6)).block, (ad164.add ((x5_1).toNat * 6)).off + 1, none⟩ = some (.int .i64 ((rd_T55 l0 x5_1).f1)) ∧ w'.cell? ⟨(ad164.add ((x5_1).toNat * 6)).block, (ad164.add ((x5_1).toNat * 6)).off + 2, none⟩ = some (.slice A164_2 ((rd_T55 l0 x5_1).f2).length c164_2) ∧ w'.cell? ⟨(ad164.add ((x5_1).toNat * 6)).block, (ad164.add ((x5_1).toNat * 6)).off + 3, none⟩ = some (.int .i64 ((rd_T55 l0 x5_1).f3.f0)) ∧ w'.cell? ⟨(ad164.add ((x5_1).toNat * 6)).block, (ad164.add ((x5_1).toNat * 6)).off + 4, none⟩ = some (.int .i64 ((rd_T55 l0 x5_1).f3.f1)) ∧ w'.cell? ⟨(ad164.add ((x5_1).toNat * 6)).block, (ad164.add ((x5_1).toNat * 6)).off + 5, none⟩ = some (.int .i64 ((rd_T55 l0 x5_1).f3.f2)) ∧ w'.cell? (ad165.add ((x5_1).toNat * 6)) = some (.int .i64 ((rd_T55 l1 x5_1).f0)) ∧ w'.cell? ⟨(ad165.add ((x5_1).toNat * 6)).block, (ad165.add ((x5_1).toNat * 6)).off + 1, none⟩ = some (.int .i64 ((rd_T55 l1 x5_1).f1)) ∧ w'.cell? ⟨(ad165.add ((x5_1).toNat * 6)).block, (ad165.add ((x5_1).toNat * 6)).off + 2, none⟩ = some (.slice A165_2 ((rd_T55 l1 x5_1).f2).length c165_2) ∧ w'.cell? ⟨(ad165.add ((x5_1).toNat * 6)).block, (ad165.add ((x5_1).toNat * 6)).off + 3, none⟩ = some (.int .i64 ((rd_T55 l1 x5_1).f3.f0)) ∧ w'.cell? ⟨(ad165.add ((x5_1).toNat * 6)).block, (ad165.add ((x5_1).toNat * 6)).off + 4, none⟩ = some (.int .i64 ((rd_T55 l1 x5_1).f3.f1)) ∧ w'.cell? ⟨(ad165.add ((x5_1).toNat * 6)).block, (ad165.add ((x5_1).toNat * 6)).off + 5, none⟩ = some (.int .i64 ((rd_T55 l1 x5_1).f3.f2))) (ds := []) (Array.replicate 10 false) (by kernel_rfl) rfl rfl ⟨((HB.out.cell (World.block_lt_of_cell? w _ hw164_0)).trans hw164_0), ((HB.out.cell (World.block_lt_of_cell? w _ hw164_1)).trans hw164_1), ((HB.out.cell (World.block_lt_of_cell? w _ hw164_2)).trans hw164_2), ((HB.out.cell (World.block_lt_of_cell? w _ hw164_3)).trans hw164_3), ((HB.out.cell (World.block_lt_of_cell? w _ hw164_4)).trans hw164_4), ((HB.out.cell (World.block_lt_of_cell? w _ hw164_5)).trans hw164_5), ((HB.out.cell (World.block_lt_of_cell? w _ hw165_0)).trans hw165_0), ((HB.out.cell (World.block_lt_of_cell? w _ hw165_1)).trans hw165_1), ((HB.out.cell (World.block_lt_of_cell? w _ hw165_2)).trans hw165_2), ((HB.out.cell (World.block_lt_of_cell? w _ hw165_3)).trans hw165_3), ((HB.out.cell (World.block_lt_of_cell? w _ hw165_4)).trans hw165_4), ((HB.out.cell (World.block_lt_of_cell? w _ hw165_5)).trans hw165_5)⟩ (fun hHeld => ?_); refine with_tabW laws_eqPutS.tab6 laws_eqPutS.bits6 (fun HT_ HW_ => ?_)
            generalize wr.drew = w11 at HB HR164_2 HR165_2 hx164_0 hx164_1 hx164_2 hx164_3 hx164_4 hx164_5 hx165_0 hx165_1 hx165_2 hx165_3 hx165_4 hx165_5 hHeld ⊢
            refine pP 0 (some 17) ?_
            refine pP 1 (some 18) ?_
            refine pP 2 (some 19) ?_
            refine pP 4 (some 21) ?_
            refine pP 5 (some 22) ?_
            refine pP 6 (some 23) ?_
            refine pT 3 (some 20) ?_
            refine pT 7 (some 24) ?_
            refine pO 8 (some 25) (fun K hK => ?_)
            refine gG Try.func40 #[.agg #[.int .i64 ((rd_T55 l0 x5_1).f0), .int .i64 ((rd_T55 l0 x5_1).f1), .slice A164_2 ((rd_T55 l0 x5_1).f2).length c164_2, .int .i64 ((rd_T55 l0 x5_1).f3.f0), .int .i64 ((rd_T55 l0 x5_1).f3.f1), .int .i64 ((rd_T55 l0 x5_1).f3.f2)], .agg #[.int .i64 ((rd_T55 l1 x5_1).f0), .int .i64 ((rd_T55 l1 x5_1).f1), .slice A165_2 ((rd_T55 l1 x5_1).f2).length c165_2, .int .i64 ((rd_T55 l1 x5_1).f3.f0), .int .i64 ((rd_T55 l1 x5_1).f3.f1), .int .i64 ((rd_T55 l1 x5_1).f3.f2)]] ?_
            with_reducible refine (laws_eqPut.calls k1 ((rd_T55 l0 x5_1).f0) ((rd_T55 l0 x5_1).f1) _ _ ((rd_T55 l0 x5_1).f2) ((rd_T55 l0 x5_1).f3.f0) ((rd_T55 l0 x5_1).f3.f1) ((rd_T55 l0 x5_1).f3.f2) ((rd_T55 l1 x5_1).f0) ((rd_T55 l1 x5_1).f1) _ _ ((rd_T55 l1 x5_1).f2) ((rd_T55 l1 x5_1).f3.f0) ((rd_T55 l1 x5_1).f3.f1) ((rd_T55 l1 x5_1).f3.f2) false _ ?side1 ?side2 ?side3 ?side4 A7.out).mono ?_
            (case side1 => have X_ := (Kd.C_below HR164_2.out HB.out); exact TC)
            (case side2 => exact HC164_2.out)
            (case side3 => have X_ := (Kd.C_below HR165_2.out HB.out); exact TC)
            (case side4 => exact HC165_2.out)
            rintro e w12 ⟨rfl, hb⟩
            refine ⟨_, rfl, ?_⟩
            have n0_ := aM (below_step TB hb)
            clear HB
            have HB := n0_
            clear n0_
            (try clear hb)
            (try clear hb2)
            (try clear hk)
            (try clear hi)
            refine hK.out _ _ ⟨((HB.out.cell (World.block_lt_of_cell? w _ hw164_0)).trans hw164_0), ((HB.out.cell (World.block_lt_of_cell? w _ hw164_1)).trans hw164_1), ((HB.out.cell (World.block_lt_of_cell? w _ hw164_2)).trans hw164_2), ((HB.out.cell (World.block_lt_of_cell? w _ hw164_3)).trans hw164_3), ((HB.out.cell (World.block_lt_of_cell? w _ hw164_4)).trans hw164_4), ((HB.out.cell (World.block_lt_of_cell? w _ hw164_5)).trans hw164_5), ((HB.out.cell (World.block_lt_of_cell? w _ hw165_0)).trans hw165_0), ((HB.out.cell (World.block_lt_of_cell? w _ hw165_1)).trans hw165_1), ((HB.out.cell (World.block_lt_of_cell? w _ hw165_2)).trans hw165_2), ((HB.out.cell (World.block_lt_of_cell? w _ hw165_3)).trans hw165_3), ((HB.out.cell (World.block_lt_of_cell? w _ hw165_4)).trans hw165_4), ((HB.out.cell (World.block_lt_of_cell? w _ hw165_5)).trans hw165_5)⟩ (fun hHeld => ?_)
            clear hK K
            refine nR ?_
            refine pP 9 (some 26) ?_
            refine done_ (done_of HT_.out (by kernel_rfl)) ?_
            try go_wp2
            go_ret
            exact ⟨by first | rfl | (simp [errW_none, errW_some] <;> rfl) | (simp [*, errW_none, errW_some] <;> rfl), TB⟩
        · rw [if_neg c4] at H
          have c4b0 : decide (x5_1 < (l0.length : Int)) = false := decide_eq_false c4
          clear c4
          obtain rfl := Option.some.inj H
          go_wp2
          go_ret
          exact ⟨by first | rfl | (simp [errW_none, errW_some] <;> rfl) | (simp [*, errW_none, errW_some] <;> rfl), TB⟩
  · rw [if_neg c3] at H
    have c3b0 : ((l0.length : Int) == (l1.length : Int)) = false := beq_eq_false_iff_ne.mpr c3
    have c3b1 : ((l0.length : Int) != (l1.length : Int)) = true := bne_iff_ne.mpr c3
    have c3b2 : (l0.length == l1.length) = false := by first | simpa using c3 | (simp at c3 ⊢; omega)
    obtain rfl := Option.some.inj H
    go_enter Try.func60, Try.ntmps60
    go_wp2
    go_ret
    exact ⟨by first | rfl | (simp [errW_none, errW_some] <;> rfl) | (simp [*, errW_none, errW_some] <;> rfl), TB⟩

/-! ### laws_eqDisk: function 19 -/
def laws_eqDisk.f (k : Nat) (l0_0 : List Int) (l0_1 : List Int) (a0_2 : Int) (a0_3 : Int) (a0_4 : Int) (l0_5 : List (S55)) (l1_0 : List Int) (l1_1 : List Int) (a1_2 : Int) (a1_3 : Int) (a1_4 : Int) (l1_5 : List (S55)) : Option (Bool) := (laws_eqByteS.f k l0_0 l1_0).bind fun t169 => (if t169 = true then ((laws_eqByteS.f k l0_1 l1_1).bind fun t170 => (if t170 = true then ((laws_eqRecord.f a0_2 a0_3 a0_4 a1_2 a1_3 a1_4).bind fun t171 => (if t171 = true then ((laws_eqPutS.f k l0_5 l1_5).bind fun t172 => (if t172 = true then (some true) else (some false))) else (some false))) else (some false))) else (some false))
theorem laws_eqDisk.mono : ∀ a0 a1 a2 a3 a4 a5 a6 a7 a8 a9 a10 a11 k, LeO (laws_eqDisk.f k a0 a1 a2 a3 a4 a5 a6 a7 a8 a9 a10 a11) (laws_eqDisk.f (k + 1) a0 a1 a2 a3 a4 a5 a6 a7 a8 a9 a10 a11) := by
  intro a0 a1 a2 a3 a4 a5 a6 a7 a8 a9 a10 a11 k
  have m0_ := @laws_eqByteS.mono
  have m1_ := @laws_eqPutS.mono
  unfold laws_eqDisk.f
  exact LM
set_option maxHeartbeats 40000000 in
set_option maxRecDepth 100000 in
theorem laws_eqDisk.calls (k : Nat) (ar : Option Addr) (aq : Nat) (ae : List Int) (ay : Option Addr) (av : Nat) (ad : List Int) (ak : Int) (al : Int) (ag : Int) (aw : Option Addr) (ap : Nat) (ab : List (S55)) (au : Option Addr) (aA : Nat) (af : List Int) (an : Option Addr) (az : Nat) (ac : List Int) (ah : Int) (aj : Int) (ai : Int) (ax : Option Addr) (ao : Nat) (aa : List (S55)) (r : Bool) (w : World) (aP : Kd.C (Kd.int .u8) w ar ae.length ae) (aT : ae.length ≤ aq) (aQ : Kd.C (Kd.int .u8) w ay ad.length ad) (aR : ad.length ≤ av) (aU : Kd.C k55 w aw ab.length ab) (aC : ab.length ≤ ap) (aN : Kd.C (Kd.int .u8) w au af.length af) (aO : af.length ≤ aA) (aJ : Kd.C (Kd.int .u8) w an ac.length ac) (aZ : ac.length ≤ az) (aX : Kd.C k55 w ax aa.length aa) (aY : aa.length ≤ ao) (h : laws_eqDisk.f k ae ad ak al ag ab af ac ah aj ai aa = some r) :
  Calls Try.prog 19 #[.agg #[.slice ar ae.length aq, .slice ay ad.length av, .int .i64 ak, .int .i64 al, .int .i64 ag, .slice aw ab.length ap], .agg #[.slice au af.length aA, .slice an ac.length az, .int .i64 ah, .int .i64 aj, .int .i64 ai, .slice ax aa.length ao]] w fun e w' => e = .returned (.bool r) ∧ Below w.heap.size w w' := by
 have hu33 := Try.underlying33
 have hu30 := Try.underlying30
 have aV := aM aP
 have aD := aM aT
 clear aP aT
 have aK := aM aQ
 have aH := aM aR
 clear aQ aR
 have aB := aM aU
 have aI := aM aC
 clear aU aC
 have aL := aM aN
 have aW := aM aO
 clear aN aO
 have aE := aM aJ
 have aF := aM aZ
 clear aJ aZ
 have aS := aM aX
 have aG := aM aY
 clear aX aY
 have HB := aM (Below.refl w.heap.size w)
 have H := h
 clear h
 unfold laws_eqDisk.f at H
 replace H := bE H
 obtain ⟨t169, A3, H⟩ := H
 go_enter Try.func19, Try.ntmps19
 go_wp2_with (first | ((with_reducible refine gate_dst (N := 2) rfl ?_); refine gBx 2 #[.slice ar ae.length aq, .slice ay ad.length av, .int .i64 ak, .int .i64 al, .int .i64 ag, .slice aw ab.length ap] 33 ?_; intro am hg w5 hbox hb; have BK167 := aM (hbox); have GW167 := aM ((by rw [hg]; exact (below_size TB) : w.heap.size ≤ am)); have GE167 := aM ((by rw [hg]; exact (below_size TB) : w.heap.size ≤ am)); replace HB := aM (below_step TB hb); clear hb hbox hg) | ((with_reducible refine gate_dst (N := 3) rfl ?_); refine gBx 3 #[.slice au af.length aA, .slice an ac.length az, .int .i64 ah, .int .i64 aj, .int .i64 ai, .slice ax aa.length ao] 33 ?_; intro gb168 hg w6 hbox hb; have BK168 := aM (hbox); have GW168 := aM ((by rw [hg]; exact (below_size TB) : w.heap.size ≤ gb168)); have GE168 := aM ((by rw [hg]; exact (below_size TB) : w.heap.size ≤ gb168)); have NB167_168 := aM ((by rw [hg]; exact Nat.ne_of_lt (blk_lt (by have X_ := BK167.out; exact TX)) : am ≠ gb168)); have NB168_167 := aM ((by rw [hg]; exact Nat.ne_of_gt (blk_lt (by have X_ := BK167.out; exact TX)) : gb168 ≠ am)); replace BK167 := aM (blk_below (by have X_ := BK167.out; exact TX) hb); replace HB := aM (below_step TB hb); clear hb hbox hg; have hnb7 := NB167_168.out; have hnc7 := NB168_167.out; obtain ⟨hcz8_0, hcz8_1, hcz8_2, hcz8_3, hcz8_4, hcz8_5⟩ := cz6 BK167.out; obtain ⟨hfz8_0, hfz8_1, hfz8_2, hfz8_3, hfz8_4, hfz8_5⟩ := fz6 BK167.out; obtain ⟨hcz9_0, hcz9_1, hcz9_2, hcz9_3, hcz9_4, hcz9_5⟩ := cz6 BK168.out; obtain ⟨hfz9_0, hfz9_1, hfz9_2, hfz9_3, hfz9_4, hfz9_5⟩ := fz6 BK168.out) | ((with_reducible refine gate_callee (f := 23) rfl ?_); (with_reducible refine gate_dst (N := 9) rfl ?_); generalize hG_ : wpList _ _ _ _ _ _ = G_))
 subst hG_
 by_cases c10 : t169 = true
 ·subst c10
  replace H := ifT H
  replace H := bE H
  obtain ⟨t170, A11, H⟩ := H
  go_wp2_with (first | ((with_reducible refine gate_callee (f := 23) rfl ?_); refine gL (some 9) Try.func23 #[.slice ar ae.length aq, .slice au af.length aA] ?_; (with_reducible refine (laws_eqByteS.calls k _ _ ae _ _ af true _ ?side1 ?side2 ?side3 ?side4 A3.out).mono ?_); (case side1 => repeat (first | exact (Kd.C_below aV.out TB) | (with_reducible refine Kd.C_alloc ?_ _) | (with_reducible refine Kd.C_drewN ?_ _) | (with_reducible refine Kd.C_drew ?_))); (case side2 => exact aD.out); (case side3 => repeat (first | exact (Kd.C_below aL.out TB) | (with_reducible refine Kd.C_alloc ?_ _) | (with_reducible refine Kd.C_drewN ?_ _) | (with_reducible refine Kd.C_drew ?_))); (case side4 => exact aW.out); rintro e w' ⟨rfl, ⟨nd, rfl⟩⟩; refine ⟨_, rfl, ?_⟩; have hnb13 := NB167_168.out; have hnc13 := NB168_167.out; obtain ⟨hcz14_0, hcz14_1, hcz14_2, hcz14_3, hcz14_4, hcz14_5⟩ := cz6 BK167.out; obtain ⟨hfz14_0, hfz14_1, hfz14_2, hfz14_3, hfz14_4, hfz14_5⟩ := fz6 BK167.out; obtain ⟨hcz15_0, hcz15_1, hcz15_2, hcz15_3, hcz15_4, hcz15_5⟩ := cz6 BK168.out; obtain ⟨hfz15_0, hfz15_1, hfz15_2, hfz15_3, hfz15_4, hfz15_5⟩ := fz6 BK168.out) | ((with_reducible refine gate_callee (f := 23) rfl ?_); (with_reducible refine gate_dst (N := 15) rfl ?_); generalize hG_ : wpList _ _ _ _ _ _ = G_))
  subst hG_
  by_cases c16 : t170 = true
  ·subst c16
   replace H := ifT H
   replace H := bE H
   obtain ⟨t171, A17, H⟩ := H
   go_wp2_with (first | ((with_reducible refine gate_callee (f := 23) rfl ?_); refine gL (some 15) Try.func23 #[.slice ay ad.length av, .slice an ac.length az] ?_; (with_reducible refine (laws_eqByteS.calls k _ _ ad _ _ ac true _ ?side1 ?side2 ?side3 ?side4 A11.out).mono ?_); (case side1 => repeat (first | exact (Kd.C_below aK.out TB) | (with_reducible refine Kd.C_alloc ?_ _) | (with_reducible refine Kd.C_drewN ?_ _) | (with_reducible refine Kd.C_drew ?_))); (case side2 => exact aH.out); (case side3 => repeat (first | exact (Kd.C_below aE.out TB) | (with_reducible refine Kd.C_alloc ?_ _) | (with_reducible refine Kd.C_drewN ?_ _) | (with_reducible refine Kd.C_drew ?_))); (case side4 => exact aF.out); rintro e w' ⟨rfl, ⟨nd, rfl⟩⟩; refine ⟨_, rfl, ?_⟩; have hnb19 := NB167_168.out; have hnc19 := NB168_167.out; obtain ⟨hcz20_0, hcz20_1, hcz20_2, hcz20_3, hcz20_4, hcz20_5⟩ := cz6 BK167.out; obtain ⟨hfz20_0, hfz20_1, hfz20_2, hfz20_3, hfz20_4, hfz20_5⟩ := fz6 BK167.out; obtain ⟨hcz21_0, hcz21_1, hcz21_2, hcz21_3, hcz21_4, hcz21_5⟩ := cz6 BK168.out; obtain ⟨hfz21_0, hfz21_1, hfz21_2, hfz21_3, hfz21_4, hfz21_5⟩ := fz6 BK168.out) | ((with_reducible refine gate_callee (f := 59) rfl ?_); (with_reducible refine gate_dst (N := 21) rfl ?_); generalize hG_ : wpList _ _ _ _ _ _ = G_))
   subst hG_
   by_cases c22 : t171 = true
   ·subst c22
    replace H := ifT H
    replace H := bE H
    obtain ⟨t172, A23, H⟩ := H
    go_wp2_with (first | ((with_reducible refine gate_callee (f := 59) rfl ?_); refine gL (some 21) Try.func59 #[.agg #[.int .i64 ak, .int .i64 al, .int .i64 ag], .agg #[.int .i64 ah, .int .i64 aj, .int .i64 ai]] ?_; (with_reducible refine (laws_eqRecord.calls ak al ag ah aj ai true _ A17.out).mono ?_); rintro e w25 ⟨rfl, hb⟩; refine ⟨_, rfl, ?_⟩; replace BK167 := aM (blk_below (by have X_ := BK167.out; exact TX) hb); replace BK168 := aM (blk_below (by have X_ := BK168.out; exact TX) hb); replace HB := aM (below_step TB hb); clear hb; have hnb26 := NB167_168.out; have hnc26 := NB168_167.out; obtain ⟨hcz27_0, hcz27_1, hcz27_2, hcz27_3, hcz27_4, hcz27_5⟩ := cz6 BK167.out; obtain ⟨hfz27_0, hfz27_1, hfz27_2, hfz27_3, hfz27_4, hfz27_5⟩ := fz6 BK167.out; obtain ⟨hcz28_0, hcz28_1, hcz28_2, hcz28_3, hcz28_4, hcz28_5⟩ := cz6 BK168.out; obtain ⟨hfz28_0, hfz28_1, hfz28_2, hfz28_3, hfz28_4, hfz28_5⟩ := fz6 BK168.out) | ((with_reducible refine gate_callee (f := 60) rfl ?_); (with_reducible refine gate_dst (N := 27) rfl ?_); generalize hG_ : wpList _ _ _ _ _ _ = G_))
    subst hG_
    by_cases c29 : t172 = true
    ·subst c29
     replace H := ifT H
     obtain rfl := Option.some.inj H
     go_wp2_with (first | ((with_reducible refine gate_callee (f := 60) rfl ?_); refine gL (some 27) Try.func60 #[.slice aw ab.length ap, .slice ax aa.length ao] ?_; (with_reducible refine (laws_eqPutS.calls k _ _ ab _ _ aa true _ ?side1 ?side2 ?side3 ?side4 A23.out).mono ?_); (case side1 => repeat (first | exact (Kd.C_below aB.out TB) | (with_reducible refine Kd.C_alloc ?_ _) | (with_reducible refine Kd.C_drewN ?_ _) | (with_reducible refine Kd.C_drew ?_))); (case side2 => exact aI.out); (case side3 => repeat (first | exact (Kd.C_below aS.out TB) | (with_reducible refine Kd.C_alloc ?_ _) | (with_reducible refine Kd.C_drewN ?_ _) | (with_reducible refine Kd.C_drew ?_))); (case side4 => exact aG.out); rintro e w30 ⟨rfl, hb⟩; refine ⟨_, rfl, ?_⟩; replace BK167 := aM (blk_below (by have X_ := BK167.out; exact TX) hb); replace BK168 := aM (blk_below (by have X_ := BK168.out; exact TX) hb); replace HB := aM (below_step TB hb); clear hb))
     go_ret
     exact ⟨by first | rfl | (simp [errW_none, errW_some] <;> rfl) | (simp [*, errW_none, errW_some] <;> rfl), TB⟩
    ·replace c29 := Bool.eq_false_iff.mpr c29
     subst c29
     replace H := ifF H
     obtain rfl := Option.some.inj H
     go_wp2_with (first | ((with_reducible refine gate_callee (f := 60) rfl ?_); refine gL (some 27) Try.func60 #[.slice aw ab.length ap, .slice ax aa.length ao] ?_; (with_reducible refine (laws_eqPutS.calls k _ _ ab _ _ aa false _ ?side1 ?side2 ?side3 ?side4 A23.out).mono ?_); (case side1 => repeat (first | exact (Kd.C_below aB.out TB) | (with_reducible refine Kd.C_alloc ?_ _) | (with_reducible refine Kd.C_drewN ?_ _) | (with_reducible refine Kd.C_drew ?_))); (case side2 => exact aI.out); (case side3 => repeat (first | exact (Kd.C_below aS.out TB) | (with_reducible refine Kd.C_alloc ?_ _) | (with_reducible refine Kd.C_drewN ?_ _) | (with_reducible refine Kd.C_drew ?_))); (case side4 => exact aG.out); rintro e w31 ⟨rfl, hb⟩; refine ⟨_, rfl, ?_⟩; replace BK167 := aM (blk_below (by have X_ := BK167.out; exact TX) hb); replace BK168 := aM (blk_below (by have X_ := BK168.out; exact TX) hb); replace HB := aM (below_step TB hb); clear hb))
     go_ret
     exact ⟨by first | rfl | (simp [errW_none, errW_some] <;> rfl) | (simp [*, errW_none, errW_some] <;> rfl), TB⟩
   ·replace c22 := Bool.eq_false_iff.mpr c22
    subst c22
    replace H := ifF H
    obtain rfl := Option.some.inj H
    go_wp2_with (first | ((with_reducible refine gate_callee (f := 59) rfl ?_); refine gL (some 21) Try.func59 #[.agg #[.int .i64 ak, .int .i64 al, .int .i64 ag], .agg #[.int .i64 ah, .int .i64 aj, .int .i64 ai]] ?_; (with_reducible refine (laws_eqRecord.calls ak al ag ah aj ai false _ A17.out).mono ?_); rintro e w32 ⟨rfl, hb⟩; refine ⟨_, rfl, ?_⟩; replace BK167 := aM (blk_below (by have X_ := BK167.out; exact TX) hb); replace BK168 := aM (blk_below (by have X_ := BK168.out; exact TX) hb); replace HB := aM (below_step TB hb); clear hb))
    go_ret
    exact ⟨by first | rfl | (simp [errW_none, errW_some] <;> rfl) | (simp [*, errW_none, errW_some] <;> rfl), TB⟩
  ·replace c16 := Bool.eq_false_iff.mpr c16
   subst c16
   replace H := ifF H
   obtain rfl := Option.some.inj H
   go_wp2_with (first | ((with_reducible refine gate_callee (f := 23) rfl ?_); refine gL (some 15) Try.func23 #[.slice ay ad.length av, .slice an ac.length az] ?_; (with_reducible refine (laws_eqByteS.calls k _ _ ad _ _ ac false _ ?side1 ?side2 ?side3 ?side4 A11.out).mono ?_); (case side1 => repeat (first | exact (Kd.C_below aK.out TB) | (with_reducible refine Kd.C_alloc ?_ _) | (with_reducible refine Kd.C_drewN ?_ _) | (with_reducible refine Kd.C_drew ?_))); (case side2 => exact aH.out); (case side3 => repeat (first | exact (Kd.C_below aE.out TB) | (with_reducible refine Kd.C_alloc ?_ _) | (with_reducible refine Kd.C_drewN ?_ _) | (with_reducible refine Kd.C_drew ?_))); (case side4 => exact aF.out); rintro e w' ⟨rfl, ⟨nd, rfl⟩⟩; refine ⟨_, rfl, ?_⟩))
   go_ret
   exact ⟨by first | rfl | (simp [errW_none, errW_some] <;> rfl) | (simp [*, errW_none, errW_some] <;> rfl), TB⟩
 ·replace c10 := Bool.eq_false_iff.mpr c10
  subst c10
  replace H := ifF H
  obtain rfl := Option.some.inj H
  go_wp2_with (first | ((with_reducible refine gate_callee (f := 23) rfl ?_); refine gL (some 9) Try.func23 #[.slice ar ae.length aq, .slice au af.length aA] ?_; (with_reducible refine (laws_eqByteS.calls k _ _ ae _ _ af false _ ?side1 ?side2 ?side3 ?side4 A3.out).mono ?_); (case side1 => repeat (first | exact (Kd.C_below aV.out TB) | (with_reducible refine Kd.C_alloc ?_ _) | (with_reducible refine Kd.C_drewN ?_ _) | (with_reducible refine Kd.C_drew ?_))); (case side2 => exact aD.out); (case side3 => repeat (first | exact (Kd.C_below aL.out TB) | (with_reducible refine Kd.C_alloc ?_ _) | (with_reducible refine Kd.C_drewN ?_ _) | (with_reducible refine Kd.C_drew ?_))); (case side4 => exact aW.out); rintro e w' ⟨rfl, ⟨nd, rfl⟩⟩; refine ⟨_, rfl, ?_⟩))
  go_ret
  exact ⟨by first | rfl | (simp [errW_none, errW_some] <;> rfl) | (simp [*, errW_none, errW_some] <;> rfl), TB⟩

end Go.Proofs.Ytogilihkphjjbaa.Q
