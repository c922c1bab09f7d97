/- Functions of the program as plain Lean functions, and that a call of each comes to what its function tells. Written by a program of this seat. -/
import Derived.Test.YtanpaipapcjpoaaDoorQ0
import Derived.Test.YtanpaipapcjpoaaDoorQ13
namespace Go.Proofs.YtanpaipapcjpoaaDoor.Q
open Go.RowKit Go.Proofs.YtanpaipapcjpoaaDoorW.PrintWords Go.Proofs.YtanpaipapcjpoaaDoorW.PrintLast Go.Proofs.YtanpaipapcjpoaaDoorW.PrintMore
attribute [local go_sem] max2_int min2_int max_two min_two max_three min_three max_four min_four   -- for this text's walks alone
set_option linter.unusedVariables false
set_option linter.unusedSimpArgs false

/-! ### laws_eqSumS: function 36 -/
def laws_eqSumS.l0 : Nat → List (S61) → List (S61) → Int → Option (Bool)
  | 0, _, _, _ => none
  | k + 1, x0, x1, x5 => if x5 < (x0.length : Int) then (if 0 ≤ x5 then (if x5 < (x1.length : Int) then ((laws_eqSum.f ((rd_T61 x0 x5).f0) ((rd_T61 x0 x5).f1) ((rd_T61 x1 x5).f0) ((rd_T61 x1 x5).f1)).bind fun t286 => (if t286 = true then (laws_eqSumS.l0 k x0 x1 (wrap64 (x5 + 1))) else (some false))) else (none)) else (none)) else (some true)
def laws_eqSumS.f (k : Nat) (l0 : List (S61)) (l1 : List (S61)) : Option (Bool) := if (l0.length : Int) = (l1.length : Int) then (laws_eqSumS.l0 k l0 l1 0) else (some false)
theorem laws_eqSumS.mono_l : ∀ k, (∀ y0 y1 y2, LeO (laws_eqSumS.l0 k y0 y1 y2) (laws_eqSumS.l0 (k + 1) y0 y1 y2))
  | 0 => fun _ _ _ r h => by simp [laws_eqSumS.l0] at h
  | k + 1 => by
    have ih0 := laws_eqSumS.mono_l k
    · intro y0 y1 y2
      unfold laws_eqSumS.l0
      exact LM
theorem laws_eqSumS.mono : ∀ a0 a1 k, LeO (laws_eqSumS.f k a0 a1) (laws_eqSumS.f (k + 1) a0 a1) := by
  intro a0 a1 k
  have ih0 := laws_eqSumS.mono_l k
  unfold laws_eqSumS.f
  exact LM
def laws_eqSumS.T6 : Bool × List (List Nat × List Nat) := (true, [([], []), ([], []), ([0, 1], [0, 1]), ([2], [2]), ([], []), ([], []), ([4, 5], [4, 5]), ([6], [6]), ([3, 7], [3, 7]), ([8], [8])])
def laws_eqSumS.B6 : List Nat := [0, 0, 3, 7, 0, 0, 48, 112, 255, 511]
theorem laws_eqSumS.tab6 : rtab .any (opsOf Tryd.f36 6) = laws_eqSumS.T6 := by kernel_rfl
theorem laws_eqSumS.bits6 : waitsOk laws_eqSumS.T6.2 laws_eqSumS.B6 = true := by kernel_rfl
set_option maxHeartbeats 40000000 in
set_option maxRecDepth 100000 in
theorem laws_eqSumS.calls (k : Nat) (A0 : Option Addr) (c0 : Nat) (l0 : List (S61)) (A1 : Option Addr) (c1 : Nat) (l1 : List (S61)) (r : Bool) (w : World) (hr0 : Kd.C k61 w A0 l0.length l0) (hc0 : l0.length ≤ c0) (hr1 : Kd.C k61 w A1 l1.length l1) (hc1 : l1.length ≤ c1) (h : laws_eqSumS.f k l0 l1 = some r) :
    Calls Tryd.prog 36 #[.slice A0 l0.length c0, .slice A1 l1.length c1] w fun e w' => e = .returned (.bool r) ∧ Below w.heap.size w w' := by
  have hu61 := Tryd.underlying61
  have HR0 := aM hr0
  have HC0 := aM hc0
  clear hr0 hc0
  have HR1 := aM hr1
  have HC1 := aM hc1
  clear hr1 hc1
  have HB := aM (Below.refl w.heap.size w)
  have H := h
  clear h
  unfold laws_eqSumS.f at H
  by_cases c3 : (l0.length : Int) = (l1.length : Int)
  · rw [if_pos c3] at H
    have c3b0 : ((l0.length : Int) == (l1.length : Int)) = true := beq_iff_eq.mpr c3
    have c3b1 : ((l0.length : Int) != (l1.length : Int)) = false := bne_eq_false_iff_eq.mpr c3
    have c3b2 : (l0.length == l1.length) = true := by first | simpa using c3 | (simp at c3 ⊢; omega)
    clear c3
    have H' := aM H
    clear H
    go_enter Tryd.func36, Tryd.ntmps36
    go_wp2
    go_loopg [5] k (fun kq v5 w' => ∃ (x5_1 : Int), v5 = .int .i64 x5_1 ∧ Aside0 (laws_eqSumS.l0 kq l0 l1 x5_1 = some r) ∧ Aside0 (kq ≤ k) ∧ Aside0 (Below w.heap.size w w'))
    case atStart => exact ⟨(0), (by first | rfl | (simp; done) | (simp [*]; done)), H', ⟨Nat.le_refl _⟩, ⟨TB⟩⟩
    case round =>
      clear H'
      try clear c1
      try clear p2
      try clear c3
      try clear c3b0
      try clear c3b1
      try clear c3b2
      obtain ⟨x5_1, rfl, HA, HK1, HB⟩ := hrel
      cases gk with
      | zero => exact absurd HA.out (by simp [laws_eqSumS.l0])
      | succ k1 =>
        have H := HA.out
        clear HA
        simp only [laws_eqSumS.l0] at H
        by_cases c4 : x5_1 < (l0.length : Int)
        · rw [if_pos c4] at H
          have c4b0 : decide (x5_1 < (l0.length : Int)) = true := decide_eq_true c4
          clear c4
          replace H := ifN H
          obtain ⟨c5, H⟩ := H
          have c5b0 : decide (0 ≤ x5_1) = true := decide_eq_true c5
          clear c5
          replace H := ifN H
          obtain ⟨c6, H⟩ := H
          have c6b0 : decide (x5_1 < (l1.length : Int)) = true := decide_eq_true c6
          clear c6
          replace H := bE H
          obtain ⟨t286, A7, H⟩ := H
          by_cases c8 : t286 = true
          · subst c8
            replace H := ifT H
            have H' := aM H
            clear H
            try go_wp2
            replace HB := aM (below_drew1 HB.out)
            have p284 : 0 ≤ (x5_1 : Int) := DT
            have q284 : x5_1 < (l0.length : Int) := DT
            obtain ⟨ad284, e284, hx284_0, hx284_1⟩ := at_T61 HR0.out x5_1 p284 q284
            have hw284_1 := hx284_1
            have hw284_0 := hx284_0
            cases e284
            replace hx284_0 := (HB.out.cell (World.block_lt_of_cell? w _ hx284_0)).trans hx284_0
            replace hx284_1 := (HB.out.cell (World.block_lt_of_cell? w _ hx284_1)).trans hx284_1
            replace p284 := eq_true p284
            replace q284 := eq_true q284
            have p285 : 0 ≤ (x5_1 : Int) := DT
            have q285 : x5_1 < (l1.length : Int) := DT
            obtain ⟨ad285, e285, hx285_0, hx285_1⟩ := at_T61 HR1.out x5_1 p285 q285
            have hw285_1 := hx285_1
            have hw285_0 := hx285_0
            cases e285
            replace hx285_0 := (HB.out.cell (World.block_lt_of_cell? w _ hx285_0)).trans hx285_0
            replace hx285_1 := (HB.out.cell (World.block_lt_of_cell? w _ hx285_1)).trans hx285_1
            replace p285 := eq_true p285
            replace q285 := eq_true q285
            refine start_ (n := 10) (S := fun w' => w'.cell? (ad284.add ((x5_1).toNat * 2)) = some (.int .i64 ((rd_T61 l0 x5_1).f0)) ∧ w'.cell? ⟨(ad284.add ((x5_1).toNat * 2)).block, (ad284.add ((x5_1).toNat * 2)).off + 1, none⟩ = some (.int .i64 ((rd_T61 l0 x5_1).f1)) ∧ w'.cell? (ad285.add ((x5_1).toNat * 2)) = some (.int .i64 ((rd_T61 l1 x5_1).f0)) ∧ w'.cell? ⟨(ad285.add ((x5_1).toNat * 2)).block, (ad285.add ((x5_1).toNat * 2)).off + 1, none⟩ = some (.int .i64 ((rd_T61 l1 x5_1).f1))) (ds := []) (Array.replicate 10 false) (by kernel_rfl) rfl rfl ⟨((HB.out.cell (World.block_lt_of_cell? w _ hw284_0)).trans hw284_0), ((HB.out.cell (World.block_lt_of_cell? w _ hw284_1)).trans hw284_1), ((HB.out.cell (World.block_lt_of_cell? w _ hw285_0)).trans hw285_0), ((HB.out.cell (World.block_lt_of_cell? w _ hw285_1)).trans hw285_1)⟩ (fun hHeld => ?_); refine with_tabW laws_eqSumS.tab6 laws_eqSumS.bits6 (fun HT_ HW_ => ?_)
            generalize wr.drew = w9 at HB hx284_0 hx284_1 hx285_0 hx285_1 hHeld ⊢
            refine pP 0 (some 17) ?_
            refine pP 1 (some 18) ?_
            refine pP 2 (some 19) ?_
            refine pP 4 (some 21) ?_
            refine pP 5 (some 22) ?_
            refine pP 6 (some 23) ?_
            refine pT 3 (some 20) ?_
            refine pT 7 (some 24) ?_
            refine pO 8 (some 25) (fun K hK => ?_)
            refine gG Tryd.func51 #[.agg #[.int .i64 ((rd_T61 l0 x5_1).f0), .int .i64 ((rd_T61 l0 x5_1).f1)], .agg #[.int .i64 ((rd_T61 l1 x5_1).f0), .int .i64 ((rd_T61 l1 x5_1).f1)]] ?_
            with_reducible refine (laws_eqSum.calls ((rd_T61 l0 x5_1).f0) ((rd_T61 l0 x5_1).f1) ((rd_T61 l1 x5_1).f0) ((rd_T61 l1 x5_1).f1) true _ A7.out).mono ?_
            rintro e w10 ⟨rfl, hb⟩
            refine ⟨_, rfl, ?_⟩
            have n0_ := aM (below_step TB hb)
            clear HB
            have HB := n0_
            clear n0_
            (try clear hb)
            (try clear hb2)
            (try clear hk)
            (try clear hi)
            refine hK.out _ _ ⟨((HB.out.cell (World.block_lt_of_cell? w _ hw284_0)).trans hw284_0), ((HB.out.cell (World.block_lt_of_cell? w _ hw284_1)).trans hw284_1), ((HB.out.cell (World.block_lt_of_cell? w _ hw285_0)).trans hw285_0), ((HB.out.cell (World.block_lt_of_cell? w _ hw285_1)).trans hw285_1)⟩ (fun hHeld => ?_)
            clear hK K
            refine nR ?_
            refine pP 9 (some 26) ?_
            refine done_ (done_of HT_.out (by kernel_rfl)) ?_
            try go_wp2
            go_roundg k1
            case measure => have := HK1.out; omega
            case rel => exact ⟨(wrap64 (x5_1 + 1)), (by first | rfl | (simp; done) | (simp [*]; done)), H', ⟨by have := HK1.out; omega⟩, ⟨TB⟩⟩
          · replace c8 := Bool.eq_false_iff.mpr c8
            subst c8
            replace H := ifF H
            obtain rfl := Option.some.inj H
            try go_wp2
            replace HB := aM (below_drew1 HB.out)
            have p284 : 0 ≤ (x5_1 : Int) := DT
            have q284 : x5_1 < (l0.length : Int) := DT
            obtain ⟨ad284, e284, hx284_0, hx284_1⟩ := at_T61 HR0.out x5_1 p284 q284
            have hw284_1 := hx284_1
            have hw284_0 := hx284_0
            cases e284
            replace hx284_0 := (HB.out.cell (World.block_lt_of_cell? w _ hx284_0)).trans hx284_0
            replace hx284_1 := (HB.out.cell (World.block_lt_of_cell? w _ hx284_1)).trans hx284_1
            replace p284 := eq_true p284
            replace q284 := eq_true q284
            have p285 : 0 ≤ (x5_1 : Int) := DT
            have q285 : x5_1 < (l1.length : Int) := DT
            obtain ⟨ad285, e285, hx285_0, hx285_1⟩ := at_T61 HR1.out x5_1 p285 q285
            have hw285_1 := hx285_1
            have hw285_0 := hx285_0
            cases e285
            replace hx285_0 := (HB.out.cell (World.block_lt_of_cell? w _ hx285_0)).trans hx285_0
            replace hx285_1 := (HB.out.cell (World.block_lt_of_cell? w _ hx285_1)).trans hx285_1
            replace p285 := eq_true p285
            replace q285 := eq_true q285
            refine start_ (n := 10) (S := fun w' => w'.cell? (ad284.add ((x5_1).toNat * 2)) = some (.int .i64 ((rd_T61 l0 x5_1).f0)) ∧ w'.cell? ⟨(ad284.add ((x5_1).toNat * 2)).block, (ad284.add ((x5_1).toNat * 2)).off + 1, none⟩ = some (.int .i64 ((rd_T61 l0 x5_1).f1)) ∧ w'.cell? (ad285.add ((x5_1).toNat * 2)) = some (.int .i64 ((rd_T61 l1 x5_1).f0)) ∧ w'.cell? ⟨(ad285.add ((x5_1).toNat * 2)).block, (ad285.add ((x5_1).toNat * 2)).off + 1, none⟩ = some (.int .i64 ((rd_T61 l1 x5_1).f1))) (ds := []) (Array.replicate 10 false) (by kernel_rfl) rfl rfl ⟨((HB.out.cell (World.block_lt_of_cell? w _ hw284_0)).trans hw284_0), ((HB.out.cell (World.block_lt_of_cell? w _ hw284_1)).trans hw284_1), ((HB.out.cell (World.block_lt_of_cell? w _ hw285_0)).trans hw285_0), ((HB.out.cell (World.block_lt_of_cell? w _ hw285_1)).trans hw285_1)⟩ (fun hHeld => ?_); refine with_tabW laws_eqSumS.tab6 laws_eqSumS.bits6 (fun HT_ HW_ => ?_)
            generalize wr.drew = w11 at HB hx284_0 hx284_1 hx285_0 hx285_1 hHeld ⊢
            refine pP 0 (some 17) ?_
            refine pP 1 (some 18) ?_
            refine pP 2 (some 19) ?_
            refine pP 4 (some 21) ?_
            refine pP 5 (some 22) ?_
            refine pP 6 (some 23) ?_
            refine pT 3 (some 20) ?_
            refine pT 7 (some 24) ?_
            refine pO 8 (some 25) (fun K hK => ?_)
            refine gG Tryd.func51 #[.agg #[.int .i64 ((rd_T61 l0 x5_1).f0), .int .i64 ((rd_T61 l0 x5_1).f1)], .agg #[.int .i64 ((rd_T61 l1 x5_1).f0), .int .i64 ((rd_T61 l1 x5_1).f1)]] ?_
            with_reducible refine (laws_eqSum.calls ((rd_T61 l0 x5_1).f0) ((rd_T61 l0 x5_1).f1) ((rd_T61 l1 x5_1).f0) ((rd_T61 l1 x5_1).f1) false _ A7.out).mono ?_
            rintro e w12 ⟨rfl, hb⟩
            refine ⟨_, rfl, ?_⟩
            have n0_ := aM (below_step TB hb)
            clear HB
            have HB := n0_
            clear n0_
            (try clear hb)
            (try clear hb2)
            (try clear hk)
            (try clear hi)
            refine hK.out _ _ ⟨((HB.out.cell (World.block_lt_of_cell? w _ hw284_0)).trans hw284_0), ((HB.out.cell (World.block_lt_of_cell? w _ hw284_1)).trans hw284_1), ((HB.out.cell (World.block_lt_of_cell? w _ hw285_0)).trans hw285_0), ((HB.out.cell (World.block_lt_of_cell? w _ hw285_1)).trans hw285_1)⟩ (fun hHeld => ?_)
            clear hK K
            refine nR ?_
            refine pP 9 (some 26) ?_
            refine done_ (done_of HT_.out (by kernel_rfl)) ?_
            try go_wp2
            go_ret
            exact ⟨by first | rfl | (simp [errW_none, errW_some] <;> rfl) | (simp [*, errW_none, errW_some] <;> rfl), TB⟩
        · rw [if_neg c4] at H
          have c4b0 : decide (x5_1 < (l0.length : Int)) = false := decide_eq_false c4
          clear c4
          obtain rfl := Option.some.inj H
          go_wp2
          go_ret
          exact ⟨by first | rfl | (simp [errW_none, errW_some] <;> rfl) | (simp [*, errW_none, errW_some] <;> rfl), TB⟩
  · rw [if_neg c3] at H
    have c3b0 : ((l0.length : Int) == (l1.length : Int)) = false := beq_eq_false_iff_ne.mpr c3
    have c3b1 : ((l0.length : Int) != (l1.length : Int)) = true := bne_iff_ne.mpr c3
    have c3b2 : (l0.length == l1.length) = false := by first | simpa using c3 | (simp at c3 ⊢; omega)
    obtain rfl := Option.some.inj H
    go_enter Tryd.func36, Tryd.ntmps36
    go_wp2
    go_ret
    exact ⟨by first | rfl | (simp [errW_none, errW_some] <;> rfl) | (simp [*, errW_none, errW_some] <;> rfl), TB⟩

/-! ### laws_eqManifest: function 19 -/
def laws_eqManifest.f (k : Nat) (a0_0 : Int) (a0_1 : Int) (a0_2 : Int) (l0_3 : List (S61)) (a1_0 : Int) (a1_1 : Int) (a1_2 : Int) (l1_3 : List (S61)) : Option (Bool) := if a0_0 = a1_0 then (if a0_1 = a1_1 then (if a0_2 = a1_2 then ((laws_eqSumS.f k l0_3 l1_3).bind fun t289 => (if t289 = true then (some true) else (some false))) else (some false)) else (some false)) else (some false)
theorem laws_eqManifest.mono : ∀ a0 a1 a2 a3 a4 a5 a6 a7 k, LeO (laws_eqManifest.f k a0 a1 a2 a3 a4 a5 a6 a7) (laws_eqManifest.f (k + 1) a0 a1 a2 a3 a4 a5 a6 a7) := by
  intro a0 a1 a2 a3 a4 a5 a6 a7 k
  have m0_ := @laws_eqSumS.mono
  unfold laws_eqManifest.f
  exact LM
set_option maxHeartbeats 40000000 in
set_option maxRecDepth 100000 in
theorem laws_eqManifest.calls (k : Nat) (a0_0 : Int) (a0_1 : Int) (a0_2 : Int) (A0_3 : Option Addr) (c0_3 : Nat) (l0_3 : List (S61)) (a1_0 : Int) (a1_1 : Int) (a1_2 : Int) (A1_3 : Option Addr) (c1_3 : Nat) (l1_3 : List (S61)) (r : Bool) (w : World) (hr0_3 : Kd.C k61 w A0_3 l0_3.length l0_3) (hc0_3 : l0_3.length ≤ c0_3) (hr1_3 : Kd.C k61 w A1_3 l1_3.length l1_3) (hc1_3 : l1_3.length ≤ c1_3) (h : laws_eqManifest.f k a0_0 a0_1 a0_2 l0_3 a1_0 a1_1 a1_2 l1_3 = some r) :
    Calls Tryd.prog 19 #[.agg #[.int .i64 a0_0, .int .i64 a0_1, .int .i64 a0_2, .slice A0_3 l0_3.length c0_3], .agg #[.int .i64 a1_0, .int .i64 a1_1, .int .i64 a1_2, .slice A1_3 l1_3.length c1_3]] w fun e w' => e = .returned (.bool r) ∧ Below w.heap.size w w' := by
  have hu32 := Tryd.underlying32
  have HR0_3 := aM hr0_3
  have HC0_3 := aM hc0_3
  clear hr0_3 hc0_3
  have HR1_3 := aM hr1_3
  have HC1_3 := aM hc1_3
  clear hr1_3 hc1_3
  have HB := aM (Below.refl w.heap.size w)
  have H := h
  clear h
  unfold laws_eqManifest.f at H
  by_cases c3 : a0_0 = a1_0
  · rw [if_pos c3] at H
    have c3b0 : (a0_0 == a1_0) = true := beq_iff_eq.mpr c3
    have c3b1 : (a0_0 != a1_0) = false := bne_eq_false_iff_eq.mpr c3
    clear c3
    by_cases c4 : a0_1 = a1_1
    · rw [if_pos c4] at H
      have c4b0 : (a0_1 == a1_1) = true := beq_iff_eq.mpr c4
      have c4b1 : (a0_1 != a1_1) = false := bne_eq_false_iff_eq.mpr c4
      clear c4
      by_cases c5 : a0_2 = a1_2
      · rw [if_pos c5] at H
        have c5b0 : (a0_2 == a1_2) = true := beq_iff_eq.mpr c5
        have c5b1 : (a0_2 != a1_2) = false := bne_eq_false_iff_eq.mpr c5
        clear c5
        replace H := bE H
        obtain ⟨t289, A6, H⟩ := H
        go_enter Tryd.func19, Tryd.ntmps19
        go_wp2_with (first | ((with_reducible refine gate_dst (N := 2) rfl ?_); refine gBx 2 #[.int .i64 a0_0, .int .i64 a0_1, .int .i64 a0_2, .slice A0_3 l0_3.length c0_3] 32 ?_; intro gb287 hg w8 hbox hb; have BK287 := aM (hbox); have GW287 := aM ((by rw [hg]; exact (below_size TB) : w.heap.size ≤ gb287)); have GE287 := aM ((by rw [hg]; exact (below_size TB) : w.heap.size ≤ gb287)); replace HB := aM (below_step TB hb); clear hb hbox hg) | ((with_reducible refine gate_dst (N := 3) rfl ?_); refine gBx 3 #[.int .i64 a1_0, .int .i64 a1_1, .int .i64 a1_2, .slice A1_3 l1_3.length c1_3] 32 ?_; intro gb288 hg w9 hbox hb; have BK288 := aM (hbox); have GW288 := aM ((by rw [hg]; exact (below_size TB) : w.heap.size ≤ gb288)); have GE288 := aM ((by rw [hg]; exact (below_size TB) : w.heap.size ≤ gb288)); have NB287_288 := aM ((by rw [hg]; exact Nat.ne_of_lt (blk_lt (by have X_ := BK287.out; exact TX)) : gb287 ≠ gb288)); have NB288_287 := aM ((by rw [hg]; exact Nat.ne_of_gt (blk_lt (by have X_ := BK287.out; exact TX)) : gb288 ≠ gb287)); replace BK287 := aM (blk_below (by have X_ := BK287.out; exact TX) hb); replace HB := aM (below_step TB hb); clear hb hbox hg; have hnb10 := NB287_288.out; have hnc10 := NB288_287.out; obtain ⟨hcz11_0, hcz11_1, hcz11_2, hcz11_3⟩ := cz4 BK287.out; obtain ⟨hfz11_0, hfz11_1, hfz11_2, hfz11_3⟩ := fz4 BK287.out; obtain ⟨hcz12_0, hcz12_1, hcz12_2, hcz12_3⟩ := cz4 BK288.out; obtain ⟨hfz12_0, hfz12_1, hfz12_2, hfz12_3⟩ := fz4 BK288.out) | ((with_reducible refine gate_callee (f := 36) rfl ?_); refine gL (some 24) Tryd.func36 #[.slice A0_3 l0_3.length c0_3, .slice A1_3 l1_3.length c1_3] ?_; (with_reducible refine (laws_eqSumS.calls k _ _ l0_3 _ _ l1_3 t289 _ ?side1 ?side2 ?side3 ?side4 A6.out).mono ?_); (case side1 => have X_ := (Kd.C_below HR0_3.out HB.out); exact TC); (case side2 => exact HC0_3.out); (case side3 => have X_ := (Kd.C_below HR1_3.out HB.out); exact TC); (case side4 => exact HC1_3.out); rintro e w13 ⟨rfl, hb⟩; refine ⟨_, rfl, ?_⟩; replace BK287 := aM (blk_below (by have X_ := BK287.out; exact TX) hb); replace BK288 := aM (blk_below (by have X_ := BK288.out; exact TX) hb); replace HB := aM (below_step TB hb); clear hb) | ((with_reducible refine gate_dst (N := 25) rfl ?_); generalize hG_ : wpList _ _ _ _ _ _ = G_))
        subst hG_
        by_cases c14 : t289 = true
        · subst c14
          replace H := ifT H
          obtain rfl := Option.some.inj H
          go_wp2
          go_ret
          exact ⟨by first | rfl | (simp [errW_none, errW_some] <;> rfl) | (simp [*, errW_none, errW_some] <;> rfl), TB⟩
        · replace c14 := Bool.eq_false_iff.mpr c14
          subst c14
          replace H := ifF H
          obtain rfl := Option.some.inj H
          go_wp2
          go_ret
          exact ⟨by first | rfl | (simp [errW_none, errW_some] <;> rfl) | (simp [*, errW_none, errW_some] <;> rfl), TB⟩
      · rw [if_neg c5] at H
        have c5b0 : (a0_2 == a1_2) = false := beq_eq_false_iff_ne.mpr c5
        have c5b1 : (a0_2 != a1_2) = true := bne_iff_ne.mpr c5
        obtain rfl := Option.some.inj H
        go_enter Tryd.func19, Tryd.ntmps19
        go_wp2_with (first | ((with_reducible refine gate_dst (N := 2) rfl ?_); refine gBx 2 #[.int .i64 a0_0, .int .i64 a0_1, .int .i64 a0_2, .slice A0_3 l0_3.length c0_3] 32 ?_; intro gb287 hg w15 hbox hb; have BK287 := aM (hbox); have GW287 := aM ((by rw [hg]; exact (below_size TB) : w.heap.size ≤ gb287)); have GE287 := aM ((by rw [hg]; exact (below_size TB) : w.heap.size ≤ gb287)); replace HB := aM (below_step TB hb); clear hb hbox hg) | ((with_reducible refine gate_dst (N := 3) rfl ?_); refine gBx 3 #[.int .i64 a1_0, .int .i64 a1_1, .int .i64 a1_2, .slice A1_3 l1_3.length c1_3] 32 ?_; intro gb288 hg w16 hbox hb; have BK288 := aM (hbox); have GW288 := aM ((by rw [hg]; exact (below_size TB) : w.heap.size ≤ gb288)); have GE288 := aM ((by rw [hg]; exact (below_size TB) : w.heap.size ≤ gb288)); have NB287_288 := aM ((by rw [hg]; exact Nat.ne_of_lt (blk_lt (by have X_ := BK287.out; exact TX)) : gb287 ≠ gb288)); have NB288_287 := aM ((by rw [hg]; exact Nat.ne_of_gt (blk_lt (by have X_ := BK287.out; exact TX)) : gb288 ≠ gb287)); replace BK287 := aM (blk_below (by have X_ := BK287.out; exact TX) hb); replace HB := aM (below_step TB hb); clear hb hbox hg; have hnb17 := NB287_288.out; have hnc17 := NB288_287.out; obtain ⟨hcz18_0, hcz18_1, hcz18_2, hcz18_3⟩ := cz4 BK287.out; obtain ⟨hfz18_0, hfz18_1, hfz18_2, hfz18_3⟩ := fz4 BK287.out; obtain ⟨hcz19_0, hcz19_1, hcz19_2, hcz19_3⟩ := cz4 BK288.out; obtain ⟨hfz19_0, hfz19_1, hfz19_2, hfz19_3⟩ := fz4 BK288.out))
        go_ret
        exact ⟨by first | rfl | (simp [errW_none, errW_some] <;> rfl) | (simp [*, errW_none, errW_some] <;> rfl), TB⟩
    · rw [if_neg c4] at H
      have c4b0 : (a0_1 == a1_1) = false := beq_eq_false_iff_ne.mpr c4
      have c4b1 : (a0_1 != a1_1) = true := bne_iff_ne.mpr c4
      obtain rfl := Option.some.inj H
      go_enter Tryd.func19, Tryd.ntmps19
      go_wp2_with (first | ((with_reducible refine gate_dst (N := 2) rfl ?_); refine gBx 2 #[.int .i64 a0_0, .int .i64 a0_1, .int .i64 a0_2, .slice A0_3 l0_3.length c0_3] 32 ?_; intro gb287 hg w20 hbox hb; have BK287 := aM (hbox); have GW287 := aM ((by rw [hg]; exact (below_size TB) : w.heap.size ≤ gb287)); have GE287 := aM ((by rw [hg]; exact (below_size TB) : w.heap.size ≤ gb287)); replace HB := aM (below_step TB hb); clear hb hbox hg) | ((with_reducible refine gate_dst (N := 3) rfl ?_); refine gBx 3 #[.int .i64 a1_0, .int .i64 a1_1, .int .i64 a1_2, .slice A1_3 l1_3.length c1_3] 32 ?_; intro gb288 hg w21 hbox hb; have BK288 := aM (hbox); have GW288 := aM ((by rw [hg]; exact (below_size TB) : w.heap.size ≤ gb288)); have GE288 := aM ((by rw [hg]; exact (below_size TB) : w.heap.size ≤ gb288)); have NB287_288 := aM ((by rw [hg]; exact Nat.ne_of_lt (blk_lt (by have X_ := BK287.out; exact TX)) : gb287 ≠ gb288)); have NB288_287 := aM ((by rw [hg]; exact Nat.ne_of_gt (blk_lt (by have X_ := BK287.out; exact TX)) : gb288 ≠ gb287)); replace BK287 := aM (blk_below (by have X_ := BK287.out; exact TX) hb); replace HB := aM (below_step TB hb); clear hb hbox hg; have hnb22 := NB287_288.out; have hnc22 := NB288_287.out; obtain ⟨hcz23_0, hcz23_1, hcz23_2, hcz23_3⟩ := cz4 BK287.out; obtain ⟨hfz23_0, hfz23_1, hfz23_2, hfz23_3⟩ := fz4 BK287.out; obtain ⟨hcz24_0, hcz24_1, hcz24_2, hcz24_3⟩ := cz4 BK288.out; obtain ⟨hfz24_0, hfz24_1, hfz24_2, hfz24_3⟩ := fz4 BK288.out))
      go_ret
      exact ⟨by first | rfl | (simp [errW_none, errW_some] <;> rfl) | (simp [*, errW_none, errW_some] <;> rfl), TB⟩
  · rw [if_neg c3] at H
    have c3b0 : (a0_0 == a1_0) = false := beq_eq_false_iff_ne.mpr c3
    have c3b1 : (a0_0 != a1_0) = true := bne_iff_ne.mpr c3
    obtain rfl := Option.some.inj H
    go_enter Tryd.func19, Tryd.ntmps19
    go_wp2_with (first | ((with_reducible refine gate_dst (N := 2) rfl ?_); refine gBx 2 #[.int .i64 a0_0, .int .i64 a0_1, .int .i64 a0_2, .slice A0_3 l0_3.length c0_3] 32 ?_; intro gb287 hg w25 hbox hb; have BK287 := aM (hbox); have GW287 := aM ((by rw [hg]; exact (below_size TB) : w.heap.size ≤ gb287)); have GE287 := aM ((by rw [hg]; exact (below_size TB) : w.heap.size ≤ gb287)); replace HB := aM (below_step TB hb); clear hb hbox hg) | ((with_reducible refine gate_dst (N := 3) rfl ?_); refine gBx 3 #[.int .i64 a1_0, .int .i64 a1_1, .int .i64 a1_2, .slice A1_3 l1_3.length c1_3] 32 ?_; intro gb288 hg w26 hbox hb; have BK288 := aM (hbox); have GW288 := aM ((by rw [hg]; exact (below_size TB) : w.heap.size ≤ gb288)); have GE288 := aM ((by rw [hg]; exact (below_size TB) : w.heap.size ≤ gb288)); have NB287_288 := aM ((by rw [hg]; exact Nat.ne_of_lt (blk_lt (by have X_ := BK287.out; exact TX)) : gb287 ≠ gb288)); have NB288_287 := aM ((by rw [hg]; exact Nat.ne_of_gt (blk_lt (by have X_ := BK287.out; exact TX)) : gb288 ≠ gb287)); replace BK287 := aM (blk_below (by have X_ := BK287.out; exact TX) hb); replace HB := aM (below_step TB hb); clear hb hbox hg; have hnb27 := NB287_288.out; have hnc27 := NB288_287.out; obtain ⟨hcz28_0, hcz28_1, hcz28_2, hcz28_3⟩ := cz4 BK287.out; obtain ⟨hfz28_0, hfz28_1, hfz28_2, hfz28_3⟩ := fz4 BK287.out; obtain ⟨hcz29_0, hcz29_1, hcz29_2, hcz29_3⟩ := cz4 BK288.out; obtain ⟨hfz29_0, hfz29_1, hfz29_2, hfz29_3⟩ := fz4 BK288.out))
    go_ret
    exact ⟨by first | rfl | (simp [errW_none, errW_some] <;> rfl) | (simp [*, errW_none, errW_some] <;> rfl), TB⟩

/-! ### laws_eqByteS: function 20 -/
def laws_eqByteS.l0 : Nat → List Int → List Int → Int → Option (Bool)
  | 0, _, _, _ => none
  | k + 1, x0, x1, x5 => if x5 < (x0.length : Int) then (if 0 ≤ x5 then (if x5 < (x1.length : Int) then (if (rd x0 x5) = (rd x1 x5) then (laws_eqByteS.l0 k x0 x1 (wrap64 (x5 + 1))) else (some false)) else (none)) else (none)) else (some true)
def laws_eqByteS.f (k : Nat) (l0 : List Int) (l1 : List Int) : Option (Bool) := if (l0.length : Int) = (l1.length : Int) then (laws_eqByteS.l0 k l0 l1 0) else (some false)
theorem laws_eqByteS.mono_l : ∀ k, (∀ y0 y1 y2, LeO (laws_eqByteS.l0 k y0 y1 y2) (laws_eqByteS.l0 (k + 1) y0 y1 y2))
  | 0 => fun _ _ _ r h => by simp [laws_eqByteS.l0] at h
  | k + 1 => by
    have ih0 := laws_eqByteS.mono_l k
    · intro y0 y1 y2
      unfold laws_eqByteS.l0
      exact LM
theorem laws_eqByteS.mono : ∀ a0 a1 k, LeO (laws_eqByteS.f k a0 a1) (laws_eqByteS.f (k + 1) a0 a1) := by
  intro a0 a1 k
  have ih0 := laws_eqByteS.mono_l k
  unfold laws_eqByteS.f
  exact LM
set_option maxHeartbeats 40000000 in
set_option maxRecDepth 100000 in
theorem laws_eqByteS.calls (k : Nat) (A0 : Option Addr) (c0 : Nat) (l0 : List Int) (A1 : Option Addr) (c1 : Nat) (l1 : List Int) (r : Bool) (w : World) (hr0 : Kd.C (Kd.int .u8) w A0 l0.length l0) (hc0 : l0.length ≤ c0) (hr1 : Kd.C (Kd.int .u8) w A1 l1.length l1) (hc1 : l1.length ≤ c1) (h : laws_eqByteS.f k l0 l1 = some r) :
    Calls Tryd.prog 20 #[.slice A0 l0.length c0, .slice A1 l1.length c1] w fun e w' => e = .returned (.bool r) ∧ Drawn0 w w' := by
  have HR0 := aM hr0
  have HC0 := aM hc0
  clear hr0 hc0
  have HR1 := aM hr1
  have HC1 := aM hc1
  clear hr1 hc1
  have H := h
  clear h
  unfold laws_eqByteS.f at H
  by_cases c3 : (l0.length : Int) = (l1.length : Int)
  · rw [if_pos c3] at H
    have c3b0 : ((l0.length : Int) == (l1.length : Int)) = true := beq_iff_eq.mpr c3
    have c3b1 : ((l0.length : Int) != (l1.length : Int)) = false := bne_eq_false_iff_eq.mpr c3
    have c3b2 : (l0.length == l1.length) = true := by first | simpa using c3 | (simp at c3 ⊢; omega)
    clear c3
    have H' := aM H
    clear H
    go_enter Tryd.func20, Tryd.ntmps20
    go_wp2
    repeat (go_quiet (fail); try go_wp2)
    go_loopg [5] k (fun kq v5 w' => ∃ (x5_1 : Int), v5 = .int .i64 x5_1 ∧ Aside0 (laws_eqByteS.l0 kq l0 l1 x5_1 = some r) ∧ Aside0 (kq ≤ k) ∧ Drawn0 w w')
    case atStart => exact ⟨(0), (by first | rfl | (simp; done) | (simp [*]; done)), H', ⟨Nat.le_refl _⟩, TD⟩
    case round =>
      clear H'
      try clear c1
      try clear c2
      try clear p2
      try clear c3
      try clear c3b0
      try clear c3b1
      try clear c3b2
      obtain ⟨x5_1, rfl, HA, HK1, ⟨m1, rfl⟩⟩ := hrel
      cases gk with
      | zero => exact absurd HA.out (by simp [laws_eqByteS.l0])
      | succ k1 =>
        have H := HA.out
        clear HA
        simp only [laws_eqByteS.l0] at H
        by_cases c4 : x5_1 < (l0.length : Int)
        · rw [if_pos c4] at H
          have c4b0 : decide (x5_1 < (l0.length : Int)) = true := decide_eq_true c4
          clear c4
          replace H := ifN H
          obtain ⟨c5, H⟩ := H
          have c5b0 : decide (0 ≤ x5_1) = true := decide_eq_true c5
          clear c5
          replace H := ifN H
          obtain ⟨c6, H⟩ := H
          have c6b0 : decide (x5_1 < (l1.length : Int)) = true := decide_eq_true c6
          clear c6
          by_cases c7 : (rd l0 x5_1) = (rd l1 x5_1)
          · rw [if_pos c7] at H
            have c7b0 : ((rd l0 x5_1) == (rd l1 x5_1)) = true := beq_iff_eq.mpr c7
            have c7b1 : ((rd l0 x5_1) != (rd l1 x5_1)) = false := bne_eq_false_iff_eq.mpr c7
            clear c7
            have H' := aM H
            clear H
            have p290 : 0 ≤ (x5_1 : Int) := DT
            have q290 : x5_1 < (l0.length : Int) := DT
            obtain ⟨ad290, e290, hx290_0⟩ := Kd.at_int HR0.out x5_1 p290 q290
            cases e290
            replace p290 := eq_true p290
            replace q290 := eq_true q290
            have p291 : 0 ≤ (x5_1 : Int) := DT
            have q291 : x5_1 < (l1.length : Int) := DT
            obtain ⟨ad291, e291, hx291_0⟩ := Kd.at_int HR1.out x5_1 p291 q291
            cases e291
            replace p291 := eq_true p291
            replace q291 := eq_true q291
            go_wp2
            repeat (go_quiet (fail); try go_wp2)
            go_roundg k1
            case measure => have := HK1.out; omega
            case rel => exact ⟨(wrap64 (x5_1 + 1)), (by first | rfl | (simp; done) | (simp [*]; done)), H', ⟨by have := HK1.out; omega⟩, TD⟩
          · rw [if_neg c7] at H
            have c7b0 : ((rd l0 x5_1) == (rd l1 x5_1)) = false := beq_eq_false_iff_ne.mpr c7
            have c7b1 : ((rd l0 x5_1) != (rd l1 x5_1)) = true := bne_iff_ne.mpr c7
            obtain rfl := Option.some.inj H
            have p290 : 0 ≤ (x5_1 : Int) := DT
            have q290 : x5_1 < (l0.length : Int) := DT
            obtain ⟨ad290, e290, hx290_0⟩ := Kd.at_int HR0.out x5_1 p290 q290
            cases e290
            replace p290 := eq_true p290
            replace q290 := eq_true q290
            have p291 : 0 ≤ (x5_1 : Int) := DT
            have q291 : x5_1 < (l1.length : Int) := DT
            obtain ⟨ad291, e291, hx291_0⟩ := Kd.at_int HR1.out x5_1 p291 q291
            cases e291
            replace p291 := eq_true p291
            replace q291 := eq_true q291
            go_wp2
            repeat (go_quiet (fail); try go_wp2)
            go_ret
            exact ⟨by first | rfl | (simp; done) | (simp [*]; done), TD⟩
        · rw [if_neg c4] at H
          have c4b0 : decide (x5_1 < (l0.length : Int)) = false := decide_eq_false c4
          clear c4
          obtain rfl := Option.some.inj H
          go_wp2
          repeat (go_quiet (fail); try go_wp2)
          go_ret
          exact ⟨by first | rfl | (simp; done) | (simp [*]; done), TD⟩
  · rw [if_neg c3] at H
    have c3b0 : ((l0.length : Int) == (l1.length : Int)) = false := beq_eq_false_iff_ne.mpr c3
    have c3b1 : ((l0.length : Int) != (l1.length : Int)) = true := bne_iff_ne.mpr c3
    have c3b2 : (l0.length == l1.length) = false := by first | simpa using c3 | (simp at c3 ⊢; omega)
    obtain rfl := Option.some.inj H
    go_enter Tryd.func20, Tryd.ntmps20
    go_wp2
    repeat (go_quiet (fail); try go_wp2)
    go_ret
    exact ⟨by first | rfl | (simp; done) | (simp [*]; done), TD⟩

end Go.Proofs.YtanpaipapcjpoaaDoor.Q
