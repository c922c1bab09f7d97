/- Functions of the program as plain Lean functions, and that a call of each comes to what its function tells. Written by a program of this seat. -/
import Derived.Test.YthfpeadkfflhnaaQ0
import Derived.Test.YthfpeadkfflhnaaQ1
namespace Go.Proofs.Ythfpeadkfflhnaa.Q
open Go.RowKit Go.Proofs.YthfpeadkfflhnaaW.PrintWords Go.Proofs.YthfpeadkfflhnaaW.PrintLast Go.Proofs.YthfpeadkfflhnaaW.PrintMore
attribute [local go_sem] max2_int min2_int max_two min_two max_three min_three max_four min_four   -- for this text's walks alone
set_option linter.unusedVariables false
set_option linter.unusedSimpArgs false

/-! ### spec_KidsOk: function 5 -/
def spec_KidsOk.l0 : Nat → List (S31) → Int → Option (Bool)
  | 0, _, _ => none
  | k + 1, x0, x3 => if x3 < (x0.length : Int) then (if 0 ≤ x3 then ((spec_l1In.f ((rd_T31 x0 x3).f0) 0 6).bind fun t103 => (if t103 = true then (if x3 > 0 then (if 0 ≤ (wrap64 (x3 - 1)) then (if (wrap64 (x3 - 1)) < (x0.length : Int) then (if ((rd_T31 x0 (wrap64 (x3 - 1))).f0) ≥ ((rd_T31 x0 x3).f0) then (some false) else ((spec_SetOk.f ((rd_T31 x0 x3).f1)).bind fun t107 => (if t107 = true then ((spec_SetOk.f ((rd_T31 x0 x3).f2)).bind fun t109 => (if t109 = true then ((spec_SetOk.f ((rd_T31 x0 x3).f4)).bind fun t111 => (if t111 = true then (if ((rd_T31 x0 x3).f3) < 0 then (some false) else (spec_KidsOk.l0 k x0 (wrap64 (x3 + 1)))) else (some false))) else (some false))) else (some false)))) else (none)) else (none)) else ((spec_SetOk.f ((rd_T31 x0 x3).f1)).bind fun t114 => (if t114 = true then ((spec_SetOk.f ((rd_T31 x0 x3).f2)).bind fun t116 => (if t116 = true then ((spec_SetOk.f ((rd_T31 x0 x3).f4)).bind fun t118 => (if t118 = true then (if ((rd_T31 x0 x3).f3) < 0 then (some false) else (spec_KidsOk.l0 k x0 (wrap64 (x3 + 1)))) else (some false))) else (some false))) else (some false)))) else (some false))) else (none)) else (some true)
def spec_KidsOk.f (k : Nat) (l0 : List (S31)) : Option (Bool) := spec_KidsOk.l0 k l0 0
theorem spec_KidsOk.mono_l : ∀ k, (∀ y0 y1, LeO (spec_KidsOk.l0 k y0 y1) (spec_KidsOk.l0 (k + 1) y0 y1))
  | 0 => fun _ _ r h => by simp [spec_KidsOk.l0] at h
  | k + 1 => by
    have ih0 := spec_KidsOk.mono_l k
    · intro y0 y1
      unfold spec_KidsOk.l0
      exact LM
theorem spec_KidsOk.mono : ∀ a0 k, LeO (spec_KidsOk.f k a0) (spec_KidsOk.f (k + 1) a0) := by
  intro a0 k
  have ih0 := spec_KidsOk.mono_l k
  unfold spec_KidsOk.f
  exact LM
def spec_KidsOk.T4 : Bool × List (List Nat × List Nat) := (true, [([], []), ([], []), ([0, 1], [0, 1]), ([2], [2]), ([3], [3]), ([4], [4]), ([5], [5]), ([6, 5], [6]), ([7], [7]), ([8, 7], [7, 8]), ([9, 7, 7], [7, 9]), ([10], [10]), ([10], [10]), ([12, 10], [10, 12]), ([11, 13, 10], [10, 11, 13]), ([14, 10], [10, 14]), ([15, 10], [10, 15]), ([10], [10]), ([10], [10]), ([17, 18, 10], [10, 17, 18]), ([19, 10], [10, 19]), ([20, 10], [10, 20]), ([16, 21, 10], [10, 16, 21]), ([10, 22, 7], [7, 10, 22]), ([7, 23], [7, 23]), ([24, 10], [24]), ([25], [25]), ([25], [25]), ([26, 27, 25], [25, 26, 27]), ([28, 25], [25, 28]), ([29, 25], [25, 29]), ([30, 25, 25], [25, 30]), ([31, 25], [25, 31]), ([25, 32], [25, 32]), ([33, 31], [33]), ([34], [34]), ([34], [34]), ([35, 36, 34], [34, 35, 36]), ([37, 34], [34, 37]), ([38, 34], [34, 38]), ([39, 34, 34], [34, 39]), ([40, 34], [34, 40]), ([34, 41], [34, 41]), ([42, 40], [42]), ([43], [43]), ([43], [43]), ([44, 45, 43], [43, 44, 45]), ([46, 43], [43, 46]), ([47, 43], [43, 47]), ([48, 43, 43], [43, 48]), ([49, 43], [43, 49]), ([43, 50], [43, 50]), ([51, 49], [51]), ([52], [52]), ([52], [52]), ([53, 54, 52], [52, 53, 54]), ([55, 52], [52, 55]), ([56, 52], [52, 56]), ([57, 52], [52, 57]), ([52, 58], [52, 58])])
def spec_KidsOk.B4 : List Nat := [0, 0, 3, 7, 15, 31, 63, 127, 255, 511, 1023, 2047, 2047, 6143, 16383, 32767, 65535, 2047, 2047, 395263, 919551, 1968127, 4194303, 8388607, 16777215, 33554431, 67108863, 67108863, 268435455, 536870911, 1073741823, 2147483647, 4294967295, 8589934591, 17179869183, 34359738367, 34359738367, 137438953471, 274877906943, 549755813887, 1099511627775, 2199023255551, 4398046511103, 8796093022207, 17592186044415, 17592186044415, 70368744177663, 140737488355327, 281474976710655, 562949953421311, 1125899906842623, 2251799813685247, 4503599627370495, 9007199254740991, 9007199254740991, 36028797018963967, 72057594037927935, 144115188075855871, 288230376151711743, 576460752303423487]
theorem spec_KidsOk.tab4 : rtab .any (opsOf Try.f5 4) = spec_KidsOk.T4 := by kernel_rfl
theorem spec_KidsOk.bits4 : waitsOk spec_KidsOk.T4.2 spec_KidsOk.B4 = true := by kernel_rfl
set_option maxHeartbeats 40000000 in
set_option maxRecDepth 100000 in
theorem spec_KidsOk.calls (k : Nat) (A0 : Option Addr) (c0 : Nat) (l0 : List (S31)) (r : Bool) (w : World) (hr0 : Kd.C k31 w A0 l0.length l0) (hc0 : l0.length ≤ c0) (h : spec_KidsOk.f k l0 = some r) :
    Calls Try.prog 5 #[.slice A0 l0.length c0] w fun e w' => e = .returned (.bool r) ∧ Below w.heap.size w w' := by
  have HR0 := aM hr0
  have HC0 := aM hc0
  clear hr0 hc0
  have HB := aM (Below.refl w.heap.size w)
  have H := h
  clear h
  unfold spec_KidsOk.f at H
  have H' := aM H
  clear H
  go_enter Try.func5, Try.ntmps5
  go_wp2
  go_loopg [3] k (fun kq v3 w' => ∃ (x3_1 : Int), v3 = .int .i64 x3_1 ∧ Aside0 (spec_KidsOk.l0 kq l0 x3_1 = some r) ∧ Aside0 (kq ≤ k) ∧ Aside0 (Below w.heap.size w w'))
  case atStart => exact ⟨(0), (by first | rfl | (simp; done) | (simp [*]; done)), H', ⟨Nat.le_refl _⟩, ⟨TB⟩⟩
  case round =>
    clear H'
    obtain ⟨x3_1, rfl, HA, HK1, HB⟩ := hrel
    cases gk with
    | zero => exact absurd HA.out (by simp [spec_KidsOk.l0])
    | succ k1 =>
      have H := HA.out
      clear HA
      simp only [spec_KidsOk.l0] at H
      by_cases c2 : x3_1 < (l0.length : Int)
      · rw [if_pos c2] at H
        have c2b0 : decide (x3_1 < (l0.length : Int)) = true := decide_eq_true c2
        clear c2
        replace H := ifN H
        obtain ⟨c3, H⟩ := H
        have c3b0 : decide (0 ≤ x3_1) = true := decide_eq_true c3
        clear c3
        replace H := bE H
        obtain ⟨t103, A4, H⟩ := H
        by_cases c5 : t103 = true
        · subst c5
          replace H := ifT H
          by_cases c6 : x3_1 > 0
          · rw [if_pos c6] at H
            have c6b0 : decide (0 < x3_1) = true := decide_eq_true c6
            clear c6
            obtain ⟨ji7, hji7⟩ : ∃ j_ : Int, (wrap64 (x3_1 - 1)) = j_ := ⟨_, rfl⟩
            (first | rw [hji7] at H | simp only [hji7] at H | skip)
            (try rw [hji7] at A4)
            have hji7w : (IntKind.i64.wrap (x3_1 - 1)) = ji7 := (i64_w _).trans hji7
            replace H := ifN H
            obtain ⟨c8, H⟩ := H
            have c8b0 : decide (0 ≤ (ji7)) = true := decide_eq_true c8
            clear c8
            replace H := ifN H
            obtain ⟨c9, H⟩ := H
            have c9b0 : decide ((ji7) < (l0.length : Int)) = true := decide_eq_true c9
            clear c9
            by_cases c10 : ((rd_T31 l0 (ji7)).f0) ≥ ((rd_T31 l0 x3_1).f0)
            · rw [if_pos c10] at H
              have c10b0 : decide (((rd_T31 l0 x3_1).f0) ≤ ((rd_T31 l0 (ji7)).f0)) = true := decide_eq_true c10
              clear c10
              obtain rfl := Option.some.inj H
              try go_wp2
              replace HB := aM (below_drew1 HB.out)
              have p102 : 0 ≤ (x3_1 : Int) := DT
              have q102 : x3_1 < (l0.length : Int) := DT
              obtain ⟨ad102, e102, hx102_0, hx102_1, hx102_2, hx102_3, hx102_4⟩ := at_T31 HR0.out x3_1 p102 q102
              have hw102_4 := hx102_4
              have hw102_3 := hx102_3
              have hw102_2 := hx102_2
              have hw102_1 := hx102_1
              have hw102_0 := hx102_0
              cases e102
              replace hx102_0 := (HB.out.cell (World.block_lt_of_cell? w _ hx102_0)).trans hx102_0
              replace hx102_1 := (HB.out.cell (World.block_lt_of_cell? w _ hx102_1)).trans hx102_1
              replace hx102_2 := (HB.out.cell (World.block_lt_of_cell? w _ hx102_2)).trans hx102_2
              replace hx102_3 := (HB.out.cell (World.block_lt_of_cell? w _ hx102_3)).trans hx102_3
              replace hx102_4 := (HB.out.cell (World.block_lt_of_cell? w _ hx102_4)).trans hx102_4
              replace p102 := eq_true p102
              replace q102 := eq_true q102
              have p104 : 0 ≤ ((ji7) : Int) := DT
              have q104 : (ji7) < (l0.length : Int) := DT
              obtain ⟨ad104, e104, hx104_0, hx104_1, hx104_2, hx104_3, hx104_4⟩ := at_T31 HR0.out (ji7) p104 q104
              have hw104_4 := hx104_4
              have hw104_3 := hx104_3
              have hw104_2 := hx104_2
              have hw104_1 := hx104_1
              have hw104_0 := hx104_0
              obtain rfl : ad102 = ad104 := (by injection e104)
              replace hx104_0 := (HB.out.cell (World.block_lt_of_cell? w _ hx104_0)).trans hx104_0
              replace hx104_1 := (HB.out.cell (World.block_lt_of_cell? w _ hx104_1)).trans hx104_1
              replace hx104_2 := (HB.out.cell (World.block_lt_of_cell? w _ hx104_2)).trans hx104_2
              replace hx104_3 := (HB.out.cell (World.block_lt_of_cell? w _ hx104_3)).trans hx104_3
              replace hx104_4 := (HB.out.cell (World.block_lt_of_cell? w _ hx104_4)).trans hx104_4
              replace p104 := eq_true p104
              replace q104 := eq_true q104
              have p105 : 0 ≤ (x3_1 : Int) := DT
              have q105 : x3_1 < (l0.length : Int) := DT
              obtain ⟨ad105, e105, hx105_0, hx105_1, hx105_2, hx105_3, hx105_4⟩ := at_T31 HR0.out x3_1 p105 q105
              have hw105_4 := hx105_4
              have hw105_3 := hx105_3
              have hw105_2 := hx105_2
              have hw105_1 := hx105_1
              have hw105_0 := hx105_0
              obtain rfl : ad102 = ad105 := (by injection e105)
              replace hx105_0 := (HB.out.cell (World.block_lt_of_cell? w _ hx105_0)).trans hx105_0
              replace hx105_1 := (HB.out.cell (World.block_lt_of_cell? w _ hx105_1)).trans hx105_1
              replace hx105_2 := (HB.out.cell (World.block_lt_of_cell? w _ hx105_2)).trans hx105_2
              replace hx105_3 := (HB.out.cell (World.block_lt_of_cell? w _ hx105_3)).trans hx105_3
              replace hx105_4 := (HB.out.cell (World.block_lt_of_cell? w _ hx105_4)).trans hx105_4
              replace p105 := eq_true p105
              replace q105 := eq_true q105
              refine start_ (n := 60) (S := fun w' => w'.cell? (ad102.add ((x3_1).toNat * 5)) = some (.int .i64 ((rd_T31 l0 x3_1).f0)) ∧ w'.cell? ⟨(ad102.add ((x3_1).toNat * 5)).block, (ad102.add ((x3_1).toNat * 5)).off + 1, none⟩ = some (.int .i64 ((rd_T31 l0 x3_1).f1)) ∧ w'.cell? ⟨(ad102.add ((x3_1).toNat * 5)).block, (ad102.add ((x3_1).toNat * 5)).off + 2, none⟩ = some (.int .i64 ((rd_T31 l0 x3_1).f2)) ∧ w'.cell? ⟨(ad102.add ((x3_1).toNat * 5)).block, (ad102.add ((x3_1).toNat * 5)).off + 3, none⟩ = some (.int .i64 ((rd_T31 l0 x3_1).f3)) ∧ w'.cell? ⟨(ad102.add ((x3_1).toNat * 5)).block, (ad102.add ((x3_1).toNat * 5)).off + 4, none⟩ = some (.int .i64 ((rd_T31 l0 x3_1).f4)) ∧ w'.cell? (ad102.add (((ji7)).toNat * 5)) = some (.int .i64 ((rd_T31 l0 (ji7)).f0)) ∧ w'.cell? ⟨(ad102.add (((ji7)).toNat * 5)).block, (ad102.add (((ji7)).toNat * 5)).off + 1, none⟩ = some (.int .i64 ((rd_T31 l0 (ji7)).f1)) ∧ w'.cell? ⟨(ad102.add (((ji7)).toNat * 5)).block, (ad102.add (((ji7)).toNat * 5)).off + 2, none⟩ = some (.int .i64 ((rd_T31 l0 (ji7)).f2)) ∧ w'.cell? ⟨(ad102.add (((ji7)).toNat * 5)).block, (ad102.add (((ji7)).toNat * 5)).off + 3, none⟩ = some (.int .i64 ((rd_T31 l0 (ji7)).f3)) ∧ w'.cell? ⟨(ad102.add (((ji7)).toNat * 5)).block, (ad102.add (((ji7)).toNat * 5)).off + 4, none⟩ = some (.int .i64 ((rd_T31 l0 (ji7)).f4)) ∧ w'.cell? (ad102.add ((x3_1).toNat * 5)) = some (.int .i64 ((rd_T31 l0 x3_1).f0)) ∧ w'.cell? ⟨(ad102.add ((x3_1).toNat * 5)).block, (ad102.add ((x3_1).toNat * 5)).off + 1, none⟩ = some (.int .i64 ((rd_T31 l0 x3_1).f1)) ∧ w'.cell? ⟨(ad102.add ((x3_1).toNat * 5)).block, (ad102.add ((x3_1).toNat * 5)).off + 2, none⟩ = some (.int .i64 ((rd_T31 l0 x3_1).f2)) ∧ w'.cell? ⟨(ad102.add ((x3_1).toNat * 5)).block, (ad102.add ((x3_1).toNat * 5)).off + 3, none⟩ = some (.int .i64 ((rd_T31 l0 x3_1).f3)) ∧ w'.cell? ⟨(ad102.add ((x3_1).toNat * 5)).block, (ad102.add ((x3_1).toNat * 5)).off + 4, none⟩ = some (.int .i64 ((rd_T31 l0 x3_1).f4))) (ds := []) (Array.replicate 60 false) (by kernel_rfl) rfl rfl ⟨((HB.out.cell (World.block_lt_of_cell? w _ hw102_0)).trans hw102_0), ((HB.out.cell (World.block_lt_of_cell? w _ hw102_1)).trans hw102_1), ((HB.out.cell (World.block_lt_of_cell? w _ hw102_2)).trans hw102_2), ((HB.out.cell (World.block_lt_of_cell? w _ hw102_3)).trans hw102_3), ((HB.out.cell (World.block_lt_of_cell? w _ hw102_4)).trans hw102_4), ((HB.out.cell (World.block_lt_of_cell? w _ hw104_0)).trans hw104_0), ((HB.out.cell (World.block_lt_of_cell? w _ hw104_1)).trans hw104_1), ((HB.out.cell (World.block_lt_of_cell? w _ hw104_2)).trans hw104_2), ((HB.out.cell (World.block_lt_of_cell? w _ hw104_3)).trans hw104_3), ((HB.out.cell (World.block_lt_of_cell? w _ hw104_4)).trans hw104_4), ((HB.out.cell (World.block_lt_of_cell? w _ hw105_0)).trans hw105_0), ((HB.out.cell (World.block_lt_of_cell? w _ hw105_1)).trans hw105_1), ((HB.out.cell (World.block_lt_of_cell? w _ hw105_2)).trans hw105_2), ((HB.out.cell (World.block_lt_of_cell? w _ hw105_3)).trans hw105_3), ((HB.out.cell (World.block_lt_of_cell? w _ hw105_4)).trans hw105_4)⟩ (fun hHeld => ?_); refine with_tabW spec_KidsOk.tab4 spec_KidsOk.bits4 (fun HT_ HW_ => ?_)
              generalize wr.drew = w11 at HB hx102_0 hx102_1 hx102_2 hx102_3 hx102_4 hx104_0 hx104_1 hx104_2 hx104_3 hx104_4 hx105_0 hx105_1 hx105_2 hx105_3 hx105_4 hHeld ⊢
              refine pP 0 (some 10) ?_
              refine pP 1 (some 11) ?_
              refine pP 2 (some 12) ?_
              refine pP 3 (some 13) ?_
              refine pT 4 (some 14) ?_
              refine pO 5 (some 15) (fun K hK => ?_)
              refine gG Try.func9 #[.int .i64 ((rd_T31 l0 x3_1).f0), .int .i64 0, .int .i64 6] ?_
              with_reducible refine (spec_l1In.calls ((rd_T31 l0 x3_1).f0) 0 6 true _ A4.out).mono ?_
              rintro e w' ⟨rfl, ⟨nd, rfl⟩⟩
              refine ⟨_, rfl, ?_⟩
              refine hK.out _ _ ⟨((HB.out.cell (World.block_lt_of_cell? w _ hw102_0)).trans hw102_0), ((HB.out.cell (World.block_lt_of_cell? w _ hw102_1)).trans hw102_1), ((HB.out.cell (World.block_lt_of_cell? w _ hw102_2)).trans hw102_2), ((HB.out.cell (World.block_lt_of_cell? w _ hw102_3)).trans hw102_3), ((HB.out.cell (World.block_lt_of_cell? w _ hw102_4)).trans hw102_4), ((HB.out.cell (World.block_lt_of_cell? w _ hw104_0)).trans hw104_0), ((HB.out.cell (World.block_lt_of_cell? w _ hw104_1)).trans hw104_1), ((HB.out.cell (World.block_lt_of_cell? w _ hw104_2)).trans hw104_2), ((HB.out.cell (World.block_lt_of_cell? w _ hw104_3)).trans hw104_3), ((HB.out.cell (World.block_lt_of_cell? w _ hw104_4)).trans hw104_4), ((HB.out.cell (World.block_lt_of_cell? w _ hw105_0)).trans hw105_0), ((HB.out.cell (World.block_lt_of_cell? w _ hw105_1)).trans hw105_1), ((HB.out.cell (World.block_lt_of_cell? w _ hw105_2)).trans hw105_2), ((HB.out.cell (World.block_lt_of_cell? w _ hw105_3)).trans hw105_3), ((HB.out.cell (World.block_lt_of_cell? w _ hw105_4)).trans hw105_4)⟩ (fun hHeld => ?_)
              clear hK K
              refine nR ?_
              refine pP 6 (some 16) ?_
              refine pP 7 (some 17) ?_
              refine pP 8 (some 18) ?_
              refine pP 9 (some 19) ?_
              refine pP 10 (some 20) ?_
              refine pP 11 (some 21) ?_
              refine pP 12 (some 22) ?_
              refine pP 13 (some 23) ?_
              refine pP 14 (some 24) ?_
              refine pP 15 (some 25) ?_
              refine pP 17 (some 27) ?_
              refine pP 18 (some 28) ?_
              refine pP 19 (some 29) ?_
              refine pP 20 (some 30) ?_
              refine pT 16 (some 26) ?_
              refine pT 21 (some 31) ?_
              refine pP 22 (some 32) ?_
              refine pP 23 (some 33) ?_
              refine pP 24 (some 34) ?_
              refine pP 25 (some 35) ?_
              refine pX 26 (some 36) ?_
              refine pX 27 (some 37) ?_
              refine pX 28 (some 38) ?_
              refine pX 29 (some 39) ?_
              refine pX 30 (some 40) ?_
              refine pX 31 (some 41) ?_
              refine pX 32 (some 42) ?_
              refine pP 33 (some 43) ?_
              refine pP 34 (some 44) ?_
              refine pX 35 (some 45) ?_
              refine pX 36 (some 46) ?_
              refine pX 37 (some 47) ?_
              refine pX 38 (some 48) ?_
              refine pX 39 (some 49) ?_
              refine pX 40 (some 50) ?_
              refine pX 41 (some 51) ?_
              refine pP 42 (some 52) ?_
              refine pP 43 (some 53) ?_
              refine pX 44 (some 54) ?_
              refine pX 45 (some 55) ?_
              refine pX 46 (some 56) ?_
              refine pX 47 (some 57) ?_
              refine pX 48 (some 58) ?_
              refine pX 49 (some 59) ?_
              refine pX 50 (some 60) ?_
              refine pP 51 (some 61) ?_
              refine pP 52 (some 62) ?_
              refine pX 53 (some 63) ?_
              refine pX 54 (some 64) ?_
              refine pX 55 (some 65) ?_
              refine pX 56 (some 66) ?_
              refine pX 57 (some 67) ?_
              refine pX 58 (some 68) ?_
              refine pP 59 (some 69) ?_
              refine done_ (done_of HT_.out (by kernel_rfl)) ?_
              try go_wp2
              go_ret
              exact ⟨by first | rfl | (simp [errW_none, errW_some] <;> rfl) | (simp only [← hji7]; first | rfl | (simp [errW_none, errW_some] <;> rfl)) | (simp [*, errW_none, errW_some] <;> rfl), TB⟩
            · rw [if_neg c10] at H
              have c10b0 : decide (((rd_T31 l0 x3_1).f0) ≤ ((rd_T31 l0 (ji7)).f0)) = false := decide_eq_false c10
              clear c10
              replace H := bE H
              obtain ⟨t107, A12, H⟩ := H
              by_cases c13 : t107 = true
              · subst c13
                replace H := ifT H
                replace H := bE H
                obtain ⟨t109, A14, H⟩ := H
                by_cases c15 : t109 = true
                · subst c15
                  replace H := ifT H
                  replace H := bE H
                  obtain ⟨t111, A16, H⟩ := H
                  by_cases c17 : t111 = true
                  · subst c17
                    replace H := ifT H
                    by_cases c18 : ((rd_T31 l0 x3_1).f3) < 0
                    · rw [if_pos c18] at H
                      have c18b0 : decide (((rd_T31 l0 x3_1).f3) < 0) = true := decide_eq_true c18
                      clear c18
                      obtain rfl := Option.some.inj H
                      try go_wp2
                      replace HB := aM (below_drew1 HB.out)
                      have p102 : 0 ≤ (x3_1 : Int) := DT
                      have q102 : x3_1 < (l0.length : Int) := DT
                      obtain ⟨ad102, e102, hx102_0, hx102_1, hx102_2, hx102_3, hx102_4⟩ := at_T31 HR0.out x3_1 p102 q102
                      have hw102_4 := hx102_4
                      have hw102_3 := hx102_3
                      have hw102_2 := hx102_2
                      have hw102_1 := hx102_1
                      have hw102_0 := hx102_0
                      cases e102
                      replace hx102_0 := (HB.out.cell (World.block_lt_of_cell? w _ hx102_0)).trans hx102_0
                      replace hx102_1 := (HB.out.cell (World.block_lt_of_cell? w _ hx102_1)).trans hx102_1
                      replace hx102_2 := (HB.out.cell (World.block_lt_of_cell? w _ hx102_2)).trans hx102_2
                      replace hx102_3 := (HB.out.cell (World.block_lt_of_cell? w _ hx102_3)).trans hx102_3
                      replace hx102_4 := (HB.out.cell (World.block_lt_of_cell? w _ hx102_4)).trans hx102_4
                      replace p102 := eq_true p102
                      replace q102 := eq_true q102
                      have p104 : 0 ≤ ((ji7) : Int) := DT
                      have q104 : (ji7) < (l0.length : Int) := DT
                      obtain ⟨ad104, e104, hx104_0, hx104_1, hx104_2, hx104_3, hx104_4⟩ := at_T31 HR0.out (ji7) p104 q104
                      have hw104_4 := hx104_4
                      have hw104_3 := hx104_3
                      have hw104_2 := hx104_2
                      have hw104_1 := hx104_1
                      have hw104_0 := hx104_0
                      obtain rfl : ad102 = ad104 := (by injection e104)
                      replace hx104_0 := (HB.out.cell (World.block_lt_of_cell? w _ hx104_0)).trans hx104_0
                      replace hx104_1 := (HB.out.cell (World.block_lt_of_cell? w _ hx104_1)).trans hx104_1
                      replace hx104_2 := (HB.out.cell (World.block_lt_of_cell? w _ hx104_2)).trans hx104_2
                      replace hx104_3 := (HB.out.cell (World.block_lt_of_cell? w _ hx104_3)).trans hx104_3
                      replace hx104_4 := (HB.out.cell (World.block_lt_of_cell? w _ hx104_4)).trans hx104_4
                      replace p104 := eq_true p104
                      replace q104 := eq_true q104
                      have p105 : 0 ≤ (x3_1 : Int) := DT
                      have q105 : x3_1 < (l0.length : Int) := DT
                      obtain ⟨ad105, e105, hx105_0, hx105_1, hx105_2, hx105_3, hx105_4⟩ := at_T31 HR0.out x3_1 p105 q105
                      have hw105_4 := hx105_4
                      have hw105_3 := hx105_3
                      have hw105_2 := hx105_2
                      have hw105_1 := hx105_1
                      have hw105_0 := hx105_0
                      obtain rfl : ad102 = ad105 := (by injection e105)
                      replace hx105_0 := (HB.out.cell (World.block_lt_of_cell? w _ hx105_0)).trans hx105_0
                      replace hx105_1 := (HB.out.cell (World.block_lt_of_cell? w _ hx105_1)).trans hx105_1
                      replace hx105_2 := (HB.out.cell (World.block_lt_of_cell? w _ hx105_2)).trans hx105_2
                      replace hx105_3 := (HB.out.cell (World.block_lt_of_cell? w _ hx105_3)).trans hx105_3
                      replace hx105_4 := (HB.out.cell (World.block_lt_of_cell? w _ hx105_4)).trans hx105_4
                      replace p105 := eq_true p105
                      replace q105 := eq_true q105
                      have p106 : 0 ≤ (x3_1 : Int) := DT
                      have q106 : x3_1 < (l0.length : Int) := DT
                      obtain ⟨ad106, e106, hx106_0, hx106_1, hx106_2, hx106_3, hx106_4⟩ := at_T31 HR0.out x3_1 p106 q106
                      have hw106_4 := hx106_4
                      have hw106_3 := hx106_3
                      have hw106_2 := hx106_2
                      have hw106_1 := hx106_1
                      have hw106_0 := hx106_0
                      obtain rfl : ad102 = ad106 := (by injection e106)
                      replace hx106_0 := (HB.out.cell (World.block_lt_of_cell? w _ hx106_0)).trans hx106_0
                      replace hx106_1 := (HB.out.cell (World.block_lt_of_cell? w _ hx106_1)).trans hx106_1
                      replace hx106_2 := (HB.out.cell (World.block_lt_of_cell? w _ hx106_2)).trans hx106_2
                      replace hx106_3 := (HB.out.cell (World.block_lt_of_cell? w _ hx106_3)).trans hx106_3
                      replace hx106_4 := (HB.out.cell (World.block_lt_of_cell? w _ hx106_4)).trans hx106_4
                      replace p106 := eq_true p106
                      replace q106 := eq_true q106
                      have p108 : 0 ≤ (x3_1 : Int) := DT
                      have q108 : x3_1 < (l0.length : Int) := DT
                      obtain ⟨ad108, e108, hx108_0, hx108_1, hx108_2, hx108_3, hx108_4⟩ := at_T31 HR0.out x3_1 p108 q108
                      have hw108_4 := hx108_4
                      have hw108_3 := hx108_3
                      have hw108_2 := hx108_2
                      have hw108_1 := hx108_1
                      have hw108_0 := hx108_0
                      obtain rfl : ad102 = ad108 := (by injection e108)
                      replace hx108_0 := (HB.out.cell (World.block_lt_of_cell? w _ hx108_0)).trans hx108_0
                      replace hx108_1 := (HB.out.cell (World.block_lt_of_cell? w _ hx108_1)).trans hx108_1
                      replace hx108_2 := (HB.out.cell (World.block_lt_of_cell? w _ hx108_2)).trans hx108_2
                      replace hx108_3 := (HB.out.cell (World.block_lt_of_cell? w _ hx108_3)).trans hx108_3
                      replace hx108_4 := (HB.out.cell (World.block_lt_of_cell? w _ hx108_4)).trans hx108_4
                      replace p108 := eq_true p108
                      replace q108 := eq_true q108
                      have p110 : 0 ≤ (x3_1 : Int) := DT
                      have q110 : x3_1 < (l0.length : Int) := DT
                      obtain ⟨ad110, e110, hx110_0, hx110_1, hx110_2, hx110_3, hx110_4⟩ := at_T31 HR0.out x3_1 p110 q110
                      have hw110_4 := hx110_4
                      have hw110_3 := hx110_3
                      have hw110_2 := hx110_2
                      have hw110_1 := hx110_1
                      have hw110_0 := hx110_0
                      obtain rfl : ad102 = ad110 := (by injection e110)
                      replace hx110_0 := (HB.out.cell (World.block_lt_of_cell? w _ hx110_0)).trans hx110_0
                      replace hx110_1 := (HB.out.cell (World.block_lt_of_cell? w _ hx110_1)).trans hx110_1
                      replace hx110_2 := (HB.out.cell (World.block_lt_of_cell? w _ hx110_2)).trans hx110_2
                      replace hx110_3 := (HB.out.cell (World.block_lt_of_cell? w _ hx110_3)).trans hx110_3
                      replace hx110_4 := (HB.out.cell (World.block_lt_of_cell? w _ hx110_4)).trans hx110_4
                      replace p110 := eq_true p110
                      replace q110 := eq_true q110
                      have p112 : 0 ≤ (x3_1 : Int) := DT
                      have q112 : x3_1 < (l0.length : Int) := DT
                      obtain ⟨ad112, e112, hx112_0, hx112_1, hx112_2, hx112_3, hx112_4⟩ := at_T31 HR0.out x3_1 p112 q112
                      have hw112_4 := hx112_4
                      have hw112_3 := hx112_3
                      have hw112_2 := hx112_2
                      have hw112_1 := hx112_1
                      have hw112_0 := hx112_0
                      obtain rfl : ad102 = ad112 := (by injection e112)
                      replace hx112_0 := (HB.out.cell (World.block_lt_of_cell? w _ hx112_0)).trans hx112_0
                      replace hx112_1 := (HB.out.cell (World.block_lt_of_cell? w _ hx112_1)).trans hx112_1
                      replace hx112_2 := (HB.out.cell (World.block_lt_of_cell? w _ hx112_2)).trans hx112_2
                      replace hx112_3 := (HB.out.cell (World.block_lt_of_cell? w _ hx112_3)).trans hx112_3
                      replace hx112_4 := (HB.out.cell (World.block_lt_of_cell? w _ hx112_4)).trans hx112_4
                      replace p112 := eq_true p112
                      replace q112 := eq_true q112
                      refine start_ (n := 60) (S := fun w' => w'.cell? (ad102.add ((x3_1).toNat * 5)) = some (.int .i64 ((rd_T31 l0 x3_1).f0)) ∧ w'.cell? ⟨(ad102.add ((x3_1).toNat * 5)).block, (ad102.add ((x3_1).toNat * 5)).off + 1, none⟩ = some (.int .i64 ((rd_T31 l0 x3_1).f1)) ∧ w'.cell? ⟨(ad102.add ((x3_1).toNat * 5)).block, (ad102.add ((x3_1).toNat * 5)).off + 2, none⟩ = some (.int .i64 ((rd_T31 l0 x3_1).f2)) ∧ w'.cell? ⟨(ad102.add ((x3_1).toNat * 5)).block, (ad102.add ((x3_1).toNat * 5)).off + 3, none⟩ = some (.int .i64 ((rd_T31 l0 x3_1).f3)) ∧ w'.cell? ⟨(ad102.add ((x3_1).toNat * 5)).block, (ad102.add ((x3_1).toNat * 5)).off + 4, none⟩ = some (.int .i64 ((rd_T31 l0 x3_1).f4)) ∧ w'.cell? (ad102.add (((ji7)).toNat * 5)) = some (.int .i64 ((rd_T31 l0 (ji7)).f0)) ∧ w'.cell? ⟨(ad102.add (((ji7)).toNat * 5)).block, (ad102.add (((ji7)).toNat * 5)).off + 1, none⟩ = some (.int .i64 ((rd_T31 l0 (ji7)).f1)) ∧ w'.cell? ⟨(ad102.add (((ji7)).toNat * 5)).block, (ad102.add (((ji7)).toNat * 5)).off + 2, none⟩ = some (.int .i64 ((rd_T31 l0 (ji7)).f2)) ∧ w'.cell? ⟨(ad102.add (((ji7)).toNat * 5)).block, (ad102.add (((ji7)).toNat * 5)).off + 3, none⟩ = some (.int .i64 ((rd_T31 l0 (ji7)).f3)) ∧ w'.cell? ⟨(ad102.add (((ji7)).toNat * 5)).block, (ad102.add (((ji7)).toNat * 5)).off + 4, none⟩ = some (.int .i64 ((rd_T31 l0 (ji7)).f4)) ∧ w'.cell? (ad102.add ((x3_1).toNat * 5)) = some (.int .i64 ((rd_T31 l0 x3_1).f0)) ∧ w'.cell? ⟨(ad102.add ((x3_1).toNat * 5)).block, (ad102.add ((x3_1).toNat * 5)).off + 1, none⟩ = some (.int .i64 ((rd_T31 l0 x3_1).f1)) ∧ w'.cell? ⟨(ad102.add ((x3_1).toNat * 5)).block, (ad102.add ((x3_1).toNat * 5)).off + 2, none⟩ = some (.int .i64 ((rd_T31 l0 x3_1).f2)) ∧ w'.cell? ⟨(ad102.add ((x3_1).toNat * 5)).block, (ad102.add ((x3_1).toNat * 5)).off + 3, none⟩ = some (.int .i64 ((rd_T31 l0 x3_1).f3)) ∧ w'.cell? ⟨(ad102.add ((x3_1).toNat * 5)).block, (ad102.add ((x3_1).toNat * 5)).off + 4, none⟩ = some (.int .i64 ((rd_T31 l0 x3_1).f4)) ∧ w'.cell? (ad102.add ((x3_1).toNat * 5)) = some (.int .i64 ((rd_T31 l0 x3_1).f0)) ∧ w'.cell? ⟨(ad102.add ((x3_1).toNat * 5)).block, (ad102.add ((x3_1).toNat * 5)).off + 1, none⟩ = some (.int .i64 ((rd_T31 l0 x3_1).f1)) ∧ w'.cell? ⟨(ad102.add ((x3_1).toNat * 5)).block, (ad102.add ((x3_1).toNat * 5)).off + 2, none⟩ = some (.int .i64 ((rd_T31 l0 x3_1).f2)) ∧ w'.cell? ⟨(ad102.add ((x3_1).toNat * 5)).block, (ad102.add ((x3_1).toNat * 5)).off + 3, none⟩ = some (.int .i64 ((rd_T31 l0 x3_1).f3)) ∧ w'.cell? ⟨(ad102.add ((x3_1).toNat * 5)).block, (ad102.add ((x3_1).toNat * 5)).off + 4, none⟩ = some (.int .i64 ((rd_T31 l0 x3_1).f4)) ∧ w'.cell? (ad102.add ((x3_1).toNat * 5)) = some (.int .i64 ((rd_T31 l0 x3_1).f0)) ∧ w'.cell? ⟨(ad102.add ((x3_1).toNat * 5)).block, (ad102.add ((x3_1).toNat * 5)).off + 1, none⟩ = some (.int .i64 ((rd_T31 l0 x3_1).f1)) ∧ w'.cell? ⟨(ad102.add ((x3_1).toNat * 5)).block, (ad102.add ((x3_1).toNat * 5)).off + 2, none⟩ = some (.int .i64 ((rd_T31 l0 x3_1).f2)) ∧ w'.cell? ⟨(ad102.add ((x3_1).toNat * 5)).block, (ad102.add ((x3_1).toNat * 5)).off + 3, none⟩ = some (.int .i64 ((rd_T31 l0 x3_1).f3)) ∧ w'.cell? ⟨(ad102.add ((x3_1).toNat * 5)).block, (ad102.add ((x3_1).toNat * 5)).off + 4, none⟩ = some (.int .i64 ((rd_T31 l0 x3_1).f4)) ∧ w'.cell? (ad102.add ((x3_1).toNat * 5)) = some (.int .i64 ((rd_T31 l0 x3_1).f0)) ∧ w'.cell? ⟨(ad102.add ((x3_1).toNat * 5)).block, (ad102.add ((x3_1).toNat * 5)).off + 1, none⟩ = some (.int .i64 ((rd_T31 l0 x3_1).f1)) ∧ w'.cell? ⟨(ad102.add ((x3_1).toNat * 5)).block, (ad102.add ((x3_1).toNat * 5)).off + 2, none⟩ = some (.int .i64 ((rd_T31 l0 x3_1).f2)) ∧ w'.cell? ⟨(ad102.add ((x3_1).toNat * 5)).block, (ad102.add ((x3_1).toNat * 5)).off + 3, none⟩ = some (.int .i64 ((rd_T31 l0 x3_1).f3)) ∧ w'.cell? ⟨(ad102.add ((x3_1).toNat * 5)).block, (ad102.add ((x3_1).toNat * 5)).off + 4, none⟩ = some (.int .i64 ((rd_T31 l0 x3_1).f4)) ∧ w'.cell? (ad102.add ((x3_1).toNat * 5)) = some (.int .i64 ((rd_T31 l0 x3_1).f0)) ∧ w'.cell? ⟨(ad102.add ((x3_1).toNat * 5)).block, (ad102.add ((x3_1).toNat * 5)).off + 1, none⟩ = some (.int .i64 ((rd_T31 l0 x3_1).f1)) ∧ w'.cell? ⟨(ad102.add ((x3_1).toNat * 5)).block, (ad102.add ((x3_1).toNat * 5)).off + 2, none⟩ = some (.int .i64 ((rd_T31 l0 x3_1).f2)) ∧ w'.cell? ⟨(ad102.add ((x3_1).toNat * 5)).block, (ad102.add ((x3_1).toNat * 5)).off + 3, none⟩ = some (.int .i64 ((rd_T31 l0 x3_1).f3)) ∧ w'.cell? ⟨(ad102.add ((x3_1).toNat * 5)).block, (ad102.add ((x3_1).toNat * 5)).off + 4, none⟩ = some (.int .i64 ((rd_T31 l0 x3_1).f4))) (ds := []) (Array.replicate 60 false) (by kernel_rfl) rfl rfl ⟨((HB.out.cell (World.block_lt_of_cell? w _ hw102_0)).trans hw102_0), ((HB.out.cell (World.block_lt_of_cell? w _ hw102_1)).trans hw102_1), ((HB.out.cell (World.block_lt_of_cell? w _ hw102_2)).trans hw102_2), ((HB.out.cell (World.block_lt_of_cell? w _ hw102_3)).trans hw102_3), ((HB.out.cell (World.block_lt_of_cell? w _ hw102_4)).trans hw102_4), ((HB.out.cell (World.block_lt_of_cell? w _ hw104_0)).trans hw104_0), ((HB.out.cell (World.block_lt_of_cell? w _ hw104_1)).trans hw104_1), ((HB.out.cell (World.block_lt_of_cell? w _ hw104_2)).trans hw104_2), ((HB.out.cell (World.block_lt_of_cell? w _ hw104_3)).trans hw104_3), ((HB.out.cell (World.block_lt_of_cell? w _ hw104_4)).trans hw104_4), ((HB.out.cell (World.block_lt_of_cell? w _ hw105_0)).trans hw105_0), ((HB.out.cell (World.block_lt_of_cell? w _ hw105_1)).trans hw105_1), ((HB.out.cell (World.block_lt_of_cell? w _ hw105_2)).trans hw105_2), ((HB.out.cell (World.block_lt_of_cell? w _ hw105_3)).trans hw105_3), ((HB.out.cell (World.block_lt_of_cell? w _ hw105_4)).trans hw105_4), ((HB.out.cell (World.block_lt_of_cell? w _ hw106_0)).trans hw106_0), ((HB.out.cell (World.block_lt_of_cell? w _ hw106_1)).trans hw106_1), ((HB.out.cell (World.block_lt_of_cell? w _ hw106_2)).trans hw106_2), ((HB.out.cell (World.block_lt_of_cell? w _ hw106_3)).trans hw106_3), ((HB.out.cell (World.block_lt_of_cell? w _ hw106_4)).trans hw106_4), ((HB.out.cell (World.block_lt_of_cell? w _ hw108_0)).trans hw108_0), ((HB.out.cell (World.block_lt_of_cell? w _ hw108_1)).trans hw108_1), ((HB.out.cell (World.block_lt_of_cell? w _ hw108_2)).trans hw108_2), ((HB.out.cell (World.block_lt_of_cell? w _ hw108_3)).trans hw108_3), ((HB.out.cell (World.block_lt_of_cell? w _ hw108_4)).trans hw108_4), ((HB.out.cell (World.block_lt_of_cell? w _ hw110_0)).trans hw110_0), ((HB.out.cell (World.block_lt_of_cell? w _ hw110_1)).trans hw110_1), ((HB.out.cell (World.block_lt_of_cell? w _ hw110_2)).trans hw110_2), ((HB.out.cell (World.block_lt_of_cell? w _ hw110_3)).trans hw110_3), ((HB.out.cell (World.block_lt_of_cell? w _ hw110_4)).trans hw110_4), ((HB.out.cell (World.block_lt_of_cell? w _ hw112_0)).trans hw112_0), ((HB.out.cell (World.block_lt_of_cell? w _ hw112_1)).trans hw112_1), ((HB.out.cell (World.block_lt_of_cell? w _ hw112_2)).trans hw112_2), ((HB.out.cell (World.block_lt_of_cell? w _ hw112_3)).trans hw112_3), ((HB.out.cell (World.block_lt_of_cell? w _ hw112_4)).trans hw112_4)⟩ (fun hHeld => ?_); refine with_tabW spec_KidsOk.tab4 spec_KidsOk.bits4 (fun HT_ HW_ => ?_)
                      generalize wr.drew = w19 at HB hx102_0 hx102_1 hx102_2 hx102_3 hx102_4 hx104_0 hx104_1 hx104_2 hx104_3 hx104_4 hx105_0 hx105_1 hx105_2 hx105_3 hx105_4 hx106_0 hx106_1 hx106_2 hx106_3 hx106_4 hx108_0 hx108_1 hx108_2 hx108_3 hx108_4 hx110_0 hx110_1 hx110_2 hx110_3 hx110_4 hx112_0 hx112_1 hx112_2 hx112_3 hx112_4 hHeld ⊢
                      refine pP 0 (some 10) ?_
                      refine pP 1 (some 11) ?_
                      refine pP 2 (some 12) ?_
                      refine pP 3 (some 13) ?_
                      refine pT 4 (some 14) ?_
                      refine pO 5 (some 15) (fun K hK => ?_)
                      refine gG Try.func9 #[.int .i64 ((rd_T31 l0 x3_1).f0), .int .i64 0, .int .i64 6] ?_
                      with_reducible refine (spec_l1In.calls ((rd_T31 l0 x3_1).f0) 0 6 true _ A4.out).mono ?_
                      rintro e w' ⟨rfl, ⟨nd, rfl⟩⟩
                      refine ⟨_, rfl, ?_⟩
                      refine hK.out _ _ ⟨((HB.out.cell (World.block_lt_of_cell? w _ hw102_0)).trans hw102_0), ((HB.out.cell (World.block_lt_of_cell? w _ hw102_1)).trans hw102_1), ((HB.out.cell (World.block_lt_of_cell? w _ hw102_2)).trans hw102_2), ((HB.out.cell (World.block_lt_of_cell? w _ hw102_3)).trans hw102_3), ((HB.out.cell (World.block_lt_of_cell? w _ hw102_4)).trans hw102_4), ((HB.out.cell (World.block_lt_of_cell? w _ hw104_0)).trans hw104_0), ((HB.out.cell (World.block_lt_of_cell? w _ hw104_1)).trans hw104_1), ((HB.out.cell (World.block_lt_of_cell? w _ hw104_2)).trans hw104_2), ((HB.out.cell (World.block_lt_of_cell? w _ hw104_3)).trans hw104_3), ((HB.out.cell (World.block_lt_of_cell? w _ hw104_4)).trans hw104_4), ((HB.out.cell (World.block_lt_of_cell? w _ hw105_0)).trans hw105_0), ((HB.out.cell (World.block_lt_of_cell? w _ hw105_1)).trans hw105_1), ((HB.out.cell (World.block_lt_of_cell? w _ hw105_2)).trans hw105_2), ((HB.out.cell (World.block_lt_of_cell? w _ hw105_3)).trans hw105_3), ((HB.out.cell (World.block_lt_of_cell? w _ hw105_4)).trans hw105_4), ((HB.out.cell (World.block_lt_of_cell? w _ hw106_0)).trans hw106_0), ((HB.out.cell (World.block_lt_of_cell? w _ hw106_1)).trans hw106_1), ((HB.out.cell (World.block_lt_of_cell? w _ hw106_2)).trans hw106_2), ((HB.out.cell (World.block_lt_of_cell? w _ hw106_3)).trans hw106_3), ((HB.out.cell (World.block_lt_of_cell? w _ hw106_4)).trans hw106_4), ((HB.out.cell (World.block_lt_of_cell? w _ hw108_0)).trans hw108_0), ((HB.out.cell (World.block_lt_of_cell? w _ hw108_1)).trans hw108_1), ((HB.out.cell (World.block_lt_of_cell? w _ hw108_2)).trans hw108_2), ((HB.out.cell (World.block_lt_of_cell? w _ hw108_3)).trans hw108_3), ((HB.out.cell (World.block_lt_of_cell? w _ hw108_4)).trans hw108_4), ((HB.out.cell (World.block_lt_of_cell? w _ hw110_0)).trans hw110_0), ((HB.out.cell (World.block_lt_of_cell? w _ hw110_1)).trans hw110_1), ((HB.out.cell (World.block_lt_of_cell? w _ hw110_2)).trans hw110_2), ((HB.out.cell (World.block_lt_of_cell? w _ hw110_3)).trans hw110_3), ((HB.out.cell (World.block_lt_of_cell? w _ hw110_4)).trans hw110_4), ((HB.out.cell (World.block_lt_of_cell? w _ hw112_0)).trans hw112_0), ((HB.out.cell (World.block_lt_of_cell? w _ hw112_1)).trans hw112_1), ((HB.out.cell (World.block_lt_of_cell? w _ hw112_2)).trans hw112_2), ((HB.out.cell (World.block_lt_of_cell? w _ hw112_3)).trans hw112_3), ((HB.out.cell (World.block_lt_of_cell? w _ hw112_4)).trans hw112_4)⟩ (fun hHeld => ?_)
                      clear hK K
                      refine nR ?_
                      refine pP 6 (some 16) ?_
                      refine pP 7 (some 17) ?_
                      refine pP 8 (some 18) ?_
                      refine pP 9 (some 19) ?_
                      refine pP 10 (some 20) ?_
                      refine pP 11 (some 21) ?_
                      refine pP 12 (some 22) ?_
                      refine pP 13 (some 23) ?_
                      refine pP 14 (some 24) ?_
                      refine pP 15 (some 25) ?_
                      refine pP 17 (some 27) ?_
                      refine pP 18 (some 28) ?_
                      refine pP 19 (some 29) ?_
                      refine pP 20 (some 30) ?_
                      refine pT 16 (some 26) ?_
                      refine pT 21 (some 31) ?_
                      refine pP 22 (some 32) ?_
                      refine pP 23 (some 33) ?_
                      refine pP 24 (some 34) ?_
                      refine pP 25 (some 35) ?_
                      refine pP 26 (some 36) ?_
                      refine pP 27 (some 37) ?_
                      refine pP 28 (some 38) ?_
                      refine pP 29 (some 39) ?_
                      refine pT 30 (some 40) ?_
                      refine pO 31 (some 41) (fun K hK => ?_)
                      refine gG Try.func10 #[.int .i64 ((rd_T31 l0 x3_1).f1)] ?_
                      with_reducible refine (spec_SetOk.calls ((rd_T31 l0 x3_1).f1) true _ A12.out).mono ?_
                      rintro e w' ⟨rfl, ⟨nd, rfl⟩⟩
                      refine ⟨_, rfl, ?_⟩
                      refine hK.out _ _ ⟨((HB.out.cell (World.block_lt_of_cell? w _ hw102_0)).trans hw102_0), ((HB.out.cell (World.block_lt_of_cell? w _ hw102_1)).trans hw102_1), ((HB.out.cell (World.block_lt_of_cell? w _ hw102_2)).trans hw102_2), ((HB.out.cell (World.block_lt_of_cell? w _ hw102_3)).trans hw102_3), ((HB.out.cell (World.block_lt_of_cell? w _ hw102_4)).trans hw102_4), ((HB.out.cell (World.block_lt_of_cell? w _ hw104_0)).trans hw104_0), ((HB.out.cell (World.block_lt_of_cell? w _ hw104_1)).trans hw104_1), ((HB.out.cell (World.block_lt_of_cell? w _ hw104_2)).trans hw104_2), ((HB.out.cell (World.block_lt_of_cell? w _ hw104_3)).trans hw104_3), ((HB.out.cell (World.block_lt_of_cell? w _ hw104_4)).trans hw104_4), ((HB.out.cell (World.block_lt_of_cell? w _ hw105_0)).trans hw105_0), ((HB.out.cell (World.block_lt_of_cell? w _ hw105_1)).trans hw105_1), ((HB.out.cell (World.block_lt_of_cell? w _ hw105_2)).trans hw105_2), ((HB.out.cell (World.block_lt_of_cell? w _ hw105_3)).trans hw105_3), ((HB.out.cell (World.block_lt_of_cell? w _ hw105_4)).trans hw105_4), ((HB.out.cell (World.block_lt_of_cell? w _ hw106_0)).trans hw106_0), ((HB.out.cell (World.block_lt_of_cell? w _ hw106_1)).trans hw106_1), ((HB.out.cell (World.block_lt_of_cell? w _ hw106_2)).trans hw106_2), ((HB.out.cell (World.block_lt_of_cell? w _ hw106_3)).trans hw106_3), ((HB.out.cell (World.block_lt_of_cell? w _ hw106_4)).trans hw106_4), ((HB.out.cell (World.block_lt_of_cell? w _ hw108_0)).trans hw108_0), ((HB.out.cell (World.block_lt_of_cell? w _ hw108_1)).trans hw108_1), ((HB.out.cell (World.block_lt_of_cell? w _ hw108_2)).trans hw108_2), ((HB.out.cell (World.block_lt_of_cell? w _ hw108_3)).trans hw108_3), ((HB.out.cell (World.block_lt_of_cell? w _ hw108_4)).trans hw108_4), ((HB.out.cell (World.block_lt_of_cell? w _ hw110_0)).trans hw110_0), ((HB.out.cell (World.block_lt_of_cell? w _ hw110_1)).trans hw110_1), ((HB.out.cell (World.block_lt_of_cell? w _ hw110_2)).trans hw110_2), ((HB.out.cell (World.block_lt_of_cell? w _ hw110_3)).trans hw110_3), ((HB.out.cell (World.block_lt_of_cell? w _ hw110_4)).trans hw110_4), ((HB.out.cell (World.block_lt_of_cell? w _ hw112_0)).trans hw112_0), ((HB.out.cell (World.block_lt_of_cell? w _ hw112_1)).trans hw112_1), ((HB.out.cell (World.block_lt_of_cell? w _ hw112_2)).trans hw112_2), ((HB.out.cell (World.block_lt_of_cell? w _ hw112_3)).trans hw112_3), ((HB.out.cell (World.block_lt_of_cell? w _ hw112_4)).trans hw112_4)⟩ (fun hHeld => ?_)
                      clear hK K
                      refine nR ?_
                      refine pP 32 (some 42) ?_
                      refine pP 33 (some 43) ?_
                      refine pP 34 (some 44) ?_
                      refine pP 35 (some 45) ?_
                      refine pP 36 (some 46) ?_
                      refine pP 37 (some 47) ?_
                      refine pP 38 (some 48) ?_
                      refine pT 39 (some 49) ?_
                      refine pO 40 (some 50) (fun K hK => ?_)
                      refine gG Try.func10 #[.int .i64 ((rd_T31 l0 x3_1).f2)] ?_
                      with_reducible refine (spec_SetOk.calls ((rd_T31 l0 x3_1).f2) true _ A14.out).mono ?_
                      rintro e w' ⟨rfl, ⟨nd, rfl⟩⟩
                      refine ⟨_, rfl, ?_⟩
                      refine hK.out _ _ ⟨((HB.out.cell (World.block_lt_of_cell? w _ hw102_0)).trans hw102_0), ((HB.out.cell (World.block_lt_of_cell? w _ hw102_1)).trans hw102_1), ((HB.out.cell (World.block_lt_of_cell? w _ hw102_2)).trans hw102_2), ((HB.out.cell (World.block_lt_of_cell? w _ hw102_3)).trans hw102_3), ((HB.out.cell (World.block_lt_of_cell? w _ hw102_4)).trans hw102_4), ((HB.out.cell (World.block_lt_of_cell? w _ hw104_0)).trans hw104_0), ((HB.out.cell (World.block_lt_of_cell? w _ hw104_1)).trans hw104_1), ((HB.out.cell (World.block_lt_of_cell? w _ hw104_2)).trans hw104_2), ((HB.out.cell (World.block_lt_of_cell? w _ hw104_3)).trans hw104_3), ((HB.out.cell (World.block_lt_of_cell? w _ hw104_4)).trans hw104_4), ((HB.out.cell (World.block_lt_of_cell? w _ hw105_0)).trans hw105_0), ((HB.out.cell (World.block_lt_of_cell? w _ hw105_1)).trans hw105_1), ((HB.out.cell (World.block_lt_of_cell? w _ hw105_2)).trans hw105_2), ((HB.out.cell (World.block_lt_of_cell? w _ hw105_3)).trans hw105_3), ((HB.out.cell (World.block_lt_of_cell? w _ hw105_4)).trans hw105_4), ((HB.out.cell (World.block_lt_of_cell? w _ hw106_0)).trans hw106_0), ((HB.out.cell (World.block_lt_of_cell? w _ hw106_1)).trans hw106_1), ((HB.out.cell (World.block_lt_of_cell? w _ hw106_2)).trans hw106_2), ((HB.out.cell (World.block_lt_of_cell? w _ hw106_3)).trans hw106_3), ((HB.out.cell (World.block_lt_of_cell? w _ hw106_4)).trans hw106_4), ((HB.out.cell (World.block_lt_of_cell? w _ hw108_0)).trans hw108_0), ((HB.out.cell (World.block_lt_of_cell? w _ hw108_1)).trans hw108_1), ((HB.out.cell (World.block_lt_of_cell? w _ hw108_2)).trans hw108_2), ((HB.out.cell (World.block_lt_of_cell? w _ hw108_3)).trans hw108_3), ((HB.out.cell (World.block_lt_of_cell? w _ hw108_4)).trans hw108_4), ((HB.out.cell (World.block_lt_of_cell? w _ hw110_0)).trans hw110_0), ((HB.out.cell (World.block_lt_of_cell? w _ hw110_1)).trans hw110_1), ((HB.out.cell (World.block_lt_of_cell? w _ hw110_2)).trans hw110_2), ((HB.out.cell (World.block_lt_of_cell? w _ hw110_3)).trans hw110_3), ((HB.out.cell (World.block_lt_of_cell? w _ hw110_4)).trans hw110_4), ((HB.out.cell (World.block_lt_of_cell? w _ hw112_0)).trans hw112_0), ((HB.out.cell (World.block_lt_of_cell? w _ hw112_1)).trans hw112_1), ((HB.out.cell (World.block_lt_of_cell? w _ hw112_2)).trans hw112_2), ((HB.out.cell (World.block_lt_of_cell? w _ hw112_3)).trans hw112_3), ((HB.out.cell (World.block_lt_of_cell? w _ hw112_4)).trans hw112_4)⟩ (fun hHeld => ?_)
                      clear hK K
                      refine nR ?_
                      refine pP 41 (some 51) ?_
                      refine pP 42 (some 52) ?_
                      refine pP 43 (some 53) ?_
                      refine pP 44 (some 54) ?_
                      refine pP 45 (some 55) ?_
                      refine pP 46 (some 56) ?_
                      refine pP 47 (some 57) ?_
                      refine pT 48 (some 58) ?_
                      refine pO 49 (some 59) (fun K hK => ?_)
                      refine gG Try.func10 #[.int .i64 ((rd_T31 l0 x3_1).f4)] ?_
                      with_reducible refine (spec_SetOk.calls ((rd_T31 l0 x3_1).f4) true _ A16.out).mono ?_
                      rintro e w' ⟨rfl, ⟨nd, rfl⟩⟩
                      refine ⟨_, rfl, ?_⟩
                      refine hK.out _ _ ⟨((HB.out.cell (World.block_lt_of_cell? w _ hw102_0)).trans hw102_0), ((HB.out.cell (World.block_lt_of_cell? w _ hw102_1)).trans hw102_1), ((HB.out.cell (World.block_lt_of_cell? w _ hw102_2)).trans hw102_2), ((HB.out.cell (World.block_lt_of_cell? w _ hw102_3)).trans hw102_3), ((HB.out.cell (World.block_lt_of_cell? w _ hw102_4)).trans hw102_4), ((HB.out.cell (World.block_lt_of_cell? w _ hw104_0)).trans hw104_0), ((HB.out.cell (World.block_lt_of_cell? w _ hw104_1)).trans hw104_1), ((HB.out.cell (World.block_lt_of_cell? w _ hw104_2)).trans hw104_2), ((HB.out.cell (World.block_lt_of_cell? w _ hw104_3)).trans hw104_3), ((HB.out.cell (World.block_lt_of_cell? w _ hw104_4)).trans hw104_4), ((HB.out.cell (World.block_lt_of_cell? w _ hw105_0)).trans hw105_0), ((HB.out.cell (World.block_lt_of_cell? w _ hw105_1)).trans hw105_1), ((HB.out.cell (World.block_lt_of_cell? w _ hw105_2)).trans hw105_2), ((HB.out.cell (World.block_lt_of_cell? w _ hw105_3)).trans hw105_3), ((HB.out.cell (World.block_lt_of_cell? w _ hw105_4)).trans hw105_4), ((HB.out.cell (World.block_lt_of_cell? w _ hw106_0)).trans hw106_0), ((HB.out.cell (World.block_lt_of_cell? w _ hw106_1)).trans hw106_1), ((HB.out.cell (World.block_lt_of_cell? w _ hw106_2)).trans hw106_2), ((HB.out.cell (World.block_lt_of_cell? w _ hw106_3)).trans hw106_3), ((HB.out.cell (World.block_lt_of_cell? w _ hw106_4)).trans hw106_4), ((HB.out.cell (World.block_lt_of_cell? w _ hw108_0)).trans hw108_0), ((HB.out.cell (World.block_lt_of_cell? w _ hw108_1)).trans hw108_1), ((HB.out.cell (World.block_lt_of_cell? w _ hw108_2)).trans hw108_2), ((HB.out.cell (World.block_lt_of_cell? w _ hw108_3)).trans hw108_3), ((HB.out.cell (World.block_lt_of_cell? w _ hw108_4)).trans hw108_4), ((HB.out.cell (World.block_lt_of_cell? w _ hw110_0)).trans hw110_0), ((HB.out.cell (World.block_lt_of_cell? w _ hw110_1)).trans hw110_1), ((HB.out.cell (World.block_lt_of_cell? w _ hw110_2)).trans hw110_2), ((HB.out.cell (World.block_lt_of_cell? w _ hw110_3)).trans hw110_3), ((HB.out.cell (World.block_lt_of_cell? w _ hw110_4)).trans hw110_4), ((HB.out.cell (World.block_lt_of_cell? w _ hw112_0)).trans hw112_0), ((HB.out.cell (World.block_lt_of_cell? w _ hw112_1)).trans hw112_1), ((HB.out.cell (World.block_lt_of_cell? w _ hw112_2)).trans hw112_2), ((HB.out.cell (World.block_lt_of_cell? w _ hw112_3)).trans hw112_3), ((HB.out.cell (World.block_lt_of_cell? w _ hw112_4)).trans hw112_4)⟩ (fun hHeld => ?_)
                      clear hK K
                      refine nR ?_
                      refine pP 50 (some 60) ?_
                      refine pP 51 (some 61) ?_
                      refine pP 52 (some 62) ?_
                      refine pP 53 (some 63) ?_
                      refine pP 54 (some 64) ?_
                      refine pP 55 (some 65) ?_
                      refine pP 56 (some 66) ?_
                      refine pT 57 (some 67) ?_
                      refine pP 58 (some 68) ?_
                      refine pP 59 (some 69) ?_
                      refine done_ (done_of HT_.out (by kernel_rfl)) ?_
                      try go_wp2
                      go_ret
                      exact ⟨by first | rfl | (simp [errW_none, errW_some] <;> rfl) | (simp only [← hji7]; first | rfl | (simp [errW_none, errW_some] <;> rfl)) | (simp [*, errW_none, errW_some] <;> rfl), TB⟩
                    · rw [if_neg c18] at H
                      have c18b0 : decide (((rd_T31 l0 x3_1).f3) < 0) = false := decide_eq_false c18
                      clear c18
                      have H' := aM H
                      clear H
                      try go_wp2
                      replace HB := aM (below_drew1 HB.out)
                      have p102 : 0 ≤ (x3_1 : Int) := DT
                      have q102 : x3_1 < (l0.length : Int) := DT
                      obtain ⟨ad102, e102, hx102_0, hx102_1, hx102_2, hx102_3, hx102_4⟩ := at_T31 HR0.out x3_1 p102 q102
                      have hw102_4 := hx102_4
                      have hw102_3 := hx102_3
                      have hw102_2 := hx102_2
                      have hw102_1 := hx102_1
                      have hw102_0 := hx102_0
                      cases e102
                      replace hx102_0 := (HB.out.cell (World.block_lt_of_cell? w _ hx102_0)).trans hx102_0
                      replace hx102_1 := (HB.out.cell (World.block_lt_of_cell? w _ hx102_1)).trans hx102_1
                      replace hx102_2 := (HB.out.cell (World.block_lt_of_cell? w _ hx102_2)).trans hx102_2
                      replace hx102_3 := (HB.out.cell (World.block_lt_of_cell? w _ hx102_3)).trans hx102_3
                      replace hx102_4 := (HB.out.cell (World.block_lt_of_cell? w _ hx102_4)).trans hx102_4
                      replace p102 := eq_true p102
                      replace q102 := eq_true q102
                      have p104 : 0 ≤ ((ji7) : Int) := DT
                      have q104 : (ji7) < (l0.length : Int) := DT
                      obtain ⟨ad104, e104, hx104_0, hx104_1, hx104_2, hx104_3, hx104_4⟩ := at_T31 HR0.out (ji7) p104 q104
                      have hw104_4 := hx104_4
                      have hw104_3 := hx104_3
                      have hw104_2 := hx104_2
                      have hw104_1 := hx104_1
                      have hw104_0 := hx104_0
                      obtain rfl : ad102 = ad104 := (by injection e104)
                      replace hx104_0 := (HB.out.cell (World.block_lt_of_cell? w _ hx104_0)).trans hx104_0
                      replace hx104_1 := (HB.out.cell (World.block_lt_of_cell? w _ hx104_1)).trans hx104_1
                      replace hx104_2 := (HB.out.cell (World.block_lt_of_cell? w _ hx104_2)).trans hx104_2
                      replace hx104_3 := (HB.out.cell (World.block_lt_of_cell? w _ hx104_3)).trans hx104_3
                      replace hx104_4 := (HB.out.cell (World.block_lt_of_cell? w _ hx104_4)).trans hx104_4
                      replace p104 := eq_true p104
                      replace q104 := eq_true q104
                      have p105 : 0 ≤ (x3_1 : Int) := DT
                      have q105 : x3_1 < (l0.length : Int) := DT
                      obtain ⟨ad105, e105, hx105_0, hx105_1, hx105_2, hx105_3, hx105_4⟩ := at_T31 HR0.out x3_1 p105 q105
                      have hw105_4 := hx105_4
                      have hw105_3 := hx105_3
                      have hw105_2 := hx105_2
                      have hw105_1 := hx105_1
                      have hw105_0 := hx105_0
                      obtain rfl : ad102 = ad105 := (by injection e105)
                      replace hx105_0 := (HB.out.cell (World.block_lt_of_cell? w _ hx105_0)).trans hx105_0
                      replace hx105_1 := (HB.out.cell (World.block_lt_of_cell? w _ hx105_1)).trans hx105_1
                      replace hx105_2 := (HB.out.cell (World.block_lt_of_cell? w _ hx105_2)).trans hx105_2
                      replace hx105_3 := (HB.out.cell (World.block_lt_of_cell? w _ hx105_3)).trans hx105_3
                      replace hx105_4 := (HB.out.cell (World.block_lt_of_cell? w _ hx105_4)).trans hx105_4
                      replace p105 := eq_true p105
                      replace q105 := eq_true q105
                      have p106 : 0 ≤ (x3_1 : Int) := DT
                      have q106 : x3_1 < (l0.length : Int) := DT
                      obtain ⟨ad106, e106, hx106_0, hx106_1, hx106_2, hx106_3, hx106_4⟩ := at_T31 HR0.out x3_1 p106 q106
                      have hw106_4 := hx106_4
                      have hw106_3 := hx106_3
                      have hw106_2 := hx106_2
                      have hw106_1 := hx106_1
                      have hw106_0 := hx106_0
                      obtain rfl : ad102 = ad106 := (by injection e106)
                      replace hx106_0 := (HB.out.cell (World.block_lt_of_cell? w _ hx106_0)).trans hx106_0
                      replace hx106_1 := (HB.out.cell (World.block_lt_of_cell? w _ hx106_1)).trans hx106_1
                      replace hx106_2 := (HB.out.cell (World.block_lt_of_cell? w _ hx106_2)).trans hx106_2
                      replace hx106_3 := (HB.out.cell (World.block_lt_of_cell? w _ hx106_3)).trans hx106_3
                      replace hx106_4 := (HB.out.cell (World.block_lt_of_cell? w _ hx106_4)).trans hx106_4
                      replace p106 := eq_true p106
                      replace q106 := eq_true q106
                      have p108 : 0 ≤ (x3_1 : Int) := DT
                      have q108 : x3_1 < (l0.length : Int) := DT
                      obtain ⟨ad108, e108, hx108_0, hx108_1, hx108_2, hx108_3, hx108_4⟩ := at_T31 HR0.out x3_1 p108 q108
                      have hw108_4 := hx108_4
                      have hw108_3 := hx108_3
                      have hw108_2 := hx108_2
                      have hw108_1 := hx108_1
                      have hw108_0 := hx108_0
                      obtain rfl : ad102 = ad108 := (by injection e108)
                      replace hx108_0 := (HB.out.cell (World.block_lt_of_cell? w _ hx108_0)).trans hx108_0
                      replace hx108_1 := (HB.out.cell (World.block_lt_of_cell? w _ hx108_1)).trans hx108_1
                      replace hx108_2 := (HB.out.cell (World.block_lt_of_cell? w _ hx108_2)).trans hx108_2
                      replace hx108_3 := (HB.out.cell (World.block_lt_of_cell? w _ hx108_3)).trans hx108_3
                      replace hx108_4 := (HB.out.cell (World.block_lt_of_cell? w _ hx108_4)).trans hx108_4
                      replace p108 := eq_true p108
                      replace q108 := eq_true q108
                      have p110 : 0 ≤ (x3_1 : Int) := DT
                      have q110 : x3_1 < (l0.length : Int) := DT
                      obtain ⟨ad110, e110, hx110_0, hx110_1, hx110_2, hx110_3, hx110_4⟩ := at_T31 HR0.out x3_1 p110 q110
                      have hw110_4 := hx110_4
                      have hw110_3 := hx110_3
                      have hw110_2 := hx110_2
                      have hw110_1 := hx110_1
                      have hw110_0 := hx110_0
                      obtain rfl : ad102 = ad110 := (by injection e110)
                      replace hx110_0 := (HB.out.cell (World.block_lt_of_cell? w _ hx110_0)).trans hx110_0
                      replace hx110_1 := (HB.out.cell (World.block_lt_of_cell? w _ hx110_1)).trans hx110_1
                      replace hx110_2 := (HB.out.cell (World.block_lt_of_cell? w _ hx110_2)).trans hx110_2
                      replace hx110_3 := (HB.out.cell (World.block_lt_of_cell? w _ hx110_3)).trans hx110_3
                      replace hx110_4 := (HB.out.cell (World.block_lt_of_cell? w _ hx110_4)).trans hx110_4
                      replace p110 := eq_true p110
                      replace q110 := eq_true q110
                      have p112 : 0 ≤ (x3_1 : Int) := DT
                      have q112 : x3_1 < (l0.length : Int) := DT
                      obtain ⟨ad112, e112, hx112_0, hx112_1, hx112_2, hx112_3, hx112_4⟩ := at_T31 HR0.out x3_1 p112 q112
                      have hw112_4 := hx112_4
                      have hw112_3 := hx112_3
                      have hw112_2 := hx112_2
                      have hw112_1 := hx112_1
                      have hw112_0 := hx112_0
                      obtain rfl : ad102 = ad112 := (by injection e112)
                      replace hx112_0 := (HB.out.cell (World.block_lt_of_cell? w _ hx112_0)).trans hx112_0
                      replace hx112_1 := (HB.out.cell (World.block_lt_of_cell? w _ hx112_1)).trans hx112_1
                      replace hx112_2 := (HB.out.cell (World.block_lt_of_cell? w _ hx112_2)).trans hx112_2
                      replace hx112_3 := (HB.out.cell (World.block_lt_of_cell? w _ hx112_3)).trans hx112_3
                      replace hx112_4 := (HB.out.cell (World.block_lt_of_cell? w _ hx112_4)).trans hx112_4
                      replace p112 := eq_true p112
                      replace q112 := eq_true q112
                      refine start_ (n := 60) (S := fun w' => w'.cell? (ad102.add ((x3_1).toNat * 5)) = some (.int .i64 ((rd_T31 l0 x3_1).f0)) ∧ w'.cell? ⟨(ad102.add ((x3_1).toNat * 5)).block, (ad102.add ((x3_1).toNat * 5)).off + 1, none⟩ = some (.int .i64 ((rd_T31 l0 x3_1).f1)) ∧ w'.cell? ⟨(ad102.add ((x3_1).toNat * 5)).block, (ad102.add ((x3_1).toNat * 5)).off + 2, none⟩ = some (.int .i64 ((rd_T31 l0 x3_1).f2)) ∧ w'.cell? ⟨(ad102.add ((x3_1).toNat * 5)).block, (ad102.add ((x3_1).toNat * 5)).off + 3, none⟩ = some (.int .i64 ((rd_T31 l0 x3_1).f3)) ∧ w'.cell? ⟨(ad102.add ((x3_1).toNat * 5)).block, (ad102.add ((x3_1).toNat * 5)).off + 4, none⟩ = some (.int .i64 ((rd_T31 l0 x3_1).f4)) ∧ w'.cell? (ad102.add (((ji7)).toNat * 5)) = some (.int .i64 ((rd_T31 l0 (ji7)).f0)) ∧ w'.cell? ⟨(ad102.add (((ji7)).toNat * 5)).block, (ad102.add (((ji7)).toNat * 5)).off + 1, none⟩ = some (.int .i64 ((rd_T31 l0 (ji7)).f1)) ∧ w'.cell? ⟨(ad102.add (((ji7)).toNat * 5)).block, (ad102.add (((ji7)).toNat * 5)).off + 2, none⟩ = some (.int .i64 ((rd_T31 l0 (ji7)).f2)) ∧ w'.cell? ⟨(ad102.add (((ji7)).toNat * 5)).block, (ad102.add (((ji7)).toNat * 5)).off + 3, none⟩ = some (.int .i64 ((rd_T31 l0 (ji7)).f3)) ∧ w'.cell? ⟨(ad102.add (((ji7)).toNat * 5)).block, (ad102.add (((ji7)).toNat * 5)).off + 4, none⟩ = some (.int .i64 ((rd_T31 l0 (ji7)).f4)) ∧ w'.cell? (ad102.add ((x3_1).toNat * 5)) = some (.int .i64 ((rd_T31 l0 x3_1).f0)) ∧ w'.cell? ⟨(ad102.add ((x3_1).toNat * 5)).block, (ad102.add ((x3_1).toNat * 5)).off + 1, none⟩ = some (.int .i64 ((rd_T31 l0 x3_1).f1)) ∧ w'.cell? ⟨(ad102.add ((x3_1).toNat * 5)).block, (ad102.add ((x3_1).toNat * 5)).off + 2, none⟩ = some (.int .i64 ((rd_T31 l0 x3_1).f2)) ∧ w'.cell? ⟨(ad102.add ((x3_1).toNat * 5)).block, (ad102.add ((x3_1).toNat * 5)).off + 3, none⟩ = some (.int .i64 ((rd_T31 l0 x3_1).f3)) ∧ w'.cell? ⟨(ad102.add ((x3_1).toNat * 5)).block, (ad102.add ((x3_1).toNat * 5)).off + 4, none⟩ = some (.int .i64 ((rd_T31 l0 x3_1).f4)) ∧ w'.cell? (ad102.add ((x3_1).toNat * 5)) = some (.int .i64 ((rd_T31 l0 x3_1).f0)) ∧ w'.cell? ⟨(ad102.add ((x3_1).toNat * 5)).block, (ad102.add ((x3_1).toNat * 5)).off + 1, none⟩ = some (.int .i64 ((rd_T31 l0 x3_1).f1)) ∧ w'.cell? ⟨(ad102.add ((x3_1).toNat * 5)).block, (ad102.add ((x3_1).toNat * 5)).off + 2, none⟩ = some (.int .i64 ((rd_T31 l0 x3_1).f2)) ∧ w'.cell? ⟨(ad102.add ((x3_1).toNat * 5)).block, (ad102.add ((x3_1).toNat * 5)).off + 3, none⟩ = some (.int .i64 ((rd_T31 l0 x3_1).f3)) ∧ w'.cell? ⟨(ad102.add ((x3_1).toNat * 5)).block, (ad102.add ((x3_1).toNat * 5)).off + 4, none⟩ = some (.int .i64 ((rd_T31 l0 x3_1).f4)) ∧ w'.cell? (ad102.add ((x3_1).toNat * 5)) = some (.int .i64 ((rd_T31 l0 x3_1).f0)) ∧ w'.cell? ⟨(ad102.add ((x3_1).toNat * 5)).block, (ad102.add ((x3_1).toNat * 5)).off + 1, none⟩ = some (.int .i64 ((rd_T31 l0 x3_1).f1)) ∧ w'.cell? ⟨(ad102.add ((x3_1).toNat * 5)).block, (ad102.add ((x3_1).toNat * 5)).off + 2, none⟩ = some (.int .i64 ((rd_T31 l0 x3_1).f2)) ∧ w'.cell? ⟨(ad102.add ((x3_1).toNat * 5)).block, (ad102.add ((x3_1).toNat * 5)).off + 3, none⟩ = some (.int .i64 ((rd_T31 l0 x3_1).f3)) ∧ w'.cell? ⟨(ad102.add ((x3_1).toNat * 5)).block, (ad102.add ((x3_1).toNat * 5)).off + 4, none⟩ = some (.int .i64 ((rd_T31 l0 x3_1).f4)) ∧ w'.cell? (ad102.add ((x3_1).toNat * 5)) = some (.int .i64 ((rd_T31 l0 x3_1).f0)) ∧ w'.cell? ⟨(ad102.add ((x3_1).toNat * 5)).block, (ad102.add ((x3_1).toNat * 5)).off + 1, none⟩ = some (.int .i64 ((rd_T31 l0 x3_1).f1)) ∧ w'.cell? ⟨(ad102.add ((x3_1).toNat * 5)).block, (ad102.add ((x3_1).toNat * 5)).off + 2, none⟩ = some (.int .i64 ((rd_T31 l0 x3_1).f2)) ∧ w'.cell? ⟨(ad102.add ((x3_1).toNat * 5)).block, (ad102.add ((x3_1).toNat * 5)).off + 3, none⟩ = some (.int .i64 ((rd_T31 l0 x3_1).f3)) ∧ w'.cell? ⟨(ad102.add ((x3_1).toNat * 5)).block, (ad102.add ((x3_1).toNat * 5)).off + 4, none⟩ = some (.int .i64 ((rd_T31 l0 x3_1).f4)) ∧ w'.cell? (ad102.add ((x3_1).toNat * 5)) = some (.int .i64 ((rd_T31 l0 x3_1).f0)) ∧ w'.cell? ⟨(ad102.add ((x3_1).toNat * 5)).block, (ad102.add ((x3_1).toNat * 5)).off + 1, none⟩ = some (.int .i64 ((rd_T31 l0 x3_1).f1)) ∧ w'.cell? ⟨(ad102.add ((x3_1).toNat * 5)).block, (ad102.add ((x3_1).toNat * 5)).off + 2, none⟩ = some (.int .i64 ((rd_T31 l0 x3_1).f2)) ∧ w'.cell? ⟨(ad102.add ((x3_1).toNat * 5)).block, (ad102.add ((x3_1).toNat * 5)).off + 3, none⟩ = some (.int .i64 ((rd_T31 l0 x3_1).f3)) ∧ w'.cell? ⟨(ad102.add ((x3_1).toNat * 5)).block, (ad102.add ((x3_1).toNat * 5)).off + 4, none⟩ = some (.int .i64 ((rd_T31 l0 x3_1).f4))) (ds := []) (Array.replicate 60 false) (by kernel_rfl) rfl rfl ⟨((HB.out.cell (World.block_lt_of_cell? w _ hw102_0)).trans hw102_0), ((HB.out.cell (World.block_lt_of_cell? w _ hw102_1)).trans hw102_1), ((HB.out.cell (World.block_lt_of_cell? w _ hw102_2)).trans hw102_2), ((HB.out.cell (World.block_lt_of_cell? w _ hw102_3)).trans hw102_3), ((HB.out.cell (World.block_lt_of_cell? w _ hw102_4)).trans hw102_4), ((HB.out.cell (World.block_lt_of_cell? w _ hw104_0)).trans hw104_0), ((HB.out.cell (World.block_lt_of_cell? w _ hw104_1)).trans hw104_1), ((HB.out.cell (World.block_lt_of_cell? w _ hw104_2)).trans hw104_2), ((HB.out.cell (World.block_lt_of_cell? w _ hw104_3)).trans hw104_3), ((HB.out.cell (World.block_lt_of_cell? w _ hw104_4)).trans hw104_4), ((HB.out.cell (World.block_lt_of_cell? w _ hw105_0)).trans hw105_0), ((HB.out.cell (World.block_lt_of_cell? w _ hw105_1)).trans hw105_1), ((HB.out.cell (World.block_lt_of_cell? w _ hw105_2)).trans hw105_2), ((HB.out.cell (World.block_lt_of_cell? w _ hw105_3)).trans hw105_3), ((HB.out.cell (World.block_lt_of_cell? w _ hw105_4)).trans hw105_4), ((HB.out.cell (World.block_lt_of_cell? w _ hw106_0)).trans hw106_0), ((HB.out.cell (World.block_lt_of_cell? w _ hw106_1)).trans hw106_1), ((HB.out.cell (World.block_lt_of_cell? w _ hw106_2)).trans hw106_2), ((HB.out.cell (World.block_lt_of_cell? w _ hw106_3)).trans hw106_3), ((HB.out.cell (World.block_lt_of_cell? w _ hw106_4)).trans hw106_4), ((HB.out.cell (World.block_lt_of_cell? w _ hw108_0)).trans hw108_0), ((HB.out.cell (World.block_lt_of_cell? w _ hw108_1)).trans hw108_1), ((HB.out.cell (World.block_lt_of_cell? w _ hw108_2)).trans hw108_2), ((HB.out.cell (World.block_lt_of_cell? w _ hw108_3)).trans hw108_3), ((HB.out.cell (World.block_lt_of_cell? w _ hw108_4)).trans hw108_4), ((HB.out.cell (World.block_lt_of_cell? w _ hw110_0)).trans hw110_0), ((HB.out.cell (World.block_lt_of_cell? w _ hw110_1)).trans hw110_1), ((HB.out.cell (World.block_lt_of_cell? w _ hw110_2)).trans hw110_2), ((HB.out.cell (World.block_lt_of_cell? w _ hw110_3)).trans hw110_3), ((HB.out.cell (World.block_lt_of_cell? w _ hw110_4)).trans hw110_4), ((HB.out.cell (World.block_lt_of_cell? w _ hw112_0)).trans hw112_0), ((HB.out.cell (World.block_lt_of_cell? w _ hw112_1)).trans hw112_1), ((HB.out.cell (World.block_lt_of_cell? w _ hw112_2)).trans hw112_2), ((HB.out.cell (World.block_lt_of_cell? w _ hw112_3)).trans hw112_3), ((HB.out.cell (World.block_lt_of_cell? w _ hw112_4)).trans hw112_4)⟩ (fun hHeld => ?_); refine with_tabW spec_KidsOk.tab4 spec_KidsOk.bits4 (fun HT_ HW_ => ?_)
                      generalize wr.drew = w20 at HB hx102_0 hx102_1 hx102_2 hx102_3 hx102_4 hx104_0 hx104_1 hx104_2 hx104_3 hx104_4 hx105_0 hx105_1 hx105_2 hx105_3 hx105_4 hx106_0 hx106_1 hx106_2 hx106_3 hx106_4 hx108_0 hx108_1 hx108_2 hx108_3 hx108_4 hx110_0 hx110_1 hx110_2 hx110_3 hx110_4 hx112_0 hx112_1 hx112_2 hx112_3 hx112_4 hHeld ⊢
                      refine pP 0 (some 10) ?_
                      refine pP 1 (some 11) ?_
                      refine pP 2 (some 12) ?_
                      refine pP 3 (some 13) ?_
                      refine pT 4 (some 14) ?_
                      refine pO 5 (some 15) (fun K hK => ?_)
                      refine gG Try.func9 #[.int .i64 ((rd_T31 l0 x3_1).f0), .int .i64 0, .int .i64 6] ?_
                      with_reducible refine (spec_l1In.calls ((rd_T31 l0 x3_1).f0) 0 6 true _ A4.out).mono ?_
                      rintro e w' ⟨rfl, ⟨nd, rfl⟩⟩
                      refine ⟨_, rfl, ?_⟩
                      refine hK.out _ _ ⟨((HB.out.cell (World.block_lt_of_cell? w _ hw102_0)).trans hw102_0), ((HB.out.cell (World.block_lt_of_cell? w _ hw102_1)).trans hw102_1), ((HB.out.cell (World.block_lt_of_cell? w _ hw102_2)).trans hw102_2), ((HB.out.cell (World.block_lt_of_cell? w _ hw102_3)).trans hw102_3), ((HB.out.cell (World.block_lt_of_cell? w _ hw102_4)).trans hw102_4), ((HB.out.cell (World.block_lt_of_cell? w _ hw104_0)).trans hw104_0), ((HB.out.cell (World.block_lt_of_cell? w _ hw104_1)).trans hw104_1), ((HB.out.cell (World.block_lt_of_cell? w _ hw104_2)).trans hw104_2), ((HB.out.cell (World.block_lt_of_cell? w _ hw104_3)).trans hw104_3), ((HB.out.cell (World.block_lt_of_cell? w _ hw104_4)).trans hw104_4), ((HB.out.cell (World.block_lt_of_cell? w _ hw105_0)).trans hw105_0), ((HB.out.cell (World.block_lt_of_cell? w _ hw105_1)).trans hw105_1), ((HB.out.cell (World.block_lt_of_cell? w _ hw105_2)).trans hw105_2), ((HB.out.cell (World.block_lt_of_cell? w _ hw105_3)).trans hw105_3), ((HB.out.cell (World.block_lt_of_cell? w _ hw105_4)).trans hw105_4), ((HB.out.cell (World.block_lt_of_cell? w _ hw106_0)).trans hw106_0), ((HB.out.cell (World.block_lt_of_cell? w _ hw106_1)).trans hw106_1), ((HB.out.cell (World.block_lt_of_cell? w _ hw106_2)).trans hw106_2), ((HB.out.cell (World.block_lt_of_cell? w _ hw106_3)).trans hw106_3), ((HB.out.cell (World.block_lt_of_cell? w _ hw106_4)).trans hw106_4), ((HB.out.cell (World.block_lt_of_cell? w _ hw108_0)).trans hw108_0), ((HB.out.cell (World.block_lt_of_cell? w _ hw108_1)).trans hw108_1), ((HB.out.cell (World.block_lt_of_cell? w _ hw108_2)).trans hw108_2), ((HB.out.cell (World.block_lt_of_cell? w _ hw108_3)).trans hw108_3), ((HB.out.cell (World.block_lt_of_cell? w _ hw108_4)).trans hw108_4), ((HB.out.cell (World.block_lt_of_cell? w _ hw110_0)).trans hw110_0), ((HB.out.cell (World.block_lt_of_cell? w _ hw110_1)).trans hw110_1), ((HB.out.cell (World.block_lt_of_cell? w _ hw110_2)).trans hw110_2), ((HB.out.cell (World.block_lt_of_cell? w _ hw110_3)).trans hw110_3), ((HB.out.cell (World.block_lt_of_cell? w _ hw110_4)).trans hw110_4), ((HB.out.cell (World.block_lt_of_cell? w _ hw112_0)).trans hw112_0), ((HB.out.cell (World.block_lt_of_cell? w _ hw112_1)).trans hw112_1), ((HB.out.cell (World.block_lt_of_cell? w _ hw112_2)).trans hw112_2), ((HB.out.cell (World.block_lt_of_cell? w _ hw112_3)).trans hw112_3), ((HB.out.cell (World.block_lt_of_cell? w _ hw112_4)).trans hw112_4)⟩ (fun hHeld => ?_)
                      clear hK K
                      refine nR ?_
                      refine pP 6 (some 16) ?_
                      refine pP 7 (some 17) ?_
                      refine pP 8 (some 18) ?_
                      refine pP 9 (some 19) ?_
                      refine pP 10 (some 20) ?_
                      refine pP 11 (some 21) ?_
                      refine pP 12 (some 22) ?_
                      refine pP 13 (some 23) ?_
                      refine pP 14 (some 24) ?_
                      refine pP 15 (some 25) ?_
                      refine pP 17 (some 27) ?_
                      refine pP 18 (some 28) ?_
                      refine pP 19 (some 29) ?_
                      refine pP 20 (some 30) ?_
                      refine pT 16 (some 26) ?_
                      refine pT 21 (some 31) ?_
                      refine pP 22 (some 32) ?_
                      refine pP 23 (some 33) ?_
                      refine pP 24 (some 34) ?_
                      refine pP 25 (some 35) ?_
                      refine pP 26 (some 36) ?_
                      refine pP 27 (some 37) ?_
                      refine pP 28 (some 38) ?_
                      refine pP 29 (some 39) ?_
                      refine pT 30 (some 40) ?_
                      refine pO 31 (some 41) (fun K hK => ?_)
                      refine gG Try.func10 #[.int .i64 ((rd_T31 l0 x3_1).f1)] ?_
                      with_reducible refine (spec_SetOk.calls ((rd_T31 l0 x3_1).f1) true _ A12.out).mono ?_
                      rintro e w' ⟨rfl, ⟨nd, rfl⟩⟩
                      refine ⟨_, rfl, ?_⟩
                      refine hK.out _ _ ⟨((HB.out.cell (World.block_lt_of_cell? w _ hw102_0)).trans hw102_0), ((HB.out.cell (World.block_lt_of_cell? w _ hw102_1)).trans hw102_1), ((HB.out.cell (World.block_lt_of_cell? w _ hw102_2)).trans hw102_2), ((HB.out.cell (World.block_lt_of_cell? w _ hw102_3)).trans hw102_3), ((HB.out.cell (World.block_lt_of_cell? w _ hw102_4)).trans hw102_4), ((HB.out.cell (World.block_lt_of_cell? w _ hw104_0)).trans hw104_0), ((HB.out.cell (World.block_lt_of_cell? w _ hw104_1)).trans hw104_1), ((HB.out.cell (World.block_lt_of_cell? w _ hw104_2)).trans hw104_2), ((HB.out.cell (World.block_lt_of_cell? w _ hw104_3)).trans hw104_3), ((HB.out.cell (World.block_lt_of_cell? w _ hw104_4)).trans hw104_4), ((HB.out.cell (World.block_lt_of_cell? w _ hw105_0)).trans hw105_0), ((HB.out.cell (World.block_lt_of_cell? w _ hw105_1)).trans hw105_1), ((HB.out.cell (World.block_lt_of_cell? w _ hw105_2)).trans hw105_2), ((HB.out.cell (World.block_lt_of_cell? w _ hw105_3)).trans hw105_3), ((HB.out.cell (World.block_lt_of_cell? w _ hw105_4)).trans hw105_4), ((HB.out.cell (World.block_lt_of_cell? w _ hw106_0)).trans hw106_0), ((HB.out.cell (World.block_lt_of_cell? w _ hw106_1)).trans hw106_1), ((HB.out.cell (World.block_lt_of_cell? w _ hw106_2)).trans hw106_2), ((HB.out.cell (World.block_lt_of_cell? w _ hw106_3)).trans hw106_3), ((HB.out.cell (World.block_lt_of_cell? w _ hw106_4)).trans hw106_4), ((HB.out.cell (World.block_lt_of_cell? w _ hw108_0)).trans hw108_0), ((HB.out.cell (World.block_lt_of_cell? w _ hw108_1)).trans hw108_1), ((HB.out.cell (World.block_lt_of_cell? w _ hw108_2)).trans hw108_2), ((HB.out.cell (World.block_lt_of_cell? w _ hw108_3)).trans hw108_3), ((HB.out.cell (World.block_lt_of_cell? w _ hw108_4)).trans hw108_4), ((HB.out.cell (World.block_lt_of_cell? w _ hw110_0)).trans hw110_0), ((HB.out.cell (World.block_lt_of_cell? w _ hw110_1)).trans hw110_1), ((HB.out.cell (World.block_lt_of_cell? w _ hw110_2)).trans hw110_2), ((HB.out.cell (World.block_lt_of_cell? w _ hw110_3)).trans hw110_3), ((HB.out.cell (World.block_lt_of_cell? w _ hw110_4)).trans hw110_4), ((HB.out.cell (World.block_lt_of_cell? w _ hw112_0)).trans hw112_0), ((HB.out.cell (World.block_lt_of_cell? w _ hw112_1)).trans hw112_1), ((HB.out.cell (World.block_lt_of_cell? w _ hw112_2)).trans hw112_2), ((HB.out.cell (World.block_lt_of_cell? w _ hw112_3)).trans hw112_3), ((HB.out.cell (World.block_lt_of_cell? w _ hw112_4)).trans hw112_4)⟩ (fun hHeld => ?_)
                      clear hK K
                      refine nR ?_
                      refine pP 32 (some 42) ?_
                      refine pP 33 (some 43) ?_
                      refine pP 34 (some 44) ?_
                      refine pP 35 (some 45) ?_
                      refine pP 36 (some 46) ?_
                      refine pP 37 (some 47) ?_
                      refine pP 38 (some 48) ?_
                      refine pT 39 (some 49) ?_
                      refine pO 40 (some 50) (fun K hK => ?_)
                      refine gG Try.func10 #[.int .i64 ((rd_T31 l0 x3_1).f2)] ?_
                      with_reducible refine (spec_SetOk.calls ((rd_T31 l0 x3_1).f2) true _ A14.out).mono ?_
                      rintro e w' ⟨rfl, ⟨nd, rfl⟩⟩
                      refine ⟨_, rfl, ?_⟩
                      refine hK.out _ _ ⟨((HB.out.cell (World.block_lt_of_cell? w _ hw102_0)).trans hw102_0), ((HB.out.cell (World.block_lt_of_cell? w _ hw102_1)).trans hw102_1), ((HB.out.cell (World.block_lt_of_cell? w _ hw102_2)).trans hw102_2), ((HB.out.cell (World.block_lt_of_cell? w _ hw102_3)).trans hw102_3), ((HB.out.cell (World.block_lt_of_cell? w _ hw102_4)).trans hw102_4), ((HB.out.cell (World.block_lt_of_cell? w _ hw104_0)).trans hw104_0), ((HB.out.cell (World.block_lt_of_cell? w _ hw104_1)).trans hw104_1), ((HB.out.cell (World.block_lt_of_cell? w _ hw104_2)).trans hw104_2), ((HB.out.cell (World.block_lt_of_cell? w _ hw104_3)).trans hw104_3), ((HB.out.cell (World.block_lt_of_cell? w _ hw104_4)).trans hw104_4), ((HB.out.cell (World.block_lt_of_cell? w _ hw105_0)).trans hw105_0), ((HB.out.cell (World.block_lt_of_cell? w _ hw105_1)).trans hw105_1), ((HB.out.cell (World.block_lt_of_cell? w _ hw105_2)).trans hw105_2), ((HB.out.cell (World.block_lt_of_cell? w _ hw105_3)).trans hw105_3), ((HB.out.cell (World.block_lt_of_cell? w _ hw105_4)).trans hw105_4), ((HB.out.cell (World.block_lt_of_cell? w _ hw106_0)).trans hw106_0), ((HB.out.cell (World.block_lt_of_cell? w _ hw106_1)).trans hw106_1), ((HB.out.cell (World.block_lt_of_cell? w _ hw106_2)).trans hw106_2), ((HB.out.cell (World.block_lt_of_cell? w _ hw106_3)).trans hw106_3), ((HB.out.cell (World.block_lt_of_cell? w _ hw106_4)).trans hw106_4), ((HB.out.cell (World.block_lt_of_cell? w _ hw108_0)).trans hw108_0), ((HB.out.cell (World.block_lt_of_cell? w _ hw108_1)).trans hw108_1), ((HB.out.cell (World.block_lt_of_cell? w _ hw108_2)).trans hw108_2), ((HB.out.cell (World.block_lt_of_cell? w _ hw108_3)).trans hw108_3), ((HB.out.cell (World.block_lt_of_cell? w _ hw108_4)).trans hw108_4), ((HB.out.cell (World.block_lt_of_cell? w _ hw110_0)).trans hw110_0), ((HB.out.cell (World.block_lt_of_cell? w _ hw110_1)).trans hw110_1), ((HB.out.cell (World.block_lt_of_cell? w _ hw110_2)).trans hw110_2), ((HB.out.cell (World.block_lt_of_cell? w _ hw110_3)).trans hw110_3), ((HB.out.cell (World.block_lt_of_cell? w _ hw110_4)).trans hw110_4), ((HB.out.cell (World.block_lt_of_cell? w _ hw112_0)).trans hw112_0), ((HB.out.cell (World.block_lt_of_cell? w _ hw112_1)).trans hw112_1), ((HB.out.cell (World.block_lt_of_cell? w _ hw112_2)).trans hw112_2), ((HB.out.cell (World.block_lt_of_cell? w _ hw112_3)).trans hw112_3), ((HB.out.cell (World.block_lt_of_cell? w _ hw112_4)).trans hw112_4)⟩ (fun hHeld => ?_)
                      clear hK K
                      refine nR ?_
                      refine pP 41 (some 51) ?_
                      refine pP 42 (some 52) ?_
                      refine pP 43 (some 53) ?_
                      refine pP 44 (some 54) ?_
                      refine pP 45 (some 55) ?_
                      refine pP 46 (some 56) ?_
                      refine pP 47 (some 57) ?_
                      refine pT 48 (some 58) ?_
                      refine pO 49 (some 59) (fun K hK => ?_)
                      refine gG Try.func10 #[.int .i64 ((rd_T31 l0 x3_1).f4)] ?_
                      with_reducible refine (spec_SetOk.calls ((rd_T31 l0 x3_1).f4) true _ A16.out).mono ?_
                      rintro e w' ⟨rfl, ⟨nd, rfl⟩⟩
                      refine ⟨_, rfl, ?_⟩
                      refine hK.out _ _ ⟨((HB.out.cell (World.block_lt_of_cell? w _ hw102_0)).trans hw102_0), ((HB.out.cell (World.block_lt_of_cell? w _ hw102_1)).trans hw102_1), ((HB.out.cell (World.block_lt_of_cell? w _ hw102_2)).trans hw102_2), ((HB.out.cell (World.block_lt_of_cell? w _ hw102_3)).trans hw102_3), ((HB.out.cell (World.block_lt_of_cell? w _ hw102_4)).trans hw102_4), ((HB.out.cell (World.block_lt_of_cell? w _ hw104_0)).trans hw104_0), ((HB.out.cell (World.block_lt_of_cell? w _ hw104_1)).trans hw104_1), ((HB.out.cell (World.block_lt_of_cell? w _ hw104_2)).trans hw104_2), ((HB.out.cell (World.block_lt_of_cell? w _ hw104_3)).trans hw104_3), ((HB.out.cell (World.block_lt_of_cell? w _ hw104_4)).trans hw104_4), ((HB.out.cell (World.block_lt_of_cell? w _ hw105_0)).trans hw105_0), ((HB.out.cell (World.block_lt_of_cell? w _ hw105_1)).trans hw105_1), ((HB.out.cell (World.block_lt_of_cell? w _ hw105_2)).trans hw105_2), ((HB.out.cell (World.block_lt_of_cell? w _ hw105_3)).trans hw105_3), ((HB.out.cell (World.block_lt_of_cell? w _ hw105_4)).trans hw105_4), ((HB.out.cell (World.block_lt_of_cell? w _ hw106_0)).trans hw106_0), ((HB.out.cell (World.block_lt_of_cell? w _ hw106_1)).trans hw106_1), ((HB.out.cell (World.block_lt_of_cell? w _ hw106_2)).trans hw106_2), ((HB.out.cell (World.block_lt_of_cell? w _ hw106_3)).trans hw106_3), ((HB.out.cell (World.block_lt_of_cell? w _ hw106_4)).trans hw106_4), ((HB.out.cell (World.block_lt_of_cell? w _ hw108_0)).trans hw108_0), ((HB.out.cell (World.block_lt_of_cell? w _ hw108_1)).trans hw108_1), ((HB.out.cell (World.block_lt_of_cell? w _ hw108_2)).trans hw108_2), ((HB.out.cell (World.block_lt_of_cell? w _ hw108_3)).trans hw108_3), ((HB.out.cell (World.block_lt_of_cell? w _ hw108_4)).trans hw108_4), ((HB.out.cell (World.block_lt_of_cell? w _ hw110_0)).trans hw110_0), ((HB.out.cell (World.block_lt_of_cell? w _ hw110_1)).trans hw110_1), ((HB.out.cell (World.block_lt_of_cell? w _ hw110_2)).trans hw110_2), ((HB.out.cell (World.block_lt_of_cell? w _ hw110_3)).trans hw110_3), ((HB.out.cell (World.block_lt_of_cell? w _ hw110_4)).trans hw110_4), ((HB.out.cell (World.block_lt_of_cell? w _ hw112_0)).trans hw112_0), ((HB.out.cell (World.block_lt_of_cell? w _ hw112_1)).trans hw112_1), ((HB.out.cell (World.block_lt_of_cell? w _ hw112_2)).trans hw112_2), ((HB.out.cell (World.block_lt_of_cell? w _ hw112_3)).trans hw112_3), ((HB.out.cell (World.block_lt_of_cell? w _ hw112_4)).trans hw112_4)⟩ (fun hHeld => ?_)
                      clear hK K
                      refine nR ?_
                      refine pP 50 (some 60) ?_
                      refine pP 51 (some 61) ?_
                      refine pP 52 (some 62) ?_
                      refine pP 53 (some 63) ?_
                      refine pP 54 (some 64) ?_
                      refine pP 55 (some 65) ?_
                      refine pP 56 (some 66) ?_
                      refine pT 57 (some 67) ?_
                      refine pP 58 (some 68) ?_
                      refine pP 59 (some 69) ?_
                      refine done_ (done_of HT_.out (by kernel_rfl)) ?_
                      try go_wp2
                      go_roundg k1
                      case measure => have := HK1.out; omega
                      case rel => exact ⟨(wrap64 (x3_1 + 1)), (by first | rfl | (simp; done) | (simp [*]; done)), H', ⟨by have := HK1.out; omega⟩, ⟨TB⟩⟩
                  · replace c17 := Bool.eq_false_iff.mpr c17
                    subst c17
                    replace H := ifF H
                    obtain rfl := Option.some.inj H
                    try go_wp2
                    replace HB := aM (below_drew1 HB.out)
                    have p102 : 0 ≤ (x3_1 : Int) := DT
                    have q102 : x3_1 < (l0.length : Int) := DT
                    obtain ⟨ad102, e102, hx102_0, hx102_1, hx102_2, hx102_3, hx102_4⟩ := at_T31 HR0.out x3_1 p102 q102
                    have hw102_4 := hx102_4
                    have hw102_3 := hx102_3
                    have hw102_2 := hx102_2
                    have hw102_1 := hx102_1
                    have hw102_0 := hx102_0
                    cases e102
                    replace hx102_0 := (HB.out.cell (World.block_lt_of_cell? w _ hx102_0)).trans hx102_0
                    replace hx102_1 := (HB.out.cell (World.block_lt_of_cell? w _ hx102_1)).trans hx102_1
                    replace hx102_2 := (HB.out.cell (World.block_lt_of_cell? w _ hx102_2)).trans hx102_2
                    replace hx102_3 := (HB.out.cell (World.block_lt_of_cell? w _ hx102_3)).trans hx102_3
                    replace hx102_4 := (HB.out.cell (World.block_lt_of_cell? w _ hx102_4)).trans hx102_4
                    replace p102 := eq_true p102
                    replace q102 := eq_true q102
                    have p104 : 0 ≤ ((ji7) : Int) := DT
                    have q104 : (ji7) < (l0.length : Int) := DT
                    obtain ⟨ad104, e104, hx104_0, hx104_1, hx104_2, hx104_3, hx104_4⟩ := at_T31 HR0.out (ji7) p104 q104
                    have hw104_4 := hx104_4
                    have hw104_3 := hx104_3
                    have hw104_2 := hx104_2
                    have hw104_1 := hx104_1
                    have hw104_0 := hx104_0
                    obtain rfl : ad102 = ad104 := (by injection e104)
                    replace hx104_0 := (HB.out.cell (World.block_lt_of_cell? w _ hx104_0)).trans hx104_0
                    replace hx104_1 := (HB.out.cell (World.block_lt_of_cell? w _ hx104_1)).trans hx104_1
                    replace hx104_2 := (HB.out.cell (World.block_lt_of_cell? w _ hx104_2)).trans hx104_2
                    replace hx104_3 := (HB.out.cell (World.block_lt_of_cell? w _ hx104_3)).trans hx104_3
                    replace hx104_4 := (HB.out.cell (World.block_lt_of_cell? w _ hx104_4)).trans hx104_4
                    replace p104 := eq_true p104
                    replace q104 := eq_true q104
                    have p105 : 0 ≤ (x3_1 : Int) := DT
                    have q105 : x3_1 < (l0.length : Int) := DT
                    obtain ⟨ad105, e105, hx105_0, hx105_1, hx105_2, hx105_3, hx105_4⟩ := at_T31 HR0.out x3_1 p105 q105
                    have hw105_4 := hx105_4
                    have hw105_3 := hx105_3
                    have hw105_2 := hx105_2
                    have hw105_1 := hx105_1
                    have hw105_0 := hx105_0
                    obtain rfl : ad102 = ad105 := (by injection e105)
                    replace hx105_0 := (HB.out.cell (World.block_lt_of_cell? w _ hx105_0)).trans hx105_0
                    replace hx105_1 := (HB.out.cell (World.block_lt_of_cell? w _ hx105_1)).trans hx105_1
                    replace hx105_2 := (HB.out.cell (World.block_lt_of_cell? w _ hx105_2)).trans hx105_2
                    replace hx105_3 := (HB.out.cell (World.block_lt_of_cell? w _ hx105_3)).trans hx105_3
                    replace hx105_4 := (HB.out.cell (World.block_lt_of_cell? w _ hx105_4)).trans hx105_4
                    replace p105 := eq_true p105
                    replace q105 := eq_true q105
                    have p106 : 0 ≤ (x3_1 : Int) := DT
                    have q106 : x3_1 < (l0.length : Int) := DT
                    obtain ⟨ad106, e106, hx106_0, hx106_1, hx106_2, hx106_3, hx106_4⟩ := at_T31 HR0.out x3_1 p106 q106
                    have hw106_4 := hx106_4
                    have hw106_3 := hx106_3
                    have hw106_2 := hx106_2
                    have hw106_1 := hx106_1
                    have hw106_0 := hx106_0
                    obtain rfl : ad102 = ad106 := (by injection e106)
                    replace hx106_0 := (HB.out.cell (World.block_lt_of_cell? w _ hx106_0)).trans hx106_0
                    replace hx106_1 := (HB.out.cell (World.block_lt_of_cell? w _ hx106_1)).trans hx106_1
                    replace hx106_2 := (HB.out.cell (World.block_lt_of_cell? w _ hx106_2)).trans hx106_2
                    replace hx106_3 := (HB.out.cell (World.block_lt_of_cell? w _ hx106_3)).trans hx106_3
                    replace hx106_4 := (HB.out.cell (World.block_lt_of_cell? w _ hx106_4)).trans hx106_4
                    replace p106 := eq_true p106
                    replace q106 := eq_true q106
                    have p108 : 0 ≤ (x3_1 : Int) := DT
                    have q108 : x3_1 < (l0.length : Int) := DT
                    obtain ⟨ad108, e108, hx108_0, hx108_1, hx108_2, hx108_3, hx108_4⟩ := at_T31 HR0.out x3_1 p108 q108
                    have hw108_4 := hx108_4
                    have hw108_3 := hx108_3
                    have hw108_2 := hx108_2
                    have hw108_1 := hx108_1
                    have hw108_0 := hx108_0
                    obtain rfl : ad102 = ad108 := (by injection e108)
                    replace hx108_0 := (HB.out.cell (World.block_lt_of_cell? w _ hx108_0)).trans hx108_0
                    replace hx108_1 := (HB.out.cell (World.block_lt_of_cell? w _ hx108_1)).trans hx108_1
                    replace hx108_2 := (HB.out.cell (World.block_lt_of_cell? w _ hx108_2)).trans hx108_2
                    replace hx108_3 := (HB.out.cell (World.block_lt_of_cell? w _ hx108_3)).trans hx108_3
                    replace hx108_4 := (HB.out.cell (World.block_lt_of_cell? w _ hx108_4)).trans hx108_4
                    replace p108 := eq_true p108
                    replace q108 := eq_true q108
                    have p110 : 0 ≤ (x3_1 : Int) := DT
                    have q110 : x3_1 < (l0.length : Int) := DT
                    obtain ⟨ad110, e110, hx110_0, hx110_1, hx110_2, hx110_3, hx110_4⟩ := at_T31 HR0.out x3_1 p110 q110
                    have hw110_4 := hx110_4
                    have hw110_3 := hx110_3
                    have hw110_2 := hx110_2
                    have hw110_1 := hx110_1
                    have hw110_0 := hx110_0
                    obtain rfl : ad102 = ad110 := (by injection e110)
                    replace hx110_0 := (HB.out.cell (World.block_lt_of_cell? w _ hx110_0)).trans hx110_0
                    replace hx110_1 := (HB.out.cell (World.block_lt_of_cell? w _ hx110_1)).trans hx110_1
                    replace hx110_2 := (HB.out.cell (World.block_lt_of_cell? w _ hx110_2)).trans hx110_2
                    replace hx110_3 := (HB.out.cell (World.block_lt_of_cell? w _ hx110_3)).trans hx110_3
                    replace hx110_4 := (HB.out.cell (World.block_lt_of_cell? w _ hx110_4)).trans hx110_4
                    replace p110 := eq_true p110
                    replace q110 := eq_true q110
                    refine start_ (n := 60) (S := fun w' => w'.cell? (ad102.add ((x3_1).toNat * 5)) = some (.int .i64 ((rd_T31 l0 x3_1).f0)) ∧ w'.cell? ⟨(ad102.add ((x3_1).toNat * 5)).block, (ad102.add ((x3_1).toNat * 5)).off + 1, none⟩ = some (.int .i64 ((rd_T31 l0 x3_1).f1)) ∧ w'.cell? ⟨(ad102.add ((x3_1).toNat * 5)).block, (ad102.add ((x3_1).toNat * 5)).off + 2, none⟩ = some (.int .i64 ((rd_T31 l0 x3_1).f2)) ∧ w'.cell? ⟨(ad102.add ((x3_1).toNat * 5)).block, (ad102.add ((x3_1).toNat * 5)).off + 3, none⟩ = some (.int .i64 ((rd_T31 l0 x3_1).f3)) ∧ w'.cell? ⟨(ad102.add ((x3_1).toNat * 5)).block, (ad102.add ((x3_1).toNat * 5)).off + 4, none⟩ = some (.int .i64 ((rd_T31 l0 x3_1).f4)) ∧ w'.cell? (ad102.add (((ji7)).toNat * 5)) = some (.int .i64 ((rd_T31 l0 (ji7)).f0)) ∧ w'.cell? ⟨(ad102.add (((ji7)).toNat * 5)).block, (ad102.add (((ji7)).toNat * 5)).off + 1, none⟩ = some (.int .i64 ((rd_T31 l0 (ji7)).f1)) ∧ w'.cell? ⟨(ad102.add (((ji7)).toNat * 5)).block, (ad102.add (((ji7)).toNat * 5)).off + 2, none⟩ = some (.int .i64 ((rd_T31 l0 (ji7)).f2)) ∧ w'.cell? ⟨(ad102.add (((ji7)).toNat * 5)).block, (ad102.add (((ji7)).toNat * 5)).off + 3, none⟩ = some (.int .i64 ((rd_T31 l0 (ji7)).f3)) ∧ w'.cell? ⟨(ad102.add (((ji7)).toNat * 5)).block, (ad102.add (((ji7)).toNat * 5)).off + 4, none⟩ = some (.int .i64 ((rd_T31 l0 (ji7)).f4)) ∧ w'.cell? (ad102.add ((x3_1).toNat * 5)) = some (.int .i64 ((rd_T31 l0 x3_1).f0)) ∧ w'.cell? ⟨(ad102.add ((x3_1).toNat * 5)).block, (ad102.add ((x3_1).toNat * 5)).off + 1, none⟩ = some (.int .i64 ((rd_T31 l0 x3_1).f1)) ∧ w'.cell? ⟨(ad102.add ((x3_1).toNat * 5)).block, (ad102.add ((x3_1).toNat * 5)).off + 2, none⟩ = some (.int .i64 ((rd_T31 l0 x3_1).f2)) ∧ w'.cell? ⟨(ad102.add ((x3_1).toNat * 5)).block, (ad102.add ((x3_1).toNat * 5)).off + 3, none⟩ = some (.int .i64 ((rd_T31 l0 x3_1).f3)) ∧ w'.cell? ⟨(ad102.add ((x3_1).toNat * 5)).block, (ad102.add ((x3_1).toNat * 5)).off + 4, none⟩ = some (.int .i64 ((rd_T31 l0 x3_1).f4)) ∧ w'.cell? (ad102.add ((x3_1).toNat * 5)) = some (.int .i64 ((rd_T31 l0 x3_1).f0)) ∧ w'.cell? ⟨(ad102.add ((x3_1).toNat * 5)).block, (ad102.add ((x3_1).toNat * 5)).off + 1, none⟩ = some (.int .i64 ((rd_T31 l0 x3_1).f1)) ∧ w'.cell? ⟨(ad102.add ((x3_1).toNat * 5)).block, (ad102.add ((x3_1).toNat * 5)).off + 2, none⟩ = some (.int .i64 ((rd_T31 l0 x3_1).f2)) ∧ w'.cell? ⟨(ad102.add ((x3_1).toNat * 5)).block, (ad102.add ((x3_1).toNat * 5)).off + 3, none⟩ = some (.int .i64 ((rd_T31 l0 x3_1).f3)) ∧ w'.cell? ⟨(ad102.add ((x3_1).toNat * 5)).block, (ad102.add ((x3_1).toNat * 5)).off + 4, none⟩ = some (.int .i64 ((rd_T31 l0 x3_1).f4)) ∧ w'.cell? (ad102.add ((x3_1).toNat * 5)) = some (.int .i64 ((rd_T31 l0 x3_1).f0)) ∧ w'.cell? ⟨(ad102.add ((x3_1).toNat * 5)).block, (ad102.add ((x3_1).toNat * 5)).off + 1, none⟩ = some (.int .i64 ((rd_T31 l0 x3_1).f1)) ∧ w'.cell? ⟨(ad102.add ((x3_1).toNat * 5)).block, (ad102.add ((x3_1).toNat * 5)).off + 2, none⟩ = some (.int .i64 ((rd_T31 l0 x3_1).f2)) ∧ w'.cell? ⟨(ad102.add ((x3_1).toNat * 5)).block, (ad102.add ((x3_1).toNat * 5)).off + 3, none⟩ = some (.int .i64 ((rd_T31 l0 x3_1).f3)) ∧ w'.cell? ⟨(ad102.add ((x3_1).toNat * 5)).block, (ad102.add ((x3_1).toNat * 5)).off + 4, none⟩ = some (.int .i64 ((rd_T31 l0 x3_1).f4)) ∧ w'.cell? (ad102.add ((x3_1).toNat * 5)) = some (.int .i64 ((rd_T31 l0 x3_1).f0)) ∧ w'.cell? ⟨(ad102.add ((x3_1).toNat * 5)).block, (ad102.add ((x3_1).toNat * 5)).off + 1, none⟩ = some (.int .i64 ((rd_T31 l0 x3_1).f1)) ∧ w'.cell? ⟨(ad102.add ((x3_1).toNat * 5)).block, (ad102.add ((x3_1).toNat * 5)).off + 2, none⟩ = some (.int .i64 ((rd_T31 l0 x3_1).f2)) ∧ w'.cell? ⟨(ad102.add ((x3_1).toNat * 5)).block, (ad102.add ((x3_1).toNat * 5)).off + 3, none⟩ = some (.int .i64 ((rd_T31 l0 x3_1).f3)) ∧ w'.cell? ⟨(ad102.add ((x3_1).toNat * 5)).block, (ad102.add ((x3_1).toNat * 5)).off + 4, none⟩ = some (.int .i64 ((rd_T31 l0 x3_1).f4))) (ds := []) (Array.replicate 60 false) (by kernel_rfl) rfl rfl ⟨((HB.out.cell (World.block_lt_of_cell? w _ hw102_0)).trans hw102_0), ((HB.out.cell (World.block_lt_of_cell? w _ hw102_1)).trans hw102_1), ((HB.out.cell (World.block_lt_of_cell? w _ hw102_2)).trans hw102_2), ((HB.out.cell (World.block_lt_of_cell? w _ hw102_3)).trans hw102_3), ((HB.out.cell (World.block_lt_of_cell? w _ hw102_4)).trans hw102_4), ((HB.out.cell (World.block_lt_of_cell? w _ hw104_0)).trans hw104_0), ((HB.out.cell (World.block_lt_of_cell? w _ hw104_1)).trans hw104_1), ((HB.out.cell (World.block_lt_of_cell? w _ hw104_2)).trans hw104_2), ((HB.out.cell (World.block_lt_of_cell? w _ hw104_3)).trans hw104_3), ((HB.out.cell (World.block_lt_of_cell? w _ hw104_4)).trans hw104_4), ((HB.out.cell (World.block_lt_of_cell? w _ hw105_0)).trans hw105_0), ((HB.out.cell (World.block_lt_of_cell? w _ hw105_1)).trans hw105_1), ((HB.out.cell (World.block_lt_of_cell? w _ hw105_2)).trans hw105_2), ((HB.out.cell (World.block_lt_of_cell? w _ hw105_3)).trans hw105_3), ((HB.out.cell (World.block_lt_of_cell? w _ hw105_4)).trans hw105_4), ((HB.out.cell (World.block_lt_of_cell? w _ hw106_0)).trans hw106_0), ((HB.out.cell (World.block_lt_of_cell? w _ hw106_1)).trans hw106_1), ((HB.out.cell (World.block_lt_of_cell? w _ hw106_2)).trans hw106_2), ((HB.out.cell (World.block_lt_of_cell? w _ hw106_3)).trans hw106_3), ((HB.out.cell (World.block_lt_of_cell? w _ hw106_4)).trans hw106_4), ((HB.out.cell (World.block_lt_of_cell? w _ hw108_0)).trans hw108_0), ((HB.out.cell (World.block_lt_of_cell? w _ hw108_1)).trans hw108_1), ((HB.out.cell (World.block_lt_of_cell? w _ hw108_2)).trans hw108_2), ((HB.out.cell (World.block_lt_of_cell? w _ hw108_3)).trans hw108_3), ((HB.out.cell (World.block_lt_of_cell? w _ hw108_4)).trans hw108_4), ((HB.out.cell (World.block_lt_of_cell? w _ hw110_0)).trans hw110_0), ((HB.out.cell (World.block_lt_of_cell? w _ hw110_1)).trans hw110_1), ((HB.out.cell (World.block_lt_of_cell? w _ hw110_2)).trans hw110_2), ((HB.out.cell (World.block_lt_of_cell? w _ hw110_3)).trans hw110_3), ((HB.out.cell (World.block_lt_of_cell? w _ hw110_4)).trans hw110_4)⟩ (fun hHeld => ?_); refine with_tabW spec_KidsOk.tab4 spec_KidsOk.bits4 (fun HT_ HW_ => ?_)
                    generalize wr.drew = w21 at HB hx102_0 hx102_1 hx102_2 hx102_3 hx102_4 hx104_0 hx104_1 hx104_2 hx104_3 hx104_4 hx105_0 hx105_1 hx105_2 hx105_3 hx105_4 hx106_0 hx106_1 hx106_2 hx106_3 hx106_4 hx108_0 hx108_1 hx108_2 hx108_3 hx108_4 hx110_0 hx110_1 hx110_2 hx110_3 hx110_4 hHeld ⊢
                    refine pP 0 (some 10) ?_
                    refine pP 1 (some 11) ?_
                    refine pP 2 (some 12) ?_
                    refine pP 3 (some 13) ?_
                    refine pT 4 (some 14) ?_
                    refine pO 5 (some 15) (fun K hK => ?_)
                    refine gG Try.func9 #[.int .i64 ((rd_T31 l0 x3_1).f0), .int .i64 0, .int .i64 6] ?_
                    with_reducible refine (spec_l1In.calls ((rd_T31 l0 x3_1).f0) 0 6 true _ A4.out).mono ?_
                    rintro e w' ⟨rfl, ⟨nd, rfl⟩⟩
                    refine ⟨_, rfl, ?_⟩
                    refine hK.out _ _ ⟨((HB.out.cell (World.block_lt_of_cell? w _ hw102_0)).trans hw102_0), ((HB.out.cell (World.block_lt_of_cell? w _ hw102_1)).trans hw102_1), ((HB.out.cell (World.block_lt_of_cell? w _ hw102_2)).trans hw102_2), ((HB.out.cell (World.block_lt_of_cell? w _ hw102_3)).trans hw102_3), ((HB.out.cell (World.block_lt_of_cell? w _ hw102_4)).trans hw102_4), ((HB.out.cell (World.block_lt_of_cell? w _ hw104_0)).trans hw104_0), ((HB.out.cell (World.block_lt_of_cell? w _ hw104_1)).trans hw104_1), ((HB.out.cell (World.block_lt_of_cell? w _ hw104_2)).trans hw104_2), ((HB.out.cell (World.block_lt_of_cell? w _ hw104_3)).trans hw104_3), ((HB.out.cell (World.block_lt_of_cell? w _ hw104_4)).trans hw104_4), ((HB.out.cell (World.block_lt_of_cell? w _ hw105_0)).trans hw105_0), ((HB.out.cell (World.block_lt_of_cell? w _ hw105_1)).trans hw105_1), ((HB.out.cell (World.block_lt_of_cell? w _ hw105_2)).trans hw105_2), ((HB.out.cell (World.block_lt_of_cell? w _ hw105_3)).trans hw105_3), ((HB.out.cell (World.block_lt_of_cell? w _ hw105_4)).trans hw105_4), ((HB.out.cell (World.block_lt_of_cell? w _ hw106_0)).trans hw106_0), ((HB.out.cell (World.block_lt_of_cell? w _ hw106_1)).trans hw106_1), ((HB.out.cell (World.block_lt_of_cell? w _ hw106_2)).trans hw106_2), ((HB.out.cell (World.block_lt_of_cell? w _ hw106_3)).trans hw106_3), ((HB.out.cell (World.block_lt_of_cell? w _ hw106_4)).trans hw106_4), ((HB.out.cell (World.block_lt_of_cell? w _ hw108_0)).trans hw108_0), ((HB.out.cell (World.block_lt_of_cell? w _ hw108_1)).trans hw108_1), ((HB.out.cell (World.block_lt_of_cell? w _ hw108_2)).trans hw108_2), ((HB.out.cell (World.block_lt_of_cell? w _ hw108_3)).trans hw108_3), ((HB.out.cell (World.block_lt_of_cell? w _ hw108_4)).trans hw108_4), ((HB.out.cell (World.block_lt_of_cell? w _ hw110_0)).trans hw110_0), ((HB.out.cell (World.block_lt_of_cell? w _ hw110_1)).trans hw110_1), ((HB.out.cell (World.block_lt_of_cell? w _ hw110_2)).trans hw110_2), ((HB.out.cell (World.block_lt_of_cell? w _ hw110_3)).trans hw110_3), ((HB.out.cell (World.block_lt_of_cell? w _ hw110_4)).trans hw110_4)⟩ (fun hHeld => ?_)
                    clear hK K
                    refine nR ?_
                    refine pP 6 (some 16) ?_
                    refine pP 7 (some 17) ?_
                    refine pP 8 (some 18) ?_
                    refine pP 9 (some 19) ?_
                    refine pP 10 (some 20) ?_
                    refine pP 11 (some 21) ?_
                    refine pP 12 (some 22) ?_
                    refine pP 13 (some 23) ?_
                    refine pP 14 (some 24) ?_
                    refine pP 15 (some 25) ?_
                    refine pP 17 (some 27) ?_
                    refine pP 18 (some 28) ?_
                    refine pP 19 (some 29) ?_
                    refine pP 20 (some 30) ?_
                    refine pT 16 (some 26) ?_
                    refine pT 21 (some 31) ?_
                    refine pP 22 (some 32) ?_
                    refine pP 23 (some 33) ?_
                    refine pP 24 (some 34) ?_
                    refine pP 25 (some 35) ?_
                    refine pP 26 (some 36) ?_
                    refine pP 27 (some 37) ?_
                    refine pP 28 (some 38) ?_
                    refine pP 29 (some 39) ?_
                    refine pT 30 (some 40) ?_
                    refine pO 31 (some 41) (fun K hK => ?_)
                    refine gG Try.func10 #[.int .i64 ((rd_T31 l0 x3_1).f1)] ?_
                    with_reducible refine (spec_SetOk.calls ((rd_T31 l0 x3_1).f1) true _ A12.out).mono ?_
                    rintro e w' ⟨rfl, ⟨nd, rfl⟩⟩
                    refine ⟨_, rfl, ?_⟩
                    refine hK.out _ _ ⟨((HB.out.cell (World.block_lt_of_cell? w _ hw102_0)).trans hw102_0), ((HB.out.cell (World.block_lt_of_cell? w _ hw102_1)).trans hw102_1), ((HB.out.cell (World.block_lt_of_cell? w _ hw102_2)).trans hw102_2), ((HB.out.cell (World.block_lt_of_cell? w _ hw102_3)).trans hw102_3), ((HB.out.cell (World.block_lt_of_cell? w _ hw102_4)).trans hw102_4), ((HB.out.cell (World.block_lt_of_cell? w _ hw104_0)).trans hw104_0), ((HB.out.cell (World.block_lt_of_cell? w _ hw104_1)).trans hw104_1), ((HB.out.cell (World.block_lt_of_cell? w _ hw104_2)).trans hw104_2), ((HB.out.cell (World.block_lt_of_cell? w _ hw104_3)).trans hw104_3), ((HB.out.cell (World.block_lt_of_cell? w _ hw104_4)).trans hw104_4), ((HB.out.cell (World.block_lt_of_cell? w _ hw105_0)).trans hw105_0), ((HB.out.cell (World.block_lt_of_cell? w _ hw105_1)).trans hw105_1), ((HB.out.cell (World.block_lt_of_cell? w _ hw105_2)).trans hw105_2), ((HB.out.cell (World.block_lt_of_cell? w _ hw105_3)).trans hw105_3), ((HB.out.cell (World.block_lt_of_cell? w _ hw105_4)).trans hw105_4), ((HB.out.cell (World.block_lt_of_cell? w _ hw106_0)).trans hw106_0), ((HB.out.cell (World.block_lt_of_cell? w _ hw106_1)).trans hw106_1), ((HB.out.cell (World.block_lt_of_cell? w _ hw106_2)).trans hw106_2), ((HB.out.cell (World.block_lt_of_cell? w _ hw106_3)).trans hw106_3), ((HB.out.cell (World.block_lt_of_cell? w _ hw106_4)).trans hw106_4), ((HB.out.cell (World.block_lt_of_cell? w _ hw108_0)).trans hw108_0), ((HB.out.cell (World.block_lt_of_cell? w _ hw108_1)).trans hw108_1), ((HB.out.cell (World.block_lt_of_cell? w _ hw108_2)).trans hw108_2), ((HB.out.cell (World.block_lt_of_cell? w _ hw108_3)).trans hw108_3), ((HB.out.cell (World.block_lt_of_cell? w _ hw108_4)).trans hw108_4), ((HB.out.cell (World.block_lt_of_cell? w _ hw110_0)).trans hw110_0), ((HB.out.cell (World.block_lt_of_cell? w _ hw110_1)).trans hw110_1), ((HB.out.cell (World.block_lt_of_cell? w _ hw110_2)).trans hw110_2), ((HB.out.cell (World.block_lt_of_cell? w _ hw110_3)).trans hw110_3), ((HB.out.cell (World.block_lt_of_cell? w _ hw110_4)).trans hw110_4)⟩ (fun hHeld => ?_)
                    clear hK K
                    refine nR ?_
                    refine pP 32 (some 42) ?_
                    refine pP 33 (some 43) ?_
                    refine pP 34 (some 44) ?_
                    refine pP 35 (some 45) ?_
                    refine pP 36 (some 46) ?_
                    refine pP 37 (some 47) ?_
                    refine pP 38 (some 48) ?_
                    refine pT 39 (some 49) ?_
                    refine pO 40 (some 50) (fun K hK => ?_)
                    refine gG Try.func10 #[.int .i64 ((rd_T31 l0 x3_1).f2)] ?_
                    with_reducible refine (spec_SetOk.calls ((rd_T31 l0 x3_1).f2) true _ A14.out).mono ?_
                    rintro e w' ⟨rfl, ⟨nd, rfl⟩⟩
                    refine ⟨_, rfl, ?_⟩
                    refine hK.out _ _ ⟨((HB.out.cell (World.block_lt_of_cell? w _ hw102_0)).trans hw102_0), ((HB.out.cell (World.block_lt_of_cell? w _ hw102_1)).trans hw102_1), ((HB.out.cell (World.block_lt_of_cell? w _ hw102_2)).trans hw102_2), ((HB.out.cell (World.block_lt_of_cell? w _ hw102_3)).trans hw102_3), ((HB.out.cell (World.block_lt_of_cell? w _ hw102_4)).trans hw102_4), ((HB.out.cell (World.block_lt_of_cell? w _ hw104_0)).trans hw104_0), ((HB.out.cell (World.block_lt_of_cell? w _ hw104_1)).trans hw104_1), ((HB.out.cell (World.block_lt_of_cell? w _ hw104_2)).trans hw104_2), ((HB.out.cell (World.block_lt_of_cell? w _ hw104_3)).trans hw104_3), ((HB.out.cell (World.block_lt_of_cell? w _ hw104_4)).trans hw104_4), ((HB.out.cell (World.block_lt_of_cell? w _ hw105_0)).trans hw105_0), ((HB.out.cell (World.block_lt_of_cell? w _ hw105_1)).trans hw105_1), ((HB.out.cell (World.block_lt_of_cell? w _ hw105_2)).trans hw105_2), ((HB.out.cell (World.block_lt_of_cell? w _ hw105_3)).trans hw105_3), ((HB.out.cell (World.block_lt_of_cell? w _ hw105_4)).trans hw105_4), ((HB.out.cell (World.block_lt_of_cell? w _ hw106_0)).trans hw106_0), ((HB.out.cell (World.block_lt_of_cell? w _ hw106_1)).trans hw106_1), ((HB.out.cell (World.block_lt_of_cell? w _ hw106_2)).trans hw106_2), ((HB.out.cell (World.block_lt_of_cell? w _ hw106_3)).trans hw106_3), ((HB.out.cell (World.block_lt_of_cell? w _ hw106_4)).trans hw106_4), ((HB.out.cell (World.block_lt_of_cell? w _ hw108_0)).trans hw108_0), ((HB.out.cell (World.block_lt_of_cell? w _ hw108_1)).trans hw108_1), ((HB.out.cell (World.block_lt_of_cell? w _ hw108_2)).trans hw108_2), ((HB.out.cell (World.block_lt_of_cell? w _ hw108_3)).trans hw108_3), ((HB.out.cell (World.block_lt_of_cell? w _ hw108_4)).trans hw108_4), ((HB.out.cell (World.block_lt_of_cell? w _ hw110_0)).trans hw110_0), ((HB.out.cell (World.block_lt_of_cell? w _ hw110_1)).trans hw110_1), ((HB.out.cell (World.block_lt_of_cell? w _ hw110_2)).trans hw110_2), ((HB.out.cell (World.block_lt_of_cell? w _ hw110_3)).trans hw110_3), ((HB.out.cell (World.block_lt_of_cell? w _ hw110_4)).trans hw110_4)⟩ (fun hHeld => ?_)
                    clear hK K
                    refine nR ?_
                    refine pP 41 (some 51) ?_
                    refine pP 42 (some 52) ?_
                    refine pP 43 (some 53) ?_
                    refine pP 44 (some 54) ?_
                    refine pP 45 (some 55) ?_
                    refine pP 46 (some 56) ?_
                    refine pP 47 (some 57) ?_
                    refine pT 48 (some 58) ?_
                    refine pO 49 (some 59) (fun K hK => ?_)
                    refine gG Try.func10 #[.int .i64 ((rd_T31 l0 x3_1).f4)] ?_
                    with_reducible refine (spec_SetOk.calls ((rd_T31 l0 x3_1).f4) false _ A16.out).mono ?_
                    rintro e w' ⟨rfl, ⟨nd, rfl⟩⟩
                    refine ⟨_, rfl, ?_⟩
                    refine hK.out _ _ ⟨((HB.out.cell (World.block_lt_of_cell? w _ hw102_0)).trans hw102_0), ((HB.out.cell (World.block_lt_of_cell? w _ hw102_1)).trans hw102_1), ((HB.out.cell (World.block_lt_of_cell? w _ hw102_2)).trans hw102_2), ((HB.out.cell (World.block_lt_of_cell? w _ hw102_3)).trans hw102_3), ((HB.out.cell (World.block_lt_of_cell? w _ hw102_4)).trans hw102_4), ((HB.out.cell (World.block_lt_of_cell? w _ hw104_0)).trans hw104_0), ((HB.out.cell (World.block_lt_of_cell? w _ hw104_1)).trans hw104_1), ((HB.out.cell (World.block_lt_of_cell? w _ hw104_2)).trans hw104_2), ((HB.out.cell (World.block_lt_of_cell? w _ hw104_3)).trans hw104_3), ((HB.out.cell (World.block_lt_of_cell? w _ hw104_4)).trans hw104_4), ((HB.out.cell (World.block_lt_of_cell? w _ hw105_0)).trans hw105_0), ((HB.out.cell (World.block_lt_of_cell? w _ hw105_1)).trans hw105_1), ((HB.out.cell (World.block_lt_of_cell? w _ hw105_2)).trans hw105_2), ((HB.out.cell (World.block_lt_of_cell? w _ hw105_3)).trans hw105_3), ((HB.out.cell (World.block_lt_of_cell? w _ hw105_4)).trans hw105_4), ((HB.out.cell (World.block_lt_of_cell? w _ hw106_0)).trans hw106_0), ((HB.out.cell (World.block_lt_of_cell? w _ hw106_1)).trans hw106_1), ((HB.out.cell (World.block_lt_of_cell? w _ hw106_2)).trans hw106_2), ((HB.out.cell (World.block_lt_of_cell? w _ hw106_3)).trans hw106_3), ((HB.out.cell (World.block_lt_of_cell? w _ hw106_4)).trans hw106_4), ((HB.out.cell (World.block_lt_of_cell? w _ hw108_0)).trans hw108_0), ((HB.out.cell (World.block_lt_of_cell? w _ hw108_1)).trans hw108_1), ((HB.out.cell (World.block_lt_of_cell? w _ hw108_2)).trans hw108_2), ((HB.out.cell (World.block_lt_of_cell? w _ hw108_3)).trans hw108_3), ((HB.out.cell (World.block_lt_of_cell? w _ hw108_4)).trans hw108_4), ((HB.out.cell (World.block_lt_of_cell? w _ hw110_0)).trans hw110_0), ((HB.out.cell (World.block_lt_of_cell? w _ hw110_1)).trans hw110_1), ((HB.out.cell (World.block_lt_of_cell? w _ hw110_2)).trans hw110_2), ((HB.out.cell (World.block_lt_of_cell? w _ hw110_3)).trans hw110_3), ((HB.out.cell (World.block_lt_of_cell? w _ hw110_4)).trans hw110_4)⟩ (fun hHeld => ?_)
                    clear hK K
                    refine nR ?_
                    refine pP 50 (some 60) ?_
                    refine pP 51 (some 61) ?_
                    refine pP 52 (some 62) ?_
                    refine pX 53 (some 63) ?_
                    refine pX 54 (some 64) ?_
                    refine pX 55 (some 65) ?_
                    refine pX 56 (some 66) ?_
                    refine pX 57 (some 67) ?_
                    refine pX 58 (some 68) ?_
                    refine pP 59 (some 69) ?_
                    refine done_ (done_of HT_.out (by kernel_rfl)) ?_
                    try go_wp2
                    go_ret
                    exact ⟨by first | rfl | (simp [errW_none, errW_some] <;> rfl) | (simp only [← hji7]; first | rfl | (simp [errW_none, errW_some] <;> rfl)) | (simp [*, errW_none, errW_some] <;> rfl), TB⟩
                · replace c15 := Bool.eq_false_iff.mpr c15
                  subst c15
                  replace H := ifF H
                  obtain rfl := Option.some.inj H
                  try go_wp2
                  replace HB := aM (below_drew1 HB.out)
                  have p102 : 0 ≤ (x3_1 : Int) := DT
                  have q102 : x3_1 < (l0.length : Int) := DT
                  obtain ⟨ad102, e102, hx102_0, hx102_1, hx102_2, hx102_3, hx102_4⟩ := at_T31 HR0.out x3_1 p102 q102
                  have hw102_4 := hx102_4
                  have hw102_3 := hx102_3
                  have hw102_2 := hx102_2
                  have hw102_1 := hx102_1
                  have hw102_0 := hx102_0
                  cases e102
                  replace hx102_0 := (HB.out.cell (World.block_lt_of_cell? w _ hx102_0)).trans hx102_0
                  replace hx102_1 := (HB.out.cell (World.block_lt_of_cell? w _ hx102_1)).trans hx102_1
                  replace hx102_2 := (HB.out.cell (World.block_lt_of_cell? w _ hx102_2)).trans hx102_2
                  replace hx102_3 := (HB.out.cell (World.block_lt_of_cell? w _ hx102_3)).trans hx102_3
                  replace hx102_4 := (HB.out.cell (World.block_lt_of_cell? w _ hx102_4)).trans hx102_4
                  replace p102 := eq_true p102
                  replace q102 := eq_true q102
                  have p104 : 0 ≤ ((ji7) : Int) := DT
                  have q104 : (ji7) < (l0.length : Int) := DT
                  obtain ⟨ad104, e104, hx104_0, hx104_1, hx104_2, hx104_3, hx104_4⟩ := at_T31 HR0.out (ji7) p104 q104
                  have hw104_4 := hx104_4
                  have hw104_3 := hx104_3
                  have hw104_2 := hx104_2
                  have hw104_1 := hx104_1
                  have hw104_0 := hx104_0
                  obtain rfl : ad102 = ad104 := (by injection e104)
                  replace hx104_0 := (HB.out.cell (World.block_lt_of_cell? w _ hx104_0)).trans hx104_0
                  replace hx104_1 := (HB.out.cell (World.block_lt_of_cell? w _ hx104_1)).trans hx104_1
                  replace hx104_2 := (HB.out.cell (World.block_lt_of_cell? w _ hx104_2)).trans hx104_2
                  replace hx104_3 := (HB.out.cell (World.block_lt_of_cell? w _ hx104_3)).trans hx104_3
                  replace hx104_4 := (HB.out.cell (World.block_lt_of_cell? w _ hx104_4)).trans hx104_4
                  replace p104 := eq_true p104
                  replace q104 := eq_true q104
                  have p105 : 0 ≤ (x3_1 : Int) := DT
                  have q105 : x3_1 < (l0.length : Int) := DT
                  obtain ⟨ad105, e105, hx105_0, hx105_1, hx105_2, hx105_3, hx105_4⟩ := at_T31 HR0.out x3_1 p105 q105
                  have hw105_4 := hx105_4
                  have hw105_3 := hx105_3
                  have hw105_2 := hx105_2
                  have hw105_1 := hx105_1
                  have hw105_0 := hx105_0
                  obtain rfl : ad102 = ad105 := (by injection e105)
                  replace hx105_0 := (HB.out.cell (World.block_lt_of_cell? w _ hx105_0)).trans hx105_0
                  replace hx105_1 := (HB.out.cell (World.block_lt_of_cell? w _ hx105_1)).trans hx105_1
                  replace hx105_2 := (HB.out.cell (World.block_lt_of_cell? w _ hx105_2)).trans hx105_2
                  replace hx105_3 := (HB.out.cell (World.block_lt_of_cell? w _ hx105_3)).trans hx105_3
                  replace hx105_4 := (HB.out.cell (World.block_lt_of_cell? w _ hx105_4)).trans hx105_4
                  replace p105 := eq_true p105
                  replace q105 := eq_true q105
                  have p106 : 0 ≤ (x3_1 : Int) := DT
                  have q106 : x3_1 < (l0.length : Int) := DT
                  obtain ⟨ad106, e106, hx106_0, hx106_1, hx106_2, hx106_3, hx106_4⟩ := at_T31 HR0.out x3_1 p106 q106
                  have hw106_4 := hx106_4
                  have hw106_3 := hx106_3
                  have hw106_2 := hx106_2
                  have hw106_1 := hx106_1
                  have hw106_0 := hx106_0
                  obtain rfl : ad102 = ad106 := (by injection e106)
                  replace hx106_0 := (HB.out.cell (World.block_lt_of_cell? w _ hx106_0)).trans hx106_0
                  replace hx106_1 := (HB.out.cell (World.block_lt_of_cell? w _ hx106_1)).trans hx106_1
                  replace hx106_2 := (HB.out.cell (World.block_lt_of_cell? w _ hx106_2)).trans hx106_2
                  replace hx106_3 := (HB.out.cell (World.block_lt_of_cell? w _ hx106_3)).trans hx106_3
                  replace hx106_4 := (HB.out.cell (World.block_lt_of_cell? w _ hx106_4)).trans hx106_4
                  replace p106 := eq_true p106
                  replace q106 := eq_true q106
                  have p108 : 0 ≤ (x3_1 : Int) := DT
                  have q108 : x3_1 < (l0.length : Int) := DT
                  obtain ⟨ad108, e108, hx108_0, hx108_1, hx108_2, hx108_3, hx108_4⟩ := at_T31 HR0.out x3_1 p108 q108
                  have hw108_4 := hx108_4
                  have hw108_3 := hx108_3
                  have hw108_2 := hx108_2
                  have hw108_1 := hx108_1
                  have hw108_0 := hx108_0
                  obtain rfl : ad102 = ad108 := (by injection e108)
                  replace hx108_0 := (HB.out.cell (World.block_lt_of_cell? w _ hx108_0)).trans hx108_0
                  replace hx108_1 := (HB.out.cell (World.block_lt_of_cell? w _ hx108_1)).trans hx108_1
                  replace hx108_2 := (HB.out.cell (World.block_lt_of_cell? w _ hx108_2)).trans hx108_2
                  replace hx108_3 := (HB.out.cell (World.block_lt_of_cell? w _ hx108_3)).trans hx108_3
                  replace hx108_4 := (HB.out.cell (World.block_lt_of_cell? w _ hx108_4)).trans hx108_4
                  replace p108 := eq_true p108
                  replace q108 := eq_true q108
                  refine start_ (n := 60) (S := fun w' => w'.cell? (ad102.add ((x3_1).toNat * 5)) = some (.int .i64 ((rd_T31 l0 x3_1).f0)) ∧ w'.cell? ⟨(ad102.add ((x3_1).toNat * 5)).block, (ad102.add ((x3_1).toNat * 5)).off + 1, none⟩ = some (.int .i64 ((rd_T31 l0 x3_1).f1)) ∧ w'.cell? ⟨(ad102.add ((x3_1).toNat * 5)).block, (ad102.add ((x3_1).toNat * 5)).off + 2, none⟩ = some (.int .i64 ((rd_T31 l0 x3_1).f2)) ∧ w'.cell? ⟨(ad102.add ((x3_1).toNat * 5)).block, (ad102.add ((x3_1).toNat * 5)).off + 3, none⟩ = some (.int .i64 ((rd_T31 l0 x3_1).f3)) ∧ w'.cell? ⟨(ad102.add ((x3_1).toNat * 5)).block, (ad102.add ((x3_1).toNat * 5)).off + 4, none⟩ = some (.int .i64 ((rd_T31 l0 x3_1).f4)) ∧ w'.cell? (ad102.add (((ji7)).toNat * 5)) = some (.int .i64 ((rd_T31 l0 (ji7)).f0)) ∧ w'.cell? ⟨(ad102.add (((ji7)).toNat * 5)).block, (ad102.add (((ji7)).toNat * 5)).off + 1, none⟩ = some (.int .i64 ((rd_T31 l0 (ji7)).f1)) ∧ w'.cell? ⟨(ad102.add (((ji7)).toNat * 5)).block, (ad102.add (((ji7)).toNat * 5)).off + 2, none⟩ = some (.int .i64 ((rd_T31 l0 (ji7)).f2)) ∧ w'.cell? ⟨(ad102.add (((ji7)).toNat * 5)).block, (ad102.add (((ji7)).toNat * 5)).off + 3, none⟩ = some (.int .i64 ((rd_T31 l0 (ji7)).f3)) ∧ w'.cell? ⟨(ad102.add (((ji7)).toNat * 5)).block, (ad102.add (((ji7)).toNat * 5)).off + 4, none⟩ = some (.int .i64 ((rd_T31 l0 (ji7)).f4)) ∧ w'.cell? (ad102.add ((x3_1).toNat * 5)) = some (.int .i64 ((rd_T31 l0 x3_1).f0)) ∧ w'.cell? ⟨(ad102.add ((x3_1).toNat * 5)).block, (ad102.add ((x3_1).toNat * 5)).off + 1, none⟩ = some (.int .i64 ((rd_T31 l0 x3_1).f1)) ∧ w'.cell? ⟨(ad102.add ((x3_1).toNat * 5)).block, (ad102.add ((x3_1).toNat * 5)).off + 2, none⟩ = some (.int .i64 ((rd_T31 l0 x3_1).f2)) ∧ w'.cell? ⟨(ad102.add ((x3_1).toNat * 5)).block, (ad102.add ((x3_1).toNat * 5)).off + 3, none⟩ = some (.int .i64 ((rd_T31 l0 x3_1).f3)) ∧ w'.cell? ⟨(ad102.add ((x3_1).toNat * 5)).block, (ad102.add ((x3_1).toNat * 5)).off + 4, none⟩ = some (.int .i64 ((rd_T31 l0 x3_1).f4)) ∧ w'.cell? (ad102.add ((x3_1).toNat * 5)) = some (.int .i64 ((rd_T31 l0 x3_1).f0)) ∧ w'.cell? ⟨(ad102.add ((x3_1).toNat * 5)).block, (ad102.add ((x3_1).toNat * 5)).off + 1, none⟩ = some (.int .i64 ((rd_T31 l0 x3_1).f1)) ∧ w'.cell? ⟨(ad102.add ((x3_1).toNat * 5)).block, (ad102.add ((x3_1).toNat * 5)).off + 2, none⟩ = some (.int .i64 ((rd_T31 l0 x3_1).f2)) ∧ w'.cell? ⟨(ad102.add ((x3_1).toNat * 5)).block, (ad102.add ((x3_1).toNat * 5)).off + 3, none⟩ = some (.int .i64 ((rd_T31 l0 x3_1).f3)) ∧ w'.cell? ⟨(ad102.add ((x3_1).toNat * 5)).block, (ad102.add ((x3_1).toNat * 5)).off + 4, none⟩ = some (.int .i64 ((rd_T31 l0 x3_1).f4)) ∧ w'.cell? (ad102.add ((x3_1).toNat * 5)) = some (.int .i64 ((rd_T31 l0 x3_1).f0)) ∧ w'.cell? ⟨(ad102.add ((x3_1).toNat * 5)).block, (ad102.add ((x3_1).toNat * 5)).off + 1, none⟩ = some (.int .i64 ((rd_T31 l0 x3_1).f1)) ∧ w'.cell? ⟨(ad102.add ((x3_1).toNat * 5)).block, (ad102.add ((x3_1).toNat * 5)).off + 2, none⟩ = some (.int .i64 ((rd_T31 l0 x3_1).f2)) ∧ w'.cell? ⟨(ad102.add ((x3_1).toNat * 5)).block, (ad102.add ((x3_1).toNat * 5)).off + 3, none⟩ = some (.int .i64 ((rd_T31 l0 x3_1).f3)) ∧ w'.cell? ⟨(ad102.add ((x3_1).toNat * 5)).block, (ad102.add ((x3_1).toNat * 5)).off + 4, none⟩ = some (.int .i64 ((rd_T31 l0 x3_1).f4))) (ds := []) (Array.replicate 60 false) (by kernel_rfl) rfl rfl ⟨((HB.out.cell (World.block_lt_of_cell? w _ hw102_0)).trans hw102_0), ((HB.out.cell (World.block_lt_of_cell? w _ hw102_1)).trans hw102_1), ((HB.out.cell (World.block_lt_of_cell? w _ hw102_2)).trans hw102_2), ((HB.out.cell (World.block_lt_of_cell? w _ hw102_3)).trans hw102_3), ((HB.out.cell (World.block_lt_of_cell? w _ hw102_4)).trans hw102_4), ((HB.out.cell (World.block_lt_of_cell? w _ hw104_0)).trans hw104_0), ((HB.out.cell (World.block_lt_of_cell? w _ hw104_1)).trans hw104_1), ((HB.out.cell (World.block_lt_of_cell? w _ hw104_2)).trans hw104_2), ((HB.out.cell (World.block_lt_of_cell? w _ hw104_3)).trans hw104_3), ((HB.out.cell (World.block_lt_of_cell? w _ hw104_4)).trans hw104_4), ((HB.out.cell (World.block_lt_of_cell? w _ hw105_0)).trans hw105_0), ((HB.out.cell (World.block_lt_of_cell? w _ hw105_1)).trans hw105_1), ((HB.out.cell (World.block_lt_of_cell? w _ hw105_2)).trans hw105_2), ((HB.out.cell (World.block_lt_of_cell? w _ hw105_3)).trans hw105_3), ((HB.out.cell (World.block_lt_of_cell? w _ hw105_4)).trans hw105_4), ((HB.out.cell (World.block_lt_of_cell? w _ hw106_0)).trans hw106_0), ((HB.out.cell (World.block_lt_of_cell? w _ hw106_1)).trans hw106_1), ((HB.out.cell (World.block_lt_of_cell? w _ hw106_2)).trans hw106_2), ((HB.out.cell (World.block_lt_of_cell? w _ hw106_3)).trans hw106_3), ((HB.out.cell (World.block_lt_of_cell? w _ hw106_4)).trans hw106_4), ((HB.out.cell (World.block_lt_of_cell? w _ hw108_0)).trans hw108_0), ((HB.out.cell (World.block_lt_of_cell? w _ hw108_1)).trans hw108_1), ((HB.out.cell (World.block_lt_of_cell? w _ hw108_2)).trans hw108_2), ((HB.out.cell (World.block_lt_of_cell? w _ hw108_3)).trans hw108_3), ((HB.out.cell (World.block_lt_of_cell? w _ hw108_4)).trans hw108_4)⟩ (fun hHeld => ?_); refine with_tabW spec_KidsOk.tab4 spec_KidsOk.bits4 (fun HT_ HW_ => ?_)
                  generalize wr.drew = w22 at HB hx102_0 hx102_1 hx102_2 hx102_3 hx102_4 hx104_0 hx104_1 hx104_2 hx104_3 hx104_4 hx105_0 hx105_1 hx105_2 hx105_3 hx105_4 hx106_0 hx106_1 hx106_2 hx106_3 hx106_4 hx108_0 hx108_1 hx108_2 hx108_3 hx108_4 hHeld ⊢
                  refine pP 0 (some 10) ?_
                  refine pP 1 (some 11) ?_
                  refine pP 2 (some 12) ?_
                  refine pP 3 (some 13) ?_
                  refine pT 4 (some 14) ?_
                  refine pO 5 (some 15) (fun K hK => ?_)
                  refine gG Try.func9 #[.int .i64 ((rd_T31 l0 x3_1).f0), .int .i64 0, .int .i64 6] ?_
                  with_reducible refine (spec_l1In.calls ((rd_T31 l0 x3_1).f0) 0 6 true _ A4.out).mono ?_
                  rintro e w' ⟨rfl, ⟨nd, rfl⟩⟩
                  refine ⟨_, rfl, ?_⟩
                  refine hK.out _ _ ⟨((HB.out.cell (World.block_lt_of_cell? w _ hw102_0)).trans hw102_0), ((HB.out.cell (World.block_lt_of_cell? w _ hw102_1)).trans hw102_1), ((HB.out.cell (World.block_lt_of_cell? w _ hw102_2)).trans hw102_2), ((HB.out.cell (World.block_lt_of_cell? w _ hw102_3)).trans hw102_3), ((HB.out.cell (World.block_lt_of_cell? w _ hw102_4)).trans hw102_4), ((HB.out.cell (World.block_lt_of_cell? w _ hw104_0)).trans hw104_0), ((HB.out.cell (World.block_lt_of_cell? w _ hw104_1)).trans hw104_1), ((HB.out.cell (World.block_lt_of_cell? w _ hw104_2)).trans hw104_2), ((HB.out.cell (World.block_lt_of_cell? w _ hw104_3)).trans hw104_3), ((HB.out.cell (World.block_lt_of_cell? w _ hw104_4)).trans hw104_4), ((HB.out.cell (World.block_lt_of_cell? w _ hw105_0)).trans hw105_0), ((HB.out.cell (World.block_lt_of_cell? w _ hw105_1)).trans hw105_1), ((HB.out.cell (World.block_lt_of_cell? w _ hw105_2)).trans hw105_2), ((HB.out.cell (World.block_lt_of_cell? w _ hw105_3)).trans hw105_3), ((HB.out.cell (World.block_lt_of_cell? w _ hw105_4)).trans hw105_4), ((HB.out.cell (World.block_lt_of_cell? w _ hw106_0)).trans hw106_0), ((HB.out.cell (World.block_lt_of_cell? w _ hw106_1)).trans hw106_1), ((HB.out.cell (World.block_lt_of_cell? w _ hw106_2)).trans hw106_2), ((HB.out.cell (World.block_lt_of_cell? w _ hw106_3)).trans hw106_3), ((HB.out.cell (World.block_lt_of_cell? w _ hw106_4)).trans hw106_4), ((HB.out.cell (World.block_lt_of_cell? w _ hw108_0)).trans hw108_0), ((HB.out.cell (World.block_lt_of_cell? w _ hw108_1)).trans hw108_1), ((HB.out.cell (World.block_lt_of_cell? w _ hw108_2)).trans hw108_2), ((HB.out.cell (World.block_lt_of_cell? w _ hw108_3)).trans hw108_3), ((HB.out.cell (World.block_lt_of_cell? w _ hw108_4)).trans hw108_4)⟩ (fun hHeld => ?_)
                  clear hK K
                  refine nR ?_
                  refine pP 6 (some 16) ?_
                  refine pP 7 (some 17) ?_
                  refine pP 8 (some 18) ?_
                  refine pP 9 (some 19) ?_
                  refine pP 10 (some 20) ?_
                  refine pP 11 (some 21) ?_
                  refine pP 12 (some 22) ?_
                  refine pP 13 (some 23) ?_
                  refine pP 14 (some 24) ?_
                  refine pP 15 (some 25) ?_
                  refine pP 17 (some 27) ?_
                  refine pP 18 (some 28) ?_
                  refine pP 19 (some 29) ?_
                  refine pP 20 (some 30) ?_
                  refine pT 16 (some 26) ?_
                  refine pT 21 (some 31) ?_
                  refine pP 22 (some 32) ?_
                  refine pP 23 (some 33) ?_
                  refine pP 24 (some 34) ?_
                  refine pP 25 (some 35) ?_
                  refine pP 26 (some 36) ?_
                  refine pP 27 (some 37) ?_
                  refine pP 28 (some 38) ?_
                  refine pP 29 (some 39) ?_
                  refine pT 30 (some 40) ?_
                  refine pO 31 (some 41) (fun K hK => ?_)
                  refine gG Try.func10 #[.int .i64 ((rd_T31 l0 x3_1).f1)] ?_
                  with_reducible refine (spec_SetOk.calls ((rd_T31 l0 x3_1).f1) true _ A12.out).mono ?_
                  rintro e w' ⟨rfl, ⟨nd, rfl⟩⟩
                  refine ⟨_, rfl, ?_⟩
                  refine hK.out _ _ ⟨((HB.out.cell (World.block_lt_of_cell? w _ hw102_0)).trans hw102_0), ((HB.out.cell (World.block_lt_of_cell? w _ hw102_1)).trans hw102_1), ((HB.out.cell (World.block_lt_of_cell? w _ hw102_2)).trans hw102_2), ((HB.out.cell (World.block_lt_of_cell? w _ hw102_3)).trans hw102_3), ((HB.out.cell (World.block_lt_of_cell? w _ hw102_4)).trans hw102_4), ((HB.out.cell (World.block_lt_of_cell? w _ hw104_0)).trans hw104_0), ((HB.out.cell (World.block_lt_of_cell? w _ hw104_1)).trans hw104_1), ((HB.out.cell (World.block_lt_of_cell? w _ hw104_2)).trans hw104_2), ((HB.out.cell (World.block_lt_of_cell? w _ hw104_3)).trans hw104_3), ((HB.out.cell (World.block_lt_of_cell? w _ hw104_4)).trans hw104_4), ((HB.out.cell (World.block_lt_of_cell? w _ hw105_0)).trans hw105_0), ((HB.out.cell (World.block_lt_of_cell? w _ hw105_1)).trans hw105_1), ((HB.out.cell (World.block_lt_of_cell? w _ hw105_2)).trans hw105_2), ((HB.out.cell (World.block_lt_of_cell? w _ hw105_3)).trans hw105_3), ((HB.out.cell (World.block_lt_of_cell? w _ hw105_4)).trans hw105_4), ((HB.out.cell (World.block_lt_of_cell? w _ hw106_0)).trans hw106_0), ((HB.out.cell (World.block_lt_of_cell? w _ hw106_1)).trans hw106_1), ((HB.out.cell (World.block_lt_of_cell? w _ hw106_2)).trans hw106_2), ((HB.out.cell (World.block_lt_of_cell? w _ hw106_3)).trans hw106_3), ((HB.out.cell (World.block_lt_of_cell? w _ hw106_4)).trans hw106_4), ((HB.out.cell (World.block_lt_of_cell? w _ hw108_0)).trans hw108_0), ((HB.out.cell (World.block_lt_of_cell? w _ hw108_1)).trans hw108_1), ((HB.out.cell (World.block_lt_of_cell? w _ hw108_2)).trans hw108_2), ((HB.out.cell (World.block_lt_of_cell? w _ hw108_3)).trans hw108_3), ((HB.out.cell (World.block_lt_of_cell? w _ hw108_4)).trans hw108_4)⟩ (fun hHeld => ?_)
                  clear hK K
                  refine nR ?_
                  refine pP 32 (some 42) ?_
                  refine pP 33 (some 43) ?_
                  refine pP 34 (some 44) ?_
                  refine pP 35 (some 45) ?_
                  refine pP 36 (some 46) ?_
                  refine pP 37 (some 47) ?_
                  refine pP 38 (some 48) ?_
                  refine pT 39 (some 49) ?_
                  refine pO 40 (some 50) (fun K hK => ?_)
                  refine gG Try.func10 #[.int .i64 ((rd_T31 l0 x3_1).f2)] ?_
                  with_reducible refine (spec_SetOk.calls ((rd_T31 l0 x3_1).f2) false _ A14.out).mono ?_
                  rintro e w' ⟨rfl, ⟨nd, rfl⟩⟩
                  refine ⟨_, rfl, ?_⟩
                  refine hK.out _ _ ⟨((HB.out.cell (World.block_lt_of_cell? w _ hw102_0)).trans hw102_0), ((HB.out.cell (World.block_lt_of_cell? w _ hw102_1)).trans hw102_1), ((HB.out.cell (World.block_lt_of_cell? w _ hw102_2)).trans hw102_2), ((HB.out.cell (World.block_lt_of_cell? w _ hw102_3)).trans hw102_3), ((HB.out.cell (World.block_lt_of_cell? w _ hw102_4)).trans hw102_4), ((HB.out.cell (World.block_lt_of_cell? w _ hw104_0)).trans hw104_0), ((HB.out.cell (World.block_lt_of_cell? w _ hw104_1)).trans hw104_1), ((HB.out.cell (World.block_lt_of_cell? w _ hw104_2)).trans hw104_2), ((HB.out.cell (World.block_lt_of_cell? w _ hw104_3)).trans hw104_3), ((HB.out.cell (World.block_lt_of_cell? w _ hw104_4)).trans hw104_4), ((HB.out.cell (World.block_lt_of_cell? w _ hw105_0)).trans hw105_0), ((HB.out.cell (World.block_lt_of_cell? w _ hw105_1)).trans hw105_1), ((HB.out.cell (World.block_lt_of_cell? w _ hw105_2)).trans hw105_2), ((HB.out.cell (World.block_lt_of_cell? w _ hw105_3)).trans hw105_3), ((HB.out.cell (World.block_lt_of_cell? w _ hw105_4)).trans hw105_4), ((HB.out.cell (World.block_lt_of_cell? w _ hw106_0)).trans hw106_0), ((HB.out.cell (World.block_lt_of_cell? w _ hw106_1)).trans hw106_1), ((HB.out.cell (World.block_lt_of_cell? w _ hw106_2)).trans hw106_2), ((HB.out.cell (World.block_lt_of_cell? w _ hw106_3)).trans hw106_3), ((HB.out.cell (World.block_lt_of_cell? w _ hw106_4)).trans hw106_4), ((HB.out.cell (World.block_lt_of_cell? w _ hw108_0)).trans hw108_0), ((HB.out.cell (World.block_lt_of_cell? w _ hw108_1)).trans hw108_1), ((HB.out.cell (World.block_lt_of_cell? w _ hw108_2)).trans hw108_2), ((HB.out.cell (World.block_lt_of_cell? w _ hw108_3)).trans hw108_3), ((HB.out.cell (World.block_lt_of_cell? w _ hw108_4)).trans hw108_4)⟩ (fun hHeld => ?_)
                  clear hK K
                  refine nR ?_
                  refine pP 41 (some 51) ?_
                  refine pP 42 (some 52) ?_
                  refine pP 43 (some 53) ?_
                  refine pX 44 (some 54) ?_
                  refine pX 45 (some 55) ?_
                  refine pX 46 (some 56) ?_
                  refine pX 47 (some 57) ?_
                  refine pX 48 (some 58) ?_
                  refine pX 49 (some 59) ?_
                  refine pX 50 (some 60) ?_
                  refine pP 51 (some 61) ?_
                  refine pP 52 (some 62) ?_
                  refine pX 53 (some 63) ?_
                  refine pX 54 (some 64) ?_
                  refine pX 55 (some 65) ?_
                  refine pX 56 (some 66) ?_
                  refine pX 57 (some 67) ?_
                  refine pX 58 (some 68) ?_
                  refine pP 59 (some 69) ?_
                  refine done_ (done_of HT_.out (by kernel_rfl)) ?_
                  try go_wp2
                  go_ret
                  exact ⟨by first | rfl | (simp [errW_none, errW_some] <;> rfl) | (simp only [← hji7]; first | rfl | (simp [errW_none, errW_some] <;> rfl)) | (simp [*, errW_none, errW_some] <;> rfl), TB⟩
              · replace c13 := Bool.eq_false_iff.mpr c13
                subst c13
                replace H := ifF H
                obtain rfl := Option.some.inj H
                try go_wp2
                replace HB := aM (below_drew1 HB.out)
                have p102 : 0 ≤ (x3_1 : Int) := DT
                have q102 : x3_1 < (l0.length : Int) := DT
                obtain ⟨ad102, e102, hx102_0, hx102_1, hx102_2, hx102_3, hx102_4⟩ := at_T31 HR0.out x3_1 p102 q102
                have hw102_4 := hx102_4
                have hw102_3 := hx102_3
                have hw102_2 := hx102_2
                have hw102_1 := hx102_1
                have hw102_0 := hx102_0
                cases e102
                replace hx102_0 := (HB.out.cell (World.block_lt_of_cell? w _ hx102_0)).trans hx102_0
                replace hx102_1 := (HB.out.cell (World.block_lt_of_cell? w _ hx102_1)).trans hx102_1
                replace hx102_2 := (HB.out.cell (World.block_lt_of_cell? w _ hx102_2)).trans hx102_2
                replace hx102_3 := (HB.out.cell (World.block_lt_of_cell? w _ hx102_3)).trans hx102_3
                replace hx102_4 := (HB.out.cell (World.block_lt_of_cell? w _ hx102_4)).trans hx102_4
                replace p102 := eq_true p102
                replace q102 := eq_true q102
                have p104 : 0 ≤ ((ji7) : Int) := DT
                have q104 : (ji7) < (l0.length : Int) := DT
                obtain ⟨ad104, e104, hx104_0, hx104_1, hx104_2, hx104_3, hx104_4⟩ := at_T31 HR0.out (ji7) p104 q104
                have hw104_4 := hx104_4
                have hw104_3 := hx104_3
                have hw104_2 := hx104_2
                have hw104_1 := hx104_1
                have hw104_0 := hx104_0
                obtain rfl : ad102 = ad104 := (by injection e104)
                replace hx104_0 := (HB.out.cell (World.block_lt_of_cell? w _ hx104_0)).trans hx104_0
                replace hx104_1 := (HB.out.cell (World.block_lt_of_cell? w _ hx104_1)).trans hx104_1
                replace hx104_2 := (HB.out.cell (World.block_lt_of_cell? w _ hx104_2)).trans hx104_2
                replace hx104_3 := (HB.out.cell (World.block_lt_of_cell? w _ hx104_3)).trans hx104_3
                replace hx104_4 := (HB.out.cell (World.block_lt_of_cell? w _ hx104_4)).trans hx104_4
                replace p104 := eq_true p104
                replace q104 := eq_true q104
                have p105 : 0 ≤ (x3_1 : Int) := DT
                have q105 : x3_1 < (l0.length : Int) := DT
                obtain ⟨ad105, e105, hx105_0, hx105_1, hx105_2, hx105_3, hx105_4⟩ := at_T31 HR0.out x3_1 p105 q105
                have hw105_4 := hx105_4
                have hw105_3 := hx105_3
                have hw105_2 := hx105_2
                have hw105_1 := hx105_1
                have hw105_0 := hx105_0
                obtain rfl : ad102 = ad105 := (by injection e105)
                replace hx105_0 := (HB.out.cell (World.block_lt_of_cell? w _ hx105_0)).trans hx105_0
                replace hx105_1 := (HB.out.cell (World.block_lt_of_cell? w _ hx105_1)).trans hx105_1
                replace hx105_2 := (HB.out.cell (World.block_lt_of_cell? w _ hx105_2)).trans hx105_2
                replace hx105_3 := (HB.out.cell (World.block_lt_of_cell? w _ hx105_3)).trans hx105_3
                replace hx105_4 := (HB.out.cell (World.block_lt_of_cell? w _ hx105_4)).trans hx105_4
                replace p105 := eq_true p105
                replace q105 := eq_true q105
                have p106 : 0 ≤ (x3_1 : Int) := DT
                have q106 : x3_1 < (l0.length : Int) := DT
                obtain ⟨ad106, e106, hx106_0, hx106_1, hx106_2, hx106_3, hx106_4⟩ := at_T31 HR0.out x3_1 p106 q106
                have hw106_4 := hx106_4
                have hw106_3 := hx106_3
                have hw106_2 := hx106_2
                have hw106_1 := hx106_1
                have hw106_0 := hx106_0
                obtain rfl : ad102 = ad106 := (by injection e106)
                replace hx106_0 := (HB.out.cell (World.block_lt_of_cell? w _ hx106_0)).trans hx106_0
                replace hx106_1 := (HB.out.cell (World.block_lt_of_cell? w _ hx106_1)).trans hx106_1
                replace hx106_2 := (HB.out.cell (World.block_lt_of_cell? w _ hx106_2)).trans hx106_2
                replace hx106_3 := (HB.out.cell (World.block_lt_of_cell? w _ hx106_3)).trans hx106_3
                replace hx106_4 := (HB.out.cell (World.block_lt_of_cell? w _ hx106_4)).trans hx106_4
                replace p106 := eq_true p106
                replace q106 := eq_true q106
                refine start_ (n := 60) (S := fun w' => w'.cell? (ad102.add ((x3_1).toNat * 5)) = some (.int .i64 ((rd_T31 l0 x3_1).f0)) ∧ w'.cell? ⟨(ad102.add ((x3_1).toNat * 5)).block, (ad102.add ((x3_1).toNat * 5)).off + 1, none⟩ = some (.int .i64 ((rd_T31 l0 x3_1).f1)) ∧ w'.cell? ⟨(ad102.add ((x3_1).toNat * 5)).block, (ad102.add ((x3_1).toNat * 5)).off + 2, none⟩ = some (.int .i64 ((rd_T31 l0 x3_1).f2)) ∧ w'.cell? ⟨(ad102.add ((x3_1).toNat * 5)).block, (ad102.add ((x3_1).toNat * 5)).off + 3, none⟩ = some (.int .i64 ((rd_T31 l0 x3_1).f3)) ∧ w'.cell? ⟨(ad102.add ((x3_1).toNat * 5)).block, (ad102.add ((x3_1).toNat * 5)).off + 4, none⟩ = some (.int .i64 ((rd_T31 l0 x3_1).f4)) ∧ w'.cell? (ad102.add (((ji7)).toNat * 5)) = some (.int .i64 ((rd_T31 l0 (ji7)).f0)) ∧ w'.cell? ⟨(ad102.add (((ji7)).toNat * 5)).block, (ad102.add (((ji7)).toNat * 5)).off + 1, none⟩ = some (.int .i64 ((rd_T31 l0 (ji7)).f1)) ∧ w'.cell? ⟨(ad102.add (((ji7)).toNat * 5)).block, (ad102.add (((ji7)).toNat * 5)).off + 2, none⟩ = some (.int .i64 ((rd_T31 l0 (ji7)).f2)) ∧ w'.cell? ⟨(ad102.add (((ji7)).toNat * 5)).block, (ad102.add (((ji7)).toNat * 5)).off + 3, none⟩ = some (.int .i64 ((rd_T31 l0 (ji7)).f3)) ∧ w'.cell? ⟨(ad102.add (((ji7)).toNat * 5)).block, (ad102.add (((ji7)).toNat * 5)).off + 4, none⟩ = some (.int .i64 ((rd_T31 l0 (ji7)).f4)) ∧ w'.cell? (ad102.add ((x3_1).toNat * 5)) = some (.int .i64 ((rd_T31 l0 x3_1).f0)) ∧ w'.cell? ⟨(ad102.add ((x3_1).toNat * 5)).block, (ad102.add ((x3_1).toNat * 5)).off + 1, none⟩ = some (.int .i64 ((rd_T31 l0 x3_1).f1)) ∧ w'.cell? ⟨(ad102.add ((x3_1).toNat * 5)).block, (ad102.add ((x3_1).toNat * 5)).off + 2, none⟩ = some (.int .i64 ((rd_T31 l0 x3_1).f2)) ∧ w'.cell? ⟨(ad102.add ((x3_1).toNat * 5)).block, (ad102.add ((x3_1).toNat * 5)).off + 3, none⟩ = some (.int .i64 ((rd_T31 l0 x3_1).f3)) ∧ w'.cell? ⟨(ad102.add ((x3_1).toNat * 5)).block, (ad102.add ((x3_1).toNat * 5)).off + 4, none⟩ = some (.int .i64 ((rd_T31 l0 x3_1).f4)) ∧ w'.cell? (ad102.add ((x3_1).toNat * 5)) = some (.int .i64 ((rd_T31 l0 x3_1).f0)) ∧ w'.cell? ⟨(ad102.add ((x3_1).toNat * 5)).block, (ad102.add ((x3_1).toNat * 5)).off + 1, none⟩ = some (.int .i64 ((rd_T31 l0 x3_1).f1)) ∧ w'.cell? ⟨(ad102.add ((x3_1).toNat * 5)).block, (ad102.add ((x3_1).toNat * 5)).off + 2, none⟩ = some (.int .i64 ((rd_T31 l0 x3_1).f2)) ∧ w'.cell? ⟨(ad102.add ((x3_1).toNat * 5)).block, (ad102.add ((x3_1).toNat * 5)).off + 3, none⟩ = some (.int .i64 ((rd_T31 l0 x3_1).f3)) ∧ w'.cell? ⟨(ad102.add ((x3_1).toNat * 5)).block, (ad102.add ((x3_1).toNat * 5)).off + 4, none⟩ = some (.int .i64 ((rd_T31 l0 x3_1).f4))) (ds := []) (Array.replicate 60 false) (by kernel_rfl) rfl rfl ⟨((HB.out.cell (World.block_lt_of_cell? w _ hw102_0)).trans hw102_0), ((HB.out.cell (World.block_lt_of_cell? w _ hw102_1)).trans hw102_1), ((HB.out.cell (World.block_lt_of_cell? w _ hw102_2)).trans hw102_2), ((HB.out.cell (World.block_lt_of_cell? w _ hw102_3)).trans hw102_3), ((HB.out.cell (World.block_lt_of_cell? w _ hw102_4)).trans hw102_4), ((HB.out.cell (World.block_lt_of_cell? w _ hw104_0)).trans hw104_0), ((HB.out.cell (World.block_lt_of_cell? w _ hw104_1)).trans hw104_1), ((HB.out.cell (World.block_lt_of_cell? w _ hw104_2)).trans hw104_2), ((HB.out.cell (World.block_lt_of_cell? w _ hw104_3)).trans hw104_3), ((HB.out.cell (World.block_lt_of_cell? w _ hw104_4)).trans hw104_4), ((HB.out.cell (World.block_lt_of_cell? w _ hw105_0)).trans hw105_0), ((HB.out.cell (World.block_lt_of_cell? w _ hw105_1)).trans hw105_1), ((HB.out.cell (World.block_lt_of_cell? w _ hw105_2)).trans hw105_2), ((HB.out.cell (World.block_lt_of_cell? w _ hw105_3)).trans hw105_3), ((HB.out.cell (World.block_lt_of_cell? w _ hw105_4)).trans hw105_4), ((HB.out.cell (World.block_lt_of_cell? w _ hw106_0)).trans hw106_0), ((HB.out.cell (World.block_lt_of_cell? w _ hw106_1)).trans hw106_1), ((HB.out.cell (World.block_lt_of_cell? w _ hw106_2)).trans hw106_2), ((HB.out.cell (World.block_lt_of_cell? w _ hw106_3)).trans hw106_3), ((HB.out.cell (World.block_lt_of_cell? w _ hw106_4)).trans hw106_4)⟩ (fun hHeld => ?_); refine with_tabW spec_KidsOk.tab4 spec_KidsOk.bits4 (fun HT_ HW_ => ?_)
                generalize wr.drew = w23 at HB hx102_0 hx102_1 hx102_2 hx102_3 hx102_4 hx104_0 hx104_1 hx104_2 hx104_3 hx104_4 hx105_0 hx105_1 hx105_2 hx105_3 hx105_4 hx106_0 hx106_1 hx106_2 hx106_3 hx106_4 hHeld ⊢
                refine pP 0 (some 10) ?_
                refine pP 1 (some 11) ?_
                refine pP 2 (some 12) ?_
                refine pP 3 (some 13) ?_
                refine pT 4 (some 14) ?_
                refine pO 5 (some 15) (fun K hK => ?_)
                refine gG Try.func9 #[.int .i64 ((rd_T31 l0 x3_1).f0), .int .i64 0, .int .i64 6] ?_
                with_reducible refine (spec_l1In.calls ((rd_T31 l0 x3_1).f0) 0 6 true _ A4.out).mono ?_
                rintro e w' ⟨rfl, ⟨nd, rfl⟩⟩
                refine ⟨_, rfl, ?_⟩
                refine hK.out _ _ ⟨((HB.out.cell (World.block_lt_of_cell? w _ hw102_0)).trans hw102_0), ((HB.out.cell (World.block_lt_of_cell? w _ hw102_1)).trans hw102_1), ((HB.out.cell (World.block_lt_of_cell? w _ hw102_2)).trans hw102_2), ((HB.out.cell (World.block_lt_of_cell? w _ hw102_3)).trans hw102_3), ((HB.out.cell (World.block_lt_of_cell? w _ hw102_4)).trans hw102_4), ((HB.out.cell (World.block_lt_of_cell? w _ hw104_0)).trans hw104_0), ((HB.out.cell (World.block_lt_of_cell? w _ hw104_1)).trans hw104_1), ((HB.out.cell (World.block_lt_of_cell? w _ hw104_2)).trans hw104_2), ((HB.out.cell (World.block_lt_of_cell? w _ hw104_3)).trans hw104_3), ((HB.out.cell (World.block_lt_of_cell? w _ hw104_4)).trans hw104_4), ((HB.out.cell (World.block_lt_of_cell? w _ hw105_0)).trans hw105_0), ((HB.out.cell (World.block_lt_of_cell? w _ hw105_1)).trans hw105_1), ((HB.out.cell (World.block_lt_of_cell? w _ hw105_2)).trans hw105_2), ((HB.out.cell (World.block_lt_of_cell? w _ hw105_3)).trans hw105_3), ((HB.out.cell (World.block_lt_of_cell? w _ hw105_4)).trans hw105_4), ((HB.out.cell (World.block_lt_of_cell? w _ hw106_0)).trans hw106_0), ((HB.out.cell (World.block_lt_of_cell? w _ hw106_1)).trans hw106_1), ((HB.out.cell (World.block_lt_of_cell? w _ hw106_2)).trans hw106_2), ((HB.out.cell (World.block_lt_of_cell? w _ hw106_3)).trans hw106_3), ((HB.out.cell (World.block_lt_of_cell? w _ hw106_4)).trans hw106_4)⟩ (fun hHeld => ?_)
                clear hK K
                refine nR ?_
                refine pP 6 (some 16) ?_
                refine pP 7 (some 17) ?_
                refine pP 8 (some 18) ?_
                refine pP 9 (some 19) ?_
                refine pP 10 (some 20) ?_
                refine pP 11 (some 21) ?_
                refine pP 12 (some 22) ?_
                refine pP 13 (some 23) ?_
                refine pP 14 (some 24) ?_
                refine pP 15 (some 25) ?_
                refine pP 17 (some 27) ?_
                refine pP 18 (some 28) ?_
                refine pP 19 (some 29) ?_
                refine pP 20 (some 30) ?_
                refine pT 16 (some 26) ?_
                refine pT 21 (some 31) ?_
                refine pP 22 (some 32) ?_
                refine pP 23 (some 33) ?_
                refine pP 24 (some 34) ?_
                refine pP 25 (some 35) ?_
                refine pP 26 (some 36) ?_
                refine pP 27 (some 37) ?_
                refine pP 28 (some 38) ?_
                refine pP 29 (some 39) ?_
                refine pT 30 (some 40) ?_
                refine pO 31 (some 41) (fun K hK => ?_)
                refine gG Try.func10 #[.int .i64 ((rd_T31 l0 x3_1).f1)] ?_
                with_reducible refine (spec_SetOk.calls ((rd_T31 l0 x3_1).f1) false _ A12.out).mono ?_
                rintro e w' ⟨rfl, ⟨nd, rfl⟩⟩
                refine ⟨_, rfl, ?_⟩
                refine hK.out _ _ ⟨((HB.out.cell (World.block_lt_of_cell? w _ hw102_0)).trans hw102_0), ((HB.out.cell (World.block_lt_of_cell? w _ hw102_1)).trans hw102_1), ((HB.out.cell (World.block_lt_of_cell? w _ hw102_2)).trans hw102_2), ((HB.out.cell (World.block_lt_of_cell? w _ hw102_3)).trans hw102_3), ((HB.out.cell (World.block_lt_of_cell? w _ hw102_4)).trans hw102_4), ((HB.out.cell (World.block_lt_of_cell? w _ hw104_0)).trans hw104_0), ((HB.out.cell (World.block_lt_of_cell? w _ hw104_1)).trans hw104_1), ((HB.out.cell (World.block_lt_of_cell? w _ hw104_2)).trans hw104_2), ((HB.out.cell (World.block_lt_of_cell? w _ hw104_3)).trans hw104_3), ((HB.out.cell (World.block_lt_of_cell? w _ hw104_4)).trans hw104_4), ((HB.out.cell (World.block_lt_of_cell? w _ hw105_0)).trans hw105_0), ((HB.out.cell (World.block_lt_of_cell? w _ hw105_1)).trans hw105_1), ((HB.out.cell (World.block_lt_of_cell? w _ hw105_2)).trans hw105_2), ((HB.out.cell (World.block_lt_of_cell? w _ hw105_3)).trans hw105_3), ((HB.out.cell (World.block_lt_of_cell? w _ hw105_4)).trans hw105_4), ((HB.out.cell (World.block_lt_of_cell? w _ hw106_0)).trans hw106_0), ((HB.out.cell (World.block_lt_of_cell? w _ hw106_1)).trans hw106_1), ((HB.out.cell (World.block_lt_of_cell? w _ hw106_2)).trans hw106_2), ((HB.out.cell (World.block_lt_of_cell? w _ hw106_3)).trans hw106_3), ((HB.out.cell (World.block_lt_of_cell? w _ hw106_4)).trans hw106_4)⟩ (fun hHeld => ?_)
                clear hK K
                refine nR ?_
                refine pP 32 (some 42) ?_
                refine pP 33 (some 43) ?_
                refine pP 34 (some 44) ?_
                refine pX 35 (some 45) ?_
                refine pX 36 (some 46) ?_
                refine pX 37 (some 47) ?_
                refine pX 38 (some 48) ?_
                refine pX 39 (some 49) ?_
                refine pX 40 (some 50) ?_
                refine pX 41 (some 51) ?_
                refine pP 42 (some 52) ?_
                refine pP 43 (some 53) ?_
                refine pX 44 (some 54) ?_
                refine pX 45 (some 55) ?_
                refine pX 46 (some 56) ?_
                refine pX 47 (some 57) ?_
                refine pX 48 (some 58) ?_
                refine pX 49 (some 59) ?_
                refine pX 50 (some 60) ?_
                refine pP 51 (some 61) ?_
                refine pP 52 (some 62) ?_
                refine pX 53 (some 63) ?_
                refine pX 54 (some 64) ?_
                refine pX 55 (some 65) ?_
                refine pX 56 (some 66) ?_
                refine pX 57 (some 67) ?_
                refine pX 58 (some 68) ?_
                refine pP 59 (some 69) ?_
                refine done_ (done_of HT_.out (by kernel_rfl)) ?_
                try go_wp2
                go_ret
                exact ⟨by first | rfl | (simp [errW_none, errW_some] <;> rfl) | (simp only [← hji7]; first | rfl | (simp [errW_none, errW_some] <;> rfl)) | (simp [*, errW_none, errW_some] <;> rfl), TB⟩
          · rw [if_neg c6] at H
            have c6b0 : decide (0 < x3_1) = false := decide_eq_false c6
            clear c6
            replace H := bE H
            obtain ⟨t114, A24, H⟩ := H
            by_cases c25 : t114 = true
            · subst c25
              replace H := ifT H
              replace H := bE H
              obtain ⟨t116, A26, H⟩ := H
              by_cases c27 : t116 = true
              · subst c27
                replace H := ifT H
                replace H := bE H
                obtain ⟨t118, A28, H⟩ := H
                by_cases c29 : t118 = true
                · subst c29
                  replace H := ifT H
                  by_cases c30 : ((rd_T31 l0 x3_1).f3) < 0
                  · rw [if_pos c30] at H
                    have c30b0 : decide (((rd_T31 l0 x3_1).f3) < 0) = true := decide_eq_true c30
                    clear c30
                    obtain rfl := Option.some.inj H
                    try go_wp2
                    replace HB := aM (below_drew1 HB.out)
                    have p102 : 0 ≤ (x3_1 : Int) := DT
                    have q102 : x3_1 < (l0.length : Int) := DT
                    obtain ⟨ad102, e102, hx102_0, hx102_1, hx102_2, hx102_3, hx102_4⟩ := at_T31 HR0.out x3_1 p102 q102
                    have hw102_4 := hx102_4
                    have hw102_3 := hx102_3
                    have hw102_2 := hx102_2
                    have hw102_1 := hx102_1
                    have hw102_0 := hx102_0
                    cases e102
                    replace hx102_0 := (HB.out.cell (World.block_lt_of_cell? w _ hx102_0)).trans hx102_0
                    replace hx102_1 := (HB.out.cell (World.block_lt_of_cell? w _ hx102_1)).trans hx102_1
                    replace hx102_2 := (HB.out.cell (World.block_lt_of_cell? w _ hx102_2)).trans hx102_2
                    replace hx102_3 := (HB.out.cell (World.block_lt_of_cell? w _ hx102_3)).trans hx102_3
                    replace hx102_4 := (HB.out.cell (World.block_lt_of_cell? w _ hx102_4)).trans hx102_4
                    replace p102 := eq_true p102
                    replace q102 := eq_true q102
                    have p113 : 0 ≤ (x3_1 : Int) := DT
                    have q113 : x3_1 < (l0.length : Int) := DT
                    obtain ⟨ad113, e113, hx113_0, hx113_1, hx113_2, hx113_3, hx113_4⟩ := at_T31 HR0.out x3_1 p113 q113
                    have hw113_4 := hx113_4
                    have hw113_3 := hx113_3
                    have hw113_2 := hx113_2
                    have hw113_1 := hx113_1
                    have hw113_0 := hx113_0
                    obtain rfl : ad102 = ad113 := (by injection e113)
                    replace hx113_0 := (HB.out.cell (World.block_lt_of_cell? w _ hx113_0)).trans hx113_0
                    replace hx113_1 := (HB.out.cell (World.block_lt_of_cell? w _ hx113_1)).trans hx113_1
                    replace hx113_2 := (HB.out.cell (World.block_lt_of_cell? w _ hx113_2)).trans hx113_2
                    replace hx113_3 := (HB.out.cell (World.block_lt_of_cell? w _ hx113_3)).trans hx113_3
                    replace hx113_4 := (HB.out.cell (World.block_lt_of_cell? w _ hx113_4)).trans hx113_4
                    replace p113 := eq_true p113
                    replace q113 := eq_true q113
                    have p115 : 0 ≤ (x3_1 : Int) := DT
                    have q115 : x3_1 < (l0.length : Int) := DT
                    obtain ⟨ad115, e115, hx115_0, hx115_1, hx115_2, hx115_3, hx115_4⟩ := at_T31 HR0.out x3_1 p115 q115
                    have hw115_4 := hx115_4
                    have hw115_3 := hx115_3
                    have hw115_2 := hx115_2
                    have hw115_1 := hx115_1
                    have hw115_0 := hx115_0
                    obtain rfl : ad102 = ad115 := (by injection e115)
                    replace hx115_0 := (HB.out.cell (World.block_lt_of_cell? w _ hx115_0)).trans hx115_0
                    replace hx115_1 := (HB.out.cell (World.block_lt_of_cell? w _ hx115_1)).trans hx115_1
                    replace hx115_2 := (HB.out.cell (World.block_lt_of_cell? w _ hx115_2)).trans hx115_2
                    replace hx115_3 := (HB.out.cell (World.block_lt_of_cell? w _ hx115_3)).trans hx115_3
                    replace hx115_4 := (HB.out.cell (World.block_lt_of_cell? w _ hx115_4)).trans hx115_4
                    replace p115 := eq_true p115
                    replace q115 := eq_true q115
                    have p117 : 0 ≤ (x3_1 : Int) := DT
                    have q117 : x3_1 < (l0.length : Int) := DT
                    obtain ⟨ad117, e117, hx117_0, hx117_1, hx117_2, hx117_3, hx117_4⟩ := at_T31 HR0.out x3_1 p117 q117
                    have hw117_4 := hx117_4
                    have hw117_3 := hx117_3
                    have hw117_2 := hx117_2
                    have hw117_1 := hx117_1
                    have hw117_0 := hx117_0
                    obtain rfl : ad102 = ad117 := (by injection e117)
                    replace hx117_0 := (HB.out.cell (World.block_lt_of_cell? w _ hx117_0)).trans hx117_0
                    replace hx117_1 := (HB.out.cell (World.block_lt_of_cell? w _ hx117_1)).trans hx117_1
                    replace hx117_2 := (HB.out.cell (World.block_lt_of_cell? w _ hx117_2)).trans hx117_2
                    replace hx117_3 := (HB.out.cell (World.block_lt_of_cell? w _ hx117_3)).trans hx117_3
                    replace hx117_4 := (HB.out.cell (World.block_lt_of_cell? w _ hx117_4)).trans hx117_4
                    replace p117 := eq_true p117
                    replace q117 := eq_true q117
                    have p119 : 0 ≤ (x3_1 : Int) := DT
                    have q119 : x3_1 < (l0.length : Int) := DT
                    obtain ⟨ad119, e119, hx119_0, hx119_1, hx119_2, hx119_3, hx119_4⟩ := at_T31 HR0.out x3_1 p119 q119
                    have hw119_4 := hx119_4
                    have hw119_3 := hx119_3
                    have hw119_2 := hx119_2
                    have hw119_1 := hx119_1
                    have hw119_0 := hx119_0
                    obtain rfl : ad102 = ad119 := (by injection e119)
                    replace hx119_0 := (HB.out.cell (World.block_lt_of_cell? w _ hx119_0)).trans hx119_0
                    replace hx119_1 := (HB.out.cell (World.block_lt_of_cell? w _ hx119_1)).trans hx119_1
                    replace hx119_2 := (HB.out.cell (World.block_lt_of_cell? w _ hx119_2)).trans hx119_2
                    replace hx119_3 := (HB.out.cell (World.block_lt_of_cell? w _ hx119_3)).trans hx119_3
                    replace hx119_4 := (HB.out.cell (World.block_lt_of_cell? w _ hx119_4)).trans hx119_4
                    replace p119 := eq_true p119
                    replace q119 := eq_true q119
                    refine start_ (n := 60) (S := fun w' => w'.cell? (ad102.add ((x3_1).toNat * 5)) = some (.int .i64 ((rd_T31 l0 x3_1).f0)) ∧ w'.cell? ⟨(ad102.add ((x3_1).toNat * 5)).block, (ad102.add ((x3_1).toNat * 5)).off + 1, none⟩ = some (.int .i64 ((rd_T31 l0 x3_1).f1)) ∧ w'.cell? ⟨(ad102.add ((x3_1).toNat * 5)).block, (ad102.add ((x3_1).toNat * 5)).off + 2, none⟩ = some (.int .i64 ((rd_T31 l0 x3_1).f2)) ∧ w'.cell? ⟨(ad102.add ((x3_1).toNat * 5)).block, (ad102.add ((x3_1).toNat * 5)).off + 3, none⟩ = some (.int .i64 ((rd_T31 l0 x3_1).f3)) ∧ w'.cell? ⟨(ad102.add ((x3_1).toNat * 5)).block, (ad102.add ((x3_1).toNat * 5)).off + 4, none⟩ = some (.int .i64 ((rd_T31 l0 x3_1).f4)) ∧ w'.cell? (ad102.add ((x3_1).toNat * 5)) = some (.int .i64 ((rd_T31 l0 x3_1).f0)) ∧ w'.cell? ⟨(ad102.add ((x3_1).toNat * 5)).block, (ad102.add ((x3_1).toNat * 5)).off + 1, none⟩ = some (.int .i64 ((rd_T31 l0 x3_1).f1)) ∧ w'.cell? ⟨(ad102.add ((x3_1).toNat * 5)).block, (ad102.add ((x3_1).toNat * 5)).off + 2, none⟩ = some (.int .i64 ((rd_T31 l0 x3_1).f2)) ∧ w'.cell? ⟨(ad102.add ((x3_1).toNat * 5)).block, (ad102.add ((x3_1).toNat * 5)).off + 3, none⟩ = some (.int .i64 ((rd_T31 l0 x3_1).f3)) ∧ w'.cell? ⟨(ad102.add ((x3_1).toNat * 5)).block, (ad102.add ((x3_1).toNat * 5)).off + 4, none⟩ = some (.int .i64 ((rd_T31 l0 x3_1).f4)) ∧ w'.cell? (ad102.add ((x3_1).toNat * 5)) = some (.int .i64 ((rd_T31 l0 x3_1).f0)) ∧ w'.cell? ⟨(ad102.add ((x3_1).toNat * 5)).block, (ad102.add ((x3_1).toNat * 5)).off + 1, none⟩ = some (.int .i64 ((rd_T31 l0 x3_1).f1)) ∧ w'.cell? ⟨(ad102.add ((x3_1).toNat * 5)).block, (ad102.add ((x3_1).toNat * 5)).off + 2, none⟩ = some (.int .i64 ((rd_T31 l0 x3_1).f2)) ∧ w'.cell? ⟨(ad102.add ((x3_1).toNat * 5)).block, (ad102.add ((x3_1).toNat * 5)).off + 3, none⟩ = some (.int .i64 ((rd_T31 l0 x3_1).f3)) ∧ w'.cell? ⟨(ad102.add ((x3_1).toNat * 5)).block, (ad102.add ((x3_1).toNat * 5)).off + 4, none⟩ = some (.int .i64 ((rd_T31 l0 x3_1).f4)) ∧ w'.cell? (ad102.add ((x3_1).toNat * 5)) = some (.int .i64 ((rd_T31 l0 x3_1).f0)) ∧ w'.cell? ⟨(ad102.add ((x3_1).toNat * 5)).block, (ad102.add ((x3_1).toNat * 5)).off + 1, none⟩ = some (.int .i64 ((rd_T31 l0 x3_1).f1)) ∧ w'.cell? ⟨(ad102.add ((x3_1).toNat * 5)).block, (ad102.add ((x3_1).toNat * 5)).off + 2, none⟩ = some (.int .i64 ((rd_T31 l0 x3_1).f2)) ∧ w'.cell? ⟨(ad102.add ((x3_1).toNat * 5)).block, (ad102.add ((x3_1).toNat * 5)).off + 3, none⟩ = some (.int .i64 ((rd_T31 l0 x3_1).f3)) ∧ w'.cell? ⟨(ad102.add ((x3_1).toNat * 5)).block, (ad102.add ((x3_1).toNat * 5)).off + 4, none⟩ = some (.int .i64 ((rd_T31 l0 x3_1).f4)) ∧ w'.cell? (ad102.add ((x3_1).toNat * 5)) = some (.int .i64 ((rd_T31 l0 x3_1).f0)) ∧ w'.cell? ⟨(ad102.add ((x3_1).toNat * 5)).block, (ad102.add ((x3_1).toNat * 5)).off + 1, none⟩ = some (.int .i64 ((rd_T31 l0 x3_1).f1)) ∧ w'.cell? ⟨(ad102.add ((x3_1).toNat * 5)).block, (ad102.add ((x3_1).toNat * 5)).off + 2, none⟩ = some (.int .i64 ((rd_T31 l0 x3_1).f2)) ∧ w'.cell? ⟨(ad102.add ((x3_1).toNat * 5)).block, (ad102.add ((x3_1).toNat * 5)).off + 3, none⟩ = some (.int .i64 ((rd_T31 l0 x3_1).f3)) ∧ w'.cell? ⟨(ad102.add ((x3_1).toNat * 5)).block, (ad102.add ((x3_1).toNat * 5)).off + 4, none⟩ = some (.int .i64 ((rd_T31 l0 x3_1).f4))) (ds := []) (Array.replicate 60 false) (by kernel_rfl) rfl rfl ⟨((HB.out.cell (World.block_lt_of_cell? w _ hw102_0)).trans hw102_0), ((HB.out.cell (World.block_lt_of_cell? w _ hw102_1)).trans hw102_1), ((HB.out.cell (World.block_lt_of_cell? w _ hw102_2)).trans hw102_2), ((HB.out.cell (World.block_lt_of_cell? w _ hw102_3)).trans hw102_3), ((HB.out.cell (World.block_lt_of_cell? w _ hw102_4)).trans hw102_4), ((HB.out.cell (World.block_lt_of_cell? w _ hw113_0)).trans hw113_0), ((HB.out.cell (World.block_lt_of_cell? w _ hw113_1)).trans hw113_1), ((HB.out.cell (World.block_lt_of_cell? w _ hw113_2)).trans hw113_2), ((HB.out.cell (World.block_lt_of_cell? w _ hw113_3)).trans hw113_3), ((HB.out.cell (World.block_lt_of_cell? w _ hw113_4)).trans hw113_4), ((HB.out.cell (World.block_lt_of_cell? w _ hw115_0)).trans hw115_0), ((HB.out.cell (World.block_lt_of_cell? w _ hw115_1)).trans hw115_1), ((HB.out.cell (World.block_lt_of_cell? w _ hw115_2)).trans hw115_2), ((HB.out.cell (World.block_lt_of_cell? w _ hw115_3)).trans hw115_3), ((HB.out.cell (World.block_lt_of_cell? w _ hw115_4)).trans hw115_4), ((HB.out.cell (World.block_lt_of_cell? w _ hw117_0)).trans hw117_0), ((HB.out.cell (World.block_lt_of_cell? w _ hw117_1)).trans hw117_1), ((HB.out.cell (World.block_lt_of_cell? w _ hw117_2)).trans hw117_2), ((HB.out.cell (World.block_lt_of_cell? w _ hw117_3)).trans hw117_3), ((HB.out.cell (World.block_lt_of_cell? w _ hw117_4)).trans hw117_4), ((HB.out.cell (World.block_lt_of_cell? w _ hw119_0)).trans hw119_0), ((HB.out.cell (World.block_lt_of_cell? w _ hw119_1)).trans hw119_1), ((HB.out.cell (World.block_lt_of_cell? w _ hw119_2)).trans hw119_2), ((HB.out.cell (World.block_lt_of_cell? w _ hw119_3)).trans hw119_3), ((HB.out.cell (World.block_lt_of_cell? w _ hw119_4)).trans hw119_4)⟩ (fun hHeld => ?_); refine with_tabW spec_KidsOk.tab4 spec_KidsOk.bits4 (fun HT_ HW_ => ?_)
                    generalize wr.drew = w31 at HB hx102_0 hx102_1 hx102_2 hx102_3 hx102_4 hx113_0 hx113_1 hx113_2 hx113_3 hx113_4 hx115_0 hx115_1 hx115_2 hx115_3 hx115_4 hx117_0 hx117_1 hx117_2 hx117_3 hx117_4 hx119_0 hx119_1 hx119_2 hx119_3 hx119_4 hHeld ⊢
                    refine pP 0 (some 10) ?_
                    refine pP 1 (some 11) ?_
                    refine pP 2 (some 12) ?_
                    refine pP 3 (some 13) ?_
                    refine pT 4 (some 14) ?_
                    refine pO 5 (some 15) (fun K hK => ?_)
                    refine gG Try.func9 #[.int .i64 ((rd_T31 l0 x3_1).f0), .int .i64 0, .int .i64 6] ?_
                    with_reducible refine (spec_l1In.calls ((rd_T31 l0 x3_1).f0) 0 6 true _ A4.out).mono ?_
                    rintro e w' ⟨rfl, ⟨nd, rfl⟩⟩
                    refine ⟨_, rfl, ?_⟩
                    refine hK.out _ _ ⟨((HB.out.cell (World.block_lt_of_cell? w _ hw102_0)).trans hw102_0), ((HB.out.cell (World.block_lt_of_cell? w _ hw102_1)).trans hw102_1), ((HB.out.cell (World.block_lt_of_cell? w _ hw102_2)).trans hw102_2), ((HB.out.cell (World.block_lt_of_cell? w _ hw102_3)).trans hw102_3), ((HB.out.cell (World.block_lt_of_cell? w _ hw102_4)).trans hw102_4), ((HB.out.cell (World.block_lt_of_cell? w _ hw113_0)).trans hw113_0), ((HB.out.cell (World.block_lt_of_cell? w _ hw113_1)).trans hw113_1), ((HB.out.cell (World.block_lt_of_cell? w _ hw113_2)).trans hw113_2), ((HB.out.cell (World.block_lt_of_cell? w _ hw113_3)).trans hw113_3), ((HB.out.cell (World.block_lt_of_cell? w _ hw113_4)).trans hw113_4), ((HB.out.cell (World.block_lt_of_cell? w _ hw115_0)).trans hw115_0), ((HB.out.cell (World.block_lt_of_cell? w _ hw115_1)).trans hw115_1), ((HB.out.cell (World.block_lt_of_cell? w _ hw115_2)).trans hw115_2), ((HB.out.cell (World.block_lt_of_cell? w _ hw115_3)).trans hw115_3), ((HB.out.cell (World.block_lt_of_cell? w _ hw115_4)).trans hw115_4), ((HB.out.cell (World.block_lt_of_cell? w _ hw117_0)).trans hw117_0), ((HB.out.cell (World.block_lt_of_cell? w _ hw117_1)).trans hw117_1), ((HB.out.cell (World.block_lt_of_cell? w _ hw117_2)).trans hw117_2), ((HB.out.cell (World.block_lt_of_cell? w _ hw117_3)).trans hw117_3), ((HB.out.cell (World.block_lt_of_cell? w _ hw117_4)).trans hw117_4), ((HB.out.cell (World.block_lt_of_cell? w _ hw119_0)).trans hw119_0), ((HB.out.cell (World.block_lt_of_cell? w _ hw119_1)).trans hw119_1), ((HB.out.cell (World.block_lt_of_cell? w _ hw119_2)).trans hw119_2), ((HB.out.cell (World.block_lt_of_cell? w _ hw119_3)).trans hw119_3), ((HB.out.cell (World.block_lt_of_cell? w _ hw119_4)).trans hw119_4)⟩ (fun hHeld => ?_)
                    clear hK K
                    refine nR ?_
                    refine pP 6 (some 16) ?_
                    refine pP 7 (some 17) ?_
                    refine pP 8 (some 18) ?_
                    refine pP 9 (some 19) ?_
                    refine pP 10 (some 20) ?_
                    refine pX 11 (some 21) ?_
                    refine pX 12 (some 22) ?_
                    refine pX 13 (some 23) ?_
                    refine pX 14 (some 24) ?_
                    refine pX 15 (some 25) ?_
                    refine pX 16 (some 26) ?_
                    refine pX 17 (some 27) ?_
                    refine pX 18 (some 28) ?_
                    refine pX 19 (some 29) ?_
                    refine pX 20 (some 30) ?_
                    refine pX 21 (some 31) ?_
                    refine pX 22 (some 32) ?_
                    refine pP 23 (some 33) ?_
                    refine pP 24 (some 34) ?_
                    refine pP 25 (some 35) ?_
                    refine pP 26 (some 36) ?_
                    refine pP 27 (some 37) ?_
                    refine pP 28 (some 38) ?_
                    refine pP 29 (some 39) ?_
                    refine pT 30 (some 40) ?_
                    refine pO 31 (some 41) (fun K hK => ?_)
                    refine gG Try.func10 #[.int .i64 ((rd_T31 l0 x3_1).f1)] ?_
                    with_reducible refine (spec_SetOk.calls ((rd_T31 l0 x3_1).f1) true _ A24.out).mono ?_
                    rintro e w' ⟨rfl, ⟨nd, rfl⟩⟩
                    refine ⟨_, rfl, ?_⟩
                    refine hK.out _ _ ⟨((HB.out.cell (World.block_lt_of_cell? w _ hw102_0)).trans hw102_0), ((HB.out.cell (World.block_lt_of_cell? w _ hw102_1)).trans hw102_1), ((HB.out.cell (World.block_lt_of_cell? w _ hw102_2)).trans hw102_2), ((HB.out.cell (World.block_lt_of_cell? w _ hw102_3)).trans hw102_3), ((HB.out.cell (World.block_lt_of_cell? w _ hw102_4)).trans hw102_4), ((HB.out.cell (World.block_lt_of_cell? w _ hw113_0)).trans hw113_0), ((HB.out.cell (World.block_lt_of_cell? w _ hw113_1)).trans hw113_1), ((HB.out.cell (World.block_lt_of_cell? w _ hw113_2)).trans hw113_2), ((HB.out.cell (World.block_lt_of_cell? w _ hw113_3)).trans hw113_3), ((HB.out.cell (World.block_lt_of_cell? w _ hw113_4)).trans hw113_4), ((HB.out.cell (World.block_lt_of_cell? w _ hw115_0)).trans hw115_0), ((HB.out.cell (World.block_lt_of_cell? w _ hw115_1)).trans hw115_1), ((HB.out.cell (World.block_lt_of_cell? w _ hw115_2)).trans hw115_2), ((HB.out.cell (World.block_lt_of_cell? w _ hw115_3)).trans hw115_3), ((HB.out.cell (World.block_lt_of_cell? w _ hw115_4)).trans hw115_4), ((HB.out.cell (World.block_lt_of_cell? w _ hw117_0)).trans hw117_0), ((HB.out.cell (World.block_lt_of_cell? w _ hw117_1)).trans hw117_1), ((HB.out.cell (World.block_lt_of_cell? w _ hw117_2)).trans hw117_2), ((HB.out.cell (World.block_lt_of_cell? w _ hw117_3)).trans hw117_3), ((HB.out.cell (World.block_lt_of_cell? w _ hw117_4)).trans hw117_4), ((HB.out.cell (World.block_lt_of_cell? w _ hw119_0)).trans hw119_0), ((HB.out.cell (World.block_lt_of_cell? w _ hw119_1)).trans hw119_1), ((HB.out.cell (World.block_lt_of_cell? w _ hw119_2)).trans hw119_2), ((HB.out.cell (World.block_lt_of_cell? w _ hw119_3)).trans hw119_3), ((HB.out.cell (World.block_lt_of_cell? w _ hw119_4)).trans hw119_4)⟩ (fun hHeld => ?_)
                    clear hK K
                    refine nR ?_
                    refine pP 32 (some 42) ?_
                    refine pP 33 (some 43) ?_
                    refine pP 34 (some 44) ?_
                    refine pP 35 (some 45) ?_
                    refine pP 36 (some 46) ?_
                    refine pP 37 (some 47) ?_
                    refine pP 38 (some 48) ?_
                    refine pT 39 (some 49) ?_
                    refine pO 40 (some 50) (fun K hK => ?_)
                    refine gG Try.func10 #[.int .i64 ((rd_T31 l0 x3_1).f2)] ?_
                    with_reducible refine (spec_SetOk.calls ((rd_T31 l0 x3_1).f2) true _ A26.out).mono ?_
                    rintro e w' ⟨rfl, ⟨nd, rfl⟩⟩
                    refine ⟨_, rfl, ?_⟩
                    refine hK.out _ _ ⟨((HB.out.cell (World.block_lt_of_cell? w _ hw102_0)).trans hw102_0), ((HB.out.cell (World.block_lt_of_cell? w _ hw102_1)).trans hw102_1), ((HB.out.cell (World.block_lt_of_cell? w _ hw102_2)).trans hw102_2), ((HB.out.cell (World.block_lt_of_cell? w _ hw102_3)).trans hw102_3), ((HB.out.cell (World.block_lt_of_cell? w _ hw102_4)).trans hw102_4), ((HB.out.cell (World.block_lt_of_cell? w _ hw113_0)).trans hw113_0), ((HB.out.cell (World.block_lt_of_cell? w _ hw113_1)).trans hw113_1), ((HB.out.cell (World.block_lt_of_cell? w _ hw113_2)).trans hw113_2), ((HB.out.cell (World.block_lt_of_cell? w _ hw113_3)).trans hw113_3), ((HB.out.cell (World.block_lt_of_cell? w _ hw113_4)).trans hw113_4), ((HB.out.cell (World.block_lt_of_cell? w _ hw115_0)).trans hw115_0), ((HB.out.cell (World.block_lt_of_cell? w _ hw115_1)).trans hw115_1), ((HB.out.cell (World.block_lt_of_cell? w _ hw115_2)).trans hw115_2), ((HB.out.cell (World.block_lt_of_cell? w _ hw115_3)).trans hw115_3), ((HB.out.cell (World.block_lt_of_cell? w _ hw115_4)).trans hw115_4), ((HB.out.cell (World.block_lt_of_cell? w _ hw117_0)).trans hw117_0), ((HB.out.cell (World.block_lt_of_cell? w _ hw117_1)).trans hw117_1), ((HB.out.cell (World.block_lt_of_cell? w _ hw117_2)).trans hw117_2), ((HB.out.cell (World.block_lt_of_cell? w _ hw117_3)).trans hw117_3), ((HB.out.cell (World.block_lt_of_cell? w _ hw117_4)).trans hw117_4), ((HB.out.cell (World.block_lt_of_cell? w _ hw119_0)).trans hw119_0), ((HB.out.cell (World.block_lt_of_cell? w _ hw119_1)).trans hw119_1), ((HB.out.cell (World.block_lt_of_cell? w _ hw119_2)).trans hw119_2), ((HB.out.cell (World.block_lt_of_cell? w _ hw119_3)).trans hw119_3), ((HB.out.cell (World.block_lt_of_cell? w _ hw119_4)).trans hw119_4)⟩ (fun hHeld => ?_)
                    clear hK K
                    refine nR ?_
                    refine pP 41 (some 51) ?_
                    refine pP 42 (some 52) ?_
                    refine pP 43 (some 53) ?_
                    refine pP 44 (some 54) ?_
                    refine pP 45 (some 55) ?_
                    refine pP 46 (some 56) ?_
                    refine pP 47 (some 57) ?_
                    refine pT 48 (some 58) ?_
                    refine pO 49 (some 59) (fun K hK => ?_)
                    refine gG Try.func10 #[.int .i64 ((rd_T31 l0 x3_1).f4)] ?_
                    with_reducible refine (spec_SetOk.calls ((rd_T31 l0 x3_1).f4) true _ A28.out).mono ?_
                    rintro e w' ⟨rfl, ⟨nd, rfl⟩⟩
                    refine ⟨_, rfl, ?_⟩
                    refine hK.out _ _ ⟨((HB.out.cell (World.block_lt_of_cell? w _ hw102_0)).trans hw102_0), ((HB.out.cell (World.block_lt_of_cell? w _ hw102_1)).trans hw102_1), ((HB.out.cell (World.block_lt_of_cell? w _ hw102_2)).trans hw102_2), ((HB.out.cell (World.block_lt_of_cell? w _ hw102_3)).trans hw102_3), ((HB.out.cell (World.block_lt_of_cell? w _ hw102_4)).trans hw102_4), ((HB.out.cell (World.block_lt_of_cell? w _ hw113_0)).trans hw113_0), ((HB.out.cell (World.block_lt_of_cell? w _ hw113_1)).trans hw113_1), ((HB.out.cell (World.block_lt_of_cell? w _ hw113_2)).trans hw113_2), ((HB.out.cell (World.block_lt_of_cell? w _ hw113_3)).trans hw113_3), ((HB.out.cell (World.block_lt_of_cell? w _ hw113_4)).trans hw113_4), ((HB.out.cell (World.block_lt_of_cell? w _ hw115_0)).trans hw115_0), ((HB.out.cell (World.block_lt_of_cell? w _ hw115_1)).trans hw115_1), ((HB.out.cell (World.block_lt_of_cell? w _ hw115_2)).trans hw115_2), ((HB.out.cell (World.block_lt_of_cell? w _ hw115_3)).trans hw115_3), ((HB.out.cell (World.block_lt_of_cell? w _ hw115_4)).trans hw115_4), ((HB.out.cell (World.block_lt_of_cell? w _ hw117_0)).trans hw117_0), ((HB.out.cell (World.block_lt_of_cell? w _ hw117_1)).trans hw117_1), ((HB.out.cell (World.block_lt_of_cell? w _ hw117_2)).trans hw117_2), ((HB.out.cell (World.block_lt_of_cell? w _ hw117_3)).trans hw117_3), ((HB.out.cell (World.block_lt_of_cell? w _ hw117_4)).trans hw117_4), ((HB.out.cell (World.block_lt_of_cell? w _ hw119_0)).trans hw119_0), ((HB.out.cell (World.block_lt_of_cell? w _ hw119_1)).trans hw119_1), ((HB.out.cell (World.block_lt_of_cell? w _ hw119_2)).trans hw119_2), ((HB.out.cell (World.block_lt_of_cell? w _ hw119_3)).trans hw119_3), ((HB.out.cell (World.block_lt_of_cell? w _ hw119_4)).trans hw119_4)⟩ (fun hHeld => ?_)
                    clear hK K
                    refine nR ?_
                    refine pP 50 (some 60) ?_
                    refine pP 51 (some 61) ?_
                    refine pP 52 (some 62) ?_
                    refine pP 53 (some 63) ?_
                    refine pP 54 (some 64) ?_
                    refine pP 55 (some 65) ?_
                    refine pP 56 (some 66) ?_
                    refine pT 57 (some 67) ?_
                    refine pP 58 (some 68) ?_
                    refine pP 59 (some 69) ?_
                    refine done_ (done_of HT_.out (by kernel_rfl)) ?_
                    try go_wp2
                    go_ret
                    exact ⟨by first | rfl | (simp [errW_none, errW_some] <;> rfl) | (simp [*, errW_none, errW_some] <;> rfl), TB⟩
                  · rw [if_neg c30] at H
                    have c30b0 : decide (((rd_T31 l0 x3_1).f3) < 0) = false := decide_eq_false c30
                    clear c30
                    have H' := aM H
                    clear H
                    try go_wp2
                    replace HB := aM (below_drew1 HB.out)
                    have p102 : 0 ≤ (x3_1 : Int) := DT
                    have q102 : x3_1 < (l0.length : Int) := DT
                    obtain ⟨ad102, e102, hx102_0, hx102_1, hx102_2, hx102_3, hx102_4⟩ := at_T31 HR0.out x3_1 p102 q102
                    have hw102_4 := hx102_4
                    have hw102_3 := hx102_3
                    have hw102_2 := hx102_2
                    have hw102_1 := hx102_1
                    have hw102_0 := hx102_0
                    cases e102
                    replace hx102_0 := (HB.out.cell (World.block_lt_of_cell? w _ hx102_0)).trans hx102_0
                    replace hx102_1 := (HB.out.cell (World.block_lt_of_cell? w _ hx102_1)).trans hx102_1
                    replace hx102_2 := (HB.out.cell (World.block_lt_of_cell? w _ hx102_2)).trans hx102_2
                    replace hx102_3 := (HB.out.cell (World.block_lt_of_cell? w _ hx102_3)).trans hx102_3
                    replace hx102_4 := (HB.out.cell (World.block_lt_of_cell? w _ hx102_4)).trans hx102_4
                    replace p102 := eq_true p102
                    replace q102 := eq_true q102
                    have p113 : 0 ≤ (x3_1 : Int) := DT
                    have q113 : x3_1 < (l0.length : Int) := DT
                    obtain ⟨ad113, e113, hx113_0, hx113_1, hx113_2, hx113_3, hx113_4⟩ := at_T31 HR0.out x3_1 p113 q113
                    have hw113_4 := hx113_4
                    have hw113_3 := hx113_3
                    have hw113_2 := hx113_2
                    have hw113_1 := hx113_1
                    have hw113_0 := hx113_0
                    obtain rfl : ad102 = ad113 := (by injection e113)
                    replace hx113_0 := (HB.out.cell (World.block_lt_of_cell? w _ hx113_0)).trans hx113_0
                    replace hx113_1 := (HB.out.cell (World.block_lt_of_cell? w _ hx113_1)).trans hx113_1
                    replace hx113_2 := (HB.out.cell (World.block_lt_of_cell? w _ hx113_2)).trans hx113_2
                    replace hx113_3 := (HB.out.cell (World.block_lt_of_cell? w _ hx113_3)).trans hx113_3
                    replace hx113_4 := (HB.out.cell (World.block_lt_of_cell? w _ hx113_4)).trans hx113_4
                    replace p113 := eq_true p113
                    replace q113 := eq_true q113
                    have p115 : 0 ≤ (x3_1 : Int) := DT
                    have q115 : x3_1 < (l0.length : Int) := DT
                    obtain ⟨ad115, e115, hx115_0, hx115_1, hx115_2, hx115_3, hx115_4⟩ := at_T31 HR0.out x3_1 p115 q115
                    have hw115_4 := hx115_4
                    have hw115_3 := hx115_3
                    have hw115_2 := hx115_2
                    have hw115_1 := hx115_1
                    have hw115_0 := hx115_0
                    obtain rfl : ad102 = ad115 := (by injection e115)
                    replace hx115_0 := (HB.out.cell (World.block_lt_of_cell? w _ hx115_0)).trans hx115_0
                    replace hx115_1 := (HB.out.cell (World.block_lt_of_cell? w _ hx115_1)).trans hx115_1
                    replace hx115_2 := (HB.out.cell (World.block_lt_of_cell? w _ hx115_2)).trans hx115_2
                    replace hx115_3 := (HB.out.cell (World.block_lt_of_cell? w _ hx115_3)).trans hx115_3
                    replace hx115_4 := (HB.out.cell (World.block_lt_of_cell? w _ hx115_4)).trans hx115_4
                    replace p115 := eq_true p115
                    replace q115 := eq_true q115
                    have p117 : 0 ≤ (x3_1 : Int) := DT
                    have q117 : x3_1 < (l0.length : Int) := DT
                    obtain ⟨ad117, e117, hx117_0, hx117_1, hx117_2, hx117_3, hx117_4⟩ := at_T31 HR0.out x3_1 p117 q117
                    have hw117_4 := hx117_4
                    have hw117_3 := hx117_3
                    have hw117_2 := hx117_2
                    have hw117_1 := hx117_1
                    have hw117_0 := hx117_0
                    obtain rfl : ad102 = ad117 := (by injection e117)
                    replace hx117_0 := (HB.out.cell (World.block_lt_of_cell? w _ hx117_0)).trans hx117_0
                    replace hx117_1 := (HB.out.cell (World.block_lt_of_cell? w _ hx117_1)).trans hx117_1
                    replace hx117_2 := (HB.out.cell (World.block_lt_of_cell? w _ hx117_2)).trans hx117_2
                    replace hx117_3 := (HB.out.cell (World.block_lt_of_cell? w _ hx117_3)).trans hx117_3
                    replace hx117_4 := (HB.out.cell (World.block_lt_of_cell? w _ hx117_4)).trans hx117_4
                    replace p117 := eq_true p117
                    replace q117 := eq_true q117
                    have p119 : 0 ≤ (x3_1 : Int) := DT
                    have q119 : x3_1 < (l0.length : Int) := DT
                    obtain ⟨ad119, e119, hx119_0, hx119_1, hx119_2, hx119_3, hx119_4⟩ := at_T31 HR0.out x3_1 p119 q119
                    have hw119_4 := hx119_4
                    have hw119_3 := hx119_3
                    have hw119_2 := hx119_2
                    have hw119_1 := hx119_1
                    have hw119_0 := hx119_0
                    obtain rfl : ad102 = ad119 := (by injection e119)
                    replace hx119_0 := (HB.out.cell (World.block_lt_of_cell? w _ hx119_0)).trans hx119_0
                    replace hx119_1 := (HB.out.cell (World.block_lt_of_cell? w _ hx119_1)).trans hx119_1
                    replace hx119_2 := (HB.out.cell (World.block_lt_of_cell? w _ hx119_2)).trans hx119_2
                    replace hx119_3 := (HB.out.cell (World.block_lt_of_cell? w _ hx119_3)).trans hx119_3
                    replace hx119_4 := (HB.out.cell (World.block_lt_of_cell? w _ hx119_4)).trans hx119_4
                    replace p119 := eq_true p119
                    replace q119 := eq_true q119
                    refine start_ (n := 60) (S := fun w' => w'.cell? (ad102.add ((x3_1).toNat * 5)) = some (.int .i64 ((rd_T31 l0 x3_1).f0)) ∧ w'.cell? ⟨(ad102.add ((x3_1).toNat * 5)).block, (ad102.add ((x3_1).toNat * 5)).off + 1, none⟩ = some (.int .i64 ((rd_T31 l0 x3_1).f1)) ∧ w'.cell? ⟨(ad102.add ((x3_1).toNat * 5)).block, (ad102.add ((x3_1).toNat * 5)).off + 2, none⟩ = some (.int .i64 ((rd_T31 l0 x3_1).f2)) ∧ w'.cell? ⟨(ad102.add ((x3_1).toNat * 5)).block, (ad102.add ((x3_1).toNat * 5)).off + 3, none⟩ = some (.int .i64 ((rd_T31 l0 x3_1).f3)) ∧ w'.cell? ⟨(ad102.add ((x3_1).toNat * 5)).block, (ad102.add ((x3_1).toNat * 5)).off + 4, none⟩ = some (.int .i64 ((rd_T31 l0 x3_1).f4)) ∧ w'.cell? (ad102.add ((x3_1).toNat * 5)) = some (.int .i64 ((rd_T31 l0 x3_1).f0)) ∧ w'.cell? ⟨(ad102.add ((x3_1).toNat * 5)).block, (ad102.add ((x3_1).toNat * 5)).off + 1, none⟩ = some (.int .i64 ((rd_T31 l0 x3_1).f1)) ∧ w'.cell? ⟨(ad102.add ((x3_1).toNat * 5)).block, (ad102.add ((x3_1).toNat * 5)).off + 2, none⟩ = some (.int .i64 ((rd_T31 l0 x3_1).f2)) ∧ w'.cell? ⟨(ad102.add ((x3_1).toNat * 5)).block, (ad102.add ((x3_1).toNat * 5)).off + 3, none⟩ = some (.int .i64 ((rd_T31 l0 x3_1).f3)) ∧ w'.cell? ⟨(ad102.add ((x3_1).toNat * 5)).block, (ad102.add ((x3_1).toNat * 5)).off + 4, none⟩ = some (.int .i64 ((rd_T31 l0 x3_1).f4)) ∧ w'.cell? (ad102.add ((x3_1).toNat * 5)) = some (.int .i64 ((rd_T31 l0 x3_1).f0)) ∧ w'.cell? ⟨(ad102.add ((x3_1).toNat * 5)).block, (ad102.add ((x3_1).toNat * 5)).off + 1, none⟩ = some (.int .i64 ((rd_T31 l0 x3_1).f1)) ∧ w'.cell? ⟨(ad102.add ((x3_1).toNat * 5)).block, (ad102.add ((x3_1).toNat * 5)).off + 2, none⟩ = some (.int .i64 ((rd_T31 l0 x3_1).f2)) ∧ w'.cell? ⟨(ad102.add ((x3_1).toNat * 5)).block, (ad102.add ((x3_1).toNat * 5)).off + 3, none⟩ = some (.int .i64 ((rd_T31 l0 x3_1).f3)) ∧ w'.cell? ⟨(ad102.add ((x3_1).toNat * 5)).block, (ad102.add ((x3_1).toNat * 5)).off + 4, none⟩ = some (.int .i64 ((rd_T31 l0 x3_1).f4)) ∧ w'.cell? (ad102.add ((x3_1).toNat * 5)) = some (.int .i64 ((rd_T31 l0 x3_1).f0)) ∧ w'.cell? ⟨(ad102.add ((x3_1).toNat * 5)).block, (ad102.add ((x3_1).toNat * 5)).off + 1, none⟩ = some (.int .i64 ((rd_T31 l0 x3_1).f1)) ∧ w'.cell? ⟨(ad102.add ((x3_1).toNat * 5)).block, (ad102.add ((x3_1).toNat * 5)).off + 2, none⟩ = some (.int .i64 ((rd_T31 l0 x3_1).f2)) ∧ w'.cell? ⟨(ad102.add ((x3_1).toNat * 5)).block, (ad102.add ((x3_1).toNat * 5)).off + 3, none⟩ = some (.int .i64 ((rd_T31 l0 x3_1).f3)) ∧ w'.cell? ⟨(ad102.add ((x3_1).toNat * 5)).block, (ad102.add ((x3_1).toNat * 5)).off + 4, none⟩ = some (.int .i64 ((rd_T31 l0 x3_1).f4)) ∧ w'.cell? (ad102.add ((x3_1).toNat * 5)) = some (.int .i64 ((rd_T31 l0 x3_1).f0)) ∧ w'.cell? ⟨(ad102.add ((x3_1).toNat * 5)).block, (ad102.add ((x3_1).toNat * 5)).off + 1, none⟩ = some (.int .i64 ((rd_T31 l0 x3_1).f1)) ∧ w'.cell? ⟨(ad102.add ((x3_1).toNat * 5)).block, (ad102.add ((x3_1).toNat * 5)).off + 2, none⟩ = some (.int .i64 ((rd_T31 l0 x3_1).f2)) ∧ w'.cell? ⟨(ad102.add ((x3_1).toNat * 5)).block, (ad102.add ((x3_1).toNat * 5)).off + 3, none⟩ = some (.int .i64 ((rd_T31 l0 x3_1).f3)) ∧ w'.cell? ⟨(ad102.add ((x3_1).toNat * 5)).block, (ad102.add ((x3_1).toNat * 5)).off + 4, none⟩ = some (.int .i64 ((rd_T31 l0 x3_1).f4))) (ds := []) (Array.replicate 60 false) (by kernel_rfl) rfl rfl ⟨((HB.out.cell (World.block_lt_of_cell? w _ hw102_0)).trans hw102_0), ((HB.out.cell (World.block_lt_of_cell? w _ hw102_1)).trans hw102_1), ((HB.out.cell (World.block_lt_of_cell? w _ hw102_2)).trans hw102_2), ((HB.out.cell (World.block_lt_of_cell? w _ hw102_3)).trans hw102_3), ((HB.out.cell (World.block_lt_of_cell? w _ hw102_4)).trans hw102_4), ((HB.out.cell (World.block_lt_of_cell? w _ hw113_0)).trans hw113_0), ((HB.out.cell (World.block_lt_of_cell? w _ hw113_1)).trans hw113_1), ((HB.out.cell (World.block_lt_of_cell? w _ hw113_2)).trans hw113_2), ((HB.out.cell (World.block_lt_of_cell? w _ hw113_3)).trans hw113_3), ((HB.out.cell (World.block_lt_of_cell? w _ hw113_4)).trans hw113_4), ((HB.out.cell (World.block_lt_of_cell? w _ hw115_0)).trans hw115_0), ((HB.out.cell (World.block_lt_of_cell? w _ hw115_1)).trans hw115_1), ((HB.out.cell (World.block_lt_of_cell? w _ hw115_2)).trans hw115_2), ((HB.out.cell (World.block_lt_of_cell? w _ hw115_3)).trans hw115_3), ((HB.out.cell (World.block_lt_of_cell? w _ hw115_4)).trans hw115_4), ((HB.out.cell (World.block_lt_of_cell? w _ hw117_0)).trans hw117_0), ((HB.out.cell (World.block_lt_of_cell? w _ hw117_1)).trans hw117_1), ((HB.out.cell (World.block_lt_of_cell? w _ hw117_2)).trans hw117_2), ((HB.out.cell (World.block_lt_of_cell? w _ hw117_3)).trans hw117_3), ((HB.out.cell (World.block_lt_of_cell? w _ hw117_4)).trans hw117_4), ((HB.out.cell (World.block_lt_of_cell? w _ hw119_0)).trans hw119_0), ((HB.out.cell (World.block_lt_of_cell? w _ hw119_1)).trans hw119_1), ((HB.out.cell (World.block_lt_of_cell? w _ hw119_2)).trans hw119_2), ((HB.out.cell (World.block_lt_of_cell? w _ hw119_3)).trans hw119_3), ((HB.out.cell (World.block_lt_of_cell? w _ hw119_4)).trans hw119_4)⟩ (fun hHeld => ?_); refine with_tabW spec_KidsOk.tab4 spec_KidsOk.bits4 (fun HT_ HW_ => ?_)
                    generalize wr.drew = w32 at HB hx102_0 hx102_1 hx102_2 hx102_3 hx102_4 hx113_0 hx113_1 hx113_2 hx113_3 hx113_4 hx115_0 hx115_1 hx115_2 hx115_3 hx115_4 hx117_0 hx117_1 hx117_2 hx117_3 hx117_4 hx119_0 hx119_1 hx119_2 hx119_3 hx119_4 hHeld ⊢
                    refine pP 0 (some 10) ?_
                    refine pP 1 (some 11) ?_
                    refine pP 2 (some 12) ?_
                    refine pP 3 (some 13) ?_
                    refine pT 4 (some 14) ?_
                    refine pO 5 (some 15) (fun K hK => ?_)
                    refine gG Try.func9 #[.int .i64 ((rd_T31 l0 x3_1).f0), .int .i64 0, .int .i64 6] ?_
                    with_reducible refine (spec_l1In.calls ((rd_T31 l0 x3_1).f0) 0 6 true _ A4.out).mono ?_
                    rintro e w' ⟨rfl, ⟨nd, rfl⟩⟩
                    refine ⟨_, rfl, ?_⟩
                    refine hK.out _ _ ⟨((HB.out.cell (World.block_lt_of_cell? w _ hw102_0)).trans hw102_0), ((HB.out.cell (World.block_lt_of_cell? w _ hw102_1)).trans hw102_1), ((HB.out.cell (World.block_lt_of_cell? w _ hw102_2)).trans hw102_2), ((HB.out.cell (World.block_lt_of_cell? w _ hw102_3)).trans hw102_3), ((HB.out.cell (World.block_lt_of_cell? w _ hw102_4)).trans hw102_4), ((HB.out.cell (World.block_lt_of_cell? w _ hw113_0)).trans hw113_0), ((HB.out.cell (World.block_lt_of_cell? w _ hw113_1)).trans hw113_1), ((HB.out.cell (World.block_lt_of_cell? w _ hw113_2)).trans hw113_2), ((HB.out.cell (World.block_lt_of_cell? w _ hw113_3)).trans hw113_3), ((HB.out.cell (World.block_lt_of_cell? w _ hw113_4)).trans hw113_4), ((HB.out.cell (World.block_lt_of_cell? w _ hw115_0)).trans hw115_0), ((HB.out.cell (World.block_lt_of_cell? w _ hw115_1)).trans hw115_1), ((HB.out.cell (World.block_lt_of_cell? w _ hw115_2)).trans hw115_2), ((HB.out.cell (World.block_lt_of_cell? w _ hw115_3)).trans hw115_3), ((HB.out.cell (World.block_lt_of_cell? w _ hw115_4)).trans hw115_4), ((HB.out.cell (World.block_lt_of_cell? w _ hw117_0)).trans hw117_0), ((HB.out.cell (World.block_lt_of_cell? w _ hw117_1)).trans hw117_1), ((HB.out.cell (World.block_lt_of_cell? w _ hw117_2)).trans hw117_2), ((HB.out.cell (World.block_lt_of_cell? w _ hw117_3)).trans hw117_3), ((HB.out.cell (World.block_lt_of_cell? w _ hw117_4)).trans hw117_4), ((HB.out.cell (World.block_lt_of_cell? w _ hw119_0)).trans hw119_0), ((HB.out.cell (World.block_lt_of_cell? w _ hw119_1)).trans hw119_1), ((HB.out.cell (World.block_lt_of_cell? w _ hw119_2)).trans hw119_2), ((HB.out.cell (World.block_lt_of_cell? w _ hw119_3)).trans hw119_3), ((HB.out.cell (World.block_lt_of_cell? w _ hw119_4)).trans hw119_4)⟩ (fun hHeld => ?_)
                    clear hK K
                    refine nR ?_
                    refine pP 6 (some 16) ?_
                    refine pP 7 (some 17) ?_
                    refine pP 8 (some 18) ?_
                    refine pP 9 (some 19) ?_
                    refine pP 10 (some 20) ?_
                    refine pX 11 (some 21) ?_
                    refine pX 12 (some 22) ?_
                    refine pX 13 (some 23) ?_
                    refine pX 14 (some 24) ?_
                    refine pX 15 (some 25) ?_
                    refine pX 16 (some 26) ?_
                    refine pX 17 (some 27) ?_
                    refine pX 18 (some 28) ?_
                    refine pX 19 (some 29) ?_
                    refine pX 20 (some 30) ?_
                    refine pX 21 (some 31) ?_
                    refine pX 22 (some 32) ?_
                    refine pP 23 (some 33) ?_
                    refine pP 24 (some 34) ?_
                    refine pP 25 (some 35) ?_
                    refine pP 26 (some 36) ?_
                    refine pP 27 (some 37) ?_
                    refine pP 28 (some 38) ?_
                    refine pP 29 (some 39) ?_
                    refine pT 30 (some 40) ?_
                    refine pO 31 (some 41) (fun K hK => ?_)
                    refine gG Try.func10 #[.int .i64 ((rd_T31 l0 x3_1).f1)] ?_
                    with_reducible refine (spec_SetOk.calls ((rd_T31 l0 x3_1).f1) true _ A24.out).mono ?_
                    rintro e w' ⟨rfl, ⟨nd, rfl⟩⟩
                    refine ⟨_, rfl, ?_⟩
                    refine hK.out _ _ ⟨((HB.out.cell (World.block_lt_of_cell? w _ hw102_0)).trans hw102_0), ((HB.out.cell (World.block_lt_of_cell? w _ hw102_1)).trans hw102_1), ((HB.out.cell (World.block_lt_of_cell? w _ hw102_2)).trans hw102_2), ((HB.out.cell (World.block_lt_of_cell? w _ hw102_3)).trans hw102_3), ((HB.out.cell (World.block_lt_of_cell? w _ hw102_4)).trans hw102_4), ((HB.out.cell (World.block_lt_of_cell? w _ hw113_0)).trans hw113_0), ((HB.out.cell (World.block_lt_of_cell? w _ hw113_1)).trans hw113_1), ((HB.out.cell (World.block_lt_of_cell? w _ hw113_2)).trans hw113_2), ((HB.out.cell (World.block_lt_of_cell? w _ hw113_3)).trans hw113_3), ((HB.out.cell (World.block_lt_of_cell? w _ hw113_4)).trans hw113_4), ((HB.out.cell (World.block_lt_of_cell? w _ hw115_0)).trans hw115_0), ((HB.out.cell (World.block_lt_of_cell? w _ hw115_1)).trans hw115_1), ((HB.out.cell (World.block_lt_of_cell? w _ hw115_2)).trans hw115_2), ((HB.out.cell (World.block_lt_of_cell? w _ hw115_3)).trans hw115_3), ((HB.out.cell (World.block_lt_of_cell? w _ hw115_4)).trans hw115_4), ((HB.out.cell (World.block_lt_of_cell? w _ hw117_0)).trans hw117_0), ((HB.out.cell (World.block_lt_of_cell? w _ hw117_1)).trans hw117_1), ((HB.out.cell (World.block_lt_of_cell? w _ hw117_2)).trans hw117_2), ((HB.out.cell (World.block_lt_of_cell? w _ hw117_3)).trans hw117_3), ((HB.out.cell (World.block_lt_of_cell? w _ hw117_4)).trans hw117_4), ((HB.out.cell (World.block_lt_of_cell? w _ hw119_0)).trans hw119_0), ((HB.out.cell (World.block_lt_of_cell? w _ hw119_1)).trans hw119_1), ((HB.out.cell (World.block_lt_of_cell? w _ hw119_2)).trans hw119_2), ((HB.out.cell (World.block_lt_of_cell? w _ hw119_3)).trans hw119_3), ((HB.out.cell (World.block_lt_of_cell? w _ hw119_4)).trans hw119_4)⟩ (fun hHeld => ?_)
                    clear hK K
                    refine nR ?_
                    refine pP 32 (some 42) ?_
                    refine pP 33 (some 43) ?_
                    refine pP 34 (some 44) ?_
                    refine pP 35 (some 45) ?_
                    refine pP 36 (some 46) ?_
                    refine pP 37 (some 47) ?_
                    refine pP 38 (some 48) ?_
                    refine pT 39 (some 49) ?_
                    refine pO 40 (some 50) (fun K hK => ?_)
                    refine gG Try.func10 #[.int .i64 ((rd_T31 l0 x3_1).f2)] ?_
                    with_reducible refine (spec_SetOk.calls ((rd_T31 l0 x3_1).f2) true _ A26.out).mono ?_
                    rintro e w' ⟨rfl, ⟨nd, rfl⟩⟩
                    refine ⟨_, rfl, ?_⟩
                    refine hK.out _ _ ⟨((HB.out.cell (World.block_lt_of_cell? w _ hw102_0)).trans hw102_0), ((HB.out.cell (World.block_lt_of_cell? w _ hw102_1)).trans hw102_1), ((HB.out.cell (World.block_lt_of_cell? w _ hw102_2)).trans hw102_2), ((HB.out.cell (World.block_lt_of_cell? w _ hw102_3)).trans hw102_3), ((HB.out.cell (World.block_lt_of_cell? w _ hw102_4)).trans hw102_4), ((HB.out.cell (World.block_lt_of_cell? w _ hw113_0)).trans hw113_0), ((HB.out.cell (World.block_lt_of_cell? w _ hw113_1)).trans hw113_1), ((HB.out.cell (World.block_lt_of_cell? w _ hw113_2)).trans hw113_2), ((HB.out.cell (World.block_lt_of_cell? w _ hw113_3)).trans hw113_3), ((HB.out.cell (World.block_lt_of_cell? w _ hw113_4)).trans hw113_4), ((HB.out.cell (World.block_lt_of_cell? w _ hw115_0)).trans hw115_0), ((HB.out.cell (World.block_lt_of_cell? w _ hw115_1)).trans hw115_1), ((HB.out.cell (World.block_lt_of_cell? w _ hw115_2)).trans hw115_2), ((HB.out.cell (World.block_lt_of_cell? w _ hw115_3)).trans hw115_3), ((HB.out.cell (World.block_lt_of_cell? w _ hw115_4)).trans hw115_4), ((HB.out.cell (World.block_lt_of_cell? w _ hw117_0)).trans hw117_0), ((HB.out.cell (World.block_lt_of_cell? w _ hw117_1)).trans hw117_1), ((HB.out.cell (World.block_lt_of_cell? w _ hw117_2)).trans hw117_2), ((HB.out.cell (World.block_lt_of_cell? w _ hw117_3)).trans hw117_3), ((HB.out.cell (World.block_lt_of_cell? w _ hw117_4)).trans hw117_4), ((HB.out.cell (World.block_lt_of_cell? w _ hw119_0)).trans hw119_0), ((HB.out.cell (World.block_lt_of_cell? w _ hw119_1)).trans hw119_1), ((HB.out.cell (World.block_lt_of_cell? w _ hw119_2)).trans hw119_2), ((HB.out.cell (World.block_lt_of_cell? w _ hw119_3)).trans hw119_3), ((HB.out.cell (World.block_lt_of_cell? w _ hw119_4)).trans hw119_4)⟩ (fun hHeld => ?_)
                    clear hK K
                    refine nR ?_
                    refine pP 41 (some 51) ?_
                    refine pP 42 (some 52) ?_
                    refine pP 43 (some 53) ?_
                    refine pP 44 (some 54) ?_
                    refine pP 45 (some 55) ?_
                    refine pP 46 (some 56) ?_
                    refine pP 47 (some 57) ?_
                    refine pT 48 (some 58) ?_
                    refine pO 49 (some 59) (fun K hK => ?_)
                    refine gG Try.func10 #[.int .i64 ((rd_T31 l0 x3_1).f4)] ?_
                    with_reducible refine (spec_SetOk.calls ((rd_T31 l0 x3_1).f4) true _ A28.out).mono ?_
                    rintro e w' ⟨rfl, ⟨nd, rfl⟩⟩
                    refine ⟨_, rfl, ?_⟩
                    refine hK.out _ _ ⟨((HB.out.cell (World.block_lt_of_cell? w _ hw102_0)).trans hw102_0), ((HB.out.cell (World.block_lt_of_cell? w _ hw102_1)).trans hw102_1), ((HB.out.cell (World.block_lt_of_cell? w _ hw102_2)).trans hw102_2), ((HB.out.cell (World.block_lt_of_cell? w _ hw102_3)).trans hw102_3), ((HB.out.cell (World.block_lt_of_cell? w _ hw102_4)).trans hw102_4), ((HB.out.cell (World.block_lt_of_cell? w _ hw113_0)).trans hw113_0), ((HB.out.cell (World.block_lt_of_cell? w _ hw113_1)).trans hw113_1), ((HB.out.cell (World.block_lt_of_cell? w _ hw113_2)).trans hw113_2), ((HB.out.cell (World.block_lt_of_cell? w _ hw113_3)).trans hw113_3), ((HB.out.cell (World.block_lt_of_cell? w _ hw113_4)).trans hw113_4), ((HB.out.cell (World.block_lt_of_cell? w _ hw115_0)).trans hw115_0), ((HB.out.cell (World.block_lt_of_cell? w _ hw115_1)).trans hw115_1), ((HB.out.cell (World.block_lt_of_cell? w _ hw115_2)).trans hw115_2), ((HB.out.cell (World.block_lt_of_cell? w _ hw115_3)).trans hw115_3), ((HB.out.cell (World.block_lt_of_cell? w _ hw115_4)).trans hw115_4), ((HB.out.cell (World.block_lt_of_cell? w _ hw117_0)).trans hw117_0), ((HB.out.cell (World.block_lt_of_cell? w _ hw117_1)).trans hw117_1), ((HB.out.cell (World.block_lt_of_cell? w _ hw117_2)).trans hw117_2), ((HB.out.cell (World.block_lt_of_cell? w _ hw117_3)).trans hw117_3), ((HB.out.cell (World.block_lt_of_cell? w _ hw117_4)).trans hw117_4), ((HB.out.cell (World.block_lt_of_cell? w _ hw119_0)).trans hw119_0), ((HB.out.cell (World.block_lt_of_cell? w _ hw119_1)).trans hw119_1), ((HB.out.cell (World.block_lt_of_cell? w _ hw119_2)).trans hw119_2), ((HB.out.cell (World.block_lt_of_cell? w _ hw119_3)).trans hw119_3), ((HB.out.cell (World.block_lt_of_cell? w _ hw119_4)).trans hw119_4)⟩ (fun hHeld => ?_)
                    clear hK K
                    refine nR ?_
                    refine pP 50 (some 60) ?_
                    refine pP 51 (some 61) ?_
                    refine pP 52 (some 62) ?_
                    refine pP 53 (some 63) ?_
                    refine pP 54 (some 64) ?_
                    refine pP 55 (some 65) ?_
                    refine pP 56 (some 66) ?_
                    refine pT 57 (some 67) ?_
                    refine pP 58 (some 68) ?_
                    refine pP 59 (some 69) ?_
                    refine done_ (done_of HT_.out (by kernel_rfl)) ?_
                    try go_wp2
                    go_roundg k1
                    case measure => have := HK1.out; omega
                    case rel => exact ⟨(wrap64 (x3_1 + 1)), (by first | rfl | (simp; done) | (simp [*]; done)), H', ⟨by have := HK1.out; omega⟩, ⟨TB⟩⟩
                · replace c29 := Bool.eq_false_iff.mpr c29
                  subst c29
                  replace H := ifF H
                  obtain rfl := Option.some.inj H
                  try go_wp2
                  replace HB := aM (below_drew1 HB.out)
                  have p102 : 0 ≤ (x3_1 : Int) := DT
                  have q102 : x3_1 < (l0.length : Int) := DT
                  obtain ⟨ad102, e102, hx102_0, hx102_1, hx102_2, hx102_3, hx102_4⟩ := at_T31 HR0.out x3_1 p102 q102
                  have hw102_4 := hx102_4
                  have hw102_3 := hx102_3
                  have hw102_2 := hx102_2
                  have hw102_1 := hx102_1
                  have hw102_0 := hx102_0
                  cases e102
                  replace hx102_0 := (HB.out.cell (World.block_lt_of_cell? w _ hx102_0)).trans hx102_0
                  replace hx102_1 := (HB.out.cell (World.block_lt_of_cell? w _ hx102_1)).trans hx102_1
                  replace hx102_2 := (HB.out.cell (World.block_lt_of_cell? w _ hx102_2)).trans hx102_2
                  replace hx102_3 := (HB.out.cell (World.block_lt_of_cell? w _ hx102_3)).trans hx102_3
                  replace hx102_4 := (HB.out.cell (World.block_lt_of_cell? w _ hx102_4)).trans hx102_4
                  replace p102 := eq_true p102
                  replace q102 := eq_true q102
                  have p113 : 0 ≤ (x3_1 : Int) := DT
                  have q113 : x3_1 < (l0.length : Int) := DT
                  obtain ⟨ad113, e113, hx113_0, hx113_1, hx113_2, hx113_3, hx113_4⟩ := at_T31 HR0.out x3_1 p113 q113
                  have hw113_4 := hx113_4
                  have hw113_3 := hx113_3
                  have hw113_2 := hx113_2
                  have hw113_1 := hx113_1
                  have hw113_0 := hx113_0
                  obtain rfl : ad102 = ad113 := (by injection e113)
                  replace hx113_0 := (HB.out.cell (World.block_lt_of_cell? w _ hx113_0)).trans hx113_0
                  replace hx113_1 := (HB.out.cell (World.block_lt_of_cell? w _ hx113_1)).trans hx113_1
                  replace hx113_2 := (HB.out.cell (World.block_lt_of_cell? w _ hx113_2)).trans hx113_2
                  replace hx113_3 := (HB.out.cell (World.block_lt_of_cell? w _ hx113_3)).trans hx113_3
                  replace hx113_4 := (HB.out.cell (World.block_lt_of_cell? w _ hx113_4)).trans hx113_4
                  replace p113 := eq_true p113
                  replace q113 := eq_true q113
                  have p115 : 0 ≤ (x3_1 : Int) := DT
                  have q115 : x3_1 < (l0.length : Int) := DT
                  obtain ⟨ad115, e115, hx115_0, hx115_1, hx115_2, hx115_3, hx115_4⟩ := at_T31 HR0.out x3_1 p115 q115
                  have hw115_4 := hx115_4
                  have hw115_3 := hx115_3
                  have hw115_2 := hx115_2
                  have hw115_1 := hx115_1
                  have hw115_0 := hx115_0
                  obtain rfl : ad102 = ad115 := (by injection e115)
                  replace hx115_0 := (HB.out.cell (World.block_lt_of_cell? w _ hx115_0)).trans hx115_0
                  replace hx115_1 := (HB.out.cell (World.block_lt_of_cell? w _ hx115_1)).trans hx115_1
                  replace hx115_2 := (HB.out.cell (World.block_lt_of_cell? w _ hx115_2)).trans hx115_2
                  replace hx115_3 := (HB.out.cell (World.block_lt_of_cell? w _ hx115_3)).trans hx115_3
                  replace hx115_4 := (HB.out.cell (World.block_lt_of_cell? w _ hx115_4)).trans hx115_4
                  replace p115 := eq_true p115
                  replace q115 := eq_true q115
                  have p117 : 0 ≤ (x3_1 : Int) := DT
                  have q117 : x3_1 < (l0.length : Int) := DT
                  obtain ⟨ad117, e117, hx117_0, hx117_1, hx117_2, hx117_3, hx117_4⟩ := at_T31 HR0.out x3_1 p117 q117
                  have hw117_4 := hx117_4
                  have hw117_3 := hx117_3
                  have hw117_2 := hx117_2
                  have hw117_1 := hx117_1
                  have hw117_0 := hx117_0
                  obtain rfl : ad102 = ad117 := (by injection e117)
                  replace hx117_0 := (HB.out.cell (World.block_lt_of_cell? w _ hx117_0)).trans hx117_0
                  replace hx117_1 := (HB.out.cell (World.block_lt_of_cell? w _ hx117_1)).trans hx117_1
                  replace hx117_2 := (HB.out.cell (World.block_lt_of_cell? w _ hx117_2)).trans hx117_2
                  replace hx117_3 := (HB.out.cell (World.block_lt_of_cell? w _ hx117_3)).trans hx117_3
                  replace hx117_4 := (HB.out.cell (World.block_lt_of_cell? w _ hx117_4)).trans hx117_4
                  replace p117 := eq_true p117
                  replace q117 := eq_true q117
                  refine start_ (n := 60) (S := fun w' => w'.cell? (ad102.add ((x3_1).toNat * 5)) = some (.int .i64 ((rd_T31 l0 x3_1).f0)) ∧ w'.cell? ⟨(ad102.add ((x3_1).toNat * 5)).block, (ad102.add ((x3_1).toNat * 5)).off + 1, none⟩ = some (.int .i64 ((rd_T31 l0 x3_1).f1)) ∧ w'.cell? ⟨(ad102.add ((x3_1).toNat * 5)).block, (ad102.add ((x3_1).toNat * 5)).off + 2, none⟩ = some (.int .i64 ((rd_T31 l0 x3_1).f2)) ∧ w'.cell? ⟨(ad102.add ((x3_1).toNat * 5)).block, (ad102.add ((x3_1).toNat * 5)).off + 3, none⟩ = some (.int .i64 ((rd_T31 l0 x3_1).f3)) ∧ w'.cell? ⟨(ad102.add ((x3_1).toNat * 5)).block, (ad102.add ((x3_1).toNat * 5)).off + 4, none⟩ = some (.int .i64 ((rd_T31 l0 x3_1).f4)) ∧ w'.cell? (ad102.add ((x3_1).toNat * 5)) = some (.int .i64 ((rd_T31 l0 x3_1).f0)) ∧ w'.cell? ⟨(ad102.add ((x3_1).toNat * 5)).block, (ad102.add ((x3_1).toNat * 5)).off + 1, none⟩ = some (.int .i64 ((rd_T31 l0 x3_1).f1)) ∧ w'.cell? ⟨(ad102.add ((x3_1).toNat * 5)).block, (ad102.add ((x3_1).toNat * 5)).off + 2, none⟩ = some (.int .i64 ((rd_T31 l0 x3_1).f2)) ∧ w'.cell? ⟨(ad102.add ((x3_1).toNat * 5)).block, (ad102.add ((x3_1).toNat * 5)).off + 3, none⟩ = some (.int .i64 ((rd_T31 l0 x3_1).f3)) ∧ w'.cell? ⟨(ad102.add ((x3_1).toNat * 5)).block, (ad102.add ((x3_1).toNat * 5)).off + 4, none⟩ = some (.int .i64 ((rd_T31 l0 x3_1).f4)) ∧ w'.cell? (ad102.add ((x3_1).toNat * 5)) = some (.int .i64 ((rd_T31 l0 x3_1).f0)) ∧ w'.cell? ⟨(ad102.add ((x3_1).toNat * 5)).block, (ad102.add ((x3_1).toNat * 5)).off + 1, none⟩ = some (.int .i64 ((rd_T31 l0 x3_1).f1)) ∧ w'.cell? ⟨(ad102.add ((x3_1).toNat * 5)).block, (ad102.add ((x3_1).toNat * 5)).off + 2, none⟩ = some (.int .i64 ((rd_T31 l0 x3_1).f2)) ∧ w'.cell? ⟨(ad102.add ((x3_1).toNat * 5)).block, (ad102.add ((x3_1).toNat * 5)).off + 3, none⟩ = some (.int .i64 ((rd_T31 l0 x3_1).f3)) ∧ w'.cell? ⟨(ad102.add ((x3_1).toNat * 5)).block, (ad102.add ((x3_1).toNat * 5)).off + 4, none⟩ = some (.int .i64 ((rd_T31 l0 x3_1).f4)) ∧ w'.cell? (ad102.add ((x3_1).toNat * 5)) = some (.int .i64 ((rd_T31 l0 x3_1).f0)) ∧ w'.cell? ⟨(ad102.add ((x3_1).toNat * 5)).block, (ad102.add ((x3_1).toNat * 5)).off + 1, none⟩ = some (.int .i64 ((rd_T31 l0 x3_1).f1)) ∧ w'.cell? ⟨(ad102.add ((x3_1).toNat * 5)).block, (ad102.add ((x3_1).toNat * 5)).off + 2, none⟩ = some (.int .i64 ((rd_T31 l0 x3_1).f2)) ∧ w'.cell? ⟨(ad102.add ((x3_1).toNat * 5)).block, (ad102.add ((x3_1).toNat * 5)).off + 3, none⟩ = some (.int .i64 ((rd_T31 l0 x3_1).f3)) ∧ w'.cell? ⟨(ad102.add ((x3_1).toNat * 5)).block, (ad102.add ((x3_1).toNat * 5)).off + 4, none⟩ = some (.int .i64 ((rd_T31 l0 x3_1).f4))) (ds := []) (Array.replicate 60 false) (by kernel_rfl) rfl rfl ⟨((HB.out.cell (World.block_lt_of_cell? w _ hw102_0)).trans hw102_0), ((HB.out.cell (World.block_lt_of_cell? w _ hw102_1)).trans hw102_1), ((HB.out.cell (World.block_lt_of_cell? w _ hw102_2)).trans hw102_2), ((HB.out.cell (World.block_lt_of_cell? w _ hw102_3)).trans hw102_3), ((HB.out.cell (World.block_lt_of_cell? w _ hw102_4)).trans hw102_4), ((HB.out.cell (World.block_lt_of_cell? w _ hw113_0)).trans hw113_0), ((HB.out.cell (World.block_lt_of_cell? w _ hw113_1)).trans hw113_1), ((HB.out.cell (World.block_lt_of_cell? w _ hw113_2)).trans hw113_2), ((HB.out.cell (World.block_lt_of_cell? w _ hw113_3)).trans hw113_3), ((HB.out.cell (World.block_lt_of_cell? w _ hw113_4)).trans hw113_4), ((HB.out.cell (World.block_lt_of_cell? w _ hw115_0)).trans hw115_0), ((HB.out.cell (World.block_lt_of_cell? w _ hw115_1)).trans hw115_1), ((HB.out.cell (World.block_lt_of_cell? w _ hw115_2)).trans hw115_2), ((HB.out.cell (World.block_lt_of_cell? w _ hw115_3)).trans hw115_3), ((HB.out.cell (World.block_lt_of_cell? w _ hw115_4)).trans hw115_4), ((HB.out.cell (World.block_lt_of_cell? w _ hw117_0)).trans hw117_0), ((HB.out.cell (World.block_lt_of_cell? w _ hw117_1)).trans hw117_1), ((HB.out.cell (World.block_lt_of_cell? w _ hw117_2)).trans hw117_2), ((HB.out.cell (World.block_lt_of_cell? w _ hw117_3)).trans hw117_3), ((HB.out.cell (World.block_lt_of_cell? w _ hw117_4)).trans hw117_4)⟩ (fun hHeld => ?_); refine with_tabW spec_KidsOk.tab4 spec_KidsOk.bits4 (fun HT_ HW_ => ?_)
                  generalize wr.drew = w33 at HB hx102_0 hx102_1 hx102_2 hx102_3 hx102_4 hx113_0 hx113_1 hx113_2 hx113_3 hx113_4 hx115_0 hx115_1 hx115_2 hx115_3 hx115_4 hx117_0 hx117_1 hx117_2 hx117_3 hx117_4 hHeld ⊢
                  refine pP 0 (some 10) ?_
                  refine pP 1 (some 11) ?_
                  refine pP 2 (some 12) ?_
                  refine pP 3 (some 13) ?_
                  refine pT 4 (some 14) ?_
                  refine pO 5 (some 15) (fun K hK => ?_)
                  refine gG Try.func9 #[.int .i64 ((rd_T31 l0 x3_1).f0), .int .i64 0, .int .i64 6] ?_
                  with_reducible refine (spec_l1In.calls ((rd_T31 l0 x3_1).f0) 0 6 true _ A4.out).mono ?_
                  rintro e w' ⟨rfl, ⟨nd, rfl⟩⟩
                  refine ⟨_, rfl, ?_⟩
                  refine hK.out _ _ ⟨((HB.out.cell (World.block_lt_of_cell? w _ hw102_0)).trans hw102_0), ((HB.out.cell (World.block_lt_of_cell? w _ hw102_1)).trans hw102_1), ((HB.out.cell (World.block_lt_of_cell? w _ hw102_2)).trans hw102_2), ((HB.out.cell (World.block_lt_of_cell? w _ hw102_3)).trans hw102_3), ((HB.out.cell (World.block_lt_of_cell? w _ hw102_4)).trans hw102_4), ((HB.out.cell (World.block_lt_of_cell? w _ hw113_0)).trans hw113_0), ((HB.out.cell (World.block_lt_of_cell? w _ hw113_1)).trans hw113_1), ((HB.out.cell (World.block_lt_of_cell? w _ hw113_2)).trans hw113_2), ((HB.out.cell (World.block_lt_of_cell? w _ hw113_3)).trans hw113_3), ((HB.out.cell (World.block_lt_of_cell? w _ hw113_4)).trans hw113_4), ((HB.out.cell (World.block_lt_of_cell? w _ hw115_0)).trans hw115_0), ((HB.out.cell (World.block_lt_of_cell? w _ hw115_1)).trans hw115_1), ((HB.out.cell (World.block_lt_of_cell? w _ hw115_2)).trans hw115_2), ((HB.out.cell (World.block_lt_of_cell? w _ hw115_3)).trans hw115_3), ((HB.out.cell (World.block_lt_of_cell? w _ hw115_4)).trans hw115_4), ((HB.out.cell (World.block_lt_of_cell? w _ hw117_0)).trans hw117_0), ((HB.out.cell (World.block_lt_of_cell? w _ hw117_1)).trans hw117_1), ((HB.out.cell (World.block_lt_of_cell? w _ hw117_2)).trans hw117_2), ((HB.out.cell (World.block_lt_of_cell? w _ hw117_3)).trans hw117_3), ((HB.out.cell (World.block_lt_of_cell? w _ hw117_4)).trans hw117_4)⟩ (fun hHeld => ?_)
                  clear hK K
                  refine nR ?_
                  refine pP 6 (some 16) ?_
                  refine pP 7 (some 17) ?_
                  refine pP 8 (some 18) ?_
                  refine pP 9 (some 19) ?_
                  refine pP 10 (some 20) ?_
                  refine pX 11 (some 21) ?_
                  refine pX 12 (some 22) ?_
                  refine pX 13 (some 23) ?_
                  refine pX 14 (some 24) ?_
                  refine pX 15 (some 25) ?_
                  refine pX 16 (some 26) ?_
                  refine pX 17 (some 27) ?_
                  refine pX 18 (some 28) ?_
                  refine pX 19 (some 29) ?_
                  refine pX 20 (some 30) ?_
                  refine pX 21 (some 31) ?_
                  refine pX 22 (some 32) ?_
                  refine pP 23 (some 33) ?_
                  refine pP 24 (some 34) ?_
                  refine pP 25 (some 35) ?_
                  refine pP 26 (some 36) ?_
                  refine pP 27 (some 37) ?_
                  refine pP 28 (some 38) ?_
                  refine pP 29 (some 39) ?_
                  refine pT 30 (some 40) ?_
                  refine pO 31 (some 41) (fun K hK => ?_)
                  refine gG Try.func10 #[.int .i64 ((rd_T31 l0 x3_1).f1)] ?_
                  with_reducible refine (spec_SetOk.calls ((rd_T31 l0 x3_1).f1) true _ A24.out).mono ?_
                  rintro e w' ⟨rfl, ⟨nd, rfl⟩⟩
                  refine ⟨_, rfl, ?_⟩
                  refine hK.out _ _ ⟨((HB.out.cell (World.block_lt_of_cell? w _ hw102_0)).trans hw102_0), ((HB.out.cell (World.block_lt_of_cell? w _ hw102_1)).trans hw102_1), ((HB.out.cell (World.block_lt_of_cell? w _ hw102_2)).trans hw102_2), ((HB.out.cell (World.block_lt_of_cell? w _ hw102_3)).trans hw102_3), ((HB.out.cell (World.block_lt_of_cell? w _ hw102_4)).trans hw102_4), ((HB.out.cell (World.block_lt_of_cell? w _ hw113_0)).trans hw113_0), ((HB.out.cell (World.block_lt_of_cell? w _ hw113_1)).trans hw113_1), ((HB.out.cell (World.block_lt_of_cell? w _ hw113_2)).trans hw113_2), ((HB.out.cell (World.block_lt_of_cell? w _ hw113_3)).trans hw113_3), ((HB.out.cell (World.block_lt_of_cell? w _ hw113_4)).trans hw113_4), ((HB.out.cell (World.block_lt_of_cell? w _ hw115_0)).trans hw115_0), ((HB.out.cell (World.block_lt_of_cell? w _ hw115_1)).trans hw115_1), ((HB.out.cell (World.block_lt_of_cell? w _ hw115_2)).trans hw115_2), ((HB.out.cell (World.block_lt_of_cell? w _ hw115_3)).trans hw115_3), ((HB.out.cell (World.block_lt_of_cell? w _ hw115_4)).trans hw115_4), ((HB.out.cell (World.block_lt_of_cell? w _ hw117_0)).trans hw117_0), ((HB.out.cell (World.block_lt_of_cell? w _ hw117_1)).trans hw117_1), ((HB.out.cell (World.block_lt_of_cell? w _ hw117_2)).trans hw117_2), ((HB.out.cell (World.block_lt_of_cell? w _ hw117_3)).trans hw117_3), ((HB.out.cell (World.block_lt_of_cell? w _ hw117_4)).trans hw117_4)⟩ (fun hHeld => ?_)
                  clear hK K
                  refine nR ?_
                  refine pP 32 (some 42) ?_
                  refine pP 33 (some 43) ?_
                  refine pP 34 (some 44) ?_
                  refine pP 35 (some 45) ?_
                  refine pP 36 (some 46) ?_
                  refine pP 37 (some 47) ?_
                  refine pP 38 (some 48) ?_
                  refine pT 39 (some 49) ?_
                  refine pO 40 (some 50) (fun K hK => ?_)
                  refine gG Try.func10 #[.int .i64 ((rd_T31 l0 x3_1).f2)] ?_
                  with_reducible refine (spec_SetOk.calls ((rd_T31 l0 x3_1).f2) true _ A26.out).mono ?_
                  rintro e w' ⟨rfl, ⟨nd, rfl⟩⟩
                  refine ⟨_, rfl, ?_⟩
                  refine hK.out _ _ ⟨((HB.out.cell (World.block_lt_of_cell? w _ hw102_0)).trans hw102_0), ((HB.out.cell (World.block_lt_of_cell? w _ hw102_1)).trans hw102_1), ((HB.out.cell (World.block_lt_of_cell? w _ hw102_2)).trans hw102_2), ((HB.out.cell (World.block_lt_of_cell? w _ hw102_3)).trans hw102_3), ((HB.out.cell (World.block_lt_of_cell? w _ hw102_4)).trans hw102_4), ((HB.out.cell (World.block_lt_of_cell? w _ hw113_0)).trans hw113_0), ((HB.out.cell (World.block_lt_of_cell? w _ hw113_1)).trans hw113_1), ((HB.out.cell (World.block_lt_of_cell? w _ hw113_2)).trans hw113_2), ((HB.out.cell (World.block_lt_of_cell? w _ hw113_3)).trans hw113_3), ((HB.out.cell (World.block_lt_of_cell? w _ hw113_4)).trans hw113_4), ((HB.out.cell (World.block_lt_of_cell? w _ hw115_0)).trans hw115_0), ((HB.out.cell (World.block_lt_of_cell? w _ hw115_1)).trans hw115_1), ((HB.out.cell (World.block_lt_of_cell? w _ hw115_2)).trans hw115_2), ((HB.out.cell (World.block_lt_of_cell? w _ hw115_3)).trans hw115_3), ((HB.out.cell (World.block_lt_of_cell? w _ hw115_4)).trans hw115_4), ((HB.out.cell (World.block_lt_of_cell? w _ hw117_0)).trans hw117_0), ((HB.out.cell (World.block_lt_of_cell? w _ hw117_1)).trans hw117_1), ((HB.out.cell (World.block_lt_of_cell? w _ hw117_2)).trans hw117_2), ((HB.out.cell (World.block_lt_of_cell? w _ hw117_3)).trans hw117_3), ((HB.out.cell (World.block_lt_of_cell? w _ hw117_4)).trans hw117_4)⟩ (fun hHeld => ?_)
                  clear hK K
                  refine nR ?_
                  refine pP 41 (some 51) ?_
                  refine pP 42 (some 52) ?_
                  refine pP 43 (some 53) ?_
                  refine pP 44 (some 54) ?_
                  refine pP 45 (some 55) ?_
                  refine pP 46 (some 56) ?_
                  refine pP 47 (some 57) ?_
                  refine pT 48 (some 58) ?_
                  refine pO 49 (some 59) (fun K hK => ?_)
                  refine gG Try.func10 #[.int .i64 ((rd_T31 l0 x3_1).f4)] ?_
                  with_reducible refine (spec_SetOk.calls ((rd_T31 l0 x3_1).f4) false _ A28.out).mono ?_
                  rintro e w' ⟨rfl, ⟨nd, rfl⟩⟩
                  refine ⟨_, rfl, ?_⟩
                  refine hK.out _ _ ⟨((HB.out.cell (World.block_lt_of_cell? w _ hw102_0)).trans hw102_0), ((HB.out.cell (World.block_lt_of_cell? w _ hw102_1)).trans hw102_1), ((HB.out.cell (World.block_lt_of_cell? w _ hw102_2)).trans hw102_2), ((HB.out.cell (World.block_lt_of_cell? w _ hw102_3)).trans hw102_3), ((HB.out.cell (World.block_lt_of_cell? w _ hw102_4)).trans hw102_4), ((HB.out.cell (World.block_lt_of_cell? w _ hw113_0)).trans hw113_0), ((HB.out.cell (World.block_lt_of_cell? w _ hw113_1)).trans hw113_1), ((HB.out.cell (World.block_lt_of_cell? w _ hw113_2)).trans hw113_2), ((HB.out.cell (World.block_lt_of_cell? w _ hw113_3)).trans hw113_3), ((HB.out.cell (World.block_lt_of_cell? w _ hw113_4)).trans hw113_4), ((HB.out.cell (World.block_lt_of_cell? w _ hw115_0)).trans hw115_0), ((HB.out.cell (World.block_lt_of_cell? w _ hw115_1)).trans hw115_1), ((HB.out.cell (World.block_lt_of_cell? w _ hw115_2)).trans hw115_2), ((HB.out.cell (World.block_lt_of_cell? w _ hw115_3)).trans hw115_3), ((HB.out.cell (World.block_lt_of_cell? w _ hw115_4)).trans hw115_4), ((HB.out.cell (World.block_lt_of_cell? w _ hw117_0)).trans hw117_0), ((HB.out.cell (World.block_lt_of_cell? w _ hw117_1)).trans hw117_1), ((HB.out.cell (World.block_lt_of_cell? w _ hw117_2)).trans hw117_2), ((HB.out.cell (World.block_lt_of_cell? w _ hw117_3)).trans hw117_3), ((HB.out.cell (World.block_lt_of_cell? w _ hw117_4)).trans hw117_4)⟩ (fun hHeld => ?_)
                  clear hK K
                  refine nR ?_
                  refine pP 50 (some 60) ?_
                  refine pP 51 (some 61) ?_
                  refine pP 52 (some 62) ?_
                  refine pX 53 (some 63) ?_
                  refine pX 54 (some 64) ?_
                  refine pX 55 (some 65) ?_
                  refine pX 56 (some 66) ?_
                  refine pX 57 (some 67) ?_
                  refine pX 58 (some 68) ?_
                  refine pP 59 (some 69) ?_
                  refine done_ (done_of HT_.out (by kernel_rfl)) ?_
                  try go_wp2
                  go_ret
                  exact ⟨by first | rfl | (simp [errW_none, errW_some] <;> rfl) | (simp [*, errW_none, errW_some] <;> rfl), TB⟩
              · replace c27 := Bool.eq_false_iff.mpr c27
                subst c27
                replace H := ifF H
                obtain rfl := Option.some.inj H
                try go_wp2
                replace HB := aM (below_drew1 HB.out)
                have p102 : 0 ≤ (x3_1 : Int) := DT
                have q102 : x3_1 < (l0.length : Int) := DT
                obtain ⟨ad102, e102, hx102_0, hx102_1, hx102_2, hx102_3, hx102_4⟩ := at_T31 HR0.out x3_1 p102 q102
                have hw102_4 := hx102_4
                have hw102_3 := hx102_3
                have hw102_2 := hx102_2
                have hw102_1 := hx102_1
                have hw102_0 := hx102_0
                cases e102
                replace hx102_0 := (HB.out.cell (World.block_lt_of_cell? w _ hx102_0)).trans hx102_0
                replace hx102_1 := (HB.out.cell (World.block_lt_of_cell? w _ hx102_1)).trans hx102_1
                replace hx102_2 := (HB.out.cell (World.block_lt_of_cell? w _ hx102_2)).trans hx102_2
                replace hx102_3 := (HB.out.cell (World.block_lt_of_cell? w _ hx102_3)).trans hx102_3
                replace hx102_4 := (HB.out.cell (World.block_lt_of_cell? w _ hx102_4)).trans hx102_4
                replace p102 := eq_true p102
                replace q102 := eq_true q102
                have p113 : 0 ≤ (x3_1 : Int) := DT
                have q113 : x3_1 < (l0.length : Int) := DT
                obtain ⟨ad113, e113, hx113_0, hx113_1, hx113_2, hx113_3, hx113_4⟩ := at_T31 HR0.out x3_1 p113 q113
                have hw113_4 := hx113_4
                have hw113_3 := hx113_3
                have hw113_2 := hx113_2
                have hw113_1 := hx113_1
                have hw113_0 := hx113_0
                obtain rfl : ad102 = ad113 := (by injection e113)
                replace hx113_0 := (HB.out.cell (World.block_lt_of_cell? w _ hx113_0)).trans hx113_0
                replace hx113_1 := (HB.out.cell (World.block_lt_of_cell? w _ hx113_1)).trans hx113_1
                replace hx113_2 := (HB.out.cell (World.block_lt_of_cell? w _ hx113_2)).trans hx113_2
                replace hx113_3 := (HB.out.cell (World.block_lt_of_cell? w _ hx113_3)).trans hx113_3
                replace hx113_4 := (HB.out.cell (World.block_lt_of_cell? w _ hx113_4)).trans hx113_4
                replace p113 := eq_true p113
                replace q113 := eq_true q113
                have p115 : 0 ≤ (x3_1 : Int) := DT
                have q115 : x3_1 < (l0.length : Int) := DT
                obtain ⟨ad115, e115, hx115_0, hx115_1, hx115_2, hx115_3, hx115_4⟩ := at_T31 HR0.out x3_1 p115 q115
                have hw115_4 := hx115_4
                have hw115_3 := hx115_3
                have hw115_2 := hx115_2
                have hw115_1 := hx115_1
                have hw115_0 := hx115_0
                obtain rfl : ad102 = ad115 := (by injection e115)
                replace hx115_0 := (HB.out.cell (World.block_lt_of_cell? w _ hx115_0)).trans hx115_0
                replace hx115_1 := (HB.out.cell (World.block_lt_of_cell? w _ hx115_1)).trans hx115_1
                replace hx115_2 := (HB.out.cell (World.block_lt_of_cell? w _ hx115_2)).trans hx115_2
                replace hx115_3 := (HB.out.cell (World.block_lt_of_cell? w _ hx115_3)).trans hx115_3
                replace hx115_4 := (HB.out.cell (World.block_lt_of_cell? w _ hx115_4)).trans hx115_4
                replace p115 := eq_true p115
                replace q115 := eq_true q115
                refine start_ (n := 60) (S := fun w' => w'.cell? (ad102.add ((x3_1).toNat * 5)) = some (.int .i64 ((rd_T31 l0 x3_1).f0)) ∧ w'.cell? ⟨(ad102.add ((x3_1).toNat * 5)).block, (ad102.add ((x3_1).toNat * 5)).off + 1, none⟩ = some (.int .i64 ((rd_T31 l0 x3_1).f1)) ∧ w'.cell? ⟨(ad102.add ((x3_1).toNat * 5)).block, (ad102.add ((x3_1).toNat * 5)).off + 2, none⟩ = some (.int .i64 ((rd_T31 l0 x3_1).f2)) ∧ w'.cell? ⟨(ad102.add ((x3_1).toNat * 5)).block, (ad102.add ((x3_1).toNat * 5)).off + 3, none⟩ = some (.int .i64 ((rd_T31 l0 x3_1).f3)) ∧ w'.cell? ⟨(ad102.add ((x3_1).toNat * 5)).block, (ad102.add ((x3_1).toNat * 5)).off + 4, none⟩ = some (.int .i64 ((rd_T31 l0 x3_1).f4)) ∧ w'.cell? (ad102.add ((x3_1).toNat * 5)) = some (.int .i64 ((rd_T31 l0 x3_1).f0)) ∧ w'.cell? ⟨(ad102.add ((x3_1).toNat * 5)).block, (ad102.add ((x3_1).toNat * 5)).off + 1, none⟩ = some (.int .i64 ((rd_T31 l0 x3_1).f1)) ∧ w'.cell? ⟨(ad102.add ((x3_1).toNat * 5)).block, (ad102.add ((x3_1).toNat * 5)).off + 2, none⟩ = some (.int .i64 ((rd_T31 l0 x3_1).f2)) ∧ w'.cell? ⟨(ad102.add ((x3_1).toNat * 5)).block, (ad102.add ((x3_1).toNat * 5)).off + 3, none⟩ = some (.int .i64 ((rd_T31 l0 x3_1).f3)) ∧ w'.cell? ⟨(ad102.add ((x3_1).toNat * 5)).block, (ad102.add ((x3_1).toNat * 5)).off + 4, none⟩ = some (.int .i64 ((rd_T31 l0 x3_1).f4)) ∧ w'.cell? (ad102.add ((x3_1).toNat * 5)) = some (.int .i64 ((rd_T31 l0 x3_1).f0)) ∧ w'.cell? ⟨(ad102.add ((x3_1).toNat * 5)).block, (ad102.add ((x3_1).toNat * 5)).off + 1, none⟩ = some (.int .i64 ((rd_T31 l0 x3_1).f1)) ∧ w'.cell? ⟨(ad102.add ((x3_1).toNat * 5)).block, (ad102.add ((x3_1).toNat * 5)).off + 2, none⟩ = some (.int .i64 ((rd_T31 l0 x3_1).f2)) ∧ w'.cell? ⟨(ad102.add ((x3_1).toNat * 5)).block, (ad102.add ((x3_1).toNat * 5)).off + 3, none⟩ = some (.int .i64 ((rd_T31 l0 x3_1).f3)) ∧ w'.cell? ⟨(ad102.add ((x3_1).toNat * 5)).block, (ad102.add ((x3_1).toNat * 5)).off + 4, none⟩ = some (.int .i64 ((rd_T31 l0 x3_1).f4))) (ds := []) (Array.replicate 60 false) (by kernel_rfl) rfl rfl ⟨((HB.out.cell (World.block_lt_of_cell? w _ hw102_0)).trans hw102_0), ((HB.out.cell (World.block_lt_of_cell? w _ hw102_1)).trans hw102_1), ((HB.out.cell (World.block_lt_of_cell? w _ hw102_2)).trans hw102_2), ((HB.out.cell (World.block_lt_of_cell? w _ hw102_3)).trans hw102_3), ((HB.out.cell (World.block_lt_of_cell? w _ hw102_4)).trans hw102_4), ((HB.out.cell (World.block_lt_of_cell? w _ hw113_0)).trans hw113_0), ((HB.out.cell (World.block_lt_of_cell? w _ hw113_1)).trans hw113_1), ((HB.out.cell (World.block_lt_of_cell? w _ hw113_2)).trans hw113_2), ((HB.out.cell (World.block_lt_of_cell? w _ hw113_3)).trans hw113_3), ((HB.out.cell (World.block_lt_of_cell? w _ hw113_4)).trans hw113_4), ((HB.out.cell (World.block_lt_of_cell? w _ hw115_0)).trans hw115_0), ((HB.out.cell (World.block_lt_of_cell? w _ hw115_1)).trans hw115_1), ((HB.out.cell (World.block_lt_of_cell? w _ hw115_2)).trans hw115_2), ((HB.out.cell (World.block_lt_of_cell? w _ hw115_3)).trans hw115_3), ((HB.out.cell (World.block_lt_of_cell? w _ hw115_4)).trans hw115_4)⟩ (fun hHeld => ?_); refine with_tabW spec_KidsOk.tab4 spec_KidsOk.bits4 (fun HT_ HW_ => ?_)
                generalize wr.drew = w34 at HB hx102_0 hx102_1 hx102_2 hx102_3 hx102_4 hx113_0 hx113_1 hx113_2 hx113_3 hx113_4 hx115_0 hx115_1 hx115_2 hx115_3 hx115_4 hHeld ⊢
                refine pP 0 (some 10) ?_
                refine pP 1 (some 11) ?_
                refine pP 2 (some 12) ?_
                refine pP 3 (some 13) ?_
                refine pT 4 (some 14) ?_
                refine pO 5 (some 15) (fun K hK => ?_)
                refine gG Try.func9 #[.int .i64 ((rd_T31 l0 x3_1).f0), .int .i64 0, .int .i64 6] ?_
                with_reducible refine (spec_l1In.calls ((rd_T31 l0 x3_1).f0) 0 6 true _ A4.out).mono ?_
                rintro e w' ⟨rfl, ⟨nd, rfl⟩⟩
                refine ⟨_, rfl, ?_⟩
                refine hK.out _ _ ⟨((HB.out.cell (World.block_lt_of_cell? w _ hw102_0)).trans hw102_0), ((HB.out.cell (World.block_lt_of_cell? w _ hw102_1)).trans hw102_1), ((HB.out.cell (World.block_lt_of_cell? w _ hw102_2)).trans hw102_2), ((HB.out.cell (World.block_lt_of_cell? w _ hw102_3)).trans hw102_3), ((HB.out.cell (World.block_lt_of_cell? w _ hw102_4)).trans hw102_4), ((HB.out.cell (World.block_lt_of_cell? w _ hw113_0)).trans hw113_0), ((HB.out.cell (World.block_lt_of_cell? w _ hw113_1)).trans hw113_1), ((HB.out.cell (World.block_lt_of_cell? w _ hw113_2)).trans hw113_2), ((HB.out.cell (World.block_lt_of_cell? w _ hw113_3)).trans hw113_3), ((HB.out.cell (World.block_lt_of_cell? w _ hw113_4)).trans hw113_4), ((HB.out.cell (World.block_lt_of_cell? w _ hw115_0)).trans hw115_0), ((HB.out.cell (World.block_lt_of_cell? w _ hw115_1)).trans hw115_1), ((HB.out.cell (World.block_lt_of_cell? w _ hw115_2)).trans hw115_2), ((HB.out.cell (World.block_lt_of_cell? w _ hw115_3)).trans hw115_3), ((HB.out.cell (World.block_lt_of_cell? w _ hw115_4)).trans hw115_4)⟩ (fun hHeld => ?_)
                clear hK K
                refine nR ?_
                refine pP 6 (some 16) ?_
                refine pP 7 (some 17) ?_
                refine pP 8 (some 18) ?_
                refine pP 9 (some 19) ?_
                refine pP 10 (some 20) ?_
                refine pX 11 (some 21) ?_
                refine pX 12 (some 22) ?_
                refine pX 13 (some 23) ?_
                refine pX 14 (some 24) ?_
                refine pX 15 (some 25) ?_
                refine pX 16 (some 26) ?_
                refine pX 17 (some 27) ?_
                refine pX 18 (some 28) ?_
                refine pX 19 (some 29) ?_
                refine pX 20 (some 30) ?_
                refine pX 21 (some 31) ?_
                refine pX 22 (some 32) ?_
                refine pP 23 (some 33) ?_
                refine pP 24 (some 34) ?_
                refine pP 25 (some 35) ?_
                refine pP 26 (some 36) ?_
                refine pP 27 (some 37) ?_
                refine pP 28 (some 38) ?_
                refine pP 29 (some 39) ?_
                refine pT 30 (some 40) ?_
                refine pO 31 (some 41) (fun K hK => ?_)
                refine gG Try.func10 #[.int .i64 ((rd_T31 l0 x3_1).f1)] ?_
                with_reducible refine (spec_SetOk.calls ((rd_T31 l0 x3_1).f1) true _ A24.out).mono ?_
                rintro e w' ⟨rfl, ⟨nd, rfl⟩⟩
                refine ⟨_, rfl, ?_⟩
                refine hK.out _ _ ⟨((HB.out.cell (World.block_lt_of_cell? w _ hw102_0)).trans hw102_0), ((HB.out.cell (World.block_lt_of_cell? w _ hw102_1)).trans hw102_1), ((HB.out.cell (World.block_lt_of_cell? w _ hw102_2)).trans hw102_2), ((HB.out.cell (World.block_lt_of_cell? w _ hw102_3)).trans hw102_3), ((HB.out.cell (World.block_lt_of_cell? w _ hw102_4)).trans hw102_4), ((HB.out.cell (World.block_lt_of_cell? w _ hw113_0)).trans hw113_0), ((HB.out.cell (World.block_lt_of_cell? w _ hw113_1)).trans hw113_1), ((HB.out.cell (World.block_lt_of_cell? w _ hw113_2)).trans hw113_2), ((HB.out.cell (World.block_lt_of_cell? w _ hw113_3)).trans hw113_3), ((HB.out.cell (World.block_lt_of_cell? w _ hw113_4)).trans hw113_4), ((HB.out.cell (World.block_lt_of_cell? w _ hw115_0)).trans hw115_0), ((HB.out.cell (World.block_lt_of_cell? w _ hw115_1)).trans hw115_1), ((HB.out.cell (World.block_lt_of_cell? w _ hw115_2)).trans hw115_2), ((HB.out.cell (World.block_lt_of_cell? w _ hw115_3)).trans hw115_3), ((HB.out.cell (World.block_lt_of_cell? w _ hw115_4)).trans hw115_4)⟩ (fun hHeld => ?_)
                clear hK K
                refine nR ?_
                refine pP 32 (some 42) ?_
                refine pP 33 (some 43) ?_
                refine pP 34 (some 44) ?_
                refine pP 35 (some 45) ?_
                refine pP 36 (some 46) ?_
                refine pP 37 (some 47) ?_
                refine pP 38 (some 48) ?_
                refine pT 39 (some 49) ?_
                refine pO 40 (some 50) (fun K hK => ?_)
                refine gG Try.func10 #[.int .i64 ((rd_T31 l0 x3_1).f2)] ?_
                with_reducible refine (spec_SetOk.calls ((rd_T31 l0 x3_1).f2) false _ A26.out).mono ?_
                rintro e w' ⟨rfl, ⟨nd, rfl⟩⟩
                refine ⟨_, rfl, ?_⟩
                refine hK.out _ _ ⟨((HB.out.cell (World.block_lt_of_cell? w _ hw102_0)).trans hw102_0), ((HB.out.cell (World.block_lt_of_cell? w _ hw102_1)).trans hw102_1), ((HB.out.cell (World.block_lt_of_cell? w _ hw102_2)).trans hw102_2), ((HB.out.cell (World.block_lt_of_cell? w _ hw102_3)).trans hw102_3), ((HB.out.cell (World.block_lt_of_cell? w _ hw102_4)).trans hw102_4), ((HB.out.cell (World.block_lt_of_cell? w _ hw113_0)).trans hw113_0), ((HB.out.cell (World.block_lt_of_cell? w _ hw113_1)).trans hw113_1), ((HB.out.cell (World.block_lt_of_cell? w _ hw113_2)).trans hw113_2), ((HB.out.cell (World.block_lt_of_cell? w _ hw113_3)).trans hw113_3), ((HB.out.cell (World.block_lt_of_cell? w _ hw113_4)).trans hw113_4), ((HB.out.cell (World.block_lt_of_cell? w _ hw115_0)).trans hw115_0), ((HB.out.cell (World.block_lt_of_cell? w _ hw115_1)).trans hw115_1), ((HB.out.cell (World.block_lt_of_cell? w _ hw115_2)).trans hw115_2), ((HB.out.cell (World.block_lt_of_cell? w _ hw115_3)).trans hw115_3), ((HB.out.cell (World.block_lt_of_cell? w _ hw115_4)).trans hw115_4)⟩ (fun hHeld => ?_)
                clear hK K
                refine nR ?_
                refine pP 41 (some 51) ?_
                refine pP 42 (some 52) ?_
                refine pP 43 (some 53) ?_
                refine pX 44 (some 54) ?_
                refine pX 45 (some 55) ?_
                refine pX 46 (some 56) ?_
                refine pX 47 (some 57) ?_
                refine pX 48 (some 58) ?_
                refine pX 49 (some 59) ?_
                refine pX 50 (some 60) ?_
                refine pP 51 (some 61) ?_
                refine pP 52 (some 62) ?_
                refine pX 53 (some 63) ?_
                refine pX 54 (some 64) ?_
                refine pX 55 (some 65) ?_
                refine pX 56 (some 66) ?_
                refine pX 57 (some 67) ?_
                refine pX 58 (some 68) ?_
                refine pP 59 (some 69) ?_
                refine done_ (done_of HT_.out (by kernel_rfl)) ?_
                try go_wp2
                go_ret
                exact ⟨by first | rfl | (simp [errW_none, errW_some] <;> rfl) | (simp [*, errW_none, errW_some] <;> rfl), TB⟩
            · replace c25 := Bool.eq_false_iff.mpr c25
              subst c25
              replace H := ifF H
              obtain rfl := Option.some.inj H
              try go_wp2
              replace HB := aM (below_drew1 HB.out)
              have p102 : 0 ≤ (x3_1 : Int) := DT
              have q102 : x3_1 < (l0.length : Int) := DT
              obtain ⟨ad102, e102, hx102_0, hx102_1, hx102_2, hx102_3, hx102_4⟩ := at_T31 HR0.out x3_1 p102 q102
              have hw102_4 := hx102_4
              have hw102_3 := hx102_3
              have hw102_2 := hx102_2
              have hw102_1 := hx102_1
              have hw102_0 := hx102_0
              cases e102
              replace hx102_0 := (HB.out.cell (World.block_lt_of_cell? w _ hx102_0)).trans hx102_0
              replace hx102_1 := (HB.out.cell (World.block_lt_of_cell? w _ hx102_1)).trans hx102_1
              replace hx102_2 := (HB.out.cell (World.block_lt_of_cell? w _ hx102_2)).trans hx102_2
              replace hx102_3 := (HB.out.cell (World.block_lt_of_cell? w _ hx102_3)).trans hx102_3
              replace hx102_4 := (HB.out.cell (World.block_lt_of_cell? w _ hx102_4)).trans hx102_4
              replace p102 := eq_true p102
              replace q102 := eq_true q102
              have p113 : 0 ≤ (x3_1 : Int) := DT
              have q113 : x3_1 < (l0.length : Int) := DT
              obtain ⟨ad113, e113, hx113_0, hx113_1, hx113_2, hx113_3, hx113_4⟩ := at_T31 HR0.out x3_1 p113 q113
              have hw113_4 := hx113_4
              have hw113_3 := hx113_3
              have hw113_2 := hx113_2
              have hw113_1 := hx113_1
              have hw113_0 := hx113_0
              obtain rfl : ad102 = ad113 := (by injection e113)
              replace hx113_0 := (HB.out.cell (World.block_lt_of_cell? w _ hx113_0)).trans hx113_0
              replace hx113_1 := (HB.out.cell (World.block_lt_of_cell? w _ hx113_1)).trans hx113_1
              replace hx113_2 := (HB.out.cell (World.block_lt_of_cell? w _ hx113_2)).trans hx113_2
              replace hx113_3 := (HB.out.cell (World.block_lt_of_cell? w _ hx113_3)).trans hx113_3
              replace hx113_4 := (HB.out.cell (World.block_lt_of_cell? w _ hx113_4)).trans hx113_4
              replace p113 := eq_true p113
              replace q113 := eq_true q113
              refine start_ (n := 60) (S := fun w' => w'.cell? (ad102.add ((x3_1).toNat * 5)) = some (.int .i64 ((rd_T31 l0 x3_1).f0)) ∧ w'.cell? ⟨(ad102.add ((x3_1).toNat * 5)).block, (ad102.add ((x3_1).toNat * 5)).off + 1, none⟩ = some (.int .i64 ((rd_T31 l0 x3_1).f1)) ∧ w'.cell? ⟨(ad102.add ((x3_1).toNat * 5)).block, (ad102.add ((x3_1).toNat * 5)).off + 2, none⟩ = some (.int .i64 ((rd_T31 l0 x3_1).f2)) ∧ w'.cell? ⟨(ad102.add ((x3_1).toNat * 5)).block, (ad102.add ((x3_1).toNat * 5)).off + 3, none⟩ = some (.int .i64 ((rd_T31 l0 x3_1).f3)) ∧ w'.cell? ⟨(ad102.add ((x3_1).toNat * 5)).block, (ad102.add ((x3_1).toNat * 5)).off + 4, none⟩ = some (.int .i64 ((rd_T31 l0 x3_1).f4)) ∧ w'.cell? (ad102.add ((x3_1).toNat * 5)) = some (.int .i64 ((rd_T31 l0 x3_1).f0)) ∧ w'.cell? ⟨(ad102.add ((x3_1).toNat * 5)).block, (ad102.add ((x3_1).toNat * 5)).off + 1, none⟩ = some (.int .i64 ((rd_T31 l0 x3_1).f1)) ∧ w'.cell? ⟨(ad102.add ((x3_1).toNat * 5)).block, (ad102.add ((x3_1).toNat * 5)).off + 2, none⟩ = some (.int .i64 ((rd_T31 l0 x3_1).f2)) ∧ w'.cell? ⟨(ad102.add ((x3_1).toNat * 5)).block, (ad102.add ((x3_1).toNat * 5)).off + 3, none⟩ = some (.int .i64 ((rd_T31 l0 x3_1).f3)) ∧ w'.cell? ⟨(ad102.add ((x3_1).toNat * 5)).block, (ad102.add ((x3_1).toNat * 5)).off + 4, none⟩ = some (.int .i64 ((rd_T31 l0 x3_1).f4))) (ds := []) (Array.replicate 60 false) (by kernel_rfl) rfl rfl ⟨((HB.out.cell (World.block_lt_of_cell? w _ hw102_0)).trans hw102_0), ((HB.out.cell (World.block_lt_of_cell? w _ hw102_1)).trans hw102_1), ((HB.out.cell (World.block_lt_of_cell? w _ hw102_2)).trans hw102_2), ((HB.out.cell (World.block_lt_of_cell? w _ hw102_3)).trans hw102_3), ((HB.out.cell (World.block_lt_of_cell? w _ hw102_4)).trans hw102_4), ((HB.out.cell (World.block_lt_of_cell? w _ hw113_0)).trans hw113_0), ((HB.out.cell (World.block_lt_of_cell? w _ hw113_1)).trans hw113_1), ((HB.out.cell (World.block_lt_of_cell? w _ hw113_2)).trans hw113_2), ((HB.out.cell (World.block_lt_of_cell? w _ hw113_3)).trans hw113_3), ((HB.out.cell (World.block_lt_of_cell? w _ hw113_4)).trans hw113_4)⟩ (fun hHeld => ?_); refine with_tabW spec_KidsOk.tab4 spec_KidsOk.bits4 (fun HT_ HW_ => ?_)
              generalize wr.drew = w35 at HB hx102_0 hx102_1 hx102_2 hx102_3 hx102_4 hx113_0 hx113_1 hx113_2 hx113_3 hx113_4 hHeld ⊢
              refine pP 0 (some 10) ?_
              refine pP 1 (some 11) ?_
              refine pP 2 (some 12) ?_
              refine pP 3 (some 13) ?_
              refine pT 4 (some 14) ?_
              refine pO 5 (some 15) (fun K hK => ?_)
              refine gG Try.func9 #[.int .i64 ((rd_T31 l0 x3_1).f0), .int .i64 0, .int .i64 6] ?_
              with_reducible refine (spec_l1In.calls ((rd_T31 l0 x3_1).f0) 0 6 true _ A4.out).mono ?_
              rintro e w' ⟨rfl, ⟨nd, rfl⟩⟩
              refine ⟨_, rfl, ?_⟩
              refine hK.out _ _ ⟨((HB.out.cell (World.block_lt_of_cell? w _ hw102_0)).trans hw102_0), ((HB.out.cell (World.block_lt_of_cell? w _ hw102_1)).trans hw102_1), ((HB.out.cell (World.block_lt_of_cell? w _ hw102_2)).trans hw102_2), ((HB.out.cell (World.block_lt_of_cell? w _ hw102_3)).trans hw102_3), ((HB.out.cell (World.block_lt_of_cell? w _ hw102_4)).trans hw102_4), ((HB.out.cell (World.block_lt_of_cell? w _ hw113_0)).trans hw113_0), ((HB.out.cell (World.block_lt_of_cell? w _ hw113_1)).trans hw113_1), ((HB.out.cell (World.block_lt_of_cell? w _ hw113_2)).trans hw113_2), ((HB.out.cell (World.block_lt_of_cell? w _ hw113_3)).trans hw113_3), ((HB.out.cell (World.block_lt_of_cell? w _ hw113_4)).trans hw113_4)⟩ (fun hHeld => ?_)
              clear hK K
              refine nR ?_
              refine pP 6 (some 16) ?_
              refine pP 7 (some 17) ?_
              refine pP 8 (some 18) ?_
              refine pP 9 (some 19) ?_
              refine pP 10 (some 20) ?_
              refine pX 11 (some 21) ?_
              refine pX 12 (some 22) ?_
              refine pX 13 (some 23) ?_
              refine pX 14 (some 24) ?_
              refine pX 15 (some 25) ?_
              refine pX 16 (some 26) ?_
              refine pX 17 (some 27) ?_
              refine pX 18 (some 28) ?_
              refine pX 19 (some 29) ?_
              refine pX 20 (some 30) ?_
              refine pX 21 (some 31) ?_
              refine pX 22 (some 32) ?_
              refine pP 23 (some 33) ?_
              refine pP 24 (some 34) ?_
              refine pP 25 (some 35) ?_
              refine pP 26 (some 36) ?_
              refine pP 27 (some 37) ?_
              refine pP 28 (some 38) ?_
              refine pP 29 (some 39) ?_
              refine pT 30 (some 40) ?_
              refine pO 31 (some 41) (fun K hK => ?_)
              refine gG Try.func10 #[.int .i64 ((rd_T31 l0 x3_1).f1)] ?_
              with_reducible refine (spec_SetOk.calls ((rd_T31 l0 x3_1).f1) false _ A24.out).mono ?_
              rintro e w' ⟨rfl, ⟨nd, rfl⟩⟩
              refine ⟨_, rfl, ?_⟩
              refine hK.out _ _ ⟨((HB.out.cell (World.block_lt_of_cell? w _ hw102_0)).trans hw102_0), ((HB.out.cell (World.block_lt_of_cell? w _ hw102_1)).trans hw102_1), ((HB.out.cell (World.block_lt_of_cell? w _ hw102_2)).trans hw102_2), ((HB.out.cell (World.block_lt_of_cell? w _ hw102_3)).trans hw102_3), ((HB.out.cell (World.block_lt_of_cell? w _ hw102_4)).trans hw102_4), ((HB.out.cell (World.block_lt_of_cell? w _ hw113_0)).trans hw113_0), ((HB.out.cell (World.block_lt_of_cell? w _ hw113_1)).trans hw113_1), ((HB.out.cell (World.block_lt_of_cell? w _ hw113_2)).trans hw113_2), ((HB.out.cell (World.block_lt_of_cell? w _ hw113_3)).trans hw113_3), ((HB.out.cell (World.block_lt_of_cell? w _ hw113_4)).trans hw113_4)⟩ (fun hHeld => ?_)
              clear hK K
              refine nR ?_
              refine pP 32 (some 42) ?_
              refine pP 33 (some 43) ?_
              refine pP 34 (some 44) ?_
              refine pX 35 (some 45) ?_
              refine pX 36 (some 46) ?_
              refine pX 37 (some 47) ?_
              refine pX 38 (some 48) ?_
              refine pX 39 (some 49) ?_
              refine pX 40 (some 50) ?_
              refine pX 41 (some 51) ?_
              refine pP 42 (some 52) ?_
              refine pP 43 (some 53) ?_
              refine pX 44 (some 54) ?_
              refine pX 45 (some 55) ?_
              refine pX 46 (some 56) ?_
              refine pX 47 (some 57) ?_
              refine pX 48 (some 58) ?_
              refine pX 49 (some 59) ?_
              refine pX 50 (some 60) ?_
              refine pP 51 (some 61) ?_
              refine pP 52 (some 62) ?_
              refine pX 53 (some 63) ?_
              refine pX 54 (some 64) ?_
              refine pX 55 (some 65) ?_
              refine pX 56 (some 66) ?_
              refine pX 57 (some 67) ?_
              refine pX 58 (some 68) ?_
              refine pP 59 (some 69) ?_
              refine done_ (done_of HT_.out (by kernel_rfl)) ?_
              try go_wp2
              go_ret
              exact ⟨by first | rfl | (simp [errW_none, errW_some] <;> rfl) | (simp [*, errW_none, errW_some] <;> rfl), TB⟩
        · replace c5 := Bool.eq_false_iff.mpr c5
          subst c5
          replace H := ifF H
          obtain rfl := Option.some.inj H
          try go_wp2
          replace HB := aM (below_drew1 HB.out)
          have p102 : 0 ≤ (x3_1 : Int) := DT
          have q102 : x3_1 < (l0.length : Int) := DT
          obtain ⟨ad102, e102, hx102_0, hx102_1, hx102_2, hx102_3, hx102_4⟩ := at_T31 HR0.out x3_1 p102 q102
          have hw102_4 := hx102_4
          have hw102_3 := hx102_3
          have hw102_2 := hx102_2
          have hw102_1 := hx102_1
          have hw102_0 := hx102_0
          cases e102
          replace hx102_0 := (HB.out.cell (World.block_lt_of_cell? w _ hx102_0)).trans hx102_0
          replace hx102_1 := (HB.out.cell (World.block_lt_of_cell? w _ hx102_1)).trans hx102_1
          replace hx102_2 := (HB.out.cell (World.block_lt_of_cell? w _ hx102_2)).trans hx102_2
          replace hx102_3 := (HB.out.cell (World.block_lt_of_cell? w _ hx102_3)).trans hx102_3
          replace hx102_4 := (HB.out.cell (World.block_lt_of_cell? w _ hx102_4)).trans hx102_4
          replace p102 := eq_true p102
          replace q102 := eq_true q102
          refine start_ (n := 60) (S := fun w' => w'.cell? (ad102.add ((x3_1).toNat * 5)) = some (.int .i64 ((rd_T31 l0 x3_1).f0)) ∧ w'.cell? ⟨(ad102.add ((x3_1).toNat * 5)).block, (ad102.add ((x3_1).toNat * 5)).off + 1, none⟩ = some (.int .i64 ((rd_T31 l0 x3_1).f1)) ∧ w'.cell? ⟨(ad102.add ((x3_1).toNat * 5)).block, (ad102.add ((x3_1).toNat * 5)).off + 2, none⟩ = some (.int .i64 ((rd_T31 l0 x3_1).f2)) ∧ w'.cell? ⟨(ad102.add ((x3_1).toNat * 5)).block, (ad102.add ((x3_1).toNat * 5)).off + 3, none⟩ = some (.int .i64 ((rd_T31 l0 x3_1).f3)) ∧ w'.cell? ⟨(ad102.add ((x3_1).toNat * 5)).block, (ad102.add ((x3_1).toNat * 5)).off + 4, none⟩ = some (.int .i64 ((rd_T31 l0 x3_1).f4))) (ds := []) (Array.replicate 60 false) (by kernel_rfl) rfl rfl ⟨((HB.out.cell (World.block_lt_of_cell? w _ hw102_0)).trans hw102_0), ((HB.out.cell (World.block_lt_of_cell? w _ hw102_1)).trans hw102_1), ((HB.out.cell (World.block_lt_of_cell? w _ hw102_2)).trans hw102_2), ((HB.out.cell (World.block_lt_of_cell? w _ hw102_3)).trans hw102_3), ((HB.out.cell (World.block_lt_of_cell? w _ hw102_4)).trans hw102_4)⟩ (fun hHeld => ?_); refine with_tabW spec_KidsOk.tab4 spec_KidsOk.bits4 (fun HT_ HW_ => ?_)
          generalize wr.drew = w36 at HB hx102_0 hx102_1 hx102_2 hx102_3 hx102_4 hHeld ⊢
          refine pP 0 (some 10) ?_
          refine pP 1 (some 11) ?_
          refine pP 2 (some 12) ?_
          refine pP 3 (some 13) ?_
          refine pT 4 (some 14) ?_
          refine pO 5 (some 15) (fun K hK => ?_)
          refine gG Try.func9 #[.int .i64 ((rd_T31 l0 x3_1).f0), .int .i64 0, .int .i64 6] ?_
          with_reducible refine (spec_l1In.calls ((rd_T31 l0 x3_1).f0) 0 6 false _ A4.out).mono ?_
          rintro e w' ⟨rfl, ⟨nd, rfl⟩⟩
          refine ⟨_, rfl, ?_⟩
          refine hK.out _ _ ⟨((HB.out.cell (World.block_lt_of_cell? w _ hw102_0)).trans hw102_0), ((HB.out.cell (World.block_lt_of_cell? w _ hw102_1)).trans hw102_1), ((HB.out.cell (World.block_lt_of_cell? w _ hw102_2)).trans hw102_2), ((HB.out.cell (World.block_lt_of_cell? w _ hw102_3)).trans hw102_3), ((HB.out.cell (World.block_lt_of_cell? w _ hw102_4)).trans hw102_4)⟩ (fun hHeld => ?_)
          clear hK K
          refine nR ?_
          refine pP 6 (some 16) ?_
          refine pP 7 (some 17) ?_
          refine pX 8 (some 18) ?_
          refine pX 9 (some 19) ?_
          refine pX 10 (some 20) ?_
          refine pX 11 (some 21) ?_
          refine pX 12 (some 22) ?_
          refine pX 13 (some 23) ?_
          refine pX 14 (some 24) ?_
          refine pX 15 (some 25) ?_
          refine pX 16 (some 26) ?_
          refine pX 17 (some 27) ?_
          refine pX 18 (some 28) ?_
          refine pX 19 (some 29) ?_
          refine pX 20 (some 30) ?_
          refine pX 21 (some 31) ?_
          refine pX 22 (some 32) ?_
          refine pX 23 (some 33) ?_
          refine pP 24 (some 34) ?_
          refine pP 25 (some 35) ?_
          refine pX 26 (some 36) ?_
          refine pX 27 (some 37) ?_
          refine pX 28 (some 38) ?_
          refine pX 29 (some 39) ?_
          refine pX 30 (some 40) ?_
          refine pX 31 (some 41) ?_
          refine pX 32 (some 42) ?_
          refine pP 33 (some 43) ?_
          refine pP 34 (some 44) ?_
          refine pX 35 (some 45) ?_
          refine pX 36 (some 46) ?_
          refine pX 37 (some 47) ?_
          refine pX 38 (some 48) ?_
          refine pX 39 (some 49) ?_
          refine pX 40 (some 50) ?_
          refine pX 41 (some 51) ?_
          refine pP 42 (some 52) ?_
          refine pP 43 (some 53) ?_
          refine pX 44 (some 54) ?_
          refine pX 45 (some 55) ?_
          refine pX 46 (some 56) ?_
          refine pX 47 (some 57) ?_
          refine pX 48 (some 58) ?_
          refine pX 49 (some 59) ?_
          refine pX 50 (some 60) ?_
          refine pP 51 (some 61) ?_
          refine pP 52 (some 62) ?_
          refine pX 53 (some 63) ?_
          refine pX 54 (some 64) ?_
          refine pX 55 (some 65) ?_
          refine pX 56 (some 66) ?_
          refine pX 57 (some 67) ?_
          refine pX 58 (some 68) ?_
          refine pP 59 (some 69) ?_
          refine done_ (done_of HT_.out (by kernel_rfl)) ?_
          try go_wp2
          go_ret
          exact ⟨by first | rfl | (simp [errW_none, errW_some] <;> rfl) | (simp [*, errW_none, errW_some] <;> rfl), TB⟩
      · rw [if_neg c2] at H
        have c2b0 : decide (x3_1 < (l0.length : Int)) = false := decide_eq_false c2
        clear c2
        obtain rfl := Option.some.inj H
        go_wp2
        go_ret
        exact ⟨by first | rfl | (simp [errW_none, errW_some] <;> rfl) | (simp [*, errW_none, errW_some] <;> rfl), TB⟩

end Go.Proofs.Ythfpeadkfflhnaa.Q
