/- Functions of the program as plain Lean functions, and that a call of each comes to what its function tells. Written by a program of this seat. -/
import Derived.Test.YthfpeadkfflhnaaQ0
import Derived.Test.YthfpeadkfflhnaaQ3
namespace Go.Proofs.Ythfpeadkfflhnaa.Q
open Go.RowKit Go.Proofs.YthfpeadkfflhnaaW.PrintWords Go.Proofs.YthfpeadkfflhnaaW.PrintLast Go.Proofs.YthfpeadkfflhnaaW.PrintMore
attribute [local go_sem] max2_int min2_int max_two min_two max_three min_three max_four min_four   -- for this text's walks alone
set_option linter.unusedVariables false
set_option linter.unusedSimpArgs false

/-! ### impl_KidsOk: function 7 -/
def impl_KidsOk.l0 : Nat → List (S31) → List (S31) → Int → Int → Option (Bool)
  | 0, _, _, _, _ => none
  | k + 1, x0, x5, x6, x7 => if x7 < x6 then (if 0 ≤ x7 then (if x7 < (x5.length : Int) then ((impl_isId.f ((rd_T31 x5 x7).f0)).bind fun t137 => (if t137 = true then ((impl_SetOk.f ((rd_T31 x5 x7).f1)).bind fun t138 => (if t138 = true then ((impl_SetOk.f ((rd_T31 x5 x7).f2)).bind fun t139 => (if t139 = true then (if ((rd_T31 x5 x7).f3) < 0 then (some false) else ((impl_SetOk.f ((rd_T31 x5 x7).f4)).bind fun t140 => (if t140 = true then (if x7 > 0 then (if 0 ≤ (wrap64 (x7 - 1)) then (if (wrap64 (x7 - 1)) < (x0.length : Int) then (if ((rd_T31 x5 x7).f0) ≤ ((rd_T31 x0 (wrap64 (x7 - 1))).f0) then (some false) else (impl_KidsOk.l0 k x0 x5 x6 (wrap64 (x7 + 1)))) else (none)) else (none)) else (impl_KidsOk.l0 k x0 x5 x6 (wrap64 (x7 + 1)))) else (some false)))) else (some false))) else (some false))) else (some false))) else (none)) else (none)) else (some true)
def impl_KidsOk.f (k : Nat) (l0 : List (S31)) : Option (Bool) := impl_KidsOk.l0 k l0 l0 (l0.length : Int) 0
theorem impl_KidsOk.mono_l : ∀ k, (∀ y0 y1 y2 y3, LeO (impl_KidsOk.l0 k y0 y1 y2 y3) (impl_KidsOk.l0 (k + 1) y0 y1 y2 y3))
  | 0 => fun _ _ _ _ r h => by simp [impl_KidsOk.l0] at h
  | k + 1 => by
    have ih0 := impl_KidsOk.mono_l k
    · intro y0 y1 y2 y3
      unfold impl_KidsOk.l0
      exact LM
theorem impl_KidsOk.mono : ∀ a0 k, LeO (impl_KidsOk.f k a0) (impl_KidsOk.f (k + 1) a0) := by
  intro a0 k
  have ih0 := impl_KidsOk.mono_l k
  unfold impl_KidsOk.f
  exact LM
def impl_KidsOk.T4 : Bool × List (List Nat × List Nat) := (true, [([], []), ([0], [0]), ([1], [1]), ([2], [2]), ([3, 2], [3]), ([4], [4]), ([5, 4], [4, 5]), ([6, 4, 4], [4, 6]), ([7, 4], [4, 7]), ([4, 8], [4, 8]), ([9, 7], [9]), ([10], [10]), ([11, 10], [10, 11]), ([12, 10, 10], [10, 12]), ([13, 10], [10, 13]), ([10, 14], [10, 14]), ([15, 13], [15]), ([16], [16]), ([17, 16], [16, 17]), ([18, 16], [16, 18]), ([16, 19], [16, 19]), ([20, 16], [20]), ([21], [21]), ([22, 21], [21, 22]), ([23, 21, 21], [21, 23]), ([24, 21], [21, 24]), ([21, 25], [21, 25]), ([26, 24], [26]), ([27], [27]), ([28, 27], [27, 28]), ([29, 27, 27], [27, 29]), ([30], [30]), ([31, 30], [30, 31]), ([30], [30]), ([30], [30]), ([34, 30], [30, 34]), ([33, 35, 30], [30, 33, 35]), ([36, 30], [30, 36]), ([37, 30], [30, 37]), ([32, 38, 30], [30, 32, 38]), ([30, 39, 27], [27, 30, 39]), ([27, 40], [27, 40])])
def impl_KidsOk.B4 : List Nat := [0, 1, 3, 7, 15, 31, 63, 127, 255, 511, 1023, 2047, 4095, 8191, 16383, 32767, 65535, 131071, 262143, 524287, 1048575, 2097151, 4194303, 8388607, 16777215, 33554431, 67108863, 134217727, 268435455, 536870911, 1073741823, 2147483647, 4294967295, 2147483647, 2147483647, 19327352831, 62277025791, 130996502527, 268435455999, 549755813887, 1099511627775, 2199023255551]
theorem impl_KidsOk.tab4 : rtab .any (opsOf Try.f7 4) = impl_KidsOk.T4 := by kernel_rfl
theorem impl_KidsOk.bits4 : waitsOk impl_KidsOk.T4.2 impl_KidsOk.B4 = true := by kernel_rfl
set_option maxHeartbeats 40000000 in
set_option maxRecDepth 100000 in
theorem impl_KidsOk.calls (k : Nat) (A0 : Option Addr) (c0 : Nat) (l0 : List (S31)) (r : Bool) (w : World) (hr0 : Kd.C k31 w A0 l0.length l0) (hc0 : l0.length ≤ c0) (h : impl_KidsOk.f k l0 = some r) :
    Calls Try.prog 7 #[.slice A0 l0.length c0] w fun e w' => e = .returned (.bool r) ∧ Below w.heap.size w w' := by
  have hu31 := Try.underlying31
  have HR0 := aM hr0
  have HC0 := aM hc0
  clear hr0 hc0
  have HB := aM (Below.refl w.heap.size w)
  have H := h
  clear h
  unfold impl_KidsOk.f at H
  have H' := aM H
  clear H
  go_enter Try.func7, Try.ntmps7
  go_wp2
  go_loopg [7] k (fun kq v7 w' => ∃ (x7_1 : Int), v7 = .int .i64 x7_1 ∧ Aside0 (impl_KidsOk.l0 kq l0 l0 (l0.length : Int) x7_1 = some r) ∧ Aside0 (kq ≤ k) ∧ Aside0 (Below w.heap.size w w'))
  case atStart => exact ⟨(0), (by first | rfl | (simp; done) | (simp [*]; done)), H', ⟨Nat.le_refl _⟩, ⟨TB⟩⟩
  case round =>
    clear H'
    obtain ⟨x7_1, rfl, HA, HK1, HB⟩ := hrel
    cases gk with
    | zero => exact absurd HA.out (by simp [impl_KidsOk.l0])
    | succ k1 =>
      have H := HA.out
      clear HA
      simp only [impl_KidsOk.l0] at H
      by_cases c2 : x7_1 < (l0.length : Int)
      · rw [if_pos c2] at H
        have c2b0 : decide (x7_1 < (l0.length : Int)) = true := decide_eq_true c2
        clear c2
        replace H := ifN H
        obtain ⟨c3, H⟩ := H
        have c3b0 : decide (0 ≤ x7_1) = true := decide_eq_true c3
        clear c3
        replace H := ifN H
        obtain ⟨c4, H⟩ := H
        have c4b0 : decide (x7_1 < (l0.length : Int)) = true := decide_eq_true c4
        clear c4
        replace H := bE H
        obtain ⟨t137, A5, H⟩ := H
        by_cases c6 : t137 = true
        · subst c6
          replace H := ifT H
          replace H := bE H
          obtain ⟨t138, A7, H⟩ := H
          by_cases c8 : t138 = true
          · subst c8
            replace H := ifT H
            replace H := bE H
            obtain ⟨t139, A9, H⟩ := H
            by_cases c10 : t139 = true
            · subst c10
              replace H := ifT H
              by_cases c11 : ((rd_T31 l0 x7_1).f3) < 0
              · rw [if_pos c11] at H
                have c11b0 : decide (((rd_T31 l0 x7_1).f3) < 0) = true := decide_eq_true c11
                clear c11
                obtain rfl := Option.some.inj H
                have p135 : 0 ≤ (x7_1 : Int) := DT
                have q135 : x7_1 < (l0.length : Int) := DT
                obtain ⟨ad135, e135, hx135_0, hx135_1, hx135_2, hx135_3, hx135_4⟩ := at_T31 HR0.out x7_1 p135 q135
                cases e135
                replace hx135_0 := (HB.out.cell (World.block_lt_of_cell? w _ hx135_0)).trans hx135_0
                replace hx135_1 := (HB.out.cell (World.block_lt_of_cell? w _ hx135_1)).trans hx135_1
                replace hx135_2 := (HB.out.cell (World.block_lt_of_cell? w _ hx135_2)).trans hx135_2
                replace hx135_3 := (HB.out.cell (World.block_lt_of_cell? w _ hx135_3)).trans hx135_3
                replace hx135_4 := (HB.out.cell (World.block_lt_of_cell? w _ hx135_4)).trans hx135_4
                replace p135 := eq_true p135
                replace q135 := eq_true q135
                try go_wp2_with (first | ((with_reducible refine gate_dst (N := 4) rfl ?_); refine gBx 4 #[.int .i64 0, .int .i64 0, .int .i64 0, .int .i64 0, .int .i64 0] 31 ?_; intro gb136 hg w12 hbox hb; have BK136 := aM (hbox); have GW136 := aM ((by rw [hg]; exact (below_size TB) : w.heap.size ≤ gb136)); have GE136 := aM ((by rw [hg]; exact (below_size TB) : w.heap.size ≤ gb136)); replace HB := aM (below_step TB hb); clear hb hbox hg; obtain ⟨hcz13_0, hcz13_1, hcz13_2, hcz13_3, hcz13_4⟩ := cz5 BK136.out; obtain ⟨hfz13_0, hfz13_1, hfz13_2, hfz13_3, hfz13_4⟩ := fz5 BK136.out))
                have n0_ : Aside0 ((((((w12.setCell ⟨gb136, 0, none⟩ (.int .i64 ((rd_T31 l0 x7_1).f0))).setCell ⟨gb136, 1, none⟩ (.int .i64 ((rd_T31 l0 x7_1).f1))).setCell ⟨gb136, 2, none⟩ (.int .i64 ((rd_T31 l0 x7_1).f2))).setCell ⟨gb136, 3, none⟩ (.int .i64 ((rd_T31 l0 x7_1).f3))).setCell ⟨gb136, 4, none⟩ (.int .i64 ((rd_T31 l0 x7_1).f4))).heap[gb136]? = some (.cells #[.int .i64 ((rd_T31 l0 x7_1).f0), .int .i64 ((rd_T31 l0 x7_1).f1), .int .i64 ((rd_T31 l0 x7_1).f2), .int .i64 ((rd_T31 l0 x7_1).f3), .int .i64 ((rd_T31 l0 x7_1).f4)] 31 (0, 0))) := ⟨by (with_reducible repeat (first | refine blk_drewN ?_ _ | refine blk_drew ?_ | refine blk_alloc ?_ _)); refine blk_put (cs := #[.int .i64 ((rd_T31 l0 x7_1).f0), .int .i64 ((rd_T31 l0 x7_1).f1), .int .i64 ((rd_T31 l0 x7_1).f2), .int .i64 ((rd_T31 l0 x7_1).f3), .int .i64 0]) ?_ 4 _ rfl; (with_reducible repeat (first | refine blk_drewN ?_ _ | refine blk_drew ?_ | refine blk_alloc ?_ _)); refine blk_put (cs := #[.int .i64 ((rd_T31 l0 x7_1).f0), .int .i64 ((rd_T31 l0 x7_1).f1), .int .i64 ((rd_T31 l0 x7_1).f2), .int .i64 0, .int .i64 0]) ?_ 3 _ rfl; (with_reducible repeat (first | refine blk_drewN ?_ _ | refine blk_drew ?_ | refine blk_alloc ?_ _)); refine blk_put (cs := #[.int .i64 ((rd_T31 l0 x7_1).f0), .int .i64 ((rd_T31 l0 x7_1).f1), .int .i64 0, .int .i64 0, .int .i64 0]) ?_ 2 _ rfl; (with_reducible repeat (first | refine blk_drewN ?_ _ | refine blk_drew ?_ | refine blk_alloc ?_ _)); refine blk_put (cs := #[.int .i64 ((rd_T31 l0 x7_1).f0), .int .i64 0, .int .i64 0, .int .i64 0, .int .i64 0]) ?_ 1 _ rfl; (with_reducible repeat (first | refine blk_drewN ?_ _ | refine blk_drew ?_ | refine blk_alloc ?_ _)); refine blk_put (cs := #[.int .i64 0, .int .i64 0, .int .i64 0, .int .i64 0, .int .i64 0]) ?_ 0 _ rfl; (with_reducible repeat (first | refine blk_drewN ?_ _ | refine blk_drew ?_ | refine blk_alloc ?_ _)); exact BK136.out⟩
                have n1_ : Aside0 (Below w.heap.size w (((((w12.setCell ⟨gb136, 0, none⟩ (.int .i64 ((rd_T31 l0 x7_1).f0))).setCell ⟨gb136, 1, none⟩ (.int .i64 ((rd_T31 l0 x7_1).f1))).setCell ⟨gb136, 2, none⟩ (.int .i64 ((rd_T31 l0 x7_1).f2))).setCell ⟨gb136, 3, none⟩ (.int .i64 ((rd_T31 l0 x7_1).f3))).setCell ⟨gb136, 4, none⟩ (.int .i64 ((rd_T31 l0 x7_1).f4)))) := ⟨TB⟩
                (try clear BK136)
                (try clear HB)
                generalize (((((w12.setCell ⟨gb136, 0, none⟩ (.int .i64 ((rd_T31 l0 x7_1).f0))).setCell ⟨gb136, 1, none⟩ (.int .i64 ((rd_T31 l0 x7_1).f1))).setCell ⟨gb136, 2, none⟩ (.int .i64 ((rd_T31 l0 x7_1).f2))).setCell ⟨gb136, 3, none⟩ (.int .i64 ((rd_T31 l0 x7_1).f3))).setCell ⟨gb136, 4, none⟩ (.int .i64 ((rd_T31 l0 x7_1).f4))) = w14 at n0_ n1_ ⊢
                have BK136 := n0_
                have HB := n1_
                clear n0_ n1_
                replace BK136 := aM (blk_drew BK136.out)
                replace HB := aM (below_drew1 HB.out)
                refine start_ (n := 42) (S := fun w' => w'.cell? ⟨gb136, 0, none⟩ = some (.int .i64 ((rd_T31 l0 x7_1).f0)) ∧ w'.cell? ⟨gb136, 1, none⟩ = some (.int .i64 ((rd_T31 l0 x7_1).f1)) ∧ w'.cell? ⟨gb136, 2, none⟩ = some (.int .i64 ((rd_T31 l0 x7_1).f2)) ∧ w'.cell? ⟨gb136, 3, none⟩ = some (.int .i64 ((rd_T31 l0 x7_1).f3)) ∧ w'.cell? ⟨gb136, 4, none⟩ = some (.int .i64 ((rd_T31 l0 x7_1).f4))) (ds := []) (Array.replicate 42 false) (by kernel_rfl) rfl rfl (cz5 BK136.out) (fun hHeld => ?_); refine with_tabW impl_KidsOk.tab4 impl_KidsOk.bits4 (fun HT_ HW_ => ?_)
                generalize w14.drew = w15 at BK136 HB hHeld ⊢
                refine pP 0 (some 12) ?_
                refine pT 1 (some 13) ?_
                refine pO 2 (some 14) (fun K hK => ?_)
                refine gG Try.func12 #[.int .i64 ((rd_T31 l0 x7_1).f0)] ?_
                with_reducible refine (impl_isId.calls ((rd_T31 l0 x7_1).f0) true _ A5.out).mono ?_
                rintro e w' ⟨rfl, ⟨nd, rfl⟩⟩
                refine ⟨_, rfl, ?_⟩
                refine hK.out _ _ (cz5 BK136.out) (fun hHeld => ?_)
                clear hK K
                refine nR ?_
                refine pP 3 (some 15) ?_
                refine pP 4 (some 16) ?_
                refine pP 5 (some 17) ?_
                refine pT 6 (some 18) ?_
                refine pO 7 (some 19) (fun K hK => ?_)
                refine gG Try.func13 #[.int .i64 ((rd_T31 l0 x7_1).f1)] ?_
                with_reducible refine (impl_SetOk.calls ((rd_T31 l0 x7_1).f1) true _ A7.out).mono ?_
                rintro e w' ⟨rfl, ⟨nd, rfl⟩⟩
                refine ⟨_, rfl, ?_⟩
                refine hK.out _ _ (cz5 BK136.out) (fun hHeld => ?_)
                clear hK K
                refine nR ?_
                refine pP 8 (some 20) ?_
                refine pP 9 (some 21) ?_
                refine pP 10 (some 22) ?_
                refine pP 11 (some 23) ?_
                refine pT 12 (some 24) ?_
                refine pO 13 (some 25) (fun K hK => ?_)
                refine gG Try.func13 #[.int .i64 ((rd_T31 l0 x7_1).f2)] ?_
                with_reducible refine (impl_SetOk.calls ((rd_T31 l0 x7_1).f2) true _ A9.out).mono ?_
                rintro e w' ⟨rfl, ⟨nd, rfl⟩⟩
                refine ⟨_, rfl, ?_⟩
                refine hK.out _ _ (cz5 BK136.out) (fun hHeld => ?_)
                clear hK K
                refine nR ?_
                refine pP 14 (some 26) ?_
                refine pP 15 (some 27) ?_
                refine pP 16 (some 28) ?_
                refine pP 17 (some 29) ?_
                refine pT 18 (some 30) ?_
                refine pP 19 (some 31) ?_
                refine pP 20 (some 32) ?_
                refine pP 21 (some 33) ?_
                refine pX 22 (some 34) ?_
                refine pX 23 (some 35) ?_
                refine pX 24 (some 36) ?_
                refine pX 25 (some 37) ?_
                refine pP 26 (some 38) ?_
                refine pP 27 (some 39) ?_
                refine pX 28 (some 40) ?_
                refine pX 29 (some 41) ?_
                refine pX 30 (some 42) ?_
                refine pX 31 (some 43) ?_
                refine pX 32 (some 44) ?_
                refine pX 33 (some 45) ?_
                refine pX 34 (some 46) ?_
                refine pX 35 (some 47) ?_
                refine pX 36 (some 48) ?_
                refine pX 37 (some 49) ?_
                refine pX 38 (some 50) ?_
                refine pX 39 (some 51) ?_
                refine pX 40 (some 52) ?_
                refine pP 41 (some 53) ?_
                refine done_ (done_of HT_.out (by kernel_rfl)) ?_
                try go_wp2
                go_ret
                exact ⟨by first | rfl | (simp [errW_none, errW_some] <;> rfl) | (simp [*, errW_none, errW_some] <;> rfl), TB⟩
              · rw [if_neg c11] at H
                have c11b0 : decide (((rd_T31 l0 x7_1).f3) < 0) = false := decide_eq_false c11
                clear c11
                replace H := bE H
                obtain ⟨t140, A16, H⟩ := H
                by_cases c17 : t140 = true
                · subst c17
                  replace H := ifT H
                  by_cases c18 : x7_1 > 0
                  · rw [if_pos c18] at H
                    have c18b0 : decide (0 < x7_1) = true := decide_eq_true c18
                    clear c18
                    obtain ⟨ji19, hji19⟩ : ∃ j_ : Int, (wrap64 (x7_1 - 1)) = j_ := ⟨_, rfl⟩
                    (first | rw [hji19] at H | simp only [hji19] at H | skip)
                    (try rw [hji19] at A5)
                    (try rw [hji19] at A7)
                    (try rw [hji19] at A9)
                    (try rw [hji19] at A16)
                    have hji19w : (IntKind.i64.wrap (x7_1 - 1)) = ji19 := (i64_w _).trans hji19
                    replace H := ifN H
                    obtain ⟨c20, H⟩ := H
                    have c20b0 : decide (0 ≤ (ji19)) = true := decide_eq_true c20
                    clear c20
                    replace H := ifN H
                    obtain ⟨c21, H⟩ := H
                    have c21b0 : decide ((ji19) < (l0.length : Int)) = true := decide_eq_true c21
                    clear c21
                    by_cases c22 : ((rd_T31 l0 x7_1).f0) ≤ ((rd_T31 l0 (ji19)).f0)
                    · rw [if_pos c22] at H
                      have c22b0 : decide (((rd_T31 l0 x7_1).f0) ≤ ((rd_T31 l0 (ji19)).f0)) = true := decide_eq_true c22
                      clear c22
                      obtain rfl := Option.some.inj H
                      have p135 : 0 ≤ (x7_1 : Int) := DT
                      have q135 : x7_1 < (l0.length : Int) := DT
                      obtain ⟨ad135, e135, hx135_0, hx135_1, hx135_2, hx135_3, hx135_4⟩ := at_T31 HR0.out x7_1 p135 q135
                      cases e135
                      replace hx135_0 := (HB.out.cell (World.block_lt_of_cell? w _ hx135_0)).trans hx135_0
                      replace hx135_1 := (HB.out.cell (World.block_lt_of_cell? w _ hx135_1)).trans hx135_1
                      replace hx135_2 := (HB.out.cell (World.block_lt_of_cell? w _ hx135_2)).trans hx135_2
                      replace hx135_3 := (HB.out.cell (World.block_lt_of_cell? w _ hx135_3)).trans hx135_3
                      replace hx135_4 := (HB.out.cell (World.block_lt_of_cell? w _ hx135_4)).trans hx135_4
                      replace p135 := eq_true p135
                      replace q135 := eq_true q135
                      try go_wp2_with (first | ((with_reducible refine gate_dst (N := 4) rfl ?_); refine gBx 4 #[.int .i64 0, .int .i64 0, .int .i64 0, .int .i64 0, .int .i64 0] 31 ?_; intro gb136 hg w23 hbox hb; have BK136 := aM (hbox); have GW136 := aM ((by rw [hg]; exact (below_size TB) : w.heap.size ≤ gb136)); have GE136 := aM ((by rw [hg]; exact (below_size TB) : w.heap.size ≤ gb136)); replace HB := aM (below_step TB hb); clear hb hbox hg; obtain ⟨hcz24_0, hcz24_1, hcz24_2, hcz24_3, hcz24_4⟩ := cz5 BK136.out; obtain ⟨hfz24_0, hfz24_1, hfz24_2, hfz24_3, hfz24_4⟩ := fz5 BK136.out))
                      have n0_ : Aside0 ((((((w23.setCell ⟨gb136, 0, none⟩ (.int .i64 ((rd_T31 l0 x7_1).f0))).setCell ⟨gb136, 1, none⟩ (.int .i64 ((rd_T31 l0 x7_1).f1))).setCell ⟨gb136, 2, none⟩ (.int .i64 ((rd_T31 l0 x7_1).f2))).setCell ⟨gb136, 3, none⟩ (.int .i64 ((rd_T31 l0 x7_1).f3))).setCell ⟨gb136, 4, none⟩ (.int .i64 ((rd_T31 l0 x7_1).f4))).heap[gb136]? = some (.cells #[.int .i64 ((rd_T31 l0 x7_1).f0), .int .i64 ((rd_T31 l0 x7_1).f1), .int .i64 ((rd_T31 l0 x7_1).f2), .int .i64 ((rd_T31 l0 x7_1).f3), .int .i64 ((rd_T31 l0 x7_1).f4)] 31 (0, 0))) := ⟨by (with_reducible repeat (first | refine blk_drewN ?_ _ | refine blk_drew ?_ | refine blk_alloc ?_ _)); refine blk_put (cs := #[.int .i64 ((rd_T31 l0 x7_1).f0), .int .i64 ((rd_T31 l0 x7_1).f1), .int .i64 ((rd_T31 l0 x7_1).f2), .int .i64 ((rd_T31 l0 x7_1).f3), .int .i64 0]) ?_ 4 _ rfl; (with_reducible repeat (first | refine blk_drewN ?_ _ | refine blk_drew ?_ | refine blk_alloc ?_ _)); refine blk_put (cs := #[.int .i64 ((rd_T31 l0 x7_1).f0), .int .i64 ((rd_T31 l0 x7_1).f1), .int .i64 ((rd_T31 l0 x7_1).f2), .int .i64 0, .int .i64 0]) ?_ 3 _ rfl; (with_reducible repeat (first | refine blk_drewN ?_ _ | refine blk_drew ?_ | refine blk_alloc ?_ _)); refine blk_put (cs := #[.int .i64 ((rd_T31 l0 x7_1).f0), .int .i64 ((rd_T31 l0 x7_1).f1), .int .i64 0, .int .i64 0, .int .i64 0]) ?_ 2 _ rfl; (with_reducible repeat (first | refine blk_drewN ?_ _ | refine blk_drew ?_ | refine blk_alloc ?_ _)); refine blk_put (cs := #[.int .i64 ((rd_T31 l0 x7_1).f0), .int .i64 0, .int .i64 0, .int .i64 0, .int .i64 0]) ?_ 1 _ rfl; (with_reducible repeat (first | refine blk_drewN ?_ _ | refine blk_drew ?_ | refine blk_alloc ?_ _)); refine blk_put (cs := #[.int .i64 0, .int .i64 0, .int .i64 0, .int .i64 0, .int .i64 0]) ?_ 0 _ rfl; (with_reducible repeat (first | refine blk_drewN ?_ _ | refine blk_drew ?_ | refine blk_alloc ?_ _)); exact BK136.out⟩
                      have n1_ : Aside0 (Below w.heap.size w (((((w23.setCell ⟨gb136, 0, none⟩ (.int .i64 ((rd_T31 l0 x7_1).f0))).setCell ⟨gb136, 1, none⟩ (.int .i64 ((rd_T31 l0 x7_1).f1))).setCell ⟨gb136, 2, none⟩ (.int .i64 ((rd_T31 l0 x7_1).f2))).setCell ⟨gb136, 3, none⟩ (.int .i64 ((rd_T31 l0 x7_1).f3))).setCell ⟨gb136, 4, none⟩ (.int .i64 ((rd_T31 l0 x7_1).f4)))) := ⟨TB⟩
                      (try clear BK136)
                      (try clear HB)
                      generalize (((((w23.setCell ⟨gb136, 0, none⟩ (.int .i64 ((rd_T31 l0 x7_1).f0))).setCell ⟨gb136, 1, none⟩ (.int .i64 ((rd_T31 l0 x7_1).f1))).setCell ⟨gb136, 2, none⟩ (.int .i64 ((rd_T31 l0 x7_1).f2))).setCell ⟨gb136, 3, none⟩ (.int .i64 ((rd_T31 l0 x7_1).f3))).setCell ⟨gb136, 4, none⟩ (.int .i64 ((rd_T31 l0 x7_1).f4))) = w25 at n0_ n1_ ⊢
                      have BK136 := n0_
                      have HB := n1_
                      clear n0_ n1_
                      replace BK136 := aM (blk_drew BK136.out)
                      replace HB := aM (below_drew1 HB.out)
                      have p141 : 0 ≤ ((ji19) : Int) := DT
                      have q141 : (ji19) < (l0.length : Int) := DT
                      obtain ⟨ad141, e141, hx141_0, hx141_1, hx141_2, hx141_3, hx141_4⟩ := at_T31 HR0.out (ji19) p141 q141
                      have hw141_4 := hx141_4
                      have hw141_3 := hx141_3
                      have hw141_2 := hx141_2
                      have hw141_1 := hx141_1
                      have hw141_0 := hx141_0
                      obtain rfl : ad135 = ad141 := (by injection e141)
                      replace hx141_0 := (HB.out.cell (World.block_lt_of_cell? w _ hx141_0)).trans hx141_0
                      replace hx141_1 := (HB.out.cell (World.block_lt_of_cell? w _ hx141_1)).trans hx141_1
                      replace hx141_2 := (HB.out.cell (World.block_lt_of_cell? w _ hx141_2)).trans hx141_2
                      replace hx141_3 := (HB.out.cell (World.block_lt_of_cell? w _ hx141_3)).trans hx141_3
                      replace hx141_4 := (HB.out.cell (World.block_lt_of_cell? w _ hx141_4)).trans hx141_4
                      replace p141 := eq_true p141
                      replace q141 := eq_true q141
                      refine start_ (n := 42) (S := fun w' => w'.cell? ⟨gb136, 0, none⟩ = some (.int .i64 ((rd_T31 l0 x7_1).f0)) ∧ w'.cell? ⟨gb136, 1, none⟩ = some (.int .i64 ((rd_T31 l0 x7_1).f1)) ∧ w'.cell? ⟨gb136, 2, none⟩ = some (.int .i64 ((rd_T31 l0 x7_1).f2)) ∧ w'.cell? ⟨gb136, 3, none⟩ = some (.int .i64 ((rd_T31 l0 x7_1).f3)) ∧ w'.cell? ⟨gb136, 4, none⟩ = some (.int .i64 ((rd_T31 l0 x7_1).f4)) ∧ w'.cell? (ad135.add (((ji19)).toNat * 5)) = some (.int .i64 ((rd_T31 l0 (ji19)).f0)) ∧ w'.cell? ⟨(ad135.add (((ji19)).toNat * 5)).block, (ad135.add (((ji19)).toNat * 5)).off + 1, none⟩ = some (.int .i64 ((rd_T31 l0 (ji19)).f1)) ∧ w'.cell? ⟨(ad135.add (((ji19)).toNat * 5)).block, (ad135.add (((ji19)).toNat * 5)).off + 2, none⟩ = some (.int .i64 ((rd_T31 l0 (ji19)).f2)) ∧ w'.cell? ⟨(ad135.add (((ji19)).toNat * 5)).block, (ad135.add (((ji19)).toNat * 5)).off + 3, none⟩ = some (.int .i64 ((rd_T31 l0 (ji19)).f3)) ∧ w'.cell? ⟨(ad135.add (((ji19)).toNat * 5)).block, (ad135.add (((ji19)).toNat * 5)).off + 4, none⟩ = some (.int .i64 ((rd_T31 l0 (ji19)).f4))) (ds := []) (Array.replicate 42 false) (by kernel_rfl) rfl rfl ⟨(blk_cell BK136.out 0).trans rfl, (blk_cell BK136.out 1).trans rfl, (blk_cell BK136.out 2).trans rfl, (blk_cell BK136.out 3).trans rfl, (blk_cell BK136.out 4).trans rfl, ((HB.out.cell (World.block_lt_of_cell? w _ hw141_0)).trans hw141_0), ((HB.out.cell (World.block_lt_of_cell? w _ hw141_1)).trans hw141_1), ((HB.out.cell (World.block_lt_of_cell? w _ hw141_2)).trans hw141_2), ((HB.out.cell (World.block_lt_of_cell? w _ hw141_3)).trans hw141_3), ((HB.out.cell (World.block_lt_of_cell? w _ hw141_4)).trans hw141_4)⟩ (fun hHeld => ?_); refine with_tabW impl_KidsOk.tab4 impl_KidsOk.bits4 (fun HT_ HW_ => ?_)
                      generalize w25.drew = w26 at BK136 HB hx141_0 hx141_1 hx141_2 hx141_3 hx141_4 hHeld ⊢
                      refine pP 0 (some 12) ?_
                      refine pT 1 (some 13) ?_
                      refine pO 2 (some 14) (fun K hK => ?_)
                      refine gG Try.func12 #[.int .i64 ((rd_T31 l0 x7_1).f0)] ?_
                      with_reducible refine (impl_isId.calls ((rd_T31 l0 x7_1).f0) true _ A5.out).mono ?_
                      rintro e w' ⟨rfl, ⟨nd, rfl⟩⟩
                      refine ⟨_, rfl, ?_⟩
                      refine hK.out _ _ ⟨(blk_cell BK136.out 0).trans rfl, (blk_cell BK136.out 1).trans rfl, (blk_cell BK136.out 2).trans rfl, (blk_cell BK136.out 3).trans rfl, (blk_cell BK136.out 4).trans rfl, ((HB.out.cell (World.block_lt_of_cell? w _ hw141_0)).trans hw141_0), ((HB.out.cell (World.block_lt_of_cell? w _ hw141_1)).trans hw141_1), ((HB.out.cell (World.block_lt_of_cell? w _ hw141_2)).trans hw141_2), ((HB.out.cell (World.block_lt_of_cell? w _ hw141_3)).trans hw141_3), ((HB.out.cell (World.block_lt_of_cell? w _ hw141_4)).trans hw141_4)⟩ (fun hHeld => ?_)
                      clear hK K
                      refine nR ?_
                      refine pP 3 (some 15) ?_
                      refine pP 4 (some 16) ?_
                      refine pP 5 (some 17) ?_
                      refine pT 6 (some 18) ?_
                      refine pO 7 (some 19) (fun K hK => ?_)
                      refine gG Try.func13 #[.int .i64 ((rd_T31 l0 x7_1).f1)] ?_
                      with_reducible refine (impl_SetOk.calls ((rd_T31 l0 x7_1).f1) true _ A7.out).mono ?_
                      rintro e w' ⟨rfl, ⟨nd, rfl⟩⟩
                      refine ⟨_, rfl, ?_⟩
                      refine hK.out _ _ ⟨(blk_cell BK136.out 0).trans rfl, (blk_cell BK136.out 1).trans rfl, (blk_cell BK136.out 2).trans rfl, (blk_cell BK136.out 3).trans rfl, (blk_cell BK136.out 4).trans rfl, ((HB.out.cell (World.block_lt_of_cell? w _ hw141_0)).trans hw141_0), ((HB.out.cell (World.block_lt_of_cell? w _ hw141_1)).trans hw141_1), ((HB.out.cell (World.block_lt_of_cell? w _ hw141_2)).trans hw141_2), ((HB.out.cell (World.block_lt_of_cell? w _ hw141_3)).trans hw141_3), ((HB.out.cell (World.block_lt_of_cell? w _ hw141_4)).trans hw141_4)⟩ (fun hHeld => ?_)
                      clear hK K
                      refine nR ?_
                      refine pP 8 (some 20) ?_
                      refine pP 9 (some 21) ?_
                      refine pP 10 (some 22) ?_
                      refine pP 11 (some 23) ?_
                      refine pT 12 (some 24) ?_
                      refine pO 13 (some 25) (fun K hK => ?_)
                      refine gG Try.func13 #[.int .i64 ((rd_T31 l0 x7_1).f2)] ?_
                      with_reducible refine (impl_SetOk.calls ((rd_T31 l0 x7_1).f2) true _ A9.out).mono ?_
                      rintro e w' ⟨rfl, ⟨nd, rfl⟩⟩
                      refine ⟨_, rfl, ?_⟩
                      refine hK.out _ _ ⟨(blk_cell BK136.out 0).trans rfl, (blk_cell BK136.out 1).trans rfl, (blk_cell BK136.out 2).trans rfl, (blk_cell BK136.out 3).trans rfl, (blk_cell BK136.out 4).trans rfl, ((HB.out.cell (World.block_lt_of_cell? w _ hw141_0)).trans hw141_0), ((HB.out.cell (World.block_lt_of_cell? w _ hw141_1)).trans hw141_1), ((HB.out.cell (World.block_lt_of_cell? w _ hw141_2)).trans hw141_2), ((HB.out.cell (World.block_lt_of_cell? w _ hw141_3)).trans hw141_3), ((HB.out.cell (World.block_lt_of_cell? w _ hw141_4)).trans hw141_4)⟩ (fun hHeld => ?_)
                      clear hK K
                      refine nR ?_
                      refine pP 14 (some 26) ?_
                      refine pP 15 (some 27) ?_
                      refine pP 16 (some 28) ?_
                      refine pP 17 (some 29) ?_
                      refine pT 18 (some 30) ?_
                      refine pP 19 (some 31) ?_
                      refine pP 20 (some 32) ?_
                      refine pP 21 (some 33) ?_
                      refine pP 22 (some 34) ?_
                      refine pT 23 (some 35) ?_
                      refine pO 24 (some 36) (fun K hK => ?_)
                      refine gG Try.func13 #[.int .i64 ((rd_T31 l0 x7_1).f4)] ?_
                      with_reducible refine (impl_SetOk.calls ((rd_T31 l0 x7_1).f4) true _ A16.out).mono ?_
                      rintro e w' ⟨rfl, ⟨nd, rfl⟩⟩
                      refine ⟨_, rfl, ?_⟩
                      refine hK.out _ _ ⟨(blk_cell BK136.out 0).trans rfl, (blk_cell BK136.out 1).trans rfl, (blk_cell BK136.out 2).trans rfl, (blk_cell BK136.out 3).trans rfl, (blk_cell BK136.out 4).trans rfl, ((HB.out.cell (World.block_lt_of_cell? w _ hw141_0)).trans hw141_0), ((HB.out.cell (World.block_lt_of_cell? w _ hw141_1)).trans hw141_1), ((HB.out.cell (World.block_lt_of_cell? w _ hw141_2)).trans hw141_2), ((HB.out.cell (World.block_lt_of_cell? w _ hw141_3)).trans hw141_3), ((HB.out.cell (World.block_lt_of_cell? w _ hw141_4)).trans hw141_4)⟩ (fun hHeld => ?_)
                      clear hK K
                      refine nR ?_
                      refine pP 25 (some 37) ?_
                      refine pP 26 (some 38) ?_
                      refine pP 27 (some 39) ?_
                      refine pP 28 (some 40) ?_
                      refine pP 29 (some 41) ?_
                      refine pP 30 (some 42) ?_
                      refine pP 31 (some 43) ?_
                      refine pP 33 (some 45) ?_
                      refine pP 34 (some 46) ?_
                      refine pP 35 (some 47) ?_
                      refine pP 36 (some 48) ?_
                      refine pP 37 (some 49) ?_
                      refine pT 32 (some 44) ?_
                      refine pT 38 (some 50) ?_
                      refine pP 39 (some 51) ?_
                      refine pP 40 (some 52) ?_
                      refine pP 41 (some 53) ?_
                      refine done_ (done_of HT_.out (by kernel_rfl)) ?_
                      try go_wp2
                      go_ret
                      exact ⟨by first | rfl | (simp [errW_none, errW_some] <;> rfl) | (simp only [← hji19]; first | rfl | (simp [errW_none, errW_some] <;> rfl)) | (simp [*, errW_none, errW_some] <;> rfl), TB⟩
                    · rw [if_neg c22] at H
                      have c22b0 : decide (((rd_T31 l0 x7_1).f0) ≤ ((rd_T31 l0 (ji19)).f0)) = false := decide_eq_false c22
                      clear c22
                      have H' := aM H
                      clear H
                      have p135 : 0 ≤ (x7_1 : Int) := DT
                      have q135 : x7_1 < (l0.length : Int) := DT
                      obtain ⟨ad135, e135, hx135_0, hx135_1, hx135_2, hx135_3, hx135_4⟩ := at_T31 HR0.out x7_1 p135 q135
                      cases e135
                      replace hx135_0 := (HB.out.cell (World.block_lt_of_cell? w _ hx135_0)).trans hx135_0
                      replace hx135_1 := (HB.out.cell (World.block_lt_of_cell? w _ hx135_1)).trans hx135_1
                      replace hx135_2 := (HB.out.cell (World.block_lt_of_cell? w _ hx135_2)).trans hx135_2
                      replace hx135_3 := (HB.out.cell (World.block_lt_of_cell? w _ hx135_3)).trans hx135_3
                      replace hx135_4 := (HB.out.cell (World.block_lt_of_cell? w _ hx135_4)).trans hx135_4
                      replace p135 := eq_true p135
                      replace q135 := eq_true q135
                      try go_wp2_with (first | ((with_reducible refine gate_dst (N := 4) rfl ?_); refine gBx 4 #[.int .i64 0, .int .i64 0, .int .i64 0, .int .i64 0, .int .i64 0] 31 ?_; intro gb136 hg w27 hbox hb; have BK136 := aM (hbox); have GW136 := aM ((by rw [hg]; exact (below_size TB) : w.heap.size ≤ gb136)); have GE136 := aM ((by rw [hg]; exact (below_size TB) : w.heap.size ≤ gb136)); replace HB := aM (below_step TB hb); clear hb hbox hg; obtain ⟨hcz28_0, hcz28_1, hcz28_2, hcz28_3, hcz28_4⟩ := cz5 BK136.out; obtain ⟨hfz28_0, hfz28_1, hfz28_2, hfz28_3, hfz28_4⟩ := fz5 BK136.out))
                      have n0_ : Aside0 ((((((w27.setCell ⟨gb136, 0, none⟩ (.int .i64 ((rd_T31 l0 x7_1).f0))).setCell ⟨gb136, 1, none⟩ (.int .i64 ((rd_T31 l0 x7_1).f1))).setCell ⟨gb136, 2, none⟩ (.int .i64 ((rd_T31 l0 x7_1).f2))).setCell ⟨gb136, 3, none⟩ (.int .i64 ((rd_T31 l0 x7_1).f3))).setCell ⟨gb136, 4, none⟩ (.int .i64 ((rd_T31 l0 x7_1).f4))).heap[gb136]? = some (.cells #[.int .i64 ((rd_T31 l0 x7_1).f0), .int .i64 ((rd_T31 l0 x7_1).f1), .int .i64 ((rd_T31 l0 x7_1).f2), .int .i64 ((rd_T31 l0 x7_1).f3), .int .i64 ((rd_T31 l0 x7_1).f4)] 31 (0, 0))) := ⟨by (with_reducible repeat (first | refine blk_drewN ?_ _ | refine blk_drew ?_ | refine blk_alloc ?_ _)); refine blk_put (cs := #[.int .i64 ((rd_T31 l0 x7_1).f0), .int .i64 ((rd_T31 l0 x7_1).f1), .int .i64 ((rd_T31 l0 x7_1).f2), .int .i64 ((rd_T31 l0 x7_1).f3), .int .i64 0]) ?_ 4 _ rfl; (with_reducible repeat (first | refine blk_drewN ?_ _ | refine blk_drew ?_ | refine blk_alloc ?_ _)); refine blk_put (cs := #[.int .i64 ((rd_T31 l0 x7_1).f0), .int .i64 ((rd_T31 l0 x7_1).f1), .int .i64 ((rd_T31 l0 x7_1).f2), .int .i64 0, .int .i64 0]) ?_ 3 _ rfl; (with_reducible repeat (first | refine blk_drewN ?_ _ | refine blk_drew ?_ | refine blk_alloc ?_ _)); refine blk_put (cs := #[.int .i64 ((rd_T31 l0 x7_1).f0), .int .i64 ((rd_T31 l0 x7_1).f1), .int .i64 0, .int .i64 0, .int .i64 0]) ?_ 2 _ rfl; (with_reducible repeat (first | refine blk_drewN ?_ _ | refine blk_drew ?_ | refine blk_alloc ?_ _)); refine blk_put (cs := #[.int .i64 ((rd_T31 l0 x7_1).f0), .int .i64 0, .int .i64 0, .int .i64 0, .int .i64 0]) ?_ 1 _ rfl; (with_reducible repeat (first | refine blk_drewN ?_ _ | refine blk_drew ?_ | refine blk_alloc ?_ _)); refine blk_put (cs := #[.int .i64 0, .int .i64 0, .int .i64 0, .int .i64 0, .int .i64 0]) ?_ 0 _ rfl; (with_reducible repeat (first | refine blk_drewN ?_ _ | refine blk_drew ?_ | refine blk_alloc ?_ _)); exact BK136.out⟩
                      have n1_ : Aside0 (Below w.heap.size w (((((w27.setCell ⟨gb136, 0, none⟩ (.int .i64 ((rd_T31 l0 x7_1).f0))).setCell ⟨gb136, 1, none⟩ (.int .i64 ((rd_T31 l0 x7_1).f1))).setCell ⟨gb136, 2, none⟩ (.int .i64 ((rd_T31 l0 x7_1).f2))).setCell ⟨gb136, 3, none⟩ (.int .i64 ((rd_T31 l0 x7_1).f3))).setCell ⟨gb136, 4, none⟩ (.int .i64 ((rd_T31 l0 x7_1).f4)))) := ⟨TB⟩
                      (try clear BK136)
                      (try clear HB)
                      generalize (((((w27.setCell ⟨gb136, 0, none⟩ (.int .i64 ((rd_T31 l0 x7_1).f0))).setCell ⟨gb136, 1, none⟩ (.int .i64 ((rd_T31 l0 x7_1).f1))).setCell ⟨gb136, 2, none⟩ (.int .i64 ((rd_T31 l0 x7_1).f2))).setCell ⟨gb136, 3, none⟩ (.int .i64 ((rd_T31 l0 x7_1).f3))).setCell ⟨gb136, 4, none⟩ (.int .i64 ((rd_T31 l0 x7_1).f4))) = w29 at n0_ n1_ ⊢
                      have BK136 := n0_
                      have HB := n1_
                      clear n0_ n1_
                      replace BK136 := aM (blk_drew BK136.out)
                      replace HB := aM (below_drew1 HB.out)
                      have p141 : 0 ≤ ((ji19) : Int) := DT
                      have q141 : (ji19) < (l0.length : Int) := DT
                      obtain ⟨ad141, e141, hx141_0, hx141_1, hx141_2, hx141_3, hx141_4⟩ := at_T31 HR0.out (ji19) p141 q141
                      have hw141_4 := hx141_4
                      have hw141_3 := hx141_3
                      have hw141_2 := hx141_2
                      have hw141_1 := hx141_1
                      have hw141_0 := hx141_0
                      obtain rfl : ad135 = ad141 := (by injection e141)
                      replace hx141_0 := (HB.out.cell (World.block_lt_of_cell? w _ hx141_0)).trans hx141_0
                      replace hx141_1 := (HB.out.cell (World.block_lt_of_cell? w _ hx141_1)).trans hx141_1
                      replace hx141_2 := (HB.out.cell (World.block_lt_of_cell? w _ hx141_2)).trans hx141_2
                      replace hx141_3 := (HB.out.cell (World.block_lt_of_cell? w _ hx141_3)).trans hx141_3
                      replace hx141_4 := (HB.out.cell (World.block_lt_of_cell? w _ hx141_4)).trans hx141_4
                      replace p141 := eq_true p141
                      replace q141 := eq_true q141
                      refine start_ (n := 42) (S := fun w' => w'.cell? ⟨gb136, 0, none⟩ = some (.int .i64 ((rd_T31 l0 x7_1).f0)) ∧ w'.cell? ⟨gb136, 1, none⟩ = some (.int .i64 ((rd_T31 l0 x7_1).f1)) ∧ w'.cell? ⟨gb136, 2, none⟩ = some (.int .i64 ((rd_T31 l0 x7_1).f2)) ∧ w'.cell? ⟨gb136, 3, none⟩ = some (.int .i64 ((rd_T31 l0 x7_1).f3)) ∧ w'.cell? ⟨gb136, 4, none⟩ = some (.int .i64 ((rd_T31 l0 x7_1).f4)) ∧ w'.cell? (ad135.add (((ji19)).toNat * 5)) = some (.int .i64 ((rd_T31 l0 (ji19)).f0)) ∧ w'.cell? ⟨(ad135.add (((ji19)).toNat * 5)).block, (ad135.add (((ji19)).toNat * 5)).off + 1, none⟩ = some (.int .i64 ((rd_T31 l0 (ji19)).f1)) ∧ w'.cell? ⟨(ad135.add (((ji19)).toNat * 5)).block, (ad135.add (((ji19)).toNat * 5)).off + 2, none⟩ = some (.int .i64 ((rd_T31 l0 (ji19)).f2)) ∧ w'.cell? ⟨(ad135.add (((ji19)).toNat * 5)).block, (ad135.add (((ji19)).toNat * 5)).off + 3, none⟩ = some (.int .i64 ((rd_T31 l0 (ji19)).f3)) ∧ w'.cell? ⟨(ad135.add (((ji19)).toNat * 5)).block, (ad135.add (((ji19)).toNat * 5)).off + 4, none⟩ = some (.int .i64 ((rd_T31 l0 (ji19)).f4))) (ds := []) (Array.replicate 42 false) (by kernel_rfl) rfl rfl ⟨(blk_cell BK136.out 0).trans rfl, (blk_cell BK136.out 1).trans rfl, (blk_cell BK136.out 2).trans rfl, (blk_cell BK136.out 3).trans rfl, (blk_cell BK136.out 4).trans rfl, ((HB.out.cell (World.block_lt_of_cell? w _ hw141_0)).trans hw141_0), ((HB.out.cell (World.block_lt_of_cell? w _ hw141_1)).trans hw141_1), ((HB.out.cell (World.block_lt_of_cell? w _ hw141_2)).trans hw141_2), ((HB.out.cell (World.block_lt_of_cell? w _ hw141_3)).trans hw141_3), ((HB.out.cell (World.block_lt_of_cell? w _ hw141_4)).trans hw141_4)⟩ (fun hHeld => ?_); refine with_tabW impl_KidsOk.tab4 impl_KidsOk.bits4 (fun HT_ HW_ => ?_)
                      generalize w29.drew = w30 at BK136 HB hx141_0 hx141_1 hx141_2 hx141_3 hx141_4 hHeld ⊢
                      refine pP 0 (some 12) ?_
                      refine pT 1 (some 13) ?_
                      refine pO 2 (some 14) (fun K hK => ?_)
                      refine gG Try.func12 #[.int .i64 ((rd_T31 l0 x7_1).f0)] ?_
                      with_reducible refine (impl_isId.calls ((rd_T31 l0 x7_1).f0) true _ A5.out).mono ?_
                      rintro e w' ⟨rfl, ⟨nd, rfl⟩⟩
                      refine ⟨_, rfl, ?_⟩
                      refine hK.out _ _ ⟨(blk_cell BK136.out 0).trans rfl, (blk_cell BK136.out 1).trans rfl, (blk_cell BK136.out 2).trans rfl, (blk_cell BK136.out 3).trans rfl, (blk_cell BK136.out 4).trans rfl, ((HB.out.cell (World.block_lt_of_cell? w _ hw141_0)).trans hw141_0), ((HB.out.cell (World.block_lt_of_cell? w _ hw141_1)).trans hw141_1), ((HB.out.cell (World.block_lt_of_cell? w _ hw141_2)).trans hw141_2), ((HB.out.cell (World.block_lt_of_cell? w _ hw141_3)).trans hw141_3), ((HB.out.cell (World.block_lt_of_cell? w _ hw141_4)).trans hw141_4)⟩ (fun hHeld => ?_)
                      clear hK K
                      refine nR ?_
                      refine pP 3 (some 15) ?_
                      refine pP 4 (some 16) ?_
                      refine pP 5 (some 17) ?_
                      refine pT 6 (some 18) ?_
                      refine pO 7 (some 19) (fun K hK => ?_)
                      refine gG Try.func13 #[.int .i64 ((rd_T31 l0 x7_1).f1)] ?_
                      with_reducible refine (impl_SetOk.calls ((rd_T31 l0 x7_1).f1) true _ A7.out).mono ?_
                      rintro e w' ⟨rfl, ⟨nd, rfl⟩⟩
                      refine ⟨_, rfl, ?_⟩
                      refine hK.out _ _ ⟨(blk_cell BK136.out 0).trans rfl, (blk_cell BK136.out 1).trans rfl, (blk_cell BK136.out 2).trans rfl, (blk_cell BK136.out 3).trans rfl, (blk_cell BK136.out 4).trans rfl, ((HB.out.cell (World.block_lt_of_cell? w _ hw141_0)).trans hw141_0), ((HB.out.cell (World.block_lt_of_cell? w _ hw141_1)).trans hw141_1), ((HB.out.cell (World.block_lt_of_cell? w _ hw141_2)).trans hw141_2), ((HB.out.cell (World.block_lt_of_cell? w _ hw141_3)).trans hw141_3), ((HB.out.cell (World.block_lt_of_cell? w _ hw141_4)).trans hw141_4)⟩ (fun hHeld => ?_)
                      clear hK K
                      refine nR ?_
                      refine pP 8 (some 20) ?_
                      refine pP 9 (some 21) ?_
                      refine pP 10 (some 22) ?_
                      refine pP 11 (some 23) ?_
                      refine pT 12 (some 24) ?_
                      refine pO 13 (some 25) (fun K hK => ?_)
                      refine gG Try.func13 #[.int .i64 ((rd_T31 l0 x7_1).f2)] ?_
                      with_reducible refine (impl_SetOk.calls ((rd_T31 l0 x7_1).f2) true _ A9.out).mono ?_
                      rintro e w' ⟨rfl, ⟨nd, rfl⟩⟩
                      refine ⟨_, rfl, ?_⟩
                      refine hK.out _ _ ⟨(blk_cell BK136.out 0).trans rfl, (blk_cell BK136.out 1).trans rfl, (blk_cell BK136.out 2).trans rfl, (blk_cell BK136.out 3).trans rfl, (blk_cell BK136.out 4).trans rfl, ((HB.out.cell (World.block_lt_of_cell? w _ hw141_0)).trans hw141_0), ((HB.out.cell (World.block_lt_of_cell? w _ hw141_1)).trans hw141_1), ((HB.out.cell (World.block_lt_of_cell? w _ hw141_2)).trans hw141_2), ((HB.out.cell (World.block_lt_of_cell? w _ hw141_3)).trans hw141_3), ((HB.out.cell (World.block_lt_of_cell? w _ hw141_4)).trans hw141_4)⟩ (fun hHeld => ?_)
                      clear hK K
                      refine nR ?_
                      refine pP 14 (some 26) ?_
                      refine pP 15 (some 27) ?_
                      refine pP 16 (some 28) ?_
                      refine pP 17 (some 29) ?_
                      refine pT 18 (some 30) ?_
                      refine pP 19 (some 31) ?_
                      refine pP 20 (some 32) ?_
                      refine pP 21 (some 33) ?_
                      refine pP 22 (some 34) ?_
                      refine pT 23 (some 35) ?_
                      refine pO 24 (some 36) (fun K hK => ?_)
                      refine gG Try.func13 #[.int .i64 ((rd_T31 l0 x7_1).f4)] ?_
                      with_reducible refine (impl_SetOk.calls ((rd_T31 l0 x7_1).f4) true _ A16.out).mono ?_
                      rintro e w' ⟨rfl, ⟨nd, rfl⟩⟩
                      refine ⟨_, rfl, ?_⟩
                      refine hK.out _ _ ⟨(blk_cell BK136.out 0).trans rfl, (blk_cell BK136.out 1).trans rfl, (blk_cell BK136.out 2).trans rfl, (blk_cell BK136.out 3).trans rfl, (blk_cell BK136.out 4).trans rfl, ((HB.out.cell (World.block_lt_of_cell? w _ hw141_0)).trans hw141_0), ((HB.out.cell (World.block_lt_of_cell? w _ hw141_1)).trans hw141_1), ((HB.out.cell (World.block_lt_of_cell? w _ hw141_2)).trans hw141_2), ((HB.out.cell (World.block_lt_of_cell? w _ hw141_3)).trans hw141_3), ((HB.out.cell (World.block_lt_of_cell? w _ hw141_4)).trans hw141_4)⟩ (fun hHeld => ?_)
                      clear hK K
                      refine nR ?_
                      refine pP 25 (some 37) ?_
                      refine pP 26 (some 38) ?_
                      refine pP 27 (some 39) ?_
                      refine pP 28 (some 40) ?_
                      refine pP 29 (some 41) ?_
                      refine pP 30 (some 42) ?_
                      refine pP 31 (some 43) ?_
                      refine pP 33 (some 45) ?_
                      refine pP 34 (some 46) ?_
                      refine pP 35 (some 47) ?_
                      refine pP 36 (some 48) ?_
                      refine pP 37 (some 49) ?_
                      refine pT 32 (some 44) ?_
                      refine pT 38 (some 50) ?_
                      refine pP 39 (some 51) ?_
                      refine pP 40 (some 52) ?_
                      refine pP 41 (some 53) ?_
                      refine done_ (done_of HT_.out (by kernel_rfl)) ?_
                      try go_wp2
                      go_roundg k1
                      case measure => have := HK1.out; omega
                      case rel => exact ⟨(wrap64 (x7_1 + 1)), (by first | rfl | (simp; done) | (simp [*]; done)), H', ⟨by have := HK1.out; omega⟩, ⟨TB⟩⟩
                  · rw [if_neg c18] at H
                    have c18b0 : decide (0 < x7_1) = false := decide_eq_false c18
                    clear c18
                    have H' := aM H
                    clear H
                    have p135 : 0 ≤ (x7_1 : Int) := DT
                    have q135 : x7_1 < (l0.length : Int) := DT
                    obtain ⟨ad135, e135, hx135_0, hx135_1, hx135_2, hx135_3, hx135_4⟩ := at_T31 HR0.out x7_1 p135 q135
                    cases e135
                    replace hx135_0 := (HB.out.cell (World.block_lt_of_cell? w _ hx135_0)).trans hx135_0
                    replace hx135_1 := (HB.out.cell (World.block_lt_of_cell? w _ hx135_1)).trans hx135_1
                    replace hx135_2 := (HB.out.cell (World.block_lt_of_cell? w _ hx135_2)).trans hx135_2
                    replace hx135_3 := (HB.out.cell (World.block_lt_of_cell? w _ hx135_3)).trans hx135_3
                    replace hx135_4 := (HB.out.cell (World.block_lt_of_cell? w _ hx135_4)).trans hx135_4
                    replace p135 := eq_true p135
                    replace q135 := eq_true q135
                    try go_wp2_with (first | ((with_reducible refine gate_dst (N := 4) rfl ?_); refine gBx 4 #[.int .i64 0, .int .i64 0, .int .i64 0, .int .i64 0, .int .i64 0] 31 ?_; intro gb136 hg w31 hbox hb; have BK136 := aM (hbox); have GW136 := aM ((by rw [hg]; exact (below_size TB) : w.heap.size ≤ gb136)); have GE136 := aM ((by rw [hg]; exact (below_size TB) : w.heap.size ≤ gb136)); replace HB := aM (below_step TB hb); clear hb hbox hg; obtain ⟨hcz32_0, hcz32_1, hcz32_2, hcz32_3, hcz32_4⟩ := cz5 BK136.out; obtain ⟨hfz32_0, hfz32_1, hfz32_2, hfz32_3, hfz32_4⟩ := fz5 BK136.out))
                    have n0_ : Aside0 ((((((w31.setCell ⟨gb136, 0, none⟩ (.int .i64 ((rd_T31 l0 x7_1).f0))).setCell ⟨gb136, 1, none⟩ (.int .i64 ((rd_T31 l0 x7_1).f1))).setCell ⟨gb136, 2, none⟩ (.int .i64 ((rd_T31 l0 x7_1).f2))).setCell ⟨gb136, 3, none⟩ (.int .i64 ((rd_T31 l0 x7_1).f3))).setCell ⟨gb136, 4, none⟩ (.int .i64 ((rd_T31 l0 x7_1).f4))).heap[gb136]? = some (.cells #[.int .i64 ((rd_T31 l0 x7_1).f0), .int .i64 ((rd_T31 l0 x7_1).f1), .int .i64 ((rd_T31 l0 x7_1).f2), .int .i64 ((rd_T31 l0 x7_1).f3), .int .i64 ((rd_T31 l0 x7_1).f4)] 31 (0, 0))) := ⟨by (with_reducible repeat (first | refine blk_drewN ?_ _ | refine blk_drew ?_ | refine blk_alloc ?_ _)); refine blk_put (cs := #[.int .i64 ((rd_T31 l0 x7_1).f0), .int .i64 ((rd_T31 l0 x7_1).f1), .int .i64 ((rd_T31 l0 x7_1).f2), .int .i64 ((rd_T31 l0 x7_1).f3), .int .i64 0]) ?_ 4 _ rfl; (with_reducible repeat (first | refine blk_drewN ?_ _ | refine blk_drew ?_ | refine blk_alloc ?_ _)); refine blk_put (cs := #[.int .i64 ((rd_T31 l0 x7_1).f0), .int .i64 ((rd_T31 l0 x7_1).f1), .int .i64 ((rd_T31 l0 x7_1).f2), .int .i64 0, .int .i64 0]) ?_ 3 _ rfl; (with_reducible repeat (first | refine blk_drewN ?_ _ | refine blk_drew ?_ | refine blk_alloc ?_ _)); refine blk_put (cs := #[.int .i64 ((rd_T31 l0 x7_1).f0), .int .i64 ((rd_T31 l0 x7_1).f1), .int .i64 0, .int .i64 0, .int .i64 0]) ?_ 2 _ rfl; (with_reducible repeat (first | refine blk_drewN ?_ _ | refine blk_drew ?_ | refine blk_alloc ?_ _)); refine blk_put (cs := #[.int .i64 ((rd_T31 l0 x7_1).f0), .int .i64 0, .int .i64 0, .int .i64 0, .int .i64 0]) ?_ 1 _ rfl; (with_reducible repeat (first | refine blk_drewN ?_ _ | refine blk_drew ?_ | refine blk_alloc ?_ _)); refine blk_put (cs := #[.int .i64 0, .int .i64 0, .int .i64 0, .int .i64 0, .int .i64 0]) ?_ 0 _ rfl; (with_reducible repeat (first | refine blk_drewN ?_ _ | refine blk_drew ?_ | refine blk_alloc ?_ _)); exact BK136.out⟩
                    have n1_ : Aside0 (Below w.heap.size w (((((w31.setCell ⟨gb136, 0, none⟩ (.int .i64 ((rd_T31 l0 x7_1).f0))).setCell ⟨gb136, 1, none⟩ (.int .i64 ((rd_T31 l0 x7_1).f1))).setCell ⟨gb136, 2, none⟩ (.int .i64 ((rd_T31 l0 x7_1).f2))).setCell ⟨gb136, 3, none⟩ (.int .i64 ((rd_T31 l0 x7_1).f3))).setCell ⟨gb136, 4, none⟩ (.int .i64 ((rd_T31 l0 x7_1).f4)))) := ⟨TB⟩
                    (try clear BK136)
                    (try clear HB)
                    generalize (((((w31.setCell ⟨gb136, 0, none⟩ (.int .i64 ((rd_T31 l0 x7_1).f0))).setCell ⟨gb136, 1, none⟩ (.int .i64 ((rd_T31 l0 x7_1).f1))).setCell ⟨gb136, 2, none⟩ (.int .i64 ((rd_T31 l0 x7_1).f2))).setCell ⟨gb136, 3, none⟩ (.int .i64 ((rd_T31 l0 x7_1).f3))).setCell ⟨gb136, 4, none⟩ (.int .i64 ((rd_T31 l0 x7_1).f4))) = w33 at n0_ n1_ ⊢
                    have BK136 := n0_
                    have HB := n1_
                    clear n0_ n1_
                    replace BK136 := aM (blk_drew BK136.out)
                    replace HB := aM (below_drew1 HB.out)
                    refine start_ (n := 42) (S := fun w' => w'.cell? ⟨gb136, 0, none⟩ = some (.int .i64 ((rd_T31 l0 x7_1).f0)) ∧ w'.cell? ⟨gb136, 1, none⟩ = some (.int .i64 ((rd_T31 l0 x7_1).f1)) ∧ w'.cell? ⟨gb136, 2, none⟩ = some (.int .i64 ((rd_T31 l0 x7_1).f2)) ∧ w'.cell? ⟨gb136, 3, none⟩ = some (.int .i64 ((rd_T31 l0 x7_1).f3)) ∧ w'.cell? ⟨gb136, 4, none⟩ = some (.int .i64 ((rd_T31 l0 x7_1).f4))) (ds := []) (Array.replicate 42 false) (by kernel_rfl) rfl rfl (cz5 BK136.out) (fun hHeld => ?_); refine with_tabW impl_KidsOk.tab4 impl_KidsOk.bits4 (fun HT_ HW_ => ?_)
                    generalize w33.drew = w34 at BK136 HB hHeld ⊢
                    refine pP 0 (some 12) ?_
                    refine pT 1 (some 13) ?_
                    refine pO 2 (some 14) (fun K hK => ?_)
                    refine gG Try.func12 #[.int .i64 ((rd_T31 l0 x7_1).f0)] ?_
                    with_reducible refine (impl_isId.calls ((rd_T31 l0 x7_1).f0) true _ A5.out).mono ?_
                    rintro e w' ⟨rfl, ⟨nd, rfl⟩⟩
                    refine ⟨_, rfl, ?_⟩
                    refine hK.out _ _ (cz5 BK136.out) (fun hHeld => ?_)
                    clear hK K
                    refine nR ?_
                    refine pP 3 (some 15) ?_
                    refine pP 4 (some 16) ?_
                    refine pP 5 (some 17) ?_
                    refine pT 6 (some 18) ?_
                    refine pO 7 (some 19) (fun K hK => ?_)
                    refine gG Try.func13 #[.int .i64 ((rd_T31 l0 x7_1).f1)] ?_
                    with_reducible refine (impl_SetOk.calls ((rd_T31 l0 x7_1).f1) true _ A7.out).mono ?_
                    rintro e w' ⟨rfl, ⟨nd, rfl⟩⟩
                    refine ⟨_, rfl, ?_⟩
                    refine hK.out _ _ (cz5 BK136.out) (fun hHeld => ?_)
                    clear hK K
                    refine nR ?_
                    refine pP 8 (some 20) ?_
                    refine pP 9 (some 21) ?_
                    refine pP 10 (some 22) ?_
                    refine pP 11 (some 23) ?_
                    refine pT 12 (some 24) ?_
                    refine pO 13 (some 25) (fun K hK => ?_)
                    refine gG Try.func13 #[.int .i64 ((rd_T31 l0 x7_1).f2)] ?_
                    with_reducible refine (impl_SetOk.calls ((rd_T31 l0 x7_1).f2) true _ A9.out).mono ?_
                    rintro e w' ⟨rfl, ⟨nd, rfl⟩⟩
                    refine ⟨_, rfl, ?_⟩
                    refine hK.out _ _ (cz5 BK136.out) (fun hHeld => ?_)
                    clear hK K
                    refine nR ?_
                    refine pP 14 (some 26) ?_
                    refine pP 15 (some 27) ?_
                    refine pP 16 (some 28) ?_
                    refine pP 17 (some 29) ?_
                    refine pT 18 (some 30) ?_
                    refine pP 19 (some 31) ?_
                    refine pP 20 (some 32) ?_
                    refine pP 21 (some 33) ?_
                    refine pP 22 (some 34) ?_
                    refine pT 23 (some 35) ?_
                    refine pO 24 (some 36) (fun K hK => ?_)
                    refine gG Try.func13 #[.int .i64 ((rd_T31 l0 x7_1).f4)] ?_
                    with_reducible refine (impl_SetOk.calls ((rd_T31 l0 x7_1).f4) true _ A16.out).mono ?_
                    rintro e w' ⟨rfl, ⟨nd, rfl⟩⟩
                    refine ⟨_, rfl, ?_⟩
                    refine hK.out _ _ (cz5 BK136.out) (fun hHeld => ?_)
                    clear hK K
                    refine nR ?_
                    refine pP 25 (some 37) ?_
                    refine pP 26 (some 38) ?_
                    refine pP 27 (some 39) ?_
                    refine pP 28 (some 40) ?_
                    refine pP 29 (some 41) ?_
                    refine pP 30 (some 42) ?_
                    refine pX 31 (some 43) ?_
                    refine pX 32 (some 44) ?_
                    refine pX 33 (some 45) ?_
                    refine pX 34 (some 46) ?_
                    refine pX 35 (some 47) ?_
                    refine pX 36 (some 48) ?_
                    refine pX 37 (some 49) ?_
                    refine pX 38 (some 50) ?_
                    refine pX 39 (some 51) ?_
                    refine pP 40 (some 52) ?_
                    refine pP 41 (some 53) ?_
                    refine done_ (done_of HT_.out (by kernel_rfl)) ?_
                    try go_wp2
                    go_roundg k1
                    case measure => have := HK1.out; omega
                    case rel => exact ⟨(wrap64 (x7_1 + 1)), (by first | rfl | (simp; done) | (simp [*]; done)), H', ⟨by have := HK1.out; omega⟩, ⟨TB⟩⟩
                · replace c17 := Bool.eq_false_iff.mpr c17
                  subst c17
                  replace H := ifF H
                  obtain rfl := Option.some.inj H
                  have p135 : 0 ≤ (x7_1 : Int) := DT
                  have q135 : x7_1 < (l0.length : Int) := DT
                  obtain ⟨ad135, e135, hx135_0, hx135_1, hx135_2, hx135_3, hx135_4⟩ := at_T31 HR0.out x7_1 p135 q135
                  cases e135
                  replace hx135_0 := (HB.out.cell (World.block_lt_of_cell? w _ hx135_0)).trans hx135_0
                  replace hx135_1 := (HB.out.cell (World.block_lt_of_cell? w _ hx135_1)).trans hx135_1
                  replace hx135_2 := (HB.out.cell (World.block_lt_of_cell? w _ hx135_2)).trans hx135_2
                  replace hx135_3 := (HB.out.cell (World.block_lt_of_cell? w _ hx135_3)).trans hx135_3
                  replace hx135_4 := (HB.out.cell (World.block_lt_of_cell? w _ hx135_4)).trans hx135_4
                  replace p135 := eq_true p135
                  replace q135 := eq_true q135
                  try go_wp2_with (first | ((with_reducible refine gate_dst (N := 4) rfl ?_); refine gBx 4 #[.int .i64 0, .int .i64 0, .int .i64 0, .int .i64 0, .int .i64 0] 31 ?_; intro gb136 hg w35 hbox hb; have BK136 := aM (hbox); have GW136 := aM ((by rw [hg]; exact (below_size TB) : w.heap.size ≤ gb136)); have GE136 := aM ((by rw [hg]; exact (below_size TB) : w.heap.size ≤ gb136)); replace HB := aM (below_step TB hb); clear hb hbox hg; obtain ⟨hcz36_0, hcz36_1, hcz36_2, hcz36_3, hcz36_4⟩ := cz5 BK136.out; obtain ⟨hfz36_0, hfz36_1, hfz36_2, hfz36_3, hfz36_4⟩ := fz5 BK136.out))
                  have n0_ : Aside0 ((((((w35.setCell ⟨gb136, 0, none⟩ (.int .i64 ((rd_T31 l0 x7_1).f0))).setCell ⟨gb136, 1, none⟩ (.int .i64 ((rd_T31 l0 x7_1).f1))).setCell ⟨gb136, 2, none⟩ (.int .i64 ((rd_T31 l0 x7_1).f2))).setCell ⟨gb136, 3, none⟩ (.int .i64 ((rd_T31 l0 x7_1).f3))).setCell ⟨gb136, 4, none⟩ (.int .i64 ((rd_T31 l0 x7_1).f4))).heap[gb136]? = some (.cells #[.int .i64 ((rd_T31 l0 x7_1).f0), .int .i64 ((rd_T31 l0 x7_1).f1), .int .i64 ((rd_T31 l0 x7_1).f2), .int .i64 ((rd_T31 l0 x7_1).f3), .int .i64 ((rd_T31 l0 x7_1).f4)] 31 (0, 0))) := ⟨by (with_reducible repeat (first | refine blk_drewN ?_ _ | refine blk_drew ?_ | refine blk_alloc ?_ _)); refine blk_put (cs := #[.int .i64 ((rd_T31 l0 x7_1).f0), .int .i64 ((rd_T31 l0 x7_1).f1), .int .i64 ((rd_T31 l0 x7_1).f2), .int .i64 ((rd_T31 l0 x7_1).f3), .int .i64 0]) ?_ 4 _ rfl; (with_reducible repeat (first | refine blk_drewN ?_ _ | refine blk_drew ?_ | refine blk_alloc ?_ _)); refine blk_put (cs := #[.int .i64 ((rd_T31 l0 x7_1).f0), .int .i64 ((rd_T31 l0 x7_1).f1), .int .i64 ((rd_T31 l0 x7_1).f2), .int .i64 0, .int .i64 0]) ?_ 3 _ rfl; (with_reducible repeat (first | refine blk_drewN ?_ _ | refine blk_drew ?_ | refine blk_alloc ?_ _)); refine blk_put (cs := #[.int .i64 ((rd_T31 l0 x7_1).f0), .int .i64 ((rd_T31 l0 x7_1).f1), .int .i64 0, .int .i64 0, .int .i64 0]) ?_ 2 _ rfl; (with_reducible repeat (first | refine blk_drewN ?_ _ | refine blk_drew ?_ | refine blk_alloc ?_ _)); refine blk_put (cs := #[.int .i64 ((rd_T31 l0 x7_1).f0), .int .i64 0, .int .i64 0, .int .i64 0, .int .i64 0]) ?_ 1 _ rfl; (with_reducible repeat (first | refine blk_drewN ?_ _ | refine blk_drew ?_ | refine blk_alloc ?_ _)); refine blk_put (cs := #[.int .i64 0, .int .i64 0, .int .i64 0, .int .i64 0, .int .i64 0]) ?_ 0 _ rfl; (with_reducible repeat (first | refine blk_drewN ?_ _ | refine blk_drew ?_ | refine blk_alloc ?_ _)); exact BK136.out⟩
                  have n1_ : Aside0 (Below w.heap.size w (((((w35.setCell ⟨gb136, 0, none⟩ (.int .i64 ((rd_T31 l0 x7_1).f0))).setCell ⟨gb136, 1, none⟩ (.int .i64 ((rd_T31 l0 x7_1).f1))).setCell ⟨gb136, 2, none⟩ (.int .i64 ((rd_T31 l0 x7_1).f2))).setCell ⟨gb136, 3, none⟩ (.int .i64 ((rd_T31 l0 x7_1).f3))).setCell ⟨gb136, 4, none⟩ (.int .i64 ((rd_T31 l0 x7_1).f4)))) := ⟨TB⟩
                  (try clear BK136)
                  (try clear HB)
                  generalize (((((w35.setCell ⟨gb136, 0, none⟩ (.int .i64 ((rd_T31 l0 x7_1).f0))).setCell ⟨gb136, 1, none⟩ (.int .i64 ((rd_T31 l0 x7_1).f1))).setCell ⟨gb136, 2, none⟩ (.int .i64 ((rd_T31 l0 x7_1).f2))).setCell ⟨gb136, 3, none⟩ (.int .i64 ((rd_T31 l0 x7_1).f3))).setCell ⟨gb136, 4, none⟩ (.int .i64 ((rd_T31 l0 x7_1).f4))) = w37 at n0_ n1_ ⊢
                  have BK136 := n0_
                  have HB := n1_
                  clear n0_ n1_
                  replace BK136 := aM (blk_drew BK136.out)
                  replace HB := aM (below_drew1 HB.out)
                  refine start_ (n := 42) (S := fun w' => w'.cell? ⟨gb136, 0, none⟩ = some (.int .i64 ((rd_T31 l0 x7_1).f0)) ∧ w'.cell? ⟨gb136, 1, none⟩ = some (.int .i64 ((rd_T31 l0 x7_1).f1)) ∧ w'.cell? ⟨gb136, 2, none⟩ = some (.int .i64 ((rd_T31 l0 x7_1).f2)) ∧ w'.cell? ⟨gb136, 3, none⟩ = some (.int .i64 ((rd_T31 l0 x7_1).f3)) ∧ w'.cell? ⟨gb136, 4, none⟩ = some (.int .i64 ((rd_T31 l0 x7_1).f4))) (ds := []) (Array.replicate 42 false) (by kernel_rfl) rfl rfl (cz5 BK136.out) (fun hHeld => ?_); refine with_tabW impl_KidsOk.tab4 impl_KidsOk.bits4 (fun HT_ HW_ => ?_)
                  generalize w37.drew = w38 at BK136 HB hHeld ⊢
                  refine pP 0 (some 12) ?_
                  refine pT 1 (some 13) ?_
                  refine pO 2 (some 14) (fun K hK => ?_)
                  refine gG Try.func12 #[.int .i64 ((rd_T31 l0 x7_1).f0)] ?_
                  with_reducible refine (impl_isId.calls ((rd_T31 l0 x7_1).f0) true _ A5.out).mono ?_
                  rintro e w' ⟨rfl, ⟨nd, rfl⟩⟩
                  refine ⟨_, rfl, ?_⟩
                  refine hK.out _ _ (cz5 BK136.out) (fun hHeld => ?_)
                  clear hK K
                  refine nR ?_
                  refine pP 3 (some 15) ?_
                  refine pP 4 (some 16) ?_
                  refine pP 5 (some 17) ?_
                  refine pT 6 (some 18) ?_
                  refine pO 7 (some 19) (fun K hK => ?_)
                  refine gG Try.func13 #[.int .i64 ((rd_T31 l0 x7_1).f1)] ?_
                  with_reducible refine (impl_SetOk.calls ((rd_T31 l0 x7_1).f1) true _ A7.out).mono ?_
                  rintro e w' ⟨rfl, ⟨nd, rfl⟩⟩
                  refine ⟨_, rfl, ?_⟩
                  refine hK.out _ _ (cz5 BK136.out) (fun hHeld => ?_)
                  clear hK K
                  refine nR ?_
                  refine pP 8 (some 20) ?_
                  refine pP 9 (some 21) ?_
                  refine pP 10 (some 22) ?_
                  refine pP 11 (some 23) ?_
                  refine pT 12 (some 24) ?_
                  refine pO 13 (some 25) (fun K hK => ?_)
                  refine gG Try.func13 #[.int .i64 ((rd_T31 l0 x7_1).f2)] ?_
                  with_reducible refine (impl_SetOk.calls ((rd_T31 l0 x7_1).f2) true _ A9.out).mono ?_
                  rintro e w' ⟨rfl, ⟨nd, rfl⟩⟩
                  refine ⟨_, rfl, ?_⟩
                  refine hK.out _ _ (cz5 BK136.out) (fun hHeld => ?_)
                  clear hK K
                  refine nR ?_
                  refine pP 14 (some 26) ?_
                  refine pP 15 (some 27) ?_
                  refine pP 16 (some 28) ?_
                  refine pP 17 (some 29) ?_
                  refine pT 18 (some 30) ?_
                  refine pP 19 (some 31) ?_
                  refine pP 20 (some 32) ?_
                  refine pP 21 (some 33) ?_
                  refine pP 22 (some 34) ?_
                  refine pT 23 (some 35) ?_
                  refine pO 24 (some 36) (fun K hK => ?_)
                  refine gG Try.func13 #[.int .i64 ((rd_T31 l0 x7_1).f4)] ?_
                  with_reducible refine (impl_SetOk.calls ((rd_T31 l0 x7_1).f4) false _ A16.out).mono ?_
                  rintro e w' ⟨rfl, ⟨nd, rfl⟩⟩
                  refine ⟨_, rfl, ?_⟩
                  refine hK.out _ _ (cz5 BK136.out) (fun hHeld => ?_)
                  clear hK K
                  refine nR ?_
                  refine pP 25 (some 37) ?_
                  refine pP 26 (some 38) ?_
                  refine pP 27 (some 39) ?_
                  refine pX 28 (some 40) ?_
                  refine pX 29 (some 41) ?_
                  refine pX 30 (some 42) ?_
                  refine pX 31 (some 43) ?_
                  refine pX 32 (some 44) ?_
                  refine pX 33 (some 45) ?_
                  refine pX 34 (some 46) ?_
                  refine pX 35 (some 47) ?_
                  refine pX 36 (some 48) ?_
                  refine pX 37 (some 49) ?_
                  refine pX 38 (some 50) ?_
                  refine pX 39 (some 51) ?_
                  refine pX 40 (some 52) ?_
                  refine pP 41 (some 53) ?_
                  refine done_ (done_of HT_.out (by kernel_rfl)) ?_
                  try go_wp2
                  go_ret
                  exact ⟨by first | rfl | (simp [errW_none, errW_some] <;> rfl) | (simp [*, errW_none, errW_some] <;> rfl), TB⟩
            · replace c10 := Bool.eq_false_iff.mpr c10
              subst c10
              replace H := ifF H
              obtain rfl := Option.some.inj H
              have p135 : 0 ≤ (x7_1 : Int) := DT
              have q135 : x7_1 < (l0.length : Int) := DT
              obtain ⟨ad135, e135, hx135_0, hx135_1, hx135_2, hx135_3, hx135_4⟩ := at_T31 HR0.out x7_1 p135 q135
              cases e135
              replace hx135_0 := (HB.out.cell (World.block_lt_of_cell? w _ hx135_0)).trans hx135_0
              replace hx135_1 := (HB.out.cell (World.block_lt_of_cell? w _ hx135_1)).trans hx135_1
              replace hx135_2 := (HB.out.cell (World.block_lt_of_cell? w _ hx135_2)).trans hx135_2
              replace hx135_3 := (HB.out.cell (World.block_lt_of_cell? w _ hx135_3)).trans hx135_3
              replace hx135_4 := (HB.out.cell (World.block_lt_of_cell? w _ hx135_4)).trans hx135_4
              replace p135 := eq_true p135
              replace q135 := eq_true q135
              try go_wp2_with (first | ((with_reducible refine gate_dst (N := 4) rfl ?_); refine gBx 4 #[.int .i64 0, .int .i64 0, .int .i64 0, .int .i64 0, .int .i64 0] 31 ?_; intro gb136 hg w39 hbox hb; have BK136 := aM (hbox); have GW136 := aM ((by rw [hg]; exact (below_size TB) : w.heap.size ≤ gb136)); have GE136 := aM ((by rw [hg]; exact (below_size TB) : w.heap.size ≤ gb136)); replace HB := aM (below_step TB hb); clear hb hbox hg; obtain ⟨hcz40_0, hcz40_1, hcz40_2, hcz40_3, hcz40_4⟩ := cz5 BK136.out; obtain ⟨hfz40_0, hfz40_1, hfz40_2, hfz40_3, hfz40_4⟩ := fz5 BK136.out))
              have n0_ : Aside0 ((((((w39.setCell ⟨gb136, 0, none⟩ (.int .i64 ((rd_T31 l0 x7_1).f0))).setCell ⟨gb136, 1, none⟩ (.int .i64 ((rd_T31 l0 x7_1).f1))).setCell ⟨gb136, 2, none⟩ (.int .i64 ((rd_T31 l0 x7_1).f2))).setCell ⟨gb136, 3, none⟩ (.int .i64 ((rd_T31 l0 x7_1).f3))).setCell ⟨gb136, 4, none⟩ (.int .i64 ((rd_T31 l0 x7_1).f4))).heap[gb136]? = some (.cells #[.int .i64 ((rd_T31 l0 x7_1).f0), .int .i64 ((rd_T31 l0 x7_1).f1), .int .i64 ((rd_T31 l0 x7_1).f2), .int .i64 ((rd_T31 l0 x7_1).f3), .int .i64 ((rd_T31 l0 x7_1).f4)] 31 (0, 0))) := ⟨by (with_reducible repeat (first | refine blk_drewN ?_ _ | refine blk_drew ?_ | refine blk_alloc ?_ _)); refine blk_put (cs := #[.int .i64 ((rd_T31 l0 x7_1).f0), .int .i64 ((rd_T31 l0 x7_1).f1), .int .i64 ((rd_T31 l0 x7_1).f2), .int .i64 ((rd_T31 l0 x7_1).f3), .int .i64 0]) ?_ 4 _ rfl; (with_reducible repeat (first | refine blk_drewN ?_ _ | refine blk_drew ?_ | refine blk_alloc ?_ _)); refine blk_put (cs := #[.int .i64 ((rd_T31 l0 x7_1).f0), .int .i64 ((rd_T31 l0 x7_1).f1), .int .i64 ((rd_T31 l0 x7_1).f2), .int .i64 0, .int .i64 0]) ?_ 3 _ rfl; (with_reducible repeat (first | refine blk_drewN ?_ _ | refine blk_drew ?_ | refine blk_alloc ?_ _)); refine blk_put (cs := #[.int .i64 ((rd_T31 l0 x7_1).f0), .int .i64 ((rd_T31 l0 x7_1).f1), .int .i64 0, .int .i64 0, .int .i64 0]) ?_ 2 _ rfl; (with_reducible repeat (first | refine blk_drewN ?_ _ | refine blk_drew ?_ | refine blk_alloc ?_ _)); refine blk_put (cs := #[.int .i64 ((rd_T31 l0 x7_1).f0), .int .i64 0, .int .i64 0, .int .i64 0, .int .i64 0]) ?_ 1 _ rfl; (with_reducible repeat (first | refine blk_drewN ?_ _ | refine blk_drew ?_ | refine blk_alloc ?_ _)); refine blk_put (cs := #[.int .i64 0, .int .i64 0, .int .i64 0, .int .i64 0, .int .i64 0]) ?_ 0 _ rfl; (with_reducible repeat (first | refine blk_drewN ?_ _ | refine blk_drew ?_ | refine blk_alloc ?_ _)); exact BK136.out⟩
              have n1_ : Aside0 (Below w.heap.size w (((((w39.setCell ⟨gb136, 0, none⟩ (.int .i64 ((rd_T31 l0 x7_1).f0))).setCell ⟨gb136, 1, none⟩ (.int .i64 ((rd_T31 l0 x7_1).f1))).setCell ⟨gb136, 2, none⟩ (.int .i64 ((rd_T31 l0 x7_1).f2))).setCell ⟨gb136, 3, none⟩ (.int .i64 ((rd_T31 l0 x7_1).f3))).setCell ⟨gb136, 4, none⟩ (.int .i64 ((rd_T31 l0 x7_1).f4)))) := ⟨TB⟩
              (try clear BK136)
              (try clear HB)
              generalize (((((w39.setCell ⟨gb136, 0, none⟩ (.int .i64 ((rd_T31 l0 x7_1).f0))).setCell ⟨gb136, 1, none⟩ (.int .i64 ((rd_T31 l0 x7_1).f1))).setCell ⟨gb136, 2, none⟩ (.int .i64 ((rd_T31 l0 x7_1).f2))).setCell ⟨gb136, 3, none⟩ (.int .i64 ((rd_T31 l0 x7_1).f3))).setCell ⟨gb136, 4, none⟩ (.int .i64 ((rd_T31 l0 x7_1).f4))) = w41 at n0_ n1_ ⊢
              have BK136 := n0_
              have HB := n1_
              clear n0_ n1_
              replace BK136 := aM (blk_drew BK136.out)
              replace HB := aM (below_drew1 HB.out)
              refine start_ (n := 42) (S := fun w' => w'.cell? ⟨gb136, 0, none⟩ = some (.int .i64 ((rd_T31 l0 x7_1).f0)) ∧ w'.cell? ⟨gb136, 1, none⟩ = some (.int .i64 ((rd_T31 l0 x7_1).f1)) ∧ w'.cell? ⟨gb136, 2, none⟩ = some (.int .i64 ((rd_T31 l0 x7_1).f2)) ∧ w'.cell? ⟨gb136, 3, none⟩ = some (.int .i64 ((rd_T31 l0 x7_1).f3)) ∧ w'.cell? ⟨gb136, 4, none⟩ = some (.int .i64 ((rd_T31 l0 x7_1).f4))) (ds := []) (Array.replicate 42 false) (by kernel_rfl) rfl rfl (cz5 BK136.out) (fun hHeld => ?_); refine with_tabW impl_KidsOk.tab4 impl_KidsOk.bits4 (fun HT_ HW_ => ?_)
              generalize w41.drew = w42 at BK136 HB hHeld ⊢
              refine pP 0 (some 12) ?_
              refine pT 1 (some 13) ?_
              refine pO 2 (some 14) (fun K hK => ?_)
              refine gG Try.func12 #[.int .i64 ((rd_T31 l0 x7_1).f0)] ?_
              with_reducible refine (impl_isId.calls ((rd_T31 l0 x7_1).f0) true _ A5.out).mono ?_
              rintro e w' ⟨rfl, ⟨nd, rfl⟩⟩
              refine ⟨_, rfl, ?_⟩
              refine hK.out _ _ (cz5 BK136.out) (fun hHeld => ?_)
              clear hK K
              refine nR ?_
              refine pP 3 (some 15) ?_
              refine pP 4 (some 16) ?_
              refine pP 5 (some 17) ?_
              refine pT 6 (some 18) ?_
              refine pO 7 (some 19) (fun K hK => ?_)
              refine gG Try.func13 #[.int .i64 ((rd_T31 l0 x7_1).f1)] ?_
              with_reducible refine (impl_SetOk.calls ((rd_T31 l0 x7_1).f1) true _ A7.out).mono ?_
              rintro e w' ⟨rfl, ⟨nd, rfl⟩⟩
              refine ⟨_, rfl, ?_⟩
              refine hK.out _ _ (cz5 BK136.out) (fun hHeld => ?_)
              clear hK K
              refine nR ?_
              refine pP 8 (some 20) ?_
              refine pP 9 (some 21) ?_
              refine pP 10 (some 22) ?_
              refine pP 11 (some 23) ?_
              refine pT 12 (some 24) ?_
              refine pO 13 (some 25) (fun K hK => ?_)
              refine gG Try.func13 #[.int .i64 ((rd_T31 l0 x7_1).f2)] ?_
              with_reducible refine (impl_SetOk.calls ((rd_T31 l0 x7_1).f2) false _ A9.out).mono ?_
              rintro e w' ⟨rfl, ⟨nd, rfl⟩⟩
              refine ⟨_, rfl, ?_⟩
              refine hK.out _ _ (cz5 BK136.out) (fun hHeld => ?_)
              clear hK K
              refine nR ?_
              refine pP 14 (some 26) ?_
              refine pP 15 (some 27) ?_
              refine pP 16 (some 28) ?_
              refine pX 17 (some 29) ?_
              refine pX 18 (some 30) ?_
              refine pX 19 (some 31) ?_
              refine pP 20 (some 32) ?_
              refine pP 21 (some 33) ?_
              refine pX 22 (some 34) ?_
              refine pX 23 (some 35) ?_
              refine pX 24 (some 36) ?_
              refine pX 25 (some 37) ?_
              refine pP 26 (some 38) ?_
              refine pP 27 (some 39) ?_
              refine pX 28 (some 40) ?_
              refine pX 29 (some 41) ?_
              refine pX 30 (some 42) ?_
              refine pX 31 (some 43) ?_
              refine pX 32 (some 44) ?_
              refine pX 33 (some 45) ?_
              refine pX 34 (some 46) ?_
              refine pX 35 (some 47) ?_
              refine pX 36 (some 48) ?_
              refine pX 37 (some 49) ?_
              refine pX 38 (some 50) ?_
              refine pX 39 (some 51) ?_
              refine pX 40 (some 52) ?_
              refine pP 41 (some 53) ?_
              refine done_ (done_of HT_.out (by kernel_rfl)) ?_
              try go_wp2
              go_ret
              exact ⟨by first | rfl | (simp [errW_none, errW_some] <;> rfl) | (simp [*, errW_none, errW_some] <;> rfl), TB⟩
          · replace c8 := Bool.eq_false_iff.mpr c8
            subst c8
            replace H := ifF H
            obtain rfl := Option.some.inj H
            have p135 : 0 ≤ (x7_1 : Int) := DT
            have q135 : x7_1 < (l0.length : Int) := DT
            obtain ⟨ad135, e135, hx135_0, hx135_1, hx135_2, hx135_3, hx135_4⟩ := at_T31 HR0.out x7_1 p135 q135
            cases e135
            replace hx135_0 := (HB.out.cell (World.block_lt_of_cell? w _ hx135_0)).trans hx135_0
            replace hx135_1 := (HB.out.cell (World.block_lt_of_cell? w _ hx135_1)).trans hx135_1
            replace hx135_2 := (HB.out.cell (World.block_lt_of_cell? w _ hx135_2)).trans hx135_2
            replace hx135_3 := (HB.out.cell (World.block_lt_of_cell? w _ hx135_3)).trans hx135_3
            replace hx135_4 := (HB.out.cell (World.block_lt_of_cell? w _ hx135_4)).trans hx135_4
            replace p135 := eq_true p135
            replace q135 := eq_true q135
            try go_wp2_with (first | ((with_reducible refine gate_dst (N := 4) rfl ?_); refine gBx 4 #[.int .i64 0, .int .i64 0, .int .i64 0, .int .i64 0, .int .i64 0] 31 ?_; intro gb136 hg w43 hbox hb; have BK136 := aM (hbox); have GW136 := aM ((by rw [hg]; exact (below_size TB) : w.heap.size ≤ gb136)); have GE136 := aM ((by rw [hg]; exact (below_size TB) : w.heap.size ≤ gb136)); replace HB := aM (below_step TB hb); clear hb hbox hg; obtain ⟨hcz44_0, hcz44_1, hcz44_2, hcz44_3, hcz44_4⟩ := cz5 BK136.out; obtain ⟨hfz44_0, hfz44_1, hfz44_2, hfz44_3, hfz44_4⟩ := fz5 BK136.out))
            have n0_ : Aside0 ((((((w43.setCell ⟨gb136, 0, none⟩ (.int .i64 ((rd_T31 l0 x7_1).f0))).setCell ⟨gb136, 1, none⟩ (.int .i64 ((rd_T31 l0 x7_1).f1))).setCell ⟨gb136, 2, none⟩ (.int .i64 ((rd_T31 l0 x7_1).f2))).setCell ⟨gb136, 3, none⟩ (.int .i64 ((rd_T31 l0 x7_1).f3))).setCell ⟨gb136, 4, none⟩ (.int .i64 ((rd_T31 l0 x7_1).f4))).heap[gb136]? = some (.cells #[.int .i64 ((rd_T31 l0 x7_1).f0), .int .i64 ((rd_T31 l0 x7_1).f1), .int .i64 ((rd_T31 l0 x7_1).f2), .int .i64 ((rd_T31 l0 x7_1).f3), .int .i64 ((rd_T31 l0 x7_1).f4)] 31 (0, 0))) := ⟨by (with_reducible repeat (first | refine blk_drewN ?_ _ | refine blk_drew ?_ | refine blk_alloc ?_ _)); refine blk_put (cs := #[.int .i64 ((rd_T31 l0 x7_1).f0), .int .i64 ((rd_T31 l0 x7_1).f1), .int .i64 ((rd_T31 l0 x7_1).f2), .int .i64 ((rd_T31 l0 x7_1).f3), .int .i64 0]) ?_ 4 _ rfl; (with_reducible repeat (first | refine blk_drewN ?_ _ | refine blk_drew ?_ | refine blk_alloc ?_ _)); refine blk_put (cs := #[.int .i64 ((rd_T31 l0 x7_1).f0), .int .i64 ((rd_T31 l0 x7_1).f1), .int .i64 ((rd_T31 l0 x7_1).f2), .int .i64 0, .int .i64 0]) ?_ 3 _ rfl; (with_reducible repeat (first | refine blk_drewN ?_ _ | refine blk_drew ?_ | refine blk_alloc ?_ _)); refine blk_put (cs := #[.int .i64 ((rd_T31 l0 x7_1).f0), .int .i64 ((rd_T31 l0 x7_1).f1), .int .i64 0, .int .i64 0, .int .i64 0]) ?_ 2 _ rfl; (with_reducible repeat (first | refine blk_drewN ?_ _ | refine blk_drew ?_ | refine blk_alloc ?_ _)); refine blk_put (cs := #[.int .i64 ((rd_T31 l0 x7_1).f0), .int .i64 0, .int .i64 0, .int .i64 0, .int .i64 0]) ?_ 1 _ rfl; (with_reducible repeat (first | refine blk_drewN ?_ _ | refine blk_drew ?_ | refine blk_alloc ?_ _)); refine blk_put (cs := #[.int .i64 0, .int .i64 0, .int .i64 0, .int .i64 0, .int .i64 0]) ?_ 0 _ rfl; (with_reducible repeat (first | refine blk_drewN ?_ _ | refine blk_drew ?_ | refine blk_alloc ?_ _)); exact BK136.out⟩
            have n1_ : Aside0 (Below w.heap.size w (((((w43.setCell ⟨gb136, 0, none⟩ (.int .i64 ((rd_T31 l0 x7_1).f0))).setCell ⟨gb136, 1, none⟩ (.int .i64 ((rd_T31 l0 x7_1).f1))).setCell ⟨gb136, 2, none⟩ (.int .i64 ((rd_T31 l0 x7_1).f2))).setCell ⟨gb136, 3, none⟩ (.int .i64 ((rd_T31 l0 x7_1).f3))).setCell ⟨gb136, 4, none⟩ (.int .i64 ((rd_T31 l0 x7_1).f4)))) := ⟨TB⟩
            (try clear BK136)
            (try clear HB)
            generalize (((((w43.setCell ⟨gb136, 0, none⟩ (.int .i64 ((rd_T31 l0 x7_1).f0))).setCell ⟨gb136, 1, none⟩ (.int .i64 ((rd_T31 l0 x7_1).f1))).setCell ⟨gb136, 2, none⟩ (.int .i64 ((rd_T31 l0 x7_1).f2))).setCell ⟨gb136, 3, none⟩ (.int .i64 ((rd_T31 l0 x7_1).f3))).setCell ⟨gb136, 4, none⟩ (.int .i64 ((rd_T31 l0 x7_1).f4))) = w45 at n0_ n1_ ⊢
            have BK136 := n0_
            have HB := n1_
            clear n0_ n1_
            replace BK136 := aM (blk_drew BK136.out)
            replace HB := aM (below_drew1 HB.out)
            refine start_ (n := 42) (S := fun w' => w'.cell? ⟨gb136, 0, none⟩ = some (.int .i64 ((rd_T31 l0 x7_1).f0)) ∧ w'.cell? ⟨gb136, 1, none⟩ = some (.int .i64 ((rd_T31 l0 x7_1).f1)) ∧ w'.cell? ⟨gb136, 2, none⟩ = some (.int .i64 ((rd_T31 l0 x7_1).f2)) ∧ w'.cell? ⟨gb136, 3, none⟩ = some (.int .i64 ((rd_T31 l0 x7_1).f3)) ∧ w'.cell? ⟨gb136, 4, none⟩ = some (.int .i64 ((rd_T31 l0 x7_1).f4))) (ds := []) (Array.replicate 42 false) (by kernel_rfl) rfl rfl (cz5 BK136.out) (fun hHeld => ?_); refine with_tabW impl_KidsOk.tab4 impl_KidsOk.bits4 (fun HT_ HW_ => ?_)
            generalize w45.drew = w46 at BK136 HB hHeld ⊢
            refine pP 0 (some 12) ?_
            refine pT 1 (some 13) ?_
            refine pO 2 (some 14) (fun K hK => ?_)
            refine gG Try.func12 #[.int .i64 ((rd_T31 l0 x7_1).f0)] ?_
            with_reducible refine (impl_isId.calls ((rd_T31 l0 x7_1).f0) true _ A5.out).mono ?_
            rintro e w' ⟨rfl, ⟨nd, rfl⟩⟩
            refine ⟨_, rfl, ?_⟩
            refine hK.out _ _ (cz5 BK136.out) (fun hHeld => ?_)
            clear hK K
            refine nR ?_
            refine pP 3 (some 15) ?_
            refine pP 4 (some 16) ?_
            refine pP 5 (some 17) ?_
            refine pT 6 (some 18) ?_
            refine pO 7 (some 19) (fun K hK => ?_)
            refine gG Try.func13 #[.int .i64 ((rd_T31 l0 x7_1).f1)] ?_
            with_reducible refine (impl_SetOk.calls ((rd_T31 l0 x7_1).f1) false _ A7.out).mono ?_
            rintro e w' ⟨rfl, ⟨nd, rfl⟩⟩
            refine ⟨_, rfl, ?_⟩
            refine hK.out _ _ (cz5 BK136.out) (fun hHeld => ?_)
            clear hK K
            refine nR ?_
            refine pP 8 (some 20) ?_
            refine pP 9 (some 21) ?_
            refine pP 10 (some 22) ?_
            refine pX 11 (some 23) ?_
            refine pX 12 (some 24) ?_
            refine pX 13 (some 25) ?_
            refine pX 14 (some 26) ?_
            refine pP 15 (some 27) ?_
            refine pP 16 (some 28) ?_
            refine pX 17 (some 29) ?_
            refine pX 18 (some 30) ?_
            refine pX 19 (some 31) ?_
            refine pP 20 (some 32) ?_
            refine pP 21 (some 33) ?_
            refine pX 22 (some 34) ?_
            refine pX 23 (some 35) ?_
            refine pX 24 (some 36) ?_
            refine pX 25 (some 37) ?_
            refine pP 26 (some 38) ?_
            refine pP 27 (some 39) ?_
            refine pX 28 (some 40) ?_
            refine pX 29 (some 41) ?_
            refine pX 30 (some 42) ?_
            refine pX 31 (some 43) ?_
            refine pX 32 (some 44) ?_
            refine pX 33 (some 45) ?_
            refine pX 34 (some 46) ?_
            refine pX 35 (some 47) ?_
            refine pX 36 (some 48) ?_
            refine pX 37 (some 49) ?_
            refine pX 38 (some 50) ?_
            refine pX 39 (some 51) ?_
            refine pX 40 (some 52) ?_
            refine pP 41 (some 53) ?_
            refine done_ (done_of HT_.out (by kernel_rfl)) ?_
            try go_wp2
            go_ret
            exact ⟨by first | rfl | (simp [errW_none, errW_some] <;> rfl) | (simp [*, errW_none, errW_some] <;> rfl), TB⟩
        · replace c6 := Bool.eq_false_iff.mpr c6
          subst c6
          replace H := ifF H
          obtain rfl := Option.some.inj H
          have p135 : 0 ≤ (x7_1 : Int) := DT
          have q135 : x7_1 < (l0.length : Int) := DT
          obtain ⟨ad135, e135, hx135_0, hx135_1, hx135_2, hx135_3, hx135_4⟩ := at_T31 HR0.out x7_1 p135 q135
          cases e135
          replace hx135_0 := (HB.out.cell (World.block_lt_of_cell? w _ hx135_0)).trans hx135_0
          replace hx135_1 := (HB.out.cell (World.block_lt_of_cell? w _ hx135_1)).trans hx135_1
          replace hx135_2 := (HB.out.cell (World.block_lt_of_cell? w _ hx135_2)).trans hx135_2
          replace hx135_3 := (HB.out.cell (World.block_lt_of_cell? w _ hx135_3)).trans hx135_3
          replace hx135_4 := (HB.out.cell (World.block_lt_of_cell? w _ hx135_4)).trans hx135_4
          replace p135 := eq_true p135
          replace q135 := eq_true q135
          try go_wp2_with (first | ((with_reducible refine gate_dst (N := 4) rfl ?_); refine gBx 4 #[.int .i64 0, .int .i64 0, .int .i64 0, .int .i64 0, .int .i64 0] 31 ?_; intro gb136 hg w47 hbox hb; have BK136 := aM (hbox); have GW136 := aM ((by rw [hg]; exact (below_size TB) : w.heap.size ≤ gb136)); have GE136 := aM ((by rw [hg]; exact (below_size TB) : w.heap.size ≤ gb136)); replace HB := aM (below_step TB hb); clear hb hbox hg; obtain ⟨hcz48_0, hcz48_1, hcz48_2, hcz48_3, hcz48_4⟩ := cz5 BK136.out; obtain ⟨hfz48_0, hfz48_1, hfz48_2, hfz48_3, hfz48_4⟩ := fz5 BK136.out))
          have n0_ : Aside0 ((((((w47.setCell ⟨gb136, 0, none⟩ (.int .i64 ((rd_T31 l0 x7_1).f0))).setCell ⟨gb136, 1, none⟩ (.int .i64 ((rd_T31 l0 x7_1).f1))).setCell ⟨gb136, 2, none⟩ (.int .i64 ((rd_T31 l0 x7_1).f2))).setCell ⟨gb136, 3, none⟩ (.int .i64 ((rd_T31 l0 x7_1).f3))).setCell ⟨gb136, 4, none⟩ (.int .i64 ((rd_T31 l0 x7_1).f4))).heap[gb136]? = some (.cells #[.int .i64 ((rd_T31 l0 x7_1).f0), .int .i64 ((rd_T31 l0 x7_1).f1), .int .i64 ((rd_T31 l0 x7_1).f2), .int .i64 ((rd_T31 l0 x7_1).f3), .int .i64 ((rd_T31 l0 x7_1).f4)] 31 (0, 0))) := ⟨by (with_reducible repeat (first | refine blk_drewN ?_ _ | refine blk_drew ?_ | refine blk_alloc ?_ _)); refine blk_put (cs := #[.int .i64 ((rd_T31 l0 x7_1).f0), .int .i64 ((rd_T31 l0 x7_1).f1), .int .i64 ((rd_T31 l0 x7_1).f2), .int .i64 ((rd_T31 l0 x7_1).f3), .int .i64 0]) ?_ 4 _ rfl; (with_reducible repeat (first | refine blk_drewN ?_ _ | refine blk_drew ?_ | refine blk_alloc ?_ _)); refine blk_put (cs := #[.int .i64 ((rd_T31 l0 x7_1).f0), .int .i64 ((rd_T31 l0 x7_1).f1), .int .i64 ((rd_T31 l0 x7_1).f2), .int .i64 0, .int .i64 0]) ?_ 3 _ rfl; (with_reducible repeat (first | refine blk_drewN ?_ _ | refine blk_drew ?_ | refine blk_alloc ?_ _)); refine blk_put (cs := #[.int .i64 ((rd_T31 l0 x7_1).f0), .int .i64 ((rd_T31 l0 x7_1).f1), .int .i64 0, .int .i64 0, .int .i64 0]) ?_ 2 _ rfl; (with_reducible repeat (first | refine blk_drewN ?_ _ | refine blk_drew ?_ | refine blk_alloc ?_ _)); refine blk_put (cs := #[.int .i64 ((rd_T31 l0 x7_1).f0), .int .i64 0, .int .i64 0, .int .i64 0, .int .i64 0]) ?_ 1 _ rfl; (with_reducible repeat (first | refine blk_drewN ?_ _ | refine blk_drew ?_ | refine blk_alloc ?_ _)); refine blk_put (cs := #[.int .i64 0, .int .i64 0, .int .i64 0, .int .i64 0, .int .i64 0]) ?_ 0 _ rfl; (with_reducible repeat (first | refine blk_drewN ?_ _ | refine blk_drew ?_ | refine blk_alloc ?_ _)); exact BK136.out⟩
          have n1_ : Aside0 (Below w.heap.size w (((((w47.setCell ⟨gb136, 0, none⟩ (.int .i64 ((rd_T31 l0 x7_1).f0))).setCell ⟨gb136, 1, none⟩ (.int .i64 ((rd_T31 l0 x7_1).f1))).setCell ⟨gb136, 2, none⟩ (.int .i64 ((rd_T31 l0 x7_1).f2))).setCell ⟨gb136, 3, none⟩ (.int .i64 ((rd_T31 l0 x7_1).f3))).setCell ⟨gb136, 4, none⟩ (.int .i64 ((rd_T31 l0 x7_1).f4)))) := ⟨TB⟩
          (try clear BK136)
          (try clear HB)
          generalize (((((w47.setCell ⟨gb136, 0, none⟩ (.int .i64 ((rd_T31 l0 x7_1).f0))).setCell ⟨gb136, 1, none⟩ (.int .i64 ((rd_T31 l0 x7_1).f1))).setCell ⟨gb136, 2, none⟩ (.int .i64 ((rd_T31 l0 x7_1).f2))).setCell ⟨gb136, 3, none⟩ (.int .i64 ((rd_T31 l0 x7_1).f3))).setCell ⟨gb136, 4, none⟩ (.int .i64 ((rd_T31 l0 x7_1).f4))) = w49 at n0_ n1_ ⊢
          have BK136 := n0_
          have HB := n1_
          clear n0_ n1_
          replace BK136 := aM (blk_drew BK136.out)
          replace HB := aM (below_drew1 HB.out)
          refine start_ (n := 42) (S := fun w' => w'.cell? ⟨gb136, 0, none⟩ = some (.int .i64 ((rd_T31 l0 x7_1).f0)) ∧ w'.cell? ⟨gb136, 1, none⟩ = some (.int .i64 ((rd_T31 l0 x7_1).f1)) ∧ w'.cell? ⟨gb136, 2, none⟩ = some (.int .i64 ((rd_T31 l0 x7_1).f2)) ∧ w'.cell? ⟨gb136, 3, none⟩ = some (.int .i64 ((rd_T31 l0 x7_1).f3)) ∧ w'.cell? ⟨gb136, 4, none⟩ = some (.int .i64 ((rd_T31 l0 x7_1).f4))) (ds := []) (Array.replicate 42 false) (by kernel_rfl) rfl rfl (cz5 BK136.out) (fun hHeld => ?_); refine with_tabW impl_KidsOk.tab4 impl_KidsOk.bits4 (fun HT_ HW_ => ?_)
          generalize w49.drew = w50 at BK136 HB hHeld ⊢
          refine pP 0 (some 12) ?_
          refine pT 1 (some 13) ?_
          refine pO 2 (some 14) (fun K hK => ?_)
          refine gG Try.func12 #[.int .i64 ((rd_T31 l0 x7_1).f0)] ?_
          with_reducible refine (impl_isId.calls ((rd_T31 l0 x7_1).f0) false _ A5.out).mono ?_
          rintro e w' ⟨rfl, ⟨nd, rfl⟩⟩
          refine ⟨_, rfl, ?_⟩
          refine hK.out _ _ (cz5 BK136.out) (fun hHeld => ?_)
          clear hK K
          refine nR ?_
          refine pP 3 (some 15) ?_
          refine pP 4 (some 16) ?_
          refine pX 5 (some 17) ?_
          refine pX 6 (some 18) ?_
          refine pX 7 (some 19) ?_
          refine pX 8 (some 20) ?_
          refine pP 9 (some 21) ?_
          refine pP 10 (some 22) ?_
          refine pX 11 (some 23) ?_
          refine pX 12 (some 24) ?_
          refine pX 13 (some 25) ?_
          refine pX 14 (some 26) ?_
          refine pP 15 (some 27) ?_
          refine pP 16 (some 28) ?_
          refine pX 17 (some 29) ?_
          refine pX 18 (some 30) ?_
          refine pX 19 (some 31) ?_
          refine pP 20 (some 32) ?_
          refine pP 21 (some 33) ?_
          refine pX 22 (some 34) ?_
          refine pX 23 (some 35) ?_
          refine pX 24 (some 36) ?_
          refine pX 25 (some 37) ?_
          refine pP 26 (some 38) ?_
          refine pP 27 (some 39) ?_
          refine pX 28 (some 40) ?_
          refine pX 29 (some 41) ?_
          refine pX 30 (some 42) ?_
          refine pX 31 (some 43) ?_
          refine pX 32 (some 44) ?_
          refine pX 33 (some 45) ?_
          refine pX 34 (some 46) ?_
          refine pX 35 (some 47) ?_
          refine pX 36 (some 48) ?_
          refine pX 37 (some 49) ?_
          refine pX 38 (some 50) ?_
          refine pX 39 (some 51) ?_
          refine pX 40 (some 52) ?_
          refine pP 41 (some 53) ?_
          refine done_ (done_of HT_.out (by kernel_rfl)) ?_
          try go_wp2
          go_ret
          exact ⟨by first | rfl | (simp [errW_none, errW_some] <;> rfl) | (simp [*, errW_none, errW_some] <;> rfl), TB⟩
      · rw [if_neg c2] at H
        have c2b0 : decide (x7_1 < (l0.length : Int)) = false := decide_eq_false c2
        clear c2
        obtain rfl := Option.some.inj H
        go_wp2
        go_ret
        exact ⟨by first | rfl | (simp [errW_none, errW_some] <;> rfl) | (simp [*, errW_none, errW_some] <;> rfl), TB⟩

end Go.Proofs.Ythfpeadkfflhnaa.Q
