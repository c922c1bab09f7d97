/- Functions of the program as plain Lean functions, and that a call of each comes to what its function tells. Written by a program of this seat. -/
import Derived.Test.YtanpaipapcjpoaaDoorQ0
import Derived.Test.YtanpaipapcjpoaaDoorQ1
import Derived.Test.YtanpaipapcjpoaaDoorQ2
import Derived.Test.YtanpaipapcjpoaaDoorQ3
namespace Go.Proofs.YtanpaipapcjpoaaDoor.Q
open Go.RowKit Go.Proofs.YtanpaipapcjpoaaDoorW.PrintWords Go.Proofs.YtanpaipapcjpoaaDoorW.PrintLast Go.Proofs.YtanpaipapcjpoaaDoorW.PrintMore
attribute [local go_sem] max2_int min2_int max_two min_two max_three min_three max_four min_four   -- for this text's walks alone
set_option linter.unusedVariables false
set_option linter.unusedSimpArgs false

attribute [local go_sem high] eqA61
/-! ### spec_ManOk: function 23 -/
mutual
def spec_ManOk.j0 : Nat → Bool → Int → Int → Int → List (S61) → Option (Bool)
  | 0, _, _, _, _, _ => none
  | k + 1, x47, x141000, x141001, x141002, x141003 => if x47 = true then (some false) else (spec_ManOk.l0 k 0 x141000 x141001 x141002 x141003)
def spec_ManOk.l0 : Nat → Int → Int → Int → Int → List (S61) → Option (Bool)
  | 0, _, _, _, _, _ => none
  | k + 1, x3, x141000, x141001, x141002, x141003 => if x3 < (x141003.length : Int) then (if 0 ≤ x3 then ((spec_BytesOf.f k ((rd_T61 x141003 x3).f1)).bind fun bt145 => ((spec_SpanOf.f x141001 x141002 x3).bind fun bt149 => (if bt145.2 = true then (if (bt145.1.length : Int) = bt149.2 then ((spec_SumOf.f k bt145.1).bind fun bt151 => (if (!(bt151.1 == ((rd_T61 x141003 x3).f0)) || (!(bt151.2 == ((rd_T61 x141003 x3).f1)))) = true then (some false) else (spec_ManOk.l0 k (wrap64 (x3 + 1)) x141000 x141001 x141002 x141003))) else (some false)) else (some false)))) else (none)) else (some true)
end
def spec_ManOk.f (k : Nat) (a0_0 : Int) (a0_1 : Int) (a0_2 : Int) (l0_3 : List (S61)) : Option (Bool) := if a0_0 = 0 then (if a0_1 = 0 then (if a0_2 = 0 then (some ((l0_3.length : Int) == 0)) else (some false)) else (some false)) else ((spec_l1In.f a0_0 1 1000000).bind fun t141 => (if t141 = true then ((spec_SizeOk.f a0_1 a0_2).bind fun t142 => (if t142 = true then ((spec_Blocks.f a0_1 a0_2).bind fun t143 => (spec_ManOk.j0 k ((l0_3.length : Int) != t143) a0_0 a0_1 a0_2 l0_3)) else (spec_ManOk.j0 k true a0_0 a0_1 a0_2 l0_3))) else (spec_ManOk.j0 k true a0_0 a0_1 a0_2 l0_3)))
theorem spec_ManOk.mono_l : ∀ k, (∀ y0 y1 y2 y3 y4, LeO (spec_ManOk.j0 k y0 y1 y2 y3 y4) (spec_ManOk.j0 (k + 1) y0 y1 y2 y3 y4)) ∧ (∀ y0 y1 y2 y3 y4, LeO (spec_ManOk.l0 k y0 y1 y2 y3 y4) (spec_ManOk.l0 (k + 1) y0 y1 y2 y3 y4))
  | 0 => ⟨fun _ _ _ _ _ r h => by simp [spec_ManOk.j0] at h, fun _ _ _ _ _ r h => by simp [spec_ManOk.l0] at h⟩
  | k + 1 => by
    have m0_ := @spec_BytesOf.mono
    have m1_ := @spec_SumOf.mono
    obtain ⟨ih0, ih1⟩ := spec_ManOk.mono_l k
    refine ⟨?_, ?_⟩
    · intro y0 y1 y2 y3 y4
      unfold spec_ManOk.j0
      exact LM
    · intro y0 y1 y2 y3 y4
      unfold spec_ManOk.l0
      exact LM
theorem spec_ManOk.mono : ∀ a0 a1 a2 a3 k, LeO (spec_ManOk.f k a0 a1 a2 a3) (spec_ManOk.f (k + 1) a0 a1 a2 a3) := by
  intro a0 a1 a2 a3 k
  have m0_ := @spec_BytesOf.mono
  have m1_ := @spec_SumOf.mono
  obtain ⟨ih0, ih1⟩ := spec_ManOk.mono_l k
  unfold spec_ManOk.f
  exact LM
def spec_ManOk.T3 : Bool × List (List Nat × List Nat) := (true, [([], []), ([0], [0]), ([1], [1]), ([2], [2]), ([3, 2], [3]), ([4], [4]), ([5, 4], [4, 5]), ([4], [4]), ([7, 4], [4, 7]), ([6, 8, 4, 4], [4, 6, 8]), ([9, 4], [4, 9]), ([4, 10], [4, 10]), ([11, 9], [11]), ([12], [12]), ([13, 12], [12, 13]), ([14, 12], [12, 14]), ([12], [12]), ([16, 12], [12, 16]), ([12], [12]), ([18, 12], [12, 18]), ([17, 19, 12, 12], [12, 17, 19]), ([15, 20, 12], [12, 15, 20]), ([12, 21], [12, 21])])
def spec_ManOk.B3 : List Nat := [0, 1, 3, 7, 15, 31, 63, 31, 159, 511, 1023, 2047, 4095, 8191, 16383, 32767, 8191, 73727, 8191, 270335, 991231, 2097151, 4194303]
theorem spec_ManOk.tab3 : rtab .any (opsOf Tryd.f23 3) = spec_ManOk.T3 := by kernel_rfl
theorem spec_ManOk.bits3 : waitsOk spec_ManOk.T3.2 spec_ManOk.B3 = true := by kernel_rfl
def spec_ManOk.T10 : Bool × List (List Nat × List Nat) := (true, [([], []), ([0], [0]), ([1], [1]), ([2], [2]), ([3, 2], [2, 3]), ([2], [2]), ([4, 5, 2], [2, 4, 5]), ([2, 6], [2, 6]), ([7, 2], [7]), ([8], [8]), ([9, 8, 8], [8, 9]), ([8], [8]), ([11, 8], [8, 11]), ([8], [8]), ([12, 13, 8], [8, 12, 13]), ([14, 8], [8, 14]), ([10, 15, 8], [8, 10, 15]), ([8, 16], [8, 16])])
def spec_ManOk.B10 : List Nat := [0, 1, 3, 7, 15, 7, 63, 127, 255, 511, 1023, 511, 2559, 511, 14847, 31231, 65535, 131071]
theorem spec_ManOk.tab10 : rtab .any (opsOf Tryd.f23 10) = spec_ManOk.T10 := by kernel_rfl
theorem spec_ManOk.bits10 : waitsOk spec_ManOk.T10.2 spec_ManOk.B10 = true := by kernel_rfl
set_option maxHeartbeats 40000000 in
set_option maxRecDepth 100000 in
theorem spec_ManOk.calls (k : Nat) (a0_0 : Int) (a0_1 : Int) (a0_2 : Int) (A0_3 : Option Addr) (c0_3 : Nat) (l0_3 : List (S61)) (r : Bool) (w : World) (hr0_3 : Kd.C k61 w A0_3 l0_3.length l0_3) (hc0_3 : l0_3.length ≤ c0_3) (h : spec_ManOk.f k a0_0 a0_1 a0_2 l0_3 = some r) :
    Calls Tryd.prog 23 #[.agg #[.int .i64 a0_0, .int .i64 a0_1, .int .i64 a0_2, .slice A0_3 l0_3.length c0_3]] w fun e w' => e = .returned (.bool r) ∧ Below w.heap.size w w' := by
  have hu32 := Tryd.underlying32
  have hu61 := Tryd.underlying61
  have HR0_3 := aM hr0_3
  have HC0_3 := aM hc0_3
  clear hr0_3 hc0_3
  have HB := aM (Below.refl w.heap.size w)
  have H := h
  clear h
  unfold spec_ManOk.f at H
  by_cases c2 : a0_0 = 0
  · rw [if_pos c2] at H
    have c2b0 : (a0_0 == 0) = true := beq_iff_eq.mpr c2
    have c2b1 : (a0_0 != 0) = false := bne_eq_false_iff_eq.mpr c2
    clear c2
    by_cases c3 : a0_1 = 0
    · rw [if_pos c3] at H
      have c3b0 : (a0_1 == 0) = true := beq_iff_eq.mpr c3
      have c3b1 : (a0_1 != 0) = false := bne_eq_false_iff_eq.mpr c3
      clear c3
      by_cases c4 : a0_2 = 0
      · rw [if_pos c4] at H
        have c4b0 : (a0_2 == 0) = true := beq_iff_eq.mpr c4
        have c4b1 : (a0_2 != 0) = false := bne_eq_false_iff_eq.mpr c4
        clear c4
        obtain rfl := Option.some.inj H
        go_enter Tryd.func23, Tryd.ntmps23
        go_wp2_with (first | ((with_reducible refine gate_dst (N := 1) rfl ?_); (try (refine gate_guard (by rfl) ?_; dsimp only)); refine gBx 1 #[.int .i64 a0_0, .int .i64 a0_1, .int .i64 a0_2, .slice A0_3 l0_3.length c0_3] 32 ?_; intro gb140 hg w5 hbox hb; have BK140 := aM (hbox); have GW140 := aM ((by rw [hg]; exact (below_size TB) : w.heap.size ≤ gb140)); have GE140 := aM ((by rw [hg]; exact (below_size TB) : w.heap.size ≤ gb140)); replace HB := aM (below_step TB hb); clear hb hbox hg; obtain ⟨hcz6_0, hcz6_1, hcz6_2, hcz6_3⟩ := cz4 BK140.out; obtain ⟨hfz6_0, hfz6_1, hfz6_2, hfz6_3⟩ := fz4 BK140.out))
        go_ret
        exact ⟨by first | rfl | (simp [errW_none, errW_some] <;> rfl) | (simp [*, errW_none, errW_some] <;> rfl), TB⟩
      · rw [if_neg c4] at H
        have c4b0 : (a0_2 == 0) = false := beq_eq_false_iff_ne.mpr c4
        have c4b1 : (a0_2 != 0) = true := bne_iff_ne.mpr c4
        obtain rfl := Option.some.inj H
        go_enter Tryd.func23, Tryd.ntmps23
        go_wp2_with (first | ((with_reducible refine gate_dst (N := 1) rfl ?_); (try (refine gate_guard (by rfl) ?_; dsimp only)); refine gBx 1 #[.int .i64 a0_0, .int .i64 a0_1, .int .i64 a0_2, .slice A0_3 l0_3.length c0_3] 32 ?_; intro gb140 hg w7 hbox hb; have BK140 := aM (hbox); have GW140 := aM ((by rw [hg]; exact (below_size TB) : w.heap.size ≤ gb140)); have GE140 := aM ((by rw [hg]; exact (below_size TB) : w.heap.size ≤ gb140)); replace HB := aM (below_step TB hb); clear hb hbox hg; obtain ⟨hcz8_0, hcz8_1, hcz8_2, hcz8_3⟩ := cz4 BK140.out; obtain ⟨hfz8_0, hfz8_1, hfz8_2, hfz8_3⟩ := fz4 BK140.out))
        go_ret
        exact ⟨by first | rfl | (simp [errW_none, errW_some] <;> rfl) | (simp [*, errW_none, errW_some] <;> rfl), TB⟩
    · rw [if_neg c3] at H
      have c3b0 : (a0_1 == 0) = false := beq_eq_false_iff_ne.mpr c3
      have c3b1 : (a0_1 != 0) = true := bne_iff_ne.mpr c3
      obtain rfl := Option.some.inj H
      go_enter Tryd.func23, Tryd.ntmps23
      go_wp2_with (first | ((with_reducible refine gate_dst (N := 1) rfl ?_); (try (refine gate_guard (by rfl) ?_; dsimp only)); refine gBx 1 #[.int .i64 a0_0, .int .i64 a0_1, .int .i64 a0_2, .slice A0_3 l0_3.length c0_3] 32 ?_; intro gb140 hg w9 hbox hb; have BK140 := aM (hbox); have GW140 := aM ((by rw [hg]; exact (below_size TB) : w.heap.size ≤ gb140)); have GE140 := aM ((by rw [hg]; exact (below_size TB) : w.heap.size ≤ gb140)); replace HB := aM (below_step TB hb); clear hb hbox hg; obtain ⟨hcz10_0, hcz10_1, hcz10_2, hcz10_3⟩ := cz4 BK140.out; obtain ⟨hfz10_0, hfz10_1, hfz10_2, hfz10_3⟩ := fz4 BK140.out))
      go_ret
      exact ⟨by first | rfl | (simp [errW_none, errW_some] <;> rfl) | (simp [*, errW_none, errW_some] <;> rfl), TB⟩
  · rw [if_neg c2] at H
    have c2b0 : (a0_0 == 0) = false := beq_eq_false_iff_ne.mpr c2
    have c2b1 : (a0_0 != 0) = true := bne_iff_ne.mpr c2
    have HC11 := aM H
    clear H
    go_enter Tryd.func23, Tryd.ntmps23
    go_upto_region 3 with (first | ((with_reducible refine gate_dst (N := 1) rfl ?_); (try (refine gate_guard (by rfl) ?_; dsimp only)); refine gBx 1 #[.int .i64 a0_0, .int .i64 a0_1, .int .i64 a0_2, .slice A0_3 l0_3.length c0_3] 32 ?_; intro gb140 hg w12 hbox hb; have BK140 := aM (hbox); have GW140 := aM ((by rw [hg]; exact (below_size TB) : w.heap.size ≤ gb140)); have GE140 := aM ((by rw [hg]; exact (below_size TB) : w.heap.size ≤ gb140)); replace HB := aM (below_step TB hb); clear hb hbox hg; obtain ⟨hcz13_0, hcz13_1, hcz13_2, hcz13_3⟩ := cz4 BK140.out; obtain ⟨hfz13_0, hfz13_1, hfz13_2, hfz13_3⟩ := fz4 BK140.out))
    (try simp only [Act.put, List.setIfInBounds_toArray, List.set_cons_zero, List.set_cons_succ])
    go_cut [47] (fun v47 wc => ∃ (kq : Nat) (x47_10 : Bool), v47 = .bool x47_10 ∧ Aside0 (spec_ManOk.j0 kq x47_10 a0_0 a0_1 a0_2 l0_3 = some r) ∧ Aside0 (kq ≤ k) ∧ Aside0 (wc.heap[gb140]? = some (.cells #[.int .i64 a0_0, .int .i64 a0_1, .int .i64 a0_2, (.slice A0_3 l0_3.length c0_3)] 32 (0, 0))) ∧ Aside0 (Below w.heap.size w wc))
    case first =>
      have H := HC11.out
      clear HC11
      replace H := bE H
      obtain ⟨t141, A14, H⟩ := H
      by_cases c15 : t141 = true
      · subst c15
        replace H := ifT H
        replace H := bE H
        obtain ⟨t142, A16, H⟩ := H
        by_cases c17 : t142 = true
        · subst c17
          replace H := ifT H
          replace H := bE H
          obtain ⟨t143, A18, H⟩ := H
          have H' := aM H
          clear H
          try go_wp2
          replace BK140 := aM (blk_drew BK140.out)
          replace HB := aM (below_drew1 HB.out)
          refine start_ (n := 23) (S := fun w' => w'.cell? ⟨gb140, 0, none⟩ = some (.int .i64 a0_0) ∧ w'.cell? ⟨gb140, 1, none⟩ = some (.int .i64 a0_1) ∧ w'.cell? ⟨gb140, 2, none⟩ = some (.int .i64 a0_2) ∧ w'.cell? ⟨gb140, 3, none⟩ = some (.slice A0_3 l0_3.length c0_3)) (ds := []) (Array.replicate 23 false) (by kernel_rfl) rfl rfl (cz4 BK140.out) (fun hHeld => ?_); refine with_tabW spec_ManOk.tab3 spec_ManOk.bits3 (fun HT_ HW_ => ?_)
          generalize w12.drew = w19 at BK140 HB hHeld ⊢
          refine pP 0 (some 25) ?_
          refine pT 1 (some 26) ?_
          refine pO 2 (some 27) (fun K hK => ?_)
          refine gG Tryd.func24 #[.int .i64 a0_0, .int .i64 1, .int .i64 1000000] ?_
          with_reducible refine (spec_l1In.calls a0_0 1 1000000 true _ A14.out).mono ?_
          rintro e w' ⟨rfl, ⟨nd, rfl⟩⟩
          refine ⟨_, rfl, ?_⟩
          refine hK.out _ _ (cz4 BK140.out) (fun hHeld => ?_)
          clear hK K
          refine nR ?_
          refine pP 3 (some 28) ?_
          refine pP 4 (some 29) ?_
          refine pP 5 (some 30) ?_
          refine pP 7 (some 32) ?_
          refine pT 6 (some 31) ?_
          refine pT 8 (some 33) ?_
          refine pO 9 (some 34) (fun K hK => ?_)
          refine gG Tryd.func38 #[.int .i64 a0_1, .int .i64 a0_2] ?_
          with_reducible refine (spec_SizeOk.calls a0_1 a0_2 true _ A16.out).mono ?_
          rintro e w' ⟨rfl, ⟨nd, rfl⟩⟩
          refine ⟨_, rfl, ?_⟩
          refine hK.out _ _ (cz4 BK140.out) (fun hHeld => ?_)
          clear hK K
          refine nR ?_
          refine pP 10 (some 35) ?_
          refine pP 11 (some 36) ?_
          refine pP 12 (some 37) ?_
          refine pP 13 (some 38) ?_
          refine pP 16 (some 41) ?_
          refine pP 18 (some 43) ?_
          refine pT 14 (some 39) ?_
          refine pP 15 (some 40) ?_
          refine pT 17 (some 42) ?_
          refine pT 19 (some 44) ?_
          refine pO 20 (some 45) (fun K hK => ?_)
          refine gG Tryd.func39 #[.int .i64 a0_1, .int .i64 a0_2] ?_
          with_reducible refine (spec_Blocks.calls a0_1 a0_2 t143 _ A18.out).mono ?_
          rintro e w' ⟨rfl, ⟨nd, rfl⟩⟩
          refine ⟨_, rfl, ?_⟩
          refine hK.out _ _ (cz4 BK140.out) (fun hHeld => ?_)
          clear hK K
          refine nR ?_
          refine pP 21 (some 46) ?_
          refine pP 22 (some 47) ?_
          refine done_ (done_of HT_.out (by kernel_rfl)) ?_
          try go_wp2
          go_meet
          case rel => exact ⟨_, (((l0_3.length : Int) != t143)), (by first | rfl | (simp; done) | (simp [*]; done)), H', ⟨by first | omega | exact Nat.le_refl _⟩, ⟨TK⟩, ⟨TB⟩⟩
        · replace c17 := Bool.eq_false_iff.mpr c17
          subst c17
          replace H := ifF H
          have H' := aM H
          clear H
          try go_wp2
          replace BK140 := aM (blk_drew BK140.out)
          replace HB := aM (below_drew1 HB.out)
          refine start_ (n := 23) (S := fun w' => w'.cell? ⟨gb140, 0, none⟩ = some (.int .i64 a0_0) ∧ w'.cell? ⟨gb140, 1, none⟩ = some (.int .i64 a0_1) ∧ w'.cell? ⟨gb140, 2, none⟩ = some (.int .i64 a0_2) ∧ w'.cell? ⟨gb140, 3, none⟩ = some (.slice A0_3 l0_3.length c0_3)) (ds := []) (Array.replicate 23 false) (by kernel_rfl) rfl rfl (cz4 BK140.out) (fun hHeld => ?_); refine with_tabW spec_ManOk.tab3 spec_ManOk.bits3 (fun HT_ HW_ => ?_)
          generalize w12.drew = w20 at BK140 HB hHeld ⊢
          refine pP 0 (some 25) ?_
          refine pT 1 (some 26) ?_
          refine pO 2 (some 27) (fun K hK => ?_)
          refine gG Tryd.func24 #[.int .i64 a0_0, .int .i64 1, .int .i64 1000000] ?_
          with_reducible refine (spec_l1In.calls a0_0 1 1000000 true _ A14.out).mono ?_
          rintro e w' ⟨rfl, ⟨nd, rfl⟩⟩
          refine ⟨_, rfl, ?_⟩
          refine hK.out _ _ (cz4 BK140.out) (fun hHeld => ?_)
          clear hK K
          refine nR ?_
          refine pP 3 (some 28) ?_
          refine pP 4 (some 29) ?_
          refine pP 5 (some 30) ?_
          refine pP 7 (some 32) ?_
          refine pT 6 (some 31) ?_
          refine pT 8 (some 33) ?_
          refine pO 9 (some 34) (fun K hK => ?_)
          refine gG Tryd.func38 #[.int .i64 a0_1, .int .i64 a0_2] ?_
          with_reducible refine (spec_SizeOk.calls a0_1 a0_2 false _ A16.out).mono ?_
          rintro e w' ⟨rfl, ⟨nd, rfl⟩⟩
          refine ⟨_, rfl, ?_⟩
          refine hK.out _ _ (cz4 BK140.out) (fun hHeld => ?_)
          clear hK K
          refine nR ?_
          refine pP 10 (some 35) ?_
          refine pP 11 (some 36) ?_
          refine pP 12 (some 37) ?_
          refine pX 13 (some 38) ?_
          refine pX 14 (some 39) ?_
          refine pX 15 (some 40) ?_
          refine pX 16 (some 41) ?_
          refine pX 17 (some 42) ?_
          refine pX 18 (some 43) ?_
          refine pX 19 (some 44) ?_
          refine pX 20 (some 45) ?_
          refine pX 21 (some 46) ?_
          refine pP 22 (some 47) ?_
          refine done_ (done_of HT_.out (by kernel_rfl)) ?_
          try go_wp2
          go_meet
          case rel => exact ⟨_, (true), (by first | rfl | (simp; done) | (simp [*]; done)), H', ⟨by first | omega | exact Nat.le_refl _⟩, ⟨TK⟩, ⟨TB⟩⟩
      · replace c15 := Bool.eq_false_iff.mpr c15
        subst c15
        replace H := ifF H
        have H' := aM H
        clear H
        try go_wp2
        replace BK140 := aM (blk_drew BK140.out)
        replace HB := aM (below_drew1 HB.out)
        refine start_ (n := 23) (S := fun w' => w'.cell? ⟨gb140, 0, none⟩ = some (.int .i64 a0_0) ∧ w'.cell? ⟨gb140, 1, none⟩ = some (.int .i64 a0_1) ∧ w'.cell? ⟨gb140, 2, none⟩ = some (.int .i64 a0_2) ∧ w'.cell? ⟨gb140, 3, none⟩ = some (.slice A0_3 l0_3.length c0_3)) (ds := []) (Array.replicate 23 false) (by kernel_rfl) rfl rfl (cz4 BK140.out) (fun hHeld => ?_); refine with_tabW spec_ManOk.tab3 spec_ManOk.bits3 (fun HT_ HW_ => ?_)
        generalize w12.drew = w21 at BK140 HB hHeld ⊢
        refine pP 0 (some 25) ?_
        refine pT 1 (some 26) ?_
        refine pO 2 (some 27) (fun K hK => ?_)
        refine gG Tryd.func24 #[.int .i64 a0_0, .int .i64 1, .int .i64 1000000] ?_
        with_reducible refine (spec_l1In.calls a0_0 1 1000000 false _ A14.out).mono ?_
        rintro e w' ⟨rfl, ⟨nd, rfl⟩⟩
        refine ⟨_, rfl, ?_⟩
        refine hK.out _ _ (cz4 BK140.out) (fun hHeld => ?_)
        clear hK K
        refine nR ?_
        refine pP 3 (some 28) ?_
        refine pP 4 (some 29) ?_
        refine pX 5 (some 30) ?_
        refine pX 6 (some 31) ?_
        refine pX 7 (some 32) ?_
        refine pX 8 (some 33) ?_
        refine pX 9 (some 34) ?_
        refine pX 10 (some 35) ?_
        refine pP 11 (some 36) ?_
        refine pP 12 (some 37) ?_
        refine pX 13 (some 38) ?_
        refine pX 14 (some 39) ?_
        refine pX 15 (some 40) ?_
        refine pX 16 (some 41) ?_
        refine pX 17 (some 42) ?_
        refine pX 18 (some 43) ?_
        refine pX 19 (some 44) ?_
        refine pX 20 (some 45) ?_
        refine pX 21 (some 46) ?_
        refine pP 22 (some 47) ?_
        refine done_ (done_of HT_.out (by kernel_rfl)) ?_
        try go_wp2
        go_meet
        case rel => exact ⟨_, (true), (by first | rfl | (simp; done) | (simp [*]; done)), H', ⟨by first | omega | exact Nat.le_refl _⟩, ⟨TK⟩, ⟨TB⟩⟩
    case rest =>
      clear HC11
      try clear c1
      try clear c2
      try clear c2b0
      try clear c2b1
      try clear p2
      try clear c3
      try clear c3b0
      try clear c3b1
      try clear c4
      try clear c4b0
      try clear c4b1
      try clear c15
      try clear c17
      try clear hcz10_0
      try clear hcz10_1
      try clear hcz10_2
      try clear hcz10_3
      try clear hcz13_0
      try clear hcz13_1
      try clear hcz13_2
      try clear hcz13_3
      try clear hcz6_0
      try clear hcz6_1
      try clear hcz6_2
      try clear hcz6_3
      try clear hcz8_0
      try clear hcz8_1
      try clear hcz8_2
      try clear hcz8_3
      try clear hfz10_0
      try clear hfz10_1
      try clear hfz10_2
      try clear hfz10_3
      try clear hfz13_0
      try clear hfz13_1
      try clear hfz13_2
      try clear hfz13_3
      try clear hfz6_0
      try clear hfz6_1
      try clear hfz6_2
      try clear hfz6_3
      try clear hfz8_0
      try clear hfz8_1
      try clear hfz8_2
      try clear hfz8_3
      obtain ⟨kq, x47_10, rfl, HA, HJ10, BK140, HB⟩ := hcut
      cases kq with
      | zero => exact absurd HA.out (by simp [spec_ManOk.j0])
      | succ kj10 =>
        have H := HA.out
        clear HA
        simp only [spec_ManOk.j0] at H
        by_cases c22 : x47_10 = true
        · subst c22
          replace H := ifT H
          obtain rfl := Option.some.inj H
          go_wp2
          go_ret
          exact ⟨by first | rfl | (simp [errW_none, errW_some] <;> rfl) | (simp [*, errW_none, errW_some] <;> rfl), TB⟩
        · replace c22 := Bool.eq_false_iff.mpr c22
          subst c22
          replace H := ifF H
          have H' := aM H
          clear H
          go_wp2
          go_loopg [3] kj10 (fun kq v3 w' => ∃ (x3_2 : Int), v3 = .int .i64 x3_2 ∧ Aside0 (spec_ManOk.l0 kq x3_2 a0_0 a0_1 a0_2 l0_3 = some r) ∧ Aside0 (kq ≤ kj10) ∧ Aside0 (w'.heap[gb140]? = some (.cells #[.int .i64 a0_0, .int .i64 a0_1, .int .i64 a0_2, (.slice A0_3 l0_3.length c0_3)] 32 (0, 0))) ∧ Aside0 (Below w.heap.size w w'))
          case atStart => exact ⟨(0), (by first | rfl | (simp; done) | (simp [*]; done)), H', ⟨Nat.le_refl _⟩, ⟨TK⟩, ⟨TB⟩⟩
          case round =>
            clear H'
            try clear c1
            try clear c2
            try clear c2b0
            try clear c2b1
            try clear p2
            try clear c3
            try clear c3b0
            try clear c3b1
            try clear c4
            try clear c4b0
            try clear c4b1
            try clear c15
            try clear c17
            try clear c22
            try clear hcz10_0
            try clear hcz10_1
            try clear hcz10_2
            try clear hcz10_3
            try clear hcz13_0
            try clear hcz13_1
            try clear hcz13_2
            try clear hcz13_3
            try clear hcz6_0
            try clear hcz6_1
            try clear hcz6_2
            try clear hcz6_3
            try clear hcz8_0
            try clear hcz8_1
            try clear hcz8_2
            try clear hcz8_3
            try clear hfz10_0
            try clear hfz10_1
            try clear hfz10_2
            try clear hfz10_3
            try clear hfz13_0
            try clear hfz13_1
            try clear hfz13_2
            try clear hfz13_3
            try clear hfz6_0
            try clear hfz6_1
            try clear hfz6_2
            try clear hfz6_3
            try clear hfz8_0
            try clear hfz8_1
            try clear hfz8_2
            try clear hfz8_3
            try clear p2
            obtain ⟨x3_2, rfl, HA, HK2, BK140, HB⟩ := hrel
            cases gk with
            | zero => exact absurd HA.out (by simp [spec_ManOk.l0])
            | succ k2 =>
              have H := HA.out
              clear HA
              simp only [spec_ManOk.l0] at H
              by_cases c23 : x3_2 < (l0_3.length : Int)
              · rw [if_pos c23] at H
                have c23b0 : decide (x3_2 < (l0_3.length : Int)) = true := decide_eq_true c23
                clear c23
                replace H := ifN H
                obtain ⟨c24, H⟩ := H
                have c24b0 : decide (0 ≤ x3_2) = true := decide_eq_true c24
                clear c24
                replace H := bE H
                obtain ⟨⟨t145, t146⟩, A25, H⟩ := H
                dsimp only at H
                replace H := bE H
                obtain ⟨⟨t149, t150⟩, A26, H⟩ := H
                dsimp only at H
                obtain ⟨hcz28_0, hcz28_1, hcz28_2, hcz28_3⟩ := cz4 BK140.out
                obtain ⟨hfz28_0, hfz28_1, hfz28_2, hfz28_3⟩ := fz4 BK140.out
                have p144 : 0 ≤ (x3_2 : Int) := DT
                have q144 : x3_2 < (l0_3.length : Int) := DT
                obtain ⟨ad144, e144, hx144_0, hx144_1⟩ := at_T61 HR0_3.out x3_2 p144 q144
                cases e144
                replace hx144_0 := (HB.out.cell (World.block_lt_of_cell? w _ hx144_0)).trans hx144_0
                replace hx144_1 := (HB.out.cell (World.block_lt_of_cell? w _ hx144_1)).trans hx144_1
                replace p144 := eq_true p144
                replace q144 := eq_true q144
                go_wp2_with (first | ((with_reducible refine gate_callee (f := 40) rfl ?_); refine gL (some 62) Tryd.func40 #[.int .i64 ((rd_T61 l0_3 x3_2).f1)] ?_; (with_reducible refine (spec_BytesOf.calls k2 ((rd_T61 l0_3 x3_2).f1) t145 t146 _ A25.out).mono ?_); rintro e w29 ⟨v147, rfl, ho0, hb⟩; refine ⟨_, rfl, ?_⟩; have HO148 := aM (Kd.R_lower ho0 (below_size TB)); replace BK140 := aM (blk_below (g := gb140) (o := .cells #[.int .i64 a0_0, .int .i64 a0_1, .int .i64 a0_2, .slice (some ad144) l0_3.length c0_3] 32 (0, 0)) TK hb); replace HB := aM (below_step TB hb); clear ho0 hb; obtain ⟨hcz30_0, hcz30_1, hcz30_2, hcz30_3⟩ := cz4 BK140.out; obtain ⟨hfz30_0, hfz30_1, hfz30_2, hfz30_3⟩ := fz4 BK140.out) | ((with_reducible refine gate_callee (f := 41) rfl ?_); (with_reducible refine gate_dst (N := 71) rfl ?_); generalize hG_ : wpList _ _ _ _ _ _ = G_))
                subst hG_
                by_cases c31 : t146 = true
                · subst c31
                  replace H := ifT H
                  by_cases c32 : (t145.length : Int) = t150
                  · rw [if_pos c32] at H
                    have c32b0 : ((t145.length : Int) == t150) = true := beq_iff_eq.mpr c32
                    have c32b1 : ((t145.length : Int) != t150) = false := bne_eq_false_iff_eq.mpr c32
                    clear c32
                    replace H := bE H
                    obtain ⟨⟨t151, t152⟩, A33, H⟩ := H
                    dsimp only at H
                    by_cases c34 : (!(t151 == ((rd_T61 l0_3 x3_2).f0)) || (!(t152 == ((rd_T61 l0_3 x3_2).f1)))) = true
                    · rw [if_pos c34] at H
                      have c34b0 : (!(t151 == ((rd_T61 l0_3 x3_2).f0)) || (!(t152 == ((rd_T61 l0_3 x3_2).f1)))) = true := c34
                      clear c34
                      obtain rfl := Option.some.inj H
                      try go_wp2_with (first | ((with_reducible refine gate_callee (f := 41) rfl ?_); refine gL (some 71) Tryd.func41 #[.int .i64 a0_1, .int .i64 a0_2, .int .i64 x3_2] ?_; (with_reducible refine (spec_SpanOf.calls a0_1 a0_2 x3_2 t149 t150 _ A26.out).mono ?_); rintro e w' ⟨rfl, ⟨nd, rfl⟩⟩; refine ⟨_, rfl, ?_⟩))
                      (try (rw [drewN_self w29]; generalize hq_ : World.drewN w29 _ = w29; have n0_ : Aside0 (Kd.R (Kd.int .u8) 5 w29 w.heap.size (fun _ => True) v147 t145) := ⟨by rw [← hq_]; exact (by have X_ := HO148.out; exact TR)⟩; have n1_ : Aside0 (w29.heap[gb140]? = some (.cells #[.int .i64 a0_0, .int .i64 a0_1, .int .i64 a0_2, .slice (some ad144) l0_3.length c0_3] 32 (0, 0))) := ⟨by rw [← hq_]; exact TK⟩; have n2_ : Aside0 (Below w.heap.size w w29) := ⟨by rw [← hq_]; exact TB⟩; clear HO148 BK140 HB hq_; have HO148 := n0_; have BK140 := n1_; have HB := n2_; clear n0_ n1_ n2_))
                      replace HO148 := aM (Kd.R_drew HO148.out)
                      replace BK140 := aM (blk_drew BK140.out)
                      replace HB := aM (below_drew1 HB.out)
                      obtain ⟨Ao36, co36, eo36⟩ := Kd.R_slice HO148.out
                      (first | subst eo36 | (injection eo36 with f1_ f2_ f3_; have f4_ := f1_.symm; have f5_ := f3_.symm; clear f1_ f2_ f3_; subst f4_; subst f5_))
                      have p153 : 0 ≤ (x3_2 : Int) := DT
                      have q153 : x3_2 < (l0_3.length : Int) := DT
                      obtain ⟨ad153, e153, hx153_0, hx153_1⟩ := at_T61 HR0_3.out x3_2 p153 q153
                      have hw153_1 := hx153_1
                      have hw153_0 := hx153_0
                      obtain rfl : ad144 = ad153 := (by injection e153)
                      replace hx153_0 := (HB.out.cell (World.block_lt_of_cell? w _ hx153_0)).trans hx153_0
                      replace hx153_1 := (HB.out.cell (World.block_lt_of_cell? w _ hx153_1)).trans hx153_1
                      replace p153 := eq_true p153
                      replace q153 := eq_true q153
                      refine start_ (n := 18) (S := fun w' => w'.cell? ⟨gb140, 0, none⟩ = some (.int .i64 a0_0) ∧ w'.cell? ⟨gb140, 1, none⟩ = some (.int .i64 a0_1) ∧ w'.cell? ⟨gb140, 2, none⟩ = some (.int .i64 a0_2) ∧ w'.cell? ⟨gb140, 3, none⟩ = some (.slice (some ad144) l0_3.length c0_3) ∧ w'.cell? (ad144.add ((x3_2).toNat * 2)) = some (.int .i64 ((rd_T61 l0_3 x3_2).f0)) ∧ w'.cell? ⟨(ad144.add ((x3_2).toNat * 2)).block, (ad144.add ((x3_2).toNat * 2)).off + 1, none⟩ = some (.int .i64 ((rd_T61 l0_3 x3_2).f1))) (ds := []) (Array.replicate 18 false) (by kernel_rfl) rfl rfl ⟨(blk_cell BK140.out 0).trans rfl, (blk_cell BK140.out 1).trans rfl, (blk_cell BK140.out 2).trans rfl, (blk_cell BK140.out 3).trans rfl, ((HB.out.cell (World.block_lt_of_cell? w _ hw153_0)).trans hw153_0), ((HB.out.cell (World.block_lt_of_cell? w _ hw153_1)).trans hw153_1)⟩ (fun hHeld => ?_); refine with_tabW spec_ManOk.tab10 spec_ManOk.bits10 (fun HT_ HW_ => ?_)
                      generalize w29.drew = w35 at HO148 BK140 HB hx153_0 hx153_1 hHeld ⊢
                      refine pP 0 (some 74) ?_
                      refine pP 1 (some 75) ?_
                      refine pP 2 (some 76) ?_
                      refine pP 3 (some 77) ?_
                      refine pP 4 (some 78) ?_
                      refine pP 5 (some 79) ?_
                      refine pP 6 (some 80) ?_
                      refine pP 7 (some 81) ?_
                      refine pP 8 (some 82) ?_
                      refine pP 9 (some 83) ?_
                      refine pP 11 (some 85) ?_
                      refine pP 13 (some 87) ?_
                      refine pT 12 (some 86) ?_
                      refine pP 14 (some 88) ?_
                      refine pT 15 (some 89) ?_
                      refine pO 10 (some 84) (fun K hK => ?_)
                      refine gG Tryd.func42 #[.slice Ao36 t145.length co36] ?_
                      with_reducible refine (spec_SumOf.calls k2 _ _ t145 t151 t152 _ ?side1 ?side2 A33.out).mono ?_
                      (case side1 => have X_ := (Kd.R_reads' HO148.out).2.2; exact TC)
                      (case side2 => exact (Kd.R_reads' HO148.out).2.1)
                      rintro e w37 ⟨rfl, hb⟩
                      refine ⟨_, rfl, ?_⟩
                      have n0_ := aM (Kd.R_below (by have X_ := HO148.out; exact TR) hb)
                      have n1_ := aM (blk_below (g := gb140) (o := .cells #[.int .i64 a0_0, .int .i64 a0_1, .int .i64 a0_2, .slice (some ad144) l0_3.length c0_3] 32 (0, 0)) TK hb)
                      have n2_ := aM (below_step TB hb)
                      clear HO148
                      clear BK140
                      clear HB
                      have HO148 := n0_
                      have BK140 := n1_
                      have HB := n2_
                      clear n0_ n1_ n2_
                      (try clear hb)
                      (try clear hb2)
                      (try clear hk)
                      (try clear hi)
                      refine hK.out _ _ ⟨(blk_cell BK140.out 0).trans rfl, (blk_cell BK140.out 1).trans rfl, (blk_cell BK140.out 2).trans rfl, (blk_cell BK140.out 3).trans rfl, ((HB.out.cell (World.block_lt_of_cell? w _ hw153_0)).trans hw153_0), ((HB.out.cell (World.block_lt_of_cell? w _ hw153_1)).trans hw153_1)⟩ (fun hHeld => ?_)
                      clear hK K
                      refine nR ?_
                      refine pP 16 (some 90) ?_
                      refine pP 17 (some 91) ?_
                      refine done_ (done_of HT_.out (by kernel_rfl)) ?_
                      try go_wp2
                      go_ret
                      exact ⟨by first | rfl | (simp [errW_none, errW_some] <;> rfl) | (simp [*, errW_none, errW_some] <;> rfl), TB⟩
                    · rw [if_neg c34] at H
                      have c34b0 : (!(t151 == ((rd_T61 l0_3 x3_2).f0)) || (!(t152 == ((rd_T61 l0_3 x3_2).f1)))) = false := by simpa using c34
                      clear c34
                      have H' := aM H
                      clear H
                      try go_wp2_with (first | ((with_reducible refine gate_callee (f := 41) rfl ?_); refine gL (some 71) Tryd.func41 #[.int .i64 a0_1, .int .i64 a0_2, .int .i64 x3_2] ?_; (with_reducible refine (spec_SpanOf.calls a0_1 a0_2 x3_2 t149 t150 _ A26.out).mono ?_); rintro e w' ⟨rfl, ⟨nd, rfl⟩⟩; refine ⟨_, rfl, ?_⟩))
                      (try (rw [drewN_self w29]; generalize hq_ : World.drewN w29 _ = w29; have n0_ : Aside0 (Kd.R (Kd.int .u8) 5 w29 w.heap.size (fun _ => True) v147 t145) := ⟨by rw [← hq_]; exact (by have X_ := HO148.out; exact TR)⟩; have n1_ : Aside0 (w29.heap[gb140]? = some (.cells #[.int .i64 a0_0, .int .i64 a0_1, .int .i64 a0_2, .slice (some ad144) l0_3.length c0_3] 32 (0, 0))) := ⟨by rw [← hq_]; exact TK⟩; have n2_ : Aside0 (Below w.heap.size w w29) := ⟨by rw [← hq_]; exact TB⟩; clear HO148 BK140 HB hq_; have HO148 := n0_; have BK140 := n1_; have HB := n2_; clear n0_ n1_ n2_))
                      replace HO148 := aM (Kd.R_drew HO148.out)
                      replace BK140 := aM (blk_drew BK140.out)
                      replace HB := aM (below_drew1 HB.out)
                      obtain ⟨Ao39, co39, eo39⟩ := Kd.R_slice HO148.out
                      (first | subst eo39 | (injection eo39 with f1_ f2_ f3_; have f4_ := f1_.symm; have f5_ := f3_.symm; clear f1_ f2_ f3_; subst f4_; subst f5_))
                      have p153 : 0 ≤ (x3_2 : Int) := DT
                      have q153 : x3_2 < (l0_3.length : Int) := DT
                      obtain ⟨ad153, e153, hx153_0, hx153_1⟩ := at_T61 HR0_3.out x3_2 p153 q153
                      have hw153_1 := hx153_1
                      have hw153_0 := hx153_0
                      obtain rfl : ad144 = ad153 := (by injection e153)
                      replace hx153_0 := (HB.out.cell (World.block_lt_of_cell? w _ hx153_0)).trans hx153_0
                      replace hx153_1 := (HB.out.cell (World.block_lt_of_cell? w _ hx153_1)).trans hx153_1
                      replace p153 := eq_true p153
                      replace q153 := eq_true q153
                      refine start_ (n := 18) (S := fun w' => w'.cell? ⟨gb140, 0, none⟩ = some (.int .i64 a0_0) ∧ w'.cell? ⟨gb140, 1, none⟩ = some (.int .i64 a0_1) ∧ w'.cell? ⟨gb140, 2, none⟩ = some (.int .i64 a0_2) ∧ w'.cell? ⟨gb140, 3, none⟩ = some (.slice (some ad144) l0_3.length c0_3) ∧ w'.cell? (ad144.add ((x3_2).toNat * 2)) = some (.int .i64 ((rd_T61 l0_3 x3_2).f0)) ∧ w'.cell? ⟨(ad144.add ((x3_2).toNat * 2)).block, (ad144.add ((x3_2).toNat * 2)).off + 1, none⟩ = some (.int .i64 ((rd_T61 l0_3 x3_2).f1))) (ds := []) (Array.replicate 18 false) (by kernel_rfl) rfl rfl ⟨(blk_cell BK140.out 0).trans rfl, (blk_cell BK140.out 1).trans rfl, (blk_cell BK140.out 2).trans rfl, (blk_cell BK140.out 3).trans rfl, ((HB.out.cell (World.block_lt_of_cell? w _ hw153_0)).trans hw153_0), ((HB.out.cell (World.block_lt_of_cell? w _ hw153_1)).trans hw153_1)⟩ (fun hHeld => ?_); refine with_tabW spec_ManOk.tab10 spec_ManOk.bits10 (fun HT_ HW_ => ?_)
                      generalize w29.drew = w38 at HO148 BK140 HB hx153_0 hx153_1 hHeld ⊢
                      refine pP 0 (some 74) ?_
                      refine pP 1 (some 75) ?_
                      refine pP 2 (some 76) ?_
                      refine pP 3 (some 77) ?_
                      refine pP 4 (some 78) ?_
                      refine pP 5 (some 79) ?_
                      refine pP 6 (some 80) ?_
                      refine pP 7 (some 81) ?_
                      refine pP 8 (some 82) ?_
                      refine pP 9 (some 83) ?_
                      refine pP 11 (some 85) ?_
                      refine pP 13 (some 87) ?_
                      refine pT 12 (some 86) ?_
                      refine pP 14 (some 88) ?_
                      refine pT 15 (some 89) ?_
                      refine pO 10 (some 84) (fun K hK => ?_)
                      refine gG Tryd.func42 #[.slice Ao39 t145.length co39] ?_
                      with_reducible refine (spec_SumOf.calls k2 _ _ t145 t151 t152 _ ?side1 ?side2 A33.out).mono ?_
                      (case side1 => have X_ := (Kd.R_reads' HO148.out).2.2; exact TC)
                      (case side2 => exact (Kd.R_reads' HO148.out).2.1)
                      rintro e w40 ⟨rfl, hb⟩
                      refine ⟨_, rfl, ?_⟩
                      have n0_ := aM (Kd.R_below (by have X_ := HO148.out; exact TR) hb)
                      have n1_ := aM (blk_below (g := gb140) (o := .cells #[.int .i64 a0_0, .int .i64 a0_1, .int .i64 a0_2, .slice (some ad144) l0_3.length c0_3] 32 (0, 0)) TK hb)
                      have n2_ := aM (below_step TB hb)
                      clear HO148
                      clear BK140
                      clear HB
                      have HO148 := n0_
                      have BK140 := n1_
                      have HB := n2_
                      clear n0_ n1_ n2_
                      (try clear hb)
                      (try clear hb2)
                      (try clear hk)
                      (try clear hi)
                      refine hK.out _ _ ⟨(blk_cell BK140.out 0).trans rfl, (blk_cell BK140.out 1).trans rfl, (blk_cell BK140.out 2).trans rfl, (blk_cell BK140.out 3).trans rfl, ((HB.out.cell (World.block_lt_of_cell? w _ hw153_0)).trans hw153_0), ((HB.out.cell (World.block_lt_of_cell? w _ hw153_1)).trans hw153_1)⟩ (fun hHeld => ?_)
                      clear hK K
                      refine nR ?_
                      refine pP 16 (some 90) ?_
                      refine pP 17 (some 91) ?_
                      refine done_ (done_of HT_.out (by kernel_rfl)) ?_
                      try go_wp2
                      go_roundg k2
                      case measure => have := HJ10.out; have := HK2.out; omega
                      case rel => exact ⟨(wrap64 (x3_2 + 1)), (by first | rfl | (simp; done) | (simp [*]; done)), H', ⟨by have := HJ10.out; have := HK2.out; omega⟩, ⟨TK⟩, ⟨TB⟩⟩
                  · rw [if_neg c32] at H
                    have c32b0 : ((t145.length : Int) == t150) = false := beq_eq_false_iff_ne.mpr c32
                    have c32b1 : ((t145.length : Int) != t150) = true := bne_iff_ne.mpr c32
                    obtain rfl := Option.some.inj H
                    try go_wp2_with (first | ((with_reducible refine gate_callee (f := 41) rfl ?_); refine gL (some 71) Tryd.func41 #[.int .i64 a0_1, .int .i64 a0_2, .int .i64 x3_2] ?_; (with_reducible refine (spec_SpanOf.calls a0_1 a0_2 x3_2 t149 t150 _ A26.out).mono ?_); rintro e w' ⟨rfl, ⟨nd, rfl⟩⟩; refine ⟨_, rfl, ?_⟩))
                    (try (rw [drewN_self w29]; generalize hq_ : World.drewN w29 _ = w29; have n0_ : Aside0 (Kd.R (Kd.int .u8) 5 w29 w.heap.size (fun _ => True) v147 t145) := ⟨by rw [← hq_]; exact (by have X_ := HO148.out; exact TR)⟩; have n1_ : Aside0 (w29.heap[gb140]? = some (.cells #[.int .i64 a0_0, .int .i64 a0_1, .int .i64 a0_2, .slice (some ad144) l0_3.length c0_3] 32 (0, 0))) := ⟨by rw [← hq_]; exact TK⟩; have n2_ : Aside0 (Below w.heap.size w w29) := ⟨by rw [← hq_]; exact TB⟩; clear HO148 BK140 HB hq_; have HO148 := n0_; have BK140 := n1_; have HB := n2_; clear n0_ n1_ n2_))
                    replace HO148 := aM (Kd.R_drew HO148.out)
                    replace BK140 := aM (blk_drew BK140.out)
                    replace HB := aM (below_drew1 HB.out)
                    obtain ⟨Ao42, co42, eo42⟩ := Kd.R_slice HO148.out
                    (first | subst eo42 | (injection eo42 with f1_ f2_ f3_; have f4_ := f1_.symm; have f5_ := f3_.symm; clear f1_ f2_ f3_; subst f4_; subst f5_))
                    refine start_ (n := 18) (S := fun w' => True) (ds := []) (Array.replicate 18 false) (by kernel_rfl) rfl rfl trivial (fun hHeld => ?_); refine with_tabW spec_ManOk.tab10 spec_ManOk.bits10 (fun HT_ HW_ => ?_)
                    generalize w29.drew = w41 at HO148 BK140 HB hHeld ⊢
                    refine pP 0 (some 74) ?_
                    refine pP 1 (some 75) ?_
                    refine pP 2 (some 76) ?_
                    refine pP 3 (some 77) ?_
                    refine pP 4 (some 78) ?_
                    refine pP 5 (some 79) ?_
                    refine pP 6 (some 80) ?_
                    refine pP 7 (some 81) ?_
                    refine pP 8 (some 82) ?_
                    refine pX 9 (some 83) ?_
                    refine pX 10 (some 84) ?_
                    refine pX 11 (some 85) ?_
                    refine pX 12 (some 86) ?_
                    refine pX 13 (some 87) ?_
                    refine pX 14 (some 88) ?_
                    refine pX 15 (some 89) ?_
                    refine pX 16 (some 90) ?_
                    refine pP 17 (some 91) ?_
                    refine done_ (done_of HT_.out (by kernel_rfl)) ?_
                    try go_wp2
                    go_ret
                    exact ⟨by first | rfl | (simp [errW_none, errW_some] <;> rfl) | (simp [*, errW_none, errW_some] <;> rfl), TB⟩
                · replace c31 := Bool.eq_false_iff.mpr c31
                  subst c31
                  replace H := ifF H
                  obtain rfl := Option.some.inj H
                  try go_wp2_with (first | ((with_reducible refine gate_callee (f := 41) rfl ?_); refine gL (some 71) Tryd.func41 #[.int .i64 a0_1, .int .i64 a0_2, .int .i64 x3_2] ?_; (with_reducible refine (spec_SpanOf.calls a0_1 a0_2 x3_2 t149 t150 _ A26.out).mono ?_); rintro e w' ⟨rfl, ⟨nd, rfl⟩⟩; refine ⟨_, rfl, ?_⟩))
                  (try (rw [drewN_self w29]; generalize hq_ : World.drewN w29 _ = w29; have n0_ : Aside0 (Kd.R (Kd.int .u8) 5 w29 w.heap.size (fun _ => True) v147 t145) := ⟨by rw [← hq_]; exact (by have X_ := HO148.out; exact TR)⟩; have n1_ : Aside0 (w29.heap[gb140]? = some (.cells #[.int .i64 a0_0, .int .i64 a0_1, .int .i64 a0_2, .slice (some ad144) l0_3.length c0_3] 32 (0, 0))) := ⟨by rw [← hq_]; exact TK⟩; have n2_ : Aside0 (Below w.heap.size w w29) := ⟨by rw [← hq_]; exact TB⟩; clear HO148 BK140 HB hq_; have HO148 := n0_; have BK140 := n1_; have HB := n2_; clear n0_ n1_ n2_))
                  replace HO148 := aM (Kd.R_drew HO148.out)
                  replace BK140 := aM (blk_drew BK140.out)
                  replace HB := aM (below_drew1 HB.out)
                  refine start_ (n := 18) (S := fun w' => True) (ds := []) (Array.replicate 18 false) (by kernel_rfl) rfl rfl trivial (fun hHeld => ?_); refine with_tabW spec_ManOk.tab10 spec_ManOk.bits10 (fun HT_ HW_ => ?_)
                  generalize w29.drew = w43 at HO148 BK140 HB hHeld ⊢
                  refine pP 0 (some 74) ?_
                  refine pP 1 (some 75) ?_
                  refine pP 2 (some 76) ?_
                  refine pX 3 (some 77) ?_
                  refine pX 4 (some 78) ?_
                  refine pX 5 (some 79) ?_
                  refine pX 6 (some 80) ?_
                  refine pP 7 (some 81) ?_
                  refine pP 8 (some 82) ?_
                  refine pX 9 (some 83) ?_
                  refine pX 10 (some 84) ?_
                  refine pX 11 (some 85) ?_
                  refine pX 12 (some 86) ?_
                  refine pX 13 (some 87) ?_
                  refine pX 14 (some 88) ?_
                  refine pX 15 (some 89) ?_
                  refine pX 16 (some 90) ?_
                  refine pP 17 (some 91) ?_
                  refine done_ (done_of HT_.out (by kernel_rfl)) ?_
                  try go_wp2
                  go_ret
                  exact ⟨by first | rfl | (simp [errW_none, errW_some] <;> rfl) | (simp [*, errW_none, errW_some] <;> rfl), TB⟩
              · rw [if_neg c23] at H
                have c23b0 : decide (x3_2 < (l0_3.length : Int)) = false := decide_eq_false c23
                clear c23
                obtain rfl := Option.some.inj H
                obtain ⟨hcz44_0, hcz44_1, hcz44_2, hcz44_3⟩ := cz4 BK140.out
                obtain ⟨hfz44_0, hfz44_1, hfz44_2, hfz44_3⟩ := fz4 BK140.out
                go_wp2
                go_ret
                exact ⟨by first | rfl | (simp [errW_none, errW_some] <;> rfl) | (simp [*, errW_none, errW_some] <;> rfl), TB⟩

end Go.Proofs.YtanpaipapcjpoaaDoor.Q
