/- Functions of the program as plain Lean functions, and that a call of each comes to what its function tells. Written by a program of this seat. -/
import Derived.Test.YtogilihkphjjbaaQ0
import Derived.Test.YtogilihkphjjbaaQ13
import Derived.Test.YtogilihkphjjbaaQ14
import Derived.Test.YtogilihkphjjbaaQ54
namespace Go.Proofs.Ytogilihkphjjbaa.Q
open Go.RowKit Go.Proofs.YtogilihkphjjbaaW.PrintWords Go.Proofs.YtogilihkphjjbaaW.PrintLast Go.Proofs.YtogilihkphjjbaaW.PrintMore
attribute [local go_sem] max2_int min2_int max_two min_two max_three min_three max_four min_four   -- for this text's walks alone
set_option linter.unusedVariables false
set_option linter.unusedSimpArgs false

/-! ### spec_Least: function 88 -/
def spec_Least.f (a0 : Int) (a1 : Int) : Option (Int) := if a1 < a0 then (some a1) else (some a0)
set_option maxHeartbeats 40000000 in
set_option maxRecDepth 100000 in
theorem spec_Least.calls (a0 : Int) (a1 : Int) (r : Int) (w : World) (h : spec_Least.f a0 a1 = some r) :
    Calls Try.prog 88 #[.int .i64 a0, .int .i64 a1] w fun e w' => e = .returned (.int .i64 r) ∧ Drawn0 w w' := by
  have H := h
  clear h
  unfold spec_Least.f at H
  by_cases c3 : a1 < a0
  · rw [if_pos c3] at H
    have c3b0 : decide (a1 < a0) = true := decide_eq_true c3
    clear c3
    obtain rfl := Option.some.inj H
    go_enter Try.func88, Try.ntmps88
    go_wp2
    go_ret
    exact ⟨by first | rfl | (simp; done) | (simp [*]; done), TD⟩
  · rw [if_neg c3] at H
    have c3b0 : decide (a1 < a0) = false := decide_eq_false c3
    clear c3
    obtain rfl := Option.some.inj H
    go_enter Try.func88, Try.ntmps88
    go_wp2
    go_ret
    exact ⟨by first | rfl | (simp; done) | (simp [*]; done), TD⟩

/-! ### spec_AllFalls: function 51 -/
def spec_AllFalls.l0 : Nat → List (S33) → Int → Int → List Int → List Int → Int → Int → Int → List (S55) → Option ((List (S33)))
  | 0, _, _, _, _, _, _, _, _, _ => none
  | k + 1, x3, x4, x5, x847000, x847001, x847002, x847003, x847004, x847005 => if 0 ≤ x4 then (if x5 < (shl .i64 1 x4) then ((spec_Fall.f k x847000 x847001 x847002 x847003 x847004 x847005 x5).bind fun bt851 => (if x3.length < 1466015503701 then (spec_AllFalls.l0 k (x3 ++ [(⟨bt851.1, bt851.2.1, (⟨bt851.2.2.1, bt851.2.2.2.1, bt851.2.2.2.2.1⟩ : S30), bt851.2.2.2.2.2⟩ : S33)]) x4 (wrap64 (x5 + 1)) x847000 x847001 x847002 x847003 x847004 x847005) else (none))) else (some x3)) else (none)
def spec_AllFalls.f (k : Nat) (l0_0 : List Int) (l0_1 : List Int) (a0_2 : Int) (a0_3 : Int) (a0_4 : Int) (l0_5 : List (S55)) : Option ((List (S33))) := (spec_Least.f (l0_5.length : Int) 6).bind fun t850 => (spec_AllFalls.l0 k (([] : List (S33))) t850 0 l0_0 l0_1 a0_2 a0_3 a0_4 l0_5)
theorem spec_AllFalls.mono_l : ∀ k, (∀ y0 y1 y2 y3 y4 y5 y6 y7 y8, LeO (spec_AllFalls.l0 k y0 y1 y2 y3 y4 y5 y6 y7 y8) (spec_AllFalls.l0 (k + 1) y0 y1 y2 y3 y4 y5 y6 y7 y8))
  | 0 => fun _ _ _ _ _ _ _ _ _ r h => by simp [spec_AllFalls.l0] at h
  | k + 1 => by
    have m0_ := @spec_Fall.mono
    have ih0 := spec_AllFalls.mono_l k
    · intro y0 y1 y2 y3 y4 y5 y6 y7 y8
      unfold spec_AllFalls.l0
      exact LM
theorem spec_AllFalls.mono : ∀ a0 a1 a2 a3 a4 a5 k, LeO (spec_AllFalls.f k a0 a1 a2 a3 a4 a5) (spec_AllFalls.f (k + 1) a0 a1 a2 a3 a4 a5) := by
  intro a0 a1 a2 a3 a4 a5 k
  have m0_ := @spec_Fall.mono
  have ih0 := spec_AllFalls.mono_l k
  unfold spec_AllFalls.f
  exact LM
set_option maxHeartbeats 40000000 in
set_option maxRecDepth 100000 in
theorem spec_AllFalls.calls (k : Nat) (A0_0 : Option Addr) (c0_0 : Nat) (l0_0 : List Int) (A0_1 : Option Addr) (c0_1 : Nat) (l0_1 : List Int) (a0_2 : Int) (a0_3 : Int) (a0_4 : Int) (A0_5 : Option Addr) (c0_5 : Nat) (l0_5 : List (S55)) (r : List (S33)) (w : World) (hr0_0 : Kd.C (Kd.int .u8) w A0_0 l0_0.length l0_0) (hc0_0 : l0_0.length ≤ c0_0) (hr0_1 : Kd.C (Kd.int .u8) w A0_1 l0_1.length l0_1) (hc0_1 : l0_1.length ≤ c0_1) (hr0_5 : Kd.C k55 w A0_5 l0_5.length l0_5) (hc0_5 : l0_5.length ≤ c0_5) (h : spec_AllFalls.f k l0_0 l0_1 a0_2 a0_3 a0_4 l0_5 = some r) :
    Calls Try.prog 51 #[.agg #[.slice A0_0 l0_0.length c0_0, .slice A0_1 l0_1.length c0_1, .int .i64 a0_2, .int .i64 a0_3, .int .i64 a0_4, .slice A0_5 l0_5.length c0_5]] w fun e w' => ∃ v0_ : Value, e = .returned (v0_) ∧ Kd.R k33 33 w' w.heap.size (fun _ => True) v0_ r ∧ Below w.heap.size w w' := by
  have hu33 := Try.underlying33
  have HR0_0 := aM hr0_0
  have HC0_0 := aM hc0_0
  clear hr0_0 hc0_0
  have HR0_1 := aM hr0_1
  have HC0_1 := aM hc0_1
  clear hr0_1 hc0_1
  have HR0_5 := aM hr0_5
  have HC0_5 := aM hc0_5
  clear hr0_5 hc0_5
  have HB := aM (Below.refl w.heap.size w)
  have H := h
  clear h
  unfold spec_AllFalls.f at H
  obtain ⟨y847, hy847⟩ : ∃ y_ : List (S33), y_ = (([] : List (S33))) := ⟨_, rfl⟩
  rw [← hy847] at H
  have Ny847 := aM hy847
  clear hy847
  replace H := bE H
  obtain ⟨t850, A2, H⟩ := H
  have H' := aM H
  clear H
  go_enter Try.func51, Try.ntmps51
  go_wp2_with (first | ((with_reducible refine gate_dst (N := 1) rfl ?_); refine gBx 1 #[.slice A0_0 l0_0.length c0_0, .slice A0_1 l0_1.length c0_1, .int .i64 a0_2, .int .i64 a0_3, .int .i64 a0_4, .slice A0_5 l0_5.length c0_5] 33 ?_; intro gb846 hg w3 hbox hb; have BK846 := aM (hbox); have GW846 := aM ((by rw [hg]; exact (below_size TB) : w.heap.size ≤ gb846)); have GE846 := aM ((by rw [hg]; exact (below_size TB) : w.heap.size ≤ gb846)); replace HB := aM (below_step TB hb); clear hb hbox hg) | ((with_reducible refine gate_dst (N := 7) rfl ?_); refine Kd.R_lit k33 _ 33 ?hg (N := 7) ?hd (xs := ([] : List (S33))) (inner := []) (ok := fun _ => True) (okp := fun _ => True) ?hr ?hp (fun _ hk => hk) trivial (Below.refl _ _) (Nat.le_refl _) (by simp) ?_; (case hd => rfl); (case hg => rfl); (case hr => first | (go_simp; done) | (go_simp; rfl)); (case hp => exact (Reps.none _ _)); intro v848 w4 ho5 hb hg_ hnew_; clear hg_ hnew_; (first | rw [← Ny847.out] at ho5 | (simp only [Int.reduceToNat] at ho5; rw [← Ny847.out] at ho5)); have HO849 := aM (Kd.R_lower (Kd.R_newB ho5 (g := gb846) (o := .cells #[.slice A0_0 l0_0.length c0_0, .slice A0_1 l0_1.length c0_1, .int .i64 a0_2, .int .i64 a0_3, .int .i64 a0_4, .slice A0_5 l0_5.length c0_5] 33 (0, 0)) TK) (below_size TB)); replace BK846 := aM (blk_below (g := gb846) (o := .cells #[.slice A0_0 l0_0.length c0_0, .slice A0_1 l0_1.length c0_1, .int .i64 a0_2, .int .i64 a0_3, .int .i64 a0_4, .slice A0_5 l0_5.length c0_5] 33 (0, 0)) TK hb); replace HB := aM (below_step TB hb); clear hb ho5; obtain ⟨hcz6_0, hcz6_1, hcz6_2, hcz6_3, hcz6_4, hcz6_5⟩ := cz6 BK846.out; obtain ⟨hfz6_0, hfz6_1, hfz6_2, hfz6_3, hfz6_4, hfz6_5⟩ := fz6 BK846.out) | ((with_reducible refine gate_callee (f := 88) rfl ?_); refine gL (some 11) Try.func88 #[.int .i64 (l0_5.length : Int), .int .i64 6] ?_; (with_reducible refine (spec_Least.calls (l0_5.length : Int) 6 t850 _ A2.out).mono ?_); rintro e w' ⟨rfl, ⟨nd, rfl⟩⟩; refine ⟨_, rfl, ?_⟩))
  go_loopg [3, 5] k (fun kq v3 v5 w' => ∃ (x3_1 : List (S33)) (x5_1 : Int), v5 = .int .i64 x5_1 ∧ Aside0 (spec_AllFalls.l0 kq x3_1 t850 x5_1 l0_0 l0_1 a0_2 a0_3 a0_4 l0_5 = some r) ∧ Aside0 (kq ≤ k) ∧ Aside0 (Kd.R k33 33 w' w.heap.size (fun k_ => k_ ≠ gb846) v3 x3_1) ∧ Aside0 (w'.heap[gb846]? = some (.cells #[(.slice A0_0 l0_0.length c0_0), (.slice A0_1 l0_1.length c0_1), .int .i64 a0_2, .int .i64 a0_3, .int .i64 a0_4, (.slice A0_5 l0_5.length c0_5)] 33 (0, 0))) ∧ Aside0 (Below w.heap.size w w'))
  case atStart => exact ⟨(y847), (0), (by first | rfl | (simp; done) | (simp [*]; done)), H', ⟨Nat.le_refl _⟩, ⟨by (with_reducible repeat (first | apply Kd.R_alloc | apply Kd.R_drewN | apply Kd.R_drew)); exact Kd.R_mono HO849.out (fun _ hk => hk.2)⟩, ⟨TK⟩, ⟨TB⟩⟩
  case round =>
    clear H'
    try clear p2
    try clear c5
    try clear hcz6_0
    try clear hcz6_1
    try clear hcz6_2
    try clear hcz6_3
    try clear hcz6_4
    try clear hcz6_5
    try clear hfz6_0
    try clear hfz6_1
    try clear hfz6_2
    try clear hfz6_3
    try clear hfz6_4
    try clear hfz6_5
    obtain ⟨x3_1, x5_1, rfl, HA, HK1, HO_3, BK846, HB⟩ := hrel
    cases gk with
    | zero => exact absurd HA.out (by simp [spec_AllFalls.l0])
    | succ k1 =>
      have H := HA.out
      clear HA
      simp only [spec_AllFalls.l0] at H
      replace H := ifN H
      obtain ⟨c7, H⟩ := H
      have c7b0 := eq_true c7
      have c7b1 : decide (0 ≤ t850) = true := decide_eq_true c7
      clear c7
      obtain ⟨ji8, hji8⟩ : ∃ j_ : Int, (shl .i64 1 t850) = j_ := ⟨_, rfl⟩
      (first | rw [hji8] at H | simp only [hji8] at H | skip)
      have hji8_ : (IntKind.i64.wrap (1 * 2 ^ min t850.toNat 64)) = ji8 := hji8
      have hji8z : t850 ≤ 64 → (IntKind.i64.wrap (1 * 2 ^ t850.toNat)) = ji8 := shl_small hji8
      have hji8u : (IntKind.i64.wrap (2 ^ min t850.toNat 64)) = ji8 := by have h_ := hji8_; rw [Int.one_mul] at h_; exact h_
      have hji8v : t850 ≤ 64 → (IntKind.i64.wrap (2 ^ t850.toNat)) = ji8 := fun hle_ => by have h_ := hji8z hle_; rw [Int.one_mul] at h_; exact h_
      have hji8y : (wrap64 (1 * 2 ^ min t850.toNat 64)) = ji8 := (i64_w _).symm.trans hji8_
      have hji8x : t850 ≤ 64 → (wrap64 (1 * 2 ^ t850.toNat)) = ji8 := fun h_ => (i64_w _).symm.trans (hji8z h_)
      by_cases c9 : x5_1 < (ji8)
      · rw [if_pos c9] at H
        have c9b0 : decide (x5_1 < (ji8)) = true := decide_eq_true c9
        clear c9
        replace H := bE H
        obtain ⟨⟨t851, t854, t857, t858, t859, t860⟩, A10, H⟩ := H
        dsimp only at H
        replace H := ifN H
        obtain ⟨c11, H⟩ := H
        have LMc11 := aM c11
        clear c11
        obtain ⟨y864, hy864⟩ : ∃ y_ : List (S33), y_ = (x3_1 ++ [(⟨t851, t854, (⟨t857, t858, t859⟩ : S30), t860⟩ : S33)]) := ⟨_, rfl⟩
        rw [← hy864] at H
        have Ny864 := aM hy864
        clear hy864
        have H' := aM H
        clear H
        obtain ⟨hcz12_0, hcz12_1, hcz12_2, hcz12_3, hcz12_4, hcz12_5⟩ := cz6 BK846.out
        obtain ⟨hfz12_0, hfz12_1, hfz12_2, hfz12_3, hfz12_4, hfz12_5⟩ := fz6 BK846.out
        go_wp2_with (first | ((with_reducible refine gate_callee (f := 49) rfl ?_); refine gL (some 20) Try.func49 #[.agg #[.slice A0_0 l0_0.length c0_0, .slice A0_1 l0_1.length c0_1, .int .i64 a0_2, .int .i64 a0_3, .int .i64 a0_4, .slice A0_5 l0_5.length c0_5], .int .i64 x5_1] ?_; (with_reducible refine (spec_Fall.calls k1 _ _ l0_0 _ _ l0_1 a0_2 a0_3 a0_4 _ _ l0_5 x5_1 t851 t854 t857 t858 t859 t860 _ ?side1 ?side2 ?side3 ?side4 ?side5 ?side6 A10.out).mono ?_); (case side1 => have X_ := (Kd.C_below HR0_0.out HB.out); exact TC); (case side2 => exact HC0_0.out); (case side3 => have X_ := (Kd.C_below HR0_1.out HB.out); exact TC); (case side4 => exact HC0_1.out); (case side5 => have X_ := (Kd.C_below HR0_5.out HB.out); exact TC); (case side6 => exact HC0_5.out); rintro e w13 ⟨v852, v855, v861, rfl, ho0, ho1, ho2, hb⟩; refine ⟨_, rfl, ?_⟩; have HO853 := aM (Kd.R_lower ho0 (below_size TB)); have HO856 := aM (Kd.R_lower ho1 (below_size TB)); have HO862 := aM (Kd.S_lower ho2 (below_size TB)); replace HO_3 := aM (Kd.R_mono (Kd.R_told (Kd.R_told (Kd.R_told (Kd.R_old (by have X_ := HO_3.out; exact TR) hb) (Kd.R_base ho0)) (Kd.R_base ho1)) (Kd.S_base ho2)) (fun _ h_ => h_.1)); replace BK846 := aM (blk_below (g := gb846) (o := .cells #[.slice A0_0 l0_0.length c0_0, .slice A0_1 l0_1.length c0_1, .int .i64 a0_2, .int .i64 a0_3, .int .i64 a0_4, .slice A0_5 l0_5.length c0_5] 33 (0, 0)) TK hb); replace HB := aM (below_step TB hb); clear ho0 ho1 ho2 hb) | ((with_reducible refine gate_dst (N := 6) rfl ?_); refine gBx 6 #[.slice none 0 0, .slice none 0 0, .int .i64 0, .int .i64 0, .int .i64 0, .slice none 0 0] 33 ?_; intro gb863 hg w14 hbox hb; have BK863 := aM (hbox); have GW863 := aM ((by rw [hg]; exact (below_size TB) : w.heap.size ≤ gb863)); have GE863 := aM ((by rw [hg]; exact (below_size TB) : w.heap.size ≤ gb863)); have NB846_863 := aM ((by rw [hg]; exact Nat.ne_of_lt (blk_lt (g := gb846) (o := .cells #[.slice A0_0 l0_0.length c0_0, .slice A0_1 l0_1.length c0_1, .int .i64 a0_2, .int .i64 a0_3, .int .i64 a0_4, .slice A0_5 l0_5.length c0_5] 33 (0, 0)) TK) : gb846 ≠ gb863)); have NB863_846 := aM ((by rw [hg]; exact Nat.ne_of_gt (blk_lt (g := gb846) (o := .cells #[.slice A0_0 l0_0.length c0_0, .slice A0_1 l0_1.length c0_1, .int .i64 a0_2, .int .i64 a0_3, .int .i64 a0_4, .slice A0_5 l0_5.length c0_5] 33 (0, 0)) TK) : gb863 ≠ gb846)); replace HO_3 := aM (Kd.R_below (Kd.R_elderB (by have X_ := HO_3.out; exact TR) gb863 (Nat.le_of_eq hg.symm)) hb); replace HO853 := aM (Kd.R_below (by have X_ := HO853.out; exact TR) hb); replace HO856 := aM (Kd.R_below (by have X_ := HO856.out; exact TR) hb); replace HO862 := aM (Kd.S_below (by have X_ := HO862.out; exact TS) hb); replace BK846 := aM (blk_below (g := gb846) (o := .cells #[.slice A0_0 l0_0.length c0_0, .slice A0_1 l0_1.length c0_1, .int .i64 a0_2, .int .i64 a0_3, .int .i64 a0_4, .slice A0_5 l0_5.length c0_5] 33 (0, 0)) TK hb); replace HB := aM (below_step TB hb); clear hb hbox hg; obtain ⟨Ao15, co15, eo15⟩ := Kd.R_slice HO853.out; subst eo15; have hnb16 := NB863_846.out; have hnc16 := NB846_863.out; obtain ⟨hcz17_0, hcz17_1, hcz17_2, hcz17_3, hcz17_4, hcz17_5⟩ := cz6 BK863.out; obtain ⟨hfz17_0, hfz17_1, hfz17_2, hfz17_3, hfz17_4, hfz17_5⟩ := fz6 BK863.out; obtain ⟨Ao18, co18, eo18⟩ := Kd.R_slice HO856.out; subst eo18; obtain ⟨Ao19, co19, eo19⟩ := Kd.S_slice HO862.out; subst eo19) | ((with_reducible refine gate_store (t := 33) (p := 6) rfl ?_); refine store_event (t := 33) (p := 6) (v := ?vo_w20) (w1 := ((((((w14.setCell ⟨gb863, 0, none⟩ (.slice Ao15 t851.length co15)).setCell ⟨gb863, 1, none⟩ (.slice Ao18 t854.length co18)).setCell ⟨gb863, 2, none⟩ (.int .i64 t857)).setCell ⟨gb863, 3, none⟩ (.int .i64 t858)).setCell ⟨gb863, 4, none⟩ (.int .i64 t859)).setCell ⟨gb863, 5, none⟩ (.slice Ao19 t860.length co19))) ?hg ?ho ?hn ?hr ?_; (case ho => rfl); (case hg => rfl); (case hn => rfl); (case hr => first | (go_simp; done) | (go_simp; rfl)); intro w20 hw; have n0_ : Aside0 (Kd.R k33 33 w20 w.heap.size (fun k_ => some k_ ≠ (.slice Ao15 t851.length co15 : Value).ownBlock ∧ some k_ ≠ (.slice Ao18 t854.length co18 : Value).ownBlock ∧ some k_ ≠ (.slice Ao19 t860.length co19 : Value).ownBlock ∧ k_ ≠ gb846 ∧ k_ ≠ gb863) u3 x3_1) := ⟨(by rw [hw]; exact (by (with_reducible repeat (first | apply Kd.R_alloc | apply Kd.R_drewN | apply Kd.R_drew)); exact Kd.R_mono (Kd.R_far (p := ⟨gb863, 5, none⟩) (Kd.R_far (p := ⟨gb863, 4, none⟩) (Kd.R_far (p := ⟨gb863, 3, none⟩) (Kd.R_far (p := ⟨gb863, 2, none⟩) (Kd.R_far (p := ⟨gb863, 1, none⟩) (Kd.R_far (p := ⟨gb863, 0, none⟩) (Kd.R_mono HO_3.out (fun k_ hk => (⟨hk, hk.2⟩ : _ ∧ k_ ≠ gb863))) (fun _ hk => hk.2) (.slice Ao15 t851.length co15)) (fun _ hk => hk.2) (.slice Ao18 t854.length co18)) (fun _ hk => hk.2) (.int .i64 t857)) (fun _ hk => hk.2) (.int .i64 t858)) (fun _ hk => hk.2) (.int .i64 t859)) (fun _ hk => hk.2) (.slice Ao19 t860.length co19)) (fun _ hk => ⟨hk.1.1.1.1.2, ⟨hk.1.1.1.2, ⟨hk.1.1.2, ⟨hk.1.1.1.1.1, hk.1.2⟩⟩⟩⟩)))⟩; have n1_ : Aside0 (Kd.R (Kd.int .u8) 5 w20 w.heap.size (fun k_ => some k_ ≠ (.slice Ao18 t854.length co18 : Value).ownBlock) (.slice Ao15 t851.length co15) t851) := ⟨(by rw [hw]; exact (by (with_reducible repeat (first | apply Kd.R_alloc | apply Kd.R_drewN | apply Kd.R_drew)); exact Kd.R_mono (Kd.R_far (p := ⟨gb863, 5, none⟩) (Kd.R_far (p := ⟨gb863, 4, none⟩) (Kd.R_far (p := ⟨gb863, 3, none⟩) (Kd.R_far (p := ⟨gb863, 2, none⟩) (Kd.R_far (p := ⟨gb863, 1, none⟩) (Kd.R_far (p := ⟨gb863, 0, none⟩) (Kd.R_types HO853.out BK863.out (by decide)) (fun _ hk => hk.2) (.slice Ao15 t851.length co15)) (fun _ hk => hk.2) (.slice Ao18 t854.length co18)) (fun _ hk => hk.2) (.int .i64 t857)) (fun _ hk => hk.2) (.int .i64 t858)) (fun _ hk => hk.2) (.int .i64 t859)) (fun _ hk => hk.2) (.slice Ao19 t860.length co19)) (fun _ hk => hk.1)))⟩; have n2_ : Aside0 (Kd.R (Kd.int .u8) 5 w20 w.heap.size (fun k_ => some k_ ≠ (.slice Ao15 t851.length co15 : Value).ownBlock) (.slice Ao18 t854.length co18) t854) := ⟨(by rw [hw]; exact (by (with_reducible repeat (first | apply Kd.R_alloc | apply Kd.R_drewN | apply Kd.R_drew)); exact Kd.R_mono (Kd.R_far (p := ⟨gb863, 5, none⟩) (Kd.R_far (p := ⟨gb863, 4, none⟩) (Kd.R_far (p := ⟨gb863, 3, none⟩) (Kd.R_far (p := ⟨gb863, 2, none⟩) (Kd.R_far (p := ⟨gb863, 1, none⟩) (Kd.R_far (p := ⟨gb863, 0, none⟩) (Kd.R_types HO856.out BK863.out (by decide)) (fun _ hk => hk.2) (.slice Ao15 t851.length co15)) (fun _ hk => hk.2) (.slice Ao18 t854.length co18)) (fun _ hk => hk.2) (.int .i64 t857)) (fun _ hk => hk.2) (.int .i64 t858)) (fun _ hk => hk.2) (.int .i64 t859)) (fun _ hk => hk.2) (.slice Ao19 t860.length co19)) (fun _ hk => hk.1)))⟩; have n3_ : Aside0 (Kd.S k55 55 w20 w.heap.size (fun k_ => some k_ ≠ (.slice Ao15 t851.length co15 : Value).ownBlock ∧ some k_ ≠ (.slice Ao18 t854.length co18 : Value).ownBlock) (.slice Ao19 t860.length co19) t860) := ⟨(by rw [hw]; exact (by (with_reducible repeat (first | apply Kd.S_alloc | apply Kd.S_drewN | apply Kd.S_drew)); exact Kd.S_mono (Kd.S_far (p := ⟨gb863, 5, none⟩) (Kd.S_far (p := ⟨gb863, 4, none⟩) (Kd.S_far (p := ⟨gb863, 3, none⟩) (Kd.S_far (p := ⟨gb863, 2, none⟩) (Kd.S_far (p := ⟨gb863, 1, none⟩) (Kd.S_far (p := ⟨gb863, 0, none⟩) (Kd.S_types HO862.out BK863.out (by decide)) (fun _ hk => hk.2) (.slice Ao15 t851.length co15)) (fun _ hk => hk.2) (.slice Ao18 t854.length co18)) (fun _ hk => hk.2) (.int .i64 t857)) (fun _ hk => hk.2) (.int .i64 t858)) (fun _ hk => hk.2) (.int .i64 t859)) (fun _ hk => hk.2) (.slice Ao19 t860.length co19)) (fun _ hk => ⟨hk.1.1, hk.1.2⟩)))⟩; have n4_ : Aside0 (w20.heap[gb846]? = some (.cells #[.slice A0_0 l0_0.length c0_0, .slice A0_1 l0_1.length c0_1, .int .i64 a0_2, .int .i64 a0_3, .int .i64 a0_4, .slice A0_5 l0_5.length c0_5] 33 (0, 0))) := ⟨(by rw [hw]; exact (by (with_reducible repeat (first | refine blk_drewN ?_ _ | refine blk_drew ?_ | refine blk_alloc ?_ _)); refine blk_far ?_ NB846_863.out _; (with_reducible repeat (first | refine blk_drewN ?_ _ | refine blk_drew ?_ | refine blk_alloc ?_ _)); refine blk_far ?_ NB846_863.out _; (with_reducible repeat (first | refine blk_drewN ?_ _ | refine blk_drew ?_ | refine blk_alloc ?_ _)); refine blk_far ?_ NB846_863.out _; (with_reducible repeat (first | refine blk_drewN ?_ _ | refine blk_drew ?_ | refine blk_alloc ?_ _)); refine blk_far ?_ NB846_863.out _; (with_reducible repeat (first | refine blk_drewN ?_ _ | refine blk_drew ?_ | refine blk_alloc ?_ _)); refine blk_far ?_ NB846_863.out _; (with_reducible repeat (first | refine blk_drewN ?_ _ | refine blk_drew ?_ | refine blk_alloc ?_ _)); refine blk_far ?_ NB846_863.out _; (with_reducible repeat (first | refine blk_drewN ?_ _ | refine blk_drew ?_ | refine blk_alloc ?_ _)); exact BK846.out))⟩; have n5_ : Aside0 (w20.heap[gb863]? = some (.cells #[.slice Ao15 t851.length co15, .slice Ao18 t854.length co18, .int .i64 t857, .int .i64 t858, .int .i64 t859, .slice Ao19 t860.length co19] 33 (0, 0))) := ⟨(by rw [hw]; exact (by (with_reducible repeat (first | refine blk_drewN ?_ _ | refine blk_drew ?_ | refine blk_alloc ?_ _)); refine blk_put (cs := #[.slice Ao15 t851.length co15, .slice Ao18 t854.length co18, .int .i64 t857, .int .i64 t858, .int .i64 t859, .slice none 0 0]) ?_ 5 _ rfl; (with_reducible repeat (first | refine blk_drewN ?_ _ | refine blk_drew ?_ | refine blk_alloc ?_ _)); refine blk_put (cs := #[.slice Ao15 t851.length co15, .slice Ao18 t854.length co18, .int .i64 t857, .int .i64 t858, .int .i64 0, .slice none 0 0]) ?_ 4 _ rfl; (with_reducible repeat (first | refine blk_drewN ?_ _ | refine blk_drew ?_ | refine blk_alloc ?_ _)); refine blk_put (cs := #[.slice Ao15 t851.length co15, .slice Ao18 t854.length co18, .int .i64 t857, .int .i64 0, .int .i64 0, .slice none 0 0]) ?_ 3 _ rfl; (with_reducible repeat (first | refine blk_drewN ?_ _ | refine blk_drew ?_ | refine blk_alloc ?_ _)); refine blk_put (cs := #[.slice Ao15 t851.length co15, .slice Ao18 t854.length co18, .int .i64 0, .int .i64 0, .int .i64 0, .slice none 0 0]) ?_ 2 _ rfl; (with_reducible repeat (first | refine blk_drewN ?_ _ | refine blk_drew ?_ | refine blk_alloc ?_ _)); refine blk_put (cs := #[.slice Ao15 t851.length co15, .slice none 0 0, .int .i64 0, .int .i64 0, .int .i64 0, .slice none 0 0]) ?_ 1 _ rfl; (with_reducible repeat (first | refine blk_drewN ?_ _ | refine blk_drew ?_ | refine blk_alloc ?_ _)); refine blk_put (cs := #[.slice none 0 0, .slice none 0 0, .int .i64 0, .int .i64 0, .int .i64 0, .slice none 0 0]) ?_ 0 _ rfl; (with_reducible repeat (first | refine blk_drewN ?_ _ | refine blk_drew ?_ | refine blk_alloc ?_ _)); exact BK863.out))⟩; have n6_ : Aside0 (Below w.heap.size w w20) := ⟨(by rw [hw]; exact TB)⟩; clear hw; clear HO_3; clear HO853; clear HO856; clear HO862; clear BK846; clear BK863; clear HB; have HO_3 := n0_; have HO853 := n1_; have HO856 := n2_; have HO862 := n3_; have BK846 := n4_; have BK863 := n5_; have HB := n6_; clear n0_ n1_ n2_ n3_ n4_ n5_ n6_; obtain ⟨hcz21_0, hcz21_1, hcz21_2, hcz21_3, hcz21_4, hcz21_5⟩ := cz6 BK863.out; obtain ⟨hfz21_0, hfz21_1, hfz21_2, hfz21_3, hfz21_4, hfz21_5⟩ := fz6 BK863.out) | ((with_reducible refine gate_builtin (b := .append) (xs := #[.tmp 21, .tmp 23]) rfl ?_); at_builtin; refine Kd.R_append k33 (w0 := w) w.heap.size rfl (.tmp 21) (.tmp 23) 69 33 (.agg #[(.slice none 0 0), (.slice none 0 0), (.int .i64 0), (.int .i64 0), (.int .i64 0), (.slice none 0 0)]) 96 rfl Try.underlying69 info33 rfl (by decide) (by omega) u3 x3_1 (⟨t851, t854, (⟨t857, t858, t859⟩ : S30), t860⟩ : S33) [.slice Ao15 t851.length co15, .slice Ao18 t854.length co18, .int .i64 t857, .int .i64 t858, .int .i64 t859, .slice Ao19 t860.length co19] (fun k_ => k_ ≠ gb846 ∧ k_ ≠ gb863) (fun k_ => ((fun k_ => k_ ≠ gb846 ∧ k_ ≠ gb863)) k_ ∧ some k_ ≠ (u3 : Value).ownBlock) rfl rfl ?aP (fun _ hk => hk) ?aF ?aO ?aB ?aS ?aL ?_; (case aP => exact k33_mkM _ _ _ (⟨t851, t854, (⟨t857, t858, t859⟩ : S30), t860⟩ : S33) (Kd.R_mono (Kd.R_types (Kd.R_types (Kd.R_apart' (HO853.out) (Kd.R_typed HO_3.out) (by decide)) BK846.out (by decide)) BK863.out (by decide)) (fun k_ hk => ⟨⟨hk.1.2, hk.2⟩, hk.1.1.2⟩)) (Kd.R_mono (Kd.R_types (Kd.R_types (Kd.R_apart' (HO856.out) (Kd.R_typed HO_3.out) (by decide)) BK846.out (by decide)) BK863.out (by decide)) (fun k_ hk => ⟨⟨hk.1.2, hk.2⟩, hk.1.1.2⟩)) (Kd.R_mono (Kd.R_types (Kd.R_types (Kd.R_apart' ((Kd.S_R HO862.out)) (Kd.R_typed HO_3.out) (by decide)) BK846.out (by decide)) BK863.out (by decide)) (fun k_ hk => ⟨⟨hk.1.2, hk.2⟩, hk.1.1.2⟩))); (case aB => exact TB); (case aF => exact (fun k_ hk => ⟨Kd.freshB (g := gb846) (o := .cells #[.slice A0_0 l0_0.length c0_0, .slice A0_1 l0_1.length c0_1, .int .i64 a0_2, .int .i64 a0_3, .int .i64 a0_4, .slice A0_5 l0_5.length c0_5] 33 (0, 0)) TK k_ hk, Kd.freshB (g := gb863) (o := .cells #[.slice Ao15 t851.length co15, .slice Ao18 t854.length co18, .int .i64 t857, .int .i64 t858, .int .i64 t859, .slice Ao19 t860.length co19] 33 (0, 0)) TK k_ hk⟩)); (case aO => exact (by (with_reducible repeat (first | apply Kd.R_alloc | apply Kd.R_drewN | apply Kd.R_drew)); exact Kd.R_mono HO_3.out (fun _ hk => ⟨hk.2.2.2.1, hk.2.2.2.2⟩))); (case aS => exact (below_size TB)); (case aL => have := LMc11.out; omega); intro v865 w22 ho hb hg hat; rw [← Ny864.out] at ho; have HO866 := aM (ho); replace BK846 := aM (blk_grown (g := gb846) (o := .cells #[.slice A0_0 l0_0.length c0_0, .slice A0_1 l0_1.length c0_1, .int .i64 a0_2, .int .i64 a0_3, .int .i64 a0_4, .slice A0_5 l0_5.length c0_5] 33 (0, 0)) TK hg (Kd.R_away HO_3.out (fun _ hk => hk.2.2.2.1))); replace BK863 := aM (blk_grown (g := gb863) (o := .cells #[.slice Ao15 t851.length co15, .slice Ao18 t854.length co18, .int .i64 t857, .int .i64 t858, .int .i64 t859, .slice Ao19 t860.length co19] 33 (0, 0)) TK hg (Kd.R_away HO_3.out (fun _ hk => hk.2.2.2.2))); replace HB := aM (hb); clear HO_3; clear HO853; clear HO856; clear HO862; clear ho hb hg hat))
        go_roundg k1
        case measure => have := HK1.out; omega
        case rel => exact ⟨(y864), (wrap64 (x5_1 + 1)), (by first | rfl | (simp; done) | (simp [*]; done)), H', ⟨by have := HK1.out; omega⟩, ⟨by (with_reducible repeat (first | apply Kd.R_alloc | apply Kd.R_drewN | apply Kd.R_drew)); exact Kd.R_mono HO866.out (fun _ hk => hk.1)⟩, ⟨TK⟩, ⟨TB⟩⟩
      · rw [if_neg c9] at H
        have c9b0 : decide (x5_1 < (ji8)) = false := decide_eq_false c9
        clear c9
        obtain rfl := Option.some.inj H
        go_wp2
        go_ret
        exact ⟨_, by first | rfl | (simp [errW_none, errW_some] <;> rfl) | (simp only [← hji8]; first | rfl | (simp [errW_none, errW_some] <;> rfl)) | (simp [*, errW_none, errW_some] <;> rfl), by (with_reducible repeat (first | apply Kd.R_alloc | apply Kd.R_drewN | apply Kd.R_drew)); exact Kd.R_mono HO_3.out (fun _ hk => trivial), TB⟩

/-! ### laws_markDiskS: function 54 -/
/-- A disk whose own rows lie apart. -/
def kD : Kd S33 where
  sz := 6
  E := 5 :: 55 :: k55.E
  K := k33.K
  M := fun w base ok x cs => ∃ vA vB vP, cs = [vA, vB, .int .i64 x.f2.f0, .int .i64 x.f2.f1, .int .i64 x.f2.f2, vP] ∧ DskI w base ok vA vB vP x.f0 x.f1 x.f3
  K_len := fun h => k33.K_len h
  K_one := fun h => k33.K_one h
  K_below := fun hb h => k33.K_below hb h
  K_of_M := by
    rintro w base ok x cs ⟨vA, vB, vP, rfl, h1, h2, h3⟩
    obtain ⟨A0, c0, rfl⟩ := Kd.R_slice h1
    obtain ⟨A1, c1, rfl⟩ := Kd.R_slice h2
    obtain ⟨A5, c5, rfl⟩ := Kd.S_slice h3
    exact k33_mk w x (Kd.R_reads' h1).2.1 (Kd.R_reads' h1).2.2 (Kd.R_reads' h2).2.1 (Kd.R_reads' h2).2.2 (Kd.S_reads' h3).2.1 (Kd.S_reads' h3).2.2
  M_mono := by
    rintro w base ok ok' x cs hk ⟨vA, vB, vP, rfl, h1, h2, h3⟩
    exact ⟨vA, vB, vP, rfl, Kd.R_mono h1 (fun k q => ⟨hk k q.1, q.2⟩), Kd.R_mono h2 (fun k q => ⟨hk k q.1, q.2⟩), Kd.S_mono h3 (fun k q => ⟨hk k q.1, q.2⟩)⟩
  M_bound := by
    rintro w base ok x cs ⟨vA, vB, vP, rfl, h1, h2, h3⟩
    refine ⟨vA, vB, vP, rfl, Kd.R_mono (Kd.R_bound h1) (fun k q => ⟨⟨q.1.1, q.2.1, q.2.2.1, ?_⟩, q.1.2⟩), Kd.R_mono (Kd.R_bound h2) (fun k q => ⟨⟨q.1.1, q.2.1, q.2.2.1, ?_⟩, q.1.2⟩), Kd.S_mono (Kd.S_bound h3) (fun k q => ⟨⟨q.1.1, q.2.1, q.2.2.1, ?_⟩, q.1.2⟩)⟩
    · obtain ⟨t, ht, cells, hc⟩ := q.2.2.2
      exact ⟨t, (by rcases List.mem_cons.1 ht with e | e; exact List.mem_cons.2 (.inl e); cases e), cells, hc⟩
    · obtain ⟨t, ht, cells, hc⟩ := q.2.2.2
      exact ⟨t, (by rcases List.mem_cons.1 ht with e | e; exact List.mem_cons.2 (.inl e); cases e), cells, hc⟩
    · obtain ⟨t, ht, cells, hc⟩ := q.2.2.2
      exact ⟨t, List.mem_cons.2 (.inr ht), cells, hc⟩
  M_move := by
    rintro w w1 base ok x cs hk ⟨vA, vB, vP, rfl, h⟩
    exact ⟨vA, vB, vP, rfl, DskI.move h hk⟩
  M_lower := by
    rintro w base base' ok x cs hb ⟨vA, vB, vP, rfl, h1, h2, h3⟩
    exact ⟨vA, vB, vP, rfl, Kd.R_lower h1 hb, Kd.R_lower h2 hb, Kd.S_lower h3 hb⟩
def laws_markDiskS.l0 : Nat → List S33 → Int → Int → Option (Int × List S33)
  | 0, _, _, _ => none
  | k + 1, x0, x1, x5 => if x5 < (x0.length : Int) then (if 0 ≤ x5 then ((laws_markByteS.f k (rd_T33 x0 x5).f0 x1).bind fun b => ((laws_markByteS.f k (rd_T33 x0 x5).f1 b.1).bind fun c => ((laws_markPutS.f k (rd_T33 x0 x5).f3 (wrap64 (wrap64 (wrap64 (c.1 + 1) + 1) + 1))).bind fun d => (laws_markDiskS.l0 k (x0.set x5.toNat (⟨b.2, c.2, ⟨c.1, wrap64 (c.1 + 1), wrap64 (wrap64 (c.1 + 1) + 1)⟩, d.2⟩ : S33)) d.1 (wrap64 (x5 + 1)))))) else none) else (some (x1, x0))
def laws_markDiskS.f (k : Nat) (l0 : List S33) (a1 : Int) : Option (Int × List S33) := laws_markDiskS.l0 k l0 a1 0
theorem laws_markDiskS.mono_l : ∀ k, (∀ y0 y1 y2, LeO (laws_markDiskS.l0 k y0 y1 y2) (laws_markDiskS.l0 (k + 1) y0 y1 y2))
  | 0 => fun _ _ _ r h => by simp [laws_markDiskS.l0] at h
  | k + 1 => by
    have m0_ := @laws_markByteS.mono
    have m1_ := @laws_markPutS.mono
    have ih0 := laws_markDiskS.mono_l k
    intro y0 y1 y2
    unfold laws_markDiskS.l0
    exact LM
theorem laws_markDiskS.mono : ∀ a0 a1 k, LeO (laws_markDiskS.f k a0 a1) (laws_markDiskS.f (k + 1) a0 a1) := by
  intro a0 a1 k
  have ih0 := laws_markDiskS.mono_l k
  exact ih0 _ _ _
set_option maxHeartbeats 4000000 in
set_option maxRecDepth 100000 in
theorem laws_markDiskS.calls (k : Nat) (ok : Nat → Prop) (v : Value) (l0 : List S33) (a1 : Int) (r1 : Int) (r2 : List S33) (w0 w : World) (hB : Below w0.heap.size w0 w) (ho : Kd.S kD 33 w w0.heap.size ok v l0) (h : laws_markDiskS.f k l0 a1 = some (r1, r2)) :
  Calls Try.prog 54 #[v, .int .i64 a1] w fun e w' => e = .returned (.int .i64 r1) ∧ Kd.S kD 33 w' w0.heap.size ok v r2 ∧ Below w0.heap.size w0 w' ∧ Kept w w' ok := by
 have hu33 := Try.underlying33
 have hu30 := Try.underlying30
 have HO := aM ho
 have HK := aM (Kept.refl w ok)
 have HB := aM hB
 have H' := aM (show laws_markDiskS.l0 k l0 a1 0 = some (r1, r2) from h)
 clear ho hB h
 go_enter Try.func54, Try.ntmps54
 go_wp2
 go_loopg [1, 5] k (fun kq v1 v5 w' => ∃ (x0 : List S33) (x1 : Int) (x5 : Int), v1 = .int .i64 x1 ∧ v5 = .int .i64 x5 ∧ Aside0 (laws_markDiskS.l0 kq x0 x1 x5 = some (r1, r2)) ∧ Aside0 (kq ≤ k) ∧ Aside0 (Kd.S kD 33 w' w0.heap.size ok v x0) ∧ Aside0 (Kept w w' ok) ∧ Aside0 (Below w0.heap.size w0 w'))
 case atStart => exact ⟨l0, a1, 0, rfl, rfl, H', ⟨Nat.le_refl _⟩, HO, HK, HB⟩
 case round =>
  clear H' HO HK HB
  obtain ⟨x0, x1, x5, rfl, rfl, HA, HK1, HO, HK, HB⟩ := hrel
  cases gk with
  | zero => exact absurd HA.out (by simp [laws_markDiskS.l0])
  | succ k1 =>
   have H := HA.out
   clear HA
   simp only [laws_markDiskS.l0] at H
   by_cases c3 : x5 < (x0.length : Int)
   ·rw [if_pos c3] at H
    replace H := ifN H
    obtain ⟨c4, H⟩ := H
    replace H := bE H
    obtain ⟨⟨b1, b2⟩, A5, H⟩ := H
    replace H := bE H
    obtain ⟨⟨e1, e2⟩, A6, H⟩ := H
    replace H := bE H
    obtain ⟨⟨d1, d2⟩, A7, H⟩ := H
    dsimp only at A5 A6 A7 H
    have H' := aM H
    clear H
    obtain ⟨g, cap, rfl, hgb, hgl, hgc⟩ := Kd.S_form HO.out (by omega)
    obtain ⟨oki, c, hcl, hM, hcc, hcf, hoki, hH⟩ := Kd.S_elem HO.out z33 x5 c4 c3
    obtain ⟨vA, vB, vP, rfl, hD⟩ := hM
    have c3b : decide (x5 < (x0.length : Int)) = true := decide_eq_true c3
    have HA := aM hD.1
    have HE := aM hD.2.1
    have HP := aM hD.2.2
    have HH := aM hH
    have HOK := aM hoki
    have HG := aM hgb
    have C3 := aM (And.intro c4 c3)
    have HOG := aM ((Kd.S_R HO.out).1 g rfl)
    clear hgc hgl hcl hcc hcf hD hoki hH HO
    go_wp2_with (first | ((with_reducible refine gate_dst (N := 16) rfl ?_); have hc : World.cell? _ ⟨g, x5.toNat * 6, none⟩ = some vA := H_cell HH.out C3.out.1 C3.out.2 0 rfl; refine gCl 16 vA ?_; clear hc) | ((with_reducible refine gate_callee (f := 24) rfl ?_); (with_reducible refine gate_dst (N := 18) rfl ?_); refine gL (some 18) Try.func24 #[vA, .int .i64 x1] ?_; refine (laws_markByteS.calls k1 (fun j => some j = (vA).ownBlock) vA (x0.getD x5.toNat z33).f0 _ b1 b2 w0 _ HB.out (Kd.R_reok rfl HA.out (fun _ e => e.symm)) A5.out).mono ?_; rintro e_ w4 ⟨rfl, hv, hb, hk⟩; refine ⟨_, rfl, ?_⟩; replace HH := aM (Kd.H_kept HH.out hk (fun k _ q e => q (HA.out.1 k e.symm).1)); replace HE := aM (Kd.R_kept HE.out hk (fun k q e => q.2 e)); replace HP := aM (Kd.S_kept HP.out hk (fun k q e => q.2.1 e)); replace HK := aM (HK.out.then_ hk (fun k e => .inl (HOK.out k (HA.out.1 k e.symm).1).1)); replace HA := aM (Kd.R_reok (ok := fun k => oki k ∧ some k ≠ (vB).ownBlock) rfl hv (fun k e => HA.out.1 k e)); replace HB := aM hb; clear hv hb hk; (simp only [Act.put, List.setIfInBounds_toArray, List.set_cons_zero, List.set_cons_succ])) | ((with_reducible refine gate_dst (N := 23) rfl ?_); have hc : World.cell? _ ⟨g, x5.toNat * 6 + 1, none⟩ = some vB := H_cell HH.out C3.out.1 C3.out.2 1 rfl; refine gCl 23 vB ?_; clear hc) | ((with_reducible refine gate_callee (f := 24) rfl ?_); (with_reducible refine gate_dst (N := 25) rfl ?_); refine gL (some 25) Try.func24 #[vB, .int .i64 b1] ?_; refine (laws_markByteS.calls k1 (fun j => some j = (vB).ownBlock) vB (x0.getD x5.toNat z33).f1 _ e1 e2 w0 _ HB.out (Kd.R_reok rfl HE.out (fun _ e => e.symm)) A6.out).mono ?_; rintro e_ w4 ⟨rfl, hv, hb, hk⟩; refine ⟨_, rfl, ?_⟩; replace HH := aM (Kd.H_kept HH.out hk (fun k _ q e => q (HE.out.1 k e.symm).1)); replace HA := aM (Kd.R_kept HA.out hk (fun k q e => q.2 e)); replace HP := aM (Kd.S_kept HP.out hk (fun k q e => q.2.2 e)); replace HK := aM (HK.out.then_ hk (fun k e => .inl (HOK.out k (HE.out.1 k e.symm).1).1)); replace HE := aM (Kd.R_reok (ok := fun k => oki k ∧ some k ≠ (vA).ownBlock) rfl hv (fun k e => HE.out.1 k e)); replace HB := aM hb; clear hv hb hk; (simp only [Act.put, List.setIfInBounds_toArray, List.set_cons_zero, List.set_cons_succ])) | ((with_reducible refine gate_store (t := 3) (p := 31) rfl ?_); refine gStH (d := kD) 2 [.int .i64 e1] [vA, vB, .int .i64 e1, .int .i64 (x0.getD x5.toNat z33).f2.f1, .int .i64 (x0.getD x5.toNat z33).f2.f2, vP] HH.out C3.out.1 C3.out.2 ?_; intro w1 hw hh; replace HH := aM hh; replace HA := aM (Kd.R_move HA.out (fun k q => hw.2.2 k (HOK.out k q.1).2)); replace HE := aM (Kd.R_move HE.out (fun k q => hw.2.2 k (HOK.out k q.1).2)); replace HP := aM (Kd.S_move HP.out (fun k q => hw.2.2 k (HOK.out k q.1).2)); replace HB := aM (hw.below HB.out HG.out); replace HK := aM (HK.out.then_ hw.kept (fun k e => .inl (e ▸ HOG.out))); clear hw hh) | ((with_reducible refine gate_store (t := 3) (p := 39) rfl ?_); refine gStH (d := kD) 3 [.int .i64 (wrap64 (e1 + 1))] [vA, vB, .int .i64 e1, .int .i64 (wrap64 (e1 + 1)), .int .i64 (x0.getD x5.toNat z33).f2.f2, vP] HH.out C3.out.1 C3.out.2 ?_; intro w1 hw hh; replace HH := aM hh; replace HA := aM (Kd.R_move HA.out (fun k q => hw.2.2 k (HOK.out k q.1).2)); replace HE := aM (Kd.R_move HE.out (fun k q => hw.2.2 k (HOK.out k q.1).2)); replace HP := aM (Kd.S_move HP.out (fun k q => hw.2.2 k (HOK.out k q.1).2)); replace HB := aM (hw.below HB.out HG.out); replace HK := aM (HK.out.then_ hw.kept (fun k e => .inl (e ▸ HOG.out))); clear hw hh) | ((with_reducible refine gate_store (t := 3) (p := 47) rfl ?_); refine gStH (d := kD) 4 [.int .i64 (wrap64 (wrap64 (e1 + 1) + 1))] [vA, vB, .int .i64 e1, .int .i64 (wrap64 (e1 + 1)), .int .i64 (wrap64 (wrap64 (e1 + 1) + 1)), vP] HH.out C3.out.1 C3.out.2 ?_; intro w1 hw hh; replace HH := aM hh; replace HA := aM (Kd.R_move HA.out (fun k q => hw.2.2 k (HOK.out k q.1).2)); replace HE := aM (Kd.R_move HE.out (fun k q => hw.2.2 k (HOK.out k q.1).2)); replace HP := aM (Kd.S_move HP.out (fun k q => hw.2.2 k (HOK.out k q.1).2)); replace HB := aM (hw.below HB.out HG.out); replace HK := aM (HK.out.then_ hw.kept (fun k e => .inl (e ▸ HOG.out))); clear hw hh) | ((with_reducible refine gate_dst (N := 54) rfl ?_); have hc : World.cell? _ ⟨g, x5.toNat * 6 + 5, none⟩ = some vP := H_cell HH.out C3.out.1 C3.out.2 5 rfl; refine gCl 54 vP ?_; clear hc) | ((with_reducible refine gate_callee (f := 64) rfl ?_); (with_reducible refine gate_dst (N := 56) rfl ?_); refine gL (some 56) Try.func64 #[vP, .int .i64 (wrap64 (wrap64 (wrap64 (e1 + 1) + 1) + 1))] ?_; refine (laws_markPutS.calls k1 (fun k => oki k ∧ some k ≠ vA.ownBlock ∧ some k ≠ vB.ownBlock) vP (x0.getD x5.toNat z33).f3 _ d1 d2 w0 _ HB.out HP.out A7.out).mono ?_; rintro e_ w5 ⟨rfl, hv, hb, hk⟩; refine ⟨_, rfl, ?_⟩; replace HH := aM (Kd.H_kept HH.out hk (fun k _ q e => q e.1)); replace HA := aM (R_kept1 rfl HA.out hk (fun k e q => q.2.1 e.symm)); replace HE := aM (R_kept1 rfl HE.out hk (fun k e q => q.2.2 e.symm)); replace HK := aM (HK.out.then_ hk (fun k e => .inl (HOK.out k e.1).1)); replace HP := aM hv; replace HB := aM hb; clear hv hb hk; (simp only [Act.put, List.setIfInBounds_toArray, List.set_cons_zero, List.set_cons_succ])))
    have hs := Kd.H_back HH.out (show kD.M _ w0.heap.size oki (⟨b2, e2, ⟨e1, wrap64 (e1 + 1), wrap64 (wrap64 (e1 + 1) + 1)⟩, d2⟩ : S33) _ from ⟨vA, vB, vP, rfl, HA.out, HE.out, HP.out⟩) (fun _ q => q)
    go_roundg k1
    case measure => have := HK1.out; omega
    case rel => exact ⟨_, _, _, rfl, rfl, H', ⟨by have := HK1.out; omega⟩, ⟨hs⟩, HK, HB⟩
   ·rw [if_neg c3] at H
    have c3b : decide (x5 < (x0.length : Int)) = false := decide_eq_false c3
    clear c3
    simp only [Option.some.injEq, Prod.mk.injEq] at H
    obtain ⟨rfl, rfl⟩ := H
    obtain ⟨A, c, rfl⟩ := Kd.S_slice HO.out
    go_wp2
    go_ret
    exact ⟨rfl, HO.out, HB.out, HK.out⟩

end Go.Proofs.Ytogilihkphjjbaa.Q
