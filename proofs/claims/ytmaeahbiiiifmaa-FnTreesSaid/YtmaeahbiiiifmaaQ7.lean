/- Functions of the program as plain Lean functions, and that a call of each comes to what its function tells. Written by a program of this seat. -/
import Derived.Test.YtmaeahbiiiifmaaQ0
import Derived.Test.YtmaeahbiiiifmaaQ6
namespace Go.Proofs.Ytmaeahbiiiifmaa.Q
open Go.RowKit Go.Proofs.YtmaeahbiiiifmaaW.PrintWords Go.Proofs.YtmaeahbiiiifmaaW.PrintLast Go.Proofs.YtmaeahbiiiifmaaW.PrintMore
attribute [local go_sem] max2_int min2_int max_two min_two max_three min_three max_four min_four   -- for this text's walks alone
set_option linter.unusedVariables false
set_option linter.unusedSimpArgs false

/-! ### impl_PathUp: function 12 -/
def impl_PathUp.l0 : Nat → Int → List Int → List Int → Option (List Int)
  | 0, _, _, _ => none
  | k + 1, x1, x5, x238000 => (impl_Tree_isNode.f x238000 x1).bind fun t241 => (if t241 = true then (if (x5.length : Int) < (x238000.length : Int) then (if x5.length < 17592186044416 then (if 0 ≤ x1 then (if x1 < (x238000.length : Int) then (impl_PathUp.l0 k (rd x238000 x1) (x5 ++ [x1]) x238000) else (none)) else (none)) else (none)) else (some x5)) else (some x5))
def impl_PathUp.f (k : Nat) (l0_0 : List Int) (a1 : Int) : Option (List Int) := impl_PathUp.l0 k a1 (([] : List Int)) l0_0
theorem impl_PathUp.mono_l : ∀ k, (∀ y0 y1 y2, LeO (impl_PathUp.l0 k y0 y1 y2) (impl_PathUp.l0 (k + 1) y0 y1 y2))
  | 0 => fun _ _ _ r h => by simp [impl_PathUp.l0] at h
  | k + 1 => by
    have ih0 := impl_PathUp.mono_l k
    · intro y0 y1 y2
      unfold impl_PathUp.l0
      exact LM
theorem impl_PathUp.mono : ∀ a0 a1 k, LeO (impl_PathUp.f k a0 a1) (impl_PathUp.f (k + 1) a0 a1) := by
  intro a0 a1 k
  have ih0 := impl_PathUp.mono_l k
  unfold impl_PathUp.f
  exact LM
set_option maxHeartbeats 40000000 in
set_option maxRecDepth 100000 in
theorem impl_PathUp.calls (k : Nat) (A0_0 : Option Addr) (c0_0 : Nat) (l0_0 : List Int) (a1 : Int) (r : List Int) (w : World) (hr0_0 : Kd.C (Kd.int .i64) w A0_0 l0_0.length l0_0) (hc0_0 : l0_0.length ≤ c0_0) (h : impl_PathUp.f k l0_0 a1 = some r) :
    Calls Try.prog 12 #[.agg #[.slice A0_0 l0_0.length c0_0], .int .i64 a1] w fun e w' => ∃ v0_ : Value, e = .returned (v0_) ∧ Kd.R (Kd.int .i64) 3 w' w.heap.size (fun _ => True) v0_ r ∧ Below w.heap.size w w' := by
  have hu26 := Try.underlying26
  have HR0_0 := aM hr0_0
  have HC0_0 := aM hc0_0
  clear hr0_0 hc0_0
  have HB := aM (Below.refl w.heap.size w)
  have H := h
  clear h
  unfold impl_PathUp.f at H
  obtain ⟨y238, hy238⟩ : ∃ y_ : List Int, y_ = (([] : List Int)) := ⟨_, rfl⟩
  rw [← hy238] at H
  have Ny238 := aM hy238
  clear hy238
  have H' := aM H
  clear H
  go_enter Try.func12, Try.ntmps12
  go_wp2_with (first | ((with_reducible refine gate_dst (N := 2) rfl ?_); (try (refine gate_guard (by rfl) ?_; dsimp only)); refine gBx 2 #[.slice A0_0 l0_0.length c0_0] 26 ?_; intro gb237 hg w3 hbox hb; have BK237 := aM (hbox); have GW237 := aM ((by rw [hg]; exact (below_size TB) : w.heap.size ≤ gb237)); have GE237 := aM ((by rw [hg]; exact (below_size TB) : w.heap.size ≤ gb237)); replace HB := aM (below_step TB hb); clear hb hbox hg) | ((with_reducible refine gate_dst (N := 6) rfl ?_); (try (refine gate_guard (by rfl) ?_; dsimp only)); refine Kd.R_lit (Kd.int .i64) _ 3 ?hg (N := 6) ?hd (xs := ([] : List Int)) (inner := []) (ok := fun _ => True) (okp := fun _ => True) ?hr ?hp (fun _ hk => hk) trivial (Below.refl _ _) (Nat.le_refl _) (by simp) ?_; (case hd => rfl); (case hg => rfl); (case hr => first | (go_simp; done) | (go_simp; rfl)); (case hp => exact (Reps.none _ _)); intro v239 w4 ho5 hb hg_ hnew_; clear hg_ hnew_; (first | rw [← Ny238.out] at ho5 | (simp only [Int.reduceToNat] at ho5; rw [← Ny238.out] at ho5)); have HO240 := aM (Kd.R_lower ho5 (below_size TB)); replace BK237 := aM (blk_below (by have X_ := BK237.out; exact TX) hb); replace HB := aM (below_step TB hb); clear hb ho5))
  go_loopg [1, 5] k (fun kq v1 v5 w' => ∃ (x1_1 : Int) (x5_1 : List Int), v1 = .int .i64 x1_1 ∧ Aside0 (impl_PathUp.l0 kq x1_1 x5_1 l0_0 = some r) ∧ Aside0 (kq ≤ k) ∧ Aside0 (Kd.R (Kd.int .i64) 3 w' w.heap.size (fun _ => True) v5 x5_1) ∧ Aside0 (w'.heap[gb237]? = some (.cells #[(.slice A0_0 l0_0.length c0_0)] 26 (0, 0))) ∧ Aside0 (Below w.heap.size w w'))
  case atStart => exact ⟨(a1), (y238), (by first | rfl | (simp; done) | (simp [*]; done)), H', ⟨Nat.le_refl _⟩, ⟨by have X_ := HO240.out; exact TR⟩, ⟨TK⟩, ⟨TB⟩⟩
  case round =>
    clear H'
    try clear c1
    try clear p2
    obtain ⟨x1_1, x5_1, rfl, HA, HK1, HO_5, BK237, HB⟩ := hrel
    cases gk with
    | zero => exact absurd HA.out (by simp [impl_PathUp.l0])
    | succ k1 =>
      have H := HA.out
      clear HA
      simp only [impl_PathUp.l0] at H
      replace H := bE H
      obtain ⟨t241, A6, H⟩ := H
      by_cases c7 : t241 = true
      · subst c7
        replace H := ifT H
        by_cases c8 : (x5_1.length : Int) < (l0_0.length : Int)
        · rw [if_pos c8] at H
          have c8b0 : decide ((x5_1.length : Int) < (l0_0.length : Int)) = true := decide_eq_true c8
          have c8b1 : decide (x5_1.length < l0_0.length) = true := decide_eq_true (Int.ofNat_lt.mp c8)
          clear c8
          replace H := ifN H
          obtain ⟨c9, H⟩ := H
          have LMc9 := aM c9
          clear c9
          obtain ⟨y242, hy242⟩ : ∃ y_ : List Int, y_ = (x5_1 ++ [x1_1]) := ⟨_, rfl⟩
          rw [← hy242] at H
          have Ny242 := aM hy242
          clear hy242
          replace H := ifN H
          obtain ⟨c10, H⟩ := H
          have c10b0 : decide (0 ≤ x1_1) = true := decide_eq_true c10
          clear c10
          replace H := ifN H
          obtain ⟨c11, H⟩ := H
          have c11b0 : decide (x1_1 < (l0_0.length : Int)) = true := decide_eq_true c11
          clear c11
          have H' := aM H
          clear H
          have hcz12_0 : wr.cell? ⟨gb237, 0, none⟩ = some (.slice A0_0 l0_0.length c0_0) := (blk_cell BK237.out 0).trans rfl
          have hfz12_0 := blk_frozen BK237.out 0
          go_wp2_with (first | ((with_reducible refine gate_callee (f := 30) rfl ?_); refine gL (some 9) Try.func30 #[.agg #[.slice A0_0 l0_0.length c0_0], .int .i64 x1_1] ?_; (with_reducible refine (impl_Tree_isNode.calls _ _ l0_0 x1_1 true _ ?side1 ?side2 A6.out).mono ?_); (case side1 => have X_ := (Kd.C_below HR0_0.out HB.out); exact TC); (case side2 => exact HC0_0.out); rintro e w13 ⟨rfl, hb⟩; refine ⟨_, rfl, ?_⟩; replace HO_5 := aM (Kd.R_below (by have X_ := HO_5.out; exact TR) hb); replace BK237 := aM (blk_below (by have X_ := BK237.out; exact TX) hb); replace HB := aM (below_step TB hb); clear hb; obtain ⟨Ao14, co14, eo14⟩ := Kd.R_slice HO_5.out; subst eo14; have hcz15_0 : w13.cell? ⟨gb237, 0, none⟩ = some (.slice A0_0 l0_0.length c0_0) := (blk_cell BK237.out 0).trans rfl; have hfz15_0 := blk_frozen BK237.out 0) | ((with_reducible refine gate_builtin (b := .append) (xs := #[.tmp 18, .tmp 20]) rfl ?_); (try (refine gate_guard (by rfl) ?_; dsimp only)); at_builtin; refine Kd.R_append (Kd.int .i64) (w0 := w) w.heap.size rfl (.tmp 18) (.tmp 20) 24 3 (.int .i64 0) 8 rfl Try.underlying24 info3 rfl (by decide) (by omega) (.slice Ao14 x5_1.length co14) x5_1 x1_1 [.int .i64 x1_1] (fun _ => True) (fun _ => False) rfl rfl ?aP (fun _ hk => hk.elim) ?aF ?aO ?aB ?aS ?aL ?_; (case aP => exact rfl); (case aB => exact TB); (case aF => exact (fun _ _ => trivial)); (case aO => exact (by have X_ := HO_5.out; exact TR)); (case aS => exact (below_size TB)); (case aL => have := LMc9.out; omega); intro v243 w16 ho hb hg hat; rw [← Ny242.out] at ho; have HO244 := aM (ho); replace BK237 := aM (blk_grown (g := gb237) (o := .cells #[.slice A0_0 l0_0.length c0_0] 26 (0, 0)) TK hg (Kd.R_ne HO_5.out BK237.out (by decide))); replace HB := aM (hb); clear HO_5; clear ho hb hg hat; have hcz17_0 : w16.cell? ⟨gb237, 0, none⟩ = some (.slice A0_0 l0_0.length c0_0) := (blk_cell BK237.out 0).trans rfl; have hfz17_0 := blk_frozen BK237.out 0; have p245 : 0 ≤ (x1_1 : Int) := DT; have q245 : x1_1 < (l0_0.length : Int) := DT; obtain ⟨ad245, e245, hx245_0⟩ := Kd.at_int HR0_0.out x1_1 p245 q245; cases e245; replace hx245_0 := (HB.out.cell (World.block_lt_of_cell? w _ hx245_0)).trans hx245_0; replace p245 := eq_true p245; replace q245 := eq_true q245))
          go_roundg k1
          case measure => have := HK1.out; omega
          case rel => exact ⟨(rd l0_0 x1_1), (y242), (by first | rfl | (simp; done) | (simp [*]; done)), H', ⟨by have := HK1.out; omega⟩, ⟨by have X_ := HO244.out; exact TR⟩, ⟨TK⟩, ⟨TB⟩⟩
        · rw [if_neg c8] at H
          have c8b0 : decide ((x5_1.length : Int) < (l0_0.length : Int)) = false := decide_eq_false c8
          have c8b1 : decide (x5_1.length < l0_0.length) = false := decide_eq_false (fun h => c8 (Int.ofNat_lt.mpr h))
          clear c8
          obtain rfl := Option.some.inj H
          have hcz18_0 : wr.cell? ⟨gb237, 0, none⟩ = some (.slice A0_0 l0_0.length c0_0) := (blk_cell BK237.out 0).trans rfl
          have hfz18_0 := blk_frozen BK237.out 0
          go_wp2_with (first | ((with_reducible refine gate_callee (f := 30) rfl ?_); refine gL (some 9) Try.func30 #[.agg #[.slice A0_0 l0_0.length c0_0], .int .i64 x1_1] ?_; (with_reducible refine (impl_Tree_isNode.calls _ _ l0_0 x1_1 true _ ?side1 ?side2 A6.out).mono ?_); (case side1 => have X_ := (Kd.C_below HR0_0.out HB.out); exact TC); (case side2 => exact HC0_0.out); rintro e w19 ⟨rfl, hb⟩; refine ⟨_, rfl, ?_⟩; replace HO_5 := aM (Kd.R_below (by have X_ := HO_5.out; exact TR) hb); replace BK237 := aM (blk_below (by have X_ := BK237.out; exact TX) hb); replace HB := aM (below_step TB hb); clear hb; obtain ⟨Ao20, co20, eo20⟩ := Kd.R_slice HO_5.out; subst eo20; have hcz21_0 : w19.cell? ⟨gb237, 0, none⟩ = some (.slice A0_0 l0_0.length c0_0) := (blk_cell BK237.out 0).trans rfl; have hfz21_0 := blk_frozen BK237.out 0))
          go_ret
          exact ⟨_, by first | rfl | (simp [errW_none, errW_some] <;> rfl) | (simp [*, errW_none, errW_some] <;> rfl), by have X_ := HO_5.out; exact TR, TB⟩
      · replace c7 := Bool.eq_false_iff.mpr c7
        subst c7
        replace H := ifF H
        obtain rfl := Option.some.inj H
        have hcz22_0 : wr.cell? ⟨gb237, 0, none⟩ = some (.slice A0_0 l0_0.length c0_0) := (blk_cell BK237.out 0).trans rfl
        have hfz22_0 := blk_frozen BK237.out 0
        go_wp2_with (first | ((with_reducible refine gate_callee (f := 30) rfl ?_); refine gL (some 9) Try.func30 #[.agg #[.slice A0_0 l0_0.length c0_0], .int .i64 x1_1] ?_; (with_reducible refine (impl_Tree_isNode.calls _ _ l0_0 x1_1 false _ ?side1 ?side2 A6.out).mono ?_); (case side1 => have X_ := (Kd.C_below HR0_0.out HB.out); exact TC); (case side2 => exact HC0_0.out); rintro e w23 ⟨rfl, hb⟩; refine ⟨_, rfl, ?_⟩; replace HO_5 := aM (Kd.R_below (by have X_ := HO_5.out; exact TR) hb); replace BK237 := aM (blk_below (by have X_ := BK237.out; exact TX) hb); replace HB := aM (below_step TB hb); clear hb))
        go_ret
        exact ⟨_, by first | rfl | (simp [errW_none, errW_some] <;> rfl) | (simp [*, errW_none, errW_some] <;> rfl), by have X_ := HO_5.out; exact TR, TB⟩

/-! ### spec_PathUp: function 13 -/
def spec_PathUp.l0 : Nat → Int → List Int → List Int → Option (List Int)
  | 0, _, _, _ => none
  | k + 1, x1, x5, x247000 => (spec_l1In.f x1 0 (wrap64 ((x247000.length : Int) - 1))).bind fun t250 => (if t250 = true then (if (x5.length : Int) < (x247000.length : Int) then (if x5.length < 17592186044416 then (if 0 ≤ x1 then (if x1 < (x247000.length : Int) then (spec_PathUp.l0 k (rd x247000 x1) (x5 ++ [x1]) x247000) else (none)) else (none)) else (none)) else (some x5)) else (some x5))
def spec_PathUp.f (k : Nat) (l0_0 : List Int) (a1 : Int) : Option (List Int) := spec_PathUp.l0 k a1 (([] : List Int)) l0_0
theorem spec_PathUp.mono_l : ∀ k, (∀ y0 y1 y2, LeO (spec_PathUp.l0 k y0 y1 y2) (spec_PathUp.l0 (k + 1) y0 y1 y2))
  | 0 => fun _ _ _ r h => by simp [spec_PathUp.l0] at h
  | k + 1 => by
    have ih0 := spec_PathUp.mono_l k
    · intro y0 y1 y2
      unfold spec_PathUp.l0
      exact LM
theorem spec_PathUp.mono : ∀ a0 a1 k, LeO (spec_PathUp.f k a0 a1) (spec_PathUp.f (k + 1) a0 a1) := by
  intro a0 a1 k
  have ih0 := spec_PathUp.mono_l k
  unfold spec_PathUp.f
  exact LM
set_option maxHeartbeats 40000000 in
set_option maxRecDepth 100000 in
theorem spec_PathUp.calls (k : Nat) (A0_0 : Option Addr) (c0_0 : Nat) (l0_0 : List Int) (a1 : Int) (r : List Int) (w : World) (hr0_0 : Kd.C (Kd.int .i64) w A0_0 l0_0.length l0_0) (hc0_0 : l0_0.length ≤ c0_0) (h : spec_PathUp.f k l0_0 a1 = some r) :
    Calls Try.prog 13 #[.agg #[.slice A0_0 l0_0.length c0_0], .int .i64 a1] w fun e w' => ∃ v0_ : Value, e = .returned (v0_) ∧ Kd.R (Kd.int .i64) 3 w' w.heap.size (fun _ => True) v0_ r ∧ Below w.heap.size w w' := by
  have hu26 := Try.underlying26
  have HR0_0 := aM hr0_0
  have HC0_0 := aM hc0_0
  clear hr0_0 hc0_0
  have HB := aM (Below.refl w.heap.size w)
  have H := h
  clear h
  unfold spec_PathUp.f at H
  obtain ⟨y247, hy247⟩ : ∃ y_ : List Int, y_ = (([] : List Int)) := ⟨_, rfl⟩
  rw [← hy247] at H
  have Ny247 := aM hy247
  clear hy247
  have H' := aM H
  clear H
  go_enter Try.func13, Try.ntmps13
  go_wp2_with (first | ((with_reducible refine gate_dst (N := 2) rfl ?_); (try (refine gate_guard (by rfl) ?_; dsimp only)); refine gBx 2 #[.slice A0_0 l0_0.length c0_0] 26 ?_; intro gb246 hg w3 hbox hb; have BK246 := aM (hbox); have GW246 := aM ((by rw [hg]; exact (below_size TB) : w.heap.size ≤ gb246)); have GE246 := aM ((by rw [hg]; exact (below_size TB) : w.heap.size ≤ gb246)); replace HB := aM (below_step TB hb); clear hb hbox hg) | ((with_reducible refine gate_dst (N := 6) rfl ?_); (try (refine gate_guard (by rfl) ?_; dsimp only)); refine Kd.R_lit (Kd.int .i64) _ 3 ?hg (N := 6) ?hd (xs := ([] : List Int)) (inner := []) (ok := fun _ => True) (okp := fun _ => True) ?hr ?hp (fun _ hk => hk) trivial (Below.refl _ _) (Nat.le_refl _) (by simp) ?_; (case hd => rfl); (case hg => rfl); (case hr => first | (go_simp; done) | (go_simp; rfl)); (case hp => exact (Reps.none _ _)); intro v248 w4 ho5 hb hg_ hnew_; clear hg_ hnew_; (first | rw [← Ny247.out] at ho5 | (simp only [Int.reduceToNat] at ho5; rw [← Ny247.out] at ho5)); have HO249 := aM (Kd.R_lower ho5 (below_size TB)); replace BK246 := aM (blk_below (by have X_ := BK246.out; exact TX) hb); replace HB := aM (below_step TB hb); clear hb ho5))
  go_loopg [1, 5] k (fun kq v1 v5 w' => ∃ (x1_1 : Int) (x5_1 : List Int), v1 = .int .i64 x1_1 ∧ Aside0 (spec_PathUp.l0 kq x1_1 x5_1 l0_0 = some r) ∧ Aside0 (kq ≤ k) ∧ Aside0 (Kd.R (Kd.int .i64) 3 w' w.heap.size (fun _ => True) v5 x5_1) ∧ Aside0 (w'.heap[gb246]? = some (.cells #[(.slice A0_0 l0_0.length c0_0)] 26 (0, 0))) ∧ Aside0 (Below w.heap.size w w'))
  case atStart => exact ⟨(a1), (y247), (by first | rfl | (simp; done) | (simp [*]; done)), H', ⟨Nat.le_refl _⟩, ⟨by have X_ := HO249.out; exact TR⟩, ⟨TK⟩, ⟨TB⟩⟩
  case round =>
    clear H'
    try clear c1
    try clear p2
    obtain ⟨x1_1, x5_1, rfl, HA, HK1, HO_5, BK246, HB⟩ := hrel
    cases gk with
    | zero => exact absurd HA.out (by simp [spec_PathUp.l0])
    | succ k1 =>
      have H := HA.out
      clear HA
      simp only [spec_PathUp.l0] at H
      replace H := bE H
      obtain ⟨t250, A6, H⟩ := H
      by_cases c7 : t250 = true
      · subst c7
        replace H := ifT H
        by_cases c8 : (x5_1.length : Int) < (l0_0.length : Int)
        · rw [if_pos c8] at H
          have c8b0 : decide ((x5_1.length : Int) < (l0_0.length : Int)) = true := decide_eq_true c8
          have c8b1 : decide (x5_1.length < l0_0.length) = true := decide_eq_true (Int.ofNat_lt.mp c8)
          clear c8
          replace H := ifN H
          obtain ⟨c9, H⟩ := H
          have LMc9 := aM c9
          clear c9
          obtain ⟨y251, hy251⟩ : ∃ y_ : List Int, y_ = (x5_1 ++ [x1_1]) := ⟨_, rfl⟩
          rw [← hy251] at H
          have Ny251 := aM hy251
          clear hy251
          replace H := ifN H
          obtain ⟨c10, H⟩ := H
          have c10b0 : decide (0 ≤ x1_1) = true := decide_eq_true c10
          clear c10
          replace H := ifN H
          obtain ⟨c11, H⟩ := H
          have c11b0 : decide (x1_1 < (l0_0.length : Int)) = true := decide_eq_true c11
          clear c11
          have H' := aM H
          clear H
          have hcz12_0 : wr.cell? ⟨gb246, 0, none⟩ = some (.slice A0_0 l0_0.length c0_0) := (blk_cell BK246.out 0).trans rfl
          have hfz12_0 := blk_frozen BK246.out 0
          go_wp2_with (first | ((with_reducible refine gate_callee (f := 29) rfl ?_); refine gL (some 12) Try.func29 #[.int .i64 x1_1, .int .i64 0, .int .i64 (wrap64 ((l0_0.length : Int) - 1))] ?_; (with_reducible refine (spec_l1In.calls x1_1 0 (wrap64 ((l0_0.length : Int) - 1)) true _ A6.out).mono ?_); rintro e w' ⟨rfl, ⟨nd, rfl⟩⟩; refine ⟨_, rfl, ?_⟩; obtain ⟨Ao13, co13, eo13⟩ := Kd.R_slice HO_5.out; subst eo13) | ((with_reducible refine gate_builtin (b := .append) (xs := #[.tmp 21, .tmp 23]) rfl ?_); (try (refine gate_guard (by rfl) ?_; dsimp only)); at_builtin; refine Kd.R_append (Kd.int .i64) (w0 := w) w.heap.size rfl (.tmp 21) (.tmp 23) 24 3 (.int .i64 0) 8 rfl Try.underlying24 info3 rfl (by decide) (by omega) (.slice Ao13 x5_1.length co13) x5_1 x1_1 [.int .i64 x1_1] (fun _ => True) (fun _ => False) rfl rfl ?aP (fun _ hk => hk.elim) ?aF ?aO ?aB ?aS ?aL ?_; (case aP => exact rfl); (case aB => exact TB); (case aF => exact (fun _ _ => trivial)); (case aO => exact (by have X_ := HO_5.out; exact TR)); (case aS => exact (below_size TB)); (case aL => have := LMc9.out; omega); intro v252 w14 ho hb hg hat; rw [← Ny251.out] at ho; have HO253 := aM (ho); replace BK246 := aM (blk_grown (g := gb246) (o := .cells #[.slice A0_0 l0_0.length c0_0] 26 (0, 0)) TK hg (Kd.R_ne HO_5.out BK246.out (by decide))); replace HB := aM (hb); clear HO_5; clear ho hb hg hat; have hcz15_0 : w14.cell? ⟨gb246, 0, none⟩ = some (.slice A0_0 l0_0.length c0_0) := (blk_cell BK246.out 0).trans rfl; have hfz15_0 := blk_frozen BK246.out 0; have p254 : 0 ≤ (x1_1 : Int) := DT; have q254 : x1_1 < (l0_0.length : Int) := DT; obtain ⟨ad254, e254, hx254_0⟩ := Kd.at_int HR0_0.out x1_1 p254 q254; cases e254; replace hx254_0 := (HB.out.cell (World.block_lt_of_cell? w _ hx254_0)).trans hx254_0; replace p254 := eq_true p254; replace q254 := eq_true q254))
          go_roundg k1
          case measure => have := HK1.out; omega
          case rel => exact ⟨(rd l0_0 x1_1), (y251), (by first | rfl | (simp; done) | (simp [*]; done)), H', ⟨by have := HK1.out; omega⟩, ⟨by have X_ := HO253.out; exact TR⟩, ⟨TK⟩, ⟨TB⟩⟩
        · rw [if_neg c8] at H
          have c8b0 : decide ((x5_1.length : Int) < (l0_0.length : Int)) = false := decide_eq_false c8
          have c8b1 : decide (x5_1.length < l0_0.length) = false := decide_eq_false (fun h => c8 (Int.ofNat_lt.mpr h))
          clear c8
          obtain rfl := Option.some.inj H
          have hcz16_0 : wr.cell? ⟨gb246, 0, none⟩ = some (.slice A0_0 l0_0.length c0_0) := (blk_cell BK246.out 0).trans rfl
          have hfz16_0 := blk_frozen BK246.out 0
          go_wp2_with (first | ((with_reducible refine gate_callee (f := 29) rfl ?_); refine gL (some 12) Try.func29 #[.int .i64 x1_1, .int .i64 0, .int .i64 (wrap64 ((l0_0.length : Int) - 1))] ?_; (with_reducible refine (spec_l1In.calls x1_1 0 (wrap64 ((l0_0.length : Int) - 1)) true _ A6.out).mono ?_); rintro e w' ⟨rfl, ⟨nd, rfl⟩⟩; refine ⟨_, rfl, ?_⟩; obtain ⟨Ao17, co17, eo17⟩ := Kd.R_slice HO_5.out; subst eo17))
          go_ret
          exact ⟨_, by first | rfl | (simp [errW_none, errW_some] <;> rfl) | (simp [*, errW_none, errW_some] <;> rfl), by have X_ := HO_5.out; exact TR, TB⟩
      · replace c7 := Bool.eq_false_iff.mpr c7
        subst c7
        replace H := ifF H
        obtain rfl := Option.some.inj H
        have hcz18_0 : wr.cell? ⟨gb246, 0, none⟩ = some (.slice A0_0 l0_0.length c0_0) := (blk_cell BK246.out 0).trans rfl
        have hfz18_0 := blk_frozen BK246.out 0
        go_wp2_with (first | ((with_reducible refine gate_callee (f := 29) rfl ?_); refine gL (some 12) Try.func29 #[.int .i64 x1_1, .int .i64 0, .int .i64 (wrap64 ((l0_0.length : Int) - 1))] ?_; (with_reducible refine (spec_l1In.calls x1_1 0 (wrap64 ((l0_0.length : Int) - 1)) false _ A6.out).mono ?_); rintro e w' ⟨rfl, ⟨nd, rfl⟩⟩; refine ⟨_, rfl, ?_⟩))
        go_ret
        exact ⟨_, by first | rfl | (simp [errW_none, errW_some] <;> rfl) | (simp [*, errW_none, errW_some] <;> rfl), by have X_ := HO_5.out; exact TR, TB⟩

-- NOT PRINTED: function 31 (impl_Tree_nodesWhere)

/-! ### slices_Index_int_int: function 40 -/
def slices_Index_int_int.l0 : Nat → List Int → Int → Int → Int → Option (Int)
  | 0, _, _, _, _ => none
  | k + 1, x0, x1, x7, x8 => if x8 < x7 then (if 0 ≤ x8 then (if x8 < (x0.length : Int) then (if x1 = (rd x0 x8) then (some x8) else (slices_Index_int_int.l0 k x0 x1 x7 (wrap64 (x8 + 1)))) else (none)) else (none)) else (some (-1))
def slices_Index_int_int.f (k : Nat) (l0 : List Int) (a1 : Int) : Option (Int) := slices_Index_int_int.l0 k l0 a1 (l0.length : Int) 0
theorem slices_Index_int_int.mono_l : ∀ k, (∀ y0 y1 y2 y3, LeO (slices_Index_int_int.l0 k y0 y1 y2 y3) (slices_Index_int_int.l0 (k + 1) y0 y1 y2 y3))
  | 0 => fun _ _ _ _ r h => by simp [slices_Index_int_int.l0] at h
  | k + 1 => by
    have ih0 := slices_Index_int_int.mono_l k
    · intro y0 y1 y2 y3
      unfold slices_Index_int_int.l0
      exact LM
theorem slices_Index_int_int.mono : ∀ a0 a1 k, LeO (slices_Index_int_int.f k a0 a1) (slices_Index_int_int.f (k + 1) a0 a1) := by
  intro a0 a1 k
  have ih0 := slices_Index_int_int.mono_l k
  unfold slices_Index_int_int.f
  exact LM
set_option maxHeartbeats 40000000 in
set_option maxRecDepth 100000 in
theorem slices_Index_int_int.calls (k : Nat) (A0 : Option Addr) (c0 : Nat) (l0 : List Int) (a1 : Int) (r : Int) (w : World) (hr0 : Kd.C (Kd.int .i64) w A0 l0.length l0) (hc0 : l0.length ≤ c0) (h : slices_Index_int_int.f k l0 a1 = some r) :
    Calls Try.prog 40 #[.slice A0 l0.length c0, .int .i64 a1] w fun e w' => e = .returned (.int .i64 r) ∧ Drawn0 w w' := by
  have HR0 := aM hr0
  have HC0 := aM hc0
  clear hr0 hc0
  have H := h
  clear h
  unfold slices_Index_int_int.f at H
  have H' := aM H
  clear H
  go_enter Try.func40, Try.ntmps40
  go_wp2
  go_loopg [8] k (fun kq v8 w' => ∃ (x8_1 : Int), v8 = .int .i64 x8_1 ∧ Aside0 (slices_Index_int_int.l0 kq l0 a1 (l0.length : Int) x8_1 = some r) ∧ Aside0 (kq ≤ k) ∧ Drawn0 w w')
  case atStart => exact ⟨(0), (by first | rfl | (simp; done) | (simp [*]; done)), H', ⟨Nat.le_refl _⟩, TD⟩
  case round =>
    clear H'
    try clear p2
    obtain ⟨x8_1, rfl, HA, HK1, ⟨m1, rfl⟩⟩ := hrel
    cases gk with
    | zero => exact absurd HA.out (by simp [slices_Index_int_int.l0])
    | succ k1 =>
      have H := HA.out
      clear HA
      simp only [slices_Index_int_int.l0] at H
      by_cases c3 : x8_1 < (l0.length : Int)
      · rw [if_pos c3] at H
        have c3b0 : decide (x8_1 < (l0.length : Int)) = true := decide_eq_true c3
        clear c3
        replace H := ifN H
        obtain ⟨c4, H⟩ := H
        have c4b0 : decide (0 ≤ x8_1) = true := decide_eq_true c4
        clear c4
        replace H := ifN H
        obtain ⟨c5, H⟩ := H
        have c5b0 : decide (x8_1 < (l0.length : Int)) = true := decide_eq_true c5
        clear c5
        by_cases c6 : a1 = (rd l0 x8_1)
        · rw [if_pos c6] at H
          have c6b0 : (a1 == (rd l0 x8_1)) = true := beq_iff_eq.mpr c6
          have c6b1 : (a1 != (rd l0 x8_1)) = false := bne_eq_false_iff_eq.mpr c6
          clear c6
          obtain rfl := Option.some.inj H
          have p255 : 0 ≤ (x8_1 : Int) := DT
          have q255 : x8_1 < (l0.length : Int) := DT
          obtain ⟨ad255, e255, hx255_0⟩ := Kd.at_int HR0.out x8_1 p255 q255
          cases e255
          replace p255 := eq_true p255
          replace q255 := eq_true q255
          go_wp2
          go_ret
          exact ⟨by first | rfl | (simp; done) | (simp [*]; done), TD⟩
        · rw [if_neg c6] at H
          have c6b0 : (a1 == (rd l0 x8_1)) = false := beq_eq_false_iff_ne.mpr c6
          have c6b1 : (a1 != (rd l0 x8_1)) = true := bne_iff_ne.mpr c6
          have H' := aM H
          clear H
          have p255 : 0 ≤ (x8_1 : Int) := DT
          have q255 : x8_1 < (l0.length : Int) := DT
          obtain ⟨ad255, e255, hx255_0⟩ := Kd.at_int HR0.out x8_1 p255 q255
          cases e255
          replace p255 := eq_true p255
          replace q255 := eq_true q255
          go_wp2
          go_roundg k1
          case measure => have := HK1.out; omega
          case rel => exact ⟨(wrap64 (x8_1 + 1)), (by first | rfl | (simp; done) | (simp [*]; done)), H', ⟨by have := HK1.out; omega⟩, TD⟩
      · rw [if_neg c3] at H
        have c3b0 : decide (x8_1 < (l0.length : Int)) = false := decide_eq_false c3
        clear c3
        obtain rfl := Option.some.inj H
        go_wp2
        go_ret
        exact ⟨by first | rfl | (simp; done) | (simp [*]; done), TD⟩

/-! ### slices_Contains_int_int: function 35 -/
def slices_Contains_int_int.f (k : Nat) (l0 : List Int) (a1 : Int) : Option (Bool) := (slices_Index_int_int.f k l0 a1).bind fun t256 => (some (decide (t256 ≥ 0)))
theorem slices_Contains_int_int.mono : ∀ a0 a1 k, LeO (slices_Contains_int_int.f k a0 a1) (slices_Contains_int_int.f (k + 1) a0 a1) := by
  intro a0 a1 k
  have m0_ := @slices_Index_int_int.mono
  unfold slices_Contains_int_int.f
  exact LM
set_option maxHeartbeats 40000000 in
set_option maxRecDepth 100000 in
theorem slices_Contains_int_int.calls (k : Nat) (A0 : Option Addr) (c0 : Nat) (l0 : List Int) (a1 : Int) (r : Bool) (w : World) (hr0 : Kd.C (Kd.int .i64) w A0 l0.length l0) (hc0 : l0.length ≤ c0) (h : slices_Contains_int_int.f k l0 a1 = some r) :
    Calls Try.prog 35 #[.slice A0 l0.length c0, .int .i64 a1] w fun e w' => e = .returned (.bool r) ∧ Drawn0 w w' := by
  have HR0 := aM hr0
  have HC0 := aM hc0
  clear hr0 hc0
  have H := h
  clear h
  unfold slices_Contains_int_int.f at H
  replace H := bE H
  obtain ⟨t256, A3, H⟩ := H
  obtain rfl := Option.some.inj H
  go_enter Try.func35, Try.ntmps35
  go_wp2_with (first | ((with_reducible refine gate_callee (f := 40) rfl ?_); refine gL (some 7) Try.func40 #[.slice A0 l0.length c0, .int .i64 a1] ?_; (with_reducible refine (slices_Index_int_int.calls k _ _ l0 a1 t256 _ ?side1 ?side2 A3.out).mono ?_); (case side1 => have X_ := HR0.out; exact TC); (case side2 => exact HC0.out); rintro e w' ⟨rfl, ⟨nd, rfl⟩⟩; refine ⟨_, rfl, ?_⟩))
  go_ret
  exact ⟨by first | rfl | (simp; done) | (simp [*]; done), TD⟩

/-! ### impl_Ancestor: function 20 -/
def impl_Ancestor.f (k : Nat) (l0_0 : List Int) (a1 : Int) (a2 : Int) : Option (Bool) := if a1 = a2 then (some false) else ((impl_PathUp.f k l0_0 a2).bind fun t258 => ((slices_Contains_int_int.f k t258 a1).bind fun t261 => (some t261)))
theorem impl_Ancestor.mono : ∀ a0 a1 a2 k, LeO (impl_Ancestor.f k a0 a1 a2) (impl_Ancestor.f (k + 1) a0 a1 a2) := by
  intro a0 a1 a2 k
  have m0_ := @impl_PathUp.mono
  have m1_ := @slices_Contains_int_int.mono
  unfold impl_Ancestor.f
  exact LM
set_option maxHeartbeats 40000000 in
set_option maxRecDepth 100000 in
theorem impl_Ancestor.calls (k : Nat) (A0_0 : Option Addr) (c0_0 : Nat) (l0_0 : List Int) (a1 : Int) (a2 : Int) (r : Bool) (w : World) (hr0_0 : Kd.C (Kd.int .i64) w A0_0 l0_0.length l0_0) (hc0_0 : l0_0.length ≤ c0_0) (h : impl_Ancestor.f k l0_0 a1 a2 = some r) :
    Calls Try.prog 20 #[.agg #[.slice A0_0 l0_0.length c0_0], .int .i64 a1, .int .i64 a2] w fun e w' => e = .returned (.bool r) ∧ Below w.heap.size w w' := by
  have hu26 := Try.underlying26
  have HR0_0 := aM hr0_0
  have HC0_0 := aM hc0_0
  clear hr0_0 hc0_0
  have HB := aM (Below.refl w.heap.size w)
  have H := h
  clear h
  unfold impl_Ancestor.f at H
  by_cases c4 : a1 = a2
  · rw [if_pos c4] at H
    have c4b0 : (a1 == a2) = true := beq_iff_eq.mpr c4
    have c4b1 : (a1 != a2) = false := bne_eq_false_iff_eq.mpr c4
    clear c4
    obtain rfl := Option.some.inj H
    go_enter Try.func20, Try.ntmps20
    go_wp2_with (first | ((with_reducible refine gate_dst (N := 3) rfl ?_); refine gBx 3 #[.slice A0_0 l0_0.length c0_0] 26 ?_; intro gb257 hg w5 hbox hb; have BK257 := aM (hbox); have GW257 := aM ((by rw [hg]; exact (below_size TB) : w.heap.size ≤ gb257)); have GE257 := aM ((by rw [hg]; exact (below_size TB) : w.heap.size ≤ gb257)); replace HB := aM (below_step TB hb); clear hb hbox hg))
    go_ret
    exact ⟨by first | rfl | (simp [errW_none, errW_some] <;> rfl) | (simp [*, errW_none, errW_some] <;> rfl), TB⟩
  · rw [if_neg c4] at H
    have c4b0 : (a1 == a2) = false := beq_eq_false_iff_ne.mpr c4
    have c4b1 : (a1 != a2) = true := bne_iff_ne.mpr c4
    replace H := bE H
    obtain ⟨t258, A6, H⟩ := H
    replace H := bE H
    obtain ⟨t261, A7, H⟩ := H
    obtain rfl := Option.some.inj H
    go_enter Try.func20, Try.ntmps20
    go_wp2_with (first | ((with_reducible refine gate_dst (N := 3) rfl ?_); refine gBx 3 #[.slice A0_0 l0_0.length c0_0] 26 ?_; intro gb257 hg w8 hbox hb; have BK257 := aM (hbox); have GW257 := aM ((by rw [hg]; exact (below_size TB) : w.heap.size ≤ gb257)); have GE257 := aM ((by rw [hg]; exact (below_size TB) : w.heap.size ≤ gb257)); replace HB := aM (below_step TB hb); clear hb hbox hg; have hcz9_0 : w8.cell? ⟨gb257, 0, none⟩ = some (.slice A0_0 l0_0.length c0_0) := (blk_cell BK257.out 0).trans rfl; have hfz9_0 := blk_frozen BK257.out 0) | (go_at_call 12; (with_reducible refine (impl_PathUp.calls k _ _ l0_0 a2 t258 _ ?side1 ?side2 A6.out).mono ?_); (case side1 => have X_ := (Kd.C_below HR0_0.out HB.out); exact TC); (case side2 => exact HC0_0.out); rintro e w10 ⟨v259, rfl, ho0, hb⟩; have HO260 := aM (Kd.R_lower ho0 (below_size TB)); replace BK257 := aM (blk_below (by have X_ := BK257.out; exact TX) hb); replace HB := aM (below_step TB hb); clear ho0 hb; obtain ⟨Ao11, co11, eo11⟩ := Kd.R_slice HO260.out; subst eo11) | (go_at_call 35; (with_reducible refine (slices_Contains_int_int.calls k _ _ t258 a1 t261 _ ?side1 ?side2 A7.out).mono ?_); (case side1 => have X_ := (Kd.R_reads' HO260.out).2.2; exact TC); (case side2 => exact (Kd.R_reads' HO260.out).2.1); rintro e w' ⟨rfl, ⟨nd, rfl⟩⟩))
    go_ret
    exact ⟨by first | rfl | (simp [errW_none, errW_some] <;> rfl) | (simp [*, errW_none, errW_some] <;> rfl), TB⟩

-- NOT PRINTED: function 32 (impl_BelowOf_1)

/-! ### impl_BelowOf: function 14 -/
set_option maxHeartbeats 800000 in
theorem impl_BelowOf.c1 (k : Nat) (A0 : Option Addr) (c0 : Nat) (l0 : List Int) (a1 i : Int) (B1 B2 : Nat) (b : Bool) (w : World) (hr0 : Kd.C (Kd.int .i64) w A0 l0.length l0) (hc0 : l0.length ≤ c0)
    (h1 : w.cell? ⟨B1, 0, none⟩ = some (.slice A0 l0.length c0)) (h2 : w.cell? ⟨B2, 0, none⟩ = some (.int .i64 a1)) (h : impl_Ancestor.f k l0 a1 i = some b) :
    Calls Try.prog 32 #[.int .i64 i, .pointer (some ⟨B1, 0, none⟩), .pointer (some ⟨B2, 0, none⟩)] w fun e w' => e = .returned (.bool b) ∧ Below w.heap.size w w' := by
  have HR0 := Aside0.mk hr0
  have HC0 := Aside0.mk hc0
  have HN := Aside0.mk h
  clear hr0 hc0 h
  have hu26 := Try.underlying26
  go_enter Try.func32, Try.ntmps32
  go_wp2_with (go_at_call 20; refine (impl_Ancestor.calls k _ _ l0 a1 i b _ HR0.out HC0.out HN.out).mono ?_; rintro e w1 ⟨rfl, hb⟩)
  go_ret
  exact ⟨rfl, hb⟩

/-- The nodes for which q tells true: out of 'nodesWhere'. -/
def impl_BelowOf.l0 (q : Int → Option Bool) (n : Int) : Nat → List Int → Int → Option (List Int)
  | 0, _, _ => none
  | k + 1, x5, x11 => if x11 < n then (if 0 ≤ x11 then ((q x11).bind fun t => (if t = true then (if x5.length < 17592186044416 then (impl_BelowOf.l0 q n k (x5 ++ [x11]) (wrap64 (x11 + 1))) else (none)) else (impl_BelowOf.l0 q n k x5 (wrap64 (x11 + 1))))) else (none)) else (some x5)
set_option maxHeartbeats 8000000 in
set_option maxRecDepth 100000 in
theorem impl_BelowOf.c0 (q : Int → Option Bool) (k : Nat) (A0 : Option Addr) (c0 : Nat) (l0 : List Int) (B1 B2 : Nat) (r : List Int) (w : World) (hr0 : Kd.C (Kd.int .i64) w A0 l0.length l0) (hc0 : l0.length ≤ c0)
    (hcl : ∀ (i : Int) (b : Bool) (W : World), 0 ≤ i → i < (l0.length : Int) → q i = some b → Below w.heap.size w W → Calls Try.prog 32 #[.int .i64 i, .pointer (some ⟨B1, 0, none⟩), .pointer (some ⟨B2, 0, none⟩)] W fun e W' => e = .returned (.bool b) ∧ Below W.heap.size W W')
    (h : impl_BelowOf.l0 q (l0.length : Int) k [] 0 = some r) :
    Calls Try.prog 31 #[.agg #[.slice A0 l0.length c0], .func (.func 32) #[] #[.pointer (some ⟨B1, 0, none⟩), .pointer (some ⟨B2, 0, none⟩)]] w fun e w' => ∃ v0_ : Value, e = .returned (v0_) ∧ Kd.R (Kd.int .i64) 3 w' w.heap.size (fun _ => True) v0_ r ∧ Below w.heap.size w w' := by
  have hu26 := Try.underlying26
  have HR0 := Aside0.mk hr0
  have HC0 := Aside0.mk hc0
  have HCL := Aside0.mk hcl
  clear hr0 hc0 hcl
  have HB := Aside0.mk (Below.refl w.heap.size w)
  have H' := Aside0.mk h
  clear h
  go_enter Try.func31, Try.ntmps31
  go_wp2_with ((with_reducible refine gate_dst (N := 7) rfl ?_); refine Kd.R_lit (Kd.int .i64) _ 3 ?hg (N := 7) ?hd (xs := ([] : List Int)) (inner := []) (ok := fun _ => True) (okp := fun _ => True) ?hr ?hp (fun _ hk => hk) trivial (Below.refl _ _) (Nat.le_refl _) (by simp) ?_; (case hd => rfl); (case hg => rfl); (case hr => first | (go_simp; done) | (go_simp; rfl)); (case hp => exact (Reps.none _ _)); intro v178 w4 ho5 hb hg_ hnew_; clear hg_ hnew_; have HO := Aside0.mk (Kd.R_lower ho5 (below_size (below_alloc HB.out _))); have HB' := Aside0.mk (below_step (below_alloc HB.out _) hb); have BK := Aside0.mk (blk_below (g := w.heap.size) (o := .cells #[.slice A0 l0.length c0] 26 (0, 0)) (heap_alloc_new w _) hb); clear HB hb ho5; have hcz := (blk_cell BK.out 0).trans (rfl : _ = some (Value.slice A0 l0.length c0)); have hfz := blk_frozen BK.out 0)
  go_loopg [5, 6, 11] k (fun kq v5 v6 v11 w' => ∃ (x11 : Int) (x5 : List Int), v11 = .int .i64 x11 ∧ Aside0 (impl_BelowOf.l0 q (l0.length : Int) kq x5 x11 = some r) ∧ Aside0 (kq ≤ k) ∧ Aside0 (Kd.R (Kd.int .i64) 3 w' w.heap.size (fun _ => True) v5 x5) ∧ Aside0 (Below w.heap.size w w'))
  case atStart => exact ⟨0, [], rfl, H', ⟨Nat.le_refl _⟩, HO, HB'⟩
  case round =>
    clear H' hcz hfz BK HO HB'
    obtain ⟨x11, x5, rfl, HA, HK1, HO, HB⟩ := hrel
    cases gk with
    | zero => exact absurd HA.out (by simp [impl_BelowOf.l0])
    | succ k1 =>
      have H := HA.out
      clear HA
      simp only [impl_BelowOf.l0] at H
      by_cases c3 : x11 < (l0.length : Int)
      · rw [if_pos c3] at H
        have c3b0 : decide (x11 < (l0.length : Int)) = true := decide_eq_true c3
        by_cases c4 : 0 ≤ x11
        · rw [if_pos c4] at H
          obtain ⟨t, A0_, H⟩ := Option.bind_eq_some_iff.mp H
          have HQ := Aside0.mk (fun W hW => HCL.out x11 t W c4 c3 A0_ hW)
          clear A0_ c4 c3
          cases t with
          | true =>
            replace H : (if x5.length < 17592186044416 then (impl_BelowOf.l0 q (l0.length : Int) k1 (x5 ++ [x11]) (wrap64 (x11 + 1))) else (none)) = some r := H
            by_cases c9 : x5.length < 17592186044416
            · rw [if_pos c9] at H
              have LM := Aside0.mk c9
              clear c9
              have H' := Aside0.mk H
              clear H
              go_wp2_with (first | (go_at_call 32; refine (HQ.out _ HB.out).mono ?_; rintro e w1 ⟨rfl, hb⟩; have n0_ := Aside0.mk (Kd.R_below HO.out hb); have n1_ := Aside0.mk (below_step HB.out hb); clear HO HB hb; have HO := n0_; have HB := n1_; clear n0_ n1_; obtain ⟨Ao, co, eo⟩ := Kd.R_slice HO.out; subst eo) | ((with_reducible refine gate_builtin (b := .append) (xs := #[.tmp 17, .tmp 19]) rfl ?_); at_builtin; refine Kd.R_append (Kd.int .i64) (w0 := w) w.heap.size rfl (.tmp 17) (.tmp 19) 24 3 (.int .i64 0) 8 rfl Try.underlying24 info3 rfl (by decide) (by omega) (.slice Ao x5.length co) x5 x11 [.int .i64 x11] (fun _ => True) (fun _ => False) rfl rfl ?aP (fun _ hk => hk.elim) ?aF ?aO ?aB ?aS ?aL ?_; (case aP => exact rfl); (case aB => exact HB.out); (case aF => exact (fun _ _ => trivial)); (case aO => exact HO.out); (case aS => exact (below_size HB.out)); (case aL => have := LM.out; omega); intro v182 w16 ho hb hg hat; have HO' := Aside0.mk ho; have HB' := Aside0.mk hb; clear HO HB ho hb hg hat))
              go_roundg k1
              case measure => have := HK1.out; omega
              case rel => exact ⟨wrap64 (x11 + 1), x5 ++ [x11], rfl, H', ⟨by have := HK1.out; omega⟩, HO', HB'⟩
            · rw [if_neg c9] at H
              exact absurd H (by simp)
          | false =>
            have H' := Aside0.mk (show impl_BelowOf.l0 q (l0.length : Int) k1 x5 (wrap64 (x11 + 1)) = some r from H)
            clear H
            go_wp2_with (go_at_call 32; refine (HQ.out _ HB.out).mono ?_; rintro e w1 ⟨rfl, hb⟩; have n0_ := Aside0.mk (Kd.R_below HO.out hb); have n1_ := Aside0.mk (below_step HB.out hb); clear HO HB hb; have HO := n0_; have HB := n1_; clear n0_ n1_)
            go_roundg k1
            case measure => have := HK1.out; omega
            case rel => exact ⟨wrap64 (x11 + 1), x5, rfl, H', ⟨by have := HK1.out; omega⟩, HO, HB⟩
        · rw [if_neg c4] at H
          exact absurd H (by simp)
      · rw [if_neg c3] at H
        have c3b0 : decide (x11 < (l0.length : Int)) = false := decide_eq_false c3
        clear c3
        obtain rfl := Option.some.inj H
        go_wp2
        go_ret
        exact ⟨_, rfl, HO.out, HB.out⟩
def impl_BelowOf.f (k : Nat) (l0_0 : List Int) (a1 : Int) : Option (List Int) := impl_BelowOf.l0 (fun i => impl_Ancestor.f k l0_0 a1 i) (l0_0.length : Int) k [] 0
theorem impl_BelowOf.mono_l (q q' : Int → Option Bool) (hq : ∀ i, LeO (q i) (q' i)) (n : Int) : ∀ k x5 x11, LeO (impl_BelowOf.l0 q n k x5 x11) (impl_BelowOf.l0 q' n (k + 1) x5 x11) := by
  intro k
  induction k with
  | zero => intro _ _ r h; simp [impl_BelowOf.l0] at h
  | succ k ih =>
    intro x5 x11
    unfold impl_BelowOf.l0
    exact LeO.ite (LeO.ite (LeO.bind (hq _) (fun t => LeO.ite (LeO.ite (ih _ _) (LeO.none _)) (ih _ _))) (LeO.none _)) (LeO.refl _)
theorem impl_BelowOf.mono : ∀ a0 a1 k, LeO (impl_BelowOf.f k a0 a1) (impl_BelowOf.f (k + 1) a0 a1) := fun a0 a1 k => impl_BelowOf.mono_l _ _ (fun i => impl_Ancestor.mono a0 a1 i k) _ k _ _
set_option maxHeartbeats 800000 in
theorem impl_BelowOf.calls (k : Nat) (A0_0 : Option Addr) (c0_0 : Nat) (l0_0 : List Int) (a1 : Int) (r : List Int) (w : World) (hr0_0 : Kd.C (Kd.int .i64) w A0_0 l0_0.length l0_0) (hc0_0 : l0_0.length ≤ c0_0) (h : impl_BelowOf.f k l0_0 a1 = some r) :
    Calls Try.prog 14 #[.agg #[.slice A0_0 l0_0.length c0_0], .int .i64 a1] w fun e w' => ∃ v0_ : Value, e = .returned (v0_) ∧ Kd.R (Kd.int .i64) 3 w' w.heap.size (fun _ => True) v0_ r ∧ Below w.heap.size w w' := by
  have hu26 := Try.underlying26
  have HR0 := Aside0.mk hr0_0
  have HC0 := Aside0.mk hc0_0
  have H' := Aside0.mk h
  clear hr0_0 hc0_0 h
  have hb0 : Below w.heap.size w ((w.alloc (.cells #[.slice A0_0 l0_0.length c0_0] 26 (0, 0))).alloc (.cells #[.int .i64 a1] 3 (0, 0))) := below_alloc (below_alloc (Below.refl _ _) _) _
  have HB0 := Aside0.mk hb0
  clear hb0
  go_enter Try.func14, Try.ntmps14
  go_wp2_with (go_at_call 31; refine (impl_BelowOf.c0 (fun i => impl_Ancestor.f k l0_0 a1 i) k A0_0 c0_0 l0_0 w.heap.size (w.heap.size + 1) r _ (Kd.C_below HR0.out HB0.out) HC0.out (fun i b W h0 h1 hq hW => impl_BelowOf.c1 k A0_0 c0_0 l0_0 a1 i _ _ b W (Kd.C_below (Kd.C_below HR0.out HB0.out) hW) HC0.out (pw_cell_below hW (by simp)) (pw_cell_below hW (by simp)) hq) H'.out).mono ?_; rintro e w1 ⟨v, rfl, hR, hb⟩)
  go_ret
  exact ⟨_, rfl, Kd.R_lower hR (by simp; omega), below_step HB0.out hb⟩

end Go.Proofs.Ytmaeahbiiiifmaa.Q
