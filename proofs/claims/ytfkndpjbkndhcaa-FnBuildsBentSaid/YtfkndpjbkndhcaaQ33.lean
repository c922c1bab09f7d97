/- Functions of the program as plain Lean functions, and that a call of each comes to what its function tells. -/
import Derived.Test.YtfkndpjbkndhcaaQ11
import Derived.Test.YtfkndpjbkndhcaaQ40
set_option maxHeartbeats 40000000
set_option maxRecDepth 100000
namespace Go.Proofs.Ytfkndpjbkndhcaa.Q
open Go.RowKit Go.Proofs.YtfkndpjbkndhcaaW.PrintWords Go.Proofs.YtfkndpjbkndhcaaW.PrintLast Go.Proofs.YtfkndpjbkndhcaaW.PrintMore
attribute [local go_sem] min2_int min_two
set_option linter.unusedVariables false
set_option linter.unusedSimpArgs false
def impl_PieceAt.j0 : Nat → Int → Bool → Int → Int → Int → List (S48) → Int → List Int → Option (List Int × Bool)
  | 0, _, _, _, _, _, _, _, _ => none
  | k + 1, x2, x18, x997000, x997001, x997002, x997003, x998000, x998001 => if x18 = true then (some (([] : List Int), false)) else ((impl_Build_block.f x998000 x998001 x997000 x997001 x997002 x997003 x2).bind fun t1000 => ((impl_cloned.f t1000).bind fun t1003 => (some (t1003, true))))
def impl_PieceAt.f (k : Nat) (a0_0 : Int) (a0_1 : Int) (a0_2 : Int) (l0_3 : List (S48)) (a1_0 : Int) (l1_1 : List Int) (a2 : Int) : Option (List Int × Bool) := (impl_BuildOk.f k a0_0 a0_1 a0_2 l0_3 a1_0 l1_1).bind fun t998 => (if t998 = true then ((impl_InSet.f a1_0 a2).bind fun t999 => (impl_PieceAt.j0 k a2 (!t999) a0_0 a0_1 a0_2 l0_3 a1_0 l1_1)) else (impl_PieceAt.j0 k a2 true a0_0 a0_1 a0_2 l0_3 a1_0 l1_1))
theorem impl_PieceAt.mono_l : ∀ k, (∀ y0 y1 y2 y3 y4 y5 y6 y7, LeO (impl_PieceAt.j0 k y0 y1 y2 y3 y4 y5 y6 y7) (impl_PieceAt.j0 (k + 1) y0 y1 y2 y3 y4 y5 y6 y7))
  | 0 => fun _ _ _ _ _ _ _ _ r h => by simp [impl_PieceAt.j0] at h
  | k + 1 => by
    have m0_ := @impl_BuildOk.mono
    have ih0 := impl_PieceAt.mono_l k
    · intro y0 y1 y2 y3 y4 y5 y6 y7
      unfold impl_PieceAt.j0
      exact LM
theorem impl_PieceAt.mono : ∀ a0 a1 a2 a3 a4 a5 a6 k, LeO (impl_PieceAt.f k a0 a1 a2 a3 a4 a5 a6) (impl_PieceAt.f (k + 1) a0 a1 a2 a3 a4 a5 a6) := by
  intro a0 a1 a2 a3 a4 a5 a6 k;have m0_ := @impl_BuildOk.mono;have ih0 := impl_PieceAt.mono_l k;unfold impl_PieceAt.f;exact LM
theorem impl_PieceAt.calls (k : Nat) (a0_0 : Int) (a0_1 : Int) (a0_2 : Int) (A0_3 : Option Addr) (c0_3 : Nat) (l0_3 : List (S48)) (a1_0 : Int) (A1_1 : Option Addr) (c1_1 : Nat) (l1_1 : List Int) (a2 : Int) (r1 : List Int) (r2 : Bool) (w : World) (hr0_3 : Kd.C k48 w A0_3 l0_3.length l0_3) (hc0_3 : l0_3.length ≤ c0_3) (hr1_1 : Kd.C (Kd.int .u8) w A1_1 l1_1.length l1_1) (hc1_1 : l1_1.length ≤ c1_1) (h : impl_PieceAt.f k a0_0 a0_1 a0_2 l0_3 a1_0 l1_1 a2 = some (r1, r2)) :
    Calls Try.prog 44 #[.agg #[.int .i64 a0_0, .int .i64 a0_1, .int .i64 a0_2, .slice A0_3 l0_3.length c0_3], .agg #[.int .i64 a1_0, .slice A1_1 l1_1.length c1_1], .int .i64 a2] w fun e w' => ∃ v0_ : Value, e = .returned (.tuple #[v0_, .bool r2]) ∧ Kd.R (Kd.int .u8) 5 w' w.heap.size (fun _ => True) v0_ r1 ∧ Below w.heap.size w w' := by
  have hu28 := Try.underlying28
  have hu31 := Try.underlying31
  have HR0_3 := aM hr0_3
  have HC0_3 := aM hc0_3
  clear hr0_3 hc0_3
  have HR1_1 := aM hr1_1
  have HC1_1 := aM hc1_1
  clear hr1_1 hc1_1
  have HB := aM (Below.refl w.heap.size w)
  have H := h
  clear h
  unfold impl_PieceAt.f at H
  have HC4 := aM H
  clear H
  go_enter Try.func44, Try.ntmps44
  go_upto_region 1 with (first | ((with_reducible refine gate_dst (N := 3) rfl ?_); refine gBx 3 #[.int .i64 a0_0, .int .i64 a0_1, .int .i64 a0_2, .slice A0_3 l0_3.length c0_3] 28 ?_; intro gb996 hg w5 hbox hb; have BK996 := aM (hbox); have GW996 := gW HB hg; have GE996 := gW HB hg; replace HB := bS HB hb; clear hb hbox hg) | ((with_reducible refine gate_dst (N := 4) rfl ?_); refine gBx 4 #[.int .i64 a1_0, .slice A1_1 l1_1.length c1_1] 31 ?_; intro gb997 hg w6 hbox hb; have BK997 := aM (hbox); have GW997 := gW HB hg; have GE997 := gW HB hg; obtain ⟨NB996_997, NB997_996⟩ := nB BK996 hg; replace BK996 := mB BK996 hb; replace HB := bS HB hb; clear hb hbox hg))
  (try simp only [NP])
  go_cut [18] (fun v18 wc => ∃ (kq : Nat) (x18_3 : Bool), v18 = .bool x18_3 ∧ Aside0 (impl_PieceAt.j0 kq a2 x18_3 a0_0 a0_1 a0_2 l0_3 a1_0 l1_1 = some (r1, r2)) ∧ Aside0 (kq ≤ k) ∧ Aside0 (wc.heap[gb996]? = some (.cells #[.int .i64 a0_0, .int .i64 a0_1, .int .i64 a0_2, (.slice A0_3 l0_3.length c0_3)] 28 (0, 0))) ∧ Aside0 (wc.heap[gb997]? = some (.cells #[.int .i64 a1_0, (.slice A1_1 l1_1.length c1_1)] 31 (0, 0))) ∧ Aside0 (Below w.heap.size w wc))
  case first =>
    have H := HC4.out
    clear HC4
    replace H := bE H
    obtain ⟨t998, A7, H⟩ := H
    by_cases c8 : t998 = true
    · subst c8
      replace H := ifT H
      replace H := bE H
      obtain ⟨t999, A9, H⟩ := H
      have H' := aM H
      clear H
      obtain ⟨hnb10, hnc10⟩ := oB NB996_997
      obtain ⟨hcz11_0, hcz11_1, hcz11_2, hcz11_3⟩ := cz4 BK996.out
      obtain ⟨hfz11_0, hfz11_1, hfz11_2, hfz11_3⟩ := fz4 BK996.out
      obtain ⟨hcz12_0, hcz12_1⟩ := cz2 BK997.out
      obtain ⟨hfz12_0, hfz12_1⟩ := fz2 BK997.out
      go_wp2_with (first | ((with_reducible refine gate_callee (f := 42) rfl ?_); refine gL (some 10) Try.func42 #[.agg #[.int .i64 a0_0, .int .i64 a0_1, .int .i64 a0_2, .slice A0_3 l0_3.length c0_3], .agg #[.int .i64 a1_0, .slice A1_1 l1_1.length c1_1]] ?_; (with_reducible refine (impl_BuildOk.calls k a0_0 a0_1 a0_2 _ _ l0_3 a1_0 _ _ l1_1 true _ ?side1 ?side2 ?side3 ?side4 A7.out).mono ?_); (case side1 => have X_ := (Kd.C_below HR0_3.out HB.out); exact TC); (case side2 => exact HC0_3.out); (case side3 => have X_ := (Kd.C_below HR1_1.out HB.out); exact TC); (case side4 => exact HC1_1.out); rintro e w13 ⟨rfl, hb⟩; refine ⟨_, rfl, ?_⟩; replace BK996 := mB BK996 hb; replace BK997 := mB BK997 hb; replace HB := bS HB hb; clear hb; obtain ⟨hcz14_0, hcz14_1⟩ := cz2 BK997.out; obtain ⟨hfz14_0, hfz14_1⟩ := fz2 BK997.out) | (go_at_call 37; (with_reducible refine (impl_InSet.calls a1_0 a2 t999 _ A9.out).mono ?_); rintro e w' ⟨rfl, ⟨nd, rfl⟩⟩))
      go_meet
      case rel => exact ⟨_, (!t999), TF, H', ⟨by first | omega | exact Nat.le_refl _⟩, ⟨TK⟩, ⟨TK⟩, ⟨TB⟩⟩
    · replace c8 := Bool.eq_false_iff.mpr c8
      subst c8
      replace H := ifF H
      have H' := aM H
      clear H
      obtain ⟨hnb15, hnc15⟩ := oB NB996_997
      obtain ⟨hcz16_0, hcz16_1, hcz16_2, hcz16_3⟩ := cz4 BK996.out
      obtain ⟨hfz16_0, hfz16_1, hfz16_2, hfz16_3⟩ := fz4 BK996.out
      obtain ⟨hcz17_0, hcz17_1⟩ := cz2 BK997.out
      obtain ⟨hfz17_0, hfz17_1⟩ := fz2 BK997.out
      go_wp2_with (first | ((with_reducible refine gate_callee (f := 42) rfl ?_); refine gL (some 10) Try.func42 #[.agg #[.int .i64 a0_0, .int .i64 a0_1, .int .i64 a0_2, .slice A0_3 l0_3.length c0_3], .agg #[.int .i64 a1_0, .slice A1_1 l1_1.length c1_1]] ?_; (with_reducible refine (impl_BuildOk.calls k a0_0 a0_1 a0_2 _ _ l0_3 a1_0 _ _ l1_1 false _ ?side1 ?side2 ?side3 ?side4 A7.out).mono ?_); (case side1 => have X_ := (Kd.C_below HR0_3.out HB.out); exact TC); (case side2 => exact HC0_3.out); (case side3 => have X_ := (Kd.C_below HR1_1.out HB.out); exact TC); (case side4 => exact HC1_1.out); rintro e w18 ⟨rfl, hb⟩; refine ⟨_, rfl, ?_⟩; replace BK996 := mB BK996 hb; replace BK997 := mB BK997 hb; replace HB := bS HB hb; clear hb))
      go_meet
      case rel => exact ⟨_, (true), TF, H', ⟨by first | omega | exact Nat.le_refl _⟩, ⟨TK⟩, ⟨TK⟩, ⟨TB⟩⟩
  case rest =>
    clear HC4
    try clear c1
    try clear p2
    try clear c4
    try clear c8
    try clear c10
    try clear c15
    try clear hcz11_0
    try clear hcz11_1
    try clear hcz11_2
    try clear hcz11_3
    try clear hcz12_0
    try clear hcz12_1
    try clear hcz14_0
    try clear hcz14_1
    try clear hcz16_0
    try clear hcz16_1
    try clear hcz16_2
    try clear hcz16_3
    try clear hcz17_0
    try clear hcz17_1
    try clear hfz11_0
    try clear hfz11_1
    try clear hfz11_2
    try clear hfz11_3
    try clear hfz12_0
    try clear hfz12_1
    try clear hfz14_0
    try clear hfz14_1
    try clear hfz16_0
    try clear hfz16_1
    try clear hfz16_2
    try clear hfz16_3
    try clear hfz17_0
    try clear hfz17_1
    obtain ⟨kq, x18_3, rfl, HA, HJ3, BK996, BK997, HB⟩ := hcut
    cases kq with
    | zero => exact absurd HA.out (by simp [impl_PieceAt.j0])
    | succ kj3 =>
      have H := HA.out
      clear HA
      simp only [impl_PieceAt.j0] at H
      by_cases c19 : x18_3 = true
      · subst c19
        replace H := ifT H
        simp only [Option.some.injEq, Prod.mk.injEq] at H
        obtain ⟨rfl, rfl⟩ := H
        go_wp2
        go_ret2
        exact ⟨_, TE, by first | exact Kd.R_nil _ _ _ _ _ | exact Kd.N_nil _ _ _ _ _ | exact Kd.V_nil _ _ _ _ _ | exact Kd.Q_nil _ _ _ _ _ | exact Kd.S_nil _ _ _ _ _, TB⟩
      · replace c19 := Bool.eq_false_iff.mpr c19
        subst c19
        replace H := ifF H
        replace H := bE H
        obtain ⟨t1000, A20, H⟩ := H
        replace H := bE H
        obtain ⟨t1003, A21, H⟩ := H
        simp only [Option.some.injEq, Prod.mk.injEq] at H
        obtain ⟨rfl, rfl⟩ := H
        obtain ⟨hnb22, hnc22⟩ := oB NB997_996
        obtain ⟨hcz23_0, hcz23_1⟩ := cz2 BK997.out
        obtain ⟨hfz23_0, hfz23_1⟩ := fz2 BK997.out
        obtain ⟨hcz24_0, hcz24_1, hcz24_2, hcz24_3⟩ := cz4 BK996.out
        obtain ⟨hfz24_0, hfz24_1, hfz24_2, hfz24_3⟩ := fz4 BK996.out
        go_wp2_with (first | ((with_reducible refine gate_callee (f := 89) rfl ?_); refine gL (some 22) Try.func89 #[.agg #[.int .i64 a1_0, .slice A1_1 l1_1.length c1_1], .agg #[.int .i64 a0_0, .int .i64 a0_1, .int .i64 a0_2, .slice A0_3 l0_3.length c0_3], .int .i64 a2] ?_; (with_reducible refine (impl_Build_block.calls a1_0 (fun k_ => k_ < w.heap.size) _ _ l1_1 a0_0 a0_1 a0_2 _ _ l0_3 a2 t1000 _ ?side1 ?side2 ?side3 A20.out).mono ?_); (case side1 => exact Kd.V_mk HC1_1.out (Kd.F_below (Kd.C_F (Kd.heap_int .u8) HR1_1.out) TB)); (case side2 => have X_ := (Kd.C_below HR0_3.out HB.out); exact TC); (case side3 => exact HC0_3.out); rintro e w25 ⟨v1001, rfl, ho0, hb⟩; refine ⟨_, rfl, ?_⟩; have HO1002 := aM (Kd.V_lower (Kd.V_mono (ok' := fun k_ => k_ ≠ gb996 ∧ k_ ≠ gb997) ho0 (fun k_ hk_ => ⟨Or.elim hk_ (fun hs_ => fun e_ => Nat.not_le.2 hs_ (by rw [e_]; exact GW996.out)) (fun hn_ => (Kd.freshB (g := gb996) (o := .cells #[.int .i64 a0_0, .int .i64 a0_1, .int .i64 a0_2, .slice A0_3 l0_3.length c0_3] 28 (0, 0)) TK k_ hn_)), Or.elim hk_ (fun hs_ => fun e_ => Nat.not_le.2 hs_ (by rw [e_]; exact GW997.out)) (fun hn_ => (Kd.freshB (g := gb997) (o := .cells #[.int .i64 a1_0, .slice A1_1 l1_1.length c1_1] 31 (0, 0)) TK k_ hn_))⟩)) (below_size TB)); replace BK996 := mB BK996 hb; replace BK997 := mB BK997 hb; replace HB := bS HB hb; clear ho0 hb; obtain ⟨Ao26, co26, eo26⟩ := Kd.V_slice HO1002.out; subst eo26) | ((with_reducible refine gate_callee (f := 94) rfl ?_); refine gL (some 23) Try.func94 #[.slice Ao26 t1000.length co26] ?_; (with_reducible refine (impl_cloned.calls _ _ t1000 t1003 _ ?side1 ?side2 A21.out).mono ?_); (case side1 => have X_ := (Kd.V_reads' HO1002.out).2.2; exact TC); (case side2 => exact (Kd.V_reads' HO1002.out).2.1); rintro e w27 ⟨v1004, rfl, ho0, hb⟩; refine ⟨_, rfl, ?_⟩; have HO1005 := aM (Kd.R_lower ho0 (below_size TB)); replace HO1002 := aM (Kd.V_elder' (by (with_reducible repeat (first | apply Kd.V_alloc | apply Kd.V_drewN | apply Kd.V_drew)); exact HO1002.out) (Kd.R_base ho0) hb); replace BK996 := mB BK996 hb; replace BK997 := mB BK997 hb; replace HB := bS HB hb; clear ho0 hb))
        go_ret2
        exact ⟨_, TE, by have X_ := HO1005.out; exact TR, TB⟩
def spec_BlockAt.f (l0 : List Int) (a1 : Int) (a2 : Int) : Option (List Int × Bool) := (spec_SpanOf.f a1 (l0.length : Int) a2).bind fun bt562 => (if bt562.2 = 0 then (some ((([] : List Int)), false)) else ((some (([] : List Int) : List Int)).bind fun y567 => (if 0 ≤ bt562.1 then (if bt562.1 ≤ (wrap64 (bt562.1 + bt562.2)) then (if (wrap64 (bt562.1 + bt562.2)) ≤ (l0.length : Int) then (if y567.length + ((l0.take ((wrap64 (bt562.1 + bt562.2)) : Int).toNat).drop (bt562.1 : Int).toNat).length < 140737488355328 then (some ((y567 ++ ((l0.take ((wrap64 (bt562.1 + bt562.2)) : Int).toNat).drop (bt562.1 : Int).toNat)), true)) else (none)) else (none)) else (none)) else (none))))
theorem spec_BlockAt.calls (A0 : Option Addr) (c0 : Nat) (l0 : List Int) (a1 : Int) (a2 : Int) (r1 : List Int) (r2 : Bool) (w : World) (hr0 : Kd.C (Kd.int .u8) w A0 l0.length l0) (hc0 : l0.length ≤ c0) (h : spec_BlockAt.f l0 a1 a2 = some (r1, r2)) :
    Calls Try.prog 96 #[.slice A0 l0.length c0, .int .i64 a1, .int .i64 a2] w fun e w' => ∃ v0_ : Value, e = .returned (.tuple #[v0_, .bool r2]) ∧ Kd.R (Kd.int .u8) 5 w' w.heap.size (fun _ => True) v0_ r1 ∧ Below w.heap.size w w' := by
  have HR0 := aM hr0
  have HC0 := aM hc0
  clear hr0 hc0
  have HB := aM (Below.refl w.heap.size w)
  have H := h
  clear h
  unfold spec_BlockAt.f at H
  replace H := bE H
  obtain ⟨⟨t562, t563⟩, A4, H⟩ := H
  dsimp only at H
  by_cases c5 : t563 = 0
  · rw [if_pos c5] at H
    have c5b0 : (t563 == 0) = true := beq_iff_eq.mpr c5
    have c5b1 : (t563 != 0) = false := bne_eq_false_iff_eq.mpr c5
    clear c5
    obtain ⟨y564, hy564⟩ : ∃ y_ : List Int, y_ = (([] : List Int)) := ⟨_, rfl⟩
    rw [← hy564] at H
    have Ny564 := aM hy564
    clear hy564
    simp only [Option.some.injEq, Prod.mk.injEq] at H
    obtain ⟨rfl, rfl⟩ := H
    go_enter Try.func96, Try.ntmps96
    go_wp2_with (first | ((with_reducible refine gate_callee (f := 76) rfl ?_); refine gL (some 15) Try.func76 #[.int .i64 a1, .int .i64 (l0.length : Int), .int .i64 a2] ?_; (with_reducible refine (spec_SpanOf.calls a1 (l0.length : Int) a2 t562 t563 _ A4.out).mono ?_); rintro e w' ⟨rfl, ⟨nd, rfl⟩⟩; refine ⟨_, rfl, ?_⟩) | ((with_reducible refine gate_dst (N := 20) rfl ?_); refine Kd.R_lit (Kd.int .u8) _ 5 ?hg (N := 20) ?hd (xs := ([] : List Int)) (inner := []) (ok := fun _ => True) (okp := fun _ => True) ?hr ?hp (fun _ hk => hk) trivial (Below.refl _ _) (Nat.le_refl _) (by simp) ?_; (case hd => rfl); (case hg => rfl); (case hr => first | (go_simp; done) | (go_simp; rfl)); (case hp => exact (Reps.none _ _)); intro v565 w6 ho7 hb hg_ hnew_; clear hg_ hnew_; (first | rw [← Ny564.out] at ho7 | (simp only [Int.reduceToNat] at ho7; rw [← Ny564.out] at ho7)); have HO566 := aM (Kd.R_lower ho7 (below_size TB)); replace HB := bS HB hb; clear hb ho7))
    go_ret2
    exact ⟨_, TE, by have X_ := HO566.out; exact TR, TB⟩
  · rw [if_neg c5] at H
    have c5b0 : (t563 == 0) = false := beq_eq_false_iff_ne.mpr c5
    have c5b1 : (t563 != 0) = true := bne_iff_ne.mpr c5
    obtain ⟨y567, hy567⟩ : ∃ y_ : List Int, y_ = (([] : List Int)) := ⟨_, rfl⟩
    replace H := someE H hy567
    have Ny567 := aM hy567
    clear hy567
    replace H := ifN H
    obtain ⟨c8, H⟩ := H
    have c8b0 := eq_true c8
    have c8b1 : decide (0 ≤ t562) = true := decide_eq_true c8
    clear c8
    replace H := ifN H
    obtain ⟨c9, H⟩ := H
    have c9b0 := eq_true c9
    have c9b1 : decide (t562 ≤ (wrap64 (t562 + t563))) = true := decide_eq_true c9
    replace H := ifN H
    obtain ⟨c10, H⟩ := H
    have c10b0 := eq_true c10
    have c10b1 : decide ((wrap64 (t562 + t563)) ≤ (l0.length : Int)) = true := decide_eq_true c10
    replace H := ifN H
    obtain ⟨c11, H⟩ := H
    have LMc11 := aM c11
    clear c11
    obtain ⟨y571, hy571⟩ : ∃ y_ : List Int, y_ = (y567 ++ ((l0.take ((wrap64 (t562 + t563)) : Int).toNat).drop (t562 : Int).toNat)) := ⟨_, rfl⟩
    rw [← hy571] at H
    have Ny571 := aM hy571
    clear hy571
    simp only [Option.some.injEq, Prod.mk.injEq] at H
    obtain ⟨rfl, rfl⟩ := H
    go_enter Try.func96, Try.ntmps96
    go_wp2_with (first | ((with_reducible refine gate_callee (f := 76) rfl ?_); refine gL (some 15) Try.func76 #[.int .i64 a1, .int .i64 (l0.length : Int), .int .i64 a2] ?_; (with_reducible refine (spec_SpanOf.calls a1 (l0.length : Int) a2 t562 t563 _ A4.out).mono ?_); rintro e w' ⟨rfl, ⟨nd, rfl⟩⟩; refine ⟨_, rfl, ?_⟩) | ((with_reducible refine gate_dst (N := 21) rfl ?_); refine Kd.R_lit (Kd.int .u8) _ 5 ?hg (N := 21) ?hd (xs := ([] : List Int)) (inner := []) (ok := fun _ => True) (okp := fun _ => True) ?hr ?hp (fun _ hk => hk) trivial (Below.refl _ _) (Nat.le_refl _) (by simp) ?_; (case hd => rfl); (case hg => rfl); (case hr => first | (go_simp; done) | (go_simp; rfl)); (case hp => exact (Reps.none _ _)); intro v568 w12 ho13 hb hg_ hnew_; clear hg_ hnew_; (first | rw [← Ny567.out] at ho13 | (simp only [Int.reduceToNat] at ho13; rw [← Ny567.out] at ho13)); have HO569 := aM (Kd.R_lower ho13 (below_size TB)); replace HB := bS HB hb; clear hb ho13; obtain ⟨i014, hi014, _, hsz14, _⟩ := info_parts info5; obtain ⟨A14, hcut14, hA14, hC14⟩ := print_mid_of (P := Try.prog) (Value.int .u8) 0 22 5 .i64 .i64 Try.underlying22 hi014 hsz14 A0 c0 l0 t562 (wrap64 (t562 + t563)) DT (by first | omega | exact DT) DT HC0.out; have HR570 := aM (Kd.C_of_reads (h1 := fun _ => rfl) (hA14 _ (Kd.reads_of_C HR0.out))); have HC570 := aM hC14; clear hA14 hC14 hi014 hsz14) | ((with_reducible refine gate_builtin (b := .append) (xs := #[.tmp 21, .tmp 27]) rfl ?_); at_builtin; refine Kd.R_append_rows (Kd.int .u8) (w0 := w) w.heap.size rfl (.tmp 21) (.tmp 27) 22 5 (.int .u8 0) 1 rfl Try.underlying22 info5 rfl (by decide) (by omega) v568 y567 ((l0.take ((wrap64 (t562 + t563)) : Int).toNat).drop (t562 : Int).toNat) _ _ _ (fun _ => True) (fun _ => False) rfl rfl ?aO ?aR (fun _ _ h => h) (fun _ h => h.elim) ?aF ?aB ?aS ?aL ?_; (case aR => first | ((conv => arg 5; rw [← show ((l0.take ((wrap64 (t562 + t563)) : Int).toNat).drop (t562 : Int).toNat).length = ((wrap64 (t562 + t563)).toNat - t562.toNat) from (by rw [List.length_drop, List.length_take]; have h_ : ((wrap64 (t562 + t563)) : Int) ≤ (l0.length : Int) := DT; omega)]); repeat (first | exact (Kd.C_below HR570.out HB.out) | (with_reducible refine Kd.C_alloc ?_ _) | (with_reducible refine Kd.C_drewN ?_ _) | (with_reducible refine Kd.C_drew ?_))) | (repeat (first | exact (Kd.C_below HR570.out HB.out) | (with_reducible refine Kd.C_alloc ?_ _) | (with_reducible refine Kd.C_drewN ?_ _) | (with_reducible refine Kd.C_drew ?_)))); (case aB => exact TB); (case aF => exact (fun _ _ => trivial)); (case aO => exact (TRf HO569)); (case aS => exact (below_size TB)); (case aL => have := LMc11.out; have hlx_ := (show ((l0.take ((wrap64 (t562 + t563)) : Int).toNat).drop (t562 : Int).toNat).length = ((wrap64 (t562 + t563)).toNat - t562.toNat) from (by rw [List.length_drop, List.length_take]; have h_ : ((wrap64 (t562 + t563)) : Int) ≤ (l0.length : Int) := DT; omega)); omega); intro v572 w15 ho hb hg hat; rw [← Ny571.out] at ho; have HO573 := aM (ho); replace HB := aM (hb); clear HO569; clear ho hb hg hat))
    go_ret2
    exact ⟨_, TE, by have X_ := HO573.out; exact TR, TB⟩
def spec_SumsOf.l0 : Nat → List Int → Int → List (S48) → Int → Option ((List (S48)))
  | 0, _, _, _, _ => none
  | k + 1, x0, x1, x5, x6 => (spec_Blocks.f x1 (x0.length : Int)).bind fun t577 => (if x6 < t577 then ((spec_BlockAt.f x0 x1 x6).bind fun bt578 => ((spec_SumOf.f k bt578.1).bind fun bt582 => (if x5.length < 8796093022208 then (spec_SumsOf.l0 k x0 x1 (x5 ++ [(⟨bt582.1, bt582.2⟩ : S48)]) (wrap64 (x6 + 1))) else (none)))) else (some x5))
def spec_SumsOf.f (k : Nat) (l0 : List Int) (a1 : Int) : Option ((List (S48))) := spec_SumsOf.l0 k l0 a1 (([] : List (S48))) 0
theorem spec_SumsOf.mono_l : ∀ k, (∀ y0 y1 y2 y3, LeO (spec_SumsOf.l0 k y0 y1 y2 y3) (spec_SumsOf.l0 (k + 1) y0 y1 y2 y3))
  | 0 => fun _ _ _ _ r h => by simp [spec_SumsOf.l0] at h
  | k + 1 => by
    have m0_ := @spec_SumOf.mono
    have ih0 := spec_SumsOf.mono_l k
    · intro y0 y1 y2 y3
      unfold spec_SumsOf.l0
      exact LM
theorem spec_SumsOf.mono : ∀ a0 a1 k, LeO (spec_SumsOf.f k a0 a1) (spec_SumsOf.f (k + 1) a0 a1) := by
  intro a0 a1 k;have m0_ := @spec_SumOf.mono;have ih0 := spec_SumsOf.mono_l k;unfold spec_SumsOf.f;exact LM
theorem spec_SumsOf.calls (k : Nat) (A0 : Option Addr) (c0 : Nat) (l0 : List Int) (a1 : Int) (r : List (S48)) (w : World) (hr0 : Kd.C (Kd.int .u8) w A0 l0.length l0) (hc0 : l0.length ≤ c0) (h : spec_SumsOf.f k l0 a1 = some r) :
    Calls Try.prog 127 #[.slice A0 l0.length c0, .int .i64 a1] w fun e w' => ∃ v0_ : Value, e = .returned (v0_) ∧ Kd.R k48 48 w' w.heap.size (fun _ => True) v0_ r ∧ Below w.heap.size w w' := by
  have HR0 := aM hr0
  have HC0 := aM hc0
  clear hr0 hc0
  have HB := aM (Below.refl w.heap.size w)
  have H := h
  clear h
  unfold spec_SumsOf.f at H
  obtain ⟨y574, hy574⟩ : ∃ y_ : List (S48), y_ = (([] : List (S48))) := ⟨_, rfl⟩
  rw [← hy574] at H
  have Ny574 := aM hy574
  clear hy574
  have H' := aM H
  clear H
  go_enter Try.func127, Try.ntmps127
  go_wp2_with (first | ((with_reducible refine gate_dst (N := 9) rfl ?_); refine Kd.R_lit k48 _ 48 ?hg (N := 9) ?hd (xs := ([] : List (S48))) (inner := []) (ok := fun _ => True) (okp := fun _ => True) ?hr ?hp (fun _ hk => hk) trivial (Below.refl _ _) (Nat.le_refl _) (by simp) ?_; (case hd => rfl); (case hg => rfl); (case hr => first | (go_simp; done) | (go_simp; rfl)); (case hp => exact (Reps.none _ _)); intro v575 w3 ho4 hb hg_ hnew_; clear hg_ hnew_; (first | rw [← Ny574.out] at ho4 | (simp only [Int.reduceToNat] at ho4; rw [← Ny574.out] at ho4)); have HO576 := aM (Kd.R_lower ho4 (below_size TB)); replace HB := bS HB hb; clear hb ho4))
  go_loopg [5, 6] k (fun kq v5 v6 w' => ∃ (x5_1 : List (S48)) (x6_1 : Int), v6 = .int .i64 x6_1 ∧ Aside0 (spec_SumsOf.l0 kq l0 a1 x5_1 x6_1 = some r) ∧ Aside0 (kq ≤ k) ∧ Aside0 (Kd.R k48 48 w' w.heap.size (fun _ => True) v5 x5_1) ∧ Aside0 (Below w.heap.size w w'))
  case atStart => exact ⟨(y574), (0), TF, H', ⟨Nat.le_refl _⟩, ⟨by have X_ := HO576.out; exact TR⟩, ⟨TB⟩⟩
  case round =>
    clear H'
    try clear c1
    try clear p2
    obtain ⟨x5_1, x6_1, rfl, HA, HK1, HO_5, HB⟩ := hrel
    cases gk with
    | zero => exact absurd HA.out (by simp [spec_SumsOf.l0])
    | succ k1 =>
      have H := HA.out
      clear HA
      simp only [spec_SumsOf.l0] at H
      replace H := bE H
      obtain ⟨t577, A5, H⟩ := H
      by_cases c6 : x6_1 < t577
      · rw [if_pos c6] at H
        have c6b0 : decide (x6_1 < t577) = true := decide_eq_true c6
        clear c6
        replace H := bE H
        obtain ⟨⟨t578, t579⟩, A7, H⟩ := H
        dsimp only at H
        replace H := bE H
        obtain ⟨⟨t582, t583⟩, A8, H⟩ := H
        dsimp only at H
        replace H := ifN H
        obtain ⟨c9, H⟩ := H
        have LMc9 := aM c9
        clear c9
        obtain ⟨y584, hy584⟩ : ∃ y_ : List (S48), y_ = (x5_1 ++ [(⟨t582, t583⟩ : S48)]) := ⟨_, rfl⟩
        rw [← hy584] at H
        have Ny584 := aM hy584
        clear hy584
        have H' := aM H
        clear H
        go_wp2_with (first | ((with_reducible refine gate_callee (f := 111) rfl ?_); refine gL (some 14) Try.func111 #[.int .i64 a1, .int .i64 (l0.length : Int)] ?_; (with_reducible refine (spec_Blocks.calls a1 (l0.length : Int) t577 _ A5.out).mono ?_); rintro e w' ⟨rfl, ⟨nd, rfl⟩⟩; refine ⟨_, rfl, ?_⟩) | ((with_reducible refine gate_callee (f := 96) rfl ?_); refine gL (some 22) Try.func96 #[.slice A0 l0.length c0, .int .i64 a1, .int .i64 x6_1] ?_; (with_reducible refine (spec_BlockAt.calls _ _ l0 a1 x6_1 t578 t579 _ ?side1 ?side2 A7.out).mono ?_); (case side1 => repeat (first | exact (Kd.C_below HR0.out TB) | (with_reducible refine Kd.C_alloc ?_ _) | (with_reducible refine Kd.C_drewN ?_ _) | (with_reducible refine Kd.C_drew ?_))); (case side2 => exact HC0.out); rintro e w10 ⟨v580, rfl, ho0, hb⟩; refine ⟨_, rfl, ?_⟩; have HO581 := aM (Kd.R_lower ho0 (below_size TB)); replace HO_5 := mR HO_5 hb; replace HB := bS HB hb; clear ho0 hb; obtain ⟨Ao11, co11, eo11⟩ := Kd.R_slice HO581.out; subst eo11) | ((with_reducible refine gate_callee (f := 77) rfl ?_); refine gL (some 27) Try.func77 #[.slice Ao11 t578.length co11] ?_; (with_reducible refine (spec_SumOf.calls k1 _ _ t578 t582 t583 _ ?side1 ?side2 A8.out).mono ?_); (case side1 => have X_ := (Kd.R_reads' HO581.out).2.2; exact TC); (case side2 => exact (Kd.R_reads' HO581.out).2.1); rintro e w12 ⟨rfl, hb⟩; refine ⟨_, rfl, ?_⟩; replace HO_5 := mR HO_5 hb; replace HO581 := mR HO581 hb; replace HB := bS HB hb; clear hb) | ((with_reducible refine gate_builtin (b := .append) (xs := #[.tmp 25, .tmp 28]) rfl ?_); at_builtin; refine Kd.R_append k48 (w0 := w) w.heap.size rfl (.tmp 25) (.tmp 28) 26 48 (.agg #[(.int .i64 0), (.int .i64 0)]) 16 rfl Try.underlying26 info48 rfl (by decide) (by omega) u5 x5_1 (⟨t582, t583⟩ : S48) [.int .i64 t582, .int .i64 t583] (fun _ => True) (fun _ => False) rfl rfl ?aP (fun _ hk => hk.elim) ?aF ?aO ?aB ?aS ?aL ?_; (case aP => exact k48_mkM _ _ _ (⟨t582, t583⟩ : S48)); (case aB => exact TB); (case aF => exact (fun _ _ => trivial)); (case aO => exact (TRf HO_5)); (case aS => exact (below_size TB)); (case aL => have := LMc9.out; omega); intro v585 w13 ho hb hg hat; rw [← Ny584.out] at ho; have HO586 := aM (ho); replace HO581 := aM (Kd.R_over' (TRf HO581) (Kd.R_typed (TRf HO_5)) (by decide) hg); replace HB := aM (hb); clear HO_5; clear ho hb hg hat))
        go_roundg k1
        case measure => have := HK1.out; omega
        case rel => exact ⟨(y584), (wrap64 (x6_1 + 1)), TF, H', ⟨by have := HK1.out; omega⟩, ⟨by have X_ := HO586.out; exact TR⟩, ⟨TB⟩⟩
      · rw [if_neg c6] at H
        have c6b0 : decide (x6_1 < t577) = false := decide_eq_false c6
        clear c6
        obtain rfl := Option.some.inj H
        go_wp2_with (first | ((with_reducible refine gate_callee (f := 111) rfl ?_); refine gL (some 14) Try.func111 #[.int .i64 a1, .int .i64 (l0.length : Int)] ?_; (with_reducible refine (spec_Blocks.calls a1 (l0.length : Int) t577 _ A5.out).mono ?_); rintro e w' ⟨rfl, ⟨nd, rfl⟩⟩; refine ⟨_, rfl, ?_⟩))
        go_ret
        exact ⟨_, TE, by have X_ := HO_5.out; exact TR, TB⟩
def spec_ManOf.f (k : Nat) (a0 : Int) (l1 : List Int) (a2 : Int) : Option (Int × Int × Int × (List (S48))) := (spec_l1In.f a0 1 1000000).bind fun t588 => (if t588 = true then ((spec_SizeOk.f a2 (l1.length : Int)).bind fun t589 => (if t589 = true then ((spec_SumsOf.f k l1 a2).bind fun t590 => (some (a0, a2, (l1.length : Int), t590))) else (some (0, 0, 0, ([] : List (S48)))))) else (some (0, 0, 0, ([] : List (S48)))))
theorem spec_ManOf.mono : ∀ a0 a1 a2 k, LeO (spec_ManOf.f k a0 a1 a2) (spec_ManOf.f (k + 1) a0 a1 a2) := by
  intro a0 a1 a2 k;have m0_ := @spec_SumsOf.mono;unfold spec_ManOf.f;exact LM
theorem spec_ManOf.calls (k : Nat) (a0 : Int) (A1 : Option Addr) (c1 : Nat) (l1 : List Int) (a2 : Int) (r1 : Int) (r2 : Int) (r3 : Int) (r4 : List (S48)) (w : World) (hr1 : Kd.C (Kd.int .u8) w A1 l1.length l1) (hc1 : l1.length ≤ c1) (h : spec_ManOf.f k a0 l1 a2 = some (r1, r2, r3, r4)) :
    Calls Try.prog 120 #[.int .i64 a0, .slice A1 l1.length c1, .int .i64 a2] w fun e w' => ∃ v3_ : Value, e = .returned (.agg #[.int .i64 r1, .int .i64 r2, .int .i64 r3, v3_]) ∧ Kd.R k48 48 w' w.heap.size (fun _ => True) v3_ r4 ∧ Below w.heap.size w w' := by
  have hu28 := Try.underlying28
  have HR1 := aM hr1
  have HC1 := aM hc1
  clear hr1 hc1
  have HB := aM (Below.refl w.heap.size w)
  have H := h
  clear h
  unfold spec_ManOf.f at H
  replace H := bE H
  obtain ⟨t588, A4, H⟩ := H
  go_enter Try.func120, Try.ntmps120
  go_wp2_with (first | ((with_reducible refine gate_dst (N := 6) rfl ?_); (try (refine gate_guard (by rfl) ?_; dsimp only)); refine gBx 6 #[.int .i64 0, .int .i64 0, .int .i64 0, .slice none 0 0] 28 ?_; intro gb587 hg w6 hbox hb; have BK587 := aM (hbox); have GW587 := gW HB hg; have GE587 := gW HB hg; replace HB := bS HB hb; clear hb hbox hg) | ((with_reducible refine gate_callee (f := 80) rfl ?_); refine gL (some 8) Try.func80 #[.int .i64 a0, .int .i64 1, .int .i64 1000000] ?_; (with_reducible refine (spec_l1In.calls a0 1 1000000 t588 _ A4.out).mono ?_); rintro e w' ⟨rfl, ⟨nd, rfl⟩⟩; refine ⟨_, rfl, ?_⟩) | ((with_reducible refine gate_dst (N := 9) rfl ?_); generalize hG_ : wpList _ _ _ _ _ _ = G_))
  subst hG_
  by_cases c7 : t588 = true
  · subst c7
    replace H := ifT H
    replace H := bE H
    obtain ⟨t589, A8, H⟩ := H
    by_cases c9 : t589 = true
    · subst c9
      replace H := ifT H
      replace H := bE H
      obtain ⟨t590, A10, H⟩ := H
      simp only [Option.some.injEq, Prod.mk.injEq] at H
      obtain ⟨rfl, rfl, rfl, rfl⟩ := H
      go_wp2_with (first | (go_at_call 115; (with_reducible refine (spec_SizeOk.calls a2 (l1.length : Int) true _ A8.out).mono ?_); rintro e w' ⟨rfl, ⟨nd, rfl⟩⟩; (try (rw [drewN_self w6]; generalize hq_ : World.drewN w6 _ = w6; have n0_ : Aside0 (w6.heap[gb587]? = some (.cells #[.int .i64 0, .int .i64 0, .int .i64 0, .slice none 0 0] 28 (0, 0))) := ⟨by rw [← hq_]; exact TK⟩; have n1_ : Aside0 (Below w.heap.size w w6) := ⟨by rw [← hq_]; exact TB⟩; clear BK587 HB hq_; have BK587 := n0_; have HB := n1_; clear n0_ n1_))) | ((with_reducible refine gate_callee (f := 127) rfl ?_); refine gL (some 24) Try.func127 #[.slice A1 l1.length c1, .int .i64 a2] ?_; (with_reducible refine (spec_SumsOf.calls k _ _ l1 a2 t590 _ ?side1 ?side2 A10.out).mono ?_); (case side1 => have X_ := (Kd.C_below HR1.out HB.out); exact TC); (case side2 => exact HC1.out); rintro e w11 ⟨v591, rfl, ho0, hb⟩; refine ⟨_, rfl, ?_⟩; have HO592 := aM (Kd.R_lower ho0 (below_size TB)); replace BK587 := mB BK587 hb; replace HB := bS HB hb; clear ho0 hb; obtain ⟨Ao12, co12, eo12⟩ := Kd.R_slice HO592.out; subst eo12; obtain ⟨hcz13_0, hcz13_1, hcz13_2, hcz13_3⟩ := cz4 BK587.out; obtain ⟨hfz13_0, hfz13_1, hfz13_2, hfz13_3⟩ := fz4 BK587.out))
      refine bodyPost_ret (results_cell_row rfl _ _ gb587 28 #[.int .i64 a0, .int .i64 a2, .int .i64 (l1.length : Int), .slice Ao12 t590.length co12] (0, 0) _ rfl (blk_put (blk_put (blk_put (blk_put (cs := #[.int .i64 0, .int .i64 0, .int .i64 0, .slice none 0 0]) (TZ BK587) 0 _ rfl) 1 _ rfl) 2 _ rfl) 3 _ rfl) Try.underlying28 rfl (by kernel_rfl)) rfl ?_
      exact ⟨_, TE, by (with_reducible repeat (first | apply Kd.R_alloc | apply Kd.R_drewN | apply Kd.R_drew)); exact Kd.R_mono (RK1 (Kd.R_types HO592.out BK587.out (by decide))) (fun _ hk => trivial), TB⟩
    · replace c9 := Bool.eq_false_iff.mpr c9
      subst c9
      replace H := ifF H
      simp only [Option.some.injEq, Prod.mk.injEq] at H
      obtain ⟨rfl, rfl, rfl, rfl⟩ := H
      go_wp2_with (first | (go_at_call 115; (with_reducible refine (spec_SizeOk.calls a2 (l1.length : Int) false _ A8.out).mono ?_); rintro e w' ⟨rfl, ⟨nd, rfl⟩⟩; (try (rw [drewN_self w6]; generalize hq_ : World.drewN w6 _ = w6; have n0_ : Aside0 (w6.heap[gb587]? = some (.cells #[.int .i64 0, .int .i64 0, .int .i64 0, .slice none 0 0] 28 (0, 0))) := ⟨by rw [← hq_]; exact TK⟩; have n1_ : Aside0 (Below w.heap.size w w6) := ⟨by rw [← hq_]; exact TB⟩; clear BK587 HB hq_; have BK587 := n0_; have HB := n1_; clear n0_ n1_)); obtain ⟨hcz14_0, hcz14_1, hcz14_2, hcz14_3⟩ := cz4 BK587.out; obtain ⟨hfz14_0, hfz14_1, hfz14_2, hfz14_3⟩ := fz4 BK587.out))
      refine bodyPost_ret (results_cell_row rfl _ _ gb587 28 #[.int .i64 0, .int .i64 0, .int .i64 0, .slice none 0 0] (0, 0) _ rfl (blk_put (blk_put (blk_put (blk_put (cs := #[.int .i64 0, .int .i64 0, .int .i64 0, .slice none 0 0]) (TZ BK587) 0 _ rfl) 1 _ rfl) 2 _ rfl) 3 _ rfl) Try.underlying28 rfl (by kernel_rfl)) rfl ?_
      exact ⟨_, TE, by first | exact Kd.R_nil _ _ _ _ _ | exact Kd.N_nil _ _ _ _ _ | exact Kd.V_nil _ _ _ _ _ | exact Kd.Q_nil _ _ _ _ _ | exact Kd.S_nil _ _ _ _ _, TB⟩
  · replace c7 := Bool.eq_false_iff.mpr c7
    subst c7
    replace H := ifF H
    simp only [Option.some.injEq, Prod.mk.injEq] at H
    obtain ⟨rfl, rfl, rfl, rfl⟩ := H
    obtain ⟨hcz15_0, hcz15_1, hcz15_2, hcz15_3⟩ := cz4 BK587.out
    obtain ⟨hfz15_0, hfz15_1, hfz15_2, hfz15_3⟩ := fz4 BK587.out
    go_wp2
    refine bodyPost_ret (results_cell_row rfl _ _ gb587 28 #[.int .i64 0, .int .i64 0, .int .i64 0, .slice none 0 0] (0, 0) _ rfl (blk_put (blk_put (blk_put (blk_put (cs := #[.int .i64 0, .int .i64 0, .int .i64 0, .slice none 0 0]) (TZ BK587) 0 _ rfl) 1 _ rfl) 2 _ rfl) 3 _ rfl) Try.underlying28 rfl (by kernel_rfl)) rfl ?_
    exact ⟨_, TE, by first | exact Kd.R_nil _ _ _ _ _ | exact Kd.N_nil _ _ _ _ _ | exact Kd.V_nil _ _ _ _ _ | exact Kd.Q_nil _ _ _ _ _ | exact Kd.S_nil _ _ _ _ _, TB⟩
def spec_l6Draw.f (k : Nat) (s0_0 : List Int) (s0_1 : Int) (s0_2 : Int) : Option (Int × Int × Int × (List (S48)) × List Int × Int × Int) := (spec_l6Image.f k s0_0 s0_1 s0_2).bind fun bt594 => ((spec_l1Below.f s0_0 bt594.2.1 bt594.2.2 5).bind fun bt599 => ((spec_l1Below.f s0_0 bt599.2.1 bt599.2.2 5).bind fun bt602 => ((spec_ManOf.f k (wrap64 (1 + bt599.1)) bt594.1 (wrap64 (2 + bt602.1))).bind fun bt605 => (some (bt605.1, bt605.2.1, bt605.2.2.1, bt605.2.2.2, bt594.1, bt602.2.1, bt602.2.2)))))
theorem spec_l6Draw.mono : ∀ a0 a1 a2 k, LeO (spec_l6Draw.f k a0 a1 a2) (spec_l6Draw.f (k + 1) a0 a1 a2) := by
  intro a0 a1 a2 k;have m0_ := @spec_ManOf.mono;have m1_ := @spec_l6Image.mono;unfold spec_l6Draw.f;exact LM
theorem spec_l6Draw.calls (k : Nat) (g : Nat) (ab : List Int) (ad : Int) (ac : Int) (r1 : Int) (r2 : Int) (r3 : Int) (r4 : List (S48)) (r5 : List Int) (r6 : Int) (r7 : Int) (w0 w : World) (hI : IsS108 w0 w g ab ad ac) (hB : Below w0.heap.size w0 w) (h : spec_l6Draw.f k ab ad ac = some (r1, r2, r3, r4, r5, r6, r7)) :
  Calls Try.prog 110 #[.pointer (some ⟨g, 0, none⟩)] w fun e w' => ∃ v3_ v4_ : Value, e = .returned (.tuple #[.agg #[.int .i64 r1, .int .i64 r2, .int .i64 r3, v3_], v4_]) ∧ Kd.R k48 48 w' w.heap.size (fun _ => True) v3_ r4 ∧ Kd.R (Kd.int .u8) 5 w' w.heap.size (fun _ => True) v4_ r5 ∧ IsS108 w0 w' g ab r6 r7 ∧ Below w0.heap.size w0 w' ∧ KeepBut w w' g none := by
 have hu28 := Try.underlying28;have HI0 := aM hI;have HK := aM (KeepBut.refl w g none);have HL := aM hB.size;clear hI;have HW0 := aM hB.size;have HB := aM hB;clear hB;have H := h;clear h;unfold spec_l6Draw.f at H;replace H := bE H;obtain ⟨⟨ah, ae, ag⟩, A2, H⟩ := H;dsimp only at H;replace H := bE H;obtain ⟨⟨ak, aj, af⟩, A3, H⟩ := H;dsimp only at H;replace H := bE H;obtain ⟨⟨ai, t603, t604⟩, A4, H⟩ := H;dsimp only at H;replace H := bE H;obtain ⟨⟨t605, t606, t607, t608⟩, A5, H⟩ := H;dsimp only at H;simp only [Option.some.injEq, Prod.mk.injEq] at H;obtain ⟨rfl, rfl, rfl, rfl, rfl, rfl, rfl⟩ := H;go_enter Try.func110, Try.ntmps110;go_wp2_with (first | ((with_reducible refine gate_dst (N := 2) rfl ?_); refine gBx 2 #[.int .i64 0, .int .i64 0, .int .i64 0, .slice none 0 0] 28 ?_; intro aa hg w6 hbox hb; have BK593 := aM (hbox); have GW593 := aM ((by rw [hg]; exact (keep_size (w := w) (g := g) (row := none) (TH HK)) : w.heap.size ≤ aa)); have GE593 := aM ((Nat.le_trans HW0.out (by rw [hg]; exact (keep_size (w := w) (g := g) (row := none) (TH HK)) : w.heap.size ≤ aa) : w0.heap.size ≤ aa)); have NB0_593 := aM ((by rw [hg]; exact Nat.ne_of_lt (IsS108.lt (show IsS108 w0 _ g ab ad ac from TI108 HI0)) : g ≠ aa)); have NB593_0 := aM ((by rw [hg]; exact Nat.ne_of_gt (IsS108.lt (show IsS108 w0 _ g ab ad ac from TI108 HI0)) : aa ≠ g)); replace HK := aM (KeepBut.trans (TH HK) (KeepBut.of_below hb g none) (.inl rfl)); replace HB := aM (below_step (TG108 HB HI0) hb); replace HI0 := aM (IsS108.below (TI108 HI0) hb); clear hb hbox hg) | ((with_reducible refine gate_callee (f := 59) rfl ?_); refine gL (some 6) Try.func59 #[.pointer (some ⟨g, 0, none⟩)] ?_; (with_reducible refine (spec_l6Image.calls k g ab ad ac ah ae ag w0 _ ?side1 ?side2 A2.out).mono ?_); (case side1 => exact TI108 HI0); (case side2 => exact TG108 HB HI0); rintro e w7 ⟨v595, rfl, ho0, hi, hb, hk⟩; refine ⟨_, rfl, ?_⟩; have HO596 := aM (Kd.R_lower ho0 (keep_size (w := w) (g := g) (row := none) (TH HK))); replace BK593 := aM (KeepBut.blk hk (g' := aa) (o := .cells #[.int .i64 0, .int .i64 0, .int .i64 0, .slice none 0 0] 28 (0, 0)) TK NB593_0.out (by simp)); replace HK := aM (KeepBut.trans (TH HK) hk (.inl rfl)); replace HB := aM (hb); replace HI0 := aM (hi); (try clear hb); (try clear hb2); (try clear hk); (try clear hi); (try clear ho0)) | ((with_reducible refine gate_callee (f := 60) rfl ?_); refine gL (some 8) Try.func60 #[.pointer (some ⟨g, 0, none⟩), .int .i64 5] ?_; (with_reducible refine (spec_l1Below.calls g ab ae ag 5 ak aj af w0 _ ?side1 ?side2 A3.out).mono ?_); (case side1 => exact TI108 HI0); (case side2 => exact TG108 HB HI0); rintro e w8 ⟨rfl, hi, hb, hk⟩; refine ⟨_, rfl, ?_⟩; replace BK593 := aM (KeepBut.blk hk (g' := aa) (o := .cells #[.int .i64 0, .int .i64 0, .int .i64 0, .slice none 0 0] 28 (0, 0)) TK NB593_0.out (by simp)); replace HO596 := aM (Kd.R_mono (Kd.R_keep (IsS108.apart (show IsS108 w0 _ g ab ae ag from TI108 HI0) (TRf HO596) (by decide)) hk (fun _ h => h.2)) (fun _ h => h.1)); replace HK := aM (KeepBut.trans (TH HK) hk (.inl rfl)); replace HB := aM (hb); replace HI0 := aM (hi); (try clear hb); (try clear hb2); (try clear hk); (try clear hi)) | ((with_reducible refine gate_callee (f := 60) rfl ?_); refine gL (some 12) Try.func60 #[.pointer (some ⟨g, 0, none⟩), .int .i64 5] ?_; (with_reducible refine (spec_l1Below.calls g ab aj af 5 ai t603 t604 w0 _ ?side1 ?side2 A4.out).mono ?_); (case side1 => exact TI108 HI0); (case side2 => exact TG108 HB HI0); rintro e w9 ⟨rfl, hi, hb, hk⟩; refine ⟨_, rfl, ?_⟩; replace BK593 := aM (KeepBut.blk hk (g' := aa) (o := .cells #[.int .i64 0, .int .i64 0, .int .i64 0, .slice none 0 0] 28 (0, 0)) TK NB593_0.out (by simp)); replace HO596 := aM (Kd.R_mono (Kd.R_keep (IsS108.apart (show IsS108 w0 _ g ab aj af from TI108 HI0) (TRf HO596) (by decide)) hk (fun _ h => h.2)) (fun _ h => h.1)); replace HK := aM (KeepBut.trans (TH HK) hk (.inl rfl)); replace HB := aM (hb); replace HI0 := aM (hi); (try clear hb); (try clear hb2); (try clear hk); (try clear hi); obtain ⟨Ao10, co10, eo10⟩ := Kd.R_slice HO596.out; subst eo10) | ((with_reducible refine gate_callee (f := 120) rfl ?_); refine gL (some 14) Try.func120 #[.int .i64 (wrap64 (1 + ak)), .slice Ao10 ah.length co10, .int .i64 (wrap64 (2 + ai))] ?_; (with_reducible refine (spec_ManOf.calls k (wrap64 (1 + ak)) _ _ ah (wrap64 (2 + ai)) t605 t606 t607 t608 _ ?side1 ?side2 A5.out).mono ?_); (case side1 => have X_ := (Kd.R_reads' HO596.out).2.2; exact TC); (case side2 => exact (Kd.R_reads' HO596.out).2.1); rintro e w11 ⟨v609, rfl, ho0, hb⟩; refine ⟨_, rfl, ?_⟩; have HO610 := aM (Kd.R_lower ho0 (keep_size (w := w) (g := g) (row := none) (TH HK))); replace HO596 := mR HO596 hb; replace BK593 := mB BK593 hb; replace HK := aM (KeepBut.trans (TH HK) (KeepBut.of_below hb g none) (.inl rfl)); replace HB := aM (below_step (TG108 HB HI0) hb); replace HI0 := aM (IsS108.below (TI108 HI0) hb); (try clear hb); (try clear hb2); (try clear hk); (try clear hi); (try clear ho0); obtain ⟨hnb12, hnc12⟩ := oB NB593_0; obtain ⟨hcz13_0, hcz13_1, hcz13_2, hcz13_3⟩ := cz4 BK593.out; obtain ⟨hfz13_0, hfz13_1, hfz13_2, hfz13_3⟩ := fz4 BK593.out; obtain ⟨Ao14, co14, eo14⟩ := Kd.R_slice HO610.out; subst eo14))
 refine bodyPost_ret (results_ct rfl _ _ aa 28 #[.int .i64 t605, .int .i64 t606, .int .i64 t607, .slice Ao14 t608.length co14] (0, 0) _ rfl (blk_put (blk_put (blk_put (blk_put (cs := #[.int .i64 0, .int .i64 0, .int .i64 0, .slice none 0 0]) (TZ BK593) 0 _ rfl) 1 _ rfl) 2 _ rfl) 3 _ rfl) Try.underlying28 rfl (by kernel_rfl)) rfl ?_;exact ⟨_, _, TE, by (with_reducible repeat (first | apply Kd.R_alloc | apply Kd.R_drewN | apply Kd.R_drew)); exact Kd.R_mono (RK1 (Kd.R_types HO610.out BK593.out (by decide))) (fun _ hk => trivial), by (with_reducible repeat (first | apply Kd.R_alloc | apply Kd.R_drewN | apply Kd.R_drew)); exact Kd.R_mono (RK1 (Kd.R_types HO596.out BK593.out (by decide))) (fun _ hk => trivial), TI108 HI0, TG108 HB HI0, TH HK⟩
def spec_l1Once.f (s0_0 : List Int) (s0_1 : Int) (s0_2 : Int) (a1 : Int) : Option (Bool × Int × Int) := (spec_l1Below.f s0_0 s0_1 s0_2 a1).bind fun bt611 => (some ((bt611.1 == 0), bt611.2.1, bt611.2.2))
theorem spec_l1Once.calls (g : Nat) (s0_0 : List Int) (s0_1 : Int) (s0_2 : Int) (a1 : Int) (r1 : Bool) (r2 : Int) (r3 : Int) (w0 w : World) (hI : IsS108 w0 w g s0_0 s0_1 s0_2) (hB : Below w0.heap.size w0 w) (h : spec_l1Once.f s0_0 s0_1 s0_2 a1 = some (r1, r2, r3)) :
    Calls Try.prog 75 #[.pointer (some ⟨g, 0, none⟩), .int .i64 a1] w fun e w' => e = .returned (.bool r1) ∧ IsS108 w0 w' g s0_0 r2 r3 ∧ Below w0.heap.size w0 w' ∧ KeepBut w w' g none := by
  have HI0 := aM hI
  have HK := aM (KeepBut.refl w g none)
  have HL := aM hB.size
  clear hI
  have HW0 := aM hB.size
  have HB := aM hB
  clear hB
  have H := h
  clear h
  unfold spec_l1Once.f at H
  replace H := bE H
  obtain ⟨⟨t611, t612, t613⟩, A3, H⟩ := H
  dsimp only at H
  simp only [Option.some.injEq, Prod.mk.injEq] at H
  obtain ⟨rfl, rfl, rfl⟩ := H
  go_enter Try.func75, Try.ntmps75
  go_wp2_with (first | ((with_reducible refine gate_callee (f := 60) rfl ?_); refine gL (some 7) Try.func60 #[.pointer (some ⟨g, 0, none⟩), .int .i64 a1] ?_; (with_reducible refine (spec_l1Below.calls g s0_0 s0_1 s0_2 a1 t611 t612 t613 w0 _ ?side1 ?side2 A3.out).mono ?_); (case side1 => exact TI108 HI0); (case side2 => exact TG108 HB HI0); rintro e w4 ⟨rfl, hi, hb, hk⟩; refine ⟨_, rfl, ?_⟩; replace HK := aM (KeepBut.trans (TH HK) hk (.inl rfl)); replace HB := aM (hb); replace HI0 := aM (hi); (try clear hb); (try clear hb2); (try clear hk); (try clear hi)))
  go_ret
  exact ⟨TE, TI108 HI0, TG108 HB HI0, TH HK⟩
def spec_l6Any.f (k : Nat) (s0_0 : List Int) (s0_1 : Int) (s0_2 : Int) : Option (Int × Int × Int × (List (S48)) × Int × Int) := (spec_l6Draw.f k s0_0 s0_1 s0_2).bind fun bt659 => ((spec_l1Below.f s0_0 bt659.2.2.2.2.2.1 bt659.2.2.2.2.2.2 10).bind fun bt671 => (if bt671.1 = 0 then ((spec_l1Int.f s0_0 bt671.2.1 bt671.2.2 (([0, (-1), 1000000, 1000001] : List Int))).bind fun bt677 => (some (bt677.1, bt659.2.1, bt659.2.2.1, bt659.2.2.2.1, bt677.2.1, bt677.2.2))) else (if bt671.1 = 1 then ((spec_l1Int.f s0_0 bt671.2.1 bt671.2.2 (([0, 1, 7] : List Int))).bind fun bt683 => (some (bt659.1, bt683.1, bt659.2.2.1, bt659.2.2.2.1, bt683.2.1, bt683.2.2))) else (if bt671.1 = 2 then (some (bt659.1, bt659.2.1, wrap64 (bt659.2.2.1 + 1), bt659.2.2.2.1, bt671.2.1, bt671.2.2)) else (if bt671.1 = 3 then (if bt659.2.2.2.1.length < 8796093022208 then (some (bt659.1, bt659.2.1, bt659.2.2.1, (bt659.2.2.2.1 ++ [(⟨1, 257⟩ : S48)]), bt671.2.1, bt671.2.2)) else (none)) else (if bt671.1 = 4 then (if (bt659.2.2.2.1.length : Int) > 0 then (if 0 < (bt659.2.2.2.1.length : Int) then (some (bt659.1, bt659.2.1, bt659.2.2.1, (bt659.2.2.2.1.set (0 : Int).toNat (⟨wrap64 (((rd_T48 bt659.2.2.2.1 0).f0) + 1), (rd_T48 bt659.2.2.2.1 0).f1⟩ : S48)), bt671.2.1, bt671.2.2)) else (none)) else (some (bt659.1, bt659.2.1, bt659.2.2.1, bt659.2.2.2.1, bt671.2.1, bt671.2.2))) else (some (bt659.1, bt659.2.1, bt659.2.2.1, bt659.2.2.2.1, bt671.2.1, bt671.2.2))))))))
theorem spec_l6Any.mono : ∀ a0 a1 a2 k, LeO (spec_l6Any.f k a0 a1 a2) (spec_l6Any.f (k + 1) a0 a1 a2) := by
  intro a0 a1 a2 k;have m0_ := @spec_l6Draw.mono;unfold spec_l6Any.f;exact LM
def spec_l6Any.T13 : Bool × List (List Nat × List Nat) := (true, [([], []), ([0], [0]), ([], []), ([2], [2]), ([3], [3]), ([4], [4]), ([5], [5]), ([6], [6]), ([1, 0, 1, 2, 3, 4, 5, 6, 7], [1]), ([8, 0, 1, 2, 3, 4, 5, 6, 7], [8]), ([9, 7, 0, 1, 2, 3, 4, 5, 6, 7], [7, 9])])
def spec_l6Any.B13 : List Nat := [0, 1, 0, 4, 12, 28, 60, 124, 255, 511, 1023]
theorem spec_l6Any.tab13 : rtab .any (opsOf Try.f99 13) = spec_l6Any.T13 := by kernel_rfl
theorem spec_l6Any.bits13 : waitsOk spec_l6Any.T13.2 spec_l6Any.B13 = true := by kernel_rfl
theorem spec_l6Any.calls (k : Nat) (g : Nat) (ah : List Int) (ay : Int) (aA : Int) (r1 : Int) (r2 : Int) (r3 : Int) (r4 : List (S48)) (r5 : Int) (r6 : Int) (w0 w : World) (hI : IsS108 w0 w g ah ay aA) (hB : Below w0.heap.size w0 w) (h : spec_l6Any.f k ah ay aA = some (r1, r2, r3, r4, r5, r6)) :
  Calls Try.prog 99 #[.pointer (some ⟨g, 0, none⟩)] w fun e w' => ∃ v3_ : Value, e = .returned (.agg #[.int .i64 r1, .int .i64 r2, .int .i64 r3, v3_]) ∧ Kd.R k48 48 w' w.heap.size (fun _ => True) v3_ r4 ∧ IsS108 w0 w' g ah r5 r6 ∧ Below w0.heap.size w0 w' ∧ KeepBut w w' g none := by
 have hu28 := Try.underlying28;have hu48 := Try.underlying48;have HI0 := aM hI;have HK := aM (KeepBut.refl w g none);have HL := aM hB.size;clear hI;have HW0 := aM hB.size;have HB := aM hB;clear hB;have H := h;clear h;unfold spec_l6Any.f at H;replace H := bE H;obtain ⟨⟨ak, al, aj, ad, aJ, aq, ar⟩, A2, H⟩ := H;dsimp only at H;replace H := bE H;obtain ⟨⟨af, ap, ao⟩, A3, H⟩ := H;dsimp only at H;go_enter Try.func99, Try.ntmps99;go_wp2_with (first | ((with_reducible refine gate_dst (N := 2) rfl ?_); refine gBx 2 #[.int .i64 0, .int .i64 0, .int .i64 0, .slice none 0 0] 28 ?_; intro ag hg w4 hbox hb; have aa := aM (hbox); have GW658 := aM ((by rw [hg]; exact (keep_size (w := w) (g := g) (row := none) (TH HK)) : w.heap.size ≤ ag)); have GE658 := aM ((Nat.le_trans HW0.out (by rw [hg]; exact (keep_size (w := w) (g := g) (row := none) (TH HK)) : w.heap.size ≤ ag) : w0.heap.size ≤ ag)); have NB0_658 := aM ((by rw [hg]; exact Nat.ne_of_lt (IsS108.lt (show IsS108 w0 _ g ah ay aA from TI108 HI0)) : g ≠ ag)); have NB658_0 := aM ((by rw [hg]; exact Nat.ne_of_gt (IsS108.lt (show IsS108 w0 _ g ah ay aA from TI108 HI0)) : ag ≠ g)); replace HK := aM (KeepBut.trans (TH HK) (KeepBut.of_below hb g none) (.inl rfl)); replace HB := aM (below_step (TG108 HB HI0) hb); replace HI0 := aM (IsS108.below (TI108 HI0) hb); clear hb hbox hg) | ((with_reducible refine gate_callee (f := 110) rfl ?_); refine gL (some 7) Try.func110 #[.pointer (some ⟨g, 0, none⟩)] ?_; (with_reducible refine (spec_l6Draw.calls k g ah ay aA ak al aj ad aJ aq ar w0 _ ?side1 ?side2 A2.out).mono ?_); (case side1 => exact TI108 HI0); (case side2 => exact TG108 HB HI0); rintro e w5 ⟨v663, v666, rfl, ho0, ho1, hi, hb, hk⟩; refine ⟨_, rfl, ?_⟩; have ac := aM (Kd.R_lower ho0 (keep_size (w := w) (g := g) (row := none) (TH HK))); have ae := aM (Kd.R_lower ho1 (keep_size (w := w) (g := g) (row := none) (TH HK))); replace aa := aM (KeepBut.blk hk (g' := ag) (o := .cells #[.int .i64 0, .int .i64 0, .int .i64 0, .slice none 0 0] 28 (0, 0)) TK NB658_0.out (by simp)); replace HK := aM (KeepBut.trans (TH HK) hk (.inl rfl)); replace HB := aM (hb); replace HI0 := aM (hi); (try clear hb); (try clear hb2); (try clear hk); (try clear hi); (try clear ho0); (try clear ho1)) | ((with_reducible refine gate_dst (N := 3) rfl ?_); refine gBx 3 #[.int .i64 0, .int .i64 0, .int .i64 0, .slice none 0 0] 28 ?_; intro gb670 hg w6 hbox hb; have ab := aM (hbox); have GW670 := aM ((by rw [hg]; exact (keep_size (w := w) (g := g) (row := none) (TH HK)) : w.heap.size ≤ gb670)); have GE670 := aM ((Nat.le_trans HW0.out (by rw [hg]; exact (keep_size (w := w) (g := g) (row := none) (TH HK)) : w.heap.size ≤ gb670) : w0.heap.size ≤ gb670)); obtain ⟨NB658_670, NB670_658⟩ := nB aa hg; have NB0_670 := aM ((by rw [hg]; exact Nat.ne_of_lt (IsS108.lt (show IsS108 w0 _ g ah aq ar from TI108 HI0)) : g ≠ gb670)); have NB670_0 := aM ((by rw [hg]; exact Nat.ne_of_gt (IsS108.lt (show IsS108 w0 _ g ah aq ar from TI108 HI0)) : gb670 ≠ g)); replace ac := mR ac hb; replace ae := mR ae hb; replace aa := mB aa hb; replace HK := aM (KeepBut.trans (TH HK) (KeepBut.of_below hb g none) (.inl rfl)); replace HB := aM (below_step (TG108 HB HI0) hb); replace HI0 := aM (IsS108.below (TI108 HI0) hb); clear hb hbox hg; obtain ⟨hnb7, hnc7⟩ := oB NB670_658; obtain ⟨hnb8, hnc8⟩ := oB NB670_0; obtain ⟨hcz9_0, hcz9_1, hcz9_2, hcz9_3⟩ := cz4 ab.out; obtain ⟨hfz9_0, hfz9_1, hfz9_2, hfz9_3⟩ := fz4 ab.out; obtain ⟨Ao10, co10, eo10⟩ := Kd.R_slice ac.out; subst eo10) | ((with_reducible refine gate_callee (f := 60) rfl ?_); refine gL (some 11) Try.func60 #[.pointer (some ⟨g, 0, none⟩), .int .i64 10] ?_; (with_reducible refine (spec_l1Below.calls g ah aq ar 10 af ap ao w0 _ ?side1 ?side2 A3.out).mono ?_); (case side1 => exact TI108 HI0); (case side2 => exact TG108 HB HI0); rintro e w11 ⟨rfl, hi, hb, hk⟩; refine ⟨_, rfl, ?_⟩; replace aa := aM (KeepBut.blk hk (g' := ag) (o := .cells #[.int .i64 0, .int .i64 0, .int .i64 0, .slice none 0 0] 28 (0, 0)) (TZ aa) NB658_0.out (by simp)); replace ac := aM (Kd.R_mono (Kd.R_keep (IsS108.apart (show IsS108 w0 _ g ah aq ar from TI108 HI0) (TY ac ab) (by decide)) hk (fun _ h => h.2)) (fun _ h => h.1)); replace ae := aM (Kd.R_mono (Kd.R_keep (IsS108.apart (show IsS108 w0 _ g ah aq ar from TI108 HI0) (TY ae ab) (by decide)) hk (fun _ h => h.2)) (fun _ h => h.1)); replace ab := aM (KeepBut.blk hk (g' := gb670) (o := .cells #[.int .i64 ak, .int .i64 al, .int .i64 aj, .slice Ao10 ad.length co10] 28 (0, 0)) (blk_put (blk_put (blk_put (blk_put (cs := #[.int .i64 0, .int .i64 0, .int .i64 0, .slice none 0 0]) (TZ ab) 0 _ rfl) 1 _ rfl) 2 _ rfl) 3 _ rfl) NB670_0.out (by simp)); replace HK := aM (KeepBut.trans (TH HK) hk (.inl rfl)); replace HB := aM (hb); replace HI0 := aM (hi); (try clear hb); (try clear hb2); (try clear hk); (try clear hi)) | ((with_reducible refine gate_dst (N := 13) rfl ?_); generalize hG_ : wpList _ _ _ _ _ _ = G_))
 subst hG_
 by_cases c12 : af = 0
 ·rw [if_pos c12] at H;have c12b0 : (af == 0) = true := beq_iff_eq.mpr c12;have c12b1 : (af != 0) = false := bne_eq_false_iff_eq.mpr c12;clear c12;obtain ⟨y674, aC⟩ : ∃ y_ : List Int, y_ = (([0, (-1), 1000000, 1000001] : List Int)) := ⟨_, rfl⟩;rw [← aC] at H;have aV := aM aC;clear aC;replace H := bE H;obtain ⟨⟨t677, t678, t679⟩, A13, H⟩ := H;dsimp only at H;simp only [Option.some.injEq, Prod.mk.injEq] at H;obtain ⟨rfl, rfl, rfl, rfl, rfl, rfl⟩ := H;go_wp2_with (first | ((with_reducible refine gate_dst (N := 15) rfl ?_); refine Kd.R_lit (Kd.int .i64) _ 3 ?hg (N := 15) ?hd (xs := ([0, (-1), 1000000, 1000001] : List Int)) (inner := [.int .i64 0, .int .i64 (-1), .int .i64 1000000, .int .i64 1000001]) (ok := fun _ => True) (okp := fun _ => True) ?hr ?hp (fun _ hk => hk) trivial (Below.refl _ _) (Nat.le_refl _) (by simp) ?_; (case hd => rfl); (case hg => rfl); (case hr => first | (go_simp; done) | (go_simp; rfl)); (case hp => exact (Reps.one (show Kd.M (Kd.int .i64) _ _ _ 0 [.int .i64 0] from rfl) (Reps.one (show Kd.M (Kd.int .i64) _ _ _ (-1) [.int .i64 (-1)] from rfl) (Reps.one (show Kd.M (Kd.int .i64) _ _ _ 1000000 [.int .i64 1000000] from rfl) (Reps.one (show Kd.M (Kd.int .i64) _ _ _ 1000001 [.int .i64 1000001] from rfl) (Reps.none _ _)))))); intro v675 w14 av hb hg_ hnew_; clear hg_ hnew_; (first | rw [← aV.out] at av | (simp only [Int.reduceToNat] at av; rw [← aV.out] at av)); have HO676 := aM (Kd.R_lower av (keep_size (w := w) (g := g) (row := none) (TH HK))); replace ac := mR ac hb; replace ae := mR ae hb; replace aa := mB aa hb; replace ab := mB ab hb; replace HK := aM (KeepBut.trans (TH HK) (KeepBut.of_below hb g none) (.inl rfl)); replace HB := aM (below_step (TG108 HB HI0) hb); replace HI0 := aM (IsS108.below (TI108 HI0) hb); clear hb av; obtain ⟨Ao16, co16, eo16⟩ := Kd.R_slice HO676.out; subst eo16) | ((with_reducible refine gate_callee (f := 74) rfl ?_); refine gL (some 16) Try.func74 #[.pointer (some ⟨g, 0, none⟩), .slice Ao16 y674.length co16] ?_; (with_reducible refine (spec_l1Int.calls g ah ap ao _ _ y674 t677 t678 t679 w0 _ ?side1 ?side2 ?side3 ?side4 ?side5 A13.out).mono ?_); (case side1 => exact TI108 HI0); (case side2 => exact TG108 HB HI0); (case side3 => have X_ := (Kd.R_reads' HO676.out).2.2; exact TC); (case side4 => exact (Kd.R_reads' HO676.out).2.1); (case side5 => exact far_slice (IsS108.own_ne HI0.out HO676.out (by decide))); rintro e w17 ⟨rfl, hi, hb, hk⟩; refine ⟨_, rfl, ?_⟩; replace aa := aM (KeepBut.blk hk (g' := ag) (o := .cells #[.int .i64 0, .int .i64 0, .int .i64 0, .slice none 0 0] 28 (0, 0)) TK NB658_0.out (by simp)); replace ac := aM (Kd.R_mono (Kd.R_keep (IsS108.apart (show IsS108 w0 _ g ah ap ao from TI108 HI0) (TRf ac) (by decide)) hk (fun _ h => h.2)) (fun _ h => h.1)); replace ae := aM (Kd.R_mono (Kd.R_keep (IsS108.apart (show IsS108 w0 _ g ah ap ao from TI108 HI0) (TRf ae) (by decide)) hk (fun _ h => h.2)) (fun _ h => h.1)); replace ab := aM (KeepBut.blk hk (g' := gb670) (o := .cells #[.int .i64 ak, .int .i64 al, .int .i64 aj, .slice Ao10 ad.length co10] 28 (0, 0)) TK NB670_0.out (by simp)); replace HO676 := aM (Kd.R_mono (Kd.R_keep (IsS108.apart (show IsS108 w0 _ g ah ap ao from TI108 HI0) (TRf HO676) (by decide)) hk (fun _ h => h.2)) (fun _ h => h.1)); replace HK := aM (KeepBut.trans (TH HK) hk (.inl rfl)); replace HB := aM (hb); replace HI0 := aM (hi); (try clear hb); (try clear hb2); (try clear hk); (try clear hi); obtain ⟨hnb18, hnc18⟩ := oB NB670_658; obtain ⟨hnb19, hnc19⟩ := oB NB670_0; obtain ⟨hcz20_0, hcz20_1, hcz20_2, hcz20_3⟩ := cz4 ab.out; obtain ⟨hfz20_0, hfz20_1, hfz20_2, hfz20_3⟩ := fz4 ab.out; obtain ⟨hnb21, hnc21⟩ := oB NB658_0; obtain ⟨hcz22_0, hcz22_1, hcz22_2, hcz22_3⟩ := cz4 aa.out; obtain ⟨hfz22_0, hfz22_1, hfz22_2, hfz22_3⟩ := fz4 aa.out))
  refine bodyPost_ret (results_cell_row rfl _ _ ag 28 #[.int .i64 t677, .int .i64 al, .int .i64 aj, .slice Ao10 ad.length co10] (0, 0) _ rfl (blk_put (blk_put (blk_put (blk_put (cs := #[.int .i64 0, .int .i64 0, .int .i64 0, .slice none 0 0]) (TZ aa) 0 _ rfl) 1 _ rfl) 2 _ rfl) 3 _ rfl) Try.underlying28 rfl (by kernel_rfl)) rfl ?_;exact ⟨_, TE, by (with_reducible repeat (first | apply Kd.R_alloc | apply Kd.R_drewN | apply Kd.R_drew)); exact Kd.R_mono (RK2 (Kd.R_types (Kd.R_types ac.out ab.out (by decide)) aa.out (by decide))) (fun _ hk => trivial), TI108 HI0, TG108 HB HI0, TH HK⟩
 ·rw [if_neg c12] at H;have c12b0 : (af == 0) = false := beq_eq_false_iff_ne.mpr c12;have c12b1 : (af != 0) = true := bne_iff_ne.mpr c12
  by_cases c23 : af = 1
  ·rw [if_pos c23] at H;have c23b0 : (af == 1) = true := beq_iff_eq.mpr c23;have c23b1 : (af != 1) = false := bne_eq_false_iff_eq.mpr c23;clear c23;obtain ⟨y680, aE⟩ : ∃ y_ : List Int, y_ = (([0, 1, 7] : List Int)) := ⟨_, rfl⟩;rw [← aE] at H;have aT := aM aE;clear aE;replace H := bE H;obtain ⟨⟨t683, t684, t685⟩, A24, H⟩ := H;dsimp only at H;simp only [Option.some.injEq, Prod.mk.injEq] at H;obtain ⟨rfl, rfl, rfl, rfl, rfl, rfl⟩ := H;go_wp2_with (first | ((with_reducible refine gate_dst (N := 21) rfl ?_); refine Kd.R_lit (Kd.int .i64) _ 3 ?hg (N := 21) ?hd (xs := ([0, 1, 7] : List Int)) (inner := [.int .i64 0, .int .i64 1, .int .i64 7]) (ok := fun _ => True) (okp := fun _ => True) ?hr ?hp (fun _ hk => hk) trivial (Below.refl _ _) (Nat.le_refl _) (by simp) ?_; (case hd => rfl); (case hg => rfl); (case hr => first | (go_simp; done) | (go_simp; rfl)); (case hp => exact (Reps.one (show Kd.M (Kd.int .i64) _ _ _ 0 [.int .i64 0] from rfl) (Reps.one (show Kd.M (Kd.int .i64) _ _ _ 1 [.int .i64 1] from rfl) (Reps.one (show Kd.M (Kd.int .i64) _ _ _ 7 [.int .i64 7] from rfl) (Reps.none _ _))))); intro v681 w25 az hb hg_ hnew_; clear hg_ hnew_; (first | rw [← aT.out] at az | (simp only [Int.reduceToNat] at az; rw [← aT.out] at az)); have HO682 := aM (Kd.R_lower az (keep_size (w := w) (g := g) (row := none) (TH HK))); replace ac := mR ac hb; replace ae := mR ae hb; replace aa := mB aa hb; replace ab := mB ab hb; replace HK := aM (KeepBut.trans (TH HK) (KeepBut.of_below hb g none) (.inl rfl)); replace HB := aM (below_step (TG108 HB HI0) hb); replace HI0 := aM (IsS108.below (TI108 HI0) hb); clear hb az; obtain ⟨Ao27, co27, eo27⟩ := Kd.R_slice HO682.out; subst eo27) | ((with_reducible refine gate_callee (f := 74) rfl ?_); refine gL (some 22) Try.func74 #[.pointer (some ⟨g, 0, none⟩), .slice Ao27 y680.length co27] ?_; (with_reducible refine (spec_l1Int.calls g ah ap ao _ _ y680 t683 t684 t685 w0 _ ?side1 ?side2 ?side3 ?side4 ?side5 A24.out).mono ?_); (case side1 => exact TI108 HI0); (case side2 => exact TG108 HB HI0); (case side3 => have X_ := (Kd.R_reads' HO682.out).2.2; exact TC); (case side4 => exact (Kd.R_reads' HO682.out).2.1); (case side5 => exact far_slice (IsS108.own_ne HI0.out HO682.out (by decide))); rintro e w28 ⟨rfl, hi, hb, hk⟩; refine ⟨_, rfl, ?_⟩; replace aa := aM (KeepBut.blk hk (g' := ag) (o := .cells #[.int .i64 0, .int .i64 0, .int .i64 0, .slice none 0 0] 28 (0, 0)) TK NB658_0.out (by simp)); replace ac := aM (Kd.R_mono (Kd.R_keep (IsS108.apart (show IsS108 w0 _ g ah ap ao from TI108 HI0) (TRf ac) (by decide)) hk (fun _ h => h.2)) (fun _ h => h.1)); replace ae := aM (Kd.R_mono (Kd.R_keep (IsS108.apart (show IsS108 w0 _ g ah ap ao from TI108 HI0) (TRf ae) (by decide)) hk (fun _ h => h.2)) (fun _ h => h.1)); replace ab := aM (KeepBut.blk hk (g' := gb670) (o := .cells #[.int .i64 ak, .int .i64 al, .int .i64 aj, .slice Ao10 ad.length co10] 28 (0, 0)) TK NB670_0.out (by simp)); replace HO682 := aM (Kd.R_mono (Kd.R_keep (IsS108.apart (show IsS108 w0 _ g ah ap ao from TI108 HI0) (TRf HO682) (by decide)) hk (fun _ h => h.2)) (fun _ h => h.1)); replace HK := aM (KeepBut.trans (TH HK) hk (.inl rfl)); replace HB := aM (hb); replace HI0 := aM (hi); (try clear hb); (try clear hb2); (try clear hk); (try clear hi); obtain ⟨hnb29, hnc29⟩ := oB NB670_658; obtain ⟨hnb30, hnc30⟩ := oB NB670_0; obtain ⟨hcz31_0, hcz31_1, hcz31_2, hcz31_3⟩ := cz4 ab.out; obtain ⟨hfz31_0, hfz31_1, hfz31_2, hfz31_3⟩ := fz4 ab.out; obtain ⟨hnb32, hnc32⟩ := oB NB658_0; obtain ⟨hcz33_0, hcz33_1, hcz33_2, hcz33_3⟩ := cz4 aa.out; obtain ⟨hfz33_0, hfz33_1, hfz33_2, hfz33_3⟩ := fz4 aa.out))
   refine bodyPost_ret (results_cell_row rfl _ _ ag 28 #[.int .i64 ak, .int .i64 t683, .int .i64 aj, .slice Ao10 ad.length co10] (0, 0) _ rfl (blk_put (blk_put (blk_put (blk_put (cs := #[.int .i64 0, .int .i64 0, .int .i64 0, .slice none 0 0]) (TZ aa) 0 _ rfl) 1 _ rfl) 2 _ rfl) 3 _ rfl) Try.underlying28 rfl (by kernel_rfl)) rfl ?_;exact ⟨_, TE, by (with_reducible repeat (first | apply Kd.R_alloc | apply Kd.R_drewN | apply Kd.R_drew)); exact Kd.R_mono (RK2 (Kd.R_types (Kd.R_types ac.out ab.out (by decide)) aa.out (by decide))) (fun _ hk => trivial), TI108 HI0, TG108 HB HI0, TH HK⟩
  ·rw [if_neg c23] at H;have c23b0 : (af == 1) = false := beq_eq_false_iff_ne.mpr c23;have c23b1 : (af != 1) = true := bne_iff_ne.mpr c23
   by_cases c34 : af = 2
   ·rw [if_pos c34] at H;have c34b0 : (af == 2) = true := beq_iff_eq.mpr c34;have c34b1 : (af != 2) = false := bne_eq_false_iff_eq.mpr c34;clear c34;simp only [Option.some.injEq, Prod.mk.injEq] at H;obtain ⟨rfl, rfl, rfl, rfl, rfl, rfl⟩ := H;obtain ⟨hnb35, hnc35⟩ := oB NB670_658;obtain ⟨hnb36, hnc36⟩ := oB NB670_0;obtain ⟨hcz37_0, hcz37_1, hcz37_2, hcz37_3⟩ := cz4 ab.out;obtain ⟨hfz37_0, hfz37_1, hfz37_2, hfz37_3⟩ := fz4 ab.out;obtain ⟨hnb38, hnc38⟩ := oB NB658_0;obtain ⟨hcz39_0, hcz39_1, hcz39_2, hcz39_3⟩ := cz4 aa.out;obtain ⟨hfz39_0, hfz39_1, hfz39_2, hfz39_3⟩ := fz4 aa.out;go_wp2
    refine bodyPost_ret (results_cell_row rfl _ _ ag 28 #[.int .i64 ak, .int .i64 al, .int .i64 (wrap64 (aj + 1)), .slice Ao10 ad.length co10] (0, 0) _ rfl (blk_put (blk_put (blk_put (blk_put (cs := #[.int .i64 0, .int .i64 0, .int .i64 0, .slice none 0 0]) (TZ aa) 0 _ rfl) 1 _ rfl) 2 _ rfl) 3 _ rfl) Try.underlying28 rfl (by kernel_rfl)) rfl ?_;exact ⟨_, TE, by (with_reducible repeat (first | apply Kd.R_alloc | apply Kd.R_drewN | apply Kd.R_drew)); exact Kd.R_mono (RK2 (Kd.R_types (Kd.R_types ac.out ab.out (by decide)) aa.out (by decide))) (fun _ hk => trivial), TI108 HI0, TG108 HB HI0, TH HK⟩
   ·rw [if_neg c34] at H;have c34b0 : (af == 2) = false := beq_eq_false_iff_ne.mpr c34;have c34b1 : (af != 2) = true := bne_iff_ne.mpr c34
    by_cases c40 : af = 3
    ·rw [if_pos c40] at H;have c40b0 : (af == 3) = true := beq_iff_eq.mpr c40;have c40b1 : (af != 3) = false := bne_eq_false_iff_eq.mpr c40;clear c40;replace H := ifN H;obtain ⟨c41, H⟩ := H;have LMc41 := aM c41;clear c41;obtain ⟨y686, aG⟩ : ∃ y_ : List (S48), y_ = (ad ++ [(⟨1, 257⟩ : S48)]) := ⟨_, rfl⟩;rw [← aG] at H;have Ny686 := aM aG;clear aG;simp only [Option.some.injEq, Prod.mk.injEq] at H;obtain ⟨rfl, rfl, rfl, rfl, rfl, rfl⟩ := H;obtain ⟨hnb42, hnc42⟩ := oB NB670_658;obtain ⟨hnb43, hnc43⟩ := oB NB670_0;obtain ⟨hcz44_0, hcz44_1, hcz44_2, hcz44_3⟩ := cz4 ab.out;obtain ⟨hfz44_0, hfz44_1, hfz44_2, hfz44_3⟩ := fz4 ab.out;go_wp2_with (first | ((with_reducible refine gate_builtin (b := .append) (xs := #[.tmp 33, .tmp 35]) rfl ?_); at_builtin; refine Kd.R_append k48 w.heap.size rfl (.tmp 33) (.tmp 35) 26 48 (.agg #[(.int .i64 0), (.int .i64 0)]) 16 rfl Try.underlying26 info48 rfl (by decide) (by omega) (.slice Ao10 ad.length co10) ad (⟨1, 257⟩ : S48) [.int .i64 1, .int .i64 257] (fun _ => True) (fun _ => False) rfl rfl ?aP (fun _ hk => hk.elim) ?aF ?aO (Below.refl _ _) ?aS ?aL ?_; (case aP => exact k48_mkM _ _ _ (⟨1, 257⟩ : S48)); (case aF => exact (fun _ _ => trivial)); (case aO => exact (TRf ac)); (case aS => exact (keep_size (w := w) (g := g) (row := none) (TH HK))); (case aL => have := LMc41.out; omega); intro v687 w45 ho hb hg hat; rw [← Ny686.out] at ho; have HO688 := aM (ho); replace aa := aM (blk_grown (g := ag) (o := .cells #[.int .i64 0, .int .i64 0, .int .i64 0, .slice none 0 0] 28 (0, 0)) TK hg (Kd.R_ne ac.out aa.out (by decide))); replace ae := aM (Kd.R_over' (TRf ae) (Kd.R_typed (TRf ac)) (by decide) hg); replace ab := aM (blk_grown (g := gb670) (o := .cells #[.int .i64 ak, .int .i64 al, .int .i64 aj, .slice Ao10 ad.length co10] 28 (0, 0)) TK hg (Kd.R_ne ac.out ab.out (by decide))); replace HB := aM (below_weaken (TG108 HB HI0) HL.out hb); replace HI0 := aM (IsS108.grown (TI108 HI0) hg (IsS108.own_ne HI0.out ac.out (by decide))); replace HK := aM (KeepBut.trans (TH HK) (KeepBut.of_grown hg g) (Kd.R_base2 ac.out)); clear ac; clear ho hb hg hat; obtain ⟨Ao46, co46, eo46⟩ := Kd.R_slice HO688.out; subst eo46; obtain ⟨hcz47_0, hcz47_1, hcz47_2, hcz47_3⟩ := cz4 ab.out; obtain ⟨hfz47_0, hfz47_1, hfz47_2, hfz47_3⟩ := fz4 ab.out; obtain ⟨hnb48, hnc48⟩ := oB NB658_0; obtain ⟨hcz49_0, hcz49_1, hcz49_2, hcz49_3⟩ := cz4 aa.out; obtain ⟨hfz49_0, hfz49_1, hfz49_2, hfz49_3⟩ := fz4 aa.out))
     refine bodyPost_ret (results_cell_row rfl _ _ ag 28 #[.int .i64 ak, .int .i64 al, .int .i64 aj, .slice Ao46 y686.length co46] (0, 0) _ rfl (blk_put (blk_put (blk_put (blk_put (cs := #[.int .i64 0, .int .i64 0, .int .i64 0, .slice none 0 0]) (TZ aa) 0 _ rfl) 1 _ rfl) 2 _ rfl) 3 _ rfl) Try.underlying28 rfl (by kernel_rfl)) rfl ?_;exact ⟨_, TE, by (with_reducible repeat (first | apply Kd.R_alloc | apply Kd.R_drewN | apply Kd.R_drew)); exact Kd.R_mono (RK2 (Kd.R_types (Kd.R_types HO688.out ab.out (by decide)) aa.out (by decide))) (fun _ hk => trivial), TI108 HI0, TG108 HB HI0, TH HK⟩
    ·rw [if_neg c40] at H;have c40b0 : (af == 3) = false := beq_eq_false_iff_ne.mpr c40;have c40b1 : (af != 3) = true := bne_iff_ne.mpr c40
     by_cases c50 : af = 4
     ·rw [if_pos c50] at H;have c50b0 : (af == 4) = true := beq_iff_eq.mpr c50;have c50b1 : (af != 4) = false := bne_eq_false_iff_eq.mpr c50;clear c50
      by_cases c51 : (ad.length : Int) > 0
      ·rw [if_pos c51] at H;have c51b0 : decide (0 < (ad.length : Int)) = true := decide_eq_true c51;have c51b1 : decide (0 < ad.length) = true := decide_eq_true (by omega);clear c51;replace H := ifN H;obtain ⟨c52, H⟩ := H;have c52b0 : decide (0 < (ad.length : Int)) = true := decide_eq_true c52;have c52b1 : decide (0 < ad.length) = true := decide_eq_true (by omega);clear c52;obtain ⟨y690, aD⟩ : ∃ y_ : List (S48), y_ = (ad.set (0 : Int).toNat (⟨wrap64 (((rd_T48 ad 0).f0) + 1), (rd_T48 ad 0).f1⟩ : S48)) := ⟨_, rfl⟩;rw [← aD] at H;have Ny690 := aM aD;clear aD;simp only [Option.some.injEq, Prod.mk.injEq] at H;obtain ⟨rfl, rfl, rfl, rfl, rfl, rfl⟩ := H;obtain ⟨hnb54, hnc54⟩ := oB NB670_658;obtain ⟨hnb55, hnc55⟩ := oB NB670_0;obtain ⟨hcz56_0, hcz56_1, hcz56_2, hcz56_3⟩ := cz4 ab.out;obtain ⟨hfz56_0, hfz56_1, hfz56_2, hfz56_3⟩ := fz4 ab.out;try go_wp2
       (try (rw [drewN_self w11]; generalize hq_ : World.drewN w11 _ = w11; have n0_ : Aside0 (Kd.R k48 48 w11 w.heap.size (fun _ => True) (.slice Ao10 ad.length co10) ad) := ⟨by rw [← hq_]; exact (TRf ac)⟩; have n1_ : Aside0 (Kd.R (Kd.int .u8) 5 w11 w.heap.size (fun _ => True) v666 aJ) := ⟨by rw [← hq_]; exact (TRf ae)⟩; have n2_ : Aside0 (w11.heap[ag]? = some (.cells #[.int .i64 0, .int .i64 0, .int .i64 0, .slice none 0 0] 28 (0, 0))) := ⟨by rw [← hq_]; exact TK⟩; have n3_ : Aside0 (w11.heap[gb670]? = some (.cells #[.int .i64 ak, .int .i64 al, .int .i64 aj, .slice Ao10 ad.length co10] 28 (0, 0))) := ⟨by rw [← hq_]; exact TK⟩; have n4_ : Aside0 (IsS108 w0 w11 g ah ap ao) := ⟨by rw [← hq_]; exact (TI108 HI0)⟩; have n5_ : Aside0 (KeepBut w w11 g none) := ⟨by rw [← hq_]; exact (TH HK)⟩; have n6_ : Aside0 (Below w0.heap.size w0 w11) := ⟨by rw [← hq_]; exact (TG108 HB HI0)⟩; clear ac ae aa ab HI0 HK HB hq_; have ac := n0_; have ae := n1_; have aa := n2_; have ab := n3_; have HI0 := n4_; have HK := n5_; have HB := n6_; clear n0_ n1_ n2_ n3_ n4_ n5_ n6_));replace ac := rD ac;replace ae := rD ae;replace aa := bD aa;replace ab := bD ab;replace HI0 := aM (IsS108.drew HI0.out);replace HK := aM (keep_drew HK.out);replace HB := aM (below_drew1 HB.out);have aK : 0 ≤ (0 : Int) := (by omega);have aQ : 0 < (ad.length : Int) := DT;obtain ⟨ad689, e689, am, an⟩ := at_T48 (Kd.R_reads' ac.out).2.2 0 aK aQ;cases e689;have qi689 : (0 < ad.length) = True := eq_true (by omega);(try rw [show ((0 : Int)).toNat = 0 from rfl] at am);(try rw [show 0 * 2 = 0 from rfl] at am);(try rw [Addr.add_zero'] at am);(try rw [show ((0 : Int)).toNat = 0 from rfl] at an);(try rw [show 0 * 2 = 0 from rfl] at an);(try rw [Addr.add_zero'] at an);replace aK := eq_true aK;replace aQ := eq_true aQ;have p53 : 0 ≤ (0 : Int) := (by omega);have q53 : (0 : Int) < ((ad.length : Int) : Int) := DT;have qi53 : (0 < ad.length) = True := eq_true (by omega);obtain ⟨ai, co53, eo53, gb53, gl53, cl53, HG53⟩ := Kd.R_form ac.out (by omega);(first | cases eo53 | (injection eo53 with ea_ en_ ec_; (first | subst ea_ | (injection ea_ with ea_; subst ea_)); subst ec_; clear en_));have GB53 := aM gb53;have GG53 := aM HG53;clear gb53 gl53 HG53;(first | simp only [add_plain] at am | skip);(first | simp only [add_plain] at an | skip);obtain ⟨ce53, hcl53, hM53, aH, aI⟩ := Kd.R_elem ac.out z48 (0 : Int) p53 q53;obtain rfl := k48_openM hM53;have au : World.cell? _ ⟨ai, (0 : Int).toNat * 2, none⟩ = some (.int .i64 ((rd_T48 ad 0).f0)) := aH 0 _ rfl;have aB : World.cell? _ ⟨ai, (0 : Int).toNat * 2 + 1, none⟩ = some (.int .i64 ((rd_T48 ad 0).f1)) := aH 1 _ rfl;have ax : World.frozen? _ ⟨ai, (0 : Int).toNat * 2, none⟩ = false := aI 0;have aw : World.frozen? _ ⟨ai, (0 : Int).toNat * 2 + 1, none⟩ = false := aI 1;clear hcl53 aH aI hM53;(try rw [show ((0 : Int)).toNat = 0 from rfl] at au);(try simp only [Nat.reduceMul, Nat.zero_mul, Nat.zero_add, Nat.reduceAdd] at au);(try rw [show ((0 : Int)).toNat = 0 from rfl] at ax);(try simp only [Nat.reduceMul, Nat.zero_mul, Nat.zero_add, Nat.reduceAdd] at ax);(try rw [show ((0 : Int)).toNat = 0 from rfl] at aB);(try simp only [Nat.reduceMul, Nat.zero_mul, Nat.zero_add, Nat.reduceAdd] at aB);(try rw [show ((0 : Int)).toNat = 0 from rfl] at aw);(try simp only [Nat.reduceMul, Nat.zero_mul, Nat.zero_add, Nat.reduceAdd] at aw);replace p53 := eq_true p53;replace q53 := eq_true q53;have HN0_go53 := aM (show g ≠ ai from by have h_ := IsS108.own_ne HI0.out ac.out (by decide); intro e_; exact h_ (by rw [e_]; rfl));obtain ⟨ce58, aR, hM58, aU, hfr58⟩ := Kd.R_elem ac.out z48 (0 : Int) (by omega) (by have h_ : (0 : Int) < ((ad.length : Int) : Int) := DT; first | exact h_ | (have e_ := (Kd.R_reads' ac.out).1; omega) | simpa using h_);obtain rfl := k48_openM hM58;have aN := (Kd.R_seg ac.out (0 : Int) (by omega) (by have h_ : (0 : Int) < ((ad.length : Int) : Int) := DT; first | exact h_ | (have e_ := (Kd.R_reads' ac.out).1; omega) | simpa using h_) (seg := [.int .i64 (wrap64 (((rd_T48 ad 0).f0) + 1))]) (j := 0) aR aU (show 1 ≤ 2 from by decide) (x' := (⟨wrap64 (((rd_T48 ad 0).f0) + 1), (rd_T48 ad 0).f1⟩ : S48)) (k48_mkM _ _ _ (⟨wrap64 (((rd_T48 ad 0).f0) + 1), (rd_T48 ad 0).f1⟩ : S48) ) (fun _ hk => hk)).1;rw [← Ny690.out] at aN;have HQ58 := aM aN;clear aR aU hfr58 hM58 aN;refine start_ (n := 11) (S := fun w' => w'.cell? ⟨gb670, 0, none⟩ = some (.int .i64 ak) ∧ w'.cell? ⟨gb670, 1, none⟩ = some (.int .i64 al) ∧ w'.cell? ⟨gb670, 2, none⟩ = some (.int .i64 aj) ∧ w'.cell? ⟨gb670, 3, none⟩ = some (.slice (some ⟨ai, 0, none⟩) ad.length co10) ∧ w'.cell? ⟨ai, 0, none⟩ = some (.int .i64 ((rd_T48 ad 0).f0)) ∧ w'.cell? ⟨ai, 1, none⟩ = some (.int .i64 ((rd_T48 ad 0).f1))) (ds := [10]) (Array.replicate 11 false) (by kernel_rfl) rfl rfl ⟨bC ab 0, bC ab 1, bC ab 2, bC ab 3, am, an⟩ (fun hHeld => ?_); refine with_tabW spec_l6Any.tab13 spec_l6Any.bits13 (fun HT_ HW_ => ?_);generalize w11.drew = w57 at ac ae aa ab HI0 HK HB GG53 HQ58 ax aw au aB am an hHeld ⊢;refine pP 0 (some 44) ?_;refine pP 2 (some 46) ?_;refine pT 1 (some 45) ?_;refine pT 3 (some 47) ?_;refine pP 4 (some 48) ?_;refine pP 5 (some 49) ?_;refine pT 6 (some 50) ?_;refine pP 7 (some 51) ?_;refine pP 8 (some 52) ?_;refine pP 9 (some 53) ?_;refine pL 10 none (fun K hK => ?_);refine skip_ (w1 := ?_) (by rfl) rfl ?_ ?_;rotate_left
       ·go_simp;rfl
       refine hK.out _ _ ?_;clear hK K;refine done_ (done_of HT_.out (by kernel_rfl)) ?_;have n0_ : Aside0 (Kd.R k48 48 (w57.setCell ⟨ai, 0, none⟩ (.int .i64 (wrap64 (((rd_T48 ad 0).f0) + 1)))) w.heap.size (fun _ => True) (.slice (some ⟨ai, 0, none⟩) ad.length co10) y690) := ⟨by have X_ := HQ58.out; exact TR⟩;have n1_ : Aside0 (Kd.R (Kd.int .u8) 5 (w57.setCell ⟨ai, 0, none⟩ (.int .i64 (wrap64 (((rd_T48 ad 0).f0) + 1)))) w.heap.size (fun _ => True) v666 aJ) := ⟨by (with_reducible repeat (first | apply Kd.R_alloc | apply Kd.R_drewN | apply Kd.R_drew)); exact Kd.R_mono (RK1 (Kd.R_types ae.out GG53.out (by decide))) (fun _ hk => trivial)⟩;have n2_ : Aside0 ((w57.setCell ⟨ai, 0, none⟩ (.int .i64 (wrap64 (((rd_T48 ad 0).f0) + 1)))).heap[ag]? = some (.cells #[.int .i64 0, .int .i64 0, .int .i64 0, .slice none 0 0] 28 (0, 0))) := ⟨by (with_reducible repeat (first | refine blk_drewN ?_ _ | refine blk_drew ?_ | refine blk_alloc ?_ _)); refine blk_far ?_ (by have h_ := Kd.R_ne ac.out aa.out (by decide); intro e_; exact h_ (by rw [e_]; rfl)) _; (with_reducible repeat (first | refine blk_drewN ?_ _ | refine blk_drew ?_ | refine blk_alloc ?_ _)); exact aa.out⟩;have n3_ : Aside0 ((w57.setCell ⟨ai, 0, none⟩ (.int .i64 (wrap64 (((rd_T48 ad 0).f0) + 1)))).heap[gb670]? = some (.cells #[.int .i64 ak, .int .i64 al, .int .i64 aj, .slice (some ⟨ai, 0, none⟩) ad.length co10] 28 (0, 0))) := ⟨by (with_reducible repeat (first | refine blk_drewN ?_ _ | refine blk_drew ?_ | refine blk_alloc ?_ _)); refine blk_far ?_ (by have h_ := Kd.R_ne ac.out ab.out (by decide); intro e_; exact h_ (by rw [e_]; rfl)) _; (with_reducible repeat (first | refine blk_drewN ?_ _ | refine blk_drew ?_ | refine blk_alloc ?_ _)); exact ab.out⟩;have n4_ : Aside0 (IsS108 w0 (w57.setCell ⟨ai, 0, none⟩ (.int .i64 (wrap64 (((rd_T48 ad 0).f0) + 1)))) g ah ap ao) := ⟨TI108 HI0⟩;have n5_ : Aside0 (KeepBut w (w57.setCell ⟨ai, 0, none⟩ (.int .i64 (wrap64 (((rd_T48 ad 0).f0) + 1)))) g none) := ⟨TH HK⟩;have n6_ : Aside0 (Below w0.heap.size w0 (w57.setCell ⟨ai, 0, none⟩ (.int .i64 (wrap64 (((rd_T48 ad 0).f0) + 1))))) := ⟨by repeat (first | (with_reducible first | exact HB.out | apply below_alloc | apply pw_below_drewN | apply below_drew1 | refine below_set ?_ (Nat.le_trans HL.out GB53.out) | refine below_set ?_ (IsS108.ge HI0.out) | refine below_set ?_ GE658.out | refine below_set ?_ GE670.out) | exact HB.out)⟩;(try clear ac);(try clear ae);(try clear aa);(try clear ab);(try clear HI0);(try clear HK);(try clear HB);generalize (w57.setCell ⟨ai, 0, none⟩ (.int .i64 (wrap64 (((rd_T48 ad 0).f0) + 1)))) = w59 at n0_ n1_ n2_ n3_ n4_ n5_ n6_ ⊢;have ac := n0_;have ae := n1_;have aa := n2_;have ab := n3_;have HI0 := n4_;have HK := n5_;have HB := n6_;clear n0_ n1_ n2_ n3_ n4_ n5_ n6_;obtain ⟨hcz60_0, hcz60_1, hcz60_2, hcz60_3⟩ := cz4 ab.out;obtain ⟨hfz60_0, hfz60_1, hfz60_2, hfz60_3⟩ := fz4 ab.out;obtain ⟨hnb61, hnc61⟩ := oB NB658_0;obtain ⟨hcz62_0, hcz62_1, hcz62_2, hcz62_3⟩ := cz4 aa.out;obtain ⟨hfz62_0, hfz62_1, hfz62_2, hfz62_3⟩ := fz4 aa.out;try go_wp2
       refine bodyPost_ret (results_cell_row rfl _ _ ag 28 #[.int .i64 ak, .int .i64 al, .int .i64 aj, .slice (some ⟨ai, 0, none⟩) ad.length co10] (0, 0) _ rfl (blk_put (blk_put (blk_put (blk_put (cs := #[.int .i64 0, .int .i64 0, .int .i64 0, .slice none 0 0]) (TZ aa) 0 _ rfl) 1 _ rfl) 2 _ rfl) 3 _ rfl) Try.underlying28 rfl (by kernel_rfl)) rfl ?_;exact ⟨_, TE, by (with_reducible repeat (first | apply Kd.R_alloc | apply Kd.R_drewN | apply Kd.R_drew)); exact Kd.R_mono (RK1 (Kd.R_types ac.out aa.out (by decide))) (fun _ hk => trivial), TI108 HI0, TG108 HB HI0, TH HK⟩
      ·rw [if_neg c51] at H;have c51b0 : decide (0 < (ad.length : Int)) = false := decide_eq_false c51;have c51b1 : decide (0 < ad.length) = false := decide_eq_false (by omega);clear c51;simp only [Option.some.injEq, Prod.mk.injEq] at H;obtain ⟨rfl, rfl, rfl, rfl, rfl, rfl⟩ := H;obtain ⟨hnb63, hnc63⟩ := oB NB670_658;obtain ⟨hnb64, hnc64⟩ := oB NB670_0;obtain ⟨hcz65_0, hcz65_1, hcz65_2, hcz65_3⟩ := cz4 ab.out;obtain ⟨hfz65_0, hfz65_1, hfz65_2, hfz65_3⟩ := fz4 ab.out;obtain ⟨hnb66, hnc66⟩ := oB NB658_0;obtain ⟨hcz67_0, hcz67_1, hcz67_2, hcz67_3⟩ := cz4 aa.out;obtain ⟨hfz67_0, hfz67_1, hfz67_2, hfz67_3⟩ := fz4 aa.out;go_wp2
       refine bodyPost_ret (results_cell_row rfl _ _ ag 28 #[.int .i64 ak, .int .i64 al, .int .i64 aj, .slice Ao10 ad.length co10] (0, 0) _ rfl (blk_put (blk_put (blk_put (blk_put (cs := #[.int .i64 0, .int .i64 0, .int .i64 0, .slice none 0 0]) (TZ aa) 0 _ rfl) 1 _ rfl) 2 _ rfl) 3 _ rfl) Try.underlying28 rfl (by kernel_rfl)) rfl ?_;exact ⟨_, TE, by (with_reducible repeat (first | apply Kd.R_alloc | apply Kd.R_drewN | apply Kd.R_drew)); exact Kd.R_mono (RK1 (Kd.R_types ac.out aa.out (by decide))) (fun _ hk => trivial), TI108 HI0, TG108 HB HI0, TH HK⟩
     ·rw [if_neg c50] at H;have c50b0 : (af == 4) = false := beq_eq_false_iff_ne.mpr c50;have c50b1 : (af != 4) = true := bne_iff_ne.mpr c50;simp only [Option.some.injEq, Prod.mk.injEq] at H;obtain ⟨rfl, rfl, rfl, rfl, rfl, rfl⟩ := H;obtain ⟨hnb68, hnc68⟩ := oB NB670_658;obtain ⟨hnb69, hnc69⟩ := oB NB670_0;obtain ⟨hcz70_0, hcz70_1, hcz70_2, hcz70_3⟩ := cz4 ab.out;obtain ⟨hfz70_0, hfz70_1, hfz70_2, hfz70_3⟩ := fz4 ab.out;obtain ⟨hnb71, hnc71⟩ := oB NB658_0;obtain ⟨hcz72_0, hcz72_1, hcz72_2, hcz72_3⟩ := cz4 aa.out;obtain ⟨hfz72_0, hfz72_1, hfz72_2, hfz72_3⟩ := fz4 aa.out;go_wp2
      refine bodyPost_ret (results_cell_row rfl _ _ ag 28 #[.int .i64 ak, .int .i64 al, .int .i64 aj, .slice Ao10 ad.length co10] (0, 0) _ rfl (blk_put (blk_put (blk_put (blk_put (cs := #[.int .i64 0, .int .i64 0, .int .i64 0, .slice none 0 0]) (TZ aa) 0 _ rfl) 1 _ rfl) 2 _ rfl) 3 _ rfl) Try.underlying28 rfl (by kernel_rfl)) rfl ?_;exact ⟨_, TE, by (with_reducible repeat (first | apply Kd.R_alloc | apply Kd.R_drewN | apply Kd.R_drew)); exact Kd.R_mono (RK1 (Kd.R_types ac.out aa.out (by decide))) (fun _ hk => trivial), TI108 HI0, TG108 HB HI0, TH HK⟩
def spec_l1Bent.f (s0_0 : List Int) (s0_1 : Int) (s0_2 : Int) (l1 : List Int) : Option (List Int × Int × Int) := (some (([] : List Int) : List Int)).bind fun y349 => (if y349.length + l1.length < 140737488355328 then ((some (y349 ++ l1 : List Int)).bind fun y352 => ((spec_l1Below.f s0_0 s0_1 s0_2 6).bind fun bt355 => (if bt355.1 = 0 then (if (y352.length : Int) > 0 then ((spec_l1Below.f s0_0 bt355.2.1 bt355.2.2 (y352.length : Int)).bind fun bt358 => ((spec_l1Below.f s0_0 bt358.2.1 bt358.2.2 256).bind fun bt361 => (if 0 ≤ bt358.1 then (if bt358.1 < (y352.length : Int) then (some ((y352.set (bt358.1 : Int).toNat ((bt361.1) % 256)), bt361.2.1, bt361.2.2)) else (none)) else (none)))) else (some (y352, bt355.2.1, bt355.2.2))) else (if bt355.1 = 1 then ((spec_l1Below.f s0_0 bt355.2.1 bt355.2.2 (wrap64 ((y352.length : Int) + 1))).bind fun bt365 => (if 0 ≤ bt365.1 then (if bt365.1 ≤ (y352.length : Int) then (some ((y352.take (bt365.1 : Int).toNat), bt365.2.1, bt365.2.2)) else (none)) else (none))) else (if bt355.1 = 2 then ((spec_l1Int.f s0_0 bt355.2.1 bt355.2.2 (([0, 1, 128, 255] : List Int))).bind fun bt374 => (if y352.length < 140737488355328 then (some ((y352 ++ [(bt374.1) % 256]), bt374.2.1, bt374.2.2)) else (none))) else (if bt355.1 = 3 then (if (y352.length : Int) > 0 then ((spec_l1Below.f s0_0 bt355.2.1 bt355.2.2 (y352.length : Int)).bind fun bt380 => (if 0 ≤ bt380.1 then (if bt380.1 < (y352.length : Int) then ((spec_l1Below.f s0_0 bt380.2.1 bt380.2.2 8).bind fun bt384 => (if 0 ≤ bt384.1 then (some ((y352.set (bt380.1 : Int).toNat (Go.bits .xor .u8 (rd y352 bt380.1) (shl .u8 1 bt384.1))), bt384.2.1, bt384.2.2)) else (none))) else (none)) else (none))) else (some (y352, bt355.2.1, bt355.2.2))) else (some (y352, bt355.2.1, bt355.2.2)))))))) else (none))
def spec_l1Bent.T13 : Bool × List (List Nat × List Nat) := (true, [([], []), ([], []), ([], []), ([], []), ([2, 3], [2, 3]), ([4], [4]), ([], []), ([6], [6]), ([7], [7]), ([5, 8], [5, 8]), ([0, 1, 0, 1, 2, 3, 4, 5, 6, 7, 8, 9], [0, 1]), ([10, 9, 7, 0, 1, 2, 3, 4, 5, 6, 7, 8, 9], [9, 10])])
def spec_l1Bent.B13 : List Nat := [0, 0, 0, 0, 12, 28, 0, 64, 192, 508, 1023, 2047]
theorem spec_l1Bent.tab13 : rtab .any (opsOf Try.f109 13) = spec_l1Bent.T13 := by kernel_rfl
theorem spec_l1Bent.bits13 : waitsOk spec_l1Bent.T13.2 spec_l1Bent.B13 = true := by kernel_rfl
theorem spec_l1Bent.calls (g : Nat) (ae : List Int) (ar : Int) (az : Int) (A1 : Option Addr) (c1 : Nat) (l1 : List Int) (r1 : List Int) (r2 : Int) (r3 : Int) (w0 w : World) (hI : IsS108 w0 w g ae ar az) (hB : Below w0.heap.size w0 w) (hr1 : Kd.C (Kd.int .u8) w A1 l1.length l1) (hc1 : l1.length ≤ c1) (hf1 : ∀ ad, A1 = some ad → 0 < l1.length → ad.block ≠ g) (h : spec_l1Bent.f ae ar az l1 = some (r1, r2, r3)) :
  Calls Try.prog 109 #[.pointer (some ⟨g, 0, none⟩), .slice A1 l1.length c1] w fun e w' => ∃ v0_ : Value, e = .returned (v0_) ∧ Kd.R (Kd.int .u8) 5 w' w.heap.size (fun _ => True) v0_ r1 ∧ IsS108 w0 w' g ae r2 r3 ∧ Below w0.heap.size w0 w' ∧ KeepBut w w' g none := by
 have HR1 := aM hr1;have HC1 := aM hc1;clear hr1 hc1;have HI0 := aM hI;have HK := aM (KeepBut.refl w g none);have HL := aM hB.size;clear hI;have HW0 := aM hB.size;have HB := aM hB;clear hB;have H := h;clear h;unfold spec_l1Bent.f at H;obtain ⟨y349, ap⟩ : ∃ y_ : List Int, y_ = (([] : List Int)) := ⟨_, rfl⟩;replace H := someE H ap;have aN := aM ap;clear ap;replace H := ifN H;obtain ⟨c3, H⟩ := H;have LMc3 := aM c3;clear c3;obtain ⟨ab, ax⟩ : ∃ y_ : List Int, y_ = (y349 ++ l1) := ⟨_, rfl⟩;replace H := someE H ax;have Ny352 := aM ax;clear ax;replace H := bE H;obtain ⟨⟨ac, ai, ag⟩, A4, H⟩ := H;dsimp only at H;go_enter Try.func109, Try.ntmps109;go_wp2_with (first | ((with_reducible refine gate_dst (N := 7) rfl ?_); refine Kd.R_lit (Kd.int .u8) _ 5 ?hg (N := 7) ?hd (xs := ([] : List Int)) (inner := []) (ok := fun _ => True) (okp := fun _ => True) ?hr ?hp (fun _ hk => hk) trivial (Below.refl _ _) (Nat.le_refl _) (by simp) ?_; (case hd => rfl); (case hg => rfl); (case hr => first | (go_simp; done) | (go_simp; rfl)); (case hp => exact (Reps.none _ _)); intro v350 w5 ho6 hb hg_ hnew_; clear hg_ hnew_; (first | rw [← aN.out] at ho6 | (simp only [Int.reduceToNat] at ho6; rw [← aN.out] at ho6)); have HO351 := aM (Kd.R_lower ho6 (keep_size (w := w) (g := g) (row := none) (TH HK))); replace HK := aM (KeepBut.trans (TH HK) (KeepBut.of_below hb g none) (.inl rfl)); replace HB := aM (below_step (TG108 HB HI0) hb); replace HI0 := aM (IsS108.below (TI108 HI0) hb); clear hb ho6) | ((with_reducible refine gate_builtin (b := .append) (xs := #[.tmp 7, .tmp 8]) rfl ?_); at_builtin; refine Kd.R_append_rows (Kd.int .u8) w.heap.size rfl (.tmp 7) (.tmp 8) 22 5 (.int .u8 0) 1 rfl Try.underlying22 info5 rfl (by decide) (by omega) v350 y349 l1 _ _ _ (fun _ => True) (fun _ => False) rfl rfl ?aO ?aR (fun _ _ h => h) (fun _ h => h.elim) ?aF (Below.refl _ _) ?aS ?aL ?_; (case aR => exact Kd.C_keep 0 HR1.out (TH HK) hf1); (case aF => exact (fun _ _ => trivial)); (case aO => exact (TRf HO351)); (case aS => exact (keep_size (w := w) (g := g) (row := none) (TH HK))); (case aL => have := LMc3.out; omega); intro v353 w7 ho hb hg hat; rw [← Ny352.out] at ho; have aa := aM (ho); replace HB := aM (below_weaken (TG108 HB HI0) HL.out hb); replace HI0 := aM (IsS108.grown (TI108 HI0) hg (IsS108.own_ne HI0.out HO351.out (by decide))); replace HK := aM (KeepBut.trans (TH HK) (KeepBut.of_grown hg g) (Kd.R_base2 HO351.out)); clear HO351; clear ho hb hg hat) | ((with_reducible refine gate_callee (f := 60) rfl ?_); refine gL (some 11) Try.func60 #[.pointer (some ⟨g, 0, none⟩), .int .i64 6] ?_; (with_reducible refine (spec_l1Below.calls g ae ar az 6 ac ai ag w0 _ ?side1 ?side2 A4.out).mono ?_); (case side1 => exact TI108 HI0); (case side2 => exact TG108 HB HI0); rintro e w8 ⟨rfl, hi, hb, hk⟩; refine ⟨_, rfl, ?_⟩; replace aa := aM (Kd.R_mono (Kd.R_keep (IsS108.apart (show IsS108 w0 _ g ae ar az from TI108 HI0) (TRf aa) (by decide)) hk (fun _ h => h.2)) (fun _ h => h.1)); replace HK := aM (KeepBut.trans (TH HK) hk (.inl rfl)); replace HB := aM (hb); replace HI0 := aM (hi); (try clear hb); (try clear hb2); (try clear hk); (try clear hi)) | ((with_reducible refine gate_dst (N := 13) rfl ?_); generalize hG_ : wpList _ _ _ _ _ _ = G_))
 subst hG_
 by_cases c9 : ac = 0
 ·rw [if_pos c9] at H;have c9b0 : (ac == 0) = true := beq_iff_eq.mpr c9;have c9b1 : (ac != 0) = false := bne_eq_false_iff_eq.mpr c9;clear c9
  by_cases c10 : (ab.length : Int) > 0
  ·rw [if_pos c10] at H;have c10b0 : decide (0 < (ab.length : Int)) = true := decide_eq_true c10;have c10b1 : decide (0 < ab.length) = true := decide_eq_true (by omega);clear c10;replace H := bE H;obtain ⟨⟨ah, aG, aD⟩, A11, H⟩ := H;dsimp only at H;replace H := bE H;obtain ⟨⟨ay, t362, t363⟩, A12, H⟩ := H;dsimp only at H;replace H := ifN H;obtain ⟨c13, H⟩ := H;have c13b0 : decide (0 ≤ ah) = true := decide_eq_true c13;clear c13;replace H := ifN H;obtain ⟨c14, H⟩ := H;have c14b0 : decide (ah < (ab.length : Int)) = true := decide_eq_true c14;clear c14;obtain ⟨y364, aB⟩ : ∃ y_ : List Int, y_ = (ab.set (ah : Int).toNat ((ay) % 256)) := ⟨_, rfl⟩;rw [← aB] at H;have Ny364 := aM aB;clear aB;simp only [Option.some.injEq, Prod.mk.injEq] at H;obtain ⟨rfl, rfl, rfl⟩ := H;obtain ⟨Ao16, co16, eo16⟩ := Kd.R_slice aa.out;subst eo16;go_wp2_with (first | ((with_reducible refine gate_callee (f := 60) rfl ?_); refine gL (some 21) Try.func60 #[.pointer (some ⟨g, 0, none⟩), .int .i64 (ab.length : Int)] ?_; (with_reducible refine (spec_l1Below.calls g ae ai ag (ab.length : Int) ah aG aD w0 _ ?side1 ?side2 A11.out).mono ?_); (case side1 => exact TI108 HI0); (case side2 => exact TG108 HB HI0); rintro e w17 ⟨rfl, hi, hb, hk⟩; refine ⟨_, rfl, ?_⟩; replace aa := aM (Kd.R_mono (Kd.R_keep (IsS108.apart (show IsS108 w0 _ g ae ai ag from TI108 HI0) (TRf aa) (by decide)) hk (fun _ h => h.2)) (fun _ h => h.1)); replace HK := aM (KeepBut.trans (TH HK) hk (.inl rfl)); replace HB := aM (hb); replace HI0 := aM (hi); (try clear hb); (try clear hb2); (try clear hk); (try clear hi)) | ((with_reducible refine gate_callee (f := 60) rfl ?_); refine gL (some 23) Try.func60 #[.pointer (some ⟨g, 0, none⟩), .int .i64 256] ?_; (with_reducible refine (spec_l1Below.calls g ae aG aD 256 ay t362 t363 w0 _ ?side1 ?side2 A12.out).mono ?_); (case side1 => exact TI108 HI0); (case side2 => exact TG108 HB HI0); rintro e w18 ⟨rfl, hi, hb, hk⟩; refine ⟨_, rfl, ?_⟩; replace aa := aM (Kd.R_mono (Kd.R_keep (IsS108.apart (show IsS108 w0 _ g ae aG aD from TI108 HI0) (TRf aa) (by decide)) hk (fun _ h => h.2)) (fun _ h => h.1)); replace HK := aM (KeepBut.trans (TH HK) hk (.inl rfl)); replace HB := aM (hb); replace HI0 := aM (hi); (try clear hb); (try clear hb2); (try clear hk); (try clear hi); have p15 : 0 ≤ (ah : Int) := DT; have q15 : (ah : Int) < ((ab.length : Int) : Int) := DT; obtain ⟨go15, co15, eo15, gb15, gl15, cl15, HG15⟩ := Kd.R_form aa.out (by omega); (first | cases eo15 | (injection eo15 with ea_ en_ ec_; (first | subst ea_ | (injection ea_ with ea_; subst ea_)); subst ec_; clear en_)); have GB15 := aM gb15; have GG15 := aM HG15; clear gb15 gl15 HG15; obtain ⟨hx15_0, hf15_0⟩ := Kd.R_celln 0 aa.out (ah : Int) p15 q15; replace p15 := eq_true p15; replace q15 := eq_true q15; obtain ⟨hy19_, hz19_⟩ := Kd.R_celln 0 aa.out (ah : Int) DT DT; have HP19 := Kd.R_putg aa.out (ah : Int) ((ay) % 256)) | ((with_reducible refine gate_store (t := 5) (p := 25) rfl ?_); refine store_event (t := 5) (p := 25) (v := ?vo_w20) (w1 := (w18.setCell ⟨go15, (ah : Int).toNat, none⟩ (.int .u8 ((ay) % 256)))) ?hg ?ho ?hn ?hr ?_; (case ho => rfl); (case hg => rfl); (case hn => rfl); (case hr => first | (go_simp; done) | (go_simp; rfl)); intro w20 hw; have hg : w18.grownBy w20 (some go15) := (by rw [hw]; exact HP19.2); have hp_ : Kd.R (Kd.int .u8) 5 w20 w.heap.size (fun _ => True) (.slice (some ⟨go15, 0, none⟩) ab.length co16) y364 := (by rw [hw, Ny364.out]; exact HP19.1); clear HP19; replace HI0 := aM (IsS108.grown (TI108 HI0) hg (IsS108.own_ne HI0.out aa.out (by decide))); replace HB := aM ((by rw [hw]; exact below_set (HB.out) (Nat.le_trans HL.out GB15.out) : Below w0.heap.size w0 w20)); replace HK := aM (KeepBut.trans (TH HK) (KeepBut.of_grown hg g) (Kd.R_base2 aa.out)); replace aa := aM (hp_); clear hg hw hp_))
   go_ret
   exact ⟨_, TE, by have X_ := aa.out; exact TR, TI108 HI0, TG108 HB HI0, TH HK⟩
  ·rw [if_neg c10] at H;have c10b0 : decide (0 < (ab.length : Int)) = false := decide_eq_false c10;have c10b1 : decide (0 < ab.length) = false := decide_eq_false (by omega);clear c10;simp only [Option.some.injEq, Prod.mk.injEq] at H;obtain ⟨rfl, rfl, rfl⟩ := H;obtain ⟨Ao21, co21, eo21⟩ := Kd.R_slice aa.out;subst eo21;go_wp2
   go_ret
   exact ⟨_, TE, by have X_ := aa.out; exact TR, TI108 HI0, TG108 HB HI0, TH HK⟩
 ·rw [if_neg c9] at H;have c9b0 : (ac == 0) = false := beq_eq_false_iff_ne.mpr c9;have c9b1 : (ac != 0) = true := bne_iff_ne.mpr c9
  by_cases c22 : ac = 1
  ·rw [if_pos c22] at H;have c22b0 : (ac == 1) = true := beq_iff_eq.mpr c22;have c22b1 : (ac != 1) = false := bne_eq_false_iff_eq.mpr c22;clear c22;replace H := bE H;obtain ⟨⟨al, t366, t367⟩, A23, H⟩ := H;dsimp only at H;replace H := ifN H;obtain ⟨c24, H⟩ := H;have c24b0 := eq_true c24;have c24b1 : decide (0 ≤ al) = true := decide_eq_true c24;clear c24;replace H := ifN H;obtain ⟨c25, H⟩ := H;have c25b0 := eq_true c25;have c25b1 : decide (al ≤ (ab.length : Int)) = true := decide_eq_true c25;clear c25;obtain ⟨y368, aA⟩ : ∃ y_ : List Int, y_ = (ab.take (al : Int).toNat) := ⟨_, rfl⟩;rw [← aA] at H;have aK := aM aA;clear aA;simp only [Option.some.injEq, Prod.mk.injEq] at H;obtain ⟨rfl, rfl, rfl⟩ := H;obtain ⟨Ao26, co26, eo26⟩ := Kd.R_slice aa.out;subst eo26;go_wp2_with (first | ((with_reducible refine gate_callee (f := 60) rfl ?_); refine gL (some 33) Try.func60 #[.pointer (some ⟨g, 0, none⟩), .int .i64 (wrap64 ((ab.length : Int) + 1))] ?_; (with_reducible refine (spec_l1Below.calls g ae ai ag (wrap64 ((ab.length : Int) + 1)) al t366 t367 w0 _ ?side1 ?side2 A23.out).mono ?_); (case side1 => exact TI108 HI0); (case side2 => exact TG108 HB HI0); rintro e w27 ⟨rfl, hi, hb, hk⟩; refine ⟨_, rfl, ?_⟩; replace aa := aM (Kd.R_mono (Kd.R_keep (IsS108.apart (show IsS108 w0 _ g ae ai ag from TI108 HI0) (TRf aa) (by decide)) hk (fun _ h => h.2)) (fun _ h => h.1)); replace HK := aM (KeepBut.trans (TH HK) hk (.inl rfl)); replace HB := aM (hb); replace HI0 := aM (hi); (try clear hb); (try clear hb2); (try clear hk); (try clear hi); have q28 : (al : Int) ≤ ((ab.length : Int) : Int) := DT; obtain ⟨i028, hi028, _, hsz28, _⟩ := info_parts info5; have hcut28 := cut_to (P := Try.prog) 22 5 .i64 Try.underlying22 hi028 Ao26 ab.length co26 al DT q28 (Kd.R_reads' aa.out).2.1; have hr28 := Kd.R_take (m := (al : Int).toNat) aa.out (by omega); have hy28 : y368.length = (al : Int).toNat := (by rw [aK.out, List.length_take]; omega); rw [← aK.out] at hr28; rw [← hy28] at hr28 hcut28; clear hy28 hi028 hsz28 aa; have HO370 := aM hr28; clear hr28; replace q28 := eq_true q28))
   go_ret
   exact ⟨_, TE, by have X_ := HO370.out; exact TR, TI108 HI0, TG108 HB HI0, TH HK⟩
  ·rw [if_neg c22] at H;have c22b0 : (ac == 1) = false := beq_eq_false_iff_ne.mpr c22;have c22b1 : (ac != 1) = true := bne_iff_ne.mpr c22
   by_cases c29 : ac = 2
   ·rw [if_pos c29] at H;have c29b0 : (ac == 2) = true := beq_iff_eq.mpr c29;have c29b1 : (ac != 2) = false := bne_eq_false_iff_eq.mpr c29;clear c29;obtain ⟨y371, aq⟩ : ∃ y_ : List Int, y_ = (([0, 1, 128, 255] : List Int)) := ⟨_, rfl⟩;rw [← aq] at H;have aQ := aM aq;clear aq;replace H := bE H;obtain ⟨⟨av, t375, t376⟩, A30, H⟩ := H;dsimp only at H;replace H := ifN H;obtain ⟨c31, H⟩ := H;have LMc31 := aM c31;clear c31;obtain ⟨y377, au⟩ : ∃ y_ : List Int, y_ = (ab ++ [(av) % 256]) := ⟨_, rfl⟩;rw [← au] at H;have Ny377 := aM au;clear au;simp only [Option.some.injEq, Prod.mk.injEq] at H;obtain ⟨rfl, rfl, rfl⟩ := H;go_wp2_with (first | ((with_reducible refine gate_dst (N := 39) rfl ?_); refine Kd.R_lit (Kd.int .i64) _ 3 ?hg (N := 39) ?hd (xs := ([0, 1, 128, 255] : List Int)) (inner := [.int .i64 0, .int .i64 1, .int .i64 128, .int .i64 255]) (ok := fun _ => True) (okp := fun _ => True) ?hr ?hp (fun _ hk => hk) trivial (Below.refl _ _) (Nat.le_refl _) (by simp) ?_; (case hd => rfl); (case hg => rfl); (case hr => first | (go_simp; done) | (go_simp; rfl)); (case hp => exact (Reps.one (show Kd.M (Kd.int .i64) _ _ _ 0 [.int .i64 0] from rfl) (Reps.one (show Kd.M (Kd.int .i64) _ _ _ 1 [.int .i64 1] from rfl) (Reps.one (show Kd.M (Kd.int .i64) _ _ _ 128 [.int .i64 128] from rfl) (Reps.one (show Kd.M (Kd.int .i64) _ _ _ 255 [.int .i64 255] from rfl) (Reps.none _ _)))))); intro v372 w32 ao hb hg_ hnew_; clear hg_ hnew_; (first | rw [← aQ.out] at ao | (simp only [Int.reduceToNat] at ao; rw [← aQ.out] at ao)); have HO373 := aM (Kd.R_lower ao (keep_size (w := w) (g := g) (row := none) (TH HK))); replace aa := mR aa hb; replace HK := aM (KeepBut.trans (TH HK) (KeepBut.of_below hb g none) (.inl rfl)); replace HB := aM (below_step (TG108 HB HI0) hb); replace HI0 := aM (IsS108.below (TI108 HI0) hb); clear hb ao; obtain ⟨Ao34, co34, eo34⟩ := Kd.R_slice HO373.out; subst eo34) | ((with_reducible refine gate_callee (f := 74) rfl ?_); refine gL (some 40) Try.func74 #[.pointer (some ⟨g, 0, none⟩), .slice Ao34 y371.length co34] ?_; (with_reducible refine (spec_l1Int.calls g ae ai ag _ _ y371 av t375 t376 w0 _ ?side1 ?side2 ?side3 ?side4 ?side5 A30.out).mono ?_); (case side1 => exact TI108 HI0); (case side2 => exact TG108 HB HI0); (case side3 => have X_ := (Kd.R_reads' HO373.out).2.2; exact TC); (case side4 => exact (Kd.R_reads' HO373.out).2.1); (case side5 => exact far_slice (IsS108.own_ne HI0.out HO373.out (by decide))); rintro e w35 ⟨rfl, hi, hb, hk⟩; refine ⟨_, rfl, ?_⟩; replace aa := aM (Kd.R_mono (Kd.R_keep (IsS108.apart (show IsS108 w0 _ g ae ai ag from TI108 HI0) (TRf aa) (by decide)) hk (fun _ h => h.2)) (fun _ h => h.1)); replace HO373 := aM (Kd.R_mono (Kd.R_keep (IsS108.apart (show IsS108 w0 _ g ae ai ag from TI108 HI0) (TRf HO373) (by decide)) hk (fun _ h => h.2)) (fun _ h => h.1)); replace HK := aM (KeepBut.trans (TH HK) hk (.inl rfl)); replace HB := aM (hb); replace HI0 := aM (hi); (try clear hb); (try clear hb2); (try clear hk); (try clear hi)) | ((with_reducible refine gate_builtin (b := .append) (xs := #[.tmp 37, .tmp 42]) rfl ?_); at_builtin; refine Kd.R_append (Kd.int .u8) w.heap.size rfl (.tmp 37) (.tmp 42) 22 5 (.int .u8 0) 1 rfl Try.underlying22 info5 rfl (by decide) (by omega) v353 ab ((av) % 256) [.int .u8 ((av) % 256)] (fun _ => True) (fun _ => False) rfl rfl ?aP (fun _ hk => hk.elim) ?aF ?aO (Below.refl _ _) ?aS ?aL ?_; (case aP => exact rfl); (case aF => exact (fun _ _ => trivial)); (case aO => exact (TRf aa)); (case aS => exact (keep_size (w := w) (g := g) (row := none) (TH HK))); (case aL => have := LMc31.out; omega); intro v378 w36 ho hb hg hat; rw [← Ny377.out] at ho; have HO379 := aM (ho); replace HO373 := aM (Kd.R_over' (TRf HO373) (Kd.R_typed (TRf aa)) (by decide) hg); replace HB := aM (below_weaken (TG108 HB HI0) HL.out hb); replace HI0 := aM (IsS108.grown (TI108 HI0) hg (IsS108.own_ne HI0.out aa.out (by decide))); replace HK := aM (KeepBut.trans (TH HK) (KeepBut.of_grown hg g) (Kd.R_base2 aa.out)); clear aa; clear ho hb hg hat))
    go_ret
    exact ⟨_, TE, by have X_ := HO379.out; exact TR, TI108 HI0, TG108 HB HI0, TH HK⟩
   ·rw [if_neg c29] at H;have c29b0 : (ac == 2) = false := beq_eq_false_iff_ne.mpr c29;have c29b1 : (ac != 2) = true := bne_iff_ne.mpr c29
    by_cases c37 : ac = 3
    ·rw [if_pos c37] at H;have c37b0 : (ac == 3) = true := beq_iff_eq.mpr c37;have c37b1 : (ac != 3) = false := bne_eq_false_iff_eq.mpr c37;clear c37
     by_cases c38 : (ab.length : Int) > 0
     ·rw [if_pos c38] at H;have c38b0 : decide (0 < (ab.length : Int)) = true := decide_eq_true c38;have c38b1 : decide (0 < ab.length) = true := decide_eq_true (by omega);clear c38;replace H := bE H;obtain ⟨⟨af, aI, aE⟩, A39, H⟩ := H;dsimp only at H;replace H := ifN H;obtain ⟨c40, H⟩ := H;have c40b0 : decide (0 ≤ af) = true := decide_eq_true c40;clear c40;replace H := ifN H;obtain ⟨c41, H⟩ := H;have c41b0 : decide (af < (ab.length : Int)) = true := decide_eq_true c41;clear c41;replace H := bE H;obtain ⟨⟨aj, t385, t386⟩, A42, H⟩ := H;dsimp only at H;replace H := ifN H;obtain ⟨c43, H⟩ := H;have c43b0 := eq_true c43;have c43b1 : decide (0 ≤ aj) = true := decide_eq_true c43;clear c43;obtain ⟨am, ak⟩ : ∃ j_ : Int, (shl .u8 1 aj) = j_ := ⟨_, rfl⟩;(first | rw [ak] at H | simp only [ak] at H | skip);(try rw [ak] at A39);(try rw [ak] at A42);have aT : (IntKind.u8.wrap (1 * 2 ^ min aj.toNat 8)) = am := ak;have aU : aj ≤ 8 → (IntKind.u8.wrap (1 * 2 ^ aj.toNat)) = am := shl_small ak;have hji44u : (IntKind.u8.wrap (2 ^ min aj.toNat 8)) = am := by have h_ := aT; rw [Int.one_mul] at h_; exact h_
      have hji44v : aj ≤ 8 → (IntKind.u8.wrap (2 ^ aj.toNat)) = am := fun hle_ => by have h_ := aU hle_; rw [Int.one_mul] at h_; exact h_
      obtain ⟨y387, aw⟩ : ∃ y_ : List Int, y_ = (ab.set (af : Int).toNat (Go.bits .xor .u8 (rd ab af) (am))) := ⟨_, rfl⟩;rw [← aw] at H;have Ny387 := aM aw;clear aw;simp only [Option.some.injEq, Prod.mk.injEq] at H;obtain ⟨rfl, rfl, rfl⟩ := H;obtain ⟨Ao46, co46, eo46⟩ := Kd.R_slice aa.out;subst eo46;try go_wp2_with (first | ((with_reducible refine gate_callee (f := 60) rfl ?_); refine gL (some 52) Try.func60 #[.pointer (some ⟨g, 0, none⟩), .int .i64 (ab.length : Int)] ?_; (with_reducible refine (spec_l1Below.calls g ae ai ag (ab.length : Int) af aI aE w0 _ ?side1 ?side2 A39.out).mono ?_); (case side1 => exact TI108 HI0); (case side2 => exact TG108 HB HI0); rintro e w47 ⟨rfl, hi, hb, hk⟩; refine ⟨_, rfl, ?_⟩; replace aa := aM (Kd.R_mono (Kd.R_keep (IsS108.apart (show IsS108 w0 _ g ae ai ag from TI108 HI0) (TRf aa) (by decide)) hk (fun _ h => h.2)) (fun _ h => h.1)); replace HK := aM (KeepBut.trans (TH HK) hk (.inl rfl)); replace HB := aM (hb); replace HI0 := aM (hi); (try clear hb); (try clear hb2); (try clear hk); (try clear hi)))
      replace aa := rD aa;replace HI0 := aM (IsS108.drew HI0.out);replace HK := aM (keep_drew HK.out);replace HB := aM (below_drew1 HB.out);have aH : 0 ≤ (af : Int) := DT;have aC : af < (ab.length : Int) := DT;obtain ⟨ad383, e383, an⟩ := Kd.at_int (Kd.R_reads' aa.out).2.2 af aH aC;cases e383;replace aH := eq_true aH;replace aC := eq_true aC;refine start_ (n := 12) (S := fun w' => w'.cell? (ad383.add (af).toNat) = some (.int .u8 (rd ab af))) (ds := [11]) (Array.replicate 12 false) (by kernel_rfl) rfl rfl (an) (fun hHeld => ?_); refine with_tabW spec_l1Bent.tab13 spec_l1Bent.bits13 (fun HT_ HW_ => ?_);generalize w47.drew = w48 at aa HI0 HK HB an hHeld ⊢;refine pP 0 (some 53) ?_;refine pP 1 (some 54) ?_;refine pP 2 (some 55) ?_;refine pP 3 (some 56) ?_;refine pP 4 (some 57) ?_;refine pP 6 (some 59) ?_;refine pT 5 (some 58) ?_;refine pO 7 (some 60) (fun K hK => ?_);refine gG Try.func60 #[.pointer (some ⟨g, 0, none⟩), .int .i64 8] ?_;with_reducible refine (spec_l1Below.calls g ae aI aE 8 aj t385 t386 w0 _ ?side1 ?side2 A42.out).mono ?_
      (case side1 => exact TI108 HI0);(case side2 => exact TG108 HB HI0);rintro e w49 ⟨rfl, hi, hb, hk⟩;have HS0_ := keep_cell hk (hHeld) (by first | (rw [add_block]; exact Kd.own_blk (IsS108.own_ne HI0.out aa.out (by decide))) | (show (Addr.add _ _).block ≠ _; rw [add_block]; exact Kd.own_blk (IsS108.own_ne HI0.out aa.out (by decide))) | exact Kd.own_blk (IsS108.own_ne HI0.out aa.out (by decide)));refine ⟨_, rfl, ?_⟩;replace aa := aM (Kd.R_mono (Kd.R_keep (IsS108.apart (show IsS108 w0 _ g ae aI aE from TI108 HI0) (TRf aa) (by decide)) hk (fun _ h => h.2)) (fun _ h => h.1));replace HK := aM (KeepBut.trans (TH HK) hk (.inl rfl));replace HB := aM (hb);replace HI0 := aM (hi);(try clear hb);(try clear hb2);(try clear hk);(try clear hi);have p45 : 0 ≤ (af : Int) := DT;have q45 : (af : Int) < ((ab.length : Int) : Int) := DT;obtain ⟨go45, co45, eo45, gb45, gl45, cl45, HG45⟩ := Kd.R_form aa.out (by omega);(first | cases eo45 | (injection eo45 with ea_ en_ ec_; (first | subst ea_ | (injection ea_ with ea_; subst ea_)); subst ec_; clear en_));have GB45 := aM gb45;have GG45 := aM HG45;clear gb45 gl45 HG45;(first | simp only [add_plain] at an | skip);obtain ⟨hx45_0, hf45_0⟩ := Kd.R_celln 0 aa.out (af : Int) p45 q45;replace p45 := eq_true p45;replace q45 := eq_true q45;have HN0_go45 := aM (show g ≠ go45 from by have h_ := IsS108.own_ne HI0.out aa.out (by decide); intro e_; exact h_ (by rw [e_]; rfl));have aJ := Kd.R_putn aa.out (af : Int) (Go.bits .xor .u8 (rd ab af) (am));rw [← Ny387.out] at aJ;have HQ50 := aM aJ;clear aJ;refine hK.out _ _ (HS0_) (fun hHeld => ?_);clear hK K;refine nR ?_;refine pP 8 (some 61) ?_;refine pP 9 (some 62) ?_;refine pP 10 (some 63) ?_;refine pL 11 none (fun K hK => ?_);refine skip_ (w1 := ?_) (by rfl) rfl ?_ ?_;rotate_left
      ·go_simp;rfl
      refine hK.out _ _ ?_;clear hK K;refine done_ (done_of HT_.out (by kernel_rfl)) ?_;try go_wp2
      go_ret
      exact ⟨_, by first | rfl | (simp [errW_none, errW_some] <;> rfl) | (simp only [← ak]; first | rfl | (simp [errW_none, errW_some] <;> rfl)) | (simp [*, errW_none, errW_some] <;> rfl), by have X_ := HQ50.out; exact TR, TI108 HI0, by repeat (first | (with_reducible first | exact HB.out | apply below_alloc | apply pw_below_drewN | apply below_drew1 | refine below_set ?_ (Nat.le_trans HL.out GB45.out) | refine below_set ?_ (IsS108.ge HI0.out)) | exact HB.out), TH HK⟩
     ·rw [if_neg c38] at H;have c38b0 : decide (0 < (ab.length : Int)) = false := decide_eq_false c38;have c38b1 : decide (0 < ab.length) = false := decide_eq_false (by omega);clear c38;simp only [Option.some.injEq, Prod.mk.injEq] at H;obtain ⟨rfl, rfl, rfl⟩ := H;obtain ⟨Ao51, co51, eo51⟩ := Kd.R_slice aa.out;subst eo51;go_wp2
      go_ret
      exact ⟨_, TE, by have X_ := aa.out; exact TR, TI108 HI0, TG108 HB HI0, TH HK⟩
    ·rw [if_neg c37] at H;have c37b0 : (ac == 3) = false := beq_eq_false_iff_ne.mpr c37;have c37b1 : (ac != 3) = true := bne_iff_ne.mpr c37;simp only [Option.some.injEq, Prod.mk.injEq] at H;obtain ⟨rfl, rfl, rfl⟩ := H;go_wp2
     go_ret
     exact ⟨_, TE, by have X_ := aa.out; exact TR, TI108 HI0, TG108 HB HI0, TH HK⟩
theorem Zq17_0 {p : Prop} (h : p := by exact (keep_size (w := w) (g := g) (row := none) (TH HK))) : p := h
def spec_l7Old.f (k : Nat) (s0_0 : List Int) (s0_1 : Int) (s0_2 : Int) (l1 : List Int) : Option (List Int × Int × Int) := (spec_l1Below.f s0_0 s0_1 s0_2 5).bind fun bt388 => (if bt388.1 = 0 then ((spec_l3Bytes.f k s0_0 bt388.2.1 bt388.2.2 16).bind fun bt391 => (some (bt391.1, bt391.2.1, bt391.2.2))) else (if bt388.1 = 1 then ((some (([] : List Int) : List Int)).bind fun y396 => (if y396.length + l1.length < 140737488355328 then (some ((y396 ++ l1), bt388.2.1, bt388.2.2)) else (none))) else (if bt388.1 = 2 then ((spec_l1Below.f s0_0 bt388.2.1 bt388.2.2 (wrap64 ((l1.length : Int) + 1))).bind fun bt402 => ((some (([120] : List Int) : List Int)).bind fun y405 => (if 0 ≤ bt402.1 then (if bt402.1 ≤ (l1.length : Int) then (if y405.length + (l1.drop (bt402.1 : Int).toNat).length < 140737488355328 then ((some (y405 ++ (l1.drop (bt402.1 : Int).toNat) : List Int)).bind fun y409 => (if y409.length + (l1.take (bt402.1 : Int).toNat).length < 140737488355328 then (some ((y409 ++ (l1.take (bt402.1 : Int).toNat)), bt402.2.1, bt402.2.2)) else (none))) else (none)) else (none)) else (none)))) else (if bt388.1 = 3 then (some ((([] : List Int)), bt388.2.1, bt388.2.2)) else ((spec_l3Bytes.f k s0_0 bt388.2.1 bt388.2.2 3).bind fun bt419 => ((spec_l1Bent.f s0_0 bt419.2.1 bt419.2.2 l1).bind fun bt424 => (if bt419.1.length + bt424.1.length < 140737488355328 then (some ((bt419.1 ++ bt424.1), bt424.2.1, bt424.2.2)) else (none))))))))
theorem spec_l7Old.mono : ∀ a0 a1 a2 a3 k, LeO (spec_l7Old.f k a0 a1 a2 a3) (spec_l7Old.f (k + 1) a0 a1 a2 a3) := by
  intro a0 a1 a2 a3 k;have m0_ := @spec_l3Bytes.mono;unfold spec_l7Old.f;exact LM
def spec_l7Old.T8 : Bool × List (List Nat × List Nat) := (true, [([], []), ([], []), ([], []), ([1, 2], [1, 2]), ([0, 3], [0, 3]), ([], []), ([], []), ([5, 6], [5, 6]), ([4, 7, 4], [4, 7]), ([8, 8, 0, 1, 2, 3, 4, 5, 6, 7, 8], [8])])
def spec_l7Old.B8 : List Nat := [0, 0, 0, 6, 15, 0, 0, 96, 255, 511]
theorem spec_l7Old.tab8 : rtab .any (opsOf Try.f70 8) = spec_l7Old.T8 := by kernel_rfl
theorem spec_l7Old.bits8 : waitsOk spec_l7Old.T8.2 spec_l7Old.B8 = true := by kernel_rfl
theorem spec_l7Old.calls (k : Nat) (g : Nat) (ac : List Int) (ag : Int) (ah : Int) (A1 : Option Addr) (c1 : Nat) (l1 : List Int) (r1 : List Int) (r2 : Int) (r3 : Int) (w0 w : World) (hI : IsS108 w0 w g ac ag ah) (hB : Below w0.heap.size w0 w) (hr1 : Kd.C (Kd.int .u8) w A1 l1.length l1) (hc1 : l1.length ≤ c1) (hf1 : ∀ ad, A1 = some ad → 0 < l1.length → ad.block ≠ g) (h : spec_l7Old.f k ac ag ah l1 = some (r1, r2, r3)) :
  Calls Try.prog 70 #[.pointer (some ⟨g, 0, none⟩), .slice A1 l1.length c1] w fun e w' => ∃ v0_ : Value, e = .returned (v0_) ∧ Kd.R (Kd.int .u8) 5 w' w.heap.size (fun _ => True) v0_ r1 ∧ IsS108 w0 w' g ac r2 r3 ∧ Below w0.heap.size w0 w' ∧ KeepBut w w' g none := by
 have HR1 := aM hr1;have HC1 := aM hc1;clear hr1 hc1;have HI0 := aM hI;have HK := aM (KeepBut.refl w g none);have HL := aM hB.size;clear hI;have HW0 := aM hB.size;have HB := aM hB;clear hB;have H := h;clear h;unfold spec_l7Old.f at H;replace H := bE H;obtain ⟨⟨aa, af, ae⟩, A3, H⟩ := H;dsimp only at H
 by_cases c4 : aa = 0
 ·rw [if_pos c4] at H;have c4b0 : (aa == 0) = true := beq_iff_eq.mpr c4;have c4b1 : (aa != 0) = false := bne_eq_false_iff_eq.mpr c4;clear c4;replace H := bE H;obtain ⟨⟨t391, t394, t395⟩, A5, H⟩ := H;dsimp only at H;simp only [Option.some.injEq, Prod.mk.injEq] at H;obtain ⟨rfl, rfl, rfl⟩ := H;go_enter Try.func70, Try.ntmps70;go_wp2_with (first | ((with_reducible refine gate_callee (f := 60) rfl ?_); refine gL (some 7) Try.func60 #[.pointer (some ⟨g, 0, none⟩), .int .i64 5] ?_; (with_reducible refine (spec_l1Below.calls g ac ag ah 5 aa af ae w0 _ ?side1 ?side2 A3.out).mono ?_); (case side1 => exact TI108 HI0); (case side2 => exact TG108 HB HI0); rintro e w6 ⟨rfl, hi, hb, hk⟩; refine ⟨_, rfl, ?_⟩; replace HK := aM (KeepBut.trans (TH HK) hk (.inl rfl)); replace HB := aM (hb); replace HI0 := aM (hi); (try clear hb); (try clear hb2); (try clear hk); (try clear hi)) | ((with_reducible refine gate_callee (f := 78) rfl ?_); refine gL (some 11) Try.func78 #[.pointer (some ⟨g, 0, none⟩), .int .i64 16] ?_; (with_reducible refine (spec_l3Bytes.calls k g ac af ae 16 t391 t394 t395 w0 _ ?side1 ?side2 A5.out).mono ?_); (case side1 => exact TI108 HI0); (case side2 => exact TG108 HB HI0); rintro e w7 ⟨v392, rfl, ho0, hi, hb, hk⟩; refine ⟨_, rfl, ?_⟩; have HO393 := aM (Kd.R_lower ho0 (keep_size (w := w) (g := g) (row := none) (TH HK))); replace HK := aM (KeepBut.trans (TH HK) hk (.inl rfl)); replace HB := aM (hb); replace HI0 := aM (hi); (try clear hb); (try clear hb2); (try clear hk); (try clear hi); (try clear ho0)))
  go_ret
  exact ⟨_, TE, by have X_ := HO393.out; exact TR, TI108 HI0, TG108 HB HI0, TH HK⟩
 ·rw [if_neg c4] at H;have c4b0 : (aa == 0) = false := beq_eq_false_iff_ne.mpr c4;have c4b1 : (aa != 0) = true := bne_iff_ne.mpr c4
  by_cases c8 : aa = 1
  ·rw [if_pos c8] at H;have c8b0 : (aa == 1) = true := beq_iff_eq.mpr c8;have c8b1 : (aa != 1) = false := bne_eq_false_iff_eq.mpr c8;clear c8;obtain ⟨y396, ap⟩ : ∃ y_ : List Int, y_ = (([] : List Int)) := ⟨_, rfl⟩;replace H := someE H ap;have aC := aM ap;clear ap;replace H := ifN H;obtain ⟨c9, H⟩ := H;have LMc9 := aM c9;clear c9;obtain ⟨y399, aw⟩ : ∃ y_ : List Int, y_ = (y396 ++ l1) := ⟨_, rfl⟩;rw [← aw] at H;have Ny399 := aM aw;clear aw;simp only [Option.some.injEq, Prod.mk.injEq] at H;obtain ⟨rfl, rfl, rfl⟩ := H;go_enter Try.func70, Try.ntmps70;go_wp2_with (first | ((with_reducible refine gate_callee (f := 60) rfl ?_); refine gL (some 7) Try.func60 #[.pointer (some ⟨g, 0, none⟩), .int .i64 5] ?_; (with_reducible refine (spec_l1Below.calls g ac ag ah 5 aa af ae w0 _ ?side1 ?side2 A3.out).mono ?_); (case side1 => exact TI108 HI0); (case side2 => exact TG108 HB HI0); rintro e w10 ⟨rfl, hi, hb, hk⟩; refine ⟨_, rfl, ?_⟩; replace HK := aM (KeepBut.trans (TH HK) hk (.inl rfl)); replace HB := aM (hb); replace HI0 := aM (hi); (try clear hb); (try clear hb2); (try clear hk); (try clear hi)) | ((with_reducible refine gate_dst (N := 14) rfl ?_); refine Kd.R_lit (Kd.int .u8) _ 5 ?hg (N := 14) ?hd (xs := ([] : List Int)) (inner := []) (ok := fun _ => True) (okp := fun _ => True) ?hr ?hp (fun _ hk => hk) trivial (Below.refl _ _) (Nat.le_refl _) (by simp) ?_; (case hd => rfl); (case hg => rfl); (case hr => first | (go_simp; done) | (go_simp; rfl)); (case hp => exact (Reps.none _ _)); intro v397 w11 ho12 hb hg_ hnew_; clear hg_ hnew_; (first | rw [← aC.out] at ho12 | (simp only [Int.reduceToNat] at ho12; rw [← aC.out] at ho12)); have HO398 := aM (Kd.R_lower ho12 (keep_size (w := w) (g := g) (row := none) (TH HK))); replace HK := aM (KeepBut.trans (TH HK) (KeepBut.of_below hb g none) (.inl rfl)); replace HB := aM (below_step (TG108 HB HI0) hb); replace HI0 := aM (IsS108.below (TI108 HI0) hb); clear hb ho12) | ((with_reducible refine gate_builtin (b := .append) (xs := #[.tmp 14, .tmp 15]) rfl ?_); at_builtin; refine Kd.R_append_rows (Kd.int .u8) w.heap.size rfl (.tmp 14) (.tmp 15) 22 5 (.int .u8 0) 1 rfl Try.underlying22 info5 rfl (by decide) (by omega) v397 y396 l1 _ _ _ (fun _ => True) (fun _ => False) rfl rfl ?aO ?aR (fun _ _ h => h) (fun _ h => h.elim) ?aF (Below.refl _ _) ?aS ?aL ?_; (case aR => exact Kd.C_keep 0 HR1.out (TH HK) hf1); (case aF => exact (fun _ _ => trivial)); (case aO => exact (TRf HO398)); (case aS => exact Zq17_0); (case aL => have := LMc9.out; omega); intro v400 w13 ho hb hg hat; rw [← Ny399.out] at ho; have HO401 := aM (ho); replace HB := aM (below_weaken (TG108 HB HI0) HL.out hb); replace HI0 := aM (IsS108.grown (TI108 HI0) hg (IsS108.own_ne HI0.out HO398.out (by decide))); replace HK := aM (KeepBut.trans (TH HK) (KeepBut.of_grown hg g) (Kd.R_base2 HO398.out)); clear HO398; clear ho hb hg hat))
   go_ret
   exact ⟨_, TE, by have X_ := HO401.out; exact TR, TI108 HI0, TG108 HB HI0, TH HK⟩
  ·rw [if_neg c8] at H;have c8b0 : (aa == 1) = false := beq_eq_false_iff_ne.mpr c8;have c8b1 : (aa != 1) = true := bne_iff_ne.mpr c8
   by_cases c14 : aa = 2
   ·rw [if_pos c14] at H;have c14b0 : (aa == 2) = true := beq_iff_eq.mpr c14;have c14b1 : (aa != 2) = false := bne_eq_false_iff_eq.mpr c14;clear c14;replace H := bE H;obtain ⟨⟨ab, t403, t404⟩, A15, H⟩ := H;dsimp only at H;obtain ⟨y405, an⟩ : ∃ y_ : List Int, y_ = (([120] : List Int)) := ⟨_, rfl⟩;replace H := someE H an;have aH := aM an;clear an;replace H := ifN H;obtain ⟨c16, H⟩ := H;have c16b0 := eq_true c16;have c16b1 : decide (0 ≤ ab) = true := decide_eq_true c16;clear c16;replace H := ifN H;obtain ⟨c17, H⟩ := H;have c17b0 := eq_true c17;have c17b1 : decide (ab ≤ (l1.length : Int)) = true := decide_eq_true c17;clear c17;replace H := ifN H;obtain ⟨c18, H⟩ := H;have LMc18 := aM c18;clear c18;obtain ⟨y409, al⟩ : ∃ y_ : List Int, y_ = (y405 ++ (l1.drop (ab : Int).toNat)) := ⟨_, rfl⟩;replace H := someE H al;have Ny409 := aM al;clear al;have c19b0 := eq_true (DT : 0 ≤ ab);have c20b0 := eq_true (DT : ab ≤ (l1.length : Int));replace H := ifN H;obtain ⟨c21, H⟩ := H;have LMc21 := aM c21;clear c21;obtain ⟨y413, ar⟩ : ∃ y_ : List Int, y_ = (y409 ++ (l1.take (ab : Int).toNat)) := ⟨_, rfl⟩;rw [← ar] at H;have Ny413 := aM ar;clear ar;simp only [Option.some.injEq, Prod.mk.injEq] at H;obtain ⟨rfl, rfl, rfl⟩ := H;go_enter Try.func70, Try.ntmps70;try go_wp2_with (first | ((with_reducible refine gate_callee (f := 60) rfl ?_); refine gL (some 7) Try.func60 #[.pointer (some ⟨g, 0, none⟩), .int .i64 5] ?_; (with_reducible refine (spec_l1Below.calls g ac ag ah 5 aa af ae w0 _ ?side1 ?side2 A3.out).mono ?_); (case side1 => exact TI108 HI0); (case side2 => exact TG108 HB HI0); rintro e w22 ⟨rfl, hi, hb, hk⟩; refine ⟨_, rfl, ?_⟩; replace HK := aM (KeepBut.trans (TH HK) hk (.inl rfl)); replace HB := aM (hb); replace HI0 := aM (hi); (try clear hb); (try clear hb2); (try clear hk); (try clear hi)) | ((with_reducible refine gate_callee (f := 60) rfl ?_); refine gL (some 23) Try.func60 #[.pointer (some ⟨g, 0, none⟩), .int .i64 (wrap64 ((l1.length : Int) + 1))] ?_; (with_reducible refine (spec_l1Below.calls g ac af ae (wrap64 ((l1.length : Int) + 1)) ab t403 t404 w0 _ ?side1 ?side2 A15.out).mono ?_); (case side1 => exact TI108 HI0); (case side2 => exact TG108 HB HI0); rintro e w23 ⟨rfl, hi, hb, hk⟩; refine ⟨_, rfl, ?_⟩; replace HK := aM (KeepBut.trans (TH HK) hk (.inl rfl)); replace HB := aM (hb); replace HI0 := aM (hi); (try clear hb); (try clear hb2); (try clear hk); (try clear hi)))
    replace HI0 := aM (IsS108.drew HI0.out);replace HK := aM (keep_drew HK.out);replace HB := aM (below_drew1 HB.out);obtain ⟨i025, aI, _, aE, _⟩ := info_parts info5;obtain ⟨A25, hcut25, az, hC25⟩ := print_drop_of (P := Try.prog) (Value.int .u8) 0 22 5 .i64 Try.underlying22 aI aE A1 c1 l1 ab DT DT HC1.out;have ao := aM (Kd.C_of_reads (h1 := fun _ => rfl) (az _ (Kd.reads_of_C HR1.out)));have HC408 := aM hC25;have aD : ∀ ad : Addr, A25 = some ad → 0 < (l1.drop (ab : Int).toNat).length → ad.block ≠ g := fun ad he h_ => by cases he; exact Kd.foot_ne (fun W_ hk_ => Kd.C_of_reads (h1 := fun _ => rfl) (az _ (Kd.reads_of_C (Kd.C_foot_ne (fun h => h) HR1.out hf1 W_ hk_)))) h_ (by decide)
    clear az hC25 aI aE;obtain ⟨i026, aG, _, aK, _⟩ := info_parts info5;obtain ⟨hcut26, aA, hC26⟩ := print_take_of (P := Try.prog) (Value.int .u8) 0 22 5 .i64 Try.underlying22 aG aK A1 c1 l1 ab DT DT HC1.out;have au := aM (Kd.C_of_reads (h1 := fun _ => rfl) (aA _ (Kd.reads_of_C HR1.out)));have HC412 := aM hC26;have aN : ∀ ad : Addr, A1 = some ad → 0 < (l1.take (ab : Int).toNat).length → ad.block ≠ g := fun ad he h_ => by cases he; exact Kd.foot_ne (fun W_ hk_ => Kd.C_of_reads (h1 := fun _ => rfl) (aA _ (Kd.reads_of_C (Kd.C_foot_ne (fun h => h) HR1.out hf1 W_ hk_)))) h_ (by decide)
    clear aA hC26 aG aK;refine start_ (n := 10) (S := fun w' => True) (ds := []) (Array.replicate 10 false) (by kernel_rfl) rfl rfl trivial (fun hHeld => ?_); refine with_tabW spec_l7Old.tab8 spec_l7Old.bits8 (fun HT_ HW_ => ?_);generalize w23.drew = w24 at HI0 HK HB ao au hHeld ⊢;refine pP 1 (some 25) ?_;refine pP 2 (some 26) ?_;refine pP 3 (some 27) ?_;refine pP 5 (some 29) ?_;refine pP 6 (some 30) ?_;refine pP 7 (some 31) ?_;refine pO 0 (some 24) (fun K hK => ?_);refine Kd.R_lit_step (Kd.int .u8) _ 5 ?hg (N := 24) ?hd (xs := ([120] : List Int)) (inner := [.int .u8 120]) (ok := fun _ => True) (okp := fun _ => True) ?hr ?hp (fun _ hk => hk) trivial (Below.refl _ _) (Nat.le_refl _) (by simp) ?_; (case hd => rfl); (case hg => rfl); (case hr => first | (go_simp; done) | (go_simp; rfl)); (case hp => exact (Reps.one (show Kd.M (Kd.int .u8) _ _ _ 120 [.int .u8 120] from rfl) (Reps.none _ _)));intro v406 w27 ak hb hg_ hnew_;clear hg_ hnew_;(first | rw [← aH.out] at ak | (simp only [Int.reduceToNat] at ak; rw [← aH.out] at ak));replace ai := aM (Kd.R_lower ak (keep_size (w := w) (g := g) (row := none) (TH HK)));replace HI0 := aM (IsS108.below (TI108 HI0) hb);replace HK := aM (KeepBut.trans (TH HK) (KeepBut.of_below hb g none) (.inl rfl));replace HB := aM (below_step (TG108 HB HI0) hb);clear hb ak;refine hK.out _ _ trivial (fun hHeld => ?_);clear hK K;refine nR ?_;refine pO 4 (some 28) (fun K hK => ?_);refine Kd.R_append_rows_step (Kd.int .u8) w.heap.size (by rfl) (.tmp 24) (.tmp 27) 22 5 (.int .u8 0) 1 rfl Try.underlying22 info5 rfl (by decide) (by omega) v406 y405 (l1.drop (ab : Int).toNat) _ _ _ (fun _ => True) (fun _ => False) rfl rfl ?aO ?aR (fun _ _ h => h) (fun _ h => h.elim) ?aF (Below.refl _ _) ?aS ?aL ?_;(case aR => first | ((conv => arg 5; rw [← show (l1.drop (ab : Int).toNat).length = (l1.length - ab.toNat) from List.length_drop]); exact Kd.C_keep 0 ao.out (TH HK) aD) | (exact Kd.C_keep 0 ao.out (TH HK) aD));(case aF => exact (fun _ _ => trivial));(case aO => exact (TRf ai));(case aS => exact Zq17_0);(case aL => have := LMc18.out; have hlx_ := (show (l1.drop (ab : Int).toNat).length = (l1.length - ab.toNat) from List.length_drop); omega);intro v410 w29 ho hb hg hat;rw [← Ny409.out] at ho;have n0_ := aM (IsS108.grown (TI108 HI0) hg (IsS108.own_ne HI0.out ai.out (by decide)));have n1_ := aM (below_weaken (TG108 HB HI0) HL.out hb);have n2_ := aM (KeepBut.trans (TH HK) (KeepBut.of_grown hg g) (Kd.R_base2 ai.out));have n3_ := aM (ho);clear HI0;clear HB;clear HK;clear ai;have HI0 := n0_;have HB := n1_;have HK := n2_;have aj := n3_;clear n0_ n1_ n2_ n3_;clear ho hb hg hat;refine hK.out _ _ trivial (fun hHeld => ?_);clear hK K;refine nR ?_;refine pO 8 (some 32) (fun K hK => ?_);refine Kd.R_append_rows_step (Kd.int .u8) w.heap.size (by rfl) (.tmp 28) (.tmp 31) 22 5 (.int .u8 0) 1 rfl Try.underlying22 info5 rfl (by decide) (by omega) v410 y409 (l1.take (ab : Int).toNat) _ _ _ (fun _ => True) (fun _ => False) rfl rfl ?aO ?aR (fun _ _ h => h) (fun _ h => h.elim) ?aF (Below.refl _ _) ?aS ?aL ?_;(case aR => first | ((conv => arg 5; rw [← show (l1.take (ab : Int).toNat).length = ab.toNat from (by rw [List.length_take]; have h_ : (ab : Int) ≤ (l1.length : Int) := DT; omega)]); exact Kd.C_keep 0 au.out (TH HK) aN) | (exact Kd.C_keep 0 au.out (TH HK) aN));(case aF => exact (fun _ _ => trivial));(case aO => exact (TRf aj));(case aS => exact Zq17_0);(case aL => have := LMc21.out; have hlx_ := (show (l1.take (ab : Int).toNat).length = ab.toNat from (by rw [List.length_take]; have h_ : (ab : Int) ≤ (l1.length : Int) := DT; omega)); omega);intro v414 w30 ho hb hg hat;rw [← Ny413.out] at ho;have n0_ := aM (IsS108.grown (TI108 HI0) hg (IsS108.own_ne HI0.out aj.out (by decide)));have n1_ := aM (below_weaken (TG108 HB HI0) HL.out hb);have n2_ := aM (KeepBut.trans (TH HK) (KeepBut.of_grown hg g) (Kd.R_base2 aj.out));have n3_ := aM (ho);clear HI0;clear HB;clear HK;clear aj;have HI0 := n0_;have HB := n1_;have HK := n2_;have HO415 := n3_;clear n0_ n1_ n2_ n3_;clear ho hb hg hat;refine hK.out _ _ trivial (fun hHeld => ?_);clear hK K;refine nR ?_;refine pP 9 (some 4) ?_;refine done_ (done_of HT_.out (by kernel_rfl)) ?_;try go_wp2
    go_ret
    exact ⟨_, TE, by have X_ := HO415.out; exact TR, TI108 HI0, TG108 HB HI0, TH HK⟩
   ·rw [if_neg c14] at H;have c14b0 : (aa == 2) = false := beq_eq_false_iff_ne.mpr c14;have c14b1 : (aa != 2) = true := bne_iff_ne.mpr c14
    by_cases c31 : aa = 3
    ·rw [if_pos c31] at H;have c31b0 : (aa == 3) = true := beq_iff_eq.mpr c31;have c31b1 : (aa != 3) = false := bne_eq_false_iff_eq.mpr c31;clear c31;obtain ⟨y416, aq⟩ : ∃ y_ : List Int, y_ = (([] : List Int)) := ⟨_, rfl⟩;rw [← aq] at H;have aJ := aM aq;clear aq;simp only [Option.some.injEq, Prod.mk.injEq] at H;obtain ⟨rfl, rfl, rfl⟩ := H;go_enter Try.func70, Try.ntmps70;go_wp2_with (first | ((with_reducible refine gate_callee (f := 60) rfl ?_); refine gL (some 7) Try.func60 #[.pointer (some ⟨g, 0, none⟩), .int .i64 5] ?_; (with_reducible refine (spec_l1Below.calls g ac ag ah 5 aa af ae w0 _ ?side1 ?side2 A3.out).mono ?_); (case side1 => exact TI108 HI0); (case side2 => exact TG108 HB HI0); rintro e w32 ⟨rfl, hi, hb, hk⟩; refine ⟨_, rfl, ?_⟩; replace HK := aM (KeepBut.trans (TH HK) hk (.inl rfl)); replace HB := aM (hb); replace HI0 := aM (hi); (try clear hb); (try clear hb2); (try clear hk); (try clear hi)) | ((with_reducible refine gate_dst (N := 35) rfl ?_); refine Kd.R_lit (Kd.int .u8) _ 5 ?hg (N := 35) ?hd (xs := ([] : List Int)) (inner := []) (ok := fun _ => True) (okp := fun _ => True) ?hr ?hp (fun _ hk => hk) trivial (Below.refl _ _) (Nat.le_refl _) (by simp) ?_; (case hd => rfl); (case hg => rfl); (case hr => first | (go_simp; done) | (go_simp; rfl)); (case hp => exact (Reps.none _ _)); intro v417 w33 ho34 hb hg_ hnew_; clear hg_ hnew_; (first | rw [← aJ.out] at ho34 | (simp only [Int.reduceToNat] at ho34; rw [← aJ.out] at ho34)); have HO418 := aM (Kd.R_lower ho34 (keep_size (w := w) (g := g) (row := none) (TH HK))); replace HK := aM (KeepBut.trans (TH HK) (KeepBut.of_below hb g none) (.inl rfl)); replace HB := aM (below_step (TG108 HB HI0) hb); replace HI0 := aM (IsS108.below (TI108 HI0) hb); clear hb ho34))
     go_ret
     exact ⟨_, TE, by have X_ := HO418.out; exact TR, TI108 HI0, TG108 HB HI0, TH HK⟩
    ·rw [if_neg c31] at H;have c31b0 : (aa == 3) = false := beq_eq_false_iff_ne.mpr c31;have c31b1 : (aa != 3) = true := bne_iff_ne.mpr c31;replace H := bE H;obtain ⟨⟨ax, aB, ay⟩, A35, H⟩ := H;dsimp only at H;replace H := bE H;obtain ⟨⟨am, t427, t428⟩, A36, H⟩ := H;dsimp only at H;replace H := ifN H;obtain ⟨c37, H⟩ := H;have LMc37 := aM c37;clear c37;obtain ⟨y429, av⟩ : ∃ y_ : List Int, y_ = (ax ++ am) := ⟨_, rfl⟩;rw [← av] at H;have Ny429 := aM av;clear av;simp only [Option.some.injEq, Prod.mk.injEq] at H;obtain ⟨rfl, rfl, rfl⟩ := H;go_enter Try.func70, Try.ntmps70;go_wp2_with (first | ((with_reducible refine gate_callee (f := 60) rfl ?_); refine gL (some 7) Try.func60 #[.pointer (some ⟨g, 0, none⟩), .int .i64 5] ?_; (with_reducible refine (spec_l1Below.calls g ac ag ah 5 aa af ae w0 _ ?side1 ?side2 A3.out).mono ?_); (case side1 => exact TI108 HI0); (case side2 => exact TG108 HB HI0); rintro e w38 ⟨rfl, hi, hb, hk⟩; refine ⟨_, rfl, ?_⟩; replace HK := aM (KeepBut.trans (TH HK) hk (.inl rfl)); replace HB := aM (hb); replace HI0 := aM (hi); (try clear hb); (try clear hb2); (try clear hk); (try clear hi)) | ((with_reducible refine gate_callee (f := 78) rfl ?_); refine gL (some 37) Try.func78 #[.pointer (some ⟨g, 0, none⟩), .int .i64 3] ?_; (with_reducible refine (spec_l3Bytes.calls k g ac af ae 3 ax aB ay w0 _ ?side1 ?side2 A35.out).mono ?_); (case side1 => exact TI108 HI0); (case side2 => exact TG108 HB HI0); rintro e w39 ⟨v420, rfl, ho0, hi, hb, hk⟩; refine ⟨_, rfl, ?_⟩; have HO421 := aM (Kd.R_lower ho0 (keep_size (w := w) (g := g) (row := none) (TH HK))); replace HK := aM (KeepBut.trans (TH HK) hk (.inl rfl)); replace HB := aM (hb); replace HI0 := aM (hi); (try clear hb); (try clear hb2); (try clear hk); (try clear hi); (try clear ho0)) | ((with_reducible refine gate_callee (f := 109) rfl ?_); refine gL (some 40) Try.func109 #[.pointer (some ⟨g, 0, none⟩), .slice A1 l1.length c1] ?_; (with_reducible refine (spec_l1Bent.calls g ac aB ay _ _ l1 am t427 t428 w0 _ ?side1 ?side2 ?side3 ?side4 ?side5 A36.out).mono ?_); (case side1 => exact TI108 HI0); (case side2 => exact TG108 HB HI0); (case side3 => exact Kd.C_keep 0 HR1.out (TH HK) hf1); (case side4 => exact HC1.out); (case side5 => exact hf1); rintro e w40 ⟨v425, rfl, ho0, hi, hb, hk⟩; refine ⟨_, rfl, ?_⟩; have HO426 := aM (Kd.R_lower (Kd.R_new' ho0 (Kd.R_lt (TRf HO421))) (keep_size (w := w) (g := g) (row := none) (TH HK))); replace HO421 := aM (Kd.R_mono (Kd.R_told (Kd.R_oldK (IsS108.apart (show IsS108 w0 _ g ac aB ay from TI108 HI0) (TRf HO421) (by decide)) hk) (Kd.R_base ho0)) (fun _ h_ => h_.1)); replace HK := aM (KeepBut.trans (TH HK) hk (.inl rfl)); replace HB := aM (hb); replace HI0 := aM (hi); (try clear hb); (try clear hb2); (try clear hk); (try clear hi); (try clear ho0); obtain ⟨Ao42, co42, eo42⟩ := Kd.R_slice HO426.out; subst eo42) | ((with_reducible refine gate_builtin (b := .append) (xs := #[.tmp 37, .tmp 40]) rfl ?_); at_builtin; refine Kd.R_append_rows (Kd.int .u8) w.heap.size rfl (.tmp 37) (.tmp 40) 22 5 (.int .u8 0) 1 rfl Try.underlying22 info5 rfl (by decide) (by omega) v420 ax am _ _ _ (fun k_ => some k_ ≠ (.slice Ao42 am.length co42 : Value).ownBlock) (fun _ => False) rfl rfl ?aO ?aR (fun _ _ h => h) (fun _ h => h.elim) ?aF (Below.refl _ _) ?aS ?aL ?_; (case aR => repeat (first | exact (Kd.R_reads' HO426.out).2.2 | (with_reducible refine Kd.C_alloc ?_ _) | (with_reducible refine Kd.C_drewN ?_ _) | (with_reducible refine Kd.C_drew ?_))); (case aF => exact (fun k_ hk => Kd.fresh' (Kd.R_lt (TRf HO426)) k_ hk)); (case aO => exact (by (with_reducible repeat (first | apply Kd.R_alloc | apply Kd.R_drewN | apply Kd.R_drew)); exact Kd.R_mono HO421.out (fun _ hk => hk.2))); (case aS => exact Zq17_0); (case aL => have := LMc37.out; omega); intro v430 w41 ho hb hg hat; rw [← Ny429.out] at ho; have HO431 := aM (ho); replace HO426 := aM (Kd.R_after (ok := (fun _ => True)) (TRf HO426) hg hat); replace HB := aM (below_weaken (TG108 HB HI0) HL.out hb); replace HI0 := aM (IsS108.grown (TI108 HI0) hg (IsS108.own_ne HI0.out HO421.out (by decide))); replace HK := aM (KeepBut.trans (TH HK) (KeepBut.of_grown hg g) (Kd.R_base2 HO421.out)); clear HO421; clear ho hb hg hat))
     go_ret
     exact ⟨_, TE, by (with_reducible repeat (first | apply Kd.R_alloc | apply Kd.R_drewN | apply Kd.R_drew)); exact Kd.R_mono HO431.out (fun _ hk => trivial), TI108 HI0, TG108 HB HI0, TH HK⟩
mutual
def spec_Windows.j0 : Nat → List Int → Int → List Int → Bool → Option (List Int)
  | 0, _, _, _, _ => none
  | k + 1, x0, x1, x5, x16 => if x16 = true then (some x5) else (if 0 ≤ x1 then (if x1 ≤ (x0.length : Int) then ((spec_WeakOf.f k (x0.take (x1 : Int).toNat)).bind fun t775 => (if x5.length < 17592186044416 then (spec_Windows.l0 k x0 x1 (x5 ++ [t775]) t775 x1) else (none))) else (none)) else (none))
def spec_Windows.l0 : Nat → List Int → Int → List Int → Int → Int → Option (List Int)
  | 0, _, _, _, _, _ => none
  | k + 1, x0, x1, x5, x6, x7 => if x7 < (x0.length : Int) then (if 0 ≤ (wrap64 (x7 - x1)) then (if (wrap64 (x7 - x1)) < (x0.length : Int) then (if 0 ≤ x7 then ((spec_Roll.f k x6 x1 (wrap64 (rd x0 (wrap64 (x7 - x1)))) (wrap64 (rd x0 x7))).bind fun t781 => (if x5.length < 17592186044416 then (spec_Windows.l0 k x0 x1 (x5 ++ [t781]) t781 (wrap64 (x7 + 1))) else (none))) else (none)) else (none)) else (none)) else (some x5)
end
def spec_Windows.f (k : Nat) (l0 : List Int) (a1 : Int) : Option (List Int) := (some (([] : List Int) : List Int)).bind fun y771 => (if a1 < 1 then (spec_Windows.j0 k l0 a1 y771 true) else (spec_Windows.j0 k l0 a1 y771 (decide (a1 > (l0.length : Int)))))
theorem spec_Windows.mono_l : ∀ k, (∀ y0 y1 y2 y3, LeO (spec_Windows.j0 k y0 y1 y2 y3) (spec_Windows.j0 (k + 1) y0 y1 y2 y3)) ∧ (∀ y0 y1 y2 y3 y4, LeO (spec_Windows.l0 k y0 y1 y2 y3 y4) (spec_Windows.l0 (k + 1) y0 y1 y2 y3 y4))
  | 0 => ⟨fun _ _ _ _ r h => by simp [spec_Windows.j0] at h, fun _ _ _ _ _ r h => by simp [spec_Windows.l0] at h⟩
  | k + 1 => by
    have m0_ := @spec_Roll.mono
    have m1_ := @spec_WeakOf.mono
    obtain ⟨ih0, ih1⟩ := spec_Windows.mono_l k
    refine ⟨?_, ?_⟩
    · intro y0 y1 y2 y3
      unfold spec_Windows.j0
      exact LM
    · intro y0 y1 y2 y3 y4
      unfold spec_Windows.l0
      exact LM
theorem spec_Windows.mono : ∀ a0 a1 k, LeO (spec_Windows.f k a0 a1) (spec_Windows.f (k + 1) a0 a1) := by
  intro a0 a1 k;have m0_ := @spec_Roll.mono;have m1_ := @spec_WeakOf.mono;obtain ⟨ih0, ih1⟩ := spec_Windows.mono_l k;unfold spec_Windows.f;exact LM
theorem spec_Windows.calls (k : Nat) (A0 : Option Addr) (c0 : Nat) (l0 : List Int) (a1 : Int) (r : List Int) (w : World) (hr0 : Kd.C (Kd.int .u8) w A0 l0.length l0) (hc0 : l0.length ≤ c0) (h : spec_Windows.f k l0 a1 = some r) :
  Calls Try.prog 81 #[.slice A0 l0.length c0, .int .i64 a1] w fun e w' => ∃ v0_ : Value, e = .returned (v0_) ∧ Kd.R (Kd.int .i64) 3 w' w.heap.size (fun _ => True) v0_ r ∧ Below w.heap.size w w' := by
 have HR0 := aM hr0;have HC0 := aM hc0;clear hr0 hc0;have HB := aM (Below.refl w.heap.size w);have H := h;clear h;unfold spec_Windows.f at H;obtain ⟨al, ap⟩ : ∃ y_ : List Int, y_ = (([] : List Int)) := ⟨_, rfl⟩;replace H := someE H ap;have af := aM ap;clear ap;have HC3 := aM H;clear H;go_enter Try.func81, Try.ntmps81;go_upto_region 2 with (first | ((with_reducible refine gate_dst (N := 8) rfl ?_); (try (refine gate_guard (by rfl) ?_; dsimp only)); refine Kd.R_lit (Kd.int .i64) _ 3 ?hg (N := 8) ?hd (xs := ([] : List Int)) (inner := []) (ok := fun _ => True) (okp := fun _ => True) ?hr ?hp (fun _ hk => hk) trivial (Below.refl _ _) (Nat.le_refl _) (by simp) ?_; (case hd => rfl); (case hg => rfl); (case hr => first | (go_simp; done) | (go_simp; rfl)); (case hp => exact (Reps.none _ _)); intro ai w4 ho5 hb hg_ hnew_; clear hg_ hnew_; (first | rw [← af.out] at ho5 | (simp only [Int.reduceToNat] at ho5; rw [← af.out] at ho5)); have HO773 := aM (Kd.R_lower ho5 (below_size TB)); replace HB := bS HB hb; clear hb ho5))
 repeat (go_quiet (first | ((with_reducible refine gate_dst (N := 8) rfl ?_); (try (refine gate_guard (by rfl) ?_; dsimp only)); refine Kd.R_lit (Kd.int .i64) _ 3 ?hg (N := 8) ?hd (xs := ([] : List Int)) (inner := []) (ok := fun _ => True) (okp := fun _ => True) ?hr ?hp (fun _ hk => hk) trivial (Below.refl _ _) (Nat.le_refl _) (by simp) ?_; (case hd => rfl); (case hg => rfl); (case hr => first | (go_simp; done) | (go_simp; rfl)); (case hp => exact (Reps.none _ _)); intro ai w4 ho5 hb hg_ hnew_; clear hg_ hnew_; (first | rw [← af.out] at ho5 | (simp only [Int.reduceToNat] at ho5; rw [← af.out] at ho5)); have HO773 := aM (Kd.R_lower ho5 (below_size TB)); replace HB := bS HB hb; clear hb ho5)); go_upto_region 2 with (first | ((with_reducible refine gate_dst (N := 8) rfl ?_); (try (refine gate_guard (by rfl) ?_; dsimp only)); refine Kd.R_lit (Kd.int .i64) _ 3 ?hg (N := 8) ?hd (xs := ([] : List Int)) (inner := []) (ok := fun _ => True) (okp := fun _ => True) ?hr ?hp (fun _ hk => hk) trivial (Below.refl _ _) (Nat.le_refl _) (by simp) ?_; (case hd => rfl); (case hg => rfl); (case hr => first | (go_simp; done) | (go_simp; rfl)); (case hp => exact (Reps.none _ _)); intro ai w4 ho5 hb hg_ hnew_; clear hg_ hnew_; (first | rw [← af.out] at ho5 | (simp only [Int.reduceToNat] at ho5; rw [← af.out] at ho5)); have HO773 := aM (Kd.R_lower ho5 (below_size TB)); replace HB := bS HB hb; clear hb ho5)))
 (try simp only [NP])
 go_cut [16] (fun v16 wc => ∃ (kq : Nat) (an : Bool), v16 = .bool an ∧ Aside0 (spec_Windows.j0 kq l0 a1 al an = some r) ∧ Aside0 (kq ≤ k) ∧ Aside0 (Kd.R (Kd.int .i64) 3 wc w.heap.size (fun _ => True) ai al) ∧ Aside0 (Below w.heap.size w wc))
 case first =>
  have H := HC3.out;clear HC3
  by_cases c6 : a1 < 1
  ·rw [if_pos c6] at H;have ah : decide (a1 < 1) = true := decide_eq_true c6;clear c6;(first | rw [ah] | (simp only [i64_w, i32_w]; rw [ah]) | skip);have H' := aM H;clear H;go_wp2
   repeat (go_quiet (fail); try go_wp2)
   go_meet
   case rel => exact ⟨_, (true), TF, H', ⟨by first | omega | exact Nat.le_refl _⟩, ⟨by have X_ := HO773.out; exact TR⟩, ⟨TB⟩⟩
  ·rw [if_neg c6] at H;have ah : decide (a1 < 1) = false := decide_eq_false c6;clear c6;(first | rw [ah] | (simp only [i64_w, i32_w]; rw [ah]) | skip);have H' := aM H;clear H;go_wp2
   repeat (go_quiet (fail); try go_wp2)
   go_meet
   case rel => exact ⟨_, (decide (a1 > (l0.length : Int))), TF, H', ⟨by first | omega | exact Nat.le_refl _⟩, ⟨by have X_ := HO773.out; exact TR⟩, ⟨TB⟩⟩
 case rest =>
  clear HC3;try clear p2
  try clear c6
  try clear ah
  obtain ⟨kq, an, rfl, HA, HJ2, ab, HB⟩ := hcut;cases kq with
  | zero => exact absurd HA.out (by simp [spec_Windows.j0])
  | succ kj2 =>
   have H := HA.out;clear HA;simp only [spec_Windows.j0] at H
   by_cases c7 : an = true
   ·subst c7;replace H := ifT H;obtain rfl := Option.some.inj H;go_wp2
    repeat (go_quiet (fail); try go_wp2)
    go_ret
    exact ⟨_, TE, by have X_ := ab.out; exact TR, TB⟩
   ·replace c7 := Bool.eq_false_iff.mpr c7;subst c7;replace H := ifF H;replace H := ifN H;obtain ⟨c8, H⟩ := H;have c8b0 := eq_true c8;have c8b1 : decide (0 ≤ a1) = true := decide_eq_true c8;clear c8;replace H := ifN H;obtain ⟨c9, H⟩ := H;have c9b0 := eq_true c9;have c9b1 : decide (a1 ≤ (l0.length : Int)) = true := decide_eq_true c9;clear c9;replace H := bE H;obtain ⟨ac, A10, H⟩ := H;replace H := ifN H;obtain ⟨c11, H⟩ := H;have aq := aM c11;clear c11;obtain ⟨y776, ao⟩ : ∃ y_ : List Int, y_ = (al ++ [ac]) := ⟨_, rfl⟩;rw [← ao] at H;have av := aM ao;clear ao;have H' := aM H;clear H;obtain ⟨i012, aH, _, aG, _⟩ := info_parts info5;obtain ⟨hcut12, hA12, hC12⟩ := print_take_of (P := Try.prog) (Value.int .u8) 0 22 5 .i64 Try.underlying22 aH aG A0 c0 l0 a1 DT DT HC0.out;have az := aM (Kd.C_of_reads (h1 := fun _ => rfl) (hA12 _ (Kd.reads_of_C HR0.out)));have ar := aM hC12;clear hA12 hC12 aH aG;go_wp2_with (first | (go_at_call 112; (try rw [show (a1 : Int).toNat = (l0.take (a1 : Int).toNat).length from by rw [List.length_take, Nat.min_eq_left]; have h_ : a1 ≤ (l0.length : Int) := of_decide_eq_true (by assumption); omega]); (with_reducible refine (spec_WeakOf.calls kj2 _ _ (l0.take (a1 : Int).toNat) ac _ ?side1 ?side2 A10.out).mono ?_); (case side1 => have X_ := (Kd.C_below az.out HB.out); exact TC); (case side2 => exact ar.out); rintro e w' ⟨rfl, ⟨nd, rfl⟩⟩; (try first | exact ⟨rfl, _, World.drewN_drewN _ _ _⟩ | exact ⟨rfl, _, Eq.trans (World.drewN_drewN _ _ _) (congrArg (World.drewN _) (Nat.add_assoc _ _ _))⟩)) | ((with_reducible refine gate_builtin (b := .append) (xs := #[.tmp 22, .tmp 24]) rfl ?_); (try (refine gate_guard (by rfl) ?_; dsimp only)); at_builtin; refine Kd.R_append (Kd.int .i64) (w0 := w) w.heap.size rfl (.tmp 22) (.tmp 24) 45 3 (.int .i64 0) 8 rfl Try.underlying45 info3 rfl (by decide) (by omega) ai al ac [.int .i64 ac] (fun _ => True) (fun _ => False) rfl rfl ?aP (fun _ hk => hk.elim) ?aF ?aO ?aB ?aS ?aL ?_; (case aP => exact rfl); (case aB => exact TB); (case aF => exact (fun _ _ => trivial)); (case aO => exact (TRf ab)); (case aS => exact (below_size TB)); (case aL => have := aq.out; omega); intro v777 w13 ho hb hg hat; rw [← av.out] at ho; have HO778 := aM (ho); replace HB := aM (hb); clear ab; clear ho hb hg hat))
    repeat (go_quiet (first | (go_at_call 112; (try rw [show (a1 : Int).toNat = (l0.take (a1 : Int).toNat).length from by rw [List.length_take, Nat.min_eq_left]; have h_ : a1 ≤ (l0.length : Int) := of_decide_eq_true (by assumption); omega]); (with_reducible refine (spec_WeakOf.calls kj2 _ _ (l0.take (a1 : Int).toNat) ac _ ?side1 ?side2 A10.out).mono ?_); (case side1 => have X_ := (Kd.C_below az.out HB.out); exact TC); (case side2 => exact ar.out); rintro e w' ⟨rfl, ⟨nd, rfl⟩⟩; (try first | exact ⟨rfl, _, World.drewN_drewN _ _ _⟩ | exact ⟨rfl, _, Eq.trans (World.drewN_drewN _ _ _) (congrArg (World.drewN _) (Nat.add_assoc _ _ _))⟩)) | ((with_reducible refine gate_builtin (b := .append) (xs := #[.tmp 22, .tmp 24]) rfl ?_); (try (refine gate_guard (by rfl) ?_; dsimp only)); at_builtin; refine Kd.R_append (Kd.int .i64) (w0 := w) w.heap.size rfl (.tmp 22) (.tmp 24) 45 3 (.int .i64 0) 8 rfl Try.underlying45 info3 rfl (by decide) (by omega) ai al ac [.int .i64 ac] (fun _ => True) (fun _ => False) rfl rfl ?aP (fun _ hk => hk.elim) ?aF ?aO ?aB ?aS ?aL ?_; (case aP => exact rfl); (case aB => exact TB); (case aF => exact (fun _ _ => trivial)); (case aO => exact (TRf ab)); (case aS => exact (below_size TB)); (case aL => have := aq.out; omega); intro v777 w13 ho hb hg hat; rw [← av.out] at ho; have HO778 := aM (ho); replace HB := aM (hb); clear ab; clear ho hb hg hat)); try go_wp2_with (first | (go_at_call 112; (try rw [show (a1 : Int).toNat = (l0.take (a1 : Int).toNat).length from by rw [List.length_take, Nat.min_eq_left]; have h_ : a1 ≤ (l0.length : Int) := of_decide_eq_true (by assumption); omega]); (with_reducible refine (spec_WeakOf.calls kj2 _ _ (l0.take (a1 : Int).toNat) ac _ ?side1 ?side2 A10.out).mono ?_); (case side1 => have X_ := (Kd.C_below az.out HB.out); exact TC); (case side2 => exact ar.out); rintro e w' ⟨rfl, ⟨nd, rfl⟩⟩; (try first | exact ⟨rfl, _, World.drewN_drewN _ _ _⟩ | exact ⟨rfl, _, Eq.trans (World.drewN_drewN _ _ _) (congrArg (World.drewN _) (Nat.add_assoc _ _ _))⟩)) | ((with_reducible refine gate_builtin (b := .append) (xs := #[.tmp 22, .tmp 24]) rfl ?_); (try (refine gate_guard (by rfl) ?_; dsimp only)); at_builtin; refine Kd.R_append (Kd.int .i64) (w0 := w) w.heap.size rfl (.tmp 22) (.tmp 24) 45 3 (.int .i64 0) 8 rfl Try.underlying45 info3 rfl (by decide) (by omega) ai al ac [.int .i64 ac] (fun _ => True) (fun _ => False) rfl rfl ?aP (fun _ hk => hk.elim) ?aF ?aO ?aB ?aS ?aL ?_; (case aP => exact rfl); (case aB => exact TB); (case aF => exact (fun _ _ => trivial)); (case aO => exact (TRf ab)); (case aS => exact (below_size TB)); (case aL => have := aq.out; omega); intro v777 w13 ho hb hg hat; rw [← av.out] at ho; have HO778 := aM (ho); replace HB := aM (hb); clear ab; clear ho hb hg hat)))
    go_loopg [5, 6, 7] kj2 (fun kq v5 v6 v7 w' => ∃ (ag : List Int) (aj : Int) (aa : Int), v6 = .int .i64 aj ∧ v7 = .int .i64 aa ∧ Aside0 (spec_Windows.l0 kq l0 a1 ag aj aa = some r) ∧ Aside0 (kq ≤ kj2) ∧ Aside0 (Kd.R (Kd.int .i64) 3 w' w.heap.size (fun _ => True) v5 ag) ∧ Aside0 (Below w.heap.size w w'))
    case atStart => exact ⟨(y776), (ac), (a1), TF, TF, H', ⟨Nat.le_refl _⟩, ⟨by have X_ := HO778.out; exact TR⟩, ⟨TB⟩⟩
    case round =>
     clear H';try clear c1
     try clear p2
     try clear c6
     try clear ah
     try clear c7
     try clear c8
     try clear c8b0
     try clear c8b1
     try clear c9
     try clear c9b0
     try clear c9b1
     try clear c11
     try clear p2
     obtain ⟨ag, aj, aa, rfl, rfl, HA, HK2, ab, HB⟩ := hrel;cases gk with
     | zero => exact absurd HA.out (by simp [spec_Windows.l0])
     | succ k2 =>
      have H := HA.out;clear HA;simp only [spec_Windows.l0] at H
      by_cases c14 : aa < (l0.length : Int)
      ·rw [if_pos c14] at H;have c14b0 : decide (aa < (l0.length : Int)) = true := decide_eq_true c14;clear c14;obtain ⟨ae, au⟩ : ∃ j_ : Int, (wrap64 (aa - a1)) = j_ := ⟨_, rfl⟩;(first | rw [au] at H | simp only [au] at H | skip);have hji15w : (IntKind.i64.wrap (aa - a1)) = ae := (i64_w _).trans au;replace H := ifN H;obtain ⟨c16, H⟩ := H;have c16b0 : decide (0 ≤ (ae)) = true := decide_eq_true c16;clear c16;replace H := ifN H;obtain ⟨c17, H⟩ := H;have c17b0 : decide ((ae) < (l0.length : Int)) = true := decide_eq_true c17;clear c17;replace H := ifN H;obtain ⟨c18, H⟩ := H;have c18b0 : decide (0 ≤ aa) = true := decide_eq_true c18;clear c18;replace H := bE H;obtain ⟨ad, A19, H⟩ := H;replace H := ifN H;obtain ⟨c20, H⟩ := H;have aw := aM c20;clear c20;obtain ⟨y782, ax⟩ : ∃ y_ : List Int, y_ = (ag ++ [ad]) := ⟨_, rfl⟩;rw [← ax] at H;have ay := aM ax;clear ax;have H' := aM H;clear H;have aC : 0 ≤ ((ae) : Int) := DT;have aD : (ae) < (l0.length : Int) := DT;obtain ⟨ad779, e779, am⟩ := Kd.at_int HR0.out (ae) aC aD;cases e779;replace am := (HB.out.cell (World.block_lt_of_cell? w _ am)).trans am;replace aC := eq_true aC;replace aD := eq_true aD;have aE : 0 ≤ (aa : Int) := DT;have aA : aa < (l0.length : Int) := DT;obtain ⟨ad780, e780, ak⟩ := Kd.at_int HR0.out aa aE aA;obtain rfl : ad779 = ad780 := (by injection e780);replace ak := (HB.out.cell (World.block_lt_of_cell? w _ ak)).trans ak;replace aE := eq_true aE;replace aA := eq_true aA;go_wp2_with (first | (go_at_call 113; (with_reducible refine (spec_Roll.calls k2 aj a1 (wrap64 (rd l0 (ae))) (wrap64 (rd l0 aa)) ad _ A19.out).mono ?_); rintro e w' ⟨rfl, ⟨nd, rfl⟩⟩; (try first | exact ⟨rfl, _, World.drewN_drewN _ _ _⟩ | exact ⟨rfl, _, Eq.trans (World.drewN_drewN _ _ _) (congrArg (World.drewN _) (Nat.add_assoc _ _ _))⟩)) | ((with_reducible refine gate_builtin (b := .append) (xs := #[.tmp 48, .tmp 50]) rfl ?_); (try (refine gate_guard (by rfl) ?_; dsimp only)); at_builtin; refine Kd.R_append (Kd.int .i64) (w0 := w) w.heap.size rfl (.tmp 48) (.tmp 50) 45 3 (.int .i64 0) 8 rfl Try.underlying45 info3 rfl (by decide) (by omega) u5 ag ad [.int .i64 ad] (fun _ => True) (fun _ => False) rfl rfl ?aP (fun _ hk => hk.elim) ?aF ?aO ?aB ?aS ?aL ?_; (case aP => exact rfl); (case aB => exact TB); (case aF => exact (fun _ _ => trivial)); (case aO => exact (TRf ab)); (case aS => exact (below_size TB)); (case aL => have := aw.out; omega); intro v783 w21 ho hb hg hat; rw [← ay.out] at ho; have HO784 := aM (ho); replace HB := aM (hb); clear ab; clear ho hb hg hat))
       repeat (go_quiet (first | (go_at_call 113; (with_reducible refine (spec_Roll.calls k2 aj a1 (wrap64 (rd l0 (ae))) (wrap64 (rd l0 aa)) ad _ A19.out).mono ?_); rintro e w' ⟨rfl, ⟨nd, rfl⟩⟩; (try first | exact ⟨rfl, _, World.drewN_drewN _ _ _⟩ | exact ⟨rfl, _, Eq.trans (World.drewN_drewN _ _ _) (congrArg (World.drewN _) (Nat.add_assoc _ _ _))⟩)) | ((with_reducible refine gate_builtin (b := .append) (xs := #[.tmp 48, .tmp 50]) rfl ?_); (try (refine gate_guard (by rfl) ?_; dsimp only)); at_builtin; refine Kd.R_append (Kd.int .i64) (w0 := w) w.heap.size rfl (.tmp 48) (.tmp 50) 45 3 (.int .i64 0) 8 rfl Try.underlying45 info3 rfl (by decide) (by omega) u5 ag ad [.int .i64 ad] (fun _ => True) (fun _ => False) rfl rfl ?aP (fun _ hk => hk.elim) ?aF ?aO ?aB ?aS ?aL ?_; (case aP => exact rfl); (case aB => exact TB); (case aF => exact (fun _ _ => trivial)); (case aO => exact (TRf ab)); (case aS => exact (below_size TB)); (case aL => have := aw.out; omega); intro v783 w21 ho hb hg hat; rw [← ay.out] at ho; have HO784 := aM (ho); replace HB := aM (hb); clear ab; clear ho hb hg hat)); try go_wp2_with (first | (go_at_call 113; (with_reducible refine (spec_Roll.calls k2 aj a1 (wrap64 (rd l0 (ae))) (wrap64 (rd l0 aa)) ad _ A19.out).mono ?_); rintro e w' ⟨rfl, ⟨nd, rfl⟩⟩; (try first | exact ⟨rfl, _, World.drewN_drewN _ _ _⟩ | exact ⟨rfl, _, Eq.trans (World.drewN_drewN _ _ _) (congrArg (World.drewN _) (Nat.add_assoc _ _ _))⟩)) | ((with_reducible refine gate_builtin (b := .append) (xs := #[.tmp 48, .tmp 50]) rfl ?_); (try (refine gate_guard (by rfl) ?_; dsimp only)); at_builtin; refine Kd.R_append (Kd.int .i64) (w0 := w) w.heap.size rfl (.tmp 48) (.tmp 50) 45 3 (.int .i64 0) 8 rfl Try.underlying45 info3 rfl (by decide) (by omega) u5 ag ad [.int .i64 ad] (fun _ => True) (fun _ => False) rfl rfl ?aP (fun _ hk => hk.elim) ?aF ?aO ?aB ?aS ?aL ?_; (case aP => exact rfl); (case aB => exact TB); (case aF => exact (fun _ _ => trivial)); (case aO => exact (TRf ab)); (case aS => exact (below_size TB)); (case aL => have := aw.out; omega); intro v783 w21 ho hb hg hat; rw [← ay.out] at ho; have HO784 := aM (ho); replace HB := aM (hb); clear ab; clear ho hb hg hat)))
       go_roundg k2
       case measure => have := HJ2.out; have := HK2.out; omega
       case rel => exact ⟨(y782), (ad), (wrap64 (aa + 1)), TF, TF, H', ⟨by have := HJ2.out; have := HK2.out; omega⟩, ⟨by have X_ := HO784.out; exact TR⟩, ⟨TB⟩⟩
      ·rw [if_neg c14] at H;have c14b0 : decide (aa < (l0.length : Int)) = false := decide_eq_false c14;clear c14;obtain rfl := Option.some.inj H;go_wp2
       repeat (go_quiet (fail); try go_wp2)
       go_ret
       exact ⟨_, TE, by have X_ := ab.out; exact TR, TB⟩
attribute [local go_sem] min2_int min_two
attribute [local go_sem high] eqA48
theorem Zq33_0 {p : Prop} (h : p := by (try simp only [List.map_toArray, List.map_cons, List.map_nil]); first | done | (rw [show ((l0.take ((wrap64 (x8_1 + a2)) : Int).toNat).drop (x8_1 : Int).toNat).length = ((wrap64 (x8_1 + a2)).toNat - x8_1.toNat) from (by rw [List.length_drop, List.length_take]; have h_ : ((wrap64 (x8_1 + a2)) : Int) ≤ (l0.length : Int) := DT; omega)] <;> rfl) | rfl | (simp only [List.length_drop, List.length_take]; rfl)) : p := h
theorem Zq33_1 {p : Prop} (h : p := by repeat (first | exact (Kd.C_below HR0.out TB) | (with_reducible refine Kd.C_alloc ?_ _) | (with_reducible refine Kd.C_drewN ?_ _) | (with_reducible refine Kd.C_drew ?_))) : p := h
def spec_FindSum.l0 : Nat → List Int → Int → List Int → Int → Int → Int → Option (Int)
  | 0, _, _, _, _, _, _ => none
  | k + 1, x0, x2, x7, x8, x786000, x786001 => if x8 < (x7.length : Int) then (if 0 ≤ x8 then (if (rd x7 x8) = x786000 then (if x8 ≤ (wrap64 (x8 + x2)) then (if (wrap64 (x8 + x2)) ≤ (x0.length : Int) then ((spec_SumOf.f k ((x0.take ((wrap64 (x8 + x2)) : Int).toNat).drop (x8 : Int).toNat)).bind fun bt792 => (if (bt792.1 == x786000 && (bt792.2 == x786001)) = true then (some x8) else (spec_FindSum.l0 k x0 x2 x7 (wrap64 (x8 + 1)) x786000 x786001))) else (none)) else (none)) else (spec_FindSum.l0 k x0 x2 x7 (wrap64 (x8 + 1)) x786000 x786001)) else (none)) else (some (-1))
def spec_FindSum.f (k : Nat) (l0 : List Int) (a1_0 : Int) (a1_1 : Int) (a2 : Int) : Option (Int) := (spec_l1In.f a2 1 6).bind fun t786 => (if t786 = true then ((spec_Windows.f k l0 a2).bind fun t787 => (spec_FindSum.l0 k l0 a2 t787 0 a1_0 a1_1)) else (some (-1)))
theorem spec_FindSum.mono_l : ∀ k, (∀ y0 y1 y2 y3 y4 y5, LeO (spec_FindSum.l0 k y0 y1 y2 y3 y4 y5) (spec_FindSum.l0 (k + 1) y0 y1 y2 y3 y4 y5))
  | 0 => fun _ _ _ _ _ _ r h => by simp [spec_FindSum.l0] at h
  | k + 1 => by
    have m0_ := @spec_SumOf.mono
    have m1_ := @spec_Windows.mono
    have ih0 := spec_FindSum.mono_l k
    · intro y0 y1 y2 y3 y4 y5
      unfold spec_FindSum.l0
      exact LM
theorem spec_FindSum.mono : ∀ a0 a1 a2 a3 k, LeO (spec_FindSum.f k a0 a1 a2 a3) (spec_FindSum.f (k + 1) a0 a1 a2 a3) := by
  intro a0 a1 a2 a3 k;have m0_ := @spec_SumOf.mono;have m1_ := @spec_Windows.mono;have ih0 := spec_FindSum.mono_l k;unfold spec_FindSum.f;exact LM
def spec_FindSum.T7 : Bool × List (List Nat × List Nat) := (true, [([], []), ([], []), ([0, 1], [0, 1]), ([2], [2]), ([], []), ([4], [4]), ([3, 5], [3, 5]), ([6], [6]), ([7], [7]), ([7], [7]), ([7], [7]), ([7], [7]), ([10, 11, 7], [7, 10, 11]), ([8, 9, 12, 7], [7, 8, 9, 12]), ([13, 7, 7], [7, 13]), ([7], [7]), ([14, 15, 7], [7, 14, 15]), ([7, 16], [7, 16])])
def spec_FindSum.B7 : List Nat := [0, 0, 3, 7, 0, 16, 63, 127, 255, 255, 255, 255, 3327, 8191, 16383, 255, 65535, 131071]
theorem spec_FindSum.tab7 : rtab .any (opsOf Try.f28 7) = spec_FindSum.T7 := by kernel_rfl
theorem spec_FindSum.bits7 : waitsOk spec_FindSum.T7.2 spec_FindSum.B7 = true := by kernel_rfl
theorem spec_FindSum.calls (k : Nat) (A0 : Option Addr) (c0 : Nat) (l0 : List Int) (a1_0 : Int) (a1_1 : Int) (a2 : Int) (r : Int) (w : World) (hr0 : Kd.C (Kd.int .u8) w A0 l0.length l0) (hc0 : l0.length ≤ c0) (h : spec_FindSum.f k l0 a1_0 a1_1 a2 = some r) :
    Calls Try.prog 28 #[.slice A0 l0.length c0, .agg #[.int .i64 a1_0, .int .i64 a1_1], .int .i64 a2] w fun e w' => e = .returned (.int .i64 r) ∧ Below w.heap.size w w' := by
  have hu48 := Try.underlying48
  have HR0 := aM hr0
  have HC0 := aM hc0
  clear hr0 hc0
  have HB := aM (Below.refl w.heap.size w)
  have H := h
  clear h
  unfold spec_FindSum.f at H
  replace H := bE H
  obtain ⟨t786, A4, H⟩ := H
  go_enter Try.func28, Try.ntmps28
  go_wp2_with (first | ((with_reducible refine gate_dst (N := 4) rfl ?_); refine gBx 4 #[.int .i64 a1_0, .int .i64 a1_1] 48 ?_; intro gb785 hg w6 hbox hb; have BK785 := aM (hbox); have GW785 := gW HB hg; have GE785 := gW HB hg; replace HB := bS HB hb; clear hb hbox hg) | ((with_reducible refine gate_callee (f := 80) rfl ?_); refine gL (some 10) Try.func80 #[.int .i64 a2, .int .i64 1, .int .i64 6] ?_; (with_reducible refine (spec_l1In.calls a2 1 6 t786 _ A4.out).mono ?_); rintro e w' ⟨rfl, ⟨nd, rfl⟩⟩; refine ⟨_, rfl, ?_⟩) | ((with_reducible refine gate_dst (N := 11) rfl ?_); generalize hG_ : wpList _ _ _ _ _ _ = G_))
  subst hG_
  by_cases c7 : t786 = true
  · subst c7
    replace H := ifT H
    replace H := bE H
    obtain ⟨t787, A8, H⟩ := H
    have H' := aM H
    clear H
    go_wp2_with (first | ((with_reducible refine gate_callee (f := 81) rfl ?_); refine gL (some 14) Try.func81 #[.slice A0 l0.length c0, .int .i64 a2] ?_; (with_reducible refine (spec_Windows.calls k _ _ l0 a2 t787 _ ?side1 ?side2 A8.out).mono ?_); (case side1 => exact Zq33_1); (case side2 => exact HC0.out); rintro e w9 ⟨v788, rfl, ho0, hb⟩; refine ⟨_, rfl, ?_⟩; have HO789 := aM (Kd.R_lower ho0 (below_size TB)); replace BK785 := mB BK785 hb; replace HB := bS HB hb; clear ho0 hb))
    go_loopg [8] k (fun kq v8 w' => ∃ (x8_1 : Int), v8 = .int .i64 x8_1 ∧ Aside0 (spec_FindSum.l0 kq l0 a2 t787 x8_1 a1_0 a1_1 = some r) ∧ Aside0 (kq ≤ k) ∧ Aside0 (Kd.R (Kd.int .i64) 3 w' w.heap.size (fun _ => True) v788 t787) ∧ Aside0 (w'.heap[gb785]? = some (.cells #[.int .i64 a1_0, .int .i64 a1_1] 48 (0, 0))) ∧ Aside0 (Below w.heap.size w w'))
    case atStart => exact ⟨(0), TF, H', ⟨Nat.le_refl _⟩, ⟨by have X_ := HO789.out; exact TR⟩, ⟨TK⟩, ⟨TB⟩⟩
    case round =>
      clear H'
      try clear c2
      try clear p2
      try clear c7
      try clear c8
      obtain ⟨x8_1, rfl, HA, HK1, HO_7, BK785, HB⟩ := hrel
      cases gk with
      | zero => exact absurd HA.out (by simp [spec_FindSum.l0])
      | succ k1 =>
        have H := HA.out
        clear HA
        simp only [spec_FindSum.l0] at H
        by_cases c10 : x8_1 < (t787.length : Int)
        · rw [if_pos c10] at H
          have c10b0 : decide (x8_1 < (t787.length : Int)) = true := decide_eq_true c10
          clear c10
          replace H := ifN H
          obtain ⟨c11, H⟩ := H
          have c11b0 : decide (0 ≤ x8_1) = true := decide_eq_true c11
          clear c11
          by_cases c12 : (rd t787 x8_1) = a1_0
          · rw [if_pos c12] at H
            have c12b0 : ((rd t787 x8_1) == a1_0) = true := beq_iff_eq.mpr c12
            have c12b1 : ((rd t787 x8_1) != a1_0) = false := bne_eq_false_iff_eq.mpr c12
            clear c12
            have c13b0 := eq_true (DT : 0 ≤ x8_1)
            replace H := ifN H
            obtain ⟨c14, H⟩ := H
            have c14b0 := eq_true c14
            have c14b1 : decide (x8_1 ≤ (wrap64 (x8_1 + a2))) = true := decide_eq_true c14
            replace H := ifN H
            obtain ⟨c15, H⟩ := H
            have c15b0 := eq_true c15
            have c15b1 : decide ((wrap64 (x8_1 + a2)) ≤ (l0.length : Int)) = true := decide_eq_true c15
            replace H := bE H
            obtain ⟨⟨t792, t793⟩, A16, H⟩ := H
            dsimp only at H
            by_cases c17 : (t792 == a1_0 && (t793 == a1_1)) = true
            · rw [if_pos c17] at H
              have c17b0 : (t792 == a1_0 && (t793 == a1_1)) = true := c17
              (try (have c17b1 : decide (t792 = a1_0 && (t793 == a1_1)) = true := by simpa using c17))
              (try (have c17b2 : (t792 == a1_0 && (t793 == a1_1)) = true := by simpa using c17))
              clear c17
              obtain rfl := Option.some.inj H
              obtain ⟨Ao18, co18, eo18⟩ := Kd.R_slice HO_7.out
              subst eo18
              try go_wp2
              (try (rw [drewN_self wr]; generalize hq_ : World.drewN wr _ = wr; have n0_ : Aside0 (Kd.R (Kd.int .i64) 3 wr w.heap.size (fun _ => True) (.slice Ao18 t787.length co18) t787) := ⟨by rw [← hq_]; exact (TRf HO_7)⟩; have n1_ : Aside0 (wr.heap[gb785]? = some (.cells #[.int .i64 a1_0, .int .i64 a1_1] 48 (0, 0))) := ⟨by rw [← hq_]; exact TK⟩; have n2_ : Aside0 (Below w.heap.size w wr) := ⟨by rw [← hq_]; exact TB⟩; clear HO_7 BK785 HB hq_; have HO_7 := n0_; have BK785 := n1_; have HB := n2_; clear n0_ n1_ n2_))
              replace HO_7 := rD HO_7
              replace BK785 := bD BK785
              replace HB := aM (below_drew1 HB.out)
              have p790 : 0 ≤ (x8_1 : Int) := DT
              have q790 : x8_1 < (t787.length : Int) := DT
              obtain ⟨ad790, e790, hx790_0⟩ := Kd.at_int (Kd.R_reads' HO_7.out).2.2 x8_1 p790 q790
              cases e790
              replace p790 := eq_true p790
              replace q790 := eq_true q790
              obtain ⟨i020, hi020, _, hsz20, _⟩ := info_parts info5
              obtain ⟨A20, hcut20, hA20, hC20⟩ := print_mid_of (P := Try.prog) (Value.int .u8) 0 22 5 .i64 .i64 Try.underlying22 hi020 hsz20 A0 c0 l0 x8_1 (wrap64 (x8_1 + a2)) DT (by first | omega | exact DT) DT HC0.out
              have HR791 := aM (Kd.C_of_reads (h1 := fun _ => rfl) (hA20 _ (Kd.reads_of_C HR0.out)))
              have HC791 := aM hC20
              clear hA20 hC20 hi020 hsz20
              refine start_ (n := 18) (S := fun w' => w'.cell? ⟨gb785, 0, none⟩ = some (.int .i64 a1_0) ∧ w'.cell? ⟨gb785, 1, none⟩ = some (.int .i64 a1_1) ∧ w'.cell? (ad790.add (x8_1).toNat) = some (.int .i64 (rd t787 x8_1))) (ds := []) (Array.replicate 18 false) (by kernel_rfl) rfl rfl ⟨bC BK785 0, bC BK785 1, hx790_0⟩ (fun hHeld => ?_); refine with_tabW spec_FindSum.tab7 spec_FindSum.bits7 (fun HT_ HW_ => ?_)
              generalize wr.drew = w19 at HO_7 BK785 HB HR791 hx790_0 hHeld ⊢
              refine pP 0 (some 21) ?_
              refine pP 1 (some 22) ?_
              refine pP 2 (some 23) ?_
              refine pP 4 (some 25) ?_
              refine pT 3 (some 24) ?_
              refine pT 5 (some 26) ?_
              refine pP 6 (some 27) ?_
              refine pP 7 (some 28) ?_
              refine pP 8 (some 29) ?_
              refine pP 9 (some 30) ?_
              refine pP 10 (some 31) ?_
              refine pP 11 (some 32) ?_
              refine pP 12 (some 33) ?_
              refine pP 13 (some 34) ?_
              refine pT 15 (some 36) ?_
              refine pO 14 (some 35) (fun K hK => ?_)
              refine goes_ Try.func77 (by kernel_rfl) rfl #[.slice A20 ((l0.take ((wrap64 (x8_1 + a2)) : Int).toNat).drop (x8_1 : Int).toNat).length (c0 - x8_1.toNat)] (by rfl) rfl rfl (by exact Zq33_0) ?_
              with_reducible refine (spec_SumOf.calls k1 _ _ ((l0.take ((wrap64 (x8_1 + a2)) : Int).toNat).drop (x8_1 : Int).toNat) t792 t793 _ ?side1 ?side2 A16.out).mono ?_
              (case side1 => have X_ := (Kd.C_below HR791.out HB.out); exact TC)
              (case side2 => exact HC791.out)
              rintro e w21 ⟨rfl, hb⟩
              have HS2_ := (hb.cell (World.block_lt_of_cell? _ _ (hHeld.2.2))).trans (hHeld.2.2)
              refine ⟨_, rfl, ?_⟩
              replace HO_7 := mR HO_7 hb
              replace BK785 := mB BK785 hb
              replace HB := bS HB hb
              (try clear hb)
              (try clear hb2)
              (try clear hk)
              (try clear hi)
              refine hK.out _ _ ⟨bC BK785 0, bC BK785 1, HS2_⟩ (fun hHeld => ?_)
              clear hK K
              refine nR ?_
              refine pP 16 (some 37) ?_
              refine pP 17 (some 38) ?_
              refine done_ (done_of HT_.out (by kernel_rfl)) ?_
              try go_wp2
              go_ret
              exact ⟨TE, TB⟩
            · rw [if_neg c17] at H
              have c17b0 : (t792 == a1_0 && (t793 == a1_1)) = false := by simpa using c17
              (try (have c17b1 : decide (t792 = a1_0 && (t793 == a1_1)) = false := by simpa using c17))
              (try (have c17b2 : (t792 == a1_0 && (t793 == a1_1)) = false := by simpa using c17))
              (try (have c17b3 : ¬ (t792 = a1_0 && (t793 == a1_1)) := by simpa using c17))
              clear c17
              have H' := aM H
              clear H
              obtain ⟨Ao22, co22, eo22⟩ := Kd.R_slice HO_7.out
              subst eo22
              try go_wp2
              (try (rw [drewN_self wr]; generalize hq_ : World.drewN wr _ = wr; have n0_ : Aside0 (Kd.R (Kd.int .i64) 3 wr w.heap.size (fun _ => True) (.slice Ao22 t787.length co22) t787) := ⟨by rw [← hq_]; exact (TRf HO_7)⟩; have n1_ : Aside0 (wr.heap[gb785]? = some (.cells #[.int .i64 a1_0, .int .i64 a1_1] 48 (0, 0))) := ⟨by rw [← hq_]; exact TK⟩; have n2_ : Aside0 (Below w.heap.size w wr) := ⟨by rw [← hq_]; exact TB⟩; clear HO_7 BK785 HB hq_; have HO_7 := n0_; have BK785 := n1_; have HB := n2_; clear n0_ n1_ n2_))
              replace HO_7 := rD HO_7
              replace BK785 := bD BK785
              replace HB := aM (below_drew1 HB.out)
              have p790 : 0 ≤ (x8_1 : Int) := DT
              have q790 : x8_1 < (t787.length : Int) := DT
              obtain ⟨ad790, e790, hx790_0⟩ := Kd.at_int (Kd.R_reads' HO_7.out).2.2 x8_1 p790 q790
              cases e790
              replace p790 := eq_true p790
              replace q790 := eq_true q790
              obtain ⟨i024, hi024, _, hsz24, _⟩ := info_parts info5
              obtain ⟨A24, hcut24, hA24, hC24⟩ := print_mid_of (P := Try.prog) (Value.int .u8) 0 22 5 .i64 .i64 Try.underlying22 hi024 hsz24 A0 c0 l0 x8_1 (wrap64 (x8_1 + a2)) DT (by first | omega | exact DT) DT HC0.out
              have HR791 := aM (Kd.C_of_reads (h1 := fun _ => rfl) (hA24 _ (Kd.reads_of_C HR0.out)))
              have HC791 := aM hC24
              clear hA24 hC24 hi024 hsz24
              refine start_ (n := 18) (S := fun w' => w'.cell? ⟨gb785, 0, none⟩ = some (.int .i64 a1_0) ∧ w'.cell? ⟨gb785, 1, none⟩ = some (.int .i64 a1_1) ∧ w'.cell? (ad790.add (x8_1).toNat) = some (.int .i64 (rd t787 x8_1))) (ds := []) (Array.replicate 18 false) (by kernel_rfl) rfl rfl ⟨bC BK785 0, bC BK785 1, hx790_0⟩ (fun hHeld => ?_); refine with_tabW spec_FindSum.tab7 spec_FindSum.bits7 (fun HT_ HW_ => ?_)
              generalize wr.drew = w23 at HO_7 BK785 HB HR791 hx790_0 hHeld ⊢
              refine pP 0 (some 21) ?_
              refine pP 1 (some 22) ?_
              refine pP 2 (some 23) ?_
              refine pP 4 (some 25) ?_
              refine pT 3 (some 24) ?_
              refine pT 5 (some 26) ?_
              refine pP 6 (some 27) ?_
              refine pP 7 (some 28) ?_
              refine pP 8 (some 29) ?_
              refine pP 9 (some 30) ?_
              refine pP 10 (some 31) ?_
              refine pP 11 (some 32) ?_
              refine pP 12 (some 33) ?_
              refine pP 13 (some 34) ?_
              refine pT 15 (some 36) ?_
              refine pO 14 (some 35) (fun K hK => ?_)
              refine goes_ Try.func77 (by kernel_rfl) rfl #[.slice A24 ((l0.take ((wrap64 (x8_1 + a2)) : Int).toNat).drop (x8_1 : Int).toNat).length (c0 - x8_1.toNat)] (by rfl) rfl rfl (by exact Zq33_0) ?_
              with_reducible refine (spec_SumOf.calls k1 _ _ ((l0.take ((wrap64 (x8_1 + a2)) : Int).toNat).drop (x8_1 : Int).toNat) t792 t793 _ ?side1 ?side2 A16.out).mono ?_
              (case side1 => have X_ := (Kd.C_below HR791.out HB.out); exact TC)
              (case side2 => exact HC791.out)
              rintro e w25 ⟨rfl, hb⟩
              have HS2_ := (hb.cell (World.block_lt_of_cell? _ _ (hHeld.2.2))).trans (hHeld.2.2)
              refine ⟨_, rfl, ?_⟩
              replace HO_7 := mR HO_7 hb
              replace BK785 := mB BK785 hb
              replace HB := bS HB hb
              (try clear hb)
              (try clear hb2)
              (try clear hk)
              (try clear hi)
              refine hK.out _ _ ⟨bC BK785 0, bC BK785 1, HS2_⟩ (fun hHeld => ?_)
              clear hK K
              refine nR ?_
              refine pP 16 (some 37) ?_
              refine pP 17 (some 38) ?_
              refine done_ (done_of HT_.out (by kernel_rfl)) ?_
              try go_wp2
              go_roundg k1
              case measure => have := HK1.out; omega
              case rel => exact ⟨(wrap64 (x8_1 + 1)), TF, H', ⟨by have := HK1.out; omega⟩, ⟨by have X_ := HO_7.out; exact TR⟩, ⟨TK⟩, ⟨TB⟩⟩
          · rw [if_neg c12] at H
            have c12b0 : ((rd t787 x8_1) == a1_0) = false := beq_eq_false_iff_ne.mpr c12
            have c12b1 : ((rd t787 x8_1) != a1_0) = true := bne_iff_ne.mpr c12
            have H' := aM H
            clear H
            obtain ⟨Ao26, co26, eo26⟩ := Kd.R_slice HO_7.out
            subst eo26
            try go_wp2
            (try (rw [drewN_self wr]; generalize hq_ : World.drewN wr _ = wr; have n0_ : Aside0 (Kd.R (Kd.int .i64) 3 wr w.heap.size (fun _ => True) (.slice Ao26 t787.length co26) t787) := ⟨by rw [← hq_]; exact (TRf HO_7)⟩; have n1_ : Aside0 (wr.heap[gb785]? = some (.cells #[.int .i64 a1_0, .int .i64 a1_1] 48 (0, 0))) := ⟨by rw [← hq_]; exact TK⟩; have n2_ : Aside0 (Below w.heap.size w wr) := ⟨by rw [← hq_]; exact TB⟩; clear HO_7 BK785 HB hq_; have HO_7 := n0_; have BK785 := n1_; have HB := n2_; clear n0_ n1_ n2_))
            replace HO_7 := rD HO_7
            replace BK785 := bD BK785
            replace HB := aM (below_drew1 HB.out)
            have p790 : 0 ≤ (x8_1 : Int) := DT
            have q790 : x8_1 < (t787.length : Int) := DT
            obtain ⟨ad790, e790, hx790_0⟩ := Kd.at_int (Kd.R_reads' HO_7.out).2.2 x8_1 p790 q790
            cases e790
            replace p790 := eq_true p790
            replace q790 := eq_true q790
            refine start_ (n := 18) (S := fun w' => w'.cell? ⟨gb785, 0, none⟩ = some (.int .i64 a1_0) ∧ w'.cell? ⟨gb785, 1, none⟩ = some (.int .i64 a1_1) ∧ w'.cell? (ad790.add (x8_1).toNat) = some (.int .i64 (rd t787 x8_1))) (ds := []) (Array.replicate 18 false) (by kernel_rfl) rfl rfl ⟨bC BK785 0, bC BK785 1, hx790_0⟩ (fun hHeld => ?_); refine with_tabW spec_FindSum.tab7 spec_FindSum.bits7 (fun HT_ HW_ => ?_)
            generalize wr.drew = w27 at HO_7 BK785 HB hx790_0 hHeld ⊢
            refine pP 0 (some 21) ?_
            refine pP 1 (some 22) ?_
            refine pP 2 (some 23) ?_
            refine pP 4 (some 25) ?_
            refine pT 3 (some 24) ?_
            refine pT 5 (some 26) ?_
            refine pP 6 (some 27) ?_
            refine pP 7 (some 28) ?_
            refine pX 8 (some 29) ?_
            refine pX 9 (some 30) ?_
            refine pX 10 (some 31) ?_
            refine pX 11 (some 32) ?_
            refine pX 12 (some 33) ?_
            refine pX 13 (some 34) ?_
            refine pX 14 (some 35) ?_
            refine pX 15 (some 36) ?_
            refine pX 16 (some 37) ?_
            refine pP 17 (some 38) ?_
            refine done_ (done_of HT_.out (by kernel_rfl)) ?_
            try go_wp2
            go_roundg k1
            case measure => have := HK1.out; omega
            case rel => exact ⟨(wrap64 (x8_1 + 1)), TF, H', ⟨by have := HK1.out; omega⟩, ⟨by have X_ := HO_7.out; exact TR⟩, ⟨TK⟩, ⟨TB⟩⟩
        · rw [if_neg c10] at H
          have c10b0 : decide (x8_1 < (t787.length : Int)) = false := decide_eq_false c10
          clear c10
          obtain rfl := Option.some.inj H
          obtain ⟨Ao28, co28, eo28⟩ := Kd.R_slice HO_7.out
          subst eo28
          go_wp2
          go_ret
          exact ⟨TE, TB⟩
  · replace c7 := Bool.eq_false_iff.mpr c7
    subst c7
    replace H := ifF H
    obtain rfl := Option.some.inj H
    go_wp2
    go_ret
    exact ⟨TE, TB⟩
def spec_PlaceOf.f (k : Nat) (l0 : List Int) (a1_0 : Int) (a1_1 : Int) (a1_2 : Int) (l1_3 : List (S48)) (a2 : Int) : Option (Int) := (spec_SpanOf.f a1_1 a1_2 a2).bind fun bt797 => (if bt797.2 = 0 then (some (-1)) else (if a2 ≥ (l1_3.length : Int) then (some (-1)) else (if 0 ≤ a2 then (if a2 < (l1_3.length : Int) then ((spec_FindSum.f k l0 ((rd_T48 l1_3 a2).f0) ((rd_T48 l1_3 a2).f1) bt797.2).bind fun t800 => (some t800)) else (none)) else (none))))
theorem spec_PlaceOf.mono : ∀ a0 a1 a2 a3 a4 a5 k, LeO (spec_PlaceOf.f k a0 a1 a2 a3 a4 a5) (spec_PlaceOf.f (k + 1) a0 a1 a2 a3 a4 a5) := by
  intro a0 a1 a2 a3 a4 a5 k;have m0_ := @spec_FindSum.mono;unfold spec_PlaceOf.f;exact LM
theorem spec_PlaceOf.calls (k : Nat) (A0 : Option Addr) (c0 : Nat) (l0 : List Int) (a1_0 : Int) (a1_1 : Int) (a1_2 : Int) (A1_3 : Option Addr) (c1_3 : Nat) (l1_3 : List (S48)) (a2 : Int) (r : Int) (w : World) (hr0 : Kd.C (Kd.int .u8) w A0 l0.length l0) (hc0 : l0.length ≤ c0) (hr1_3 : Kd.C k48 w A1_3 l1_3.length l1_3) (hc1_3 : l1_3.length ≤ c1_3) (h : spec_PlaceOf.f k l0 a1_0 a1_1 a1_2 l1_3 a2 = some r) :
    Calls Try.prog 34 #[.slice A0 l0.length c0, .agg #[.int .i64 a1_0, .int .i64 a1_1, .int .i64 a1_2, .slice A1_3 l1_3.length c1_3], .int .i64 a2] w fun e w' => e = .returned (.int .i64 r) ∧ Below w.heap.size w w' := by
  have hu28 := Try.underlying28
  have hu48 := Try.underlying48
  have HR0 := aM hr0
  have HC0 := aM hc0
  clear hr0 hc0
  have HR1_3 := aM hr1_3
  have HC1_3 := aM hc1_3
  clear hr1_3 hc1_3
  have HB := aM (Below.refl w.heap.size w)
  have H := h
  clear h
  unfold spec_PlaceOf.f at H
  replace H := bE H
  obtain ⟨⟨t797, t798⟩, A4, H⟩ := H
  dsimp only at H
  go_enter Try.func34, Try.ntmps34
  go_wp2_with (first | ((with_reducible refine gate_dst (N := 4) rfl ?_); (try (refine gate_guard (by rfl) ?_; dsimp only)); refine gBx 4 #[.int .i64 a1_0, .int .i64 a1_1, .int .i64 a1_2, .slice A1_3 l1_3.length c1_3] 28 ?_; intro gb796 hg w5 hbox hb; have BK796 := aM (hbox); have GW796 := gW HB hg; have GE796 := gW HB hg; replace HB := bS HB hb; clear hb hbox hg; obtain ⟨hcz6_0, hcz6_1, hcz6_2, hcz6_3⟩ := cz4 BK796.out; obtain ⟨hfz6_0, hfz6_1, hfz6_2, hfz6_3⟩ := fz4 BK796.out) | ((with_reducible refine gate_callee (f := 76) rfl ?_); (with_reducible refine gate_dst (N := 15) rfl ?_); generalize hG_ : wpList _ _ _ _ _ _ = G_))
  subst hG_
  by_cases c7 : t798 = 0
  · rw [if_pos c7] at H
    have c7b0 : (t798 == 0) = true := beq_iff_eq.mpr c7
    have c7b1 : (t798 != 0) = false := bne_eq_false_iff_eq.mpr c7
    clear c7
    obtain rfl := Option.some.inj H
    go_wp2_with (first | ((with_reducible refine gate_callee (f := 76) rfl ?_); refine gL (some 15) Try.func76 #[.int .i64 a1_1, .int .i64 a1_2, .int .i64 a2] ?_; (with_reducible refine (spec_SpanOf.calls a1_1 a1_2 a2 t797 t798 _ A4.out).mono ?_); rintro e w' ⟨rfl, ⟨nd, rfl⟩⟩; refine ⟨_, rfl, ?_⟩))
    go_ret
    exact ⟨TE, TB⟩
  · rw [if_neg c7] at H
    have c7b0 : (t798 == 0) = false := beq_eq_false_iff_ne.mpr c7
    have c7b1 : (t798 != 0) = true := bne_iff_ne.mpr c7
    by_cases c8 : a2 ≥ (l1_3.length : Int)
    · rw [if_pos c8] at H
      have c8b0 : decide ((l1_3.length : Int) ≤ a2) = true := decide_eq_true c8
      clear c8
      obtain rfl := Option.some.inj H
      go_wp2_with (first | ((with_reducible refine gate_callee (f := 76) rfl ?_); refine gL (some 15) Try.func76 #[.int .i64 a1_1, .int .i64 a1_2, .int .i64 a2] ?_; (with_reducible refine (spec_SpanOf.calls a1_1 a1_2 a2 t797 t798 _ A4.out).mono ?_); rintro e w' ⟨rfl, ⟨nd, rfl⟩⟩; refine ⟨_, rfl, ?_⟩; obtain ⟨hcz9_0, hcz9_1, hcz9_2, hcz9_3⟩ := cz4 BK796.out; obtain ⟨hfz9_0, hfz9_1, hfz9_2, hfz9_3⟩ := fz4 BK796.out))
      go_ret
      exact ⟨TE, TB⟩
    · rw [if_neg c8] at H
      have c8b0 : decide ((l1_3.length : Int) ≤ a2) = false := decide_eq_false c8
      clear c8
      replace H := ifN H
      obtain ⟨c10, H⟩ := H
      have c10b0 : decide (0 ≤ a2) = true := decide_eq_true c10
      clear c10
      replace H := ifN H
      obtain ⟨c11, H⟩ := H
      have c11b0 : decide (a2 < (l1_3.length : Int)) = true := decide_eq_true c11
      clear c11
      replace H := bE H
      obtain ⟨t800, A12, H⟩ := H
      obtain rfl := Option.some.inj H
      go_wp2_with (first | ((with_reducible refine gate_callee (f := 76) rfl ?_); refine gL (some 15) Try.func76 #[.int .i64 a1_1, .int .i64 a1_2, .int .i64 a2] ?_; (with_reducible refine (spec_SpanOf.calls a1_1 a1_2 a2 t797 t798 _ A4.out).mono ?_); rintro e w' ⟨rfl, ⟨nd, rfl⟩⟩; refine ⟨_, rfl, ?_⟩; obtain ⟨hcz13_0, hcz13_1, hcz13_2, hcz13_3⟩ := cz4 BK796.out; obtain ⟨hfz13_0, hfz13_1, hfz13_2, hfz13_3⟩ := fz4 BK796.out; have p799 : 0 ≤ (a2 : Int) := DT; have q799 : a2 < (l1_3.length : Int) := DT; obtain ⟨ad799, e799, hx799_0, hx799_1⟩ := at_T48 HR1_3.out a2 p799 q799; cases e799; replace hx799_0 := (HB.out.cell (World.block_lt_of_cell? w _ hx799_0)).trans hx799_0; replace hx799_1 := (HB.out.cell (World.block_lt_of_cell? w _ hx799_1)).trans hx799_1; replace p799 := eq_true p799; replace q799 := eq_true q799) | ((with_reducible refine gate_callee (f := 28) rfl ?_); refine gL (some 34) Try.func28 #[.slice A0 l0.length c0, .agg #[.int .i64 ((rd_T48 l1_3 a2).f0), .int .i64 ((rd_T48 l1_3 a2).f1)], .int .i64 t798] ?_; (with_reducible refine (spec_FindSum.calls k _ _ l0 ((rd_T48 l1_3 a2).f0) ((rd_T48 l1_3 a2).f1) t798 t800 _ ?side1 ?side2 A12.out).mono ?_); (case side1 => exact Zq33_1); (case side2 => exact HC0.out); rintro e w14 ⟨rfl, hb⟩; refine ⟨_, rfl, ?_⟩; replace BK796 := mB BK796 hb; replace HB := bS HB hb; clear hb))
      go_ret
      exact ⟨TE, TB⟩
def spec_SetOk.f (a0 : Int) : Option (Bool) := (spec_l1In.f a0 0 1099511627775).bind fun t801 => (some t801)
theorem spec_SetOk.calls (a0 : Int) (r : Bool) (w : World) (h : spec_SetOk.f a0 = some r) :
    Calls Try.prog 100 #[.int .i64 a0] w fun e w' => e = .returned (.bool r) ∧ Drawn0 w w' := by
  have H := h
  clear h
  unfold spec_SetOk.f at H
  replace H := bE H
  obtain ⟨t801, A2, H⟩ := H
  obtain rfl := Option.some.inj H
  go_enter Try.func100, Try.ntmps100
  go_wp2_with (first | ((with_reducible refine gate_callee (f := 80) rfl ?_); refine gL (some 4) Try.func80 #[.int .i64 a0, .int .i64 0, .int .i64 1099511627775] ?_; (with_reducible refine (spec_l1In.calls a0 0 1099511627775 t801 _ A2.out).mono ?_); rintro e w' ⟨rfl, ⟨nd, rfl⟩⟩; refine ⟨_, rfl, ?_⟩))
  go_ret
  exact ⟨by first | rfl | (simp; done) | (simp [*]; done), TD⟩
def spec_WithPart.f (a0 : Int) (a1 : Int) : Option (Int) := (spec_SetOk.f a0).bind fun t802 => (if t802 = true then ((spec_l1In.f a1 0 39).bind fun t803 => (if t803 = true then (if 0 ≤ a1 then (some (Go.bits .or .i64 a0 (shl .i64 1 a1))) else (none)) else (some a0))) else (some a0))
theorem spec_WithPart.calls (a0 : Int) (a1 : Int) (r : Int) (w : World) (h : spec_WithPart.f a0 a1 = some r) :
    Calls Try.prog 82 #[.int .i64 a0, .int .i64 a1] w fun e w' => e = .returned (.int .i64 r) ∧ Drawn0 w w' := by
  have H := h
  clear h
  unfold spec_WithPart.f at H
  replace H := bE H
  obtain ⟨t802, A3, H⟩ := H
  by_cases c4 : t802 = true
  · subst c4
    replace H := ifT H
    replace H := bE H
    obtain ⟨t803, A5, H⟩ := H
    by_cases c6 : t803 = true
    · subst c6
      replace H := ifT H
      replace H := ifN H
      obtain ⟨c7, H⟩ := H
      have c7b0 := eq_true c7
      have c7b1 : decide (0 ≤ a1) = true := decide_eq_true c7
      clear c7
      obtain ⟨ji8, hji8⟩ : ∃ j_ : Int, (shl .i64 1 a1) = j_ := ⟨_, rfl⟩
      (first | rw [hji8] at H | simp only [hji8] at H | skip)
      (try rw [hji8] at A3)
      (try rw [hji8] at A5)
      have hji8_ : (IntKind.i64.wrap (1 * 2 ^ min a1.toNat 64)) = ji8 := hji8
      have hji8z : a1 ≤ 64 → (IntKind.i64.wrap (1 * 2 ^ a1.toNat)) = ji8 := shl_small hji8
      have hji8u : (IntKind.i64.wrap (2 ^ min a1.toNat 64)) = ji8 := by have h_ := hji8_; rw [Int.one_mul] at h_; exact h_
      have hji8v : a1 ≤ 64 → (IntKind.i64.wrap (2 ^ a1.toNat)) = ji8 := fun hle_ => by have h_ := hji8z hle_; rw [Int.one_mul] at h_; exact h_
      have hji8y : (wrap64 (1 * 2 ^ min a1.toNat 64)) = ji8 := (i64_w _).symm.trans hji8_
      have hji8x : a1 ≤ 64 → (wrap64 (1 * 2 ^ a1.toNat)) = ji8 := fun h_ => (i64_w _).symm.trans (hji8z h_)
      obtain rfl := Option.some.inj H
      go_enter Try.func82, Try.ntmps82
      go_wp2_with (first | ((with_reducible refine gate_callee (f := 100) rfl ?_); refine gL (some 6) Try.func100 #[.int .i64 a0] ?_; (with_reducible refine (spec_SetOk.calls a0 true _ A3.out).mono ?_); rintro e w' ⟨rfl, ⟨nd, rfl⟩⟩; refine ⟨_, rfl, ?_⟩) | (go_at_call 80; (with_reducible refine (spec_l1In.calls a1 0 39 true _ A5.out).mono ?_); rintro e w' ⟨rfl, ⟨nd, rfl⟩⟩))
      go_ret
      exact ⟨by first | rfl | (simp; done) | (simp only [← hji8] <;> (first | rfl | simp)) | (simp [*]; done), TD⟩
    · replace c6 := Bool.eq_false_iff.mpr c6
      subst c6
      replace H := ifF H
      obtain rfl := Option.some.inj H
      go_enter Try.func82, Try.ntmps82
      go_wp2_with (first | ((with_reducible refine gate_callee (f := 100) rfl ?_); refine gL (some 6) Try.func100 #[.int .i64 a0] ?_; (with_reducible refine (spec_SetOk.calls a0 true _ A3.out).mono ?_); rintro e w' ⟨rfl, ⟨nd, rfl⟩⟩; refine ⟨_, rfl, ?_⟩) | (go_at_call 80; (with_reducible refine (spec_l1In.calls a1 0 39 false _ A5.out).mono ?_); rintro e w' ⟨rfl, ⟨nd, rfl⟩⟩))
      go_ret
      exact ⟨by first | rfl | (simp; done) | (simp [*]; done), TD⟩
  · replace c4 := Bool.eq_false_iff.mpr c4
    subst c4
    replace H := ifF H
    obtain rfl := Option.some.inj H
    go_enter Try.func82, Try.ntmps82
    go_wp2_with (first | ((with_reducible refine gate_callee (f := 100) rfl ?_); refine gL (some 6) Try.func100 #[.int .i64 a0] ?_; (with_reducible refine (spec_SetOk.calls a0 false _ A3.out).mono ?_); rintro e w' ⟨rfl, ⟨nd, rfl⟩⟩; refine ⟨_, rfl, ?_⟩))
    go_ret
    exact ⟨by first | rfl | (simp; done) | (simp [*]; done), TD⟩
def spec_InSet.f (a0 : Int) (a1 : Int) : Option (Bool) := (spec_SetOk.f a0).bind fun t815 => (if t815 = true then ((spec_l1In.f a1 0 39).bind fun t816 => (if t816 = true then (if 0 ≤ a1 then (some ((Go.bits .and .i64 (shr .i64 a0 a1) 1) == 1)) else (none)) else (some false))) else (some false))
theorem spec_InSet.calls (a0 : Int) (a1 : Int) (r : Bool) (w : World) (h : spec_InSet.f a0 a1 = some r) :
  Calls Try.prog 98 #[.int .i64 a0, .int .i64 a1] w fun e w' => e = .returned (.bool r) ∧ Drawn0 w w' := by
 have H := h;clear h;unfold spec_InSet.f at H;replace H := bE H;obtain ⟨t815, A3, H⟩ := H
 by_cases c4 : t815 = true
 ·subst c4;replace H := ifT H;replace H := bE H;obtain ⟨t816, A5, H⟩ := H
  by_cases c6 : t816 = true
  ·subst c6;replace H := ifT H;replace H := ifN H;obtain ⟨c7, H⟩ := H;have c7b0 := eq_true c7;have c7b1 : decide (0 ≤ a1) = true := decide_eq_true c7;clear c7;obtain ⟨ji8, aa⟩ : ∃ j_ : Int, (shr .i64 a0 a1) = j_ := ⟨_, rfl⟩;(first | rw [aa] at H | simp only [aa] at H | skip);(try rw [aa] at A3);(try rw [aa] at A5);have hji8_ : (a0 / 2 ^ min a1.toNat 64) = ji8 := aa;have hji8z : a1 ≤ 64 → (a0 / 2 ^ a1.toNat) = ji8 := shr_small aa;obtain rfl := Option.some.inj H;go_enter Try.func98, Try.ntmps98;go_wp2_with (first | ((with_reducible refine gate_callee (f := 100) rfl ?_); refine gL (some 6) Try.func100 #[.int .i64 a0] ?_; (with_reducible refine (spec_SetOk.calls a0 true _ A3.out).mono ?_); rintro e w' ⟨rfl, ⟨nd, rfl⟩⟩; refine ⟨_, rfl, ?_⟩) | (go_at_call 80; (with_reducible refine (spec_l1In.calls a1 0 39 true _ A5.out).mono ?_); rintro e w' ⟨rfl, ⟨nd, rfl⟩⟩))
   go_ret
   exact ⟨by first | rfl | (simp; done) | (simp only [← aa] <;> (first | rfl | simp)) | (simp [*]; done), TD⟩
  ·replace c6 := Bool.eq_false_iff.mpr c6;subst c6;replace H := ifF H;obtain rfl := Option.some.inj H;go_enter Try.func98, Try.ntmps98;go_wp2_with (first | ((with_reducible refine gate_callee (f := 100) rfl ?_); refine gL (some 6) Try.func100 #[.int .i64 a0] ?_; (with_reducible refine (spec_SetOk.calls a0 true _ A3.out).mono ?_); rintro e w' ⟨rfl, ⟨nd, rfl⟩⟩; refine ⟨_, rfl, ?_⟩) | (go_at_call 80; (with_reducible refine (spec_l1In.calls a1 0 39 false _ A5.out).mono ?_); rintro e w' ⟨rfl, ⟨nd, rfl⟩⟩))
   go_ret
   exact ⟨by first | rfl | (simp; done) | (simp [*]; done), TD⟩
 ·replace c4 := Bool.eq_false_iff.mpr c4;subst c4;replace H := ifF H;obtain rfl := Option.some.inj H;go_enter Try.func98, Try.ntmps98;go_wp2_with (first | ((with_reducible refine gate_callee (f := 100) rfl ?_); refine gL (some 6) Try.func100 #[.int .i64 a0] ?_; (with_reducible refine (spec_SetOk.calls a0 false _ A3.out).mono ?_); rintro e w' ⟨rfl, ⟨nd, rfl⟩⟩; refine ⟨_, rfl, ?_⟩))
  go_ret
  exact ⟨by first | rfl | (simp; done) | (simp [*]; done), TD⟩
end Go.Proofs.Ytfkndpjbkndhcaa.Q
