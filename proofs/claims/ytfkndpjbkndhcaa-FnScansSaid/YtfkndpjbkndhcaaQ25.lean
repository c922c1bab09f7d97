/- Functions of the program as plain Lean functions, and that a call of each comes to what its function tells. Written by a program of this seat. -/
import Derived.Test.YtfkndpjbkndhcaaQ0
import Derived.Test.YtfkndpjbkndhcaaQ24
namespace Go.Proofs.Ytfkndpjbkndhcaa.Q
open Go.RowKit Go.Proofs.YtfkndpjbkndhcaaW.PrintWords Go.Proofs.YtfkndpjbkndhcaaW.PrintLast Go.Proofs.YtfkndpjbkndhcaaW.PrintMore
attribute [local go_sem] max2_int min2_int max_two min_two max_three min_three max_four min_four   -- for this text's walks alone
set_option linter.unusedVariables false
set_option linter.unusedSimpArgs false

/-! ### spec_BlockAt: function 96 -/
def spec_BlockAt.f (l0 : List Int) (a1 : Int) (a2 : Int) : Option (List Int × Bool) := (spec_SpanOf.f a1 (l0.length : Int) a2).bind fun bt562 => (if bt562.2 = 0 then (some ((([] : List Int)), false)) else ((some (([] : List Int) : List Int)).bind fun y567 => (if 0 ≤ bt562.1 then (if bt562.1 ≤ (wrap64 (bt562.1 + bt562.2)) then (if (wrap64 (bt562.1 + bt562.2)) ≤ (l0.length : Int) then (if y567.length + ((l0.take ((wrap64 (bt562.1 + bt562.2)) : Int).toNat).drop (bt562.1 : Int).toNat).length < 140737488355328 then (some ((y567 ++ ((l0.take ((wrap64 (bt562.1 + bt562.2)) : Int).toNat).drop (bt562.1 : Int).toNat)), true)) else (none)) else (none)) else (none)) else (none))))
set_option maxHeartbeats 40000000 in
set_option maxRecDepth 100000 in
theorem spec_BlockAt.calls (A0 : Option Addr) (c0 : Nat) (l0 : List Int) (a1 : Int) (a2 : Int) (r1 : List Int) (r2 : Bool) (w : World) (hr0 : Kd.C (Kd.int .u8) w A0 l0.length l0) (hc0 : l0.length ≤ c0) (h : spec_BlockAt.f l0 a1 a2 = some (r1, r2)) :
    Calls Try.prog 96 #[.slice A0 l0.length c0, .int .i64 a1, .int .i64 a2] w fun e w' => ∃ v0_ : Value, e = .returned (.tuple #[v0_, .bool r2]) ∧ Kd.R (Kd.int .u8) 5 w' w.heap.size (fun _ => True) v0_ r1 ∧ Below w.heap.size w w' := by
  have HR0 := aM hr0
  have HC0 := aM hc0
  clear hr0 hc0
  have HB := aM (Below.refl w.heap.size w)
  have H := h
  clear h
  unfold spec_BlockAt.f at H
  replace H := bE H
  obtain ⟨⟨t562, t563⟩, A4, H⟩ := H
  dsimp only at H
  by_cases c5 : t563 = 0
  · rw [if_pos c5] at H
    have c5b0 : (t563 == 0) = true := beq_iff_eq.mpr c5
    have c5b1 : (t563 != 0) = false := bne_eq_false_iff_eq.mpr c5
    clear c5
    obtain ⟨y564, hy564⟩ : ∃ y_ : List Int, y_ = (([] : List Int)) := ⟨_, rfl⟩
    rw [← hy564] at H
    have Ny564 := aM hy564
    clear hy564
    simp only [Option.some.injEq, Prod.mk.injEq] at H
    obtain ⟨rfl, rfl⟩ := H
    go_enter Try.func96, Try.ntmps96
    go_wp2_with (first | ((with_reducible refine gate_callee (f := 76) rfl ?_); refine gL (some 15) Try.func76 #[.int .i64 a1, .int .i64 (l0.length : Int), .int .i64 a2] ?_; (with_reducible refine (spec_SpanOf.calls a1 (l0.length : Int) a2 t562 t563 _ A4.out).mono ?_); rintro e w' ⟨rfl, ⟨nd, rfl⟩⟩; refine ⟨_, rfl, ?_⟩) | ((with_reducible refine gate_dst (N := 20) rfl ?_); refine Kd.R_lit (Kd.int .u8) _ 5 ?hg (N := 20) ?hd (xs := ([] : List Int)) (inner := []) (ok := fun _ => True) (okp := fun _ => True) ?hr ?hp (fun _ hk => hk) trivial (Below.refl _ _) (Nat.le_refl _) (by simp) ?_; (case hd => rfl); (case hg => rfl); (case hr => first | (go_simp; done) | (go_simp; rfl)); (case hp => exact (Reps.none _ _)); intro v565 w6 ho7 hb hg_ hnew_; clear hg_ hnew_; (first | rw [← Ny564.out] at ho7 | (simp only [Int.reduceToNat] at ho7; rw [← Ny564.out] at ho7)); have HO566 := aM (Kd.R_lower ho7 (below_size TB)); replace HB := aM (below_step TB hb); clear hb ho7))
    go_ret2
    exact ⟨_, by first | rfl | (simp [errW_none, errW_some] <;> rfl) | (simp [*, errW_none, errW_some] <;> rfl), by have X_ := HO566.out; exact TR, TB⟩
  · rw [if_neg c5] at H
    have c5b0 : (t563 == 0) = false := beq_eq_false_iff_ne.mpr c5
    have c5b1 : (t563 != 0) = true := bne_iff_ne.mpr c5
    obtain ⟨y567, hy567⟩ : ∃ y_ : List Int, y_ = (([] : List Int)) := ⟨_, rfl⟩
    replace H := someE H hy567
    have Ny567 := aM hy567
    clear hy567
    replace H := ifN H
    obtain ⟨c8, H⟩ := H
    have c8b0 := eq_true c8
    have c8b1 : decide (0 ≤ t562) = true := decide_eq_true c8
    clear c8
    replace H := ifN H
    obtain ⟨c9, H⟩ := H
    have c9b0 := eq_true c9
    have c9b1 : decide (t562 ≤ (wrap64 (t562 + t563))) = true := decide_eq_true c9
    replace H := ifN H
    obtain ⟨c10, H⟩ := H
    have c10b0 := eq_true c10
    have c10b1 : decide ((wrap64 (t562 + t563)) ≤ (l0.length : Int)) = true := decide_eq_true c10
    replace H := ifN H
    obtain ⟨c11, H⟩ := H
    have LMc11 := aM c11
    clear c11
    obtain ⟨y571, hy571⟩ : ∃ y_ : List Int, y_ = (y567 ++ ((l0.take ((wrap64 (t562 + t563)) : Int).toNat).drop (t562 : Int).toNat)) := ⟨_, rfl⟩
    rw [← hy571] at H
    have Ny571 := aM hy571
    clear hy571
    simp only [Option.some.injEq, Prod.mk.injEq] at H
    obtain ⟨rfl, rfl⟩ := H
    go_enter Try.func96, Try.ntmps96
    go_wp2_with (first | ((with_reducible refine gate_callee (f := 76) rfl ?_); refine gL (some 15) Try.func76 #[.int .i64 a1, .int .i64 (l0.length : Int), .int .i64 a2] ?_; (with_reducible refine (spec_SpanOf.calls a1 (l0.length : Int) a2 t562 t563 _ A4.out).mono ?_); rintro e w' ⟨rfl, ⟨nd, rfl⟩⟩; refine ⟨_, rfl, ?_⟩) | ((with_reducible refine gate_dst (N := 21) rfl ?_); refine Kd.R_lit (Kd.int .u8) _ 5 ?hg (N := 21) ?hd (xs := ([] : List Int)) (inner := []) (ok := fun _ => True) (okp := fun _ => True) ?hr ?hp (fun _ hk => hk) trivial (Below.refl _ _) (Nat.le_refl _) (by simp) ?_; (case hd => rfl); (case hg => rfl); (case hr => first | (go_simp; done) | (go_simp; rfl)); (case hp => exact (Reps.none _ _)); intro v568 w12 ho13 hb hg_ hnew_; clear hg_ hnew_; (first | rw [← Ny567.out] at ho13 | (simp only [Int.reduceToNat] at ho13; rw [← Ny567.out] at ho13)); have HO569 := aM (Kd.R_lower ho13 (below_size TB)); replace HB := aM (below_step TB hb); clear hb ho13; obtain ⟨i014, hi014, _, hsz14, _⟩ := info_parts info5; obtain ⟨A14, hcut14, hA14, hC14⟩ := print_mid_of (P := Try.prog) (Value.int .u8) 0 22 5 .i64 .i64 Try.underlying22 hi014 hsz14 A0 c0 l0 t562 (wrap64 (t562 + t563)) DT (by first | omega | exact DT) DT HC0.out; have HR570 := aM (Kd.C_of_reads (h1 := fun _ => rfl) (hA14 _ (Kd.reads_of_C HR0.out))); have HC570 := aM hC14; clear hA14 hC14 hi014 hsz14) | ((with_reducible refine gate_builtin (b := .append) (xs := #[.tmp 21, .tmp 27]) rfl ?_); at_builtin; refine Kd.R_append_rows (Kd.int .u8) (w0 := w) w.heap.size rfl (.tmp 21) (.tmp 27) 22 5 (.int .u8 0) 1 rfl Try.underlying22 info5 rfl (by decide) (by omega) v568 y567 ((l0.take ((wrap64 (t562 + t563)) : Int).toNat).drop (t562 : Int).toNat) _ _ _ (fun _ => True) (fun _ => False) rfl rfl ?aO ?aR (fun _ _ h => h) (fun _ h => h.elim) ?aF ?aB ?aS ?aL ?_; (case aR => first | ((conv => arg 5; rw [← show ((l0.take ((wrap64 (t562 + t563)) : Int).toNat).drop (t562 : Int).toNat).length = ((wrap64 (t562 + t563)).toNat - t562.toNat) from (by rw [List.length_drop, List.length_take]; have h_ : ((wrap64 (t562 + t563)) : Int) ≤ (l0.length : Int) := DT; omega)]); repeat (first | exact (Kd.C_below HR570.out HB.out) | (with_reducible refine Kd.C_alloc ?_ _) | (with_reducible refine Kd.C_drewN ?_ _) | (with_reducible refine Kd.C_drew ?_))) | (repeat (first | exact (Kd.C_below HR570.out HB.out) | (with_reducible refine Kd.C_alloc ?_ _) | (with_reducible refine Kd.C_drewN ?_ _) | (with_reducible refine Kd.C_drew ?_)))); (case aB => exact TB); (case aF => exact (fun _ _ => trivial)); (case aO => exact (by have X_ := HO569.out; exact TR)); (case aS => exact (below_size TB)); (case aL => have := LMc11.out; have hlx_ := (show ((l0.take ((wrap64 (t562 + t563)) : Int).toNat).drop (t562 : Int).toNat).length = ((wrap64 (t562 + t563)).toNat - t562.toNat) from (by rw [List.length_drop, List.length_take]; have h_ : ((wrap64 (t562 + t563)) : Int) ≤ (l0.length : Int) := DT; omega)); omega); intro v572 w15 ho hb hg hat; rw [← Ny571.out] at ho; have HO573 := aM (ho); replace HB := aM (hb); clear HO569; clear ho hb hg hat))
    go_ret2
    exact ⟨_, by first | rfl | (simp [errW_none, errW_some] <;> rfl) | (simp [*, errW_none, errW_some] <;> rfl), by have X_ := HO573.out; exact TR, TB⟩

/-! ### spec_SumsOf: function 127 -/
def spec_SumsOf.l0 : Nat → List Int → Int → List (S48) → Int → Option ((List (S48)))
  | 0, _, _, _, _ => none
  | k + 1, x0, x1, x5, x6 => (spec_Blocks.f x1 (x0.length : Int)).bind fun t577 => (if x6 < t577 then ((spec_BlockAt.f x0 x1 x6).bind fun bt578 => ((spec_SumOf.f k bt578.1).bind fun bt582 => (if x5.length < 8796093022208 then (spec_SumsOf.l0 k x0 x1 (x5 ++ [(⟨bt582.1, bt582.2⟩ : S48)]) (wrap64 (x6 + 1))) else (none)))) else (some x5))
def spec_SumsOf.f (k : Nat) (l0 : List Int) (a1 : Int) : Option ((List (S48))) := spec_SumsOf.l0 k l0 a1 (([] : List (S48))) 0
theorem spec_SumsOf.mono_l : ∀ k, (∀ y0 y1 y2 y3, LeO (spec_SumsOf.l0 k y0 y1 y2 y3) (spec_SumsOf.l0 (k + 1) y0 y1 y2 y3))
  | 0 => fun _ _ _ _ r h => by simp [spec_SumsOf.l0] at h
  | k + 1 => by
    have m0_ := @spec_SumOf.mono
    have ih0 := spec_SumsOf.mono_l k
    · intro y0 y1 y2 y3
      unfold spec_SumsOf.l0
      exact LM
theorem spec_SumsOf.mono : ∀ a0 a1 k, LeO (spec_SumsOf.f k a0 a1) (spec_SumsOf.f (k + 1) a0 a1) := by
  intro a0 a1 k
  have m0_ := @spec_SumOf.mono
  have ih0 := spec_SumsOf.mono_l k
  unfold spec_SumsOf.f
  exact LM
set_option maxHeartbeats 40000000 in
set_option maxRecDepth 100000 in
theorem spec_SumsOf.calls (k : Nat) (A0 : Option Addr) (c0 : Nat) (l0 : List Int) (a1 : Int) (r : List (S48)) (w : World) (hr0 : Kd.C (Kd.int .u8) w A0 l0.length l0) (hc0 : l0.length ≤ c0) (h : spec_SumsOf.f k l0 a1 = some r) :
    Calls Try.prog 127 #[.slice A0 l0.length c0, .int .i64 a1] w fun e w' => ∃ v0_ : Value, e = .returned (v0_) ∧ Kd.R k48 48 w' w.heap.size (fun _ => True) v0_ r ∧ Below w.heap.size w w' := by
  have HR0 := aM hr0
  have HC0 := aM hc0
  clear hr0 hc0
  have HB := aM (Below.refl w.heap.size w)
  have H := h
  clear h
  unfold spec_SumsOf.f at H
  obtain ⟨y574, hy574⟩ : ∃ y_ : List (S48), y_ = (([] : List (S48))) := ⟨_, rfl⟩
  rw [← hy574] at H
  have Ny574 := aM hy574
  clear hy574
  have H' := aM H
  clear H
  go_enter Try.func127, Try.ntmps127
  go_wp2_with (first | ((with_reducible refine gate_dst (N := 9) rfl ?_); refine Kd.R_lit k48 _ 48 ?hg (N := 9) ?hd (xs := ([] : List (S48))) (inner := []) (ok := fun _ => True) (okp := fun _ => True) ?hr ?hp (fun _ hk => hk) trivial (Below.refl _ _) (Nat.le_refl _) (by simp) ?_; (case hd => rfl); (case hg => rfl); (case hr => first | (go_simp; done) | (go_simp; rfl)); (case hp => exact (Reps.none _ _)); intro v575 w3 ho4 hb hg_ hnew_; clear hg_ hnew_; (first | rw [← Ny574.out] at ho4 | (simp only [Int.reduceToNat] at ho4; rw [← Ny574.out] at ho4)); have HO576 := aM (Kd.R_lower ho4 (below_size TB)); replace HB := aM (below_step TB hb); clear hb ho4))
  go_loopg [5, 6] k (fun kq v5 v6 w' => ∃ (x5_1 : List (S48)) (x6_1 : Int), v6 = .int .i64 x6_1 ∧ Aside0 (spec_SumsOf.l0 kq l0 a1 x5_1 x6_1 = some r) ∧ Aside0 (kq ≤ k) ∧ Aside0 (Kd.R k48 48 w' w.heap.size (fun _ => True) v5 x5_1) ∧ Aside0 (Below w.heap.size w w'))
  case atStart => exact ⟨(y574), (0), (by first | rfl | (simp; done) | (simp [*]; done)), H', ⟨Nat.le_refl _⟩, ⟨by have X_ := HO576.out; exact TR⟩, ⟨TB⟩⟩
  case round =>
    clear H'
    try clear c1
    try clear p2
    obtain ⟨x5_1, x6_1, rfl, HA, HK1, HO_5, HB⟩ := hrel
    cases gk with
    | zero => exact absurd HA.out (by simp [spec_SumsOf.l0])
    | succ k1 =>
      have H := HA.out
      clear HA
      simp only [spec_SumsOf.l0] at H
      replace H := bE H
      obtain ⟨t577, A5, H⟩ := H
      by_cases c6 : x6_1 < t577
      · rw [if_pos c6] at H
        have c6b0 : decide (x6_1 < t577) = true := decide_eq_true c6
        clear c6
        replace H := bE H
        obtain ⟨⟨t578, t579⟩, A7, H⟩ := H
        dsimp only at H
        replace H := bE H
        obtain ⟨⟨t582, t583⟩, A8, H⟩ := H
        dsimp only at H
        replace H := ifN H
        obtain ⟨c9, H⟩ := H
        have LMc9 := aM c9
        clear c9
        obtain ⟨y584, hy584⟩ : ∃ y_ : List (S48), y_ = (x5_1 ++ [(⟨t582, t583⟩ : S48)]) := ⟨_, rfl⟩
        rw [← hy584] at H
        have Ny584 := aM hy584
        clear hy584
        have H' := aM H
        clear H
        go_wp2_with (first | ((with_reducible refine gate_callee (f := 111) rfl ?_); refine gL (some 14) Try.func111 #[.int .i64 a1, .int .i64 (l0.length : Int)] ?_; (with_reducible refine (spec_Blocks.calls a1 (l0.length : Int) t577 _ A5.out).mono ?_); rintro e w' ⟨rfl, ⟨nd, rfl⟩⟩; refine ⟨_, rfl, ?_⟩) | ((with_reducible refine gate_callee (f := 96) rfl ?_); refine gL (some 22) Try.func96 #[.slice A0 l0.length c0, .int .i64 a1, .int .i64 x6_1] ?_; (with_reducible refine (spec_BlockAt.calls _ _ l0 a1 x6_1 t578 t579 _ ?side1 ?side2 A7.out).mono ?_); (case side1 => repeat (first | exact (Kd.C_below HR0.out TB) | (with_reducible refine Kd.C_alloc ?_ _) | (with_reducible refine Kd.C_drewN ?_ _) | (with_reducible refine Kd.C_drew ?_))); (case side2 => exact HC0.out); rintro e w10 ⟨v580, rfl, ho0, hb⟩; refine ⟨_, rfl, ?_⟩; have HO581 := aM (Kd.R_lower ho0 (below_size TB)); replace HO_5 := aM (Kd.R_below (by have X_ := HO_5.out; exact TR) hb); replace HB := aM (below_step TB hb); clear ho0 hb; obtain ⟨Ao11, co11, eo11⟩ := Kd.R_slice HO581.out; subst eo11) | ((with_reducible refine gate_callee (f := 77) rfl ?_); refine gL (some 27) Try.func77 #[.slice Ao11 t578.length co11] ?_; (with_reducible refine (spec_SumOf.calls k1 _ _ t578 t582 t583 _ ?side1 ?side2 A8.out).mono ?_); (case side1 => have X_ := (Kd.R_reads' HO581.out).2.2; exact TC); (case side2 => exact (Kd.R_reads' HO581.out).2.1); rintro e w12 ⟨rfl, hb⟩; refine ⟨_, rfl, ?_⟩; replace HO_5 := aM (Kd.R_below (by have X_ := HO_5.out; exact TR) hb); replace HO581 := aM (Kd.R_below (by have X_ := HO581.out; exact TR) hb); replace HB := aM (below_step TB hb); clear hb) | ((with_reducible refine gate_builtin (b := .append) (xs := #[.tmp 25, .tmp 28]) rfl ?_); at_builtin; refine Kd.R_append k48 (w0 := w) w.heap.size rfl (.tmp 25) (.tmp 28) 26 48 (.agg #[(.int .i64 0), (.int .i64 0)]) 16 rfl Try.underlying26 info48 rfl (by decide) (by omega) u5 x5_1 (⟨t582, t583⟩ : S48) [.int .i64 t582, .int .i64 t583] (fun _ => True) (fun _ => False) rfl rfl ?aP (fun _ hk => hk.elim) ?aF ?aO ?aB ?aS ?aL ?_; (case aP => exact k48_mkM _ _ _ (⟨t582, t583⟩ : S48)); (case aB => exact TB); (case aF => exact (fun _ _ => trivial)); (case aO => exact (by have X_ := HO_5.out; exact TR)); (case aS => exact (below_size TB)); (case aL => have := LMc9.out; omega); intro v585 w13 ho hb hg hat; rw [← Ny584.out] at ho; have HO586 := aM (ho); replace HO581 := aM (Kd.R_over' (by have X_ := HO581.out; exact TR) (Kd.R_typed (by have X_ := HO_5.out; exact TR)) (by decide) hg); replace HB := aM (hb); clear HO_5; clear ho hb hg hat))
        go_roundg k1
        case measure => have := HK1.out; omega
        case rel => exact ⟨(y584), (wrap64 (x6_1 + 1)), (by first | rfl | (simp; done) | (simp [*]; done)), H', ⟨by have := HK1.out; omega⟩, ⟨by have X_ := HO586.out; exact TR⟩, ⟨TB⟩⟩
      · rw [if_neg c6] at H
        have c6b0 : decide (x6_1 < t577) = false := decide_eq_false c6
        clear c6
        obtain rfl := Option.some.inj H
        go_wp2_with (first | ((with_reducible refine gate_callee (f := 111) rfl ?_); refine gL (some 14) Try.func111 #[.int .i64 a1, .int .i64 (l0.length : Int)] ?_; (with_reducible refine (spec_Blocks.calls a1 (l0.length : Int) t577 _ A5.out).mono ?_); rintro e w' ⟨rfl, ⟨nd, rfl⟩⟩; refine ⟨_, rfl, ?_⟩))
        go_ret
        exact ⟨_, by first | rfl | (simp [errW_none, errW_some] <;> rfl) | (simp [*, errW_none, errW_some] <;> rfl), by have X_ := HO_5.out; exact TR, TB⟩

/-! ### spec_ManOf: function 120 -/
def spec_ManOf.f (k : Nat) (a0 : Int) (l1 : List Int) (a2 : Int) : Option (Int × Int × Int × (List (S48))) := (spec_l1In.f a0 1 1000000).bind fun t588 => (if t588 = true then ((spec_SizeOk.f a2 (l1.length : Int)).bind fun t589 => (if t589 = true then ((spec_SumsOf.f k l1 a2).bind fun t590 => (some (a0, a2, (l1.length : Int), t590))) else (some (0, 0, 0, ([] : List (S48)))))) else (some (0, 0, 0, ([] : List (S48)))))
theorem spec_ManOf.mono : ∀ a0 a1 a2 k, LeO (spec_ManOf.f k a0 a1 a2) (spec_ManOf.f (k + 1) a0 a1 a2) := by
  intro a0 a1 a2 k
  have m0_ := @spec_SumsOf.mono
  unfold spec_ManOf.f
  exact LM
set_option maxHeartbeats 40000000 in
set_option maxRecDepth 100000 in
theorem spec_ManOf.calls (k : Nat) (a0 : Int) (A1 : Option Addr) (c1 : Nat) (l1 : List Int) (a2 : Int) (r1 : Int) (r2 : Int) (r3 : Int) (r4 : List (S48)) (w : World) (hr1 : Kd.C (Kd.int .u8) w A1 l1.length l1) (hc1 : l1.length ≤ c1) (h : spec_ManOf.f k a0 l1 a2 = some (r1, r2, r3, r4)) :
  Calls Try.prog 120 #[.int .i64 a0, .slice A1 l1.length c1, .int .i64 a2] w fun e w' => ∃ v3_ : Value, e = .returned (.agg #[.int .i64 r1, .int .i64 r2, .int .i64 r3, v3_]) ∧ Kd.R k48 48 w' w.heap.size (fun _ => True) v3_ r4 ∧ Below w.heap.size w w' := by
 have hu28 := Try.underlying28
 have HR1 := aM hr1
 have HC1 := aM hc1
 clear hr1 hc1
 have HB := aM (Below.refl w.heap.size w)
 have H := h
 clear h
 unfold spec_ManOf.f at H
 replace H := bE H
 obtain ⟨t588, A4, H⟩ := H
 go_enter Try.func120, Try.ntmps120
 go_wp2_with (first | ((with_reducible refine gate_dst (N := 6) rfl ?_); (try (refine gate_guard (by rfl) ?_; dsimp only)); refine gBx 6 #[.int .i64 0, .int .i64 0, .int .i64 0, .slice none 0 0] 28 ?_; intro aa hg w6 hbox hb; have BK587 := aM (hbox); have GW587 := aM ((by rw [hg]; exact (below_size TB) : w.heap.size ≤ aa)); have GE587 := aM ((by rw [hg]; exact (below_size TB) : w.heap.size ≤ aa)); replace HB := aM (below_step TB hb); clear hb hbox hg) | ((with_reducible refine gate_callee (f := 80) rfl ?_); (with_reducible refine gate_dst (N := 8) rfl ?_); generalize hG_ : wpList _ _ _ _ _ _ = G_))
 subst hG_
 by_cases c7 : t588 = true
 ·subst c7
  replace H := ifT H
  replace H := bE H
  obtain ⟨t589, A8, H⟩ := H
  by_cases c9 : t589 = true
  ·subst c9
   replace H := ifT H
   replace H := bE H
   obtain ⟨ab, A10, H⟩ := H
   simp only [Option.some.injEq, Prod.mk.injEq] at H
   obtain ⟨rfl, rfl, rfl, rfl⟩ := H
   go_wp2_with (first | ((with_reducible refine gate_callee (f := 80) rfl ?_); refine gL (some 8) Try.func80 #[.int .i64 a0, .int .i64 1, .int .i64 1000000] ?_; (with_reducible refine (spec_l1In.calls a0 1 1000000 true _ A4.out).mono ?_); rintro e w' ⟨rfl, ⟨nd, rfl⟩⟩; refine ⟨_, rfl, ?_⟩; (try (rw [drewN_self w6]; generalize hq_ : World.drewN w6 _ = w6; have n0_ : Aside0 (w6.heap[aa]? = some (.cells #[.int .i64 0, .int .i64 0, .int .i64 0, .slice none 0 0] 28 (0, 0))) := ⟨by rw [← hq_]; exact TK⟩; have n1_ : Aside0 (Below w.heap.size w w6) := ⟨by rw [← hq_]; exact TB⟩; clear BK587 HB hq_; have BK587 := n0_; have HB := n1_; clear n0_ n1_))) | (go_at_call 115; (with_reducible refine (spec_SizeOk.calls a2 (l1.length : Int) true _ A8.out).mono ?_); rintro e w' ⟨rfl, ⟨nd, rfl⟩⟩; (try (rw [drewN_self w6]; generalize hq_ : World.drewN w6 _ = w6; have n0_ : Aside0 (w6.heap[aa]? = some (.cells #[.int .i64 0, .int .i64 0, .int .i64 0, .slice none 0 0] 28 (0, 0))) := ⟨by rw [← hq_]; exact TK⟩; have n1_ : Aside0 (Below w.heap.size w w6) := ⟨by rw [← hq_]; exact TB⟩; clear BK587 HB hq_; have BK587 := n0_; have HB := n1_; clear n0_ n1_))) | ((with_reducible refine gate_callee (f := 127) rfl ?_); refine gL (some 24) Try.func127 #[.slice A1 l1.length c1, .int .i64 a2] ?_; (with_reducible refine (spec_SumsOf.calls k _ _ l1 a2 ab _ ?side1 ?side2 A10.out).mono ?_); (case side1 => have X_ := (Kd.C_below HR1.out HB.out); exact TC); (case side2 => exact HC1.out); rintro e w11 ⟨v591, rfl, ho0, hb⟩; refine ⟨_, rfl, ?_⟩; have HO592 := aM (Kd.R_lower ho0 (below_size TB)); replace BK587 := aM (blk_below (g := aa) (o := .cells #[.int .i64 0, .int .i64 0, .int .i64 0, .slice none 0 0] 28 (0, 0)) TK hb); replace HB := aM (below_step TB hb); clear ho0 hb; obtain ⟨Ao12, co12, eo12⟩ := Kd.R_slice HO592.out; subst eo12; obtain ⟨hcz13_0, hcz13_1, hcz13_2, hcz13_3⟩ := cz4 BK587.out; obtain ⟨hfz13_0, hfz13_1, hfz13_2, hfz13_3⟩ := fz4 BK587.out))
   refine bodyPost_ret (results_cell_row rfl _ _ aa 28 #[.int .i64 a0, .int .i64 a2, .int .i64 (l1.length : Int), .slice Ao12 ab.length co12] (0, 0) _ rfl (by (with_reducible repeat (first | refine blk_drewN ?_ _ | refine blk_drew ?_ | refine blk_alloc ?_ _)); refine blk_put (cs := #[.int .i64 a0, .int .i64 a2, .int .i64 (l1.length : Int), .slice none 0 0]) ?_ 3 _ rfl; (with_reducible repeat (first | refine blk_drewN ?_ _ | refine blk_drew ?_ | refine blk_alloc ?_ _)); refine blk_put (cs := #[.int .i64 a0, .int .i64 a2, .int .i64 0, .slice none 0 0]) ?_ 2 _ rfl; (with_reducible repeat (first | refine blk_drewN ?_ _ | refine blk_drew ?_ | refine blk_alloc ?_ _)); refine blk_put (cs := #[.int .i64 a0, .int .i64 0, .int .i64 0, .slice none 0 0]) ?_ 1 _ rfl; (with_reducible repeat (first | refine blk_drewN ?_ _ | refine blk_drew ?_ | refine blk_alloc ?_ _)); refine blk_put (cs := #[.int .i64 0, .int .i64 0, .int .i64 0, .slice none 0 0]) ?_ 0 _ rfl; (with_reducible repeat (first | refine blk_drewN ?_ _ | refine blk_drew ?_ | refine blk_alloc ?_ _)); exact BK587.out) Try.underlying28 rfl (by kernel_rfl)) rfl ?_
   exact ⟨_, by first | rfl | (simp [errW_none, errW_some] <;> rfl) | (simp [*, errW_none, errW_some] <;> rfl), by (with_reducible repeat (first | apply Kd.R_alloc | apply Kd.R_drewN | apply Kd.R_drew)); exact Kd.R_mono (Kd.R_far (p := ⟨aa, 3, none⟩) (Kd.R_far (p := ⟨aa, 2, none⟩) (Kd.R_far (p := ⟨aa, 1, none⟩) (Kd.R_far (p := ⟨aa, 0, none⟩) (Kd.R_types HO592.out BK587.out (by decide)) (fun _ hk => hk.2) (.int .i64 a0)) (fun _ hk => hk.2) (.int .i64 a2)) (fun _ hk => hk.2) (.int .i64 (l1.length : Int))) (fun _ hk => hk.2) (.slice Ao12 ab.length co12)) (fun _ hk => trivial), TB⟩
  ·replace c9 := Bool.eq_false_iff.mpr c9
   subst c9
   replace H := ifF H
   simp only [Option.some.injEq, Prod.mk.injEq] at H
   obtain ⟨rfl, rfl, rfl, rfl⟩ := H
   go_wp2_with (first | ((with_reducible refine gate_callee (f := 80) rfl ?_); refine gL (some 8) Try.func80 #[.int .i64 a0, .int .i64 1, .int .i64 1000000] ?_; (with_reducible refine (spec_l1In.calls a0 1 1000000 true _ A4.out).mono ?_); rintro e w' ⟨rfl, ⟨nd, rfl⟩⟩; refine ⟨_, rfl, ?_⟩; (try (rw [drewN_self w6]; generalize hq_ : World.drewN w6 _ = w6; have n0_ : Aside0 (w6.heap[aa]? = some (.cells #[.int .i64 0, .int .i64 0, .int .i64 0, .slice none 0 0] 28 (0, 0))) := ⟨by rw [← hq_]; exact TK⟩; have n1_ : Aside0 (Below w.heap.size w w6) := ⟨by rw [← hq_]; exact TB⟩; clear BK587 HB hq_; have BK587 := n0_; have HB := n1_; clear n0_ n1_))) | (go_at_call 115; (with_reducible refine (spec_SizeOk.calls a2 (l1.length : Int) false _ A8.out).mono ?_); rintro e w' ⟨rfl, ⟨nd, rfl⟩⟩; (try (rw [drewN_self w6]; generalize hq_ : World.drewN w6 _ = w6; have n0_ : Aside0 (w6.heap[aa]? = some (.cells #[.int .i64 0, .int .i64 0, .int .i64 0, .slice none 0 0] 28 (0, 0))) := ⟨by rw [← hq_]; exact TK⟩; have n1_ : Aside0 (Below w.heap.size w w6) := ⟨by rw [← hq_]; exact TB⟩; clear BK587 HB hq_; have BK587 := n0_; have HB := n1_; clear n0_ n1_)); obtain ⟨hcz14_0, hcz14_1, hcz14_2, hcz14_3⟩ := cz4 BK587.out; obtain ⟨hfz14_0, hfz14_1, hfz14_2, hfz14_3⟩ := fz4 BK587.out))
   refine bodyPost_ret (results_cell_row rfl _ _ aa 28 #[.int .i64 0, .int .i64 0, .int .i64 0, .slice none 0 0] (0, 0) _ rfl (by (with_reducible repeat (first | refine blk_drewN ?_ _ | refine blk_drew ?_ | refine blk_alloc ?_ _)); refine blk_put (cs := #[.int .i64 0, .int .i64 0, .int .i64 0, .slice none 0 0]) ?_ 3 _ rfl; (with_reducible repeat (first | refine blk_drewN ?_ _ | refine blk_drew ?_ | refine blk_alloc ?_ _)); refine blk_put (cs := #[.int .i64 0, .int .i64 0, .int .i64 0, .slice none 0 0]) ?_ 2 _ rfl; (with_reducible repeat (first | refine blk_drewN ?_ _ | refine blk_drew ?_ | refine blk_alloc ?_ _)); refine blk_put (cs := #[.int .i64 0, .int .i64 0, .int .i64 0, .slice none 0 0]) ?_ 1 _ rfl; (with_reducible repeat (first | refine blk_drewN ?_ _ | refine blk_drew ?_ | refine blk_alloc ?_ _)); refine blk_put (cs := #[.int .i64 0, .int .i64 0, .int .i64 0, .slice none 0 0]) ?_ 0 _ rfl; (with_reducible repeat (first | refine blk_drewN ?_ _ | refine blk_drew ?_ | refine blk_alloc ?_ _)); exact BK587.out) Try.underlying28 rfl (by kernel_rfl)) rfl ?_
   exact ⟨_, by first | rfl | (simp [errW_none, errW_some] <;> rfl) | (simp [*, errW_none, errW_some] <;> rfl), by first | exact Kd.R_nil _ _ _ _ _ | exact Kd.N_nil _ _ _ _ _ | exact Kd.V_nil _ _ _ _ _ | exact Kd.Q_nil _ _ _ _ _ | exact Kd.S_nil _ _ _ _ _, TB⟩
 ·replace c7 := Bool.eq_false_iff.mpr c7
  subst c7
  replace H := ifF H
  simp only [Option.some.injEq, Prod.mk.injEq] at H
  obtain ⟨rfl, rfl, rfl, rfl⟩ := H
  go_wp2_with (first | ((with_reducible refine gate_callee (f := 80) rfl ?_); refine gL (some 8) Try.func80 #[.int .i64 a0, .int .i64 1, .int .i64 1000000] ?_; (with_reducible refine (spec_l1In.calls a0 1 1000000 false _ A4.out).mono ?_); rintro e w' ⟨rfl, ⟨nd, rfl⟩⟩; refine ⟨_, rfl, ?_⟩; (try (rw [drewN_self w6]; generalize hq_ : World.drewN w6 _ = w6; have n0_ : Aside0 (w6.heap[aa]? = some (.cells #[.int .i64 0, .int .i64 0, .int .i64 0, .slice none 0 0] 28 (0, 0))) := ⟨by rw [← hq_]; exact TK⟩; have n1_ : Aside0 (Below w.heap.size w w6) := ⟨by rw [← hq_]; exact TB⟩; clear BK587 HB hq_; have BK587 := n0_; have HB := n1_; clear n0_ n1_)); obtain ⟨hcz15_0, hcz15_1, hcz15_2, hcz15_3⟩ := cz4 BK587.out; obtain ⟨hfz15_0, hfz15_1, hfz15_2, hfz15_3⟩ := fz4 BK587.out))
  refine bodyPost_ret (results_cell_row rfl _ _ aa 28 #[.int .i64 0, .int .i64 0, .int .i64 0, .slice none 0 0] (0, 0) _ rfl (by (with_reducible repeat (first | refine blk_drewN ?_ _ | refine blk_drew ?_ | refine blk_alloc ?_ _)); refine blk_put (cs := #[.int .i64 0, .int .i64 0, .int .i64 0, .slice none 0 0]) ?_ 3 _ rfl; (with_reducible repeat (first | refine blk_drewN ?_ _ | refine blk_drew ?_ | refine blk_alloc ?_ _)); refine blk_put (cs := #[.int .i64 0, .int .i64 0, .int .i64 0, .slice none 0 0]) ?_ 2 _ rfl; (with_reducible repeat (first | refine blk_drewN ?_ _ | refine blk_drew ?_ | refine blk_alloc ?_ _)); refine blk_put (cs := #[.int .i64 0, .int .i64 0, .int .i64 0, .slice none 0 0]) ?_ 1 _ rfl; (with_reducible repeat (first | refine blk_drewN ?_ _ | refine blk_drew ?_ | refine blk_alloc ?_ _)); refine blk_put (cs := #[.int .i64 0, .int .i64 0, .int .i64 0, .slice none 0 0]) ?_ 0 _ rfl; (with_reducible repeat (first | refine blk_drewN ?_ _ | refine blk_drew ?_ | refine blk_alloc ?_ _)); exact BK587.out) Try.underlying28 rfl (by kernel_rfl)) rfl ?_
  exact ⟨_, by first | rfl | (simp [errW_none, errW_some] <;> rfl) | (simp [*, errW_none, errW_some] <;> rfl), by first | exact Kd.R_nil _ _ _ _ _ | exact Kd.N_nil _ _ _ _ _ | exact Kd.V_nil _ _ _ _ _ | exact Kd.Q_nil _ _ _ _ _ | exact Kd.S_nil _ _ _ _ _, TB⟩

end Go.Proofs.Ytfkndpjbkndhcaa.Q
