/- Functions of the program as plain Lean functions, and that a call of each comes to what its function tells. Written by a program of this seat. -/
import Derived.Test.YtanpaipapcjpoaaGreatDoorQ0
import Derived.Test.YtanpaipapcjpoaaGreatDoorQ4
set_option maxHeartbeats 40000000
set_option maxRecDepth 100000
namespace Go.Proofs.YtanpaipapcjpoaaGreatDoor.Q
open Go.RowKit Go.Proofs.YtanpaipapcjpoaaGreatDoorW.PrintWords Go.Proofs.YtanpaipapcjpoaaGreatDoorW.PrintLast Go.Proofs.YtanpaipapcjpoaaGreatDoorW.PrintMore
attribute [local go_sem] min2_int min_two
set_option linter.unusedVariables false
set_option linter.unusedSimpArgs false
def spec_SumOf.l0 : Nat → List Int → Int → Int → Option (Int × Int)
  | 0, _, _, _ => none
  | k + 1, x0, x3, x4 => if x4 < (x0.length : Int) then (if 0 ≤ x4 then (spec_SumOf.l0 k x0 (wrap64 ((wrap64 (256 * x3)) + (wrap64 (rd x0 x4)))) (wrap64 (x4 + 1))) else (none)) else ((spec_WeakOf.f k x0).bind fun t200 => (some (t200, x3)))
def spec_SumOf.f (k : Nat) (l0 : List Int) : Option (Int × Int) := if (l0.length : Int) > 6 then (some (0, 0)) else (spec_SumOf.l0 k l0 1 0)
theorem spec_SumOf.mono_l : ∀ k, (∀ y0 y1 y2, LeO (spec_SumOf.l0 k y0 y1 y2) (spec_SumOf.l0 (k + 1) y0 y1 y2))
  | 0 => fun _ _ _ r h => by simp [spec_SumOf.l0] at h
  | k + 1 => by
    have m0_ := @spec_WeakOf.mono
    have ih0 := spec_SumOf.mono_l k
    · intro y0 y1 y2
      unfold spec_SumOf.l0
      exact LM
theorem spec_SumOf.mono : ∀ a0 k, LeO (spec_SumOf.f k a0) (spec_SumOf.f (k + 1) a0) := by
  intro a0 k;have m0_ := @spec_WeakOf.mono;have ih0 := spec_SumOf.mono_l k;unfold spec_SumOf.f;exact LM
theorem spec_SumOf.calls {k : Nat} {A0 : Option Addr} {c0 : Nat} {l0 : List Int} {r1 : Int} {r2 : Int} {w : World} (hr0 : Kd.C (Kd.int .u8) w A0 l0.length l0) (hc0 : l0.length ≤ c0) (h : spec_SumOf.f k l0 = some (r1, r2)) :
    Calls Tryz.prog 81 #[.slice A0 l0.length c0] w fun e w' => e = .returned (.agg #[.int .i64 r1, .int .i64 r2]) ∧ Below w.heap.size w w' := by
  have hu75 := Tryz.underlying75
  have HR0 := aM hr0
  have HC0 := aM hc0
  clear hr0 hc0
  have HB := aM (Below.refl w.heap.size w)
  have H := h
  clear h
  unfold spec_SumOf.f at H
  by_cases c2 : (l0.length : Int) > 6
  · rw [if_pos c2] at H
    have c2b0 : decide (6 < (l0.length : Int)) = true := decide_eq_true c2
    have c2b1 : decide (6 < l0.length) = true := decide_eq_true (by omega)
    clear c2
    simp only [Option.some.injEq, Prod.mk.injEq] at H
    obtain ⟨rfl, rfl⟩ := H
    go_enter Tryz.func81, Tryz.ntmps81
    go_wp2_with (first | ((with_reducible refine gate_dst (N := 2) rfl ?_); refine gBx 2 #[.int .i64 0, .int .i64 0] 75 ?_; intro gb198 hg w3 hbox hb; have BK198 := aM (hbox); have GW198 := gW HB hg; have GE198 := gW HB hg; replace HB := bS HB hb; clear hb hbox hg; obtain ⟨hcz4_0, hcz4_1⟩ := cz2 BK198.out; obtain ⟨hfz4_0, hfz4_1⟩ := fz2 BK198.out))
    refine bodyPost_ret (results_cell_row rfl _ _ gb198 75 #[.int .i64 0, .int .i64 0] (0, 0) _ rfl (blk_put (blk_put (cs := #[.int .i64 0, .int .i64 0]) (TZ BK198) 0 _ rfl) 1 _ rfl) Tryz.underlying75 rfl (by kernel_rfl)) rfl ?_
    exact ⟨TE, TB⟩
  · rw [if_neg c2] at H
    have c2b0 : decide (6 < (l0.length : Int)) = false := decide_eq_false c2
    have c2b1 : decide (6 < l0.length) = false := decide_eq_false (by omega)
    clear c2
    have H' := aM H
    clear H
    go_enter Tryz.func81, Tryz.ntmps81
    go_wp2_with (first | ((with_reducible refine gate_dst (N := 2) rfl ?_); refine gBx 2 #[.int .i64 0, .int .i64 0] 75 ?_; intro gb198 hg w5 hbox hb; have BK198 := aM (hbox); have GW198 := gW HB hg; have GE198 := gW HB hg; replace HB := bS HB hb; clear hb hbox hg))
    go_loopg [3, 4] k (fun kq v3 v4 w' => ∃ (x3_1 : Int) (x4_1 : Int), v3 = .int .i64 x3_1 ∧ v4 = .int .i64 x4_1 ∧ Aside0 (spec_SumOf.l0 kq l0 x3_1 x4_1 = some (r1, r2)) ∧ Aside0 (kq ≤ k) ∧ Aside0 (w'.heap[gb198]? = some (.cells #[.int .i64 0, .int .i64 0] 75 (0, 0))) ∧ Aside0 (Below w.heap.size w w'))
    case atStart => exact ⟨(1), (0), TF, TF, H', ⟨Nat.le_refl _⟩, ⟨TK⟩, ⟨TB⟩⟩
    case round =>
      clear H'
      try clear c2
      try clear c2b0
      try clear c2b1
      try clear p2
      try clear hcz4_0
      try clear hcz4_1
      try clear hfz4_0
      try clear hfz4_1
      obtain ⟨x3_1, x4_1, rfl, rfl, HA, HK1, BK198, HB⟩ := hrel
      cases gk with
      | zero => exact absurd HA.out (by simp [spec_SumOf.l0])
      | succ k1 =>
        have H := HA.out
        clear HA
        simp only [spec_SumOf.l0] at H
        by_cases c6 : x4_1 < (l0.length : Int)
        · rw [if_pos c6] at H
          have c6b0 : decide (x4_1 < (l0.length : Int)) = true := decide_eq_true c6
          clear c6
          replace H := ifN H
          obtain ⟨c7, H⟩ := H
          have c7b0 : decide (0 ≤ x4_1) = true := decide_eq_true c7
          clear c7
          have H' := aM H
          clear H
          have p199 : 0 ≤ (x4_1 : Int) := DT
          have q199 : x4_1 < (l0.length : Int) := DT
          obtain ⟨ad199, e199, hx199_0⟩ := Kd.at_int HR0.out x4_1 p199 q199
          cases e199
          replace hx199_0 := (HB.out.cell (World.block_lt_of_cell? w _ hx199_0)).trans hx199_0
          replace p199 := eq_true p199
          replace q199 := eq_true q199
          go_wp2
          go_roundg k1
          case measure => have := HK1.out; omega
          case rel => exact ⟨(wrap64 ((wrap64 (256 * x3_1)) + (wrap64 (rd l0 x4_1)))), (wrap64 (x4_1 + 1)), TF, TF, H', ⟨by have := HK1.out; omega⟩, ⟨TK⟩, ⟨TB⟩⟩
        · rw [if_neg c6] at H
          have c6b0 : decide (x4_1 < (l0.length : Int)) = false := decide_eq_false c6
          clear c6
          replace H := bE H
          obtain ⟨t200, A8, H⟩ := H
          simp only [Option.some.injEq, Prod.mk.injEq] at H
          obtain ⟨rfl, rfl⟩ := H
          go_wp2_with (first | ((with_reducible refine gate_callee (f := 39) rfl ?_); refine gL (some 24) Tryz.func39 #[.slice A0 l0.length c0] ?_; (with_reducible refine (spec_WeakOf.calls ?side1 ?side2 A8.out).mono ?_); (case side1 => have X_ := (Kd.C_below HR0.out HB.out); exact TC); (case side2 => exact HC0.out); rintro e w' ⟨rfl, ⟨nd, rfl⟩⟩; refine ⟨_, rfl, ?_⟩; (try (rw [drewN_self wr]; generalize hq_ : World.drewN wr _ = wr; have n0_ : Aside0 (wr.heap[gb198]? = some (.cells #[.int .i64 0, .int .i64 0] 75 (0, 0))) := ⟨by rw [← hq_]; exact TK⟩; have n1_ : Aside0 (Below w.heap.size w wr) := ⟨by rw [← hq_]; exact TB⟩; clear BK198 HB hq_; have BK198 := n0_; have HB := n1_; clear n0_ n1_)); obtain ⟨hcz9_0, hcz9_1⟩ := cz2 BK198.out; obtain ⟨hfz9_0, hfz9_1⟩ := fz2 BK198.out))
          refine bodyPost_ret (results_cell_row rfl _ _ gb198 75 #[.int .i64 t200, .int .i64 x3_1] (0, 0) _ rfl (blk_put (blk_put (cs := #[.int .i64 0, .int .i64 0]) (TZ BK198) 0 _ rfl) 1 _ rfl) Tryz.underlying75 rfl (by kernel_rfl)) rfl ?_
          exact ⟨TE, TB⟩
def spec_Least.f (a0 : Int) (a1 : Int) : Option (Int) := if a1 < a0 then (some a1) else (some a0)
theorem spec_Least.calls {a0 : Int} {a1 : Int} {r : Int} {w : World} (h : spec_Least.f a0 a1 = some r) :
    Calls Tryz.prog 93 #[.int .i64 a0, .int .i64 a1] w fun e w' => e = .returned (.int .i64 r) ∧ Drawn0 w w' := by
  have H := h
  clear h
  unfold spec_Least.f at H
  by_cases c3 : a1 < a0
  · rw [if_pos c3] at H
    have c3b0 : decide (a1 < a0) = true := decide_eq_true c3
    clear c3
    obtain rfl := oI H
    go_enter Tryz.func93, Tryz.ntmps93
    go_wp2
    go_ret
    exact ⟨by first | rfl | (simp; done) | (simp [*]; done), TD⟩
  · rw [if_neg c3] at H
    have c3b0 : decide (a1 < a0) = false := decide_eq_false c3
    clear c3
    obtain rfl := oI H
    go_enter Tryz.func93, Tryz.ntmps93
    go_wp2
    go_ret
    exact ⟨by first | rfl | (simp; done) | (simp [*]; done), TD⟩
def spec_SpanOf.f (a0 : Int) (a1 : Int) (a2 : Int) : Option (Int × Int) := (spec_Blocks.f a0 a1).bind fun t201 => ((spec_l1In.f a2 0 (wrap64 (t201 - 1))).bind fun t202 => (if t202 = true then ((spec_Least.f a0 (wrap64 (a1 - (wrap64 (a2 * a0))))).bind fun t203 => (some (wrap64 (a2 * a0), t203))) else (some (0, 0))))
theorem spec_SpanOf.calls {a0 : Int} {a1 : Int} {a2 : Int} {r1 : Int} {r2 : Int} {w : World} (h : spec_SpanOf.f a0 a1 a2 = some (r1, r2)) :
    Calls Tryz.prog 80 #[.int .i64 a0, .int .i64 a1, .int .i64 a2] w fun e w' => e = .returned (.tuple #[.int .i64 r1, .int .i64 r2]) ∧ Drawn0 w w' := by
  have H := h
  clear h
  unfold spec_SpanOf.f at H
  replace H := bE H
  obtain ⟨t201, A4, H⟩ := H
  replace H := bE H
  obtain ⟨t202, A5, H⟩ := H
  go_enter Tryz.func80, Tryz.ntmps80
  go_wp2_with (first | ((with_reducible refine gate_callee (f := 78) rfl ?_); refine gL (some 11) Tryz.func78 #[.int .i64 a0, .int .i64 a1] ?_; (with_reducible refine (spec_Blocks.calls A4.out).mono ?_); rintro e w' ⟨rfl, ⟨nd, rfl⟩⟩; refine ⟨_, rfl, ?_⟩) | ((with_reducible refine gate_callee (f := 51) rfl ?_); refine gL (some 13) Tryz.func51 #[.int .i64 a2, .int .i64 0, .int .i64 (wrap64 (t201 - 1))] ?_; (with_reducible refine (spec_l1In.calls A5.out).mono ?_); rintro e w' ⟨rfl, ⟨nd, rfl⟩⟩; refine ⟨_, rfl, ?_⟩) | ((with_reducible refine gate_dst (N := 14) rfl ?_); generalize hG_ : wpList _ _ _ _ _ _ = G_))
  subst hG_
  by_cases c7 : t202 = true
  · subst c7
    replace H := ifT H
    replace H := bE H
    obtain ⟨t203, A8, H⟩ := H
    simp only [Option.some.injEq, Prod.mk.injEq] at H
    obtain ⟨rfl, rfl⟩ := H
    go_wp2_with (first | ((with_reducible refine gate_callee (f := 93) rfl ?_); refine gL (some 24) Tryz.func93 #[.int .i64 a0, .int .i64 (wrap64 (a1 - (wrap64 (a2 * a0))))] ?_; (with_reducible refine (spec_Least.calls A8.out).mono ?_); rintro e w' ⟨rfl, ⟨nd, rfl⟩⟩; refine ⟨_, rfl, ?_⟩))
    go_ret2
    exact ⟨by first | rfl | (simp; done) | (simp [*]; done), TD⟩
  · replace c7 := bF c7
    subst c7
    replace H := ifF H
    simp only [Option.some.injEq, Prod.mk.injEq] at H
    obtain ⟨rfl, rfl⟩ := H
    go_wp2
    go_ret2
    exact ⟨by first | rfl | (simp; done) | (simp [*]; done), TD⟩
def spec_BlockAt.f (l0 : List Int) (a1 : Int) (a2 : Int) : Option (List Int × Bool) := (spec_SpanOf.f a1 (l0.length : Int) a2).bind fun bt204 => (if bt204.2 = 0 then (some ((([] : List Int)), false)) else ((some (([] : List Int) : List Int)).bind fun y209 => (if 0 ≤ bt204.1 then (if bt204.1 ≤ (wrap64 (bt204.1 + bt204.2)) then (if (wrap64 (bt204.1 + bt204.2)) ≤ (l0.length : Int) then (if y209.length + ((l0.take ((wrap64 (bt204.1 + bt204.2)) : Int).toNat).drop (bt204.1 : Int).toNat).length < 140737488355328 then (some ((y209 ++ ((l0.take ((wrap64 (bt204.1 + bt204.2)) : Int).toNat).drop (bt204.1 : Int).toNat)), true)) else (none)) else (none)) else (none)) else (none))))
theorem spec_BlockAt.calls {A0 : Option Addr} {c0 : Nat} {l0 : List Int} {a1 : Int} {a2 : Int} {r1 : List Int} {r2 : Bool} {w : World} (hr0 : Kd.C (Kd.int .u8) w A0 l0.length l0) (hc0 : l0.length ≤ c0) (h : spec_BlockAt.f l0 a1 a2 = some (r1, r2)) :
    Calls Tryz.prog 105 #[.slice A0 l0.length c0, .int .i64 a1, .int .i64 a2] w fun e w' => ∃ v0_ : Value, e = .returned (.tuple #[v0_, .bool r2]) ∧ Kd.R (Kd.int .u8) 5 w' w.heap.size (fun _ => True) v0_ r1 ∧ Below w.heap.size w w' := by
  have HR0 := aM hr0
  have HC0 := aM hc0
  clear hr0 hc0
  have HB := aM (Below.refl w.heap.size w)
  have H := h
  clear h
  unfold spec_BlockAt.f at H
  replace H := bE H
  obtain ⟨⟨t204, t205⟩, A4, H⟩ := H
  dsimp only at H
  by_cases c5 : t205 = 0
  · rw [if_pos c5] at H
    have c5b0 : (t205 == 0) = true := beq_iff_eq.mpr c5
    have c5b1 : (t205 != 0) = false := bne_eq_false_iff_eq.mpr c5
    clear c5
    obtain ⟨y206, hy206⟩ : ∃ y_ : List Int, y_ = (([] : List Int)) := ⟨_, rfl⟩
    rw [← hy206] at H
    have Ny206 := aM hy206
    clear hy206
    simp only [Option.some.injEq, Prod.mk.injEq] at H
    obtain ⟨rfl, rfl⟩ := H
    go_enter Tryz.func105, Tryz.ntmps105
    go_wp2_with (first | ((with_reducible refine gate_callee (f := 80) rfl ?_); refine gL (some 15) Tryz.func80 #[.int .i64 a1, .int .i64 (l0.length : Int), .int .i64 a2] ?_; (with_reducible refine (spec_SpanOf.calls A4.out).mono ?_); rintro e w' ⟨rfl, ⟨nd, rfl⟩⟩; refine ⟨_, rfl, ?_⟩) | ((with_reducible refine gate_dst (N := 20) rfl ?_); refine Kd.R_lit (Kd.int .u8) _ 5 ?hg (N := 20) ?hd (xs := ([] : List Int)) (inner := []) (ok := fun _ => True) (okp := fun _ => True) ?hr ?hp (fun _ hk => hk) trivial (Below.refl _ _) (Nat.le_refl _) (by simp) ?_; (case hd => rfl); (case hg => rfl); (case hr => first | (go_simp; done) | (go_simp; rfl)); (case hp => exact (Reps.none _ _)); intro v207 w6 ho7 hb hg_ hnew_; clear hg_ hnew_; (first | rw [← Ny206.out] at ho7 | (simp only [Int.reduceToNat] at ho7; rw [← Ny206.out] at ho7)); have HO208 := aM (Kd.R_lower ho7 (below_size TB)); replace HB := bS HB hb; clear hb ho7))
    go_ret2
    exact ⟨_, TE, by have X_ := HO208.out; exact TR, TB⟩
  · rw [if_neg c5] at H
    have c5b0 : (t205 == 0) = false := beq_eq_false_iff_ne.mpr c5
    have c5b1 : (t205 != 0) = true := bne_iff_ne.mpr c5
    obtain ⟨y209, hy209⟩ : ∃ y_ : List Int, y_ = (([] : List Int)) := ⟨_, rfl⟩
    replace H := someE H hy209
    have Ny209 := aM hy209
    clear hy209
    replace H := ifN H
    obtain ⟨c8, H⟩ := H
    have c8b0 := eq_true c8
    have c8b1 : decide (0 ≤ t204) = true := decide_eq_true c8
    clear c8
    replace H := ifN H
    obtain ⟨c9, H⟩ := H
    have c9b0 := eq_true c9
    have c9b1 : decide (t204 ≤ (wrap64 (t204 + t205))) = true := decide_eq_true c9
    replace H := ifN H
    obtain ⟨c10, H⟩ := H
    have c10b0 := eq_true c10
    have c10b1 : decide ((wrap64 (t204 + t205)) ≤ (l0.length : Int)) = true := decide_eq_true c10
    replace H := ifN H
    obtain ⟨c11, H⟩ := H
    have LMc11 := aM c11
    clear c11
    obtain ⟨y213, hy213⟩ : ∃ y_ : List Int, y_ = (y209 ++ ((l0.take ((wrap64 (t204 + t205)) : Int).toNat).drop (t204 : Int).toNat)) := ⟨_, rfl⟩
    rw [← hy213] at H
    have Ny213 := aM hy213
    clear hy213
    simp only [Option.some.injEq, Prod.mk.injEq] at H
    obtain ⟨rfl, rfl⟩ := H
    go_enter Tryz.func105, Tryz.ntmps105
    go_wp2_with (first | ((with_reducible refine gate_callee (f := 80) rfl ?_); refine gL (some 15) Tryz.func80 #[.int .i64 a1, .int .i64 (l0.length : Int), .int .i64 a2] ?_; (with_reducible refine (spec_SpanOf.calls A4.out).mono ?_); rintro e w' ⟨rfl, ⟨nd, rfl⟩⟩; refine ⟨_, rfl, ?_⟩) | ((with_reducible refine gate_dst (N := 21) rfl ?_); refine Kd.R_lit (Kd.int .u8) _ 5 ?hg (N := 21) ?hd (xs := ([] : List Int)) (inner := []) (ok := fun _ => True) (okp := fun _ => True) ?hr ?hp (fun _ hk => hk) trivial (Below.refl _ _) (Nat.le_refl _) (by simp) ?_; (case hd => rfl); (case hg => rfl); (case hr => first | (go_simp; done) | (go_simp; rfl)); (case hp => exact (Reps.none _ _)); intro v210 w12 ho13 hb hg_ hnew_; clear hg_ hnew_; (first | rw [← Ny209.out] at ho13 | (simp only [Int.reduceToNat] at ho13; rw [← Ny209.out] at ho13)); have HO211 := aM (Kd.R_lower ho13 (below_size TB)); replace HB := bS HB hb; clear hb ho13; obtain ⟨i014, hi014, _, hsz14, _⟩ := info_parts info5; obtain ⟨A14, hcut14, hA14, hC14⟩ := print_mid_of (P := Tryz.prog) (Value.int .u8) 0 22 5 .i64 .i64 Tryz.underlying22 hi014 hsz14 A0 c0 l0 t204 (wrap64 (t204 + t205)) DT (by first | omega | exact DT) DT HC0.out; have HR212 := aM (Kd.C_of_reads (h1 := fun _ => rfl) (hA14 _ (Kd.reads_of_C HR0.out))); have HC212 := aM hC14; clear hA14 hC14 hi014 hsz14) | ((with_reducible refine gate_builtin (b := .append) (xs := #[.tmp 21, .tmp 27]) rfl ?_); at_builtin; refine Kd.R_append_rows (Kd.int .u8) (w0 := w) w.heap.size rfl (.tmp 21) (.tmp 27) 22 5 (.int .u8 0) 1 rfl Tryz.underlying22 info5 rfl (by decide) (by omega) v210 y209 ((l0.take ((wrap64 (t204 + t205)) : Int).toNat).drop (t204 : Int).toNat) _ _ _ (fun _ => True) (fun _ => False) rfl rfl ?aO ?aR (fun _ _ h => h) (fun _ h => h.elim) ?aF ?aB ?aS ?aL ?_; (case aR => first | ((conv => arg 5; rw [← show ((l0.take ((wrap64 (t204 + t205)) : Int).toNat).drop (t204 : Int).toNat).length = ((wrap64 (t204 + t205)).toNat - t204.toNat) from (by rw [List.length_drop, List.length_take]; have h_ : ((wrap64 (t204 + t205)) : Int) ≤ (l0.length : Int) := DT; omega)]); repeat (first | exact (Kd.C_below HR212.out HB.out) | (with_reducible refine Kd.C_alloc ?_ _) | (with_reducible refine Kd.C_drewN ?_ _) | (with_reducible refine Kd.C_drew ?_))) | (repeat (first | exact (Kd.C_below HR212.out HB.out) | (with_reducible refine Kd.C_alloc ?_ _) | (with_reducible refine Kd.C_drewN ?_ _) | (with_reducible refine Kd.C_drew ?_)))); (case aB => exact TB); (case aF => exact (fun _ _ => trivial)); (case aO => exact (TRf HO211)); (case aS => exact (below_size TB)); (case aL => have := LMc11.out; have hlx_ := (show ((l0.take ((wrap64 (t204 + t205)) : Int).toNat).drop (t204 : Int).toNat).length = ((wrap64 (t204 + t205)).toNat - t204.toNat) from (by rw [List.length_drop, List.length_take]; have h_ : ((wrap64 (t204 + t205)) : Int) ≤ (l0.length : Int) := DT; omega)); omega); intro v214 w15 ho hb hg hat; rw [← Ny213.out] at ho; have HO215 := aM (ho); replace HB := aM (hb); clear HO211; clear ho hb hg hat))
    go_ret2
    exact ⟨_, TE, by have X_ := HO215.out; exact TR, TB⟩
def spec_SumsOf.l0 : Nat → List Int → Int → List (S75) → Int → Option ((List (S75)))
  | 0, _, _, _, _ => none
  | k + 1, x0, x1, x5, x6 => (spec_Blocks.f x1 (x0.length : Int)).bind fun t219 => (if x6 < t219 then ((spec_BlockAt.f x0 x1 x6).bind fun bt220 => ((spec_SumOf.f k bt220.1).bind fun bt224 => (if x5.length < 8796093022208 then (spec_SumsOf.l0 k x0 x1 (x5 ++ [(⟨bt224.1, bt224.2⟩ : S75)]) (wrap64 (x6 + 1))) else (none)))) else (some x5))
def spec_SumsOf.f (k : Nat) (l0 : List Int) (a1 : Int) : Option ((List (S75))) := spec_SumsOf.l0 k l0 a1 (([] : List (S75))) 0
theorem spec_SumsOf.mono_l : ∀ k, (∀ y0 y1 y2 y3, LeO (spec_SumsOf.l0 k y0 y1 y2 y3) (spec_SumsOf.l0 (k + 1) y0 y1 y2 y3))
  | 0 => fun _ _ _ _ r h => by simp [spec_SumsOf.l0] at h
  | k + 1 => by
    have m0_ := @spec_SumOf.mono
    have ih0 := spec_SumsOf.mono_l k
    · intro y0 y1 y2 y3
      unfold spec_SumsOf.l0
      exact LM
theorem spec_SumsOf.mono : ∀ a0 a1 k, LeO (spec_SumsOf.f k a0 a1) (spec_SumsOf.f (k + 1) a0 a1) := by
  intro a0 a1 k;have m0_ := @spec_SumOf.mono;have ih0 := spec_SumsOf.mono_l k;unfold spec_SumsOf.f;exact LM
theorem spec_SumsOf.calls {k : Nat} {A0 : Option Addr} {c0 : Nat} {l0 : List Int} {a1 : Int} {r : List (S75)} {w : World} (hr0 : Kd.C (Kd.int .u8) w A0 l0.length l0) (hc0 : l0.length ≤ c0) (h : spec_SumsOf.f k l0 a1 = some r) :
    Calls Tryz.prog 100 #[.slice A0 l0.length c0, .int .i64 a1] w fun e w' => ∃ v0_ : Value, e = .returned (v0_) ∧ Kd.R k75 75 w' w.heap.size (fun _ => True) v0_ r ∧ Below w.heap.size w w' := by
  have HR0 := aM hr0
  have HC0 := aM hc0
  clear hr0 hc0
  have HB := aM (Below.refl w.heap.size w)
  have H := h
  clear h
  unfold spec_SumsOf.f at H
  obtain ⟨y216, hy216⟩ : ∃ y_ : List (S75), y_ = (([] : List (S75))) := ⟨_, rfl⟩
  rw [← hy216] at H
  have Ny216 := aM hy216
  clear hy216
  have H' := aM H
  clear H
  go_enter Tryz.func100, Tryz.ntmps100
  go_wp2_with (first | ((with_reducible refine gate_dst (N := 9) rfl ?_); refine Kd.R_lit k75 _ 75 ?hg (N := 9) ?hd (xs := ([] : List (S75))) (inner := []) (ok := fun _ => True) (okp := fun _ => True) ?hr ?hp (fun _ hk => hk) trivial (Below.refl _ _) (Nat.le_refl _) (by simp) ?_; (case hd => rfl); (case hg => rfl); (case hr => first | (go_simp; done) | (go_simp; rfl)); (case hp => exact (Reps.none _ _)); intro v217 w3 ho4 hb hg_ hnew_; clear hg_ hnew_; (first | rw [← Ny216.out] at ho4 | (simp only [Int.reduceToNat] at ho4; rw [← Ny216.out] at ho4)); have HO218 := aM (Kd.R_lower ho4 (below_size TB)); replace HB := bS HB hb; clear hb ho4))
  go_loopg [5, 6] k (fun kq v5 v6 w' => ∃ (x5_1 : List (S75)) (x6_1 : Int), v6 = .int .i64 x6_1 ∧ Aside0 (spec_SumsOf.l0 kq l0 a1 x5_1 x6_1 = some r) ∧ Aside0 (kq ≤ k) ∧ Aside0 (Kd.R k75 75 w' w.heap.size (fun _ => True) v5 x5_1) ∧ Aside0 (Below w.heap.size w w'))
  case atStart => exact ⟨(y216), (0), TF, H', ⟨Nat.le_refl _⟩, ⟨by have X_ := HO218.out; exact TR⟩, ⟨TB⟩⟩
  case round =>
    clear H'
    try clear c1
    try clear p2
    obtain ⟨x5_1, x6_1, rfl, HA, HK1, HO_5, HB⟩ := hrel
    cases gk with
    | zero => exact absurd HA.out (by simp [spec_SumsOf.l0])
    | succ k1 =>
      have H := HA.out
      clear HA
      simp only [spec_SumsOf.l0] at H
      replace H := bE H
      obtain ⟨t219, A5, H⟩ := H
      by_cases c6 : x6_1 < t219
      · rw [if_pos c6] at H
        have c6b0 : decide (x6_1 < t219) = true := decide_eq_true c6
        clear c6
        replace H := bE H
        obtain ⟨⟨t220, t221⟩, A7, H⟩ := H
        dsimp only at H
        replace H := bE H
        obtain ⟨⟨t224, t225⟩, A8, H⟩ := H
        dsimp only at H
        replace H := ifN H
        obtain ⟨c9, H⟩ := H
        have LMc9 := aM c9
        clear c9
        obtain ⟨y226, hy226⟩ : ∃ y_ : List (S75), y_ = (x5_1 ++ [(⟨t224, t225⟩ : S75)]) := ⟨_, rfl⟩
        rw [← hy226] at H
        have Ny226 := aM hy226
        clear hy226
        have H' := aM H
        clear H
        go_wp2_with (first | ((with_reducible refine gate_callee (f := 78) rfl ?_); refine gL (some 14) Tryz.func78 #[.int .i64 a1, .int .i64 (l0.length : Int)] ?_; (with_reducible refine (spec_Blocks.calls A5.out).mono ?_); rintro e w' ⟨rfl, ⟨nd, rfl⟩⟩; refine ⟨_, rfl, ?_⟩) | ((with_reducible refine gate_callee (f := 105) rfl ?_); refine gL (some 22) Tryz.func105 #[.slice A0 l0.length c0, .int .i64 a1, .int .i64 x6_1] ?_; (with_reducible refine (spec_BlockAt.calls ?side1 ?side2 A7.out).mono ?_); (case side1 => repeat (first | exact (Kd.C_below HR0.out TB) | (with_reducible refine Kd.C_alloc ?_ _) | (with_reducible refine Kd.C_drewN ?_ _) | (with_reducible refine Kd.C_drew ?_))); (case side2 => exact HC0.out); rintro e w10 ⟨v222, rfl, ho0, hb⟩; refine ⟨_, rfl, ?_⟩; have HO223 := aM (Kd.R_lower ho0 (below_size TB)); replace HO_5 := mR HO_5 hb; replace HB := bS HB hb; clear ho0 hb; obtain ⟨Ao11, co11, eo11⟩ := Kd.R_slice HO223.out; subst eo11) | ((with_reducible refine gate_callee (f := 81) rfl ?_); refine gL (some 27) Tryz.func81 #[.slice Ao11 t220.length co11] ?_; (with_reducible refine (spec_SumOf.calls ?side1 ?side2 A8.out).mono ?_); (case side1 => have X_ := (Kd.R_reads' HO223.out).2.2; exact TC); (case side2 => exact (Kd.R_reads' HO223.out).2.1); rintro e w12 ⟨rfl, hb⟩; refine ⟨_, rfl, ?_⟩; replace HO_5 := mR HO_5 hb; replace HO223 := mR HO223 hb; replace HB := bS HB hb; clear hb) | ((with_reducible refine gate_builtin (b := .append) (xs := #[.tmp 25, .tmp 28]) rfl ?_); at_builtin; refine Kd.R_append k75 (w0 := w) w.heap.size rfl (.tmp 25) (.tmp 28) 24 75 (.agg #[(.int .i64 0), (.int .i64 0)]) 16 rfl Tryz.underlying24 info75 rfl (by decide) (by omega) u5 x5_1 (⟨t224, t225⟩ : S75) [.int .i64 t224, .int .i64 t225] (fun _ => True) (fun _ => False) rfl rfl ?aP (fun _ hk => hk.elim) ?aF ?aO ?aB ?aS ?aL ?_; (case aP => exact k75_mkM _ _ _ (⟨t224, t225⟩ : S75)); (case aB => exact TB); (case aF => exact (fun _ _ => trivial)); (case aO => exact (TRf HO_5)); (case aS => exact (below_size TB)); (case aL => have := LMc9.out; omega); intro v227 w13 ho hb hg hat; rw [← Ny226.out] at ho; have HO228 := aM (ho); replace HO223 := aM (Kd.R_over' (TRf HO223) (Kd.R_typed (TRf HO_5)) (by decide) hg); replace HB := aM (hb); clear HO_5; clear ho hb hg hat))
        go_roundg k1
        case measure => have := HK1.out; omega
        case rel => exact ⟨(y226), (wrap64 (x6_1 + 1)), TF, H', ⟨by have := HK1.out; omega⟩, ⟨by have X_ := HO228.out; exact TR⟩, ⟨TB⟩⟩
      · rw [if_neg c6] at H
        have c6b0 : decide (x6_1 < t219) = false := decide_eq_false c6
        clear c6
        obtain rfl := oI H
        go_wp2_with (first | ((with_reducible refine gate_callee (f := 78) rfl ?_); refine gL (some 14) Tryz.func78 #[.int .i64 a1, .int .i64 (l0.length : Int)] ?_; (with_reducible refine (spec_Blocks.calls A5.out).mono ?_); rintro e w' ⟨rfl, ⟨nd, rfl⟩⟩; refine ⟨_, rfl, ?_⟩))
        go_ret
        exact ⟨_, TE, by have X_ := HO_5.out; exact TR, TB⟩
def spec_ManOf.f (k : Nat) (a0 : Int) (l1 : List Int) (a2 : Int) : Option (Int × Int × Int × (List (S75))) := (spec_l1In.f a0 1 1000000).bind fun t230 => (if t230 = true then ((spec_SizeOk.f a2 (l1.length : Int)).bind fun t231 => (if t231 = true then ((spec_SumsOf.f k l1 a2).bind fun t232 => (some (a0, a2, (l1.length : Int), t232))) else (some (0, 0, 0, ([] : List (S75)))))) else (some (0, 0, 0, ([] : List (S75)))))
theorem spec_ManOf.mono : ∀ a0 a1 a2 k, LeO (spec_ManOf.f k a0 a1 a2) (spec_ManOf.f (k + 1) a0 a1 a2) := by
  intro a0 a1 a2 k;have m0_ := @spec_SumsOf.mono;unfold spec_ManOf.f;exact LM
theorem Yq5_0 {p : Prop} (h : p := by
 refine bodyPost_ret (results_cell_row rfl _ _ aa 26 #[.int .i64 0, .int .i64 0, .int .i64 0, .slice none 0 0] (0, 0) _ rfl (blk_put (blk_put (blk_put (blk_put (cs := #[.int .i64 0, .int .i64 0, .int .i64 0, .slice none 0 0]) (TZ BKq1) 0 _ rfl) 1 _ rfl) 2 _ rfl) 3 _ rfl) Tryz.underlying26 rfl (by kernel_rfl)) rfl ?_;exact ⟨_, TE, by first | exact Kd.R_nil _ _ _ _ _ | exact Kd.N_nil _ _ _ _ _ | exact Kd.V_nil _ _ _ _ _ | exact Kd.Q_nil _ _ _ _ _ | exact Kd.S_nil _ _ _ _ _, TB⟩) : p := h
theorem spec_ManOf.calls {k : Nat} {a0 : Int} {A1 : Option Addr} {c1 : Nat} {l1 : List Int} {a2 : Int} {r1 : Int} {r2 : Int} {r3 : Int} {r4 : List (S75)} {w : World} (hr1 : Kd.C (Kd.int .u8) w A1 l1.length l1) (hc1 : l1.length ≤ c1) (h : spec_ManOf.f k a0 l1 a2 = some (r1, r2, r3, r4)) :
  Calls Tryz.prog 98 #[.int .i64 a0, .slice A1 l1.length c1, .int .i64 a2] w fun e w' => ∃ v3_ : Value, e = .returned (.agg #[.int .i64 r1, .int .i64 r2, .int .i64 r3, v3_]) ∧ Kd.R k75 75 w' w.heap.size (fun _ => True) v3_ r4 ∧ Below w.heap.size w w' := by
 have huq1 := Tryz.underlying26;have HRq1 := aM hr1;have HCq1 := aM hc1;clear hr1 hc1;have HB := aM (Below.refl w.heap.size w);have H := h;clear h;unfold spec_ManOf.f at H;replace H := bE H;obtain ⟨t230, A4, H⟩ := H;go_enter Tryz.func98, Tryz.ntmps98;go_wp2_with (first | ((with_reducible refine gate_dst (N := 6) rfl ?_); (try (refine gate_guard (by rfl) ?_; dsimp only)); refine gBx 6 #[.int .i64 0, .int .i64 0, .int .i64 0, .slice none 0 0] 26 ?_; intro aa hg w6 hbox hb; have BKq1 := aM (hbox); have GWq1 := gW HB hg; have GEq1 := gW HB hg; replace HB := bS HB hb; clear hb hbox hg) | ((with_reducible refine gate_callee (f := 51) rfl ?_); refine gL (some 8) Tryz.func51 #[.int .i64 a0, .int .i64 1, .int .i64 1000000] ?_; (with_reducible refine (spec_l1In.calls A4.out).mono ?_); rintro e w' ⟨rfl, ⟨nd, rfl⟩⟩; refine ⟨_, rfl, ?_⟩) | ((with_reducible refine gate_dst (N := 9) rfl ?_); generalize hG_ : wpList _ _ _ _ _ _ = G_))
 subst hG_
 by_cases c7 : t230 = true
 ·subst c7;replace H := ifT H;replace H := bE H;obtain ⟨t231, A8, H⟩ := H
  by_cases c9 : t231 = true
  ·subst c9;replace H := ifT H;replace H := bE H;obtain ⟨t232, Aq1, H⟩ := H;simp only [Option.some.injEq, Prod.mk.injEq] at H;obtain ⟨rfl, rfl, rfl, rfl⟩ := H;go_wp2_with (first | (go_at_call 77; (with_reducible refine (spec_SizeOk.calls A8.out).mono ?_); rintro e w' ⟨rfl, ⟨nd, rfl⟩⟩; (try (rw [drewN_self w6]; generalize hq_ : World.drewN w6 _ = w6; have n0_ : Aside0 (w6.heap[aa]? = some (.cells #[.int .i64 0, .int .i64 0, .int .i64 0, .slice none 0 0] 26 (0, 0))) := ⟨by rw [← hq_]; exact TK⟩; have n1_ : Aside0 (Below w.heap.size w w6) := ⟨by rw [← hq_]; exact TB⟩; clear BKq1 HB hq_; have BKq1 := n0_; have HB := n1_; clear n0_ n1_))) | ((with_reducible refine gate_callee (f := 100) rfl ?_); refine gL (some 24) Tryz.func100 #[.slice A1 l1.length c1, .int .i64 a2] ?_; (with_reducible refine (spec_SumsOf.calls ?side1 ?side2 Aq1.out).mono ?_); (case side1 => have X_ := (Kd.C_below HRq1.out HB.out); exact TC); (case side2 => exact HCq1.out); rintro e wq1 ⟨vq1, rfl, ho0, hb⟩; refine ⟨_, rfl, ?_⟩; have HOq1 := aM (Kd.R_lower ho0 (below_size TB)); replace BKq1 := mB BKq1 hb; replace HB := bS HB hb; clear ho0 hb; obtain ⟨Aoq1, coq1, eoq1⟩ := Kd.R_slice HOq1.out; subst eoq1; obtain ⟨ab, af, ai, ae⟩ := cz4 BKq1.out; obtain ⟨ad, ag, ah, ac⟩ := fz4 BKq1.out))
   refine bodyPost_ret (results_cell_row rfl _ _ aa 26 #[.int .i64 a0, .int .i64 a2, .int .i64 (l1.length : Int), .slice Aoq1 t232.length coq1] (0, 0) _ rfl (blk_put (blk_put (blk_put (blk_put (cs := #[.int .i64 0, .int .i64 0, .int .i64 0, .slice none 0 0]) (TZ BKq1) 0 _ rfl) 1 _ rfl) 2 _ rfl) 3 _ rfl) Tryz.underlying26 rfl (by kernel_rfl)) rfl ?_;exact ⟨_, TE, by (with_reducible repeat (first | apply Kd.R_alloc | apply Kd.R_drewN | apply Kd.R_drew)); exact Kd.R_mono (RK1 (Kd.R_types HOq1.out BKq1.out (by decide))) (fun _ hk => trivial), TB⟩
  ·replace c9 := bF c9;subst c9;replace H := ifF H;simp only [Option.some.injEq, Prod.mk.injEq] at H;obtain ⟨rfl, rfl, rfl, rfl⟩ := H;go_wp2_with (first | (go_at_call 77; (with_reducible refine (spec_SizeOk.calls A8.out).mono ?_); rintro e w' ⟨rfl, ⟨nd, rfl⟩⟩; (try (rw [drewN_self w6]; generalize hq_ : World.drewN w6 _ = w6; have n0_ : Aside0 (w6.heap[aa]? = some (.cells #[.int .i64 0, .int .i64 0, .int .i64 0, .slice none 0 0] 26 (0, 0))) := ⟨by rw [← hq_]; exact TK⟩; have n1_ : Aside0 (Below w.heap.size w w6) := ⟨by rw [← hq_]; exact TB⟩; clear BKq1 HB hq_; have BKq1 := n0_; have HB := n1_; clear n0_ n1_)); obtain ⟨ab, af, ai, ae⟩ := cz4 BKq1.out; obtain ⟨ad, ag, ah, ac⟩ := fz4 BKq1.out))
   exact Yq5_0
 ·replace c7 := bF c7;subst c7;replace H := ifF H;simp only [Option.some.injEq, Prod.mk.injEq] at H;obtain ⟨rfl, rfl, rfl, rfl⟩ := H;obtain ⟨ab, af, ai, ae⟩ := cz4 BKq1.out;obtain ⟨ad, ag, ah, ac⟩ := fz4 BKq1.out;go_wp2
  exact Yq5_0
end Go.Proofs.YtanpaipapcjpoaaGreatDoor.Q
