/- Functions of the program as plain Lean functions, and that a call of each comes to what its function tells. Written by a program of this seat. -/
import Derived.Test.YtanpaipapcjpoaaQ0
import Derived.Test.YtanpaipapcjpoaaQ2
namespace Go.Proofs.Ytanpaipapcjpoaa.Q
open Go.RowKit Go.Proofs.YtanpaipapcjpoaaW.PrintWords Go.Proofs.YtanpaipapcjpoaaW.PrintLast Go.Proofs.YtanpaipapcjpoaaW.PrintMore
attribute [local go_sem] min2_int min_two
set_option linter.unusedVariables false
set_option linter.unusedSimpArgs false

def spec_GetPart.f (k : Nat) (l0 : List Int) (a1 : Int) (a2 : Int) : Option (List Int × Int × Bool) := (spec_GetVar.f k l0 a1).bind fun bt173 => (if bt173.2.2 = true then (if bt173.1 > a2 then (some ((([] : List Int)), 0, false)) else (if bt173.1 > (wrap64 ((l0.length : Int) - bt173.2.1)) then (some ((([] : List Int)), 0, false)) else ((some (([] : List Int) : List Int)).bind fun y182 => (if 0 ≤ bt173.2.1 then (if bt173.2.1 ≤ (wrap64 (bt173.2.1 + bt173.1)) then (if (wrap64 (bt173.2.1 + bt173.1)) ≤ (l0.length : Int) then (if y182.length + ((l0.take ((wrap64 (bt173.2.1 + bt173.1)) : Int).toNat).drop (bt173.2.1 : Int).toNat).length < 140737488355328 then (some ((y182 ++ ((l0.take ((wrap64 (bt173.2.1 + bt173.1)) : Int).toNat).drop (bt173.2.1 : Int).toNat)), wrap64 (bt173.2.1 + bt173.1), true)) else (none)) else (none)) else (none)) else (none))))) else (some ((([] : List Int)), 0, false)))
theorem spec_GetPart.mono : ∀ a0 a1 a2 k, LeO (spec_GetPart.f k a0 a1 a2) (spec_GetPart.f (k + 1) a0 a1 a2) := by
  intro a0 a1 a2 k;have m0_ := @spec_GetVar.mono;unfold spec_GetPart.f;exact LM
set_option maxHeartbeats 40000000 in
set_option maxRecDepth 100000 in
theorem spec_GetPart.calls (k : Nat) (A0 : Option Addr) (c0 : Nat) (l0 : List Int) (a1 : Int) (a2 : Int) (r1 : List Int) (r2 : Int) (r3 : Bool) (w : World) (hr0 : Kd.C (Kd.int .u8) w A0 l0.length l0) (hc0 : l0.length ≤ c0) (h : spec_GetPart.f k l0 a1 a2 = some (r1, r2, r3)) :
    Calls Try.prog 48 #[.slice A0 l0.length c0, .int .i64 a1, .int .i64 a2] w fun e w' => ∃ v0_ : Value, e = .returned (.tuple #[v0_, .int .i64 r2, .bool r3]) ∧ Kd.R (Kd.int .u8) 5 w' w.heap.size (fun _ => True) v0_ r1 ∧ Below w.heap.size w w' := by
  have HR0 := aM hr0
  have HC0 := aM hc0
  clear hr0 hc0
  have HB := aM (Below.refl w.heap.size w)
  have H := h
  clear h
  unfold spec_GetPart.f at H
  replace H := bE H
  obtain ⟨⟨t173, t174, t175⟩, A4, H⟩ := H
  dsimp only at H
  by_cases c5 : t175 = true
  · subst c5
    replace H := ifT H
    by_cases c6 : t173 > a2
    · rw [if_pos c6] at H
      have c6b0 : decide (a2 < t173) = true := decide_eq_true c6
      clear c6
      obtain ⟨y176, hy176⟩ : ∃ y_ : List Int, y_ = (([] : List Int)) := ⟨_, rfl⟩
      rw [← hy176] at H
      have Ny176 := aM hy176
      clear hy176
      simp only [Option.some.injEq, Prod.mk.injEq] at H
      obtain ⟨rfl, rfl, rfl⟩ := H
      go_enter Try.func48, Try.ntmps48
      go_wp2_with (first | ((with_reducible refine gate_callee (f := 20) rfl ?_); refine gL (some 15) Try.func20 #[.slice A0 l0.length c0, .int .i64 a1] ?_; (with_reducible refine (spec_GetVar.calls k _ _ l0 a1 t173 t174 true _ ?side1 ?side2 A4.out).mono ?_); (case side1 => have X_ := HR0.out; exact TC); (case side2 => exact HC0.out); rintro e w' ⟨rfl, ⟨nd, rfl⟩⟩; refine ⟨_, rfl, ?_⟩) | ((with_reducible refine gate_dst (N := 34) rfl ?_); (try (refine gate_guard (by rfl) ?_; dsimp only)); refine Kd.R_lit (Kd.int .u8) _ 5 ?hg (N := 34) ?hd (xs := ([] : List Int)) (inner := []) (ok := fun _ => True) (okp := fun _ => True) ?hr ?hp (fun _ hk => hk) trivial (Below.refl _ _) (Nat.le_refl _) (by simp) ?_; (case hd => rfl); (case hg => rfl); (case hr => first | (go_simp; done) | (go_simp; rfl)); (case hp => exact (Reps.none _ _)); intro v177 w7 ho8 hb hg_ hnew_; clear hg_ hnew_; (first | rw [← Ny176.out] at ho8 | (simp only [Int.reduceToNat] at ho8; rw [← Ny176.out] at ho8)); have HO178 := aM (Kd.R_lower ho8 (below_size TB)); replace HB := bS HB hb; clear hb ho8))
      go_ret3
      exact ⟨_, TE, by have X_ := HO178.out; exact TR, TB⟩
    · rw [if_neg c6] at H
      have c6b0 : decide (a2 < t173) = false := decide_eq_false c6
      clear c6
      by_cases c9 : t173 > (wrap64 ((l0.length : Int) - t174))
      · rw [if_pos c9] at H
        have c9b0 : decide ((wrap64 ((l0.length : Int) - t174)) < t173) = true := decide_eq_true c9
        clear c9
        obtain ⟨y179, hy179⟩ : ∃ y_ : List Int, y_ = (([] : List Int)) := ⟨_, rfl⟩
        rw [← hy179] at H
        have Ny179 := aM hy179
        clear hy179
        simp only [Option.some.injEq, Prod.mk.injEq] at H
        obtain ⟨rfl, rfl, rfl⟩ := H
        go_enter Try.func48, Try.ntmps48
        go_wp2_with (first | ((with_reducible refine gate_callee (f := 20) rfl ?_); refine gL (some 15) Try.func20 #[.slice A0 l0.length c0, .int .i64 a1] ?_; (with_reducible refine (spec_GetVar.calls k _ _ l0 a1 t173 t174 true _ ?side1 ?side2 A4.out).mono ?_); (case side1 => have X_ := HR0.out; exact TC); (case side2 => exact HC0.out); rintro e w' ⟨rfl, ⟨nd, rfl⟩⟩; refine ⟨_, rfl, ?_⟩) | ((with_reducible refine gate_dst (N := 34) rfl ?_); (try (refine gate_guard (by rfl) ?_; dsimp only)); refine Kd.R_lit (Kd.int .u8) _ 5 ?hg (N := 34) ?hd (xs := ([] : List Int)) (inner := []) (ok := fun _ => True) (okp := fun _ => True) ?hr ?hp (fun _ hk => hk) trivial (Below.refl _ _) (Nat.le_refl _) (by simp) ?_; (case hd => rfl); (case hg => rfl); (case hr => first | (go_simp; done) | (go_simp; rfl)); (case hp => exact (Reps.none _ _)); intro v180 w10 ho11 hb hg_ hnew_; clear hg_ hnew_; (first | rw [← Ny179.out] at ho11 | (simp only [Int.reduceToNat] at ho11; rw [← Ny179.out] at ho11)); have HO181 := aM (Kd.R_lower ho11 (below_size TB)); replace HB := bS HB hb; clear hb ho11))
        go_ret3
        exact ⟨_, TE, by have X_ := HO181.out; exact TR, TB⟩
      · rw [if_neg c9] at H
        have c9b0 : decide ((wrap64 ((l0.length : Int) - t174)) < t173) = false := decide_eq_false c9
        clear c9
        obtain ⟨y182, hy182⟩ : ∃ y_ : List Int, y_ = (([] : List Int)) := ⟨_, rfl⟩
        replace H := someE H hy182
        have Ny182 := aM hy182
        clear hy182
        replace H := ifN H
        obtain ⟨c12, H⟩ := H
        have c12b0 := eq_true c12
        have c12b1 : decide (0 ≤ t174) = true := decide_eq_true c12
        clear c12
        replace H := ifN H
        obtain ⟨c13, H⟩ := H
        have c13b0 := eq_true c13
        have c13b1 : decide (t174 ≤ (wrap64 (t174 + t173))) = true := decide_eq_true c13
        replace H := ifN H
        obtain ⟨c14, H⟩ := H
        have c14b0 := eq_true c14
        have c14b1 : decide ((wrap64 (t174 + t173)) ≤ (l0.length : Int)) = true := decide_eq_true c14
        replace H := ifN H
        obtain ⟨c15, H⟩ := H
        have LMc15 := aM c15
        clear c15
        obtain ⟨y186, hy186⟩ : ∃ y_ : List Int, y_ = (y182 ++ ((l0.take ((wrap64 (t174 + t173)) : Int).toNat).drop (t174 : Int).toNat)) := ⟨_, rfl⟩
        rw [← hy186] at H
        have Ny186 := aM hy186
        clear hy186
        simp only [Option.some.injEq, Prod.mk.injEq] at H
        obtain ⟨rfl, rfl, rfl⟩ := H
        go_enter Try.func48, Try.ntmps48
        go_wp2_with (first | ((with_reducible refine gate_callee (f := 20) rfl ?_); refine gL (some 15) Try.func20 #[.slice A0 l0.length c0, .int .i64 a1] ?_; (with_reducible refine (spec_GetVar.calls k _ _ l0 a1 t173 t174 true _ ?side1 ?side2 A4.out).mono ?_); (case side1 => have X_ := HR0.out; exact TC); (case side2 => exact HC0.out); rintro e w' ⟨rfl, ⟨nd, rfl⟩⟩; refine ⟨_, rfl, ?_⟩) | ((with_reducible refine gate_dst (N := 35) rfl ?_); (try (refine gate_guard (by rfl) ?_; dsimp only)); refine Kd.R_lit (Kd.int .u8) _ 5 ?hg (N := 35) ?hd (xs := ([] : List Int)) (inner := []) (ok := fun _ => True) (okp := fun _ => True) ?hr ?hp (fun _ hk => hk) trivial (Below.refl _ _) (Nat.le_refl _) (by simp) ?_; (case hd => rfl); (case hg => rfl); (case hr => first | (go_simp; done) | (go_simp; rfl)); (case hp => exact (Reps.none _ _)); intro v183 w16 ho17 hb hg_ hnew_; clear hg_ hnew_; (first | rw [← Ny182.out] at ho17 | (simp only [Int.reduceToNat] at ho17; rw [← Ny182.out] at ho17)); have HO184 := aM (Kd.R_lower ho17 (below_size TB)); replace HB := bS HB hb; clear hb ho17; obtain ⟨i018, hi018, _, hsz18, _⟩ := info_parts info5; obtain ⟨A18, hcut18, hA18, hC18⟩ := print_mid_of (P := Try.prog) (Value.int .u8) 0 22 5 .i64 .i64 Try.underlying22 hi018 hsz18 A0 c0 l0 t174 (wrap64 (t174 + t173)) DT (by first | omega | exact DT) DT HC0.out; have HR185 := aM (Kd.C_of_reads (h1 := fun _ => rfl) (hA18 _ (Kd.reads_of_C HR0.out))); have HC185 := aM hC18; clear hA18 hC18 hi018 hsz18) | ((with_reducible refine gate_builtin (b := .append) (xs := #[.tmp 35, .tmp 41]) rfl ?_); (try (refine gate_guard (by rfl) ?_; dsimp only)); at_builtin; refine Kd.R_append_rows (Kd.int .u8) (w0 := w) w.heap.size rfl (.tmp 35) (.tmp 41) 22 5 (.int .u8 0) 1 rfl Try.underlying22 info5 rfl (by decide) (by omega) v183 y182 ((l0.take ((wrap64 (t174 + t173)) : Int).toNat).drop (t174 : Int).toNat) _ _ _ (fun _ => True) (fun _ => False) rfl rfl ?aO ?aR (fun _ _ h => h) (fun _ h => h.elim) ?aF ?aB ?aS ?aL ?_; (case aR => first | ((conv => arg 5; rw [← show ((l0.take ((wrap64 (t174 + t173)) : Int).toNat).drop (t174 : Int).toNat).length = ((wrap64 (t174 + t173)).toNat - t174.toNat) from (by rw [List.length_drop, List.length_take]; have h_ : ((wrap64 (t174 + t173)) : Int) ≤ (l0.length : Int) := DT; omega)]); repeat (first | exact (Kd.C_below HR185.out HB.out) | (with_reducible refine Kd.C_alloc ?_ _) | (with_reducible refine Kd.C_drewN ?_ _) | (with_reducible refine Kd.C_drew ?_))) | (repeat (first | exact (Kd.C_below HR185.out HB.out) | (with_reducible refine Kd.C_alloc ?_ _) | (with_reducible refine Kd.C_drewN ?_ _) | (with_reducible refine Kd.C_drew ?_)))); (case aB => exact TB); (case aF => exact (fun _ _ => trivial)); (case aO => exact (TRf HO184)); (case aS => exact (below_size TB)); (case aL => have := LMc15.out; have hlx_ := (show ((l0.take ((wrap64 (t174 + t173)) : Int).toNat).drop (t174 : Int).toNat).length = ((wrap64 (t174 + t173)).toNat - t174.toNat) from (by rw [List.length_drop, List.length_take]; have h_ : ((wrap64 (t174 + t173)) : Int) ≤ (l0.length : Int) := DT; omega)); omega); intro v187 w19 ho hb hg hat; rw [← Ny186.out] at ho; have HO188 := aM (ho); replace HB := aM (hb); clear HO184; clear ho hb hg hat))
        go_ret3
        exact ⟨_, TE, by have X_ := HO188.out; exact TR, TB⟩
  · replace c5 := Bool.eq_false_iff.mpr c5
    subst c5
    replace H := ifF H
    obtain ⟨y189, hy189⟩ : ∃ y_ : List Int, y_ = (([] : List Int)) := ⟨_, rfl⟩
    rw [← hy189] at H
    have Ny189 := aM hy189
    clear hy189
    simp only [Option.some.injEq, Prod.mk.injEq] at H
    obtain ⟨rfl, rfl, rfl⟩ := H
    go_enter Try.func48, Try.ntmps48
    go_wp2_with (first | ((with_reducible refine gate_callee (f := 20) rfl ?_); refine gL (some 15) Try.func20 #[.slice A0 l0.length c0, .int .i64 a1] ?_; (with_reducible refine (spec_GetVar.calls k _ _ l0 a1 t173 t174 false _ ?side1 ?side2 A4.out).mono ?_); (case side1 => have X_ := HR0.out; exact TC); (case side2 => exact HC0.out); rintro e w' ⟨rfl, ⟨nd, rfl⟩⟩; refine ⟨_, rfl, ?_⟩) | ((with_reducible refine gate_dst (N := 34) rfl ?_); (try (refine gate_guard (by rfl) ?_; dsimp only)); refine Kd.R_lit (Kd.int .u8) _ 5 ?hg (N := 34) ?hd (xs := ([] : List Int)) (inner := []) (ok := fun _ => True) (okp := fun _ => True) ?hr ?hp (fun _ hk => hk) trivial (Below.refl _ _) (Nat.le_refl _) (by simp) ?_; (case hd => rfl); (case hg => rfl); (case hr => first | (go_simp; done) | (go_simp; rfl)); (case hp => exact (Reps.none _ _)); intro v190 w20 ho21 hb hg_ hnew_; clear hg_ hnew_; (first | rw [← Ny189.out] at ho21 | (simp only [Int.reduceToNat] at ho21; rw [← Ny189.out] at ho21)); have HO191 := aM (Kd.R_lower ho21 (below_size TB)); replace HB := bS HB hb; clear hb ho21))
    go_ret3
    exact ⟨_, TE, by have X_ := HO191.out; exact TR, TB⟩

end Go.Proofs.Ytanpaipapcjpoaa.Q
