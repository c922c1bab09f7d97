/- Functions of the program as plain Lean functions, and that a call of each comes to what its function tells. Written by a program of this seat. -/
import Derived.Test.YtanpaipapcjpoaaGreatDoorQ0
import Derived.Test.YtanpaipapcjpoaaGreatDoorQ2
set_option maxHeartbeats 40000000
set_option maxRecDepth 100000
namespace Go.Proofs.YtanpaipapcjpoaaGreatDoor.Q
open Go.RowKit Go.Proofs.YtanpaipapcjpoaaGreatDoorW.PrintWords Go.Proofs.YtanpaipapcjpoaaGreatDoorW.PrintLast Go.Proofs.YtanpaipapcjpoaaGreatDoorW.PrintMore
attribute [local go_sem] min2_int min_two
set_option linter.unusedVariables false
set_option linter.unusedSimpArgs false
def spec_l5Part.f (s0_0 : List Int) (s0_1 : Int) (s0_2 : Int) : Option (Int × Int × Int) := (spec_l1Once.f s0_0 s0_1 s0_2 8).bind fun bt124 => (if bt124.1 = true then ((spec_l1Int.f s0_0 bt124.2.1 bt124.2.2 (([(-1), 40, 39, 63, 64] : List Int))).bind fun bt130 => (some (bt130.1, bt130.2.1, bt130.2.2))) else ((spec_l1Below.f s0_0 bt124.2.1 bt124.2.2 40).bind fun bt133 => (some (bt133.1, bt133.2.1, bt133.2.2))))
theorem spec_l5Part.calls {g : Nat} {s0_0 : List Int} {s0_1 : Int} {s0_2 : Int} {r1 : Int} {r2 : Int} {r3 : Int} (w0 w : World) (hI : IsS70 w0 w g s0_0 s0_1 s0_2) (hB : Below w0.heap.size w0 w) (h : spec_l5Part.f s0_0 s0_1 s0_2 = some (r1, r2, r3)) :
    Calls Tryz.prog 32 #[.pointer (some ⟨g, 0, none⟩)] w fun e w' => e = .returned (.int .i64 r1) ∧ IsS70 w0 w' g s0_0 r2 r3 ∧ Below w0.heap.size w0 w' ∧ KeepBut w w' g none := by
  have HI0 := aM hI
  have HK := aM (KeepBut.refl w g none)
  have HL := aM hB.size
  clear hI
  have HW0 := aM hB.size
  have HB := aM hB
  clear hB
  have H := h
  clear h
  unfold spec_l5Part.f at H
  replace H := bE H
  obtain ⟨⟨t124, t125, t126⟩, A2, H⟩ := H
  dsimp only at H
  by_cases c3 : t124 = true
  · subst c3
    replace H := ifT H
    obtain ⟨y127, hy127⟩ : ∃ y_ : List Int, y_ = (([(-1), 40, 39, 63, 64] : List Int)) := ⟨_, rfl⟩
    rw [← hy127] at H
    have Ny127 := aM hy127
    clear hy127
    replace H := bE H
    obtain ⟨⟨t130, t131, t132⟩, A4, H⟩ := H
    dsimp only at H
    simp only [Option.some.injEq, Prod.mk.injEq] at H
    obtain ⟨rfl, rfl, rfl⟩ := H
    go_enter Tryz.func32, Tryz.ntmps32
    go_wp2_with (first | ((with_reducible refine gate_callee (f := 30) rfl ?_); refine gL (some 4) Tryz.func30 #[.pointer (some ⟨g, 0, none⟩), .int .i64 8] ?_; (with_reducible refine (spec_l1Once.calls w0 _ ?side1 ?side2 A2.out).mono ?_); (case side1 => exact TI70 HI0); (case side2 => exact TG70 HB HI0); rintro e w5 ⟨rfl, hi, hb, hk⟩; refine ⟨_, rfl, ?_⟩; replace HK := aM (KeepBut.trans (TH HK) hk (.inl rfl)); replace HB := aM (hb); replace HI0 := aM (hi); (try clear hb); (try clear hb2); (try clear hk); (try clear hi)) | ((with_reducible refine gate_dst (N := 6) rfl ?_); refine Kd.R_lit (Kd.int .i64) _ 3 ?hg (N := 6) ?hd (xs := ([(-1), 40, 39, 63, 64] : List Int)) (inner := [.int .i64 (-1), .int .i64 40, .int .i64 39, .int .i64 63, .int .i64 64]) (ok := fun _ => True) (okp := fun _ => True) ?hr ?hp (fun _ hk => hk) trivial (Below.refl _ _) (Nat.le_refl _) (by simp) ?_; (case hd => rfl); (case hg => rfl); (case hr => first | (go_simp; done) | (go_simp; rfl)); (case hp => exact (Reps.one (show Kd.M (Kd.int .i64) _ _ _ (-1) [.int .i64 (-1)] from rfl) (Reps.one (show Kd.M (Kd.int .i64) _ _ _ 40 [.int .i64 40] from rfl) (Reps.one (show Kd.M (Kd.int .i64) _ _ _ 39 [.int .i64 39] from rfl) (Reps.one (show Kd.M (Kd.int .i64) _ _ _ 63 [.int .i64 63] from rfl) (Reps.one (show Kd.M (Kd.int .i64) _ _ _ 64 [.int .i64 64] from rfl) (Reps.none _ _))))))); intro v128 w6 ho7 hb hg_ hnew_; clear hg_ hnew_; (first | rw [← Ny127.out] at ho7 | (simp only [Int.reduceToNat] at ho7; rw [← Ny127.out] at ho7)); have HO129 := aM (Kd.R_lower ho7 (keep_size (w := w) (g := g) (row := none) (TH HK))); replace HK := aM (KeepBut.trans (TH HK) (KeepBut.of_below hb g none) (.inl rfl)); replace HB := aM (below_step (TG70 HB HI0) hb); replace HI0 := aM (IsS70.below (TI70 HI0) hb); clear hb ho7; obtain ⟨Ao8, co8, eo8⟩ := Kd.R_slice HO129.out; subst eo8) | ((with_reducible refine gate_callee (f := 61) rfl ?_); refine gL (some 7) Tryz.func61 #[.pointer (some ⟨g, 0, none⟩), .slice Ao8 y127.length co8] ?_; (with_reducible refine (spec_l1Int.calls w0 _ ?side1 ?side2 ?side3 ?side4 ?side5 A4.out).mono ?_); (case side1 => exact TI70 HI0); (case side2 => exact TG70 HB HI0); (case side3 => have X_ := (Kd.R_reads' HO129.out).2.2; exact TC); (case side4 => exact (Kd.R_reads' HO129.out).2.1); (case side5 => exact far_slice (IsS70.own_ne HI0.out HO129.out (by decide))); rintro e w9 ⟨rfl, hi, hb, hk⟩; refine ⟨_, rfl, ?_⟩; replace HO129 := aM (Kd.R_mono (Kd.R_keep (IsS70.apart (show IsS70 w0 _ g s0_0 t125 t126 from TI70 HI0) (TRf HO129) (by decide)) hk (fun _ h => h.2)) (fun _ h => h.1)); replace HK := aM (KeepBut.trans (TH HK) hk (.inl rfl)); replace HB := aM (hb); replace HI0 := aM (hi); (try clear hb); (try clear hb2); (try clear hk); (try clear hi)))
    go_ret
    exact ⟨TE, TI70 HI0, TG70 HB HI0, TH HK⟩
  · replace c3 := bF c3
    subst c3
    replace H := ifF H
    replace H := bE H
    obtain ⟨⟨t133, t134, t135⟩, A10, H⟩ := H
    dsimp only at H
    simp only [Option.some.injEq, Prod.mk.injEq] at H
    obtain ⟨rfl, rfl, rfl⟩ := H
    go_enter Tryz.func32, Tryz.ntmps32
    go_wp2_with (first | ((with_reducible refine gate_callee (f := 30) rfl ?_); refine gL (some 4) Tryz.func30 #[.pointer (some ⟨g, 0, none⟩), .int .i64 8] ?_; (with_reducible refine (spec_l1Once.calls w0 _ ?side1 ?side2 A2.out).mono ?_); (case side1 => exact TI70 HI0); (case side2 => exact TG70 HB HI0); rintro e w11 ⟨rfl, hi, hb, hk⟩; refine ⟨_, rfl, ?_⟩; replace HK := aM (KeepBut.trans (TH HK) hk (.inl rfl)); replace HB := aM (hb); replace HI0 := aM (hi); (try clear hb); (try clear hb2); (try clear hk); (try clear hi)) | ((with_reducible refine gate_callee (f := 31) rfl ?_); refine gL (some 9) Tryz.func31 #[.pointer (some ⟨g, 0, none⟩), .int .i64 40] ?_; (with_reducible refine (spec_l1Below.calls w0 _ ?side1 ?side2 A10.out).mono ?_); (case side1 => exact TI70 HI0); (case side2 => exact TG70 HB HI0); rintro e w12 ⟨rfl, hi, hb, hk⟩; refine ⟨_, rfl, ?_⟩; replace HK := aM (KeepBut.trans (TH HK) hk (.inl rfl)); replace HB := aM (hb); replace HI0 := aM (hi); (try clear hb); (try clear hb2); (try clear hk); (try clear hi)))
    go_ret
    exact ⟨TE, TI70 HI0, TG70 HB HI0, TH HK⟩
def spec_l3Bytes.l0 : Nat → List Int → Int → List Int → Int → Int → Option (List Int × Int × Int)
  | 0, _, _, _, _, _ => none
  | k + 1, x5, x6, x1000, x1001, x1002 => if x6 > 0 then ((spec_l1Int.f x1000 x1001 x1002 (([97, 98, 99, 0, 255] : List Int))).bind fun bt145 => (if x5.length < 140737488355328 then (spec_l3Bytes.l0 k (x5 ++ [(bt145.1) % 256]) (wrap64 (x6 - 1)) x1000 bt145.2.1 bt145.2.2) else (none))) else (some (x5, x1001, x1002))
def spec_l3Bytes.f (k : Nat) (s0_0 : List Int) (s0_1 : Int) (s0_2 : Int) (a1 : Int) : Option (List Int × Int × Int) := (spec_l1Below.f s0_0 s0_1 s0_2 (wrap64 (a1 + 1))).bind fun bt139 => (spec_l3Bytes.l0 k (([] : List Int)) bt139.1 s0_0 bt139.2.1 bt139.2.2)
theorem spec_l3Bytes.mono_l : ∀ k, (∀ y0 y1 y2 y3 y4, LeO (spec_l3Bytes.l0 k y0 y1 y2 y3 y4) (spec_l3Bytes.l0 (k + 1) y0 y1 y2 y3 y4))
  | 0 => fun _ _ _ _ _ r h => by simp [spec_l3Bytes.l0] at h
  | k + 1 => by
    have ih0 := spec_l3Bytes.mono_l k
    · intro y0 y1 y2 y3 y4
      unfold spec_l3Bytes.l0
      exact LM
theorem spec_l3Bytes.mono : ∀ a0 a1 a2 a3 k, LeO (spec_l3Bytes.f k a0 a1 a2 a3) (spec_l3Bytes.f (k + 1) a0 a1 a2 a3) := by
  intro a0 a1 a2 a3 k;have ih0 := spec_l3Bytes.mono_l k;unfold spec_l3Bytes.f;exact LM
theorem spec_l3Bytes.calls {k : Nat} {g : Nat} {s0_0 : List Int} {s0_1 : Int} {s0_2 : Int} {a1 : Int} {r1 : List Int} {r2 : Int} {r3 : Int} (w0 w : World) (hI : IsS70 w0 w g s0_0 s0_1 s0_2) (hB : Below w0.heap.size w0 w) (h : spec_l3Bytes.f k s0_0 s0_1 s0_2 a1 = some (r1, r2, r3)) :
    Calls Tryz.prog 33 #[.pointer (some ⟨g, 0, none⟩), .int .i64 a1] w fun e w' => ∃ v0_ : Value, e = .returned (v0_) ∧ Kd.R (Kd.int .u8) 5 w' w.heap.size (fun _ => True) v0_ r1 ∧ IsS70 w0 w' g s0_0 r2 r3 ∧ Below w0.heap.size w0 w' ∧ KeepBut w w' g none := by
  have HI0 := aM hI
  have HK := aM (KeepBut.refl w g none)
  have HL := aM hB.size
  clear hI
  have HW0 := aM hB.size
  have HB := aM hB
  clear hB
  have H := h
  clear h
  unfold spec_l3Bytes.f at H
  obtain ⟨y136, hy136⟩ : ∃ y_ : List Int, y_ = (([] : List Int)) := ⟨_, rfl⟩
  rw [← hy136] at H
  have Ny136 := aM hy136
  clear hy136
  replace H := bE H
  obtain ⟨⟨t139, t140, t141⟩, A3, H⟩ := H
  dsimp only at H
  have H' := aM H
  clear H
  go_enter Tryz.func33, Tryz.ntmps33
  go_wp2_with (first | ((with_reducible refine gate_dst (N := 7) rfl ?_); refine Kd.R_lit (Kd.int .u8) _ 5 ?hg (N := 7) ?hd (xs := ([] : List Int)) (inner := []) (ok := fun _ => True) (okp := fun _ => True) ?hr ?hp (fun _ hk => hk) trivial (Below.refl _ _) (Nat.le_refl _) (by simp) ?_; (case hd => rfl); (case hg => rfl); (case hr => first | (go_simp; done) | (go_simp; rfl)); (case hp => exact (Reps.none _ _)); intro v137 w4 ho5 hb hg_ hnew_; clear hg_ hnew_; (first | rw [← Ny136.out] at ho5 | (simp only [Int.reduceToNat] at ho5; rw [← Ny136.out] at ho5)); have HO138 := aM (Kd.R_lower ho5 (keep_size (w := w) (g := g) (row := none) (TH HK))); replace HK := aM (KeepBut.trans (TH HK) (KeepBut.of_below hb g none) (.inl rfl)); replace HB := aM (below_step (TG70 HB HI0) hb); replace HI0 := aM (IsS70.below (TI70 HI0) hb); clear hb ho5) | ((with_reducible refine gate_callee (f := 31) rfl ?_); refine gL (some 11) Tryz.func31 #[.pointer (some ⟨g, 0, none⟩), .int .i64 (wrap64 (a1 + 1))] ?_; (with_reducible refine (spec_l1Below.calls w0 _ ?side1 ?side2 A3.out).mono ?_); (case side1 => exact TI70 HI0); (case side2 => exact TG70 HB HI0); rintro e w6 ⟨rfl, hi, hb, hk⟩; refine ⟨_, rfl, ?_⟩; replace HO138 := aM (Kd.R_mono (Kd.R_keep (IsS70.apart (show IsS70 w0 _ g s0_0 s0_1 s0_2 from TI70 HI0) (TRf HO138) (by decide)) hk (fun _ h => h.2)) (fun _ h => h.1)); replace HK := aM (KeepBut.trans (TH HK) hk (.inl rfl)); replace HB := aM (hb); replace HI0 := aM (hi); (try clear hb); (try clear hb2); (try clear hk); (try clear hi)))
  go_loopg [5, 6] k (fun kq v5 v6 w' => ∃ (x5_1 : List Int) (x6_1 : Int) (x1001_1 : Int) (x1002_1 : Int), v6 = .int .i64 x6_1 ∧ Aside0 (spec_l3Bytes.l0 kq x5_1 x6_1 s0_0 x1001_1 x1002_1 = some (r1, r2, r3)) ∧ Aside0 (kq ≤ k) ∧ Aside0 (Kd.R (Kd.int .u8) 5 w' w.heap.size (fun _ => True) v5 x5_1) ∧ Aside0 (IsS70 w0 w' g s0_0 x1001_1 x1002_1) ∧ Aside0 (KeepBut w w' g none) ∧ Aside0 (Below w0.heap.size w0 w'))
  case atStart => exact ⟨(y136), (t139), (t140), (t141), TF, H', ⟨Nat.le_refl _⟩, ⟨by have X_ := HO138.out; exact TR⟩, ⟨TI70 HI0⟩, ⟨TH HK⟩, ⟨TG70 HB HI0⟩⟩
  case round =>
    clear H'
    try clear p2
    try clear c3
    try clear p6
    obtain ⟨x5_1, x6_1, x1001_1, x1002_1, rfl, HA, HK1, HO_5, HI0, HK, HB⟩ := hrel
    cases gk with
    | zero => exact absurd HA.out (by simp [spec_l3Bytes.l0])
    | succ k1 =>
      have H := HA.out
      clear HA
      simp only [spec_l3Bytes.l0] at H
      by_cases c7 : x6_1 > 0
      · rw [if_pos c7] at H
        have c7b0 : decide (0 < x6_1) = true := decide_eq_true c7
        clear c7
        obtain ⟨y142, hy142⟩ : ∃ y_ : List Int, y_ = (([97, 98, 99, 0, 255] : List Int)) := ⟨_, rfl⟩
        rw [← hy142] at H
        have Ny142 := aM hy142
        clear hy142
        replace H := bE H
        obtain ⟨⟨t145, t146, t147⟩, A8, H⟩ := H
        dsimp only at H
        replace H := ifN H
        obtain ⟨c9, H⟩ := H
        have LMc9 := aM c9
        clear c9
        obtain ⟨y148, hy148⟩ : ∃ y_ : List Int, y_ = (x5_1 ++ [(t145) % 256]) := ⟨_, rfl⟩
        rw [← hy148] at H
        have Ny148 := aM hy148
        clear hy148
        have H' := aM H
        clear H
        go_wp2_with (first | ((with_reducible refine gate_dst (N := 18) rfl ?_); refine Kd.R_lit (Kd.int .i64) _ 3 ?hg (N := 18) ?hd (xs := ([97, 98, 99, 0, 255] : List Int)) (inner := [.int .i64 97, .int .i64 98, .int .i64 99, .int .i64 0, .int .i64 255]) (ok := fun _ => True) (okp := fun _ => True) ?hr ?hp (fun _ hk => hk) trivial (Below.refl _ _) (Nat.le_refl _) (by simp) ?_; (case hd => rfl); (case hg => rfl); (case hr => first | (go_simp; done) | (go_simp; rfl)); (case hp => exact (Reps.one (show Kd.M (Kd.int .i64) _ _ _ 97 [.int .i64 97] from rfl) (Reps.one (show Kd.M (Kd.int .i64) _ _ _ 98 [.int .i64 98] from rfl) (Reps.one (show Kd.M (Kd.int .i64) _ _ _ 99 [.int .i64 99] from rfl) (Reps.one (show Kd.M (Kd.int .i64) _ _ _ 0 [.int .i64 0] from rfl) (Reps.one (show Kd.M (Kd.int .i64) _ _ _ 255 [.int .i64 255] from rfl) (Reps.none _ _))))))); intro v143 w10 ho11 hb hg_ hnew_; clear hg_ hnew_; (first | rw [← Ny142.out] at ho11 | (simp only [Int.reduceToNat] at ho11; rw [← Ny142.out] at ho11)); have HO144 := aM (Kd.R_lower ho11 (keep_size (w := w) (g := g) (row := none) (TH HK))); replace HO_5 := mR HO_5 hb; replace HK := aM (KeepBut.trans (TH HK) (KeepBut.of_below hb g none) (.inl rfl)); replace HB := aM (below_step (TG70 HB HI0) hb); replace HI0 := aM (IsS70.below (TI70 HI0) hb); clear hb ho11; obtain ⟨Ao12, co12, eo12⟩ := Kd.R_slice HO144.out; subst eo12) | ((with_reducible refine gate_callee (f := 61) rfl ?_); refine gL (some 19) Tryz.func61 #[.pointer (some ⟨g, 0, none⟩), .slice Ao12 y142.length co12] ?_; (with_reducible refine (spec_l1Int.calls w0 _ ?side1 ?side2 ?side3 ?side4 ?side5 A8.out).mono ?_); (case side1 => exact TI70 HI0); (case side2 => exact TG70 HB HI0); (case side3 => have X_ := (Kd.R_reads' HO144.out).2.2; exact TC); (case side4 => exact (Kd.R_reads' HO144.out).2.1); (case side5 => exact far_slice (IsS70.own_ne HI0.out HO144.out (by decide))); rintro e w13 ⟨rfl, hi, hb, hk⟩; refine ⟨_, rfl, ?_⟩; replace HO_5 := aM (Kd.R_mono (Kd.R_keep (IsS70.apart (show IsS70 w0 _ g s0_0 x1001_1 x1002_1 from TI70 HI0) (TRf HO_5) (by decide)) hk (fun _ h => h.2)) (fun _ h => h.1)); replace HO144 := aM (Kd.R_mono (Kd.R_keep (IsS70.apart (show IsS70 w0 _ g s0_0 x1001_1 x1002_1 from TI70 HI0) (TRf HO144) (by decide)) hk (fun _ h => h.2)) (fun _ h => h.1)); replace HK := aM (KeepBut.trans (TH HK) hk (.inl rfl)); replace HB := aM (hb); replace HI0 := aM (hi); (try clear hb); (try clear hb2); (try clear hk); (try clear hi)) | ((with_reducible refine gate_builtin (b := .append) (xs := #[.tmp 16, .tmp 21]) rfl ?_); at_builtin; refine Kd.R_append (Kd.int .u8) w.heap.size rfl (.tmp 16) (.tmp 21) 22 5 (.int .u8 0) 1 rfl Tryz.underlying22 info5 rfl (by decide) (by omega) u5 x5_1 ((t145) % 256) [.int .u8 ((t145) % 256)] (fun _ => True) (fun _ => False) rfl rfl ?aP (fun _ hk => hk.elim) ?aF ?aO (Below.refl _ _) ?aS ?aL ?_; (case aP => exact rfl); (case aF => exact (fun _ _ => trivial)); (case aO => exact (TRf HO_5)); (case aS => exact (keep_size (w := w) (g := g) (row := none) (TH HK))); (case aL => have := LMc9.out; omega); intro v149 w14 ho hb hg hat; rw [← Ny148.out] at ho; have HO150 := aM (ho); replace HO144 := aM (Kd.R_over' (TRf HO144) (Kd.R_typed (TRf HO_5)) (by decide) hg); replace HB := aM (below_weaken (TG70 HB HI0) HL.out hb); replace HI0 := aM (IsS70.grown (TI70 HI0) hg (IsS70.own_ne HI0.out HO_5.out (by decide))); replace HK := aM (KeepBut.trans (TH HK) (KeepBut.of_grown hg g) (Kd.R_base2 HO_5.out)); clear HO_5; clear ho hb hg hat))
        go_roundg k1
        case measure => have := HK1.out; omega
        case rel => exact ⟨(y148), (wrap64 (x6_1 - 1)), (t146), (t147), TF, H', ⟨by have := HK1.out; omega⟩, ⟨by have X_ := HO150.out; exact TR⟩, ⟨TI70 HI0⟩, ⟨TH HK⟩, ⟨TG70 HB HI0⟩⟩
      · rw [if_neg c7] at H
        have c7b0 : decide (0 < x6_1) = false := decide_eq_false c7
        clear c7
        simp only [Option.some.injEq, Prod.mk.injEq] at H
        obtain ⟨rfl, rfl, rfl⟩ := H
        go_wp2
        go_ret
        exact ⟨_, TE, by have X_ := HO_5.out; exact TR, TI70 HI0, TG70 HB HI0, TH HK⟩
def spec_l5Set.f (s0_0 : List Int) (s0_1 : Int) (s0_2 : Int) : Option (Int × Int × Int) := (spec_l1Once.f s0_0 s0_1 s0_2 3).bind fun bt151 => (if bt151.1 = true then ((spec_l1Int.f s0_0 bt151.2.1 bt151.2.2 (([0, 1, 3, 1099511627775, 549755813888] : List Int))).bind fun bt157 => (some (bt157.1, bt157.2.1, bt157.2.2))) else ((spec_l1Below.f s0_0 bt151.2.1 bt151.2.2 65536).bind fun bt160 => ((spec_l1Below.f s0_0 bt160.2.1 bt160.2.2 20).bind fun bt163 => (if 0 ≤ bt163.1 then (some (shl .i64 bt160.1 bt163.1, bt163.2.1, bt163.2.2)) else (none)))))
theorem spec_l5Set.calls {g : Nat} {ab : List Int} {ac : Int} {ae : Int} {r1 : Int} {r2 : Int} {r3 : Int} (w0 w : World) (hI : IsS70 w0 w g ab ac ae) (hB : Below w0.heap.size w0 w) (h : spec_l5Set.f ab ac ae = some (r1, r2, r3)) :
  Calls Tryz.prog 66 #[.pointer (some ⟨g, 0, none⟩)] w fun e w' => e = .returned (.int .i64 r1) ∧ IsS70 w0 w' g ab r2 r3 ∧ Below w0.heap.size w0 w' ∧ KeepBut w w' g none := by
 have HI0 := aM hI;have HK := aM (KeepBut.refl w g none);have HL := aM hB.size;clear hI;have HW0 := aM hB.size;have HB := aM hB;clear hB;have H := h;clear h;unfold spec_l5Set.f at H;replace H := bE H;obtain ⟨⟨tq1, tq2, tq3⟩, A2, H⟩ := H;dsimp only at H
 by_cases c3 : tq1 = true
 ·subst c3;replace H := ifT H;obtain ⟨yq1, af⟩ : ∃ y_ : List Int, y_ = (([0, 1, 3, 1099511627775, 549755813888] : List Int)) := ⟨_, rfl⟩;rw [← af] at H;have Nyq1 := aM af;clear af;replace H := bE H;obtain ⟨⟨tq4, tq5, tq6⟩, A4, H⟩ := H;dsimp only at H;simp only [Option.some.injEq, Prod.mk.injEq] at H;obtain ⟨rfl, rfl, rfl⟩ := H;go_enter Tryz.func66, Tryz.ntmps66;go_wp2_with (first | ((with_reducible refine gate_callee (f := 30) rfl ?_); refine gL (some 4) Tryz.func30 #[.pointer (some ⟨g, 0, none⟩), .int .i64 3] ?_; (with_reducible refine (spec_l1Once.calls w0 _ ?side1 ?side2 A2.out).mono ?_); (case side1 => exact TI70 HI0); (case side2 => exact TG70 HB HI0); rintro e w5 ⟨rfl, hi, hb, hk⟩; refine ⟨_, rfl, ?_⟩; replace HK := aM (KeepBut.trans (TH HK) hk (.inl rfl)); replace HB := aM (hb); replace HI0 := aM (hi); (try clear hb); (try clear hb2); (try clear hk); (try clear hi)) | ((with_reducible refine gate_dst (N := 6) rfl ?_); refine Kd.R_lit (Kd.int .i64) _ 3 ?hg (N := 6) ?hd (xs := ([0, 1, 3, 1099511627775, 549755813888] : List Int)) (inner := [.int .i64 0, .int .i64 1, .int .i64 3, .int .i64 1099511627775, .int .i64 549755813888]) (ok := fun _ => True) (okp := fun _ => True) ?hr ?hp (fun _ hk => hk) trivial (Below.refl _ _) (Nat.le_refl _) (by simp) ?_; (case hd => rfl); (case hg => rfl); (case hr => first | (go_simp; done) | (go_simp; rfl)); (case hp => exact (Reps.one (show Kd.M (Kd.int .i64) _ _ _ 0 [.int .i64 0] from rfl) (Reps.one (show Kd.M (Kd.int .i64) _ _ _ 1 [.int .i64 1] from rfl) (Reps.one (show Kd.M (Kd.int .i64) _ _ _ 3 [.int .i64 3] from rfl) (Reps.one (show Kd.M (Kd.int .i64) _ _ _ 1099511627775 [.int .i64 1099511627775] from rfl) (Reps.one (show Kd.M (Kd.int .i64) _ _ _ 549755813888 [.int .i64 549755813888] from rfl) (Reps.none _ _))))))); intro vq1 w6 ho7 hb hg_ hnew_; clear hg_ hnew_; (first | rw [← Nyq1.out] at ho7 | (simp only [Int.reduceToNat] at ho7; rw [← Nyq1.out] at ho7)); have HOq1 := aM (Kd.R_lower ho7 (keep_size (w := w) (g := g) (row := none) (TH HK))); replace HK := aM (KeepBut.trans (TH HK) (KeepBut.of_below hb g none) (.inl rfl)); replace HB := aM (below_step (TG70 HB HI0) hb); replace HI0 := aM (IsS70.below (TI70 HI0) hb); clear hb ho7; obtain ⟨Ao8, co8, eo8⟩ := Kd.R_slice HOq1.out; subst eo8) | ((with_reducible refine gate_callee (f := 61) rfl ?_); refine gL (some 7) Tryz.func61 #[.pointer (some ⟨g, 0, none⟩), .slice Ao8 yq1.length co8] ?_; (with_reducible refine (spec_l1Int.calls w0 _ ?side1 ?side2 ?side3 ?side4 ?side5 A4.out).mono ?_); (case side1 => exact TI70 HI0); (case side2 => exact TG70 HB HI0); (case side3 => have X_ := (Kd.R_reads' HOq1.out).2.2; exact TC); (case side4 => exact (Kd.R_reads' HOq1.out).2.1); (case side5 => exact far_slice (IsS70.own_ne HI0.out HOq1.out (by decide))); rintro e w9 ⟨rfl, hi, hb, hk⟩; refine ⟨_, rfl, ?_⟩; replace HOq1 := aM (Kd.R_mono (Kd.R_keep (IsS70.apart (show IsS70 w0 _ g ab tq2 tq3 from TI70 HI0) (TRf HOq1) (by decide)) hk (fun _ h => h.2)) (fun _ h => h.1)); replace HK := aM (KeepBut.trans (TH HK) hk (.inl rfl)); replace HB := aM (hb); replace HI0 := aM (hi); (try clear hb); (try clear hb2); (try clear hk); (try clear hi)))
  go_ret
  exact ⟨TE, TI70 HI0, TG70 HB HI0, TH HK⟩
 ·replace c3 := bF c3;subst c3;replace H := ifF H;replace H := bE H;obtain ⟨⟨tq4, tq5, tq6⟩, A10, H⟩ := H;dsimp only at H;replace H := bE H;obtain ⟨⟨tq7, tq8, tq9⟩, Aq1, H⟩ := H;dsimp only at H;replace H := ifN H;obtain ⟨cq1, H⟩ := H;have cq2 := eq_true cq1;have cq3 : decide (0 ≤ tq7) = true := decide_eq_true cq1;clear cq1;obtain ⟨ad, aa⟩ : ∃ j_ : Int, (shl .i64 tq4 tq7) = j_ := ⟨_, rfl⟩;(first | rw [aa] at H | simp only [aa] at H | skip);(try rw [aa] at A2);(try rw [aa] at A10);(try rw [aa] at Aq1);have hjiq2 : (IntKind.i64.wrap (tq4 * 2 ^ min tq7.toNat 64)) = ad := aa;have hjiq3 : tq7 ≤ 64 → (IntKind.i64.wrap (tq4 * 2 ^ tq7.toNat)) = ad := shl_small aa;have hjiq4 : (wrap64 (tq4 * 2 ^ min tq7.toNat 64)) = ad := (i64_w _).symm.trans hjiq2;have hjiq5 : tq7 ≤ 64 → (wrap64 (tq4 * 2 ^ tq7.toNat)) = ad := fun h_ => (i64_w _).symm.trans (hjiq3 h_)
  simp only [Option.some.injEq, Prod.mk.injEq] at H;obtain ⟨rfl, rfl, rfl⟩ := H;go_enter Tryz.func66, Tryz.ntmps66;go_wp2_with (first | ((with_reducible refine gate_callee (f := 30) rfl ?_); refine gL (some 4) Tryz.func30 #[.pointer (some ⟨g, 0, none⟩), .int .i64 3] ?_; (with_reducible refine (spec_l1Once.calls w0 _ ?side1 ?side2 A2.out).mono ?_); (case side1 => exact TI70 HI0); (case side2 => exact TG70 HB HI0); rintro e w14 ⟨rfl, hi, hb, hk⟩; refine ⟨_, rfl, ?_⟩; replace HK := aM (KeepBut.trans (TH HK) hk (.inl rfl)); replace HB := aM (hb); replace HI0 := aM (hi); (try clear hb); (try clear hb2); (try clear hk); (try clear hi)) | ((with_reducible refine gate_callee (f := 31) rfl ?_); refine gL (some 9) Tryz.func31 #[.pointer (some ⟨g, 0, none⟩), .int .i64 65536] ?_; (with_reducible refine (spec_l1Below.calls w0 _ ?side1 ?side2 A10.out).mono ?_); (case side1 => exact TI70 HI0); (case side2 => exact TG70 HB HI0); rintro e wq1 ⟨rfl, hi, hb, hk⟩; refine ⟨_, rfl, ?_⟩; replace HK := aM (KeepBut.trans (TH HK) hk (.inl rfl)); replace HB := aM (hb); replace HI0 := aM (hi); (try clear hb); (try clear hb2); (try clear hk); (try clear hi)) | ((with_reducible refine gate_callee (f := 31) rfl ?_); refine gL (some 11) Tryz.func31 #[.pointer (some ⟨g, 0, none⟩), .int .i64 20] ?_; (with_reducible refine (spec_l1Below.calls w0 _ ?side1 ?side2 Aq1.out).mono ?_); (case side1 => exact TI70 HI0); (case side2 => exact TG70 HB HI0); rintro e wq2 ⟨rfl, hi, hb, hk⟩; refine ⟨_, rfl, ?_⟩; replace HK := aM (KeepBut.trans (TH HK) hk (.inl rfl)); replace HB := aM (hb); replace HI0 := aM (hi); (try clear hb); (try clear hb2); (try clear hk); (try clear hi)))
  go_ret
  exact ⟨by first | rfl | (simp [errW_none, errW_some] <;> rfl) | (simp only [← aa]; first | rfl | (simp [errW_none, errW_some] <;> rfl)) | (simp [*, errW_none, errW_some] <;> rfl), TI70 HI0, TG70 HB HI0, TH HK⟩
end Go.Proofs.YtanpaipapcjpoaaGreatDoor.Q
