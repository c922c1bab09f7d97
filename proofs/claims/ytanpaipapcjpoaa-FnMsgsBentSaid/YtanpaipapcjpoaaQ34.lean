/- Functions of the program as plain Lean functions, and that a call of each comes to what its function tells. Written by a program of this seat. -/
import Derived.Test.YtanpaipapcjpoaaQ0
import Derived.Test.YtanpaipapcjpoaaQ2
import Derived.Test.YtanpaipapcjpoaaQ3
import Derived.Test.YtanpaipapcjpoaaQ30
namespace Go.Proofs.Ytanpaipapcjpoaa.Q
open Go.RowKit Go.Proofs.YtanpaipapcjpoaaW.PrintWords Go.Proofs.YtanpaipapcjpoaaW.PrintLast Go.Proofs.YtanpaipapcjpoaaW.PrintMore
attribute [local go_sem] min2_int min_two
set_option linter.unusedVariables false
set_option linter.unusedSimpArgs false

def spec_l3Bytes.l0 : Nat → List Int → Int → List Int → Int → Int → Option (List Int × Int × Int)
  | 0, _, _, _, _, _ => none
  | k + 1, x5, x6, x1000, x1001, x1002 => if x6 > 0 then ((spec_l1Int.f x1000 x1001 x1002 (([97, 98, 99, 0, 255] : List Int))).bind fun bt812 => (if x5.length < 140737488355328 then (spec_l3Bytes.l0 k (x5 ++ [(bt812.1) % 256]) (wrap64 (x6 - 1)) x1000 bt812.2.1 bt812.2.2) else (none))) else (some (x5, x1001, x1002))
def spec_l3Bytes.f (k : Nat) (s0_0 : List Int) (s0_1 : Int) (s0_2 : Int) (a1 : Int) : Option (List Int × Int × Int) := (spec_l1Below.f s0_0 s0_1 s0_2 (wrap64 (a1 + 1))).bind fun bt806 => (spec_l3Bytes.l0 k (([] : List Int)) bt806.1 s0_0 bt806.2.1 bt806.2.2)
theorem spec_l3Bytes.mono_l : ∀ k, (∀ y0 y1 y2 y3 y4, LeO (spec_l3Bytes.l0 k y0 y1 y2 y3 y4) (spec_l3Bytes.l0 (k + 1) y0 y1 y2 y3 y4))
  | 0 => fun _ _ _ _ _ r h => by simp [spec_l3Bytes.l0] at h
  | k + 1 => by
    have ih0 := spec_l3Bytes.mono_l k
    · intro y0 y1 y2 y3 y4
      unfold spec_l3Bytes.l0
      exact LM
theorem spec_l3Bytes.mono : ∀ a0 a1 a2 a3 k, LeO (spec_l3Bytes.f k a0 a1 a2 a3) (spec_l3Bytes.f (k + 1) a0 a1 a2 a3) := by
  intro a0 a1 a2 a3 k;have ih0 := spec_l3Bytes.mono_l k;unfold spec_l3Bytes.f;exact LM
set_option maxHeartbeats 40000000 in
set_option maxRecDepth 100000 in
theorem spec_l3Bytes.calls (k : Nat) (g : Nat) (s0_0 : List Int) (s0_1 : Int) (s0_2 : Int) (a1 : Int) (r1 : List Int) (r2 : Int) (r3 : Int) (w0 w : World) (hI : IsS69 w0 w g s0_0 s0_1 s0_2) (hB : Below w0.heap.size w0 w) (h : spec_l3Bytes.f k s0_0 s0_1 s0_2 a1 = some (r1, r2, r3)) :
    Calls Try.prog 70 #[.pointer (some ⟨g, 0, none⟩), .int .i64 a1] w fun e w' => ∃ v0_ : Value, e = .returned (v0_) ∧ Kd.R (Kd.int .u8) 5 w' w.heap.size (fun _ => True) v0_ r1 ∧ IsS69 w0 w' g s0_0 r2 r3 ∧ Below w0.heap.size w0 w' ∧ KeepBut w w' g none := by
  have HI0 := aM hI
  have HK := aM (KeepBut.refl w g none)
  have HL := aM hB.size
  clear hI
  have HW0 := aM hB.size
  have HB := aM hB
  clear hB
  have H := h
  clear h
  unfold spec_l3Bytes.f at H
  obtain ⟨y803, hy803⟩ : ∃ y_ : List Int, y_ = (([] : List Int)) := ⟨_, rfl⟩
  rw [← hy803] at H
  have Ny803 := aM hy803
  clear hy803
  replace H := bE H
  obtain ⟨⟨t806, t807, t808⟩, A3, H⟩ := H
  dsimp only at H
  have H' := aM H
  clear H
  go_enter Try.func70, Try.ntmps70
  go_wp2_with (first | ((with_reducible refine gate_dst (N := 7) rfl ?_); refine Kd.R_lit (Kd.int .u8) _ 5 ?hg (N := 7) ?hd (xs := ([] : List Int)) (inner := []) (ok := fun _ => True) (okp := fun _ => True) ?hr ?hp (fun _ hk => hk) trivial (Below.refl _ _) (Nat.le_refl _) (by simp) ?_; (case hd => rfl); (case hg => rfl); (case hr => first | (go_simp; done) | (go_simp; rfl)); (case hp => exact (Reps.none _ _)); intro v804 w4 ho5 hb hg_ hnew_; clear hg_ hnew_; (first | rw [← Ny803.out] at ho5 | (simp only [Int.reduceToNat] at ho5; rw [← Ny803.out] at ho5)); have HO805 := aM (Kd.R_lower ho5 (keep_size (w := w) (g := g) (row := none) (TH HK))); replace HK := aM (KeepBut.trans (TH HK) (KeepBut.of_below hb g none) (.inl rfl)); replace HB := aM (below_step (TG69 HB HI0) hb); replace HI0 := aM (IsS69.below (TI69 HI0) hb); clear hb ho5) | ((with_reducible refine gate_callee (f := 61) rfl ?_); refine gL (some 11) Try.func61 #[.pointer (some ⟨g, 0, none⟩), .int .i64 (wrap64 (a1 + 1))] ?_; (with_reducible refine (spec_l1Below.calls g s0_0 s0_1 s0_2 (wrap64 (a1 + 1)) t806 t807 t808 w0 _ ?side1 ?side2 A3.out).mono ?_); (case side1 => exact TI69 HI0); (case side2 => exact TG69 HB HI0); rintro e w6 ⟨rfl, hi, hb, hk⟩; refine ⟨_, rfl, ?_⟩; replace HO805 := aM (Kd.R_mono (Kd.R_keep (IsS69.apart (show IsS69 w0 _ g s0_0 s0_1 s0_2 from TI69 HI0) (TRf HO805) (by decide)) hk (fun _ h => h.2)) (fun _ h => h.1)); replace HK := aM (KeepBut.trans (TH HK) hk (.inl rfl)); replace HB := aM (hb); replace HI0 := aM (hi); (try clear hb); (try clear hb2); (try clear hk); (try clear hi)))
  go_loopg [5, 6] k (fun kq v5 v6 w' => ∃ (x5_1 : List Int) (x6_1 : Int) (x1001_1 : Int) (x1002_1 : Int), v6 = .int .i64 x6_1 ∧ Aside0 (spec_l3Bytes.l0 kq x5_1 x6_1 s0_0 x1001_1 x1002_1 = some (r1, r2, r3)) ∧ Aside0 (kq ≤ k) ∧ Aside0 (Kd.R (Kd.int .u8) 5 w' w.heap.size (fun _ => True) v5 x5_1) ∧ Aside0 (IsS69 w0 w' g s0_0 x1001_1 x1002_1) ∧ Aside0 (KeepBut w w' g none) ∧ Aside0 (Below w0.heap.size w0 w'))
  case atStart => exact ⟨(y803), (t806), (t807), (t808), TF, H', ⟨Nat.le_refl _⟩, ⟨by have X_ := HO805.out; exact TR⟩, ⟨TI69 HI0⟩, ⟨TH HK⟩, ⟨TG69 HB HI0⟩⟩
  case round =>
    clear H'
    try clear p2
    try clear c6
    try clear p6
    obtain ⟨x5_1, x6_1, x1001_1, x1002_1, rfl, HA, HK1, HO_5, HI0, HK, HB⟩ := hrel
    cases gk with
    | zero => exact absurd HA.out (by simp [spec_l3Bytes.l0])
    | succ k1 =>
      have H := HA.out
      clear HA
      simp only [spec_l3Bytes.l0] at H
      by_cases c7 : x6_1 > 0
      · rw [if_pos c7] at H
        have c7b0 : decide (0 < x6_1) = true := decide_eq_true c7
        clear c7
        obtain ⟨y809, hy809⟩ : ∃ y_ : List Int, y_ = (([97, 98, 99, 0, 255] : List Int)) := ⟨_, rfl⟩
        rw [← hy809] at H
        have Ny809 := aM hy809
        clear hy809
        replace H := bE H
        obtain ⟨⟨t812, t813, t814⟩, A8, H⟩ := H
        dsimp only at H
        replace H := ifN H
        obtain ⟨c9, H⟩ := H
        have LMc9 := aM c9
        clear c9
        obtain ⟨y815, hy815⟩ : ∃ y_ : List Int, y_ = (x5_1 ++ [(t812) % 256]) := ⟨_, rfl⟩
        rw [← hy815] at H
        have Ny815 := aM hy815
        clear hy815
        have H' := aM H
        clear H
        go_wp2_with (first | ((with_reducible refine gate_dst (N := 18) rfl ?_); refine Kd.R_lit (Kd.int .i64) _ 3 ?hg (N := 18) ?hd (xs := ([97, 98, 99, 0, 255] : List Int)) (inner := [.int .i64 97, .int .i64 98, .int .i64 99, .int .i64 0, .int .i64 255]) (ok := fun _ => True) (okp := fun _ => True) ?hr ?hp (fun _ hk => hk) trivial (Below.refl _ _) (Nat.le_refl _) (by simp) ?_; (case hd => rfl); (case hg => rfl); (case hr => first | (go_simp; done) | (go_simp; rfl)); (case hp => exact (Reps.one (show Kd.M (Kd.int .i64) _ _ _ 97 [.int .i64 97] from rfl) (Reps.one (show Kd.M (Kd.int .i64) _ _ _ 98 [.int .i64 98] from rfl) (Reps.one (show Kd.M (Kd.int .i64) _ _ _ 99 [.int .i64 99] from rfl) (Reps.one (show Kd.M (Kd.int .i64) _ _ _ 0 [.int .i64 0] from rfl) (Reps.one (show Kd.M (Kd.int .i64) _ _ _ 255 [.int .i64 255] from rfl) (Reps.none _ _))))))); intro v810 w10 ho11 hb hg_ hnew_; clear hg_ hnew_; (first | rw [← Ny809.out] at ho11 | (simp only [Int.reduceToNat] at ho11; rw [← Ny809.out] at ho11)); have HO811 := aM (Kd.R_lower ho11 (keep_size (w := w) (g := g) (row := none) (TH HK))); replace HO_5 := mR HO_5 hb; replace HK := aM (KeepBut.trans (TH HK) (KeepBut.of_below hb g none) (.inl rfl)); replace HB := aM (below_step (TG69 HB HI0) hb); replace HI0 := aM (IsS69.below (TI69 HI0) hb); clear hb ho11; obtain ⟨Ao12, co12, eo12⟩ := Kd.R_slice HO811.out; subst eo12) | ((with_reducible refine gate_callee (f := 62) rfl ?_); refine gL (some 19) Try.func62 #[.pointer (some ⟨g, 0, none⟩), .slice Ao12 y809.length co12] ?_; (with_reducible refine (spec_l1Int.calls g s0_0 x1001_1 x1002_1 _ _ y809 t812 t813 t814 w0 _ ?side1 ?side2 ?side3 ?side4 ?side5 A8.out).mono ?_); (case side1 => exact TI69 HI0); (case side2 => exact TG69 HB HI0); (case side3 => have X_ := (Kd.R_reads' HO811.out).2.2; exact TC); (case side4 => exact (Kd.R_reads' HO811.out).2.1); (case side5 => exact far_slice (IsS69.own_ne HI0.out HO811.out (by decide))); rintro e w13 ⟨rfl, hi, hb, hk⟩; refine ⟨_, rfl, ?_⟩; replace HO_5 := aM (Kd.R_mono (Kd.R_keep (IsS69.apart (show IsS69 w0 _ g s0_0 x1001_1 x1002_1 from TI69 HI0) (TRf HO_5) (by decide)) hk (fun _ h => h.2)) (fun _ h => h.1)); replace HO811 := aM (Kd.R_mono (Kd.R_keep (IsS69.apart (show IsS69 w0 _ g s0_0 x1001_1 x1002_1 from TI69 HI0) (TRf HO811) (by decide)) hk (fun _ h => h.2)) (fun _ h => h.1)); replace HK := aM (KeepBut.trans (TH HK) hk (.inl rfl)); replace HB := aM (hb); replace HI0 := aM (hi); (try clear hb); (try clear hb2); (try clear hk); (try clear hi)) | ((with_reducible refine gate_builtin (b := .append) (xs := #[.tmp 16, .tmp 21]) rfl ?_); at_builtin; refine Kd.R_append (Kd.int .u8) w.heap.size rfl (.tmp 16) (.tmp 21) 22 5 (.int .u8 0) 1 rfl Try.underlying22 info5 rfl (by decide) (by omega) u5 x5_1 ((t812) % 256) [.int .u8 ((t812) % 256)] (fun _ => True) (fun _ => False) rfl rfl ?aP (fun _ hk => hk.elim) ?aF ?aO (Below.refl _ _) ?aS ?aL ?_; (case aP => exact rfl); (case aF => exact (fun _ _ => trivial)); (case aO => exact (TRf HO_5)); (case aS => exact (keep_size (w := w) (g := g) (row := none) (TH HK))); (case aL => have := LMc9.out; omega); intro v816 w14 ho hb hg hat; rw [← Ny815.out] at ho; have HO817 := aM (ho); replace HO811 := aM (Kd.R_over' (TRf HO811) (Kd.R_typed (TRf HO_5)) (by decide) hg); replace HB := aM (below_weaken (TG69 HB HI0) HL.out hb); replace HI0 := aM (IsS69.grown (TI69 HI0) hg (IsS69.own_ne HI0.out HO_5.out (by decide))); replace HK := aM (KeepBut.trans (TH HK) (KeepBut.of_grown hg g) (Kd.R_base2 HO_5.out)); clear HO_5; clear ho hb hg hat))
        go_roundg k1
        case measure => have := HK1.out; omega
        case rel => exact ⟨(y815), (wrap64 (x6_1 - 1)), (t813), (t814), TF, H', ⟨by have := HK1.out; omega⟩, ⟨by have X_ := HO817.out; exact TR⟩, ⟨TI69 HI0⟩, ⟨TH HK⟩, ⟨TG69 HB HI0⟩⟩
      · rw [if_neg c7] at H
        have c7b0 : decide (0 < x6_1) = false := decide_eq_false c7
        clear c7
        simp only [Option.some.injEq, Prod.mk.injEq] at H
        obtain ⟨rfl, rfl, rfl⟩ := H
        go_wp2
        go_ret
        exact ⟨_, TE, by have X_ := HO_5.out; exact TR, TI69 HI0, TG69 HB HI0, TH HK⟩

def spec_l6Image.f (k : Nat) (s0_0 : List Int) (s0_1 : Int) (s0_2 : Int) : Option (List Int × Int × Int) := (spec_l3Bytes.f k s0_0 s0_1 s0_2 16).bind fun bt818 => (some (bt818.1, bt818.2.1, bt818.2.2))
theorem spec_l6Image.mono : ∀ a0 a1 a2 k, LeO (spec_l6Image.f k a0 a1 a2) (spec_l6Image.f (k + 1) a0 a1 a2) := by
  intro a0 a1 a2 k;have m0_ := @spec_l3Bytes.mono;unfold spec_l6Image.f;exact LM
set_option maxHeartbeats 40000000 in
set_option maxRecDepth 100000 in
theorem spec_l6Image.calls (k : Nat) (g : Nat) (s0_0 : List Int) (s0_1 : Int) (s0_2 : Int) (r1 : List Int) (r2 : Int) (r3 : Int) (w0 w : World) (hI : IsS69 w0 w g s0_0 s0_1 s0_2) (hB : Below w0.heap.size w0 w) (h : spec_l6Image.f k s0_0 s0_1 s0_2 = some (r1, r2, r3)) :
    Calls Try.prog 93 #[.pointer (some ⟨g, 0, none⟩)] w fun e w' => ∃ v0_ : Value, e = .returned (v0_) ∧ Kd.R (Kd.int .u8) 5 w' w.heap.size (fun _ => True) v0_ r1 ∧ IsS69 w0 w' g s0_0 r2 r3 ∧ Below w0.heap.size w0 w' ∧ KeepBut w w' g none := by
  have HI0 := aM hI
  have HK := aM (KeepBut.refl w g none)
  have HL := aM hB.size
  clear hI
  have HW0 := aM hB.size
  have HB := aM hB
  clear hB
  have H := h
  clear h
  unfold spec_l6Image.f at H
  replace H := bE H
  obtain ⟨⟨t818, t821, t822⟩, A2, H⟩ := H
  dsimp only at H
  simp only [Option.some.injEq, Prod.mk.injEq] at H
  obtain ⟨rfl, rfl, rfl⟩ := H
  go_enter Try.func93, Try.ntmps93
  go_wp2_with (first | ((with_reducible refine gate_callee (f := 70) rfl ?_); refine gL (some 4) Try.func70 #[.pointer (some ⟨g, 0, none⟩), .int .i64 16] ?_; (with_reducible refine (spec_l3Bytes.calls k g s0_0 s0_1 s0_2 16 t818 t821 t822 w0 _ ?side1 ?side2 A2.out).mono ?_); (case side1 => exact TI69 HI0); (case side2 => exact TG69 HB HI0); rintro e w3 ⟨v819, rfl, ho0, hi, hb, hk⟩; refine ⟨_, rfl, ?_⟩; have HO820 := aM (Kd.R_lower ho0 (keep_size (w := w) (g := g) (row := none) (TH HK))); replace HK := aM (KeepBut.trans (TH HK) hk (.inl rfl)); replace HB := aM (hb); replace HI0 := aM (hi); (try clear hb); (try clear hb2); (try clear hk); (try clear hi); (try clear ho0)))
  go_ret
  exact ⟨_, TE, by have X_ := HO820.out; exact TR, TI69 HI0, TG69 HB HI0, TH HK⟩

def spec_BlockAt.f (l0 : List Int) (a1 : Int) (a2 : Int) : Option (List Int × Bool) := (spec_SpanOf.f a1 (l0.length : Int) a2).bind fun bt823 => (if bt823.2 = 0 then (some ((([] : List Int)), false)) else ((some (([] : List Int) : List Int)).bind fun y828 => (if 0 ≤ bt823.1 then (if bt823.1 ≤ (wrap64 (bt823.1 + bt823.2)) then (if (wrap64 (bt823.1 + bt823.2)) ≤ (l0.length : Int) then (if y828.length + ((l0.take ((wrap64 (bt823.1 + bt823.2)) : Int).toNat).drop (bt823.1 : Int).toNat).length < 140737488355328 then (some ((y828 ++ ((l0.take ((wrap64 (bt823.1 + bt823.2)) : Int).toNat).drop (bt823.1 : Int).toNat)), true)) else (none)) else (none)) else (none)) else (none))))
set_option maxHeartbeats 40000000 in
set_option maxRecDepth 100000 in
theorem spec_BlockAt.calls (A0 : Option Addr) (c0 : Nat) (l0 : List Int) (a1 : Int) (a2 : Int) (r1 : List Int) (r2 : Bool) (w : World) (hr0 : Kd.C (Kd.int .u8) w A0 l0.length l0) (hc0 : l0.length ≤ c0) (h : spec_BlockAt.f l0 a1 a2 = some (r1, r2)) :
    Calls Try.prog 101 #[.slice A0 l0.length c0, .int .i64 a1, .int .i64 a2] w fun e w' => ∃ v0_ : Value, e = .returned (.tuple #[v0_, .bool r2]) ∧ Kd.R (Kd.int .u8) 5 w' w.heap.size (fun _ => True) v0_ r1 ∧ Below w.heap.size w w' := by
  have HR0 := aM hr0
  have HC0 := aM hc0
  clear hr0 hc0
  have HB := aM (Below.refl w.heap.size w)
  have H := h
  clear h
  unfold spec_BlockAt.f at H
  replace H := bE H
  obtain ⟨⟨t823, t824⟩, A4, H⟩ := H
  dsimp only at H
  by_cases c5 : t824 = 0
  · rw [if_pos c5] at H
    have c5b0 : (t824 == 0) = true := beq_iff_eq.mpr c5
    have c5b1 : (t824 != 0) = false := bne_eq_false_iff_eq.mpr c5
    clear c5
    obtain ⟨y825, hy825⟩ : ∃ y_ : List Int, y_ = (([] : List Int)) := ⟨_, rfl⟩
    rw [← hy825] at H
    have Ny825 := aM hy825
    clear hy825
    simp only [Option.some.injEq, Prod.mk.injEq] at H
    obtain ⟨rfl, rfl⟩ := H
    go_enter Try.func101, Try.ntmps101
    go_wp2_with (first | ((with_reducible refine gate_callee (f := 87) rfl ?_); refine gL (some 15) Try.func87 #[.int .i64 a1, .int .i64 (l0.length : Int), .int .i64 a2] ?_; (with_reducible refine (spec_SpanOf.calls a1 (l0.length : Int) a2 t823 t824 _ A4.out).mono ?_); rintro e w' ⟨rfl, ⟨nd, rfl⟩⟩; refine ⟨_, rfl, ?_⟩) | ((with_reducible refine gate_dst (N := 20) rfl ?_); refine Kd.R_lit (Kd.int .u8) _ 5 ?hg (N := 20) ?hd (xs := ([] : List Int)) (inner := []) (ok := fun _ => True) (okp := fun _ => True) ?hr ?hp (fun _ hk => hk) trivial (Below.refl _ _) (Nat.le_refl _) (by simp) ?_; (case hd => rfl); (case hg => rfl); (case hr => first | (go_simp; done) | (go_simp; rfl)); (case hp => exact (Reps.none _ _)); intro v826 w6 ho7 hb hg_ hnew_; clear hg_ hnew_; (first | rw [← Ny825.out] at ho7 | (simp only [Int.reduceToNat] at ho7; rw [← Ny825.out] at ho7)); have HO827 := aM (Kd.R_lower ho7 (below_size TB)); replace HB := bS HB hb; clear hb ho7))
    go_ret2
    exact ⟨_, TE, by have X_ := HO827.out; exact TR, TB⟩
  · rw [if_neg c5] at H
    have c5b0 : (t824 == 0) = false := beq_eq_false_iff_ne.mpr c5
    have c5b1 : (t824 != 0) = true := bne_iff_ne.mpr c5
    obtain ⟨y828, hy828⟩ : ∃ y_ : List Int, y_ = (([] : List Int)) := ⟨_, rfl⟩
    replace H := someE H hy828
    have Ny828 := aM hy828
    clear hy828
    replace H := ifN H
    obtain ⟨c8, H⟩ := H
    have c8b0 := eq_true c8
    have c8b1 : decide (0 ≤ t823) = true := decide_eq_true c8
    clear c8
    replace H := ifN H
    obtain ⟨c9, H⟩ := H
    have c9b0 := eq_true c9
    have c9b1 : decide (t823 ≤ (wrap64 (t823 + t824))) = true := decide_eq_true c9
    replace H := ifN H
    obtain ⟨c10, H⟩ := H
    have c10b0 := eq_true c10
    have c10b1 : decide ((wrap64 (t823 + t824)) ≤ (l0.length : Int)) = true := decide_eq_true c10
    replace H := ifN H
    obtain ⟨c11, H⟩ := H
    have LMc11 := aM c11
    clear c11
    obtain ⟨y832, hy832⟩ : ∃ y_ : List Int, y_ = (y828 ++ ((l0.take ((wrap64 (t823 + t824)) : Int).toNat).drop (t823 : Int).toNat)) := ⟨_, rfl⟩
    rw [← hy832] at H
    have Ny832 := aM hy832
    clear hy832
    simp only [Option.some.injEq, Prod.mk.injEq] at H
    obtain ⟨rfl, rfl⟩ := H
    go_enter Try.func101, Try.ntmps101
    go_wp2_with (first | ((with_reducible refine gate_callee (f := 87) rfl ?_); refine gL (some 15) Try.func87 #[.int .i64 a1, .int .i64 (l0.length : Int), .int .i64 a2] ?_; (with_reducible refine (spec_SpanOf.calls a1 (l0.length : Int) a2 t823 t824 _ A4.out).mono ?_); rintro e w' ⟨rfl, ⟨nd, rfl⟩⟩; refine ⟨_, rfl, ?_⟩) | ((with_reducible refine gate_dst (N := 21) rfl ?_); refine Kd.R_lit (Kd.int .u8) _ 5 ?hg (N := 21) ?hd (xs := ([] : List Int)) (inner := []) (ok := fun _ => True) (okp := fun _ => True) ?hr ?hp (fun _ hk => hk) trivial (Below.refl _ _) (Nat.le_refl _) (by simp) ?_; (case hd => rfl); (case hg => rfl); (case hr => first | (go_simp; done) | (go_simp; rfl)); (case hp => exact (Reps.none _ _)); intro v829 w12 ho13 hb hg_ hnew_; clear hg_ hnew_; (first | rw [← Ny828.out] at ho13 | (simp only [Int.reduceToNat] at ho13; rw [← Ny828.out] at ho13)); have HO830 := aM (Kd.R_lower ho13 (below_size TB)); replace HB := bS HB hb; clear hb ho13; obtain ⟨i014, hi014, _, hsz14, _⟩ := info_parts info5; obtain ⟨A14, hcut14, hA14, hC14⟩ := print_mid_of (P := Try.prog) (Value.int .u8) 0 22 5 .i64 .i64 Try.underlying22 hi014 hsz14 A0 c0 l0 t823 (wrap64 (t823 + t824)) DT (by first | omega | exact DT) DT HC0.out; have HR831 := aM (Kd.C_of_reads (h1 := fun _ => rfl) (hA14 _ (Kd.reads_of_C HR0.out))); have HC831 := aM hC14; clear hA14 hC14 hi014 hsz14) | ((with_reducible refine gate_builtin (b := .append) (xs := #[.tmp 21, .tmp 27]) rfl ?_); at_builtin; refine Kd.R_append_rows (Kd.int .u8) (w0 := w) w.heap.size rfl (.tmp 21) (.tmp 27) 22 5 (.int .u8 0) 1 rfl Try.underlying22 info5 rfl (by decide) (by omega) v829 y828 ((l0.take ((wrap64 (t823 + t824)) : Int).toNat).drop (t823 : Int).toNat) _ _ _ (fun _ => True) (fun _ => False) rfl rfl ?aO ?aR (fun _ _ h => h) (fun _ h => h.elim) ?aF ?aB ?aS ?aL ?_; (case aR => first | ((conv => arg 5; rw [← show ((l0.take ((wrap64 (t823 + t824)) : Int).toNat).drop (t823 : Int).toNat).length = ((wrap64 (t823 + t824)).toNat - t823.toNat) from (by rw [List.length_drop, List.length_take]; have h_ : ((wrap64 (t823 + t824)) : Int) ≤ (l0.length : Int) := DT; omega)]); repeat (first | exact (Kd.C_below HR831.out HB.out) | (with_reducible refine Kd.C_alloc ?_ _) | (with_reducible refine Kd.C_drewN ?_ _) | (with_reducible refine Kd.C_drew ?_))) | (repeat (first | exact (Kd.C_below HR831.out HB.out) | (with_reducible refine Kd.C_alloc ?_ _) | (with_reducible refine Kd.C_drewN ?_ _) | (with_reducible refine Kd.C_drew ?_)))); (case aB => exact TB); (case aF => exact (fun _ _ => trivial)); (case aO => exact (TRf HO830)); (case aS => exact (below_size TB)); (case aL => have := LMc11.out; have hlx_ := (show ((l0.take ((wrap64 (t823 + t824)) : Int).toNat).drop (t823 : Int).toNat).length = ((wrap64 (t823 + t824)).toNat - t823.toNat) from (by rw [List.length_drop, List.length_take]; have h_ : ((wrap64 (t823 + t824)) : Int) ≤ (l0.length : Int) := DT; omega)); omega); intro v833 w15 ho hb hg hat; rw [← Ny832.out] at ho; have HO834 := aM (ho); replace HB := aM (hb); clear HO830; clear ho hb hg hat))
    go_ret2
    exact ⟨_, TE, by have X_ := HO834.out; exact TR, TB⟩

def spec_SumsOf.l0 : Nat → List Int → Int → List (S83) → Int → Option ((List (S83)))
  | 0, _, _, _, _ => none
  | k + 1, x0, x1, x5, x6 => (spec_Blocks.f x1 (x0.length : Int)).bind fun t838 => (if x6 < t838 then ((spec_BlockAt.f x0 x1 x6).bind fun bt839 => ((spec_SumOf.f k bt839.1).bind fun bt843 => (if x5.length < 8796093022208 then (spec_SumsOf.l0 k x0 x1 (x5 ++ [(⟨bt843.1, bt843.2⟩ : S83)]) (wrap64 (x6 + 1))) else (none)))) else (some x5))
def spec_SumsOf.f (k : Nat) (l0 : List Int) (a1 : Int) : Option ((List (S83))) := spec_SumsOf.l0 k l0 a1 (([] : List (S83))) 0
theorem spec_SumsOf.mono_l : ∀ k, (∀ y0 y1 y2 y3, LeO (spec_SumsOf.l0 k y0 y1 y2 y3) (spec_SumsOf.l0 (k + 1) y0 y1 y2 y3))
  | 0 => fun _ _ _ _ r h => by simp [spec_SumsOf.l0] at h
  | k + 1 => by
    have m0_ := @spec_SumOf.mono
    have ih0 := spec_SumsOf.mono_l k
    · intro y0 y1 y2 y3
      unfold spec_SumsOf.l0
      exact LM
theorem spec_SumsOf.mono : ∀ a0 a1 k, LeO (spec_SumsOf.f k a0 a1) (spec_SumsOf.f (k + 1) a0 a1) := by
  intro a0 a1 k;have m0_ := @spec_SumOf.mono;have ih0 := spec_SumsOf.mono_l k;unfold spec_SumsOf.f;exact LM
set_option maxHeartbeats 40000000 in
set_option maxRecDepth 100000 in
theorem spec_SumsOf.calls (k : Nat) (A0 : Option Addr) (c0 : Nat) (l0 : List Int) (a1 : Int) (r : List (S83)) (w : World) (hr0 : Kd.C (Kd.int .u8) w A0 l0.length l0) (hc0 : l0.length ≤ c0) (h : spec_SumsOf.f k l0 a1 = some r) :
  Calls Try.prog 100 #[.slice A0 l0.length c0, .int .i64 a1] w fun e w' => ∃ v0_ : Value, e = .returned (v0_) ∧ Kd.R k83 83 w' w.heap.size (fun _ => True) v0_ r ∧ Below w.heap.size w w' := by
 have HR0 := aM hr0;have HC0 := aM hc0;clear hr0 hc0;have HB := aM (Below.refl w.heap.size w);have H := h;clear h;unfold spec_SumsOf.f at H;obtain ⟨y835, ah⟩ : ∃ y_ : List (S83), y_ = (([] : List (S83))) := ⟨_, rfl⟩;rw [← ah] at H;have aj := aM ah;clear ah;have H' := aM H;clear H;go_enter Try.func100, Try.ntmps100;go_wp2_with (first | ((with_reducible refine gate_dst (N := 9) rfl ?_); refine Kd.R_lit k83 _ 83 ?hg (N := 9) ?hd (xs := ([] : List (S83))) (inner := []) (ok := fun _ => True) (okp := fun _ => True) ?hr ?hp (fun _ hk => hk) trivial (Below.refl _ _) (Nat.le_refl _) (by simp) ?_; (case hd => rfl); (case hg => rfl); (case hr => first | (go_simp; done) | (go_simp; rfl)); (case hp => exact (Reps.none _ _)); intro v836 w3 ho4 hb hg_ hnew_; clear hg_ hnew_; (first | rw [← aj.out] at ho4 | (simp only [Int.reduceToNat] at ho4; rw [← aj.out] at ho4)); have HO837 := aM (Kd.R_lower ho4 (below_size TB)); replace HB := bS HB hb; clear hb ho4))
 go_loopg [5, 6] k (fun kq v5 v6 w' => ∃ (ac : List (S83)) (aa : Int), v6 = .int .i64 aa ∧ Aside0 (spec_SumsOf.l0 kq l0 a1 ac aa = some r) ∧ Aside0 (kq ≤ k) ∧ Aside0 (Kd.R k83 83 w' w.heap.size (fun _ => True) v5 ac) ∧ Aside0 (Below w.heap.size w w'))
 case atStart => exact ⟨(y835), (0), TF, H', ⟨Nat.le_refl _⟩, ⟨by have X_ := HO837.out; exact TR⟩, ⟨TB⟩⟩
 case round =>
  clear H';try clear c1
  try clear p2
  obtain ⟨ac, aa, rfl, HA, HK1, ab, HB⟩ := hrel;cases gk with
  | zero => exact absurd HA.out (by simp [spec_SumsOf.l0])
  | succ k1 =>
   have H := HA.out;clear HA;simp only [spec_SumsOf.l0] at H;replace H := bE H;obtain ⟨ae, A5, H⟩ := H
   by_cases c6 : aa < ae
   ·rw [if_pos c6] at H;have c6b0 : decide (aa < ae) = true := decide_eq_true c6;clear c6;replace H := bE H;obtain ⟨⟨ai, t840⟩, A7, H⟩ := H;dsimp only at H;replace H := bE H;obtain ⟨⟨ad, af⟩, A8, H⟩ := H;dsimp only at H;replace H := ifN H;obtain ⟨c9, H⟩ := H;have LMc9 := aM c9;clear c9;obtain ⟨y845, ag⟩ : ∃ y_ : List (S83), y_ = (ac ++ [(⟨ad, af⟩ : S83)]) := ⟨_, rfl⟩;rw [← ag] at H;have Ny845 := aM ag;clear ag;have H' := aM H;clear H;go_wp2_with (first | ((with_reducible refine gate_callee (f := 81) rfl ?_); refine gL (some 14) Try.func81 #[.int .i64 a1, .int .i64 (l0.length : Int)] ?_; (with_reducible refine (spec_Blocks.calls a1 (l0.length : Int) ae _ A5.out).mono ?_); rintro e w' ⟨rfl, ⟨nd, rfl⟩⟩; refine ⟨_, rfl, ?_⟩) | ((with_reducible refine gate_callee (f := 101) rfl ?_); refine gL (some 22) Try.func101 #[.slice A0 l0.length c0, .int .i64 a1, .int .i64 aa] ?_; (with_reducible refine (spec_BlockAt.calls _ _ l0 a1 aa ai t840 _ ?side1 ?side2 A7.out).mono ?_); (case side1 => repeat (first | exact (Kd.C_below HR0.out TB) | (with_reducible refine Kd.C_alloc ?_ _) | (with_reducible refine Kd.C_drewN ?_ _) | (with_reducible refine Kd.C_drew ?_))); (case side2 => exact HC0.out); rintro e w10 ⟨v841, rfl, ho0, hb⟩; refine ⟨_, rfl, ?_⟩; have HO842 := aM (Kd.R_lower ho0 (below_size TB)); replace ab := mR ab hb; replace HB := bS HB hb; clear ho0 hb; obtain ⟨Ao11, co11, eo11⟩ := Kd.R_slice HO842.out; subst eo11) | ((with_reducible refine gate_callee (f := 84) rfl ?_); refine gL (some 27) Try.func84 #[.slice Ao11 ai.length co11] ?_; (with_reducible refine (spec_SumOf.calls k1 _ _ ai ad af _ ?side1 ?side2 A8.out).mono ?_); (case side1 => have X_ := (Kd.R_reads' HO842.out).2.2; exact TC); (case side2 => exact (Kd.R_reads' HO842.out).2.1); rintro e w12 ⟨rfl, hb⟩; refine ⟨_, rfl, ?_⟩; replace ab := mR ab hb; replace HO842 := mR HO842 hb; replace HB := bS HB hb; clear hb) | ((with_reducible refine gate_builtin (b := .append) (xs := #[.tmp 25, .tmp 28]) rfl ?_); at_builtin; refine Kd.R_append k83 (w0 := w) w.heap.size rfl (.tmp 25) (.tmp 28) 23 83 (.agg #[(.int .i64 0), (.int .i64 0)]) 16 rfl Try.underlying23 info83 rfl (by decide) (by omega) u5 ac (⟨ad, af⟩ : S83) [.int .i64 ad, .int .i64 af] (fun _ => True) (fun _ => False) rfl rfl ?aP (fun _ hk => hk.elim) ?aF ?aO ?aB ?aS ?aL ?_; (case aP => exact k83_mkM _ _ _ (⟨ad, af⟩ : S83)); (case aB => exact TB); (case aF => exact (fun _ _ => trivial)); (case aO => exact (TRf ab)); (case aS => exact (below_size TB)); (case aL => have := LMc9.out; omega); intro v846 w13 ho hb hg hat; rw [← Ny845.out] at ho; have HO847 := aM (ho); replace HO842 := aM (Kd.R_over' (TRf HO842) (Kd.R_typed (TRf ab)) (by decide) hg); replace HB := aM (hb); clear ab; clear ho hb hg hat))
    go_roundg k1
    case measure => have := HK1.out; omega
    case rel => exact ⟨(y845), (wrap64 (aa + 1)), TF, H', ⟨by have := HK1.out; omega⟩, ⟨by have X_ := HO847.out; exact TR⟩, ⟨TB⟩⟩
   ·rw [if_neg c6] at H;have c6b0 : decide (aa < ae) = false := decide_eq_false c6;clear c6;obtain rfl := Option.some.inj H;go_wp2_with (first | ((with_reducible refine gate_callee (f := 81) rfl ?_); refine gL (some 14) Try.func81 #[.int .i64 a1, .int .i64 (l0.length : Int)] ?_; (with_reducible refine (spec_Blocks.calls a1 (l0.length : Int) ae _ A5.out).mono ?_); rintro e w' ⟨rfl, ⟨nd, rfl⟩⟩; refine ⟨_, rfl, ?_⟩))
    go_ret
    exact ⟨_, TE, by have X_ := ab.out; exact TR, TB⟩

end Go.Proofs.Ytanpaipapcjpoaa.Q
