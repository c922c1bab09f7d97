/- Functions of the program as plain Lean functions, and that a call of each comes to what its function tells. Written by a program of this seat. -/
import Derived.Test.YtanpaipapcjpoaaGreatDoorQ0
import Derived.Test.YtanpaipapcjpoaaGreatDoorQ4
set_option maxHeartbeats 40000000
set_option maxRecDepth 100000
namespace Go.Proofs.YtanpaipapcjpoaaGreatDoor.Q
open Go.RowKit Go.Proofs.YtanpaipapcjpoaaGreatDoorW.PrintWords Go.Proofs.YtanpaipapcjpoaaGreatDoorW.PrintLast Go.Proofs.YtanpaipapcjpoaaGreatDoorW.PrintMore
attribute [local go_sem] min2_int min_two
set_option linter.unusedVariables false
set_option linter.unusedSimpArgs false
def spec_BytesOf.l0 : Nat → Int → List Int → Option (List Int × Bool)
  | 0, _, _ => none
  | k + 1, x0, x4 => if x0 > 1 then (if x0 < 256 then (some ((([] : List Int)), false)) else ((some (([(Go.bits .and .i64 x0 255) % 256] : List Int) : List Int)).bind fun y666 => (if y666.length + x4.length < 140737488355328 then (spec_BytesOf.l0 k (x0 / 256) (y666 ++ x4)) else (none)))) else (some (x4, true))
def spec_BytesOf.f (k : Nat) (a0 : Int) : Option (List Int × Bool) := (spec_l1In.f a0 1 562949953421311).bind fun t656 => (if t656 = true then (spec_BytesOf.l0 k a0 (([] : List Int))) else (some ((([] : List Int)), false)))
theorem spec_BytesOf.mono_l : ∀ k, (∀ y0 y1, LeO (spec_BytesOf.l0 k y0 y1) (spec_BytesOf.l0 (k + 1) y0 y1))
  | 0 => fun _ _ r h => by simp [spec_BytesOf.l0] at h
  | k + 1 => by
    have ih0 := spec_BytesOf.mono_l k
    · intro y0 y1
      unfold spec_BytesOf.l0
      exact LM
theorem spec_BytesOf.mono : ∀ a0 k, LeO (spec_BytesOf.f k a0) (spec_BytesOf.f (k + 1) a0) := by
  intro a0 k;have ih0 := spec_BytesOf.mono_l k;unfold spec_BytesOf.f;exact LM
theorem spec_BytesOf.calls {k : Nat} {a0 : Int} {r1 : List Int} {r2 : Bool} {w : World} (h : spec_BytesOf.f k a0 = some (r1, r2)) :
    Calls Tryz.prog 79 #[.int .i64 a0] w fun e w' => ∃ v0_ : Value, e = .returned (.tuple #[v0_, .bool r2]) ∧ Kd.R (Kd.int .u8) 5 w' w.heap.size (fun _ => True) v0_ r1 ∧ Below w.heap.size w w' := by
  have HB := aM (Below.refl w.heap.size w)
  have H := h
  clear h
  unfold spec_BytesOf.f at H
  replace H := bE H
  obtain ⟨t656, Aq1, H⟩ := H
  by_cases cq1 : t656 = true
  ·subst cq1
   replace H := ifT H
   obtain ⟨yq1, hyq1⟩ : ∃ y_ : List Int, y_ = (([] : List Int)) := ⟨_, rfl⟩
   rw [← hyq1] at H
   have Nyq1 := aM hyq1
   clear hyq1
   have H' := aM H
   clear H
   go_enter Tryz.func79, Tryz.ntmps79
   go_wp2_with (first | ((with_reducible refine gate_callee (f := 51) rfl ?_); refine gL (some 6) Tryz.func51 #[.int .i64 a0, .int .i64 1, .int .i64 562949953421311] ?_; (with_reducible refine (spec_l1In.calls Aq1.out).mono ?_); rintro e w' ⟨rfl, ⟨nd, rfl⟩⟩; refine ⟨_, rfl, ?_⟩) | ((with_reducible refine gate_dst (N := 9) rfl ?_); refine Kd.R_lit (Kd.int .u8) _ 5 ?hg (N := 9) ?hd (xs := ([] : List Int)) (inner := []) (ok := fun _ => True) (okp := fun _ => True) ?hr ?hp (fun _ hk => hk) trivial (Below.refl _ _) (Nat.le_refl _) (by simp) ?_; (case hd => rfl); (case hg => rfl); (case hr => first | (go_simp; done) | (go_simp; rfl)); (case hp => exact (Reps.none _ _)); intro vq1 wq1 hoq1 hb hg_ hnew_; clear hg_ hnew_; (first | rw [← Nyq1.out] at hoq1 | (simp only [Int.reduceToNat] at hoq1; rw [← Nyq1.out] at hoq1)); have HOq1 := aM (Kd.R_lower hoq1 (below_size TB)); replace HB := bS HB hb; clear hb hoq1))
   go_loopg [0, 4] k (fun kq vq2 vq3 w' => ∃ (xq1 : Int) (xq2 : List Int), vq2 = .int .i64 xq1 ∧ Aside0 (spec_BytesOf.l0 kq xq1 xq2 = some (r1, r2)) ∧ Aside0 (kq ≤ k) ∧ Aside0 (Kd.R (Kd.int .u8) 5 w' w.heap.size (fun _ => True) vq3 xq2) ∧ Aside0 (Below w.heap.size w w'))
   case atStart => exact ⟨(a0), (yq1), TF, H', ⟨Nat.le_refl _⟩, ⟨by have X_ := HOq1.out; exact TR⟩, ⟨TB⟩⟩
   case round =>
    clear H'
    try clear cq1
    obtain ⟨xq1, xq2, rfl, HA, HKq1, HOq2, HB⟩ := hrel
    cases gk with
    | zero => exact absurd HA.out (by simp [spec_BytesOf.l0])
    | succ k1 =>
     have H := HA.out
     clear HA
     simp only [spec_BytesOf.l0] at H
     by_cases cq3 : xq1 > 1
     ·rw [if_pos cq3] at H
      have cq4 : decide (1 < xq1) = true := decide_eq_true cq3
      clear cq3
      by_cases cq5 : xq1 < 256
      ·rw [if_pos cq5] at H
       have cq6 : decide (xq1 < 256) = true := decide_eq_true cq5
       clear cq5
       obtain ⟨yq2, hyq2⟩ : ∃ y_ : List Int, y_ = (([] : List Int)) := ⟨_, rfl⟩
       rw [← hyq2] at H
       have Nyq2 := aM hyq2
       clear hyq2
       simp only [Option.some.injEq, Prod.mk.injEq] at H
       obtain ⟨rfl, rfl⟩ := H
       go_wp2_with (first | ((with_reducible refine gate_dst (N := 14) rfl ?_); refine Kd.R_lit (Kd.int .u8) _ 5 ?hg (N := 14) ?hd (xs := ([] : List Int)) (inner := []) (ok := fun _ => True) (okp := fun _ => True) ?hr ?hp (fun _ hk => hk) trivial (Below.refl _ _) (Nat.le_refl _) (by simp) ?_; (case hd => rfl); (case hg => rfl); (case hr => first | (go_simp; done) | (go_simp; rfl)); (case hp => exact (Reps.none _ _)); intro vq4 wq2 hoq2 hb hg_ hnew_; clear hg_ hnew_; (first | rw [← Nyq2.out] at hoq2 | (simp only [Int.reduceToNat] at hoq2; rw [← Nyq2.out] at hoq2)); have HOq3 := aM (Kd.R_lower (Kd.R_new' hoq2 (Kd.R_lt (TRf HOq2))) (below_size TB)); replace HOq2 := aM (Kd.R_elder' (TRf HOq2) (Kd.R_base hoq2) hb); replace HB := bS HB hb; clear hb hoq2))
       go_ret2
       exact ⟨_, TE, by (with_reducible repeat (first | apply Kd.R_alloc | apply Kd.R_drewN | apply Kd.R_drew)); exact Kd.R_mono HOq3.out (fun _ hk => trivial), TB⟩
      ·rw [if_neg cq5] at H
       have cq6 : decide (xq1 < 256) = false := decide_eq_false cq5
       clear cq5
       obtain ⟨y666, hyq2⟩ : ∃ y_ : List Int, y_ = (([(Go.bits .and .i64 xq1 255) % 256] : List Int)) := ⟨_, rfl⟩
       replace H := someE H hyq2
       have Nyq2 := aM hyq2
       clear hyq2
       replace H := ifN H
       obtain ⟨cq7, H⟩ := H
       have LMcq1 := aM cq7
       clear cq7
       obtain ⟨yq2, hyq3⟩ : ∃ y_ : List Int, y_ = (y666 ++ xq2) := ⟨_, rfl⟩
       rw [← hyq3] at H
       have Nyq3 := aM hyq3
       clear hyq3
       have H' := aM H
       clear H
       go_wp2_with (first | ((with_reducible refine gate_dst (N := 18) rfl ?_); refine Kd.R_lit (Kd.int .u8) _ 5 ?hg (N := 18) ?hd (xs := ([(Go.bits .and .i64 xq1 255) % 256] : List Int)) (inner := [.int .u8 ((Go.bits .and .i64 xq1 255) % 256)]) (ok := fun _ => True) (okp := fun _ => True) ?hr ?hp (fun _ hk => hk) trivial (Below.refl _ _) (Nat.le_refl _) (by simp) ?_; (case hd => rfl); (case hg => rfl); (case hr => first | (go_simp; done) | (go_simp; rfl)); (case hp => exact (Reps.one (show Kd.M (Kd.int .u8) _ _ _ ((Go.bits .and .i64 xq1 255) % 256) [.int .u8 ((Go.bits .and .i64 xq1 255) % 256)] from rfl) (Reps.none _ _))); intro vq4 wq2 hoq2 hb hg_ hnew_; clear hg_ hnew_; (first | rw [← Nyq2.out] at hoq2 | (simp only [Int.reduceToNat] at hoq2; rw [← Nyq2.out] at hoq2)); have HOq3 := aM (Kd.R_lower (Kd.R_new' hoq2 (Kd.R_lt (TRf HOq2))) (below_size TB)); replace HOq2 := aM (Kd.R_elder' (TRf HOq2) (Kd.R_base hoq2) hb); replace HB := bS HB hb; clear hb hoq2; obtain ⟨Aoq1, coq1, eoq1⟩ := Kd.R_slice HOq2.out; subst eoq1) | ((with_reducible refine gate_builtin (b := .append) (xs := #[.tmp 18, .tmp 19]) rfl ?_); at_builtin; refine Kd.R_append_rows (Kd.int .u8) (w0 := w) w.heap.size rfl (.tmp 18) (.tmp 19) 22 5 (.int .u8 0) 1 rfl Tryz.underlying22 info5 rfl (by decide) (by omega) vq4 y666 xq2 _ _ _ (fun k_ => some k_ ≠ (.slice Aoq1 xq2.length coq1 : Value).ownBlock) (fun _ => False) rfl rfl ?aO ?aR (fun _ _ h => h) (fun _ h => h.elim) ?aF ?aB ?aS ?aL ?_; (case aR => repeat (first | exact (Kd.R_reads' HOq2.out).2.2 | (with_reducible refine Kd.C_alloc ?_ _) | (with_reducible refine Kd.C_drewN ?_ _) | (with_reducible refine Kd.C_drew ?_))); (case aB => exact TB); (case aF => exact (fun k_ hk => Kd.fresh' (Kd.R_lt (TRf HOq2)) k_ hk)); (case aO => exact (by (with_reducible repeat (first | apply Kd.R_alloc | apply Kd.R_drewN | apply Kd.R_drew)); exact Kd.R_mono HOq3.out (fun _ hk => hk.2))); (case aS => exact (below_size TB)); (case aL => have := LMcq1.out; omega); intro vq5 wq3 ho hb hg hat; rw [← Nyq3.out] at ho; have HOq4 := aM (ho); replace HOq2 := aM (Kd.R_after (ok := (fun _ => True)) (TRf HOq2) hg hat); replace HB := aM (hb); clear HOq3; clear ho hb hg hat))
       go_roundg k1
       case measure => have := HKq1.out; omega
       case rel => exact ⟨(xq1 / 256), (yq2), TF, H', ⟨by have := HKq1.out; omega⟩, ⟨by (with_reducible repeat (first | apply Kd.R_alloc | apply Kd.R_drewN | apply Kd.R_drew)); exact Kd.R_mono HOq4.out (fun _ hk => trivial)⟩, ⟨TB⟩⟩
     ·rw [if_neg cq3] at H
      have cq4 : decide (1 < xq1) = false := decide_eq_false cq3
      clear cq3
      simp only [Option.some.injEq, Prod.mk.injEq] at H
      obtain ⟨rfl, rfl⟩ := H
      go_wp2
      go_ret2
      exact ⟨_, TE, by have X_ := HOq2.out; exact TR, TB⟩
  ·replace cq1 := bF cq1
   subst cq1
   replace H := ifF H
   obtain ⟨yq1, hyq1⟩ : ∃ y_ : List Int, y_ = (([] : List Int)) := ⟨_, rfl⟩
   rw [← hyq1] at H
   have Nyq1 := aM hyq1
   clear hyq1
   simp only [Option.some.injEq, Prod.mk.injEq] at H
   obtain ⟨rfl, rfl⟩ := H
   go_enter Tryz.func79, Tryz.ntmps79
   go_wp2_with (first | ((with_reducible refine gate_callee (f := 51) rfl ?_); refine gL (some 6) Tryz.func51 #[.int .i64 a0, .int .i64 1, .int .i64 562949953421311] ?_; (with_reducible refine (spec_l1In.calls Aq1.out).mono ?_); rintro e w' ⟨rfl, ⟨nd, rfl⟩⟩; refine ⟨_, rfl, ?_⟩) | ((with_reducible refine gate_dst (N := 8) rfl ?_); refine Kd.R_lit (Kd.int .u8) _ 5 ?hg (N := 8) ?hd (xs := ([] : List Int)) (inner := []) (ok := fun _ => True) (okp := fun _ => True) ?hr ?hp (fun _ hk => hk) trivial (Below.refl _ _) (Nat.le_refl _) (by simp) ?_; (case hd => rfl); (case hg => rfl); (case hr => first | (go_simp; done) | (go_simp; rfl)); (case hp => exact (Reps.none _ _)); intro vq1 wq1 hoq1 hb hg_ hnew_; clear hg_ hnew_; (first | rw [← Nyq1.out] at hoq1 | (simp only [Int.reduceToNat] at hoq1; rw [← Nyq1.out] at hoq1)); have HOq1 := aM (Kd.R_lower hoq1 (below_size TB)); replace HB := bS HB hb; clear hb hoq1))
   go_ret2
   exact ⟨_, TE, by have X_ := HOq1.out; exact TR, TB⟩
end Go.Proofs.YtanpaipapcjpoaaGreatDoor.Q
