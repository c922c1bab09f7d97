/- Functions of the program as plain Lean functions, and that a call of each comes to what its function tells. Written by a program of this seat. -/
import Derived.Test.YtnoplippaiblcaaQ0
import Derived.Test.YtnoplippaiblcaaQ2
namespace Go.Proofs.Ytnoplippaiblcaa.Q
open Go.RowKit Go.Proofs.YtnoplippaiblcaaW.PrintWords Go.Proofs.YtnoplippaiblcaaW.PrintLast Go.Proofs.YtnoplippaiblcaaW.PrintMore
attribute [local go_sem] max2_int min2_int max_two min_two max_three min_three max_four min_four   -- for this text's walks alone
set_option linter.unusedVariables false
set_option linter.unusedSimpArgs false

/-! ### spec_BytesOf: function 82 -/
def spec_BytesOf.l0 : Nat → Int → List Int → Option (List Int × Bool)
  | 0, _, _ => none
  | k + 1, x0, x4 => if x0 > 1 then (if x0 < 256 then (some ((([] : List Int)), false)) else ((some (([(Go.bits .and .i64 x0 255) % 256] : List Int) : List Int)).bind fun y228 => (if y228.length + x4.length < 140737488355328 then (spec_BytesOf.l0 k (x0 / 256) (y228 ++ x4)) else (none)))) else (some (x4, true))
def spec_BytesOf.f (k : Nat) (a0 : Int) : Option (List Int × Bool) := (spec_l1In.f a0 1 562949953421311).bind fun t218 => (if t218 = true then (spec_BytesOf.l0 k a0 (([] : List Int))) else (some ((([] : List Int)), false)))
theorem spec_BytesOf.mono_l : ∀ k, (∀ y0 y1, LeO (spec_BytesOf.l0 k y0 y1) (spec_BytesOf.l0 (k + 1) y0 y1))
  | 0 => fun _ _ r h => by simp [spec_BytesOf.l0] at h
  | k + 1 => by
    have ih0 := spec_BytesOf.mono_l k
    · intro y0 y1
      unfold spec_BytesOf.l0
      exact LM
theorem spec_BytesOf.mono : ∀ a0 k, LeO (spec_BytesOf.f k a0) (spec_BytesOf.f (k + 1) a0) := by
  intro a0 k
  have ih0 := spec_BytesOf.mono_l k
  unfold spec_BytesOf.f
  exact LM
set_option maxHeartbeats 40000000 in
set_option maxRecDepth 100000 in
theorem spec_BytesOf.calls (k : Nat) (a0 : Int) (r1 : List Int) (r2 : Bool) (w : World) (h : spec_BytesOf.f k a0 = some (r1, r2)) :
    Calls Try.prog 82 #[.int .i64 a0] w fun e w' => ∃ v0_ : Value, e = .returned (.tuple #[v0_, .bool r2]) ∧ Kd.R (Kd.int .u8) 5 w' w.heap.size (fun _ => True) v0_ r1 ∧ Below w.heap.size w w' := by
  have HB := aM (Below.refl w.heap.size w)
  have H := h
  clear h
  unfold spec_BytesOf.f at H
  replace H := bE H
  obtain ⟨t218, A2, H⟩ := H
  by_cases c3 : t218 = true
  · subst c3
    replace H := ifT H
    obtain ⟨y222, hy222⟩ : ∃ y_ : List Int, y_ = (([] : List Int)) := ⟨_, rfl⟩
    rw [← hy222] at H
    have Ny222 := aM hy222
    clear hy222
    have H' := aM H
    clear H
    go_enter Try.func82, Try.ntmps82
    go_wp2_with (first | ((with_reducible refine gate_callee (f := 79) rfl ?_); refine gL (some 6) Try.func79 #[.int .i64 a0, .int .i64 1, .int .i64 562949953421311] ?_; (with_reducible refine (spec_l1In.calls a0 1 562949953421311 true _ A2.out).mono ?_); rintro e w' ⟨rfl, ⟨nd, rfl⟩⟩; refine ⟨_, rfl, ?_⟩) | ((with_reducible refine gate_dst (N := 9) rfl ?_); refine Kd.R_lit (Kd.int .u8) _ 5 ?hg (N := 9) ?hd (xs := ([] : List Int)) (inner := []) (ok := fun _ => True) (okp := fun _ => True) ?hr ?hp (fun _ hk => hk) trivial (Below.refl _ _) (Nat.le_refl _) (by simp) ?_; (case hd => rfl); (case hg => rfl); (case hr => first | (go_simp; done) | (go_simp; rfl)); (case hp => exact (Reps.none _ _)); intro v223 w4 ho5 hb hg_ hnew_; clear hg_ hnew_; (first | rw [← Ny222.out] at ho5 | (simp only [Int.reduceToNat] at ho5; rw [← Ny222.out] at ho5)); have HO224 := aM (Kd.R_lower ho5 (below_size TB)); replace HB := aM (below_step TB hb); clear hb ho5))
    go_loopg [0, 4] k (fun kq v0 v4 w' => ∃ (x0_1 : Int) (x4_1 : List Int), v0 = .int .i64 x0_1 ∧ Aside0 (spec_BytesOf.l0 kq x0_1 x4_1 = some (r1, r2)) ∧ Aside0 (kq ≤ k) ∧ Aside0 (Kd.R (Kd.int .u8) 5 w' w.heap.size (fun _ => True) v4 x4_1) ∧ Aside0 (Below w.heap.size w w'))
    case atStart => exact ⟨(a0), (y222), (by first | rfl | (simp; done) | (simp [*]; done)), H', ⟨Nat.le_refl _⟩, ⟨by have X_ := HO224.out; exact TR⟩, ⟨TB⟩⟩
    case round =>
      clear H'
      try clear p2
      try clear c3
      obtain ⟨x0_1, x4_1, rfl, HA, HK1, HO_4, HB⟩ := hrel
      cases gk with
      | zero => exact absurd HA.out (by simp [spec_BytesOf.l0])
      | succ k1 =>
        have H := HA.out
        clear HA
        simp only [spec_BytesOf.l0] at H
        by_cases c6 : x0_1 > 1
        · rw [if_pos c6] at H
          have c6b0 : decide (1 < x0_1) = true := decide_eq_true c6
          clear c6
          by_cases c7 : x0_1 < 256
          · rw [if_pos c7] at H
            have c7b0 : decide (x0_1 < 256) = true := decide_eq_true c7
            clear c7
            obtain ⟨y225, hy225⟩ : ∃ y_ : List Int, y_ = (([] : List Int)) := ⟨_, rfl⟩
            rw [← hy225] at H
            have Ny225 := aM hy225
            clear hy225
            simp only [Option.some.injEq, Prod.mk.injEq] at H
            obtain ⟨rfl, rfl⟩ := H
            go_wp2_with (first | ((with_reducible refine gate_dst (N := 14) rfl ?_); refine Kd.R_lit (Kd.int .u8) _ 5 ?hg (N := 14) ?hd (xs := ([] : List Int)) (inner := []) (ok := fun _ => True) (okp := fun _ => True) ?hr ?hp (fun _ hk => hk) trivial (Below.refl _ _) (Nat.le_refl _) (by simp) ?_; (case hd => rfl); (case hg => rfl); (case hr => first | (go_simp; done) | (go_simp; rfl)); (case hp => exact (Reps.none _ _)); intro v226 w8 ho9 hb hg_ hnew_; clear hg_ hnew_; (first | rw [← Ny225.out] at ho9 | (simp only [Int.reduceToNat] at ho9; rw [← Ny225.out] at ho9)); have HO227 := aM (Kd.R_lower (Kd.R_new' ho9 (Kd.R_lt (by have X_ := HO_4.out; exact TR))) (below_size TB)); replace HO_4 := aM (Kd.R_elder' (by have X_ := HO_4.out; exact TR) (Kd.R_base ho9) hb); replace HB := aM (below_step TB hb); clear hb ho9))
            go_ret2
            exact ⟨_, by first | rfl | (simp [errW_none, errW_some] <;> rfl) | (simp [*, errW_none, errW_some] <;> rfl), by (with_reducible repeat (first | apply Kd.R_alloc | apply Kd.R_drewN | apply Kd.R_drew)); exact Kd.R_mono HO227.out (fun _ hk => trivial), TB⟩
          · rw [if_neg c7] at H
            have c7b0 : decide (x0_1 < 256) = false := decide_eq_false c7
            clear c7
            obtain ⟨y228, hy228⟩ : ∃ y_ : List Int, y_ = (([(Go.bits .and .i64 x0_1 255) % 256] : List Int)) := ⟨_, rfl⟩
            replace H := someE H hy228
            have Ny228 := aM hy228
            clear hy228
            replace H := ifN H
            obtain ⟨c10, H⟩ := H
            have LMc10 := aM c10
            clear c10
            obtain ⟨y231, hy231⟩ : ∃ y_ : List Int, y_ = (y228 ++ x4_1) := ⟨_, rfl⟩
            rw [← hy231] at H
            have Ny231 := aM hy231
            clear hy231
            have H' := aM H
            clear H
            go_wp2_with (first | ((with_reducible refine gate_dst (N := 18) rfl ?_); refine Kd.R_lit (Kd.int .u8) _ 5 ?hg (N := 18) ?hd (xs := ([(Go.bits .and .i64 x0_1 255) % 256] : List Int)) (inner := [.int .u8 ((Go.bits .and .i64 x0_1 255) % 256)]) (ok := fun _ => True) (okp := fun _ => True) ?hr ?hp (fun _ hk => hk) trivial (Below.refl _ _) (Nat.le_refl _) (by simp) ?_; (case hd => rfl); (case hg => rfl); (case hr => first | (go_simp; done) | (go_simp; rfl)); (case hp => exact (Reps.one (show Kd.M (Kd.int .u8) _ _ _ ((Go.bits .and .i64 x0_1 255) % 256) [.int .u8 ((Go.bits .and .i64 x0_1 255) % 256)] from rfl) (Reps.none _ _))); intro v229 w11 ho12 hb hg_ hnew_; clear hg_ hnew_; (first | rw [← Ny228.out] at ho12 | (simp only [Int.reduceToNat] at ho12; rw [← Ny228.out] at ho12)); have HO230 := aM (Kd.R_lower (Kd.R_new' ho12 (Kd.R_lt (by have X_ := HO_4.out; exact TR))) (below_size TB)); replace HO_4 := aM (Kd.R_elder' (by have X_ := HO_4.out; exact TR) (Kd.R_base ho12) hb); replace HB := aM (below_step TB hb); clear hb ho12; obtain ⟨Ao14, co14, eo14⟩ := Kd.R_slice HO_4.out; subst eo14) | ((with_reducible refine gate_builtin (b := .append) (xs := #[.tmp 18, .tmp 19]) rfl ?_); at_builtin; refine Kd.R_append_rows (Kd.int .u8) (w0 := w) w.heap.size rfl (.tmp 18) (.tmp 19) 25 5 (.int .u8 0) 1 rfl Try.underlying25 info5 rfl (by decide) (by omega) v229 y228 x4_1 _ _ _ (fun k_ => some k_ ≠ (.slice Ao14 x4_1.length co14 : Value).ownBlock) (fun _ => False) rfl rfl ?aO ?aR (fun _ _ h => h) (fun _ h => h.elim) ?aF ?aB ?aS ?aL ?_; (case aR => repeat (first | exact (Kd.R_reads' HO_4.out).2.2 | (with_reducible refine Kd.C_alloc ?_ _) | (with_reducible refine Kd.C_drewN ?_ _) | (with_reducible refine Kd.C_drew ?_))); (case aB => exact TB); (case aF => exact (fun k_ hk => Kd.fresh' (Kd.R_lt (by have X_ := HO_4.out; exact TR)) k_ hk)); (case aO => exact (by (with_reducible repeat (first | apply Kd.R_alloc | apply Kd.R_drewN | apply Kd.R_drew)); exact Kd.R_mono HO230.out (fun _ hk => hk.2))); (case aS => exact (below_size TB)); (case aL => have := LMc10.out; omega); intro v232 w13 ho hb hg hat; rw [← Ny231.out] at ho; have HO233 := aM (ho); replace HO_4 := aM (Kd.R_after (ok := (fun _ => True)) (by have X_ := HO_4.out; exact TR) hg hat); replace HB := aM (hb); clear HO230; clear ho hb hg hat))
            go_roundg k1
            case measure => have := HK1.out; omega
            case rel => exact ⟨(x0_1 / 256), (y231), (by first | rfl | (simp; done) | (simp [*]; done)), H', ⟨by have := HK1.out; omega⟩, ⟨by (with_reducible repeat (first | apply Kd.R_alloc | apply Kd.R_drewN | apply Kd.R_drew)); exact Kd.R_mono HO233.out (fun _ hk => trivial)⟩, ⟨TB⟩⟩
        · rw [if_neg c6] at H
          have c6b0 : decide (1 < x0_1) = false := decide_eq_false c6
          clear c6
          simp only [Option.some.injEq, Prod.mk.injEq] at H
          obtain ⟨rfl, rfl⟩ := H
          go_wp2
          go_ret2
          exact ⟨_, by first | rfl | (simp [errW_none, errW_some] <;> rfl) | (simp [*, errW_none, errW_some] <;> rfl), by have X_ := HO_4.out; exact TR, TB⟩
  · replace c3 := Bool.eq_false_iff.mpr c3
    subst c3
    replace H := ifF H
    obtain ⟨y219, hy219⟩ : ∃ y_ : List Int, y_ = (([] : List Int)) := ⟨_, rfl⟩
    rw [← hy219] at H
    have Ny219 := aM hy219
    clear hy219
    simp only [Option.some.injEq, Prod.mk.injEq] at H
    obtain ⟨rfl, rfl⟩ := H
    go_enter Try.func82, Try.ntmps82
    go_wp2_with (first | ((with_reducible refine gate_callee (f := 79) rfl ?_); refine gL (some 6) Try.func79 #[.int .i64 a0, .int .i64 1, .int .i64 562949953421311] ?_; (with_reducible refine (spec_l1In.calls a0 1 562949953421311 false _ A2.out).mono ?_); rintro e w' ⟨rfl, ⟨nd, rfl⟩⟩; refine ⟨_, rfl, ?_⟩) | ((with_reducible refine gate_dst (N := 8) rfl ?_); refine Kd.R_lit (Kd.int .u8) _ 5 ?hg (N := 8) ?hd (xs := ([] : List Int)) (inner := []) (ok := fun _ => True) (okp := fun _ => True) ?hr ?hp (fun _ hk => hk) trivial (Below.refl _ _) (Nat.le_refl _) (by simp) ?_; (case hd => rfl); (case hg => rfl); (case hr => first | (go_simp; done) | (go_simp; rfl)); (case hp => exact (Reps.none _ _)); intro v220 w15 ho16 hb hg_ hnew_; clear hg_ hnew_; (first | rw [← Ny219.out] at ho16 | (simp only [Int.reduceToNat] at ho16; rw [← Ny219.out] at ho16)); have HO221 := aM (Kd.R_lower ho16 (below_size TB)); replace HB := aM (below_step TB hb); clear hb ho16))
    go_ret2
    exact ⟨_, by first | rfl | (simp [errW_none, errW_some] <;> rfl) | (simp [*, errW_none, errW_some] <;> rfl), by have X_ := HO221.out; exact TR, TB⟩

end Go.Proofs.Ytnoplippaiblcaa.Q
