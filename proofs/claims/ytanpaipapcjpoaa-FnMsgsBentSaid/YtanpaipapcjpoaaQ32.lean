/- Functions of the program as plain Lean functions, and that a call of each comes to what its function tells. Written by a program of this seat. -/
import Derived.Test.YtanpaipapcjpoaaQ0
import Derived.Test.YtanpaipapcjpoaaQ2
import Derived.Test.YtanpaipapcjpoaaQ4
namespace Go.Proofs.Ytanpaipapcjpoaa.Q
open Go.RowKit Go.Proofs.YtanpaipapcjpoaaW.PrintWords Go.Proofs.YtanpaipapcjpoaaW.PrintLast Go.Proofs.YtanpaipapcjpoaaW.PrintMore
attribute [local go_sem] min2_int min_two
set_option linter.unusedVariables false
set_option linter.unusedSimpArgs false

theorem Zq32_0 {p : Prop} (h : p := by repeat (first | (with_reducible first | exact HK.out | apply Kept.alloc | apply Kept.drewN | apply Kept.drew) | exact HK.out)) : p := h
theorem Zq32_1 {p : Prop} (h : p := by repeat (first | exact (Kd.C_below HR0.out HB.out) | (with_reducible refine Kd.C_alloc ?_ _) | (with_reducible refine Kd.C_drewN ?_ _) | (with_reducible refine Kd.C_drew ?_))) : p := h
theorem Zq32_2 {p : Prop} (h : p := by exact (fun k_ hk => (.inr (Nat.le_trans (by first | exact HK.out.1 | exact (show Kept w _ (fun k_ => P0_ k_) from by exact Zq32_0).1) hk)))) : p := h
def spec_PutVar.l0 : Nat → Int → List Int → Option (List Int)
  | 0, _, _ => none
  | k + 1, x1, x5 => if x1 > 127 then (if x5.length < 140737488355328 then (spec_PutVar.l0 k (x1 / 128) (x5 ++ [(Go.bits .or .i64 (Go.bits .and .i64 x1 127) 128) % 256])) else (none)) else (if x5.length < 140737488355328 then (some (x5 ++ [(x1) % 256])) else (none))
def spec_PutVar.f (k : Nat) (l0 : List Int) (a1 : Int) : Option (List Int) := (some (([] : List Int) : List Int)).bind fun y696 => (if y696.length + l0.length < 140737488355328 then ((some (y696 ++ l0 : List Int)).bind fun y699 => ((spec_l1In.f a1 0 1000000000000).bind fun t702 => (if t702 = true then (spec_PutVar.l0 k a1 y699) else (some y699)))) else (none))
theorem spec_PutVar.mono_l : ∀ k, (∀ y0 y1, LeO (spec_PutVar.l0 k y0 y1) (spec_PutVar.l0 (k + 1) y0 y1))
  | 0 => fun _ _ r h => by simp [spec_PutVar.l0] at h
  | k + 1 => by
    have ih0 := spec_PutVar.mono_l k
    · intro y0 y1
      unfold spec_PutVar.l0
      exact LM
theorem spec_PutVar.mono : ∀ a0 a1 k, LeO (spec_PutVar.f k a0 a1) (spec_PutVar.f (k + 1) a0 a1) := by
  intro a0 a1 k;have ih0 := spec_PutVar.mono_l k;unfold spec_PutVar.f;exact LM
set_option maxHeartbeats 40000000 in
set_option maxRecDepth 100000 in
theorem spec_PutVar.calls (k : Nat) (A0 : Option Addr) (c0 : Nat) (l0 : List Int) (a1 : Int) (r : List Int) (w : World) (hr0 : Kd.C (Kd.int .u8) w A0 l0.length l0) (hc0 : l0.length ≤ c0) (h : spec_PutVar.f k l0 a1 = some r) :
    Calls Try.prog 63 #[.slice A0 l0.length c0, .int .i64 a1] w fun e w' => ∃ v0_ : Value, e = .returned (v0_) ∧ Kd.R (Kd.int .u8) 5 w' w.heap.size (fun _ => True) v0_ r ∧ Below w.heap.size w w' := by
  have HR0 := aM hr0
  have HC0 := aM hc0
  clear hr0 hc0
  have HB := aM (Below.refl w.heap.size w)
  have H := h
  clear h
  unfold spec_PutVar.f at H
  obtain ⟨y696, hy696⟩ : ∃ y_ : List Int, y_ = (([] : List Int)) := ⟨_, rfl⟩
  replace H := someE H hy696
  have Ny696 := aM hy696
  clear hy696
  replace H := ifN H
  obtain ⟨c3, H⟩ := H
  have LMc3 := aM c3
  clear c3
  obtain ⟨y699, hy699⟩ : ∃ y_ : List Int, y_ = (y696 ++ l0) := ⟨_, rfl⟩
  replace H := someE H hy699
  have Ny699 := aM hy699
  clear hy699
  replace H := bE H
  obtain ⟨t702, A4, H⟩ := H
  go_enter Try.func63, Try.ntmps63
  go_wp2_with (first | ((with_reducible refine gate_dst (N := 6) rfl ?_); refine Kd.R_lit (Kd.int .u8) _ 5 ?hg (N := 6) ?hd (xs := ([] : List Int)) (inner := []) (ok := fun _ => True) (okp := fun _ => True) ?hr ?hp (fun _ hk => hk) trivial (Below.refl _ _) (Nat.le_refl _) (by simp) ?_; (case hd => rfl); (case hg => rfl); (case hr => first | (go_simp; done) | (go_simp; rfl)); (case hp => exact (Reps.none _ _)); intro v697 w6 ho7 hb hg_ hnew_; clear hg_ hnew_; (first | rw [← Ny696.out] at ho7 | (simp only [Int.reduceToNat] at ho7; rw [← Ny696.out] at ho7)); have HO698 := aM (Kd.R_lower ho7 (below_size TB)); replace HB := bS HB hb; clear hb ho7) | ((with_reducible refine gate_builtin (b := .append) (xs := #[.tmp 6, .tmp 7]) rfl ?_); at_builtin; refine Kd.R_append_rows (Kd.int .u8) (w0 := w) w.heap.size rfl (.tmp 6) (.tmp 7) 22 5 (.int .u8 0) 1 rfl Try.underlying22 info5 rfl (by decide) (by omega) v697 y696 l0 _ _ _ (fun _ => True) (fun _ => False) rfl rfl ?aO ?aR (fun _ _ h => h) (fun _ h => h.elim) ?aF ?aB ?aS ?aL ?_; (case aR => exact Zq32_1); (case aB => exact TB); (case aF => exact (fun _ _ => trivial)); (case aO => exact (TRf HO698)); (case aS => exact (below_size TB)); (case aL => have := LMc3.out; omega); intro v700 w8 ho hb hg hat; rw [← Ny699.out] at ho; have HO701 := aM (ho); replace HB := aM (hb); clear HO698; clear ho hb hg hat) | ((with_reducible refine gate_callee (f := 51) rfl ?_); refine gL (some 10) Try.func51 #[.int .i64 a1, .int .i64 0, .int .i64 1000000000000] ?_; (with_reducible refine (spec_l1In.calls a1 0 1000000000000 t702 _ A4.out).mono ?_); rintro e w' ⟨rfl, ⟨nd, rfl⟩⟩; refine ⟨_, rfl, ?_⟩) | ((with_reducible refine gate_dst (N := 11) rfl ?_); generalize hG_ : wpList _ _ _ _ _ _ = G_))
  subst hG_
  by_cases c9 : t702 = true
  · subst c9
    replace H := ifT H
    have H' := aM H
    clear H
    go_wp2
    go_loopg [1, 5] k (fun kq v1 v5 w' => ∃ (x1_1 : Int) (x5_1 : List Int), v1 = .int .i64 x1_1 ∧ Aside0 (spec_PutVar.l0 kq x1_1 x5_1 = some r) ∧ Aside0 (kq ≤ k) ∧ Aside0 (Kd.R (Kd.int .u8) 5 w' w.heap.size (fun _ => True) v5 x5_1) ∧ Aside0 (Below w.heap.size w w'))
    case atStart => exact ⟨(a1), (y699), TF, H', ⟨Nat.le_refl _⟩, ⟨by have X_ := HO701.out; exact TR⟩, ⟨TB⟩⟩
    case round =>
      clear H'
      try clear p2
      try clear c3
      try clear c5
      try clear c6
      try clear c9
      obtain ⟨x1_1, x5_1, rfl, HA, HK1, HO_5, HB⟩ := hrel
      cases gk with
      | zero => exact absurd HA.out (by simp [spec_PutVar.l0])
      | succ k1 =>
        have H := HA.out
        clear HA
        simp only [spec_PutVar.l0] at H
        by_cases c10 : x1_1 > 127
        · rw [if_pos c10] at H
          have c10b0 : decide (127 < x1_1) = true := decide_eq_true c10
          clear c10
          replace H := ifN H
          obtain ⟨c11, H⟩ := H
          have LMc11 := aM c11
          clear c11
          obtain ⟨y703, hy703⟩ : ∃ y_ : List Int, y_ = (x5_1 ++ [(Go.bits .or .i64 (Go.bits .and .i64 x1_1 127) 128) % 256]) := ⟨_, rfl⟩
          rw [← hy703] at H
          have Ny703 := aM hy703
          clear hy703
          have H' := aM H
          clear H
          go_wp2_with (first | ((with_reducible refine gate_builtin (b := .append) (xs := #[.tmp 15, .tmp 20]) rfl ?_); at_builtin; refine Kd.R_append (Kd.int .u8) (w0 := w) w.heap.size rfl (.tmp 15) (.tmp 20) 22 5 (.int .u8 0) 1 rfl Try.underlying22 info5 rfl (by decide) (by omega) u5 x5_1 ((Go.bits .or .i64 (Go.bits .and .i64 x1_1 127) 128) % 256) [.int .u8 ((Go.bits .or .i64 (Go.bits .and .i64 x1_1 127) 128) % 256)] (fun _ => True) (fun _ => False) rfl rfl ?aP (fun _ hk => hk.elim) ?aF ?aO ?aB ?aS ?aL ?_; (case aP => exact rfl); (case aB => exact TB); (case aF => exact (fun _ _ => trivial)); (case aO => exact (TRf HO_5)); (case aS => exact (below_size TB)); (case aL => have := LMc11.out; omega); intro v704 w12 ho hb hg hat; rw [← Ny703.out] at ho; have HO705 := aM (ho); replace HB := aM (hb); clear HO_5; clear ho hb hg hat))
          go_roundg k1
          case measure => have := HK1.out; omega
          case rel => exact ⟨(x1_1 / 128), (y703), TF, H', ⟨by have := HK1.out; omega⟩, ⟨by have X_ := HO705.out; exact TR⟩, ⟨TB⟩⟩
        · rw [if_neg c10] at H
          have c10b0 : decide (127 < x1_1) = false := decide_eq_false c10
          clear c10
          replace H := ifN H
          obtain ⟨c13, H⟩ := H
          have LMc13 := aM c13
          clear c13
          obtain ⟨y706, hy706⟩ : ∃ y_ : List Int, y_ = (x5_1 ++ [(x1_1) % 256]) := ⟨_, rfl⟩
          rw [← hy706] at H
          have Ny706 := aM hy706
          clear hy706
          obtain rfl := Option.some.inj H
          go_wp2_with (first | ((with_reducible refine gate_builtin (b := .append) (xs := #[.tmp 24, .tmp 27]) rfl ?_); at_builtin; refine Kd.R_append (Kd.int .u8) (w0 := w) w.heap.size rfl (.tmp 24) (.tmp 27) 22 5 (.int .u8 0) 1 rfl Try.underlying22 info5 rfl (by decide) (by omega) u5 x5_1 ((x1_1) % 256) [.int .u8 ((x1_1) % 256)] (fun _ => True) (fun _ => False) rfl rfl ?aP (fun _ hk => hk.elim) ?aF ?aO ?aB ?aS ?aL ?_; (case aP => exact rfl); (case aB => exact TB); (case aF => exact (fun _ _ => trivial)); (case aO => exact (TRf HO_5)); (case aS => exact (below_size TB)); (case aL => have := LMc13.out; omega); intro v707 w14 ho hb hg hat; rw [← Ny706.out] at ho; have HO708 := aM (ho); replace HB := aM (hb); clear HO_5; clear ho hb hg hat))
          go_ret
          exact ⟨_, TE, by have X_ := HO708.out; exact TR, TB⟩
  · replace c9 := Bool.eq_false_iff.mpr c9
    subst c9
    replace H := ifF H
    obtain rfl := Option.some.inj H
    go_wp2
    go_ret
    exact ⟨_, TE, by have X_ := HO701.out; exact TR, TB⟩

def spec_l6PutSum.l0 : Nat → List Int → Int → Option (List Int)
  | 0, _, _ => none
  | k + 1, x0, x1 => if x1 > 127 then (if x0.length < 140737488355328 then (spec_l6PutSum.l0 k (x0 ++ [(Go.bits .or .i64 (Go.bits .and .i64 x1 127) 128) % 256]) (x1 / 128)) else (none)) else (if x0.length < 140737488355328 then (some (x0 ++ [(x1) % 256])) else (none))
def spec_l6PutSum.f (k : Nat) (l0 : List Int) (a1 : Int) : Option (List Int) := spec_l6PutSum.l0 k l0 a1
theorem spec_l6PutSum.mono_l : ∀ k, (∀ y0 y1, LeO (spec_l6PutSum.l0 k y0 y1) (spec_l6PutSum.l0 (k + 1) y0 y1))
  | 0 => fun _ _ r h => by simp [spec_l6PutSum.l0] at h
  | k + 1 => by
    have ih0 := spec_l6PutSum.mono_l k
    · intro y0 y1
      unfold spec_l6PutSum.l0
      exact LM
theorem spec_l6PutSum.mono : ∀ a0 a1 k, LeO (spec_l6PutSum.f k a0 a1) (spec_l6PutSum.f (k + 1) a0 a1) := by
  intro a0 a1 k;have ih0 := spec_l6PutSum.mono_l k;unfold spec_l6PutSum.f;exact LM
set_option maxHeartbeats 40000000 in
set_option maxRecDepth 100000 in
theorem spec_l6PutSum.calls (k : Nat) (P0_ : Nat → Prop) (u9000_ : Value) (l0 : List Int) (a1 : Int) (r : List Int) (w0 w : World) (hB : Below w0.heap.size w0 w) (ho0 : Kd.R (Kd.int .u8) 5 w w0.heap.size P0_ u9000_ l0) (h : spec_l6PutSum.f k l0 a1 = some r) :
    Calls Try.prog 92 #[u9000_, .int .i64 a1] w fun e w' => ∃ v0_ : Value, e = .returned (v0_) ∧ Kd.R (Kd.int .u8) 5 w' w0.heap.size (fun k_ => (P0_ k_ ∨ w.heap.size ≤ k_)) v0_ r ∧ Below w0.heap.size w0 w' ∧ Kept w w' (fun k_ => P0_ k_) := by
  have HO0 := aM (show Kd.R (Kd.int .u8) 5 w w0.heap.size (fun k_ => (P0_ k_ ∨ w.heap.size ≤ k_)) u9000_ l0 from Kd.R_mono ho0 (fun k_ hk => (.inl hk)))
  have HK := aM (Kept.refl w (fun k_ => P0_ k_))
  have HW0 := aM hB.size
  have HB := aM hB
  clear hB
  have H := h
  clear h
  unfold spec_l6PutSum.f at H
  have H' := aM H
  clear H
  go_enter Try.func92, Try.ntmps92
  go_wp2
  go_loopg [0, 1] k (fun kq v0 v1 w' => ∃ (x0_1 : List Int) (x1_1 : Int), v1 = .int .i64 x1_1 ∧ Aside0 (spec_l6PutSum.l0 kq x0_1 x1_1 = some r) ∧ Aside0 (kq ≤ k) ∧ Aside0 (Kd.R (Kd.int .u8) 5 w' w0.heap.size (fun k_ => (P0_ k_ ∨ w.heap.size ≤ k_)) v0 x0_1) ∧ Aside0 (Kept w w' (fun k_ => P0_ k_)) ∧ Aside0 (Below w0.heap.size w0 w'))
  case atStart => exact ⟨(l0), (a1), TF, H', ⟨Nat.le_refl _⟩, ⟨by have X_ := HO0.out; exact TR⟩, ⟨by repeat (first | (with_reducible first | exact HK.out | apply Kept.alloc | apply Kept.drewN | apply Kept.drew) | exact HK.out)⟩, ⟨TB⟩⟩
  case round =>
    clear H'
    try clear p2
    obtain ⟨x0_1, x1_1, rfl, HA, HK1, HO_0, HK, HB⟩ := hrel
    cases gk with
    | zero => exact absurd HA.out (by simp [spec_l6PutSum.l0])
    | succ k1 =>
      have H := HA.out
      clear HA
      simp only [spec_l6PutSum.l0] at H
      by_cases c3 : x1_1 > 127
      · rw [if_pos c3] at H
        have c3b0 : decide (127 < x1_1) = true := decide_eq_true c3
        clear c3
        replace H := ifN H
        obtain ⟨c4, H⟩ := H
        have LMc4 := aM c4
        clear c4
        obtain ⟨y709, hy709⟩ : ∃ y_ : List Int, y_ = (x0_1 ++ [(Go.bits .or .i64 (Go.bits .and .i64 x1_1 127) 128) % 256]) := ⟨_, rfl⟩
        rw [← hy709] at H
        have Ny709 := aM hy709
        clear hy709
        have H' := aM H
        clear H
        go_wp2_with (first | ((with_reducible refine gate_builtin (b := .append) (xs := #[.tmp 7, .tmp 12]) rfl ?_); at_builtin; refine Kd.R_append (Kd.int .u8) (w0 := w0) w0.heap.size rfl (.tmp 7) (.tmp 12) 22 5 (.int .u8 0) 1 rfl Try.underlying22 info5 rfl (by decide) (by omega) u0 x0_1 ((Go.bits .or .i64 (Go.bits .and .i64 x1_1 127) 128) % 256) [.int .u8 ((Go.bits .or .i64 (Go.bits .and .i64 x1_1 127) 128) % 256)] (fun k_ => (P0_ k_ ∨ w.heap.size ≤ k_)) (fun _ => False) rfl rfl ?aP (fun _ hk => hk.elim) ?aF ?aO ?aB ?aS ?aL ?_; (case aP => exact rfl); (case aB => exact TB); (case aF => exact Zq32_2); (case aO => exact (TRf HO_0)); (case aS => exact (below_size TB)); (case aL => have := LMc4.out; omega); intro v710 w5 ho hb hg hat; rw [← Ny709.out] at ho; have HO711 := aM (ho); replace HB := aM (hb); replace HK := aM (Kept.of_grown (S := (fun k_ => P0_ k_)) hg (by exact Zq32_0) (fun k_ e_ => (HO_0.out.1 k_ e_))); clear HO_0; clear ho hb hg hat))
        go_roundg k1
        case measure => have := HK1.out; omega
        case rel => exact ⟨(y709), (x1_1 / 128), TF, H', ⟨by have := HK1.out; omega⟩, ⟨by have X_ := HO711.out; exact TR⟩, ⟨by repeat (first | (with_reducible first | exact HK.out | apply Kept.alloc | apply Kept.drewN | apply Kept.drew) | exact HK.out)⟩, ⟨TB⟩⟩
      · rw [if_neg c3] at H
        have c3b0 : decide (127 < x1_1) = false := decide_eq_false c3
        clear c3
        replace H := ifN H
        obtain ⟨c6, H⟩ := H
        have LMc6 := aM c6
        clear c6
        obtain ⟨y712, hy712⟩ : ∃ y_ : List Int, y_ = (x0_1 ++ [(x1_1) % 256]) := ⟨_, rfl⟩
        rw [← hy712] at H
        have Ny712 := aM hy712
        clear hy712
        obtain rfl := Option.some.inj H
        go_wp2_with (first | ((with_reducible refine gate_builtin (b := .append) (xs := #[.tmp 16, .tmp 19]) rfl ?_); at_builtin; refine Kd.R_append (Kd.int .u8) (w0 := w0) w0.heap.size rfl (.tmp 16) (.tmp 19) 22 5 (.int .u8 0) 1 rfl Try.underlying22 info5 rfl (by decide) (by omega) u0 x0_1 ((x1_1) % 256) [.int .u8 ((x1_1) % 256)] (fun k_ => (P0_ k_ ∨ w.heap.size ≤ k_)) (fun _ => False) rfl rfl ?aP (fun _ hk => hk.elim) ?aF ?aO ?aB ?aS ?aL ?_; (case aP => exact rfl); (case aB => exact TB); (case aF => exact Zq32_2); (case aO => exact (TRf HO_0)); (case aS => exact (below_size TB)); (case aL => have := LMc6.out; omega); intro v713 w7 ho hb hg hat; rw [← Ny712.out] at ho; have HO714 := aM (ho); replace HB := aM (hb); replace HK := aM (Kept.of_grown (S := (fun k_ => P0_ k_)) hg (by exact Zq32_0) (fun k_ e_ => (HO_0.out.1 k_ e_))); clear HO_0; clear ho hb hg hat))
        go_ret
        exact ⟨_, TE, by have X_ := HO714.out; exact TR, TB, by repeat (first | (with_reducible first | exact HK.out | apply Kept.alloc | apply Kept.drewN | apply Kept.drew) | exact HK.out)⟩

def spec_PutMan.l0 : Nat → List Int → Int → Int → Int → Int → List (S83) → Option (List Int)
  | 0, _, _, _, _, _, _ => none
  | k + 1, x5, x6, x716000, x716001, x716002, x716003 => if x6 < (x716003.length : Int) then (if 0 ≤ x6 then ((spec_l6PutSum.f k x5 ((rd_T83 x716003 x6).f1)).bind fun t733 => (spec_PutMan.l0 k t733 (wrap64 (x6 + 1)) x716000 x716001 x716002 x716003)) else (none)) else (some x5)
def spec_PutMan.f (k : Nat) (l0 : List Int) (a1_0 : Int) (a1_1 : Int) (a1_2 : Int) (l1_3 : List (S83)) : Option (List Int) := (some (([] : List Int) : List Int)).bind fun y716 => (if y716.length + l0.length < 140737488355328 then ((some (y716 ++ l0 : List Int)).bind fun y719 => ((spec_ManOk.f k a1_0 a1_1 a1_2 l1_3).bind fun t722 => (if t722 = true then ((spec_PutVar.f k y719 a1_0).bind fun t723 => ((spec_PutVar.f k t723 a1_1).bind fun t726 => ((spec_PutVar.f k t726 a1_2).bind fun t729 => (spec_PutMan.l0 k t729 0 a1_0 a1_1 a1_2 l1_3)))) else (some y719)))) else (none))
theorem spec_PutMan.mono_l : ∀ k, (∀ y0 y1 y2 y3 y4 y5, LeO (spec_PutMan.l0 k y0 y1 y2 y3 y4 y5) (spec_PutMan.l0 (k + 1) y0 y1 y2 y3 y4 y5))
  | 0 => fun _ _ _ _ _ _ r h => by simp [spec_PutMan.l0] at h
  | k + 1 => by
    have m0_ := @spec_ManOk.mono
    have m1_ := @spec_PutVar.mono
    have m2_ := @spec_l6PutSum.mono
    have ih0 := spec_PutMan.mono_l k
    · intro y0 y1 y2 y3 y4 y5
      unfold spec_PutMan.l0
      exact LM
theorem spec_PutMan.mono : ∀ a0 a1 a2 a3 a4 k, LeO (spec_PutMan.f k a0 a1 a2 a3 a4) (spec_PutMan.f (k + 1) a0 a1 a2 a3 a4) := by
  intro a0 a1 a2 a3 a4 k;have m0_ := @spec_ManOk.mono;have m1_ := @spec_PutVar.mono;have m2_ := @spec_l6PutSum.mono;have ih0 := spec_PutMan.mono_l k;unfold spec_PutMan.f;exact LM
def spec_PutMan.T4 : Bool × List (List Nat × List Nat) := (true, [([], []), ([], []), ([1], [1]), ([0, 2], [0, 2]), ([], []), ([4], [4]), ([3, 5, 3], [3, 5]), ([], []), ([7], [7]), ([6, 8, 6], [6, 8]), ([9, 9, 0, 1, 2, 3, 4, 5, 6, 7, 8, 9], [0, 9])])
def spec_PutMan.B4 : List Nat := [0, 0, 2, 7, 0, 16, 63, 0, 128, 511, 1023]
theorem spec_PutMan.tab4 : rtab .any (opsOf Try.f64 4) = spec_PutMan.T4 := by kernel_rfl
theorem spec_PutMan.bits4 : waitsOk spec_PutMan.T4.2 spec_PutMan.B4 = true := by kernel_rfl
set_option maxHeartbeats 40000000 in
set_option maxRecDepth 100000 in
theorem spec_PutMan.calls (k : Nat) (A0 : Option Addr) (c0 : Nat) (l0 : List Int) (a1_0 : Int) (a1_1 : Int) (a1_2 : Int) (A1_3 : Option Addr) (c1_3 : Nat) (l1_3 : List (S83)) (r : List Int) (w : World) (hr0 : Kd.C (Kd.int .u8) w A0 l0.length l0) (hc0 : l0.length ≤ c0) (hr1_3 : Kd.C k83 w A1_3 l1_3.length l1_3) (hc1_3 : l1_3.length ≤ c1_3) (h : spec_PutMan.f k l0 a1_0 a1_1 a1_2 l1_3 = some r) :
    Calls Try.prog 64 #[.slice A0 l0.length c0, .agg #[.int .i64 a1_0, .int .i64 a1_1, .int .i64 a1_2, .slice A1_3 l1_3.length c1_3]] w fun e w' => ∃ v0_ : Value, e = .returned (v0_) ∧ Kd.R (Kd.int .u8) 5 w' w.heap.size (fun _ => True) v0_ r ∧ Below w.heap.size w w' := by
  have hu25 := Try.underlying25
  have HR0 := aM hr0
  have HC0 := aM hc0
  clear hr0 hc0
  have HR1_3 := aM hr1_3
  have HC1_3 := aM hc1_3
  clear hr1_3 hc1_3
  have HB := aM (Below.refl w.heap.size w)
  have H := h
  clear h
  unfold spec_PutMan.f at H
  obtain ⟨y716, hy716⟩ : ∃ y_ : List Int, y_ = (([] : List Int)) := ⟨_, rfl⟩
  replace H := someE H hy716
  have Ny716 := aM hy716
  clear hy716
  replace H := ifN H
  obtain ⟨c3, H⟩ := H
  have LMc3 := aM c3
  clear c3
  obtain ⟨y719, hy719⟩ : ∃ y_ : List Int, y_ = (y716 ++ l0) := ⟨_, rfl⟩
  replace H := someE H hy719
  have Ny719 := aM hy719
  clear hy719
  replace H := bE H
  obtain ⟨t722, A4, H⟩ := H
  go_enter Try.func64, Try.ntmps64
  go_wp2_with (first | ((with_reducible refine gate_dst (N := 3) rfl ?_); refine gBx 3 #[.int .i64 a1_0, .int .i64 a1_1, .int .i64 a1_2, .slice A1_3 l1_3.length c1_3] 25 ?_; intro gb715 hg w6 hbox hb; have BK715 := aM (hbox); have GW715 := gW HB hg; have GE715 := gW HB hg; replace HB := bS HB hb; clear hb hbox hg) | ((with_reducible refine gate_dst (N := 7) rfl ?_); refine Kd.R_lit (Kd.int .u8) _ 5 ?hg (N := 7) ?hd (xs := ([] : List Int)) (inner := []) (ok := fun _ => True) (okp := fun _ => True) ?hr ?hp (fun _ hk => hk) trivial (Below.refl _ _) (Nat.le_refl _) (by simp) ?_; (case hd => rfl); (case hg => rfl); (case hr => first | (go_simp; done) | (go_simp; rfl)); (case hp => exact (Reps.none _ _)); intro v717 w7 ho8 hb hg_ hnew_; clear hg_ hnew_; (first | rw [← Ny716.out] at ho8 | (simp only [Int.reduceToNat] at ho8; rw [← Ny716.out] at ho8)); have HO718 := aM (Kd.R_lower ho8 (below_size TB)); replace BK715 := mB BK715 hb; replace HB := bS HB hb; clear hb ho8) | ((with_reducible refine gate_builtin (b := .append) (xs := #[.tmp 7, .tmp 8]) rfl ?_); at_builtin; refine Kd.R_append_rows (Kd.int .u8) (w0 := w) w.heap.size rfl (.tmp 7) (.tmp 8) 22 5 (.int .u8 0) 1 rfl Try.underlying22 info5 rfl (by decide) (by omega) v717 y716 l0 _ _ _ (fun _ => True) (fun _ => False) rfl rfl ?aO ?aR (fun _ _ h => h) (fun _ h => h.elim) ?aF ?aB ?aS ?aL ?_; (case aR => exact Zq32_1); (case aB => exact TB); (case aF => exact (fun _ _ => trivial)); (case aO => exact (TRf HO718)); (case aS => exact (below_size TB)); (case aL => have := LMc3.out; omega); intro v720 w9 ho hb hg hat; rw [← Ny719.out] at ho; have HO721 := aM (ho); replace BK715 := aM (blk_grown (g := gb715) (o := .cells #[.int .i64 a1_0, .int .i64 a1_1, .int .i64 a1_2, .slice A1_3 l1_3.length c1_3] 25 (0, 0)) TK hg (Kd.R_ne HO718.out BK715.out (by decide))); replace HB := aM (hb); clear HO718; clear ho hb hg hat; obtain ⟨hcz10_0, hcz10_1, hcz10_2, hcz10_3⟩ := cz4 BK715.out; obtain ⟨hfz10_0, hfz10_1, hfz10_2, hfz10_3⟩ := fz4 BK715.out) | ((with_reducible refine gate_callee (f := 50) rfl ?_); refine gL (some 11) Try.func50 #[.agg #[.int .i64 a1_0, .int .i64 a1_1, .int .i64 a1_2, .slice A1_3 l1_3.length c1_3]] ?_; (with_reducible refine (spec_ManOk.calls k a1_0 a1_1 a1_2 _ _ l1_3 t722 _ ?side1 ?side2 A4.out).mono ?_); (case side1 => have X_ := (Kd.C_below HR1_3.out HB.out); exact TC); (case side2 => exact HC1_3.out); rintro e w11 ⟨rfl, hb⟩; refine ⟨_, rfl, ?_⟩; replace HO721 := mR HO721 hb; replace BK715 := mB BK715 hb; replace HB := bS HB hb; clear hb) | ((with_reducible refine gate_dst (N := 12) rfl ?_); generalize hG_ : wpList _ _ _ _ _ _ = G_))
  subst hG_
  by_cases c12 : t722 = true
  · subst c12
    replace H := ifT H
    replace H := bE H
    obtain ⟨t723, A13, H⟩ := H
    replace H := bE H
    obtain ⟨t726, A14, H⟩ := H
    replace H := bE H
    obtain ⟨t729, A15, H⟩ := H
    have H' := aM H
    clear H
    try go_wp2
    (try (rw [drewN_self w11]; generalize hq_ : World.drewN w11 _ = w11; have n0_ : Aside0 (Kd.R (Kd.int .u8) 5 w11 w.heap.size (fun _ => True) v720 y719) := ⟨by rw [← hq_]; exact (TRf HO721)⟩; have n1_ : Aside0 (w11.heap[gb715]? = some (.cells #[.int .i64 a1_0, .int .i64 a1_1, .int .i64 a1_2, .slice A1_3 l1_3.length c1_3] 25 (0, 0))) := ⟨by rw [← hq_]; exact TK⟩; have n2_ : Aside0 (Below w.heap.size w w11) := ⟨by rw [← hq_]; exact TB⟩; clear HO721 BK715 HB hq_; have HO721 := n0_; have BK715 := n1_; have HB := n2_; clear n0_ n1_ n2_))
    replace HO721 := rD HO721
    replace BK715 := bD BK715
    replace HB := aM (below_drew1 HB.out)
    obtain ⟨Ao17, co17, eo17⟩ := Kd.R_slice HO721.out
    (first | subst eo17 | (injection eo17 with f1_ f2_ f3_; have f4_ := f1_.symm; have f5_ := f3_.symm; clear f1_ f2_ f3_; subst f4_; subst f5_))
    refine start_ (n := 11) (S := fun w' => w'.cell? ⟨gb715, 0, none⟩ = some (.int .i64 a1_0) ∧ w'.cell? ⟨gb715, 1, none⟩ = some (.int .i64 a1_1) ∧ w'.cell? ⟨gb715, 2, none⟩ = some (.int .i64 a1_2) ∧ w'.cell? ⟨gb715, 3, none⟩ = some (.slice A1_3 l1_3.length c1_3)) (ds := []) (Array.replicate 11 false) (by kernel_rfl) rfl rfl (cz4 BK715.out) (fun hHeld => ?_); refine with_tabW spec_PutMan.tab4 spec_PutMan.bits4 (fun HT_ HW_ => ?_)
    generalize w11.drew = w16 at HO721 BK715 HB hHeld ⊢
    refine pP 0 (some 14) ?_
    refine pP 1 (some 15) ?_
    refine pP 4 (some 18) ?_
    refine pP 7 (some 21) ?_
    refine pT 2 (some 16) ?_
    refine pT 5 (some 19) ?_
    refine pT 8 (some 22) ?_
    refine pO 3 (some 17) (fun K hK => ?_)
    refine gG Try.func63 #[.slice Ao17 y719.length co17, .int .i64 a1_0] ?_
    with_reducible refine (spec_PutVar.calls k _ _ y719 a1_0 t723 _ ?side1 ?side2 A13.out).mono ?_
    (case side1 => have X_ := (Kd.R_reads' HO721.out).2.2; exact TC)
    (case side2 => exact (Kd.R_reads' HO721.out).2.1)
    rintro e w18 ⟨v724, rfl, ho0, hb⟩
    refine ⟨_, rfl, ?_⟩
    have n0_ := aM (Kd.R_elder' (TRf HO721) (Kd.R_base ho0) hb)
    have n1_ := aM (Kd.R_lower (Kd.R_new' ho0 (Kd.R_lt (TRf HO721))) (below_size TB))
    have n2_ := mB BK715 hb
    have n3_ := bS HB hb
    clear HO721
    clear BK715
    clear HB
    have HO721 := n0_
    have HO725 := n1_
    have BK715 := n2_
    have HB := n3_
    clear n0_ n1_ n2_ n3_
    (try clear hb)
    (try clear hb2)
    (try clear hk)
    (try clear hi)
    (try clear ho0)
    obtain ⟨Ao19, co19, eo19⟩ := Kd.R_slice HO725.out
    (first | subst eo19 | (injection eo19 with f1_ f2_ f3_; have f4_ := f1_.symm; have f5_ := f3_.symm; clear f1_ f2_ f3_; subst f4_; subst f5_))
    refine hK.out _ _ (cz4 BK715.out) (fun hHeld => ?_)
    clear hK K
    refine nR ?_
    refine pO 6 (some 20) (fun K hK => ?_)
    refine gG Try.func63 #[.slice Ao19 t723.length co19, .int .i64 a1_1] ?_
    with_reducible refine (spec_PutVar.calls k _ _ t723 a1_1 t726 _ ?side1 ?side2 A14.out).mono ?_
    (case side1 => have X_ := (Kd.R_reads' HO725.out).2.2; exact TC)
    (case side2 => exact (Kd.R_reads' HO725.out).2.1)
    rintro e w20 ⟨v727, rfl, ho0, hb⟩
    refine ⟨_, rfl, ?_⟩
    have n0_ := aM (Kd.R_elder' (TRf HO721) (Kd.R_base ho0) hb)
    have n1_ := aM (Kd.R_elder' (TRf HO725) (Kd.R_base ho0) hb)
    have n2_ := aM (Kd.R_lower (Kd.R_new' (Kd.R_new' ho0 (Kd.R_lt (TRf HO721))) (Kd.R_lt (TRf HO725))) (below_size TB))
    have n3_ := mB BK715 hb
    have n4_ := bS HB hb
    clear HO721
    clear HO725
    clear BK715
    clear HB
    have HO721 := n0_
    have HO725 := n1_
    have HO728 := n2_
    have BK715 := n3_
    have HB := n4_
    clear n0_ n1_ n2_ n3_ n4_
    (try clear hb)
    (try clear hb2)
    (try clear hk)
    (try clear hi)
    (try clear ho0)
    obtain ⟨Ao21, co21, eo21⟩ := Kd.R_slice HO728.out
    (first | subst eo21 | (injection eo21 with f1_ f2_ f3_; have f4_ := f1_.symm; have f5_ := f3_.symm; clear f1_ f2_ f3_; subst f4_; subst f5_))
    refine hK.out _ _ (cz4 BK715.out) (fun hHeld => ?_)
    clear hK K
    refine nR ?_
    refine pO 9 (some 23) (fun K hK => ?_)
    refine gG Try.func63 #[.slice Ao21 t726.length co21, .int .i64 a1_2] ?_
    with_reducible refine (spec_PutVar.calls k _ _ t726 a1_2 t729 _ ?side1 ?side2 A15.out).mono ?_
    (case side1 => have X_ := (Kd.R_reads' HO728.out).2.2; exact TC)
    (case side2 => exact (Kd.R_reads' HO728.out).2.1)
    rintro e w22 ⟨v730, rfl, ho0, hb⟩
    refine ⟨_, rfl, ?_⟩
    have n0_ := aM (Kd.R_elder' (TRf HO721) (Kd.R_base ho0) hb)
    have n1_ := aM (Kd.R_elder' (TRf HO725) (Kd.R_base ho0) hb)
    have n2_ := aM (Kd.R_elder' (TRf HO728) (Kd.R_base ho0) hb)
    have n3_ := aM (Kd.R_lower (Kd.R_new' (Kd.R_new' (Kd.R_new' ho0 (Kd.R_lt (TRf HO721))) (Kd.R_lt (TRf HO725))) (Kd.R_lt (TRf HO728))) (below_size TB))
    have n4_ := mB BK715 hb
    have n5_ := bS HB hb
    clear HO721
    clear HO725
    clear HO728
    clear BK715
    clear HB
    have HO721 := n0_
    have HO725 := n1_
    have HO728 := n2_
    have HO731 := n3_
    have BK715 := n4_
    have HB := n5_
    clear n0_ n1_ n2_ n3_ n4_ n5_
    (try clear hb)
    (try clear hb2)
    (try clear hk)
    (try clear hi)
    (try clear ho0)
    refine hK.out _ _ (cz4 BK715.out) (fun hHeld => ?_)
    clear hK K
    refine nR ?_
    refine pP 10 (some 5) ?_
    refine done_ (done_of HT_.out (by kernel_rfl)) ?_
    try go_wp2
    go_loopg [5, 6] k (fun kq v5 v6 w' => ∃ (x5_1 : List Int) (x6_1 : Int), v6 = .int .i64 x6_1 ∧ Aside0 (spec_PutMan.l0 kq x5_1 x6_1 a1_0 a1_1 a1_2 l1_3 = some r) ∧ Aside0 (kq ≤ k) ∧ Aside0 (Kd.R (Kd.int .u8) 5 w' w.heap.size (fun _ => True) v5 x5_1) ∧ Aside0 (w'.heap[gb715]? = some (.cells #[.int .i64 a1_0, .int .i64 a1_1, .int .i64 a1_2, (.slice A1_3 l1_3.length c1_3)] 25 (0, 0))) ∧ Aside0 (Below w.heap.size w w'))
    case atStart => exact ⟨(t729), (0), TF, H', ⟨Nat.le_refl _⟩, ⟨by (with_reducible repeat (first | apply Kd.R_alloc | apply Kd.R_drewN | apply Kd.R_drew)); exact Kd.R_mono HO731.out (fun _ hk => trivial)⟩, ⟨TK⟩, ⟨TB⟩⟩
    case round =>
      clear H'
      try clear c1
      try clear p2
      try clear c3
      try clear c5
      try clear c6
      try clear c12
      try clear hcz10_0
      try clear hcz10_1
      try clear hcz10_2
      try clear hcz10_3
      try clear hfz10_0
      try clear hfz10_1
      try clear hfz10_2
      try clear hfz10_3
      obtain ⟨x5_1, x6_1, rfl, HA, HK1, HO_5, BK715, HB⟩ := hrel
      cases gk with
      | zero => exact absurd HA.out (by simp [spec_PutMan.l0])
      | succ k1 =>
        have H := HA.out
        clear HA
        simp only [spec_PutMan.l0] at H
        by_cases c23 : x6_1 < (l1_3.length : Int)
        · rw [if_pos c23] at H
          have c23b0 : decide (x6_1 < (l1_3.length : Int)) = true := decide_eq_true c23
          clear c23
          replace H := ifN H
          obtain ⟨c24, H⟩ := H
          have c24b0 : decide (0 ≤ x6_1) = true := decide_eq_true c24
          clear c24
          replace H := bE H
          obtain ⟨t733, A25, H⟩ := H
          have H' := aM H
          clear H
          obtain ⟨hcz26_0, hcz26_1, hcz26_2, hcz26_3⟩ := cz4 BK715.out
          obtain ⟨hfz26_0, hfz26_1, hfz26_2, hfz26_3⟩ := fz4 BK715.out
          have p732 : 0 ≤ (x6_1 : Int) := DT
          have q732 : x6_1 < (l1_3.length : Int) := DT
          obtain ⟨ad732, e732, hx732_0, hx732_1⟩ := at_T83 HR1_3.out x6_1 p732 q732
          cases e732
          replace hx732_0 := (HB.out.cell (World.block_lt_of_cell? w _ hx732_0)).trans hx732_0
          replace hx732_1 := (HB.out.cell (World.block_lt_of_cell? w _ hx732_1)).trans hx732_1
          replace p732 := eq_true p732
          replace q732 := eq_true q732
          obtain ⟨Ao27, co27, eo27⟩ := Kd.R_slice HO_5.out
          subst eo27
          go_wp2_with (first | ((with_reducible refine gate_callee (f := 92) rfl ?_); refine gL (some 38) Try.func92 #[.slice Ao27 x5_1.length co27, .int .i64 ((rd_T83 l1_3 x6_1).f1)] ?_; (with_reducible refine (spec_l6PutSum.calls k1 (fun k_ => some k_ = (.slice Ao27 x5_1.length co27 : Value).ownBlock) (.slice Ao27 x5_1.length co27) x5_1 ((rd_T83 l1_3 x6_1).f1) t733 w _ ?side1 ?side2 A25.out).mono ?_); (case side1 => exact TB); (case side2 => exact Kd.R_tight rfl HO_5.out); rintro e w28 ⟨v734, rfl, ho0, hb, hkp⟩; refine ⟨_, rfl, ?_⟩; have HO735 := aM (Kd.R_mono (ok' := fun k_ => True) ho0 (fun k_ hk_ => trivial)); replace BK715 := aM (blk_kept TK hkp (fun hs_ => (fun e_ => (Kd.R_ne HO_5.out BK715.out (by decide)) e_) hs_)); replace HB := aM (hb); clear HO_5; clear hb; (try clear hkp); (try clear ho0)))
          go_roundg k1
          case measure => have := HK1.out; omega
          case rel => exact ⟨(t733), (wrap64 (x6_1 + 1)), TF, H', ⟨by have := HK1.out; omega⟩, ⟨by have X_ := HO735.out; exact TR⟩, ⟨TK⟩, ⟨TB⟩⟩
        · rw [if_neg c23] at H
          have c23b0 : decide (x6_1 < (l1_3.length : Int)) = false := decide_eq_false c23
          clear c23
          obtain rfl := Option.some.inj H
          obtain ⟨hcz29_0, hcz29_1, hcz29_2, hcz29_3⟩ := cz4 BK715.out
          obtain ⟨hfz29_0, hfz29_1, hfz29_2, hfz29_3⟩ := fz4 BK715.out
          go_wp2
          go_ret
          exact ⟨_, TE, by have X_ := HO_5.out; exact TR, TB⟩
  · replace c12 := Bool.eq_false_iff.mpr c12
    subst c12
    replace H := ifF H
    obtain rfl := Option.some.inj H
    go_wp2
    go_ret
    exact ⟨_, TE, by have X_ := HO721.out; exact TR, TB⟩

def spec_l12Half.f (a0 : Int) : Option (Int × Int) := some (Go.bits .and .i64 a0 1048575, a0 / 1048576)
set_option maxHeartbeats 40000000 in
set_option maxRecDepth 100000 in
theorem spec_l12Half.calls (a0 : Int) (r1 : Int) (r2 : Int) (w : World) (h : spec_l12Half.f a0 = some (r1, r2)) :
    Calls Try.prog 65 #[.int .i64 a0] w fun e w' => e = .returned (.tuple #[.int .i64 r1, .int .i64 r2]) ∧ Drawn0 w w' := by
  have H := h
  clear h
  unfold spec_l12Half.f at H
  simp only [Option.some.injEq, Prod.mk.injEq] at H
  obtain ⟨rfl, rfl⟩ := H
  go_enter Try.func65, Try.ntmps65
  go_wp2
  go_ret2
  exact ⟨by first | rfl | (simp; done) | (simp [*]; done), TD⟩

def spec_PutPart.f (k : Nat) (l0 : List Int) (l1 : List Int) : Option (List Int) := (spec_PutVar.f k l0 (l1.length : Int)).bind fun t736 => (if t736.length + l1.length < 140737488355328 then (some (t736 ++ l1)) else (none))
theorem spec_PutPart.mono : ∀ a0 a1 k, LeO (spec_PutPart.f k a0 a1) (spec_PutPart.f (k + 1) a0 a1) := by
  intro a0 a1 k;have m0_ := @spec_PutVar.mono;unfold spec_PutPart.f;exact LM
set_option maxHeartbeats 40000000 in
set_option maxRecDepth 100000 in
theorem spec_PutPart.calls (k : Nat) (A0 : Option Addr) (c0 : Nat) (l0 : List Int) (A1 : Option Addr) (c1 : Nat) (l1 : List Int) (r : List Int) (w : World) (hr0 : Kd.C (Kd.int .u8) w A0 l0.length l0) (hc0 : l0.length ≤ c0) (hr1 : Kd.C (Kd.int .u8) w A1 l1.length l1) (hc1 : l1.length ≤ c1) (h : spec_PutPart.f k l0 l1 = some r) :
  Calls Try.prog 66 #[.slice A0 l0.length c0, .slice A1 l1.length c1] w fun e w' => ∃ v0_ : Value, e = .returned (v0_) ∧ Kd.R (Kd.int .u8) 5 w' w.heap.size (fun _ => True) v0_ r ∧ Below w.heap.size w w' := by
 have HR0 := aM hr0;have HC0 := aM hc0;clear hr0 hc0;have HR1 := aM hr1;have HC1 := aM hc1;clear hr1 hc1;have HB := aM (Below.refl w.heap.size w);have H := h;clear h;unfold spec_PutPart.f at H;replace H := bE H;obtain ⟨ab, A3, H⟩ := H;replace H := ifN H;obtain ⟨c4, H⟩ := H;have LMc4 := aM c4;clear c4;obtain ⟨y739, aa⟩ : ∃ y_ : List Int, y_ = (ab ++ l1) := ⟨_, rfl⟩;rw [← aa] at H;have Ny739 := aM aa;clear aa;obtain rfl := Option.some.inj H;go_enter Try.func66, Try.ntmps66;go_wp2_with (first | ((with_reducible refine gate_callee (f := 63) rfl ?_); refine gL (some 8) Try.func63 #[.slice A0 l0.length c0, .int .i64 (l1.length : Int)] ?_; (with_reducible refine (spec_PutVar.calls k _ _ l0 (l1.length : Int) ab _ ?side1 ?side2 A3.out).mono ?_); (case side1 => have X_ := HR0.out; exact TC); (case side2 => exact HC0.out); rintro e w5 ⟨v737, rfl, ho0, hb⟩; refine ⟨_, rfl, ?_⟩; have HO738 := aM (Kd.R_lower ho0 (below_size TB)); replace HB := bS HB hb; clear ho0 hb) | ((with_reducible refine gate_builtin (b := .append) (xs := #[.tmp 8, .tmp 9]) rfl ?_); at_builtin; refine Kd.R_append_rows (Kd.int .u8) (w0 := w) w.heap.size rfl (.tmp 8) (.tmp 9) 22 5 (.int .u8 0) 1 rfl Try.underlying22 info5 rfl (by decide) (by omega) v737 ab l1 _ _ _ (fun _ => True) (fun _ => False) rfl rfl ?aO ?aR (fun _ _ h => h) (fun _ h => h.elim) ?aF ?aB ?aS ?aL ?_; (case aR => repeat (first | exact (Kd.C_below HR1.out HB.out) | (with_reducible refine Kd.C_alloc ?_ _) | (with_reducible refine Kd.C_drewN ?_ _) | (with_reducible refine Kd.C_drew ?_))); (case aB => exact TB); (case aF => exact (fun _ _ => trivial)); (case aO => exact (TRf HO738)); (case aS => exact (below_size TB)); (case aL => have := LMc4.out; omega); intro v740 w6 ho hb hg hat; rw [← Ny739.out] at ho; have HO741 := aM (ho); replace HB := aM (hb); clear HO738; clear ho hb hg hat))
 go_ret
 exact ⟨_, TE, by have X_ := HO741.out; exact TR, TB⟩

end Go.Proofs.Ytanpaipapcjpoaa.Q
