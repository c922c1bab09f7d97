/- Functions of the program as plain Lean functions, and that a call of each comes to what its function tells. Written by a program of this seat. -/
import Derived.Test.YtanpaipapcjpoaaGreatDoorQ0
import Derived.Test.YtanpaipapcjpoaaGreatDoorQ4
import Derived.Test.YtanpaipapcjpoaaGreatDoorQ20
set_option maxHeartbeats 40000000
set_option maxRecDepth 100000
namespace Go.Proofs.YtanpaipapcjpoaaGreatDoor.Q
open Go.RowKit Go.Proofs.YtanpaipapcjpoaaGreatDoorW.PrintWords Go.Proofs.YtanpaipapcjpoaaGreatDoorW.PrintLast Go.Proofs.YtanpaipapcjpoaaGreatDoorW.PrintMore
attribute [local go_sem] min2_int min_two
set_option linter.unusedVariables false
set_option linter.unusedSimpArgs false
theorem Zq22_0 {p : Prop} (h : p := by repeat (first | (with_reducible first | exact HK.out | apply Kept.alloc | apply Kept.drewN | apply Kept.drew) | exact HK.out)) : p := h
theorem Zq22_1 {p : Prop} (h : p := by repeat (first | exact (Kd.C_below HR0.out HB.out) | (with_reducible refine Kd.C_alloc ?_ _) | (with_reducible refine Kd.C_drewN ?_ _) | (with_reducible refine Kd.C_drew ?_))) : p := h
theorem Zq22_2 {p : Prop} (h : p := by exact (fun k_ hk => (.inr (Nat.le_trans (by first | exact HK.out.1 | exact (show Kept w _ (fun k_ => P0_ k_) from by exact Zq22_0).1) hk)))) : p := h
def spec_PutVar.l0 : Nat → Int → List Int → Option (List Int)
  | 0, _, _ => none
  | k + 1, x1, x5 => if x1 > 127 then (if x5.length < 140737488355328 then (spec_PutVar.l0 k (x1 / 128) (x5 ++ [(Go.bits .or .i64 (Go.bits .and .i64 x1 127) 128) % 256])) else (none)) else (if x5.length < 140737488355328 then (some (x5 ++ [(x1) % 256])) else (none))
def spec_PutVar.f (k : Nat) (l0 : List Int) (a1 : Int) : Option (List Int) := (some (([] : List Int) : List Int)).bind fun y697 => (if y697.length + l0.length < 140737488355328 then ((some (y697 ++ l0 : List Int)).bind fun y700 => ((spec_l1In.f a1 0 1000000000000).bind fun t703 => (if t703 = true then (spec_PutVar.l0 k a1 y700) else (some y700)))) else (none))
theorem spec_PutVar.mono_l : ∀ k, (∀ y0 y1, LeO (spec_PutVar.l0 k y0 y1) (spec_PutVar.l0 (k + 1) y0 y1))
  | 0 => fun _ _ r h => by simp [spec_PutVar.l0] at h
  | k + 1 => by
    have ih0 := spec_PutVar.mono_l k
    · intro y0 y1
      unfold spec_PutVar.l0
      exact LM
theorem spec_PutVar.mono : ∀ a0 a1 k, LeO (spec_PutVar.f k a0 a1) (spec_PutVar.f (k + 1) a0 a1) := by
  intro a0 a1 k;have ih0 := spec_PutVar.mono_l k;unfold spec_PutVar.f;exact LM
theorem spec_PutVar.calls {k : Nat} {A0 : Option Addr} {c0 : Nat} {l0 : List Int} {a1 : Int} {r : List Int} {w : World} (hr0 : Kd.C (Kd.int .u8) w A0 l0.length l0) (hc0 : l0.length ≤ c0) (h : spec_PutVar.f k l0 a1 = some r) :
    Calls Tryz.prog 35 #[.slice A0 l0.length c0, .int .i64 a1] w fun e w' => ∃ v0_ : Value, e = .returned (v0_) ∧ Kd.R (Kd.int .u8) 5 w' w.heap.size (fun _ => True) v0_ r ∧ Below w.heap.size w w' := by
  have HR0 := aM hr0
  have HC0 := aM hc0
  clear hr0 hc0
  have HB := aM (Below.refl w.heap.size w)
  have H := h
  clear h
  unfold spec_PutVar.f at H
  obtain ⟨y697, hy697⟩ : ∃ y_ : List Int, y_ = (([] : List Int)) := ⟨_, rfl⟩
  replace H := someE H hy697
  have Ny697 := aM hy697
  clear hy697
  replace H := ifN H
  obtain ⟨c3, H⟩ := H
  have LMc3 := aM c3
  clear c3
  obtain ⟨y700, hy700⟩ : ∃ y_ : List Int, y_ = (y697 ++ l0) := ⟨_, rfl⟩
  replace H := someE H hy700
  have Ny700 := aM hy700
  clear hy700
  replace H := bE H
  obtain ⟨t703, A4, H⟩ := H
  go_enter Tryz.func35, Tryz.ntmps35
  go_wp2_with (first | ((with_reducible refine gate_dst (N := 6) rfl ?_); refine Kd.R_lit (Kd.int .u8) _ 5 ?hg (N := 6) ?hd (xs := ([] : List Int)) (inner := []) (ok := fun _ => True) (okp := fun _ => True) ?hr ?hp (fun _ hk => hk) trivial (Below.refl _ _) (Nat.le_refl _) (by simp) ?_; (case hd => rfl); (case hg => rfl); (case hr => first | (go_simp; done) | (go_simp; rfl)); (case hp => exact (Reps.none _ _)); intro v698 w6 ho7 hb hg_ hnew_; clear hg_ hnew_; (first | rw [← Ny697.out] at ho7 | (simp only [Int.reduceToNat] at ho7; rw [← Ny697.out] at ho7)); have HO699 := aM (Kd.R_lower ho7 (below_size TB)); replace HB := bS HB hb; clear hb ho7) | ((with_reducible refine gate_builtin (b := .append) (xs := #[.tmp 6, .tmp 7]) rfl ?_); at_builtin; refine Kd.R_append_rows (Kd.int .u8) (w0 := w) w.heap.size rfl (.tmp 6) (.tmp 7) 22 5 (.int .u8 0) 1 rfl Tryz.underlying22 info5 rfl (by decide) (by omega) v698 y697 l0 _ _ _ (fun _ => True) (fun _ => False) rfl rfl ?aO ?aR (fun _ _ h => h) (fun _ h => h.elim) ?aF ?aB ?aS ?aL ?_; (case aR => exact Zq22_1); (case aB => exact TB); (case aF => exact (fun _ _ => trivial)); (case aO => exact (TRf HO699)); (case aS => exact (below_size TB)); (case aL => have := LMc3.out; omega); intro v701 w8 ho hb hg hat; rw [← Ny700.out] at ho; have HO702 := aM (ho); replace HB := aM (hb); clear HO699; clear ho hb hg hat) | ((with_reducible refine gate_callee (f := 51) rfl ?_); refine gL (some 10) Tryz.func51 #[.int .i64 a1, .int .i64 0, .int .i64 1000000000000] ?_; (with_reducible refine (spec_l1In.calls A4.out).mono ?_); rintro e w' ⟨rfl, ⟨nd, rfl⟩⟩; refine ⟨_, rfl, ?_⟩) | ((with_reducible refine gate_dst (N := 11) rfl ?_); generalize hG_ : wpList _ _ _ _ _ _ = G_))
  subst hG_
  by_cases c9 : t703 = true
  · subst c9
    replace H := ifT H
    have H' := aM H
    clear H
    go_wp2
    go_loopg [1, 5] k (fun kq v1 v5 w' => ∃ (x1_1 : Int) (x5_1 : List Int), v1 = .int .i64 x1_1 ∧ Aside0 (spec_PutVar.l0 kq x1_1 x5_1 = some r) ∧ Aside0 (kq ≤ k) ∧ Aside0 (Kd.R (Kd.int .u8) 5 w' w.heap.size (fun _ => True) v5 x5_1) ∧ Aside0 (Below w.heap.size w w'))
    case atStart => exact ⟨(a1), (y700), TF, H', ⟨Nat.le_refl _⟩, ⟨by have X_ := HO702.out; exact TR⟩, ⟨TB⟩⟩
    case round =>
      clear H'
      try clear p2
      try clear c3
      try clear c5
      try clear c9
      obtain ⟨x1_1, x5_1, rfl, HA, HK1, HO_5, HB⟩ := hrel
      cases gk with
      | zero => exact absurd HA.out (by simp [spec_PutVar.l0])
      | succ k1 =>
        have H := HA.out
        clear HA
        simp only [spec_PutVar.l0] at H
        by_cases c10 : x1_1 > 127
        · rw [if_pos c10] at H
          have c10b0 : decide (127 < x1_1) = true := decide_eq_true c10
          clear c10
          replace H := ifN H
          obtain ⟨c11, H⟩ := H
          have LMc11 := aM c11
          clear c11
          obtain ⟨y704, hy704⟩ : ∃ y_ : List Int, y_ = (x5_1 ++ [(Go.bits .or .i64 (Go.bits .and .i64 x1_1 127) 128) % 256]) := ⟨_, rfl⟩
          rw [← hy704] at H
          have Ny704 := aM hy704
          clear hy704
          have H' := aM H
          clear H
          go_wp2_with (first | ((with_reducible refine gate_builtin (b := .append) (xs := #[.tmp 15, .tmp 20]) rfl ?_); at_builtin; refine Kd.R_append (Kd.int .u8) (w0 := w) w.heap.size rfl (.tmp 15) (.tmp 20) 22 5 (.int .u8 0) 1 rfl Tryz.underlying22 info5 rfl (by decide) (by omega) u5 x5_1 ((Go.bits .or .i64 (Go.bits .and .i64 x1_1 127) 128) % 256) [.int .u8 ((Go.bits .or .i64 (Go.bits .and .i64 x1_1 127) 128) % 256)] (fun _ => True) (fun _ => False) rfl rfl ?aP (fun _ hk => hk.elim) ?aF ?aO ?aB ?aS ?aL ?_; (case aP => exact rfl); (case aB => exact TB); (case aF => exact (fun _ _ => trivial)); (case aO => exact (TRf HO_5)); (case aS => exact (below_size TB)); (case aL => have := LMc11.out; omega); intro v705 w12 ho hb hg hat; rw [← Ny704.out] at ho; have HO706 := aM (ho); replace HB := aM (hb); clear HO_5; clear ho hb hg hat))
          go_roundg k1
          case measure => have := HK1.out; omega
          case rel => exact ⟨(x1_1 / 128), (y704), TF, H', ⟨by have := HK1.out; omega⟩, ⟨by have X_ := HO706.out; exact TR⟩, ⟨TB⟩⟩
        · rw [if_neg c10] at H
          have c10b0 : decide (127 < x1_1) = false := decide_eq_false c10
          clear c10
          replace H := ifN H
          obtain ⟨c13, H⟩ := H
          have LMc13 := aM c13
          clear c13
          obtain ⟨y707, hy707⟩ : ∃ y_ : List Int, y_ = (x5_1 ++ [(x1_1) % 256]) := ⟨_, rfl⟩
          rw [← hy707] at H
          have Ny707 := aM hy707
          clear hy707
          obtain rfl := oI H
          go_wp2_with (first | ((with_reducible refine gate_builtin (b := .append) (xs := #[.tmp 24, .tmp 27]) rfl ?_); at_builtin; refine Kd.R_append (Kd.int .u8) (w0 := w) w.heap.size rfl (.tmp 24) (.tmp 27) 22 5 (.int .u8 0) 1 rfl Tryz.underlying22 info5 rfl (by decide) (by omega) u5 x5_1 ((x1_1) % 256) [.int .u8 ((x1_1) % 256)] (fun _ => True) (fun _ => False) rfl rfl ?aP (fun _ hk => hk.elim) ?aF ?aO ?aB ?aS ?aL ?_; (case aP => exact rfl); (case aB => exact TB); (case aF => exact (fun _ _ => trivial)); (case aO => exact (TRf HO_5)); (case aS => exact (below_size TB)); (case aL => have := LMc13.out; omega); intro v708 w14 ho hb hg hat; rw [← Ny707.out] at ho; have HO709 := aM (ho); replace HB := aM (hb); clear HO_5; clear ho hb hg hat))
          go_ret
          exact ⟨_, TE, by have X_ := HO709.out; exact TR, TB⟩
  · replace c9 := bF c9
    subst c9
    replace H := ifF H
    obtain rfl := oI H
    go_wp2
    go_ret
    exact ⟨_, TE, by have X_ := HO702.out; exact TR, TB⟩
def spec_l6PutSum.l0 : Nat → List Int → Int → Option (List Int)
  | 0, _, _ => none
  | k + 1, x0, x1 => if x1 > 127 then (if x0.length < 140737488355328 then (spec_l6PutSum.l0 k (x0 ++ [(Go.bits .or .i64 (Go.bits .and .i64 x1 127) 128) % 256]) (x1 / 128)) else (none)) else (if x0.length < 140737488355328 then (some (x0 ++ [(x1) % 256])) else (none))
def spec_l6PutSum.f (k : Nat) (l0 : List Int) (a1 : Int) : Option (List Int) := spec_l6PutSum.l0 k l0 a1
theorem spec_l6PutSum.mono_l : ∀ k, (∀ y0 y1, LeO (spec_l6PutSum.l0 k y0 y1) (spec_l6PutSum.l0 (k + 1) y0 y1))
  | 0 => fun _ _ r h => by simp [spec_l6PutSum.l0] at h
  | k + 1 => by
    have ih0 := spec_l6PutSum.mono_l k
    · intro y0 y1
      unfold spec_l6PutSum.l0
      exact LM
theorem spec_l6PutSum.mono : ∀ a0 a1 k, LeO (spec_l6PutSum.f k a0 a1) (spec_l6PutSum.f (k + 1) a0 a1) := by
  intro a0 a1 k;have ih0 := spec_l6PutSum.mono_l k;unfold spec_l6PutSum.f;exact LM
theorem spec_l6PutSum.calls {k : Nat} (P0_ : Nat → Prop) (u9000_ : Value) (l0 : List Int) (a1 : Int) (r : List Int) (w0 w : World) (hB : Below w0.heap.size w0 w) (ho0 : Kd.R (Kd.int .u8) 5 w w0.heap.size P0_ u9000_ l0) (h : spec_l6PutSum.f k l0 a1 = some r) :
    Calls Tryz.prog 67 #[u9000_, .int .i64 a1] w fun e w' => ∃ v0_ : Value, e = .returned (v0_) ∧ Kd.R (Kd.int .u8) 5 w' w0.heap.size (fun k_ => (P0_ k_ ∨ w.heap.size ≤ k_)) v0_ r ∧ Below w0.heap.size w0 w' ∧ Kept w w' (fun k_ => P0_ k_) := by
  have HO0 := aM (show Kd.R (Kd.int .u8) 5 w w0.heap.size (fun k_ => (P0_ k_ ∨ w.heap.size ≤ k_)) u9000_ l0 from Kd.R_mono ho0 (fun k_ hk => (.inl hk)))
  have HK := aM (Kept.refl w (fun k_ => P0_ k_))
  have HW0 := aM hB.size
  have HB := aM hB
  clear hB
  have H := h
  clear h
  unfold spec_l6PutSum.f at H
  have H' := aM H
  clear H
  go_enter Tryz.func67, Tryz.ntmps67
  go_wp2
  go_loopg [0, 1] k (fun kq v0 v1 w' => ∃ (x0_1 : List Int) (x1_1 : Int), v1 = .int .i64 x1_1 ∧ Aside0 (spec_l6PutSum.l0 kq x0_1 x1_1 = some r) ∧ Aside0 (kq ≤ k) ∧ Aside0 (Kd.R (Kd.int .u8) 5 w' w0.heap.size (fun k_ => (P0_ k_ ∨ w.heap.size ≤ k_)) v0 x0_1) ∧ Aside0 (Kept w w' (fun k_ => P0_ k_)) ∧ Aside0 (Below w0.heap.size w0 w'))
  case atStart => exact ⟨(l0), (a1), TF, H', ⟨Nat.le_refl _⟩, ⟨by have X_ := HO0.out; exact TR⟩, ⟨by repeat (first | (with_reducible first | exact HK.out | apply Kept.alloc | apply Kept.drewN | apply Kept.drew) | exact HK.out)⟩, ⟨TB⟩⟩
  case round =>
    clear H'
    try clear p2
    obtain ⟨x0_1, x1_1, rfl, HA, HK1, HO_0, HK, HB⟩ := hrel
    cases gk with
    | zero => exact absurd HA.out (by simp [spec_l6PutSum.l0])
    | succ k1 =>
      have H := HA.out
      clear HA
      simp only [spec_l6PutSum.l0] at H
      by_cases c3 : x1_1 > 127
      · rw [if_pos c3] at H
        have c3b0 : decide (127 < x1_1) = true := decide_eq_true c3
        clear c3
        replace H := ifN H
        obtain ⟨c4, H⟩ := H
        have LMc4 := aM c4
        clear c4
        obtain ⟨y710, hy710⟩ : ∃ y_ : List Int, y_ = (x0_1 ++ [(Go.bits .or .i64 (Go.bits .and .i64 x1_1 127) 128) % 256]) := ⟨_, rfl⟩
        rw [← hy710] at H
        have Ny710 := aM hy710
        clear hy710
        have H' := aM H
        clear H
        go_wp2_with (first | ((with_reducible refine gate_builtin (b := .append) (xs := #[.tmp 7, .tmp 12]) rfl ?_); at_builtin; refine Kd.R_append (Kd.int .u8) (w0 := w0) w0.heap.size rfl (.tmp 7) (.tmp 12) 22 5 (.int .u8 0) 1 rfl Tryz.underlying22 info5 rfl (by decide) (by omega) u0 x0_1 ((Go.bits .or .i64 (Go.bits .and .i64 x1_1 127) 128) % 256) [.int .u8 ((Go.bits .or .i64 (Go.bits .and .i64 x1_1 127) 128) % 256)] (fun k_ => (P0_ k_ ∨ w.heap.size ≤ k_)) (fun _ => False) rfl rfl ?aP (fun _ hk => hk.elim) ?aF ?aO ?aB ?aS ?aL ?_; (case aP => exact rfl); (case aB => exact TB); (case aF => exact Zq22_2); (case aO => exact (TRf HO_0)); (case aS => exact (below_size TB)); (case aL => have := LMc4.out; omega); intro v711 w5 ho hb hg hat; rw [← Ny710.out] at ho; have HO712 := aM (ho); replace HB := aM (hb); replace HK := aM (Kept.of_grown (S := (fun k_ => P0_ k_)) hg (by exact Zq22_0) (fun k_ e_ => (HO_0.out.1 k_ e_))); clear HO_0; clear ho hb hg hat))
        go_roundg k1
        case measure => have := HK1.out; omega
        case rel => exact ⟨(y710), (x1_1 / 128), TF, H', ⟨by have := HK1.out; omega⟩, ⟨by have X_ := HO712.out; exact TR⟩, ⟨by repeat (first | (with_reducible first | exact HK.out | apply Kept.alloc | apply Kept.drewN | apply Kept.drew) | exact HK.out)⟩, ⟨TB⟩⟩
      · rw [if_neg c3] at H
        have c3b0 : decide (127 < x1_1) = false := decide_eq_false c3
        clear c3
        replace H := ifN H
        obtain ⟨c6, H⟩ := H
        have LMc6 := aM c6
        clear c6
        obtain ⟨y713, hy713⟩ : ∃ y_ : List Int, y_ = (x0_1 ++ [(x1_1) % 256]) := ⟨_, rfl⟩
        rw [← hy713] at H
        have Ny713 := aM hy713
        clear hy713
        obtain rfl := oI H
        go_wp2_with (first | ((with_reducible refine gate_builtin (b := .append) (xs := #[.tmp 16, .tmp 19]) rfl ?_); at_builtin; refine Kd.R_append (Kd.int .u8) (w0 := w0) w0.heap.size rfl (.tmp 16) (.tmp 19) 22 5 (.int .u8 0) 1 rfl Tryz.underlying22 info5 rfl (by decide) (by omega) u0 x0_1 ((x1_1) % 256) [.int .u8 ((x1_1) % 256)] (fun k_ => (P0_ k_ ∨ w.heap.size ≤ k_)) (fun _ => False) rfl rfl ?aP (fun _ hk => hk.elim) ?aF ?aO ?aB ?aS ?aL ?_; (case aP => exact rfl); (case aB => exact TB); (case aF => exact Zq22_2); (case aO => exact (TRf HO_0)); (case aS => exact (below_size TB)); (case aL => have := LMc6.out; omega); intro v714 w7 ho hb hg hat; rw [← Ny713.out] at ho; have HO715 := aM (ho); replace HB := aM (hb); replace HK := aM (Kept.of_grown (S := (fun k_ => P0_ k_)) hg (by exact Zq22_0) (fun k_ e_ => (HO_0.out.1 k_ e_))); clear HO_0; clear ho hb hg hat))
        go_ret
        exact ⟨_, TE, by have X_ := HO715.out; exact TR, TB, by repeat (first | (with_reducible first | exact HK.out | apply Kept.alloc | apply Kept.drewN | apply Kept.drew) | exact HK.out)⟩
def spec_PutMan.l0 : Nat → List Int → Int → Int → Int → Int → List (S75) → Option (List Int)
  | 0, _, _, _, _, _, _ => none
  | k + 1, x5, x6, x717000, x717001, x717002, x717003 => if x6 < (x717003.length : Int) then (if 0 ≤ x6 then ((spec_l6PutSum.f k x5 ((rd_T75 x717003 x6).f1)).bind fun t734 => (spec_PutMan.l0 k t734 (wrap64 (x6 + 1)) x717000 x717001 x717002 x717003)) else (none)) else (some x5)
def spec_PutMan.f (k : Nat) (l0 : List Int) (a1_0 : Int) (a1_1 : Int) (a1_2 : Int) (l1_3 : List (S75)) : Option (List Int) := (some (([] : List Int) : List Int)).bind fun y717 => (if y717.length + l0.length < 140737488355328 then ((some (y717 ++ l0 : List Int)).bind fun y720 => ((spec_ManOk.f k a1_0 a1_1 a1_2 l1_3).bind fun t723 => (if t723 = true then ((spec_PutVar.f k y720 a1_0).bind fun t724 => ((spec_PutVar.f k t724 a1_1).bind fun t727 => ((spec_PutVar.f k t727 a1_2).bind fun t730 => (spec_PutMan.l0 k t730 0 a1_0 a1_1 a1_2 l1_3)))) else (some y720)))) else (none))
theorem spec_PutMan.mono_l : ∀ k, (∀ y0 y1 y2 y3 y4 y5, LeO (spec_PutMan.l0 k y0 y1 y2 y3 y4 y5) (spec_PutMan.l0 (k + 1) y0 y1 y2 y3 y4 y5))
  | 0 => fun _ _ _ _ _ _ r h => by simp [spec_PutMan.l0] at h
  | k + 1 => by
    have m0_ := @spec_ManOk.mono
    have m1_ := @spec_PutVar.mono
    have m2_ := @spec_l6PutSum.mono
    have ih0 := spec_PutMan.mono_l k
    · intro y0 y1 y2 y3 y4 y5
      unfold spec_PutMan.l0
      exact LM
theorem spec_PutMan.mono : ∀ a0 a1 a2 a3 a4 k, LeO (spec_PutMan.f k a0 a1 a2 a3 a4) (spec_PutMan.f (k + 1) a0 a1 a2 a3 a4) := by
  intro a0 a1 a2 a3 a4 k;have m0_ := @spec_ManOk.mono;have m1_ := @spec_PutVar.mono;have m2_ := @spec_l6PutSum.mono;have ih0 := spec_PutMan.mono_l k;unfold spec_PutMan.f;exact LM
def spec_PutMan.T4 : Bool × List (List Nat × List Nat) := (true, [([], []), ([], []), ([1], [1]), ([0, 2], [0, 2]), ([], []), ([4], [4]), ([3, 5, 3], [3, 5]), ([], []), ([7], [7]), ([6, 8, 6], [6, 8]), ([9, 9, 0, 1, 2, 3, 4, 5, 6, 7, 8, 9], [0, 9])])
def spec_PutMan.B4 : List Nat := [0, 0, 2, 7, 0, 16, 63, 0, 128, 511, 1023]
theorem spec_PutMan.tab4 : rtab .any (opsOf Tryz.f36 4) = spec_PutMan.T4 := by kernel_rfl
theorem spec_PutMan.bits4 : waitsOk spec_PutMan.T4.2 spec_PutMan.B4 = true := by kernel_rfl
theorem spec_PutMan.calls {k : Nat} {A0 : Option Addr} {c0 : Nat} {l0 : List Int} {a1_0 : Int} {a1_1 : Int} {a1_2 : Int} {A1_3 : Option Addr} {c1_3 : Nat} {l1_3 : List (S75)} {r : List Int} {w : World} (hr0 : Kd.C (Kd.int .u8) w A0 l0.length l0) (hc0 : l0.length ≤ c0) (hr1_3 : Kd.C k75 w A1_3 l1_3.length l1_3) (hc1_3 : l1_3.length ≤ c1_3) (h : spec_PutMan.f k l0 a1_0 a1_1 a1_2 l1_3 = some r) :
    Calls Tryz.prog 36 #[.slice A0 l0.length c0, .agg #[.int .i64 a1_0, .int .i64 a1_1, .int .i64 a1_2, .slice A1_3 l1_3.length c1_3]] w fun e w' => ∃ v0_ : Value, e = .returned (v0_) ∧ Kd.R (Kd.int .u8) 5 w' w.heap.size (fun _ => True) v0_ r ∧ Below w.heap.size w w' := by
  have hu26 := Tryz.underlying26
  have HR0 := aM hr0
  have HC0 := aM hc0
  clear hr0 hc0
  have HR1_3 := aM hr1_3
  have HC1_3 := aM hc1_3
  clear hr1_3 hc1_3
  have HB := aM (Below.refl w.heap.size w)
  have H := h
  clear h
  unfold spec_PutMan.f at H
  obtain ⟨y717, hy717⟩ : ∃ y_ : List Int, y_ = (([] : List Int)) := ⟨_, rfl⟩
  replace H := someE H hy717
  have Ny717 := aM hy717
  clear hy717
  replace H := ifN H
  obtain ⟨c3, H⟩ := H
  have LMc3 := aM c3
  clear c3
  obtain ⟨y720, hy720⟩ : ∃ y_ : List Int, y_ = (y717 ++ l0) := ⟨_, rfl⟩
  replace H := someE H hy720
  have Ny720 := aM hy720
  clear hy720
  replace H := bE H
  obtain ⟨t723, A4, H⟩ := H
  go_enter Tryz.func36, Tryz.ntmps36
  go_wp2_with (first | ((with_reducible refine gate_dst (N := 3) rfl ?_); refine gBx 3 #[.int .i64 a1_0, .int .i64 a1_1, .int .i64 a1_2, .slice A1_3 l1_3.length c1_3] 26 ?_; intro gb716 hg w6 hbox hb; have BK716 := aM (hbox); have GW716 := gW HB hg; have GE716 := gW HB hg; replace HB := bS HB hb; clear hb hbox hg) | ((with_reducible refine gate_dst (N := 7) rfl ?_); refine Kd.R_lit (Kd.int .u8) _ 5 ?hg (N := 7) ?hd (xs := ([] : List Int)) (inner := []) (ok := fun _ => True) (okp := fun _ => True) ?hr ?hp (fun _ hk => hk) trivial (Below.refl _ _) (Nat.le_refl _) (by simp) ?_; (case hd => rfl); (case hg => rfl); (case hr => first | (go_simp; done) | (go_simp; rfl)); (case hp => exact (Reps.none _ _)); intro v718 w7 ho8 hb hg_ hnew_; clear hg_ hnew_; (first | rw [← Ny717.out] at ho8 | (simp only [Int.reduceToNat] at ho8; rw [← Ny717.out] at ho8)); have HO719 := aM (Kd.R_lower ho8 (below_size TB)); replace BK716 := mB BK716 hb; replace HB := bS HB hb; clear hb ho8) | ((with_reducible refine gate_builtin (b := .append) (xs := #[.tmp 7, .tmp 8]) rfl ?_); at_builtin; refine Kd.R_append_rows (Kd.int .u8) (w0 := w) w.heap.size rfl (.tmp 7) (.tmp 8) 22 5 (.int .u8 0) 1 rfl Tryz.underlying22 info5 rfl (by decide) (by omega) v718 y717 l0 _ _ _ (fun _ => True) (fun _ => False) rfl rfl ?aO ?aR (fun _ _ h => h) (fun _ h => h.elim) ?aF ?aB ?aS ?aL ?_; (case aR => exact Zq22_1); (case aB => exact TB); (case aF => exact (fun _ _ => trivial)); (case aO => exact (TRf HO719)); (case aS => exact (below_size TB)); (case aL => have := LMc3.out; omega); intro v721 w9 ho hb hg hat; rw [← Ny720.out] at ho; have HO722 := aM (ho); replace BK716 := aM (blk_grown (g := gb716) (o := .cells #[.int .i64 a1_0, .int .i64 a1_1, .int .i64 a1_2, .slice A1_3 l1_3.length c1_3] 26 (0, 0)) TK hg (Kd.R_ne HO719.out BK716.out (by decide))); replace HB := aM (hb); clear HO719; clear ho hb hg hat; obtain ⟨hcz10_0, hcz10_1, hcz10_2, hcz10_3⟩ := cz4 BK716.out; obtain ⟨hfz10_0, hfz10_1, hfz10_2, hfz10_3⟩ := fz4 BK716.out) | ((with_reducible refine gate_callee (f := 50) rfl ?_); refine gL (some 11) Tryz.func50 #[.agg #[.int .i64 a1_0, .int .i64 a1_1, .int .i64 a1_2, .slice A1_3 l1_3.length c1_3]] ?_; (with_reducible refine (spec_ManOk.calls ?side1 ?side2 A4.out).mono ?_); (case side1 => have X_ := (Kd.C_below HR1_3.out HB.out); exact TC); (case side2 => exact HC1_3.out); rintro e w11 ⟨rfl, hb⟩; refine ⟨_, rfl, ?_⟩; replace HO722 := mR HO722 hb; replace BK716 := mB BK716 hb; replace HB := bS HB hb; clear hb) | ((with_reducible refine gate_dst (N := 12) rfl ?_); generalize hG_ : wpList _ _ _ _ _ _ = G_))
  subst hG_
  by_cases c12 : t723 = true
  · subst c12
    replace H := ifT H
    replace H := bE H
    obtain ⟨t724, A13, H⟩ := H
    replace H := bE H
    obtain ⟨t727, A14, H⟩ := H
    replace H := bE H
    obtain ⟨t730, A15, H⟩ := H
    have H' := aM H
    clear H
    try go_wp2
    (try (rw [drewN_self w11]; generalize hq_ : World.drewN w11 _ = w11; have n0_ : Aside0 (Kd.R (Kd.int .u8) 5 w11 w.heap.size (fun _ => True) v721 y720) := ⟨by rw [← hq_]; exact (TRf HO722)⟩; have n1_ : Aside0 (w11.heap[gb716]? = some (.cells #[.int .i64 a1_0, .int .i64 a1_1, .int .i64 a1_2, .slice A1_3 l1_3.length c1_3] 26 (0, 0))) := ⟨by rw [← hq_]; exact TK⟩; have n2_ : Aside0 (Below w.heap.size w w11) := ⟨by rw [← hq_]; exact TB⟩; clear HO722 BK716 HB hq_; have HO722 := n0_; have BK716 := n1_; have HB := n2_; clear n0_ n1_ n2_))
    replace HO722 := rD HO722
    replace BK716 := bD BK716
    replace HB := aM (below_drew1 HB.out)
    obtain ⟨Ao17, co17, eo17⟩ := Kd.R_slice HO722.out
    (first | subst eo17 | (injection eo17 with f1_ f2_ f3_; have f4_ := f1_.symm; have f5_ := f3_.symm; clear f1_ f2_ f3_; subst f4_; subst f5_))
    refine st_ (n := 11) (ds := []) (Array.replicate 11 false) (hK4 BK716.out) (by kernel_rfl) rfl rfl (fun hHeld => ?_); refine with_tabW spec_PutMan.tab4 spec_PutMan.bits4 (fun HT_ HW_ => ?_)
    generalize w11.drew = w16 at HO722 BK716 HB hHeld ⊢
    refine ppq 0 14 ?_
    refine ppq 1 15 ?_
    refine ppq 4 18 ?_
    refine ppq 7 21 ?_
    refine ptq 2 16 ?_
    refine ptq 5 19 ?_
    refine ptq 8 22 ?_
    refine poq 3 17 (fun K hK => ?_)
    refine gG Tryz.func35 #[.slice Ao17 y720.length co17, .int .i64 a1_0] ?_
    with_reducible refine (spec_PutVar.calls ?side1 ?side2 A13.out).mono ?_
    (case side1 => have X_ := (Kd.R_reads' HO722.out).2.2; exact TC)
    (case side2 => exact (Kd.R_reads' HO722.out).2.1)
    rintro e w18 ⟨v725, rfl, ho0, hb⟩
    refine ⟨_, rfl, ?_⟩
    have n0_ := aM (Kd.R_elder' (TRf HO722) (Kd.R_base ho0) hb)
    have n1_ := aM (Kd.R_lower (Kd.R_new' ho0 (Kd.R_lt (TRf HO722))) (below_size TB))
    have n2_ := mB BK716 hb
    have n3_ := bS HB hb
    clear HO722
    clear BK716
    clear HB
    have HO722 := n0_
    have HO726 := n1_
    have BK716 := n2_
    have HB := n3_
    clear n0_ n1_ n2_ n3_
    (try clear hb)
    (try clear hb2)
    (try clear hk)
    (try clear hi)
    (try clear ho0)
    obtain ⟨Ao19, co19, eo19⟩ := Kd.R_slice HO726.out
    (first | subst eo19 | (injection eo19 with f1_ f2_ f3_; have f4_ := f1_.symm; have f5_ := f3_.symm; clear f1_ f2_ f3_; subst f4_; subst f5_))
    refine hK.out _ _ (cz4 BK716.out) (fun hHeld => ?_)
    clear hK K
    refine nR ?_
    refine poq 6 20 (fun K hK => ?_)
    refine gG Tryz.func35 #[.slice Ao19 t724.length co19, .int .i64 a1_1] ?_
    with_reducible refine (spec_PutVar.calls ?side1 ?side2 A14.out).mono ?_
    (case side1 => have X_ := (Kd.R_reads' HO726.out).2.2; exact TC)
    (case side2 => exact (Kd.R_reads' HO726.out).2.1)
    rintro e w20 ⟨v728, rfl, ho0, hb⟩
    refine ⟨_, rfl, ?_⟩
    have n0_ := aM (Kd.R_elder' (TRf HO722) (Kd.R_base ho0) hb)
    have n1_ := aM (Kd.R_elder' (TRf HO726) (Kd.R_base ho0) hb)
    have n2_ := aM (Kd.R_lower (Kd.R_new' (Kd.R_new' ho0 (Kd.R_lt (TRf HO722))) (Kd.R_lt (TRf HO726))) (below_size TB))
    have n3_ := mB BK716 hb
    have n4_ := bS HB hb
    clear HO722
    clear HO726
    clear BK716
    clear HB
    have HO722 := n0_
    have HO726 := n1_
    have HO729 := n2_
    have BK716 := n3_
    have HB := n4_
    clear n0_ n1_ n2_ n3_ n4_
    (try clear hb)
    (try clear hb2)
    (try clear hk)
    (try clear hi)
    (try clear ho0)
    obtain ⟨Ao21, co21, eo21⟩ := Kd.R_slice HO729.out
    (first | subst eo21 | (injection eo21 with f1_ f2_ f3_; have f4_ := f1_.symm; have f5_ := f3_.symm; clear f1_ f2_ f3_; subst f4_; subst f5_))
    refine hK.out _ _ (cz4 BK716.out) (fun hHeld => ?_)
    clear hK K
    refine nR ?_
    refine poq 9 23 (fun K hK => ?_)
    refine gG Tryz.func35 #[.slice Ao21 t727.length co21, .int .i64 a1_2] ?_
    with_reducible refine (spec_PutVar.calls ?side1 ?side2 A15.out).mono ?_
    (case side1 => have X_ := (Kd.R_reads' HO729.out).2.2; exact TC)
    (case side2 => exact (Kd.R_reads' HO729.out).2.1)
    rintro e w22 ⟨v731, rfl, ho0, hb⟩
    refine ⟨_, rfl, ?_⟩
    have n0_ := aM (Kd.R_elder' (TRf HO722) (Kd.R_base ho0) hb)
    have n1_ := aM (Kd.R_elder' (TRf HO726) (Kd.R_base ho0) hb)
    have n2_ := aM (Kd.R_elder' (TRf HO729) (Kd.R_base ho0) hb)
    have n3_ := aM (Kd.R_lower (Kd.R_new' (Kd.R_new' (Kd.R_new' ho0 (Kd.R_lt (TRf HO722))) (Kd.R_lt (TRf HO726))) (Kd.R_lt (TRf HO729))) (below_size TB))
    have n4_ := mB BK716 hb
    have n5_ := bS HB hb
    clear HO722
    clear HO726
    clear HO729
    clear BK716
    clear HB
    have HO722 := n0_
    have HO726 := n1_
    have HO729 := n2_
    have HO732 := n3_
    have BK716 := n4_
    have HB := n5_
    clear n0_ n1_ n2_ n3_ n4_ n5_
    (try clear hb)
    (try clear hb2)
    (try clear hk)
    (try clear hi)
    (try clear ho0)
    refine hK.out _ _ (cz4 BK716.out) (fun hHeld => ?_)
    clear hK K
    refine nR ?_
    refine ppq 10 5 ?_
    refine done_ (done_of HT_.out (by kernel_rfl)) ?_
    try go_wp2
    go_loopg [5, 6] k (fun kq v5 v6 w' => ∃ (x5_1 : List Int) (x6_1 : Int), v6 = .int .i64 x6_1 ∧ Aside0 (spec_PutMan.l0 kq x5_1 x6_1 a1_0 a1_1 a1_2 l1_3 = some r) ∧ Aside0 (kq ≤ k) ∧ Aside0 (Kd.R (Kd.int .u8) 5 w' w.heap.size (fun _ => True) v5 x5_1) ∧ Aside0 (w'.heap[gb716]? = some (.cells #[.int .i64 a1_0, .int .i64 a1_1, .int .i64 a1_2, (.slice A1_3 l1_3.length c1_3)] 26 (0, 0))) ∧ Aside0 (Below w.heap.size w w'))
    case atStart => exact ⟨(t730), (0), TF, H', ⟨Nat.le_refl _⟩, ⟨by (with_reducible repeat (first | apply Kd.R_alloc | apply Kd.R_drewN | apply Kd.R_drew)); exact Kd.R_mono HO732.out (fun _ hk => trivial)⟩, ⟨TK⟩, ⟨TB⟩⟩
    case round =>
      clear H'
      try clear c1
      try clear p2
      try clear c3
      try clear c5
      try clear c12
      try clear hcz10_0
      try clear hcz10_1
      try clear hcz10_2
      try clear hcz10_3
      try clear hfz10_0
      try clear hfz10_1
      try clear hfz10_2
      try clear hfz10_3
      obtain ⟨x5_1, x6_1, rfl, HA, HK1, HO_5, BK716, HB⟩ := hrel
      cases gk with
      | zero => exact absurd HA.out (by simp [spec_PutMan.l0])
      | succ k1 =>
        have H := HA.out
        clear HA
        simp only [spec_PutMan.l0] at H
        by_cases c23 : x6_1 < (l1_3.length : Int)
        · rw [if_pos c23] at H
          have c23b0 : decide (x6_1 < (l1_3.length : Int)) = true := decide_eq_true c23
          clear c23
          replace H := ifN H
          obtain ⟨c24, H⟩ := H
          have c24b0 : decide (0 ≤ x6_1) = true := decide_eq_true c24
          clear c24
          replace H := bE H
          obtain ⟨t734, A25, H⟩ := H
          have H' := aM H
          clear H
          obtain ⟨hcz26_0, hcz26_1, hcz26_2, hcz26_3⟩ := cz4 BK716.out
          obtain ⟨hfz26_0, hfz26_1, hfz26_2, hfz26_3⟩ := fz4 BK716.out
          have p733 : 0 ≤ (x6_1 : Int) := DT
          have q733 : x6_1 < (l1_3.length : Int) := DT
          obtain ⟨ad733, e733, hx733_0, hx733_1⟩ := at_T75 HR1_3.out x6_1 p733 q733
          cases e733
          replace hx733_0 := (HB.out.cell (World.block_lt_of_cell? w _ hx733_0)).trans hx733_0
          replace hx733_1 := (HB.out.cell (World.block_lt_of_cell? w _ hx733_1)).trans hx733_1
          replace p733 := eq_true p733
          replace q733 := eq_true q733
          obtain ⟨Ao27, co27, eo27⟩ := Kd.R_slice HO_5.out
          subst eo27
          go_wp2_with (first | ((with_reducible refine gate_callee (f := 67) rfl ?_); refine gL (some 38) Tryz.func67 #[.slice Ao27 x5_1.length co27, .int .i64 ((rd_T75 l1_3 x6_1).f1)] ?_; (with_reducible refine (spec_l6PutSum.calls (fun k_ => some k_ = (.slice Ao27 x5_1.length co27 : Value).ownBlock) (.slice Ao27 x5_1.length co27) x5_1 ((rd_T75 l1_3 x6_1).f1) t734 w _ ?side1 ?side2 A25.out).mono ?_); (case side1 => exact TB); (case side2 => exact Kd.R_tight rfl HO_5.out); rintro e w28 ⟨v735, rfl, ho0, hb, hkp⟩; refine ⟨_, rfl, ?_⟩; have HO736 := aM (Kd.R_mono (ok' := fun k_ => True) ho0 (fun k_ hk_ => trivial)); replace BK716 := aM (blk_kept TK hkp (fun hs_ => (fun e_ => (Kd.R_ne HO_5.out BK716.out (by decide)) e_) hs_)); replace HB := aM (hb); clear HO_5; clear hb; (try clear hkp); (try clear ho0)))
          go_roundg k1
          case measure => have := HK1.out; omega
          case rel => exact ⟨(t734), (wrap64 (x6_1 + 1)), TF, H', ⟨by have := HK1.out; omega⟩, ⟨by have X_ := HO736.out; exact TR⟩, ⟨TK⟩, ⟨TB⟩⟩
        · rw [if_neg c23] at H
          have c23b0 : decide (x6_1 < (l1_3.length : Int)) = false := decide_eq_false c23
          clear c23
          obtain rfl := oI H
          obtain ⟨hcz29_0, hcz29_1, hcz29_2, hcz29_3⟩ := cz4 BK716.out
          obtain ⟨hfz29_0, hfz29_1, hfz29_2, hfz29_3⟩ := fz4 BK716.out
          go_wp2
          go_ret
          exact ⟨_, TE, by have X_ := HO_5.out; exact TR, TB⟩
  · replace c12 := bF c12
    subst c12
    replace H := ifF H
    obtain rfl := oI H
    go_wp2
    go_ret
    exact ⟨_, TE, by have X_ := HO722.out; exact TR, TB⟩
def spec_l12Half.f (a0 : Int) : Option (Int × Int) := some (Go.bits .and .i64 a0 1048575, a0 / 1048576)
theorem spec_l12Half.calls {a0 : Int} {r1 : Int} {r2 : Int} {w : World} (h : spec_l12Half.f a0 = some (r1, r2)) :
    Calls Tryz.prog 37 #[.int .i64 a0] w fun e w' => e = .returned (.tuple #[.int .i64 r1, .int .i64 r2]) ∧ Drawn0 w w' := by
  have H := h
  clear h
  unfold spec_l12Half.f at H
  simp only [Option.some.injEq, Prod.mk.injEq] at H
  obtain ⟨rfl, rfl⟩ := H
  go_enter Tryz.func37, Tryz.ntmps37
  go_wp2
  go_ret2
  exact ⟨by first | rfl | (simp; done) | (simp [*]; done), TD⟩
def spec_PutPart.f (k : Nat) (l0 : List Int) (l1 : List Int) : Option (List Int) := (spec_PutVar.f k l0 (l1.length : Int)).bind fun t737 => (if t737.length + l1.length < 140737488355328 then (some (t737 ++ l1)) else (none))
theorem spec_PutPart.mono : ∀ a0 a1 k, LeO (spec_PutPart.f k a0 a1) (spec_PutPart.f (k + 1) a0 a1) := by
  intro a0 a1 k;have m0_ := @spec_PutVar.mono;unfold spec_PutPart.f;exact LM
theorem spec_PutPart.calls {k : Nat} {A0 : Option Addr} {c0 : Nat} {l0 : List Int} {A1 : Option Addr} {c1 : Nat} {l1 : List Int} {r : List Int} {w : World} (hr0 : Kd.C (Kd.int .u8) w A0 l0.length l0) (hc0 : l0.length ≤ c0) (hr1 : Kd.C (Kd.int .u8) w A1 l1.length l1) (hc1 : l1.length ≤ c1) (h : spec_PutPart.f k l0 l1 = some r) :
  Calls Tryz.prog 38 #[.slice A0 l0.length c0, .slice A1 l1.length c1] w fun e w' => ∃ v0_ : Value, e = .returned (v0_) ∧ Kd.R (Kd.int .u8) 5 w' w.heap.size (fun _ => True) v0_ r ∧ Below w.heap.size w w' := by
 have HR0 := aM hr0;have HC0 := aM hc0;clear hr0 hc0;have HRq1 := aM hr1;have HCq1 := aM hc1;clear hr1 hc1;have HB := aM (Below.refl w.heap.size w);have H := h;clear h;unfold spec_PutPart.f at H;replace H := bE H;obtain ⟨ab, Aq1, H⟩ := H;replace H := ifN H;obtain ⟨c4, H⟩ := H;have LMc4 := aM c4;clear c4;obtain ⟨yq1, aa⟩ : ∃ y_ : List Int, y_ = (ab ++ l1) := ⟨_, rfl⟩;rw [← aa] at H;have Nyq1 := aM aa;clear aa;obtain rfl := oI H;go_enter Tryz.func38, Tryz.ntmps38;go_wp2_with (first | ((with_reducible refine gate_callee (f := 35) rfl ?_); refine gL (some 8) Tryz.func35 #[.slice A0 l0.length c0, .int .i64 (l1.length : Int)] ?_; (with_reducible refine (spec_PutVar.calls ?side1 ?side2 Aq1.out).mono ?_); (case side1 => have X_ := HR0.out; exact TC); (case side2 => exact HC0.out); rintro e w5 ⟨vq1, rfl, ho0, hb⟩; refine ⟨_, rfl, ?_⟩; have HOq1 := aM (Kd.R_lower ho0 (below_size TB)); replace HB := bS HB hb; clear ho0 hb) | ((with_reducible refine gate_builtin (b := .append) (xs := #[.tmp 8, .tmp 9]) rfl ?_); at_builtin; refine Kd.R_append_rows (Kd.int .u8) (w0 := w) w.heap.size rfl (.tmp 8) (.tmp 9) 22 5 (.int .u8 0) 1 rfl Tryz.underlying22 info5 rfl (by decide) (by omega) vq1 ab l1 _ _ _ (fun _ => True) (fun _ => False) rfl rfl ?aO ?aR (fun _ _ h => h) (fun _ h => h.elim) ?aF ?aB ?aS ?aL ?_; (case aR => repeat (first | exact (Kd.C_below HRq1.out HB.out) | (with_reducible refine Kd.C_alloc ?_ _) | (with_reducible refine Kd.C_drewN ?_ _) | (with_reducible refine Kd.C_drew ?_))); (case aB => exact TB); (case aF => exact (fun _ _ => trivial)); (case aO => exact (TRf HOq1)); (case aS => exact (below_size TB)); (case aL => have := LMc4.out; omega); intro vq2 w6 ho hb hg hat; rw [← Nyq1.out] at ho; have HOq2 := aM (ho); replace HB := aM (hb); clear HOq1; clear ho hb hg hat))
 go_ret
 exact ⟨_, TE, by have X_ := HOq2.out; exact TR, TB⟩
end Go.Proofs.YtanpaipapcjpoaaGreatDoor.Q
