/- Functions of the program as plain Lean functions, and that a call of each comes to what its function tells. Written by a program of this seat. -/
import Derived.Test.YtdohjkbgbplgmaaQ0
import Derived.Test.YtdohjkbgbplgmaaQ6
import Derived.Test.YtdohjkbgbplgmaaQ10
namespace Go.Proofs.Ytdohjkbgbplgmaa.Q
open Go.RowKit Go.Proofs.YtdohjkbgbplgmaaW.PrintWords Go.Proofs.YtdohjkbgbplgmaaW.PrintLast Go.Proofs.YtdohjkbgbplgmaaW.PrintMore
attribute [local go_sem] max2_int min2_int max_two min_two max_three min_three max_four min_four   -- for this text's walks alone
set_option linter.unusedVariables false
set_option linter.unusedSimpArgs false

/-! ### impl_cloned: function 77 -/
def impl_cloned.f (l0 : List Int) : Option (List Int) := if l0.length ≤ 140737488355328 then (some l0) else (none)
set_option maxHeartbeats 8000000 in
set_option maxRecDepth 100000 in
theorem impl_cloned.calls (A0 : Option Addr) (c0 : Nat) (l0 : List Int) (r : List Int) (w : World) (hr0 : Kd.C (Kd.int .u8) w A0 l0.length l0) (hc0 : l0.length ≤ c0) (h : impl_cloned.f l0 = some r) :
    Calls Try.prog 77 #[.slice A0 l0.length c0] w fun e w' => ∃ v0_ : Value, e = .returned (v0_) ∧ Kd.R (Kd.int .u8) 5 w' w.heap.size (fun _ => True) v0_ r ∧ Below w.heap.size w w' := by
  have HR0 := Aside0.mk hr0
  clear hr0 hc0
  unfold impl_cloned.f at h
  by_cases hl : l0.length ≤ 140737488355328
  · rw [if_pos hl] at h
    obtain rfl := Option.some.inj h
    have HL := Aside0.mk hl
    clear h hl
    obtain ⟨i0, hi, hzz⟩ := Option.map_eq_some_iff.1 info5
    simp only [Prod.mk.injEq] at hzz
    have HZ := Aside0.mk hzz
    have HI := Aside0.mk hi
    clear hi hzz
    go_enter Try.func77, Try.ntmps77
    go_wp2_with (first | (at_make; refine wpList_make_own _ rfl _ _ 25 rfl w.heap.size 5 i0 (.int .u8 0) 1 Try.underlying25 HI.out HZ.out.1 HZ.out.2.1 _ _ _ l0.length rfl rfl rfl ?mb ?mm ?ms ?_; (case mb => rw [HZ.out.2.2]; have := HL.out; omega); (case mm => have := HL.out; simp only [maxLen]; omega); (case ms => exact Nat.le_refl _); intro w1 ho hg; have HO := Aside0.mk (show Kd.R (Kd.int .u8) 5 w1 w.heap.size (fun _ => True) (.slice (some ⟨w.heap.size, 0, none⟩) 0 l0.length) [] from ⟨fun _ _ => trivial, [], ho, Reps.none _ _⟩); have HB := Aside0.mk (show Below w.heap.size w w1 from pw_below_grown (Below.refl _ _) none (Nat.le_refl _) hg (by simp)); clear ho hg) | ((with_reducible refine gate_builtin (b := .append) (xs := #[.tmp 5, .tmp 6]) rfl ?_); at_builtin; refine Kd.R_append_rows (Kd.int .u8) (w0 := w) w.heap.size rfl (.tmp 5) (.tmp 6) 25 5 (.int .u8 0) 1 rfl Try.underlying25 info5 rfl (by decide) (by omega) (.slice (some ⟨w.heap.size, 0, none⟩) 0 l0.length) [] l0 A0 _ _ (fun _ => True) (fun _ => False) rfl rfl ?aO ?aR (fun _ _ h => h) (fun _ h => h.elim) ?aF ?aB ?aS ?aL ?_; (case aR => exact Kd.C_below HR0.out HB.out); (case aB => exact HB.out); (case aF => exact (fun _ _ => trivial)); (case aO => exact HO.out); (case aS => exact below_size HB.out); (case aL => have := HL.out; simp only [List.length_nil]; omega); intro v2 w2 ho2 hb2 hg2 hat2; have HO2 := Aside0.mk ho2; have HB2 := Aside0.mk hb2; clear HO HB ho2 hb2 hg2 hat2))
    go_ret
    exact ⟨_, rfl, by simpa using HO2.out, HB2.out⟩
  · rw [if_neg hl] at h
    cases h

/-! ### impl_appendVar: function 78 -/
def impl_appendVar.l0 : Nat → List Int → Int → Option (List Int)
  | 0, _, _ => none
  | k + 1, x0, x1 => if x1 ≥ 128 then (if x0.length < 140737488355328 then (impl_appendVar.l0 k (x0 ++ [Go.bits .or .u8 ((x1) % 256) 128]) (x1 / 128)) else (none)) else (if x0.length < 140737488355328 then (some (x0 ++ [(x1) % 256])) else (none))
def impl_appendVar.f (k : Nat) (l0 : List Int) (a1 : Int) : Option (List Int) := impl_appendVar.l0 k l0 a1
theorem impl_appendVar.mono_l : ∀ k, (∀ y0 y1, LeO (impl_appendVar.l0 k y0 y1) (impl_appendVar.l0 (k + 1) y0 y1))
  | 0 => fun _ _ r h => by simp [impl_appendVar.l0] at h
  | k + 1 => by
    have ih0 := impl_appendVar.mono_l k
    · intro y0 y1
      unfold impl_appendVar.l0
      exact LM
theorem impl_appendVar.mono : ∀ a0 a1 k, LeO (impl_appendVar.f k a0 a1) (impl_appendVar.f (k + 1) a0 a1) := by
  intro a0 a1 k
  have ih0 := impl_appendVar.mono_l k
  unfold impl_appendVar.f
  exact LM
set_option maxHeartbeats 40000000 in
set_option maxRecDepth 100000 in
theorem impl_appendVar.calls (k : Nat) (P0_ : Nat → Prop) (u9000_ : Value) (l0 : List Int) (a1 : Int) (r : List Int) (w0 w : World) (hB : Below w0.heap.size w0 w) (ho0 : Kd.R (Kd.int .u8) 5 w w0.heap.size P0_ u9000_ l0) (h : impl_appendVar.f k l0 a1 = some r) :
    Calls Try.prog 78 #[u9000_, .int .i64 a1] w fun e w' => ∃ v0_ : Value, e = .returned (v0_) ∧ Kd.R (Kd.int .u8) 5 w' w0.heap.size (fun k_ => (P0_ k_ ∨ w.heap.size ≤ k_)) v0_ r ∧ Below w0.heap.size w0 w' ∧ Kept w w' (fun k_ => P0_ k_) := by
  have HO0 := aM (show Kd.R (Kd.int .u8) 5 w w0.heap.size (fun k_ => (P0_ k_ ∨ w.heap.size ≤ k_)) u9000_ l0 from Kd.R_mono ho0 (fun k_ hk => (.inl hk)))
  have HK := aM (Kept.refl w (fun k_ => P0_ k_))
  have HW0 := aM hB.size
  have HB := aM hB
  clear hB
  have H := h
  clear h
  unfold impl_appendVar.f at H
  have H' := aM H
  clear H
  go_enter Try.func78, Try.ntmps78
  go_wp2
  go_loopg [0, 1] k (fun kq v0 v1 w' => ∃ (x0_1 : List Int) (x1_1 : Int), v1 = .int .i64 x1_1 ∧ Aside0 (impl_appendVar.l0 kq x0_1 x1_1 = some r) ∧ Aside0 (kq ≤ k) ∧ Aside0 (Kd.R (Kd.int .u8) 5 w' w0.heap.size (fun k_ => (P0_ k_ ∨ w.heap.size ≤ k_)) v0 x0_1) ∧ Aside0 (Kept w w' (fun k_ => P0_ k_)) ∧ Aside0 (Below w0.heap.size w0 w'))
  case atStart => exact ⟨(l0), (a1), (by first | rfl | (simp; done) | (simp [*]; done)), H', ⟨Nat.le_refl _⟩, ⟨by have X_ := HO0.out; exact TR⟩, ⟨by repeat (first | (with_reducible first | exact HK.out | apply Kept.alloc | apply Kept.drewN | apply Kept.drew) | exact HK.out)⟩, ⟨TB⟩⟩
  case round =>
    clear H'
    try clear p2
    obtain ⟨x0_1, x1_1, rfl, HA, HK1, HO_0, HK, HB⟩ := hrel
    cases gk with
    | zero => exact absurd HA.out (by simp [impl_appendVar.l0])
    | succ k1 =>
      have H := HA.out
      clear HA
      simp only [impl_appendVar.l0] at H
      by_cases c3 : x1_1 ≥ 128
      · rw [if_pos c3] at H
        have c3b0 : decide (128 ≤ x1_1) = true := decide_eq_true c3
        clear c3
        replace H := ifN H
        obtain ⟨c4, H⟩ := H
        have LMc4 := aM c4
        clear c4
        obtain ⟨y417, hy417⟩ : ∃ y_ : List Int, y_ = (x0_1 ++ [Go.bits .or .u8 ((x1_1) % 256) 128]) := ⟨_, rfl⟩
        rw [← hy417] at H
        have Ny417 := aM hy417
        clear hy417
        have H' := aM H
        clear H
        go_wp2_with (first | ((with_reducible refine gate_builtin (b := .append) (xs := #[.tmp 7, .tmp 11]) rfl ?_); at_builtin; refine Kd.R_append (Kd.int .u8) (w0 := w0) w0.heap.size rfl (.tmp 7) (.tmp 11) 25 5 (.int .u8 0) 1 rfl Try.underlying25 info5 rfl (by decide) (by omega) u0 x0_1 (Go.bits .or .u8 ((x1_1) % 256) 128) [.int .u8 (Go.bits .or .u8 ((x1_1) % 256) 128)] (fun k_ => (P0_ k_ ∨ w.heap.size ≤ k_)) (fun _ => False) rfl rfl ?aP (fun _ hk => hk.elim) ?aF ?aO ?aB ?aS ?aL ?_; (case aP => exact rfl); (case aB => exact TB); (case aF => exact (fun k_ hk => (.inr (Nat.le_trans (by first | exact HK.out.1 | exact (show Kept w _ (fun k_ => P0_ k_) from by repeat (first | (with_reducible first | exact HK.out | apply Kept.alloc | apply Kept.drewN | apply Kept.drew) | exact HK.out)).1) hk)))); (case aO => exact (by have X_ := HO_0.out; exact TR)); (case aS => exact (below_size TB)); (case aL => have := LMc4.out; omega); intro v418 w5 ho hb hg hat; rw [← Ny417.out] at ho; have HO419 := aM (ho); replace HB := aM (hb); replace HK := aM (Kept.of_grown (S := (fun k_ => P0_ k_)) hg (by repeat (first | (with_reducible first | exact HK.out | apply Kept.alloc | apply Kept.drewN | apply Kept.drew) | exact HK.out)) (fun k_ e_ => (HO_0.out.1 k_ e_))); clear HO_0; clear ho hb hg hat))
        go_roundg k1
        case measure => have := HK1.out; omega
        case rel => exact ⟨(y417), (x1_1 / 128), (by first | rfl | (simp; done) | (simp [*]; done)), H', ⟨by have := HK1.out; omega⟩, ⟨by have X_ := HO419.out; exact TR⟩, ⟨by repeat (first | (with_reducible first | exact HK.out | apply Kept.alloc | apply Kept.drewN | apply Kept.drew) | exact HK.out)⟩, ⟨TB⟩⟩
      · rw [if_neg c3] at H
        have c3b0 : decide (128 ≤ x1_1) = false := decide_eq_false c3
        clear c3
        replace H := ifN H
        obtain ⟨c6, H⟩ := H
        have LMc6 := aM c6
        clear c6
        obtain ⟨y420, hy420⟩ : ∃ y_ : List Int, y_ = (x0_1 ++ [(x1_1) % 256]) := ⟨_, rfl⟩
        rw [← hy420] at H
        have Ny420 := aM hy420
        clear hy420
        obtain rfl := Option.some.inj H
        go_wp2_with (first | ((with_reducible refine gate_builtin (b := .append) (xs := #[.tmp 15, .tmp 18]) rfl ?_); at_builtin; refine Kd.R_append (Kd.int .u8) (w0 := w0) w0.heap.size rfl (.tmp 15) (.tmp 18) 25 5 (.int .u8 0) 1 rfl Try.underlying25 info5 rfl (by decide) (by omega) u0 x0_1 ((x1_1) % 256) [.int .u8 ((x1_1) % 256)] (fun k_ => (P0_ k_ ∨ w.heap.size ≤ k_)) (fun _ => False) rfl rfl ?aP (fun _ hk => hk.elim) ?aF ?aO ?aB ?aS ?aL ?_; (case aP => exact rfl); (case aB => exact TB); (case aF => exact (fun k_ hk => (.inr (Nat.le_trans (by first | exact HK.out.1 | exact (show Kept w _ (fun k_ => P0_ k_) from by repeat (first | (with_reducible first | exact HK.out | apply Kept.alloc | apply Kept.drewN | apply Kept.drew) | exact HK.out)).1) hk)))); (case aO => exact (by have X_ := HO_0.out; exact TR)); (case aS => exact (below_size TB)); (case aL => have := LMc6.out; omega); intro v421 w7 ho hb hg hat; rw [← Ny420.out] at ho; have HO422 := aM (ho); replace HB := aM (hb); replace HK := aM (Kept.of_grown (S := (fun k_ => P0_ k_)) hg (by repeat (first | (with_reducible first | exact HK.out | apply Kept.alloc | apply Kept.drewN | apply Kept.drew) | exact HK.out)) (fun k_ e_ => (HO_0.out.1 k_ e_))); clear HO_0; clear ho hb hg hat))
        go_ret
        exact ⟨_, by first | rfl | (simp [errW_none, errW_some] <;> rfl) | (simp [*, errW_none, errW_some] <;> rfl), by have X_ := HO422.out; exact TR, TB, by repeat (first | (with_reducible first | exact HK.out | apply Kept.alloc | apply Kept.drewN | apply Kept.drew) | exact HK.out)⟩

/-! ### impl_PutVar: function 46 -/
def impl_PutVar.f (k : Nat) (l0 : List Int) (a1 : Int) : Option (List Int) := (impl_cloned.f l0).bind fun t423 => ((impl_within.f a1 0 1000000000000).bind fun t426 => (if t426 = true then ((impl_appendVar.f k t423 a1).bind fun t427 => (some t427)) else (some t423)))
theorem impl_PutVar.mono : ∀ a0 a1 k, LeO (impl_PutVar.f k a0 a1) (impl_PutVar.f (k + 1) a0 a1) := by
  intro a0 a1 k
  have m0_ := @impl_appendVar.mono
  unfold impl_PutVar.f
  exact LM
set_option maxHeartbeats 40000000 in
set_option maxRecDepth 100000 in
theorem impl_PutVar.calls (k : Nat) (A0 : Option Addr) (c0 : Nat) (l0 : List Int) (a1 : Int) (r : List Int) (w : World) (hr0 : Kd.C (Kd.int .u8) w A0 l0.length l0) (hc0 : l0.length ≤ c0) (h : impl_PutVar.f k l0 a1 = some r) :
    Calls Try.prog 46 #[.slice A0 l0.length c0, .int .i64 a1] w fun e w' => ∃ v0_ : Value, e = .returned (v0_) ∧ Kd.R (Kd.int .u8) 5 w' w.heap.size (fun _ => True) v0_ r ∧ Below w.heap.size w w' := by
  have HR0 := aM hr0
  have HC0 := aM hc0
  clear hr0 hc0
  have HB := aM (Below.refl w.heap.size w)
  have H := h
  clear h
  unfold impl_PutVar.f at H
  replace H := bE H
  obtain ⟨t423, A3, H⟩ := H
  replace H := bE H
  obtain ⟨t426, A4, H⟩ := H
  go_enter Try.func46, Try.ntmps46
  go_wp2_with (first | ((with_reducible refine gate_callee (f := 77) rfl ?_); refine gL (some 7) Try.func77 #[.slice A0 l0.length c0] ?_; (with_reducible refine (impl_cloned.calls _ _ l0 t423 _ ?side1 ?side2 A3.out).mono ?_); (case side1 => have X_ := HR0.out; exact TC); (case side2 => exact HC0.out); rintro e w6 ⟨v424, rfl, ho0, hb⟩; refine ⟨_, rfl, ?_⟩; have HO425 := aM (Kd.R_lower ho0 (below_size TB)); replace HB := aM (below_step TB hb); clear ho0 hb) | ((with_reducible refine gate_callee (f := 38) rfl ?_); (with_reducible refine gate_dst (N := 9) rfl ?_); generalize hG_ : wpList _ _ _ _ _ _ = G_))
  subst hG_
  by_cases c7 : t426 = true
  · subst c7
    replace H := ifT H
    replace H := bE H
    obtain ⟨t427, A8, H⟩ := H
    obtain rfl := Option.some.inj H
    go_wp2_with (first | ((with_reducible refine gate_callee (f := 38) rfl ?_); refine gL (some 9) Try.func38 #[.int .i64 a1, .int .i64 0, .int .i64 1000000000000] ?_; (with_reducible refine (impl_within.calls a1 0 1000000000000 true _ A4.out).mono ?_); rintro e w' ⟨rfl, ⟨nd, rfl⟩⟩; refine ⟨_, rfl, ?_⟩; obtain ⟨Ao9, co9, eo9⟩ := Kd.R_slice HO425.out; subst eo9) | ((with_reducible refine gate_callee (f := 78) rfl ?_); refine gL (some 14) Try.func78 #[.slice Ao9 t423.length co9, .int .i64 a1] ?_; (with_reducible refine (impl_appendVar.calls k (fun k_ => some k_ = (.slice Ao9 t423.length co9 : Value).ownBlock) (.slice Ao9 t423.length co9) t423 a1 t427 w _ ?side1 ?side2 A8.out).mono ?_); (case side1 => repeat (first | (with_reducible first | exact HB.out | apply below_alloc | apply pw_below_drewN | apply below_drew1) | exact HB.out)); (case side2 => exact Kd.R_tight rfl HO425.out); rintro e w10 ⟨v428, rfl, ho0, hb, hkp⟩; refine ⟨_, rfl, ?_⟩; have HO429 := aM (Kd.R_mono (ok' := fun k_ => True) ho0 (fun k_ hk_ => trivial)); replace HB := aM (hb); clear HO425; clear hb; (try clear hkp); (try clear ho0)))
    go_ret
    exact ⟨_, by first | rfl | (simp [errW_none, errW_some] <;> rfl) | (simp [*, errW_none, errW_some] <;> rfl), by have X_ := HO429.out; exact TR, TB⟩
  · replace c7 := Bool.eq_false_iff.mpr c7
    subst c7
    replace H := ifF H
    obtain rfl := Option.some.inj H
    go_wp2_with (first | ((with_reducible refine gate_callee (f := 38) rfl ?_); refine gL (some 9) Try.func38 #[.int .i64 a1, .int .i64 0, .int .i64 1000000000000] ?_; (with_reducible refine (impl_within.calls a1 0 1000000000000 false _ A4.out).mono ?_); rintro e w' ⟨rfl, ⟨nd, rfl⟩⟩; refine ⟨_, rfl, ?_⟩))
    go_ret
    exact ⟨_, by first | rfl | (simp [errW_none, errW_some] <;> rfl) | (simp [*, errW_none, errW_some] <;> rfl), by have X_ := HO425.out; exact TR, TB⟩

/-! ### impl_PutMan: function 47 -/
def impl_PutMan.l0 : Nat → List Int → List (S76) → Int → Int → Option (List Int)
  | 0, _, _, _, _ => none
  | k + 1, x5, x24, x25, x26 => if x26 < x25 then (if 0 ≤ x26 then (if x26 < (x24.length : Int) then ((impl_appendVar.f k x5 ((rd_T76 x24 x26).f1)).bind fun t446 => (impl_PutMan.l0 k t446 x24 x25 (wrap64 (x26 + 1)))) else (none)) else (none)) else (some x5)
def impl_PutMan.f (k : Nat) (l0 : List Int) (a1_0 : Int) (a1_1 : Int) (a1_2 : Int) (l1_3 : List (S76)) : Option (List Int) := (impl_ManOk.f k a1_0 a1_1 a1_2 l1_3).bind fun t431 => (if t431 = true then ((impl_PutVar.f k l0 a1_0).bind fun t435 => ((impl_PutVar.f k t435 a1_1).bind fun t438 => ((impl_PutVar.f k t438 a1_2).bind fun t441 => (impl_PutMan.l0 k t441 l1_3 (l1_3.length : Int) 0)))) else ((impl_cloned.f l0).bind fun t432 => (some t432)))
theorem impl_PutMan.mono_l : ∀ k, (∀ y0 y1 y2 y3, LeO (impl_PutMan.l0 k y0 y1 y2 y3) (impl_PutMan.l0 (k + 1) y0 y1 y2 y3))
  | 0 => fun _ _ _ _ r h => by simp [impl_PutMan.l0] at h
  | k + 1 => by
    have m0_ := @impl_ManOk.mono
    have m1_ := @impl_PutVar.mono
    have m2_ := @impl_appendVar.mono
    have ih0 := impl_PutMan.mono_l k
    · intro y0 y1 y2 y3
      unfold impl_PutMan.l0
      exact LM
theorem impl_PutMan.mono : ∀ a0 a1 a2 a3 a4 k, LeO (impl_PutMan.f k a0 a1 a2 a3 a4) (impl_PutMan.f (k + 1) a0 a1 a2 a3 a4) := by
  intro a0 a1 a2 a3 a4 k
  have m0_ := @impl_ManOk.mono
  have m1_ := @impl_PutVar.mono
  have m2_ := @impl_appendVar.mono
  have ih0 := impl_PutMan.mono_l k
  unfold impl_PutMan.f
  exact LM
def impl_PutMan.T3 : Bool × List (List Nat × List Nat) := (true, [([], []), ([], []), ([1], [1]), ([0, 2], [0, 2]), ([], []), ([4], [4]), ([3, 5, 3], [3, 5]), ([], []), ([7], [7]), ([6, 8, 6], [6, 8]), ([9, 9, 0, 1, 2, 3, 4, 5, 6, 7, 8, 9], [9])])
def impl_PutMan.B3 : List Nat := [0, 0, 2, 7, 0, 16, 63, 0, 128, 511, 1023]
theorem impl_PutMan.tab3 : rtab .any (opsOf Try.f47 3) = impl_PutMan.T3 := by kernel_rfl
theorem impl_PutMan.bits3 : waitsOk impl_PutMan.T3.2 impl_PutMan.B3 = true := by kernel_rfl
set_option maxHeartbeats 40000000 in
set_option maxRecDepth 100000 in
theorem impl_PutMan.calls (k : Nat) (A0 : Option Addr) (c0 : Nat) (l0 : List Int) (a1_0 : Int) (a1_1 : Int) (a1_2 : Int) (A1_3 : Option Addr) (c1_3 : Nat) (l1_3 : List (S76)) (r : List Int) (w : World) (hr0 : Kd.C (Kd.int .u8) w A0 l0.length l0) (hc0 : l0.length ≤ c0) (hr1_3 : Kd.C k76 w A1_3 l1_3.length l1_3) (hc1_3 : l1_3.length ≤ c1_3) (h : impl_PutMan.f k l0 a1_0 a1_1 a1_2 l1_3 = some r) :
    Calls Try.prog 47 #[.slice A0 l0.length c0, .agg #[.int .i64 a1_0, .int .i64 a1_1, .int .i64 a1_2, .slice A1_3 l1_3.length c1_3]] w fun e w' => ∃ v0_ : Value, e = .returned (v0_) ∧ Kd.R (Kd.int .u8) 5 w' w.heap.size (fun _ => True) v0_ r ∧ Below w.heap.size w w' := by
  have hu32 := Try.underlying32
  have hu76 := Try.underlying76
  have HR0 := aM hr0
  have HC0 := aM hc0
  clear hr0 hc0
  have HR1_3 := aM hr1_3
  have HC1_3 := aM hc1_3
  clear hr1_3 hc1_3
  have HB := aM (Below.refl w.heap.size w)
  have H := h
  clear h
  unfold impl_PutMan.f at H
  replace H := bE H
  obtain ⟨t431, A3, H⟩ := H
  go_enter Try.func47, Try.ntmps47
  go_wp2_with (first | ((with_reducible refine gate_dst (N := 3) rfl ?_); refine gBx 3 #[.int .i64 a1_0, .int .i64 a1_1, .int .i64 a1_2, .slice A1_3 l1_3.length c1_3] 32 ?_; intro gb430 hg w5 hbox hb; have BK430 := aM (hbox); have GW430 := aM ((by rw [hg]; exact (below_size TB) : w.heap.size ≤ gb430)); have GE430 := aM ((by rw [hg]; exact (below_size TB) : w.heap.size ≤ gb430)); replace HB := aM (below_step TB hb); clear hb hbox hg; obtain ⟨hcz6_0, hcz6_1, hcz6_2, hcz6_3⟩ := cz4 BK430.out; obtain ⟨hfz6_0, hfz6_1, hfz6_2, hfz6_3⟩ := fz4 BK430.out) | ((with_reducible refine gate_callee (f := 34) rfl ?_); (with_reducible refine gate_dst (N := 9) rfl ?_); generalize hG_ : wpList _ _ _ _ _ _ = G_))
  subst hG_
  by_cases c7 : t431 = true
  · subst c7
    replace H := ifT H
    replace H := bE H
    obtain ⟨t435, A8, H⟩ := H
    replace H := bE H
    obtain ⟨t438, A9, H⟩ := H
    replace H := bE H
    obtain ⟨t441, A10, H⟩ := H
    have H' := aM H
    clear H
    try go_wp2_with (first | ((with_reducible refine gate_callee (f := 34) rfl ?_); refine gL (some 9) Try.func34 #[.agg #[.int .i64 a1_0, .int .i64 a1_1, .int .i64 a1_2, .slice A1_3 l1_3.length c1_3]] ?_; (with_reducible refine (impl_ManOk.calls k a1_0 a1_1 a1_2 _ _ l1_3 true _ ?side1 ?side2 A3.out).mono ?_); (case side1 => repeat (first | exact (Kd.C_below HR1_3.out TB) | (with_reducible refine Kd.C_alloc ?_ _) | (with_reducible refine Kd.C_drewN ?_ _) | (with_reducible refine Kd.C_drew ?_))); (case side2 => exact HC1_3.out); rintro e w11 ⟨rfl, hb⟩; refine ⟨_, rfl, ?_⟩; replace BK430 := aM (blk_below (g := gb430) (o := .cells #[.int .i64 a1_0, .int .i64 a1_1, .int .i64 a1_2, .slice A1_3 l1_3.length c1_3] 32 (0, 0)) TK hb); replace HB := aM (below_step TB hb); clear hb))
    replace BK430 := aM (blk_drew BK430.out)
    replace HB := aM (below_drew1 HB.out)
    refine start_ (n := 11) (S := fun w' => w'.cell? ⟨gb430, 0, none⟩ = some (.int .i64 a1_0) ∧ w'.cell? ⟨gb430, 1, none⟩ = some (.int .i64 a1_1) ∧ w'.cell? ⟨gb430, 2, none⟩ = some (.int .i64 a1_2) ∧ w'.cell? ⟨gb430, 3, none⟩ = some (.slice A1_3 l1_3.length c1_3)) (ds := []) (Array.replicate 11 false) (by kernel_rfl) rfl rfl (cz4 BK430.out) (fun hHeld => ?_); refine with_tabW impl_PutMan.tab3 impl_PutMan.bits3 (fun HT_ HW_ => ?_)
    generalize w11.drew = w12 at BK430 HB hHeld ⊢
    refine pP 0 (some 13) ?_
    refine pP 1 (some 14) ?_
    refine pP 4 (some 17) ?_
    refine pP 7 (some 20) ?_
    refine pT 2 (some 15) ?_
    refine pT 5 (some 18) ?_
    refine pT 8 (some 21) ?_
    refine pO 3 (some 16) (fun K hK => ?_)
    refine gG Try.func46 #[.slice A0 l0.length c0, .int .i64 a1_0] ?_
    with_reducible refine (impl_PutVar.calls k _ _ l0 a1_0 t435 _ ?side1 ?side2 A8.out).mono ?_
    (case side1 => have X_ := (Kd.C_below HR0.out HB.out); exact TC)
    (case side2 => exact HC0.out)
    rintro e w13 ⟨v436, rfl, ho0, hb⟩
    refine ⟨_, rfl, ?_⟩
    have n0_ := aM (Kd.R_lower ho0 (below_size TB))
    have n1_ := aM (blk_below (g := gb430) (o := .cells #[.int .i64 a1_0, .int .i64 a1_1, .int .i64 a1_2, .slice A1_3 l1_3.length c1_3] 32 (0, 0)) TK hb)
    have n2_ := aM (below_step TB hb)
    clear BK430
    clear HB
    have HO437 := n0_
    have BK430 := n1_
    have HB := n2_
    clear n0_ n1_ n2_
    (try clear hb)
    (try clear hb2)
    (try clear hk)
    (try clear hi)
    (try clear ho0)
    obtain ⟨Ao14, co14, eo14⟩ := Kd.R_slice HO437.out
    (first | subst eo14 | (injection eo14 with f1_ f2_ f3_; have f4_ := f1_.symm; have f5_ := f3_.symm; clear f1_ f2_ f3_; subst f4_; subst f5_))
    refine hK.out _ _ (cz4 BK430.out) (fun hHeld => ?_)
    clear hK K
    refine nR ?_
    refine pO 6 (some 19) (fun K hK => ?_)
    refine gG Try.func46 #[.slice Ao14 t435.length co14, .int .i64 a1_1] ?_
    with_reducible refine (impl_PutVar.calls k _ _ t435 a1_1 t438 _ ?side1 ?side2 A9.out).mono ?_
    (case side1 => have X_ := (Kd.R_reads' HO437.out).2.2; exact TC)
    (case side2 => exact (Kd.R_reads' HO437.out).2.1)
    rintro e w15 ⟨v439, rfl, ho0, hb⟩
    refine ⟨_, rfl, ?_⟩
    have n0_ := aM (Kd.R_elder' (by have X_ := HO437.out; exact TR) (Kd.R_base ho0) hb)
    have n1_ := aM (Kd.R_lower (Kd.R_new' ho0 (Kd.R_lt (by have X_ := HO437.out; exact TR))) (below_size TB))
    have n2_ := aM (blk_below (g := gb430) (o := .cells #[.int .i64 a1_0, .int .i64 a1_1, .int .i64 a1_2, .slice A1_3 l1_3.length c1_3] 32 (0, 0)) TK hb)
    have n3_ := aM (below_step TB hb)
    clear HO437
    clear BK430
    clear HB
    have HO437 := n0_
    have HO440 := n1_
    have BK430 := n2_
    have HB := n3_
    clear n0_ n1_ n2_ n3_
    (try clear hb)
    (try clear hb2)
    (try clear hk)
    (try clear hi)
    (try clear ho0)
    obtain ⟨Ao16, co16, eo16⟩ := Kd.R_slice HO440.out
    (first | subst eo16 | (injection eo16 with f1_ f2_ f3_; have f4_ := f1_.symm; have f5_ := f3_.symm; clear f1_ f2_ f3_; subst f4_; subst f5_))
    refine hK.out _ _ (cz4 BK430.out) (fun hHeld => ?_)
    clear hK K
    refine nR ?_
    refine pO 9 (some 22) (fun K hK => ?_)
    refine gG Try.func46 #[.slice Ao16 t438.length co16, .int .i64 a1_2] ?_
    with_reducible refine (impl_PutVar.calls k _ _ t438 a1_2 t441 _ ?side1 ?side2 A10.out).mono ?_
    (case side1 => have X_ := (Kd.R_reads' HO440.out).2.2; exact TC)
    (case side2 => exact (Kd.R_reads' HO440.out).2.1)
    rintro e w17 ⟨v442, rfl, ho0, hb⟩
    refine ⟨_, rfl, ?_⟩
    have n0_ := aM (Kd.R_elder' (by have X_ := HO437.out; exact TR) (Kd.R_base ho0) hb)
    have n1_ := aM (Kd.R_elder' (by have X_ := HO440.out; exact TR) (Kd.R_base ho0) hb)
    have n2_ := aM (Kd.R_lower (Kd.R_new' (Kd.R_new' ho0 (Kd.R_lt (by have X_ := HO437.out; exact TR))) (Kd.R_lt (by have X_ := HO440.out; exact TR))) (below_size TB))
    have n3_ := aM (blk_below (g := gb430) (o := .cells #[.int .i64 a1_0, .int .i64 a1_1, .int .i64 a1_2, .slice A1_3 l1_3.length c1_3] 32 (0, 0)) TK hb)
    have n4_ := aM (below_step TB hb)
    clear HO437
    clear HO440
    clear BK430
    clear HB
    have HO437 := n0_
    have HO440 := n1_
    have HO443 := n2_
    have BK430 := n3_
    have HB := n4_
    clear n0_ n1_ n2_ n3_ n4_
    (try clear hb)
    (try clear hb2)
    (try clear hk)
    (try clear hi)
    (try clear ho0)
    refine hK.out _ _ (cz4 BK430.out) (fun hHeld => ?_)
    clear hK K
    refine nR ?_
    refine pP 10 (some 5) ?_
    refine done_ (done_of HT_.out (by kernel_rfl)) ?_
    obtain ⟨hcz18_0, hcz18_1, hcz18_2, hcz18_3⟩ := cz4 BK430.out
    obtain ⟨hfz18_0, hfz18_1, hfz18_2, hfz18_3⟩ := fz4 BK430.out
    try go_wp2
    go_loopg [5, 26] k (fun kq v5 v26 w' => ∃ (x5_1 : List Int) (x26_1 : Int), v26 = .int .i64 x26_1 ∧ Aside0 (impl_PutMan.l0 kq x5_1 l1_3 (l1_3.length : Int) x26_1 = some r) ∧ Aside0 (kq ≤ k) ∧ Aside0 (Kd.R (Kd.int .u8) 5 w' w.heap.size (fun _ => True) v5 x5_1) ∧ Aside0 (w'.heap[gb430]? = some (.cells #[.int .i64 a1_0, .int .i64 a1_1, .int .i64 a1_2, (.slice A1_3 l1_3.length c1_3)] 32 (0, 0))) ∧ Aside0 (Below w.heap.size w w'))
    case atStart => exact ⟨(t441), (0), (by first | rfl | (simp; done) | (simp [*]; done)), H', ⟨Nat.le_refl _⟩, ⟨by (with_reducible repeat (first | apply Kd.R_alloc | apply Kd.R_drewN | apply Kd.R_drew)); exact Kd.R_mono HO443.out (fun _ hk => trivial)⟩, ⟨TK⟩, ⟨TB⟩⟩
    case round =>
      clear H'
      try clear c1
      try clear p2
      try clear c3
      try clear c4
      try clear c7
      try clear hcz18_0
      try clear hcz18_1
      try clear hcz18_2
      try clear hcz18_3
      try clear hcz6_0
      try clear hcz6_1
      try clear hcz6_2
      try clear hcz6_3
      try clear hfz18_0
      try clear hfz18_1
      try clear hfz18_2
      try clear hfz18_3
      try clear hfz6_0
      try clear hfz6_1
      try clear hfz6_2
      try clear hfz6_3
      obtain ⟨x5_1, x26_1, rfl, HA, HK1, HO_5, BK430, HB⟩ := hrel
      cases gk with
      | zero => exact absurd HA.out (by simp [impl_PutMan.l0])
      | succ k1 =>
        have H := HA.out
        clear HA
        simp only [impl_PutMan.l0] at H
        by_cases c19 : x26_1 < (l1_3.length : Int)
        · rw [if_pos c19] at H
          have c19b0 : decide (x26_1 < (l1_3.length : Int)) = true := decide_eq_true c19
          clear c19
          replace H := ifN H
          obtain ⟨c20, H⟩ := H
          have c20b0 : decide (0 ≤ x26_1) = true := decide_eq_true c20
          clear c20
          replace H := ifN H
          obtain ⟨c21, H⟩ := H
          have c21b0 : decide (x26_1 < (l1_3.length : Int)) = true := decide_eq_true c21
          clear c21
          replace H := bE H
          obtain ⟨t446, A22, H⟩ := H
          have H' := aM H
          clear H
          have p444 : 0 ≤ (x26_1 : Int) := DT
          have q444 : x26_1 < (l1_3.length : Int) := DT
          obtain ⟨ad444, e444, hx444_0, hx444_1⟩ := at_T76 HR1_3.out x26_1 p444 q444
          cases e444
          replace hx444_0 := (HB.out.cell (World.block_lt_of_cell? w _ hx444_0)).trans hx444_0
          replace hx444_1 := (HB.out.cell (World.block_lt_of_cell? w _ hx444_1)).trans hx444_1
          replace p444 := eq_true p444
          replace q444 := eq_true q444
          go_wp2_with (first | ((with_reducible refine gate_dst (N := 7) rfl ?_); refine gBx 7 #[.int .i64 0, .int .i64 0] 76 ?_; intro gb445 hg w23 hbox hb; have BK445 := aM (hbox); have GW445 := aM ((by rw [hg]; exact (below_size TB) : w.heap.size ≤ gb445)); have GE445 := aM ((by rw [hg]; exact (below_size TB) : w.heap.size ≤ gb445)); have NB430_445 := aM ((by rw [hg]; exact Nat.ne_of_lt (blk_lt (g := gb430) (o := .cells #[.int .i64 a1_0, .int .i64 a1_1, .int .i64 a1_2, .slice (some ad444) l1_3.length c1_3] 32 (0, 0)) TK) : gb430 ≠ gb445)); have NB445_430 := aM ((by rw [hg]; exact Nat.ne_of_gt (blk_lt (g := gb430) (o := .cells #[.int .i64 a1_0, .int .i64 a1_1, .int .i64 a1_2, .slice (some ad444) l1_3.length c1_3] 32 (0, 0)) TK) : gb445 ≠ gb430)); replace HO_5 := aM (Kd.R_below (by have X_ := HO_5.out; exact TR) hb); replace BK430 := aM (blk_below (g := gb430) (o := .cells #[.int .i64 a1_0, .int .i64 a1_1, .int .i64 a1_2, .slice (some ad444) l1_3.length c1_3] 32 (0, 0)) TK hb); replace HB := aM (below_step TB hb); clear hb hbox hg; have hnb24 := NB445_430.out; have hnc24 := NB430_445.out; obtain ⟨hcz25_0, hcz25_1⟩ := cz2 BK445.out; obtain ⟨hfz25_0, hfz25_1⟩ := fz2 BK445.out) | ((with_reducible refine gate_store (t := 76) (p := 7) rfl ?_); refine store_event (t := 76) (p := 7) (v := ?vo_w26) (w1 := ((w23.setCell ⟨gb445, 0, none⟩ (.int .i64 ((rd_T76 l1_3 x26_1).f0))).setCell ⟨gb445, 1, none⟩ (.int .i64 ((rd_T76 l1_3 x26_1).f1)))) ?hg ?ho ?hn ?hr ?_; (case ho => rfl); (case hg => rfl); (case hn => rfl); (case hr => first | (go_simp; done) | (go_simp; rfl)); intro w26 hw; have n0_ : Aside0 (Kd.R (Kd.int .u8) 5 w26 w.heap.size (fun _ => True) u5 x5_1) := ⟨(by rw [hw]; exact (by (with_reducible repeat (first | apply Kd.R_alloc | apply Kd.R_drewN | apply Kd.R_drew)); exact Kd.R_mono (Kd.R_far (p := ⟨gb445, 1, none⟩) (Kd.R_far (p := ⟨gb445, 0, none⟩) (Kd.R_types HO_5.out BK445.out (by decide)) (fun _ hk => hk.2) (.int .i64 ((rd_T76 l1_3 x26_1).f0))) (fun _ hk => hk.2) (.int .i64 ((rd_T76 l1_3 x26_1).f1))) (fun _ hk => trivial)))⟩; have n1_ : Aside0 (w26.heap[gb430]? = some (.cells #[.int .i64 a1_0, .int .i64 a1_1, .int .i64 a1_2, .slice (some ad444) l1_3.length c1_3] 32 (0, 0))) := ⟨(by rw [hw]; exact (by (with_reducible repeat (first | refine blk_drewN ?_ _ | refine blk_drew ?_ | refine blk_alloc ?_ _)); refine blk_far ?_ NB430_445.out _; (with_reducible repeat (first | refine blk_drewN ?_ _ | refine blk_drew ?_ | refine blk_alloc ?_ _)); refine blk_far ?_ NB430_445.out _; (with_reducible repeat (first | refine blk_drewN ?_ _ | refine blk_drew ?_ | refine blk_alloc ?_ _)); exact BK430.out))⟩; have n2_ : Aside0 (w26.heap[gb445]? = some (.cells #[.int .i64 ((rd_T76 l1_3 x26_1).f0), .int .i64 ((rd_T76 l1_3 x26_1).f1)] 76 (0, 0))) := ⟨(by rw [hw]; exact (by (with_reducible repeat (first | refine blk_drewN ?_ _ | refine blk_drew ?_ | refine blk_alloc ?_ _)); refine blk_put (cs := #[.int .i64 ((rd_T76 l1_3 x26_1).f0), .int .i64 0]) ?_ 1 _ rfl; (with_reducible repeat (first | refine blk_drewN ?_ _ | refine blk_drew ?_ | refine blk_alloc ?_ _)); refine blk_put (cs := #[.int .i64 0, .int .i64 0]) ?_ 0 _ rfl; (with_reducible repeat (first | refine blk_drewN ?_ _ | refine blk_drew ?_ | refine blk_alloc ?_ _)); exact BK445.out))⟩; have n3_ : Aside0 (Below w.heap.size w w26) := ⟨(by rw [hw]; exact TB)⟩; clear hw; clear HO_5; clear BK430; clear BK445; clear HB; have HO_5 := n0_; have BK430 := n1_; have BK445 := n2_; have HB := n3_; clear n0_ n1_ n2_ n3_; obtain ⟨hcz27_0, hcz27_1⟩ := cz2 BK445.out; obtain ⟨hfz27_0, hfz27_1⟩ := fz2 BK445.out; obtain ⟨Ao28, co28, eo28⟩ := Kd.R_slice HO_5.out; subst eo28) | ((with_reducible refine gate_callee (f := 78) rfl ?_); refine gL (some 33) Try.func78 #[.slice Ao28 x5_1.length co28, .int .i64 ((rd_T76 l1_3 x26_1).f1)] ?_; (with_reducible refine (impl_appendVar.calls k1 (fun k_ => some k_ = (.slice Ao28 x5_1.length co28 : Value).ownBlock) (.slice Ao28 x5_1.length co28) x5_1 ((rd_T76 l1_3 x26_1).f1) t446 w _ ?side1 ?side2 A22.out).mono ?_); (case side1 => repeat (first | (with_reducible first | exact HB.out | apply below_alloc | apply pw_below_drewN | apply below_drew1 | refine below_set ?_ GE430.out | refine below_set ?_ GE445.out) | exact HB.out)); (case side2 => exact Kd.R_tight rfl HO_5.out); rintro e w29 ⟨v447, rfl, ho0, hb, hkp⟩; refine ⟨_, rfl, ?_⟩; have HO448 := aM (Kd.R_mono (ok' := fun k_ => True) ho0 (fun k_ hk_ => trivial)); replace BK430 := aM (blk_kept TK hkp (fun hs_ => (fun e_ => (Kd.R_ne HO_5.out BK430.out (by decide)) e_) hs_)); replace BK445 := aM (blk_kept TK hkp (fun hs_ => (fun e_ => (Kd.R_ne HO_5.out BK445.out (by decide)) e_) hs_)); replace HB := aM (hb); clear HO_5; clear hb; (try clear hkp); (try clear ho0)))
          go_roundg k1
          case measure => have := HK1.out; omega
          case rel => exact ⟨(t446), (wrap64 (x26_1 + 1)), (by first | rfl | (simp; done) | (simp [*]; done)), H', ⟨by have := HK1.out; omega⟩, ⟨by have X_ := HO448.out; exact TR⟩, ⟨TK⟩, ⟨TB⟩⟩
        · rw [if_neg c19] at H
          have c19b0 : decide (x26_1 < (l1_3.length : Int)) = false := decide_eq_false c19
          clear c19
          obtain rfl := Option.some.inj H
          go_wp2
          go_ret
          exact ⟨_, by first | rfl | (simp [errW_none, errW_some] <;> rfl) | (simp [*, errW_none, errW_some] <;> rfl), by have X_ := HO_5.out; exact TR, TB⟩
  · replace c7 := Bool.eq_false_iff.mpr c7
    subst c7
    replace H := ifF H
    replace H := bE H
    obtain ⟨t432, A30, H⟩ := H
    obtain rfl := Option.some.inj H
    go_wp2_with (first | ((with_reducible refine gate_callee (f := 34) rfl ?_); refine gL (some 9) Try.func34 #[.agg #[.int .i64 a1_0, .int .i64 a1_1, .int .i64 a1_2, .slice A1_3 l1_3.length c1_3]] ?_; (with_reducible refine (impl_ManOk.calls k a1_0 a1_1 a1_2 _ _ l1_3 false _ ?side1 ?side2 A3.out).mono ?_); (case side1 => repeat (first | exact (Kd.C_below HR1_3.out TB) | (with_reducible refine Kd.C_alloc ?_ _) | (with_reducible refine Kd.C_drewN ?_ _) | (with_reducible refine Kd.C_drew ?_))); (case side2 => exact HC1_3.out); rintro e w31 ⟨rfl, hb⟩; refine ⟨_, rfl, ?_⟩; replace BK430 := aM (blk_below (g := gb430) (o := .cells #[.int .i64 a1_0, .int .i64 a1_1, .int .i64 a1_2, .slice A1_3 l1_3.length c1_3] 32 (0, 0)) TK hb); replace HB := aM (below_step TB hb); clear hb) | ((with_reducible refine gate_callee (f := 77) rfl ?_); refine gL (some 12) Try.func77 #[.slice A0 l0.length c0] ?_; (with_reducible refine (impl_cloned.calls _ _ l0 t432 _ ?side1 ?side2 A30.out).mono ?_); (case side1 => have X_ := (Kd.C_below HR0.out HB.out); exact TC); (case side2 => exact HC0.out); rintro e w32 ⟨v433, rfl, ho0, hb⟩; refine ⟨_, rfl, ?_⟩; have HO434 := aM (Kd.R_lower ho0 (below_size TB)); replace BK430 := aM (blk_below (g := gb430) (o := .cells #[.int .i64 a1_0, .int .i64 a1_1, .int .i64 a1_2, .slice A1_3 l1_3.length c1_3] 32 (0, 0)) TK hb); replace HB := aM (below_step TB hb); clear ho0 hb))
    go_ret
    exact ⟨_, by first | rfl | (simp [errW_none, errW_some] <;> rfl) | (simp [*, errW_none, errW_some] <;> rfl), by have X_ := HO434.out; exact TR, TB⟩

/-! ### impl_putSet: function 48 -/
def impl_putSet.f (k : Nat) (l0 : List Int) (a1 : Int) : Option (List Int) := (impl_PutVar.f k l0 (Go.bits .and .i64 a1 1048575)).bind fun t449 => ((impl_PutVar.f k t449 (a1 / 1048576)).bind fun t452 => (some t452))
theorem impl_putSet.mono : ∀ a0 a1 k, LeO (impl_putSet.f k a0 a1) (impl_putSet.f (k + 1) a0 a1) := by
  intro a0 a1 k
  have m0_ := @impl_PutVar.mono
  unfold impl_putSet.f
  exact LM
set_option maxHeartbeats 40000000 in
set_option maxRecDepth 100000 in
theorem impl_putSet.calls (k : Nat) (A0 : Option Addr) (c0 : Nat) (l0 : List Int) (a1 : Int) (r : List Int) (w : World) (hr0 : Kd.C (Kd.int .u8) w A0 l0.length l0) (hc0 : l0.length ≤ c0) (h : impl_putSet.f k l0 a1 = some r) :
    Calls Try.prog 48 #[.slice A0 l0.length c0, .int .i64 a1] w fun e w' => ∃ v0_ : Value, e = .returned (v0_) ∧ Kd.R (Kd.int .u8) 5 w' w.heap.size (fun _ => True) v0_ r ∧ Below w.heap.size w w' := by
  have HR0 := aM hr0
  have HC0 := aM hc0
  clear hr0 hc0
  have HB := aM (Below.refl w.heap.size w)
  have H := h
  clear h
  unfold impl_putSet.f at H
  replace H := bE H
  obtain ⟨t449, A3, H⟩ := H
  replace H := bE H
  obtain ⟨t452, A4, H⟩ := H
  obtain rfl := Option.some.inj H
  go_enter Try.func48, Try.ntmps48
  go_wp2_with (first | ((with_reducible refine gate_callee (f := 46) rfl ?_); refine gL (some 8) Try.func46 #[.slice A0 l0.length c0, .int .i64 (Go.bits .and .i64 a1 1048575)] ?_; (with_reducible refine (impl_PutVar.calls k _ _ l0 (Go.bits .and .i64 a1 1048575) t449 _ ?side1 ?side2 A3.out).mono ?_); (case side1 => have X_ := HR0.out; exact TC); (case side2 => exact HC0.out); rintro e w5 ⟨v450, rfl, ho0, hb⟩; refine ⟨_, rfl, ?_⟩; have HO451 := aM (Kd.R_lower ho0 (below_size TB)); replace HB := aM (below_step TB hb); clear ho0 hb; obtain ⟨Ao6, co6, eo6⟩ := Kd.R_slice HO451.out; subst eo6) | ((with_reducible refine gate_callee (f := 46) rfl ?_); refine gL (some 11) Try.func46 #[.slice Ao6 t449.length co6, .int .i64 (a1 / 1048576)] ?_; (with_reducible refine (impl_PutVar.calls k _ _ t449 (a1 / 1048576) t452 _ ?side1 ?side2 A4.out).mono ?_); (case side1 => have X_ := (Kd.R_reads' HO451.out).2.2; exact TC); (case side2 => exact (Kd.R_reads' HO451.out).2.1); rintro e w7 ⟨v453, rfl, ho0, hb⟩; refine ⟨_, rfl, ?_⟩; have HO454 := aM (Kd.R_lower (Kd.R_new' ho0 (Kd.R_lt (by have X_ := HO451.out; exact TR))) (below_size TB)); replace HO451 := aM (Kd.R_elder' (by have X_ := HO451.out; exact TR) (Kd.R_base ho0) hb); replace HB := aM (below_step TB hb); clear ho0 hb))
  go_ret
  exact ⟨_, by first | rfl | (simp [errW_none, errW_some] <;> rfl) | (simp [*, errW_none, errW_some] <;> rfl), by (with_reducible repeat (first | apply Kd.R_alloc | apply Kd.R_drewN | apply Kd.R_drew)); exact Kd.R_mono HO454.out (fun _ hk => trivial), TB⟩

/-! ### impl_PutPart: function 49 -/
def impl_PutPart.f (k : Nat) (l0 : List Int) (l1 : List Int) : Option (List Int) := (impl_PutVar.f k l0 (l1.length : Int)).bind fun t455 => (if t455.length + l1.length < 140737488355328 then (some (t455 ++ l1)) else (none))
theorem impl_PutPart.mono : ∀ a0 a1 k, LeO (impl_PutPart.f k a0 a1) (impl_PutPart.f (k + 1) a0 a1) := by
  intro a0 a1 k
  have m0_ := @impl_PutVar.mono
  unfold impl_PutPart.f
  exact LM
set_option maxHeartbeats 40000000 in
set_option maxRecDepth 100000 in
theorem impl_PutPart.calls (k : Nat) (A0 : Option Addr) (c0 : Nat) (l0 : List Int) (A1 : Option Addr) (c1 : Nat) (l1 : List Int) (r : List Int) (w : World) (hr0 : Kd.C (Kd.int .u8) w A0 l0.length l0) (hc0 : l0.length ≤ c0) (hr1 : Kd.C (Kd.int .u8) w A1 l1.length l1) (hc1 : l1.length ≤ c1) (h : impl_PutPart.f k l0 l1 = some r) :
    Calls Try.prog 49 #[.slice A0 l0.length c0, .slice A1 l1.length c1] w fun e w' => ∃ v0_ : Value, e = .returned (v0_) ∧ Kd.R (Kd.int .u8) 5 w' w.heap.size (fun _ => True) v0_ r ∧ Below w.heap.size w w' := by
  have HR0 := aM hr0
  have HC0 := aM hc0
  clear hr0 hc0
  have HR1 := aM hr1
  have HC1 := aM hc1
  clear hr1 hc1
  have HB := aM (Below.refl w.heap.size w)
  have H := h
  clear h
  unfold impl_PutPart.f at H
  replace H := bE H
  obtain ⟨t455, A3, H⟩ := H
  replace H := ifN H
  obtain ⟨c4, H⟩ := H
  have LMc4 := aM c4
  clear c4
  obtain ⟨y458, hy458⟩ : ∃ y_ : List Int, y_ = (t455 ++ l1) := ⟨_, rfl⟩
  rw [← hy458] at H
  have Ny458 := aM hy458
  clear hy458
  obtain rfl := Option.some.inj H
  go_enter Try.func49, Try.ntmps49
  go_wp2_with (first | ((with_reducible refine gate_callee (f := 46) rfl ?_); refine gL (some 8) Try.func46 #[.slice A0 l0.length c0, .int .i64 (l1.length : Int)] ?_; (with_reducible refine (impl_PutVar.calls k _ _ l0 (l1.length : Int) t455 _ ?side1 ?side2 A3.out).mono ?_); (case side1 => have X_ := HR0.out; exact TC); (case side2 => exact HC0.out); rintro e w5 ⟨v456, rfl, ho0, hb⟩; refine ⟨_, rfl, ?_⟩; have HO457 := aM (Kd.R_lower ho0 (below_size TB)); replace HB := aM (below_step TB hb); clear ho0 hb) | ((with_reducible refine gate_builtin (b := .append) (xs := #[.tmp 8, .tmp 9]) rfl ?_); at_builtin; refine Kd.R_append_rows (Kd.int .u8) (w0 := w) w.heap.size rfl (.tmp 8) (.tmp 9) 25 5 (.int .u8 0) 1 rfl Try.underlying25 info5 rfl (by decide) (by omega) v456 t455 l1 _ _ _ (fun _ => True) (fun _ => False) rfl rfl ?aO ?aR (fun _ _ h => h) (fun _ h => h.elim) ?aF ?aB ?aS ?aL ?_; (case aR => repeat (first | exact (Kd.C_below HR1.out HB.out) | (with_reducible refine Kd.C_alloc ?_ _) | (with_reducible refine Kd.C_drewN ?_ _) | (with_reducible refine Kd.C_drew ?_))); (case aB => exact TB); (case aF => exact (fun _ _ => trivial)); (case aO => exact (by have X_ := HO457.out; exact TR)); (case aS => exact (below_size TB)); (case aL => have := LMc4.out; omega); intro v459 w6 ho hb hg hat; rw [← Ny458.out] at ho; have HO460 := aM (ho); replace HB := aM (hb); clear HO457; clear ho hb hg hat))
  go_ret
  exact ⟨_, by first | rfl | (simp [errW_none, errW_some] <;> rfl) | (simp [*, errW_none, errW_some] <;> rfl), by have X_ := HO460.out; exact TR, TB⟩

end Go.Proofs.Ytdohjkbgbplgmaa.Q
