/- Functions of the program as plain Lean functions, and that a call of each comes to what its function tells. Written by a program of this seat. -/
import Derived.Test.YtfkndpjbkndhcaaQ0
import Derived.Test.YtfkndpjbkndhcaaQ24
namespace Go.Proofs.Ytfkndpjbkndhcaa.Q
open Go.RowKit Go.Proofs.YtfkndpjbkndhcaaW.PrintWords Go.Proofs.YtfkndpjbkndhcaaW.PrintLast Go.Proofs.YtfkndpjbkndhcaaW.PrintMore
attribute [local go_sem] max2_int min2_int max_two min_two max_three min_three max_four min_four   -- for this text's walks alone
set_option linter.unusedVariables false
set_option linter.unusedSimpArgs false

/-! ### spec_Windows: function 81 -/
mutual
def spec_Windows.j0 : Nat → List Int → Int → List Int → Bool → Option (List Int)
  | 0, _, _, _, _ => none
  | k + 1, x0, x1, x5, x16 => if x16 = true then (some x5) else (if 0 ≤ x1 then (if x1 ≤ (x0.length : Int) then ((spec_WeakOf.f k (x0.take (x1 : Int).toNat)).bind fun t775 => (if x5.length < 17592186044416 then (spec_Windows.l0 k x0 x1 (x5 ++ [t775]) t775 x1) else (none))) else (none)) else (none))
def spec_Windows.l0 : Nat → List Int → Int → List Int → Int → Int → Option (List Int)
  | 0, _, _, _, _, _ => none
  | k + 1, x0, x1, x5, x6, x7 => if x7 < (x0.length : Int) then (if 0 ≤ (wrap64 (x7 - x1)) then (if (wrap64 (x7 - x1)) < (x0.length : Int) then (if 0 ≤ x7 then ((spec_Roll.f k x6 x1 (wrap64 (rd x0 (wrap64 (x7 - x1)))) (wrap64 (rd x0 x7))).bind fun t781 => (if x5.length < 17592186044416 then (spec_Windows.l0 k x0 x1 (x5 ++ [t781]) t781 (wrap64 (x7 + 1))) else (none))) else (none)) else (none)) else (none)) else (some x5)
end
def spec_Windows.f (k : Nat) (l0 : List Int) (a1 : Int) : Option (List Int) := (some (([] : List Int) : List Int)).bind fun y771 => (if a1 < 1 then (spec_Windows.j0 k l0 a1 y771 true) else (spec_Windows.j0 k l0 a1 y771 (decide (a1 > (l0.length : Int)))))
theorem spec_Windows.mono_l : ∀ k, (∀ y0 y1 y2 y3, LeO (spec_Windows.j0 k y0 y1 y2 y3) (spec_Windows.j0 (k + 1) y0 y1 y2 y3)) ∧ (∀ y0 y1 y2 y3 y4, LeO (spec_Windows.l0 k y0 y1 y2 y3 y4) (spec_Windows.l0 (k + 1) y0 y1 y2 y3 y4))
  | 0 => ⟨fun _ _ _ _ r h => by simp [spec_Windows.j0] at h, fun _ _ _ _ _ r h => by simp [spec_Windows.l0] at h⟩
  | k + 1 => by
    have m0_ := @spec_Roll.mono
    have m1_ := @spec_WeakOf.mono
    obtain ⟨ih0, ih1⟩ := spec_Windows.mono_l k
    refine ⟨?_, ?_⟩
    · intro y0 y1 y2 y3
      unfold spec_Windows.j0
      exact LM
    · intro y0 y1 y2 y3 y4
      unfold spec_Windows.l0
      exact LM
theorem spec_Windows.mono : ∀ a0 a1 k, LeO (spec_Windows.f k a0 a1) (spec_Windows.f (k + 1) a0 a1) := by
  intro a0 a1 k
  have m0_ := @spec_Roll.mono
  have m1_ := @spec_WeakOf.mono
  obtain ⟨ih0, ih1⟩ := spec_Windows.mono_l k
  unfold spec_Windows.f
  exact LM
set_option maxHeartbeats 40000000 in
set_option maxRecDepth 100000 in
theorem spec_Windows.calls (k : Nat) (A0 : Option Addr) (c0 : Nat) (l0 : List Int) (a1 : Int) (r : List Int) (w : World) (hr0 : Kd.C (Kd.int .u8) w A0 l0.length l0) (hc0 : l0.length ≤ c0) (h : spec_Windows.f k l0 a1 = some r) :
  Calls Try.prog 81 #[.slice A0 l0.length c0, .int .i64 a1] w fun e w' => ∃ v0_ : Value, e = .returned (v0_) ∧ Kd.R (Kd.int .i64) 3 w' w.heap.size (fun _ => True) v0_ r ∧ Below w.heap.size w w' := by
 have HR0 := aM hr0
 have HC0 := aM hc0
 clear hr0 hc0
 have HB := aM (Below.refl w.heap.size w)
 have H := h
 clear h
 unfold spec_Windows.f at H
 obtain ⟨aj, aq⟩ : ∃ y_ : List Int, y_ = (([] : List Int)) := ⟨_, rfl⟩
 replace H := someE H aq
 have af := aM aq
 clear aq
 have HC3 := aM H
 clear H
 go_enter Try.func81, Try.ntmps81
 go_upto_region 2 with (first | ((with_reducible refine gate_dst (N := 8) rfl ?_); (try (refine gate_guard (by rfl) ?_; dsimp only)); refine Kd.R_lit (Kd.int .i64) _ 3 ?hg (N := 8) ?hd (xs := ([] : List Int)) (inner := []) (ok := fun _ => True) (okp := fun _ => True) ?hr ?hp (fun _ hk => hk) trivial (Below.refl _ _) (Nat.le_refl _) (by simp) ?_; (case hd => rfl); (case hg => rfl); (case hr => first | (go_simp; done) | (go_simp; rfl)); (case hp => exact (Reps.none _ _)); intro am w4 ho5 hb hg_ hnew_; clear hg_ hnew_; (first | rw [← af.out] at ho5 | (simp only [Int.reduceToNat] at ho5; rw [← af.out] at ho5)); have HO773 := aM (Kd.R_lower ho5 (below_size TB)); replace HB := aM (below_step TB hb); clear hb ho5))
 repeat (go_quiet (first | ((with_reducible refine gate_dst (N := 8) rfl ?_); (try (refine gate_guard (by rfl) ?_; dsimp only)); refine Kd.R_lit (Kd.int .i64) _ 3 ?hg (N := 8) ?hd (xs := ([] : List Int)) (inner := []) (ok := fun _ => True) (okp := fun _ => True) ?hr ?hp (fun _ hk => hk) trivial (Below.refl _ _) (Nat.le_refl _) (by simp) ?_; (case hd => rfl); (case hg => rfl); (case hr => first | (go_simp; done) | (go_simp; rfl)); (case hp => exact (Reps.none _ _)); intro am w4 ho5 hb hg_ hnew_; clear hg_ hnew_; (first | rw [← af.out] at ho5 | (simp only [Int.reduceToNat] at ho5; rw [← af.out] at ho5)); have HO773 := aM (Kd.R_lower ho5 (below_size TB)); replace HB := aM (below_step TB hb); clear hb ho5)); go_upto_region 2 with (first | ((with_reducible refine gate_dst (N := 8) rfl ?_); (try (refine gate_guard (by rfl) ?_; dsimp only)); refine Kd.R_lit (Kd.int .i64) _ 3 ?hg (N := 8) ?hd (xs := ([] : List Int)) (inner := []) (ok := fun _ => True) (okp := fun _ => True) ?hr ?hp (fun _ hk => hk) trivial (Below.refl _ _) (Nat.le_refl _) (by simp) ?_; (case hd => rfl); (case hg => rfl); (case hr => first | (go_simp; done) | (go_simp; rfl)); (case hp => exact (Reps.none _ _)); intro am w4 ho5 hb hg_ hnew_; clear hg_ hnew_; (first | rw [← af.out] at ho5 | (simp only [Int.reduceToNat] at ho5; rw [← af.out] at ho5)); have HO773 := aM (Kd.R_lower ho5 (below_size TB)); replace HB := aM (below_step TB hb); clear hb ho5)))
 (try simp only [Act.put, List.setIfInBounds_toArray, List.set_cons_zero, List.set_cons_succ])
 go_cut [16] (fun v16 wc => ∃ (kq : Nat) (an : Bool), v16 = .bool an ∧ Aside0 (spec_Windows.j0 kq l0 a1 aj an = some r) ∧ Aside0 (kq ≤ k) ∧ Aside0 (Kd.R (Kd.int .i64) 3 wc w.heap.size (fun _ => True) am aj) ∧ Aside0 (Below w.heap.size w wc))
 case first =>
  have H := HC3.out
  clear HC3
  by_cases c6 : a1 < 1
  ·rw [if_pos c6] at H
   have ah : decide (a1 < 1) = true := decide_eq_true c6
   clear c6
   (first | rw [ah] | (simp only [i64_w, i32_w]; rw [ah]) | skip)
   have H' := aM H
   clear H
   go_wp2
   repeat (go_quiet (fail); try go_wp2)
   go_meet
   case rel => exact ⟨_, (true), (by first | rfl | (simp; done) | (simp [*]; done)), H', ⟨by first | omega | exact Nat.le_refl _⟩, ⟨by have X_ := HO773.out; exact TR⟩, ⟨TB⟩⟩
  ·rw [if_neg c6] at H
   have ah : decide (a1 < 1) = false := decide_eq_false c6
   clear c6
   (first | rw [ah] | (simp only [i64_w, i32_w]; rw [ah]) | skip)
   have H' := aM H
   clear H
   go_wp2
   repeat (go_quiet (fail); try go_wp2)
   go_meet
   case rel => exact ⟨_, (decide (a1 > (l0.length : Int))), (by first | rfl | (simp; done) | (simp [*]; done)), H', ⟨by first | omega | exact Nat.le_refl _⟩, ⟨by have X_ := HO773.out; exact TR⟩, ⟨TB⟩⟩
 case rest =>
  clear HC3
  try clear p2
  try clear c6
  try clear ah
  obtain ⟨kq, an, rfl, HA, HJ2, ab, HB⟩ := hcut
  cases kq with
  | zero => exact absurd HA.out (by simp [spec_Windows.j0])
  | succ kj2 =>
   have H := HA.out
   clear HA
   simp only [spec_Windows.j0] at H
   by_cases c7 : an = true
   ·subst c7
    replace H := ifT H
    obtain rfl := Option.some.inj H
    go_wp2
    repeat (go_quiet (fail); try go_wp2)
    go_ret
    exact ⟨_, by first | rfl | (simp [errW_none, errW_some] <;> rfl) | (simp [*, errW_none, errW_some] <;> rfl), by have X_ := ab.out; exact TR, TB⟩
   ·replace c7 := Bool.eq_false_iff.mpr c7
    subst c7
    replace H := ifF H
    replace H := ifN H
    obtain ⟨c8, H⟩ := H
    have c8b0 := eq_true c8
    have c8b1 : decide (0 ≤ a1) = true := decide_eq_true c8
    clear c8
    replace H := ifN H
    obtain ⟨c9, H⟩ := H
    have c9b0 := eq_true c9
    have c9b1 : decide (a1 ≤ (l0.length : Int)) = true := decide_eq_true c9
    clear c9
    replace H := bE H
    obtain ⟨ac, A10, H⟩ := H
    replace H := ifN H
    obtain ⟨c11, H⟩ := H
    have ap := aM c11
    clear c11
    obtain ⟨y776, av⟩ : ∃ y_ : List Int, y_ = (aj ++ [ac]) := ⟨_, rfl⟩
    rw [← av] at H
    have az := aM av
    clear av
    have H' := aM H
    clear H
    obtain ⟨i012, aH, _, aG, _⟩ := info_parts info5
    obtain ⟨hcut12, hA12, hC12⟩ := print_take_of (P := Try.prog) (Value.int .u8) 0 22 5 .i64 Try.underlying22 aH aG A0 c0 l0 a1 DT DT HC0.out
    have ar := aM (Kd.C_of_reads (h1 := fun _ => rfl) (hA12 _ (Kd.reads_of_C HR0.out)))
    have aw := aM hC12
    clear hA12 hC12 aH aG
    go_wp2_with (first | (go_at_call 112; (try rw [show (a1 : Int).toNat = (l0.take (a1 : Int).toNat).length from by rw [List.length_take, Nat.min_eq_left]; have h_ : a1 ≤ (l0.length : Int) := of_decide_eq_true (by assumption); omega]); (with_reducible refine (spec_WeakOf.calls kj2 _ _ (l0.take (a1 : Int).toNat) ac _ ?side1 ?side2 A10.out).mono ?_); (case side1 => have X_ := (Kd.C_below ar.out HB.out); exact TC); (case side2 => exact aw.out); rintro e w' ⟨rfl, ⟨nd, rfl⟩⟩; (try first | exact ⟨rfl, _, World.drewN_drewN _ _ _⟩ | exact ⟨rfl, _, Eq.trans (World.drewN_drewN _ _ _) (congrArg (World.drewN _) (Nat.add_assoc _ _ _))⟩)) | ((with_reducible refine gate_builtin (b := .append) (xs := #[.tmp 22, .tmp 24]) rfl ?_); (try (refine gate_guard (by rfl) ?_; dsimp only)); at_builtin; refine Kd.R_append (Kd.int .i64) (w0 := w) w.heap.size rfl (.tmp 22) (.tmp 24) 45 3 (.int .i64 0) 8 rfl Try.underlying45 info3 rfl (by decide) (by omega) am aj ac [.int .i64 ac] (fun _ => True) (fun _ => False) rfl rfl ?aP (fun _ hk => hk.elim) ?aF ?aO ?aB ?aS ?aL ?_; (case aP => exact rfl); (case aB => exact TB); (case aF => exact (fun _ _ => trivial)); (case aO => exact (by have X_ := ab.out; exact TR)); (case aS => exact (below_size TB)); (case aL => have := ap.out; omega); intro v777 w13 ho hb hg hat; rw [← az.out] at ho; have HO778 := aM (ho); replace HB := aM (hb); clear ab; clear ho hb hg hat))
    repeat (go_quiet (first | (go_at_call 112; (try rw [show (a1 : Int).toNat = (l0.take (a1 : Int).toNat).length from by rw [List.length_take, Nat.min_eq_left]; have h_ : a1 ≤ (l0.length : Int) := of_decide_eq_true (by assumption); omega]); (with_reducible refine (spec_WeakOf.calls kj2 _ _ (l0.take (a1 : Int).toNat) ac _ ?side1 ?side2 A10.out).mono ?_); (case side1 => have X_ := (Kd.C_below ar.out HB.out); exact TC); (case side2 => exact aw.out); rintro e w' ⟨rfl, ⟨nd, rfl⟩⟩; (try first | exact ⟨rfl, _, World.drewN_drewN _ _ _⟩ | exact ⟨rfl, _, Eq.trans (World.drewN_drewN _ _ _) (congrArg (World.drewN _) (Nat.add_assoc _ _ _))⟩)) | ((with_reducible refine gate_builtin (b := .append) (xs := #[.tmp 22, .tmp 24]) rfl ?_); (try (refine gate_guard (by rfl) ?_; dsimp only)); at_builtin; refine Kd.R_append (Kd.int .i64) (w0 := w) w.heap.size rfl (.tmp 22) (.tmp 24) 45 3 (.int .i64 0) 8 rfl Try.underlying45 info3 rfl (by decide) (by omega) am aj ac [.int .i64 ac] (fun _ => True) (fun _ => False) rfl rfl ?aP (fun _ hk => hk.elim) ?aF ?aO ?aB ?aS ?aL ?_; (case aP => exact rfl); (case aB => exact TB); (case aF => exact (fun _ _ => trivial)); (case aO => exact (by have X_ := ab.out; exact TR)); (case aS => exact (below_size TB)); (case aL => have := ap.out; omega); intro v777 w13 ho hb hg hat; rw [← az.out] at ho; have HO778 := aM (ho); replace HB := aM (hb); clear ab; clear ho hb hg hat)); try go_wp2_with (first | (go_at_call 112; (try rw [show (a1 : Int).toNat = (l0.take (a1 : Int).toNat).length from by rw [List.length_take, Nat.min_eq_left]; have h_ : a1 ≤ (l0.length : Int) := of_decide_eq_true (by assumption); omega]); (with_reducible refine (spec_WeakOf.calls kj2 _ _ (l0.take (a1 : Int).toNat) ac _ ?side1 ?side2 A10.out).mono ?_); (case side1 => have X_ := (Kd.C_below ar.out HB.out); exact TC); (case side2 => exact aw.out); rintro e w' ⟨rfl, ⟨nd, rfl⟩⟩; (try first | exact ⟨rfl, _, World.drewN_drewN _ _ _⟩ | exact ⟨rfl, _, Eq.trans (World.drewN_drewN _ _ _) (congrArg (World.drewN _) (Nat.add_assoc _ _ _))⟩)) | ((with_reducible refine gate_builtin (b := .append) (xs := #[.tmp 22, .tmp 24]) rfl ?_); (try (refine gate_guard (by rfl) ?_; dsimp only)); at_builtin; refine Kd.R_append (Kd.int .i64) (w0 := w) w.heap.size rfl (.tmp 22) (.tmp 24) 45 3 (.int .i64 0) 8 rfl Try.underlying45 info3 rfl (by decide) (by omega) am aj ac [.int .i64 ac] (fun _ => True) (fun _ => False) rfl rfl ?aP (fun _ hk => hk.elim) ?aF ?aO ?aB ?aS ?aL ?_; (case aP => exact rfl); (case aB => exact TB); (case aF => exact (fun _ _ => trivial)); (case aO => exact (by have X_ := ab.out; exact TR)); (case aS => exact (below_size TB)); (case aL => have := ap.out; omega); intro v777 w13 ho hb hg hat; rw [← az.out] at ho; have HO778 := aM (ho); replace HB := aM (hb); clear ab; clear ho hb hg hat)))
    go_loopg [5, 6, 7] kj2 (fun kq v5 v6 v7 w' => ∃ (ag : List Int) (ak : Int) (aa : Int), v6 = .int .i64 ak ∧ v7 = .int .i64 aa ∧ Aside0 (spec_Windows.l0 kq l0 a1 ag ak aa = some r) ∧ Aside0 (kq ≤ kj2) ∧ Aside0 (Kd.R (Kd.int .i64) 3 w' w.heap.size (fun _ => True) v5 ag) ∧ Aside0 (Below w.heap.size w w'))
    case atStart => exact ⟨(y776), (ac), (a1), (by first | rfl | (simp; done) | (simp [*]; done)), (by first | rfl | (simp; done) | (simp [*]; done)), H', ⟨Nat.le_refl _⟩, ⟨by have X_ := HO778.out; exact TR⟩, ⟨TB⟩⟩
    case round =>
     clear H'
     try clear c1
     try clear p2
     try clear c6
     try clear ah
     try clear c7
     try clear c8
     try clear c8b0
     try clear c8b1
     try clear c9
     try clear c9b0
     try clear c9b1
     try clear c11
     try clear p2
     obtain ⟨ag, ak, aa, rfl, rfl, HA, HK2, ab, HB⟩ := hrel
     cases gk with
     | zero => exact absurd HA.out (by simp [spec_Windows.l0])
     | succ k2 =>
      have H := HA.out
      clear HA
      simp only [spec_Windows.l0] at H
      by_cases c14 : aa < (l0.length : Int)
      ·rw [if_pos c14] at H
       have c14b0 : decide (aa < (l0.length : Int)) = true := decide_eq_true c14
       clear c14
       obtain ⟨ae, ao⟩ : ∃ j_ : Int, (wrap64 (aa - a1)) = j_ := ⟨_, rfl⟩
       (first | rw [ao] at H | simp only [ao] at H | skip)
       have hji15w : (IntKind.i64.wrap (aa - a1)) = ae := (i64_w _).trans ao
       replace H := ifN H
       obtain ⟨c16, H⟩ := H
       have c16b0 : decide (0 ≤ (ae)) = true := decide_eq_true c16
       clear c16
       replace H := ifN H
       obtain ⟨c17, H⟩ := H
       have c17b0 : decide ((ae) < (l0.length : Int)) = true := decide_eq_true c17
       clear c17
       replace H := ifN H
       obtain ⟨c18, H⟩ := H
       have c18b0 : decide (0 ≤ aa) = true := decide_eq_true c18
       clear c18
       replace H := bE H
       obtain ⟨ad, A19, H⟩ := H
       replace H := ifN H
       obtain ⟨c20, H⟩ := H
       have au := aM c20
       clear c20
       obtain ⟨y782, ay⟩ : ∃ y_ : List Int, y_ = (ag ++ [ad]) := ⟨_, rfl⟩
       rw [← ay] at H
       have ax := aM ay
       clear ay
       have H' := aM H
       clear H
       have aA : 0 ≤ ((ae) : Int) := DT
       have aE : (ae) < (l0.length : Int) := DT
       obtain ⟨ad779, e779, al⟩ := Kd.at_int HR0.out (ae) aA aE
       cases e779
       replace al := (HB.out.cell (World.block_lt_of_cell? w _ al)).trans al
       replace aA := eq_true aA
       replace aE := eq_true aE
       have aD : 0 ≤ (aa : Int) := DT
       have aC : aa < (l0.length : Int) := DT
       obtain ⟨ad780, e780, ai⟩ := Kd.at_int HR0.out aa aD aC
       obtain rfl : ad779 = ad780 := (by injection e780)
       replace ai := (HB.out.cell (World.block_lt_of_cell? w _ ai)).trans ai
       replace aD := eq_true aD
       replace aC := eq_true aC
       go_wp2_with (first | (go_at_call 113; (with_reducible refine (spec_Roll.calls k2 ak a1 (wrap64 (rd l0 (ae))) (wrap64 (rd l0 aa)) ad _ A19.out).mono ?_); rintro e w' ⟨rfl, ⟨nd, rfl⟩⟩; (try first | exact ⟨rfl, _, World.drewN_drewN _ _ _⟩ | exact ⟨rfl, _, Eq.trans (World.drewN_drewN _ _ _) (congrArg (World.drewN _) (Nat.add_assoc _ _ _))⟩)) | ((with_reducible refine gate_builtin (b := .append) (xs := #[.tmp 48, .tmp 50]) rfl ?_); (try (refine gate_guard (by rfl) ?_; dsimp only)); at_builtin; refine Kd.R_append (Kd.int .i64) (w0 := w) w.heap.size rfl (.tmp 48) (.tmp 50) 45 3 (.int .i64 0) 8 rfl Try.underlying45 info3 rfl (by decide) (by omega) u5 ag ad [.int .i64 ad] (fun _ => True) (fun _ => False) rfl rfl ?aP (fun _ hk => hk.elim) ?aF ?aO ?aB ?aS ?aL ?_; (case aP => exact rfl); (case aB => exact TB); (case aF => exact (fun _ _ => trivial)); (case aO => exact (by have X_ := ab.out; exact TR)); (case aS => exact (below_size TB)); (case aL => have := au.out; omega); intro v783 w21 ho hb hg hat; rw [← ax.out] at ho; have HO784 := aM (ho); replace HB := aM (hb); clear ab; clear ho hb hg hat))
       repeat (go_quiet (first | (go_at_call 113; (with_reducible refine (spec_Roll.calls k2 ak a1 (wrap64 (rd l0 (ae))) (wrap64 (rd l0 aa)) ad _ A19.out).mono ?_); rintro e w' ⟨rfl, ⟨nd, rfl⟩⟩; (try first | exact ⟨rfl, _, World.drewN_drewN _ _ _⟩ | exact ⟨rfl, _, Eq.trans (World.drewN_drewN _ _ _) (congrArg (World.drewN _) (Nat.add_assoc _ _ _))⟩)) | ((with_reducible refine gate_builtin (b := .append) (xs := #[.tmp 48, .tmp 50]) rfl ?_); (try (refine gate_guard (by rfl) ?_; dsimp only)); at_builtin; refine Kd.R_append (Kd.int .i64) (w0 := w) w.heap.size rfl (.tmp 48) (.tmp 50) 45 3 (.int .i64 0) 8 rfl Try.underlying45 info3 rfl (by decide) (by omega) u5 ag ad [.int .i64 ad] (fun _ => True) (fun _ => False) rfl rfl ?aP (fun _ hk => hk.elim) ?aF ?aO ?aB ?aS ?aL ?_; (case aP => exact rfl); (case aB => exact TB); (case aF => exact (fun _ _ => trivial)); (case aO => exact (by have X_ := ab.out; exact TR)); (case aS => exact (below_size TB)); (case aL => have := au.out; omega); intro v783 w21 ho hb hg hat; rw [← ax.out] at ho; have HO784 := aM (ho); replace HB := aM (hb); clear ab; clear ho hb hg hat)); try go_wp2_with (first | (go_at_call 113; (with_reducible refine (spec_Roll.calls k2 ak a1 (wrap64 (rd l0 (ae))) (wrap64 (rd l0 aa)) ad _ A19.out).mono ?_); rintro e w' ⟨rfl, ⟨nd, rfl⟩⟩; (try first | exact ⟨rfl, _, World.drewN_drewN _ _ _⟩ | exact ⟨rfl, _, Eq.trans (World.drewN_drewN _ _ _) (congrArg (World.drewN _) (Nat.add_assoc _ _ _))⟩)) | ((with_reducible refine gate_builtin (b := .append) (xs := #[.tmp 48, .tmp 50]) rfl ?_); (try (refine gate_guard (by rfl) ?_; dsimp only)); at_builtin; refine Kd.R_append (Kd.int .i64) (w0 := w) w.heap.size rfl (.tmp 48) (.tmp 50) 45 3 (.int .i64 0) 8 rfl Try.underlying45 info3 rfl (by decide) (by omega) u5 ag ad [.int .i64 ad] (fun _ => True) (fun _ => False) rfl rfl ?aP (fun _ hk => hk.elim) ?aF ?aO ?aB ?aS ?aL ?_; (case aP => exact rfl); (case aB => exact TB); (case aF => exact (fun _ _ => trivial)); (case aO => exact (by have X_ := ab.out; exact TR)); (case aS => exact (below_size TB)); (case aL => have := au.out; omega); intro v783 w21 ho hb hg hat; rw [← ax.out] at ho; have HO784 := aM (ho); replace HB := aM (hb); clear ab; clear ho hb hg hat)))
       go_roundg k2
       case measure => have := HJ2.out; have := HK2.out; omega
       case rel => exact ⟨(y782), (ad), (wrap64 (aa + 1)), (by first | rfl | (simp; done) | (simp [*]; done)), (by first | rfl | (simp; done) | (simp [*]; done)), H', ⟨by have := HJ2.out; have := HK2.out; omega⟩, ⟨by have X_ := HO784.out; exact TR⟩, ⟨TB⟩⟩
      ·rw [if_neg c14] at H
       have c14b0 : decide (aa < (l0.length : Int)) = false := decide_eq_false c14
       clear c14
       obtain rfl := Option.some.inj H
       go_wp2
       repeat (go_quiet (fail); try go_wp2)
       go_ret
       exact ⟨_, by first | rfl | (simp [errW_none, errW_some] <;> rfl) | (simp [*, errW_none, errW_some] <;> rfl), by have X_ := ab.out; exact TR, TB⟩

end Go.Proofs.Ytfkndpjbkndhcaa.Q
