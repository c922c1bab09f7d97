/- Functions of the program as plain Lean functions, and that a call of each comes to what its function tells. Written by a program of this seat. -/
import Derived.Test.YtnoplippaiblcaaQ0
namespace Go.Proofs.Ytnoplippaiblcaa.Q
open Go.RowKit Go.Proofs.YtnoplippaiblcaaW.PrintWords Go.Proofs.YtnoplippaiblcaaW.PrintLast Go.Proofs.YtnoplippaiblcaaW.PrintMore
attribute [local go_sem] max2_int min2_int max_two min_two max_three min_three max_four min_four   -- for this text's walks alone
set_option linter.unusedVariables false
set_option linter.unusedSimpArgs false

/-! ### spec_l8Copy: function 68 -/
def spec_l8Copy.f (a0_0 : Int) (l0_1 : List Int) : Option (Int × List Int) := (some (([] : List Int) : List Int)).bind fun y730 => (if y730.length + l0_1.length < 140737488355328 then (some (a0_0, (y730 ++ l0_1))) else (none))
def spec_l8Copy.T1 : Bool × List (List Nat × List Nat) := (true, [([], []), ([0], [0]), ([], []), ([], []), ([3], [3]), ([2, 4], [2, 4]), ([1, 5], [1, 5]), ([6, 5, 0, 1, 2, 3, 4, 5, 6], [6])])
def spec_l8Copy.B1 : List Nat := [0, 1, 0, 0, 8, 28, 63, 127]
theorem spec_l8Copy.tab1 : rtab .any (opsOf Try.f68 1) = spec_l8Copy.T1 := by kernel_rfl
theorem spec_l8Copy.bits1 : waitsOk spec_l8Copy.T1.2 spec_l8Copy.B1 = true := by kernel_rfl
set_option maxHeartbeats 40000000 in
set_option maxRecDepth 100000 in
theorem spec_l8Copy.calls (a0_0 : Int) (A0_1 : Option Addr) (c0_1 : Nat) (l0_1 : List Int) (r1 : Int) (r2 : List Int) (w : World) (hr0_1 : Kd.C (Kd.int .u8) w A0_1 l0_1.length l0_1) (hc0_1 : l0_1.length ≤ c0_1) (h : spec_l8Copy.f a0_0 l0_1 = some (r1, r2)) :
    Calls Try.prog 68 #[.agg #[.int .i64 a0_0, .slice A0_1 l0_1.length c0_1]] w fun e w' => ∃ v1_ : Value, e = .returned (.agg #[.int .i64 r1, v1_]) ∧ Kd.R (Kd.int .u8) 5 w' w.heap.size (fun _ => True) v1_ r2 ∧ Below w.heap.size w w' := by
  have hu35 := Try.underlying35
  have HR0_1 := aM hr0_1
  have HC0_1 := aM hc0_1
  clear hr0_1 hc0_1
  have HB := aM (Below.refl w.heap.size w)
  have H := h
  clear h
  unfold spec_l8Copy.f at H
  obtain ⟨y730, hy730⟩ : ∃ y_ : List Int, y_ = (([] : List Int)) := ⟨_, rfl⟩
  replace H := someE H hy730
  have Ny730 := aM hy730
  clear hy730
  replace H := ifN H
  obtain ⟨c2, H⟩ := H
  have LMc2 := aM c2
  clear c2
  obtain ⟨y733, hy733⟩ : ∃ y_ : List Int, y_ = (y730 ++ l0_1) := ⟨_, rfl⟩
  rw [← hy733] at H
  have Ny733 := aM hy733
  clear hy733
  simp only [Option.some.injEq, Prod.mk.injEq] at H
  obtain ⟨rfl, rfl⟩ := H
  go_enter Try.func68, Try.ntmps68
  try go_wp2_with (first | ((with_reducible refine gate_dst (N := 1) rfl ?_); refine gBx 1 #[.int .i64 a0_0, .slice A0_1 l0_1.length c0_1] 35 ?_; intro gb728 hg w3 hbox hb; have BK728 := aM (hbox); have GW728 := aM ((by rw [hg]; exact (below_size TB) : w.heap.size ≤ gb728)); have GE728 := aM ((by rw [hg]; exact (below_size TB) : w.heap.size ≤ gb728)); replace HB := aM (below_step TB hb); clear hb hbox hg) | ((with_reducible refine gate_dst (N := 2) rfl ?_); refine gBx 2 #[.int .i64 0, .slice none 0 0] 35 ?_; intro gb729 hg w4 hbox hb; have BK729 := aM (hbox); have GW729 := aM ((by rw [hg]; exact (below_size TB) : w.heap.size ≤ gb729)); have GE729 := aM ((by rw [hg]; exact (below_size TB) : w.heap.size ≤ gb729)); have NB728_729 := aM ((by rw [hg]; exact Nat.ne_of_lt (blk_lt (by have X_ := BK728.out; exact TX)) : gb728 ≠ gb729)); have NB729_728 := aM ((by rw [hg]; exact Nat.ne_of_gt (blk_lt (by have X_ := BK728.out; exact TX)) : gb729 ≠ gb728)); replace BK728 := aM (blk_below (by have X_ := BK728.out; exact TX) hb); replace HB := aM (below_step TB hb); clear hb hbox hg))
  replace BK728 := aM (blk_drew BK728.out)
  replace BK729 := aM (blk_drew BK729.out)
  replace HB := aM (below_drew1 HB.out)
  refine start_ (n := 8) (S := fun w' => w'.cell? ⟨gb728, 0, none⟩ = some (.int .i64 a0_0) ∧ w'.cell? ⟨gb728, 1, none⟩ = some (.slice A0_1 l0_1.length c0_1)) (ds := []) (Array.replicate 8 false) (by kernel_rfl) rfl rfl (cz2 BK728.out) (fun hHeld => ?_); refine with_tabW spec_l8Copy.tab1 spec_l8Copy.bits1 (fun HT_ HW_ => ?_)
  generalize w4.drew = w5 at BK728 BK729 HB hHeld ⊢
  refine pP 0 (some 3) ?_
  refine pP 3 (some 6) ?_
  refine pT 1 (some 4) ?_
  refine pT 4 (some 7) ?_
  refine pO 2 (some 5) (fun K hK => ?_)
  refine Kd.R_lit_step (Kd.int .u8) _ 5 ?hg (N := 5) ?hd (xs := ([] : List Int)) (inner := []) (ok := fun _ => True) (okp := fun _ => True) ?hr ?hp (fun _ hk => hk) trivial (Below.refl _ _) (Nat.le_refl _) (by simp) ?_; (case hd => rfl); (case hg => rfl); (case hr => first | (go_simp; done) | (go_simp; rfl)); (case hp => exact (Reps.none _ _))
  intro v731 w6 ho7 hb hg_ hnew_
  clear hg_ hnew_
  (first | rw [← Ny730.out] at ho7 | (simp only [Int.reduceToNat] at ho7; rw [← Ny730.out] at ho7))
  have n0_ := aM (Kd.R_lower ho7 (below_size TB))
  have n1_ := aM (blk_below (by have X_ := BK728.out; exact TX) hb)
  have n2_ := aM (blk_below (by have X_ := BK729.out; exact TX) hb)
  have n3_ := aM (below_step TB hb)
  clear BK728
  clear BK729
  clear HB
  have HO732 := n0_
  have BK728 := n1_
  have BK729 := n2_
  have HB := n3_
  clear n0_ n1_ n2_ n3_
  clear hb ho7
  refine hK.out _ _ (cz2 BK728.out) (fun hHeld => ?_)
  clear hK K
  refine nR ?_
  refine pO 5 (some 8) (fun K hK => ?_)
  refine Kd.R_append_rows_step (Kd.int .u8) (w0 := w) w.heap.size (by rfl) (.tmp 5) (.tmp 7) 25 5 (.int .u8 0) 1 rfl Try.underlying25 info5 rfl (by decide) (by omega) v731 y730 l0_1 _ _ _ (fun _ => True) (fun _ => False) rfl rfl ?aO ?aR (fun _ _ h => h) (fun _ h => h.elim) ?aF ?aB ?aS ?aL ?_
  (case aR => repeat (first | exact (Kd.C_below HR0_1.out HB.out) | (with_reducible refine Kd.C_alloc ?_ _) | (with_reducible refine Kd.C_drewN ?_ _) | (with_reducible refine Kd.C_drew ?_)))
  (case aB => exact TB)
  (case aF => exact (fun _ _ => trivial))
  (case aO => exact (by have X_ := HO732.out; exact TR))
  (case aS => exact (below_size TB))
  (case aL => have := LMc2.out; omega)
  intro v734 w8 ho hb hg hat
  rw [← Ny733.out] at ho
  have n0_ := aM (blk_grown (g := gb728) (o := .cells #[.int .i64 a0_0, .slice A0_1 l0_1.length c0_1] 35 (0, 0)) TK hg (Kd.R_ne HO732.out BK728.out (by decide)))
  have n1_ := aM (blk_grown (g := gb729) (o := .cells #[.int .i64 0, .slice none 0 0] 35 (0, 0)) TK hg (Kd.R_ne HO732.out BK729.out (by decide)))
  have n2_ := aM (hb)
  have n3_ := aM (ho)
  clear BK728
  clear BK729
  clear HB
  clear HO732
  have BK728 := n0_
  have BK729 := n1_
  have HB := n2_
  have HO735 := n3_
  clear n0_ n1_ n2_ n3_
  clear ho hb hg hat
  obtain ⟨Ao9, co9, eo9⟩ := Kd.R_slice HO735.out
  (first | subst eo9 | (injection eo9 with f1_ f2_ f3_; have f4_ := f1_.symm; have f5_ := f3_.symm; clear f1_ f2_ f3_; subst f4_; subst f5_))
  refine hK.out _ _ (cz2 BK728.out) (fun hHeld => ?_)
  clear hK K
  refine nR ?_
  refine pP 6 (some 9) ?_
  refine pO 7 none (fun K hK => ?_)
  have hs10 : w8.cell? ⟨gb729, 0, none⟩ = some (.int .i64 0) := (blk_cell BK729.out 0).trans rfl
  have hfs10 := blk_frozen BK729.out 0
  have hns10_0 := NB728_729.out
  have hms10_0 := NB729_728.out
  have hs11 : w8.cell? ⟨gb729, 1, none⟩ = some (.slice none 0 0) := (blk_cell BK729.out 1).trans rfl
  have hfs11 := blk_frozen BK729.out 1
  have hns11_0 := NB728_729.out
  have hms11_0 := NB729_728.out
  refine skip_ (w1 := ?_) (by rfl) rfl ?_ ?_
  rotate_left
  · go_simp
    rfl
  refine hK.out _ _ ⟨((cell_far (p := ⟨gb729, _, none⟩) NB728_729.out _).trans (((cell_far (p := ⟨gb729, _, none⟩) NB728_729.out _).trans (hHeld.1)))), ((cell_far (p := ⟨gb729, _, none⟩) NB728_729.out _).trans (((cell_far (p := ⟨gb729, _, none⟩) NB728_729.out _).trans (hHeld.2))))⟩ (fun hHeld => ?_)
  clear hK K
  refine done_ (done_of HT_.out (by kernel_rfl)) ?_
  try go_wp2
  refine bodyPost_ret (results_cell_row rfl _ _ gb729 35 #[.int .i64 a0_0, .slice Ao9 y733.length co9] (0, 0) _ rfl (by (with_reducible repeat (first | refine blk_drewN ?_ _ | refine blk_drew ?_ | refine blk_alloc ?_ _)); refine blk_put (cs := #[.int .i64 a0_0, .slice none 0 0]) ?_ 1 _ rfl; (with_reducible repeat (first | refine blk_drewN ?_ _ | refine blk_drew ?_ | refine blk_alloc ?_ _)); refine blk_put (cs := #[.int .i64 0, .slice none 0 0]) ?_ 0 _ rfl; (with_reducible repeat (first | refine blk_drewN ?_ _ | refine blk_drew ?_ | refine blk_alloc ?_ _)); exact BK729.out) Try.underlying35 rfl (by kernel_rfl)) rfl ?_
  exact ⟨_, by first | rfl | (simp [errW_none, errW_some] <;> rfl) | (simp [*, errW_none, errW_some] <;> rfl), by (with_reducible repeat (first | apply Kd.R_alloc | apply Kd.R_drewN | apply Kd.R_drew)); exact Kd.R_mono (Kd.R_far (p := ⟨gb729, 1, none⟩) (Kd.R_far (p := ⟨gb729, 0, none⟩) (Kd.R_types HO735.out BK729.out (by decide)) (fun _ hk => hk.2) (.int .i64 a0_0)) (fun _ hk => hk.2) (.slice Ao9 y733.length co9)) (fun _ hk => trivial), TB⟩

end Go.Proofs.Ytnoplippaiblcaa.Q
