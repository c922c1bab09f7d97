/- Functions of the program as plain Lean functions, and that a call of each comes to what its function tells. Written by a program of this seat. -/
import Derived.Test.YtfkndpjbkndhcaaQ0
import Derived.Test.YtfkndpjbkndhcaaQ9
import Derived.Test.YtfkndpjbkndhcaaQ24
import Derived.Test.YtfkndpjbkndhcaaQ29
import Derived.Test.YtfkndpjbkndhcaaQ35
import Derived.Test.YtfkndpjbkndhcaaQ36
import Derived.Test.YtfkndpjbkndhcaaQ37
namespace Go.Proofs.Ytfkndpjbkndhcaa.Q
open Go.RowKit Go.Proofs.YtfkndpjbkndhcaaW.PrintWords Go.Proofs.YtfkndpjbkndhcaaW.PrintLast Go.Proofs.YtfkndpjbkndhcaaW.PrintMore
attribute [local go_sem] max2_int min2_int max_two min_two max_three min_three max_four min_four   -- for this text's walks alone
set_option linter.unusedVariables false
set_option linter.unusedSimpArgs false

/-! ### spec_l8Copy: function 97 -/
def spec_l8Copy.f (a0_0 : Int) (l0_1 : List Int) : Option (Int × List Int) := (some (([] : List Int) : List Int)).bind fun y792 => (if y792.length + l0_1.length < 140737488355328 then (some (a0_0, (y792 ++ l0_1))) else (none))
def spec_l8Copy.T1 : Bool × List (List Nat × List Nat) := (true, [([], []), ([0], [0]), ([], []), ([], []), ([3], [3]), ([2, 4], [2, 4]), ([1, 5], [1, 5]), ([6, 5, 0, 1, 2, 3, 4, 5, 6], [6])])
def spec_l8Copy.B1 : List Nat := [0, 1, 0, 0, 8, 28, 63, 127]
theorem spec_l8Copy.tab1 : rtab .any (opsOf Try.f97 1) = spec_l8Copy.T1 := by kernel_rfl
theorem spec_l8Copy.bits1 : waitsOk spec_l8Copy.T1.2 spec_l8Copy.B1 = true := by kernel_rfl
set_option maxHeartbeats 40000000 in
set_option maxRecDepth 100000 in
theorem spec_l8Copy.calls (a0_0 : Int) (A0_1 : Option Addr) (c0_1 : Nat) (l0_1 : List Int) (r1 : Int) (r2 : List Int) (w : World) (hr0_1 : Kd.C (Kd.int .u8) w A0_1 l0_1.length l0_1) (hc0_1 : l0_1.length ≤ c0_1) (h : spec_l8Copy.f a0_0 l0_1 = some (r1, r2)) :
    Calls Try.prog 97 #[.agg #[.int .i64 a0_0, .slice A0_1 l0_1.length c0_1]] w fun e w' => ∃ v1_ : Value, e = .returned (.agg #[.int .i64 r1, v1_]) ∧ Kd.R (Kd.int .u8) 5 w' w.heap.size (fun _ => True) v1_ r2 ∧ Below w.heap.size w w' := by
  have hu31 := Try.underlying31
  have HR0_1 := aM hr0_1
  have HC0_1 := aM hc0_1
  clear hr0_1 hc0_1
  have HB := aM (Below.refl w.heap.size w)
  have H := h
  clear h
  unfold spec_l8Copy.f at H
  obtain ⟨y792, hy792⟩ : ∃ y_ : List Int, y_ = (([] : List Int)) := ⟨_, rfl⟩
  replace H := someE H hy792
  have Ny792 := aM hy792
  clear hy792
  replace H := ifN H
  obtain ⟨c2, H⟩ := H
  have LMc2 := aM c2
  clear c2
  obtain ⟨y795, hy795⟩ : ∃ y_ : List Int, y_ = (y792 ++ l0_1) := ⟨_, rfl⟩
  rw [← hy795] at H
  have Ny795 := aM hy795
  clear hy795
  simp only [Option.some.injEq, Prod.mk.injEq] at H
  obtain ⟨rfl, rfl⟩ := H
  go_enter Try.func97, Try.ntmps97
  try go_wp2_with (first | ((with_reducible refine gate_dst (N := 1) rfl ?_); refine gBx 1 #[.int .i64 a0_0, .slice A0_1 l0_1.length c0_1] 31 ?_; intro gb790 hg w3 hbox hb; have BK790 := aM (hbox); have GW790 := aM ((by rw [hg]; exact (below_size TB) : w.heap.size ≤ gb790)); have GE790 := aM ((by rw [hg]; exact (below_size TB) : w.heap.size ≤ gb790)); replace HB := aM (below_step TB hb); clear hb hbox hg) | ((with_reducible refine gate_dst (N := 2) rfl ?_); refine gBx 2 #[.int .i64 0, .slice none 0 0] 31 ?_; intro gb791 hg w4 hbox hb; have BK791 := aM (hbox); have GW791 := aM ((by rw [hg]; exact (below_size TB) : w.heap.size ≤ gb791)); have GE791 := aM ((by rw [hg]; exact (below_size TB) : w.heap.size ≤ gb791)); have NB790_791 := aM ((by rw [hg]; exact Nat.ne_of_lt (blk_lt (by have X_ := BK790.out; exact TX)) : gb790 ≠ gb791)); have NB791_790 := aM ((by rw [hg]; exact Nat.ne_of_gt (blk_lt (by have X_ := BK790.out; exact TX)) : gb791 ≠ gb790)); replace BK790 := aM (blk_below (by have X_ := BK790.out; exact TX) hb); replace HB := aM (below_step TB hb); clear hb hbox hg))
  replace BK790 := aM (blk_drew BK790.out)
  replace BK791 := aM (blk_drew BK791.out)
  replace HB := aM (below_drew1 HB.out)
  refine start_ (n := 8) (S := fun w' => w'.cell? ⟨gb790, 0, none⟩ = some (.int .i64 a0_0) ∧ w'.cell? ⟨gb790, 1, none⟩ = some (.slice A0_1 l0_1.length c0_1)) (ds := []) (Array.replicate 8 false) (by kernel_rfl) rfl rfl (cz2 BK790.out) (fun hHeld => ?_); refine with_tabW spec_l8Copy.tab1 spec_l8Copy.bits1 (fun HT_ HW_ => ?_)
  generalize w4.drew = w5 at BK790 BK791 HB hHeld ⊢
  refine pP 0 (some 3) ?_
  refine pP 3 (some 6) ?_
  refine pT 1 (some 4) ?_
  refine pT 4 (some 7) ?_
  refine pO 2 (some 5) (fun K hK => ?_)
  refine Kd.R_lit_step (Kd.int .u8) _ 5 ?hg (N := 5) ?hd (xs := ([] : List Int)) (inner := []) (ok := fun _ => True) (okp := fun _ => True) ?hr ?hp (fun _ hk => hk) trivial (Below.refl _ _) (Nat.le_refl _) (by simp) ?_; (case hd => rfl); (case hg => rfl); (case hr => first | (go_simp; done) | (go_simp; rfl)); (case hp => exact (Reps.none _ _))
  intro v793 w6 ho7 hb hg_ hnew_
  clear hg_ hnew_
  (first | rw [← Ny792.out] at ho7 | (simp only [Int.reduceToNat] at ho7; rw [← Ny792.out] at ho7))
  have n0_ := aM (Kd.R_lower ho7 (below_size TB))
  have n1_ := aM (blk_below (by have X_ := BK790.out; exact TX) hb)
  have n2_ := aM (blk_below (by have X_ := BK791.out; exact TX) hb)
  have n3_ := aM (below_step TB hb)
  clear BK790
  clear BK791
  clear HB
  have HO794 := n0_
  have BK790 := n1_
  have BK791 := n2_
  have HB := n3_
  clear n0_ n1_ n2_ n3_
  clear hb ho7
  refine hK.out _ _ (cz2 BK790.out) (fun hHeld => ?_)
  clear hK K
  refine nR ?_
  refine pO 5 (some 8) (fun K hK => ?_)
  refine Kd.R_append_rows_step (Kd.int .u8) (w0 := w) w.heap.size (by rfl) (.tmp 5) (.tmp 7) 22 5 (.int .u8 0) 1 rfl Try.underlying22 info5 rfl (by decide) (by omega) v793 y792 l0_1 _ _ _ (fun _ => True) (fun _ => False) rfl rfl ?aO ?aR (fun _ _ h => h) (fun _ h => h.elim) ?aF ?aB ?aS ?aL ?_
  (case aR => repeat (first | exact (Kd.C_below HR0_1.out HB.out) | (with_reducible refine Kd.C_alloc ?_ _) | (with_reducible refine Kd.C_drewN ?_ _) | (with_reducible refine Kd.C_drew ?_)))
  (case aB => exact TB)
  (case aF => exact (fun _ _ => trivial))
  (case aO => exact (by have X_ := HO794.out; exact TR))
  (case aS => exact (below_size TB))
  (case aL => have := LMc2.out; omega)
  intro v796 w8 ho hb hg hat
  rw [← Ny795.out] at ho
  have n0_ := aM (blk_grown (g := gb790) (o := .cells #[.int .i64 a0_0, .slice A0_1 l0_1.length c0_1] 31 (0, 0)) TK hg (Kd.R_ne HO794.out BK790.out (by decide)))
  have n1_ := aM (blk_grown (g := gb791) (o := .cells #[.int .i64 0, .slice none 0 0] 31 (0, 0)) TK hg (Kd.R_ne HO794.out BK791.out (by decide)))
  have n2_ := aM (hb)
  have n3_ := aM (ho)
  clear BK790
  clear BK791
  clear HB
  clear HO794
  have BK790 := n0_
  have BK791 := n1_
  have HB := n2_
  have HO797 := n3_
  clear n0_ n1_ n2_ n3_
  clear ho hb hg hat
  obtain ⟨Ao9, co9, eo9⟩ := Kd.R_slice HO797.out
  (first | subst eo9 | (injection eo9 with f1_ f2_ f3_; have f4_ := f1_.symm; have f5_ := f3_.symm; clear f1_ f2_ f3_; subst f4_; subst f5_))
  refine hK.out _ _ (cz2 BK790.out) (fun hHeld => ?_)
  clear hK K
  refine nR ?_
  refine pP 6 (some 9) ?_
  refine pO 7 none (fun K hK => ?_)
  have hs10 : w8.cell? ⟨gb791, 0, none⟩ = some (.int .i64 0) := (blk_cell BK791.out 0).trans rfl
  have hfs10 := blk_frozen BK791.out 0
  have hns10_0 := NB790_791.out
  have hms10_0 := NB791_790.out
  have hs11 : w8.cell? ⟨gb791, 1, none⟩ = some (.slice none 0 0) := (blk_cell BK791.out 1).trans rfl
  have hfs11 := blk_frozen BK791.out 1
  have hns11_0 := NB790_791.out
  have hms11_0 := NB791_790.out
  refine skip_ (w1 := ?_) (by rfl) rfl ?_ ?_
  rotate_left
  · go_simp
    rfl
  refine hK.out _ _ ⟨((cell_far (p := ⟨gb791, _, none⟩) NB790_791.out _).trans (((cell_far (p := ⟨gb791, _, none⟩) NB790_791.out _).trans (hHeld.1)))), ((cell_far (p := ⟨gb791, _, none⟩) NB790_791.out _).trans (((cell_far (p := ⟨gb791, _, none⟩) NB790_791.out _).trans (hHeld.2))))⟩ (fun hHeld => ?_)
  clear hK K
  refine done_ (done_of HT_.out (by kernel_rfl)) ?_
  try go_wp2
  refine bodyPost_ret (results_cell_row rfl _ _ gb791 31 #[.int .i64 a0_0, .slice Ao9 y795.length co9] (0, 0) _ rfl (by (with_reducible repeat (first | refine blk_drewN ?_ _ | refine blk_drew ?_ | refine blk_alloc ?_ _)); refine blk_put (cs := #[.int .i64 a0_0, .slice none 0 0]) ?_ 1 _ rfl; (with_reducible repeat (first | refine blk_drewN ?_ _ | refine blk_drew ?_ | refine blk_alloc ?_ _)); refine blk_put (cs := #[.int .i64 0, .slice none 0 0]) ?_ 0 _ rfl; (with_reducible repeat (first | refine blk_drewN ?_ _ | refine blk_drew ?_ | refine blk_alloc ?_ _)); exact BK791.out) Try.underlying31 rfl (by kernel_rfl)) rfl ?_
  exact ⟨_, by first | rfl | (simp [errW_none, errW_some] <;> rfl) | (simp [*, errW_none, errW_some] <;> rfl), by (with_reducible repeat (first | apply Kd.R_alloc | apply Kd.R_drewN | apply Kd.R_drew)); exact Kd.R_mono (Kd.R_far (p := ⟨gb791, 1, none⟩) (Kd.R_far (p := ⟨gb791, 0, none⟩) (Kd.R_types HO797.out BK791.out (by decide)) (fun _ hk => hk.2) (.int .i64 a0_0)) (fun _ hk => hk.2) (.slice Ao9 y795.length co9)) (fun _ hk => trivial), TB⟩

/-! ### spec_BuildFrom: function 43 -/
def spec_BuildFrom.l0 : Nat → List Int → Int → Int → Int → Int → List (S48) → Int → List Int → Option (Int × List Int)
  | 0, _, _, _, _, _, _, _, _ => none
  | k + 1, x1, x6, x799000, x799001, x799002, x799003, x805000, x805001 => if x6 < (x799003.length : Int) then ((spec_PlaceOf.f k x1 x799000 x799001 x799002 x799003 x6).bind fun t806 => ((spec_SpanOf.f x799001 x799002 x6).bind fun bt807 => (if t806 ≥ 0 then (if 0 ≤ t806 then (if t806 ≤ (wrap64 (t806 + bt807.2)) then (if (wrap64 (t806 + bt807.2)) ≤ (x1.length : Int) then ((some ((0 : Int), (0 : Int))).bind fun bt810 => ((spec_l8Put.f k x799000 x799001 x799002 x799003 x805000 x805001 x6 ((x1.take ((wrap64 (t806 + bt807.2)) : Int).toNat).drop (t806 : Int).toNat)).bind fun bt812 => (spec_BuildFrom.l0 k x1 (wrap64 (x6 + 1)) x799000 x799001 x799002 x799003 bt812.1 bt812.2))) else (none)) else (none)) else (none)) else (spec_BuildFrom.l0 k x1 (wrap64 (x6 + 1)) x799000 x799001 x799002 x799003 x805000 x805001)))) else (some (x805000, x805001))
def spec_BuildFrom.f (k : Nat) (a0_0 : Int) (a0_1 : Int) (a0_2 : Int) (l0_3 : List (S48)) (l1 : List Int) : Option (Int × List Int) := (spec_BuildNew.f k a0_0 a0_1 a0_2 l0_3).bind fun bt800 => ((spec_ManOk.f k a0_0 a0_1 a0_2 l0_3).bind fun t805 => (if t805 = true then (spec_BuildFrom.l0 k l1 0 a0_0 a0_1 a0_2 l0_3 bt800.1 bt800.2) else (some (bt800.1, bt800.2))))
theorem spec_BuildFrom.mono_l : ∀ k, (∀ y0 y1 y2 y3 y4 y5 y6 y7, LeO (spec_BuildFrom.l0 k y0 y1 y2 y3 y4 y5 y6 y7) (spec_BuildFrom.l0 (k + 1) y0 y1 y2 y3 y4 y5 y6 y7))
  | 0 => fun _ _ _ _ _ _ _ _ r h => by simp [spec_BuildFrom.l0] at h
  | k + 1 => by
    have m9_ := @spec_l8Put.mono
    have m0_ := @spec_BuildNew.mono
    have m1_ := @spec_ManOk.mono
    have m2_ := @spec_PlaceOf.mono
    have m3_ := @spec_SumOf.mono
    have ih0 := spec_BuildFrom.mono_l k
    · intro y0 y1 y2 y3 y4 y5 y6 y7
      unfold spec_BuildFrom.l0
      exact LM
theorem spec_BuildFrom.mono : ∀ a0 a1 a2 a3 a4 k, LeO (spec_BuildFrom.f k a0 a1 a2 a3 a4) (spec_BuildFrom.f (k + 1) a0 a1 a2 a3 a4) := by
  intro a0 a1 a2 a3 a4 k
  have m9_ := @spec_l8Put.mono
  have m0_ := @spec_BuildNew.mono
  have m1_ := @spec_ManOk.mono
  have m2_ := @spec_PlaceOf.mono
  have m3_ := @spec_SumOf.mono
  have ih0 := spec_BuildFrom.mono_l k
  unfold spec_BuildFrom.f
  exact LM
set_option maxHeartbeats 40000000 in
set_option maxRecDepth 100000 in
theorem spec_BuildFrom.calls (k : Nat) (aj : Int) (af : Int) (ag : Int) (am : Option Addr) (al : Nat) (ae : List (S48)) (A1 : Option Addr) (c1 : Nat) (l1 : List Int) (r1 : Int) (r2 : List Int) (w : World) (aG : Kd.C k48 w am ae.length ae) (aE : ae.length ≤ al) (hr1 : Kd.C (Kd.int .u8) w A1 l1.length l1) (hc1 : l1.length ≤ c1) (h : spec_BuildFrom.f k aj af ag ae l1 = some (r1, r2)) :
  Calls Try.prog 43 #[.agg #[.int .i64 aj, .int .i64 af, .int .i64 ag, .slice am ae.length al], .slice A1 l1.length c1] w fun e w' => ∃ v1_ : Value, e = .returned (.agg #[.int .i64 r1, v1_]) ∧ Kd.R (Kd.int .u8) 5 w' w.heap.size (fun _ => True) v1_ r2 ∧ Below w.heap.size w w' := by
 have hu28 := Try.underlying28
 have hu31 := Try.underlying31
 have av := aM aG
 have ay := aM aE
 clear aG aE
 have HR1 := aM hr1
 have HC1 := aM hc1
 clear hr1 hc1
 have HB := aM (Below.refl w.heap.size w)
 have H := h
 clear h
 unfold spec_BuildFrom.f at H
 replace H := bE H
 obtain ⟨⟨aq, au⟩, A3, H⟩ := H
 dsimp only at H
 replace H := bE H
 obtain ⟨t805, A4, H⟩ := H
 go_enter Try.func43, Try.ntmps43
 go_wp2_with (first | ((with_reducible refine gate_dst (N := 2) rfl ?_); refine gBx 2 #[.int .i64 aj, .int .i64 af, .int .i64 ag, .slice am ae.length al] 28 ?_; intro ah hg w6 hbox hb; have aa := aM (hbox); have GW798 := aM ((by rw [hg]; exact (below_size TB) : w.heap.size ≤ ah)); have GE798 := aM ((by rw [hg]; exact (below_size TB) : w.heap.size ≤ ah)); replace HB := aM (below_step TB hb); clear hb hbox hg) | ((with_reducible refine gate_dst (N := 4) rfl ?_); refine gBx 4 #[.int .i64 0, .slice none 0 0] 31 ?_; intro gb799 hg w7 hbox hb; have ac := aM (hbox); have GW799 := aM ((by rw [hg]; exact (below_size TB) : w.heap.size ≤ gb799)); have GE799 := aM ((by rw [hg]; exact (below_size TB) : w.heap.size ≤ gb799)); have NB798_799 := aM ((by rw [hg]; exact Nat.ne_of_lt (blk_lt (g := ah) (o := .cells #[.int .i64 aj, .int .i64 af, .int .i64 ag, .slice am ae.length al] 28 (0, 0)) TK) : ah ≠ gb799)); have NB799_798 := aM ((by rw [hg]; exact Nat.ne_of_gt (blk_lt (g := ah) (o := .cells #[.int .i64 aj, .int .i64 af, .int .i64 ag, .slice am ae.length al] 28 (0, 0)) TK) : gb799 ≠ ah)); replace aa := aM (blk_below (g := ah) (o := .cells #[.int .i64 aj, .int .i64 af, .int .i64 ag, .slice am ae.length al] 28 (0, 0)) TK hb); replace HB := aM (below_step TB hb); clear hb hbox hg; have hnb8 := NB798_799.out; have hnc8 := NB799_798.out; obtain ⟨a6, ba, a8, bb⟩ := cz4 aa.out; obtain ⟨bc, a9, a5, a7⟩ := fz4 aa.out) | ((with_reducible refine gate_callee (f := 53) rfl ?_); refine gL (some 11) Try.func53 #[.agg #[.int .i64 aj, .int .i64 af, .int .i64 ag, .slice am ae.length al]] ?_; (with_reducible refine (spec_BuildNew.calls k aj af ag _ _ ae aq au _ ?side1 ?side2 A3.out).mono ?_); (case side1 => have X_ := (Kd.C_below av.out HB.out); exact TC); (case side2 => exact ay.out); rintro e w10 ⟨v802, rfl, ho0, hb⟩; refine ⟨_, rfl, ?_⟩; have HO803 := aM (Kd.R_lower ho0 (below_size TB)); replace aa := aM (blk_below (g := ah) (o := .cells #[.int .i64 aj, .int .i64 af, .int .i64 ag, .slice am ae.length al] 28 (0, 0)) TK hb); replace ac := aM (blk_below (g := gb799) (o := .cells #[.int .i64 0, .slice none 0 0] 31 (0, 0)) TK hb); replace HB := aM (below_step TB hb); clear ho0 hb) | ((with_reducible refine gate_dst (N := 5) rfl ?_); refine gBx 5 #[.int .i64 0, .slice none 0 0] 31 ?_; intro gb804 hg w11 hbox hb; have ad := aM (hbox); have GW804 := aM ((by rw [hg]; exact (below_size TB) : w.heap.size ≤ gb804)); have GE804 := aM ((by rw [hg]; exact (below_size TB) : w.heap.size ≤ gb804)); have NB798_804 := aM ((by rw [hg]; exact Nat.ne_of_lt (blk_lt (g := ah) (o := .cells #[.int .i64 aj, .int .i64 af, .int .i64 ag, .slice am ae.length al] 28 (0, 0)) TK) : ah ≠ gb804)); have NB804_798 := aM ((by rw [hg]; exact Nat.ne_of_gt (blk_lt (g := ah) (o := .cells #[.int .i64 aj, .int .i64 af, .int .i64 ag, .slice am ae.length al] 28 (0, 0)) TK) : gb804 ≠ ah)); have NB799_804 := aM ((by rw [hg]; exact Nat.ne_of_lt (blk_lt (g := gb799) (o := .cells #[.int .i64 0, .slice none 0 0] 31 (0, 0)) TK) : gb799 ≠ gb804)); have NB804_799 := aM ((by rw [hg]; exact Nat.ne_of_gt (blk_lt (g := gb799) (o := .cells #[.int .i64 0, .slice none 0 0] 31 (0, 0)) TK) : gb804 ≠ gb799)); replace HO803 := aM (Kd.R_below (by have X_ := HO803.out; exact TR) hb); replace aa := aM (blk_below (g := ah) (o := .cells #[.int .i64 aj, .int .i64 af, .int .i64 ag, .slice am ae.length al] 28 (0, 0)) TK hb); replace ac := aM (blk_below (g := gb799) (o := .cells #[.int .i64 0, .slice none 0 0] 31 (0, 0)) TK hb); replace HB := aM (below_step TB hb); clear hb hbox hg; have hnb12 := NB804_798.out; have hnc12 := NB798_804.out; have hnb13 := NB804_799.out; have hnc13 := NB799_804.out; obtain ⟨aK, aT⟩ := cz2 ad.out; obtain ⟨aY, aP⟩ := fz2 ad.out; obtain ⟨Ao15, co15, eo15⟩ := Kd.R_slice HO803.out; subst eo15; obtain ⟨aQ, aW, aX, aU⟩ := cz4 aa.out; obtain ⟨aJ, aN, aZ, aV⟩ := fz4 aa.out) | ((with_reducible refine gate_callee (f := 92) rfl ?_); (with_reducible refine gate_dst (N := 13) rfl ?_); generalize hG_ : wpList _ _ _ _ _ _ = G_))
 subst hG_
 by_cases c17 : t805 = true
 ·subst c17
  replace H := ifT H
  have H' := aM H
  clear H
  go_wp2_with (first | ((with_reducible refine gate_callee (f := 92) rfl ?_); refine gL (some 13) Try.func92 #[.agg #[.int .i64 aj, .int .i64 af, .int .i64 ag, .slice am ae.length al]] ?_; (with_reducible refine (spec_ManOk.calls k aj af ag _ _ ae true _ ?side1 ?side2 A4.out).mono ?_); (case side1 => exact Kd.C_below av.out TB); (case side2 => exact ay.out); rintro e w18 ⟨rfl, hb⟩; refine ⟨_, rfl, ?_⟩; replace HO803 := aM (Kd.R_below (by (with_reducible repeat (first | apply Kd.R_alloc | apply Kd.R_drewN | apply Kd.R_drew)); exact (R_off (Kd.R_types HO803.out ad.out (by decide)) TO)) hb); replace aa := aM (blk_below (g := ah) (o := .cells #[.int .i64 aj, .int .i64 af, .int .i64 ag, .slice am ae.length al] 28 (0, 0)) (by (with_reducible repeat (first | refine blk_drewN ?_ _ | refine blk_drew ?_ | refine blk_alloc ?_ _)); refine blk_far ?_ NB798_804.out _; (with_reducible repeat (first | refine blk_drewN ?_ _ | refine blk_drew ?_ | refine blk_alloc ?_ _)); refine blk_far ?_ NB798_804.out _; (with_reducible repeat (first | refine blk_drewN ?_ _ | refine blk_drew ?_ | refine blk_alloc ?_ _)); exact aa.out) hb); replace ac := aM (blk_below (g := gb799) (o := .cells #[.int .i64 0, .slice none 0 0] 31 (0, 0)) (by (with_reducible repeat (first | refine blk_drewN ?_ _ | refine blk_drew ?_ | refine blk_alloc ?_ _)); refine blk_far ?_ NB799_804.out _; (with_reducible repeat (first | refine blk_drewN ?_ _ | refine blk_drew ?_ | refine blk_alloc ?_ _)); refine blk_far ?_ NB799_804.out _; (with_reducible repeat (first | refine blk_drewN ?_ _ | refine blk_drew ?_ | refine blk_alloc ?_ _)); exact ac.out) hb); replace ad := aM (blk_below (g := gb804) (o := .cells #[.int .i64 aq, .slice Ao15 au.length co15] 31 (0, 0)) (by (with_reducible repeat (first | refine blk_drewN ?_ _ | refine blk_drew ?_ | refine blk_alloc ?_ _)); refine blk_put (cs := #[.int .i64 aq, .slice none 0 0]) ?_ 1 _ rfl; (with_reducible repeat (first | refine blk_drewN ?_ _ | refine blk_drew ?_ | refine blk_alloc ?_ _)); refine blk_put (cs := #[.int .i64 0, .slice none 0 0]) ?_ 0 _ rfl; (with_reducible repeat (first | refine blk_drewN ?_ _ | refine blk_drew ?_ | refine blk_alloc ?_ _)); exact ad.out) hb); replace HB := aM (below_step TB hb); clear hb))
  go_loopg [6] k (fun kq v6 w' => ∃ (ao : Int) (ai : Int) (ak : List Int) (ap : Value), v6 = .int .i64 ao ∧ Aside0 (spec_BuildFrom.l0 kq l1 ao aj af ag ae ai ak = some (r1, r2)) ∧ Aside0 (kq ≤ k) ∧ Aside0 (Kd.R (Kd.int .u8) 5 w' w.heap.size (fun _ => True) ap ak) ∧ Aside0 (w'.heap[ah]? = some (.cells #[.int .i64 aj, .int .i64 af, .int .i64 ag, (.slice am ae.length al)] 28 (0, 0))) ∧ Aside0 (w'.heap[gb799]? = some (.cells #[.int .i64 0, (.slice none 0 0)] 31 (0, 0))) ∧ Aside0 (w'.heap[gb804]? = some (.cells #[.int .i64 ai, ap] 31 (0, 0))) ∧ Aside0 (Below w.heap.size w w'))
  case atStart => exact ⟨(0), (aq), (au), (.slice Ao15 au.length co15), (by first | rfl | (simp; done) | (simp [*]; done)), H', ⟨Nat.le_refl _⟩, ⟨by have X_ := HO803.out; exact TR⟩, ⟨TK⟩, ⟨TK⟩, ⟨TK⟩, ⟨TB⟩⟩
  case round =>
   clear H'
   try clear c1
   try clear p2
   try clear c4
   try clear c5
   try clear c8
   try clear c9
   try clear c12
   try clear c13
   try clear c17
   try clear aK
   try clear aT
   try clear aQ
   try clear aW
   try clear aX
   try clear aU
   try clear a6
   try clear ba
   try clear a8
   try clear bb
   try clear aY
   try clear aP
   try clear aJ
   try clear aN
   try clear aZ
   try clear aV
   try clear bc
   try clear a9
   try clear a5
   try clear a7
   obtain ⟨ao, ai, ak, ap, rfl, HA, HK1, ab, aa, ac, ad, HB⟩ := hrel
   cases gk with
   | zero => exact absurd HA.out (by simp [spec_BuildFrom.l0])
   | succ k1 =>
    have H := HA.out
    clear HA
    simp only [spec_BuildFrom.l0] at H
    by_cases c19 : ao < (ae.length : Int)
    ·rw [if_pos c19] at H
     have c19b0 : decide (ao < (ae.length : Int)) = true := decide_eq_true c19
     clear c19
     replace H := bE H
     obtain ⟨an, A20, H⟩ := H
     replace H := bE H
     obtain ⟨⟨t807, ar⟩, A21, H⟩ := H
     dsimp only at H
     have hnb22 := NB798_799.out
     have hnc22 := NB799_798.out
     have hnb23 := NB798_804.out
     have hnc23 := NB804_798.out
     obtain ⟨hcz24_0, hcz24_1, hcz24_2, hcz24_3⟩ := cz4 aa.out
     obtain ⟨hfz24_0, hfz24_1, hfz24_2, hfz24_3⟩ := fz4 aa.out
     go_wp2_with (first | ((with_reducible refine gate_callee (f := 34) rfl ?_); refine gL (some 26) Try.func34 #[.slice A1 l1.length c1, .agg #[.int .i64 aj, .int .i64 af, .int .i64 ag, .slice am ae.length al], .int .i64 ao] ?_; (with_reducible refine (spec_PlaceOf.calls k1 _ _ l1 aj af ag _ _ ae ao an _ ?side1 ?side2 ?side3 ?side4 A20.out).mono ?_); (case side1 => repeat (first | exact (Kd.C_below HR1.out TB) | (with_reducible refine Kd.C_alloc ?_ _) | (with_reducible refine Kd.C_drewN ?_ _) | (with_reducible refine Kd.C_drew ?_))); (case side2 => exact HC1.out); (case side3 => repeat (first | exact (Kd.C_below av.out TB) | (with_reducible refine Kd.C_alloc ?_ _) | (with_reducible refine Kd.C_drewN ?_ _) | (with_reducible refine Kd.C_drew ?_))); (case side4 => exact ay.out); rintro e w25 ⟨rfl, hb⟩; refine ⟨_, rfl, ?_⟩; replace ab := aM (Kd.R_below (by have X_ := ab.out; exact TR) hb); replace aa := aM (blk_below (g := ah) (o := .cells #[.int .i64 aj, .int .i64 af, .int .i64 ag, .slice am ae.length al] 28 (0, 0)) TK hb); replace ac := aM (blk_below (g := gb799) (o := .cells #[.int .i64 0, .slice none 0 0] 31 (0, 0)) TK hb); replace ad := aM (blk_below (g := gb804) (o := .cells #[.int .i64 ai, ap] 31 (0, 0)) TK hb); replace HB := aM (below_step TB hb); clear hb; obtain ⟨hcz26_0, hcz26_1, hcz26_2, hcz26_3⟩ := cz4 aa.out; obtain ⟨hfz26_0, hfz26_1, hfz26_2, hfz26_3⟩ := fz4 aa.out) | ((with_reducible refine gate_callee (f := 76) rfl ?_); (with_reducible refine gate_dst (N := 33) rfl ?_); generalize hG_ : wpList _ _ _ _ _ _ = G_))
     subst hG_
     by_cases c27 : an ≥ 0
     ·rw [if_pos c27] at H
      have c27b0 : decide (0 ≤ an) = true := decide_eq_true c27
      clear c27
      replace H := ifN H
      obtain ⟨c28, H⟩ := H
      have c28b0 := eq_true c28
      have c28b1 : decide (0 ≤ an) = true := decide_eq_true c28
      clear c28
      replace H := ifN H
      obtain ⟨c29, H⟩ := H
      have c29b0 := eq_true c29
      have c29b1 : decide (an ≤ (wrap64 (an + ar))) = true := decide_eq_true c29
      replace H := ifN H
      obtain ⟨c30, H⟩ := H
      have c30b0 := eq_true c30
      have c30b1 : decide ((wrap64 (an + ar)) ≤ (l1.length : Int)) = true := decide_eq_true c30
      replace H := bE H
      obtain ⟨⟨t810, t811⟩, A31, H⟩ := H
      replace H := bE H
      obtain ⟨⟨aA, aC⟩, A32, H⟩ := H
      dsimp only at H
      have H' := aM H
      clear H
      try go_wp2_with (first | ((with_reducible refine gate_callee (f := 76) rfl ?_); refine gL (some 33) Try.func76 #[.int .i64 af, .int .i64 ag, .int .i64 ao] ?_; (with_reducible refine (spec_SpanOf.calls af ag ao t807 ar _ A21.out).mono ?_); rintro e w' ⟨rfl, ⟨nd, rfl⟩⟩; refine ⟨_, rfl, ?_⟩; (try (rw [drewN_self w25]; generalize hq_ : World.drewN w25 _ = w25; have n0_ : Aside0 (Kd.R (Kd.int .u8) 5 w25 w.heap.size (fun _ => True) ap ak) := ⟨by rw [← hq_]; exact (by have X_ := ab.out; exact TR)⟩; have n1_ : Aside0 (w25.heap[ah]? = some (.cells #[.int .i64 aj, .int .i64 af, .int .i64 ag, .slice am ae.length al] 28 (0, 0))) := ⟨by rw [← hq_]; exact TK⟩; have n2_ : Aside0 (w25.heap[gb799]? = some (.cells #[.int .i64 0, .slice none 0 0] 31 (0, 0))) := ⟨by rw [← hq_]; exact TK⟩; have n3_ : Aside0 (w25.heap[gb804]? = some (.cells #[.int .i64 ai, ap] 31 (0, 0))) := ⟨by rw [← hq_]; exact TK⟩; have n4_ : Aside0 (Below w.heap.size w w25) := ⟨by rw [← hq_]; exact TB⟩; clear ab aa ac ad HB hq_; have ab := n0_; have aa := n1_; have ac := n2_; have ad := n3_; have HB := n4_; clear n0_ n1_ n2_ n3_ n4_))))
      replace ab := aM (Kd.R_drew ab.out)
      replace aa := aM (blk_drew aa.out)
      replace ac := aM (blk_drew ac.out)
      replace ad := aM (blk_drew ad.out)
      replace HB := aM (below_drew1 HB.out)
      obtain ⟨i034, aD, _, aI, _⟩ := info_parts info5
      obtain ⟨A34, hcut34, hA34, hC34⟩ := print_mid_of (P := Try.prog) (Value.int .u8) 0 22 5 .i64 .i64 Try.underlying22 aD aI A1 c1 l1 an (wrap64 (an + ar)) DT (by first | omega | exact DT) DT HC1.out
      have aH := aM (Kd.C_of_reads (h1 := fun _ => rfl) (hA34 _ (Kd.reads_of_C HR1.out)))
      have HC809 := aM hC34
      clear hA34 hC34 aD aI
      refine start_ (n := 9) (S := fun w' => w'.cell? ⟨ah, 0, none⟩ = some (.int .i64 aj) ∧ w'.cell? ⟨ah, 1, none⟩ = some (.int .i64 af) ∧ w'.cell? ⟨ah, 2, none⟩ = some (.int .i64 ag) ∧ w'.cell? ⟨ah, 3, none⟩ = some (.slice am ae.length al)) (ds := []) (Array.replicate 9 false) (by kernel_rfl) rfl rfl (cz4 aa.out) (fun hHeld => ?_)
      generalize w25.drew = w33 at ab aa ac ad HB aH hHeld ⊢
      refine pP 1 (some 39) ?_
      refine pP 2 (some 40) ?_
      refine pP 3 (some 41) ?_
      refine pP 4 (some 42) ?_
      refine pP 5 (some 43) ?_
      refine pP 6 (some 44) ?_
      refine pP 7 (some 45) ?_
      refine pT 0 (some 38) ?_
      obtain ⟨aw, ax, eo39⟩ := Kd.R_slice ab.out
      subst eo39
      refine pO 8 (some 46) (fun K hK => ?_)
      obtain ⟨tb_, Ab_⟩ := spec_l8Put.has A32.out
      refine goes_ Try.func93 (by kernel_rfl) rfl #[.agg #[.int .i64 aj, .int .i64 af, .int .i64 ag, .slice am ae.length al], .pointer (some ⟨gb804, 0, none⟩), .int .i64 ao, .slice A34 ((l1.take ((wrap64 (an + ar)) : Int).toNat).drop (an : Int).toNat).length (c1 - an.toNat)] (by rfl) rfl rfl (by (try simp only [List.map_toArray, List.map_cons, List.map_nil]); first | done | (rw [show ((l1.take ((wrap64 (an + ar)) : Int).toNat).drop (an : Int).toNat).length = ((wrap64 (an + ar)).toNat - an.toNat) from (by rw [List.length_drop, List.length_take]; have h_ : ((wrap64 (an + ar)) : Int) ≤ (l1.length : Int) := DT; omega)] <;> rfl) | rfl | (simp only [List.length_drop, List.length_take]; rfl)) ?_
      with_reducible refine (spec_l8Put.calls k1 gb804 aw ax _ _ _ _ _ _ _ _ _ _ _ _ _ _ _ (fun _ => True) w _ ?p1 ?p2 ?p3 ?p4 ?p6 ?p5 ?p7 Ab_ A32.out).mono ?_
      (case p1 => exact TB)
      (case p2 => exact GW804.out)
      (case p3 => have X_ := ad.out; exact TX)
      (case p4 => exact Kd.R_mono (by have X_ := ab.out; exact TR) (fun _ _ => trivial))
      (case p6 => have X_ := (Kd.C_below av.out HB.out); exact TC)
      (case p5 => exact Kd.C_kept_came (Kd.heap_int .u8) aH.out TB (fun k_ q_ => Or.elim q_ (fun e_ => by rw [e_]; exact GW804.out) (fun e_ => Kd.R_base ab.out k_ e_.symm)))
      (case p7 => exact HC809.out)
      rintro e w40 ⟨rfl, hl_, hG_, hO_, hb_, hk_⟩
      refine ⟨_, rfl, ?_⟩
      obtain ⟨wv_, hv1_, hv2_, az⟩ := virt_ (.int .i64 ai) (.slice aw ak.length ax) hG_
      replace aa := aM (blk_kept (by have X_ := aa.out; exact TX) hk_ (fun q_ => Or.elim q_ (fun e_ => NB798_804.out e_) (fun e_ => Kd.R_ne ab.out (by have X_ := aa.out; exact TX) (by decide) e_)))
      replace ac := aM (blk_kept (by have X_ := ac.out; exact TX) hk_ (fun q_ => Or.elim q_ (fun e_ => NB799_804.out e_) (fun e_ => Kd.R_ne ab.out (by have X_ := ac.out; exact TX) (by decide) e_)))
      have HO815 := aM (Kd.R_mono (ok' := fun _ => True) (Kd.R_move (Kd.R_types hO_ hG_ (by decide)) (fun k_ q_ => az.2.2 k_ q_.2)) (fun _ _ => trivial))
      clear ab
      replace ad := aM hG_
      refine hK.out _ _ (cz4 aa.out) (fun hHeld => ?_)
      clear hK K
      refine nR ?_
      refine done_ (by kernel_rfl) ?_
      clear hHeld
      replace aa := aM ((az.2.2 _ NB798_804.out).trans aa.out)
      replace ac := aM ((az.2.2 _ NB799_804.out).trans ac.out)
      replace ad := aM hv2_
      replace HB := aM (az.below hb_ GW804.out)
      clear hl_ hG_ hO_ hb_ hk_ hv2_ az
      subst hv1_
      obtain ⟨hcz41_0, hcz41_1⟩ := cz2 ad.out
      obtain ⟨hfz41_0, hfz41_1⟩ := fz2 ad.out
      try go_wp2
      go_roundg k1
      case measure => have := HK1.out; omega
      case rel => exact ⟨(wrap64 (ao + 1)), (aA), (aC), (.slice aw aC.length ax), (by first | rfl | (simp; done) | (simp [*]; done)), H', ⟨by have := HK1.out; omega⟩, ⟨by (with_reducible repeat (first | apply Kd.R_alloc | apply Kd.R_drewN | apply Kd.R_drew)); exact Kd.R_mono (Kd.R_far (p := ⟨gb804, 1, none⟩) (Kd.R_far (p := ⟨gb804, 0, none⟩) (Kd.R_types HO815.out ad.out (by decide)) (fun _ hk => hk.2) (.int .i64 aA)) (fun _ hk => hk.2) (.slice aw aC.length ax)) (fun _ hk => trivial)⟩, ⟨by (with_reducible repeat (first | refine blk_drewN ?_ _ | refine blk_drew ?_ | refine blk_alloc ?_ _)); refine blk_far ?_ NB798_804.out _; (with_reducible repeat (first | refine blk_drewN ?_ _ | refine blk_drew ?_ | refine blk_alloc ?_ _)); refine blk_far ?_ NB798_804.out _; (with_reducible repeat (first | refine blk_drewN ?_ _ | refine blk_drew ?_ | refine blk_alloc ?_ _)); exact aa.out⟩, ⟨by (with_reducible repeat (first | refine blk_drewN ?_ _ | refine blk_drew ?_ | refine blk_alloc ?_ _)); refine blk_far ?_ NB799_804.out _; (with_reducible repeat (first | refine blk_drewN ?_ _ | refine blk_drew ?_ | refine blk_alloc ?_ _)); refine blk_far ?_ NB799_804.out _; (with_reducible repeat (first | refine blk_drewN ?_ _ | refine blk_drew ?_ | refine blk_alloc ?_ _)); exact ac.out⟩, ⟨by (with_reducible repeat (first | refine blk_drewN ?_ _ | refine blk_drew ?_ | refine blk_alloc ?_ _)); refine blk_put (cs := #[.int .i64 aA, .slice aw ak.length ax]) ?_ 1 _ rfl; (with_reducible repeat (first | refine blk_drewN ?_ _ | refine blk_drew ?_ | refine blk_alloc ?_ _)); refine blk_put (cs := #[.int .i64 ai, .slice aw ak.length ax]) ?_ 0 _ rfl; (with_reducible repeat (first | refine blk_drewN ?_ _ | refine blk_drew ?_ | refine blk_alloc ?_ _)); exact ad.out⟩, ⟨TB⟩⟩
     ·rw [if_neg c27] at H
      have c27b0 : decide (0 ≤ an) = false := decide_eq_false c27
      clear c27
      have H' := aM H
      clear H
      go_wp2_with (first | ((with_reducible refine gate_callee (f := 76) rfl ?_); refine gL (some 33) Try.func76 #[.int .i64 af, .int .i64 ag, .int .i64 ao] ?_; (with_reducible refine (spec_SpanOf.calls af ag ao t807 ar _ A21.out).mono ?_); rintro e w' ⟨rfl, ⟨nd, rfl⟩⟩; refine ⟨_, rfl, ?_⟩))
      go_roundg k1
      case measure => have := HK1.out; omega
      case rel => exact ⟨(wrap64 (ao + 1)), (ai), (ak), (ap), (by first | rfl | (simp; done) | (simp [*]; done)), H', ⟨by have := HK1.out; omega⟩, ⟨by have X_ := ab.out; exact TR⟩, ⟨TK⟩, ⟨TK⟩, ⟨TK⟩, ⟨TB⟩⟩
    ·rw [if_neg c19] at H
     have c19b0 : decide (ao < (ae.length : Int)) = false := decide_eq_false c19
     clear c19
     simp only [Option.some.injEq, Prod.mk.injEq] at H
     obtain ⟨rfl, rfl⟩ := H
     have hnb43 := NB798_799.out
     have hnc43 := NB799_798.out
     have hnb44 := NB798_804.out
     have hnc44 := NB804_798.out
     obtain ⟨hcz45_0, hcz45_1, hcz45_2, hcz45_3⟩ := cz4 aa.out
     obtain ⟨hfz45_0, hfz45_1, hfz45_2, hfz45_3⟩ := fz4 aa.out
     have hnb46 := NB804_799.out
     have hnc46 := NB799_804.out
     obtain ⟨hcz47_0, hcz47_1⟩ := cz2 ad.out
     obtain ⟨hfz47_0, hfz47_1⟩ := fz2 ad.out
     obtain ⟨hcz48_0, hcz48_1⟩ := cz2 ac.out
     obtain ⟨hfz48_0, hfz48_1⟩ := fz2 ac.out
     obtain ⟨Ao49, co49, eo49⟩ := Kd.R_slice ab.out
     subst eo49
     go_wp2
     refine bodyPost_ret (results_cell_row rfl _ _ gb799 31 #[.int .i64 ai, .slice Ao49 ak.length co49] (0, 0) _ rfl (by (with_reducible repeat (first | refine blk_drewN ?_ _ | refine blk_drew ?_ | refine blk_alloc ?_ _)); refine blk_put (cs := #[.int .i64 ai, .slice none 0 0]) ?_ 1 _ rfl; (with_reducible repeat (first | refine blk_drewN ?_ _ | refine blk_drew ?_ | refine blk_alloc ?_ _)); refine blk_put (cs := #[.int .i64 0, .slice none 0 0]) ?_ 0 _ rfl; (with_reducible repeat (first | refine blk_drewN ?_ _ | refine blk_drew ?_ | refine blk_alloc ?_ _)); exact ac.out) Try.underlying31 rfl (by kernel_rfl)) rfl ?_
     exact ⟨_, by first | rfl | (simp [errW_none, errW_some] <;> rfl) | (simp [*, errW_none, errW_some] <;> rfl), by (with_reducible repeat (first | apply Kd.R_alloc | apply Kd.R_drewN | apply Kd.R_drew)); exact Kd.R_mono (Kd.R_far (p := ⟨gb799, 1, none⟩) (Kd.R_far (p := ⟨gb799, 0, none⟩) (Kd.R_types ab.out ac.out (by decide)) (fun _ hk => hk.2) (.int .i64 ai)) (fun _ hk => hk.2) (.slice Ao49 ak.length co49)) (fun _ hk => trivial), TB⟩
 ·replace c17 := Bool.eq_false_iff.mpr c17
  subst c17
  replace H := ifF H
  simp only [Option.some.injEq, Prod.mk.injEq] at H
  obtain ⟨rfl, rfl⟩ := H
  go_wp2_with (first | ((with_reducible refine gate_callee (f := 92) rfl ?_); refine gL (some 13) Try.func92 #[.agg #[.int .i64 aj, .int .i64 af, .int .i64 ag, .slice am ae.length al]] ?_; (with_reducible refine (spec_ManOk.calls k aj af ag _ _ ae false _ ?side1 ?side2 A4.out).mono ?_); (case side1 => exact Kd.C_below av.out TB); (case side2 => exact ay.out); rintro e w50 ⟨rfl, hb⟩; refine ⟨_, rfl, ?_⟩; replace HO803 := aM (Kd.R_below (by (with_reducible repeat (first | apply Kd.R_alloc | apply Kd.R_drewN | apply Kd.R_drew)); exact (R_off (Kd.R_types HO803.out ad.out (by decide)) TO)) hb); replace aa := aM (blk_below (g := ah) (o := .cells #[.int .i64 aj, .int .i64 af, .int .i64 ag, .slice am ae.length al] 28 (0, 0)) (by (with_reducible repeat (first | refine blk_drewN ?_ _ | refine blk_drew ?_ | refine blk_alloc ?_ _)); refine blk_far ?_ NB798_804.out _; (with_reducible repeat (first | refine blk_drewN ?_ _ | refine blk_drew ?_ | refine blk_alloc ?_ _)); refine blk_far ?_ NB798_804.out _; (with_reducible repeat (first | refine blk_drewN ?_ _ | refine blk_drew ?_ | refine blk_alloc ?_ _)); exact aa.out) hb); replace ac := aM (blk_below (g := gb799) (o := .cells #[.int .i64 0, .slice none 0 0] 31 (0, 0)) (by (with_reducible repeat (first | refine blk_drewN ?_ _ | refine blk_drew ?_ | refine blk_alloc ?_ _)); refine blk_far ?_ NB799_804.out _; (with_reducible repeat (first | refine blk_drewN ?_ _ | refine blk_drew ?_ | refine blk_alloc ?_ _)); refine blk_far ?_ NB799_804.out _; (with_reducible repeat (first | refine blk_drewN ?_ _ | refine blk_drew ?_ | refine blk_alloc ?_ _)); exact ac.out) hb); replace ad := aM (blk_below (g := gb804) (o := .cells #[.int .i64 aq, .slice Ao15 au.length co15] 31 (0, 0)) (by (with_reducible repeat (first | refine blk_drewN ?_ _ | refine blk_drew ?_ | refine blk_alloc ?_ _)); refine blk_put (cs := #[.int .i64 aq, .slice none 0 0]) ?_ 1 _ rfl; (with_reducible repeat (first | refine blk_drewN ?_ _ | refine blk_drew ?_ | refine blk_alloc ?_ _)); refine blk_put (cs := #[.int .i64 0, .slice none 0 0]) ?_ 0 _ rfl; (with_reducible repeat (first | refine blk_drewN ?_ _ | refine blk_drew ?_ | refine blk_alloc ?_ _)); exact ad.out) hb); replace HB := aM (below_step TB hb); clear hb; have hnb51 := NB804_798.out; have hnc51 := NB798_804.out; have hnb52 := NB804_799.out; have hnc52 := NB799_804.out; obtain ⟨hcz53_0, hcz53_1⟩ := cz2 ad.out; obtain ⟨hfz53_0, hfz53_1⟩ := fz2 ad.out; have hnb54 := NB799_798.out; have hnc54 := NB798_799.out; obtain ⟨hcz55_0, hcz55_1⟩ := cz2 ac.out; obtain ⟨hfz55_0, hfz55_1⟩ := fz2 ac.out))
  refine bodyPost_ret (results_cell_row rfl _ _ gb799 31 #[.int .i64 aq, .slice Ao15 au.length co15] (0, 0) _ rfl (by (with_reducible repeat (first | refine blk_drewN ?_ _ | refine blk_drew ?_ | refine blk_alloc ?_ _)); refine blk_put (cs := #[.int .i64 aq, .slice none 0 0]) ?_ 1 _ rfl; (with_reducible repeat (first | refine blk_drewN ?_ _ | refine blk_drew ?_ | refine blk_alloc ?_ _)); refine blk_put (cs := #[.int .i64 0, .slice none 0 0]) ?_ 0 _ rfl; (with_reducible repeat (first | refine blk_drewN ?_ _ | refine blk_drew ?_ | refine blk_alloc ?_ _)); exact ac.out) Try.underlying31 rfl (by kernel_rfl)) rfl ?_
  exact ⟨_, by first | rfl | (simp [errW_none, errW_some] <;> rfl) | (simp [*, errW_none, errW_some] <;> rfl), by (with_reducible repeat (first | apply Kd.R_alloc | apply Kd.R_drewN | apply Kd.R_drew)); exact Kd.R_mono (Kd.R_far (p := ⟨gb799, 1, none⟩) (Kd.R_far (p := ⟨gb799, 0, none⟩) (Kd.R_types HO803.out ac.out (by decide)) (fun _ hk => hk.2) (.int .i64 aq)) (fun _ hk => hk.2) (.slice Ao15 au.length co15)) (fun _ hk => trivial), TB⟩

end Go.Proofs.Ytfkndpjbkndhcaa.Q
