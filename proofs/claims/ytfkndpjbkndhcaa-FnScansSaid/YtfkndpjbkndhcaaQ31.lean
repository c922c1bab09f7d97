/- Functions of the program as plain Lean functions, and that a call of each comes to what its function tells. Written by a program of this seat. -/
import Derived.Test.YtfkndpjbkndhcaaQ0
import Derived.Test.YtfkndpjbkndhcaaQ2
import Derived.Test.YtfkndpjbkndhcaaQ17
import Derived.Test.YtfkndpjbkndhcaaQ18
import Derived.Test.YtfkndpjbkndhcaaQ26
import Derived.Test.YtfkndpjbkndhcaaQ27
import Derived.Test.YtfkndpjbkndhcaaQ30
namespace Go.Proofs.Ytfkndpjbkndhcaa.Q
open Go.RowKit Go.Proofs.YtfkndpjbkndhcaaW.PrintWords Go.Proofs.YtfkndpjbkndhcaaW.PrintLast Go.Proofs.YtfkndpjbkndhcaaW.PrintMore
attribute [local go_sem] max2_int min2_int max_two min_two max_three min_three max_four min_four   -- for this text's walks alone
set_option linter.unusedVariables false
set_option linter.unusedSimpArgs false

/-! ### spec_DrawFound: function 25 -/
def spec_DrawFound.f (k : Nat) (l0 : List Int) : Option (List Int × Int × Int × Int × (List (S48))) := (spec_l7Two.f k l0).bind fun bt725 => (some (bt725.1, bt725.2.1, bt725.2.2.1, bt725.2.2.2.1, bt725.2.2.2.2))
theorem spec_DrawFound.mono : ∀ a0 k, LeO (spec_DrawFound.f k a0) (spec_DrawFound.f (k + 1) a0) := by
  intro a0 k
  have m0_ := @spec_l7Two.mono
  unfold spec_DrawFound.f
  exact LM
set_option maxHeartbeats 40000000 in
set_option maxRecDepth 100000 in
theorem spec_DrawFound.calls (k : Nat) (A0 : Option Addr) (c0 : Nat) (l0 : List Int) (r1 : List Int) (r2 : Int) (r3 : Int) (r4 : Int) (r5 : List (S48)) (w : World) (hr0 : Kd.C (Kd.int .u8) w A0 l0.length l0) (hc0 : l0.length ≤ c0) (h : spec_DrawFound.f k l0 = some (r1, r2, r3, r4, r5)) :
    Calls Try.prog 25 #[.slice A0 l0.length c0] w fun e w' => ∃ v0_ v4_ : Value, e = .returned (.tuple #[v0_, .agg #[.int .i64 r2, .int .i64 r3, .int .i64 r4, v4_]]) ∧ Kd.R (Kd.int .u8) 5 w' w.heap.size (fun _ => True) v0_ r1 ∧ Kd.R k48 48 w' w.heap.size (fun _ => True) v4_ r5 ∧ Below w.heap.size w w' := by
  have hu28 := Try.underlying28
  have HR0 := aM hr0
  have HC0 := aM hc0
  clear hr0 hc0
  have HB := aM (Below.refl w.heap.size w)
  have H := h
  clear h
  unfold spec_DrawFound.f at H
  replace H := bE H
  obtain ⟨⟨t725, t728, t729, t730, t731⟩, A2, H⟩ := H
  dsimp only at H
  simp only [Option.some.injEq, Prod.mk.injEq] at H
  obtain ⟨rfl, rfl, rfl, rfl, rfl⟩ := H
  go_enter Try.func25, Try.ntmps25
  go_wp2_with (first | ((with_reducible refine gate_dst (N := 3) rfl ?_); refine gBx 3 #[.int .i64 0, .int .i64 0, .int .i64 0, .slice none 0 0] 28 ?_; intro gb724 hg w3 hbox hb; have BK724 := aM (hbox); have GW724 := aM ((by rw [hg]; exact (below_size TB) : w.heap.size ≤ gb724)); have GE724 := aM ((by rw [hg]; exact (below_size TB) : w.heap.size ≤ gb724)); replace HB := aM (below_step TB hb); clear hb hbox hg) | ((with_reducible refine gate_callee (f := 79) rfl ?_); refine gL (some 5) Try.func79 #[.slice A0 l0.length c0] ?_; (with_reducible refine (spec_l7Two.calls k _ _ l0 t725 t728 t729 t730 t731 _ ?side1 ?side2 A2.out).mono ?_); (case side1 => have X_ := (Kd.C_below HR0.out HB.out); exact TC); (case side2 => exact HC0.out); rintro e w4 ⟨v726, v732, rfl, ho0, ho1, hb⟩; refine ⟨_, rfl, ?_⟩; have HO727 := aM (Kd.R_lower ho0 (below_size TB)); have HO733 := aM (Kd.R_lower ho1 (below_size TB)); replace BK724 := aM (blk_below (by have X_ := BK724.out; exact TX) hb); replace HB := aM (below_step TB hb); clear ho0 ho1 hb; obtain ⟨hcz5_0, hcz5_1, hcz5_2, hcz5_3⟩ := cz4 BK724.out; obtain ⟨hfz5_0, hfz5_1, hfz5_2, hfz5_3⟩ := fz4 BK724.out; obtain ⟨Ao6, co6, eo6⟩ := Kd.R_slice HO733.out; subst eo6))
  refine bodyPost_ret (results_tc rfl _ _ gb724 28 #[.int .i64 t728, .int .i64 t729, .int .i64 t730, .slice Ao6 t731.length co6] (0, 0) _ rfl (by (with_reducible repeat (first | refine blk_drewN ?_ _ | refine blk_drew ?_ | refine blk_alloc ?_ _)); refine blk_put (cs := #[.int .i64 t728, .int .i64 t729, .int .i64 t730, .slice none 0 0]) ?_ 3 _ rfl; (with_reducible repeat (first | refine blk_drewN ?_ _ | refine blk_drew ?_ | refine blk_alloc ?_ _)); refine blk_put (cs := #[.int .i64 t728, .int .i64 t729, .int .i64 0, .slice none 0 0]) ?_ 2 _ rfl; (with_reducible repeat (first | refine blk_drewN ?_ _ | refine blk_drew ?_ | refine blk_alloc ?_ _)); refine blk_put (cs := #[.int .i64 t728, .int .i64 0, .int .i64 0, .slice none 0 0]) ?_ 1 _ rfl; (with_reducible repeat (first | refine blk_drewN ?_ _ | refine blk_drew ?_ | refine blk_alloc ?_ _)); refine blk_put (cs := #[.int .i64 0, .int .i64 0, .int .i64 0, .slice none 0 0]) ?_ 0 _ rfl; (with_reducible repeat (first | refine blk_drewN ?_ _ | refine blk_drew ?_ | refine blk_alloc ?_ _)); exact BK724.out) Try.underlying28 rfl (by kernel_rfl)) rfl ?_
  exact ⟨_, _, by first | rfl | (simp [errW_none, errW_some] <;> rfl) | (simp [*, errW_none, errW_some] <;> rfl), by (with_reducible repeat (first | apply Kd.R_alloc | apply Kd.R_drewN | apply Kd.R_drew)); exact Kd.R_mono (Kd.R_far (p := ⟨gb724, 3, none⟩) (Kd.R_far (p := ⟨gb724, 2, none⟩) (Kd.R_far (p := ⟨gb724, 1, none⟩) (Kd.R_far (p := ⟨gb724, 0, none⟩) (Kd.R_types HO727.out BK724.out (by decide)) (fun _ hk => hk.2) (.int .i64 t728)) (fun _ hk => hk.2) (.int .i64 t729)) (fun _ hk => hk.2) (.int .i64 t730)) (fun _ hk => hk.2) (.slice Ao6 t731.length co6)) (fun _ hk => trivial), by (with_reducible repeat (first | apply Kd.R_alloc | apply Kd.R_drewN | apply Kd.R_drew)); exact Kd.R_mono (Kd.R_far (p := ⟨gb724, 3, none⟩) (Kd.R_far (p := ⟨gb724, 2, none⟩) (Kd.R_far (p := ⟨gb724, 1, none⟩) (Kd.R_far (p := ⟨gb724, 0, none⟩) (Kd.R_types HO733.out BK724.out (by decide)) (fun _ hk => hk.2) (.int .i64 t728)) (fun _ hk => hk.2) (.int .i64 t729)) (fun _ hk => hk.2) (.int .i64 t730)) (fun _ hk => hk.2) (.slice Ao6 t731.length co6)) (fun _ hk => trivial), TB⟩

/-! ### spec_DrawPlaceOf: function 26 -/
def spec_DrawPlaceOf.f (k : Nat) (l0 : List Int) : Option (List Int × Int × Int × Int × (List (S48)) × Int) := (spec_l1New.f k l0).bind fun bt735 => ((spec_l6Draw.f k bt735.1 bt735.2.1 bt735.2.2).bind fun bt739 => ((spec_l7Old.f k bt735.1 bt739.2.2.2.2.2.1 bt739.2.2.2.2.2.2 bt739.2.2.2.2.1).bind fun bt750 => ((spec_l1Below.f bt735.1 bt750.2.1 bt750.2.2 9).bind fun bt756 => (some (bt750.1, bt739.1, bt739.2.1, bt739.2.2.1, bt739.2.2.2.1, wrap64 (bt756.1 - 1))))))
theorem spec_DrawPlaceOf.mono : ∀ a0 k, LeO (spec_DrawPlaceOf.f k a0) (spec_DrawPlaceOf.f (k + 1) a0) := by
  intro a0 k
  have m0_ := @spec_l1New.mono
  have m1_ := @spec_l6Draw.mono
  have m2_ := @spec_l7Old.mono
  unfold spec_DrawPlaceOf.f
  exact LM
def spec_DrawPlaceOf.T2 : Bool × List (List Nat × List Nat) := (true, [([], []), ([], []), ([], []), ([2], [2]), ([3], [3]), ([0, 3, 0], [0]), ([1, 5, 0, 1, 5], [1]), ([4, 6, 0, 1, 2, 3, 4, 5, 6], [4])])
def spec_DrawPlaceOf.B2 : List Nat := [0, 0, 0, 4, 12, 13, 47, 127]
theorem spec_DrawPlaceOf.tab2 : rtab .any (opsOf Try.f26 2) = spec_DrawPlaceOf.T2 := by kernel_rfl
theorem spec_DrawPlaceOf.bits2 : waitsOk spec_DrawPlaceOf.T2.2 spec_DrawPlaceOf.B2 = true := by kernel_rfl
set_option maxHeartbeats 40000000 in
set_option maxRecDepth 100000 in
theorem spec_DrawPlaceOf.calls (k : Nat) (A0 : Option Addr) (c0 : Nat) (l0 : List Int) (r1 : List Int) (r2 : Int) (r3 : Int) (r4 : Int) (r5 : List (S48)) (r6 : Int) (w : World) (hr0 : Kd.C (Kd.int .u8) w A0 l0.length l0) (hc0 : l0.length ≤ c0) (h : spec_DrawPlaceOf.f k l0 = some (r1, r2, r3, r4, r5, r6)) :
    Calls Try.prog 26 #[.slice A0 l0.length c0] w fun e w' => ∃ v0_ v4_ : Value, e = .returned (.tuple #[v0_, .agg #[.int .i64 r2, .int .i64 r3, .int .i64 r4, v4_], .int .i64 r6]) ∧ Kd.R (Kd.int .u8) 5 w' w.heap.size (fun _ => True) v0_ r1 ∧ Kd.R k48 48 w' w.heap.size (fun _ => True) v4_ r5 ∧ Below w.heap.size w w' := by
  have hu28 := Try.underlying28
  have HR0 := aM hr0
  have HC0 := aM hc0
  clear hr0 hc0
  have HB := aM (Below.refl w.heap.size w)
  have H := h
  clear h
  unfold spec_DrawPlaceOf.f at H
  replace H := bE H
  obtain ⟨⟨t735, t736, t737⟩, A2, H⟩ := H
  dsimp only at H
  replace H := bE H
  obtain ⟨⟨t739, t740, t741, t742, t745, t748, t749⟩, A3, H⟩ := H
  dsimp only at H
  replace H := bE H
  obtain ⟨⟨t750, t753, t754⟩, A4, H⟩ := H
  dsimp only at H
  replace H := bE H
  obtain ⟨⟨t756, t757, t758⟩, A5, H⟩ := H
  dsimp only at H
  simp only [Option.some.injEq, Prod.mk.injEq] at H
  obtain ⟨rfl, rfl, rfl, rfl, rfl, rfl⟩ := H
  go_enter Try.func26, Try.ntmps26
  try go_wp2_with (first | ((with_reducible refine gate_dst (N := 3) rfl ?_); refine gBx 3 #[.int .i64 0, .int .i64 0, .int .i64 0, .slice none 0 0] 28 ?_; intro gb734 hg w6 hbox hb; have BK734 := aM (hbox); have GW734 := aM ((by rw [hg]; exact (below_size TB) : w.heap.size ≤ gb734)); have GE734 := aM ((by rw [hg]; exact (below_size TB) : w.heap.size ≤ gb734)); replace HB := aM (below_step TB hb); clear hb hbox hg) | ((with_reducible refine gate_callee (f := 73) rfl ?_); refine gL (some 10) Try.func73 #[.slice A0 l0.length c0] ?_; (with_reducible refine (spec_l7Pair.calls k _ _ l0 t735 t736 t737 t739 t740 t741 t742 t745 t748 t749 t750 t753 t754 w _ ?side1 ?side2 ?side3 A2.out A3.out A4.out).mono ?_); (case side1 => repeat (first | (with_reducible first | exact HB.out | apply below_alloc | apply pw_below_drewN | apply below_drew1 | refine below_set ?_ GE734.out) | exact HB.out)); (case side2 => exact HR0.out); (case side3 => exact HC0.out); rintro e w7 ⟨g738, v751, v743, v746, rfl, hi, ho0, ho1, ho2, hb, hb2⟩; refine ⟨_, rfl, ?_⟩; have HO744 := aM (Kd.R_lower ho1 (below_size (by repeat (first | (with_reducible first | exact HB.out | apply below_alloc | apply pw_below_drewN | apply below_drew1 | refine below_set ?_ (IsS108.ge HI738.out) | refine below_set ?_ GE734.out) | exact HB.out)))); have HO747 := aM (Kd.R_mono (ok' := fun k_ => True ∧ some k_ ≠ v751.ownBlock) (Kd.R_lower ho2 (below_size (by repeat (first | (with_reducible first | exact HB.out | apply below_alloc | apply pw_below_drewN | apply below_drew1 | refine below_set ?_ (IsS108.ge HI738.out) | refine below_set ?_ GE734.out) | exact HB.out)))) (fun _ h_ => ⟨trivial, h_⟩)); have HO752 := aM (Kd.R_mono (ok' := fun k_ => True ∧ some k_ ≠ v746.ownBlock) (Kd.R_lower ho0 (below_size (by repeat (first | (with_reducible first | exact HB.out | apply below_alloc | apply pw_below_drewN | apply below_drew1 | refine below_set ?_ (IsS108.ge HI738.out) | refine below_set ?_ GE734.out) | exact HB.out)))) (fun _ h_ => ⟨trivial, h_⟩)); have HI738 := aM (hi); have NB738_734 := aM (IsS108.ne_blk hi (blk_below (g := gb734) (o := .cells #[.int .i64 0, .int .i64 0, .int .i64 0, .slice none 0 0] 28 (0, 0)) TK hb2) (by decide)); have NB734_738 := aM (Ne.symm (IsS108.ne_blk hi (blk_below (g := gb734) (o := .cells #[.int .i64 0, .int .i64 0, .int .i64 0, .slice none 0 0] 28 (0, 0)) TK hb2) (by decide))); replace BK734 := aM (blk_below (g := gb734) (o := .cells #[.int .i64 0, .int .i64 0, .int .i64 0, .slice none 0 0] 28 (0, 0)) TK hb2); replace HB := aM (hb); clear hi hb hb2 ho0 ho1 ho2; obtain ⟨Ao9, co9, eo9⟩ := Kd.R_slice HO747.out; subst eo9) | ((with_reducible refine gate_dst (N := 7) rfl ?_); refine gBx 7 #[.int .i64 0, .int .i64 0, .int .i64 0, .slice none 0 0] 28 ?_; intro gb755 hg w11 hbox hb; have BK755 := aM (hbox); have GW755 := aM ((by rw [hg]; exact (below_size (by repeat (first | (with_reducible first | exact HB.out | apply below_alloc | apply pw_below_drewN | apply below_drew1 | refine below_set ?_ (IsS108.ge HI738.out) | refine below_set ?_ GE734.out) | exact HB.out))) : w.heap.size ≤ gb755)); have GE755 := aM ((by rw [hg]; exact (below_size (by repeat (first | (with_reducible first | exact HB.out | apply below_alloc | apply pw_below_drewN | apply below_drew1 | refine below_set ?_ (IsS108.ge HI738.out) | refine below_set ?_ GE734.out) | exact HB.out))) : w.heap.size ≤ gb755)); have NB734_755 := aM ((by rw [hg]; exact Nat.ne_of_lt (blk_lt (g := gb734) (o := .cells #[.int .i64 0, .int .i64 0, .int .i64 0, .slice none 0 0] 28 (0, 0)) TK) : gb734 ≠ gb755)); have NB755_734 := aM ((by rw [hg]; exact Nat.ne_of_gt (blk_lt (g := gb734) (o := .cells #[.int .i64 0, .int .i64 0, .int .i64 0, .slice none 0 0] 28 (0, 0)) TK) : gb755 ≠ gb734)); have NB738_755 := aM ((by rw [hg]; exact Nat.ne_of_lt (IsS108.lt (show IsS108 w _ g738 t735 t753 t754 from by repeat (first | (with_reducible first | exact HI738.out | apply IsS108.alloc | apply IsS108.drewN | apply IsS108.drew | apply IsS108.set_1 | apply IsS108.set_2 | refine IsS108.far ?_ NB738_734.out _) | exact HI738.out))) : g738 ≠ gb755)); have NB755_738 := aM ((by rw [hg]; exact Nat.ne_of_gt (IsS108.lt (show IsS108 w _ g738 t735 t753 t754 from by repeat (first | (with_reducible first | exact HI738.out | apply IsS108.alloc | apply IsS108.drewN | apply IsS108.drew | apply IsS108.set_1 | apply IsS108.set_2 | refine IsS108.far ?_ NB738_734.out _) | exact HI738.out))) : gb755 ≠ g738)); replace HO744 := aM (Kd.R_below (by have X_ := HO744.out; exact TR) hb); replace HO747 := aM (Kd.R_below (by have X_ := HO747.out; exact TR) hb); replace HO752 := aM (Kd.R_below (by have X_ := HO752.out; exact TR) hb); replace BK734 := aM (blk_below (g := gb734) (o := .cells #[.int .i64 0, .int .i64 0, .int .i64 0, .slice none 0 0] 28 (0, 0)) TK hb); replace HB := aM (below_step (by repeat (first | (with_reducible first | exact HB.out | apply below_alloc | apply pw_below_drewN | apply below_drew1 | refine below_set ?_ (IsS108.ge HI738.out) | refine below_set ?_ GE734.out) | exact HB.out)) hb); replace HI738 := aM (IsS108.below (by repeat (first | (with_reducible first | exact HI738.out | apply IsS108.alloc | apply IsS108.drewN | apply IsS108.drew | apply IsS108.set_1 | apply IsS108.set_2 | refine IsS108.far ?_ NB738_734.out _) | exact HI738.out)) hb); clear hb hbox hg; have hnb12 := NB755_734.out; have hnc12 := NB734_755.out; have hnb13 := NB755_738.out; have hnc13 := NB738_755.out; obtain ⟨hcz14_0, hcz14_1, hcz14_2, hcz14_3⟩ := cz4 BK755.out; obtain ⟨hfz14_0, hfz14_1, hfz14_2, hfz14_3⟩ := fz4 BK755.out; obtain ⟨Ao15, co15, eo15⟩ := Kd.R_slice HO744.out; subst eo15))
  have n0_ : Aside0 (Kd.R k48 48 ((((w11.setCell ⟨gb755, 0, none⟩ (.int .i64 t739)).setCell ⟨gb755, 1, none⟩ (.int .i64 t740)).setCell ⟨gb755, 2, none⟩ (.int .i64 t741)).setCell ⟨gb755, 3, none⟩ (.slice Ao15 t742.length co15)) w.heap.size (fun _ => True) (.slice Ao15 t742.length co15) t742) := ⟨by (with_reducible repeat (first | apply Kd.R_alloc | apply Kd.R_drewN | apply Kd.R_drew)); exact Kd.R_mono (Kd.R_far (p := ⟨gb755, 3, none⟩) (Kd.R_far (p := ⟨gb755, 2, none⟩) (Kd.R_far (p := ⟨gb755, 1, none⟩) (Kd.R_far (p := ⟨gb755, 0, none⟩) (Kd.R_types HO744.out BK755.out (by decide)) (fun _ hk => hk.2) (.int .i64 t739)) (fun _ hk => hk.2) (.int .i64 t740)) (fun _ hk => hk.2) (.int .i64 t741)) (fun _ hk => hk.2) (.slice Ao15 t742.length co15)) (fun _ hk => trivial)⟩
  have n1_ : Aside0 (Kd.R (Kd.int .u8) 5 ((((w11.setCell ⟨gb755, 0, none⟩ (.int .i64 t739)).setCell ⟨gb755, 1, none⟩ (.int .i64 t740)).setCell ⟨gb755, 2, none⟩ (.int .i64 t741)).setCell ⟨gb755, 3, none⟩ (.slice Ao15 t742.length co15)) w.heap.size (fun k_ => some k_ ≠ (v751 : Value).ownBlock) (.slice Ao9 t745.length co9) t745) := ⟨by (with_reducible repeat (first | apply Kd.R_alloc | apply Kd.R_drewN | apply Kd.R_drew)); exact Kd.R_mono (Kd.R_far (p := ⟨gb755, 3, none⟩) (Kd.R_far (p := ⟨gb755, 2, none⟩) (Kd.R_far (p := ⟨gb755, 1, none⟩) (Kd.R_far (p := ⟨gb755, 0, none⟩) (Kd.R_types HO747.out BK755.out (by decide)) (fun _ hk => hk.2) (.int .i64 t739)) (fun _ hk => hk.2) (.int .i64 t740)) (fun _ hk => hk.2) (.int .i64 t741)) (fun _ hk => hk.2) (.slice Ao15 t742.length co15)) (fun _ hk => hk.1.2)⟩
  have n2_ : Aside0 (Kd.R (Kd.int .u8) 5 ((((w11.setCell ⟨gb755, 0, none⟩ (.int .i64 t739)).setCell ⟨gb755, 1, none⟩ (.int .i64 t740)).setCell ⟨gb755, 2, none⟩ (.int .i64 t741)).setCell ⟨gb755, 3, none⟩ (.slice Ao15 t742.length co15)) w.heap.size (fun k_ => some k_ ≠ (.slice Ao9 t745.length co9 : Value).ownBlock) v751 t750) := ⟨by (with_reducible repeat (first | apply Kd.R_alloc | apply Kd.R_drewN | apply Kd.R_drew)); exact Kd.R_mono (Kd.R_far (p := ⟨gb755, 3, none⟩) (Kd.R_far (p := ⟨gb755, 2, none⟩) (Kd.R_far (p := ⟨gb755, 1, none⟩) (Kd.R_far (p := ⟨gb755, 0, none⟩) (Kd.R_types HO752.out BK755.out (by decide)) (fun _ hk => hk.2) (.int .i64 t739)) (fun _ hk => hk.2) (.int .i64 t740)) (fun _ hk => hk.2) (.int .i64 t741)) (fun _ hk => hk.2) (.slice Ao15 t742.length co15)) (fun _ hk => hk.1.2)⟩
  have n3_ : Aside0 (((((w11.setCell ⟨gb755, 0, none⟩ (.int .i64 t739)).setCell ⟨gb755, 1, none⟩ (.int .i64 t740)).setCell ⟨gb755, 2, none⟩ (.int .i64 t741)).setCell ⟨gb755, 3, none⟩ (.slice Ao15 t742.length co15)).heap[gb734]? = some (.cells #[.int .i64 0, .int .i64 0, .int .i64 0, .slice none 0 0] 28 (0, 0))) := ⟨by (with_reducible repeat (first | refine blk_drewN ?_ _ | refine blk_drew ?_ | refine blk_alloc ?_ _)); refine blk_far ?_ NB734_755.out _; (with_reducible repeat (first | refine blk_drewN ?_ _ | refine blk_drew ?_ | refine blk_alloc ?_ _)); refine blk_far ?_ NB734_755.out _; (with_reducible repeat (first | refine blk_drewN ?_ _ | refine blk_drew ?_ | refine blk_alloc ?_ _)); refine blk_far ?_ NB734_755.out _; (with_reducible repeat (first | refine blk_drewN ?_ _ | refine blk_drew ?_ | refine blk_alloc ?_ _)); refine blk_far ?_ NB734_755.out _; (with_reducible repeat (first | refine blk_drewN ?_ _ | refine blk_drew ?_ | refine blk_alloc ?_ _)); exact BK734.out⟩
  have n4_ : Aside0 (((((w11.setCell ⟨gb755, 0, none⟩ (.int .i64 t739)).setCell ⟨gb755, 1, none⟩ (.int .i64 t740)).setCell ⟨gb755, 2, none⟩ (.int .i64 t741)).setCell ⟨gb755, 3, none⟩ (.slice Ao15 t742.length co15)).heap[gb755]? = some (.cells #[.int .i64 t739, .int .i64 t740, .int .i64 t741, .slice Ao15 t742.length co15] 28 (0, 0))) := ⟨by (with_reducible repeat (first | refine blk_drewN ?_ _ | refine blk_drew ?_ | refine blk_alloc ?_ _)); refine blk_put (cs := #[.int .i64 t739, .int .i64 t740, .int .i64 t741, .slice none 0 0]) ?_ 3 _ rfl; (with_reducible repeat (first | refine blk_drewN ?_ _ | refine blk_drew ?_ | refine blk_alloc ?_ _)); refine blk_put (cs := #[.int .i64 t739, .int .i64 t740, .int .i64 0, .slice none 0 0]) ?_ 2 _ rfl; (with_reducible repeat (first | refine blk_drewN ?_ _ | refine blk_drew ?_ | refine blk_alloc ?_ _)); refine blk_put (cs := #[.int .i64 t739, .int .i64 0, .int .i64 0, .slice none 0 0]) ?_ 1 _ rfl; (with_reducible repeat (first | refine blk_drewN ?_ _ | refine blk_drew ?_ | refine blk_alloc ?_ _)); refine blk_put (cs := #[.int .i64 0, .int .i64 0, .int .i64 0, .slice none 0 0]) ?_ 0 _ rfl; (with_reducible repeat (first | refine blk_drewN ?_ _ | refine blk_drew ?_ | refine blk_alloc ?_ _)); exact BK755.out⟩
  have n5_ : Aside0 (IsS108 w ((((w11.setCell ⟨gb755, 0, none⟩ (.int .i64 t739)).setCell ⟨gb755, 1, none⟩ (.int .i64 t740)).setCell ⟨gb755, 2, none⟩ (.int .i64 t741)).setCell ⟨gb755, 3, none⟩ (.slice Ao15 t742.length co15)) g738 t735 t753 t754) := ⟨by repeat (first | (with_reducible first | exact HI738.out | apply IsS108.alloc | apply IsS108.drewN | apply IsS108.drew | apply IsS108.set_1 | apply IsS108.set_2 | refine IsS108.far ?_ NB738_734.out _ | refine IsS108.far ?_ NB738_755.out _) | exact HI738.out)⟩
  have n6_ : Aside0 (Below w.heap.size w ((((w11.setCell ⟨gb755, 0, none⟩ (.int .i64 t739)).setCell ⟨gb755, 1, none⟩ (.int .i64 t740)).setCell ⟨gb755, 2, none⟩ (.int .i64 t741)).setCell ⟨gb755, 3, none⟩ (.slice Ao15 t742.length co15))) := ⟨by repeat (first | (with_reducible first | exact HB.out | apply below_alloc | apply pw_below_drewN | apply below_drew1 | refine below_set ?_ (IsS108.ge HI738.out) | refine below_set ?_ GE734.out | refine below_set ?_ GE755.out) | exact HB.out)⟩
  (try clear HO744)
  (try clear HO747)
  (try clear HO752)
  (try clear BK734)
  (try clear BK755)
  (try clear HI738)
  (try clear HB)
  generalize ((((w11.setCell ⟨gb755, 0, none⟩ (.int .i64 t739)).setCell ⟨gb755, 1, none⟩ (.int .i64 t740)).setCell ⟨gb755, 2, none⟩ (.int .i64 t741)).setCell ⟨gb755, 3, none⟩ (.slice Ao15 t742.length co15)) = w16 at n0_ n1_ n2_ n3_ n4_ n5_ n6_ ⊢
  have HO744 := n0_
  have HO747 := n1_
  have HO752 := n2_
  have BK734 := n3_
  have BK755 := n4_
  have HI738 := n5_
  have HB := n6_
  clear n0_ n1_ n2_ n3_ n4_ n5_ n6_
  replace HO744 := aM (Kd.R_drew HO744.out)
  replace HO747 := aM (Kd.R_drew HO747.out)
  replace HO752 := aM (Kd.R_drew HO752.out)
  replace BK734 := aM (blk_drew BK734.out)
  replace BK755 := aM (blk_drew BK755.out)
  replace HI738 := aM (IsS108.drew HI738.out)
  replace HB := aM (below_drew1 HB.out)
  refine start_ (n := 8) (S := fun w' => w'.cell? ⟨gb755, 0, none⟩ = some (.int .i64 t739) ∧ w'.cell? ⟨gb755, 1, none⟩ = some (.int .i64 t740) ∧ w'.cell? ⟨gb755, 2, none⟩ = some (.int .i64 t741) ∧ w'.cell? ⟨gb755, 3, none⟩ = some (.slice Ao15 t742.length co15)) (ds := []) (Array.replicate 8 false) (by kernel_rfl) rfl rfl (cz4 BK755.out) (fun hHeld => ?_); refine with_tabW spec_DrawPlaceOf.tab2 spec_DrawPlaceOf.bits2 (fun HT_ HW_ => ?_)
  generalize w16.drew = w17 at HO744 HO747 HO752 BK734 BK755 HI738 HB HO744 HO747 HO752 hHeld ⊢
  refine pP 0 (some 14) ?_
  refine pP 2 (some 16) ?_
  refine pT 1 (some 15) ?_
  refine pO 3 (some 17) (fun K hK => ?_)
  refine gG Try.func60 #[.pointer (some ⟨g738, 0, none⟩), .int .i64 9] ?_
  with_reducible refine (spec_l1Below.calls g738 t735 t753 t754 9 t756 t757 t758 w _ ?side1 ?side2 A5.out).mono ?_
  (case side1 => repeat (first | (with_reducible first | exact HI738.out | apply IsS108.alloc | apply IsS108.drewN | apply IsS108.drew | apply IsS108.set_1 | apply IsS108.set_2 | refine IsS108.far ?_ NB738_734.out _ | refine IsS108.far ?_ NB738_755.out _) | exact HI738.out))
  (case side2 => repeat (first | (with_reducible first | exact HB.out | apply below_alloc | apply pw_below_drewN | apply below_drew1 | refine below_set ?_ (IsS108.ge HI738.out) | refine below_set ?_ GE734.out | refine below_set ?_ GE755.out) | exact HB.out))
  rintro e w18 ⟨rfl, hi, hb, hk⟩
  refine ⟨_, rfl, ?_⟩
  have n0_ := aM (KeepBut.blk hk (g' := gb734) (o := .cells #[.int .i64 0, .int .i64 0, .int .i64 0, .slice none 0 0] 28 (0, 0)) TK NB734_738.out (by simp))
  have n1_ := aM (Kd.R_mono (Kd.R_keep (IsS108.apart (show IsS108 w _ g738 t735 t753 t754 from by repeat (first | (with_reducible first | exact HI738.out | apply IsS108.alloc | apply IsS108.drewN | apply IsS108.drew | apply IsS108.set_1 | apply IsS108.set_2 | refine IsS108.far ?_ NB738_734.out _ | refine IsS108.far ?_ NB738_755.out _) | exact HI738.out)) (by have X_ := HO744.out; exact TR) (by decide)) hk (fun _ h => h.2)) (fun _ h => h.1))
  have n2_ := aM (Kd.R_mono (Kd.R_keep (IsS108.apart (show IsS108 w _ g738 t735 t753 t754 from by repeat (first | (with_reducible first | exact HI738.out | apply IsS108.alloc | apply IsS108.drewN | apply IsS108.drew | apply IsS108.set_1 | apply IsS108.set_2 | refine IsS108.far ?_ NB738_734.out _ | refine IsS108.far ?_ NB738_755.out _) | exact HI738.out)) (by have X_ := HO747.out; exact TR) (by decide)) hk (fun _ h => h.2)) (fun _ h => h.1))
  have n3_ := aM (Kd.R_mono (Kd.R_keep (IsS108.apart (show IsS108 w _ g738 t735 t753 t754 from by repeat (first | (with_reducible first | exact HI738.out | apply IsS108.alloc | apply IsS108.drewN | apply IsS108.drew | apply IsS108.set_1 | apply IsS108.set_2 | refine IsS108.far ?_ NB738_734.out _ | refine IsS108.far ?_ NB738_755.out _) | exact HI738.out)) (by have X_ := HO752.out; exact TR) (by decide)) hk (fun _ h => h.2)) (fun _ h => h.1))
  have n4_ := aM (KeepBut.blk hk (g' := gb755) (o := .cells #[.int .i64 t739, .int .i64 t740, .int .i64 t741, .slice Ao15 t742.length co15] 28 (0, 0)) TK NB755_738.out (by simp))
  have n5_ := aM (hb)
  have n6_ := aM (hi)
  clear BK734
  clear HO744
  clear HO747
  clear HO752
  clear BK755
  clear HB
  clear HI738
  have BK734 := n0_
  have HO744 := n1_
  have HO747 := n2_
  have HO752 := n3_
  have BK755 := n4_
  have HB := n5_
  have HI738 := n6_
  clear n0_ n1_ n2_ n3_ n4_ n5_ n6_
  (try clear hb)
  (try clear hb2)
  (try clear hk)
  (try clear hi)
  refine hK.out _ _ (cz4 BK755.out) (fun hHeld => ?_)
  clear hK K
  refine nR ?_
  refine pP 4 (some 18) ?_
  refine pP 5 (some 2) ?_
  refine pO 6 none (fun K hK => ?_)
  have hs19 : w18.cell? ⟨gb734, 0, none⟩ = some (.int .i64 0) := (blk_cell BK734.out 0).trans rfl
  have hfs19 := blk_frozen BK734.out 0
  have hns19_1 := NB755_734.out
  have hms19_1 := NB734_755.out
  have hs20 : w18.cell? ⟨gb734, 1, none⟩ = some (.int .i64 0) := (blk_cell BK734.out 1).trans rfl
  have hfs20 := blk_frozen BK734.out 1
  have hns20_1 := NB755_734.out
  have hms20_1 := NB734_755.out
  have hs21 : w18.cell? ⟨gb734, 2, none⟩ = some (.int .i64 0) := (blk_cell BK734.out 2).trans rfl
  have hfs21 := blk_frozen BK734.out 2
  have hns21_1 := NB755_734.out
  have hms21_1 := NB734_755.out
  have hs22 : w18.cell? ⟨gb734, 3, none⟩ = some (.slice none 0 0) := (blk_cell BK734.out 3).trans rfl
  have hfs22 := blk_frozen BK734.out 3
  have hns22_1 := NB755_734.out
  have hms22_1 := NB734_755.out
  refine skip_ (w1 := ?_) (by rfl) rfl ?_ ?_
  rotate_left
  · go_simp
    rfl
  refine hK.out _ _ ⟨((cell_far (p := ⟨gb734, _, none⟩) NB755_734.out _).trans (((cell_far (p := ⟨gb734, _, none⟩) NB755_734.out _).trans (((cell_far (p := ⟨gb734, _, none⟩) NB755_734.out _).trans (((cell_far (p := ⟨gb734, _, none⟩) NB755_734.out _).trans (hHeld.1)))))))), ((cell_far (p := ⟨gb734, _, none⟩) NB755_734.out _).trans (((cell_far (p := ⟨gb734, _, none⟩) NB755_734.out _).trans (((cell_far (p := ⟨gb734, _, none⟩) NB755_734.out _).trans (((cell_far (p := ⟨gb734, _, none⟩) NB755_734.out _).trans (hHeld.2.1)))))))), ((cell_far (p := ⟨gb734, _, none⟩) NB755_734.out _).trans (((cell_far (p := ⟨gb734, _, none⟩) NB755_734.out _).trans (((cell_far (p := ⟨gb734, _, none⟩) NB755_734.out _).trans (((cell_far (p := ⟨gb734, _, none⟩) NB755_734.out _).trans (hHeld.2.2.1)))))))), ((cell_far (p := ⟨gb734, _, none⟩) NB755_734.out _).trans (((cell_far (p := ⟨gb734, _, none⟩) NB755_734.out _).trans (((cell_far (p := ⟨gb734, _, none⟩) NB755_734.out _).trans (((cell_far (p := ⟨gb734, _, none⟩) NB755_734.out _).trans (hHeld.2.2.2))))))))⟩ (fun hHeld => ?_)
  clear hK K
  refine pP 7 (some 4) ?_
  refine done_ (done_of HT_.out (by kernel_rfl)) ?_
  try go_wp2
  refine bodyPost_ret (results_list (rs := [.tmp 2, .cell 3 28, .tmp 4]) rfl (by simp) (.tmp (.cell gb734 28 #[.int .i64 t739, .int .i64 t740, .int .i64 t741, .slice Ao15 t742.length co15] (0, 0) _ rfl (by (with_reducible repeat (first | refine blk_drewN ?_ _ | refine blk_drew ?_ | refine blk_alloc ?_ _)); refine blk_put (cs := #[.int .i64 t739, .int .i64 t740, .int .i64 t741, .slice none 0 0]) ?_ 3 _ rfl; (with_reducible repeat (first | refine blk_drewN ?_ _ | refine blk_drew ?_ | refine blk_alloc ?_ _)); refine blk_put (cs := #[.int .i64 t739, .int .i64 t740, .int .i64 0, .slice none 0 0]) ?_ 2 _ rfl; (with_reducible repeat (first | refine blk_drewN ?_ _ | refine blk_drew ?_ | refine blk_alloc ?_ _)); refine blk_put (cs := #[.int .i64 t739, .int .i64 0, .int .i64 0, .slice none 0 0]) ?_ 1 _ rfl; (with_reducible repeat (first | refine blk_drewN ?_ _ | refine blk_drew ?_ | refine blk_alloc ?_ _)); refine blk_put (cs := #[.int .i64 0, .int .i64 0, .int .i64 0, .slice none 0 0]) ?_ 0 _ rfl; (with_reducible repeat (first | refine blk_drewN ?_ _ | refine blk_drew ?_ | refine blk_alloc ?_ _)); exact BK734.out) Try.underlying28 rfl (by kernel_rfl) (.tmp .nil)))) rfl ?_
  exact ⟨_, _, by first | rfl | (simp [errW_none, errW_some] <;> rfl) | (simp [*, errW_none, errW_some] <;> rfl), by (with_reducible repeat (first | apply Kd.R_alloc | apply Kd.R_drewN | apply Kd.R_drew)); exact Kd.R_mono (Kd.R_far (p := ⟨gb734, 3, none⟩) (Kd.R_far (p := ⟨gb734, 2, none⟩) (Kd.R_far (p := ⟨gb734, 1, none⟩) (Kd.R_far (p := ⟨gb734, 0, none⟩) (Kd.R_types HO752.out BK734.out (by decide)) (fun _ hk => hk.2) (.int .i64 t739)) (fun _ hk => hk.2) (.int .i64 t740)) (fun _ hk => hk.2) (.int .i64 t741)) (fun _ hk => hk.2) (.slice Ao15 t742.length co15)) (fun _ hk => trivial), by (with_reducible repeat (first | apply Kd.R_alloc | apply Kd.R_drewN | apply Kd.R_drew)); exact Kd.R_mono (Kd.R_far (p := ⟨gb734, 3, none⟩) (Kd.R_far (p := ⟨gb734, 2, none⟩) (Kd.R_far (p := ⟨gb734, 1, none⟩) (Kd.R_far (p := ⟨gb734, 0, none⟩) (Kd.R_types HO744.out BK734.out (by decide)) (fun _ hk => hk.2) (.int .i64 t739)) (fun _ hk => hk.2) (.int .i64 t740)) (fun _ hk => hk.2) (.int .i64 t741)) (fun _ hk => hk.2) (.slice Ao15 t742.length co15)) (fun _ hk => trivial), by repeat (first | (with_reducible first | exact HB.out | apply below_alloc | apply pw_below_drewN | apply below_drew1 | refine below_set ?_ (IsS108.ge HI738.out) | refine below_set ?_ GE734.out | refine below_set ?_ GE755.out) | exact HB.out)⟩

/-! ### impl_Found: function 29 -/
def impl_Found.f (k : Nat) (l0 : List Int) (a1_0 : Int) (a1_1 : Int) (a1_2 : Int) (l1_3 : List (S48)) : Option (Int) := (impl_placed.f k l0 a1_0 a1_1 a1_2 l1_3 true).bind fun t795 => (some t795)
theorem impl_Found.mono : ∀ a0 a1 a2 a3 a4 k, LeO (impl_Found.f k a0 a1 a2 a3 a4) (impl_Found.f (k + 1) a0 a1 a2 a3 a4) := by
  intro a0 a1 a2 a3 a4 k
  have m0_ := @impl_placed.mono
  unfold impl_Found.f
  exact LM
set_option maxHeartbeats 40000000 in
set_option maxRecDepth 100000 in
theorem impl_Found.calls (k : Nat) (A0 : Option Addr) (c0 : Nat) (l0 : List Int) (ad : Int) (ac : Int) (ab : Int) (af : Option Addr) (ae : Nat) (aa : List (S48)) (r : Int) (w : World) (hr0 : Kd.C (Kd.int .u8) w A0 l0.length l0) (hc0 : l0.length ≤ c0) (ag : Kd.C k48 w af aa.length aa) (ah : aa.length ≤ ae) (h : impl_Found.f k l0 ad ac ab aa = some r) :
  Calls Try.prog 29 #[.slice A0 l0.length c0, .agg #[.int .i64 ad, .int .i64 ac, .int .i64 ab, .slice af aa.length ae]] w fun e w' => e = .returned (.int .i64 r) ∧ Below w.heap.size w w' := by
 have hu28 := Try.underlying28
 have HR0 := aM hr0
 have HC0 := aM hc0
 clear hr0 hc0
 have HR1_3 := aM ag
 have HC1_3 := aM ah
 clear ag ah
 have HB := aM (Below.refl w.heap.size w)
 have H := h
 clear h
 unfold impl_Found.f at H
 replace H := bE H
 obtain ⟨t795, A3, H⟩ := H
 obtain rfl := Option.some.inj H
 go_enter Try.func29, Try.ntmps29
 go_wp2_with (first | ((with_reducible refine gate_dst (N := 3) rfl ?_); refine gBx 3 #[.int .i64 ad, .int .i64 ac, .int .i64 ab, .slice af aa.length ae] 28 ?_; intro ai hg w4 hbox hb; have BK794 := aM (hbox); have GW794 := aM ((by rw [hg]; exact (below_size TB) : w.heap.size ≤ ai)); have GE794 := aM ((by rw [hg]; exact (below_size TB) : w.heap.size ≤ ai)); replace HB := aM (below_step TB hb); clear hb hbox hg; obtain ⟨hcz5_0, hcz5_1, hcz5_2, hcz5_3⟩ := cz4 BK794.out; obtain ⟨hfz5_0, hfz5_1, hfz5_2, hfz5_3⟩ := fz4 BK794.out) | ((with_reducible refine gate_callee (f := 71) rfl ?_); refine gL (some 7) Try.func71 #[.slice A0 l0.length c0, .agg #[.int .i64 ad, .int .i64 ac, .int .i64 ab, .slice af aa.length ae], .bool true] ?_; (with_reducible refine (impl_placed.calls k _ _ l0 ad ac ab _ _ aa true t795 _ ?side1 ?side2 ?side3 ?side4 A3.out).mono ?_); (case side1 => have X_ := (Kd.C_below HR0.out HB.out); exact TC); (case side2 => exact HC0.out); (case side3 => have X_ := (Kd.C_below HR1_3.out HB.out); exact TC); (case side4 => exact HC1_3.out); rintro e w6 ⟨rfl, hb⟩; refine ⟨_, rfl, ?_⟩; replace BK794 := aM (blk_below (by have X_ := BK794.out; exact TX) hb); replace HB := aM (below_step TB hb); clear hb))
 go_ret
 exact ⟨by first | rfl | (simp [errW_none, errW_some] <;> rfl) | (simp [*, errW_none, errW_some] <;> rfl), TB⟩

end Go.Proofs.Ytfkndpjbkndhcaa.Q
