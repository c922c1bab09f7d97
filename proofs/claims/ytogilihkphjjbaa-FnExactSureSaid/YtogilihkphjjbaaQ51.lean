/- Functions of the program as plain Lean functions, and that a call of each comes to what its function tells. Written by a program of this seat. -/
import Derived.Test.YtogilihkphjjbaaQ0
import Derived.Test.YtogilihkphjjbaaQ14
import Derived.Test.YtogilihkphjjbaaQ50
namespace Go.Proofs.Ytogilihkphjjbaa.Q
open Go.RowKit Go.Proofs.YtogilihkphjjbaaW.PrintWords Go.Proofs.YtogilihkphjjbaaW.PrintLast Go.Proofs.YtogilihkphjjbaaW.PrintMore
attribute [local go_sem] max2_int min2_int max_two min_two max_three min_three max_four min_four   -- for this text's walks alone
set_option linter.unusedVariables false
set_option linter.unusedSimpArgs false

/-! ### impl_Sure: function 48 -/
def impl_Sure.f (k : Nat) (l0_0 : List Int) (l0_1 : List Int) (a0_2 : Int) (a0_3 : Int) (a0_4 : Int) (l0_5 : List S55) : Option (List Int × List Int × Int × Int × Int × List S55) := impl_Disk_settled.f k (fun _ _ => some true) l0_0 l0_1 a0_2 a0_3 a0_4 l0_5
theorem impl_Sure.mono : ∀ y0 y1 y2 y3 y4 y5 k, LeO (impl_Sure.f k y0 y1 y2 y3 y4 y5) (impl_Sure.f (k + 1) y0 y1 y2 y3 y4 y5) := by
  intro y0 y1 y2 y3 y4 y5 k
  exact impl_Disk_settled.mono (fun _ _ => some true) (fun _ _ _ h => h) y0 y1 y2 y3 y4 y5 k
set_option maxHeartbeats 4000000 in
set_option maxRecDepth 100000 in
theorem impl_Sure.calls (k : Nat) (A0_0 : Option Addr) (c0_0 : Nat) (l0_0 : List Int) (A0_1 : Option Addr) (c0_1 : Nat) (l0_1 : List Int) (a0_2 : Int) (a0_3 : Int) (a0_4 : Int) (A0_5 : Option Addr) (c0_5 : Nat) (l0_5 : List (S55)) (r1 : List Int) (r2 : List Int) (r3 : Int) (r4 : Int) (r5 : Int) (r6 : List (S55)) (w : World) (hr0_0 : Kd.C (Kd.int .u8) w A0_0 l0_0.length l0_0) (hc0_0 : l0_0.length ≤ c0_0) (hr0_1 : Kd.C (Kd.int .u8) w A0_1 l0_1.length l0_1) (hc0_1 : l0_1.length ≤ c0_1) (hr0_5 : Kd.C k55 w A0_5 l0_5.length l0_5) (hc0_5 : l0_5.length ≤ c0_5) (h : impl_Sure.f k l0_0 l0_1 a0_2 a0_3 a0_4 l0_5 = some (r1, r2, r3, r4, r5, r6)) :
    Calls Try.prog 48 #[.agg #[.slice A0_0 l0_0.length c0_0, .slice A0_1 l0_1.length c0_1, .int .i64 a0_2, .int .i64 a0_3, .int .i64 a0_4, .slice A0_5 l0_5.length c0_5]] w fun e w' => ∃ v0_ v1_ v5_ : Value, e = .returned (.agg #[v0_, v1_, .int .i64 r3, .int .i64 r4, .int .i64 r5, v5_]) ∧ Kd.R (Kd.int .u8) 5 w' w.heap.size (fun k_ => some k_ ≠ (v1_ : Value).ownBlock) v0_ r1 ∧ Kd.R (Kd.int .u8) 5 w' w.heap.size (fun k_ => some k_ ≠ (v0_ : Value).ownBlock) v1_ r2 ∧ Kd.S k55 55 w' w.heap.size (fun k_ => some k_ ≠ (v0_ : Value).ownBlock ∧ some k_ ≠ (v1_ : Value).ownBlock) v5_ r6 ∧ Below w.heap.size w w' := by
  have hu33 := Try.underlying33
  have HR0 := aM (And.intro hr0_0 hc0_0)
  have HR1 := aM (And.intro hr0_1 hc0_1)
  have HR5 := aM (And.intro hr0_5 hc0_5)
  have HB := aM (Below.refl w.heap.size w)
  have H1 := aM (show impl_Disk_settled.f k (fun _ _ => some true) l0_0 l0_1 a0_2 a0_3 a0_4 l0_5 = some (r1, r2, r3, r4, r5, r6) from h)
  clear hr0_0 hc0_0 hr0_1 hc0_1 hr0_5 hc0_5 h
  go_enter Try.func48, Try.ntmps48
  go_wp2_with (first | ((with_reducible refine gate_dst (N := 1) rfl ?_); refine gBx 1 #[.slice A0_0 l0_0.length c0_0, .slice A0_1 l0_1.length c0_1, .int .i64 a0_2, .int .i64 a0_3, .int .i64 a0_4, .slice A0_5 l0_5.length c0_5] 33 ?_; intro g1 hg w2 hbox hb; have B1 := aM hbox; replace HB := aM (below_step HB.out hb); clear hb hbox hg; (simp only [Act.put, List.setIfInBounds_toArray, List.set_cons_zero, List.set_cons_succ])) | ((with_reducible refine gate_dst (N := 2) rfl ?_); refine gBx 2 #[.slice none 0 0, .slice none 0 0, .int .i64 0, .int .i64 0, .int .i64 0, .slice none 0 0] 33 ?_; intro g2 hg w2 hbox hb; have B2 := aM hbox; have HG2 := aM (show w.heap.size ≤ g2 by rw [hg]; exact HB.out.size); replace B1 := aM (blk_below B1.out hb); replace HB := aM (below_step HB.out hb); clear hb hbox hg; (simp only [Act.put, List.setIfInBounds_toArray, List.set_cons_zero, List.set_cons_succ])) | ((with_reducible refine gate_dst (N := 3) rfl ?_); refine gLd 3 B1.out ?_; (simp only [Act.put, List.setIfInBounds_toArray, List.set_cons_zero, List.set_cons_succ])) | ((with_reducible refine gate_callee (f := 83) rfl ?_); refine gL (some 4) Try.func83 #[.agg #[.slice A0_0 l0_0.length c0_0, .slice A0_1 l0_1.length c0_1, .int .i64 a0_2, .int .i64 a0_3, .int .i64 a0_4, .slice A0_5 l0_5.length c0_5], .func (.func 84) #[] #[]] ?_; refine (impl_Disk_settled.calls k (fun _ _ => some true) 84 Try.f84 #[] _ _ l0_0 _ _ l0_1 a0_2 a0_3 a0_4 _ _ l0_5 r1 r2 r3 r4 r5 r6 _ (Kd.C_below HR0.out.1 HB.out) HR0.out.2 (Kd.C_below HR1.out.1 HB.out) HR1.out.2 (Kd.C_below HR5.out.1 HB.out) HR5.out.2 Try.func84 (by kernel_rfl) rfl (fun _ i t w' _ ht => by cases ht; exact (impl_Sure_1.calls i true w' rfl).mono (fun e w2 q => ⟨q.1, q.2.below⟩)) H1.out).mono ?_; rintro e w5 ⟨vA, vB, vP, rfl, ho1, ho2, ho3, hb⟩; refine ⟨_, rfl, ?_⟩; have HD := aM (show Dsk w5 w.heap.size vA vB vP r1 r2 r6 from ⟨Kd.R_lower ho1 HB.out.size, Kd.R_lower ho2 HB.out.size, Kd.S_lower ho3 HB.out.size⟩); replace B2 := aM (blk_below B2.out hb); replace HB := aM (below_step HB.out hb); clear ho1 ho2 ho3 hb; obtain ⟨A1', c1', h1'⟩ := Kd.R_slice HD.out.1; subst h1'; obtain ⟨A2', c2', h2'⟩ := Kd.R_slice HD.out.2.1; subst h2'; obtain ⟨A3', c3', h3'⟩ := Kd.S_slice HD.out.2.2; subst h3'; (simp only [Act.put, List.setIfInBounds_toArray, List.set_cons_zero, List.set_cons_succ])) | ((with_reducible refine gate_store (t := 33) (p := 2) rfl ?_); refine gSt [.slice A1' r1.length c1', .slice A2' r2.length c2', .int .i64 r3, .int .i64 r4, .int .i64 r5, .slice A3' r6.length c3'] #[.slice A1' r1.length c1', .slice A2' r2.length c2', .int .i64 r3, .int .i64 r4, .int .i64 r5, .slice A3' r6.length c3'] B2.out ?_; intro w10 hw hbox; replace HD := aM (HD.out.off B2.out hw); replace B2 := aM hbox; replace HB := aM (hw.below HB.out HG2.out); clear hw hbox))
  refine bodyPost_ret (results_cell_row rfl _ _ g2 33 _ (0, 0) _ rfl B2.out hu33 rfl (by kernel_rfl)) rfl ?_
  exact ⟨_, _, _, rfl, HD.out.1, HD.out.2.1, HD.out.2.2, HB.out⟩

end Go.Proofs.Ytogilihkphjjbaa.Q
