/- Functions of the program as plain Lean functions, and that a call of each comes to what its function tells. Written by a program of this seat. -/
import Derived.Test.YtaofakpljnkplaaQ0
import Derived.Test.YtaofakpljnkplaaQ24
namespace Go.Proofs.Ytaofakpljnkplaa.Q
open Go.RowKit Go.Proofs.YtaofakpljnkplaaW.PrintWords Go.Proofs.YtaofakpljnkplaaW.PrintLast Go.Proofs.YtaofakpljnkplaaW.PrintMore
attribute [local go_sem] min2_int min_two
set_option linter.unusedVariables false
set_option linter.unusedSimpArgs false

def impl_PutRecord.f (k : Nat) (l0_0 : List Int) (l0_1 : List Int) (a0_2 : Int) (a0_3 : Int) (a0_4 : Int) (l0_5 : List (S104)) (a1_0 : Int) (a1_1 : Int) (a1_2 : Int) : Option (List Int × List Int × Int × Int × Int × (List (S104)) × Bool) := (impl_Disk_with.f k l0_0 l0_1 a0_2 a0_3 a0_4 l0_5 2 0 ([] : List Int) a1_0 a1_1 a1_2).bind fun bt635 => (some (bt635.1, bt635.2.1, bt635.2.2.1, bt635.2.2.2.1, bt635.2.2.2.2.1, bt635.2.2.2.2.2.1, bt635.2.2.2.2.2.2))
theorem impl_PutRecord.mono : ∀ a0 a1 a2 a3 a4 a5 a6 a7 a8 k, LeO (impl_PutRecord.f k a0 a1 a2 a3 a4 a5 a6 a7 a8) (impl_PutRecord.f (k + 1) a0 a1 a2 a3 a4 a5 a6 a7 a8) := by
  intro a0 a1 a2 a3 a4 a5 a6 a7 a8 k;have m0_ := @impl_Disk_with.mono;unfold impl_PutRecord.f;exact LM
set_option maxHeartbeats 40000000 in
set_option maxRecDepth 100000 in
theorem impl_PutRecord.calls {k : Nat} {A0_0 : Option Addr} {c0_0 : Nat} {l0_0 : List Int} {A0_1 : Option Addr} {c0_1 : Nat} {l0_1 : List Int} {a0_2 : Int} {a0_3 : Int} {a0_4 : Int} {A0_5 : Option Addr} {c0_5 : Nat} {l0_5 : List (S104)} {a1_0 : Int} {a1_1 : Int} {a1_2 : Int} {r1 : List Int} {r2 : List Int} {r3 : Int} {r4 : Int} {r5 : Int} {r6 : List (S104)} {r7 : Bool} {w : World} (hr0_0 : Kd.C (Kd.int .u8) w A0_0 l0_0.length l0_0) (hc0_0 : l0_0.length ≤ c0_0) (hr0_1 : Kd.C (Kd.int .u8) w A0_1 l0_1.length l0_1) (hc0_1 : l0_1.length ≤ c0_1) (hr0_5 : Kd.C k104 w A0_5 l0_5.length l0_5) (hc0_5 : l0_5.length ≤ c0_5) (h : impl_PutRecord.f k l0_0 l0_1 a0_2 a0_3 a0_4 l0_5 a1_0 a1_1 a1_2 = some (r1, r2, r3, r4, r5, r6, r7)) :
    Calls Try.prog 48 #[.agg #[.slice A0_0 l0_0.length c0_0, .slice A0_1 l0_1.length c0_1, .int .i64 a0_2, .int .i64 a0_3, .int .i64 a0_4, .slice A0_5 l0_5.length c0_5], .agg #[.int .i64 a1_0, .int .i64 a1_1, .int .i64 a1_2]] w fun e w' => ∃ v0_ v1_ v5_ : Value, e = .returned (.tuple #[.agg #[v0_, v1_, .int .i64 r3, .int .i64 r4, .int .i64 r5, v5_], .bool r7]) ∧ Kd.R (Kd.int .u8) 5 w' w.heap.size (fun k_ => some k_ ≠ (v1_ : Value).ownBlock) v0_ r1 ∧ Kd.R (Kd.int .u8) 5 w' w.heap.size (fun k_ => some k_ ≠ (v0_ : Value).ownBlock) v1_ r2 ∧ Kd.S k104 104 w' w.heap.size (fun k_ => some k_ ≠ (v0_ : Value).ownBlock ∧ some k_ ≠ (v1_ : Value).ownBlock) v5_ r6 ∧ Below w.heap.size w w' := by
  have huq1 := Try.underlying47
  have huq2 := Try.underlying44
  have huq3 := Try.underlying104
  have HRq1 := aM hr0_0
  have HCq1 := aM hc0_0
  clear hr0_0 hc0_0
  have HRq2 := aM hr0_1
  have HCq2 := aM hc0_1
  clear hr0_1 hc0_1
  have HRq3 := aM hr0_5
  have HCq3 := aM hc0_5
  clear hr0_5 hc0_5
  have HB := aM (Below.refl w.heap.size w)
  have H := h
  clear h
  unfold impl_PutRecord.f at H
  replace H := bE H
  obtain ⟨⟨tq1, tq2, tq3, tq4, tq5, tq6, tq7⟩, Aq1, H⟩ := H
  dsimp only at H
  simp only [Option.some.injEq, Prod.mk.injEq] at H
  obtain ⟨rfl, rfl, rfl, rfl, rfl, rfl, rfl⟩ := H
  go_enter Try.func48, Try.ntmps48
  go_wp2_with (first | ((with_reducible refine gate_dst (N := 2) rfl ?_); refine gBx 2 #[.slice A0_0 l0_0.length c0_0, .slice A0_1 l0_1.length c0_1, .int .i64 a0_2, .int .i64 a0_3, .int .i64 a0_4, .slice A0_5 l0_5.length c0_5] 47 ?_; intro gbq1 hg wq1 hbox hb; have BKq1 := aM (hbox); have GWq1 := gW HB hg; have GEq1 := gW HB hg; replace HB := bS HB hb; clear hb hbox hg) | ((with_reducible refine gate_dst (N := 3) rfl ?_); refine gBx 3 #[.int .i64 a1_0, .int .i64 a1_1, .int .i64 a1_2] 44 ?_; intro gbq2 hg wq2 hbox hb; have BKq2 := aM (hbox); have GWq2 := gW HB hg; have GEq2 := gW HB hg; obtain ⟨NBq1, NBq2⟩ := nB BKq1 hg; replace BKq1 := mB BKq1 hb; replace HB := bS HB hb; clear hb hbox hg) | ((with_reducible refine gate_dst (N := 4) rfl ?_); refine gBx 4 #[.slice none 0 0, .slice none 0 0, .int .i64 0, .int .i64 0, .int .i64 0, .slice none 0 0] 47 ?_; intro gbq3 hg wq3 hbox hb; have BKq3 := aM (hbox); have GWq3 := gW HB hg; have GEq3 := gW HB hg; obtain ⟨NBq3, NBq4⟩ := nB BKq1 hg; obtain ⟨NBq5, NBq6⟩ := nB BKq2 hg; replace BKq1 := mB BKq1 hb; replace BKq2 := mB BKq2 hb; replace HB := bS HB hb; clear hb hbox hg; obtain ⟨hnbq1, hncq1⟩ := oB NBq1; obtain ⟨hnbq2, hncq2⟩ := oB NBq3; obtain ⟨hczq1, hczq2, hczq3, hczq4, hczq5, hczq6⟩ := cz6 BKq1.out; obtain ⟨hfzq1, hfzq2, hfzq3, hfzq4, hfzq5, hfzq6⟩ := fz6 BKq1.out; obtain ⟨hnbq3, hncq3⟩ := oB NBq5; obtain ⟨hczq7, hczq8, hczq9⟩ := cz3 BKq2.out; obtain ⟨hfzq7, hfzq8, hfzq9⟩ := fz3 BKq2.out) | ((with_reducible refine gate_callee (f := 74) rfl ?_); refine gL (some 9) Try.func74 #[.agg #[.slice A0_0 l0_0.length c0_0, .slice A0_1 l0_1.length c0_1, .int .i64 a0_2, .int .i64 a0_3, .int .i64 a0_4, .slice A0_5 l0_5.length c0_5], .agg #[.int .i64 2, .int .i64 0, .slice none 0 0, .int .i64 a1_0, .int .i64 a1_1, .int .i64 a1_2]] ?_; (refine (impl_Disk_with.calls ?side1 ?side2 ?side3 ?side4 ?side5 ?side6 ?side7 ?side8 Aq1.out).mono ?_); (case side1 => have X_ := (Kd.C_below HRq1.out HB.out); exact TC); (case side2 => exact HCq1.out); (case side3 => have X_ := (Kd.C_below HRq2.out HB.out); exact TC); (case side4 => exact HCq2.out); (case side5 => have X_ := (Kd.C_below HRq3.out HB.out); exact TC); (case side6 => exact HCq3.out); (case side7 => exact Kd.C_nil _ _); (case side8 => exact Nat.le_refl _); rintro e wq4 ⟨vq1, vq2, vq3, rfl, hoq1, hoq2, hoq3, hb⟩; refine ⟨_, rfl, ?_⟩; have HOq1 := aM (Kd.R_lower hoq1 (below_size TB)); have HOq2 := aM (Kd.R_lower hoq2 (below_size TB)); have HOq3 := aM (Kd.S_lower hoq3 (below_size TB)); replace BKq1 := mB BKq1 hb; replace BKq2 := mB BKq2 hb; replace BKq3 := mB BKq3 hb; replace HB := bS HB hb; clear hoq1 hoq2 hoq3 hb; obtain ⟨Aoq1, coq1, eoq1⟩ := Kd.R_slice HOq1.out; subst eoq1; obtain ⟨hczq10, hczq11, hczq12, hczq13, hczq14, hczq15⟩ := cz6 BKq3.out; obtain ⟨hfzq10, hfzq11, hfzq12, hfzq13, hfzq14, hfzq15⟩ := fz6 BKq3.out; obtain ⟨Aoq2, coq2, eoq2⟩ := Kd.R_slice HOq2.out; subst eoq2; obtain ⟨Aoq3, coq3, eoq3⟩ := Kd.S_slice HOq3.out; subst eoq3))
  refine bodyPost_ret (results_ct rfl _ _ gbq3 47 #[.slice Aoq1 tq1.length coq1, .slice Aoq2 tq2.length coq2, .int .i64 tq3, .int .i64 tq4, .int .i64 tq5, .slice Aoq3 tq6.length coq3] (0, 0) _ rfl (blk_put (blk_put (blk_put (blk_put (blk_put (blk_put (cs := #[.slice none 0 0, .slice none 0 0, .int .i64 0, .int .i64 0, .int .i64 0, .slice none 0 0]) (TZ BKq3) 0 _ rfl) 1 _ rfl) 2 _ rfl) 3 _ rfl) 4 _ rfl) 5 _ rfl) Try.underlying47 rfl (by kernel_rfl)) rfl ?_
  exact ⟨_, _, _, TE, by (with_reducible repeat (first | apply Kd.R_alloc | apply Kd.R_drewN | apply Kd.R_drew)); exact Kd.R_mono (RK1 (Kd.R_types HOq1.out BKq3.out (by decide))) (fun _ hk => hk.1), by (with_reducible repeat (first | apply Kd.R_alloc | apply Kd.R_drewN | apply Kd.R_drew)); exact Kd.R_mono (RK1 (Kd.R_types HOq2.out BKq3.out (by decide))) (fun _ hk => hk.1), by (with_reducible repeat (first | apply Kd.S_alloc | apply Kd.S_drewN | apply Kd.S_drew)); exact Kd.S_mono (SK1 (Kd.S_types HOq3.out BKq3.out (by decide))) (fun _ hk => ⟨hk.1.1, hk.1.2⟩), TB⟩

end Go.Proofs.Ytaofakpljnkplaa.Q
