/- Functions of the program as plain Lean functions, and that a call of each comes to what its function tells. Written by a program of this seat. -/
import Derived.Test.YtaofakpljnkplaaQ0
import Derived.Test.YtaofakpljnkplaaQ19
import Derived.Test.YtaofakpljnkplaaQ20
import Derived.Test.YtaofakpljnkplaaQ24
namespace Go.Proofs.Ytaofakpljnkplaa.Q
open Go.RowKit Go.Proofs.YtaofakpljnkplaaW.PrintWords Go.Proofs.YtaofakpljnkplaaW.PrintLast Go.Proofs.YtaofakpljnkplaaW.PrintMore
attribute [local go_sem] min2_int min_two
set_option linter.unusedVariables false
set_option linter.unusedSimpArgs false

theorem Zq25_0 {p : Prop} (h : p := by repeat (first | exact (Kd.C_below HRq1.out TB) | (with_reducible refine Kd.C_alloc ?_ _) | (with_reducible refine Kd.C_drewN ?_ _) | (with_reducible refine Kd.C_drew ?_))) : p := h
theorem Zq25_1 {p : Prop} (h : p := by repeat (first | exact (Kd.C_below HRq2.out TB) | (with_reducible refine Kd.C_alloc ?_ _) | (with_reducible refine Kd.C_drewN ?_ _) | (with_reducible refine Kd.C_drew ?_))) : p := h
theorem Zq25_2 {p : Prop} (h : p := by repeat (first | exact (Kd.C_below HRq3.out TB) | (with_reducible refine Kd.C_alloc ?_ _) | (with_reducible refine Kd.C_drewN ?_ _) | (with_reducible refine Kd.C_drew ?_))) : p := h
def impl_PutBytes.f (k : Nat) (l0_0 : List Int) (l0_1 : List Int) (a0_2 : Int) (a0_3 : Int) (a0_4 : Int) (l0_5 : List (S104)) (a1 : Int) (a2 : Int) (l3 : List Int) : Option (List Int × List Int × Int × Int × Int × (List (S104)) × Bool) := (impl_isSlot.f a1).bind fun t545 => (if t545 = true then ((impl_Disk_with.f k l0_0 l0_1 a0_2 a0_3 a0_4 l0_5 a1 a2 l3 0 0 0).bind fun bt546 => (some (bt546.1, bt546.2.1, bt546.2.2.1, bt546.2.2.2.1, bt546.2.2.2.2.1, bt546.2.2.2.2.2.1, bt546.2.2.2.2.2.2))) else ((impl_copyDisk.f k l0_0 l0_1 a0_2 a0_3 a0_4 l0_5).bind fun bt559 => (some (bt559.1, bt559.2.1, bt559.2.2.1, bt559.2.2.2.1, bt559.2.2.2.2.1, bt559.2.2.2.2.2, false))))
theorem impl_PutBytes.mono : ∀ a0 a1 a2 a3 a4 a5 a6 a7 a8 k, LeO (impl_PutBytes.f k a0 a1 a2 a3 a4 a5 a6 a7 a8) (impl_PutBytes.f (k + 1) a0 a1 a2 a3 a4 a5 a6 a7 a8) := by
  intro a0 a1 a2 a3 a4 a5 a6 a7 a8 k;have m0_ := @impl_Disk_with.mono;have m1_ := @impl_copyDisk.mono;unfold impl_PutBytes.f;exact LM
theorem Yq25_0 {p : Prop} (h : p := by
 refine bodyPost_ret (results_ct rfl _ _ gbq2 47 #[.slice Aoq1 tq1.length coq1, .slice Aoq2 tq2.length coq2, .int .i64 tq3, .int .i64 tq4, .int .i64 tq5, .slice Aoq3 tq6.length coq3] (0, 0) _ rfl (blk_put (blk_put (blk_put (blk_put (blk_put (blk_put (cs := #[.slice none 0 0, .slice none 0 0, .int .i64 0, .int .i64 0, .int .i64 0, .slice none 0 0]) (TZ BKq2) 0 _ rfl) 1 _ rfl) 2 _ rfl) 3 _ rfl) 4 _ rfl) 5 _ rfl) Try.underlying47 rfl (by kernel_rfl)) rfl ?_;exact ⟨_, _, _, TE, by (with_reducible repeat (first | apply Kd.R_alloc | apply Kd.R_drewN | apply Kd.R_drew)); exact Kd.R_mono (RK1 (Kd.R_types HOq1.out BKq2.out (by decide))) (fun _ hk => hk.1), by (with_reducible repeat (first | apply Kd.R_alloc | apply Kd.R_drewN | apply Kd.R_drew)); exact Kd.R_mono (RK1 (Kd.R_types HOq2.out BKq2.out (by decide))) (fun _ hk => hk.1), by (with_reducible repeat (first | apply Kd.S_alloc | apply Kd.S_drewN | apply Kd.S_drew)); exact Kd.S_mono (SK1 (Kd.S_types HOq3.out BKq2.out (by decide))) (fun _ hk => ⟨hk.1.1, hk.1.2⟩), TB⟩) : p := h
set_option maxHeartbeats 40000000 in
set_option maxRecDepth 100000 in
theorem impl_PutBytes.calls {k : Nat} {A0_0 : Option Addr} {c0_0 : Nat} {l0_0 : List Int} {A0_1 : Option Addr} {c0_1 : Nat} {l0_1 : List Int} {a0_2 : Int} {a0_3 : Int} {a0_4 : Int} {A0_5 : Option Addr} {c0_5 : Nat} {l0_5 : List (S104)} {a1 : Int} {a2 : Int} {A3 : Option Addr} {c3 : Nat} {l3 : List Int} {r1 : List Int} {r2 : List Int} {r3 : Int} {r4 : Int} {r5 : Int} {r6 : List (S104)} {r7 : Bool} {w : World} (hr0_0 : Kd.C (Kd.int .u8) w A0_0 l0_0.length l0_0) (hc0_0 : l0_0.length ≤ c0_0) (hr0_1 : Kd.C (Kd.int .u8) w A0_1 l0_1.length l0_1) (hc0_1 : l0_1.length ≤ c0_1) (hr0_5 : Kd.C k104 w A0_5 l0_5.length l0_5) (hc0_5 : l0_5.length ≤ c0_5) (hr3 : Kd.C (Kd.int .u8) w A3 l3.length l3) (hc3 : l3.length ≤ c3) (h : impl_PutBytes.f k l0_0 l0_1 a0_2 a0_3 a0_4 l0_5 a1 a2 l3 = some (r1, r2, r3, r4, r5, r6, r7)) :
    Calls Try.prog 73 #[.agg #[.slice A0_0 l0_0.length c0_0, .slice A0_1 l0_1.length c0_1, .int .i64 a0_2, .int .i64 a0_3, .int .i64 a0_4, .slice A0_5 l0_5.length c0_5], .int .i64 a1, .int .i64 a2, .slice A3 l3.length c3] w fun e w' => ∃ v0_ v1_ v5_ : Value, e = .returned (.tuple #[.agg #[v0_, v1_, .int .i64 r3, .int .i64 r4, .int .i64 r5, v5_], .bool r7]) ∧ Kd.R (Kd.int .u8) 5 w' w.heap.size (fun k_ => some k_ ≠ (v1_ : Value).ownBlock) v0_ r1 ∧ Kd.R (Kd.int .u8) 5 w' w.heap.size (fun k_ => some k_ ≠ (v0_ : Value).ownBlock) v1_ r2 ∧ Kd.S k104 104 w' w.heap.size (fun k_ => some k_ ≠ (v0_ : Value).ownBlock ∧ some k_ ≠ (v1_ : Value).ownBlock) v5_ r6 ∧ Below w.heap.size w w' := by
 have huq1 := Try.underlying47
 have huq2 := Try.underlying104
 have HRq1 := aM hr0_0
 have HCq1 := aM hc0_0
 clear hr0_0 hc0_0
 have HRq2 := aM hr0_1
 have HCq2 := aM hc0_1
 clear hr0_1 hc0_1
 have HRq3 := aM hr0_5
 have HCq3 := aM hc0_5
 clear hr0_5 hc0_5
 have HRq4 := aM hr3
 have HCq4 := aM hc3
 clear hr3 hc3
 have HB := aM (Below.refl w.heap.size w)
 have H := h
 clear h
 unfold impl_PutBytes.f at H
 replace H := bE H
 obtain ⟨t545, Aq1, H⟩ := H
 go_enter Try.func73, Try.ntmps73
 go_wp2_with (first | ((with_reducible refine gate_dst (N := 4) rfl ?_); refine gBx 4 #[.slice A0_0 l0_0.length c0_0, .slice A0_1 l0_1.length c0_1, .int .i64 a0_2, .int .i64 a0_3, .int .i64 a0_4, .slice A0_5 l0_5.length c0_5] 47 ?_; intro gbq1 hg wq1 hbox hb; have BKq1 := aM (hbox); have GWq1 := gW HB hg; have GEq1 := gW HB hg; replace HB := bS HB hb; clear hb hbox hg) | ((with_reducible refine gate_dst (N := 8) rfl ?_); refine gBx 8 #[.slice none 0 0, .slice none 0 0, .int .i64 0, .int .i64 0, .int .i64 0, .slice none 0 0] 47 ?_; intro gbq2 hg wq2 hbox hb; have BKq2 := aM (hbox); have GWq2 := gW HB hg; have GEq2 := gW HB hg; obtain ⟨NBq1, NBq2⟩ := nB BKq1 hg; replace BKq1 := mB BKq1 hb; replace HB := bS HB hb; clear hb hbox hg) | ((with_reducible refine gate_callee (f := 91) rfl ?_); refine gL (some 11) Try.func91 #[.int .i64 a1] ?_; (with_reducible refine (impl_isSlot.calls Aq1.out).mono ?_); rintro e w' ⟨rfl, ⟨nd, rfl⟩⟩; refine ⟨_, rfl, ?_⟩) | ((with_reducible refine gate_dst (N := 12) rfl ?_); generalize hG_ : wpList _ _ _ _ _ _ = G_))
 subst hG_
 obtain ⟨hnbq1, hncq1⟩ := oB NBq1
 obtain ⟨hczq1, hczq2, hczq3, hczq4, hczq5, hczq6⟩ := cz6 BKq1.out
 obtain ⟨hfzq1, hfzq2, hfzq3, hfzq4, hfzq5, hfzq6⟩ := fz6 BKq1.out
 by_cases cq1 : t545 = true
 ·subst cq1
  replace H := ifT H
  replace H := bE H
  obtain ⟨⟨tq1, tq2, tq3, tq4, tq5, tq6, tq7⟩, Aq2, H⟩ := H
  dsimp only at H
  simp only [Option.some.injEq, Prod.mk.injEq] at H
  obtain ⟨rfl, rfl, rfl, rfl, rfl, rfl, rfl⟩ := H
  go_wp2_with (first | ((with_reducible refine gate_callee (f := 74) rfl ?_); refine gL (some 20) Try.func74 #[.agg #[.slice A0_0 l0_0.length c0_0, .slice A0_1 l0_1.length c0_1, .int .i64 a0_2, .int .i64 a0_3, .int .i64 a0_4, .slice A0_5 l0_5.length c0_5], .agg #[.int .i64 a1, .int .i64 a2, .slice A3 l3.length c3, .int .i64 0, .int .i64 0, .int .i64 0]] ?_; (with_reducible refine (impl_Disk_with.calls ?side1 ?side2 ?side3 ?side4 ?side5 ?side6 ?side7 ?side8 Aq2.out).mono ?_); (case side1 => exact Zq25_0); (case side2 => exact HCq1.out); (case side3 => exact Zq25_1); (case side4 => exact HCq2.out); (case side5 => exact Zq25_2); (case side6 => exact HCq3.out); (case side7 => repeat (first | exact (Kd.C_below HRq4.out TB) | (with_reducible refine Kd.C_alloc ?_ _) | (with_reducible refine Kd.C_drewN ?_ _) | (with_reducible refine Kd.C_drew ?_))); (case side8 => exact HCq4.out); rintro e wq3 ⟨vq1, vq2, vq3, rfl, hoq1, hoq2, hoq3, hb⟩; refine ⟨_, rfl, ?_⟩; have HOq1 := aM (Kd.R_lower hoq1 (below_size TB)); have HOq2 := aM (Kd.R_lower hoq2 (below_size TB)); have HOq3 := aM (Kd.S_lower hoq3 (below_size TB)); replace BKq1 := mB BKq1 hb; replace BKq2 := mB BKq2 hb; replace HB := bS HB hb; clear hoq1 hoq2 hoq3 hb; obtain ⟨Aoq1, coq1, eoq1⟩ := Kd.R_slice HOq1.out; subst eoq1; obtain ⟨hczq7, hczq8, hczq9, hczq10, hczq11, hczq12⟩ := cz6 BKq2.out; obtain ⟨hfzq7, hfzq8, hfzq9, hfzq10, hfzq11, hfzq12⟩ := fz6 BKq2.out; obtain ⟨Aoq2, coq2, eoq2⟩ := Kd.R_slice HOq2.out; subst eoq2; obtain ⟨Aoq3, coq3, eoq3⟩ := Kd.S_slice HOq3.out; subst eoq3))
  exact Yq25_0
 ·replace cq1 := b_F cq1
  subst cq1
  replace H := ifF H
  replace H := bE H
  obtain ⟨⟨tq1, tq2, tq3, tq4, tq5, tq6⟩, Aq2, H⟩ := H
  dsimp only at H
  simp only [Option.some.injEq, Prod.mk.injEq] at H
  obtain ⟨rfl, rfl, rfl, rfl, rfl, rfl, rfl⟩ := H
  go_wp2_with (first | ((with_reducible refine gate_callee (f := 49) rfl ?_); refine gL (some 14) Try.func49 #[.agg #[.slice A0_0 l0_0.length c0_0, .slice A0_1 l0_1.length c0_1, .int .i64 a0_2, .int .i64 a0_3, .int .i64 a0_4, .slice A0_5 l0_5.length c0_5]] ?_; (with_reducible refine (impl_copyDisk.calls ?side1 ?side2 ?side3 ?side4 ?side5 ?side6 Aq2.out).mono ?_); (case side1 => exact Zq25_0); (case side2 => exact HCq1.out); (case side3 => exact Zq25_1); (case side4 => exact HCq2.out); (case side5 => exact Zq25_2); (case side6 => exact HCq3.out); rintro e wq3 ⟨vq1, vq2, vq3, rfl, hoq1, hoq2, hoq3, hb⟩; refine ⟨_, rfl, ?_⟩; have HOq1 := aM (Kd.R_lower hoq1 (below_size TB)); have HOq2 := aM (Kd.R_lower hoq2 (below_size TB)); have HOq3 := aM (Kd.S_lower hoq3 (below_size TB)); replace BKq1 := mB BKq1 hb; replace BKq2 := mB BKq2 hb; replace HB := bS HB hb; clear hoq1 hoq2 hoq3 hb; obtain ⟨Aoq1, coq1, eoq1⟩ := Kd.R_slice HOq1.out; subst eoq1; obtain ⟨hczq7, hczq8, hczq9, hczq10, hczq11, hczq12⟩ := cz6 BKq2.out; obtain ⟨hfzq7, hfzq8, hfzq9, hfzq10, hfzq11, hfzq12⟩ := fz6 BKq2.out; obtain ⟨Aoq2, coq2, eoq2⟩ := Kd.R_slice HOq2.out; subst eoq2; obtain ⟨Aoq3, coq3, eoq3⟩ := Kd.S_slice HOq3.out; subst eoq3))
  exact Yq25_0
end Go.Proofs.Ytaofakpljnkplaa.Q
