/- Functions of the program as plain Lean functions, and that a call of each comes to what its function tells. Written by a program of this seat. -/
import Derived.Test.YtanpaipapcjpoaaQ0
import Derived.Test.YtanpaipapcjpoaaQ2
import Derived.Test.YtanpaipapcjpoaaQ30
import Derived.Test.YtanpaipapcjpoaaQ34
namespace Go.Proofs.Ytanpaipapcjpoaa.Q
open Go.RowKit Go.Proofs.YtanpaipapcjpoaaW.PrintWords Go.Proofs.YtanpaipapcjpoaaW.PrintLast Go.Proofs.YtanpaipapcjpoaaW.PrintMore
attribute [local go_sem] min2_int min_two
set_option linter.unusedVariables false
set_option linter.unusedSimpArgs false

def spec_ManOf.f (k : Nat) (a0 : Int) (l1 : List Int) (a2 : Int) : Option (Int × Int × Int × (List (S83))) := (spec_l1In.f a0 1 1000000).bind fun t849 => (if t849 = true then ((spec_SizeOk.f a2 (l1.length : Int)).bind fun t850 => (if t850 = true then ((spec_SumsOf.f k l1 a2).bind fun t851 => (some (a0, a2, (l1.length : Int), t851))) else (some (0, 0, 0, ([] : List (S83)))))) else (some (0, 0, 0, ([] : List (S83)))))
theorem spec_ManOf.mono : ∀ a0 a1 a2 k, LeO (spec_ManOf.f k a0 a1 a2) (spec_ManOf.f (k + 1) a0 a1 a2) := by
  intro a0 a1 a2 k;have m0_ := @spec_SumsOf.mono;unfold spec_ManOf.f;exact LM
set_option maxHeartbeats 40000000 in
set_option maxRecDepth 100000 in
theorem spec_ManOf.calls (k : Nat) (a0 : Int) (A1 : Option Addr) (c1 : Nat) (l1 : List Int) (a2 : Int) (r1 : Int) (r2 : Int) (r3 : Int) (r4 : List (S83)) (w : World) (hr1 : Kd.C (Kd.int .u8) w A1 l1.length l1) (hc1 : l1.length ≤ c1) (h : spec_ManOf.f k a0 l1 a2 = some (r1, r2, r3, r4)) :
    Calls Try.prog 94 #[.int .i64 a0, .slice A1 l1.length c1, .int .i64 a2] w fun e w' => ∃ v3_ : Value, e = .returned (.agg #[.int .i64 r1, .int .i64 r2, .int .i64 r3, v3_]) ∧ Kd.R k83 83 w' w.heap.size (fun _ => True) v3_ r4 ∧ Below w.heap.size w w' := by
  have hu25 := Try.underlying25
  have HR1 := aM hr1
  have HC1 := aM hc1
  clear hr1 hc1
  have HB := aM (Below.refl w.heap.size w)
  have H := h
  clear h
  unfold spec_ManOf.f at H
  replace H := bE H
  obtain ⟨t849, A4, H⟩ := H
  go_enter Try.func94, Try.ntmps94
  go_wp2_with (first | ((with_reducible refine gate_dst (N := 6) rfl ?_); (try (refine gate_guard (by rfl) ?_; dsimp only)); refine gBx 6 #[.int .i64 0, .int .i64 0, .int .i64 0, .slice none 0 0] 25 ?_; intro gb848 hg w6 hbox hb; have BK848 := aM (hbox); have GW848 := gW HB hg; have GE848 := gW HB hg; replace HB := bS HB hb; clear hb hbox hg) | ((with_reducible refine gate_callee (f := 51) rfl ?_); refine gL (some 8) Try.func51 #[.int .i64 a0, .int .i64 1, .int .i64 1000000] ?_; (with_reducible refine (spec_l1In.calls a0 1 1000000 t849 _ A4.out).mono ?_); rintro e w' ⟨rfl, ⟨nd, rfl⟩⟩; refine ⟨_, rfl, ?_⟩) | ((with_reducible refine gate_dst (N := 9) rfl ?_); generalize hG_ : wpList _ _ _ _ _ _ = G_))
  subst hG_
  by_cases c7 : t849 = true
  · subst c7
    replace H := ifT H
    replace H := bE H
    obtain ⟨t850, A8, H⟩ := H
    by_cases c9 : t850 = true
    · subst c9
      replace H := ifT H
      replace H := bE H
      obtain ⟨t851, A10, H⟩ := H
      simp only [Option.some.injEq, Prod.mk.injEq] at H
      obtain ⟨rfl, rfl, rfl, rfl⟩ := H
      go_wp2_with (first | (go_at_call 86; (with_reducible refine (spec_SizeOk.calls a2 (l1.length : Int) true _ A8.out).mono ?_); rintro e w' ⟨rfl, ⟨nd, rfl⟩⟩; (try (rw [drewN_self w6]; generalize hq_ : World.drewN w6 _ = w6; have n0_ : Aside0 (w6.heap[gb848]? = some (.cells #[.int .i64 0, .int .i64 0, .int .i64 0, .slice none 0 0] 25 (0, 0))) := ⟨by rw [← hq_]; exact TK⟩; have n1_ : Aside0 (Below w.heap.size w w6) := ⟨by rw [← hq_]; exact TB⟩; clear BK848 HB hq_; have BK848 := n0_; have HB := n1_; clear n0_ n1_))) | ((with_reducible refine gate_callee (f := 100) rfl ?_); refine gL (some 24) Try.func100 #[.slice A1 l1.length c1, .int .i64 a2] ?_; (with_reducible refine (spec_SumsOf.calls k _ _ l1 a2 t851 _ ?side1 ?side2 A10.out).mono ?_); (case side1 => have X_ := (Kd.C_below HR1.out HB.out); exact TC); (case side2 => exact HC1.out); rintro e w11 ⟨v852, rfl, ho0, hb⟩; refine ⟨_, rfl, ?_⟩; have HO853 := aM (Kd.R_lower ho0 (below_size TB)); replace BK848 := mB BK848 hb; replace HB := bS HB hb; clear ho0 hb; obtain ⟨Ao12, co12, eo12⟩ := Kd.R_slice HO853.out; subst eo12; obtain ⟨hcz13_0, hcz13_1, hcz13_2, hcz13_3⟩ := cz4 BK848.out; obtain ⟨hfz13_0, hfz13_1, hfz13_2, hfz13_3⟩ := fz4 BK848.out))
      refine bodyPost_ret (results_cell_row rfl _ _ gb848 25 #[.int .i64 a0, .int .i64 a2, .int .i64 (l1.length : Int), .slice Ao12 t851.length co12] (0, 0) _ rfl (blk_put (blk_put (blk_put (blk_put (cs := #[.int .i64 0, .int .i64 0, .int .i64 0, .slice none 0 0]) (TZ BK848) 0 _ rfl) 1 _ rfl) 2 _ rfl) 3 _ rfl) Try.underlying25 rfl (by kernel_rfl)) rfl ?_
      exact ⟨_, TE, by (with_reducible repeat (first | apply Kd.R_alloc | apply Kd.R_drewN | apply Kd.R_drew)); exact Kd.R_mono (RK1 (Kd.R_types HO853.out BK848.out (by decide))) (fun _ hk => trivial), TB⟩
    · replace c9 := Bool.eq_false_iff.mpr c9
      subst c9
      replace H := ifF H
      simp only [Option.some.injEq, Prod.mk.injEq] at H
      obtain ⟨rfl, rfl, rfl, rfl⟩ := H
      go_wp2_with (first | (go_at_call 86; (with_reducible refine (spec_SizeOk.calls a2 (l1.length : Int) false _ A8.out).mono ?_); rintro e w' ⟨rfl, ⟨nd, rfl⟩⟩; (try (rw [drewN_self w6]; generalize hq_ : World.drewN w6 _ = w6; have n0_ : Aside0 (w6.heap[gb848]? = some (.cells #[.int .i64 0, .int .i64 0, .int .i64 0, .slice none 0 0] 25 (0, 0))) := ⟨by rw [← hq_]; exact TK⟩; have n1_ : Aside0 (Below w.heap.size w w6) := ⟨by rw [← hq_]; exact TB⟩; clear BK848 HB hq_; have BK848 := n0_; have HB := n1_; clear n0_ n1_)); obtain ⟨hcz14_0, hcz14_1, hcz14_2, hcz14_3⟩ := cz4 BK848.out; obtain ⟨hfz14_0, hfz14_1, hfz14_2, hfz14_3⟩ := fz4 BK848.out))
      refine bodyPost_ret (results_cell_row rfl _ _ gb848 25 #[.int .i64 0, .int .i64 0, .int .i64 0, .slice none 0 0] (0, 0) _ rfl (blk_put (blk_put (blk_put (blk_put (cs := #[.int .i64 0, .int .i64 0, .int .i64 0, .slice none 0 0]) (TZ BK848) 0 _ rfl) 1 _ rfl) 2 _ rfl) 3 _ rfl) Try.underlying25 rfl (by kernel_rfl)) rfl ?_
      exact ⟨_, TE, by first | exact Kd.R_nil _ _ _ _ _ | exact Kd.N_nil _ _ _ _ _ | exact Kd.V_nil _ _ _ _ _ | exact Kd.Q_nil _ _ _ _ _ | exact Kd.S_nil _ _ _ _ _, TB⟩
  · replace c7 := Bool.eq_false_iff.mpr c7
    subst c7
    replace H := ifF H
    simp only [Option.some.injEq, Prod.mk.injEq] at H
    obtain ⟨rfl, rfl, rfl, rfl⟩ := H
    obtain ⟨hcz15_0, hcz15_1, hcz15_2, hcz15_3⟩ := cz4 BK848.out
    obtain ⟨hfz15_0, hfz15_1, hfz15_2, hfz15_3⟩ := fz4 BK848.out
    go_wp2
    refine bodyPost_ret (results_cell_row rfl _ _ gb848 25 #[.int .i64 0, .int .i64 0, .int .i64 0, .slice none 0 0] (0, 0) _ rfl (blk_put (blk_put (blk_put (blk_put (cs := #[.int .i64 0, .int .i64 0, .int .i64 0, .slice none 0 0]) (TZ BK848) 0 _ rfl) 1 _ rfl) 2 _ rfl) 3 _ rfl) Try.underlying25 rfl (by kernel_rfl)) rfl ?_
    exact ⟨_, TE, by first | exact Kd.R_nil _ _ _ _ _ | exact Kd.N_nil _ _ _ _ _ | exact Kd.V_nil _ _ _ _ _ | exact Kd.Q_nil _ _ _ _ _ | exact Kd.S_nil _ _ _ _ _, TB⟩

def spec_l6Draw.f (k : Nat) (s0_0 : List Int) (s0_1 : Int) (s0_2 : Int) : Option (Int × Int × Int × (List (S83)) × List Int × Int × Int) := (spec_l6Image.f k s0_0 s0_1 s0_2).bind fun bt855 => ((spec_l1Below.f s0_0 bt855.2.1 bt855.2.2 5).bind fun bt860 => ((spec_l1Below.f s0_0 bt860.2.1 bt860.2.2 5).bind fun bt863 => ((spec_ManOf.f k (wrap64 (1 + bt860.1)) bt855.1 (wrap64 (2 + bt863.1))).bind fun bt866 => (some (bt866.1, bt866.2.1, bt866.2.2.1, bt866.2.2.2, bt855.1, bt863.2.1, bt863.2.2)))))
theorem spec_l6Draw.mono : ∀ a0 a1 a2 k, LeO (spec_l6Draw.f k a0 a1 a2) (spec_l6Draw.f (k + 1) a0 a1 a2) := by
  intro a0 a1 a2 k;have m0_ := @spec_ManOf.mono;have m1_ := @spec_l6Image.mono;unfold spec_l6Draw.f;exact LM
set_option maxHeartbeats 40000000 in
set_option maxRecDepth 100000 in
theorem spec_l6Draw.calls (k : Nat) (g : Nat) (s0_0 : List Int) (s0_1 : Int) (s0_2 : Int) (r1 : Int) (r2 : Int) (r3 : Int) (r4 : List (S83)) (r5 : List Int) (r6 : Int) (r7 : Int) (w0 w : World) (hI : IsS69 w0 w g s0_0 s0_1 s0_2) (hB : Below w0.heap.size w0 w) (h : spec_l6Draw.f k s0_0 s0_1 s0_2 = some (r1, r2, r3, r4, r5, r6, r7)) :
    Calls Try.prog 67 #[.pointer (some ⟨g, 0, none⟩)] w fun e w' => ∃ v3_ v4_ : Value, e = .returned (.tuple #[.agg #[.int .i64 r1, .int .i64 r2, .int .i64 r3, v3_], v4_]) ∧ Kd.R k83 83 w' w.heap.size (fun _ => True) v3_ r4 ∧ Kd.R (Kd.int .u8) 5 w' w.heap.size (fun _ => True) v4_ r5 ∧ IsS69 w0 w' g s0_0 r6 r7 ∧ Below w0.heap.size w0 w' ∧ KeepBut w w' g none := by
  have hu25 := Try.underlying25
  have HI0 := aM hI
  have HK := aM (KeepBut.refl w g none)
  have HL := aM hB.size
  clear hI
  have HW0 := aM hB.size
  have HB := aM hB
  clear hB
  have H := h
  clear h
  unfold spec_l6Draw.f at H
  replace H := bE H
  obtain ⟨⟨t855, t858, t859⟩, A2, H⟩ := H
  dsimp only at H
  replace H := bE H
  obtain ⟨⟨t860, t861, t862⟩, A3, H⟩ := H
  dsimp only at H
  replace H := bE H
  obtain ⟨⟨t863, t864, t865⟩, A4, H⟩ := H
  dsimp only at H
  replace H := bE H
  obtain ⟨⟨t866, t867, t868, t869⟩, A5, H⟩ := H
  dsimp only at H
  simp only [Option.some.injEq, Prod.mk.injEq] at H
  obtain ⟨rfl, rfl, rfl, rfl, rfl, rfl, rfl⟩ := H
  go_enter Try.func67, Try.ntmps67
  go_wp2_with (first | ((with_reducible refine gate_dst (N := 2) rfl ?_); refine gBx 2 #[.int .i64 0, .int .i64 0, .int .i64 0, .slice none 0 0] 25 ?_; intro gb854 hg w6 hbox hb; have BK854 := aM (hbox); have GW854 := aM ((by rw [hg]; exact (keep_size (w := w) (g := g) (row := none) (TH HK)) : w.heap.size ≤ gb854)); have GE854 := aM ((Nat.le_trans HW0.out (by rw [hg]; exact (keep_size (w := w) (g := g) (row := none) (TH HK)) : w.heap.size ≤ gb854) : w0.heap.size ≤ gb854)); have NB0_854 := aM ((by rw [hg]; exact Nat.ne_of_lt (IsS69.lt (show IsS69 w0 _ g s0_0 s0_1 s0_2 from TI69 HI0)) : g ≠ gb854)); have NB854_0 := aM ((by rw [hg]; exact Nat.ne_of_gt (IsS69.lt (show IsS69 w0 _ g s0_0 s0_1 s0_2 from TI69 HI0)) : gb854 ≠ g)); replace HK := aM (KeepBut.trans (TH HK) (KeepBut.of_below hb g none) (.inl rfl)); replace HB := aM (below_step (TG69 HB HI0) hb); replace HI0 := aM (IsS69.below (TI69 HI0) hb); clear hb hbox hg) | ((with_reducible refine gate_callee (f := 93) rfl ?_); refine gL (some 6) Try.func93 #[.pointer (some ⟨g, 0, none⟩)] ?_; (with_reducible refine (spec_l6Image.calls k g s0_0 s0_1 s0_2 t855 t858 t859 w0 _ ?side1 ?side2 A2.out).mono ?_); (case side1 => exact TI69 HI0); (case side2 => exact TG69 HB HI0); rintro e w7 ⟨v856, rfl, ho0, hi, hb, hk⟩; refine ⟨_, rfl, ?_⟩; have HO857 := aM (Kd.R_lower ho0 (keep_size (w := w) (g := g) (row := none) (TH HK))); replace BK854 := aM (KeepBut.blk hk (g' := gb854) (o := .cells #[.int .i64 0, .int .i64 0, .int .i64 0, .slice none 0 0] 25 (0, 0)) TK NB854_0.out (by simp)); replace HK := aM (KeepBut.trans (TH HK) hk (.inl rfl)); replace HB := aM (hb); replace HI0 := aM (hi); (try clear hb); (try clear hb2); (try clear hk); (try clear hi); (try clear ho0)) | ((with_reducible refine gate_callee (f := 61) rfl ?_); refine gL (some 8) Try.func61 #[.pointer (some ⟨g, 0, none⟩), .int .i64 5] ?_; (with_reducible refine (spec_l1Below.calls g s0_0 t858 t859 5 t860 t861 t862 w0 _ ?side1 ?side2 A3.out).mono ?_); (case side1 => exact TI69 HI0); (case side2 => exact TG69 HB HI0); rintro e w8 ⟨rfl, hi, hb, hk⟩; refine ⟨_, rfl, ?_⟩; replace BK854 := aM (KeepBut.blk hk (g' := gb854) (o := .cells #[.int .i64 0, .int .i64 0, .int .i64 0, .slice none 0 0] 25 (0, 0)) TK NB854_0.out (by simp)); replace HO857 := aM (Kd.R_mono (Kd.R_keep (IsS69.apart (show IsS69 w0 _ g s0_0 t858 t859 from TI69 HI0) (TRf HO857) (by decide)) hk (fun _ h => h.2)) (fun _ h => h.1)); replace HK := aM (KeepBut.trans (TH HK) hk (.inl rfl)); replace HB := aM (hb); replace HI0 := aM (hi); (try clear hb); (try clear hb2); (try clear hk); (try clear hi)) | ((with_reducible refine gate_callee (f := 61) rfl ?_); refine gL (some 12) Try.func61 #[.pointer (some ⟨g, 0, none⟩), .int .i64 5] ?_; (with_reducible refine (spec_l1Below.calls g s0_0 t861 t862 5 t863 t864 t865 w0 _ ?side1 ?side2 A4.out).mono ?_); (case side1 => exact TI69 HI0); (case side2 => exact TG69 HB HI0); rintro e w9 ⟨rfl, hi, hb, hk⟩; refine ⟨_, rfl, ?_⟩; replace BK854 := aM (KeepBut.blk hk (g' := gb854) (o := .cells #[.int .i64 0, .int .i64 0, .int .i64 0, .slice none 0 0] 25 (0, 0)) TK NB854_0.out (by simp)); replace HO857 := aM (Kd.R_mono (Kd.R_keep (IsS69.apart (show IsS69 w0 _ g s0_0 t861 t862 from TI69 HI0) (TRf HO857) (by decide)) hk (fun _ h => h.2)) (fun _ h => h.1)); replace HK := aM (KeepBut.trans (TH HK) hk (.inl rfl)); replace HB := aM (hb); replace HI0 := aM (hi); (try clear hb); (try clear hb2); (try clear hk); (try clear hi); obtain ⟨Ao10, co10, eo10⟩ := Kd.R_slice HO857.out; subst eo10) | ((with_reducible refine gate_callee (f := 94) rfl ?_); refine gL (some 14) Try.func94 #[.int .i64 (wrap64 (1 + t860)), .slice Ao10 t855.length co10, .int .i64 (wrap64 (2 + t863))] ?_; (with_reducible refine (spec_ManOf.calls k (wrap64 (1 + t860)) _ _ t855 (wrap64 (2 + t863)) t866 t867 t868 t869 _ ?side1 ?side2 A5.out).mono ?_); (case side1 => have X_ := (Kd.R_reads' HO857.out).2.2; exact TC); (case side2 => exact (Kd.R_reads' HO857.out).2.1); rintro e w11 ⟨v870, rfl, ho0, hb⟩; refine ⟨_, rfl, ?_⟩; have HO871 := aM (Kd.R_lower ho0 (keep_size (w := w) (g := g) (row := none) (TH HK))); replace HO857 := mR HO857 hb; replace BK854 := mB BK854 hb; replace HK := aM (KeepBut.trans (TH HK) (KeepBut.of_below hb g none) (.inl rfl)); replace HB := aM (below_step (TG69 HB HI0) hb); replace HI0 := aM (IsS69.below (TI69 HI0) hb); (try clear hb); (try clear hb2); (try clear hk); (try clear hi); (try clear ho0); obtain ⟨hnb12, hnc12⟩ := oB NB854_0; obtain ⟨hcz13_0, hcz13_1, hcz13_2, hcz13_3⟩ := cz4 BK854.out; obtain ⟨hfz13_0, hfz13_1, hfz13_2, hfz13_3⟩ := fz4 BK854.out; obtain ⟨Ao14, co14, eo14⟩ := Kd.R_slice HO871.out; subst eo14))
  refine bodyPost_ret (results_ct rfl _ _ gb854 25 #[.int .i64 t866, .int .i64 t867, .int .i64 t868, .slice Ao14 t869.length co14] (0, 0) _ rfl (blk_put (blk_put (blk_put (blk_put (cs := #[.int .i64 0, .int .i64 0, .int .i64 0, .slice none 0 0]) (TZ BK854) 0 _ rfl) 1 _ rfl) 2 _ rfl) 3 _ rfl) Try.underlying25 rfl (by kernel_rfl)) rfl ?_
  exact ⟨_, _, TE, by (with_reducible repeat (first | apply Kd.R_alloc | apply Kd.R_drewN | apply Kd.R_drew)); exact Kd.R_mono (RK1 (Kd.R_types HO871.out BK854.out (by decide))) (fun _ hk => trivial), by (with_reducible repeat (first | apply Kd.R_alloc | apply Kd.R_drewN | apply Kd.R_drew)); exact Kd.R_mono (RK1 (Kd.R_types HO857.out BK854.out (by decide))) (fun _ hk => trivial), TI69 HI0, TG69 HB HI0, TH HK⟩

def spec_l1Once.f (s0_0 : List Int) (s0_1 : Int) (s0_2 : Int) (a1 : Int) : Option (Bool × Int × Int) := (spec_l1Below.f s0_0 s0_1 s0_2 a1).bind fun bt872 => (some ((bt872.1 == 0), bt872.2.1, bt872.2.2))
set_option maxHeartbeats 40000000 in
set_option maxRecDepth 100000 in
theorem spec_l1Once.calls (g : Nat) (s0_0 : List Int) (s0_1 : Int) (s0_2 : Int) (a1 : Int) (r1 : Bool) (r2 : Int) (r3 : Int) (w0 w : World) (hI : IsS69 w0 w g s0_0 s0_1 s0_2) (hB : Below w0.heap.size w0 w) (h : spec_l1Once.f s0_0 s0_1 s0_2 a1 = some (r1, r2, r3)) :
    Calls Try.prog 95 #[.pointer (some ⟨g, 0, none⟩), .int .i64 a1] w fun e w' => e = .returned (.bool r1) ∧ IsS69 w0 w' g s0_0 r2 r3 ∧ Below w0.heap.size w0 w' ∧ KeepBut w w' g none := by
  have HI0 := aM hI
  have HK := aM (KeepBut.refl w g none)
  have HL := aM hB.size
  clear hI
  have HW0 := aM hB.size
  have HB := aM hB
  clear hB
  have H := h
  clear h
  unfold spec_l1Once.f at H
  replace H := bE H
  obtain ⟨⟨t872, t873, t874⟩, A3, H⟩ := H
  dsimp only at H
  simp only [Option.some.injEq, Prod.mk.injEq] at H
  obtain ⟨rfl, rfl, rfl⟩ := H
  go_enter Try.func95, Try.ntmps95
  go_wp2_with (first | ((with_reducible refine gate_callee (f := 61) rfl ?_); refine gL (some 7) Try.func61 #[.pointer (some ⟨g, 0, none⟩), .int .i64 a1] ?_; (with_reducible refine (spec_l1Below.calls g s0_0 s0_1 s0_2 a1 t872 t873 t874 w0 _ ?side1 ?side2 A3.out).mono ?_); (case side1 => exact TI69 HI0); (case side2 => exact TG69 HB HI0); rintro e w4 ⟨rfl, hi, hb, hk⟩; refine ⟨_, rfl, ?_⟩; replace HK := aM (KeepBut.trans (TH HK) hk (.inl rfl)); replace HB := aM (hb); replace HI0 := aM (hi); (try clear hb); (try clear hb2); (try clear hk); (try clear hi)))
  go_ret
  exact ⟨TE, TI69 HI0, TG69 HB HI0, TH HK⟩

def spec_l5Set.f (s0_0 : List Int) (s0_1 : Int) (s0_2 : Int) : Option (Int × Int × Int) := (spec_l1Once.f s0_0 s0_1 s0_2 3).bind fun bt875 => (if bt875.1 = true then ((spec_l1Int.f s0_0 bt875.2.1 bt875.2.2 (([0, 1, 3, 1099511627775, 549755813888] : List Int))).bind fun bt881 => (some (bt881.1, bt881.2.1, bt881.2.2))) else ((spec_l1Below.f s0_0 bt875.2.1 bt875.2.2 65536).bind fun bt884 => ((spec_l1Below.f s0_0 bt884.2.1 bt884.2.2 20).bind fun bt887 => (if 0 ≤ bt887.1 then (some (shl .i64 bt884.1 bt887.1, bt887.2.1, bt887.2.2)) else (none)))))
set_option maxHeartbeats 40000000 in
set_option maxRecDepth 100000 in
theorem spec_l5Set.calls (g : Nat) (ab : List Int) (aj : Int) (ag : Int) (r1 : Int) (r2 : Int) (r3 : Int) (w0 w : World) (hI : IsS69 w0 w g ab aj ag) (hB : Below w0.heap.size w0 w) (h : spec_l5Set.f ab aj ag = some (r1, r2, r3)) :
  Calls Try.prog 68 #[.pointer (some ⟨g, 0, none⟩)] w fun e w' => e = .returned (.int .i64 r1) ∧ IsS69 w0 w' g ab r2 r3 ∧ Below w0.heap.size w0 w' ∧ KeepBut w w' g none := by
 have HI0 := aM hI;have HK := aM (KeepBut.refl w g none);have HL := aM hB.size;clear hI;have HW0 := aM hB.size;have HB := aM hB;clear hB;have H := h;clear h;unfold spec_l5Set.f at H;replace H := bE H;obtain ⟨⟨t875, ae, af⟩, A2, H⟩ := H;dsimp only at H
 by_cases c3 : t875 = true
 ·subst c3;replace H := ifT H;obtain ⟨y878, ai⟩ : ∃ y_ : List Int, y_ = (([0, 1, 3, 1099511627775, 549755813888] : List Int)) := ⟨_, rfl⟩;rw [← ai] at H;have ak := aM ai;clear ai;replace H := bE H;obtain ⟨⟨t881, t882, t883⟩, A4, H⟩ := H;dsimp only at H;simp only [Option.some.injEq, Prod.mk.injEq] at H;obtain ⟨rfl, rfl, rfl⟩ := H;go_enter Try.func68, Try.ntmps68;go_wp2_with (first | ((with_reducible refine gate_callee (f := 95) rfl ?_); refine gL (some 4) Try.func95 #[.pointer (some ⟨g, 0, none⟩), .int .i64 3] ?_; (with_reducible refine (spec_l1Once.calls g ab aj ag 3 true ae af w0 _ ?side1 ?side2 A2.out).mono ?_); (case side1 => exact TI69 HI0); (case side2 => exact TG69 HB HI0); rintro e w5 ⟨rfl, hi, hb, hk⟩; refine ⟨_, rfl, ?_⟩; replace HK := aM (KeepBut.trans (TH HK) hk (.inl rfl)); replace HB := aM (hb); replace HI0 := aM (hi); (try clear hb); (try clear hb2); (try clear hk); (try clear hi)) | ((with_reducible refine gate_dst (N := 6) rfl ?_); refine Kd.R_lit (Kd.int .i64) _ 3 ?hg (N := 6) ?hd (xs := ([0, 1, 3, 1099511627775, 549755813888] : List Int)) (inner := [.int .i64 0, .int .i64 1, .int .i64 3, .int .i64 1099511627775, .int .i64 549755813888]) (ok := fun _ => True) (okp := fun _ => True) ?hr ?hp (fun _ hk => hk) trivial (Below.refl _ _) (Nat.le_refl _) (by simp) ?_; (case hd => rfl); (case hg => rfl); (case hr => first | (go_simp; done) | (go_simp; rfl)); (case hp => exact (Reps.one (show Kd.M (Kd.int .i64) _ _ _ 0 [.int .i64 0] from rfl) (Reps.one (show Kd.M (Kd.int .i64) _ _ _ 1 [.int .i64 1] from rfl) (Reps.one (show Kd.M (Kd.int .i64) _ _ _ 3 [.int .i64 3] from rfl) (Reps.one (show Kd.M (Kd.int .i64) _ _ _ 1099511627775 [.int .i64 1099511627775] from rfl) (Reps.one (show Kd.M (Kd.int .i64) _ _ _ 549755813888 [.int .i64 549755813888] from rfl) (Reps.none _ _))))))); intro v879 w6 ho7 hb hg_ hnew_; clear hg_ hnew_; (first | rw [← ak.out] at ho7 | (simp only [Int.reduceToNat] at ho7; rw [← ak.out] at ho7)); have HO880 := aM (Kd.R_lower ho7 (keep_size (w := w) (g := g) (row := none) (TH HK))); replace HK := aM (KeepBut.trans (TH HK) (KeepBut.of_below hb g none) (.inl rfl)); replace HB := aM (below_step (TG69 HB HI0) hb); replace HI0 := aM (IsS69.below (TI69 HI0) hb); clear hb ho7; obtain ⟨Ao8, co8, eo8⟩ := Kd.R_slice HO880.out; subst eo8) | ((with_reducible refine gate_callee (f := 62) rfl ?_); refine gL (some 7) Try.func62 #[.pointer (some ⟨g, 0, none⟩), .slice Ao8 y878.length co8] ?_; (with_reducible refine (spec_l1Int.calls g ab ae af _ _ y878 t881 t882 t883 w0 _ ?side1 ?side2 ?side3 ?side4 ?side5 A4.out).mono ?_); (case side1 => exact TI69 HI0); (case side2 => exact TG69 HB HI0); (case side3 => have X_ := (Kd.R_reads' HO880.out).2.2; exact TC); (case side4 => exact (Kd.R_reads' HO880.out).2.1); (case side5 => exact far_slice (IsS69.own_ne HI0.out HO880.out (by decide))); rintro e w9 ⟨rfl, hi, hb, hk⟩; refine ⟨_, rfl, ?_⟩; replace HO880 := aM (Kd.R_mono (Kd.R_keep (IsS69.apart (show IsS69 w0 _ g ab ae af from TI69 HI0) (TRf HO880) (by decide)) hk (fun _ h => h.2)) (fun _ h => h.1)); replace HK := aM (KeepBut.trans (TH HK) hk (.inl rfl)); replace HB := aM (hb); replace HI0 := aM (hi); (try clear hb); (try clear hb2); (try clear hk); (try clear hi)))
  go_ret
  exact ⟨TE, TI69 HI0, TG69 HB HI0, TH HK⟩
 ·replace c3 := Bool.eq_false_iff.mpr c3;subst c3;replace H := ifF H;replace H := bE H;obtain ⟨⟨ad, t885, t886⟩, A10, H⟩ := H;dsimp only at H;replace H := bE H;obtain ⟨⟨ac, t888, t889⟩, A11, H⟩ := H;dsimp only at H;replace H := ifN H;obtain ⟨c12, H⟩ := H;have c12b0 := eq_true c12;have c12b1 : decide (0 ≤ ac) = true := decide_eq_true c12;clear c12;obtain ⟨ah, aa⟩ : ∃ j_ : Int, (shl .i64 ad ac) = j_ := ⟨_, rfl⟩;(first | rw [aa] at H | simp only [aa] at H | skip);(try rw [aa] at A2);(try rw [aa] at A10);(try rw [aa] at A11);have am : (IntKind.i64.wrap (ad * 2 ^ min ac.toNat 64)) = ah := aa;have al : ac ≤ 64 → (IntKind.i64.wrap (ad * 2 ^ ac.toNat)) = ah := shl_small aa;have hji13y : (wrap64 (ad * 2 ^ min ac.toNat 64)) = ah := (i64_w _).symm.trans am;have hji13x : ac ≤ 64 → (wrap64 (ad * 2 ^ ac.toNat)) = ah := fun h_ => (i64_w _).symm.trans (al h_)
  simp only [Option.some.injEq, Prod.mk.injEq] at H;obtain ⟨rfl, rfl, rfl⟩ := H;go_enter Try.func68, Try.ntmps68;go_wp2_with (first | ((with_reducible refine gate_callee (f := 95) rfl ?_); refine gL (some 4) Try.func95 #[.pointer (some ⟨g, 0, none⟩), .int .i64 3] ?_; (with_reducible refine (spec_l1Once.calls g ab aj ag 3 false ae af w0 _ ?side1 ?side2 A2.out).mono ?_); (case side1 => exact TI69 HI0); (case side2 => exact TG69 HB HI0); rintro e w14 ⟨rfl, hi, hb, hk⟩; refine ⟨_, rfl, ?_⟩; replace HK := aM (KeepBut.trans (TH HK) hk (.inl rfl)); replace HB := aM (hb); replace HI0 := aM (hi); (try clear hb); (try clear hb2); (try clear hk); (try clear hi)) | ((with_reducible refine gate_callee (f := 61) rfl ?_); refine gL (some 9) Try.func61 #[.pointer (some ⟨g, 0, none⟩), .int .i64 65536] ?_; (with_reducible refine (spec_l1Below.calls g ab ae af 65536 ad t885 t886 w0 _ ?side1 ?side2 A10.out).mono ?_); (case side1 => exact TI69 HI0); (case side2 => exact TG69 HB HI0); rintro e w15 ⟨rfl, hi, hb, hk⟩; refine ⟨_, rfl, ?_⟩; replace HK := aM (KeepBut.trans (TH HK) hk (.inl rfl)); replace HB := aM (hb); replace HI0 := aM (hi); (try clear hb); (try clear hb2); (try clear hk); (try clear hi)) | ((with_reducible refine gate_callee (f := 61) rfl ?_); refine gL (some 11) Try.func61 #[.pointer (some ⟨g, 0, none⟩), .int .i64 20] ?_; (with_reducible refine (spec_l1Below.calls g ab t885 t886 20 ac t888 t889 w0 _ ?side1 ?side2 A11.out).mono ?_); (case side1 => exact TI69 HI0); (case side2 => exact TG69 HB HI0); rintro e w16 ⟨rfl, hi, hb, hk⟩; refine ⟨_, rfl, ?_⟩; replace HK := aM (KeepBut.trans (TH HK) hk (.inl rfl)); replace HB := aM (hb); replace HI0 := aM (hi); (try clear hb); (try clear hb2); (try clear hk); (try clear hi)))
  go_ret
  exact ⟨by first | rfl | (simp [errW_none, errW_some] <;> rfl) | (simp only [← aa]; first | rfl | (simp [errW_none, errW_some] <;> rfl)) | (simp [*, errW_none, errW_some] <;> rfl), TI69 HI0, TG69 HB HI0, TH HK⟩

end Go.Proofs.Ytanpaipapcjpoaa.Q
