/- Functions of the program as plain Lean functions, and that a call of each comes to what its function tells. Written by a program of this seat. -/
import Derived.Test.YtanpaipapcjpoaaGreatDoorQ0
import Derived.Test.YtanpaipapcjpoaaGreatDoorQ2
import Derived.Test.YtanpaipapcjpoaaGreatDoorQ4
import Derived.Test.YtanpaipapcjpoaaGreatDoorQ5
set_option maxHeartbeats 40000000
set_option maxRecDepth 100000
namespace Go.Proofs.YtanpaipapcjpoaaGreatDoor.Q
open Go.RowKit Go.Proofs.YtanpaipapcjpoaaGreatDoorW.PrintWords Go.Proofs.YtanpaipapcjpoaaGreatDoorW.PrintLast Go.Proofs.YtanpaipapcjpoaaGreatDoorW.PrintMore
attribute [local go_sem] min2_int min_two
set_option linter.unusedVariables false
set_option linter.unusedSimpArgs false
def spec_l6Draw.f (k : Nat) (s0_0 : List Int) (s0_1 : Int) (s0_2 : Int) : Option (Int × Int × Int × (List (S75)) × List Int × Int × Int) := (spec_l6Image.f k s0_0 s0_1 s0_2).bind fun bt236 => ((spec_l1Below.f s0_0 bt236.2.1 bt236.2.2 5).bind fun bt241 => ((spec_l1Below.f s0_0 bt241.2.1 bt241.2.2 5).bind fun bt244 => ((spec_ManOf.f k (wrap64 (1 + bt241.1)) bt236.1 (wrap64 (2 + bt244.1))).bind fun bt247 => (some (bt247.1, bt247.2.1, bt247.2.2.1, bt247.2.2.2, bt236.1, bt244.2.1, bt244.2.2)))))
theorem spec_l6Draw.mono : ∀ a0 a1 a2 k, LeO (spec_l6Draw.f k a0 a1 a2) (spec_l6Draw.f (k + 1) a0 a1 a2) := by
  intro a0 a1 a2 k;have m0_ := @spec_ManOf.mono;have m1_ := @spec_l6Image.mono;unfold spec_l6Draw.f;exact LM
theorem spec_l6Draw.calls {k : Nat} {g : Nat} {s0_0 : List Int} {s0_1 : Int} {s0_2 : Int} {r1 : Int} {r2 : Int} {r3 : Int} {r4 : List (S75)} {r5 : List Int} {r6 : Int} {r7 : Int} (w0 w : World) (hI : IsS70 w0 w g s0_0 s0_1 s0_2) (hB : Below w0.heap.size w0 w) (h : spec_l6Draw.f k s0_0 s0_1 s0_2 = some (r1, r2, r3, r4, r5, r6, r7)) :
    Calls Tryz.prog 89 #[.pointer (some ⟨g, 0, none⟩)] w fun e w' => ∃ v3_ v4_ : Value, e = .returned (.tuple #[.agg #[.int .i64 r1, .int .i64 r2, .int .i64 r3, v3_], v4_]) ∧ Kd.R k75 75 w' w.heap.size (fun _ => True) v3_ r4 ∧ Kd.R (Kd.int .u8) 5 w' w.heap.size (fun _ => True) v4_ r5 ∧ IsS70 w0 w' g s0_0 r6 r7 ∧ Below w0.heap.size w0 w' ∧ KeepBut w w' g none := by
  have huq1 := Tryz.underlying26
  have HIq1 := aM hI
  have HK := aM (KeepBut.refl w g none)
  have HL := aM hB.size
  clear hI
  have HWq1 := aM hB.size
  have HB := aM hB
  clear hB
  have H := h
  clear h
  unfold spec_l6Draw.f at H
  replace H := bE H
  obtain ⟨⟨tq1, tq2, tq3⟩, Aq1, H⟩ := H
  dsimp only at H
  replace H := bE H
  obtain ⟨⟨tq4, tq5, tq6⟩, Aq2, H⟩ := H
  dsimp only at H
  replace H := bE H
  obtain ⟨⟨tq7, tq8, tq9⟩, Aq3, H⟩ := H
  dsimp only at H
  replace H := bE H
  obtain ⟨⟨tq10, tq11, tq12, tq13⟩, Aq4, H⟩ := H
  dsimp only at H
  simp only [Option.some.injEq, Prod.mk.injEq] at H
  obtain ⟨rfl, rfl, rfl, rfl, rfl, rfl, rfl⟩ := H
  go_enter Tryz.func89, Tryz.ntmps89
  go_wp2_with (first | ((with_reducible refine gate_dst (N := 2) rfl ?_); refine gBx 2 #[.int .i64 0, .int .i64 0, .int .i64 0, .slice none 0 0] 26 ?_; intro gbq1 hg wq1 hbox hb; have BKq1 := aM (hbox); have GWq1 := aM ((by rw [hg]; exact (keep_size (w := w) (g := g) (row := none) (TH HK)) : w.heap.size ≤ gbq1)); have GEq1 := aM ((Nat.le_trans HWq1.out (by rw [hg]; exact (keep_size (w := w) (g := g) (row := none) (TH HK)) : w.heap.size ≤ gbq1) : w0.heap.size ≤ gbq1)); have NBq1 := aM ((by rw [hg]; exact Nat.ne_of_lt (IsS70.lt (show IsS70 w0 _ g s0_0 s0_1 s0_2 from TI70 HIq1)) : g ≠ gbq1)); have NBq2 := aM ((by rw [hg]; exact Nat.ne_of_gt (IsS70.lt (show IsS70 w0 _ g s0_0 s0_1 s0_2 from TI70 HIq1)) : gbq1 ≠ g)); replace HK := aM (KeepBut.trans (TH HK) (KeepBut.of_below hb g none) (.inl rfl)); replace HB := aM (below_step (TG70 HB HIq1) hb); replace HIq1 := aM (IsS70.below (TI70 HIq1) hb); clear hb hbox hg) | ((with_reducible refine gate_callee (f := 97) rfl ?_); refine gL (some 6) Tryz.func97 #[.pointer (some ⟨g, 0, none⟩)] ?_; (with_reducible refine (spec_l6Image.calls w0 _ ?side1 ?side2 Aq1.out).mono ?_); (case side1 => exact TI70 HIq1); (case side2 => exact TG70 HB HIq1); rintro e wq2 ⟨vq1, rfl, hoq1, hi, hb, hk⟩; refine ⟨_, rfl, ?_⟩; have HOq1 := aM (Kd.R_lower hoq1 (keep_size (w := w) (g := g) (row := none) (TH HK))); replace BKq1 := aM (KeepBut.blk hk (g' := gbq1) (o := .cells #[.int .i64 0, .int .i64 0, .int .i64 0, .slice none 0 0] 26 (0, 0)) TK NBq2.out (by simp)); replace HK := aM (KeepBut.trans (TH HK) hk (.inl rfl)); replace HB := aM (hb); replace HIq1 := aM (hi); (try clear hb); (try clear hb2); (try clear hk); (try clear hi); (try clear hoq1)) | ((with_reducible refine gate_callee (f := 31) rfl ?_); refine gL (some 8) Tryz.func31 #[.pointer (some ⟨g, 0, none⟩), .int .i64 5] ?_; (with_reducible refine (spec_l1Below.calls w0 _ ?side1 ?side2 Aq2.out).mono ?_); (case side1 => exact TI70 HIq1); (case side2 => exact TG70 HB HIq1); rintro e wq3 ⟨rfl, hi, hb, hk⟩; refine ⟨_, rfl, ?_⟩; replace BKq1 := aM (KeepBut.blk hk (g' := gbq1) (o := .cells #[.int .i64 0, .int .i64 0, .int .i64 0, .slice none 0 0] 26 (0, 0)) TK NBq2.out (by simp)); replace HOq1 := aM (Kd.R_mono (Kd.R_keep (IsS70.apart (show IsS70 w0 _ g s0_0 tq2 tq3 from TI70 HIq1) (TRf HOq1) (by decide)) hk (fun _ h => h.2)) (fun _ h => h.1)); replace HK := aM (KeepBut.trans (TH HK) hk (.inl rfl)); replace HB := aM (hb); replace HIq1 := aM (hi); (try clear hb); (try clear hb2); (try clear hk); (try clear hi)) | ((with_reducible refine gate_callee (f := 31) rfl ?_); refine gL (some 12) Tryz.func31 #[.pointer (some ⟨g, 0, none⟩), .int .i64 5] ?_; (with_reducible refine (spec_l1Below.calls w0 _ ?side1 ?side2 Aq3.out).mono ?_); (case side1 => exact TI70 HIq1); (case side2 => exact TG70 HB HIq1); rintro e wq4 ⟨rfl, hi, hb, hk⟩; refine ⟨_, rfl, ?_⟩; replace BKq1 := aM (KeepBut.blk hk (g' := gbq1) (o := .cells #[.int .i64 0, .int .i64 0, .int .i64 0, .slice none 0 0] 26 (0, 0)) TK NBq2.out (by simp)); replace HOq1 := aM (Kd.R_mono (Kd.R_keep (IsS70.apart (show IsS70 w0 _ g s0_0 tq5 tq6 from TI70 HIq1) (TRf HOq1) (by decide)) hk (fun _ h => h.2)) (fun _ h => h.1)); replace HK := aM (KeepBut.trans (TH HK) hk (.inl rfl)); replace HB := aM (hb); replace HIq1 := aM (hi); (try clear hb); (try clear hb2); (try clear hk); (try clear hi); obtain ⟨Aoq1, coq1, eoq1⟩ := Kd.R_slice HOq1.out; subst eoq1) | ((with_reducible refine gate_callee (f := 98) rfl ?_); refine gL (some 14) Tryz.func98 #[.int .i64 (wrap64 (1 + tq4)), .slice Aoq1 tq1.length coq1, .int .i64 (wrap64 (2 + tq7))] ?_; (with_reducible refine (spec_ManOf.calls ?side1 ?side2 Aq4.out).mono ?_); (case side1 => have X_ := (Kd.R_reads' HOq1.out).2.2; exact TC); (case side2 => exact (Kd.R_reads' HOq1.out).2.1); rintro e wq5 ⟨vq2, rfl, hoq1, hb⟩; refine ⟨_, rfl, ?_⟩; have HOq2 := aM (Kd.R_lower hoq1 (keep_size (w := w) (g := g) (row := none) (TH HK))); replace HOq1 := mR HOq1 hb; replace BKq1 := mB BKq1 hb; replace HK := aM (KeepBut.trans (TH HK) (KeepBut.of_below hb g none) (.inl rfl)); replace HB := aM (below_step (TG70 HB HIq1) hb); replace HIq1 := aM (IsS70.below (TI70 HIq1) hb); (try clear hb); (try clear hb2); (try clear hk); (try clear hi); (try clear hoq1); obtain ⟨hnbq1, hncq1⟩ := oB NBq2; obtain ⟨hczq1, hczq2, hczq3, hczq4⟩ := cz4 BKq1.out; obtain ⟨hfzq1, hfzq2, hfzq3, hfzq4⟩ := fz4 BKq1.out; obtain ⟨Aoq2, coq2, eoq2⟩ := Kd.R_slice HOq2.out; subst eoq2))
  refine bodyPost_ret (results_ct rfl _ _ gbq1 26 #[.int .i64 tq10, .int .i64 tq11, .int .i64 tq12, .slice Aoq2 tq13.length coq2] (0, 0) _ rfl (blk_put (blk_put (blk_put (blk_put (cs := #[.int .i64 0, .int .i64 0, .int .i64 0, .slice none 0 0]) (TZ BKq1) 0 _ rfl) 1 _ rfl) 2 _ rfl) 3 _ rfl) Tryz.underlying26 rfl (by kernel_rfl)) rfl ?_
  exact ⟨_, _, TE, by (with_reducible repeat (first | apply Kd.R_alloc | apply Kd.R_drewN | apply Kd.R_drew)); exact Kd.R_mono (RK1 (Kd.R_types HOq2.out BKq1.out (by decide))) (fun _ hk => trivial), by (with_reducible repeat (first | apply Kd.R_alloc | apply Kd.R_drewN | apply Kd.R_drew)); exact Kd.R_mono (RK1 (Kd.R_types HOq1.out BKq1.out (by decide))) (fun _ hk => trivial), TI70 HIq1, TG70 HB HIq1, TH HK⟩
end Go.Proofs.YtanpaipapcjpoaaGreatDoor.Q
