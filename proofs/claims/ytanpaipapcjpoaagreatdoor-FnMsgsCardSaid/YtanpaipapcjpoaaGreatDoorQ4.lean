/- Functions of the program as plain Lean functions, and that a call of each comes to what its function tells. Written by a program of this seat. -/
import Derived.Test.YtanpaipapcjpoaaGreatDoorQ0
import Derived.Test.YtanpaipapcjpoaaGreatDoorQ2
import Derived.Test.YtanpaipapcjpoaaGreatDoorQ3
set_option maxHeartbeats 40000000
set_option maxRecDepth 100000
namespace Go.Proofs.YtanpaipapcjpoaaGreatDoor.Q
open Go.RowKit Go.Proofs.YtanpaipapcjpoaaGreatDoorW.PrintWords Go.Proofs.YtanpaipapcjpoaaGreatDoorW.PrintLast Go.Proofs.YtanpaipapcjpoaaGreatDoorW.PrintMore
attribute [local go_sem] min2_int min_two
set_option linter.unusedVariables false
set_option linter.unusedSimpArgs false
def spec_l5Any.f (s0_0 : List Int) (s0_1 : Int) (s0_2 : Int) : Option (Int × Int × Int) := (spec_l1Once.f s0_0 s0_1 s0_2 8).bind fun bt166 => (if bt166.1 = true then ((spec_l1Int.f s0_0 bt166.2.1 bt166.2.2 (([(-1), 1099511627776] : List Int))).bind fun bt172 => (some (bt172.1, bt172.2.1, bt172.2.2))) else ((spec_l5Set.f s0_0 bt166.2.1 bt166.2.2).bind fun bt175 => (some (bt175.1, bt175.2.1, bt175.2.2))))
theorem spec_l5Any.calls {g : Nat} {s0_0 : List Int} {s0_1 : Int} {s0_2 : Int} {r1 : Int} {r2 : Int} {r3 : Int} (w0 w : World) (hI : IsS70 w0 w g s0_0 s0_1 s0_2) (hB : Below w0.heap.size w0 w) (h : spec_l5Any.f s0_0 s0_1 s0_2 = some (r1, r2, r3)) :
    Calls Tryz.prog 34 #[.pointer (some ⟨g, 0, none⟩)] w fun e w' => e = .returned (.int .i64 r1) ∧ IsS70 w0 w' g s0_0 r2 r3 ∧ Below w0.heap.size w0 w' ∧ KeepBut w w' g none := by
  have HI0 := aM hI
  have HK := aM (KeepBut.refl w g none)
  have HL := aM hB.size
  clear hI
  have HW0 := aM hB.size
  have HB := aM hB
  clear hB
  have H := h
  clear h
  unfold spec_l5Any.f at H
  replace H := bE H
  obtain ⟨⟨t166, t167, t168⟩, A2, H⟩ := H
  dsimp only at H
  by_cases c3 : t166 = true
  · subst c3
    replace H := ifT H
    obtain ⟨y169, hy169⟩ : ∃ y_ : List Int, y_ = (([(-1), 1099511627776] : List Int)) := ⟨_, rfl⟩
    rw [← hy169] at H
    have Ny169 := aM hy169
    clear hy169
    replace H := bE H
    obtain ⟨⟨t172, t173, t174⟩, A4, H⟩ := H
    dsimp only at H
    simp only [Option.some.injEq, Prod.mk.injEq] at H
    obtain ⟨rfl, rfl, rfl⟩ := H
    go_enter Tryz.func34, Tryz.ntmps34
    go_wp2_with (first | ((with_reducible refine gate_callee (f := 30) rfl ?_); refine gL (some 4) Tryz.func30 #[.pointer (some ⟨g, 0, none⟩), .int .i64 8] ?_; (with_reducible refine (spec_l1Once.calls w0 _ ?side1 ?side2 A2.out).mono ?_); (case side1 => exact TI70 HI0); (case side2 => exact TG70 HB HI0); rintro e w5 ⟨rfl, hi, hb, hk⟩; refine ⟨_, rfl, ?_⟩; replace HK := aM (KeepBut.trans (TH HK) hk (.inl rfl)); replace HB := aM (hb); replace HI0 := aM (hi); (try clear hb); (try clear hb2); (try clear hk); (try clear hi)) | ((with_reducible refine gate_dst (N := 6) rfl ?_); refine Kd.R_lit (Kd.int .i64) _ 3 ?hg (N := 6) ?hd (xs := ([(-1), 1099511627776] : List Int)) (inner := [.int .i64 (-1), .int .i64 1099511627776]) (ok := fun _ => True) (okp := fun _ => True) ?hr ?hp (fun _ hk => hk) trivial (Below.refl _ _) (Nat.le_refl _) (by simp) ?_; (case hd => rfl); (case hg => rfl); (case hr => first | (go_simp; done) | (go_simp; rfl)); (case hp => exact (Reps.one (show Kd.M (Kd.int .i64) _ _ _ (-1) [.int .i64 (-1)] from rfl) (Reps.one (show Kd.M (Kd.int .i64) _ _ _ 1099511627776 [.int .i64 1099511627776] from rfl) (Reps.none _ _)))); intro v170 w6 ho7 hb hg_ hnew_; clear hg_ hnew_; (first | rw [← Ny169.out] at ho7 | (simp only [Int.reduceToNat] at ho7; rw [← Ny169.out] at ho7)); have HO171 := aM (Kd.R_lower ho7 (keep_size (w := w) (g := g) (row := none) (TH HK))); replace HK := aM (KeepBut.trans (TH HK) (KeepBut.of_below hb g none) (.inl rfl)); replace HB := aM (below_step (TG70 HB HI0) hb); replace HI0 := aM (IsS70.below (TI70 HI0) hb); clear hb ho7; obtain ⟨Ao8, co8, eo8⟩ := Kd.R_slice HO171.out; subst eo8) | ((with_reducible refine gate_callee (f := 61) rfl ?_); refine gL (some 7) Tryz.func61 #[.pointer (some ⟨g, 0, none⟩), .slice Ao8 y169.length co8] ?_; (with_reducible refine (spec_l1Int.calls w0 _ ?side1 ?side2 ?side3 ?side4 ?side5 A4.out).mono ?_); (case side1 => exact TI70 HI0); (case side2 => exact TG70 HB HI0); (case side3 => have X_ := (Kd.R_reads' HO171.out).2.2; exact TC); (case side4 => exact (Kd.R_reads' HO171.out).2.1); (case side5 => exact far_slice (IsS70.own_ne HI0.out HO171.out (by decide))); rintro e w9 ⟨rfl, hi, hb, hk⟩; refine ⟨_, rfl, ?_⟩; replace HO171 := aM (Kd.R_mono (Kd.R_keep (IsS70.apart (show IsS70 w0 _ g s0_0 t167 t168 from TI70 HI0) (TRf HO171) (by decide)) hk (fun _ h => h.2)) (fun _ h => h.1)); replace HK := aM (KeepBut.trans (TH HK) hk (.inl rfl)); replace HB := aM (hb); replace HI0 := aM (hi); (try clear hb); (try clear hb2); (try clear hk); (try clear hi)))
    go_ret
    exact ⟨TE, TI70 HI0, TG70 HB HI0, TH HK⟩
  · replace c3 := bF c3
    subst c3
    replace H := ifF H
    replace H := bE H
    obtain ⟨⟨t175, t176, t177⟩, A10, H⟩ := H
    dsimp only at H
    simp only [Option.some.injEq, Prod.mk.injEq] at H
    obtain ⟨rfl, rfl, rfl⟩ := H
    go_enter Tryz.func34, Tryz.ntmps34
    go_wp2_with (first | ((with_reducible refine gate_callee (f := 30) rfl ?_); refine gL (some 4) Tryz.func30 #[.pointer (some ⟨g, 0, none⟩), .int .i64 8] ?_; (with_reducible refine (spec_l1Once.calls w0 _ ?side1 ?side2 A2.out).mono ?_); (case side1 => exact TI70 HI0); (case side2 => exact TG70 HB HI0); rintro e w11 ⟨rfl, hi, hb, hk⟩; refine ⟨_, rfl, ?_⟩; replace HK := aM (KeepBut.trans (TH HK) hk (.inl rfl)); replace HB := aM (hb); replace HI0 := aM (hi); (try clear hb); (try clear hb2); (try clear hk); (try clear hi)) | ((with_reducible refine gate_callee (f := 66) rfl ?_); refine gL (some 9) Tryz.func66 #[.pointer (some ⟨g, 0, none⟩)] ?_; (with_reducible refine (spec_l5Set.calls w0 _ ?side1 ?side2 A10.out).mono ?_); (case side1 => exact TI70 HI0); (case side2 => exact TG70 HB HI0); rintro e w12 ⟨rfl, hi, hb, hk⟩; refine ⟨_, rfl, ?_⟩; replace HK := aM (KeepBut.trans (TH HK) hk (.inl rfl)); replace HB := aM (hb); replace HI0 := aM (hi); (try clear hb); (try clear hb2); (try clear hk); (try clear hi)))
    go_ret
    exact ⟨TE, TI70 HI0, TG70 HB HI0, TH HK⟩
def spec_PartMsg.f (a0 : Int) (a1 : Int) (l2 : List Int) : Option (Int × Int × Int × Int × Int × (List (S75)) × Int × Int × Int × List Int) := (some (([] : List Int) : List Int)).bind fun y179 => (if y179.length + l2.length < 140737488355328 then (some (3, a0, 0, 0, 0, ([] : List (S75)), 0, 0, a1, (y179 ++ l2))) else (none))
theorem spec_PartMsg.calls {a0 : Int} {a1 : Int} {A2 : Option Addr} {c2 : Nat} {l2 : List Int} {r1 : Int} {r2 : Int} {r3 : Int} {r4 : Int} {r5 : Int} {r6 : List (S75)} {r7 : Int} {r8 : Int} {r9 : Int} {r10 : List Int} {w : World} (hr2 : Kd.C (Kd.int .u8) w A2 l2.length l2) (hc2 : l2.length ≤ c2) (h : spec_PartMsg.f a0 a1 l2 = some (r1, r2, r3, r4, r5, r6, r7, r8, r9, r10)) :
    Calls Tryz.prog 19 #[.int .i64 a0, .int .i64 a1, .slice A2 l2.length c2] w fun e w' => ∃ v5_ v9_ : Value, e = .returned (.agg #[.int .i64 r1, .int .i64 r2, .int .i64 r3, .int .i64 r4, .int .i64 r5, v5_, .int .i64 r7, .int .i64 r8, .int .i64 r9, v9_]) ∧ Kd.R k75 75 w' w.heap.size (fun _ => True) v5_ r6 ∧ Kd.R (Kd.int .u8) 5 w' w.heap.size (fun _ => True) v9_ r10 ∧ Below w.heap.size w w' := by
  have hu28 := Tryz.underlying28
  have HR2 := aM hr2
  have HC2 := aM hc2
  clear hr2 hc2
  have HB := aM (Below.refl w.heap.size w)
  have H := h
  clear h
  unfold spec_PartMsg.f at H
  obtain ⟨y179, hy179⟩ : ∃ y_ : List Int, y_ = (([] : List Int)) := ⟨_, rfl⟩
  replace H := someE H hy179
  have Ny179 := aM hy179
  clear hy179
  replace H := ifN H
  obtain ⟨c4, H⟩ := H
  have LMc4 := aM c4
  clear c4
  obtain ⟨y182, hy182⟩ : ∃ y_ : List Int, y_ = (y179 ++ l2) := ⟨_, rfl⟩
  rw [← hy182] at H
  have Ny182 := aM hy182
  clear hy182
  simp only [Option.some.injEq, Prod.mk.injEq] at H
  obtain ⟨rfl, rfl, rfl, rfl, rfl, rfl, rfl, rfl, rfl, rfl⟩ := H
  go_enter Tryz.func19, Tryz.ntmps19
  go_wp2_with (first | ((with_reducible refine gate_dst (N := 6) rfl ?_); refine gBx 6 #[.int .i64 0, .int .i64 0, .int .i64 0, .int .i64 0, .int .i64 0, .slice none 0 0, .int .i64 0, .int .i64 0, .int .i64 0, .slice none 0 0] 28 ?_; intro gb178 hg w5 hbox hb; have BK178 := aM (hbox); have GW178 := gW HB hg; have GE178 := gW HB hg; replace HB := bS HB hb; clear hb hbox hg) | ((with_reducible refine gate_dst (N := 9) rfl ?_); refine Kd.R_lit (Kd.int .u8) _ 5 ?hg (N := 9) ?hd (xs := ([] : List Int)) (inner := []) (ok := fun _ => True) (okp := fun _ => True) ?hr ?hp (fun _ hk => hk) trivial (Below.refl _ _) (Nat.le_refl _) (by simp) ?_; (case hd => rfl); (case hg => rfl); (case hr => first | (go_simp; done) | (go_simp; rfl)); (case hp => exact (Reps.none _ _)); intro v180 w6 ho7 hb hg_ hnew_; clear hg_ hnew_; (first | rw [← Ny179.out] at ho7 | (simp only [Int.reduceToNat] at ho7; rw [← Ny179.out] at ho7)); have HO181 := aM (Kd.R_lower ho7 (below_size TB)); replace BK178 := mB BK178 hb; replace HB := bS HB hb; clear hb ho7) | ((with_reducible refine gate_builtin (b := .append) (xs := #[.tmp 9, .tmp 10]) rfl ?_); at_builtin; refine Kd.R_append_rows (Kd.int .u8) (w0 := w) w.heap.size rfl (.tmp 9) (.tmp 10) 22 5 (.int .u8 0) 1 rfl Tryz.underlying22 info5 rfl (by decide) (by omega) v180 y179 l2 _ _ _ (fun _ => True) (fun _ => False) rfl rfl ?aO ?aR (fun _ _ h => h) (fun _ h => h.elim) ?aF ?aB ?aS ?aL ?_; (case aR => repeat (first | exact (Kd.C_below HR2.out HB.out) | (with_reducible refine Kd.C_alloc ?_ _) | (with_reducible refine Kd.C_drewN ?_ _) | (with_reducible refine Kd.C_drew ?_))); (case aB => exact TB); (case aF => exact (fun _ _ => trivial)); (case aO => exact (TRf HO181)); (case aS => exact (below_size TB)); (case aL => have := LMc4.out; omega); intro v183 w8 ho hb hg hat; rw [← Ny182.out] at ho; have HO184 := aM (ho); replace BK178 := aM (blk_grown (g := gb178) (o := .cells #[.int .i64 0, .int .i64 0, .int .i64 0, .int .i64 0, .int .i64 0, .slice none 0 0, .int .i64 0, .int .i64 0, .int .i64 0, .slice none 0 0] 28 (0, 0)) TK hg (Kd.R_ne HO181.out BK178.out (by decide))); replace HB := aM (hb); clear HO181; clear ho hb hg hat; obtain ⟨Ao9, co9, eo9⟩ := Kd.R_slice HO184.out; subst eo9; obtain ⟨hcz10_0, hcz10_1, hcz10_2, hcz10_3, hcz10_4, hcz10_5, hcz10_6, hcz10_7, hcz10_8, hcz10_9⟩ := cz10 BK178.out; obtain ⟨hfz10_0, hfz10_1, hfz10_2, hfz10_3, hfz10_4, hfz10_5, hfz10_6, hfz10_7, hfz10_8, hfz10_9⟩ := fz10 BK178.out))
  refine bodyPost_ret (results_cell_row rfl _ _ gb178 28 #[.int .i64 3, .int .i64 a0, .int .i64 0, .int .i64 0, .int .i64 0, .slice none 0 0, .int .i64 0, .int .i64 0, .int .i64 a1, .slice Ao9 y182.length co9] (0, 0) _ rfl (blk_put (cs := #[.int .i64 3, .int .i64 a0, .int .i64 0, .int .i64 0, .int .i64 0, .slice none 0 0, .int .i64 0, .int .i64 0, .int .i64 a1, .slice none 0 0]) (blk_put (cs := #[.int .i64 3, .int .i64 a0, .int .i64 0, .int .i64 0, .int .i64 0, .slice none 0 0, .int .i64 0, .int .i64 0, .int .i64 0, .slice none 0 0]) (blk_put (cs := #[.int .i64 3, .int .i64 a0, .int .i64 0, .int .i64 0, .int .i64 0, .slice none 0 0, .int .i64 0, .int .i64 0, .int .i64 0, .slice none 0 0]) (blk_put (cs := #[.int .i64 3, .int .i64 a0, .int .i64 0, .int .i64 0, .int .i64 0, .slice none 0 0, .int .i64 0, .int .i64 0, .int .i64 0, .slice none 0 0]) (blk_put (cs := #[.int .i64 3, .int .i64 a0, .int .i64 0, .int .i64 0, .int .i64 0, .slice none 0 0, .int .i64 0, .int .i64 0, .int .i64 0, .slice none 0 0]) (blk_put (cs := #[.int .i64 3, .int .i64 a0, .int .i64 0, .int .i64 0, .int .i64 0, .slice none 0 0, .int .i64 0, .int .i64 0, .int .i64 0, .slice none 0 0]) (blk_put (cs := #[.int .i64 3, .int .i64 a0, .int .i64 0, .int .i64 0, .int .i64 0, .slice none 0 0, .int .i64 0, .int .i64 0, .int .i64 0, .slice none 0 0]) (blk_put (cs := #[.int .i64 3, .int .i64 a0, .int .i64 0, .int .i64 0, .int .i64 0, .slice none 0 0, .int .i64 0, .int .i64 0, .int .i64 0, .slice none 0 0]) (blk_put (cs := #[.int .i64 3, .int .i64 0, .int .i64 0, .int .i64 0, .int .i64 0, .slice none 0 0, .int .i64 0, .int .i64 0, .int .i64 0, .slice none 0 0]) (blk_put (cs := #[.int .i64 0, .int .i64 0, .int .i64 0, .int .i64 0, .int .i64 0, .slice none 0 0, .int .i64 0, .int .i64 0, .int .i64 0, .slice none 0 0]) (TZ BK178) 0 _ rfl) 1 _ rfl) 2 _ rfl) 3 _ rfl) 4 _ rfl) 5 _ rfl) 6 _ rfl) 7 _ rfl) 8 _ rfl) 9 _ rfl) Tryz.underlying28 rfl (by kernel_rfl)) rfl ?_
  exact ⟨_, _, TE, by first | exact Kd.R_nil _ _ _ _ _ | exact Kd.N_nil _ _ _ _ _ | exact Kd.V_nil _ _ _ _ _ | exact Kd.Q_nil _ _ _ _ _ | exact Kd.S_nil _ _ _ _ _, by (with_reducible repeat (first | apply Kd.R_alloc | apply Kd.R_drewN | apply Kd.R_drew)); exact Kd.R_mono (RK1 (Kd.R_types HO184.out BK178.out (by decide))) (fun _ hk => trivial), TB⟩
def spec_WantMsg.f (a0 : Int) (a1 : Int) (a2 : Int) : Option (Int × Int × Int × Int × Int × (List (S75)) × Int × Int × Int × List Int) := some (2, a0, 0, 0, 0, ([] : List (S75)), a1, a2, 0, ([] : List Int))
theorem spec_WantMsg.calls {a0 : Int} {a1 : Int} {a2 : Int} {r1 : Int} {r2 : Int} {r3 : Int} {r4 : Int} {r5 : Int} {r6 : List (S75)} {r7 : Int} {r8 : Int} {r9 : Int} {r10 : List Int} {w : World} (h : spec_WantMsg.f a0 a1 a2 = some (r1, r2, r3, r4, r5, r6, r7, r8, r9, r10)) :
    Calls Tryz.prog 21 #[.int .i64 a0, .int .i64 a1, .int .i64 a2] w fun e w' => ∃ v5_ v9_ : Value, e = .returned (.agg #[.int .i64 r1, .int .i64 r2, .int .i64 r3, .int .i64 r4, .int .i64 r5, v5_, .int .i64 r7, .int .i64 r8, .int .i64 r9, v9_]) ∧ Kd.R k75 75 w' w.heap.size (fun _ => True) v5_ r6 ∧ Kd.R (Kd.int .u8) 5 w' w.heap.size (fun _ => True) v9_ r10 ∧ Below w.heap.size w w' := by
  have hu28 := Tryz.underlying28
  have HB := aM (Below.refl w.heap.size w)
  have H := h
  clear h
  unfold spec_WantMsg.f at H
  simp only [Option.some.injEq, Prod.mk.injEq] at H
  obtain ⟨rfl, rfl, rfl, rfl, rfl, rfl, rfl, rfl, rfl, rfl⟩ := H
  go_enter Tryz.func21, Tryz.ntmps21
  go_wp2_with (first | ((with_reducible refine gate_dst (N := 6) rfl ?_); refine gBx 6 #[.int .i64 0, .int .i64 0, .int .i64 0, .int .i64 0, .int .i64 0, .slice none 0 0, .int .i64 0, .int .i64 0, .int .i64 0, .slice none 0 0] 28 ?_; intro gb185 hg w4 hbox hb; have BK185 := aM (hbox); have GW185 := gW HB hg; have GE185 := gW HB hg; replace HB := bS HB hb; clear hb hbox hg; obtain ⟨hcz5_0, hcz5_1, hcz5_2, hcz5_3, hcz5_4, hcz5_5, hcz5_6, hcz5_7, hcz5_8, hcz5_9⟩ := cz10 BK185.out; obtain ⟨hfz5_0, hfz5_1, hfz5_2, hfz5_3, hfz5_4, hfz5_5, hfz5_6, hfz5_7, hfz5_8, hfz5_9⟩ := fz10 BK185.out))
  refine bodyPost_ret (results_cell_row rfl _ _ gb185 28 #[.int .i64 2, .int .i64 a0, .int .i64 0, .int .i64 0, .int .i64 0, .slice none 0 0, .int .i64 a1, .int .i64 a2, .int .i64 0, .slice none 0 0] (0, 0) _ rfl (blk_put (cs := #[.int .i64 2, .int .i64 a0, .int .i64 0, .int .i64 0, .int .i64 0, .slice none 0 0, .int .i64 a1, .int .i64 a2, .int .i64 0, .slice none 0 0]) (blk_put (cs := #[.int .i64 2, .int .i64 a0, .int .i64 0, .int .i64 0, .int .i64 0, .slice none 0 0, .int .i64 a1, .int .i64 a2, .int .i64 0, .slice none 0 0]) (blk_put (cs := #[.int .i64 2, .int .i64 a0, .int .i64 0, .int .i64 0, .int .i64 0, .slice none 0 0, .int .i64 a1, .int .i64 0, .int .i64 0, .slice none 0 0]) (blk_put (cs := #[.int .i64 2, .int .i64 a0, .int .i64 0, .int .i64 0, .int .i64 0, .slice none 0 0, .int .i64 0, .int .i64 0, .int .i64 0, .slice none 0 0]) (blk_put (cs := #[.int .i64 2, .int .i64 a0, .int .i64 0, .int .i64 0, .int .i64 0, .slice none 0 0, .int .i64 0, .int .i64 0, .int .i64 0, .slice none 0 0]) (blk_put (cs := #[.int .i64 2, .int .i64 a0, .int .i64 0, .int .i64 0, .int .i64 0, .slice none 0 0, .int .i64 0, .int .i64 0, .int .i64 0, .slice none 0 0]) (blk_put (cs := #[.int .i64 2, .int .i64 a0, .int .i64 0, .int .i64 0, .int .i64 0, .slice none 0 0, .int .i64 0, .int .i64 0, .int .i64 0, .slice none 0 0]) (blk_put (cs := #[.int .i64 2, .int .i64 a0, .int .i64 0, .int .i64 0, .int .i64 0, .slice none 0 0, .int .i64 0, .int .i64 0, .int .i64 0, .slice none 0 0]) (blk_put (cs := #[.int .i64 2, .int .i64 0, .int .i64 0, .int .i64 0, .int .i64 0, .slice none 0 0, .int .i64 0, .int .i64 0, .int .i64 0, .slice none 0 0]) (blk_put (cs := #[.int .i64 0, .int .i64 0, .int .i64 0, .int .i64 0, .int .i64 0, .slice none 0 0, .int .i64 0, .int .i64 0, .int .i64 0, .slice none 0 0]) (TZ BK185) 0 _ rfl) 1 _ rfl) 2 _ rfl) 3 _ rfl) 4 _ rfl) 5 _ rfl) 6 _ rfl) 7 _ rfl) 8 _ rfl) 9 _ rfl) Tryz.underlying28 rfl (by kernel_rfl)) rfl ?_
  exact ⟨_, _, TE, by first | exact Kd.R_nil _ _ _ _ _ | exact Kd.N_nil _ _ _ _ _ | exact Kd.V_nil _ _ _ _ _ | exact Kd.Q_nil _ _ _ _ _ | exact Kd.S_nil _ _ _ _ _, by first | exact Kd.R_nil _ _ _ _ _ | exact Kd.N_nil _ _ _ _ _ | exact Kd.V_nil _ _ _ _ _ | exact Kd.Q_nil _ _ _ _ _ | exact Kd.S_nil _ _ _ _ _, TB⟩
def spec_l6Image.f (k : Nat) (s0_0 : List Int) (s0_1 : Int) (s0_2 : Int) : Option (List Int × Int × Int) := (spec_l3Bytes.f k s0_0 s0_1 s0_2 16).bind fun bt186 => (some (bt186.1, bt186.2.1, bt186.2.2))
theorem spec_l6Image.mono : ∀ a0 a1 a2 k, LeO (spec_l6Image.f k a0 a1 a2) (spec_l6Image.f (k + 1) a0 a1 a2) := by
  intro a0 a1 a2 k;have m0_ := @spec_l3Bytes.mono;unfold spec_l6Image.f;exact LM
theorem spec_l6Image.calls {k : Nat} {g : Nat} {s0_0 : List Int} {s0_1 : Int} {s0_2 : Int} {r1 : List Int} {r2 : Int} {r3 : Int} (w0 w : World) (hI : IsS70 w0 w g s0_0 s0_1 s0_2) (hB : Below w0.heap.size w0 w) (h : spec_l6Image.f k s0_0 s0_1 s0_2 = some (r1, r2, r3)) :
    Calls Tryz.prog 97 #[.pointer (some ⟨g, 0, none⟩)] w fun e w' => ∃ v0_ : Value, e = .returned (v0_) ∧ Kd.R (Kd.int .u8) 5 w' w.heap.size (fun _ => True) v0_ r1 ∧ IsS70 w0 w' g s0_0 r2 r3 ∧ Below w0.heap.size w0 w' ∧ KeepBut w w' g none := by
  have HI0 := aM hI
  have HK := aM (KeepBut.refl w g none)
  have HL := aM hB.size
  clear hI
  have HW0 := aM hB.size
  have HB := aM hB
  clear hB
  have H := h
  clear h
  unfold spec_l6Image.f at H
  replace H := bE H
  obtain ⟨⟨t186, t189, t190⟩, A2, H⟩ := H
  dsimp only at H
  simp only [Option.some.injEq, Prod.mk.injEq] at H
  obtain ⟨rfl, rfl, rfl⟩ := H
  go_enter Tryz.func97, Tryz.ntmps97
  go_wp2_with (first | ((with_reducible refine gate_callee (f := 33) rfl ?_); refine gL (some 4) Tryz.func33 #[.pointer (some ⟨g, 0, none⟩), .int .i64 16] ?_; (with_reducible refine (spec_l3Bytes.calls w0 _ ?side1 ?side2 A2.out).mono ?_); (case side1 => exact TI70 HI0); (case side2 => exact TG70 HB HI0); rintro e w3 ⟨v187, rfl, ho0, hi, hb, hk⟩; refine ⟨_, rfl, ?_⟩; have HO188 := aM (Kd.R_lower ho0 (keep_size (w := w) (g := g) (row := none) (TH HK))); replace HK := aM (KeepBut.trans (TH HK) hk (.inl rfl)); replace HB := aM (hb); replace HI0 := aM (hi); (try clear hb); (try clear hb2); (try clear hk); (try clear hi); (try clear ho0)))
  go_ret
  exact ⟨_, TE, by have X_ := HO188.out; exact TR, TI70 HI0, TG70 HB HI0, TH HK⟩
def spec_l1In.f (a0 : Int) (a1 : Int) (a2 : Int) : Option (Bool) := if a0 ≥ a1 then (some (decide (a0 ≤ a2))) else (some false)
theorem spec_l1In.calls {a0 : Int} {a1 : Int} {a2 : Int} {r : Bool} {w : World} (h : spec_l1In.f a0 a1 a2 = some r) :
    Calls Tryz.prog 51 #[.int .i64 a0, .int .i64 a1, .int .i64 a2] w fun e w' => e = .returned (.bool r) ∧ Drawn0 w w' := by
  have H := h
  clear h
  unfold spec_l1In.f at H
  by_cases c4 : a0 ≥ a1
  · rw [if_pos c4] at H
    have c4b0 : decide (a1 ≤ a0) = true := decide_eq_true c4
    clear c4
    obtain rfl := oI H
    go_enter Tryz.func51, Tryz.ntmps51
    go_wp2
    go_ret
    exact ⟨by first | rfl | (simp; done) | (simp [*]; done), TD⟩
  · rw [if_neg c4] at H
    have c4b0 : decide (a1 ≤ a0) = false := decide_eq_false c4
    clear c4
    obtain rfl := oI H
    go_enter Tryz.func51, Tryz.ntmps51
    go_wp2
    go_ret
    exact ⟨by first | rfl | (simp; done) | (simp [*]; done), TD⟩
def spec_SizeOk.f (a0 : Int) (a1 : Int) : Option (Bool) := (spec_l1In.f a0 2 6).bind fun t191 => (if t191 = true then ((spec_l1In.f a1 0 (wrap64 (a0 * 40))).bind fun t192 => (some t192)) else (some false))
theorem spec_SizeOk.calls {a0 : Int} {a1 : Int} {r : Bool} {w : World} (h : spec_SizeOk.f a0 a1 = some r) :
    Calls Tryz.prog 77 #[.int .i64 a0, .int .i64 a1] w fun e w' => e = .returned (.bool r) ∧ Drawn0 w w' := by
  have H := h
  clear h
  unfold spec_SizeOk.f at H
  replace H := bE H
  obtain ⟨t191, A3, H⟩ := H
  by_cases c4 : t191 = true
  · subst c4
    replace H := ifT H
    replace H := bE H
    obtain ⟨t192, A5, H⟩ := H
    obtain rfl := oI H
    go_enter Tryz.func77, Tryz.ntmps77
    go_wp2_with (first | ((with_reducible refine gate_callee (f := 51) rfl ?_); refine gL (some 6) Tryz.func51 #[.int .i64 a0, .int .i64 2, .int .i64 6] ?_; (with_reducible refine (spec_l1In.calls A3.out).mono ?_); rintro e w' ⟨rfl, ⟨nd, rfl⟩⟩; refine ⟨_, rfl, ?_⟩) | (go_at_call 51; (with_reducible refine (spec_l1In.calls A5.out).mono ?_); rintro e w' ⟨rfl, ⟨nd, rfl⟩⟩))
    go_ret
    exact ⟨by first | rfl | (simp; done) | (simp [*]; done), TD⟩
  · replace c4 := bF c4
    subst c4
    replace H := ifF H
    obtain rfl := oI H
    go_enter Tryz.func77, Tryz.ntmps77
    go_wp2_with (first | ((with_reducible refine gate_callee (f := 51) rfl ?_); refine gL (some 6) Tryz.func51 #[.int .i64 a0, .int .i64 2, .int .i64 6] ?_; (with_reducible refine (spec_l1In.calls A3.out).mono ?_); rintro e w' ⟨rfl, ⟨nd, rfl⟩⟩; refine ⟨_, rfl, ?_⟩))
    go_ret
    exact ⟨by first | rfl | (simp; done) | (simp [*]; done), TD⟩
def spec_CeilDiv.f (a0 : Int) (a1 : Int) : Option (Int) := (spec_l1In.f a0 0 1000000000000).bind fun t193 => (if t193 = true then ((spec_l1In.f a1 1 1000000000000).bind fun t194 => (if t194 = true then (if a1 = 0 then (none) else (some (wrap64 (Int.tdiv (wrap64 ((wrap64 (a0 + a1)) - 1)) a1)))) else (some 0))) else (some 0))
theorem spec_CeilDiv.calls {a0 : Int} {a1 : Int} {r : Int} {w : World} (h : spec_CeilDiv.f a0 a1 = some r) :
    Calls Tryz.prog 92 #[.int .i64 a0, .int .i64 a1] w fun e w' => e = .returned (.int .i64 r) ∧ Drawn0 w w' := by
  have H := h
  clear h
  unfold spec_CeilDiv.f at H
  replace H := bE H
  obtain ⟨t193, A3, H⟩ := H
  by_cases c4 : t193 = true
  · subst c4
    replace H := ifT H
    replace H := bE H
    obtain ⟨t194, A5, H⟩ := H
    by_cases c6 : t194 = true
    · subst c6
      replace H := ifT H
      replace H := ifM H
      obtain ⟨c7, H⟩ := H
      have c7b0 : (a1 == 0) = false := beq_eq_false_iff_ne.mpr c7
      have c7b1 : (a1 != 0) = true := bne_iff_ne.mpr c7
      obtain rfl := oI H
      go_enter Tryz.func92, Tryz.ntmps92
      go_wp2_with (first | ((with_reducible refine gate_callee (f := 51) rfl ?_); refine gL (some 6) Tryz.func51 #[.int .i64 a0, .int .i64 0, .int .i64 1000000000000] ?_; (with_reducible refine (spec_l1In.calls A3.out).mono ?_); rintro e w' ⟨rfl, ⟨nd, rfl⟩⟩; refine ⟨_, rfl, ?_⟩) | (go_at_call 51; (with_reducible refine (spec_l1In.calls A5.out).mono ?_); rintro e w' ⟨rfl, ⟨nd, rfl⟩⟩))
      go_ret
      exact ⟨by first | rfl | (simp; done) | (simp [*]; done), TD⟩
    · replace c6 := bF c6
      subst c6
      replace H := ifF H
      obtain rfl := oI H
      go_enter Tryz.func92, Tryz.ntmps92
      go_wp2_with (first | ((with_reducible refine gate_callee (f := 51) rfl ?_); refine gL (some 6) Tryz.func51 #[.int .i64 a0, .int .i64 0, .int .i64 1000000000000] ?_; (with_reducible refine (spec_l1In.calls A3.out).mono ?_); rintro e w' ⟨rfl, ⟨nd, rfl⟩⟩; refine ⟨_, rfl, ?_⟩) | (go_at_call 51; (with_reducible refine (spec_l1In.calls A5.out).mono ?_); rintro e w' ⟨rfl, ⟨nd, rfl⟩⟩))
      go_ret
      exact ⟨by first | rfl | (simp; done) | (simp [*]; done), TD⟩
  · replace c4 := bF c4
    subst c4
    replace H := ifF H
    obtain rfl := oI H
    go_enter Tryz.func92, Tryz.ntmps92
    go_wp2_with (first | ((with_reducible refine gate_callee (f := 51) rfl ?_); refine gL (some 6) Tryz.func51 #[.int .i64 a0, .int .i64 0, .int .i64 1000000000000] ?_; (with_reducible refine (spec_l1In.calls A3.out).mono ?_); rintro e w' ⟨rfl, ⟨nd, rfl⟩⟩; refine ⟨_, rfl, ?_⟩))
    go_ret
    exact ⟨by first | rfl | (simp; done) | (simp [*]; done), TD⟩
def spec_Blocks.f (a0 : Int) (a1 : Int) : Option (Int) := (spec_SizeOk.f a0 a1).bind fun t195 => (if t195 = true then ((spec_CeilDiv.f a1 a0).bind fun t196 => (some t196)) else (some 0))
theorem spec_Blocks.calls {a0 : Int} {a1 : Int} {r : Int} {w : World} (h : spec_Blocks.f a0 a1 = some r) :
    Calls Tryz.prog 78 #[.int .i64 a0, .int .i64 a1] w fun e w' => e = .returned (.int .i64 r) ∧ Drawn0 w w' := by
  have H := h
  clear h
  unfold spec_Blocks.f at H
  replace H := bE H
  obtain ⟨t195, A3, H⟩ := H
  by_cases c4 : t195 = true
  · subst c4
    replace H := ifT H
    replace H := bE H
    obtain ⟨t196, A5, H⟩ := H
    obtain rfl := oI H
    go_enter Tryz.func78, Tryz.ntmps78
    go_wp2_with (first | ((with_reducible refine gate_callee (f := 77) rfl ?_); refine gL (some 7) Tryz.func77 #[.int .i64 a0, .int .i64 a1] ?_; (with_reducible refine (spec_SizeOk.calls A3.out).mono ?_); rintro e w' ⟨rfl, ⟨nd, rfl⟩⟩; refine ⟨_, rfl, ?_⟩) | ((with_reducible refine gate_callee (f := 92) rfl ?_); refine gL (some 11) Tryz.func92 #[.int .i64 a1, .int .i64 a0] ?_; (with_reducible refine (spec_CeilDiv.calls A5.out).mono ?_); rintro e w' ⟨rfl, ⟨nd, rfl⟩⟩; refine ⟨_, rfl, ?_⟩))
    go_ret
    exact ⟨by first | rfl | (simp; done) | (simp [*]; done), TD⟩
  · replace c4 := bF c4
    subst c4
    replace H := ifF H
    obtain rfl := oI H
    go_enter Tryz.func78, Tryz.ntmps78
    go_wp2_with (first | ((with_reducible refine gate_callee (f := 77) rfl ?_); refine gL (some 7) Tryz.func77 #[.int .i64 a0, .int .i64 a1] ?_; (with_reducible refine (spec_SizeOk.calls A3.out).mono ?_); rintro e w' ⟨rfl, ⟨nd, rfl⟩⟩; refine ⟨_, rfl, ?_⟩))
    go_ret
    exact ⟨by first | rfl | (simp; done) | (simp [*]; done), TD⟩
def spec_WeakOf.l0 : Nat → List Int → Int → Int → Int → Option (Int)
  | 0, _, _, _, _ => none
  | k + 1, x0, x3, x4, x5 => if x5 < (x0.length : Int) then (if 0 ≤ x5 then (spec_WeakOf.l0 k x0 (Int.tmod (wrap64 (x3 + (wrap64 (rd x0 x5)))) 251) (Int.tmod (wrap64 (x4 + (Int.tmod (wrap64 (x3 + (wrap64 (rd x0 x5)))) 251))) 251) (wrap64 (x5 + 1))) else (none)) else (some (wrap64 (x3 + (wrap64 (251 * x4)))))
def spec_WeakOf.f (k : Nat) (l0 : List Int) : Option (Int) := spec_WeakOf.l0 k l0 0 0 0
theorem spec_WeakOf.mono_l : ∀ k, (∀ y0 y1 y2 y3, LeO (spec_WeakOf.l0 k y0 y1 y2 y3) (spec_WeakOf.l0 (k + 1) y0 y1 y2 y3))
  | 0 => fun _ _ _ _ r h => by simp [spec_WeakOf.l0] at h
  | k + 1 => by
    have ih0 := spec_WeakOf.mono_l k
    · intro y0 y1 y2 y3
      unfold spec_WeakOf.l0
      exact LM
theorem spec_WeakOf.mono : ∀ a0 k, LeO (spec_WeakOf.f k a0) (spec_WeakOf.f (k + 1) a0) := by
  intro a0 k;have ih0 := spec_WeakOf.mono_l k;unfold spec_WeakOf.f;exact LM
theorem spec_WeakOf.calls {k : Nat} {A0 : Option Addr} {c0 : Nat} {l0 : List Int} {r : Int} {w : World} (hr0 : Kd.C (Kd.int .u8) w A0 l0.length l0) (hc0 : l0.length ≤ c0) (h : spec_WeakOf.f k l0 = some r) :
  Calls Tryz.prog 39 #[.slice A0 l0.length c0] w fun e w' => e = .returned (.int .i64 r) ∧ Drawn0 w w' := by
 have HRq1 := aM hr0;have HCq1 := aM hc0;clear hr0 hc0;have H := h;clear h;unfold spec_WeakOf.f at H;have H' := aM H;clear H;go_enter Tryz.func39, Tryz.ntmps39;go_wp2
 go_loopg [3, 4, 5] k (fun kq vq1 vq2 vq3 w' => ∃ (xq1 : Int) (xq2 : Int) (xq3 : Int), vq1 = .int .i64 xq1 ∧ vq2 = .int .i64 xq2 ∧ vq3 = .int .i64 xq3 ∧ Aside0 (spec_WeakOf.l0 kq l0 xq1 xq2 xq3 = some r) ∧ Aside0 (kq ≤ k) ∧ Drawn0 w w')
 case atStart => exact ⟨(0), (0), (0), TF, TF, TF, H', ⟨Nat.le_refl _⟩, TD⟩
 case round =>
  clear H';obtain ⟨xq1, xq2, xq3, rfl, rfl, rfl, HA, HKq1, ⟨mq1, rfl⟩⟩ := hrel;cases gk with
  | zero => exact absurd HA.out (by simp [spec_WeakOf.l0])
  | succ k1 =>
   have H := HA.out;clear HA;simp only [spec_WeakOf.l0] at H
   by_cases c2 : xq3 < (l0.length : Int)
   ·rw [if_pos c2] at H;have cq1 : decide (xq3 < (l0.length : Int)) = true := decide_eq_true c2;clear c2;replace H := ifN H;obtain ⟨c3, H⟩ := H;have cq2 : decide (0 ≤ xq3) = true := decide_eq_true c3;clear c3;have H' := aM H;clear H;have pq1 : 0 ≤ (xq3 : Int) := DT;have qq1 : xq3 < (l0.length : Int) := DT;obtain ⟨adq1, eq1, hxq1⟩ := Kd.at_int HRq1.out xq3 pq1 qq1;cases eq1;replace pq1 := eq_true pq1;replace qq1 := eq_true qq1;go_wp2
    go_roundg k1
    case measure => have := HKq1.out; omega
    case rel => exact ⟨(Int.tmod (wrap64 (xq1 + (wrap64 (rd l0 xq3)))) 251), (Int.tmod (wrap64 (xq2 + (Int.tmod (wrap64 (xq1 + (wrap64 (rd l0 xq3)))) 251))) 251), (wrap64 (xq3 + 1)), TF, TF, TF, H', ⟨by have := HKq1.out; omega⟩, TD⟩
   ·rw [if_neg c2] at H;have cq1 : decide (xq3 < (l0.length : Int)) = false := decide_eq_false c2;clear c2;obtain rfl := oI H;go_wp2
    go_ret
    exact ⟨by first | rfl | (simp; done) | (simp [*]; done), TD⟩
end Go.Proofs.YtanpaipapcjpoaaGreatDoor.Q
