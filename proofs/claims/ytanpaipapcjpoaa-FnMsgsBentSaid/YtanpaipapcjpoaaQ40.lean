/- Functions of the program as plain Lean functions, and that a call of each comes to what its function tells. Written by a program of this seat. -/
import Derived.Test.YtanpaipapcjpoaaQ0
import Derived.Test.YtanpaipapcjpoaaQ11
import Derived.Test.YtanpaipapcjpoaaQ17
import Derived.Test.YtanpaipapcjpoaaQ19
import Derived.Test.YtanpaipapcjpoaaQ25
import Derived.Test.YtanpaipapcjpoaaQ30
import Derived.Test.YtanpaipapcjpoaaQ38
import Derived.Test.YtanpaipapcjpoaaQ39
namespace Go.Proofs.Ytanpaipapcjpoaa.Q
open Go.RowKit Go.Proofs.YtanpaipapcjpoaaW.PrintWords Go.Proofs.YtanpaipapcjpoaaW.PrintLast Go.Proofs.YtanpaipapcjpoaaW.PrintMore
attribute [local go_sem] min2_int min_two
set_option linter.unusedVariables false
set_option linter.unusedSimpArgs false

theorem Zq40_0 {p : Prop} (h : p := by (with_reducible repeat (first | apply Kd.R_alloc | apply Kd.R_drewN | apply Kd.R_drew)); exact (R_off (Kd.R_mono ak.out (fun k_ hk => (⟨hk, fun e_ => hk.2 (by rw [e_]; rfl)⟩ : _ ∧ k_ ≠ aN))) TO)) : p := h
theorem Zq40_1 {p : Prop} (h : p := by (with_reducible repeat (first | apply Kd.R_alloc | apply Kd.R_drewN | apply Kd.R_drew)); exact (R_off (Kd.R_mono aa.out (fun k_ hk => (⟨hk, fun e_ => hk.2 (by rw [e_]; rfl)⟩ : _ ∧ k_ ≠ aN))) TO)) : p := h
theorem Zq40_2 {p : Prop} (h : p := by (with_reducible repeat (first | apply Kd.R_alloc | apply Kd.R_drewN | apply Kd.R_drew)); exact (R_off (Kd.R_mono ac.out (fun k_ hk => (⟨hk, fun e_ => hk.2 (by rw [e_]; rfl)⟩ : _ ∧ k_ ≠ aN))) TO)) : p := h
theorem Zq40_3 {p : Prop} (h : p := by (with_reducible repeat (first | apply Kd.R_alloc | apply Kd.R_drewN | apply Kd.R_drew)); exact (R_off (Kd.R_types ab.out a5.out (by decide)) TO)) : p := h
theorem Zq40_4 {p : Prop} (h : p := by (with_reducible repeat (first | apply Kd.R_alloc | apply Kd.R_drewN | apply Kd.R_drew)); exact (R_off (Kd.R_types ae.out a5.out (by decide)) TO)) : p := h
theorem Zq40_5 {p : Prop} (h : p := by (with_reducible repeat (first | refine blk_drewN ?_ _ | refine blk_drew ?_ | refine blk_alloc ?_ _)); refine blk_far ?_ (by have h_ := Kd.R_ne an.out ad.out (by decide); intro e_; exact h_ (by rw [e_]; rfl)) _; (with_reducible repeat (first | refine blk_drewN ?_ _ | refine blk_drew ?_ | refine blk_alloc ?_ _)); exact ad.out) : p := h
theorem Zq40_6 {p : Prop} (h : p := by (with_reducible repeat (first | refine blk_drewN ?_ _ | refine blk_drew ?_ | refine blk_alloc ?_ _)); refine blk_far ?_ (by have h_ := Kd.R_ne an.out af.out (by decide); intro e_; exact h_ (by rw [e_]; rfl)) _; (with_reducible repeat (first | refine blk_drewN ?_ _ | refine blk_drew ?_ | refine blk_alloc ?_ _)); exact af.out) : p := h
theorem Zq40_7 {p : Prop} (h : p := by refine (Kd.R_reads' (e := 5) (base := w.heap.size) (ok := fun k_ => (some k_ ≠ (.slice Ao9 ay.length co9 : Value).ownBlock ∧ (some k_ ≠ (aj : Value).ownBlock ∧ some k_ ≠ (ag : Value).ownBlock))) (n := az.length) (c := co46) ?_).2.2; exact (TRf a3)) : p := h
theorem Zq40_8 {p : Prop} (h : p := by (try simp only [List.map_toArray, List.map_cons, List.map_nil]); first | done | (rw [show a4.length = az.length from (Kd.R_reads' a3.out).1.symm] <;> rfl) | rfl | (simp only [List.length_drop, List.length_take]; rfl)) : p := h
mutual
def laws_FnMsgsBent.j0 : Nat → List Int → List Int → Bool → Bool → Int → Int → Int → Int → Int → List (S83) → Int → Int → Int → List Int → Option (Bool)
  | 0, _, _, _, _, _, _, _, _, _, _, _, _, _, _ => none
  | k + 1, x0, x3, x5, x35, x1031000, x1031001, x1031002, x1031003, x1031004, x1031005, x1031006, x1031007, x1031008, x1031009 => if x35 = true then (none) else (if x5 = true then (laws_FnMsgsBent.l0 k x0 x3 0 x1031000 x1031001 x1031002 x1031003 x1031004 x1031005 x1031006 x1031007 x1031008 x1031009) else ((laws_sameMsg.f k x1031000 x1031001 x1031002 x1031003 x1031004 x1031005 x1031006 x1031007 x1031008 x1031009 0 0 0 0 0 ([] : List (S83)) 0 0 0 ([] : List Int)).bind fun t1048 => (some t1048)))
def laws_FnMsgsBent.l0 : Nat → List Int → List Int → Int → Int → Int → Int → Int → Int → List (S83) → Int → Int → Int → List Int → Option (Bool)
  | 0, _, _, _, _, _, _, _, _, _, _, _, _, _ => none
  | k + 1, x0, x3, x8, x1031000, x1031001, x1031002, x1031003, x1031004, x1031005, x1031006, x1031007, x1031008, x1031009 => if x8 < 8 then (laws_FnMsgsBent.j2 k x0 x3 x8 (decide ((x3.length : Int) > 0)) x1031000 x1031001 x1031002 x1031003 x1031004 x1031005 x1031006 x1031007 x1031008 x1031009) else (laws_FnMsgsBent.j2 k x0 x3 x8 false x1031000 x1031001 x1031002 x1031003 x1031004 x1031005 x1031006 x1031007 x1031008 x1031009)
def laws_FnMsgsBent.j2 : Nat → List Int → List Int → Int → Bool → Int → Int → Int → Int → Int → List (S83) → Int → Int → Int → List Int → Option (Bool)
  | 0, _, _, _, _, _, _, _, _, _, _, _, _, _, _ => none
  | k + 1, x0, x3, x8, x47, x1031000, x1031001, x1031002, x1031003, x1031004, x1031005, x1031006, x1031007, x1031008, x1031009 => if x47 = true then ((some (([] : List Int) : List Int)).bind fun y1054 => (if y1054.length + x3.length < 140737488355328 then ((some (y1054 ++ x3 : List Int)).bind fun y1057 => ((laws_at.f x0 x8).bind fun t1060 => (if (y1057.length : Int) = 0 then (none) else (if 0 ≤ (Int.tmod t1060 (y1057.length : Int)) then (if (Int.tmod t1060 (y1057.length : Int)) < (y1057.length : Int) then (if 0 ≤ x8 then ((impl_GetMsg.f k (y1057.set ((Int.tmod t1060 (y1057.length : Int)) : Int).toNat (Go.bits .xor .u8 (rd y1057 (Int.tmod t1060 (y1057.length : Int))) (shl .u8 1 x8)))).bind fun bt1063 => (if bt1063.2.2.2.2.2.2.2.2.2.2 = true then ((laws_sameMsg.f k bt1063.1 bt1063.2.1 bt1063.2.2.1 bt1063.2.2.2.1 bt1063.2.2.2.2.1 bt1063.2.2.2.2.2.1 bt1063.2.2.2.2.2.2.1 bt1063.2.2.2.2.2.2.2.1 bt1063.2.2.2.2.2.2.2.2.1 bt1063.2.2.2.2.2.2.2.2.2.1 x1031000 x1031001 x1031002 x1031003 x1031004 x1031005 x1031006 x1031007 x1031008 x1031009).bind fun t1079 => (if t1079 = true then (none) else (laws_FnMsgsBent.l0 k x0 x3 (wrap64 (x8 + 1)) x1031000 x1031001 x1031002 x1031003 x1031004 x1031005 x1031006 x1031007 x1031008 x1031009))) else (laws_FnMsgsBent.l0 k x0 x3 (wrap64 (x8 + 1)) x1031000 x1031001 x1031002 x1031003 x1031004 x1031005 x1031006 x1031007 x1031008 x1031009))) else (none)) else (none)) else (none))))) else (none))) else ((impl_MsgOk.f k x1031000 x1031001 x1031002 x1031003 x1031004 x1031005 x1031006 x1031007 x1031008 x1031009).bind fun t1049 => (if t1049 = true then ((impl_PutMsg.f k x1031000 x1031001 x1031002 x1031003 x1031004 x1031005 x1031006 x1031007 x1031008 x1031009).bind fun t1050 => ((laws_same.f k t1050 x3).bind fun t1053 => (some t1053))) else (none)))
end
def laws_FnMsgsBent.f (k : Nat) (l0 : List Int) : Option (Bool) := (laws_big.f l0).bind fun t1011 => (if t1011 = true then (some true) else ((spec_DrawGetMsg.f k l0).bind fun t1012 => ((impl_GetMsg.f k t1012).bind fun bt1015 => ((spec_GetMsg.f k t1012).bind fun bt1031 => ((laws_sameMsg.f k bt1015.1 bt1015.2.1 bt1015.2.2.1 bt1015.2.2.2.1 bt1015.2.2.2.2.1 bt1015.2.2.2.2.2.1 bt1015.2.2.2.2.2.2.1 bt1015.2.2.2.2.2.2.2.1 bt1015.2.2.2.2.2.2.2.2.1 bt1015.2.2.2.2.2.2.2.2.2.1 bt1031.1 bt1031.2.1 bt1031.2.2.1 bt1031.2.2.2.1 bt1031.2.2.2.2.1 bt1031.2.2.2.2.2.1 bt1031.2.2.2.2.2.2.1 bt1031.2.2.2.2.2.2.2.1 bt1031.2.2.2.2.2.2.2.2.1 bt1031.2.2.2.2.2.2.2.2.2.1).bind fun t1047 => (if t1047 = true then (laws_FnMsgsBent.j0 k l0 t1012 bt1015.2.2.2.2.2.2.2.2.2.2 (bt1015.2.2.2.2.2.2.2.2.2.2 != bt1031.2.2.2.2.2.2.2.2.2.2) bt1015.1 bt1015.2.1 bt1015.2.2.1 bt1015.2.2.2.1 bt1015.2.2.2.2.1 bt1015.2.2.2.2.2.1 bt1015.2.2.2.2.2.2.1 bt1015.2.2.2.2.2.2.2.1 bt1015.2.2.2.2.2.2.2.2.1 bt1015.2.2.2.2.2.2.2.2.2.1) else (none)))))))
theorem laws_FnMsgsBent.mono_l : ∀ k, (∀ y0 y1 y2 y3 y4 y5 y6 y7 y8 y9 y10 y11 y12 y13, LeO (laws_FnMsgsBent.j0 k y0 y1 y2 y3 y4 y5 y6 y7 y8 y9 y10 y11 y12 y13) (laws_FnMsgsBent.j0 (k + 1) y0 y1 y2 y3 y4 y5 y6 y7 y8 y9 y10 y11 y12 y13)) ∧ (∀ y0 y1 y2 y3 y4 y5 y6 y7 y8 y9 y10 y11 y12, LeO (laws_FnMsgsBent.l0 k y0 y1 y2 y3 y4 y5 y6 y7 y8 y9 y10 y11 y12) (laws_FnMsgsBent.l0 (k + 1) y0 y1 y2 y3 y4 y5 y6 y7 y8 y9 y10 y11 y12)) ∧ (∀ y0 y1 y2 y3 y4 y5 y6 y7 y8 y9 y10 y11 y12 y13, LeO (laws_FnMsgsBent.j2 k y0 y1 y2 y3 y4 y5 y6 y7 y8 y9 y10 y11 y12 y13) (laws_FnMsgsBent.j2 (k + 1) y0 y1 y2 y3 y4 y5 y6 y7 y8 y9 y10 y11 y12 y13))
  | 0 => ⟨fun _ _ _ _ _ _ _ _ _ _ _ _ _ _ r h => by simp [laws_FnMsgsBent.j0] at h, fun _ _ _ _ _ _ _ _ _ _ _ _ _ r h => by simp [laws_FnMsgsBent.l0] at h, fun _ _ _ _ _ _ _ _ _ _ _ _ _ _ r h => by simp [laws_FnMsgsBent.j2] at h⟩
  | k + 1 => by
    have m0_ := @impl_GetMsg.mono
    have m1_ := @impl_MsgOk.mono
    have m2_ := @impl_PutMsg.mono
    have m3_ := @laws_same.mono
    have m4_ := @laws_sameMsg.mono
    have m5_ := @spec_DrawGetMsg.mono
    have m6_ := @spec_GetMsg.mono
    obtain ⟨ih0, ih1, ih2⟩ := laws_FnMsgsBent.mono_l k
    refine ⟨?_, ?_, ?_⟩
    · intro y0 y1 y2 y3 y4 y5 y6 y7 y8 y9 y10 y11 y12 y13
      unfold laws_FnMsgsBent.j0
      exact LM
    · intro y0 y1 y2 y3 y4 y5 y6 y7 y8 y9 y10 y11 y12
      unfold laws_FnMsgsBent.l0
      exact LM
    · intro y0 y1 y2 y3 y4 y5 y6 y7 y8 y9 y10 y11 y12 y13
      unfold laws_FnMsgsBent.j2
      exact LM
theorem laws_FnMsgsBent.mono : ∀ a0 k, LeO (laws_FnMsgsBent.f k a0) (laws_FnMsgsBent.f (k + 1) a0) := by
  intro a0 k;have m0_ := @impl_GetMsg.mono;have m1_ := @impl_MsgOk.mono;have m2_ := @impl_PutMsg.mono;have m3_ := @laws_same.mono;have m4_ := @laws_sameMsg.mono;have m5_ := @spec_DrawGetMsg.mono;have m6_ := @spec_GetMsg.mono;obtain ⟨ih0, ih1, ih2⟩ := laws_FnMsgsBent.mono_l k;unfold laws_FnMsgsBent.f;exact LM
def laws_FnMsgsBent.T15 : Bool × List (List Nat × List Nat) := (true, [([], []), ([], []), ([], []), ([], []), ([2, 3], [2, 3]), ([4], [4]), ([], []), ([6], [6]), ([5, 7], [5, 7]), ([0, 1, 0, 1, 2, 3, 4, 5, 6, 7, 8], [0, 1]), ([9, 8, 0, 1, 2, 3, 4, 5, 6, 7, 8], [8, 9])])
def laws_FnMsgsBent.B15 : List Nat := [0, 0, 0, 0, 12, 28, 0, 64, 252, 511, 1023]
theorem laws_FnMsgsBent.tab15 : rtab .any (opsOf Try.f4 15) = laws_FnMsgsBent.T15 := by kernel_rfl
theorem laws_FnMsgsBent.bits15 : waitsOk laws_FnMsgsBent.T15.2 laws_FnMsgsBent.B15 = true := by kernel_rfl
set_option maxHeartbeats 40000000 in
set_option maxRecDepth 100000 in
theorem laws_FnMsgsBent.calls (k : Nat) (A0 : Option Addr) (c0 : Nat) (l0 : List Int) (r : Bool) (w : World) (hr0 : Kd.C (Kd.int .u8) w A0 l0.length l0) (hc0 : l0.length ≤ c0) (h : laws_FnMsgsBent.f k l0 = some r) :
  Calls Try.prog 4 #[.slice A0 l0.length c0] w fun e w' => e = .returned (.bool r) ∧ Below w.heap.size w w' := by
 have hu27 := Try.underlying27;have HR0 := aM hr0;have HC0 := aM hc0;clear hr0 hc0;have HB := aM (Below.refl w.heap.size w);have H := h;clear h;unfold laws_FnMsgsBent.f at H;replace H := bE H;obtain ⟨t1011, A2, H⟩ := H
 by_cases c3 : t1011 = true
 ·subst c3;replace H := ifT H;obtain rfl := Option.some.inj H;go_enter Try.func4, Try.ntmps4;go_wp2_with (first | ((with_reducible refine gate_callee (f := 13) rfl ?_); refine gL (some 14) Try.func13 #[.slice A0 l0.length c0] ?_; (with_reducible refine (laws_big.calls _ _ l0 true _ ?side1 ?side2 A2.out).mono ?_); (case side1 => have X_ := HR0.out; exact TC); (case side2 => exact HC0.out); rintro e w' ⟨rfl, ⟨nd, rfl⟩⟩; refine ⟨_, rfl, ?_⟩))
  go_ret
  exact ⟨TE, TB⟩
 ·replace c3 := Bool.eq_false_iff.mpr c3;subst c3;replace H := ifF H;replace H := bE H;obtain ⟨aH, A4, H⟩ := H;replace H := bE H;obtain ⟨⟨ao, ap, aq, ar, au, ah, av, aw, ax, aG, cE⟩, A5, H⟩ := H;dsimp only at H;replace H := bE H;obtain ⟨⟨aA, aC, aD, aE, aI, am, aK, aP, aW, aU, cS⟩, A6, H⟩ := H;dsimp only at H;have HC7 := aM H;clear H;go_enter Try.func4, Try.ntmps4;go_upto_region 6 with (first | ((with_reducible refine gate_callee (f := 13) rfl ?_); refine gL (some 14) Try.func13 #[.slice A0 l0.length c0] ?_; (with_reducible refine (laws_big.calls _ _ l0 false _ ?side1 ?side2 A2.out).mono ?_); (case side1 => have X_ := HR0.out; exact TC); (case side2 => exact HC0.out); rintro e w' ⟨rfl, ⟨nd, rfl⟩⟩; refine ⟨_, rfl, ?_⟩) | ((with_reducible refine gate_callee (f := 14) rfl ?_); refine gL (some 16) Try.func14 #[.slice A0 l0.length c0] ?_; (with_reducible refine (spec_DrawGetMsg.calls k _ _ l0 aH _ ?side1 ?side2 A4.out).mono ?_); (case side1 => have X_ := HR0.out; exact TC); (case side2 => exact HC0.out); rintro e w8 ⟨v1013, rfl, ho0, hb⟩; refine ⟨_, rfl, ?_⟩; have HO1014 := aM (Kd.R_lower ho0 (below_size TB)); replace HB := bS HB hb; clear ho0 hb; obtain ⟨Ao9, co9, eo9⟩ := Kd.R_slice HO1014.out; subst eo9) | ((with_reducible refine gate_callee (f := 7) rfl ?_); refine gL (some 19) Try.func7 #[.slice Ao9 aH.length co9] ?_; (with_reducible refine (impl_GetMsg.calls k _ _ aH ao ap aq ar au ah av aw ax aG cE _ ?side1 ?side2 A5.out).mono ?_); (case side1 => have X_ := (Kd.R_reads' HO1014.out).2.2; exact TC); (case side2 => exact (Kd.R_reads' HO1014.out).2.1); rintro e w10 ⟨v1021, v1027, rfl, ho0, ho1, hb⟩; refine ⟨_, rfl, ?_⟩; have HO1022 := aM (Kd.R_lower ho0 (below_size TB)); have HO1028 := aM (Kd.R_lower (Kd.R_new' ho1 (Kd.R_lt (TRf HO1014))) (below_size TB)); replace HO1014 := aM (Kd.R_elder' (TRf HO1014) (Kd.R_base ho1) hb); replace HB := bS HB hb; clear ho0 ho1 hb) | ((with_reducible refine gate_dst (N := 4) rfl ?_); (try (refine gate_guard (by rfl) ?_; dsimp only)); refine gBx 4 #[.int .i64 0, .int .i64 0, .int .i64 0, .int .i64 0, .int .i64 0, .slice none 0 0, .int .i64 0, .int .i64 0, .int .i64 0, .slice none 0 0] 27 ?_; intro gb1030 hg w11 hbox hb; have ad := aM (hbox); have GW1030 := gW HB hg; have GE1030 := gW HB hg; replace HO1014 := mR HO1014 hb; replace HO1022 := mR HO1022 hb; replace HO1028 := mR HO1028 hb; replace HB := bS HB hb; clear hb hbox hg; obtain ⟨cp, cB, bx, bh, bC, cf, cb, cC, bQ, cr⟩ := cz10 ad.out; obtain ⟨cw, bv, cc, bq, bN, bX, cd, bw, bp, bs⟩ := fz10 ad.out; obtain ⟨Ao13, co13, eo13⟩ := Kd.R_slice HO1022.out; subst eo13; obtain ⟨Ao14, co14, eo14⟩ := Kd.R_slice HO1028.out; subst eo14) | ((with_reducible refine gate_callee (f := 5) rfl ?_); refine gL (some 24) Try.func5 #[.slice Ao9 aH.length co9] ?_; (with_reducible refine (spec_GetMsg.calls k _ _ aH aA aC aD aE aI am aK aP aW aU cS _ ?side1 ?side2 A6.out).mono ?_); (case side1 => refine (Kd.R_reads' (e := 5) (base := w.heap.size) (ok := fun k_ => (True ∧ some k_ ≠ (.slice Ao14 aG.length co14 : Value).ownBlock)) (n := aH.length) (c := co9) ?_).2.2; exact (TY HO1014 ad)); (case side2 => exact (Kd.R_reads' HO1014.out).2.1); rintro e w15 ⟨v1037, v1043, rfl, ho0, ho1, hb⟩; refine ⟨_, rfl, ?_⟩; have HO1038 := aM (Kd.R_lower (Kd.R_new' ho0 (Kd.R_lt (TY HO1022 ad))) (below_size TB)); have HO1044 := aM (Kd.R_lower (Kd.R_new' (Kd.R_new' ho1 (Kd.R_lt (TY HO1014 ad))) (Kd.R_lt (TY HO1028 ad))) (below_size TB)); replace HO1014 := aM (Kd.R_elder' (TY HO1014 ad) (Kd.R_base ho1) hb); replace HO1022 := aM (Kd.R_elder' (TY HO1022 ad) (Kd.R_base ho0) hb); replace HO1028 := aM (Kd.R_elder' (TY HO1028 ad) (Kd.R_base ho1) hb); replace ad := aM (blk_below (g := gb1030) (o := .cells #[.int .i64 ao, .int .i64 ap, .int .i64 aq, .int .i64 ar, .int .i64 au, .slice Ao13 ah.length co13, .int .i64 av, .int .i64 aw, .int .i64 ax, .slice Ao14 aG.length co14] 27 (0, 0)) (blk_put (cs := #[.int .i64 ao, .int .i64 ap, .int .i64 aq, .int .i64 ar, .int .i64 au, .slice Ao13 ah.length co13, .int .i64 av, .int .i64 aw, .int .i64 ax, .slice none 0 0]) (blk_put (cs := #[.int .i64 ao, .int .i64 ap, .int .i64 aq, .int .i64 ar, .int .i64 au, .slice Ao13 ah.length co13, .int .i64 av, .int .i64 aw, .int .i64 0, .slice none 0 0]) (blk_put (cs := #[.int .i64 ao, .int .i64 ap, .int .i64 aq, .int .i64 ar, .int .i64 au, .slice Ao13 ah.length co13, .int .i64 av, .int .i64 0, .int .i64 0, .slice none 0 0]) (blk_put (cs := #[.int .i64 ao, .int .i64 ap, .int .i64 aq, .int .i64 ar, .int .i64 au, .slice Ao13 ah.length co13, .int .i64 0, .int .i64 0, .int .i64 0, .slice none 0 0]) (blk_put (cs := #[.int .i64 ao, .int .i64 ap, .int .i64 aq, .int .i64 ar, .int .i64 au, .slice none 0 0, .int .i64 0, .int .i64 0, .int .i64 0, .slice none 0 0]) (blk_put (cs := #[.int .i64 ao, .int .i64 ap, .int .i64 aq, .int .i64 ar, .int .i64 0, .slice none 0 0, .int .i64 0, .int .i64 0, .int .i64 0, .slice none 0 0]) (blk_put (cs := #[.int .i64 ao, .int .i64 ap, .int .i64 aq, .int .i64 0, .int .i64 0, .slice none 0 0, .int .i64 0, .int .i64 0, .int .i64 0, .slice none 0 0]) (blk_put (cs := #[.int .i64 ao, .int .i64 ap, .int .i64 0, .int .i64 0, .int .i64 0, .slice none 0 0, .int .i64 0, .int .i64 0, .int .i64 0, .slice none 0 0]) (blk_put (cs := #[.int .i64 ao, .int .i64 0, .int .i64 0, .int .i64 0, .int .i64 0, .slice none 0 0, .int .i64 0, .int .i64 0, .int .i64 0, .slice none 0 0]) (blk_put (cs := #[.int .i64 0, .int .i64 0, .int .i64 0, .int .i64 0, .int .i64 0, .slice none 0 0, .int .i64 0, .int .i64 0, .int .i64 0, .slice none 0 0]) (TZ ad) 0 _ rfl) 1 _ rfl) 2 _ rfl) 3 _ rfl) 4 _ rfl) 5 _ rfl) 6 _ rfl) 7 _ rfl) 8 _ rfl) 9 _ rfl) hb); replace HB := bS HB hb; clear ho0 ho1 hb) | ((with_reducible refine gate_dst (N := 6) rfl ?_); (try (refine gate_guard (by rfl) ?_; dsimp only)); refine gBx 6 #[.int .i64 0, .int .i64 0, .int .i64 0, .int .i64 0, .int .i64 0, .slice none 0 0, .int .i64 0, .int .i64 0, .int .i64 0, .slice none 0 0] 27 ?_; intro gb1046 hg w16 hbox hb; have af := aM (hbox); have GW1046 := gW HB hg; have GE1046 := gW HB hg; obtain ⟨NB1030_1046, NB1046_1030⟩ := nB ad hg; replace HO1014 := mR HO1014 hb; replace HO1022 := mR HO1022 hb; replace HO1028 := mR HO1028 hb; replace HO1038 := mR HO1038 hb; replace HO1044 := mR HO1044 hb; replace ad := mB ad hb; replace HB := bS HB hb; clear hb hbox hg; obtain ⟨hnb17, hnc17⟩ := oB NB1046_1030; obtain ⟨ch, bF, bZ, bM, cj, b7, bA, cn, cx, bG⟩ := cz10 af.out; obtain ⟨cy, cv, cq, bo, cA, bn, ce, b2, bT, b3⟩ := fz10 af.out; obtain ⟨Ao19, co19, eo19⟩ := Kd.R_slice HO1038.out; subst eo19; obtain ⟨Ao20, co20, eo20⟩ := Kd.R_slice HO1044.out; subst eo20))
  (try simp only [NP])
  go_cut [35] (fun v35 wc => ∃ (kq : Nat) (cL : Bool), v35 = .bool cL ∧ Aside0 (laws_FnMsgsBent.j0 kq l0 aH cE cL ao ap aq ar au ah av aw ax aG = some r) ∧ Aside0 (kq ≤ k) ∧ Aside0 (Kd.R (Kd.int .u8) 5 wc w.heap.size (fun k_ => some k_ ≠ ((.slice Ao14 aG.length co14) : Value).ownBlock ∧ some k_ ≠ ((.slice Ao20 aU.length co20) : Value).ownBlock) (.slice Ao9 aH.length co9) aH) ∧ Aside0 (Kd.R k83 83 wc w.heap.size (fun k_ => some k_ ≠ ((.slice Ao19 am.length co19) : Value).ownBlock) (.slice Ao13 ah.length co13) ah) ∧ Aside0 (Kd.R (Kd.int .u8) 5 wc w.heap.size (fun k_ => some k_ ≠ ((.slice Ao9 aH.length co9) : Value).ownBlock ∧ some k_ ≠ ((.slice Ao20 aU.length co20) : Value).ownBlock) (.slice Ao14 aG.length co14) aG) ∧ Aside0 (Kd.R k83 83 wc w.heap.size (fun k_ => some k_ ≠ ((.slice Ao13 ah.length co13) : Value).ownBlock) (.slice Ao19 am.length co19) am) ∧ Aside0 (Kd.R (Kd.int .u8) 5 wc w.heap.size (fun k_ => some k_ ≠ ((.slice Ao9 aH.length co9) : Value).ownBlock ∧ some k_ ≠ ((.slice Ao14 aG.length co14) : Value).ownBlock) (.slice Ao20 aU.length co20) aU) ∧ Aside0 (wc.heap[gb1030]? = some (.cells #[.int .i64 ao, .int .i64 ap, .int .i64 aq, .int .i64 ar, .int .i64 au, (.slice Ao13 ah.length co13), .int .i64 av, .int .i64 aw, .int .i64 ax, (.slice Ao14 aG.length co14)] 27 (0, 0))) ∧ Aside0 (wc.heap[gb1046]? = some (.cells #[.int .i64 aA, .int .i64 aC, .int .i64 aD, .int .i64 aE, .int .i64 aI, (.slice Ao19 am.length co19), .int .i64 aK, .int .i64 aP, .int .i64 aW, (.slice Ao20 aU.length co20)] 27 (0, 0))) ∧ Aside0 (Below w.heap.size w wc))
  case first =>
   have H := HC7.out;clear HC7;replace H := bE H;obtain ⟨t1047, A21, H⟩ := H;replace H := ifN H;obtain ⟨c22, H⟩ := H;subst c22;have H' := aM H;clear H;obtain ⟨hnb23, hnc23⟩ := oB NB1030_1046;obtain ⟨cu, bR, bI, bB, ca, co, bJ, b8, b9, bV⟩ := cz10 ad.out;obtain ⟨bz, bK, cl, bW, b6, bP, bu, bi, ci, cz⟩ := fz10 ad.out;obtain ⟨b4, bL, bO, b5, bH, bl, cg, ct, bU, bf⟩ := cz10 af.out;obtain ⟨bj, cm, b1, bY, bm, ck, bk, bg, br, bt⟩ := fz10 af.out;go_wp2_with (first | ((with_reducible refine gate_callee (f := 15) rfl ?_); refine gL (some 29) Try.func15 #[.agg #[.int .i64 ao, .int .i64 ap, .int .i64 aq, .int .i64 ar, .int .i64 au, .slice Ao13 ah.length co13, .int .i64 av, .int .i64 aw, .int .i64 ax, .slice Ao14 aG.length co14], .agg #[.int .i64 aA, .int .i64 aC, .int .i64 aD, .int .i64 aE, .int .i64 aI, .slice Ao19 am.length co19, .int .i64 aK, .int .i64 aP, .int .i64 aW, .slice Ao20 aU.length co20]] ?_; (with_reducible refine (laws_sameMsg.calls k ao ap aq ar au _ _ ah av aw ax _ _ aG aA aC aD aE aI _ _ am aK aP aW _ _ aU true _ ?side1 ?side2 ?side3 ?side4 ?side5 ?side6 ?side7 ?side8 A21.out).mono ?_); (case side1 => refine (Kd.R_reads' (e := 83) (base := w.heap.size) (ok := fun k_ => (True ∧ some k_ ≠ (.slice Ao19 am.length co19 : Value).ownBlock)) (n := ah.length) (c := co13) ?_).2.2; exact (TY HO1022 af)); (case side2 => exact (Kd.R_reads' HO1022.out).2.1); (case side3 => refine (Kd.R_reads' (e := 5) (base := w.heap.size) (ok := fun k_ => ((True ∧ some k_ ≠ (.slice Ao9 aH.length co9 : Value).ownBlock) ∧ some k_ ≠ (.slice Ao20 aU.length co20 : Value).ownBlock)) (n := aG.length) (c := co14) ?_).2.2; exact (TY HO1028 af)); (case side4 => exact (Kd.R_reads' HO1028.out).2.1); (case side5 => refine (Kd.R_reads' (e := 83) (base := w.heap.size) (ok := fun k_ => (True ∧ some k_ ≠ (.slice Ao13 ah.length co13 : Value).ownBlock)) (n := am.length) (c := co19) ?_).2.2; exact (TY HO1038 af)); (case side6 => exact (Kd.R_reads' HO1038.out).2.1); (case side7 => refine (Kd.R_reads' (e := 5) (base := w.heap.size) (ok := fun k_ => ((True ∧ some k_ ≠ (.slice Ao9 aH.length co9 : Value).ownBlock) ∧ some k_ ≠ (.slice Ao14 aG.length co14 : Value).ownBlock)) (n := aU.length) (c := co20) ?_).2.2; exact (TY HO1044 af)); (case side8 => exact (Kd.R_reads' HO1044.out).2.1); rintro e w26 ⟨rfl, hb⟩; refine ⟨_, rfl, ?_⟩; replace HO1014 := aM (Kd.R_below (TY HO1014 af) hb); replace HO1022 := aM (Kd.R_below (TY HO1022 af) hb); replace HO1028 := aM (Kd.R_below (TY HO1028 af) hb); replace HO1038 := aM (Kd.R_below (TY HO1038 af) hb); replace HO1044 := aM (Kd.R_below (TY HO1044 af) hb); replace ad := mB ad hb; replace af := aM (blk_below (g := gb1046) (o := .cells #[.int .i64 aA, .int .i64 aC, .int .i64 aD, .int .i64 aE, .int .i64 aI, .slice Ao19 am.length co19, .int .i64 aK, .int .i64 aP, .int .i64 aW, .slice Ao20 aU.length co20] 27 (0, 0)) (blk_put (cs := #[.int .i64 aA, .int .i64 aC, .int .i64 aD, .int .i64 aE, .int .i64 aI, .slice Ao19 am.length co19, .int .i64 aK, .int .i64 aP, .int .i64 aW, .slice none 0 0]) (blk_put (cs := #[.int .i64 aA, .int .i64 aC, .int .i64 aD, .int .i64 aE, .int .i64 aI, .slice Ao19 am.length co19, .int .i64 aK, .int .i64 aP, .int .i64 0, .slice none 0 0]) (blk_put (cs := #[.int .i64 aA, .int .i64 aC, .int .i64 aD, .int .i64 aE, .int .i64 aI, .slice Ao19 am.length co19, .int .i64 aK, .int .i64 0, .int .i64 0, .slice none 0 0]) (blk_put (cs := #[.int .i64 aA, .int .i64 aC, .int .i64 aD, .int .i64 aE, .int .i64 aI, .slice Ao19 am.length co19, .int .i64 0, .int .i64 0, .int .i64 0, .slice none 0 0]) (blk_put (cs := #[.int .i64 aA, .int .i64 aC, .int .i64 aD, .int .i64 aE, .int .i64 aI, .slice none 0 0, .int .i64 0, .int .i64 0, .int .i64 0, .slice none 0 0]) (blk_put (cs := #[.int .i64 aA, .int .i64 aC, .int .i64 aD, .int .i64 aE, .int .i64 0, .slice none 0 0, .int .i64 0, .int .i64 0, .int .i64 0, .slice none 0 0]) (blk_put (cs := #[.int .i64 aA, .int .i64 aC, .int .i64 aD, .int .i64 0, .int .i64 0, .slice none 0 0, .int .i64 0, .int .i64 0, .int .i64 0, .slice none 0 0]) (blk_put (cs := #[.int .i64 aA, .int .i64 aC, .int .i64 0, .int .i64 0, .int .i64 0, .slice none 0 0, .int .i64 0, .int .i64 0, .int .i64 0, .slice none 0 0]) (blk_put (cs := #[.int .i64 aA, .int .i64 0, .int .i64 0, .int .i64 0, .int .i64 0, .slice none 0 0, .int .i64 0, .int .i64 0, .int .i64 0, .slice none 0 0]) (blk_put (cs := #[.int .i64 0, .int .i64 0, .int .i64 0, .int .i64 0, .int .i64 0, .slice none 0 0, .int .i64 0, .int .i64 0, .int .i64 0, .slice none 0 0]) (TZ af) 0 _ rfl) 1 _ rfl) 2 _ rfl) 3 _ rfl) 4 _ rfl) 5 _ rfl) 6 _ rfl) 7 _ rfl) 8 _ rfl) 9 _ rfl) hb); replace HB := bS HB hb; clear hb))
   go_meet
   case rel => exact ⟨_, ((cE != cS)), TF, H', ⟨by first | omega | exact Nat.le_refl _⟩, ⟨by (with_reducible repeat (first | apply Kd.R_alloc | apply Kd.R_drewN | apply Kd.R_drew)); exact Kd.R_mono HO1014.out (fun _ hk => ⟨hk.1.2, hk.2⟩)⟩, ⟨by (with_reducible repeat (first | apply Kd.R_alloc | apply Kd.R_drewN | apply Kd.R_drew)); exact Kd.R_mono HO1022.out (fun _ hk => hk.2)⟩, ⟨by (with_reducible repeat (first | apply Kd.R_alloc | apply Kd.R_drewN | apply Kd.R_drew)); exact Kd.R_mono HO1028.out (fun _ hk => ⟨hk.1.2, hk.2⟩)⟩, ⟨by (with_reducible repeat (first | apply Kd.R_alloc | apply Kd.R_drewN | apply Kd.R_drew)); exact Kd.R_mono HO1038.out (fun _ hk => hk.2)⟩, ⟨by (with_reducible repeat (first | apply Kd.R_alloc | apply Kd.R_drewN | apply Kd.R_drew)); exact Kd.R_mono HO1044.out (fun _ hk => ⟨hk.1.2, hk.2⟩)⟩, ⟨TK⟩, ⟨TK⟩, ⟨TB⟩⟩
  case rest =>
   clear HC7;try clear c1
   try clear c2
   try clear p2
   try clear c3
   try clear c4
   try clear c5
   try clear c7
   try clear c13
   try clear c14
   try clear c15
   try clear c17
   try clear c22
   try clear c23
   try clear cp
   try clear cB
   try clear bx
   try clear bh
   try clear bC
   try clear cf
   try clear cb
   try clear cC
   try clear bQ
   try clear cr
   try clear ch
   try clear bF
   try clear bZ
   try clear bM
   try clear cj
   try clear b7
   try clear bA
   try clear cn
   try clear cx
   try clear bG
   try clear cu
   try clear bR
   try clear bI
   try clear bB
   try clear ca
   try clear co
   try clear bJ
   try clear b8
   try clear b9
   try clear bV
   try clear b4
   try clear bL
   try clear bO
   try clear b5
   try clear bH
   try clear bl
   try clear cg
   try clear ct
   try clear bU
   try clear bf
   try clear cw
   try clear bv
   try clear cc
   try clear bq
   try clear bN
   try clear bX
   try clear cd
   try clear bw
   try clear bp
   try clear bs
   try clear cy
   try clear cv
   try clear cq
   try clear bo
   try clear cA
   try clear bn
   try clear ce
   try clear b2
   try clear bT
   try clear b3
   try clear bz
   try clear bK
   try clear cl
   try clear bW
   try clear b6
   try clear bP
   try clear bu
   try clear bi
   try clear ci
   try clear cz
   try clear bj
   try clear cm
   try clear b1
   try clear bY
   try clear bm
   try clear ck
   try clear bk
   try clear bg
   try clear br
   try clear bt
   obtain ⟨kq, cL, rfl, HA, HJ6, ak, ab, aa, ae, ac, ad, af, HB⟩ := hcut;cases kq with
   | zero => exact absurd HA.out (by simp [laws_FnMsgsBent.j0])
   | succ kj6 =>
    have H := HA.out;clear HA;simp only [laws_FnMsgsBent.j0] at H;replace H := ifM H;obtain ⟨c27, H⟩ := H;replace c27 := Bool.eq_false_iff.mpr c27;subst c27
    by_cases c28 : cE = true
    ·subst c28;replace H := ifT H;have H' := aM H;clear H;go_wp2
     go_loopg [8] kj6 (fun kq v8 w' => ∃ (ay : List Int) (aJ : Int) (al : List Int) (aT : List Int) (aj : Value) (ag : Value), v8 = .int .i64 aJ ∧ Aside0 (laws_FnMsgsBent.l0 kq l0 ay aJ ao ap aq ar au ah av aw ax al = some r) ∧ Aside0 (kq ≤ kj6) ∧ Aside0 (Kd.R (Kd.int .u8) 5 w' w.heap.size (fun k_ => some k_ ≠ (aj : Value).ownBlock ∧ some k_ ≠ (ag : Value).ownBlock) (.slice Ao9 aH.length co9) ay) ∧ Aside0 (Kd.R k83 83 w' w.heap.size (fun k_ => some k_ ≠ ((.slice Ao19 am.length co19) : Value).ownBlock) (.slice Ao13 ah.length co13) ah) ∧ Aside0 (Kd.R (Kd.int .u8) 5 w' w.heap.size (fun k_ => some k_ ≠ ((.slice Ao9 aH.length co9) : Value).ownBlock ∧ some k_ ≠ (ag : Value).ownBlock) aj al) ∧ Aside0 (Kd.R k83 83 w' w.heap.size (fun k_ => some k_ ≠ ((.slice Ao13 ah.length co13) : Value).ownBlock) (.slice Ao19 am.length co19) am) ∧ Aside0 (Kd.R (Kd.int .u8) 5 w' w.heap.size (fun k_ => some k_ ≠ ((.slice Ao9 aH.length co9) : Value).ownBlock ∧ some k_ ≠ (aj : Value).ownBlock) ag aT) ∧ Aside0 (w'.heap[gb1030]? = some (.cells #[.int .i64 ao, .int .i64 ap, .int .i64 aq, .int .i64 ar, .int .i64 au, (.slice Ao13 ah.length co13), .int .i64 av, .int .i64 aw, .int .i64 ax, aj] 27 (0, 0))) ∧ Aside0 (w'.heap[gb1046]? = some (.cells #[.int .i64 aA, .int .i64 aC, .int .i64 aD, .int .i64 aE, .int .i64 aI, (.slice Ao19 am.length co19), .int .i64 aK, .int .i64 aP, .int .i64 aW, ag] 27 (0, 0))) ∧ Aside0 (Below w.heap.size w w'))
     case atStart => exact ⟨(aH), (0), (aG), (aU), (.slice Ao14 aG.length co14), (.slice Ao20 aU.length co20), TF, H', ⟨Nat.le_refl _⟩, ⟨by have X_ := ak.out; exact TR⟩, ⟨by have X_ := ab.out; exact TR⟩, ⟨by have X_ := aa.out; exact TR⟩, ⟨by have X_ := ae.out; exact TR⟩, ⟨by have X_ := ac.out; exact TR⟩, ⟨TK⟩, ⟨TK⟩, ⟨TB⟩⟩
     case round =>
      clear H';try clear c1
      try clear c2
      try clear p2
      try clear c3
      try clear c4
      try clear c5
      try clear c7
      try clear c13
      try clear c14
      try clear c15
      try clear c17
      try clear c22
      try clear c23
      try clear c27
      try clear c28
      try clear cp
      try clear cB
      try clear bx
      try clear bh
      try clear bC
      try clear cf
      try clear cb
      try clear cC
      try clear bQ
      try clear cr
      try clear ch
      try clear bF
      try clear bZ
      try clear bM
      try clear cj
      try clear b7
      try clear bA
      try clear cn
      try clear cx
      try clear bG
      try clear cu
      try clear bR
      try clear bI
      try clear bB
      try clear ca
      try clear co
      try clear bJ
      try clear b8
      try clear b9
      try clear bV
      try clear b4
      try clear bL
      try clear bO
      try clear b5
      try clear bH
      try clear bl
      try clear cg
      try clear ct
      try clear bU
      try clear bf
      try clear cw
      try clear bv
      try clear cc
      try clear bq
      try clear bN
      try clear bX
      try clear cd
      try clear bw
      try clear bp
      try clear bs
      try clear cy
      try clear cv
      try clear cq
      try clear bo
      try clear cA
      try clear bn
      try clear ce
      try clear b2
      try clear bT
      try clear b3
      try clear bz
      try clear bK
      try clear cl
      try clear bW
      try clear b6
      try clear bP
      try clear bu
      try clear bi
      try clear ci
      try clear cz
      try clear bj
      try clear cm
      try clear b1
      try clear bY
      try clear bm
      try clear ck
      try clear bk
      try clear bg
      try clear br
      try clear bt
      try clear p2
      obtain ⟨ay, aJ, al, aT, aj, ag, rfl, HA, HK2, ak, ab, aa, ae, ac, ad, af, HB⟩ := hrel;have ai := (Kd.R_reads' ak.out).1;rw [ai] at ak;(try simp only [ai]);(try simp only [ai] at ad);(try simp only [ai] at af);(try simp only [ai] at ab);(try simp only [ai] at aa);(try simp only [ai] at ae);(try simp only [ai] at ac);cases gk with
      | zero => exact absurd HA.out (by simp [laws_FnMsgsBent.l0])
      | succ k2 =>
       have H := HA.out;clear HA;simp only [laws_FnMsgsBent.l0] at H;have cP := aM H;clear H;go_upto_region 11 with (fail)
       go_cut [47] (fun v47 wc => ∃ (kq : Nat) (be : Bool), v47 = .bool be ∧ Aside0 (laws_FnMsgsBent.j2 kq l0 ay aJ be ao ap aq ar au ah av aw ax al = some r) ∧ Aside0 (kq ≤ k2) ∧ Aside0 (Kd.R (Kd.int .u8) 5 wc w.heap.size (fun k_ => some k_ ≠ (aj : Value).ownBlock ∧ some k_ ≠ (ag : Value).ownBlock) (.slice Ao9 ay.length co9) ay) ∧ Aside0 (Kd.R k83 83 wc w.heap.size (fun k_ => some k_ ≠ ((.slice Ao19 am.length co19) : Value).ownBlock) (.slice Ao13 ah.length co13) ah) ∧ Aside0 (Kd.R (Kd.int .u8) 5 wc w.heap.size (fun k_ => some k_ ≠ ((.slice Ao9 ay.length co9) : Value).ownBlock ∧ some k_ ≠ (ag : Value).ownBlock) aj al) ∧ Aside0 (Kd.R k83 83 wc w.heap.size (fun k_ => some k_ ≠ ((.slice Ao13 ah.length co13) : Value).ownBlock) (.slice Ao19 am.length co19) am) ∧ Aside0 (Kd.R (Kd.int .u8) 5 wc w.heap.size (fun k_ => some k_ ≠ ((.slice Ao9 ay.length co9) : Value).ownBlock ∧ some k_ ≠ (aj : Value).ownBlock) ag aT) ∧ Aside0 (wc.heap[gb1030]? = some (.cells #[.int .i64 ao, .int .i64 ap, .int .i64 aq, .int .i64 ar, .int .i64 au, (.slice Ao13 ah.length co13), .int .i64 av, .int .i64 aw, .int .i64 ax, aj] 27 (0, 0))) ∧ Aside0 (wc.heap[gb1046]? = some (.cells #[.int .i64 aA, .int .i64 aC, .int .i64 aD, .int .i64 aE, .int .i64 aI, (.slice Ao19 am.length co19), .int .i64 aK, .int .i64 aP, .int .i64 aW, ag] 27 (0, 0))) ∧ Aside0 (Below w.heap.size w wc))
       case first =>
        have H := cP.out;clear cP
        by_cases c30 : aJ < 8
        ·rw [if_pos c30] at H;have a8 : decide (aJ < 8) = true := decide_eq_true c30;clear c30;(first | rw [a8] | (simp only [i64_w, i32_w]; rw [a8]) | skip);have H' := aM H;clear H;go_wp2
         go_meet
         case rel => exact ⟨_, (decide ((ay.length : Int) > 0)), TF, H', ⟨by have := HJ6.out; have := HK2.out; first | omega | exact Nat.le_refl _⟩, ⟨by (try simp only [ai]); (with_reducible repeat (first | apply Kd.R_alloc | apply Kd.R_drewN | apply Kd.R_drew)); exact ak.out⟩, ⟨by (try simp only [ai]); (with_reducible repeat (first | apply Kd.R_alloc | apply Kd.R_drewN | apply Kd.R_drew)); exact ab.out⟩, ⟨by (try simp only [ai]); (with_reducible repeat (first | apply Kd.R_alloc | apply Kd.R_drewN | apply Kd.R_drew)); exact aa.out⟩, ⟨by (try simp only [ai]); (with_reducible repeat (first | apply Kd.R_alloc | apply Kd.R_drewN | apply Kd.R_drew)); exact ae.out⟩, ⟨by (try simp only [ai]); (with_reducible repeat (first | apply Kd.R_alloc | apply Kd.R_drewN | apply Kd.R_drew)); exact ac.out⟩, ⟨by (try simp only [ai]); (with_reducible repeat (first | refine blk_drewN ?_ _ | refine blk_drew ?_ | refine blk_alloc ?_ _)); exact ad.out⟩, ⟨by (try simp only [ai]); (with_reducible repeat (first | refine blk_drewN ?_ _ | refine blk_drew ?_ | refine blk_alloc ?_ _)); exact af.out⟩, ⟨TB⟩⟩
        ·rw [if_neg c30] at H;have a8 : decide (aJ < 8) = false := decide_eq_false c30;clear c30;(first | rw [a8] | (simp only [i64_w, i32_w]; rw [a8]) | skip);have H' := aM H;clear H;go_wp2
         go_meet
         case rel => exact ⟨_, (false), TF, H', ⟨by have := HJ6.out; have := HK2.out; first | omega | exact Nat.le_refl _⟩, ⟨by (try simp only [ai]); (with_reducible repeat (first | apply Kd.R_alloc | apply Kd.R_drewN | apply Kd.R_drew)); exact ak.out⟩, ⟨by (try simp only [ai]); (with_reducible repeat (first | apply Kd.R_alloc | apply Kd.R_drewN | apply Kd.R_drew)); exact ab.out⟩, ⟨by (try simp only [ai]); (with_reducible repeat (first | apply Kd.R_alloc | apply Kd.R_drewN | apply Kd.R_drew)); exact aa.out⟩, ⟨by (try simp only [ai]); (with_reducible repeat (first | apply Kd.R_alloc | apply Kd.R_drewN | apply Kd.R_drew)); exact ae.out⟩, ⟨by (try simp only [ai]); (with_reducible repeat (first | apply Kd.R_alloc | apply Kd.R_drewN | apply Kd.R_drew)); exact ac.out⟩, ⟨by (try simp only [ai]); (with_reducible repeat (first | refine blk_drewN ?_ _ | refine blk_drew ?_ | refine blk_alloc ?_ _)); exact ad.out⟩, ⟨by (try simp only [ai]); (with_reducible repeat (first | refine blk_drewN ?_ _ | refine blk_drew ?_ | refine blk_alloc ?_ _)); exact af.out⟩, ⟨TB⟩⟩
       case rest =>
        clear cP;try clear c1
        try clear c2
        try clear p2
        try clear c3
        try clear c4
        try clear c5
        try clear c7
        try clear c13
        try clear c14
        try clear c15
        try clear c17
        try clear c22
        try clear c23
        try clear c27
        try clear c28
        try clear c30
        try clear a8
        try clear cp
        try clear cB
        try clear bx
        try clear bh
        try clear bC
        try clear cf
        try clear cb
        try clear cC
        try clear bQ
        try clear cr
        try clear ch
        try clear bF
        try clear bZ
        try clear bM
        try clear cj
        try clear b7
        try clear bA
        try clear cn
        try clear cx
        try clear bG
        try clear cu
        try clear bR
        try clear bI
        try clear bB
        try clear ca
        try clear co
        try clear bJ
        try clear b8
        try clear b9
        try clear bV
        try clear b4
        try clear bL
        try clear bO
        try clear b5
        try clear bH
        try clear bl
        try clear cg
        try clear ct
        try clear bU
        try clear bf
        try clear cw
        try clear bv
        try clear cc
        try clear bq
        try clear bN
        try clear bX
        try clear cd
        try clear bw
        try clear bp
        try clear bs
        try clear cy
        try clear cv
        try clear cq
        try clear bo
        try clear cA
        try clear bn
        try clear ce
        try clear b2
        try clear bT
        try clear b3
        try clear bz
        try clear bK
        try clear cl
        try clear bW
        try clear b6
        try clear bP
        try clear bu
        try clear bi
        try clear ci
        try clear cz
        try clear bj
        try clear cm
        try clear b1
        try clear bY
        try clear bm
        try clear ck
        try clear bk
        try clear bg
        try clear br
        try clear bt
        try clear p2
        obtain ⟨kq, be, rfl, HA, cM, ak, ab, aa, ae, ac, ad, af, HB⟩ := hcut;cases kq with
        | zero => exact absurd HA.out (by simp [laws_FnMsgsBent.j2])
        | succ kj28 =>
         have H := HA.out;clear HA;simp only [laws_FnMsgsBent.j2] at H
         by_cases c31 : be = true
         ·subst c31;replace H := ifT H;obtain ⟨cQ, cF⟩ : ∃ y_ : List Int, y_ = (([] : List Int)) := ⟨_, rfl⟩;replace H := someE H cF;have cN := aM cF;clear cF;replace H := ifN H;obtain ⟨c32, H⟩ := H;have LMc32 := aM c32;clear c32;obtain ⟨az, cG⟩ : ∃ y_ : List Int, y_ = (cQ ++ ay) := ⟨_, rfl⟩;replace H := someE H cG;have cY := aM cG;clear cG;replace H := bE H;obtain ⟨cR, A33, H⟩ := H;replace H := ifM H;obtain ⟨c34, H⟩ := H;have c34b0 : ((az.length : Int) == 0) = false := beq_eq_false_iff_ne.mpr c34;have c34b1 : ((az.length : Int) != 0) = true := bne_iff_ne.mpr c34;have c34b2 : ¬ (az = []) := fun h_ => c34 (by rw [h_]; rfl)
          obtain ⟨aX, cI⟩ : ∃ j_ : Int, (Int.tmod cR (az.length : Int)) = j_ := ⟨_, rfl⟩;(first | rw [cI] at H | simp only [cI] at H | skip);(try rw [cI] at A33);replace H := ifN H;obtain ⟨c36, H⟩ := H;have c36b0 : decide (0 ≤ (aX)) = true := decide_eq_true c36;clear c36;replace H := ifN H;obtain ⟨c37, H⟩ := H;have c37b0 : decide ((aX) < (az.length : Int)) = true := decide_eq_true c37;clear c37;replace H := ifN H;obtain ⟨c38, H⟩ := H;have c38b0 := eq_true c38;have c38b1 : decide (0 ≤ aJ) = true := decide_eq_true c38;clear c38;obtain ⟨b0, bc⟩ : ∃ j_ : Int, (shl .u8 1 aJ) = j_ := ⟨_, rfl⟩;(first | rw [bc] at H | simp only [bc] at H | skip);(try rw [bc] at A33);have cU : (IntKind.u8.wrap (1 * 2 ^ min aJ.toNat 8)) = b0 := bc;have cV : aJ ≤ 8 → (IntKind.u8.wrap (1 * 2 ^ aJ.toNat)) = b0 := shl_small bc;have hji39u : (IntKind.u8.wrap (2 ^ min aJ.toNat 8)) = b0 := by have h_ := cU; rw [Int.one_mul] at h_; exact h_
          have hji39v : aJ ≤ 8 → (IntKind.u8.wrap (2 ^ aJ.toNat)) = b0 := fun hle_ => by have h_ := cV hle_; rw [Int.one_mul] at h_; exact h_
          obtain ⟨a4, cH⟩ : ∃ y_ : List Int, y_ = (az.set ((aX) : Int).toNat (Go.bits .xor .u8 (rd az (aX)) (b0))) := ⟨_, rfl⟩;rw [← cH] at H;have cW := aM cH;clear cH;replace H := bE H;obtain ⟨⟨aQ, aV, aY, aZ, a2, a1, a6, ba, bd, a9, t1077⟩, A41, H⟩ := H;dsimp only at H;try go_wp2_with (first | ((with_reducible refine gate_dst (N := 50) rfl ?_); (try (refine gate_guard (by rfl) ?_; dsimp only)); refine Kd.R_lit (Kd.int .u8) _ 5 ?hg (N := 50) ?hd (xs := ([] : List Int)) (inner := []) (ok := fun _ => True) (okp := fun _ => True) ?hr ?hp (fun _ hk => hk) trivial (Below.refl _ _) (Nat.le_refl _) (by simp) ?_; (case hd => rfl); (case hg => rfl); (case hr => first | (go_simp; done) | (go_simp; rfl)); (case hp => exact (Reps.none _ _)); intro v1055 w43 a7 hb hg_ hnew_; clear hg_ hnew_; (first | rw [← cN.out] at a7 | (simp only [Int.reduceToNat] at a7; rw [← cN.out] at a7)); have HO1056 := aM (Kd.R_lower (Kd.R_new' (Kd.R_new' (Kd.R_new' a7 (Kd.R_lt (TRf ak))) (Kd.R_lt (TRf aa))) (Kd.R_lt (TRf ac))) (below_size TB)); replace ak := aM (Kd.R_elder' (TRf ak) (Kd.R_base a7) hb); replace ab := mR ab hb; replace aa := aM (Kd.R_elder' (TRf aa) (Kd.R_base a7) hb); replace ae := mR ae hb; replace ac := aM (Kd.R_elder' (TRf ac) (Kd.R_base a7) hb); replace ad := mB ad hb; replace af := mB af hb; replace HB := bS HB hb; clear hb a7) | ((with_reducible refine gate_builtin (b := .append) (xs := #[.tmp 50, .tmp 51]) rfl ?_); (try (refine gate_guard (by rfl) ?_; dsimp only)); at_builtin; refine Kd.R_append_rows (Kd.int .u8) (w0 := w) w.heap.size rfl (.tmp 50) (.tmp 51) 22 5 (.int .u8 0) 1 rfl Try.underlying22 info5 rfl (by decide) (by omega) v1055 cQ ay _ _ _ (fun k_ => some k_ ≠ (.slice Ao9 ay.length co9 : Value).ownBlock ∧ some k_ ≠ (aj : Value).ownBlock ∧ some k_ ≠ (ag : Value).ownBlock) (fun _ => False) rfl rfl ?aO ?aR (fun _ _ h => h) (fun _ h => h.elim) ?aF ?aB ?aS ?aL ?_; (case aR => repeat (first | exact (Kd.R_reads' ak.out).2.2 | (with_reducible refine Kd.C_alloc ?_ _) | (with_reducible refine Kd.C_drewN ?_ _) | (with_reducible refine Kd.C_drew ?_))); (case aB => exact TB); (case aF => exact (fun k_ hk => ⟨Kd.fresh' (Kd.R_lt (TRf ak)) k_ hk, Kd.fresh' (Kd.R_lt (TRf aa)) k_ hk, Kd.fresh' (Kd.R_lt (TRf ac)) k_ hk⟩)); (case aO => exact (by (with_reducible repeat (first | apply Kd.R_alloc | apply Kd.R_drewN | apply Kd.R_drew)); exact Kd.R_mono HO1056.out (fun _ hk => ⟨hk.1.1.2, ⟨hk.1.2, hk.2⟩⟩))); (case aS => exact (below_size TB)); (case aL => have := LMc32.out; omega); intro cD w45 ho hb hg hat; rw [← cY.out] at ho; have an := aM (ho); replace ak := aM (Kd.R_after (ok := (fun k_ => some k_ ≠ (aj : Value).ownBlock ∧ some k_ ≠ (ag : Value).ownBlock)) (TRf ak) hg hat); replace ab := aM (Kd.R_over' (TRf ab) (Kd.R_typed (TRf HO1056)) (by decide) hg); replace aa := aM (Kd.R_after (ok := (fun k_ => some k_ ≠ (.slice Ao9 ay.length co9 : Value).ownBlock ∧ some k_ ≠ (ag : Value).ownBlock)) (TRf aa) hg hat); replace ae := aM (Kd.R_over' (TRf ae) (Kd.R_typed (TRf HO1056)) (by decide) hg); replace ac := aM (Kd.R_after (ok := (fun k_ => some k_ ≠ (.slice Ao9 ay.length co9 : Value).ownBlock ∧ some k_ ≠ (aj : Value).ownBlock)) (TRf ac) hg hat); replace ad := aM (blk_grown (g := gb1030) (o := .cells #[.int .i64 ao, .int .i64 ap, .int .i64 aq, .int .i64 ar, .int .i64 au, .slice Ao13 ah.length co13, .int .i64 av, .int .i64 aw, .int .i64 ax, aj] 27 (0, 0)) TK hg (Kd.R_ne HO1056.out ad.out (by decide))); replace af := aM (blk_grown (g := gb1046) (o := .cells #[.int .i64 aA, .int .i64 aC, .int .i64 aD, .int .i64 aE, .int .i64 aI, .slice Ao19 am.length co19, .int .i64 aK, .int .i64 aP, .int .i64 aW, ag] 27 (0, 0)) TK hg (Kd.R_ne HO1056.out af.out (by decide))); replace HB := aM (hb); clear HO1056; clear ho hb hg hat) | ((with_reducible refine gate_callee (f := 16) rfl ?_); refine gL (some 55) Try.func16 #[.slice A0 l0.length c0, .int .i64 aJ] ?_; (with_reducible refine (laws_at.calls _ _ l0 aJ cR _ ?side1 ?side2 A33.out).mono ?_); (case side1 => have X_ := (Kd.C_below HR0.out HB.out); exact TC); (case side2 => exact HC0.out); rintro e w' ⟨rfl, ⟨nd, rfl⟩⟩; refine ⟨_, rfl, ?_⟩; (try (rw [drewN_self w45]; generalize hq_ : World.drewN w45 _ = w45; have n0_ : Aside0 (Kd.R (Kd.int .u8) 5 w45 w.heap.size (fun k_ => (some k_ ≠ (.slice Ao9 ay.length co9 : Value).ownBlock ∧ (some k_ ≠ (aj : Value).ownBlock ∧ some k_ ≠ (ag : Value).ownBlock))) cD az) := ⟨by rw [← hq_]; exact (TRf an)⟩; have n1_ : Aside0 (Kd.R k83 83 w45 w.heap.size (fun k_ => some k_ ≠ (.slice Ao19 am.length co19 : Value).ownBlock) (.slice Ao13 ah.length co13) ah) := ⟨by rw [← hq_]; exact (TRf ab)⟩; have n2_ : Aside0 (Kd.R (Kd.int .u8) 5 w45 w.heap.size (fun k_ => ((some k_ ≠ (.slice Ao9 ay.length co9 : Value).ownBlock ∧ some k_ ≠ (ag : Value).ownBlock) ∧ some k_ ≠ (cD : Value).ownBlock)) aj al) := ⟨by rw [← hq_]; exact (TRf aa)⟩; have n3_ : Aside0 (Kd.R k83 83 w45 w.heap.size (fun k_ => some k_ ≠ (.slice Ao13 ah.length co13 : Value).ownBlock) (.slice Ao19 am.length co19) am) := ⟨by rw [← hq_]; exact (TRf ae)⟩; have n4_ : Aside0 (Kd.R (Kd.int .u8) 5 w45 w.heap.size (fun k_ => ((some k_ ≠ (.slice Ao9 ay.length co9 : Value).ownBlock ∧ some k_ ≠ (aj : Value).ownBlock) ∧ some k_ ≠ (cD : Value).ownBlock)) ag aT) := ⟨by rw [← hq_]; exact (TRf ac)⟩; have n5_ : Aside0 (Kd.R (Kd.int .u8) 5 w45 w.heap.size (fun k_ => ((some k_ ≠ (aj : Value).ownBlock ∧ some k_ ≠ (ag : Value).ownBlock) ∧ some k_ ≠ (cD : Value).ownBlock)) (.slice Ao9 ay.length co9) ay) := ⟨by rw [← hq_]; exact (TRf ak)⟩; have n6_ : Aside0 (w45.heap[gb1030]? = some (.cells #[.int .i64 ao, .int .i64 ap, .int .i64 aq, .int .i64 ar, .int .i64 au, .slice Ao13 ah.length co13, .int .i64 av, .int .i64 aw, .int .i64 ax, aj] 27 (0, 0))) := ⟨by rw [← hq_]; exact TK⟩; have n7_ : Aside0 (w45.heap[gb1046]? = some (.cells #[.int .i64 aA, .int .i64 aC, .int .i64 aD, .int .i64 aE, .int .i64 aI, .slice Ao19 am.length co19, .int .i64 aK, .int .i64 aP, .int .i64 aW, ag] 27 (0, 0))) := ⟨by rw [← hq_]; exact TK⟩; have n8_ : Aside0 (Below w.heap.size w w45) := ⟨by rw [← hq_]; exact TB⟩; clear an ab aa ae ac ak ad af HB hq_; have an := n0_; have ab := n1_; have aa := n2_; have ae := n3_; have ac := n4_; have ak := n5_; have ad := n6_; have af := n7_; have HB := n8_; clear n0_ n1_ n2_ n3_ n4_ n5_ n6_ n7_ n8_)); obtain ⟨Ao46, co46, eo46⟩ := Kd.R_slice an.out; subst eo46))
          replace ak := rD ak;replace ab := rD ab;replace aa := rD aa;replace ae := rD ae;replace ac := rD ac;replace an := rD an;replace ad := bD ad;replace af := bD af;replace HB := aM (below_drew1 HB.out);have cJ : 0 ≤ ((aX) : Int) := DT;have cK : (aX) < (az.length : Int) := DT;obtain ⟨ad1061, e1061, bb⟩ := Kd.at_int (Kd.R_reads' an.out).2.2 (aX) cJ cK;cases e1061;replace cJ := eq_true cJ;replace cK := eq_true cK;have p40 : 0 ≤ ((aX) : Int) := DT;have q40 : ((aX) : Int) < ((az.length : Int) : Int) := DT;obtain ⟨aN, co40, eo40, gb40, gl40, cl40, HG40⟩ := Kd.R_form an.out (by omega);(first | cases eo40 | (injection eo40 with ea_ en_ ec_; (first | subst ea_ | (injection ea_ with ea_; subst ea_)); subst ec_; clear en_));have GB40 := aM gb40;have a5 := aM HG40;clear gb40 gl40 HG40;(first | simp only [add_plain] at bb | skip);obtain ⟨cX, cZ⟩ := Kd.R_celln 0 an.out ((aX) : Int) p40 q40;replace p40 := eq_true p40;replace q40 := eq_true q40;have cO := Kd.R_putn an.out ((aX) : Int) (Go.bits .xor .u8 (rd az (aX)) (b0));rw [← cW.out] at cO;have a3 := aM cO;clear cO;refine start_ (n := 11) (S := fun w' => w'.cell? ⟨aN, ((aX)).toNat, none⟩ = some (.int .u8 (rd az (aX)))) (ds := [10]) (Array.replicate 11 false) (by kernel_rfl) rfl rfl (bb) (fun hHeld => ?_); refine with_tabW laws_FnMsgsBent.tab15 laws_FnMsgsBent.bits15 (fun HT_ HW_ => ?_);generalize w45.drew = w47 at ak ab aa ae ac an ad af HB a5 a3 cZ bb cX hHeld ⊢;refine pP 0 (some 59) ?_;refine pP 1 (some 60) ?_;refine pP 2 (some 61) ?_;refine pP 3 (some 62) ?_;refine pP 4 (some 63) ?_;refine pP 6 (some 65) ?_;refine pP 7 (some 66) ?_;refine pT 5 (some 64) ?_;refine pP 8 (some 67) ?_;refine pP 9 (some 68) ?_;refine pL 10 none (fun K hK => ?_);refine skip_ (w1 := ?_) (by rfl) rfl ?_ ?_;rotate_left
          ·go_simp;rfl
          refine hK.out _ _ ?_;clear hK K;refine done_ (done_of HT_.out (by kernel_rfl)) ?_;try go_wp2_with (first | ((with_reducible refine gate_callee (f := 7) rfl ?_); (with_reducible refine gate_dst (N := 71) rfl ?_); generalize hG_ : wpList _ _ _ _ _ _ = G_))
          subst hG_
          by_cases c49 : t1077 = true
          ·subst c49;replace H := ifT H;replace H := bE H;obtain ⟨t1079, A50, H⟩ := H;replace H := ifM H;obtain ⟨c51, H⟩ := H;replace c51 := Bool.eq_false_iff.mpr c51;subst c51;have H' := aM H;clear H;go_wp2_with (first | ((with_reducible refine gate_callee (f := 7) rfl ?_); refine goesL_ (some 71) rfl rfl Try.func7 (by kernel_rfl) rfl #[.slice (some ⟨aN, 0, none⟩) a4.length co46] rfl (by exact Zq40_8) ?_; (with_reducible refine (impl_GetMsg.calls kj28 _ _ a4 aQ aV aY aZ a2 a1 a6 ba bd a9 true _ ?side1 ?side2 A41.out).mono ?_); (case side1 => exact Zq40_7); (case side2 => rw [show a4.length = az.length from (Kd.R_reads' a3.out).1.symm]; exact (Kd.R_reads' an.out).2.1); rintro e w52 ⟨v1069, v1075, rfl, ho0, ho1, hb⟩; refine ⟨_, rfl, ?_⟩; have HO1070 := aM (Kd.R_lower (Kd.R_new' (Kd.R_new' ho0 (Kd.R_lt (by exact Zq40_3))) (Kd.R_lt (by exact Zq40_4))) (below_size (TB))); have HO1076 := aM (Kd.R_lower (Kd.R_new' (Kd.R_new' (Kd.R_new' (Kd.R_new' ho1 (Kd.R_lt (by exact Zq40_0))) (Kd.R_lt (by exact Zq40_1))) (Kd.R_lt (by exact Zq40_2))) (Kd.R_lt (TRf a3))) (below_size (TB))); replace ak := aM (Kd.R_elder' (by exact Zq40_0) (Kd.R_base ho1) hb); replace ab := aM (Kd.R_elder' (by exact Zq40_3) (Kd.R_base ho0) hb); replace aa := aM (Kd.R_elder' (by exact Zq40_1) (Kd.R_base ho1) hb); replace ae := aM (Kd.R_elder' (by exact Zq40_4) (Kd.R_base ho0) hb); replace ac := aM (Kd.R_elder' (by exact Zq40_2) (Kd.R_base ho1) hb); replace ad := aM (blk_below (g := gb1030) (o := .cells #[.int .i64 ao, .int .i64 ap, .int .i64 aq, .int .i64 ar, .int .i64 au, .slice Ao13 ah.length co13, .int .i64 av, .int .i64 aw, .int .i64 ax, aj] 27 (0, 0)) (by exact Zq40_5) hb); replace af := aM (blk_below (g := gb1046) (o := .cells #[.int .i64 aA, .int .i64 aC, .int .i64 aD, .int .i64 aE, .int .i64 aI, .slice Ao19 am.length co19, .int .i64 aK, .int .i64 aP, .int .i64 aW, ag] 27 (0, 0)) (by exact Zq40_6) hb); replace an := aM (Kd.R_elder' (TRf a3) (Kd.R_base ho1) hb); replace HB := aM (below_step (TB) hb); (try clear hb); (try clear hb2); (try clear hk); (try clear hi); (try clear ho0); (try clear ho1)) | ((with_reducible refine gate_dst (N := 11) rfl ?_); (try (refine gate_guard (by rfl) ?_; dsimp only)); refine gBx 11 #[.int .i64 0, .int .i64 0, .int .i64 0, .int .i64 0, .int .i64 0, .slice none 0 0, .int .i64 0, .int .i64 0, .int .i64 0, .slice none 0 0] 27 ?_; intro gb1078 hg w53 hbox hb; have BK1078 := aM (hbox); have GW1078 := gW HB hg; have GE1078 := gW HB hg; obtain ⟨NB1030_1078, NB1078_1030⟩ := nB ad hg; obtain ⟨NB1046_1078, NB1078_1046⟩ := nB af hg; replace ak := mR ak hb; replace ab := mR ab hb; replace aa := mR aa hb; replace ae := mR ae hb; replace ac := mR ac hb; replace an := mR an hb; replace HO1070 := mR HO1070 hb; replace HO1076 := mR HO1076 hb; replace ad := mB ad hb; replace af := mB af hb; replace HB := bS HB hb; clear hb hbox hg; obtain ⟨hnb54, hnc54⟩ := oB NB1078_1030; obtain ⟨hnb55, hnc55⟩ := oB NB1078_1046; obtain ⟨hcz56_0, hcz56_1, hcz56_2, hcz56_3, hcz56_4, hcz56_5, hcz56_6, hcz56_7, hcz56_8, hcz56_9⟩ := cz10 BK1078.out; obtain ⟨hfz56_0, hfz56_1, hfz56_2, hfz56_3, hfz56_4, hfz56_5, hfz56_6, hfz56_7, hfz56_8, hfz56_9⟩ := fz10 BK1078.out; obtain ⟨Ao57, co57, eo57⟩ := Kd.R_slice HO1070.out; subst eo57; obtain ⟨Ao58, co58, eo58⟩ := Kd.R_slice HO1076.out; subst eo58; obtain ⟨hnb59, hnc59⟩ := oB NB1030_1046; obtain ⟨hcz60_0, hcz60_1, hcz60_2, hcz60_3, hcz60_4, hcz60_5, hcz60_6, hcz60_7, hcz60_8, hcz60_9⟩ := cz10 ad.out; obtain ⟨hfz60_0, hfz60_1, hfz60_2, hfz60_3, hfz60_4, hfz60_5, hfz60_6, hfz60_7, hfz60_8, hfz60_9⟩ := fz10 ad.out; obtain ⟨Ao61, co61, eo61⟩ := Kd.R_slice aa.out; subst eo61) | (go_at_call 15; (with_reducible refine (laws_sameMsg.calls kj28 aQ aV aY aZ a2 _ _ a1 a6 ba bd _ _ a9 ao ap aq ar au _ _ ah av aw ax _ _ al false _ ?side1 ?side2 ?side3 ?side4 ?side5 ?side6 ?side7 ?side8 A50.out).mono ?_); (case side1 => refine (Kd.R_reads' (e := 83) (base := w.heap.size) (ok := fun k_ => ((True ∧ some k_ ≠ (.slice Ao13 ah.length co13 : Value).ownBlock) ∧ some k_ ≠ (.slice Ao19 am.length co19 : Value).ownBlock)) (n := a1.length) (c := co57) ?_).2.2; exact (TY HO1070 BK1078)); (case side2 => exact (Kd.R_reads' HO1070.out).2.1); (case side3 => refine (Kd.R_reads' (e := 5) (base := w.heap.size) (ok := fun k_ => ((((True ∧ some k_ ≠ (.slice Ao9 ay.length co9 : Value).ownBlock) ∧ some k_ ≠ (.slice Ao61 al.length co61 : Value).ownBlock) ∧ some k_ ≠ (ag : Value).ownBlock) ∧ some k_ ≠ (.slice (some ⟨aN, 0, none⟩) az.length co46 : Value).ownBlock)) (n := a9.length) (c := co58) ?_).2.2; exact (TY HO1076 BK1078)); (case side4 => exact (Kd.R_reads' HO1076.out).2.1); (case side5 => refine (Kd.R_reads' (e := 83) (base := w.heap.size) (ok := fun k_ => (some k_ ≠ (.slice Ao19 am.length co19 : Value).ownBlock ∧ some k_ ≠ (.slice Ao57 a1.length co57 : Value).ownBlock)) (n := ah.length) (c := co13) ?_).2.2; exact (TY ab BK1078)); (case side6 => exact (Kd.R_reads' ab.out).2.1); (case side7 => refine (Kd.R_reads' (e := 5) (base := w.heap.size) (ok := fun k_ => (((some k_ ≠ (.slice Ao9 ay.length co9 : Value).ownBlock ∧ some k_ ≠ (ag : Value).ownBlock) ∧ some k_ ≠ (.slice (some ⟨aN, 0, none⟩) az.length co46 : Value).ownBlock) ∧ some k_ ≠ (.slice Ao58 a9.length co58 : Value).ownBlock)) (n := al.length) (c := co61) ?_).2.2; exact (TY aa BK1078)); (case side8 => exact (Kd.R_reads' aa.out).2.1); rintro e w62 ⟨rfl, hb⟩; replace ak := aM (Kd.R_below (TY ak BK1078) hb); replace ab := aM (Kd.R_below (TY ab BK1078) hb); replace aa := aM (Kd.R_below (TY aa BK1078) hb); replace ae := aM (Kd.R_below (TY ae BK1078) hb); replace ac := aM (Kd.R_below (TY ac BK1078) hb); replace an := aM (Kd.R_below (TY an BK1078) hb); replace HO1070 := aM (Kd.R_below (TY HO1070 BK1078) hb); replace HO1076 := aM (Kd.R_below (TY HO1076 BK1078) hb); replace ad := mB ad hb; replace af := mB af hb; replace BK1078 := aM (blk_below (g := gb1078) (o := .cells #[.int .i64 aQ, .int .i64 aV, .int .i64 aY, .int .i64 aZ, .int .i64 a2, .slice Ao57 a1.length co57, .int .i64 a6, .int .i64 ba, .int .i64 bd, .slice Ao58 a9.length co58] 27 (0, 0)) (blk_put (cs := #[.int .i64 aQ, .int .i64 aV, .int .i64 aY, .int .i64 aZ, .int .i64 a2, .slice Ao57 a1.length co57, .int .i64 a6, .int .i64 ba, .int .i64 bd, .slice none 0 0]) (blk_put (cs := #[.int .i64 aQ, .int .i64 aV, .int .i64 aY, .int .i64 aZ, .int .i64 a2, .slice Ao57 a1.length co57, .int .i64 a6, .int .i64 ba, .int .i64 0, .slice none 0 0]) (blk_put (cs := #[.int .i64 aQ, .int .i64 aV, .int .i64 aY, .int .i64 aZ, .int .i64 a2, .slice Ao57 a1.length co57, .int .i64 a6, .int .i64 0, .int .i64 0, .slice none 0 0]) (blk_put (cs := #[.int .i64 aQ, .int .i64 aV, .int .i64 aY, .int .i64 aZ, .int .i64 a2, .slice Ao57 a1.length co57, .int .i64 0, .int .i64 0, .int .i64 0, .slice none 0 0]) (blk_put (cs := #[.int .i64 aQ, .int .i64 aV, .int .i64 aY, .int .i64 aZ, .int .i64 a2, .slice none 0 0, .int .i64 0, .int .i64 0, .int .i64 0, .slice none 0 0]) (blk_put (cs := #[.int .i64 aQ, .int .i64 aV, .int .i64 aY, .int .i64 aZ, .int .i64 0, .slice none 0 0, .int .i64 0, .int .i64 0, .int .i64 0, .slice none 0 0]) (blk_put (cs := #[.int .i64 aQ, .int .i64 aV, .int .i64 aY, .int .i64 0, .int .i64 0, .slice none 0 0, .int .i64 0, .int .i64 0, .int .i64 0, .slice none 0 0]) (blk_put (cs := #[.int .i64 aQ, .int .i64 aV, .int .i64 0, .int .i64 0, .int .i64 0, .slice none 0 0, .int .i64 0, .int .i64 0, .int .i64 0, .slice none 0 0]) (blk_put (cs := #[.int .i64 aQ, .int .i64 0, .int .i64 0, .int .i64 0, .int .i64 0, .slice none 0 0, .int .i64 0, .int .i64 0, .int .i64 0, .slice none 0 0]) (blk_put (cs := #[.int .i64 0, .int .i64 0, .int .i64 0, .int .i64 0, .int .i64 0, .slice none 0 0, .int .i64 0, .int .i64 0, .int .i64 0, .slice none 0 0]) (TZ BK1078) 0 _ rfl) 1 _ rfl) 2 _ rfl) 3 _ rfl) 4 _ rfl) 5 _ rfl) 6 _ rfl) 7 _ rfl) 8 _ rfl) 9 _ rfl) hb); replace HB := bS HB hb; clear hb))
           (try simp only [← ai]);go_roundg kj28
           case measure => have := HJ6.out; have := HK2.out; have := cM.out; omega
           case rel => exact ⟨(ay), (wrap64 (aJ + 1)), (al), (aT), (.slice Ao61 al.length co61), (ag), TF, H', ⟨by have := HJ6.out; have := HK2.out; have := cM.out; omega⟩, ⟨by (try simp only [ai]); (with_reducible repeat (first | apply Kd.R_alloc | apply Kd.R_drewN | apply Kd.R_drew)); exact Kd.R_mono ak.out (fun _ hk => ⟨hk.1.1.1, hk.1.1.2⟩)⟩, ⟨by (try simp only [ai]); (with_reducible repeat (first | apply Kd.R_alloc | apply Kd.R_drewN | apply Kd.R_drew)); exact Kd.R_mono ab.out (fun _ hk => hk.1)⟩, ⟨by (try simp only [ai]); (with_reducible repeat (first | apply Kd.R_alloc | apply Kd.R_drewN | apply Kd.R_drew)); exact Kd.R_mono aa.out (fun _ hk => ⟨hk.1.1.1, hk.1.1.2⟩)⟩, ⟨by (try simp only [ai]); (with_reducible repeat (first | apply Kd.R_alloc | apply Kd.R_drewN | apply Kd.R_drew)); exact Kd.R_mono ae.out (fun _ hk => hk.1)⟩, ⟨by (try simp only [ai]); (with_reducible repeat (first | apply Kd.R_alloc | apply Kd.R_drewN | apply Kd.R_drew)); exact Kd.R_mono ac.out (fun _ hk => ⟨hk.1.1.1, hk.1.1.2⟩)⟩, ⟨by (try simp only [ai]); (with_reducible repeat (first | refine blk_drewN ?_ _ | refine blk_drew ?_ | refine blk_alloc ?_ _)); exact ad.out⟩, ⟨by (try simp only [ai]); (with_reducible repeat (first | refine blk_drewN ?_ _ | refine blk_drew ?_ | refine blk_alloc ?_ _)); exact af.out⟩, ⟨TB⟩⟩
          ·replace c49 := Bool.eq_false_iff.mpr c49;subst c49;replace H := ifF H;have H' := aM H;clear H;go_wp2_with (first | ((with_reducible refine gate_callee (f := 7) rfl ?_); refine goesL_ (some 71) rfl rfl Try.func7 (by kernel_rfl) rfl #[.slice (some ⟨aN, 0, none⟩) a4.length co46] rfl (by exact Zq40_8) ?_; (with_reducible refine (impl_GetMsg.calls kj28 _ _ a4 aQ aV aY aZ a2 a1 a6 ba bd a9 false _ ?side1 ?side2 A41.out).mono ?_); (case side1 => exact Zq40_7); (case side2 => rw [show a4.length = az.length from (Kd.R_reads' a3.out).1.symm]; exact (Kd.R_reads' an.out).2.1); rintro e w63 ⟨v1069, v1075, rfl, ho0, ho1, hb⟩; refine ⟨_, rfl, ?_⟩; have HO1070 := aM (Kd.R_lower (Kd.R_new' (Kd.R_new' ho0 (Kd.R_lt (by exact Zq40_3))) (Kd.R_lt (by exact Zq40_4))) (below_size (TB))); have HO1076 := aM (Kd.R_lower (Kd.R_new' (Kd.R_new' (Kd.R_new' (Kd.R_new' ho1 (Kd.R_lt (by exact Zq40_0))) (Kd.R_lt (by exact Zq40_1))) (Kd.R_lt (by exact Zq40_2))) (Kd.R_lt (TRf a3))) (below_size (TB))); replace ak := aM (Kd.R_elder' (by exact Zq40_0) (Kd.R_base ho1) hb); replace ab := aM (Kd.R_elder' (by exact Zq40_3) (Kd.R_base ho0) hb); replace aa := aM (Kd.R_elder' (by exact Zq40_1) (Kd.R_base ho1) hb); replace ae := aM (Kd.R_elder' (by exact Zq40_4) (Kd.R_base ho0) hb); replace ac := aM (Kd.R_elder' (by exact Zq40_2) (Kd.R_base ho1) hb); replace ad := aM (blk_below (g := gb1030) (o := .cells #[.int .i64 ao, .int .i64 ap, .int .i64 aq, .int .i64 ar, .int .i64 au, .slice Ao13 ah.length co13, .int .i64 av, .int .i64 aw, .int .i64 ax, aj] 27 (0, 0)) (by exact Zq40_5) hb); replace af := aM (blk_below (g := gb1046) (o := .cells #[.int .i64 aA, .int .i64 aC, .int .i64 aD, .int .i64 aE, .int .i64 aI, .slice Ao19 am.length co19, .int .i64 aK, .int .i64 aP, .int .i64 aW, ag] 27 (0, 0)) (by exact Zq40_6) hb); replace an := aM (Kd.R_elder' (TRf a3) (Kd.R_base ho1) hb); replace HB := aM (below_step (TB) hb); (try clear hb); (try clear hb2); (try clear hk); (try clear hi); (try clear ho0); (try clear ho1)) | ((with_reducible refine gate_dst (N := 11) rfl ?_); (try (refine gate_guard (by rfl) ?_; dsimp only)); refine gBx 11 #[.int .i64 0, .int .i64 0, .int .i64 0, .int .i64 0, .int .i64 0, .slice none 0 0, .int .i64 0, .int .i64 0, .int .i64 0, .slice none 0 0] 27 ?_; intro gb1078 hg w64 hbox hb; have BK1078 := aM (hbox); have GW1078 := gW HB hg; have GE1078 := gW HB hg; obtain ⟨NB1030_1078, NB1078_1030⟩ := nB ad hg; obtain ⟨NB1046_1078, NB1078_1046⟩ := nB af hg; replace ak := mR ak hb; replace ab := mR ab hb; replace aa := mR aa hb; replace ae := mR ae hb; replace ac := mR ac hb; replace an := mR an hb; replace HO1070 := mR HO1070 hb; replace HO1076 := mR HO1076 hb; replace ad := mB ad hb; replace af := mB af hb; replace HB := bS HB hb; clear hb hbox hg; obtain ⟨hnb65, hnc65⟩ := oB NB1078_1030; obtain ⟨hnb66, hnc66⟩ := oB NB1078_1046; obtain ⟨hcz67_0, hcz67_1, hcz67_2, hcz67_3, hcz67_4, hcz67_5, hcz67_6, hcz67_7, hcz67_8, hcz67_9⟩ := cz10 BK1078.out; obtain ⟨hfz67_0, hfz67_1, hfz67_2, hfz67_3, hfz67_4, hfz67_5, hfz67_6, hfz67_7, hfz67_8, hfz67_9⟩ := fz10 BK1078.out; obtain ⟨Ao68, co68, eo68⟩ := Kd.R_slice HO1070.out; subst eo68; obtain ⟨Ao69, co69, eo69⟩ := Kd.R_slice HO1076.out; subst eo69))
           (try simp only [← ai]);go_roundg kj28
           case measure => have := HJ6.out; have := HK2.out; have := cM.out; omega
           case rel => exact ⟨(ay), (wrap64 (aJ + 1)), (al), (aT), (aj), (ag), TF, H', ⟨by have := HJ6.out; have := HK2.out; have := cM.out; omega⟩, ⟨by (try simp only [ai]); (with_reducible repeat (first | apply Kd.R_alloc | apply Kd.R_drewN | apply Kd.R_drew)); exact Kd.R_mono (RK1 (Kd.R_types ak.out BK1078.out (by decide))) (fun _ hk => ⟨hk.1.1.1.1, hk.1.1.1.2⟩)⟩, ⟨by (try simp only [ai]); (with_reducible repeat (first | apply Kd.R_alloc | apply Kd.R_drewN | apply Kd.R_drew)); exact Kd.R_mono (RK1 (Kd.R_types ab.out BK1078.out (by decide))) (fun _ hk => hk.1.1)⟩, ⟨by (try simp only [ai]); (with_reducible repeat (first | apply Kd.R_alloc | apply Kd.R_drewN | apply Kd.R_drew)); exact Kd.R_mono (RK1 (Kd.R_types aa.out BK1078.out (by decide))) (fun _ hk => ⟨hk.1.1.1.1, hk.1.1.1.2⟩)⟩, ⟨by (try simp only [ai]); (with_reducible repeat (first | apply Kd.R_alloc | apply Kd.R_drewN | apply Kd.R_drew)); exact Kd.R_mono (RK1 (Kd.R_types ae.out BK1078.out (by decide))) (fun _ hk => hk.1.1)⟩, ⟨by (try simp only [ai]); (with_reducible repeat (first | apply Kd.R_alloc | apply Kd.R_drewN | apply Kd.R_drew)); exact Kd.R_mono (RK1 (Kd.R_types ac.out BK1078.out (by decide))) (fun _ hk => ⟨hk.1.1.1.1, hk.1.1.1.2⟩)⟩, ⟨by (try simp only [ai]); (with_reducible repeat (first | refine blk_drewN ?_ _ | refine blk_drew ?_ | refine blk_alloc ?_ _)); refine blk_far ?_ NB1030_1078.out _; (with_reducible repeat (first | refine blk_drewN ?_ _ | refine blk_drew ?_ | refine blk_alloc ?_ _)); refine blk_far ?_ NB1030_1078.out _; (with_reducible repeat (first | refine blk_drewN ?_ _ | refine blk_drew ?_ | refine blk_alloc ?_ _)); refine blk_far ?_ NB1030_1078.out _; (with_reducible repeat (first | refine blk_drewN ?_ _ | refine blk_drew ?_ | refine blk_alloc ?_ _)); refine blk_far ?_ NB1030_1078.out _; (with_reducible repeat (first | refine blk_drewN ?_ _ | refine blk_drew ?_ | refine blk_alloc ?_ _)); refine blk_far ?_ NB1030_1078.out _; (with_reducible repeat (first | refine blk_drewN ?_ _ | refine blk_drew ?_ | refine blk_alloc ?_ _)); refine blk_far ?_ NB1030_1078.out _; (with_reducible repeat (first | refine blk_drewN ?_ _ | refine blk_drew ?_ | refine blk_alloc ?_ _)); refine blk_far ?_ NB1030_1078.out _; (with_reducible repeat (first | refine blk_drewN ?_ _ | refine blk_drew ?_ | refine blk_alloc ?_ _)); refine blk_far ?_ NB1030_1078.out _; (with_reducible repeat (first | refine blk_drewN ?_ _ | refine blk_drew ?_ | refine blk_alloc ?_ _)); refine blk_far ?_ NB1030_1078.out _; (with_reducible repeat (first | refine blk_drewN ?_ _ | refine blk_drew ?_ | refine blk_alloc ?_ _)); refine blk_far ?_ NB1030_1078.out _; (with_reducible repeat (first | refine blk_drewN ?_ _ | refine blk_drew ?_ | refine blk_alloc ?_ _)); exact ad.out⟩, ⟨by (try simp only [ai]); (with_reducible repeat (first | refine blk_drewN ?_ _ | refine blk_drew ?_ | refine blk_alloc ?_ _)); refine blk_far ?_ NB1046_1078.out _; (with_reducible repeat (first | refine blk_drewN ?_ _ | refine blk_drew ?_ | refine blk_alloc ?_ _)); refine blk_far ?_ NB1046_1078.out _; (with_reducible repeat (first | refine blk_drewN ?_ _ | refine blk_drew ?_ | refine blk_alloc ?_ _)); refine blk_far ?_ NB1046_1078.out _; (with_reducible repeat (first | refine blk_drewN ?_ _ | refine blk_drew ?_ | refine blk_alloc ?_ _)); refine blk_far ?_ NB1046_1078.out _; (with_reducible repeat (first | refine blk_drewN ?_ _ | refine blk_drew ?_ | refine blk_alloc ?_ _)); refine blk_far ?_ NB1046_1078.out _; (with_reducible repeat (first | refine blk_drewN ?_ _ | refine blk_drew ?_ | refine blk_alloc ?_ _)); refine blk_far ?_ NB1046_1078.out _; (with_reducible repeat (first | refine blk_drewN ?_ _ | refine blk_drew ?_ | refine blk_alloc ?_ _)); refine blk_far ?_ NB1046_1078.out _; (with_reducible repeat (first | refine blk_drewN ?_ _ | refine blk_drew ?_ | refine blk_alloc ?_ _)); refine blk_far ?_ NB1046_1078.out _; (with_reducible repeat (first | refine blk_drewN ?_ _ | refine blk_drew ?_ | refine blk_alloc ?_ _)); refine blk_far ?_ NB1046_1078.out _; (with_reducible repeat (first | refine blk_drewN ?_ _ | refine blk_drew ?_ | refine blk_alloc ?_ _)); refine blk_far ?_ NB1046_1078.out _; (with_reducible repeat (first | refine blk_drewN ?_ _ | refine blk_drew ?_ | refine blk_alloc ?_ _)); exact af.out⟩, ⟨TB⟩⟩
         ·replace c31 := Bool.eq_false_iff.mpr c31;subst c31;replace H := ifF H;replace H := bE H;obtain ⟨t1049, A70, H⟩ := H;replace H := ifN H;obtain ⟨c71, H⟩ := H;subst c71;replace H := bE H;obtain ⟨cT, A72, H⟩ := H;replace H := bE H;obtain ⟨t1053, A73, H⟩ := H;obtain rfl := Option.some.inj H;obtain ⟨hnb74, hnc74⟩ := oB NB1030_1046;obtain ⟨hcz75_0, hcz75_1, hcz75_2, hcz75_3, hcz75_4, hcz75_5, hcz75_6, hcz75_7, hcz75_8, hcz75_9⟩ := cz10 ad.out;obtain ⟨hfz75_0, hfz75_1, hfz75_2, hfz75_3, hfz75_4, hfz75_5, hfz75_6, hfz75_7, hfz75_8, hfz75_9⟩ := fz10 ad.out;obtain ⟨Ao76, co76, eo76⟩ := Kd.R_slice aa.out;subst eo76;go_wp2_with (first | ((with_reducible refine gate_callee (f := 17) rfl ?_); refine gL (some 81) Try.func17 #[.agg #[.int .i64 ao, .int .i64 ap, .int .i64 aq, .int .i64 ar, .int .i64 au, .slice Ao13 ah.length co13, .int .i64 av, .int .i64 aw, .int .i64 ax, .slice Ao76 al.length co76]] ?_; (with_reducible refine (impl_MsgOk.calls kj28 ao ap aq ar au _ _ ah av aw ax _ _ al true _ ?side1 ?side2 ?side3 ?side4 A70.out).mono ?_); (case side1 => have X_ := (Kd.R_reads' ab.out).2.2; exact TC); (case side2 => exact (Kd.R_reads' ab.out).2.1); (case side3 => have X_ := (Kd.R_reads' aa.out).2.2; exact TC); (case side4 => exact (Kd.R_reads' aa.out).2.1); rintro e w77 ⟨rfl, hb⟩; refine ⟨_, rfl, ?_⟩; replace ak := mR ak hb; replace ab := mR ab hb; replace aa := mR aa hb; replace ae := mR ae hb; replace ac := mR ac hb; replace ad := mB ad hb; replace af := mB af hb; replace HB := bS HB hb; clear hb; obtain ⟨hcz78_0, hcz78_1, hcz78_2, hcz78_3, hcz78_4, hcz78_5, hcz78_6, hcz78_7, hcz78_8, hcz78_9⟩ := cz10 ad.out; obtain ⟨hfz78_0, hfz78_1, hfz78_2, hfz78_3, hfz78_4, hfz78_5, hfz78_6, hfz78_7, hfz78_8, hfz78_9⟩ := fz10 ad.out) | (go_at_call 19; (with_reducible refine (impl_PutMsg.calls kj28 ao ap aq ar au _ _ ah av aw ax _ _ al cT _ ?side1 ?side2 ?side3 ?side4 A72.out).mono ?_); (case side1 => have X_ := (Kd.R_reads' ab.out).2.2; exact TC); (case side2 => exact (Kd.R_reads' ab.out).2.1); (case side3 => have X_ := (Kd.R_reads' aa.out).2.2; exact TC); (case side4 => exact (Kd.R_reads' aa.out).2.1); rintro e w79 ⟨v1051, rfl, ho0, hb⟩; have HO1052 := aM (Kd.R_lower (Kd.R_new' (Kd.R_new' (Kd.R_new' ho0 (Kd.R_lt (TRf ak))) (Kd.R_lt (TRf aa))) (Kd.R_lt (TRf ac))) (below_size TB)); replace ak := aM (Kd.R_elder' (TRf ak) (Kd.R_base ho0) hb); replace ab := mR ab hb; replace aa := aM (Kd.R_elder' (TRf aa) (Kd.R_base ho0) hb); replace ae := mR ae hb; replace ac := aM (Kd.R_elder' (TRf ac) (Kd.R_base ho0) hb); replace ad := mB ad hb; replace af := mB af hb; replace HB := bS HB hb; clear ho0 hb; obtain ⟨Ao80, co80, eo80⟩ := Kd.R_slice HO1052.out; subst eo80) | (go_at_call 18; (with_reducible refine (laws_same.calls kj28 _ _ cT _ _ ay t1053 _ ?side1 ?side2 ?side3 ?side4 A73.out).mono ?_); (case side1 => have X_ := (Kd.R_reads' HO1052.out).2.2; exact TC); (case side2 => exact (Kd.R_reads' HO1052.out).2.1); (case side3 => have X_ := (Kd.R_reads' ak.out).2.2; exact TC); (case side4 => exact (Kd.R_reads' ak.out).2.1); rintro e w' ⟨rfl, ⟨nd, rfl⟩⟩))
          go_ret
          exact ⟨TE, TB⟩
    ·replace c28 := Bool.eq_false_iff.mpr c28;subst c28;replace H := ifF H;replace H := bE H;obtain ⟨t1048, A81, H⟩ := H;obtain rfl := Option.some.inj H;obtain ⟨hnb82, hnc82⟩ := oB NB1030_1046;obtain ⟨hcz83_0, hcz83_1, hcz83_2, hcz83_3, hcz83_4, hcz83_5, hcz83_6, hcz83_7, hcz83_8, hcz83_9⟩ := cz10 ad.out;obtain ⟨hfz83_0, hfz83_1, hfz83_2, hfz83_3, hfz83_4, hfz83_5, hfz83_6, hfz83_7, hfz83_8, hfz83_9⟩ := fz10 ad.out;go_wp2_with (first | ((with_reducible refine gate_callee (f := 15) rfl ?_); refine gL (some 40) Try.func15 #[.agg #[.int .i64 ao, .int .i64 ap, .int .i64 aq, .int .i64 ar, .int .i64 au, .slice Ao13 ah.length co13, .int .i64 av, .int .i64 aw, .int .i64 ax, .slice Ao14 aG.length co14], .agg #[.int .i64 0, .int .i64 0, .int .i64 0, .int .i64 0, .int .i64 0, .slice none 0 0, .int .i64 0, .int .i64 0, .int .i64 0, .slice none 0 0]] ?_; (refine (laws_sameMsg.calls kj6 ao ap aq ar au _ _ ah av aw ax _ _ aG 0 0 0 0 0 _ _ ([] : List (S83)) 0 0 0 _ _ ([] : List Int) t1048 _ ?side1 ?side2 ?side3 ?side4 ?side5 ?side6 ?side7 ?side8 A81.out).mono ?_); (case side1 => have X_ := (Kd.R_reads' ab.out).2.2; exact TC); (case side2 => exact (Kd.R_reads' ab.out).2.1); (case side3 => have X_ := (Kd.R_reads' aa.out).2.2; exact TC); (case side4 => exact (Kd.R_reads' aa.out).2.1); (case side5 => exact Kd.C_nil _ _); (case side6 => exact Nat.le_refl _); (case side7 => exact Kd.C_nil _ _); (case side8 => exact Nat.le_refl _); rintro e w84 ⟨rfl, hb⟩; refine ⟨_, rfl, ?_⟩; replace ak := mR ak hb; replace ab := mR ab hb; replace aa := mR aa hb; replace ae := mR ae hb; replace ac := mR ac hb; replace ad := mB ad hb; replace af := mB af hb; replace HB := bS HB hb; clear hb))
     go_ret
     exact ⟨TE, TB⟩

end Go.Proofs.Ytanpaipapcjpoaa.Q
