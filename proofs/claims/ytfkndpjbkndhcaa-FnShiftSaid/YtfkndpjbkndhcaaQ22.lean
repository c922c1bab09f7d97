/- Functions of the program as plain Lean functions, and that a call of each comes to what its function tells. Written by a program of this seat. -/
import Derived.Test.YtfkndpjbkndhcaaQ0
import Derived.Test.YtfkndpjbkndhcaaQ2
import Derived.Test.YtfkndpjbkndhcaaQ5
import Derived.Test.YtfkndpjbkndhcaaQ6
import Derived.Test.YtfkndpjbkndhcaaQ9
import Derived.Test.YtfkndpjbkndhcaaQ18
import Derived.Test.YtfkndpjbkndhcaaQ20
import Derived.Test.YtfkndpjbkndhcaaQ21
namespace Go.Proofs.Ytfkndpjbkndhcaa.Q
open Go.RowKit Go.Proofs.YtfkndpjbkndhcaaW.PrintWords Go.Proofs.YtfkndpjbkndhcaaW.PrintLast Go.Proofs.YtfkndpjbkndhcaaW.PrintMore
attribute [local go_sem] max2_int min2_int max_two min_two max_three min_three max_four min_four   -- for this text's walks alone
set_option linter.unusedVariables false
set_option linter.unusedSimpArgs false

/-! ### laws_FnShift: function 4 -/
def laws_FnShift.f (k : Nat) (l0 : List Int) : Option (Bool) := (laws_big.f l0).bind fun t497 => (if t497 = true then (some true) else ((spec_DrawOld.f k l0).bind fun bt498 => ((impl_ManOf.f k 1 bt498.2.1 bt498.2.2).bind fun bt505 => ((some (([] : List Int) : List Int)).bind fun y512 => (if y512.length + bt498.1.length < 140737488355328 then ((some (y512 ++ bt498.1 : List Int)).bind fun y515 => (if y515.length + bt498.2.1.length < 140737488355328 then ((some (y515 ++ bt498.2.1 : List Int)).bind fun y518 => ((some (([] : List Int) : List Int)).bind fun y521 => (if y521.length + bt498.2.1.length < 140737488355328 then ((some (y521 ++ bt498.2.1 : List Int)).bind fun y524 => (if y524.length + bt498.1.length < 140737488355328 then ((impl_Lacking.f k y518 bt505.1 bt505.2.1 bt505.2.2.1 bt505.2.2.2).bind fun t530 => (if t530 = 0 then ((impl_Lacking.f k (y524 ++ bt498.1) bt505.1 bt505.2.1 bt505.2.2.1 bt505.2.2.2).bind fun t531 => (if t531 = 0 then ((impl_BytesLacking.f k y518 bt505.1 bt505.2.1 bt505.2.2.1 bt505.2.2.2).bind fun t532 => (if t532 = 0 then ((impl_Lacking.f k y518 bt505.1 bt505.2.1 bt505.2.2.1 bt505.2.2.2).bind fun t533 => ((impl_Lacking.f k bt498.1 bt505.1 bt505.2.1 bt505.2.2.1 bt505.2.2.2).bind fun t534 => ((impl_Without.f t533 t534).bind fun t535 => (if t535 = 0 then ((impl_BuildFrom.f k bt505.1 bt505.2.1 bt505.2.2.1 bt505.2.2.2 y518).bind fun bt536 => ((laws_same.f k bt536.2 bt498.2.1).bind fun t540 => (some t540))) else (none))))) else (none))) else (none))) else (none))) else (none))) else (none)))) else (none))) else (none))))))
theorem laws_FnShift.mono : ∀ a0 k, LeO (laws_FnShift.f k a0) (laws_FnShift.f (k + 1) a0) := by
  intro a0 k
  have m0_ := @impl_BuildFrom.mono
  have m1_ := @impl_BytesLacking.mono
  have m2_ := @impl_Lacking.mono
  have m3_ := @impl_ManOf.mono
  have m4_ := @laws_same.mono
  have m5_ := @spec_DrawOld.mono
  unfold laws_FnShift.f
  exact LM
def laws_FnShift.T7 : Bool × List (List Nat × List Nat) := (true, [([], []), ([], []), ([0, 1], [0, 1]), ([2], [2]), ([3, 2], [3]), ([4], [4]), ([4], [4]), ([5, 6, 4, 4], [4, 5, 6]), ([7, 4], [4, 7]), ([4, 8], [4, 8]), ([9, 7], [9]), ([10], [10]), ([10], [10]), ([11, 12, 10, 10], [10, 11, 12]), ([13, 10], [10, 13]), ([10, 14], [10, 14]), ([15, 13], [15]), ([16], [16]), ([16], [16]), ([17, 18, 16, 16], [16, 17, 18]), ([16], [16]), ([16], [16]), ([20, 21, 19, 16], [16, 20, 21]), ([19, 22, 22, 16], [16, 19, 22]), ([23, 16], [16, 23]), ([16, 24], [16, 24]), ([25, 23], [25]), ([26], [26]), ([26], [26]), ([27, 28, 26, 26], [26, 27, 28]), ([29, 26], [26, 29]), ([26], [26]), ([30, 31, 29, 26], [26, 30, 31]), ([26, 32], [26, 32]), ([33, 32, 0, 1, 2, 3, 4, 5, 6, 7, 8, 9, 10, 11, 12, 13, 14, 15, 16, 17, 18, 19, 20, 21, 22, 23, 24, 25, 26, 27, 28, 29, 30, 31, 32, 33], [33])])
def laws_FnShift.B7 : List Nat := [0, 0, 3, 7, 15, 31, 31, 127, 255, 511, 1023, 2047, 2047, 8191, 16383, 32767, 65535, 131071, 131071, 524287, 131071, 131071, 4194303, 8388607, 16777215, 33554431, 67108863, 134217727, 134217727, 536870911, 1073741823, 134217727, 4294967295, 8589934591, 17179869183]
theorem laws_FnShift.tab7 : rtab .any (opsOf Try.f4 7) = laws_FnShift.T7 := by kernel_rfl
theorem laws_FnShift.bits7 : waitsOk laws_FnShift.T7.2 laws_FnShift.B7 = true := by kernel_rfl
set_option maxHeartbeats 40000000 in
set_option maxRecDepth 100000 in
theorem laws_FnShift.calls (k : Nat) (A0 : Option Addr) (c0 : Nat) (l0 : List Int) (r : Bool) (w : World) (hr0 : Kd.C (Kd.int .u8) w A0 l0.length l0) (hc0 : l0.length ≤ c0) (h : laws_FnShift.f k l0 = some r) :
  Calls Try.prog 4 #[.slice A0 l0.length c0] w fun e w' => e = .returned (.bool r) ∧ Below w.heap.size w w' := by
 have hu28 := Try.underlying28
 have hu31 := Try.underlying31
 have hf31_1 : ∀ (x0_ x1_ : Value) (W : World), Sem.run Try.prog (Instr.field 31 (.agg #[x0_, x1_]) 1) W = .ok x1_ W := by
  intro x0_ x1_ W
  unfold Instr.field
  rw [Sem.run_bind, run_underlying hu31]
  rfl
 have HR0 := aM hr0
 have HC0 := aM hc0
 clear hr0 hc0
 have HB := aM (Below.refl w.heap.size w)
 have H := h
 clear h
 unfold laws_FnShift.f at H
 replace H := bE H
 obtain ⟨t497, A2, H⟩ := H
 by_cases c3 : t497 = true
 ·subst c3
  replace H := ifT H
  obtain rfl := Option.some.inj H
  go_enter Try.func4, Try.ntmps4
  go_wp2_with (first | ((with_reducible refine gate_callee (f := 8) rfl ?_); refine gL (some 10) Try.func8 #[.slice A0 l0.length c0] ?_; (with_reducible refine (laws_big.calls _ _ l0 true _ ?side1 ?side2 A2.out).mono ?_); (case side1 => have X_ := HR0.out; exact TC); (case side2 => exact HC0.out); rintro e w' ⟨rfl, ⟨nd, rfl⟩⟩; refine ⟨_, rfl, ?_⟩))
  go_ret
  exact ⟨by first | rfl | (simp [errW_none, errW_some] <;> rfl) | (simp [*, errW_none, errW_some] <;> rfl), TB⟩
 ·replace c3 := Bool.eq_false_iff.mpr c3
  subst c3
  replace H := ifF H
  replace H := bE H
  obtain ⟨⟨al, ak, aJ⟩, A4, H⟩ := H
  dsimp only at H
  replace H := bE H
  obtain ⟨⟨ag, ah, ai, aj⟩, A5, H⟩ := H
  dsimp only at H
  obtain ⟨y512, aC⟩ : ∃ y_ : List Int, y_ = (([] : List Int)) := ⟨_, rfl⟩
  replace H := someE H aC
  have aP := aM aC
  clear aC
  replace H := ifN H
  obtain ⟨c6, H⟩ := H
  have LMc6 := aM c6
  clear c6
  obtain ⟨y515, aA⟩ : ∃ y_ : List Int, y_ = (y512 ++ al) := ⟨_, rfl⟩
  replace H := someE H aA
  have Ny515 := aM aA
  clear aA
  replace H := ifN H
  obtain ⟨c7, H⟩ := H
  have LMc7 := aM c7
  clear c7
  obtain ⟨ao, az⟩ : ∃ y_ : List Int, y_ = (y515 ++ ak) := ⟨_, rfl⟩
  replace H := someE H az
  have Ny518 := aM az
  clear az
  obtain ⟨y521, ay⟩ : ∃ y_ : List Int, y_ = (([] : List Int)) := ⟨_, rfl⟩
  replace H := someE H ay
  have aN := aM ay
  clear ay
  replace H := ifN H
  obtain ⟨c8, H⟩ := H
  have LMc8 := aM c8
  clear c8
  obtain ⟨y524, ax⟩ : ∃ y_ : List Int, y_ = (y521 ++ ak) := ⟨_, rfl⟩
  replace H := someE H ax
  have Ny524 := aM ax
  clear ax
  replace H := ifN H
  obtain ⟨c9, H⟩ := H
  have LMc9 := aM c9
  clear c9
  obtain ⟨y527, aD⟩ : ∃ y_ : List Int, y_ = (y524 ++ al) := ⟨_, rfl⟩
  rw [← aD] at H
  have Ny527 := aM aD
  clear aD
  replace H := bE H
  obtain ⟨ar, A10, H⟩ := H
  go_enter Try.func4, Try.ntmps4
  go_wp2_with (first | ((with_reducible refine gate_callee (f := 8) rfl ?_); refine gL (some 10) Try.func8 #[.slice A0 l0.length c0] ?_; (with_reducible refine (laws_big.calls _ _ l0 false _ ?side1 ?side2 A2.out).mono ?_); (case side1 => have X_ := HR0.out; exact TC); (case side2 => exact HC0.out); rintro e w' ⟨rfl, ⟨nd, rfl⟩⟩; refine ⟨_, rfl, ?_⟩) | ((with_reducible refine gate_callee (f := 18) rfl ?_); refine gL (some 13) Try.func18 #[.slice A0 l0.length c0] ?_; (with_reducible refine (spec_DrawOld.calls k _ _ l0 al ak aJ _ ?side1 ?side2 A4.out).mono ?_); (case side1 => have X_ := HR0.out; exact TC); (case side2 => exact HC0.out); rintro e w11 ⟨v501, v503, rfl, ho0, ho1, hb⟩; refine ⟨_, rfl, ?_⟩; have ac := aM (Kd.R_lower ho0 (below_size TB)); have aa := aM (Kd.R_lower ho1 (below_size TB)); replace HB := aM (below_step TB hb); clear ho0 ho1 hb) | ((with_reducible refine gate_callee (f := 10) rfl ?_); (with_reducible refine gate_dst (N := 19) rfl ?_); generalize hG_ : wpList _ _ _ _ _ _ = G_))
  subst hG_
  by_cases c12 : ar = 0
  ·rw [if_pos c12] at H
   have c12b0 : (ar == 0) = true := beq_iff_eq.mpr c12
   have c12b1 : (ar != 0) = false := bne_eq_false_iff_eq.mpr c12
   clear c12
   replace H := bE H
   obtain ⟨av, A13, H⟩ := H
   by_cases c14 : av = 0
   ·rw [if_pos c14] at H
    have c14b0 : (av == 0) = true := beq_iff_eq.mpr c14
    have c14b1 : (av != 0) = false := bne_eq_false_iff_eq.mpr c14
    clear c14
    replace H := bE H
    obtain ⟨ap, A15, H⟩ := H
    by_cases c16 : ap = 0
    ·rw [if_pos c16] at H
     have c16b0 : (ap == 0) = true := beq_iff_eq.mpr c16
     have c16b1 : (ap != 0) = false := bne_eq_false_iff_eq.mpr c16
     clear c16
     replace H := bE H
     obtain ⟨aI, A17, H⟩ := H
     replace H := bE H
     obtain ⟨aH, A18, H⟩ := H
     replace H := bE H
     obtain ⟨aq, A19, H⟩ := H
     by_cases c20 : aq = 0
     ·rw [if_pos c20] at H
      have c20b0 : (aq == 0) = true := beq_iff_eq.mpr c20
      have c20b1 : (aq != 0) = false := bne_eq_false_iff_eq.mpr c20
      clear c20
      replace H := bE H
      obtain ⟨⟨t536, aK⟩, A21, H⟩ := H
      dsimp only at H
      replace H := bE H
      obtain ⟨t540, A22, H⟩ := H
      obtain rfl := Option.some.inj H
      obtain ⟨am, an, eo23⟩ := Kd.R_slice aa.out
      subst eo23
      try go_wp2_with (first | ((with_reducible refine gate_callee (f := 10) rfl ?_); refine gL (some 19) Try.func10 #[.int .i64 1, .slice am ak.length an, .int .i64 aJ] ?_; (with_reducible refine (impl_ManOf.calls k 1 _ _ ak aJ ag ah ai aj _ ?side1 ?side2 A5.out).mono ?_); (case side1 => have X_ := (Kd.R_reads' aa.out).2.2; exact TC); (case side2 => exact (Kd.R_reads' aa.out).2.1); rintro e w24 ⟨v509, rfl, ho0, hb⟩; refine ⟨_, rfl, ?_⟩; have ad := aM (Kd.R_lower ho0 (below_size TB)); replace ac := aM (Kd.R_below (by have X_ := ac.out; exact TR) hb); replace aa := aM (Kd.R_below (by have X_ := aa.out; exact TR) hb); replace HB := aM (below_step TB hb); clear ho0 hb) | ((with_reducible refine gate_dst (N := 6) rfl ?_); refine gBx 6 #[.int .i64 0, .int .i64 0, .int .i64 0, .slice none 0 0] 28 ?_; intro gb511 hg w25 hbox hb; have ab := aM (hbox); have GW511 := aM ((by rw [hg]; exact (below_size TB) : w.heap.size ≤ gb511)); have GE511 := aM ((by rw [hg]; exact (below_size TB) : w.heap.size ≤ gb511)); replace ac := aM (Kd.R_below (by have X_ := ac.out; exact TR) hb); replace aa := aM (Kd.R_below (by have X_ := aa.out; exact TR) hb); replace ad := aM (Kd.R_below (by have X_ := ad.out; exact TR) hb); replace HB := aM (below_step TB hb); clear hb hbox hg; obtain ⟨hcz26_0, hcz26_1, hcz26_2, hcz26_3⟩ := cz4 ab.out; obtain ⟨hfz26_0, hfz26_1, hfz26_2, hfz26_3⟩ := fz4 ab.out; obtain ⟨Ao27, co27, eo27⟩ := Kd.R_slice ad.out; subst eo27) | ((with_reducible refine gate_dst (N := 20) rfl ?_); refine Kd.R_lit (Kd.int .u8) _ 5 ?hg (N := 20) ?hd (xs := ([] : List Int)) (inner := []) (ok := fun _ => True) (okp := fun _ => True) ?hr ?hp (fun _ hk => hk) trivial (Below.refl _ _) (Nat.le_refl _) (by simp) ?_; (case hd => rfl); (case hg => rfl); (case hr => first | (go_simp; done) | (go_simp; rfl)); (case hp => exact (Reps.none _ _)); intro v513 w28 ho29 hb hg_ hnew_; clear hg_ hnew_; (first | rw [← aP.out] at ho29 | (simp only [Int.reduceToNat] at ho29; rw [← aP.out] at ho29)); have HO514 := aM (Kd.R_lower (Kd.R_new' (Kd.R_new' ho29 (Kd.R_lt (by (with_reducible repeat (first | apply Kd.R_alloc | apply Kd.R_drewN | apply Kd.R_drew)); exact (R_off (Kd.R_types ac.out ab.out (by decide)) TO)))) (Kd.R_lt (by (with_reducible repeat (first | apply Kd.R_alloc | apply Kd.R_drewN | apply Kd.R_drew)); exact (R_off (Kd.R_types aa.out ab.out (by decide)) TO)))) (below_size TB)); replace ac := aM (Kd.R_elder' (by (with_reducible repeat (first | apply Kd.R_alloc | apply Kd.R_drewN | apply Kd.R_drew)); exact (R_off (Kd.R_types ac.out ab.out (by decide)) TO)) (Kd.R_base ho29) hb); replace aa := aM (Kd.R_elder' (by (with_reducible repeat (first | apply Kd.R_alloc | apply Kd.R_drewN | apply Kd.R_drew)); exact (R_off (Kd.R_types aa.out ab.out (by decide)) TO)) (Kd.R_base ho29) hb); replace ad := aM (Kd.R_below (by (with_reducible repeat (first | apply Kd.R_alloc | apply Kd.R_drewN | apply Kd.R_drew)); exact (R_off (Kd.R_types ad.out ab.out (by decide)) TO)) hb); replace ab := aM (blk_below (g := gb511) (o := .cells #[.int .i64 ag, .int .i64 ah, .int .i64 ai, .slice Ao27 aj.length co27] 28 (0, 0)) (by (with_reducible repeat (first | refine blk_drewN ?_ _ | refine blk_drew ?_ | refine blk_alloc ?_ _)); refine blk_put (cs := #[.int .i64 ag, .int .i64 ah, .int .i64 ai, .slice none 0 0]) ?_ 3 _ rfl; (with_reducible repeat (first | refine blk_drewN ?_ _ | refine blk_drew ?_ | refine blk_alloc ?_ _)); refine blk_put (cs := #[.int .i64 ag, .int .i64 ah, .int .i64 0, .slice none 0 0]) ?_ 2 _ rfl; (with_reducible repeat (first | refine blk_drewN ?_ _ | refine blk_drew ?_ | refine blk_alloc ?_ _)); refine blk_put (cs := #[.int .i64 ag, .int .i64 0, .int .i64 0, .slice none 0 0]) ?_ 1 _ rfl; (with_reducible repeat (first | refine blk_drewN ?_ _ | refine blk_drew ?_ | refine blk_alloc ?_ _)); refine blk_put (cs := #[.int .i64 0, .int .i64 0, .int .i64 0, .slice none 0 0]) ?_ 0 _ rfl; (with_reducible repeat (first | refine blk_drewN ?_ _ | refine blk_drew ?_ | refine blk_alloc ?_ _)); exact ab.out) hb); replace HB := aM (below_step TB hb); clear hb ho29; obtain ⟨Ao31, co31, eo31⟩ := Kd.R_slice ac.out; subst eo31) | ((with_reducible refine gate_builtin (b := .append) (xs := #[.tmp 20, .tmp 21]) rfl ?_); at_builtin; refine Kd.R_append_rows (Kd.int .u8) (w0 := w) w.heap.size rfl (.tmp 20) (.tmp 21) 22 5 (.int .u8 0) 1 rfl Try.underlying22 info5 rfl (by decide) (by omega) v513 y512 al _ _ _ (fun k_ => some k_ ≠ (.slice Ao31 al.length co31 : Value).ownBlock ∧ some k_ ≠ (.slice am ak.length an : Value).ownBlock) (fun _ => False) rfl rfl ?aO ?aR (fun _ _ h => h) (fun _ h => h.elim) ?aF ?aB ?aS ?aL ?_; (case aR => repeat (first | exact (Kd.R_reads' ac.out).2.2 | (with_reducible refine Kd.C_alloc ?_ _) | (with_reducible refine Kd.C_drewN ?_ _) | (with_reducible refine Kd.C_drew ?_))); (case aB => exact TB); (case aF => exact (fun k_ hk => ⟨Kd.fresh' (Kd.R_lt (by have X_ := ac.out; exact TR)) k_ hk, Kd.fresh' (Kd.R_lt (by have X_ := aa.out; exact TR)) k_ hk⟩)); (case aO => exact (by (with_reducible repeat (first | apply Kd.R_alloc | apply Kd.R_drewN | apply Kd.R_drew)); exact Kd.R_mono HO514.out (fun _ hk => ⟨hk.1.2, hk.2⟩))); (case aS => exact (below_size TB)); (case aL => have := LMc6.out; omega); intro v516 w30 ho hb hg hat; rw [← Ny515.out] at ho; have HO517 := aM (ho); replace ac := aM (Kd.R_after (ok := (fun k_ => some k_ ≠ (.slice am ak.length an : Value).ownBlock)) (by have X_ := ac.out; exact TR) hg hat); replace aa := aM (Kd.R_after (ok := (fun k_ => some k_ ≠ (.slice Ao31 al.length co31 : Value).ownBlock)) (by have X_ := aa.out; exact TR) hg hat); replace ad := aM (Kd.R_over' (by have X_ := ad.out; exact TR) (Kd.R_typed (by have X_ := HO514.out; exact TR)) (by decide) hg); replace ab := aM (blk_grown (g := gb511) (o := .cells #[.int .i64 ag, .int .i64 ah, .int .i64 ai, .slice Ao27 aj.length co27] 28 (0, 0)) TK hg (Kd.R_ne HO514.out ab.out (by decide))); replace HB := aM (hb); clear HO514; clear ho hb hg hat) | ((with_reducible refine gate_builtin (b := .append) (xs := #[.tmp 22, .tmp 23]) rfl ?_); at_builtin; refine Kd.R_append_rows (Kd.int .u8) (w0 := w) w.heap.size rfl (.tmp 22) (.tmp 23) 22 5 (.int .u8 0) 1 rfl Try.underlying22 info5 rfl (by decide) (by omega) v516 y515 ak _ _ _ (fun k_ => some k_ ≠ (.slice Ao31 al.length co31 : Value).ownBlock ∧ some k_ ≠ (.slice am ak.length an : Value).ownBlock) (fun _ => False) rfl rfl ?aO ?aR (fun _ _ h => h) (fun _ h => h.elim) ?aF ?aB ?aS ?aL ?_; (case aR => repeat (first | exact (Kd.R_reads' aa.out).2.2 | (with_reducible refine Kd.C_alloc ?_ _) | (with_reducible refine Kd.C_drewN ?_ _) | (with_reducible refine Kd.C_drew ?_))); (case aB => exact TB); (case aF => exact (fun k_ hk => ⟨Kd.fresh' (Kd.R_lt (by have X_ := ac.out; exact TR)) k_ hk, Kd.fresh' (Kd.R_lt (by have X_ := aa.out; exact TR)) k_ hk⟩)); (case aO => exact (by have X_ := HO517.out; exact TR)); (case aS => exact (below_size TB)); (case aL => have := LMc7.out; omega); intro au w32 ho hb hg hat; rw [← Ny518.out] at ho; have ae := aM (ho); replace ac := aM (Kd.R_after (ok := (fun k_ => some k_ ≠ (.slice am ak.length an : Value).ownBlock)) (by have X_ := ac.out; exact TR) hg hat); replace aa := aM (Kd.R_after (ok := (fun k_ => some k_ ≠ (.slice Ao31 al.length co31 : Value).ownBlock)) (by have X_ := aa.out; exact TR) hg hat); replace ad := aM (Kd.R_over' (by have X_ := ad.out; exact TR) (Kd.R_typed (by have X_ := HO517.out; exact TR)) (by decide) hg); replace ab := aM (blk_grown (g := gb511) (o := .cells #[.int .i64 ag, .int .i64 ah, .int .i64 ai, .slice Ao27 aj.length co27] 28 (0, 0)) TK hg (Kd.R_ne HO517.out ab.out (by decide))); replace HB := aM (hb); clear HO517; clear ho hb hg hat) | ((with_reducible refine gate_dst (N := 25) rfl ?_); refine Kd.R_lit (Kd.int .u8) _ 5 ?hg (N := 25) ?hd (xs := ([] : List Int)) (inner := []) (ok := fun _ => True) (okp := fun _ => True) ?hr ?hp (fun _ hk => hk) trivial (Below.refl _ _) (Nat.le_refl _) (by simp) ?_; (case hd => rfl); (case hg => rfl); (case hr => first | (go_simp; done) | (go_simp; rfl)); (case hp => exact (Reps.none _ _)); intro v522 w33 ho34 hb hg_ hnew_; clear hg_ hnew_; (first | rw [← aN.out] at ho34 | (simp only [Int.reduceToNat] at ho34; rw [← aN.out] at ho34)); have HO523 := aM (Kd.R_lower (Kd.R_new' (Kd.R_new' (Kd.R_new' ho34 (Kd.R_lt (by have X_ := ac.out; exact TR))) (Kd.R_lt (by have X_ := aa.out; exact TR))) (Kd.R_lt (by have X_ := ae.out; exact TR))) (below_size TB)); replace ac := aM (Kd.R_elder' (by have X_ := ac.out; exact TR) (Kd.R_base ho34) hb); replace aa := aM (Kd.R_elder' (by have X_ := aa.out; exact TR) (Kd.R_base ho34) hb); replace ad := aM (Kd.R_below (by have X_ := ad.out; exact TR) hb); replace ae := aM (Kd.R_elder' (by have X_ := ae.out; exact TR) (Kd.R_base ho34) hb); replace ab := aM (blk_below (by have X_ := ab.out; exact TX) hb); replace HB := aM (below_step TB hb); clear hb ho34) | ((with_reducible refine gate_builtin (b := .append) (xs := #[.tmp 25, .tmp 26]) rfl ?_); at_builtin; refine Kd.R_append_rows (Kd.int .u8) (w0 := w) w.heap.size rfl (.tmp 25) (.tmp 26) 22 5 (.int .u8 0) 1 rfl Try.underlying22 info5 rfl (by decide) (by omega) v522 y521 ak _ _ _ (fun k_ => some k_ ≠ (.slice Ao31 al.length co31 : Value).ownBlock ∧ some k_ ≠ (.slice am ak.length an : Value).ownBlock ∧ some k_ ≠ (au : Value).ownBlock) (fun _ => False) rfl rfl ?aO ?aR (fun _ _ h => h) (fun _ h => h.elim) ?aF ?aB ?aS ?aL ?_; (case aR => repeat (first | exact (Kd.R_reads' aa.out).2.2 | (with_reducible refine Kd.C_alloc ?_ _) | (with_reducible refine Kd.C_drewN ?_ _) | (with_reducible refine Kd.C_drew ?_))); (case aB => exact TB); (case aF => exact (fun k_ hk => ⟨Kd.fresh' (Kd.R_lt (by have X_ := ac.out; exact TR)) k_ hk, Kd.fresh' (Kd.R_lt (by have X_ := aa.out; exact TR)) k_ hk, Kd.fresh' (Kd.R_lt (by have X_ := ae.out; exact TR)) k_ hk⟩)); (case aO => exact (by (with_reducible repeat (first | apply Kd.R_alloc | apply Kd.R_drewN | apply Kd.R_drew)); exact Kd.R_mono HO523.out (fun _ hk => ⟨hk.1.1.2, ⟨hk.1.2, hk.2⟩⟩))); (case aS => exact (below_size TB)); (case aL => have := LMc8.out; omega); intro v525 w35 ho hb hg hat; rw [← Ny524.out] at ho; have HO526 := aM (ho); replace ac := aM (Kd.R_after (ok := (fun k_ => some k_ ≠ (.slice am ak.length an : Value).ownBlock ∧ some k_ ≠ (au : Value).ownBlock)) (by have X_ := ac.out; exact TR) hg hat); replace aa := aM (Kd.R_after (ok := (fun k_ => some k_ ≠ (.slice Ao31 al.length co31 : Value).ownBlock ∧ some k_ ≠ (au : Value).ownBlock)) (by have X_ := aa.out; exact TR) hg hat); replace ad := aM (Kd.R_over' (by have X_ := ad.out; exact TR) (Kd.R_typed (by have X_ := HO523.out; exact TR)) (by decide) hg); replace ab := aM (blk_grown (g := gb511) (o := .cells #[.int .i64 ag, .int .i64 ah, .int .i64 ai, .slice Ao27 aj.length co27] 28 (0, 0)) TK hg (Kd.R_ne HO523.out ab.out (by decide))); replace ae := aM (Kd.R_after (ok := (fun k_ => some k_ ≠ (.slice Ao31 al.length co31 : Value).ownBlock ∧ some k_ ≠ (.slice am ak.length an : Value).ownBlock)) (by have X_ := ae.out; exact TR) hg hat); replace HB := aM (hb); clear HO523; clear ho hb hg hat) | ((with_reducible refine gate_builtin (b := .append) (xs := #[.tmp 27, .tmp 28]) rfl ?_); at_builtin; refine Kd.R_append_rows (Kd.int .u8) (w0 := w) w.heap.size rfl (.tmp 27) (.tmp 28) 22 5 (.int .u8 0) 1 rfl Try.underlying22 info5 rfl (by decide) (by omega) v525 y524 al _ _ _ (fun k_ => some k_ ≠ (.slice Ao31 al.length co31 : Value).ownBlock ∧ some k_ ≠ (.slice am ak.length an : Value).ownBlock ∧ some k_ ≠ (au : Value).ownBlock) (fun _ => False) rfl rfl ?aO ?aR (fun _ _ h => h) (fun _ h => h.elim) ?aF ?aB ?aS ?aL ?_; (case aR => repeat (first | exact (Kd.R_reads' ac.out).2.2 | (with_reducible refine Kd.C_alloc ?_ _) | (with_reducible refine Kd.C_drewN ?_ _) | (with_reducible refine Kd.C_drew ?_))); (case aB => exact TB); (case aF => exact (fun k_ hk => ⟨Kd.fresh' (Kd.R_lt (by have X_ := ac.out; exact TR)) k_ hk, Kd.fresh' (Kd.R_lt (by have X_ := aa.out; exact TR)) k_ hk, Kd.fresh' (Kd.R_lt (by have X_ := ae.out; exact TR)) k_ hk⟩)); (case aO => exact (by have X_ := HO526.out; exact TR)); (case aS => exact (below_size TB)); (case aL => have := LMc9.out; omega); intro v528 w36 ho hb hg hat; rw [← Ny527.out] at ho; have af := aM (ho); replace ac := aM (Kd.R_after (ok := (fun k_ => some k_ ≠ (.slice am ak.length an : Value).ownBlock ∧ some k_ ≠ (au : Value).ownBlock)) (by have X_ := ac.out; exact TR) hg hat); replace aa := aM (Kd.R_after (ok := (fun k_ => some k_ ≠ (.slice Ao31 al.length co31 : Value).ownBlock ∧ some k_ ≠ (au : Value).ownBlock)) (by have X_ := aa.out; exact TR) hg hat); replace ad := aM (Kd.R_over' (by have X_ := ad.out; exact TR) (Kd.R_typed (by have X_ := HO526.out; exact TR)) (by decide) hg); replace ab := aM (blk_grown (g := gb511) (o := .cells #[.int .i64 ag, .int .i64 ah, .int .i64 ai, .slice Ao27 aj.length co27] 28 (0, 0)) TK hg (Kd.R_ne HO526.out ab.out (by decide))); replace ae := aM (Kd.R_after (ok := (fun k_ => some k_ ≠ (.slice Ao31 al.length co31 : Value).ownBlock ∧ some k_ ≠ (.slice am ak.length an : Value).ownBlock)) (by have X_ := ae.out; exact TR) hg hat); replace HB := aM (hb); clear HO526; clear ho hb hg hat))
      replace ac := aM (Kd.R_drew ac.out)
      replace aa := aM (Kd.R_drew aa.out)
      replace ad := aM (Kd.R_drew ad.out)
      replace ae := aM (Kd.R_drew ae.out)
      replace af := aM (Kd.R_drew af.out)
      replace ab := aM (blk_drew ab.out)
      replace HB := aM (below_drew1 HB.out)
      obtain ⟨aG, aE, eo38⟩ := Kd.R_slice ae.out
      (first | subst eo38 | (injection eo38 with f1_ f2_ f3_; have f4_ := f1_.symm; have f5_ := f3_.symm; clear f1_ f2_ f3_; subst f4_; subst f5_))
      refine start_ (n := 35) (S := fun w' => w'.cell? ⟨gb511, 0, none⟩ = some (.int .i64 ag) ∧ w'.cell? ⟨gb511, 1, none⟩ = some (.int .i64 ah) ∧ w'.cell? ⟨gb511, 2, none⟩ = some (.int .i64 ai) ∧ w'.cell? ⟨gb511, 3, none⟩ = some (.slice Ao27 aj.length co27)) (ds := []) (Array.replicate 35 false) (by kernel_rfl) rfl rfl (cz4 ab.out) (fun hHeld => ?_); refine with_tabW laws_FnShift.tab7 laws_FnShift.bits7 (fun HT_ HW_ => ?_)
      generalize w36.drew = w37 at ac aa ad ae af ab HB hHeld ⊢
      refine pP 0 (some 30) ?_
      refine pT 1 (some 31) ?_
      refine pO 2 (some 32) (fun K hK => ?_)
      refine gG Try.func19 #[.slice aG ao.length aE, .agg #[.int .i64 ag, .int .i64 ah, .int .i64 ai, .slice Ao27 aj.length co27]] ?_
      with_reducible refine (impl_Lacking.calls k _ _ ao ag ah ai _ _ aj ar _ ?side1 ?side2 ?side3 ?side4 A10.out).mono ?_
      (case side1 => have X_ := (Kd.R_reads' ae.out).2.2; exact TC)
      (case side2 => exact (Kd.R_reads' ae.out).2.1)
      (case side3 => have X_ := (Kd.R_reads' ad.out).2.2; exact TC)
      (case side4 => exact (Kd.R_reads' ad.out).2.1)
      rintro e w39 ⟨rfl, hb⟩
      refine ⟨_, rfl, ?_⟩
      have n0_ := aM (Kd.R_below (by have X_ := ac.out; exact TR) hb)
      have n1_ := aM (Kd.R_below (by have X_ := aa.out; exact TR) hb)
      have n2_ := aM (Kd.R_below (by have X_ := ad.out; exact TR) hb)
      have n3_ := aM (Kd.R_below (by have X_ := ae.out; exact TR) hb)
      have n4_ := aM (Kd.R_below (by have X_ := af.out; exact TR) hb)
      have n5_ := aM (blk_below (by have X_ := ab.out; exact TX) hb)
      have n6_ := aM (below_step TB hb)
      clear ac
      clear aa
      clear ad
      clear ae
      clear af
      clear ab
      clear HB
      have ac := n0_
      have aa := n1_
      have ad := n2_
      have ae := n3_
      have af := n4_
      have ab := n5_
      have HB := n6_
      clear n0_ n1_ n2_ n3_ n4_ n5_ n6_
      (try clear hb)
      (try clear hb2)
      (try clear hk)
      (try clear hi)
      obtain ⟨Ao40, co40, eo40⟩ := Kd.R_slice af.out
      (first | subst eo40 | (injection eo40 with f1_ f2_ f3_; have f4_ := f1_.symm; have f5_ := f3_.symm; clear f1_ f2_ f3_; subst f4_; subst f5_))
      refine hK.out _ _ (cz4 ab.out) (fun hHeld => ?_)
      clear hK K
      refine nR ?_
      refine pP 3 (some 33) ?_
      refine pP 4 (some 34) ?_
      refine pP 5 (some 35) ?_
      refine pT 6 (some 36) ?_
      refine pO 7 (some 37) (fun K hK => ?_)
      refine gG Try.func19 #[.slice Ao40 y527.length co40, .agg #[.int .i64 ag, .int .i64 ah, .int .i64 ai, .slice Ao27 aj.length co27]] ?_
      with_reducible refine (impl_Lacking.calls k _ _ y527 ag ah ai _ _ aj av _ ?side1 ?side2 ?side3 ?side4 A13.out).mono ?_
      (case side1 => have X_ := (Kd.R_reads' af.out).2.2; exact TC)
      (case side2 => exact (Kd.R_reads' af.out).2.1)
      (case side3 => have X_ := (Kd.R_reads' ad.out).2.2; exact TC)
      (case side4 => exact (Kd.R_reads' ad.out).2.1)
      rintro e w41 ⟨rfl, hb⟩
      refine ⟨_, rfl, ?_⟩
      have n0_ := aM (Kd.R_below (by have X_ := ac.out; exact TR) hb)
      have n1_ := aM (Kd.R_below (by have X_ := aa.out; exact TR) hb)
      have n2_ := aM (Kd.R_below (by have X_ := ad.out; exact TR) hb)
      have n3_ := aM (Kd.R_below (by have X_ := ae.out; exact TR) hb)
      have n4_ := aM (Kd.R_below (by have X_ := af.out; exact TR) hb)
      have n5_ := aM (blk_below (by have X_ := ab.out; exact TX) hb)
      have n6_ := aM (below_step TB hb)
      clear ac
      clear aa
      clear ad
      clear ae
      clear af
      clear ab
      clear HB
      have ac := n0_
      have aa := n1_
      have ad := n2_
      have ae := n3_
      have af := n4_
      have ab := n5_
      have HB := n6_
      clear n0_ n1_ n2_ n3_ n4_ n5_ n6_
      (try clear hb)
      (try clear hb2)
      (try clear hk)
      (try clear hi)
      refine hK.out _ _ (cz4 ab.out) (fun hHeld => ?_)
      clear hK K
      refine nR ?_
      refine pP 8 (some 38) ?_
      refine pP 9 (some 39) ?_
      refine pP 10 (some 40) ?_
      refine pP 11 (some 41) ?_
      refine pT 12 (some 42) ?_
      refine pO 13 (some 43) (fun K hK => ?_)
      refine gG Try.func20 #[.slice aG ao.length aE, .agg #[.int .i64 ag, .int .i64 ah, .int .i64 ai, .slice Ao27 aj.length co27]] ?_
      with_reducible refine (impl_BytesLacking.calls k _ _ ao ag ah ai _ _ aj ap _ ?side1 ?side2 ?side3 ?side4 A15.out).mono ?_
      (case side1 => have X_ := (Kd.R_reads' ae.out).2.2; exact TC)
      (case side2 => exact (Kd.R_reads' ae.out).2.1)
      (case side3 => have X_ := (Kd.R_reads' ad.out).2.2; exact TC)
      (case side4 => exact (Kd.R_reads' ad.out).2.1)
      rintro e w42 ⟨rfl, hb⟩
      refine ⟨_, rfl, ?_⟩
      have n0_ := aM (Kd.R_below (by have X_ := ac.out; exact TR) hb)
      have n1_ := aM (Kd.R_below (by have X_ := aa.out; exact TR) hb)
      have n2_ := aM (Kd.R_below (by have X_ := ad.out; exact TR) hb)
      have n3_ := aM (Kd.R_below (by have X_ := ae.out; exact TR) hb)
      have n4_ := aM (Kd.R_below (by have X_ := af.out; exact TR) hb)
      have n5_ := aM (blk_below (by have X_ := ab.out; exact TX) hb)
      have n6_ := aM (below_step TB hb)
      clear ac
      clear aa
      clear ad
      clear ae
      clear af
      clear ab
      clear HB
      have ac := n0_
      have aa := n1_
      have ad := n2_
      have ae := n3_
      have af := n4_
      have ab := n5_
      have HB := n6_
      clear n0_ n1_ n2_ n3_ n4_ n5_ n6_
      (try clear hb)
      (try clear hb2)
      (try clear hk)
      (try clear hi)
      refine hK.out _ _ (cz4 ab.out) (fun hHeld => ?_)
      clear hK K
      refine nR ?_
      refine pP 14 (some 44) ?_
      refine pP 15 (some 45) ?_
      refine pP 16 (some 46) ?_
      refine pP 17 (some 47) ?_
      refine pP 20 (some 50) ?_
      refine pT 18 (some 48) ?_
      refine pT 21 (some 51) ?_
      refine pO 19 (some 49) (fun K hK => ?_)
      refine gG Try.func19 #[.slice aG ao.length aE, .agg #[.int .i64 ag, .int .i64 ah, .int .i64 ai, .slice Ao27 aj.length co27]] ?_
      with_reducible refine (impl_Lacking.calls k _ _ ao ag ah ai _ _ aj aI _ ?side1 ?side2 ?side3 ?side4 A17.out).mono ?_
      (case side1 => have X_ := (Kd.R_reads' ae.out).2.2; exact TC)
      (case side2 => exact (Kd.R_reads' ae.out).2.1)
      (case side3 => have X_ := (Kd.R_reads' ad.out).2.2; exact TC)
      (case side4 => exact (Kd.R_reads' ad.out).2.1)
      rintro e w43 ⟨rfl, hb⟩
      refine ⟨_, rfl, ?_⟩
      have n0_ := aM (Kd.R_below (by have X_ := ac.out; exact TR) hb)
      have n1_ := aM (Kd.R_below (by have X_ := aa.out; exact TR) hb)
      have n2_ := aM (Kd.R_below (by have X_ := ad.out; exact TR) hb)
      have n3_ := aM (Kd.R_below (by have X_ := ae.out; exact TR) hb)
      have n4_ := aM (Kd.R_below (by have X_ := af.out; exact TR) hb)
      have n5_ := aM (blk_below (by have X_ := ab.out; exact TX) hb)
      have n6_ := aM (below_step TB hb)
      clear ac
      clear aa
      clear ad
      clear ae
      clear af
      clear ab
      clear HB
      have ac := n0_
      have aa := n1_
      have ad := n2_
      have ae := n3_
      have af := n4_
      have ab := n5_
      have HB := n6_
      clear n0_ n1_ n2_ n3_ n4_ n5_ n6_
      (try clear hb)
      (try clear hb2)
      (try clear hk)
      (try clear hi)
      refine hK.out _ _ (cz4 ab.out) (fun hHeld => ?_)
      clear hK K
      refine nR ?_
      refine pO 22 (some 52) (fun K hK => ?_)
      refine gG Try.func19 #[.slice Ao31 al.length co31, .agg #[.int .i64 ag, .int .i64 ah, .int .i64 ai, .slice Ao27 aj.length co27]] ?_
      with_reducible refine (impl_Lacking.calls k _ _ al ag ah ai _ _ aj aH _ ?side1 ?side2 ?side3 ?side4 A18.out).mono ?_
      (case side1 => have X_ := (Kd.R_reads' ac.out).2.2; exact TC)
      (case side2 => exact (Kd.R_reads' ac.out).2.1)
      (case side3 => have X_ := (Kd.R_reads' ad.out).2.2; exact TC)
      (case side4 => exact (Kd.R_reads' ad.out).2.1)
      rintro e w44 ⟨rfl, hb⟩
      refine ⟨_, rfl, ?_⟩
      have n0_ := aM (Kd.R_below (by have X_ := ac.out; exact TR) hb)
      have n1_ := aM (Kd.R_below (by have X_ := aa.out; exact TR) hb)
      have n2_ := aM (Kd.R_below (by have X_ := ad.out; exact TR) hb)
      have n3_ := aM (Kd.R_below (by have X_ := ae.out; exact TR) hb)
      have n4_ := aM (Kd.R_below (by have X_ := af.out; exact TR) hb)
      have n5_ := aM (blk_below (by have X_ := ab.out; exact TX) hb)
      have n6_ := aM (below_step TB hb)
      clear ac
      clear aa
      clear ad
      clear ae
      clear af
      clear ab
      clear HB
      have ac := n0_
      have aa := n1_
      have ad := n2_
      have ae := n3_
      have af := n4_
      have ab := n5_
      have HB := n6_
      clear n0_ n1_ n2_ n3_ n4_ n5_ n6_
      (try clear hb)
      (try clear hb2)
      (try clear hk)
      (try clear hi)
      refine hK.out _ _ (cz4 ab.out) (fun hHeld => ?_)
      clear hK K
      refine nR ?_
      refine pO 23 (some 53) (fun K hK => ?_)
      refine gG Try.func21 #[.int .i64 aI, .int .i64 aH] ?_
      with_reducible refine (impl_Without.calls aI aH aq _ A19.out).mono ?_
      rintro e w' ⟨rfl, ⟨nd, rfl⟩⟩
      refine ⟨_, rfl, ?_⟩
      refine hK.out _ _ (cz4 ab.out) (fun hHeld => ?_)
      clear hK K
      refine nR ?_
      refine pP 24 (some 54) ?_
      refine pP 25 (some 55) ?_
      refine pP 26 (some 56) ?_
      refine pP 28 (some 58) ?_
      refine pP 31 (some 61) ?_
      refine pT 27 (some 57) ?_
      refine pO 29 (some 59) (fun K hK => ?_)
      refine gG Try.func22 #[.agg #[.int .i64 ag, .int .i64 ah, .int .i64 ai, .slice Ao27 aj.length co27], .slice aG ao.length aE] ?_
      with_reducible refine (impl_BuildFrom.calls k ag ah ai _ _ aj _ _ ao t536 aK _ ?side1 ?side2 ?side3 ?side4 A21.out).mono ?_
      (case side1 => have X_ := (Kd.R_reads' ad.out).2.2; exact TC)
      (case side2 => exact (Kd.R_reads' ad.out).2.1)
      (case side3 => have X_ := (Kd.R_reads' ae.out).2.2; exact TC)
      (case side4 => exact (Kd.R_reads' ae.out).2.1)
      rintro e w45 ⟨v538, rfl, ho0, hb⟩
      refine ⟨_, rfl, ?_⟩
      have n0_ := aM (Kd.R_elder' (by have X_ := ac.out; exact TR) (Kd.R_base ho0) hb)
      have n1_ := aM (Kd.R_elder' (by have X_ := aa.out; exact TR) (Kd.R_base ho0) hb)
      have n2_ := aM (Kd.R_below (by have X_ := ad.out; exact TR) hb)
      have n3_ := aM (Kd.R_elder' (by have X_ := ae.out; exact TR) (Kd.R_base ho0) hb)
      have n4_ := aM (Kd.R_elder' (by have X_ := af.out; exact TR) (Kd.R_base ho0) hb)
      have n5_ := aM (Kd.R_lower (Kd.R_new' (Kd.R_new' (Kd.R_new' (Kd.R_new' ho0 (Kd.R_lt (by have X_ := ac.out; exact TR))) (Kd.R_lt (by have X_ := aa.out; exact TR))) (Kd.R_lt (by have X_ := ae.out; exact TR))) (Kd.R_lt (by have X_ := af.out; exact TR))) (below_size TB))
      have n6_ := aM (blk_below (by have X_ := ab.out; exact TX) hb)
      have n7_ := aM (below_step TB hb)
      clear ac
      clear aa
      clear ad
      clear ae
      clear af
      clear ab
      clear HB
      have ac := n0_
      have aa := n1_
      have ad := n2_
      have ae := n3_
      have af := n4_
      have aw := n5_
      have ab := n6_
      have HB := n7_
      clear n0_ n1_ n2_ n3_ n4_ n5_ n6_ n7_
      (try clear hb)
      (try clear hb2)
      (try clear hk)
      (try clear hi)
      (try clear ho0)
      obtain ⟨Ao46, co46, eo46⟩ := Kd.R_slice aw.out
      (first | subst eo46 | (injection eo46 with f1_ f2_ f3_; have f4_ := f1_.symm; have f5_ := f3_.symm; clear f1_ f2_ f3_; subst f4_; subst f5_))
      refine hK.out _ _ (cz4 ab.out) (fun hHeld => ?_)
      clear hK K
      refine nR ?_
      refine pP 30 (some 60) ?_
      refine pO 32 (some 62) (fun K hK => ?_)
      refine gG Try.func17 #[.slice Ao46 aK.length co46, .slice am ak.length an] ?_
      with_reducible refine (laws_same.calls k _ _ aK _ _ ak t540 _ ?side1 ?side2 ?side3 ?side4 A22.out).mono ?_
      (case side1 => have X_ := (Kd.R_reads' aw.out).2.2; exact TC)
      (case side2 => exact (Kd.R_reads' aw.out).2.1)
      (case side3 => have X_ := (Kd.R_reads' aa.out).2.2; exact TC)
      (case side4 => exact (Kd.R_reads' aa.out).2.1)
      rintro e w' ⟨rfl, ⟨nd, rfl⟩⟩
      refine ⟨_, rfl, ?_⟩
      refine hK.out _ _ (cz4 ab.out) (fun hHeld => ?_)
      clear hK K
      refine nR ?_
      refine pP 33 (some 63) ?_
      refine pP 34 (some 2) ?_
      refine done_ (done_of HT_.out (by kernel_rfl)) ?_
      try go_wp2
      go_ret
      exact ⟨by first | rfl | (simp [errW_none, errW_some] <;> rfl) | (simp [*, errW_none, errW_some] <;> rfl), TB⟩
     ·rw [if_neg c20] at H
      have c20b0 : (aq == 0) = false := beq_eq_false_iff_ne.mpr c20
      have c20b1 : (aq != 0) = true := bne_iff_ne.mpr c20
      exact absurd H (by simp)
    ·rw [if_neg c16] at H
     have c16b0 : (ap == 0) = false := beq_eq_false_iff_ne.mpr c16
     have c16b1 : (ap != 0) = true := bne_iff_ne.mpr c16
     exact absurd H (by simp)
   ·rw [if_neg c14] at H
    have c14b0 : (av == 0) = false := beq_eq_false_iff_ne.mpr c14
    have c14b1 : (av != 0) = true := bne_iff_ne.mpr c14
    exact absurd H (by simp)
  ·rw [if_neg c12] at H
   have c12b0 : (ar == 0) = false := beq_eq_false_iff_ne.mpr c12
   have c12b1 : (ar != 0) = true := bne_iff_ne.mpr c12
   exact absurd H (by simp)

end Go.Proofs.Ytfkndpjbkndhcaa.Q
