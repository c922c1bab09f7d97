/- Functions of the program as plain Lean functions, and that a call of each comes to what its function tells. Written by a program of this seat. -/
import Derived.Test.YtdohjkbgbplgmaaQ0
import Derived.Test.YtdohjkbgbplgmaaQ9
import Derived.Test.YtdohjkbgbplgmaaQ12
import Derived.Test.YtdohjkbgbplgmaaQ17
namespace Go.Proofs.Ytdohjkbgbplgmaa.Q
open Go.RowKit Go.Proofs.YtdohjkbgbplgmaaW.PrintWords Go.Proofs.YtdohjkbgbplgmaaW.PrintLast Go.Proofs.YtdohjkbgbplgmaaW.PrintMore
attribute [local go_sem] max2_int min2_int max_two min_two max_three min_three max_four min_four   -- for this text's walks alone
set_option linter.unusedVariables false
set_option linter.unusedSimpArgs false

/-! ### impl_PutMsg: function 13 -/
def impl_PutMsg.f (k : Nat) (a0_0 : Int) (a0_1 : Int) (a0_2 : Int) (a0_3 : Int) (a0_4 : Int) (l0_5 : List (S76)) (a0_6 : Int) (a0_7 : Int) (a0_8 : Int) (l0_9 : List Int) : Option (List Int) := (impl_MsgOk.f k a0_0 a0_1 a0_2 a0_3 a0_4 l0_5 a0_6 a0_7 a0_8 l0_9).bind fun t462 => (if t462 = true then ((impl_PutVar.f k ([] : List Int) a0_0).bind fun t463 => (if a0_0 = 1 then ((impl_PutMan.f k t463 a0_2 a0_3 a0_4 l0_5).bind fun t466 => ((impl_WeakOf.f k t466).bind fun t469 => ((impl_PutVar.f k t466 t469).bind fun t470 => (some t470)))) else (if a0_0 = 2 then ((impl_PutVar.f k t463 a0_1).bind fun t473 => ((impl_putSet.f k t473 a0_6).bind fun t476 => ((impl_putSet.f k t476 a0_7).bind fun t479 => ((impl_WeakOf.f k t479).bind fun t482 => ((impl_PutVar.f k t479 t482).bind fun t483 => (some t483)))))) else (if a0_0 = 3 then ((impl_PutVar.f k t463 a0_1).bind fun t486 => ((impl_PutVar.f k t486 a0_8).bind fun t489 => ((impl_PutPart.f k t489 l0_9).bind fun t492 => ((impl_WeakOf.f k t492).bind fun t495 => ((impl_PutVar.f k t492 t495).bind fun t496 => (some t496)))))) else (if a0_0 = 4 then ((impl_PutVar.f k t463 a0_1).bind fun t499 => ((impl_WeakOf.f k t499).bind fun t502 => ((impl_PutVar.f k t499 t502).bind fun t503 => (some t503)))) else ((impl_WeakOf.f k t463).bind fun t506 => ((impl_PutVar.f k t463 t506).bind fun t507 => (some t507)))))))) else (some ([] : List Int)))
theorem impl_PutMsg.mono : ∀ a0 a1 a2 a3 a4 a5 a6 a7 a8 a9 k, LeO (impl_PutMsg.f k a0 a1 a2 a3 a4 a5 a6 a7 a8 a9) (impl_PutMsg.f (k + 1) a0 a1 a2 a3 a4 a5 a6 a7 a8 a9) := by
  intro a0 a1 a2 a3 a4 a5 a6 a7 a8 a9 k
  have m0_ := @impl_MsgOk.mono
  have m1_ := @impl_PutMan.mono
  have m2_ := @impl_PutPart.mono
  have m3_ := @impl_PutVar.mono
  have m4_ := @impl_WeakOf.mono
  have m5_ := @impl_putSet.mono
  unfold impl_PutMsg.f
  exact LM
def impl_PutMsg.T8 : Bool × List (List Nat × List Nat) := (true, [([], []), ([], []), ([1], [1]), ([0, 2], [0, 2]), ([], []), ([4], [4]), ([3, 5, 3], [3, 5]), ([], []), ([7], [7]), ([6, 8, 6], [6, 8]), ([9, 9, 0, 1, 2, 3, 4, 5, 6, 7, 8, 9], [0, 9])])
def impl_PutMsg.B8 : List Nat := [0, 0, 2, 7, 0, 16, 63, 0, 128, 511, 1023]
theorem impl_PutMsg.tab8 : rtab .any (opsOf Try.f13 8) = impl_PutMsg.T8 := by kernel_rfl
theorem impl_PutMsg.bits8 : waitsOk impl_PutMsg.T8.2 impl_PutMsg.B8 = true := by kernel_rfl
def impl_PutMsg.T10 : Bool × List (List Nat × List Nat) := (true, [([], []), ([], []), ([1], [1]), ([0, 2], [0, 2]), ([], []), ([4], [4]), ([3, 5, 3], [3, 5]), ([], []), ([7], [7]), ([6, 8, 6], [6, 8]), ([9, 9, 0, 1, 2, 3, 4, 5, 6, 7, 8, 9], [0, 9])])
def impl_PutMsg.B10 : List Nat := [0, 0, 2, 7, 0, 16, 63, 0, 128, 511, 1023]
theorem impl_PutMsg.tab10 : rtab .any (opsOf Try.f13 10) = impl_PutMsg.T10 := by kernel_rfl
theorem impl_PutMsg.bits10 : waitsOk impl_PutMsg.T10.2 impl_PutMsg.B10 = true := by kernel_rfl
set_option maxHeartbeats 40000000 in
set_option maxRecDepth 100000 in
theorem impl_PutMsg.calls (k : Nat) (a0_0 : Int) (a0_1 : Int) (a0_2 : Int) (a0_3 : Int) (a0_4 : Int) (A0_5 : Option Addr) (c0_5 : Nat) (l0_5 : List (S76)) (a0_6 : Int) (a0_7 : Int) (a0_8 : Int) (A0_9 : Option Addr) (c0_9 : Nat) (l0_9 : List Int) (r : List Int) (w : World) (hr0_5 : Kd.C k76 w A0_5 l0_5.length l0_5) (hc0_5 : l0_5.length ≤ c0_5) (hr0_9 : Kd.C (Kd.int .u8) w A0_9 l0_9.length l0_9) (hc0_9 : l0_9.length ≤ c0_9) (h : impl_PutMsg.f k a0_0 a0_1 a0_2 a0_3 a0_4 l0_5 a0_6 a0_7 a0_8 l0_9 = some r) :
    Calls Try.prog 13 #[.agg #[.int .i64 a0_0, .int .i64 a0_1, .int .i64 a0_2, .int .i64 a0_3, .int .i64 a0_4, .slice A0_5 l0_5.length c0_5, .int .i64 a0_6, .int .i64 a0_7, .int .i64 a0_8, .slice A0_9 l0_9.length c0_9]] w fun e w' => ∃ v0_ : Value, e = .returned (v0_) ∧ Kd.R (Kd.int .u8) 5 w' w.heap.size (fun _ => True) v0_ r ∧ Below w.heap.size w w' := by
  have hu34 := Try.underlying34
  have hu32 := Try.underlying32
  have HR0_5 := aM hr0_5
  have HC0_5 := aM hc0_5
  clear hr0_5 hc0_5
  have HR0_9 := aM hr0_9
  have HC0_9 := aM hc0_9
  clear hr0_9 hc0_9
  have HB := aM (Below.refl w.heap.size w)
  have H := h
  clear h
  unfold impl_PutMsg.f at H
  replace H := bE H
  obtain ⟨t462, A2, H⟩ := H
  go_enter Try.func13, Try.ntmps13
  go_wp2_with (first | ((with_reducible refine gate_dst (N := 1) rfl ?_); refine gBx 1 #[.int .i64 a0_0, .int .i64 a0_1, .int .i64 a0_2, .int .i64 a0_3, .int .i64 a0_4, .slice A0_5 l0_5.length c0_5, .int .i64 a0_6, .int .i64 a0_7, .int .i64 a0_8, .slice A0_9 l0_9.length c0_9] 34 ?_; intro gb461 hg w4 hbox hb; have BK461 := aM (hbox); have GW461 := aM ((by rw [hg]; exact (below_size TB) : w.heap.size ≤ gb461)); have GE461 := aM ((by rw [hg]; exact (below_size TB) : w.heap.size ≤ gb461)); replace HB := aM (below_step TB hb); clear hb hbox hg; obtain ⟨hcz5_0, hcz5_1, hcz5_2, hcz5_3, hcz5_4, hcz5_5, hcz5_6, hcz5_7, hcz5_8, hcz5_9⟩ := cz10 BK461.out; obtain ⟨hfz5_0, hfz5_1, hfz5_2, hfz5_3, hfz5_4, hfz5_5, hfz5_6, hfz5_7, hfz5_8, hfz5_9⟩ := fz10 BK461.out) | ((with_reducible refine gate_callee (f := 10) rfl ?_); (with_reducible refine gate_dst (N := 5) rfl ?_); generalize hG_ : wpList _ _ _ _ _ _ = G_))
  subst hG_
  by_cases c6 : t462 = true
  · subst c6
    replace H := ifT H
    replace H := bE H
    obtain ⟨t463, A7, H⟩ := H
    go_wp2_with (first | ((with_reducible refine gate_callee (f := 10) rfl ?_); refine gL (some 5) Try.func10 #[.agg #[.int .i64 a0_0, .int .i64 a0_1, .int .i64 a0_2, .int .i64 a0_3, .int .i64 a0_4, .slice A0_5 l0_5.length c0_5, .int .i64 a0_6, .int .i64 a0_7, .int .i64 a0_8, .slice A0_9 l0_9.length c0_9]] ?_; (with_reducible refine (impl_MsgOk.calls k a0_0 a0_1 a0_2 a0_3 a0_4 _ _ l0_5 a0_6 a0_7 a0_8 _ _ l0_9 true _ ?side1 ?side2 ?side3 ?side4 A2.out).mono ?_); (case side1 => repeat (first | exact (Kd.C_below HR0_5.out TB) | (with_reducible refine Kd.C_alloc ?_ _) | (with_reducible refine Kd.C_drewN ?_ _) | (with_reducible refine Kd.C_drew ?_))); (case side2 => exact HC0_5.out); (case side3 => repeat (first | exact (Kd.C_below HR0_9.out TB) | (with_reducible refine Kd.C_alloc ?_ _) | (with_reducible refine Kd.C_drewN ?_ _) | (with_reducible refine Kd.C_drew ?_))); (case side4 => exact HC0_9.out); rintro e w8 ⟨rfl, hb⟩; refine ⟨_, rfl, ?_⟩; replace BK461 := aM (blk_below (by have X_ := BK461.out; exact TX) hb); replace HB := aM (below_step TB hb); clear hb; obtain ⟨hcz9_0, hcz9_1, hcz9_2, hcz9_3, hcz9_4, hcz9_5, hcz9_6, hcz9_7, hcz9_8, hcz9_9⟩ := cz10 BK461.out; obtain ⟨hfz9_0, hfz9_1, hfz9_2, hfz9_3, hfz9_4, hfz9_5, hfz9_6, hfz9_7, hfz9_8, hfz9_9⟩ := fz10 BK461.out) | ((with_reducible refine gate_callee (f := 46) rfl ?_); (with_reducible refine gate_dst (N := 9) rfl ?_); generalize hG_ : wpList _ _ _ _ _ _ = G_))
    subst hG_
    by_cases c10 : a0_0 = 1
    · rw [if_pos c10] at H
      have c10b0 : (a0_0 == 1) = true := beq_iff_eq.mpr c10
      have c10b1 : (a0_0 != 1) = false := bne_eq_false_iff_eq.mpr c10
      clear c10
      replace H := bE H
      obtain ⟨t466, A11, H⟩ := H
      replace H := bE H
      obtain ⟨t469, A12, H⟩ := H
      replace H := bE H
      obtain ⟨t470, A13, H⟩ := H
      obtain rfl := Option.some.inj H
      go_wp2_with (first | ((with_reducible refine gate_callee (f := 46) rfl ?_); refine gL (some 9) Try.func46 #[.slice none 0 0, .int .i64 a0_0] ?_; (refine (impl_PutVar.calls k _ _ ([] : List Int) a0_0 t463 _ ?side1 ?side2 A7.out).mono ?_); (case side1 => exact Kd.C_nil _ _); (case side2 => exact Nat.le_refl _); rintro e w14 ⟨v464, rfl, ho0, hb⟩; refine ⟨_, rfl, ?_⟩; have HO465 := aM (Kd.R_lower ho0 (below_size TB)); replace BK461 := aM (blk_below (by have X_ := BK461.out; exact TX) hb); replace HB := aM (below_step TB hb); clear ho0 hb; obtain ⟨hcz15_0, hcz15_1, hcz15_2, hcz15_3, hcz15_4, hcz15_5, hcz15_6, hcz15_7, hcz15_8, hcz15_9⟩ := cz10 BK461.out; obtain ⟨hfz15_0, hfz15_1, hfz15_2, hfz15_3, hfz15_4, hfz15_5, hfz15_6, hfz15_7, hfz15_8, hfz15_9⟩ := fz10 BK461.out; obtain ⟨Ao16, co16, eo16⟩ := Kd.R_slice HO465.out; subst eo16) | ((with_reducible refine gate_callee (f := 47) rfl ?_); refine gL (some 17) Try.func47 #[.slice Ao16 t463.length co16, .agg #[.int .i64 a0_2, .int .i64 a0_3, .int .i64 a0_4, .slice A0_5 l0_5.length c0_5]] ?_; (with_reducible refine (impl_PutMan.calls k _ _ t463 a0_2 a0_3 a0_4 _ _ l0_5 t466 _ ?side1 ?side2 ?side3 ?side4 A11.out).mono ?_); (case side1 => have X_ := (Kd.R_reads' HO465.out).2.2; exact TC); (case side2 => exact (Kd.R_reads' HO465.out).2.1); (case side3 => have X_ := (Kd.C_below HR0_5.out HB.out); exact TC); (case side4 => exact HC0_5.out); rintro e w17 ⟨v467, rfl, ho0, hb⟩; refine ⟨_, rfl, ?_⟩; have HO468 := aM (Kd.R_lower (Kd.R_new' ho0 (Kd.R_lt (by have X_ := HO465.out; exact TR))) (below_size TB)); replace HO465 := aM (Kd.R_elder' (by have X_ := HO465.out; exact TR) (Kd.R_base ho0) hb); replace BK461 := aM (blk_below (by have X_ := BK461.out; exact TX) hb); replace HB := aM (below_step TB hb); clear ho0 hb; obtain ⟨Ao18, co18, eo18⟩ := Kd.R_slice HO468.out; subst eo18) | ((with_reducible refine gate_callee (f := 50) rfl ?_); refine gL (some 50) Try.func50 #[.slice Ao18 t466.length co18] ?_; (with_reducible refine (impl_WeakOf.calls k _ _ t466 t469 _ ?side1 ?side2 A12.out).mono ?_); (case side1 => have X_ := (Kd.R_reads' HO468.out).2.2; exact TC); (case side2 => exact (Kd.R_reads' HO468.out).2.1); rintro e w' ⟨rfl, ⟨nd, rfl⟩⟩; refine ⟨_, rfl, ?_⟩) | ((with_reducible refine gate_callee (f := 46) rfl ?_); refine gL (some 51) Try.func46 #[.slice Ao18 t466.length co18, .int .i64 t469] ?_; (with_reducible refine (impl_PutVar.calls k _ _ t466 t469 t470 _ ?side1 ?side2 A13.out).mono ?_); (case side1 => have X_ := (Kd.R_reads' HO468.out).2.2; exact TC); (case side2 => exact (Kd.R_reads' HO468.out).2.1); rintro e w19 ⟨v471, rfl, ho0, hb⟩; refine ⟨_, rfl, ?_⟩; have HO472 := aM (Kd.R_lower (Kd.R_new' (Kd.R_new' ho0 (Kd.R_lt (by have X_ := HO465.out; exact TR))) (Kd.R_lt (by have X_ := HO468.out; exact TR))) (below_size TB)); replace HO465 := aM (Kd.R_elder' (by have X_ := HO465.out; exact TR) (Kd.R_base ho0) hb); replace HO468 := aM (Kd.R_elder' (by have X_ := HO468.out; exact TR) (Kd.R_base ho0) hb); replace BK461 := aM (blk_below (by have X_ := BK461.out; exact TX) hb); replace HB := aM (below_step TB hb); clear ho0 hb))
      go_ret
      exact ⟨_, by first | rfl | (simp [errW_none, errW_some] <;> rfl) | (simp [*, errW_none, errW_some] <;> rfl), by (with_reducible repeat (first | apply Kd.R_alloc | apply Kd.R_drewN | apply Kd.R_drew)); exact Kd.R_mono HO472.out (fun _ hk => trivial), TB⟩
    · rw [if_neg c10] at H
      have c10b0 : (a0_0 == 1) = false := beq_eq_false_iff_ne.mpr c10
      have c10b1 : (a0_0 != 1) = true := bne_iff_ne.mpr c10
      by_cases c20 : a0_0 = 2
      · rw [if_pos c20] at H
        have c20b0 : (a0_0 == 2) = true := beq_iff_eq.mpr c20
        have c20b1 : (a0_0 != 2) = false := bne_eq_false_iff_eq.mpr c20
        clear c20
        replace H := bE H
        obtain ⟨t473, A21, H⟩ := H
        replace H := bE H
        obtain ⟨t476, A22, H⟩ := H
        replace H := bE H
        obtain ⟨t479, A23, H⟩ := H
        replace H := bE H
        obtain ⟨t482, A24, H⟩ := H
        replace H := bE H
        obtain ⟨t483, A25, H⟩ := H
        obtain rfl := Option.some.inj H
        try go_wp2_with (first | ((with_reducible refine gate_callee (f := 46) rfl ?_); refine gL (some 9) Try.func46 #[.slice none 0 0, .int .i64 a0_0] ?_; (refine (impl_PutVar.calls k _ _ ([] : List Int) a0_0 t463 _ ?side1 ?side2 A7.out).mono ?_); (case side1 => exact Kd.C_nil _ _); (case side2 => exact Nat.le_refl _); rintro e w26 ⟨v464, rfl, ho0, hb⟩; refine ⟨_, rfl, ?_⟩; have HO465 := aM (Kd.R_lower ho0 (below_size TB)); replace BK461 := aM (blk_below (by have X_ := BK461.out; exact TX) hb); replace HB := aM (below_step TB hb); clear ho0 hb; obtain ⟨hcz27_0, hcz27_1, hcz27_2, hcz27_3, hcz27_4, hcz27_5, hcz27_6, hcz27_7, hcz27_8, hcz27_9⟩ := cz10 BK461.out; obtain ⟨hfz27_0, hfz27_1, hfz27_2, hfz27_3, hfz27_4, hfz27_5, hfz27_6, hfz27_7, hfz27_8, hfz27_9⟩ := fz10 BK461.out))
        replace HO465 := aM (Kd.R_drew HO465.out)
        replace BK461 := aM (blk_drew BK461.out)
        replace HB := aM (below_drew1 HB.out)
        obtain ⟨Ao29, co29, eo29⟩ := Kd.R_slice HO465.out
        (first | subst eo29 | (injection eo29 with f1_ f2_ f3_; have f4_ := f1_.symm; have f5_ := f3_.symm; clear f1_ f2_ f3_; subst f4_; subst f5_))
        refine start_ (n := 11) (S := fun w' => w'.cell? ⟨gb461, 0, none⟩ = some (.int .i64 a0_0) ∧ w'.cell? ⟨gb461, 1, none⟩ = some (.int .i64 a0_1) ∧ w'.cell? ⟨gb461, 2, none⟩ = some (.int .i64 a0_2) ∧ w'.cell? ⟨gb461, 3, none⟩ = some (.int .i64 a0_3) ∧ w'.cell? ⟨gb461, 4, none⟩ = some (.int .i64 a0_4) ∧ w'.cell? ⟨gb461, 5, none⟩ = some (.slice A0_5 l0_5.length c0_5) ∧ w'.cell? ⟨gb461, 6, none⟩ = some (.int .i64 a0_6) ∧ w'.cell? ⟨gb461, 7, none⟩ = some (.int .i64 a0_7) ∧ w'.cell? ⟨gb461, 8, none⟩ = some (.int .i64 a0_8) ∧ w'.cell? ⟨gb461, 9, none⟩ = some (.slice A0_9 l0_9.length c0_9)) (ds := []) (Array.replicate 11 false) (by kernel_rfl) rfl rfl (cz10 BK461.out) (fun hHeld => ?_); refine with_tabW impl_PutMsg.tab8 impl_PutMsg.bits8 (fun HT_ HW_ => ?_)
        generalize w26.drew = w28 at HO465 BK461 HB hHeld ⊢
        refine pP 0 (some 20) ?_
        refine pP 1 (some 21) ?_
        refine pP 4 (some 24) ?_
        refine pP 7 (some 27) ?_
        refine pT 2 (some 22) ?_
        refine pT 5 (some 25) ?_
        refine pT 8 (some 28) ?_
        refine pO 3 (some 23) (fun K hK => ?_)
        refine gG Try.func46 #[.slice Ao29 t463.length co29, .int .i64 a0_1] ?_
        with_reducible refine (impl_PutVar.calls k _ _ t463 a0_1 t473 _ ?side1 ?side2 A21.out).mono ?_
        (case side1 => have X_ := (Kd.R_reads' HO465.out).2.2; exact TC)
        (case side2 => exact (Kd.R_reads' HO465.out).2.1)
        rintro e w30 ⟨v474, rfl, ho0, hb⟩
        refine ⟨_, rfl, ?_⟩
        have n0_ := aM (Kd.R_elder' (by have X_ := HO465.out; exact TR) (Kd.R_base ho0) hb)
        have n1_ := aM (Kd.R_lower (Kd.R_new' ho0 (Kd.R_lt (by have X_ := HO465.out; exact TR))) (below_size TB))
        have n2_ := aM (blk_below (by have X_ := BK461.out; exact TX) hb)
        have n3_ := aM (below_step TB hb)
        clear HO465
        clear BK461
        clear HB
        have HO465 := n0_
        have HO475 := n1_
        have BK461 := n2_
        have HB := n3_
        clear n0_ n1_ n2_ n3_
        (try clear hb)
        (try clear hb2)
        (try clear hk)
        (try clear hi)
        (try clear ho0)
        obtain ⟨Ao31, co31, eo31⟩ := Kd.R_slice HO475.out
        (first | subst eo31 | (injection eo31 with f1_ f2_ f3_; have f4_ := f1_.symm; have f5_ := f3_.symm; clear f1_ f2_ f3_; subst f4_; subst f5_))
        refine hK.out _ _ (cz10 BK461.out) (fun hHeld => ?_)
        clear hK K
        refine nR ?_
        refine pO 6 (some 26) (fun K hK => ?_)
        refine gG Try.func48 #[.slice Ao31 t473.length co31, .int .i64 a0_6] ?_
        with_reducible refine (impl_putSet.calls k _ _ t473 a0_6 t476 _ ?side1 ?side2 A22.out).mono ?_
        (case side1 => have X_ := (Kd.R_reads' HO475.out).2.2; exact TC)
        (case side2 => exact (Kd.R_reads' HO475.out).2.1)
        rintro e w32 ⟨v477, rfl, ho0, hb⟩
        refine ⟨_, rfl, ?_⟩
        have n0_ := aM (Kd.R_elder' (by have X_ := HO465.out; exact TR) (Kd.R_base ho0) hb)
        have n1_ := aM (Kd.R_elder' (by have X_ := HO475.out; exact TR) (Kd.R_base ho0) hb)
        have n2_ := aM (Kd.R_lower (Kd.R_new' (Kd.R_new' ho0 (Kd.R_lt (by have X_ := HO465.out; exact TR))) (Kd.R_lt (by have X_ := HO475.out; exact TR))) (below_size TB))
        have n3_ := aM (blk_below (by have X_ := BK461.out; exact TX) hb)
        have n4_ := aM (below_step TB hb)
        clear HO465
        clear HO475
        clear BK461
        clear HB
        have HO465 := n0_
        have HO475 := n1_
        have HO478 := n2_
        have BK461 := n3_
        have HB := n4_
        clear n0_ n1_ n2_ n3_ n4_
        (try clear hb)
        (try clear hb2)
        (try clear hk)
        (try clear hi)
        (try clear ho0)
        obtain ⟨Ao33, co33, eo33⟩ := Kd.R_slice HO478.out
        (first | subst eo33 | (injection eo33 with f1_ f2_ f3_; have f4_ := f1_.symm; have f5_ := f3_.symm; clear f1_ f2_ f3_; subst f4_; subst f5_))
        refine hK.out _ _ (cz10 BK461.out) (fun hHeld => ?_)
        clear hK K
        refine nR ?_
        refine pO 9 (some 29) (fun K hK => ?_)
        refine gG Try.func48 #[.slice Ao33 t476.length co33, .int .i64 a0_7] ?_
        with_reducible refine (impl_putSet.calls k _ _ t476 a0_7 t479 _ ?side1 ?side2 A23.out).mono ?_
        (case side1 => have X_ := (Kd.R_reads' HO478.out).2.2; exact TC)
        (case side2 => exact (Kd.R_reads' HO478.out).2.1)
        rintro e w34 ⟨v480, rfl, ho0, hb⟩
        refine ⟨_, rfl, ?_⟩
        have n0_ := aM (Kd.R_elder' (by have X_ := HO465.out; exact TR) (Kd.R_base ho0) hb)
        have n1_ := aM (Kd.R_elder' (by have X_ := HO475.out; exact TR) (Kd.R_base ho0) hb)
        have n2_ := aM (Kd.R_elder' (by have X_ := HO478.out; exact TR) (Kd.R_base ho0) hb)
        have n3_ := aM (Kd.R_lower (Kd.R_new' (Kd.R_new' (Kd.R_new' ho0 (Kd.R_lt (by have X_ := HO465.out; exact TR))) (Kd.R_lt (by have X_ := HO475.out; exact TR))) (Kd.R_lt (by have X_ := HO478.out; exact TR))) (below_size TB))
        have n4_ := aM (blk_below (by have X_ := BK461.out; exact TX) hb)
        have n5_ := aM (below_step TB hb)
        clear HO465
        clear HO475
        clear HO478
        clear BK461
        clear HB
        have HO465 := n0_
        have HO475 := n1_
        have HO478 := n2_
        have HO481 := n3_
        have BK461 := n4_
        have HB := n5_
        clear n0_ n1_ n2_ n3_ n4_ n5_
        (try clear hb)
        (try clear hb2)
        (try clear hk)
        (try clear hi)
        (try clear ho0)
        refine hK.out _ _ (cz10 BK461.out) (fun hHeld => ?_)
        clear hK K
        refine nR ?_
        refine pP 10 (some 3) ?_
        refine done_ (done_of HT_.out (by kernel_rfl)) ?_
        obtain ⟨Ao35, co35, eo35⟩ := Kd.R_slice HO481.out
        subst eo35
        try go_wp2_with (first | ((with_reducible refine gate_callee (f := 50) rfl ?_); refine gL (some 50) Try.func50 #[.slice Ao35 t479.length co35] ?_; (with_reducible refine (impl_WeakOf.calls k _ _ t479 t482 _ ?side1 ?side2 A24.out).mono ?_); (case side1 => have X_ := (Kd.R_reads' HO481.out).2.2; exact TC); (case side2 => exact (Kd.R_reads' HO481.out).2.1); rintro e w' ⟨rfl, ⟨nd, rfl⟩⟩; refine ⟨_, rfl, ?_⟩) | ((with_reducible refine gate_callee (f := 46) rfl ?_); refine gL (some 51) Try.func46 #[.slice Ao35 t479.length co35, .int .i64 t482] ?_; (with_reducible refine (impl_PutVar.calls k _ _ t479 t482 t483 _ ?side1 ?side2 A25.out).mono ?_); (case side1 => have X_ := (Kd.R_reads' HO481.out).2.2; exact TC); (case side2 => exact (Kd.R_reads' HO481.out).2.1); rintro e w36 ⟨v484, rfl, ho0, hb⟩; refine ⟨_, rfl, ?_⟩; have HO485 := aM (Kd.R_lower (Kd.R_new' (Kd.R_new' (Kd.R_new' (Kd.R_new' ho0 (Kd.R_lt (by have X_ := HO465.out; exact TR))) (Kd.R_lt (by have X_ := HO475.out; exact TR))) (Kd.R_lt (by have X_ := HO478.out; exact TR))) (Kd.R_lt (by have X_ := HO481.out; exact TR))) (below_size TB)); replace HO465 := aM (Kd.R_elder' (by have X_ := HO465.out; exact TR) (Kd.R_base ho0) hb); replace HO475 := aM (Kd.R_elder' (by have X_ := HO475.out; exact TR) (Kd.R_base ho0) hb); replace HO478 := aM (Kd.R_elder' (by have X_ := HO478.out; exact TR) (Kd.R_base ho0) hb); replace HO481 := aM (Kd.R_elder' (by have X_ := HO481.out; exact TR) (Kd.R_base ho0) hb); replace BK461 := aM (blk_below (by have X_ := BK461.out; exact TX) hb); replace HB := aM (below_step TB hb); clear ho0 hb))
        go_ret
        exact ⟨_, by first | rfl | (simp [errW_none, errW_some] <;> rfl) | (simp [*, errW_none, errW_some] <;> rfl), by (with_reducible repeat (first | apply Kd.R_alloc | apply Kd.R_drewN | apply Kd.R_drew)); exact Kd.R_mono HO485.out (fun _ hk => trivial), TB⟩
      · rw [if_neg c20] at H
        have c20b0 : (a0_0 == 2) = false := beq_eq_false_iff_ne.mpr c20
        have c20b1 : (a0_0 != 2) = true := bne_iff_ne.mpr c20
        by_cases c37 : a0_0 = 3
        · rw [if_pos c37] at H
          have c37b0 : (a0_0 == 3) = true := beq_iff_eq.mpr c37
          have c37b1 : (a0_0 != 3) = false := bne_eq_false_iff_eq.mpr c37
          clear c37
          replace H := bE H
          obtain ⟨t486, A38, H⟩ := H
          replace H := bE H
          obtain ⟨t489, A39, H⟩ := H
          replace H := bE H
          obtain ⟨t492, A40, H⟩ := H
          replace H := bE H
          obtain ⟨t495, A41, H⟩ := H
          replace H := bE H
          obtain ⟨t496, A42, H⟩ := H
          obtain rfl := Option.some.inj H
          try go_wp2_with (first | ((with_reducible refine gate_callee (f := 46) rfl ?_); refine gL (some 9) Try.func46 #[.slice none 0 0, .int .i64 a0_0] ?_; (refine (impl_PutVar.calls k _ _ ([] : List Int) a0_0 t463 _ ?side1 ?side2 A7.out).mono ?_); (case side1 => exact Kd.C_nil _ _); (case side2 => exact Nat.le_refl _); rintro e w43 ⟨v464, rfl, ho0, hb⟩; refine ⟨_, rfl, ?_⟩; have HO465 := aM (Kd.R_lower ho0 (below_size TB)); replace BK461 := aM (blk_below (by have X_ := BK461.out; exact TX) hb); replace HB := aM (below_step TB hb); clear ho0 hb; obtain ⟨hcz44_0, hcz44_1, hcz44_2, hcz44_3, hcz44_4, hcz44_5, hcz44_6, hcz44_7, hcz44_8, hcz44_9⟩ := cz10 BK461.out; obtain ⟨hfz44_0, hfz44_1, hfz44_2, hfz44_3, hfz44_4, hfz44_5, hfz44_6, hfz44_7, hfz44_8, hfz44_9⟩ := fz10 BK461.out))
          replace HO465 := aM (Kd.R_drew HO465.out)
          replace BK461 := aM (blk_drew BK461.out)
          replace HB := aM (below_drew1 HB.out)
          obtain ⟨Ao46, co46, eo46⟩ := Kd.R_slice HO465.out
          (first | subst eo46 | (injection eo46 with f1_ f2_ f3_; have f4_ := f1_.symm; have f5_ := f3_.symm; clear f1_ f2_ f3_; subst f4_; subst f5_))
          refine start_ (n := 11) (S := fun w' => w'.cell? ⟨gb461, 0, none⟩ = some (.int .i64 a0_0) ∧ w'.cell? ⟨gb461, 1, none⟩ = some (.int .i64 a0_1) ∧ w'.cell? ⟨gb461, 2, none⟩ = some (.int .i64 a0_2) ∧ w'.cell? ⟨gb461, 3, none⟩ = some (.int .i64 a0_3) ∧ w'.cell? ⟨gb461, 4, none⟩ = some (.int .i64 a0_4) ∧ w'.cell? ⟨gb461, 5, none⟩ = some (.slice A0_5 l0_5.length c0_5) ∧ w'.cell? ⟨gb461, 6, none⟩ = some (.int .i64 a0_6) ∧ w'.cell? ⟨gb461, 7, none⟩ = some (.int .i64 a0_7) ∧ w'.cell? ⟨gb461, 8, none⟩ = some (.int .i64 a0_8) ∧ w'.cell? ⟨gb461, 9, none⟩ = some (.slice A0_9 l0_9.length c0_9)) (ds := []) (Array.replicate 11 false) (by kernel_rfl) rfl rfl (cz10 BK461.out) (fun hHeld => ?_); refine with_tabW impl_PutMsg.tab10 impl_PutMsg.bits10 (fun HT_ HW_ => ?_)
          generalize w43.drew = w45 at HO465 BK461 HB hHeld ⊢
          refine pP 0 (some 32) ?_
          refine pP 1 (some 33) ?_
          refine pP 4 (some 36) ?_
          refine pP 7 (some 39) ?_
          refine pT 2 (some 34) ?_
          refine pT 5 (some 37) ?_
          refine pT 8 (some 40) ?_
          refine pO 3 (some 35) (fun K hK => ?_)
          refine gG Try.func46 #[.slice Ao46 t463.length co46, .int .i64 a0_1] ?_
          with_reducible refine (impl_PutVar.calls k _ _ t463 a0_1 t486 _ ?side1 ?side2 A38.out).mono ?_
          (case side1 => have X_ := (Kd.R_reads' HO465.out).2.2; exact TC)
          (case side2 => exact (Kd.R_reads' HO465.out).2.1)
          rintro e w47 ⟨v487, rfl, ho0, hb⟩
          refine ⟨_, rfl, ?_⟩
          have n0_ := aM (Kd.R_elder' (by have X_ := HO465.out; exact TR) (Kd.R_base ho0) hb)
          have n1_ := aM (Kd.R_lower (Kd.R_new' ho0 (Kd.R_lt (by have X_ := HO465.out; exact TR))) (below_size TB))
          have n2_ := aM (blk_below (by have X_ := BK461.out; exact TX) hb)
          have n3_ := aM (below_step TB hb)
          clear HO465
          clear BK461
          clear HB
          have HO465 := n0_
          have HO488 := n1_
          have BK461 := n2_
          have HB := n3_
          clear n0_ n1_ n2_ n3_
          (try clear hb)
          (try clear hb2)
          (try clear hk)
          (try clear hi)
          (try clear ho0)
          obtain ⟨Ao48, co48, eo48⟩ := Kd.R_slice HO488.out
          (first | subst eo48 | (injection eo48 with f1_ f2_ f3_; have f4_ := f1_.symm; have f5_ := f3_.symm; clear f1_ f2_ f3_; subst f4_; subst f5_))
          refine hK.out _ _ (cz10 BK461.out) (fun hHeld => ?_)
          clear hK K
          refine nR ?_
          refine pO 6 (some 38) (fun K hK => ?_)
          refine gG Try.func46 #[.slice Ao48 t486.length co48, .int .i64 a0_8] ?_
          with_reducible refine (impl_PutVar.calls k _ _ t486 a0_8 t489 _ ?side1 ?side2 A39.out).mono ?_
          (case side1 => have X_ := (Kd.R_reads' HO488.out).2.2; exact TC)
          (case side2 => exact (Kd.R_reads' HO488.out).2.1)
          rintro e w49 ⟨v490, rfl, ho0, hb⟩
          refine ⟨_, rfl, ?_⟩
          have n0_ := aM (Kd.R_elder' (by have X_ := HO465.out; exact TR) (Kd.R_base ho0) hb)
          have n1_ := aM (Kd.R_elder' (by have X_ := HO488.out; exact TR) (Kd.R_base ho0) hb)
          have n2_ := aM (Kd.R_lower (Kd.R_new' (Kd.R_new' ho0 (Kd.R_lt (by have X_ := HO465.out; exact TR))) (Kd.R_lt (by have X_ := HO488.out; exact TR))) (below_size TB))
          have n3_ := aM (blk_below (by have X_ := BK461.out; exact TX) hb)
          have n4_ := aM (below_step TB hb)
          clear HO465
          clear HO488
          clear BK461
          clear HB
          have HO465 := n0_
          have HO488 := n1_
          have HO491 := n2_
          have BK461 := n3_
          have HB := n4_
          clear n0_ n1_ n2_ n3_ n4_
          (try clear hb)
          (try clear hb2)
          (try clear hk)
          (try clear hi)
          (try clear ho0)
          obtain ⟨Ao50, co50, eo50⟩ := Kd.R_slice HO491.out
          (first | subst eo50 | (injection eo50 with f1_ f2_ f3_; have f4_ := f1_.symm; have f5_ := f3_.symm; clear f1_ f2_ f3_; subst f4_; subst f5_))
          refine hK.out _ _ (cz10 BK461.out) (fun hHeld => ?_)
          clear hK K
          refine nR ?_
          refine pO 9 (some 41) (fun K hK => ?_)
          refine gG Try.func49 #[.slice Ao50 t489.length co50, .slice A0_9 l0_9.length c0_9] ?_
          with_reducible refine (impl_PutPart.calls k _ _ t489 _ _ l0_9 t492 _ ?side1 ?side2 ?side3 ?side4 A40.out).mono ?_
          (case side1 => have X_ := (Kd.R_reads' HO491.out).2.2; exact TC)
          (case side2 => exact (Kd.R_reads' HO491.out).2.1)
          (case side3 => have X_ := (Kd.C_below HR0_9.out HB.out); exact TC)
          (case side4 => exact HC0_9.out)
          rintro e w51 ⟨v493, rfl, ho0, hb⟩
          refine ⟨_, rfl, ?_⟩
          have n0_ := aM (Kd.R_elder' (by have X_ := HO465.out; exact TR) (Kd.R_base ho0) hb)
          have n1_ := aM (Kd.R_elder' (by have X_ := HO488.out; exact TR) (Kd.R_base ho0) hb)
          have n2_ := aM (Kd.R_elder' (by have X_ := HO491.out; exact TR) (Kd.R_base ho0) hb)
          have n3_ := aM (Kd.R_lower (Kd.R_new' (Kd.R_new' (Kd.R_new' ho0 (Kd.R_lt (by have X_ := HO465.out; exact TR))) (Kd.R_lt (by have X_ := HO488.out; exact TR))) (Kd.R_lt (by have X_ := HO491.out; exact TR))) (below_size TB))
          have n4_ := aM (blk_below (by have X_ := BK461.out; exact TX) hb)
          have n5_ := aM (below_step TB hb)
          clear HO465
          clear HO488
          clear HO491
          clear BK461
          clear HB
          have HO465 := n0_
          have HO488 := n1_
          have HO491 := n2_
          have HO494 := n3_
          have BK461 := n4_
          have HB := n5_
          clear n0_ n1_ n2_ n3_ n4_ n5_
          (try clear hb)
          (try clear hb2)
          (try clear hk)
          (try clear hi)
          (try clear ho0)
          refine hK.out _ _ (cz10 BK461.out) (fun hHeld => ?_)
          clear hK K
          refine nR ?_
          refine pP 10 (some 3) ?_
          refine done_ (done_of HT_.out (by kernel_rfl)) ?_
          obtain ⟨Ao52, co52, eo52⟩ := Kd.R_slice HO494.out
          subst eo52
          try go_wp2_with (first | ((with_reducible refine gate_callee (f := 50) rfl ?_); refine gL (some 50) Try.func50 #[.slice Ao52 t492.length co52] ?_; (with_reducible refine (impl_WeakOf.calls k _ _ t492 t495 _ ?side1 ?side2 A41.out).mono ?_); (case side1 => have X_ := (Kd.R_reads' HO494.out).2.2; exact TC); (case side2 => exact (Kd.R_reads' HO494.out).2.1); rintro e w' ⟨rfl, ⟨nd, rfl⟩⟩; refine ⟨_, rfl, ?_⟩) | ((with_reducible refine gate_callee (f := 46) rfl ?_); refine gL (some 51) Try.func46 #[.slice Ao52 t492.length co52, .int .i64 t495] ?_; (with_reducible refine (impl_PutVar.calls k _ _ t492 t495 t496 _ ?side1 ?side2 A42.out).mono ?_); (case side1 => have X_ := (Kd.R_reads' HO494.out).2.2; exact TC); (case side2 => exact (Kd.R_reads' HO494.out).2.1); rintro e w53 ⟨v497, rfl, ho0, hb⟩; refine ⟨_, rfl, ?_⟩; have HO498 := aM (Kd.R_lower (Kd.R_new' (Kd.R_new' (Kd.R_new' (Kd.R_new' ho0 (Kd.R_lt (by have X_ := HO465.out; exact TR))) (Kd.R_lt (by have X_ := HO488.out; exact TR))) (Kd.R_lt (by have X_ := HO491.out; exact TR))) (Kd.R_lt (by have X_ := HO494.out; exact TR))) (below_size TB)); replace HO465 := aM (Kd.R_elder' (by have X_ := HO465.out; exact TR) (Kd.R_base ho0) hb); replace HO488 := aM (Kd.R_elder' (by have X_ := HO488.out; exact TR) (Kd.R_base ho0) hb); replace HO491 := aM (Kd.R_elder' (by have X_ := HO491.out; exact TR) (Kd.R_base ho0) hb); replace HO494 := aM (Kd.R_elder' (by have X_ := HO494.out; exact TR) (Kd.R_base ho0) hb); replace BK461 := aM (blk_below (by have X_ := BK461.out; exact TX) hb); replace HB := aM (below_step TB hb); clear ho0 hb))
          go_ret
          exact ⟨_, by first | rfl | (simp [errW_none, errW_some] <;> rfl) | (simp [*, errW_none, errW_some] <;> rfl), by (with_reducible repeat (first | apply Kd.R_alloc | apply Kd.R_drewN | apply Kd.R_drew)); exact Kd.R_mono HO498.out (fun _ hk => trivial), TB⟩
        · rw [if_neg c37] at H
          have c37b0 : (a0_0 == 3) = false := beq_eq_false_iff_ne.mpr c37
          have c37b1 : (a0_0 != 3) = true := bne_iff_ne.mpr c37
          by_cases c54 : a0_0 = 4
          · rw [if_pos c54] at H
            have c54b0 : (a0_0 == 4) = true := beq_iff_eq.mpr c54
            have c54b1 : (a0_0 != 4) = false := bne_eq_false_iff_eq.mpr c54
            clear c54
            replace H := bE H
            obtain ⟨t499, A55, H⟩ := H
            replace H := bE H
            obtain ⟨t502, A56, H⟩ := H
            replace H := bE H
            obtain ⟨t503, A57, H⟩ := H
            obtain rfl := Option.some.inj H
            go_wp2_with (first | ((with_reducible refine gate_callee (f := 46) rfl ?_); refine gL (some 9) Try.func46 #[.slice none 0 0, .int .i64 a0_0] ?_; (refine (impl_PutVar.calls k _ _ ([] : List Int) a0_0 t463 _ ?side1 ?side2 A7.out).mono ?_); (case side1 => exact Kd.C_nil _ _); (case side2 => exact Nat.le_refl _); rintro e w58 ⟨v464, rfl, ho0, hb⟩; refine ⟨_, rfl, ?_⟩; have HO465 := aM (Kd.R_lower ho0 (below_size TB)); replace BK461 := aM (blk_below (by have X_ := BK461.out; exact TX) hb); replace HB := aM (below_step TB hb); clear ho0 hb; obtain ⟨hcz59_0, hcz59_1, hcz59_2, hcz59_3, hcz59_4, hcz59_5, hcz59_6, hcz59_7, hcz59_8, hcz59_9⟩ := cz10 BK461.out; obtain ⟨hfz59_0, hfz59_1, hfz59_2, hfz59_3, hfz59_4, hfz59_5, hfz59_6, hfz59_7, hfz59_8, hfz59_9⟩ := fz10 BK461.out; obtain ⟨Ao60, co60, eo60⟩ := Kd.R_slice HO465.out; subst eo60) | ((with_reducible refine gate_callee (f := 46) rfl ?_); refine gL (some 47) Try.func46 #[.slice Ao60 t463.length co60, .int .i64 a0_1] ?_; (with_reducible refine (impl_PutVar.calls k _ _ t463 a0_1 t499 _ ?side1 ?side2 A55.out).mono ?_); (case side1 => have X_ := (Kd.R_reads' HO465.out).2.2; exact TC); (case side2 => exact (Kd.R_reads' HO465.out).2.1); rintro e w61 ⟨v500, rfl, ho0, hb⟩; refine ⟨_, rfl, ?_⟩; have HO501 := aM (Kd.R_lower (Kd.R_new' ho0 (Kd.R_lt (by have X_ := HO465.out; exact TR))) (below_size TB)); replace HO465 := aM (Kd.R_elder' (by have X_ := HO465.out; exact TR) (Kd.R_base ho0) hb); replace BK461 := aM (blk_below (by have X_ := BK461.out; exact TX) hb); replace HB := aM (below_step TB hb); clear ho0 hb; obtain ⟨Ao62, co62, eo62⟩ := Kd.R_slice HO501.out; subst eo62) | ((with_reducible refine gate_callee (f := 50) rfl ?_); refine gL (some 50) Try.func50 #[.slice Ao62 t499.length co62] ?_; (with_reducible refine (impl_WeakOf.calls k _ _ t499 t502 _ ?side1 ?side2 A56.out).mono ?_); (case side1 => have X_ := (Kd.R_reads' HO501.out).2.2; exact TC); (case side2 => exact (Kd.R_reads' HO501.out).2.1); rintro e w' ⟨rfl, ⟨nd, rfl⟩⟩; refine ⟨_, rfl, ?_⟩) | ((with_reducible refine gate_callee (f := 46) rfl ?_); refine gL (some 51) Try.func46 #[.slice Ao62 t499.length co62, .int .i64 t502] ?_; (with_reducible refine (impl_PutVar.calls k _ _ t499 t502 t503 _ ?side1 ?side2 A57.out).mono ?_); (case side1 => have X_ := (Kd.R_reads' HO501.out).2.2; exact TC); (case side2 => exact (Kd.R_reads' HO501.out).2.1); rintro e w63 ⟨v504, rfl, ho0, hb⟩; refine ⟨_, rfl, ?_⟩; have HO505 := aM (Kd.R_lower (Kd.R_new' (Kd.R_new' ho0 (Kd.R_lt (by have X_ := HO465.out; exact TR))) (Kd.R_lt (by have X_ := HO501.out; exact TR))) (below_size TB)); replace HO465 := aM (Kd.R_elder' (by have X_ := HO465.out; exact TR) (Kd.R_base ho0) hb); replace HO501 := aM (Kd.R_elder' (by have X_ := HO501.out; exact TR) (Kd.R_base ho0) hb); replace BK461 := aM (blk_below (by have X_ := BK461.out; exact TX) hb); replace HB := aM (below_step TB hb); clear ho0 hb))
            go_ret
            exact ⟨_, by first | rfl | (simp [errW_none, errW_some] <;> rfl) | (simp [*, errW_none, errW_some] <;> rfl), by (with_reducible repeat (first | apply Kd.R_alloc | apply Kd.R_drewN | apply Kd.R_drew)); exact Kd.R_mono HO505.out (fun _ hk => trivial), TB⟩
          · rw [if_neg c54] at H
            have c54b0 : (a0_0 == 4) = false := beq_eq_false_iff_ne.mpr c54
            have c54b1 : (a0_0 != 4) = true := bne_iff_ne.mpr c54
            replace H := bE H
            obtain ⟨t506, A64, H⟩ := H
            replace H := bE H
            obtain ⟨t507, A65, H⟩ := H
            obtain rfl := Option.some.inj H
            go_wp2_with (first | ((with_reducible refine gate_callee (f := 46) rfl ?_); refine gL (some 9) Try.func46 #[.slice none 0 0, .int .i64 a0_0] ?_; (refine (impl_PutVar.calls k _ _ ([] : List Int) a0_0 t463 _ ?side1 ?side2 A7.out).mono ?_); (case side1 => exact Kd.C_nil _ _); (case side2 => exact Nat.le_refl _); rintro e w66 ⟨v464, rfl, ho0, hb⟩; refine ⟨_, rfl, ?_⟩; have HO465 := aM (Kd.R_lower ho0 (below_size TB)); replace BK461 := aM (blk_below (by have X_ := BK461.out; exact TX) hb); replace HB := aM (below_step TB hb); clear ho0 hb; obtain ⟨hcz67_0, hcz67_1, hcz67_2, hcz67_3, hcz67_4, hcz67_5, hcz67_6, hcz67_7, hcz67_8, hcz67_9⟩ := cz10 BK461.out; obtain ⟨hfz67_0, hfz67_1, hfz67_2, hfz67_3, hfz67_4, hfz67_5, hfz67_6, hfz67_7, hfz67_8, hfz67_9⟩ := fz10 BK461.out; obtain ⟨Ao68, co68, eo68⟩ := Kd.R_slice HO465.out; subst eo68) | ((with_reducible refine gate_callee (f := 50) rfl ?_); refine gL (some 50) Try.func50 #[.slice Ao68 t463.length co68] ?_; (with_reducible refine (impl_WeakOf.calls k _ _ t463 t506 _ ?side1 ?side2 A64.out).mono ?_); (case side1 => have X_ := (Kd.R_reads' HO465.out).2.2; exact TC); (case side2 => exact (Kd.R_reads' HO465.out).2.1); rintro e w' ⟨rfl, ⟨nd, rfl⟩⟩; refine ⟨_, rfl, ?_⟩) | ((with_reducible refine gate_callee (f := 46) rfl ?_); refine gL (some 51) Try.func46 #[.slice Ao68 t463.length co68, .int .i64 t506] ?_; (with_reducible refine (impl_PutVar.calls k _ _ t463 t506 t507 _ ?side1 ?side2 A65.out).mono ?_); (case side1 => have X_ := (Kd.R_reads' HO465.out).2.2; exact TC); (case side2 => exact (Kd.R_reads' HO465.out).2.1); rintro e w69 ⟨v508, rfl, ho0, hb⟩; refine ⟨_, rfl, ?_⟩; have HO509 := aM (Kd.R_lower (Kd.R_new' ho0 (Kd.R_lt (by have X_ := HO465.out; exact TR))) (below_size TB)); replace HO465 := aM (Kd.R_elder' (by have X_ := HO465.out; exact TR) (Kd.R_base ho0) hb); replace BK461 := aM (blk_below (by have X_ := BK461.out; exact TX) hb); replace HB := aM (below_step TB hb); clear ho0 hb))
            go_ret
            exact ⟨_, by first | rfl | (simp [errW_none, errW_some] <;> rfl) | (simp [*, errW_none, errW_some] <;> rfl), by (with_reducible repeat (first | apply Kd.R_alloc | apply Kd.R_drewN | apply Kd.R_drew)); exact Kd.R_mono HO509.out (fun _ hk => trivial), TB⟩
  · replace c6 := Bool.eq_false_iff.mpr c6
    subst c6
    replace H := ifF H
    obtain rfl := Option.some.inj H
    go_wp2_with (first | ((with_reducible refine gate_callee (f := 10) rfl ?_); refine gL (some 5) Try.func10 #[.agg #[.int .i64 a0_0, .int .i64 a0_1, .int .i64 a0_2, .int .i64 a0_3, .int .i64 a0_4, .slice A0_5 l0_5.length c0_5, .int .i64 a0_6, .int .i64 a0_7, .int .i64 a0_8, .slice A0_9 l0_9.length c0_9]] ?_; (with_reducible refine (impl_MsgOk.calls k a0_0 a0_1 a0_2 a0_3 a0_4 _ _ l0_5 a0_6 a0_7 a0_8 _ _ l0_9 false _ ?side1 ?side2 ?side3 ?side4 A2.out).mono ?_); (case side1 => repeat (first | exact (Kd.C_below HR0_5.out TB) | (with_reducible refine Kd.C_alloc ?_ _) | (with_reducible refine Kd.C_drewN ?_ _) | (with_reducible refine Kd.C_drew ?_))); (case side2 => exact HC0_5.out); (case side3 => repeat (first | exact (Kd.C_below HR0_9.out TB) | (with_reducible refine Kd.C_alloc ?_ _) | (with_reducible refine Kd.C_drewN ?_ _) | (with_reducible refine Kd.C_drew ?_))); (case side4 => exact HC0_9.out); rintro e w70 ⟨rfl, hb⟩; refine ⟨_, rfl, ?_⟩; replace BK461 := aM (blk_below (by have X_ := BK461.out; exact TX) hb); replace HB := aM (below_step TB hb); clear hb))
    go_ret
    exact ⟨_, by first | rfl | (simp [errW_none, errW_some] <;> rfl) | (simp [*, errW_none, errW_some] <;> rfl), by first | exact Kd.R_nil _ _ _ _ _ | exact Kd.N_nil _ _ _ _ _ | exact Kd.V_nil _ _ _ _ _ | exact Kd.Q_nil _ _ _ _ _ | exact Kd.S_nil _ _ _ _ _, TB⟩

end Go.Proofs.Ytdohjkbgbplgmaa.Q
