/- Functions of the program as plain Lean functions, and that a call of each comes to what its function tells. Written by a program of this seat. -/
import Derived.Test.YtdohjkbgbplgmaaQ0
import Derived.Test.YtdohjkbgbplgmaaQ2
import Derived.Test.YtdohjkbgbplgmaaQ7
import Derived.Test.YtdohjkbgbplgmaaQ8
import Derived.Test.YtdohjkbgbplgmaaQ13
import Derived.Test.YtdohjkbgbplgmaaQ16
import Derived.Test.YtdohjkbgbplgmaaQ18
import Derived.Test.YtdohjkbgbplgmaaQ19
namespace Go.Proofs.Ytdohjkbgbplgmaa.Q
open Go.RowKit Go.Proofs.YtdohjkbgbplgmaaW.PrintWords Go.Proofs.YtdohjkbgbplgmaaW.PrintLast Go.Proofs.YtdohjkbgbplgmaaW.PrintMore
attribute [local go_sem] max2_int min2_int max_two min_two max_three min_three max_four min_four   -- for this text's walks alone
set_option linter.unusedVariables false
set_option linter.unusedSimpArgs false

/-! ### laws_FnExactPutMsg: function 4 -/
def laws_FnExactPutMsg.j0 : Nat → List Int → List Int → Bool → Int → Int → Int → Int → Int → List (S101) → Int → Int → Int → List Int → Option (Bool)
  | 0, _, _, _, _, _, _, _, _, _, _, _, _, _ => none
  | k + 1, x4, x6, x42, x523000, x523001, x523002, x523003, x523004, x523005, x523006, x523007, x523008, x523009 => if x42 = true then (none) else ((laws_markByteS.f k x6 1).bind fun bt579 => ((laws_heldByteS.f k bt579.2 1).bind fun t581 => (if t581 < 0 then (none) else (if t581 = bt579.1 then ((laws_toMsg.f k x523000 x523001 x523002 x523003 x523004 x523005 x523006 x523007 x523008 x523009).bind fun bt582 => ((impl_PutMsg.f k bt582.1 bt582.2.1 bt582.2.2.1 bt582.2.2.2.1 bt582.2.2.2.2.1 bt582.2.2.2.2.2.1 bt582.2.2.2.2.2.2.1 bt582.2.2.2.2.2.2.2.1 bt582.2.2.2.2.2.2.2.2.1 bt582.2.2.2.2.2.2.2.2.2).bind fun t596 => ((laws_eqByteS.f k t596 x4).bind fun t599 => (if t599 = true then ((laws_heldByteS.f k bt579.2 1).bind fun t600 => (if t600 < 0 then (none) else (if t600 = bt579.1 then (some true) else (none)))) else (none))))) else (none)))))
def laws_FnExactPutMsg.f (k : Nat) (a0_0 : Int) (a0_1 : Int) (a0_2 : Int) (a0_3 : Int) (a0_4 : Int) (l0_5 : List (S101)) (a0_6 : Int) (a0_7 : Int) (a0_8 : Int) (l0_9 : List Int) : Option (Bool) := (laws_szMsg.f a0_0 a0_1 a0_2 a0_3 a0_4 l0_5 a0_6 a0_7 a0_8 l0_9 1048576).bind fun t523 => (if t523 < 0 then (some true) else ((laws_toMsg.f k a0_0 a0_1 a0_2 a0_3 a0_4 l0_5 a0_6 a0_7 a0_8 l0_9).bind fun bt524 => ((spec_PutMsg.f k bt524.1 bt524.2.1 bt524.2.2.1 bt524.2.2.2.1 bt524.2.2.2.2.1 bt524.2.2.2.2.2.1 bt524.2.2.2.2.2.2.1 bt524.2.2.2.2.2.2.2.1 bt524.2.2.2.2.2.2.2.2.1 bt524.2.2.2.2.2.2.2.2.2).bind fun t538 => ((laws_toMsg.f k a0_0 a0_1 a0_2 a0_3 a0_4 l0_5 a0_6 a0_7 a0_8 l0_9).bind fun bt541 => ((impl_PutMsg.f k bt541.1 bt541.2.1 bt541.2.2.1 bt541.2.2.2.1 bt541.2.2.2.2.1 bt541.2.2.2.2.2.1 bt541.2.2.2.2.2.2.1 bt541.2.2.2.2.2.2.2.1 bt541.2.2.2.2.2.2.2.2.1 bt541.2.2.2.2.2.2.2.2.2).bind fun t556 => ((laws_eqByteS.f k t556 t538).bind fun t559 => (if t559 = true then ((laws_toMsg.f k a0_0 a0_1 a0_2 a0_3 a0_4 l0_5 a0_6 a0_7 a0_8 l0_9).bind fun bt560 => ((laws_eqMsg.f k bt541.1 bt541.2.1 bt541.2.2.1 bt541.2.2.2.1 bt541.2.2.2.2.1 bt541.2.2.2.2.2.1 bt541.2.2.2.2.2.2.1 bt541.2.2.2.2.2.2.2.1 bt541.2.2.2.2.2.2.2.2.1 bt541.2.2.2.2.2.2.2.2.2 bt560.1 bt560.2.1 bt560.2.2.1 bt560.2.2.2.1 bt560.2.2.2.2.1 bt560.2.2.2.2.2.1 bt560.2.2.2.2.2.2.1 bt560.2.2.2.2.2.2.2.1 bt560.2.2.2.2.2.2.2.2.1 bt560.2.2.2.2.2.2.2.2.2).bind fun t574 => (if t574 = true then ((laws_markMsg.f k bt541.1 bt541.2.1 bt541.2.2.1 bt541.2.2.2.1 bt541.2.2.2.2.1 bt541.2.2.2.2.2.1 bt541.2.2.2.2.2.2.1 bt541.2.2.2.2.2.2.2.1 bt541.2.2.2.2.2.2.2.2.1 bt541.2.2.2.2.2.2.2.2.2 1).bind fun bt575 => (if bt575.1 < 0 then (laws_FnExactPutMsg.j0 k t538 t556 true a0_0 a0_1 a0_2 a0_3 a0_4 l0_5 a0_6 a0_7 a0_8 l0_9) else ((laws_eqByteS.f k t556 t538).bind fun t578 => (laws_FnExactPutMsg.j0 k t538 t556 (!t578) a0_0 a0_1 a0_2 a0_3 a0_4 l0_5 a0_6 a0_7 a0_8 l0_9)))) else (none)))) else (none))))))))
theorem laws_FnExactPutMsg.mono_l : ∀ k, (∀ y0 y1 y2 y3 y4 y5 y6 y7 y8 y9 y10 y11 y12, LeO (laws_FnExactPutMsg.j0 k y0 y1 y2 y3 y4 y5 y6 y7 y8 y9 y10 y11 y12) (laws_FnExactPutMsg.j0 (k + 1) y0 y1 y2 y3 y4 y5 y6 y7 y8 y9 y10 y11 y12))
  | 0 => fun _ _ _ _ _ _ _ _ _ _ _ _ _ r h => by simp [laws_FnExactPutMsg.j0] at h
  | k + 1 => by
    have m0_ := @impl_PutMsg.mono
    have m1_ := @laws_eqByteS.mono
    have m2_ := @laws_eqMsg.mono
    have m3_ := @laws_heldByteS.mono
    have m4_ := @laws_markByteS.mono
    have m5_ := @laws_markMsg.mono
    have m6_ := @laws_toMsg.mono
    have m7_ := @spec_PutMsg.mono
    have ih0 := laws_FnExactPutMsg.mono_l k
    · intro y0 y1 y2 y3 y4 y5 y6 y7 y8 y9 y10 y11 y12
      unfold laws_FnExactPutMsg.j0
      exact LM
theorem laws_FnExactPutMsg.mono : ∀ a0 a1 a2 a3 a4 a5 a6 a7 a8 a9 k, LeO (laws_FnExactPutMsg.f k a0 a1 a2 a3 a4 a5 a6 a7 a8 a9) (laws_FnExactPutMsg.f (k + 1) a0 a1 a2 a3 a4 a5 a6 a7 a8 a9) := by
  intro a0 a1 a2 a3 a4 a5 a6 a7 a8 a9 k
  have m0_ := @impl_PutMsg.mono
  have m1_ := @laws_eqByteS.mono
  have m2_ := @laws_eqMsg.mono
  have m3_ := @laws_heldByteS.mono
  have m4_ := @laws_markByteS.mono
  have m5_ := @laws_markMsg.mono
  have m6_ := @laws_toMsg.mono
  have m7_ := @spec_PutMsg.mono
  have ih0 := laws_FnExactPutMsg.mono_l k
  unfold laws_FnExactPutMsg.f
  exact LM
set_option maxHeartbeats 40000000 in
set_option maxRecDepth 100000 in
theorem laws_FnExactPutMsg.calls (k : Nat) (a0_0 : Int) (a0_1 : Int) (a0_2 : Int) (a0_3 : Int) (a0_4 : Int) (A0_5 : Option Addr) (c0_5 : Nat) (l0_5 : List (S101)) (a0_6 : Int) (a0_7 : Int) (a0_8 : Int) (A0_9 : Option Addr) (c0_9 : Nat) (l0_9 : List Int) (r : Bool) (w : World) (hr0_5 : Kd.C k101 w A0_5 l0_5.length l0_5) (hc0_5 : l0_5.length ≤ c0_5) (hr0_9 : Kd.C (Kd.int .u8) w A0_9 l0_9.length l0_9) (hc0_9 : l0_9.length ≤ c0_9) (h : laws_FnExactPutMsg.f k a0_0 a0_1 a0_2 a0_3 a0_4 l0_5 a0_6 a0_7 a0_8 l0_9 = some r) :
    Calls Try.prog 4 #[.agg #[.int .i64 a0_0, .int .i64 a0_1, .int .i64 a0_2, .int .i64 a0_3, .int .i64 a0_4, .slice A0_5 l0_5.length c0_5, .int .i64 a0_6, .int .i64 a0_7, .int .i64 a0_8, .slice A0_9 l0_9.length c0_9]] w fun e w' => e = .returned (.bool r) ∧ Below w.heap.size w w' := by
  have hu27 := Try.underlying27
  have hu34 := Try.underlying34
  have HR0_5 := aM hr0_5
  have HC0_5 := aM hc0_5
  clear hr0_5 hc0_5
  have HR0_9 := aM hr0_9
  have HC0_9 := aM hc0_9
  clear hr0_9 hc0_9
  have HB := aM (Below.refl w.heap.size w)
  have H := h
  clear h
  unfold laws_FnExactPutMsg.f at H
  replace H := bE H
  obtain ⟨t523, A2, H⟩ := H
  go_enter Try.func4, Try.ntmps4
  go_wp2_with (first | ((with_reducible refine gate_dst (N := 1) rfl ?_); refine gBx 1 #[.int .i64 a0_0, .int .i64 a0_1, .int .i64 a0_2, .int .i64 a0_3, .int .i64 a0_4, .slice A0_5 l0_5.length c0_5, .int .i64 a0_6, .int .i64 a0_7, .int .i64 a0_8, .slice A0_9 l0_9.length c0_9] 27 ?_; intro gb522 hg w3 hbox hb; have BK522 := aM (hbox); have GW522 := aM ((by rw [hg]; exact (below_size TB) : w.heap.size ≤ gb522)); have GE522 := aM ((by rw [hg]; exact (below_size TB) : w.heap.size ≤ gb522)); replace HB := aM (below_step TB hb); clear hb hbox hg; obtain ⟨hcz4_0, hcz4_1, hcz4_2, hcz4_3, hcz4_4, hcz4_5, hcz4_6, hcz4_7, hcz4_8, hcz4_9⟩ := cz10 BK522.out; obtain ⟨hfz4_0, hfz4_1, hfz4_2, hfz4_3, hfz4_4, hfz4_5, hfz4_6, hfz4_7, hfz4_8, hfz4_9⟩ := fz10 BK522.out) | ((with_reducible refine gate_callee (f := 7) rfl ?_); (with_reducible refine gate_dst (N := 13) rfl ?_); generalize hG_ : wpList _ _ _ _ _ _ = G_))
  subst hG_
  by_cases c5 : t523 < 0
  · rw [if_pos c5] at H
    have c5b0 : decide (t523 < 0) = true := decide_eq_true c5
    clear c5
    obtain rfl := Option.some.inj H
    go_wp2_with (first | ((with_reducible refine gate_callee (f := 7) rfl ?_); refine gL (some 13) Try.func7 #[.agg #[.int .i64 a0_0, .int .i64 a0_1, .int .i64 a0_2, .int .i64 a0_3, .int .i64 a0_4, .slice A0_5 l0_5.length c0_5, .int .i64 a0_6, .int .i64 a0_7, .int .i64 a0_8, .slice A0_9 l0_9.length c0_9], .int .i64 1048576] ?_; (with_reducible refine (laws_szMsg.calls a0_0 a0_1 a0_2 a0_3 a0_4 _ _ l0_5 a0_6 a0_7 a0_8 _ _ l0_9 1048576 t523 _ ?side1 ?side2 ?side3 ?side4 A2.out).mono ?_); (case side1 => repeat (first | exact (Kd.C_below HR0_5.out TB) | (with_reducible refine Kd.C_alloc ?_ _) | (with_reducible refine Kd.C_drewN ?_ _) | (with_reducible refine Kd.C_drew ?_))); (case side2 => exact HC0_5.out); (case side3 => repeat (first | exact (Kd.C_below HR0_9.out TB) | (with_reducible refine Kd.C_alloc ?_ _) | (with_reducible refine Kd.C_drewN ?_ _) | (with_reducible refine Kd.C_drew ?_))); (case side4 => exact HC0_9.out); rintro e w6 ⟨rfl, hb⟩; refine ⟨_, rfl, ?_⟩; replace BK522 := aM (blk_below (g := gb522) (o := .cells #[.int .i64 a0_0, .int .i64 a0_1, .int .i64 a0_2, .int .i64 a0_3, .int .i64 a0_4, .slice A0_5 l0_5.length c0_5, .int .i64 a0_6, .int .i64 a0_7, .int .i64 a0_8, .slice A0_9 l0_9.length c0_9] 27 (0, 0)) TK hb); replace HB := aM (below_step TB hb); clear hb))
    go_ret
    exact ⟨by first | rfl | (simp [errW_none, errW_some] <;> rfl) | (simp [*, errW_none, errW_some] <;> rfl), TB⟩
  · rw [if_neg c5] at H
    have c5b0 : decide (t523 < 0) = false := decide_eq_false c5
    clear c5
    replace H := bE H
    obtain ⟨⟨t524, t525, t526, t527, t528, t529, t532, t533, t534, t535⟩, A7, H⟩ := H
    dsimp only at H
    replace H := bE H
    obtain ⟨t538, A8, H⟩ := H
    replace H := bE H
    obtain ⟨⟨t541, t542, t543, t544, t545, t546, t549, t550, t551, t552⟩, A9, H⟩ := H
    dsimp only at H
    replace H := bE H
    obtain ⟨t556, A10, H⟩ := H
    replace H := bE H
    obtain ⟨t559, A11, H⟩ := H
    replace H := ifN H
    obtain ⟨c12, H⟩ := H
    subst c12
    replace H := bE H
    obtain ⟨⟨t560, t561, t562, t563, t564, t565, t568, t569, t570, t571⟩, A13, H⟩ := H
    dsimp only at H
    replace H := bE H
    obtain ⟨t574, A14, H⟩ := H
    replace H := ifN H
    obtain ⟨c15, H⟩ := H
    subst c15
    replace H := bE H
    obtain ⟨⟨t575, t576, t577⟩, A16, H⟩ := H
    dsimp only at H
    have HC17 := aM H
    clear H
    try go_wp2_with (first | ((with_reducible refine gate_callee (f := 7) rfl ?_); refine gL (some 13) Try.func7 #[.agg #[.int .i64 a0_0, .int .i64 a0_1, .int .i64 a0_2, .int .i64 a0_3, .int .i64 a0_4, .slice A0_5 l0_5.length c0_5, .int .i64 a0_6, .int .i64 a0_7, .int .i64 a0_8, .slice A0_9 l0_9.length c0_9], .int .i64 1048576] ?_; (with_reducible refine (laws_szMsg.calls a0_0 a0_1 a0_2 a0_3 a0_4 _ _ l0_5 a0_6 a0_7 a0_8 _ _ l0_9 1048576 t523 _ ?side1 ?side2 ?side3 ?side4 A2.out).mono ?_); (case side1 => repeat (first | exact (Kd.C_below HR0_5.out TB) | (with_reducible refine Kd.C_alloc ?_ _) | (with_reducible refine Kd.C_drewN ?_ _) | (with_reducible refine Kd.C_drew ?_))); (case side2 => exact HC0_5.out); (case side3 => repeat (first | exact (Kd.C_below HR0_9.out TB) | (with_reducible refine Kd.C_alloc ?_ _) | (with_reducible refine Kd.C_drewN ?_ _) | (with_reducible refine Kd.C_drew ?_))); (case side4 => exact HC0_9.out); rintro e w18 ⟨rfl, hb⟩; refine ⟨_, rfl, ?_⟩; replace BK522 := aM (blk_below (g := gb522) (o := .cells #[.int .i64 a0_0, .int .i64 a0_1, .int .i64 a0_2, .int .i64 a0_3, .int .i64 a0_4, .slice A0_5 l0_5.length c0_5, .int .i64 a0_6, .int .i64 a0_7, .int .i64 a0_8, .slice A0_9 l0_9.length c0_9] 27 (0, 0)) TK hb); replace HB := aM (below_step TB hb); clear hb; obtain ⟨hcz19_0, hcz19_1, hcz19_2, hcz19_3, hcz19_4, hcz19_5, hcz19_6, hcz19_7, hcz19_8, hcz19_9⟩ := cz10 BK522.out; obtain ⟨hfz19_0, hfz19_1, hfz19_2, hfz19_3, hfz19_4, hfz19_5, hfz19_6, hfz19_7, hfz19_8, hfz19_9⟩ := fz10 BK522.out) | ((with_reducible refine gate_callee (f := 9) rfl ?_); refine gL (some 17) Try.func9 #[.agg #[.int .i64 a0_0, .int .i64 a0_1, .int .i64 a0_2, .int .i64 a0_3, .int .i64 a0_4, .slice A0_5 l0_5.length c0_5, .int .i64 a0_6, .int .i64 a0_7, .int .i64 a0_8, .slice A0_9 l0_9.length c0_9]] ?_; (with_reducible refine (laws_toMsg.calls k a0_0 a0_1 a0_2 a0_3 a0_4 _ _ l0_5 a0_6 a0_7 a0_8 _ _ l0_9 t524 t525 t526 t527 t528 t529 t532 t533 t534 t535 _ ?side1 ?side2 ?side3 ?side4 A7.out).mono ?_); (case side1 => have X_ := (Kd.C_below HR0_5.out HB.out); exact TC); (case side2 => exact HC0_5.out); (case side3 => have X_ := (Kd.C_below HR0_9.out HB.out); exact TC); (case side4 => exact HC0_9.out); rintro e w20 ⟨v530, v536, rfl, ho0, ho1, hb⟩; refine ⟨_, rfl, ?_⟩; have HO531 := aM (Kd.R_lower ho0 (below_size TB)); have HO537 := aM (Kd.R_lower ho1 (below_size TB)); replace BK522 := aM (blk_below (g := gb522) (o := .cells #[.int .i64 a0_0, .int .i64 a0_1, .int .i64 a0_2, .int .i64 a0_3, .int .i64 a0_4, .slice A0_5 l0_5.length c0_5, .int .i64 a0_6, .int .i64 a0_7, .int .i64 a0_8, .slice A0_9 l0_9.length c0_9] 27 (0, 0)) TK hb); replace HB := aM (below_step TB hb); clear ho0 ho1 hb; obtain ⟨Ao21, co21, eo21⟩ := Kd.R_slice HO531.out; subst eo21; obtain ⟨Ao22, co22, eo22⟩ := Kd.R_slice HO537.out; subst eo22) | ((with_reducible refine gate_callee (f := 12) rfl ?_); refine gL (some 18) Try.func12 #[.agg #[.int .i64 t524, .int .i64 t525, .int .i64 t526, .int .i64 t527, .int .i64 t528, .slice Ao21 t529.length co21, .int .i64 t532, .int .i64 t533, .int .i64 t534, .slice Ao22 t535.length co22]] ?_; (with_reducible refine (spec_PutMsg.calls k t524 t525 t526 t527 t528 _ _ t529 t532 t533 t534 _ _ t535 t538 _ ?side1 ?side2 ?side3 ?side4 A8.out).mono ?_); (case side1 => have X_ := (Kd.R_reads' HO531.out).2.2; exact TC); (case side2 => exact (Kd.R_reads' HO531.out).2.1); (case side3 => have X_ := (Kd.R_reads' HO537.out).2.2; exact TC); (case side4 => exact (Kd.R_reads' HO537.out).2.1); rintro e w23 ⟨v539, rfl, ho0, hb⟩; refine ⟨_, rfl, ?_⟩; have HO540 := aM (Kd.R_lower (Kd.R_new' ho0 (Kd.R_lt (by have X_ := HO537.out; exact TR))) (below_size TB)); replace HO531 := aM (Kd.R_below (by have X_ := HO531.out; exact TR) hb); replace HO537 := aM (Kd.R_elder' (by have X_ := HO537.out; exact TR) (Kd.R_base ho0) hb); replace BK522 := aM (blk_below (g := gb522) (o := .cells #[.int .i64 a0_0, .int .i64 a0_1, .int .i64 a0_2, .int .i64 a0_3, .int .i64 a0_4, .slice A0_5 l0_5.length c0_5, .int .i64 a0_6, .int .i64 a0_7, .int .i64 a0_8, .slice A0_9 l0_9.length c0_9] 27 (0, 0)) TK hb); replace HB := aM (below_step TB hb); clear ho0 hb; obtain ⟨hcz24_0, hcz24_1, hcz24_2, hcz24_3, hcz24_4, hcz24_5, hcz24_6, hcz24_7, hcz24_8, hcz24_9⟩ := cz10 BK522.out; obtain ⟨hfz24_0, hfz24_1, hfz24_2, hfz24_3, hfz24_4, hfz24_5, hfz24_6, hfz24_7, hfz24_8, hfz24_9⟩ := fz10 BK522.out) | ((with_reducible refine gate_callee (f := 9) rfl ?_); refine gL (some 20) Try.func9 #[.agg #[.int .i64 a0_0, .int .i64 a0_1, .int .i64 a0_2, .int .i64 a0_3, .int .i64 a0_4, .slice A0_5 l0_5.length c0_5, .int .i64 a0_6, .int .i64 a0_7, .int .i64 a0_8, .slice A0_9 l0_9.length c0_9]] ?_; (with_reducible refine (laws_toMsg.calls k a0_0 a0_1 a0_2 a0_3 a0_4 _ _ l0_5 a0_6 a0_7 a0_8 _ _ l0_9 t541 t542 t543 t544 t545 t546 t549 t550 t551 t552 _ ?side1 ?side2 ?side3 ?side4 A9.out).mono ?_); (case side1 => have X_ := (Kd.C_below HR0_5.out HB.out); exact TC); (case side2 => exact HC0_5.out); (case side3 => have X_ := (Kd.C_below HR0_9.out HB.out); exact TC); (case side4 => exact HC0_9.out); rintro e w25 ⟨v547, v553, rfl, ho0, ho1, hb⟩; refine ⟨_, rfl, ?_⟩; have HO548 := aM (Kd.R_lower (Kd.R_new' ho0 (Kd.R_lt (by have X_ := HO531.out; exact TR))) (below_size TB)); have HO554 := aM (Kd.R_lower (Kd.R_new' (Kd.R_new' ho1 (Kd.R_lt (by have X_ := HO537.out; exact TR))) (Kd.R_lt (by have X_ := HO540.out; exact TR))) (below_size TB)); replace HO531 := aM (Kd.R_elder' (by have X_ := HO531.out; exact TR) (Kd.R_base ho0) hb); replace HO537 := aM (Kd.R_elder' (by have X_ := HO537.out; exact TR) (Kd.R_base ho1) hb); replace HO540 := aM (Kd.R_elder' (by have X_ := HO540.out; exact TR) (Kd.R_base ho1) hb); replace BK522 := aM (blk_below (g := gb522) (o := .cells #[.int .i64 a0_0, .int .i64 a0_1, .int .i64 a0_2, .int .i64 a0_3, .int .i64 a0_4, .slice A0_5 l0_5.length c0_5, .int .i64 a0_6, .int .i64 a0_7, .int .i64 a0_8, .slice A0_9 l0_9.length c0_9] 27 (0, 0)) TK hb); replace HB := aM (below_step TB hb); clear ho0 ho1 hb) | ((with_reducible refine gate_dst (N := 5) rfl ?_); refine gBx 5 #[.int .i64 0, .int .i64 0, .int .i64 0, .int .i64 0, .int .i64 0, .slice none 0 0, .int .i64 0, .int .i64 0, .int .i64 0, .slice none 0 0] 34 ?_; intro gb555 hg w26 hbox hb; have BK555 := aM (hbox); have GW555 := aM ((by rw [hg]; exact (below_size TB) : w.heap.size ≤ gb555)); have GE555 := aM ((by rw [hg]; exact (below_size TB) : w.heap.size ≤ gb555)); have NB522_555 := aM ((by rw [hg]; exact Nat.ne_of_lt (blk_lt (g := gb522) (o := .cells #[.int .i64 a0_0, .int .i64 a0_1, .int .i64 a0_2, .int .i64 a0_3, .int .i64 a0_4, .slice A0_5 l0_5.length c0_5, .int .i64 a0_6, .int .i64 a0_7, .int .i64 a0_8, .slice A0_9 l0_9.length c0_9] 27 (0, 0)) TK) : gb522 ≠ gb555)); have NB555_522 := aM ((by rw [hg]; exact Nat.ne_of_gt (blk_lt (g := gb522) (o := .cells #[.int .i64 a0_0, .int .i64 a0_1, .int .i64 a0_2, .int .i64 a0_3, .int .i64 a0_4, .slice A0_5 l0_5.length c0_5, .int .i64 a0_6, .int .i64 a0_7, .int .i64 a0_8, .slice A0_9 l0_9.length c0_9] 27 (0, 0)) TK) : gb555 ≠ gb522)); replace HO531 := aM (Kd.R_below (by have X_ := HO531.out; exact TR) hb); replace HO537 := aM (Kd.R_below (by have X_ := HO537.out; exact TR) hb); replace HO540 := aM (Kd.R_below (by have X_ := HO540.out; exact TR) hb); replace HO548 := aM (Kd.R_below (by have X_ := HO548.out; exact TR) hb); replace HO554 := aM (Kd.R_below (by have X_ := HO554.out; exact TR) hb); replace BK522 := aM (blk_below (g := gb522) (o := .cells #[.int .i64 a0_0, .int .i64 a0_1, .int .i64 a0_2, .int .i64 a0_3, .int .i64 a0_4, .slice A0_5 l0_5.length c0_5, .int .i64 a0_6, .int .i64 a0_7, .int .i64 a0_8, .slice A0_9 l0_9.length c0_9] 27 (0, 0)) TK hb); replace HB := aM (below_step TB hb); clear hb hbox hg; have hnb27 := NB555_522.out; have hnc27 := NB522_555.out; obtain ⟨hcz28_0, hcz28_1, hcz28_2, hcz28_3, hcz28_4, hcz28_5, hcz28_6, hcz28_7, hcz28_8, hcz28_9⟩ := cz10 BK555.out; obtain ⟨hfz28_0, hfz28_1, hfz28_2, hfz28_3, hfz28_4, hfz28_5, hfz28_6, hfz28_7, hfz28_8, hfz28_9⟩ := fz10 BK555.out; obtain ⟨Ao29, co29, eo29⟩ := Kd.R_slice HO548.out; subst eo29; obtain ⟨Ao30, co30, eo30⟩ := Kd.R_slice HO554.out; subst eo30) | ((with_reducible refine gate_callee (f := 13) rfl ?_); refine gL (some 22) Try.func13 #[.agg #[.int .i64 t541, .int .i64 t542, .int .i64 t543, .int .i64 t544, .int .i64 t545, .slice Ao29 t546.length co29, .int .i64 t549, .int .i64 t550, .int .i64 t551, .slice Ao30 t552.length co30]] ?_; (with_reducible refine (impl_PutMsg.calls k t541 t542 t543 t544 t545 _ _ t546 t549 t550 t551 _ _ t552 t556 _ ?side1 ?side2 ?side3 ?side4 A10.out).mono ?_); (case side1 => refine (Kd.R_reads' (e := 76) (base := w.heap.size) (ok := fun k_ => (True ∧ some k_ ≠ (.slice Ao21 t529.length co21 : Value).ownBlock)) (n := t546.length) (c := co29) ?_).2.2; exact (by (with_reducible repeat (first | apply Kd.R_alloc | apply Kd.R_drewN | apply Kd.R_drew)); exact (R_off (Kd.R_types HO548.out BK555.out (by decide)) TO))); (case side2 => exact (Kd.R_reads' HO548.out).2.1); (case side3 => refine (Kd.R_reads' (e := 5) (base := w.heap.size) (ok := fun k_ => ((True ∧ some k_ ≠ (.slice Ao22 t535.length co22 : Value).ownBlock) ∧ some k_ ≠ (v539 : Value).ownBlock)) (n := t552.length) (c := co30) ?_).2.2; exact (by (with_reducible repeat (first | apply Kd.R_alloc | apply Kd.R_drewN | apply Kd.R_drew)); exact (R_off (Kd.R_types HO554.out BK555.out (by decide)) TO))); (case side4 => exact (Kd.R_reads' HO554.out).2.1); rintro e w31 ⟨v557, rfl, ho0, hb⟩; refine ⟨_, rfl, ?_⟩; have HO558 := aM (Kd.R_lower (Kd.R_new' (Kd.R_new' (Kd.R_new' ho0 (Kd.R_lt (by (with_reducible repeat (first | apply Kd.R_alloc | apply Kd.R_drewN | apply Kd.R_drew)); exact (R_off (Kd.R_types HO537.out BK555.out (by decide)) TO)))) (Kd.R_lt (by (with_reducible repeat (first | apply Kd.R_alloc | apply Kd.R_drewN | apply Kd.R_drew)); exact (R_off (Kd.R_types HO540.out BK555.out (by decide)) TO)))) (Kd.R_lt (by (with_reducible repeat (first | apply Kd.R_alloc | apply Kd.R_drewN | apply Kd.R_drew)); exact (R_off (Kd.R_types HO554.out BK555.out (by decide)) TO)))) (below_size TB)); replace HO531 := aM (Kd.R_below (by (with_reducible repeat (first | apply Kd.R_alloc | apply Kd.R_drewN | apply Kd.R_drew)); exact (R_off (Kd.R_types HO531.out BK555.out (by decide)) TO)) hb); replace HO537 := aM (Kd.R_elder' (by (with_reducible repeat (first | apply Kd.R_alloc | apply Kd.R_drewN | apply Kd.R_drew)); exact (R_off (Kd.R_types HO537.out BK555.out (by decide)) TO)) (Kd.R_base ho0) hb); replace HO540 := aM (Kd.R_elder' (by (with_reducible repeat (first | apply Kd.R_alloc | apply Kd.R_drewN | apply Kd.R_drew)); exact (R_off (Kd.R_types HO540.out BK555.out (by decide)) TO)) (Kd.R_base ho0) hb); replace HO548 := aM (Kd.R_below (by (with_reducible repeat (first | apply Kd.R_alloc | apply Kd.R_drewN | apply Kd.R_drew)); exact (R_off (Kd.R_types HO548.out BK555.out (by decide)) TO)) hb); replace HO554 := aM (Kd.R_elder' (by (with_reducible repeat (first | apply Kd.R_alloc | apply Kd.R_drewN | apply Kd.R_drew)); exact (R_off (Kd.R_types HO554.out BK555.out (by decide)) TO)) (Kd.R_base ho0) hb); replace BK522 := aM (blk_below (g := gb522) (o := .cells #[.int .i64 a0_0, .int .i64 a0_1, .int .i64 a0_2, .int .i64 a0_3, .int .i64 a0_4, .slice A0_5 l0_5.length c0_5, .int .i64 a0_6, .int .i64 a0_7, .int .i64 a0_8, .slice A0_9 l0_9.length c0_9] 27 (0, 0)) (by (with_reducible repeat (first | refine blk_drewN ?_ _ | refine blk_drew ?_ | refine blk_alloc ?_ _)); refine blk_far ?_ NB522_555.out _; (with_reducible repeat (first | refine blk_drewN ?_ _ | refine blk_drew ?_ | refine blk_alloc ?_ _)); refine blk_far ?_ NB522_555.out _; (with_reducible repeat (first | refine blk_drewN ?_ _ | refine blk_drew ?_ | refine blk_alloc ?_ _)); refine blk_far ?_ NB522_555.out _; (with_reducible repeat (first | refine blk_drewN ?_ _ | refine blk_drew ?_ | refine blk_alloc ?_ _)); refine blk_far ?_ NB522_555.out _; (with_reducible repeat (first | refine blk_drewN ?_ _ | refine blk_drew ?_ | refine blk_alloc ?_ _)); refine blk_far ?_ NB522_555.out _; (with_reducible repeat (first | refine blk_drewN ?_ _ | refine blk_drew ?_ | refine blk_alloc ?_ _)); refine blk_far ?_ NB522_555.out _; (with_reducible repeat (first | refine blk_drewN ?_ _ | refine blk_drew ?_ | refine blk_alloc ?_ _)); refine blk_far ?_ NB522_555.out _; (with_reducible repeat (first | refine blk_drewN ?_ _ | refine blk_drew ?_ | refine blk_alloc ?_ _)); refine blk_far ?_ NB522_555.out _; (with_reducible repeat (first | refine blk_drewN ?_ _ | refine blk_drew ?_ | refine blk_alloc ?_ _)); refine blk_far ?_ NB522_555.out _; (with_reducible repeat (first | refine blk_drewN ?_ _ | refine blk_drew ?_ | refine blk_alloc ?_ _)); refine blk_far ?_ NB522_555.out _; (with_reducible repeat (first | refine blk_drewN ?_ _ | refine blk_drew ?_ | refine blk_alloc ?_ _)); exact BK522.out) hb); replace BK555 := aM (blk_below (g := gb555) (o := .cells #[.int .i64 t541, .int .i64 t542, .int .i64 t543, .int .i64 t544, .int .i64 t545, .slice Ao29 t546.length co29, .int .i64 t549, .int .i64 t550, .int .i64 t551, .slice Ao30 t552.length co30] 34 (0, 0)) (by (with_reducible repeat (first | refine blk_drewN ?_ _ | refine blk_drew ?_ | refine blk_alloc ?_ _)); refine blk_put (cs := #[.int .i64 t541, .int .i64 t542, .int .i64 t543, .int .i64 t544, .int .i64 t545, .slice Ao29 t546.length co29, .int .i64 t549, .int .i64 t550, .int .i64 t551, .slice none 0 0]) ?_ 9 _ rfl; (with_reducible repeat (first | refine blk_drewN ?_ _ | refine blk_drew ?_ | refine blk_alloc ?_ _)); refine blk_put (cs := #[.int .i64 t541, .int .i64 t542, .int .i64 t543, .int .i64 t544, .int .i64 t545, .slice Ao29 t546.length co29, .int .i64 t549, .int .i64 t550, .int .i64 0, .slice none 0 0]) ?_ 8 _ rfl; (with_reducible repeat (first | refine blk_drewN ?_ _ | refine blk_drew ?_ | refine blk_alloc ?_ _)); refine blk_put (cs := #[.int .i64 t541, .int .i64 t542, .int .i64 t543, .int .i64 t544, .int .i64 t545, .slice Ao29 t546.length co29, .int .i64 t549, .int .i64 0, .int .i64 0, .slice none 0 0]) ?_ 7 _ rfl; (with_reducible repeat (first | refine blk_drewN ?_ _ | refine blk_drew ?_ | refine blk_alloc ?_ _)); refine blk_put (cs := #[.int .i64 t541, .int .i64 t542, .int .i64 t543, .int .i64 t544, .int .i64 t545, .slice Ao29 t546.length co29, .int .i64 0, .int .i64 0, .int .i64 0, .slice none 0 0]) ?_ 6 _ rfl; (with_reducible repeat (first | refine blk_drewN ?_ _ | refine blk_drew ?_ | refine blk_alloc ?_ _)); refine blk_put (cs := #[.int .i64 t541, .int .i64 t542, .int .i64 t543, .int .i64 t544, .int .i64 t545, .slice none 0 0, .int .i64 0, .int .i64 0, .int .i64 0, .slice none 0 0]) ?_ 5 _ rfl; (with_reducible repeat (first | refine blk_drewN ?_ _ | refine blk_drew ?_ | refine blk_alloc ?_ _)); refine blk_put (cs := #[.int .i64 t541, .int .i64 t542, .int .i64 t543, .int .i64 t544, .int .i64 0, .slice none 0 0, .int .i64 0, .int .i64 0, .int .i64 0, .slice none 0 0]) ?_ 4 _ rfl; (with_reducible repeat (first | refine blk_drewN ?_ _ | refine blk_drew ?_ | refine blk_alloc ?_ _)); refine blk_put (cs := #[.int .i64 t541, .int .i64 t542, .int .i64 t543, .int .i64 0, .int .i64 0, .slice none 0 0, .int .i64 0, .int .i64 0, .int .i64 0, .slice none 0 0]) ?_ 3 _ rfl; (with_reducible repeat (first | refine blk_drewN ?_ _ | refine blk_drew ?_ | refine blk_alloc ?_ _)); refine blk_put (cs := #[.int .i64 t541, .int .i64 t542, .int .i64 0, .int .i64 0, .int .i64 0, .slice none 0 0, .int .i64 0, .int .i64 0, .int .i64 0, .slice none 0 0]) ?_ 2 _ rfl; (with_reducible repeat (first | refine blk_drewN ?_ _ | refine blk_drew ?_ | refine blk_alloc ?_ _)); refine blk_put (cs := #[.int .i64 t541, .int .i64 0, .int .i64 0, .int .i64 0, .int .i64 0, .slice none 0 0, .int .i64 0, .int .i64 0, .int .i64 0, .slice none 0 0]) ?_ 1 _ rfl; (with_reducible repeat (first | refine blk_drewN ?_ _ | refine blk_drew ?_ | refine blk_alloc ?_ _)); refine blk_put (cs := #[.int .i64 0, .int .i64 0, .int .i64 0, .int .i64 0, .int .i64 0, .slice none 0 0, .int .i64 0, .int .i64 0, .int .i64 0, .slice none 0 0]) ?_ 0 _ rfl; (with_reducible repeat (first | refine blk_drewN ?_ _ | refine blk_drew ?_ | refine blk_alloc ?_ _)); exact BK555.out) hb); replace HB := aM (below_step TB hb); clear ho0 hb; obtain ⟨Ao32, co32, eo32⟩ := Kd.R_slice HO558.out; subst eo32; obtain ⟨Ao33, co33, eo33⟩ := Kd.R_slice HO540.out; subst eo33) | ((with_reducible refine gate_callee (f := 14) rfl ?_); refine gL (some 25) Try.func14 #[.slice Ao32 t556.length co32, .slice Ao33 t538.length co33] ?_; (with_reducible refine (laws_eqByteS.calls k _ _ t556 _ _ t538 true _ ?side1 ?side2 ?side3 ?side4 A11.out).mono ?_); (case side1 => have X_ := (Kd.R_reads' HO558.out).2.2; exact TC); (case side2 => exact (Kd.R_reads' HO558.out).2.1); (case side3 => have X_ := (Kd.R_reads' HO540.out).2.2; exact TC); (case side4 => exact (Kd.R_reads' HO540.out).2.1); rintro e w' ⟨rfl, ⟨nd, rfl⟩⟩; refine ⟨_, rfl, ?_⟩))
    (try (rw [drewN_self w31]; generalize hq_ : World.drewN w31 _ = w31; have n0_ : Aside0 (Kd.R k76 76 w31 w.heap.size (fun k_ => (True ∧ some k_ ≠ (.slice Ao29 t546.length co29 : Value).ownBlock)) (.slice Ao21 t529.length co21) t529) := ⟨by rw [← hq_]; exact (by have X_ := HO531.out; exact TR)⟩; have n1_ : Aside0 (Kd.R (Kd.int .u8) 5 w31 w.heap.size (fun k_ => (((True ∧ some k_ ≠ (.slice Ao33 t538.length co33 : Value).ownBlock) ∧ some k_ ≠ (.slice Ao30 t552.length co30 : Value).ownBlock) ∧ some k_ ≠ (.slice Ao32 t556.length co32 : Value).ownBlock)) (.slice Ao22 t535.length co22) t535) := ⟨by rw [← hq_]; exact (by have X_ := HO537.out; exact TR)⟩; have n2_ : Aside0 (Kd.R (Kd.int .u8) 5 w31 w.heap.size (fun k_ => (((True ∧ some k_ ≠ (.slice Ao22 t535.length co22 : Value).ownBlock) ∧ some k_ ≠ (.slice Ao30 t552.length co30 : Value).ownBlock) ∧ some k_ ≠ (.slice Ao32 t556.length co32 : Value).ownBlock)) (.slice Ao33 t538.length co33) t538) := ⟨by rw [← hq_]; exact (by have X_ := HO540.out; exact TR)⟩; have n3_ : Aside0 (Kd.R k76 76 w31 w.heap.size (fun k_ => (True ∧ some k_ ≠ (.slice Ao21 t529.length co21 : Value).ownBlock)) (.slice Ao29 t546.length co29) t546) := ⟨by rw [← hq_]; exact (by have X_ := HO548.out; exact TR)⟩; have n4_ : Aside0 (Kd.R (Kd.int .u8) 5 w31 w.heap.size (fun k_ => (((True ∧ some k_ ≠ (.slice Ao22 t535.length co22 : Value).ownBlock) ∧ some k_ ≠ (.slice Ao33 t538.length co33 : Value).ownBlock) ∧ some k_ ≠ (.slice Ao32 t556.length co32 : Value).ownBlock)) (.slice Ao30 t552.length co30) t552) := ⟨by rw [← hq_]; exact (by have X_ := HO554.out; exact TR)⟩; have n5_ : Aside0 (Kd.R (Kd.int .u8) 5 w31 w.heap.size (fun k_ => (((True ∧ some k_ ≠ (.slice Ao22 t535.length co22 : Value).ownBlock) ∧ some k_ ≠ (.slice Ao33 t538.length co33 : Value).ownBlock) ∧ some k_ ≠ (.slice Ao30 t552.length co30 : Value).ownBlock)) (.slice Ao32 t556.length co32) t556) := ⟨by rw [← hq_]; exact (by have X_ := HO558.out; exact TR)⟩; have n6_ : Aside0 (w31.heap[gb522]? = some (.cells #[.int .i64 a0_0, .int .i64 a0_1, .int .i64 a0_2, .int .i64 a0_3, .int .i64 a0_4, .slice A0_5 l0_5.length c0_5, .int .i64 a0_6, .int .i64 a0_7, .int .i64 a0_8, .slice A0_9 l0_9.length c0_9] 27 (0, 0))) := ⟨by rw [← hq_]; exact TK⟩; have n7_ : Aside0 (w31.heap[gb555]? = some (.cells #[.int .i64 t541, .int .i64 t542, .int .i64 t543, .int .i64 t544, .int .i64 t545, .slice Ao29 t546.length co29, .int .i64 t549, .int .i64 t550, .int .i64 t551, .slice Ao30 t552.length co30] 34 (0, 0))) := ⟨by rw [← hq_]; exact TK⟩; have n8_ : Aside0 (Below w.heap.size w w31) := ⟨by rw [← hq_]; exact TB⟩; clear HO531 HO537 HO540 HO548 HO554 HO558 BK522 BK555 HB hq_; have HO531 := n0_; have HO537 := n1_; have HO540 := n2_; have HO548 := n3_; have HO554 := n4_; have HO558 := n5_; have BK522 := n6_; have BK555 := n7_; have HB := n8_; clear n0_ n1_ n2_ n3_ n4_ n5_ n6_ n7_ n8_))
    replace HO531 := aM (Kd.R_drew HO531.out)
    replace HO537 := aM (Kd.R_drew HO537.out)
    replace HO540 := aM (Kd.R_drew HO540.out)
    replace HO548 := aM (Kd.R_drew HO548.out)
    replace HO554 := aM (Kd.R_drew HO554.out)
    replace HO558 := aM (Kd.R_drew HO558.out)
    replace BK522 := aM (blk_drew BK522.out)
    replace BK555 := aM (blk_drew BK555.out)
    replace HB := aM (below_drew1 HB.out)
    refine start_ (n := 5) (S := fun w' => w'.cell? ⟨gb555, 0, none⟩ = some (.int .i64 t541) ∧ w'.cell? ⟨gb555, 1, none⟩ = some (.int .i64 t542) ∧ w'.cell? ⟨gb555, 2, none⟩ = some (.int .i64 t543) ∧ w'.cell? ⟨gb555, 3, none⟩ = some (.int .i64 t544) ∧ w'.cell? ⟨gb555, 4, none⟩ = some (.int .i64 t545) ∧ w'.cell? ⟨gb555, 5, none⟩ = some (.slice Ao29 t546.length co29) ∧ w'.cell? ⟨gb555, 6, none⟩ = some (.int .i64 t549) ∧ w'.cell? ⟨gb555, 7, none⟩ = some (.int .i64 t550) ∧ w'.cell? ⟨gb555, 8, none⟩ = some (.int .i64 t551) ∧ w'.cell? ⟨gb555, 9, none⟩ = some (.slice Ao30 t552.length co30) ∧ w'.cell? ⟨gb522, 0, none⟩ = some (.int .i64 a0_0) ∧ w'.cell? ⟨gb522, 1, none⟩ = some (.int .i64 a0_1) ∧ w'.cell? ⟨gb522, 2, none⟩ = some (.int .i64 a0_2) ∧ w'.cell? ⟨gb522, 3, none⟩ = some (.int .i64 a0_3) ∧ w'.cell? ⟨gb522, 4, none⟩ = some (.int .i64 a0_4) ∧ w'.cell? ⟨gb522, 5, none⟩ = some (.slice A0_5 l0_5.length c0_5) ∧ w'.cell? ⟨gb522, 6, none⟩ = some (.int .i64 a0_6) ∧ w'.cell? ⟨gb522, 7, none⟩ = some (.int .i64 a0_7) ∧ w'.cell? ⟨gb522, 8, none⟩ = some (.int .i64 a0_8) ∧ w'.cell? ⟨gb522, 9, none⟩ = some (.slice A0_9 l0_9.length c0_9)) (ds := []) (Array.replicate 5 false) (by kernel_rfl) rfl rfl ⟨(blk_cell BK555.out 0).trans rfl, (blk_cell BK555.out 1).trans rfl, (blk_cell BK555.out 2).trans rfl, (blk_cell BK555.out 3).trans rfl, (blk_cell BK555.out 4).trans rfl, (blk_cell BK555.out 5).trans rfl, (blk_cell BK555.out 6).trans rfl, (blk_cell BK555.out 7).trans rfl, (blk_cell BK555.out 8).trans rfl, (blk_cell BK555.out 9).trans rfl, (blk_cell BK522.out 0).trans rfl, (blk_cell BK522.out 1).trans rfl, (blk_cell BK522.out 2).trans rfl, (blk_cell BK522.out 3).trans rfl, (blk_cell BK522.out 4).trans rfl, (blk_cell BK522.out 5).trans rfl, (blk_cell BK522.out 6).trans rfl, (blk_cell BK522.out 7).trans rfl, (blk_cell BK522.out 8).trans rfl, (blk_cell BK522.out 9).trans rfl⟩ (fun hHeld => ?_)
    generalize w31.drew = w34 at HO531 HO537 HO540 HO548 HO554 HO558 BK522 BK555 HB hHeld ⊢
    refine pT 0 (some 27) ?_
    refine pT 1 (some 28) ?_
    refine pO 2 (some 29) (fun K hK => ?_)
    refine gG Try.func9 #[.agg #[.int .i64 a0_0, .int .i64 a0_1, .int .i64 a0_2, .int .i64 a0_3, .int .i64 a0_4, .slice A0_5 l0_5.length c0_5, .int .i64 a0_6, .int .i64 a0_7, .int .i64 a0_8, .slice A0_9 l0_9.length c0_9]] ?_
    with_reducible refine (laws_toMsg.calls k a0_0 a0_1 a0_2 a0_3 a0_4 _ _ l0_5 a0_6 a0_7 a0_8 _ _ l0_9 t560 t561 t562 t563 t564 t565 t568 t569 t570 t571 _ ?side1 ?side2 ?side3 ?side4 A13.out).mono ?_
    (case side1 => have X_ := (Kd.C_below HR0_5.out HB.out); exact TC)
    (case side2 => exact HC0_5.out)
    (case side3 => have X_ := (Kd.C_below HR0_9.out HB.out); exact TC)
    (case side4 => exact HC0_9.out)
    rintro e w35 ⟨v566, v572, rfl, ho0, ho1, hb⟩
    refine ⟨_, rfl, ?_⟩
    have n0_ := aM (Kd.R_elder' (by have X_ := HO531.out; exact TR) (Kd.R_base ho0) hb)
    have n1_ := aM (Kd.R_elder' (by have X_ := HO537.out; exact TR) (Kd.R_base ho1) hb)
    have n2_ := aM (Kd.R_elder' (by have X_ := HO540.out; exact TR) (Kd.R_base ho1) hb)
    have n3_ := aM (Kd.R_elder' (by have X_ := HO548.out; exact TR) (Kd.R_base ho0) hb)
    have n4_ := aM (Kd.R_elder' (by have X_ := HO554.out; exact TR) (Kd.R_base ho1) hb)
    have n5_ := aM (Kd.R_elder' (by have X_ := HO558.out; exact TR) (Kd.R_base ho1) hb)
    have n6_ := aM (Kd.R_lower (Kd.R_new' (Kd.R_new' ho0 (Kd.R_lt (by have X_ := HO531.out; exact TR))) (Kd.R_lt (by have X_ := HO548.out; exact TR))) (below_size TB))
    have n7_ := aM (Kd.R_lower (Kd.R_new' (Kd.R_new' (Kd.R_new' (Kd.R_new' ho1 (Kd.R_lt (by have X_ := HO537.out; exact TR))) (Kd.R_lt (by have X_ := HO540.out; exact TR))) (Kd.R_lt (by have X_ := HO554.out; exact TR))) (Kd.R_lt (by have X_ := HO558.out; exact TR))) (below_size TB))
    have n8_ := aM (blk_below (g := gb522) (o := .cells #[.int .i64 a0_0, .int .i64 a0_1, .int .i64 a0_2, .int .i64 a0_3, .int .i64 a0_4, .slice A0_5 l0_5.length c0_5, .int .i64 a0_6, .int .i64 a0_7, .int .i64 a0_8, .slice A0_9 l0_9.length c0_9] 27 (0, 0)) TK hb)
    have n9_ := aM (blk_below (g := gb555) (o := .cells #[.int .i64 t541, .int .i64 t542, .int .i64 t543, .int .i64 t544, .int .i64 t545, .slice Ao29 t546.length co29, .int .i64 t549, .int .i64 t550, .int .i64 t551, .slice Ao30 t552.length co30] 34 (0, 0)) TK hb)
    have n10_ := aM (below_step TB hb)
    clear HO531
    clear HO537
    clear HO540
    clear HO548
    clear HO554
    clear HO558
    clear BK522
    clear BK555
    clear HB
    have HO531 := n0_
    have HO537 := n1_
    have HO540 := n2_
    have HO548 := n3_
    have HO554 := n4_
    have HO558 := n5_
    have HO567 := n6_
    have HO573 := n7_
    have BK522 := n8_
    have BK555 := n9_
    have HB := n10_
    clear n0_ n1_ n2_ n3_ n4_ n5_ n6_ n7_ n8_ n9_ n10_
    (try clear hb)
    (try clear hb2)
    (try clear hk)
    (try clear hi)
    (try clear ho0)
    (try clear ho1)
    obtain ⟨Ao36, co36, eo36⟩ := Kd.R_slice HO567.out
    (first | subst eo36 | (injection eo36 with f1_ f2_ f3_; have f4_ := f1_.symm; have f5_ := f3_.symm; clear f1_ f2_ f3_; subst f4_; subst f5_))
    obtain ⟨Ao37, co37, eo37⟩ := Kd.R_slice HO573.out
    (first | subst eo37 | (injection eo37 with f1_ f2_ f3_; have f4_ := f1_.symm; have f5_ := f3_.symm; clear f1_ f2_ f3_; subst f4_; subst f5_))
    refine hK.out _ _ ⟨(blk_cell BK555.out 0).trans rfl, (blk_cell BK555.out 1).trans rfl, (blk_cell BK555.out 2).trans rfl, (blk_cell BK555.out 3).trans rfl, (blk_cell BK555.out 4).trans rfl, (blk_cell BK555.out 5).trans rfl, (blk_cell BK555.out 6).trans rfl, (blk_cell BK555.out 7).trans rfl, (blk_cell BK555.out 8).trans rfl, (blk_cell BK555.out 9).trans rfl, (blk_cell BK522.out 0).trans rfl, (blk_cell BK522.out 1).trans rfl, (blk_cell BK522.out 2).trans rfl, (blk_cell BK522.out 3).trans rfl, (blk_cell BK522.out 4).trans rfl, (blk_cell BK522.out 5).trans rfl, (blk_cell BK522.out 6).trans rfl, (blk_cell BK522.out 7).trans rfl, (blk_cell BK522.out 8).trans rfl, (blk_cell BK522.out 9).trans rfl⟩ (fun hHeld => ?_)
    clear hK K
    refine nR ?_
    refine pO 3 (some 30) (fun K hK => ?_)
    refine gG Try.func11 #[.agg #[.int .i64 t541, .int .i64 t542, .int .i64 t543, .int .i64 t544, .int .i64 t545, .slice Ao29 t546.length co29, .int .i64 t549, .int .i64 t550, .int .i64 t551, .slice Ao30 t552.length co30], .agg #[.int .i64 t560, .int .i64 t561, .int .i64 t562, .int .i64 t563, .int .i64 t564, .slice Ao36 t565.length co36, .int .i64 t568, .int .i64 t569, .int .i64 t570, .slice Ao37 t571.length co37]] ?_
    with_reducible refine (laws_eqMsg.calls k t541 t542 t543 t544 t545 _ _ t546 t549 t550 t551 _ _ t552 t560 t561 t562 t563 t564 _ _ t565 t568 t569 t570 _ _ t571 true _ ?side1 ?side2 ?side3 ?side4 ?side5 ?side6 ?side7 ?side8 A14.out).mono ?_
    (case side1 => have X_ := (Kd.R_reads' HO548.out).2.2; exact TC)
    (case side2 => exact (Kd.R_reads' HO548.out).2.1)
    (case side3 => have X_ := (Kd.R_reads' HO554.out).2.2; exact TC)
    (case side4 => exact (Kd.R_reads' HO554.out).2.1)
    (case side5 => have X_ := (Kd.R_reads' HO567.out).2.2; exact TC)
    (case side6 => exact (Kd.R_reads' HO567.out).2.1)
    (case side7 => have X_ := (Kd.R_reads' HO573.out).2.2; exact TC)
    (case side8 => exact (Kd.R_reads' HO573.out).2.1)
    rintro e w38 ⟨rfl, hb⟩
    refine ⟨_, rfl, ?_⟩
    have n0_ := aM (Kd.R_below (by have X_ := HO531.out; exact TR) hb)
    have n1_ := aM (Kd.R_below (by have X_ := HO537.out; exact TR) hb)
    have n2_ := aM (Kd.R_below (by have X_ := HO540.out; exact TR) hb)
    have n3_ := aM (Kd.R_below (by have X_ := HO548.out; exact TR) hb)
    have n4_ := aM (Kd.R_below (by have X_ := HO554.out; exact TR) hb)
    have n5_ := aM (Kd.R_below (by have X_ := HO558.out; exact TR) hb)
    have n6_ := aM (Kd.R_below (by have X_ := HO567.out; exact TR) hb)
    have n7_ := aM (Kd.R_below (by have X_ := HO573.out; exact TR) hb)
    have n8_ := aM (blk_below (g := gb522) (o := .cells #[.int .i64 a0_0, .int .i64 a0_1, .int .i64 a0_2, .int .i64 a0_3, .int .i64 a0_4, .slice A0_5 l0_5.length c0_5, .int .i64 a0_6, .int .i64 a0_7, .int .i64 a0_8, .slice A0_9 l0_9.length c0_9] 27 (0, 0)) TK hb)
    have n9_ := aM (blk_below (g := gb555) (o := .cells #[.int .i64 t541, .int .i64 t542, .int .i64 t543, .int .i64 t544, .int .i64 t545, .slice Ao29 t546.length co29, .int .i64 t549, .int .i64 t550, .int .i64 t551, .slice Ao30 t552.length co30] 34 (0, 0)) TK hb)
    have n10_ := aM (below_step TB hb)
    clear HO531
    clear HO537
    clear HO540
    clear HO548
    clear HO554
    clear HO558
    clear HO567
    clear HO573
    clear BK522
    clear BK555
    clear HB
    have HO531 := n0_
    have HO537 := n1_
    have HO540 := n2_
    have HO548 := n3_
    have HO554 := n4_
    have HO558 := n5_
    have HO567 := n6_
    have HO573 := n7_
    have BK522 := n8_
    have BK555 := n9_
    have HB := n10_
    clear n0_ n1_ n2_ n3_ n4_ n5_ n6_ n7_ n8_ n9_ n10_
    (try clear hb)
    (try clear hb2)
    (try clear hk)
    (try clear hi)
    refine hK.out _ _ ⟨(blk_cell BK555.out 0).trans rfl, (blk_cell BK555.out 1).trans rfl, (blk_cell BK555.out 2).trans rfl, (blk_cell BK555.out 3).trans rfl, (blk_cell BK555.out 4).trans rfl, (blk_cell BK555.out 5).trans rfl, (blk_cell BK555.out 6).trans rfl, (blk_cell BK555.out 7).trans rfl, (blk_cell BK555.out 8).trans rfl, (blk_cell BK555.out 9).trans rfl, (blk_cell BK522.out 0).trans rfl, (blk_cell BK522.out 1).trans rfl, (blk_cell BK522.out 2).trans rfl, (blk_cell BK522.out 3).trans rfl, (blk_cell BK522.out 4).trans rfl, (blk_cell BK522.out 5).trans rfl, (blk_cell BK522.out 6).trans rfl, (blk_cell BK522.out 7).trans rfl, (blk_cell BK522.out 8).trans rfl, (blk_cell BK522.out 9).trans rfl⟩ (fun hHeld => ?_)
    clear hK K
    refine nR ?_
    refine pP 4 (some 31) ?_
    refine done_ (by kernel_rfl) ?_
    obtain ⟨hcz39_0, hcz39_1, hcz39_2, hcz39_3, hcz39_4, hcz39_5, hcz39_6, hcz39_7, hcz39_8, hcz39_9⟩ := cz10 BK555.out
    obtain ⟨hfz39_0, hfz39_1, hfz39_2, hfz39_3, hfz39_4, hfz39_5, hfz39_6, hfz39_7, hfz39_8, hfz39_9⟩ := fz10 BK555.out
    go_upto_region 14 with (first | ((with_reducible refine gate_callee (f := 15) rfl ?_); refine gL (some 34) Try.func15 #[.agg #[.int .i64 t541, .int .i64 t542, .int .i64 t543, .int .i64 t544, .int .i64 t545, .slice Ao29 t546.length co29, .int .i64 t549, .int .i64 t550, .int .i64 t551, .slice Ao30 t552.length co30], .int .i64 1] ?_; (with_reducible refine (laws_markMsg.calls k t541 t542 t543 t544 t545 (fun k_ => some k_ = (.slice Ao29 t546.length co29 : Value).ownBlock) (.slice Ao29 t546.length co29) t546 t549 t550 t551 (fun k_ => some k_ = (.slice Ao30 t552.length co30 : Value).ownBlock) (.slice Ao30 t552.length co30) t552 1 t575 t576 t577 w _ ?side1 ?side2 ?side3 A16.out).mono ?_); (case side1 => repeat (first | (with_reducible first | exact HB.out | apply below_alloc | apply pw_below_drewN | apply below_drew1 | refine below_set ?_ GE522.out | refine below_set ?_ GE555.out) | exact HB.out)); (case side2 => exact Kd.R_tight rfl HO548.out); (case side3 => exact Kd.R_tight rfl HO554.out); rintro e w40 ⟨rfl, hy0, hy1, hb, hkp⟩; refine ⟨_, rfl, ?_⟩; replace BK522 := aM (blk_kept TK hkp (fun hs_ => Or.elim hs_ (fun e_ => (fun e_ => (Kd.R_ne HO548.out BK522.out (by decide)) e_) e_) (fun e_ => (fun e_ => (Kd.R_ne HO554.out BK522.out (by decide)) e_) e_))); replace HO531 := aM (Kd.R_mono (ok' := fun k_ => some k_ ≠ (.slice Ao29 t546.length co29 : Value).ownBlock ∧ some k_ ≠ (.slice Ao36 t565.length co36 : Value).ownBlock) (Kd.R_keptB ((Kd.R_apart' HO531.out (Kd.R_typed HO554.out) (by decide))) hkp (fun k_ hk_ hs_ => Or.elim hs_ (fun e_ => (hk_.1.1.2) e_) (fun e_ => (hk_.2) e_))) (fun k_ hk_ => ⟨hk_.1.1.1.2, hk_.1.1.2⟩)); replace HO537 := aM (Kd.R_mono (ok' := fun k_ => some k_ ≠ (.slice Ao33 t538.length co33 : Value).ownBlock ∧ some k_ ≠ (.slice Ao30 t552.length co30 : Value).ownBlock ∧ some k_ ≠ (.slice Ao32 t556.length co32 : Value).ownBlock ∧ some k_ ≠ (.slice Ao37 t571.length co37 : Value).ownBlock) (Kd.R_keptB ((Kd.R_apart' HO537.out (Kd.R_typed HO548.out) (by decide))) hkp (fun k_ hk_ hs_ => Or.elim hs_ (fun e_ => (hk_.2) e_) (fun e_ => (hk_.1.1.1.2) e_))) (fun k_ hk_ => ⟨hk_.1.1.1.1.1.2, hk_.1.1.1.1.2, hk_.1.1.1.2, hk_.1.1.2⟩)); replace HO540 := aM (Kd.R_mono (ok' := fun k_ => some k_ ≠ (.slice Ao22 t535.length co22 : Value).ownBlock ∧ some k_ ≠ (.slice Ao30 t552.length co30 : Value).ownBlock ∧ some k_ ≠ (.slice Ao32 t556.length co32 : Value).ownBlock ∧ some k_ ≠ (.slice Ao37 t571.length co37 : Value).ownBlock) (Kd.R_keptB ((Kd.R_apart' HO540.out (Kd.R_typed HO548.out) (by decide))) hkp (fun k_ hk_ hs_ => Or.elim hs_ (fun e_ => (hk_.2) e_) (fun e_ => (hk_.1.1.1.2) e_))) (fun k_ hk_ => ⟨hk_.1.1.1.1.1.2, hk_.1.1.1.1.2, hk_.1.1.1.2, hk_.1.1.2⟩)); replace BK555 := aM (blk_kept TK hkp (fun hs_ => Or.elim hs_ (fun e_ => (fun e_ => (Kd.R_ne HO548.out BK555.out (by decide)) e_) e_) (fun e_ => (fun e_ => (Kd.R_ne HO554.out BK555.out (by decide)) e_) e_))); replace HO558 := aM (Kd.R_mono (ok' := fun k_ => some k_ ≠ (.slice Ao22 t535.length co22 : Value).ownBlock ∧ some k_ ≠ (.slice Ao33 t538.length co33 : Value).ownBlock ∧ some k_ ≠ (.slice Ao30 t552.length co30 : Value).ownBlock ∧ some k_ ≠ (.slice Ao37 t571.length co37 : Value).ownBlock) (Kd.R_keptB ((Kd.R_apart' HO558.out (Kd.R_typed HO548.out) (by decide))) hkp (fun k_ hk_ hs_ => Or.elim hs_ (fun e_ => (hk_.2) e_) (fun e_ => (hk_.1.1.2) e_))) (fun k_ hk_ => ⟨hk_.1.1.1.1.1.2, hk_.1.1.1.1.2, hk_.1.1.1.2, hk_.1.1.2⟩)); replace HO567 := aM (Kd.R_mono (ok' := fun k_ => some k_ ≠ (.slice Ao21 t529.length co21 : Value).ownBlock ∧ some k_ ≠ (.slice Ao29 t546.length co29 : Value).ownBlock) (Kd.R_keptB ((Kd.R_apart' HO567.out (Kd.R_typed HO554.out) (by decide))) hkp (fun k_ hk_ hs_ => Or.elim hs_ (fun e_ => (hk_.1.2) e_) (fun e_ => (hk_.2) e_))) (fun k_ hk_ => ⟨hk_.1.1.1.2, hk_.1.1.2⟩)); replace HO554 := aM (Kd.R_reok rfl hy1 (fun k_ e_ => HO554.out.1 k_ e_)); replace HO573 := aM (Kd.R_mono (ok' := fun k_ => some k_ ≠ (.slice Ao22 t535.length co22 : Value).ownBlock ∧ some k_ ≠ (.slice Ao33 t538.length co33 : Value).ownBlock ∧ some k_ ≠ (.slice Ao30 t552.length co30 : Value).ownBlock ∧ some k_ ≠ (.slice Ao32 t556.length co32 : Value).ownBlock) (Kd.R_keptB ((Kd.R_apart' HO573.out (Kd.R_typed HO548.out) (by decide))) hkp (fun k_ hk_ hs_ => Or.elim hs_ (fun e_ => (hk_.2) e_) (fun e_ => (hk_.1.1.2) e_))) (fun k_ hk_ => ⟨hk_.1.1.1.1.1.2, hk_.1.1.1.1.2, hk_.1.1.1.2, hk_.1.1.2⟩)); replace HO548 := aM (Kd.R_reok rfl hy0 (fun k_ e_ => HO548.out.1 k_ e_)); replace HB := aM (hb); clear hb; (try clear hkp); (try clear hy0); (try clear hy1)))
    (try simp only [Act.put, List.setIfInBounds_toArray, List.set_cons_zero, List.set_cons_succ])
    go_cut [42] (fun v42 wc => ∃ (kq : Nat) (x42_16 : Bool), v42 = .bool x42_16 ∧ Aside0 (laws_FnExactPutMsg.j0 kq t538 t556 x42_16 a0_0 a0_1 a0_2 a0_3 a0_4 l0_5 a0_6 a0_7 a0_8 l0_9 = some r) ∧ Aside0 (kq ≤ k) ∧ Aside0 (Kd.R (Kd.int .u8) 5 wc w.heap.size (fun k_ => some k_ ≠ ((.slice Ao32 t556.length co32) : Value).ownBlock ∧ some k_ ≠ ((.slice Ao30 t552.length co30) : Value).ownBlock) (.slice Ao33 t538.length co33) t538) ∧ Aside0 (Kd.R (Kd.int .u8) 5 wc w.heap.size (fun k_ => some k_ ≠ ((.slice Ao33 t538.length co33) : Value).ownBlock ∧ some k_ ≠ ((.slice Ao30 t552.length co30) : Value).ownBlock) (.slice Ao32 t556.length co32) t556) ∧ Aside0 (Kd.R k76 76 wc w.heap.size (fun _ => True) (.slice Ao29 t546.length co29) t576) ∧ Aside0 (Kd.R (Kd.int .u8) 5 wc w.heap.size (fun k_ => some k_ ≠ ((.slice Ao33 t538.length co33) : Value).ownBlock ∧ some k_ ≠ ((.slice Ao32 t556.length co32) : Value).ownBlock) (.slice Ao30 t552.length co30) t577) ∧ Aside0 (wc.heap[gb522]? = some (.cells #[.int .i64 a0_0, .int .i64 a0_1, .int .i64 a0_2, .int .i64 a0_3, .int .i64 a0_4, (.slice A0_5 l0_5.length c0_5), .int .i64 a0_6, .int .i64 a0_7, .int .i64 a0_8, (.slice A0_9 l0_9.length c0_9)] 27 (0, 0))) ∧ Aside0 (wc.heap[gb555]? = some (.cells #[.int .i64 t541, .int .i64 t542, .int .i64 t543, .int .i64 t544, .int .i64 t545, (.slice Ao29 t546.length co29), .int .i64 t549, .int .i64 t550, .int .i64 t551, (.slice Ao30 t552.length co30)] 34 (0, 0))) ∧ Aside0 (Below w.heap.size w wc))
    case first =>
      have H := HC17.out
      clear HC17
      by_cases c41 : t575 < 0
      · rw [if_pos c41] at H
        have c41b0 : decide (t575 < 0) = true := decide_eq_true c41
        clear c41
        (first | rw [c41b0] | (simp only [i64_w, i32_w]; rw [c41b0]) | skip)
        have H' := aM H
        clear H
        go_wp2
        go_meet
        case rel => exact ⟨_, (true), (by first | rfl | (simp; done) | (simp [*]; done)), H', ⟨by first | omega | exact Nat.le_refl _⟩, ⟨by (with_reducible repeat (first | apply Kd.R_alloc | apply Kd.R_drewN | apply Kd.R_drew)); exact Kd.R_mono HO540.out (fun _ hk => ⟨hk.2.2.1, hk.2.1⟩)⟩, ⟨by (with_reducible repeat (first | apply Kd.R_alloc | apply Kd.R_drewN | apply Kd.R_drew)); exact Kd.R_mono HO558.out (fun _ hk => ⟨hk.2.1, hk.2.2.1⟩)⟩, ⟨by (with_reducible repeat (first | apply Kd.R_alloc | apply Kd.R_drewN | apply Kd.R_drew)); exact Kd.R_mono HO548.out (fun _ hk => trivial)⟩, ⟨by (with_reducible repeat (first | apply Kd.R_alloc | apply Kd.R_drewN | apply Kd.R_drew)); exact Kd.R_mono HO554.out (fun _ hk => ⟨hk.1.1.2, hk.1.2⟩)⟩, ⟨TK⟩, ⟨TK⟩, ⟨TB⟩⟩
      · rw [if_neg c41] at H
        have c41b0 : decide (t575 < 0) = false := decide_eq_false c41
        clear c41
        (first | rw [c41b0] | (simp only [i64_w, i32_w]; rw [c41b0]) | skip)
        replace H := bE H
        obtain ⟨t578, A42, H⟩ := H
        have H' := aM H
        clear H
        go_wp2_with (first | (go_at_call 14; (with_reducible refine (laws_eqByteS.calls k _ _ t556 _ _ t538 t578 _ ?side1 ?side2 ?side3 ?side4 A42.out).mono ?_); (case side1 => have X_ := (Kd.R_reads' HO558.out).2.2; exact TC); (case side2 => exact (Kd.R_reads' HO558.out).2.1); (case side3 => have X_ := (Kd.R_reads' HO540.out).2.2; exact TC); (case side4 => exact (Kd.R_reads' HO540.out).2.1); rintro e w' ⟨rfl, ⟨nd, rfl⟩⟩))
        go_meet
        case rel => exact ⟨_, (!t578), (by first | rfl | (simp; done) | (simp [*]; done)), H', ⟨by first | omega | exact Nat.le_refl _⟩, ⟨by (with_reducible repeat (first | apply Kd.R_alloc | apply Kd.R_drewN | apply Kd.R_drew)); exact Kd.R_mono HO540.out (fun _ hk => ⟨hk.2.2.1, hk.2.1⟩)⟩, ⟨by (with_reducible repeat (first | apply Kd.R_alloc | apply Kd.R_drewN | apply Kd.R_drew)); exact Kd.R_mono HO558.out (fun _ hk => ⟨hk.2.1, hk.2.2.1⟩)⟩, ⟨by (with_reducible repeat (first | apply Kd.R_alloc | apply Kd.R_drewN | apply Kd.R_drew)); exact Kd.R_mono HO548.out (fun _ hk => trivial)⟩, ⟨by (with_reducible repeat (first | apply Kd.R_alloc | apply Kd.R_drewN | apply Kd.R_drew)); exact Kd.R_mono HO554.out (fun _ hk => ⟨hk.1.1.2, hk.1.2⟩)⟩, ⟨TK⟩, ⟨TK⟩, ⟨TB⟩⟩
    case rest =>
      clear HC17
      try clear c1
      try clear c2
      try clear p2
      try clear c4
      try clear c5
      try clear c5b0
      try clear c7
      try clear c9
      try clear c11
      try clear c12
      try clear c13
      try clear c14
      try clear c15
      try clear c27
      try clear c41
      try clear c41b0
      try clear hcz19_0
      try clear hcz19_1
      try clear hcz19_2
      try clear hcz19_3
      try clear hcz19_4
      try clear hcz19_5
      try clear hcz19_6
      try clear hcz19_7
      try clear hcz19_8
      try clear hcz19_9
      try clear hcz24_0
      try clear hcz24_1
      try clear hcz24_2
      try clear hcz24_3
      try clear hcz24_4
      try clear hcz24_5
      try clear hcz24_6
      try clear hcz24_7
      try clear hcz24_8
      try clear hcz24_9
      try clear hcz28_0
      try clear hcz28_1
      try clear hcz28_2
      try clear hcz28_3
      try clear hcz28_4
      try clear hcz28_5
      try clear hcz28_6
      try clear hcz28_7
      try clear hcz28_8
      try clear hcz28_9
      try clear hcz39_0
      try clear hcz39_1
      try clear hcz39_2
      try clear hcz39_3
      try clear hcz39_4
      try clear hcz39_5
      try clear hcz39_6
      try clear hcz39_7
      try clear hcz39_8
      try clear hcz39_9
      try clear hcz4_0
      try clear hcz4_1
      try clear hcz4_2
      try clear hcz4_3
      try clear hcz4_4
      try clear hcz4_5
      try clear hcz4_6
      try clear hcz4_7
      try clear hcz4_8
      try clear hcz4_9
      try clear hfz19_0
      try clear hfz19_1
      try clear hfz19_2
      try clear hfz19_3
      try clear hfz19_4
      try clear hfz19_5
      try clear hfz19_6
      try clear hfz19_7
      try clear hfz19_8
      try clear hfz19_9
      try clear hfz24_0
      try clear hfz24_1
      try clear hfz24_2
      try clear hfz24_3
      try clear hfz24_4
      try clear hfz24_5
      try clear hfz24_6
      try clear hfz24_7
      try clear hfz24_8
      try clear hfz24_9
      try clear hfz28_0
      try clear hfz28_1
      try clear hfz28_2
      try clear hfz28_3
      try clear hfz28_4
      try clear hfz28_5
      try clear hfz28_6
      try clear hfz28_7
      try clear hfz28_8
      try clear hfz28_9
      try clear hfz39_0
      try clear hfz39_1
      try clear hfz39_2
      try clear hfz39_3
      try clear hfz39_4
      try clear hfz39_5
      try clear hfz39_6
      try clear hfz39_7
      try clear hfz39_8
      try clear hfz39_9
      try clear hfz4_0
      try clear hfz4_1
      try clear hfz4_2
      try clear hfz4_3
      try clear hfz4_4
      try clear hfz4_5
      try clear hfz4_6
      try clear hfz4_7
      try clear hfz4_8
      try clear hfz4_9
      obtain ⟨kq, x42_16, rfl, HA, HJ16, HO_4, HO_6, HO_556005, HO_556009, BK522, BK555, HB⟩ := hcut
      have hl556005_16 := (Kd.R_reads' HO_556005.out).1
      rw [hl556005_16] at HO_556005
      (try simp only [hl556005_16])
      (try simp only [hl556005_16] at BK522)
      (try simp only [hl556005_16] at BK555)
      (try simp only [hl556005_16] at HO_4)
      (try simp only [hl556005_16] at HO_6)
      (try simp only [hl556005_16] at HO_556009)
      have hl556009_16 := (Kd.R_reads' HO_556009.out).1
      rw [hl556009_16] at HO_556009
      (try simp only [hl556009_16])
      (try simp only [hl556009_16] at BK522)
      (try simp only [hl556009_16] at BK555)
      (try simp only [hl556009_16] at HO_4)
      (try simp only [hl556009_16] at HO_6)
      (try simp only [hl556009_16] at HO_556005)
      cases kq with
      | zero => exact absurd HA.out (by simp [laws_FnExactPutMsg.j0])
      | succ kj16 =>
        have H := HA.out
        clear HA
        simp only [laws_FnExactPutMsg.j0] at H
        replace H := ifM H
        obtain ⟨c43, H⟩ := H
        replace c43 := Bool.eq_false_iff.mpr c43
        subst c43
        replace H := bE H
        obtain ⟨⟨t579, t580⟩, A44, H⟩ := H
        dsimp only at H
        replace H := bE H
        obtain ⟨t581, A45, H⟩ := H
        replace H := ifM H
        obtain ⟨c46, H⟩ := H
        have c46b0 : decide (t581 < 0) = false := decide_eq_false c46
        clear c46
        replace H := ifN H
        obtain ⟨c47, H⟩ := H
        have c47b0 : (t581 == t579) = true := beq_iff_eq.mpr c47
        have c47b1 : (t581 != t579) = false := bne_eq_false_iff_eq.mpr c47
        clear c47
        replace H := bE H
        obtain ⟨⟨t582, t583, t584, t585, t586, t587, t590, t591, t592, t593⟩, A48, H⟩ := H
        dsimp only at H
        replace H := bE H
        obtain ⟨t596, A49, H⟩ := H
        replace H := bE H
        obtain ⟨t599, A50, H⟩ := H
        replace H := ifN H
        obtain ⟨c51, H⟩ := H
        subst c51
        replace H := bE H
        obtain ⟨t600, A52, H⟩ := H
        replace H := ifM H
        obtain ⟨c53, H⟩ := H
        have c53b0 : decide (t600 < 0) = false := decide_eq_false c53
        clear c53
        replace H := ifN H
        obtain ⟨c54, H⟩ := H
        have c54b0 : (t600 == t579) = true := beq_iff_eq.mpr c54
        have c54b1 : (t600 != t579) = false := bne_eq_false_iff_eq.mpr c54
        clear c54
        obtain rfl := Option.some.inj H
        go_wp2_with (first | ((with_reducible refine gate_callee (f := 16) rfl ?_); refine gL (some 45) Try.func16 #[.slice Ao32 t556.length co32, .int .i64 1] ?_; (with_reducible refine (laws_markByteS.calls kj16 (fun k_ => some k_ = (.slice Ao32 t556.length co32 : Value).ownBlock) (.slice Ao32 t556.length co32) t556 1 t579 t580 w _ ?side1 ?side2 A44.out).mono ?_); (case side1 => repeat (first | (with_reducible first | exact HB.out | apply below_alloc | apply pw_below_drewN | apply below_drew1 | refine below_set ?_ GE522.out | refine below_set ?_ GE555.out) | exact HB.out)); (case side2 => exact Kd.R_tight rfl HO_6.out); rintro e w55 ⟨rfl, hy0, hb, hkp⟩; refine ⟨_, rfl, ?_⟩; replace HO_4 := aM (Kd.R_mono (ok' := fun k_ => some k_ ≠ (.slice Ao32 t556.length co32 : Value).ownBlock ∧ some k_ ≠ (.slice Ao30 t577.length co30 : Value).ownBlock) (Kd.R_keptB (HO_4.out) hkp (fun k_ hk_ hs_ => (hk_.1) hs_)) (fun k_ hk_ => ⟨hk_.1.1, hk_.1.2⟩)); replace HO_556005 := aM (Kd.R_mono (ok' := fun k_ => True) (Kd.R_keptB ((Kd.R_apart' HO_556005.out (Kd.R_typed HO_6.out) (by decide))) hkp (fun k_ hk_ hs_ => (hk_.2) hs_)) (fun k_ hk_ => trivial)); replace HO_556009 := aM (Kd.R_mono (ok' := fun k_ => some k_ ≠ (.slice Ao33 t538.length co33 : Value).ownBlock ∧ some k_ ≠ (.slice Ao32 t556.length co32 : Value).ownBlock) (Kd.R_keptB (HO_556009.out) hkp (fun k_ hk_ hs_ => (hk_.2) hs_)) (fun k_ hk_ => ⟨hk_.1.1, hk_.1.2⟩)); replace BK522 := aM (blk_kept TK hkp (fun hs_ => (fun e_ => (Kd.R_ne HO_6.out BK522.out (by decide)) e_) hs_)); replace BK555 := aM (blk_kept TK hkp (fun hs_ => (fun e_ => (Kd.R_ne HO_6.out BK555.out (by decide)) e_) hs_)); replace HO_6 := aM (Kd.R_reok rfl hy0 (fun k_ e_ => HO_6.out.1 k_ e_)); replace HB := aM (hb); clear hb; (try clear hkp); (try clear hy0)) | ((with_reducible refine gate_callee (f := 17) rfl ?_); refine goesL_ (some 48) rfl rfl Try.func17 (by kernel_rfl) rfl #[.slice Ao32 t580.length co32, .int .i64 1] rfl (by (try simp only [List.map_toArray, List.map_cons, List.map_nil]); first | done | (rw [show t580.length = t556.length from (Kd.R_reads' HO_6.out).1.symm] <;> rfl) | rfl | (simp only [List.length_drop, List.length_take]; rfl)) ?_; (with_reducible refine (laws_heldByteS.calls kj16 _ _ t580 1 t581 _ ?side1 ?side2 A45.out).mono ?_); (case side1 => have X_ := (Kd.R_reads' HO_6.out).2.2; exact TC); (case side2 => rw [show t580.length = t556.length from (Kd.R_reads' HO_6.out).1.symm]; exact (Kd.R_reads' HO_6.out).2.1); rintro e w' ⟨rfl, ⟨nd, rfl⟩⟩; refine ⟨_, rfl, ?_⟩; have hnb56 := NB522_555.out; have hnc56 := NB555_522.out; obtain ⟨hcz57_0, hcz57_1, hcz57_2, hcz57_3, hcz57_4, hcz57_5, hcz57_6, hcz57_7, hcz57_8, hcz57_9⟩ := cz10 BK522.out; obtain ⟨hfz57_0, hfz57_1, hfz57_2, hfz57_3, hfz57_4, hfz57_5, hfz57_6, hfz57_7, hfz57_8, hfz57_9⟩ := fz10 BK522.out) | ((with_reducible refine gate_callee (f := 9) rfl ?_); refine gL (some 55) Try.func9 #[.agg #[.int .i64 a0_0, .int .i64 a0_1, .int .i64 a0_2, .int .i64 a0_3, .int .i64 a0_4, .slice A0_5 l0_5.length c0_5, .int .i64 a0_6, .int .i64 a0_7, .int .i64 a0_8, .slice A0_9 l0_9.length c0_9]] ?_; (with_reducible refine (laws_toMsg.calls kj16 a0_0 a0_1 a0_2 a0_3 a0_4 _ _ l0_5 a0_6 a0_7 a0_8 _ _ l0_9 t582 t583 t584 t585 t586 t587 t590 t591 t592 t593 _ ?side1 ?side2 ?side3 ?side4 A48.out).mono ?_); (case side1 => repeat (first | exact (Kd.C_below HR0_5.out TB) | (with_reducible refine Kd.C_alloc ?_ _) | (with_reducible refine Kd.C_drewN ?_ _) | (with_reducible refine Kd.C_drew ?_))); (case side2 => exact HC0_5.out); (case side3 => repeat (first | exact (Kd.C_below HR0_9.out TB) | (with_reducible refine Kd.C_alloc ?_ _) | (with_reducible refine Kd.C_drewN ?_ _) | (with_reducible refine Kd.C_drew ?_))); (case side4 => exact HC0_9.out); rintro e w58 ⟨v588, v594, rfl, ho0, ho1, hb⟩; refine ⟨_, rfl, ?_⟩; have HO589 := aM (Kd.R_lower (Kd.R_new' ho0 (Kd.R_lt (by have X_ := HO_556005.out; exact TR))) (below_size TB)); have HO595 := aM (Kd.R_lower (Kd.R_new' (Kd.R_new' (Kd.R_new' ho1 (Kd.R_lt (by have X_ := HO_4.out; exact TR))) (Kd.R_lt (by have X_ := HO_6.out; exact TR))) (Kd.R_lt (by have X_ := HO_556009.out; exact TR))) (below_size TB)); replace HO_4 := aM (Kd.R_elder' (by have X_ := HO_4.out; exact TR) (Kd.R_base ho1) hb); replace HO_6 := aM (Kd.R_elder' (by have X_ := HO_6.out; exact TR) (Kd.R_base ho1) hb); replace HO_556005 := aM (Kd.R_elder' (by have X_ := HO_556005.out; exact TR) (Kd.R_base ho0) hb); replace HO_556009 := aM (Kd.R_elder' (by have X_ := HO_556009.out; exact TR) (Kd.R_base ho1) hb); replace BK522 := aM (blk_below (g := gb522) (o := .cells #[.int .i64 a0_0, .int .i64 a0_1, .int .i64 a0_2, .int .i64 a0_3, .int .i64 a0_4, .slice A0_5 l0_5.length c0_5, .int .i64 a0_6, .int .i64 a0_7, .int .i64 a0_8, .slice A0_9 l0_9.length c0_9] 27 (0, 0)) TK hb); replace BK555 := aM (blk_below (g := gb555) (o := .cells #[.int .i64 t541, .int .i64 t542, .int .i64 t543, .int .i64 t544, .int .i64 t545, .slice Ao29 t576.length co29, .int .i64 t549, .int .i64 t550, .int .i64 t551, .slice Ao30 t577.length co30] 34 (0, 0)) TK hb); replace HB := aM (below_step TB hb); clear ho0 ho1 hb; obtain ⟨Ao59, co59, eo59⟩ := Kd.R_slice HO589.out; subst eo59; obtain ⟨Ao60, co60, eo60⟩ := Kd.R_slice HO595.out; subst eo60) | ((with_reducible refine gate_callee (f := 13) rfl ?_); refine gL (some 56) Try.func13 #[.agg #[.int .i64 t582, .int .i64 t583, .int .i64 t584, .int .i64 t585, .int .i64 t586, .slice Ao59 t587.length co59, .int .i64 t590, .int .i64 t591, .int .i64 t592, .slice Ao60 t593.length co60]] ?_; (with_reducible refine (impl_PutMsg.calls kj16 t582 t583 t584 t585 t586 _ _ t587 t590 t591 t592 _ _ t593 t596 _ ?side1 ?side2 ?side3 ?side4 A49.out).mono ?_); (case side1 => have X_ := (Kd.R_reads' HO589.out).2.2; exact TC); (case side2 => exact (Kd.R_reads' HO589.out).2.1); (case side3 => have X_ := (Kd.R_reads' HO595.out).2.2; exact TC); (case side4 => exact (Kd.R_reads' HO595.out).2.1); rintro e w61 ⟨v597, rfl, ho0, hb⟩; refine ⟨_, rfl, ?_⟩; have HO598 := aM (Kd.R_lower (Kd.R_new' (Kd.R_new' (Kd.R_new' (Kd.R_new' ho0 (Kd.R_lt (by have X_ := HO_4.out; exact TR))) (Kd.R_lt (by have X_ := HO_6.out; exact TR))) (Kd.R_lt (by have X_ := HO_556009.out; exact TR))) (Kd.R_lt (by have X_ := HO595.out; exact TR))) (below_size TB)); replace HO_4 := aM (Kd.R_elder' (by have X_ := HO_4.out; exact TR) (Kd.R_base ho0) hb); replace HO_6 := aM (Kd.R_elder' (by have X_ := HO_6.out; exact TR) (Kd.R_base ho0) hb); replace HO_556005 := aM (Kd.R_below (by have X_ := HO_556005.out; exact TR) hb); replace HO_556009 := aM (Kd.R_elder' (by have X_ := HO_556009.out; exact TR) (Kd.R_base ho0) hb); replace HO589 := aM (Kd.R_below (by have X_ := HO589.out; exact TR) hb); replace HO595 := aM (Kd.R_elder' (by have X_ := HO595.out; exact TR) (Kd.R_base ho0) hb); replace BK522 := aM (blk_below (g := gb522) (o := .cells #[.int .i64 a0_0, .int .i64 a0_1, .int .i64 a0_2, .int .i64 a0_3, .int .i64 a0_4, .slice A0_5 l0_5.length c0_5, .int .i64 a0_6, .int .i64 a0_7, .int .i64 a0_8, .slice A0_9 l0_9.length c0_9] 27 (0, 0)) TK hb); replace BK555 := aM (blk_below (g := gb555) (o := .cells #[.int .i64 t541, .int .i64 t542, .int .i64 t543, .int .i64 t544, .int .i64 t545, .slice Ao29 t576.length co29, .int .i64 t549, .int .i64 t550, .int .i64 t551, .slice Ao30 t577.length co30] 34 (0, 0)) TK hb); replace HB := aM (below_step TB hb); clear ho0 hb; obtain ⟨Ao62, co62, eo62⟩ := Kd.R_slice HO598.out; subst eo62) | ((with_reducible refine gate_callee (f := 14) rfl ?_); refine gL (some 59) Try.func14 #[.slice Ao62 t596.length co62, .slice Ao33 t538.length co33] ?_; (with_reducible refine (laws_eqByteS.calls kj16 _ _ t596 _ _ t538 true _ ?side1 ?side2 ?side3 ?side4 A50.out).mono ?_); (case side1 => have X_ := (Kd.R_reads' HO598.out).2.2; exact TC); (case side2 => exact (Kd.R_reads' HO598.out).2.1); (case side3 => have X_ := (Kd.R_reads' HO_4.out).2.2; exact TC); (case side4 => exact (Kd.R_reads' HO_4.out).2.1); rintro e w' ⟨rfl, ⟨nd, rfl⟩⟩; refine ⟨_, rfl, ?_⟩) | ((with_reducible refine gate_callee (f := 17) rfl ?_); refine goesL_ (some 63) rfl rfl Try.func17 (by kernel_rfl) rfl #[.slice Ao32 t580.length co32, .int .i64 1] rfl (by (try simp only [List.map_toArray, List.map_cons, List.map_nil]); first | done | (rw [show t580.length = t556.length from (Kd.R_reads' HO_6.out).1.symm] <;> rfl) | rfl | (simp only [List.length_drop, List.length_take]; rfl)) ?_; (with_reducible refine (laws_heldByteS.calls kj16 _ _ t580 1 t600 _ ?side1 ?side2 A52.out).mono ?_); (case side1 => have X_ := (Kd.R_reads' HO_6.out).2.2; exact TC); (case side2 => rw [show t580.length = t556.length from (Kd.R_reads' HO_6.out).1.symm]; exact (Kd.R_reads' HO_6.out).2.1); rintro e w' ⟨rfl, ⟨nd, rfl⟩⟩; refine ⟨_, rfl, ?_⟩))
        go_ret
        exact ⟨by first | rfl | (simp [errW_none, errW_some] <;> rfl) | (simp [*, errW_none, errW_some] <;> rfl), TB⟩

end Go.Proofs.Ytdohjkbgbplgmaa.Q
