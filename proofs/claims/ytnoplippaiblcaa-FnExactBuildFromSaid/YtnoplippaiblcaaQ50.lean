/- Functions of the program as plain Lean functions, and that a call of each comes to what its function tells. Written by a program of this seat. -/
import Derived.Test.YtnoplippaiblcaaQ0
import Derived.Test.YtnoplippaiblcaaQ11
import Derived.Test.YtnoplippaiblcaaQ13
import Derived.Test.YtnoplippaiblcaaQ14
import Derived.Test.YtnoplippaiblcaaQ24
import Derived.Test.YtnoplippaiblcaaQ45
import Derived.Test.YtnoplippaiblcaaQ46
namespace Go.Proofs.Ytnoplippaiblcaa.Q
open Go.RowKit Go.Proofs.YtnoplippaiblcaaW.PrintWords Go.Proofs.YtnoplippaiblcaaW.PrintLast Go.Proofs.YtnoplippaiblcaaW.PrintMore
attribute [local go_sem] max2_int min2_int max_two min_two max_three min_three max_four min_four   -- for this text's walks alone
set_option linter.unusedVariables false
set_option linter.unusedSimpArgs false

/-! ### spec_BuildFrom: function 38 -/
def spec_BuildFrom.l0 : Nat → List Int → Int → Int → Int → Int → List (S72) → Int → List Int → Option (Int × List Int)
  | 0, _, _, _, _, _, _, _, _ => none
  | k + 1, x1, x6, x774000, x774001, x774002, x774003, x780000, x780001 => if x6 < (x774003.length : Int) then ((spec_PlaceOf.f k x1 x774000 x774001 x774002 x774003 x6).bind fun t781 => ((spec_SpanOf.f x774001 x774002 x6).bind fun bt782 => (if t781 ≥ 0 then (if 0 ≤ t781 then (if t781 ≤ (wrap64 (t781 + bt782.2)) then (if (wrap64 (t781 + bt782.2)) ≤ (x1.length : Int) then ((some ((0 : Int), (0 : Int))).bind fun bt785 => ((spec_l8Put.f k x774000 x774001 x774002 x774003 x780000 x780001 x6 ((x1.take ((wrap64 (t781 + bt782.2)) : Int).toNat).drop (t781 : Int).toNat)).bind fun bt787 => (spec_BuildFrom.l0 k x1 (wrap64 (x6 + 1)) x774000 x774001 x774002 x774003 bt787.1 bt787.2))) else (none)) else (none)) else (none)) else (spec_BuildFrom.l0 k x1 (wrap64 (x6 + 1)) x774000 x774001 x774002 x774003 x780000 x780001)))) else (some (x780000, x780001))
def spec_BuildFrom.f (k : Nat) (a0_0 : Int) (a0_1 : Int) (a0_2 : Int) (l0_3 : List (S72)) (l1 : List Int) : Option (Int × List Int) := (spec_BuildNew.f k a0_0 a0_1 a0_2 l0_3).bind fun bt775 => ((spec_ManOk.f k a0_0 a0_1 a0_2 l0_3).bind fun t780 => (if t780 = true then (spec_BuildFrom.l0 k l1 0 a0_0 a0_1 a0_2 l0_3 bt775.1 bt775.2) else (some (bt775.1, bt775.2))))
theorem spec_BuildFrom.mono_l : ∀ k, (∀ y0 y1 y2 y3 y4 y5 y6 y7, LeO (spec_BuildFrom.l0 k y0 y1 y2 y3 y4 y5 y6 y7) (spec_BuildFrom.l0 (k + 1) y0 y1 y2 y3 y4 y5 y6 y7))
  | 0 => fun _ _ _ _ _ _ _ _ r h => by simp [spec_BuildFrom.l0] at h
  | k + 1 => by
    have m9_ := @spec_l8Put.mono
    have m0_ := @spec_BuildNew.mono
    have m1_ := @spec_ManOk.mono
    have m2_ := @spec_PlaceOf.mono
    have m3_ := @spec_SumOf.mono
    have ih0 := spec_BuildFrom.mono_l k
    · intro y0 y1 y2 y3 y4 y5 y6 y7
      unfold spec_BuildFrom.l0
      exact LM
theorem spec_BuildFrom.mono : ∀ a0 a1 a2 a3 a4 k, LeO (spec_BuildFrom.f k a0 a1 a2 a3 a4) (spec_BuildFrom.f (k + 1) a0 a1 a2 a3 a4) := by
  intro a0 a1 a2 a3 a4 k
  have m9_ := @spec_l8Put.mono
  have m0_ := @spec_BuildNew.mono
  have m1_ := @spec_ManOk.mono
  have m2_ := @spec_PlaceOf.mono
  have m3_ := @spec_SumOf.mono
  have ih0 := spec_BuildFrom.mono_l k
  unfold spec_BuildFrom.f
  exact LM
set_option maxHeartbeats 40000000 in
set_option maxRecDepth 100000 in
theorem spec_BuildFrom.calls (k : Nat) (aj : Int) (af : Int) (ag : Int) (al : Option Addr) (am : Nat) (ae : List (S72)) (A1 : Option Addr) (c1 : Nat) (l1 : List Int) (r1 : Int) (r2 : List Int) (w : World) (aC : Kd.C k72 w al ae.length ae) (aD : ae.length ≤ am) (hr1 : Kd.C (Kd.int .u8) w A1 l1.length l1) (hc1 : l1.length ≤ c1) (h : spec_BuildFrom.f k aj af ag ae l1 = some (r1, r2)) :
  Calls Try.prog 38 #[.agg #[.int .i64 aj, .int .i64 af, .int .i64 ag, .slice al ae.length am], .slice A1 l1.length c1] w fun e w' => ∃ v1_ : Value, e = .returned (.agg #[.int .i64 r1, v1_]) ∧ Kd.R (Kd.int .u8) 5 w' w.heap.size (fun _ => True) v1_ r2 ∧ Below w.heap.size w w' := by
 have hu33 := Try.underlying33
 have hu35 := Try.underlying35
 have av := aM aC
 have ay := aM aD
 clear aC aD
 have HR1 := aM hr1
 have HC1 := aM hc1
 clear hr1 hc1
 have HB := aM (Below.refl w.heap.size w)
 have H := h
 clear h
 unfold spec_BuildFrom.f at H
 replace H := bE H
 obtain ⟨⟨ar, au⟩, A3, H⟩ := H
 dsimp only at H
 replace H := bE H
 obtain ⟨t780, A4, H⟩ := H
 go_enter Try.func38, Try.ntmps38
 go_wp2_with (first | ((with_reducible refine gate_dst (N := 2) rfl ?_); refine gBx 2 #[.int .i64 aj, .int .i64 af, .int .i64 ag, .slice al ae.length am] 33 ?_; intro ah hg w6 hbox hb; have aa := aM (hbox); have GW773 := aM ((by rw [hg]; exact (below_size TB) : w.heap.size ≤ ah)); have GE773 := aM ((by rw [hg]; exact (below_size TB) : w.heap.size ≤ ah)); replace HB := aM (below_step TB hb); clear hb hbox hg) | ((with_reducible refine gate_dst (N := 4) rfl ?_); refine gBx 4 #[.int .i64 0, .slice none 0 0] 35 ?_; intro gb774 hg w7 hbox hb; have ac := aM (hbox); have GW774 := aM ((by rw [hg]; exact (below_size TB) : w.heap.size ≤ gb774)); have GE774 := aM ((by rw [hg]; exact (below_size TB) : w.heap.size ≤ gb774)); have NB773_774 := aM ((by rw [hg]; exact Nat.ne_of_lt (blk_lt (g := ah) (o := .cells #[.int .i64 aj, .int .i64 af, .int .i64 ag, .slice al ae.length am] 33 (0, 0)) TK) : ah ≠ gb774)); have NB774_773 := aM ((by rw [hg]; exact Nat.ne_of_gt (blk_lt (g := ah) (o := .cells #[.int .i64 aj, .int .i64 af, .int .i64 ag, .slice al ae.length am] 33 (0, 0)) TK) : gb774 ≠ ah)); replace aa := aM (blk_below (g := ah) (o := .cells #[.int .i64 aj, .int .i64 af, .int .i64 ag, .slice al ae.length am] 33 (0, 0)) TK hb); replace HB := aM (below_step TB hb); clear hb hbox hg; have hnb8 := NB773_774.out; have hnc8 := NB774_773.out; obtain ⟨aY, a6, aX, a5⟩ := cz4 aa.out; obtain ⟨aV, aZ, aW, aU⟩ := fz4 aa.out) | ((with_reducible refine gate_callee (f := 19) rfl ?_); refine gL (some 11) Try.func19 #[.agg #[.int .i64 aj, .int .i64 af, .int .i64 ag, .slice al ae.length am]] ?_; (with_reducible refine (spec_BuildNew.calls k aj af ag _ _ ae ar au _ ?side1 ?side2 A3.out).mono ?_); (case side1 => have X_ := (Kd.C_below av.out HB.out); exact TC); (case side2 => exact ay.out); rintro e w10 ⟨v777, rfl, ho0, hb⟩; refine ⟨_, rfl, ?_⟩; have HO778 := aM (Kd.R_lower ho0 (below_size TB)); replace aa := aM (blk_below (g := ah) (o := .cells #[.int .i64 aj, .int .i64 af, .int .i64 ag, .slice al ae.length am] 33 (0, 0)) TK hb); replace ac := aM (blk_below (g := gb774) (o := .cells #[.int .i64 0, .slice none 0 0] 35 (0, 0)) TK hb); replace HB := aM (below_step TB hb); clear ho0 hb) | ((with_reducible refine gate_dst (N := 5) rfl ?_); refine gBx 5 #[.int .i64 0, .slice none 0 0] 35 ?_; intro gb779 hg w11 hbox hb; have ad := aM (hbox); have GW779 := aM ((by rw [hg]; exact (below_size TB) : w.heap.size ≤ gb779)); have GE779 := aM ((by rw [hg]; exact (below_size TB) : w.heap.size ≤ gb779)); have NB773_779 := aM ((by rw [hg]; exact Nat.ne_of_lt (blk_lt (g := ah) (o := .cells #[.int .i64 aj, .int .i64 af, .int .i64 ag, .slice al ae.length am] 33 (0, 0)) TK) : ah ≠ gb779)); have NB779_773 := aM ((by rw [hg]; exact Nat.ne_of_gt (blk_lt (g := ah) (o := .cells #[.int .i64 aj, .int .i64 af, .int .i64 ag, .slice al ae.length am] 33 (0, 0)) TK) : gb779 ≠ ah)); have NB774_779 := aM ((by rw [hg]; exact Nat.ne_of_lt (blk_lt (g := gb774) (o := .cells #[.int .i64 0, .slice none 0 0] 35 (0, 0)) TK) : gb774 ≠ gb779)); have NB779_774 := aM ((by rw [hg]; exact Nat.ne_of_gt (blk_lt (g := gb774) (o := .cells #[.int .i64 0, .slice none 0 0] 35 (0, 0)) TK) : gb779 ≠ gb774)); replace HO778 := aM (Kd.R_below (by have X_ := HO778.out; exact TR) hb); replace aa := aM (blk_below (g := ah) (o := .cells #[.int .i64 aj, .int .i64 af, .int .i64 ag, .slice al ae.length am] 33 (0, 0)) TK hb); replace ac := aM (blk_below (g := gb774) (o := .cells #[.int .i64 0, .slice none 0 0] 35 (0, 0)) TK hb); replace HB := aM (below_step TB hb); clear hb hbox hg; have hnb12 := NB779_773.out; have hnc12 := NB773_779.out; have hnb13 := NB779_774.out; have hnc13 := NB774_779.out; obtain ⟨aP, aQ⟩ := cz2 ad.out; obtain ⟨aR, aI⟩ := fz2 ad.out; obtain ⟨Ao15, co15, eo15⟩ := Kd.R_slice HO778.out; subst eo15; obtain ⟨aS, aK, aJ, aL⟩ := cz4 aa.out; obtain ⟨aO, aT, aH, aN⟩ := fz4 aa.out) | ((with_reducible refine gate_callee (f := 48) rfl ?_); (with_reducible refine gate_dst (N := 13) rfl ?_); generalize hG_ : wpList _ _ _ _ _ _ = G_))
 subst hG_
 by_cases c17 : t780 = true
 ·subst c17
  replace H := ifT H
  have H' := aM H
  clear H
  go_wp2_with (first | ((with_reducible refine gate_callee (f := 48) rfl ?_); refine gL (some 13) Try.func48 #[.agg #[.int .i64 aj, .int .i64 af, .int .i64 ag, .slice al ae.length am]] ?_; (with_reducible refine (spec_ManOk.calls k aj af ag _ _ ae true _ ?side1 ?side2 A4.out).mono ?_); (case side1 => exact Kd.C_below av.out TB); (case side2 => exact ay.out); rintro e w18 ⟨rfl, hb⟩; refine ⟨_, rfl, ?_⟩; replace HO778 := aM (Kd.R_below (by (with_reducible repeat (first | apply Kd.R_alloc | apply Kd.R_drewN | apply Kd.R_drew)); exact (R_off (Kd.R_types HO778.out ad.out (by decide)) TO)) hb); replace aa := aM (blk_below (g := ah) (o := .cells #[.int .i64 aj, .int .i64 af, .int .i64 ag, .slice al ae.length am] 33 (0, 0)) (by (with_reducible repeat (first | refine blk_drewN ?_ _ | refine blk_drew ?_ | refine blk_alloc ?_ _)); refine blk_far ?_ NB773_779.out _; (with_reducible repeat (first | refine blk_drewN ?_ _ | refine blk_drew ?_ | refine blk_alloc ?_ _)); refine blk_far ?_ NB773_779.out _; (with_reducible repeat (first | refine blk_drewN ?_ _ | refine blk_drew ?_ | refine blk_alloc ?_ _)); exact aa.out) hb); replace ac := aM (blk_below (g := gb774) (o := .cells #[.int .i64 0, .slice none 0 0] 35 (0, 0)) (by (with_reducible repeat (first | refine blk_drewN ?_ _ | refine blk_drew ?_ | refine blk_alloc ?_ _)); refine blk_far ?_ NB774_779.out _; (with_reducible repeat (first | refine blk_drewN ?_ _ | refine blk_drew ?_ | refine blk_alloc ?_ _)); refine blk_far ?_ NB774_779.out _; (with_reducible repeat (first | refine blk_drewN ?_ _ | refine blk_drew ?_ | refine blk_alloc ?_ _)); exact ac.out) hb); replace ad := aM (blk_below (g := gb779) (o := .cells #[.int .i64 ar, .slice Ao15 au.length co15] 35 (0, 0)) (by (with_reducible repeat (first | refine blk_drewN ?_ _ | refine blk_drew ?_ | refine blk_alloc ?_ _)); refine blk_put (cs := #[.int .i64 ar, .slice none 0 0]) ?_ 1 _ rfl; (with_reducible repeat (first | refine blk_drewN ?_ _ | refine blk_drew ?_ | refine blk_alloc ?_ _)); refine blk_put (cs := #[.int .i64 0, .slice none 0 0]) ?_ 0 _ rfl; (with_reducible repeat (first | refine blk_drewN ?_ _ | refine blk_drew ?_ | refine blk_alloc ?_ _)); exact ad.out) hb); replace HB := aM (below_step TB hb); clear hb))
  go_loopg [6] k (fun kq v6 w' => ∃ (ao : Int) (ai : Int) (ak : List Int) (ap : Value), v6 = .int .i64 ao ∧ Aside0 (spec_BuildFrom.l0 kq l1 ao aj af ag ae ai ak = some (r1, r2)) ∧ Aside0 (kq ≤ k) ∧ Aside0 (Kd.R (Kd.int .u8) 5 w' w.heap.size (fun _ => True) ap ak) ∧ Aside0 (w'.heap[ah]? = some (.cells #[.int .i64 aj, .int .i64 af, .int .i64 ag, (.slice al ae.length am)] 33 (0, 0))) ∧ Aside0 (w'.heap[gb774]? = some (.cells #[.int .i64 0, (.slice none 0 0)] 35 (0, 0))) ∧ Aside0 (w'.heap[gb779]? = some (.cells #[.int .i64 ai, ap] 35 (0, 0))) ∧ Aside0 (Below w.heap.size w w'))
  case atStart => exact ⟨(0), (ar), (au), (.slice Ao15 au.length co15), (by first | rfl | (simp; done) | (simp [*]; done)), H', ⟨Nat.le_refl _⟩, ⟨by have X_ := HO778.out; exact TR⟩, ⟨TK⟩, ⟨TK⟩, ⟨TK⟩, ⟨TB⟩⟩
  case round =>
   clear H'
   try clear c1
   try clear p2
   try clear c3
   try clear c4
   try clear c8
   try clear c12
   try clear c13
   try clear c17
   try clear aP
   try clear aQ
   try clear aS
   try clear aK
   try clear aJ
   try clear aL
   try clear aY
   try clear a6
   try clear aX
   try clear a5
   try clear aR
   try clear aI
   try clear aO
   try clear aT
   try clear aH
   try clear aN
   try clear aV
   try clear aZ
   try clear aW
   try clear aU
   obtain ⟨ao, ai, ak, ap, rfl, HA, HK1, ab, aa, ac, ad, HB⟩ := hrel
   cases gk with
   | zero => exact absurd HA.out (by simp [spec_BuildFrom.l0])
   | succ k1 =>
    have H := HA.out
    clear HA
    simp only [spec_BuildFrom.l0] at H
    by_cases c19 : ao < (ae.length : Int)
    ·rw [if_pos c19] at H
     have c19b0 : decide (ao < (ae.length : Int)) = true := decide_eq_true c19
     clear c19
     replace H := bE H
     obtain ⟨an, A20, H⟩ := H
     replace H := bE H
     obtain ⟨⟨t782, aq⟩, A21, H⟩ := H
     dsimp only at H
     have hnb22 := NB773_774.out
     have hnc22 := NB774_773.out
     have hnb23 := NB773_779.out
     have hnc23 := NB779_773.out
     obtain ⟨hcz24_0, hcz24_1, hcz24_2, hcz24_3⟩ := cz4 aa.out
     obtain ⟨hfz24_0, hfz24_1, hfz24_2, hfz24_3⟩ := fz4 aa.out
     go_wp2_with (first | ((with_reducible refine gate_callee (f := 73) rfl ?_); refine gL (some 26) Try.func73 #[.slice A1 l1.length c1, .agg #[.int .i64 aj, .int .i64 af, .int .i64 ag, .slice al ae.length am], .int .i64 ao] ?_; (with_reducible refine (spec_PlaceOf.calls k1 _ _ l1 aj af ag _ _ ae ao an _ ?side1 ?side2 ?side3 ?side4 A20.out).mono ?_); (case side1 => repeat (first | exact (Kd.C_below HR1.out TB) | (with_reducible refine Kd.C_alloc ?_ _) | (with_reducible refine Kd.C_drewN ?_ _) | (with_reducible refine Kd.C_drew ?_))); (case side2 => exact HC1.out); (case side3 => repeat (first | exact (Kd.C_below av.out TB) | (with_reducible refine Kd.C_alloc ?_ _) | (with_reducible refine Kd.C_drewN ?_ _) | (with_reducible refine Kd.C_drew ?_))); (case side4 => exact ay.out); rintro e w25 ⟨rfl, hb⟩; refine ⟨_, rfl, ?_⟩; replace ab := aM (Kd.R_below (by have X_ := ab.out; exact TR) hb); replace aa := aM (blk_below (g := ah) (o := .cells #[.int .i64 aj, .int .i64 af, .int .i64 ag, .slice al ae.length am] 33 (0, 0)) TK hb); replace ac := aM (blk_below (g := gb774) (o := .cells #[.int .i64 0, .slice none 0 0] 35 (0, 0)) TK hb); replace ad := aM (blk_below (g := gb779) (o := .cells #[.int .i64 ai, ap] 35 (0, 0)) TK hb); replace HB := aM (below_step TB hb); clear hb; obtain ⟨hcz26_0, hcz26_1, hcz26_2, hcz26_3⟩ := cz4 aa.out; obtain ⟨hfz26_0, hfz26_1, hfz26_2, hfz26_3⟩ := fz4 aa.out) | ((with_reducible refine gate_callee (f := 53) rfl ?_); (with_reducible refine gate_dst (N := 33) rfl ?_); generalize hG_ : wpList _ _ _ _ _ _ = G_))
     subst hG_
     by_cases c27 : an ≥ 0
     ·rw [if_pos c27] at H
      have c27b0 : decide (0 ≤ an) = true := decide_eq_true c27
      clear c27
      replace H := ifN H
      obtain ⟨c28, H⟩ := H
      have c28b0 := eq_true c28
      have c28b1 : decide (0 ≤ an) = true := decide_eq_true c28
      clear c28
      replace H := ifN H
      obtain ⟨c29, H⟩ := H
      have c29b0 := eq_true c29
      have c29b1 : decide (an ≤ (wrap64 (an + aq))) = true := decide_eq_true c29
      replace H := ifN H
      obtain ⟨c30, H⟩ := H
      have c30b0 := eq_true c30
      have c30b1 : decide ((wrap64 (an + aq)) ≤ (l1.length : Int)) = true := decide_eq_true c30
      replace H := bE H
      obtain ⟨⟨t785, t786⟩, A31, H⟩ := H
      replace H := bE H
      obtain ⟨⟨aB, aA⟩, A32, H⟩ := H
      dsimp only at H
      have H' := aM H
      clear H
      try go_wp2_with (first | ((with_reducible refine gate_callee (f := 53) rfl ?_); refine gL (some 33) Try.func53 #[.int .i64 af, .int .i64 ag, .int .i64 ao] ?_; (with_reducible refine (spec_SpanOf.calls af ag ao t782 aq _ A21.out).mono ?_); rintro e w' ⟨rfl, ⟨nd, rfl⟩⟩; refine ⟨_, rfl, ?_⟩; (try (rw [drewN_self w25]; generalize hq_ : World.drewN w25 _ = w25; have n0_ : Aside0 (Kd.R (Kd.int .u8) 5 w25 w.heap.size (fun _ => True) ap ak) := ⟨by rw [← hq_]; exact (by have X_ := ab.out; exact TR)⟩; have n1_ : Aside0 (w25.heap[ah]? = some (.cells #[.int .i64 aj, .int .i64 af, .int .i64 ag, .slice al ae.length am] 33 (0, 0))) := ⟨by rw [← hq_]; exact TK⟩; have n2_ : Aside0 (w25.heap[gb774]? = some (.cells #[.int .i64 0, .slice none 0 0] 35 (0, 0))) := ⟨by rw [← hq_]; exact TK⟩; have n3_ : Aside0 (w25.heap[gb779]? = some (.cells #[.int .i64 ai, ap] 35 (0, 0))) := ⟨by rw [← hq_]; exact TK⟩; have n4_ : Aside0 (Below w.heap.size w w25) := ⟨by rw [← hq_]; exact TB⟩; clear ab aa ac ad HB hq_; have ab := n0_; have aa := n1_; have ac := n2_; have ad := n3_; have HB := n4_; clear n0_ n1_ n2_ n3_ n4_))))
      replace ab := aM (Kd.R_drew ab.out)
      replace aa := aM (blk_drew aa.out)
      replace ac := aM (blk_drew ac.out)
      replace ad := aM (blk_drew ad.out)
      replace HB := aM (below_drew1 HB.out)
      obtain ⟨i034, aG, _, aE, _⟩ := info_parts info5
      obtain ⟨A34, hcut34, hA34, hC34⟩ := print_mid_of (P := Try.prog) (Value.int .u8) 0 25 5 .i64 .i64 Try.underlying25 aG aE A1 c1 l1 an (wrap64 (an + aq)) DT (by first | omega | exact DT) DT HC1.out
      have aF := aM (Kd.C_of_reads (h1 := fun _ => rfl) (hA34 _ (Kd.reads_of_C HR1.out)))
      have HC784 := aM hC34
      clear hA34 hC34 aG aE
      refine start_ (n := 9) (S := fun w' => w'.cell? ⟨ah, 0, none⟩ = some (.int .i64 aj) ∧ w'.cell? ⟨ah, 1, none⟩ = some (.int .i64 af) ∧ w'.cell? ⟨ah, 2, none⟩ = some (.int .i64 ag) ∧ w'.cell? ⟨ah, 3, none⟩ = some (.slice al ae.length am)) (ds := []) (Array.replicate 9 false) (by kernel_rfl) rfl rfl (cz4 aa.out) (fun hHeld => ?_)
      generalize w25.drew = w33 at ab aa ac ad HB aF hHeld ⊢
      refine pP 1 (some 39) ?_
      refine pP 2 (some 40) ?_
      refine pP 3 (some 41) ?_
      refine pP 4 (some 42) ?_
      refine pP 5 (some 43) ?_
      refine pP 6 (some 44) ?_
      refine pP 7 (some 45) ?_
      refine pT 0 (some 38) ?_
      obtain ⟨ax, aw, eo39⟩ := Kd.R_slice ab.out
      subst eo39
      refine pO 8 (some 46) (fun K hK => ?_)
      obtain ⟨tb_, Ab_⟩ := spec_l8Put.has A32.out
      refine goes_ Try.func69 (by kernel_rfl) rfl #[.agg #[.int .i64 aj, .int .i64 af, .int .i64 ag, .slice al ae.length am], .pointer (some ⟨gb779, 0, none⟩), .int .i64 ao, .slice A34 ((l1.take ((wrap64 (an + aq)) : Int).toNat).drop (an : Int).toNat).length (c1 - an.toNat)] (by rfl) rfl rfl (by (try simp only [List.map_toArray, List.map_cons, List.map_nil]); first | done | (rw [show ((l1.take ((wrap64 (an + aq)) : Int).toNat).drop (an : Int).toNat).length = ((wrap64 (an + aq)).toNat - an.toNat) from (by rw [List.length_drop, List.length_take]; have h_ : ((wrap64 (an + aq)) : Int) ≤ (l1.length : Int) := DT; omega)] <;> rfl) | rfl | (simp only [List.length_drop, List.length_take]; rfl)) ?_
      with_reducible refine (spec_l8Put.calls k1 gb779 ax aw _ _ _ _ _ _ _ _ _ _ _ _ _ _ _ (fun _ => True) w _ ?p1 ?p2 ?p3 ?p4 ?p6 ?p5 ?p7 Ab_ A32.out).mono ?_
      (case p1 => exact TB)
      (case p2 => exact GW779.out)
      (case p3 => have X_ := ad.out; exact TX)
      (case p4 => exact Kd.R_mono (by have X_ := ab.out; exact TR) (fun _ _ => trivial))
      (case p6 => have X_ := (Kd.C_below av.out HB.out); exact TC)
      (case p5 => exact Kd.C_kept_came (Kd.heap_int .u8) aF.out TB (fun k_ q_ => Or.elim q_ (fun e_ => by rw [e_]; exact GW779.out) (fun e_ => Kd.R_base ab.out k_ e_.symm)))
      (case p7 => exact HC784.out)
      rintro e w40 ⟨rfl, hl_, hG_, hO_, hb_, hk_⟩
      refine ⟨_, rfl, ?_⟩
      obtain ⟨wv_, hv1_, hv2_, az⟩ := virt_ (.int .i64 ai) (.slice ax ak.length aw) hG_
      replace aa := aM (blk_kept (by have X_ := aa.out; exact TX) hk_ (fun q_ => Or.elim q_ (fun e_ => NB773_779.out e_) (fun e_ => Kd.R_ne ab.out (by have X_ := aa.out; exact TX) (by decide) e_)))
      replace ac := aM (blk_kept (by have X_ := ac.out; exact TX) hk_ (fun q_ => Or.elim q_ (fun e_ => NB774_779.out e_) (fun e_ => Kd.R_ne ab.out (by have X_ := ac.out; exact TX) (by decide) e_)))
      have HO790 := aM (Kd.R_mono (ok' := fun _ => True) (Kd.R_move (Kd.R_types hO_ hG_ (by decide)) (fun k_ q_ => az.2.2 k_ q_.2)) (fun _ _ => trivial))
      clear ab
      replace ad := aM hG_
      refine hK.out _ _ (cz4 aa.out) (fun hHeld => ?_)
      clear hK K
      refine nR ?_
      refine done_ (by kernel_rfl) ?_
      clear hHeld
      replace aa := aM ((az.2.2 _ NB773_779.out).trans aa.out)
      replace ac := aM ((az.2.2 _ NB774_779.out).trans ac.out)
      replace ad := aM hv2_
      replace HB := aM (az.below hb_ GW779.out)
      clear hl_ hG_ hO_ hb_ hk_ hv2_ az
      subst hv1_
      obtain ⟨hcz41_0, hcz41_1⟩ := cz2 ad.out
      obtain ⟨hfz41_0, hfz41_1⟩ := fz2 ad.out
      try go_wp2
      go_roundg k1
      case measure => have := HK1.out; omega
      case rel => exact ⟨(wrap64 (ao + 1)), (aB), (aA), (.slice ax aA.length aw), (by first | rfl | (simp; done) | (simp [*]; done)), H', ⟨by have := HK1.out; omega⟩, ⟨by (with_reducible repeat (first | apply Kd.R_alloc | apply Kd.R_drewN | apply Kd.R_drew)); exact Kd.R_mono (Kd.R_far (p := ⟨gb779, 1, none⟩) (Kd.R_far (p := ⟨gb779, 0, none⟩) (Kd.R_types HO790.out ad.out (by decide)) (fun _ hk => hk.2) (.int .i64 aB)) (fun _ hk => hk.2) (.slice ax aA.length aw)) (fun _ hk => trivial)⟩, ⟨by (with_reducible repeat (first | refine blk_drewN ?_ _ | refine blk_drew ?_ | refine blk_alloc ?_ _)); refine blk_far ?_ NB773_779.out _; (with_reducible repeat (first | refine blk_drewN ?_ _ | refine blk_drew ?_ | refine blk_alloc ?_ _)); refine blk_far ?_ NB773_779.out _; (with_reducible repeat (first | refine blk_drewN ?_ _ | refine blk_drew ?_ | refine blk_alloc ?_ _)); exact aa.out⟩, ⟨by (with_reducible repeat (first | refine blk_drewN ?_ _ | refine blk_drew ?_ | refine blk_alloc ?_ _)); refine blk_far ?_ NB774_779.out _; (with_reducible repeat (first | refine blk_drewN ?_ _ | refine blk_drew ?_ | refine blk_alloc ?_ _)); refine blk_far ?_ NB774_779.out _; (with_reducible repeat (first | refine blk_drewN ?_ _ | refine blk_drew ?_ | refine blk_alloc ?_ _)); exact ac.out⟩, ⟨by (with_reducible repeat (first | refine blk_drewN ?_ _ | refine blk_drew ?_ | refine blk_alloc ?_ _)); refine blk_put (cs := #[.int .i64 aB, .slice ax ak.length aw]) ?_ 1 _ rfl; (with_reducible repeat (first | refine blk_drewN ?_ _ | refine blk_drew ?_ | refine blk_alloc ?_ _)); refine blk_put (cs := #[.int .i64 ai, .slice ax ak.length aw]) ?_ 0 _ rfl; (with_reducible repeat (first | refine blk_drewN ?_ _ | refine blk_drew ?_ | refine blk_alloc ?_ _)); exact ad.out⟩, ⟨TB⟩⟩
     ·rw [if_neg c27] at H
      have c27b0 : decide (0 ≤ an) = false := decide_eq_false c27
      clear c27
      have H' := aM H
      clear H
      go_wp2_with (first | ((with_reducible refine gate_callee (f := 53) rfl ?_); refine gL (some 33) Try.func53 #[.int .i64 af, .int .i64 ag, .int .i64 ao] ?_; (with_reducible refine (spec_SpanOf.calls af ag ao t782 aq _ A21.out).mono ?_); rintro e w' ⟨rfl, ⟨nd, rfl⟩⟩; refine ⟨_, rfl, ?_⟩))
      go_roundg k1
      case measure => have := HK1.out; omega
      case rel => exact ⟨(wrap64 (ao + 1)), (ai), (ak), (ap), (by first | rfl | (simp; done) | (simp [*]; done)), H', ⟨by have := HK1.out; omega⟩, ⟨by have X_ := ab.out; exact TR⟩, ⟨TK⟩, ⟨TK⟩, ⟨TK⟩, ⟨TB⟩⟩
    ·rw [if_neg c19] at H
     have c19b0 : decide (ao < (ae.length : Int)) = false := decide_eq_false c19
     clear c19
     simp only [Option.some.injEq, Prod.mk.injEq] at H
     obtain ⟨rfl, rfl⟩ := H
     have hnb43 := NB773_774.out
     have hnc43 := NB774_773.out
     have hnb44 := NB773_779.out
     have hnc44 := NB779_773.out
     obtain ⟨hcz45_0, hcz45_1, hcz45_2, hcz45_3⟩ := cz4 aa.out
     obtain ⟨hfz45_0, hfz45_1, hfz45_2, hfz45_3⟩ := fz4 aa.out
     have hnb46 := NB779_774.out
     have hnc46 := NB774_779.out
     obtain ⟨hcz47_0, hcz47_1⟩ := cz2 ad.out
     obtain ⟨hfz47_0, hfz47_1⟩ := fz2 ad.out
     obtain ⟨hcz48_0, hcz48_1⟩ := cz2 ac.out
     obtain ⟨hfz48_0, hfz48_1⟩ := fz2 ac.out
     obtain ⟨Ao49, co49, eo49⟩ := Kd.R_slice ab.out
     subst eo49
     go_wp2
     refine bodyPost_ret (results_cell_row rfl _ _ gb774 35 #[.int .i64 ai, .slice Ao49 ak.length co49] (0, 0) _ rfl (by (with_reducible repeat (first | refine blk_drewN ?_ _ | refine blk_drew ?_ | refine blk_alloc ?_ _)); refine blk_put (cs := #[.int .i64 ai, .slice none 0 0]) ?_ 1 _ rfl; (with_reducible repeat (first | refine blk_drewN ?_ _ | refine blk_drew ?_ | refine blk_alloc ?_ _)); refine blk_put (cs := #[.int .i64 0, .slice none 0 0]) ?_ 0 _ rfl; (with_reducible repeat (first | refine blk_drewN ?_ _ | refine blk_drew ?_ | refine blk_alloc ?_ _)); exact ac.out) Try.underlying35 rfl (by kernel_rfl)) rfl ?_
     exact ⟨_, by first | rfl | (simp [errW_none, errW_some] <;> rfl) | (simp [*, errW_none, errW_some] <;> rfl), by (with_reducible repeat (first | apply Kd.R_alloc | apply Kd.R_drewN | apply Kd.R_drew)); exact Kd.R_mono (Kd.R_far (p := ⟨gb774, 1, none⟩) (Kd.R_far (p := ⟨gb774, 0, none⟩) (Kd.R_types ab.out ac.out (by decide)) (fun _ hk => hk.2) (.int .i64 ai)) (fun _ hk => hk.2) (.slice Ao49 ak.length co49)) (fun _ hk => trivial), TB⟩
 ·replace c17 := Bool.eq_false_iff.mpr c17
  subst c17
  replace H := ifF H
  simp only [Option.some.injEq, Prod.mk.injEq] at H
  obtain ⟨rfl, rfl⟩ := H
  go_wp2_with (first | ((with_reducible refine gate_callee (f := 48) rfl ?_); refine gL (some 13) Try.func48 #[.agg #[.int .i64 aj, .int .i64 af, .int .i64 ag, .slice al ae.length am]] ?_; (with_reducible refine (spec_ManOk.calls k aj af ag _ _ ae false _ ?side1 ?side2 A4.out).mono ?_); (case side1 => exact Kd.C_below av.out TB); (case side2 => exact ay.out); rintro e w50 ⟨rfl, hb⟩; refine ⟨_, rfl, ?_⟩; replace HO778 := aM (Kd.R_below (by (with_reducible repeat (first | apply Kd.R_alloc | apply Kd.R_drewN | apply Kd.R_drew)); exact (R_off (Kd.R_types HO778.out ad.out (by decide)) TO)) hb); replace aa := aM (blk_below (g := ah) (o := .cells #[.int .i64 aj, .int .i64 af, .int .i64 ag, .slice al ae.length am] 33 (0, 0)) (by (with_reducible repeat (first | refine blk_drewN ?_ _ | refine blk_drew ?_ | refine blk_alloc ?_ _)); refine blk_far ?_ NB773_779.out _; (with_reducible repeat (first | refine blk_drewN ?_ _ | refine blk_drew ?_ | refine blk_alloc ?_ _)); refine blk_far ?_ NB773_779.out _; (with_reducible repeat (first | refine blk_drewN ?_ _ | refine blk_drew ?_ | refine blk_alloc ?_ _)); exact aa.out) hb); replace ac := aM (blk_below (g := gb774) (o := .cells #[.int .i64 0, .slice none 0 0] 35 (0, 0)) (by (with_reducible repeat (first | refine blk_drewN ?_ _ | refine blk_drew ?_ | refine blk_alloc ?_ _)); refine blk_far ?_ NB774_779.out _; (with_reducible repeat (first | refine blk_drewN ?_ _ | refine blk_drew ?_ | refine blk_alloc ?_ _)); refine blk_far ?_ NB774_779.out _; (with_reducible repeat (first | refine blk_drewN ?_ _ | refine blk_drew ?_ | refine blk_alloc ?_ _)); exact ac.out) hb); replace ad := aM (blk_below (g := gb779) (o := .cells #[.int .i64 ar, .slice Ao15 au.length co15] 35 (0, 0)) (by (with_reducible repeat (first | refine blk_drewN ?_ _ | refine blk_drew ?_ | refine blk_alloc ?_ _)); refine blk_put (cs := #[.int .i64 ar, .slice none 0 0]) ?_ 1 _ rfl; (with_reducible repeat (first | refine blk_drewN ?_ _ | refine blk_drew ?_ | refine blk_alloc ?_ _)); refine blk_put (cs := #[.int .i64 0, .slice none 0 0]) ?_ 0 _ rfl; (with_reducible repeat (first | refine blk_drewN ?_ _ | refine blk_drew ?_ | refine blk_alloc ?_ _)); exact ad.out) hb); replace HB := aM (below_step TB hb); clear hb; have hnb51 := NB779_773.out; have hnc51 := NB773_779.out; have hnb52 := NB779_774.out; have hnc52 := NB774_779.out; obtain ⟨hcz53_0, hcz53_1⟩ := cz2 ad.out; obtain ⟨hfz53_0, hfz53_1⟩ := fz2 ad.out; have hnb54 := NB774_773.out; have hnc54 := NB773_774.out; obtain ⟨hcz55_0, hcz55_1⟩ := cz2 ac.out; obtain ⟨hfz55_0, hfz55_1⟩ := fz2 ac.out))
  refine bodyPost_ret (results_cell_row rfl _ _ gb774 35 #[.int .i64 ar, .slice Ao15 au.length co15] (0, 0) _ rfl (by (with_reducible repeat (first | refine blk_drewN ?_ _ | refine blk_drew ?_ | refine blk_alloc ?_ _)); refine blk_put (cs := #[.int .i64 ar, .slice none 0 0]) ?_ 1 _ rfl; (with_reducible repeat (first | refine blk_drewN ?_ _ | refine blk_drew ?_ | refine blk_alloc ?_ _)); refine blk_put (cs := #[.int .i64 0, .slice none 0 0]) ?_ 0 _ rfl; (with_reducible repeat (first | refine blk_drewN ?_ _ | refine blk_drew ?_ | refine blk_alloc ?_ _)); exact ac.out) Try.underlying35 rfl (by kernel_rfl)) rfl ?_
  exact ⟨_, by first | rfl | (simp [errW_none, errW_some] <;> rfl) | (simp [*, errW_none, errW_some] <;> rfl), by (with_reducible repeat (first | apply Kd.R_alloc | apply Kd.R_drewN | apply Kd.R_drew)); exact Kd.R_mono (Kd.R_far (p := ⟨gb774, 1, none⟩) (Kd.R_far (p := ⟨gb774, 0, none⟩) (Kd.R_types HO778.out ac.out (by decide)) (fun _ hk => hk.2) (.int .i64 ar)) (fun _ hk => hk.2) (.slice Ao15 au.length co15)) (fun _ hk => trivial), TB⟩

end Go.Proofs.Ytnoplippaiblcaa.Q
