/- Functions of the program as plain Lean functions, and that a call of each comes to what its function tells. Written by a program of this seat. -/
import Derived.Test.YtlghklbjmmijpaaQ0
import Derived.Test.YtlghklbjmmijpaaQ12
import Derived.Test.YtlghklbjmmijpaaQ14
namespace Go.Proofs.Ytlghklbjmmijpaa.Q
open Go.RowKit Go.Proofs.YtlghklbjmmijpaaW.PrintWords Go.Proofs.YtlghklbjmmijpaaW.PrintLast Go.Proofs.YtlghklbjmmijpaaW.PrintMore
attribute [local go_sem] max2_int min2_int max_two min_two max_three min_three max_four min_four   -- for this text's walks alone
set_option linter.unusedVariables false
set_option linter.unusedSimpArgs false

/-! ### spec_HoldsAny: function 41 -/
def spec_HoldsAny.f (k : Nat) (l0_0 : List Int) (l0_1 : List Int) (a0_2 : Int) (a0_3 : Int) (a0_4 : Int) (l0_5 : List (S110)) (l1 : List Int) (a2 : Int) (l3 : List Int) : Option (Bool) := (spec_Holds.f k l0_0 l0_1 a0_2 a0_3 a0_4 l0_5 0 l1).bind fun t245 => (if t245 = true then (some true) else ((spec_Holds.f k l0_0 l0_1 a0_2 a0_3 a0_4 l0_5 a2 l3).bind fun t246 => (some t246)))
theorem spec_HoldsAny.mono : ∀ a0 a1 a2 a3 a4 a5 a6 a7 a8 k, LeO (spec_HoldsAny.f k a0 a1 a2 a3 a4 a5 a6 a7 a8) (spec_HoldsAny.f (k + 1) a0 a1 a2 a3 a4 a5 a6 a7 a8) := by
  intro a0 a1 a2 a3 a4 a5 a6 a7 a8 k
  have m0_ := @spec_Holds.mono
  unfold spec_HoldsAny.f
  exact LM
set_option maxHeartbeats 40000000 in
set_option maxRecDepth 100000 in
theorem spec_HoldsAny.calls (k : Nat) (A0_0 : Option Addr) (c0_0 : Nat) (l0_0 : List Int) (A0_1 : Option Addr) (c0_1 : Nat) (l0_1 : List Int) (a0_2 : Int) (a0_3 : Int) (a0_4 : Int) (A0_5 : Option Addr) (c0_5 : Nat) (l0_5 : List (S110)) (A1 : Option Addr) (c1 : Nat) (l1 : List Int) (a2 : Int) (A3 : Option Addr) (c3 : Nat) (l3 : List Int) (r : Bool) (w : World) (hr0_0 : Kd.C (Kd.int .u8) w A0_0 l0_0.length l0_0) (hc0_0 : l0_0.length ≤ c0_0) (hr0_1 : Kd.C (Kd.int .u8) w A0_1 l0_1.length l0_1) (hc0_1 : l0_1.length ≤ c0_1) (hr0_5 : Kd.C k110 w A0_5 l0_5.length l0_5) (hc0_5 : l0_5.length ≤ c0_5) (hr1 : Kd.C (Kd.int .u8) w A1 l1.length l1) (hc1 : l1.length ≤ c1) (hr3 : Kd.C (Kd.int .u8) w A3 l3.length l3) (hc3 : l3.length ≤ c3) (h : spec_HoldsAny.f k l0_0 l0_1 a0_2 a0_3 a0_4 l0_5 l1 a2 l3 = some r) :
    Calls Try.prog 41 #[.agg #[.slice A0_0 l0_0.length c0_0, .slice A0_1 l0_1.length c0_1, .int .i64 a0_2, .int .i64 a0_3, .int .i64 a0_4, .slice A0_5 l0_5.length c0_5], .slice A1 l1.length c1, .int .i64 a2, .slice A3 l3.length c3] w fun e w' => e = .returned (.bool r) ∧ Below w.heap.size w w' := by
  have hu33 := Try.underlying33
  have HR0_0 := aM hr0_0
  have HC0_0 := aM hc0_0
  clear hr0_0 hc0_0
  have HR0_1 := aM hr0_1
  have HC0_1 := aM hc0_1
  clear hr0_1 hc0_1
  have HR0_5 := aM hr0_5
  have HC0_5 := aM hc0_5
  clear hr0_5 hc0_5
  have HR1 := aM hr1
  have HC1 := aM hc1
  clear hr1 hc1
  have HR3 := aM hr3
  have HC3 := aM hc3
  clear hr3 hc3
  have HB := aM (Below.refl w.heap.size w)
  have H := h
  clear h
  unfold spec_HoldsAny.f at H
  replace H := bE H
  obtain ⟨t245, A5, H⟩ := H
  go_enter Try.func41, Try.ntmps41
  go_wp2_with (first | ((with_reducible refine gate_dst (N := 4) rfl ?_); refine gBx 4 #[.slice A0_0 l0_0.length c0_0, .slice A0_1 l0_1.length c0_1, .int .i64 a0_2, .int .i64 a0_3, .int .i64 a0_4, .slice A0_5 l0_5.length c0_5] 33 ?_; intro gb244 hg w7 hbox hb; have BK244 := aM (hbox); have GW244 := aM ((by rw [hg]; exact (below_size TB) : w.heap.size ≤ gb244)); have GE244 := aM ((by rw [hg]; exact (below_size TB) : w.heap.size ≤ gb244)); replace HB := aM (below_step TB hb); clear hb hbox hg; obtain ⟨hcz8_0, hcz8_1, hcz8_2, hcz8_3, hcz8_4, hcz8_5⟩ := cz6 BK244.out; obtain ⟨hfz8_0, hfz8_1, hfz8_2, hfz8_3, hfz8_4, hfz8_5⟩ := fz6 BK244.out) | ((with_reducible refine gate_callee (f := 88) rfl ?_); (with_reducible refine gate_dst (N := 11) rfl ?_); generalize hG_ : wpList _ _ _ _ _ _ = G_))
  subst hG_
  by_cases c9 : t245 = true
  · subst c9
    replace H := ifT H
    obtain rfl := Option.some.inj H
    go_wp2_with (first | ((with_reducible refine gate_callee (f := 88) rfl ?_); refine gL (some 11) Try.func88 #[.agg #[.slice A0_0 l0_0.length c0_0, .slice A0_1 l0_1.length c0_1, .int .i64 a0_2, .int .i64 a0_3, .int .i64 a0_4, .slice A0_5 l0_5.length c0_5], .int .i64 0, .slice A1 l1.length c1] ?_; (with_reducible refine (spec_Holds.calls k _ _ l0_0 _ _ l0_1 a0_2 a0_3 a0_4 _ _ l0_5 0 _ _ l1 true _ ?side1 ?side2 ?side3 ?side4 ?side5 ?side6 ?side7 ?side8 A5.out).mono ?_); (case side1 => repeat (first | exact (Kd.C_below HR0_0.out TB) | (with_reducible refine Kd.C_alloc ?_ _) | (with_reducible refine Kd.C_drewN ?_ _) | (with_reducible refine Kd.C_drew ?_))); (case side2 => exact HC0_0.out); (case side3 => repeat (first | exact (Kd.C_below HR0_1.out TB) | (with_reducible refine Kd.C_alloc ?_ _) | (with_reducible refine Kd.C_drewN ?_ _) | (with_reducible refine Kd.C_drew ?_))); (case side4 => exact HC0_1.out); (case side5 => repeat (first | exact (Kd.C_below HR0_5.out TB) | (with_reducible refine Kd.C_alloc ?_ _) | (with_reducible refine Kd.C_drewN ?_ _) | (with_reducible refine Kd.C_drew ?_))); (case side6 => exact HC0_5.out); (case side7 => repeat (first | exact (Kd.C_below HR1.out TB) | (with_reducible refine Kd.C_alloc ?_ _) | (with_reducible refine Kd.C_drewN ?_ _) | (with_reducible refine Kd.C_drew ?_))); (case side8 => exact HC1.out); rintro e w10 ⟨rfl, hb⟩; refine ⟨_, rfl, ?_⟩; replace BK244 := aM (blk_below (by have X_ := BK244.out; exact TX) hb); replace HB := aM (below_step TB hb); clear hb))
    go_ret
    exact ⟨by first | rfl | (simp [errW_none, errW_some] <;> rfl) | (simp [*, errW_none, errW_some] <;> rfl), TB⟩
  · replace c9 := Bool.eq_false_iff.mpr c9
    subst c9
    replace H := ifF H
    replace H := bE H
    obtain ⟨t246, A11, H⟩ := H
    obtain rfl := Option.some.inj H
    go_wp2_with (first | ((with_reducible refine gate_callee (f := 88) rfl ?_); refine gL (some 11) Try.func88 #[.agg #[.slice A0_0 l0_0.length c0_0, .slice A0_1 l0_1.length c0_1, .int .i64 a0_2, .int .i64 a0_3, .int .i64 a0_4, .slice A0_5 l0_5.length c0_5], .int .i64 0, .slice A1 l1.length c1] ?_; (with_reducible refine (spec_Holds.calls k _ _ l0_0 _ _ l0_1 a0_2 a0_3 a0_4 _ _ l0_5 0 _ _ l1 false _ ?side1 ?side2 ?side3 ?side4 ?side5 ?side6 ?side7 ?side8 A5.out).mono ?_); (case side1 => repeat (first | exact (Kd.C_below HR0_0.out TB) | (with_reducible refine Kd.C_alloc ?_ _) | (with_reducible refine Kd.C_drewN ?_ _) | (with_reducible refine Kd.C_drew ?_))); (case side2 => exact HC0_0.out); (case side3 => repeat (first | exact (Kd.C_below HR0_1.out TB) | (with_reducible refine Kd.C_alloc ?_ _) | (with_reducible refine Kd.C_drewN ?_ _) | (with_reducible refine Kd.C_drew ?_))); (case side4 => exact HC0_1.out); (case side5 => repeat (first | exact (Kd.C_below HR0_5.out TB) | (with_reducible refine Kd.C_alloc ?_ _) | (with_reducible refine Kd.C_drewN ?_ _) | (with_reducible refine Kd.C_drew ?_))); (case side6 => exact HC0_5.out); (case side7 => repeat (first | exact (Kd.C_below HR1.out TB) | (with_reducible refine Kd.C_alloc ?_ _) | (with_reducible refine Kd.C_drewN ?_ _) | (with_reducible refine Kd.C_drew ?_))); (case side8 => exact HC1.out); rintro e w12 ⟨rfl, hb⟩; refine ⟨_, rfl, ?_⟩; replace BK244 := aM (blk_below (by have X_ := BK244.out; exact TX) hb); replace HB := aM (below_step TB hb); clear hb; obtain ⟨hcz13_0, hcz13_1, hcz13_2, hcz13_3, hcz13_4, hcz13_5⟩ := cz6 BK244.out; obtain ⟨hfz13_0, hfz13_1, hfz13_2, hfz13_3, hfz13_4, hfz13_5⟩ := fz6 BK244.out) | (go_at_call 88; (with_reducible refine (spec_Holds.calls k _ _ l0_0 _ _ l0_1 a0_2 a0_3 a0_4 _ _ l0_5 a2 _ _ l3 t246 _ ?side1 ?side2 ?side3 ?side4 ?side5 ?side6 ?side7 ?side8 A11.out).mono ?_); (case side1 => have X_ := (Kd.C_below HR0_0.out HB.out); exact TC); (case side2 => exact HC0_0.out); (case side3 => have X_ := (Kd.C_below HR0_1.out HB.out); exact TC); (case side4 => exact HC0_1.out); (case side5 => have X_ := (Kd.C_below HR0_5.out HB.out); exact TC); (case side6 => exact HC0_5.out); (case side7 => have X_ := (Kd.C_below HR3.out HB.out); exact TC); (case side8 => exact HC3.out); rintro e w14 ⟨rfl, hb⟩; replace BK244 := aM (blk_below (by have X_ := BK244.out; exact TX) hb); replace HB := aM (below_step TB hb); clear hb))
    go_ret
    exact ⟨by first | rfl | (simp [errW_none, errW_some] <;> rfl) | (simp [*, errW_none, errW_some] <;> rfl), TB⟩

/-! ### spec_SafeFall: function 9 -/
def spec_SafeFall.l0 : Nat → List Int → Int → List Int → List (S33) → Int → List Int → List Int → Int → Int → Int → List (S110) → Option (Bool)
  | 0, _, _, _, _, _, _, _, _, _, _, _ => none
  | k + 1, x1, x2, x3, x9, x10, x248000, x248001, x248002, x248003, x248004, x248005 => if x10 < (x9.length : Int) then (if 0 ≤ x10 then ((spec_HoldsAny.f k ((rd_T33 x9 x10).f0) ((rd_T33 x9 x10).f1) ((rd_T33 x9 x10).f2.f0) ((rd_T33 x9 x10).f2.f1) ((rd_T33 x9 x10).f2.f2) ((rd_T33 x9 x10).f3) x1 x2 x3).bind fun t252 => (if t252 = true then (spec_SafeFall.l0 k x1 x2 x3 x9 (wrap64 (x10 + 1)) x248000 x248001 x248002 x248003 x248004 x248005) else (some false))) else (none)) else ((spec_HoldsAny.f k x248000 x248001 x248002 x248003 x248004 x248005 x1 x2 x3).bind fun t253 => (some t253))
def spec_SafeFall.f (k : Nat) (l0_0 : List Int) (l0_1 : List Int) (a0_2 : Int) (a0_3 : Int) (a0_4 : Int) (l0_5 : List (S110)) (l1 : List Int) (a2 : Int) (l3 : List Int) : Option (Bool) := (spec_AllFalls.f k l0_0 l0_1 a0_2 a0_3 a0_4 l0_5).bind fun t248 => (spec_SafeFall.l0 k l1 a2 l3 t248 0 l0_0 l0_1 a0_2 a0_3 a0_4 l0_5)
theorem spec_SafeFall.mono_l : ∀ k, (∀ y0 y1 y2 y3 y4 y5 y6 y7 y8 y9 y10, LeO (spec_SafeFall.l0 k y0 y1 y2 y3 y4 y5 y6 y7 y8 y9 y10) (spec_SafeFall.l0 (k + 1) y0 y1 y2 y3 y4 y5 y6 y7 y8 y9 y10))
  | 0 => fun _ _ _ _ _ _ _ _ _ _ _ r h => by simp [spec_SafeFall.l0] at h
  | k + 1 => by
    have m0_ := @spec_AllFalls.mono
    have m1_ := @spec_HoldsAny.mono
    have ih0 := spec_SafeFall.mono_l k
    · intro y0 y1 y2 y3 y4 y5 y6 y7 y8 y9 y10
      unfold spec_SafeFall.l0
      exact LM
theorem spec_SafeFall.mono : ∀ a0 a1 a2 a3 a4 a5 a6 a7 a8 k, LeO (spec_SafeFall.f k a0 a1 a2 a3 a4 a5 a6 a7 a8) (spec_SafeFall.f (k + 1) a0 a1 a2 a3 a4 a5 a6 a7 a8) := by
  intro a0 a1 a2 a3 a4 a5 a6 a7 a8 k
  have m0_ := @spec_AllFalls.mono
  have m1_ := @spec_HoldsAny.mono
  have ih0 := spec_SafeFall.mono_l k
  unfold spec_SafeFall.f
  exact LM
set_option maxHeartbeats 40000000 in
set_option maxRecDepth 100000 in
theorem spec_SafeFall.calls (k : Nat) (av : Option Addr) (aA : Nat) (ah : List Int) (aw : Option Addr) (az : Nat) (ai : List Int) (am : Int) (ak : Int) (al : Int) (ay : Option Addr) (ax : Nat) (ag : List (S110)) (A1 : Option Addr) (c1 : Nat) (l1 : List Int) (a2 : Int) (A3 : Option Addr) (c3 : Nat) (l3 : List Int) (r : Bool) (w : World) (bd : Kd.C (Kd.int .u8) w av ah.length ah) (bb : ah.length ≤ aA) (ba : Kd.C (Kd.int .u8) w aw ai.length ai) (bf : ai.length ≤ az) (aY : Kd.C k110 w ay ag.length ag) (bh : ag.length ≤ ax) (hr1 : Kd.C (Kd.int .u8) w A1 l1.length l1) (hc1 : l1.length ≤ c1) (hr3 : Kd.C (Kd.int .u8) w A3 l3.length l3) (hc3 : l3.length ≤ c3) (h : spec_SafeFall.f k ah ai am ak al ag l1 a2 l3 = some r) :
  Calls Try.prog 9 #[.agg #[.slice av ah.length aA, .slice aw ai.length az, .int .i64 am, .int .i64 ak, .int .i64 al, .slice ay ag.length ax], .slice A1 l1.length c1, .int .i64 a2, .slice A3 l3.length c3] w fun e w' => e = .returned (.bool r) ∧ Below w.heap.size w w' := by
 have hu33 := Try.underlying33
 have be := aM bd
 have a9 := aM bb
 clear bd bb
 have bi := aM ba
 have aZ := aM bf
 clear ba bf
 have bc := aM aY
 have bg := aM bh
 clear aY bh
 have HR1 := aM hr1
 have HC1 := aM hc1
 clear hr1 hc1
 have HR3 := aM hr3
 have HC3 := aM hc3
 clear hr3 hc3
 have HB := aM (Below.refl w.heap.size w)
 have H := h
 clear h
 unfold spec_SafeFall.f at H
 replace H := bE H
 obtain ⟨ab, A5, H⟩ := H
 have H' := aM H
 clear H
 go_enter Try.func9, Try.ntmps9
 go_wp2_with (first | ((with_reducible refine gate_dst (N := 4) rfl ?_); refine gBx 4 #[.slice av ah.length aA, .slice aw ai.length az, .int .i64 am, .int .i64 ak, .int .i64 al, .slice ay ag.length ax] 33 ?_; intro aB hg w6 hbox hb; have af := aM (hbox); have GW247 := aM ((by rw [hg]; exact (below_size TB) : w.heap.size ≤ aB)); have GE247 := aM ((by rw [hg]; exact (below_size TB) : w.heap.size ≤ aB)); replace HB := aM (below_step TB hb); clear hb hbox hg; obtain ⟨br, bw, bs, bt, bu, bz⟩ := cz6 af.out; obtain ⟨bo, bx, bn, bm, bq, bv⟩ := fz6 af.out) | ((with_reducible refine gate_callee (f := 40) rfl ?_); refine gL (some 12) Try.func40 #[.agg #[.slice av ah.length aA, .slice aw ai.length az, .int .i64 am, .int .i64 ak, .int .i64 al, .slice ay ag.length ax]] ?_; (with_reducible refine (spec_AllFalls.calls k _ _ ah _ _ ai am ak al _ _ ag ab _ ?side1 ?side2 ?side3 ?side4 ?side5 ?side6 A5.out).mono ?_); (case side1 => have X_ := (Kd.C_below be.out HB.out); exact TC); (case side2 => exact a9.out); (case side3 => have X_ := (Kd.C_below bi.out HB.out); exact TC); (case side4 => exact aZ.out); (case side5 => have X_ := (Kd.C_below bc.out HB.out); exact TC); (case side6 => exact bg.out); rintro e w8 ⟨v249, rfl, ho0, hb⟩; refine ⟨_, rfl, ?_⟩; have HO250 := aM (Kd.R_lower (Kd.R_newB ho0 (g := aB) (o := .cells #[.slice av ah.length aA, .slice aw ai.length az, .int .i64 am, .int .i64 ak, .int .i64 al, .slice ay ag.length ax] 33 (0, 0)) TK) (below_size TB)); replace af := aM (blk_below (by have X_ := af.out; exact TX) hb); replace HB := aM (below_step TB hb); clear ho0 hb))
 go_loopg [10] k (fun kq v10 w' => ∃ (aa : Int), v10 = .int .i64 aa ∧ Aside0 (spec_SafeFall.l0 kq l1 a2 l3 ab aa ah ai am ak al ag = some r) ∧ Aside0 (kq ≤ k) ∧ Aside0 (Kd.R k33 33 w' w.heap.size (fun k_ => k_ ≠ aB) v249 ab) ∧ Aside0 (w'.heap[aB]? = some (.cells #[(.slice av ah.length aA), (.slice aw ai.length az), .int .i64 am, .int .i64 ak, .int .i64 al, (.slice ay ag.length ax)] 33 (0, 0))) ∧ Aside0 (Below w.heap.size w w'))
 case atStart => exact ⟨(0), (by first | rfl | (simp; done) | (simp [*]; done)), H', ⟨Nat.le_refl _⟩, ⟨by (with_reducible repeat (first | apply Kd.R_alloc | apply Kd.R_drewN | apply Kd.R_drew)); exact Kd.R_mono HO250.out (fun _ hk => hk.2)⟩, ⟨TK⟩, ⟨TB⟩⟩
 case round =>
  clear H'
  try clear c1
  try clear p2
  try clear c3
  try clear c4
  try clear br
  try clear bw
  try clear bs
  try clear bt
  try clear bu
  try clear bz
  try clear bo
  try clear bx
  try clear bn
  try clear bm
  try clear bq
  try clear bv
  obtain ⟨aa, rfl, HA, HK1, aj, af, HB⟩ := hrel
  cases gk with
  | zero => exact absurd HA.out (by simp [spec_SafeFall.l0])
  | succ k1 =>
   have H := HA.out
   clear HA
   simp only [spec_SafeFall.l0] at H
   by_cases c9 : aa < (ab.length : Int)
   ·rw [if_pos c9] at H
    have c9b0 : decide (aa < (ab.length : Int)) = true := decide_eq_true c9
    clear c9
    replace H := ifN H
    obtain ⟨c10, H⟩ := H
    have c10b0 : decide (0 ≤ aa) = true := decide_eq_true c10
    clear c10
    replace H := bE H
    obtain ⟨t252, A11, H⟩ := H
    obtain ⟨Ao13, co13, eo13⟩ := Kd.R_slice aj.out
    subst eo13
    have aQ : 0 ≤ (aa : Int) := DT
    have aR : aa < (ab.length : Int) := DT
    obtain ⟨ad251, aS, aV, aW, aU, aX, aT, e251, bj, bl, hx251_2, hx251_3, hx251_4, bk, aK, aO, aH, aP, aN, aJ⟩ := at_T33 (Kd.R_reads' aj.out).2.2 aa aQ aR
    cases e251
    obtain ⟨ce251, bp, bA, aC⟩ := Kd.R_get aj.out z33 aa aQ (by first | exact aR | exact DT | (have e_ := (Kd.R_reads' aj.out).1; omega))
    obtain ⟨ve251_0, ve251_1, ve251_5, rfl, aE, aD, aF⟩ := k33_openM bA
    have ap := aC 0 _ rfl
    rw [Nat.add_zero] at ap
    replace ap := Option.some.inj (ap.symm.trans bj)
    rw [ap] at aE
    have aq := aM (show Kd.R (Kd.int .u8) 5 _ _ _ _ ((rd_T33 ab aa).f0) from aE)
    clear ap aE
    have an := aC 1 _ rfl
    rw [add_field _ _ 1 (by omega)] at an
    replace an := Option.some.inj (an.symm.trans bl)
    rw [an] at aD
    have au := aM (show Kd.R (Kd.int .u8) 5 _ _ _ _ ((rd_T33 ab aa).f1) from aD)
    clear an aD
    have ao := aC 5 _ rfl
    rw [add_field _ _ 5 (by omega)] at ao
    replace ao := Option.some.inj (ao.symm.trans bk)
    rw [ao] at aF
    have ar := aM (show Kd.R k110 110 _ _ _ _ ((rd_T33 ab aa).f3) from aF)
    clear ao aF
    clear aC bp
    have ad := aM aO
    have aL := aM aK
    clear aO aK
    have ae := aM aP
    have aG := aM aH
    clear aP aH
    have ac := aM aJ
    have aI := aM aN
    clear aJ aN
    replace aQ := eq_true aQ
    replace aR := eq_true aR
    go_wp2_with (first | ((with_reducible refine gate_callee (f := 41) rfl ?_); (with_reducible refine gate_dst (N := 26) rfl ?_); generalize hG_ : wpList _ _ _ _ _ _ = G_))
    subst hG_
    by_cases c14 : t252 = true
    ·subst c14
     replace H := ifT H
     have H' := aM H
     clear H
     go_wp2_with (first | ((with_reducible refine gate_callee (f := 41) rfl ?_); refine gL (some 26) Try.func41 #[.agg #[.slice aS ((rd_T33 ab aa).f0).length aV, .slice aW ((rd_T33 ab aa).f1).length aU, .int .i64 ((rd_T33 ab aa).f2.f0), .int .i64 ((rd_T33 ab aa).f2.f1), .int .i64 ((rd_T33 ab aa).f2.f2), .slice aX ((rd_T33 ab aa).f3).length aT], .slice A1 l1.length c1, .int .i64 a2, .slice A3 l3.length c3] ?_; (with_reducible refine (spec_HoldsAny.calls k1 _ _ ((rd_T33 ab aa).f0) _ _ ((rd_T33 ab aa).f1) ((rd_T33 ab aa).f2.f0) ((rd_T33 ab aa).f2.f1) ((rd_T33 ab aa).f2.f2) _ _ ((rd_T33 ab aa).f3) _ _ l1 a2 _ _ l3 true _ ?side1 ?side2 ?side3 ?side4 ?side5 ?side6 ?side7 ?side8 ?side9 ?side10 A11.out).mono ?_); (case side1 => repeat (first | exact (by repeat (first | (with_reducible exact ad.out) | (with_reducible refine Kd.C_alloc ?_ _) | (with_reducible refine Kd.C_drewN ?_ _) | (with_reducible refine Kd.C_drew ?_) | exact ad.out)) | (with_reducible refine Kd.C_alloc ?_ _) | (with_reducible refine Kd.C_drewN ?_ _) | (with_reducible refine Kd.C_drew ?_))); (case side2 => exact aL.out); (case side3 => repeat (first | exact (by repeat (first | (with_reducible exact ae.out) | (with_reducible refine Kd.C_alloc ?_ _) | (with_reducible refine Kd.C_drewN ?_ _) | (with_reducible refine Kd.C_drew ?_) | exact ae.out)) | (with_reducible refine Kd.C_alloc ?_ _) | (with_reducible refine Kd.C_drewN ?_ _) | (with_reducible refine Kd.C_drew ?_))); (case side4 => exact aG.out); (case side5 => repeat (first | exact (by repeat (first | (with_reducible exact ac.out) | (with_reducible refine Kd.C_alloc ?_ _) | (with_reducible refine Kd.C_drewN ?_ _) | (with_reducible refine Kd.C_drew ?_) | exact ac.out)) | (with_reducible refine Kd.C_alloc ?_ _) | (with_reducible refine Kd.C_drewN ?_ _) | (with_reducible refine Kd.C_drew ?_))); (case side6 => exact aI.out); (case side7 => repeat (first | exact (Kd.C_below HR1.out TB) | (with_reducible refine Kd.C_alloc ?_ _) | (with_reducible refine Kd.C_drewN ?_ _) | (with_reducible refine Kd.C_drew ?_))); (case side8 => exact HC1.out); (case side9 => repeat (first | exact (Kd.C_below HR3.out TB) | (with_reducible refine Kd.C_alloc ?_ _) | (with_reducible refine Kd.C_drewN ?_ _) | (with_reducible refine Kd.C_drew ?_))); (case side10 => exact HC3.out); rintro e w15 ⟨rfl, hb⟩; refine ⟨_, rfl, ?_⟩; replace aj := aM (Kd.R_below (by have X_ := aj.out; exact TR) hb); replace aq := aM (Kd.R_below (by have X_ := aq.out; exact TR) hb); replace au := aM (Kd.R_below (by have X_ := au.out; exact TR) hb); replace ar := aM (Kd.R_below (by have X_ := ar.out; exact TR) hb); replace af := aM (blk_below (by have X_ := af.out; exact TX) hb); replace ad := aM (Kd.C_below (by repeat (first | (with_reducible exact ad.out) | (with_reducible refine Kd.C_alloc ?_ _) | (with_reducible refine Kd.C_drewN ?_ _) | (with_reducible refine Kd.C_drew ?_) | exact ad.out)) hb); replace ae := aM (Kd.C_below (by repeat (first | (with_reducible exact ae.out) | (with_reducible refine Kd.C_alloc ?_ _) | (with_reducible refine Kd.C_drewN ?_ _) | (with_reducible refine Kd.C_drew ?_) | exact ae.out)) hb); replace ac := aM (Kd.C_below (by repeat (first | (with_reducible exact ac.out) | (with_reducible refine Kd.C_alloc ?_ _) | (with_reducible refine Kd.C_drewN ?_ _) | (with_reducible refine Kd.C_drew ?_) | exact ac.out)) hb); replace HB := aM (below_step TB hb); (try clear hb); (try clear hb2); (try clear hk); (try clear hi)))
     go_roundg k1
     case measure => have := HK1.out; omega
     case rel => exact ⟨(wrap64 (aa + 1)), (by first | rfl | (simp; done) | (simp [*]; done)), H', ⟨by have := HK1.out; omega⟩, ⟨by have X_ := aj.out; exact TR⟩, ⟨TK⟩, ⟨TB⟩⟩
    ·replace c14 := Bool.eq_false_iff.mpr c14
     subst c14
     replace H := ifF H
     obtain rfl := Option.some.inj H
     go_wp2_with (first | ((with_reducible refine gate_callee (f := 41) rfl ?_); refine gL (some 26) Try.func41 #[.agg #[.slice aS ((rd_T33 ab aa).f0).length aV, .slice aW ((rd_T33 ab aa).f1).length aU, .int .i64 ((rd_T33 ab aa).f2.f0), .int .i64 ((rd_T33 ab aa).f2.f1), .int .i64 ((rd_T33 ab aa).f2.f2), .slice aX ((rd_T33 ab aa).f3).length aT], .slice A1 l1.length c1, .int .i64 a2, .slice A3 l3.length c3] ?_; (with_reducible refine (spec_HoldsAny.calls k1 _ _ ((rd_T33 ab aa).f0) _ _ ((rd_T33 ab aa).f1) ((rd_T33 ab aa).f2.f0) ((rd_T33 ab aa).f2.f1) ((rd_T33 ab aa).f2.f2) _ _ ((rd_T33 ab aa).f3) _ _ l1 a2 _ _ l3 false _ ?side1 ?side2 ?side3 ?side4 ?side5 ?side6 ?side7 ?side8 ?side9 ?side10 A11.out).mono ?_); (case side1 => repeat (first | exact (by repeat (first | (with_reducible exact ad.out) | (with_reducible refine Kd.C_alloc ?_ _) | (with_reducible refine Kd.C_drewN ?_ _) | (with_reducible refine Kd.C_drew ?_) | exact ad.out)) | (with_reducible refine Kd.C_alloc ?_ _) | (with_reducible refine Kd.C_drewN ?_ _) | (with_reducible refine Kd.C_drew ?_))); (case side2 => exact aL.out); (case side3 => repeat (first | exact (by repeat (first | (with_reducible exact ae.out) | (with_reducible refine Kd.C_alloc ?_ _) | (with_reducible refine Kd.C_drewN ?_ _) | (with_reducible refine Kd.C_drew ?_) | exact ae.out)) | (with_reducible refine Kd.C_alloc ?_ _) | (with_reducible refine Kd.C_drewN ?_ _) | (with_reducible refine Kd.C_drew ?_))); (case side4 => exact aG.out); (case side5 => repeat (first | exact (by repeat (first | (with_reducible exact ac.out) | (with_reducible refine Kd.C_alloc ?_ _) | (with_reducible refine Kd.C_drewN ?_ _) | (with_reducible refine Kd.C_drew ?_) | exact ac.out)) | (with_reducible refine Kd.C_alloc ?_ _) | (with_reducible refine Kd.C_drewN ?_ _) | (with_reducible refine Kd.C_drew ?_))); (case side6 => exact aI.out); (case side7 => repeat (first | exact (Kd.C_below HR1.out TB) | (with_reducible refine Kd.C_alloc ?_ _) | (with_reducible refine Kd.C_drewN ?_ _) | (with_reducible refine Kd.C_drew ?_))); (case side8 => exact HC1.out); (case side9 => repeat (first | exact (Kd.C_below HR3.out TB) | (with_reducible refine Kd.C_alloc ?_ _) | (with_reducible refine Kd.C_drewN ?_ _) | (with_reducible refine Kd.C_drew ?_))); (case side10 => exact HC3.out); rintro e w16 ⟨rfl, hb⟩; refine ⟨_, rfl, ?_⟩; replace aj := aM (Kd.R_below (by have X_ := aj.out; exact TR) hb); replace aq := aM (Kd.R_below (by have X_ := aq.out; exact TR) hb); replace au := aM (Kd.R_below (by have X_ := au.out; exact TR) hb); replace ar := aM (Kd.R_below (by have X_ := ar.out; exact TR) hb); replace af := aM (blk_below (by have X_ := af.out; exact TX) hb); replace ad := aM (Kd.C_below (by repeat (first | (with_reducible exact ad.out) | (with_reducible refine Kd.C_alloc ?_ _) | (with_reducible refine Kd.C_drewN ?_ _) | (with_reducible refine Kd.C_drew ?_) | exact ad.out)) hb); replace ae := aM (Kd.C_below (by repeat (first | (with_reducible exact ae.out) | (with_reducible refine Kd.C_alloc ?_ _) | (with_reducible refine Kd.C_drewN ?_ _) | (with_reducible refine Kd.C_drew ?_) | exact ae.out)) hb); replace ac := aM (Kd.C_below (by repeat (first | (with_reducible exact ac.out) | (with_reducible refine Kd.C_alloc ?_ _) | (with_reducible refine Kd.C_drewN ?_ _) | (with_reducible refine Kd.C_drew ?_) | exact ac.out)) hb); replace HB := aM (below_step TB hb); (try clear hb); (try clear hb2); (try clear hk); (try clear hi)))
     go_ret
     exact ⟨by first | rfl | (simp [errW_none, errW_some] <;> rfl) | (simp [*, errW_none, errW_some] <;> rfl), TB⟩
   ·rw [if_neg c9] at H
    have c9b0 : decide (aa < (ab.length : Int)) = false := decide_eq_false c9
    clear c9
    replace H := bE H
    obtain ⟨t253, A17, H⟩ := H
    obtain rfl := Option.some.inj H
    obtain ⟨Ao18, co18, eo18⟩ := Kd.R_slice aj.out
    subst eo18
    obtain ⟨hcz19_0, hcz19_1, hcz19_2, hcz19_3, hcz19_4, hcz19_5⟩ := cz6 af.out
    obtain ⟨hfz19_0, hfz19_1, hfz19_2, hfz19_3, hfz19_4, hfz19_5⟩ := fz6 af.out
    go_wp2_with (first | ((with_reducible refine gate_callee (f := 41) rfl ?_); refine gL (some 32) Try.func41 #[.agg #[.slice av ah.length aA, .slice aw ai.length az, .int .i64 am, .int .i64 ak, .int .i64 al, .slice ay ag.length ax], .slice A1 l1.length c1, .int .i64 a2, .slice A3 l3.length c3] ?_; (with_reducible refine (spec_HoldsAny.calls k1 _ _ ah _ _ ai am ak al _ _ ag _ _ l1 a2 _ _ l3 t253 _ ?side1 ?side2 ?side3 ?side4 ?side5 ?side6 ?side7 ?side8 ?side9 ?side10 A17.out).mono ?_); (case side1 => repeat (first | exact (Kd.C_below be.out TB) | (with_reducible refine Kd.C_alloc ?_ _) | (with_reducible refine Kd.C_drewN ?_ _) | (with_reducible refine Kd.C_drew ?_))); (case side2 => exact a9.out); (case side3 => repeat (first | exact (Kd.C_below bi.out TB) | (with_reducible refine Kd.C_alloc ?_ _) | (with_reducible refine Kd.C_drewN ?_ _) | (with_reducible refine Kd.C_drew ?_))); (case side4 => exact aZ.out); (case side5 => repeat (first | exact (Kd.C_below bc.out TB) | (with_reducible refine Kd.C_alloc ?_ _) | (with_reducible refine Kd.C_drewN ?_ _) | (with_reducible refine Kd.C_drew ?_))); (case side6 => exact bg.out); (case side7 => repeat (first | exact (Kd.C_below HR1.out TB) | (with_reducible refine Kd.C_alloc ?_ _) | (with_reducible refine Kd.C_drewN ?_ _) | (with_reducible refine Kd.C_drew ?_))); (case side8 => exact HC1.out); (case side9 => repeat (first | exact (Kd.C_below HR3.out TB) | (with_reducible refine Kd.C_alloc ?_ _) | (with_reducible refine Kd.C_drewN ?_ _) | (with_reducible refine Kd.C_drew ?_))); (case side10 => exact HC3.out); rintro e w20 ⟨rfl, hb⟩; refine ⟨_, rfl, ?_⟩; replace aj := aM (Kd.R_below (by have X_ := aj.out; exact TR) hb); replace af := aM (blk_below (by have X_ := af.out; exact TX) hb); replace HB := aM (below_step TB hb); clear hb))
    go_ret
    exact ⟨by first | rfl | (simp [errW_none, errW_some] <;> rfl) | (simp [*, errW_none, errW_some] <;> rfl), TB⟩

end Go.Proofs.Ytlghklbjmmijpaa.Q
