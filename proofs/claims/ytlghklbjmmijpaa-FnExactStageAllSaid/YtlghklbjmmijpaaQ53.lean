/- Functions of the program as plain Lean functions, and that a call of each comes to what its function tells. Written by a program of this seat. -/
import Derived.Test.YtlghklbjmmijpaaQ0
import Derived.Test.YtlghklbjmmijpaaQ6
import Derived.Test.YtlghklbjmmijpaaQ8
import Derived.Test.YtlghklbjmmijpaaQ50
import Derived.Test.YtlghklbjmmijpaaQ52
namespace Go.Proofs.Ytlghklbjmmijpaa.Q
open Go.RowKit Go.Proofs.YtlghklbjmmijpaaW.PrintWords Go.Proofs.YtlghklbjmmijpaaW.PrintLast Go.Proofs.YtlghklbjmmijpaaW.PrintMore
attribute [local go_sem] max2_int min2_int max_two min_two max_three min_three max_four min_four   -- for this text's walks alone
set_option linter.unusedVariables false
set_option linter.unusedSimpArgs false

/-! ### spec_StageAll: function 24 -/
mutual
def spec_StageAll.j0 : Nat → List Int → Int → Bool → List Int → List Int → Int → Int → Int → List (S110) → List Int → List Int → Int → Int → Int → List (S110) → Option (List Int × List Int × Int × Int × Int × (List (S110)) × Bool)
  | 0, _, _, _, _, _, _, _, _, _, _, _, _, _, _, _ => none
  | k + 1, x1, x2, x33, x1116000, x1116001, x1116002, x1116003, x1116004, x1116005, x1130000, x1130001, x1130002, x1130003, x1130004, x1130005 => if x33 = true then (some (x1130000, x1130001, x1130002, x1130003, x1130004, x1130005, false)) else (spec_StageAll.l0 k x1 x2 0 x1116000 x1116001 x1116002 x1116003 x1116004 x1116005 x1130000 x1130001 x1130002 x1130003 x1130004 x1130005)
def spec_StageAll.l0 : Nat → List Int → Int → Int → List Int → List Int → Int → Int → Int → List (S110) → List Int → List Int → Int → Int → Int → List (S110) → Option (List Int × List Int × Int × Int × Int × (List (S110)) × Bool)
  | 0, _, _, _, _, _, _, _, _, _, _, _, _, _, _, _ => none
  | k + 1, x1, x2, x9, x1116000, x1116001, x1116002, x1116003, x1116004, x1116005, x1130000, x1130001, x1130002, x1130003, x1130004, x1130005 => (spec_Blocks.f x2 (x1.length : Int)).bind fun t1132 => (if x9 < t1132 then ((spec_SpanOf.f x2 (x1.length : Int) x9).bind fun bt1133 => ((spec_BlockAt.f x1 x2 x9).bind fun bt1135 => ((spec_Spare.f x1116000 x1116001 x1116002 x1116003 x1116004 x1116005).bind fun t1139 => ((spec_PutBytes.f k x1130000 x1130001 x1130002 x1130003 x1130004 x1130005 t1139 bt1133.1 bt1135.1).bind fun bt1140 => (if bt1140.2.2.2.2.2.2 = true then (spec_StageAll.l0 k x1 x2 (wrap64 (x9 + 1)) x1116000 x1116001 x1116002 x1116003 x1116004 x1116005 bt1140.1 bt1140.2.1 bt1140.2.2.1 bt1140.2.2.2.1 bt1140.2.2.2.2.1 bt1140.2.2.2.2.2.1) else ((spec_l9Copy.f k x1116000 x1116001 x1116002 x1116003 x1116004 x1116005).bind fun bt1154 => (some (bt1154.1, bt1154.2.1, bt1154.2.2.1, bt1154.2.2.2.1, bt1154.2.2.2.2.1, bt1154.2.2.2.2.2, false)))))))) else (some (x1130000, x1130001, x1130002, x1130003, x1130004, x1130005, true)))
end
def spec_StageAll.f (k : Nat) (l0_0 : List Int) (l0_1 : List Int) (a0_2 : Int) (a0_3 : Int) (a0_4 : Int) (l0_5 : List (S110)) (l1 : List Int) (a2 : Int) : Option (List Int × List Int × Int × Int × Int × (List (S110)) × Bool) := (spec_l9Copy.f k l0_0 l0_1 a0_2 a0_3 a0_4 l0_5).bind fun bt1117 => ((spec_DiskOk.f k l0_0 l0_1 a0_2 a0_3 a0_4 l0_5).bind fun t1130 => (if t1130 = true then (if (l0_5.length : Int) > 0 then (spec_StageAll.j0 k l1 a2 true l0_0 l0_1 a0_2 a0_3 a0_4 l0_5 bt1117.1 bt1117.2.1 bt1117.2.2.1 bt1117.2.2.2.1 bt1117.2.2.2.2.1 bt1117.2.2.2.2.2) else ((spec_SizeOk.f a2 (l1.length : Int)).bind fun t1131 => (spec_StageAll.j0 k l1 a2 (!t1131) l0_0 l0_1 a0_2 a0_3 a0_4 l0_5 bt1117.1 bt1117.2.1 bt1117.2.2.1 bt1117.2.2.2.1 bt1117.2.2.2.2.1 bt1117.2.2.2.2.2))) else (spec_StageAll.j0 k l1 a2 true l0_0 l0_1 a0_2 a0_3 a0_4 l0_5 bt1117.1 bt1117.2.1 bt1117.2.2.1 bt1117.2.2.2.1 bt1117.2.2.2.2.1 bt1117.2.2.2.2.2)))
theorem spec_StageAll.mono_l : ∀ k, (∀ y0 y1 y2 y3 y4 y5 y6 y7 y8 y9 y10 y11 y12 y13 y14, LeO (spec_StageAll.j0 k y0 y1 y2 y3 y4 y5 y6 y7 y8 y9 y10 y11 y12 y13 y14) (spec_StageAll.j0 (k + 1) y0 y1 y2 y3 y4 y5 y6 y7 y8 y9 y10 y11 y12 y13 y14)) ∧ (∀ y0 y1 y2 y3 y4 y5 y6 y7 y8 y9 y10 y11 y12 y13 y14, LeO (spec_StageAll.l0 k y0 y1 y2 y3 y4 y5 y6 y7 y8 y9 y10 y11 y12 y13 y14) (spec_StageAll.l0 (k + 1) y0 y1 y2 y3 y4 y5 y6 y7 y8 y9 y10 y11 y12 y13 y14))
  | 0 => ⟨fun _ _ _ _ _ _ _ _ _ _ _ _ _ _ _ r h => by simp [spec_StageAll.j0] at h, fun _ _ _ _ _ _ _ _ _ _ _ _ _ _ _ r h => by simp [spec_StageAll.l0] at h⟩
  | k + 1 => by
    have m0_ := @spec_DiskOk.mono
    have m1_ := @spec_PutBytes.mono
    have m2_ := @spec_l9Copy.mono
    obtain ⟨ih0, ih1⟩ := spec_StageAll.mono_l k
    refine ⟨?_, ?_⟩
    · intro y0 y1 y2 y3 y4 y5 y6 y7 y8 y9 y10 y11 y12 y13 y14
      unfold spec_StageAll.j0
      exact LM
    · intro y0 y1 y2 y3 y4 y5 y6 y7 y8 y9 y10 y11 y12 y13 y14
      unfold spec_StageAll.l0
      exact LM
theorem spec_StageAll.mono : ∀ a0 a1 a2 a3 a4 a5 a6 a7 k, LeO (spec_StageAll.f k a0 a1 a2 a3 a4 a5 a6 a7) (spec_StageAll.f (k + 1) a0 a1 a2 a3 a4 a5 a6 a7) := by
  intro a0 a1 a2 a3 a4 a5 a6 a7 k
  have m0_ := @spec_DiskOk.mono
  have m1_ := @spec_PutBytes.mono
  have m2_ := @spec_l9Copy.mono
  obtain ⟨ih0, ih1⟩ := spec_StageAll.mono_l k
  unfold spec_StageAll.f
  exact LM
def spec_StageAll.T9 : Bool × List (List Nat × List Nat) := (true, [([], []), ([], []), ([1], [1]), ([], []), ([], []), ([0, 2, 3, 4, 2], [0, 2, 3, 4]), ([5], [5]), ([6], [6]), ([6], [6]), ([], []), ([9, 7, 5, 0, 1, 2, 3, 4, 5, 6, 7, 9], [7, 9]), ([8, 10, 0, 1, 2, 3, 4, 5, 6, 7, 8, 9, 10], [8])])
def spec_StageAll.B9 : List Nat := [0, 0, 2, 0, 0, 31, 63, 127, 127, 0, 767, 2047]
theorem spec_StageAll.tab9 : rtab .any (opsOf Try.f24 9) = spec_StageAll.T9 := by kernel_rfl
theorem spec_StageAll.bits9 : waitsOk spec_StageAll.T9.2 spec_StageAll.B9 = true := by kernel_rfl
set_option maxHeartbeats 40000000 in
set_option maxRecDepth 100000 in
theorem spec_StageAll.calls (k : Nat) (aH : Option Addr) (aL : Nat) (az : List Int) (aI : Option Addr) (aJ : Nat) (aA : List Int) (aD : Int) (aC : Int) (aB : Int) (aK : Option Addr) (aN : Nat) (ay : List (S110)) (A1 : Option Addr) (c1 : Nat) (l1 : List Int) (a2 : Int) (r1 : List Int) (r2 : List Int) (r3 : Int) (r4 : Int) (r5 : Int) (r6 : List (S110)) (r7 : Bool) (w : World) (dF : Kd.C (Kd.int .u8) w aH az.length az) (dK : az.length ≤ aL) (dL : Kd.C (Kd.int .u8) w aI aA.length aA) (dI : aA.length ≤ aJ) (dG : Kd.C k110 w aK ay.length ay) (dJ : ay.length ≤ aN) (hr1 : Kd.C (Kd.int .u8) w A1 l1.length l1) (hc1 : l1.length ≤ c1) (h : spec_StageAll.f k az aA aD aC aB ay l1 a2 = some (r1, r2, r3, r4, r5, r6, r7)) :
  Calls Try.prog 24 #[.agg #[.slice aH az.length aL, .slice aI aA.length aJ, .int .i64 aD, .int .i64 aC, .int .i64 aB, .slice aK ay.length aN], .slice A1 l1.length c1, .int .i64 a2] w fun e w' => ∃ v0_ v1_ v5_ : Value, e = .returned (.tuple #[.agg #[v0_, v1_, .int .i64 r3, .int .i64 r4, .int .i64 r5, v5_], .bool r7]) ∧ Kd.R (Kd.int .u8) 5 w' w.heap.size (fun k_ => some k_ ≠ (v1_ : Value).ownBlock) v0_ r1 ∧ Kd.R (Kd.int .u8) 5 w' w.heap.size (fun k_ => some k_ ≠ (v0_ : Value).ownBlock) v1_ r2 ∧ Kd.S k110 110 w' w.heap.size (fun k_ => some k_ ≠ (v0_ : Value).ownBlock ∧ some k_ ≠ (v1_ : Value).ownBlock) v5_ r6 ∧ Below w.heap.size w w' := by
 have hu33 := Try.underlying33
 have bx := aM dF
 have bB := aM dK
 clear dF dK
 have bD := aM dL
 have bz := aM dI
 clear dL dI
 have bA := aM dG
 have bC := aM dJ
 clear dG dJ
 have HR1 := aM hr1
 have HC1 := aM hc1
 clear hr1 hc1
 have HB := aM (Below.refl w.heap.size w)
 have H := h
 clear h
 unfold spec_StageAll.f at H
 replace H := bE H
 obtain ⟨⟨aP, aS, a9, bd, bk, bl⟩, A4, H⟩ := H
 dsimp only at H
 have HC5 := aM H
 clear H
 go_enter Try.func24, Try.ntmps24
 go_upto_region 2 with (first | ((with_reducible refine gate_dst (N := 3) rfl ?_); (try (refine gate_guard (by rfl) ?_; dsimp only)); refine gBx 3 #[.slice aH az.length aL, .slice aI aA.length aJ, .int .i64 aD, .int .i64 aC, .int .i64 aB, .slice aK ay.length aN] 33 ?_; intro ao hg w6 hbox hb; have ag := aM (hbox); have GW1115 := aM ((by rw [hg]; exact (below_size TB) : w.heap.size ≤ ao)); have GE1115 := aM ((by rw [hg]; exact (below_size TB) : w.heap.size ≤ ao)); replace HB := aM (below_step TB hb); clear hb hbox hg) | ((with_reducible refine gate_dst (N := 6) rfl ?_); (try (refine gate_guard (by rfl) ?_; dsimp only)); refine gBx 6 #[.slice none 0 0, .slice none 0 0, .int .i64 0, .int .i64 0, .int .i64 0, .slice none 0 0] 33 ?_; intro gb1116 hg w7 hbox hb; have au := aM (hbox); have GW1116 := aM ((by rw [hg]; exact (below_size TB) : w.heap.size ≤ gb1116)); have GE1116 := aM ((by rw [hg]; exact (below_size TB) : w.heap.size ≤ gb1116)); have NB1115_1116 := aM ((by rw [hg]; exact Nat.ne_of_lt (blk_lt (g := ao) (o := .cells #[.slice aH az.length aL, .slice aI aA.length aJ, .int .i64 aD, .int .i64 aC, .int .i64 aB, .slice aK ay.length aN] 33 (0, 0)) TK) : ao ≠ gb1116)); have NB1116_1115 := aM ((by rw [hg]; exact Nat.ne_of_gt (blk_lt (g := ao) (o := .cells #[.slice aH az.length aL, .slice aI aA.length aJ, .int .i64 aD, .int .i64 aC, .int .i64 aB, .slice aK ay.length aN] 33 (0, 0)) TK) : gb1116 ≠ ao)); replace ag := aM (blk_below (g := ao) (o := .cells #[.slice aH az.length aL, .slice aI aA.length aJ, .int .i64 aD, .int .i64 aC, .int .i64 aB, .slice aK ay.length aN] 33 (0, 0)) TK hb); replace HB := aM (below_step TB hb); clear hb hbox hg; have hnb8 := NB1115_1116.out; have hnc8 := NB1116_1115.out; obtain ⟨dv, dx, dy, dB, dr, du⟩ := cz6 ag.out; obtain ⟨dz, dD, dw, dC, dA, dt⟩ := fz6 ag.out) | ((with_reducible refine gate_callee (f := 68) rfl ?_); refine gL (some 17) Try.func68 #[.agg #[.slice aH az.length aL, .slice aI aA.length aJ, .int .i64 aD, .int .i64 aC, .int .i64 aB, .slice aK ay.length aN]] ?_; (with_reducible refine (spec_l9Copy.calls k _ _ az _ _ aA aD aC aB _ _ ay aP aS a9 bd bk bl _ ?side1 ?side2 ?side3 ?side4 ?side5 ?side6 A4.out).mono ?_); (case side1 => have X_ := (Kd.C_below bx.out HB.out); exact TC); (case side2 => exact bB.out); (case side3 => have X_ := (Kd.C_below bD.out HB.out); exact TC); (case side4 => exact bz.out); (case side5 => have X_ := (Kd.C_below bA.out HB.out); exact TC); (case side6 => exact bC.out); rintro e w10 ⟨v1118, v1121, v1127, rfl, ho0, ho1, ho2, hb⟩; refine ⟨_, rfl, ?_⟩; have HO1119 := aM (Kd.R_lower ho0 (below_size TB)); have HO1122 := aM (Kd.R_lower ho1 (below_size TB)); have HO1128 := aM (Kd.S_lower ho2 (below_size TB)); replace ag := aM (blk_below (g := ao) (o := .cells #[.slice aH az.length aL, .slice aI aA.length aJ, .int .i64 aD, .int .i64 aC, .int .i64 aB, .slice aK ay.length aN] 33 (0, 0)) TK hb); replace au := aM (blk_below (g := gb1116) (o := .cells #[.slice none 0 0, .slice none 0 0, .int .i64 0, .int .i64 0, .int .i64 0, .slice none 0 0] 33 (0, 0)) TK hb); replace HB := aM (below_step TB hb); clear ho0 ho1 ho2 hb) | ((with_reducible refine gate_dst (N := 8) rfl ?_); (try (refine gate_guard (by rfl) ?_; dsimp only)); refine gBx 8 #[.slice none 0 0, .slice none 0 0, .int .i64 0, .int .i64 0, .int .i64 0, .slice none 0 0] 33 ?_; intro gb1129 hg w11 hbox hb; have af := aM (hbox); have GW1129 := aM ((by rw [hg]; exact (below_size TB) : w.heap.size ≤ gb1129)); have GE1129 := aM ((by rw [hg]; exact (below_size TB) : w.heap.size ≤ gb1129)); have NB1115_1129 := aM ((by rw [hg]; exact Nat.ne_of_lt (blk_lt (g := ao) (o := .cells #[.slice aH az.length aL, .slice aI aA.length aJ, .int .i64 aD, .int .i64 aC, .int .i64 aB, .slice aK ay.length aN] 33 (0, 0)) TK) : ao ≠ gb1129)); have NB1129_1115 := aM ((by rw [hg]; exact Nat.ne_of_gt (blk_lt (g := ao) (o := .cells #[.slice aH az.length aL, .slice aI aA.length aJ, .int .i64 aD, .int .i64 aC, .int .i64 aB, .slice aK ay.length aN] 33 (0, 0)) TK) : gb1129 ≠ ao)); have NB1116_1129 := aM ((by rw [hg]; exact Nat.ne_of_lt (blk_lt (g := gb1116) (o := .cells #[.slice none 0 0, .slice none 0 0, .int .i64 0, .int .i64 0, .int .i64 0, .slice none 0 0] 33 (0, 0)) TK) : gb1116 ≠ gb1129)); have NB1129_1116 := aM ((by rw [hg]; exact Nat.ne_of_gt (blk_lt (g := gb1116) (o := .cells #[.slice none 0 0, .slice none 0 0, .int .i64 0, .int .i64 0, .int .i64 0, .slice none 0 0] 33 (0, 0)) TK) : gb1129 ≠ gb1116)); replace HO1119 := aM (Kd.R_below (by have X_ := HO1119.out; exact TR) hb); replace HO1122 := aM (Kd.R_below (by have X_ := HO1122.out; exact TR) hb); replace HO1128 := aM (Kd.S_below (by have X_ := HO1128.out; exact TS) hb); replace ag := aM (blk_below (g := ao) (o := .cells #[.slice aH az.length aL, .slice aI aA.length aJ, .int .i64 aD, .int .i64 aC, .int .i64 aB, .slice aK ay.length aN] 33 (0, 0)) TK hb); replace au := aM (blk_below (g := gb1116) (o := .cells #[.slice none 0 0, .slice none 0 0, .int .i64 0, .int .i64 0, .int .i64 0, .slice none 0 0] 33 (0, 0)) TK hb); replace HB := aM (below_step TB hb); clear hb hbox hg; obtain ⟨Ao12, co12, eo12⟩ := Kd.R_slice HO1119.out; subst eo12; have hnb13 := NB1129_1115.out; have hnc13 := NB1115_1129.out; have hnb14 := NB1129_1116.out; have hnc14 := NB1116_1129.out; obtain ⟨cw, co, ca, cJ, dh, cv⟩ := cz6 af.out; obtain ⟨cD, cy, cY, dj, cZ, ck⟩ := fz6 af.out; obtain ⟨Ao16, co16, eo16⟩ := Kd.R_slice HO1122.out; subst eo16; obtain ⟨Ao17, co17, eo17⟩ := Kd.S_slice HO1128.out; subst eo17))
 (try simp only [Act.put, List.setIfInBounds_toArray, List.set_cons_zero, List.set_cons_succ])
 go_cut [33] (fun v33 wc => ∃ (kq : Nat) (bS : Bool), v33 = .bool bS ∧ Aside0 (spec_StageAll.j0 kq l1 a2 bS az aA aD aC aB ay aP aS a9 bd bk bl = some (r1, r2, r3, r4, r5, r6, r7)) ∧ Aside0 (kq ≤ k) ∧ Aside0 (Kd.R (Kd.int .u8) 5 wc w.heap.size (fun k_ => some k_ ≠ ((.slice Ao16 aS.length co16) : Value).ownBlock) (.slice Ao12 aP.length co12) aP) ∧ Aside0 (Kd.R (Kd.int .u8) 5 wc w.heap.size (fun k_ => some k_ ≠ ((.slice Ao12 aP.length co12) : Value).ownBlock) (.slice Ao16 aS.length co16) aS) ∧ Aside0 (Kd.S k110 110 wc w.heap.size (fun k_ => some k_ ≠ ((.slice Ao12 aP.length co12) : Value).ownBlock ∧ some k_ ≠ ((.slice Ao16 aS.length co16) : Value).ownBlock) (.slice Ao17 bl.length co17) bl) ∧ Aside0 (wc.heap[ao]? = some (.cells #[(.slice aH az.length aL), (.slice aI aA.length aJ), .int .i64 aD, .int .i64 aC, .int .i64 aB, (.slice aK ay.length aN)] 33 (0, 0))) ∧ Aside0 (wc.heap[gb1116]? = some (.cells #[(.slice none 0 0), (.slice none 0 0), .int .i64 0, .int .i64 0, .int .i64 0, (.slice none 0 0)] 33 (0, 0))) ∧ Aside0 (wc.heap[gb1129]? = some (.cells #[(.slice Ao12 aP.length co12), (.slice Ao16 aS.length co16), .int .i64 a9, .int .i64 bd, .int .i64 bk, (.slice Ao17 bl.length co17)] 33 (0, 0))) ∧ Aside0 (Below w.heap.size w wc))
 case first =>
  have H := HC5.out
  clear HC5
  replace H := bE H
  obtain ⟨t1130, A18, H⟩ := H
  by_cases c19 : t1130 = true
  ·subst c19
   replace H := ifT H
   by_cases c20 : (ay.length : Int) > 0
   ·rw [if_pos c20] at H
    have bK : decide (0 < (ay.length : Int)) = true := decide_eq_true c20
    have dq : decide (0 < ay.length) = true := decide_eq_true (by omega)
    clear c20
    (first | rw [bK] | (simp only [i64_w, i32_w]; rw [bK]) | skip)
    have H' := aM H
    clear H
    have hnb21 := NB1115_1116.out
    have hnc21 := NB1116_1115.out
    have hnb22 := NB1115_1129.out
    have hnc22 := NB1129_1115.out
    obtain ⟨dk, cn, cb, dp, c5, b8⟩ := cz6 ag.out
    obtain ⟨cA, dc, dn, cS, cl, cm⟩ := fz6 ag.out
    go_wp2_with (first | ((with_reducible refine gate_callee (f := 69) rfl ?_); refine gL (some 19) Try.func69 #[.agg #[.slice aH az.length aL, .slice aI aA.length aJ, .int .i64 aD, .int .i64 aC, .int .i64 aB, .slice aK ay.length aN]] ?_; (with_reducible refine (spec_DiskOk.calls k _ _ az _ _ aA aD aC aB _ _ ay true _ ?side1 ?side2 ?side3 ?side4 ?side5 ?side6 A18.out).mono ?_); (case side1 => exact Kd.C_below bx.out TB); (case side2 => exact bB.out); (case side3 => exact Kd.C_below bD.out TB); (case side4 => exact bz.out); (case side5 => exact Kd.C_below bA.out TB); (case side6 => exact bC.out); rintro e w24 ⟨rfl, hb⟩; refine ⟨_, rfl, ?_⟩; replace HO1119 := aM (Kd.R_below (by (with_reducible repeat (first | apply Kd.R_alloc | apply Kd.R_drewN | apply Kd.R_drew)); exact (R_off (Kd.R_types HO1119.out af.out (by decide)) TO)) hb); replace HO1122 := aM (Kd.R_below (by (with_reducible repeat (first | apply Kd.R_alloc | apply Kd.R_drewN | apply Kd.R_drew)); exact (R_off (Kd.R_types HO1122.out af.out (by decide)) TO)) hb); replace HO1128 := aM (Kd.S_below (by (with_reducible repeat (first | apply Kd.S_alloc | apply Kd.S_drewN | apply Kd.S_drew)); exact (S_off (Kd.S_types HO1128.out af.out (by decide)) TO)) hb); replace ag := aM (blk_below (g := ao) (o := .cells #[.slice aH az.length aL, .slice aI aA.length aJ, .int .i64 aD, .int .i64 aC, .int .i64 aB, .slice aK ay.length aN] 33 (0, 0)) (by (with_reducible repeat (first | refine blk_drewN ?_ _ | refine blk_drew ?_ | refine blk_alloc ?_ _)); refine blk_far ?_ NB1115_1129.out _; (with_reducible repeat (first | refine blk_drewN ?_ _ | refine blk_drew ?_ | refine blk_alloc ?_ _)); refine blk_far ?_ NB1115_1129.out _; (with_reducible repeat (first | refine blk_drewN ?_ _ | refine blk_drew ?_ | refine blk_alloc ?_ _)); refine blk_far ?_ NB1115_1129.out _; (with_reducible repeat (first | refine blk_drewN ?_ _ | refine blk_drew ?_ | refine blk_alloc ?_ _)); refine blk_far ?_ NB1115_1129.out _; (with_reducible repeat (first | refine blk_drewN ?_ _ | refine blk_drew ?_ | refine blk_alloc ?_ _)); refine blk_far ?_ NB1115_1129.out _; (with_reducible repeat (first | refine blk_drewN ?_ _ | refine blk_drew ?_ | refine blk_alloc ?_ _)); refine blk_far ?_ NB1115_1129.out _; (with_reducible repeat (first | refine blk_drewN ?_ _ | refine blk_drew ?_ | refine blk_alloc ?_ _)); exact ag.out) hb); replace au := aM (blk_below (g := gb1116) (o := .cells #[.slice none 0 0, .slice none 0 0, .int .i64 0, .int .i64 0, .int .i64 0, .slice none 0 0] 33 (0, 0)) (by (with_reducible repeat (first | refine blk_drewN ?_ _ | refine blk_drew ?_ | refine blk_alloc ?_ _)); refine blk_far ?_ NB1116_1129.out _; (with_reducible repeat (first | refine blk_drewN ?_ _ | refine blk_drew ?_ | refine blk_alloc ?_ _)); refine blk_far ?_ NB1116_1129.out _; (with_reducible repeat (first | refine blk_drewN ?_ _ | refine blk_drew ?_ | refine blk_alloc ?_ _)); refine blk_far ?_ NB1116_1129.out _; (with_reducible repeat (first | refine blk_drewN ?_ _ | refine blk_drew ?_ | refine blk_alloc ?_ _)); refine blk_far ?_ NB1116_1129.out _; (with_reducible repeat (first | refine blk_drewN ?_ _ | refine blk_drew ?_ | refine blk_alloc ?_ _)); refine blk_far ?_ NB1116_1129.out _; (with_reducible repeat (first | refine blk_drewN ?_ _ | refine blk_drew ?_ | refine blk_alloc ?_ _)); refine blk_far ?_ NB1116_1129.out _; (with_reducible repeat (first | refine blk_drewN ?_ _ | refine blk_drew ?_ | refine blk_alloc ?_ _)); exact au.out) hb); replace af := aM (blk_below (g := gb1129) (o := .cells #[.slice Ao12 aP.length co12, .slice Ao16 aS.length co16, .int .i64 a9, .int .i64 bd, .int .i64 bk, .slice Ao17 bl.length co17] 33 (0, 0)) (by (with_reducible repeat (first | refine blk_drewN ?_ _ | refine blk_drew ?_ | refine blk_alloc ?_ _)); refine blk_put (cs := #[.slice Ao12 aP.length co12, .slice Ao16 aS.length co16, .int .i64 a9, .int .i64 bd, .int .i64 bk, .slice none 0 0]) ?_ 5 _ rfl; (with_reducible repeat (first | refine blk_drewN ?_ _ | refine blk_drew ?_ | refine blk_alloc ?_ _)); refine blk_put (cs := #[.slice Ao12 aP.length co12, .slice Ao16 aS.length co16, .int .i64 a9, .int .i64 bd, .int .i64 0, .slice none 0 0]) ?_ 4 _ rfl; (with_reducible repeat (first | refine blk_drewN ?_ _ | refine blk_drew ?_ | refine blk_alloc ?_ _)); refine blk_put (cs := #[.slice Ao12 aP.length co12, .slice Ao16 aS.length co16, .int .i64 a9, .int .i64 0, .int .i64 0, .slice none 0 0]) ?_ 3 _ rfl; (with_reducible repeat (first | refine blk_drewN ?_ _ | refine blk_drew ?_ | refine blk_alloc ?_ _)); refine blk_put (cs := #[.slice Ao12 aP.length co12, .slice Ao16 aS.length co16, .int .i64 0, .int .i64 0, .int .i64 0, .slice none 0 0]) ?_ 2 _ rfl; (with_reducible repeat (first | refine blk_drewN ?_ _ | refine blk_drew ?_ | refine blk_alloc ?_ _)); refine blk_put (cs := #[.slice Ao12 aP.length co12, .slice none 0 0, .int .i64 0, .int .i64 0, .int .i64 0, .slice none 0 0]) ?_ 1 _ rfl; (with_reducible repeat (first | refine blk_drewN ?_ _ | refine blk_drew ?_ | refine blk_alloc ?_ _)); refine blk_put (cs := #[.slice none 0 0, .slice none 0 0, .int .i64 0, .int .i64 0, .int .i64 0, .slice none 0 0]) ?_ 0 _ rfl; (with_reducible repeat (first | refine blk_drewN ?_ _ | refine blk_drew ?_ | refine blk_alloc ?_ _)); exact af.out) hb); replace HB := aM (below_step TB hb); clear hb; obtain ⟨cU, cx, c0, cg, de, b9⟩ := cz6 ag.out; obtain ⟨df, ci, cB, cE, ch, cr⟩ := fz6 ag.out))
    go_meet
    case rel => exact ⟨_, (true), (by first | rfl | (simp; done) | (simp [*]; done)), H', ⟨by first | omega | exact Nat.le_refl _⟩, ⟨by have X_ := HO1119.out; exact TR⟩, ⟨by have X_ := HO1122.out; exact TR⟩, ⟨by have X_ := HO1128.out; exact TS⟩, ⟨TK⟩, ⟨TK⟩, ⟨TK⟩, ⟨TB⟩⟩
   ·rw [if_neg c20] at H
    have bK : decide (0 < (ay.length : Int)) = false := decide_eq_false c20
    have dq : decide (0 < ay.length) = false := decide_eq_false (by omega)
    clear c20
    (first | rw [bK] | (simp only [i64_w, i32_w]; rw [bK]) | skip)
    replace H := bE H
    obtain ⟨dE, A26, H⟩ := H
    have H' := aM H
    clear H
    have hnb27 := NB1115_1116.out
    have hnc27 := NB1116_1115.out
    have hnb28 := NB1115_1129.out
    have hnc28 := NB1129_1115.out
    obtain ⟨cC, dg, cP, c7, cO, cd⟩ := cz6 ag.out
    obtain ⟨db, cp, cq, cF, cV, ce⟩ := fz6 ag.out
    go_wp2_with (first | ((with_reducible refine gate_callee (f := 69) rfl ?_); refine gL (some 19) Try.func69 #[.agg #[.slice aH az.length aL, .slice aI aA.length aJ, .int .i64 aD, .int .i64 aC, .int .i64 aB, .slice aK ay.length aN]] ?_; (with_reducible refine (spec_DiskOk.calls k _ _ az _ _ aA aD aC aB _ _ ay true _ ?side1 ?side2 ?side3 ?side4 ?side5 ?side6 A18.out).mono ?_); (case side1 => exact Kd.C_below bx.out TB); (case side2 => exact bB.out); (case side3 => exact Kd.C_below bD.out TB); (case side4 => exact bz.out); (case side5 => exact Kd.C_below bA.out TB); (case side6 => exact bC.out); rintro e w30 ⟨rfl, hb⟩; refine ⟨_, rfl, ?_⟩; replace HO1119 := aM (Kd.R_below (by (with_reducible repeat (first | apply Kd.R_alloc | apply Kd.R_drewN | apply Kd.R_drew)); exact (R_off (Kd.R_types HO1119.out af.out (by decide)) TO)) hb); replace HO1122 := aM (Kd.R_below (by (with_reducible repeat (first | apply Kd.R_alloc | apply Kd.R_drewN | apply Kd.R_drew)); exact (R_off (Kd.R_types HO1122.out af.out (by decide)) TO)) hb); replace HO1128 := aM (Kd.S_below (by (with_reducible repeat (first | apply Kd.S_alloc | apply Kd.S_drewN | apply Kd.S_drew)); exact (S_off (Kd.S_types HO1128.out af.out (by decide)) TO)) hb); replace ag := aM (blk_below (g := ao) (o := .cells #[.slice aH az.length aL, .slice aI aA.length aJ, .int .i64 aD, .int .i64 aC, .int .i64 aB, .slice aK ay.length aN] 33 (0, 0)) (by (with_reducible repeat (first | refine blk_drewN ?_ _ | refine blk_drew ?_ | refine blk_alloc ?_ _)); refine blk_far ?_ NB1115_1129.out _; (with_reducible repeat (first | refine blk_drewN ?_ _ | refine blk_drew ?_ | refine blk_alloc ?_ _)); refine blk_far ?_ NB1115_1129.out _; (with_reducible repeat (first | refine blk_drewN ?_ _ | refine blk_drew ?_ | refine blk_alloc ?_ _)); refine blk_far ?_ NB1115_1129.out _; (with_reducible repeat (first | refine blk_drewN ?_ _ | refine blk_drew ?_ | refine blk_alloc ?_ _)); refine blk_far ?_ NB1115_1129.out _; (with_reducible repeat (first | refine blk_drewN ?_ _ | refine blk_drew ?_ | refine blk_alloc ?_ _)); refine blk_far ?_ NB1115_1129.out _; (with_reducible repeat (first | refine blk_drewN ?_ _ | refine blk_drew ?_ | refine blk_alloc ?_ _)); refine blk_far ?_ NB1115_1129.out _; (with_reducible repeat (first | refine blk_drewN ?_ _ | refine blk_drew ?_ | refine blk_alloc ?_ _)); exact ag.out) hb); replace au := aM (blk_below (g := gb1116) (o := .cells #[.slice none 0 0, .slice none 0 0, .int .i64 0, .int .i64 0, .int .i64 0, .slice none 0 0] 33 (0, 0)) (by (with_reducible repeat (first | refine blk_drewN ?_ _ | refine blk_drew ?_ | refine blk_alloc ?_ _)); refine blk_far ?_ NB1116_1129.out _; (with_reducible repeat (first | refine blk_drewN ?_ _ | refine blk_drew ?_ | refine blk_alloc ?_ _)); refine blk_far ?_ NB1116_1129.out _; (with_reducible repeat (first | refine blk_drewN ?_ _ | refine blk_drew ?_ | refine blk_alloc ?_ _)); refine blk_far ?_ NB1116_1129.out _; (with_reducible repeat (first | refine blk_drewN ?_ _ | refine blk_drew ?_ | refine blk_alloc ?_ _)); refine blk_far ?_ NB1116_1129.out _; (with_reducible repeat (first | refine blk_drewN ?_ _ | refine blk_drew ?_ | refine blk_alloc ?_ _)); refine blk_far ?_ NB1116_1129.out _; (with_reducible repeat (first | refine blk_drewN ?_ _ | refine blk_drew ?_ | refine blk_alloc ?_ _)); refine blk_far ?_ NB1116_1129.out _; (with_reducible repeat (first | refine blk_drewN ?_ _ | refine blk_drew ?_ | refine blk_alloc ?_ _)); exact au.out) hb); replace af := aM (blk_below (g := gb1129) (o := .cells #[.slice Ao12 aP.length co12, .slice Ao16 aS.length co16, .int .i64 a9, .int .i64 bd, .int .i64 bk, .slice Ao17 bl.length co17] 33 (0, 0)) (by (with_reducible repeat (first | refine blk_drewN ?_ _ | refine blk_drew ?_ | refine blk_alloc ?_ _)); refine blk_put (cs := #[.slice Ao12 aP.length co12, .slice Ao16 aS.length co16, .int .i64 a9, .int .i64 bd, .int .i64 bk, .slice none 0 0]) ?_ 5 _ rfl; (with_reducible repeat (first | refine blk_drewN ?_ _ | refine blk_drew ?_ | refine blk_alloc ?_ _)); refine blk_put (cs := #[.slice Ao12 aP.length co12, .slice Ao16 aS.length co16, .int .i64 a9, .int .i64 bd, .int .i64 0, .slice none 0 0]) ?_ 4 _ rfl; (with_reducible repeat (first | refine blk_drewN ?_ _ | refine blk_drew ?_ | refine blk_alloc ?_ _)); refine blk_put (cs := #[.slice Ao12 aP.length co12, .slice Ao16 aS.length co16, .int .i64 a9, .int .i64 0, .int .i64 0, .slice none 0 0]) ?_ 3 _ rfl; (with_reducible repeat (first | refine blk_drewN ?_ _ | refine blk_drew ?_ | refine blk_alloc ?_ _)); refine blk_put (cs := #[.slice Ao12 aP.length co12, .slice Ao16 aS.length co16, .int .i64 0, .int .i64 0, .int .i64 0, .slice none 0 0]) ?_ 2 _ rfl; (with_reducible repeat (first | refine blk_drewN ?_ _ | refine blk_drew ?_ | refine blk_alloc ?_ _)); refine blk_put (cs := #[.slice Ao12 aP.length co12, .slice none 0 0, .int .i64 0, .int .i64 0, .int .i64 0, .slice none 0 0]) ?_ 1 _ rfl; (with_reducible repeat (first | refine blk_drewN ?_ _ | refine blk_drew ?_ | refine blk_alloc ?_ _)); refine blk_put (cs := #[.slice none 0 0, .slice none 0 0, .int .i64 0, .int .i64 0, .int .i64 0, .slice none 0 0]) ?_ 0 _ rfl; (with_reducible repeat (first | refine blk_drewN ?_ _ | refine blk_drew ?_ | refine blk_alloc ?_ _)); exact af.out) hb); replace HB := aM (below_step TB hb); clear hb; obtain ⟨cX, cu, cj, cM, cR, dd⟩ := cz6 ag.out; obtain ⟨cW, ct, c9, cQ, cI, cc⟩ := fz6 ag.out) | (go_at_call 70; (with_reducible refine (spec_SizeOk.calls a2 (l1.length : Int) dE _ A26.out).mono ?_); rintro e w' ⟨rfl, ⟨nd, rfl⟩⟩))
    go_meet
    case rel => exact ⟨_, (!dE), (by first | rfl | (simp; done) | (simp [*]; done)), H', ⟨by first | omega | exact Nat.le_refl _⟩, ⟨by have X_ := HO1119.out; exact TR⟩, ⟨by have X_ := HO1122.out; exact TR⟩, ⟨by have X_ := HO1128.out; exact TS⟩, ⟨TK⟩, ⟨TK⟩, ⟨TK⟩, ⟨TB⟩⟩
  ·replace c19 := Bool.eq_false_iff.mpr c19
   subst c19
   replace H := ifF H
   have H' := aM H
   clear H
   have hnb32 := NB1115_1116.out
   have hnc32 := NB1116_1115.out
   have hnb33 := NB1115_1129.out
   have hnc33 := NB1129_1115.out
   obtain ⟨cz, di, cL, da, cK, cN⟩ := cz6 ag.out
   obtain ⟨dl, cH, cT, dm, cG, cf⟩ := fz6 ag.out
   go_wp2_with (first | ((with_reducible refine gate_callee (f := 69) rfl ?_); refine gL (some 19) Try.func69 #[.agg #[.slice aH az.length aL, .slice aI aA.length aJ, .int .i64 aD, .int .i64 aC, .int .i64 aB, .slice aK ay.length aN]] ?_; (with_reducible refine (spec_DiskOk.calls k _ _ az _ _ aA aD aC aB _ _ ay false _ ?side1 ?side2 ?side3 ?side4 ?side5 ?side6 A18.out).mono ?_); (case side1 => exact Kd.C_below bx.out TB); (case side2 => exact bB.out); (case side3 => exact Kd.C_below bD.out TB); (case side4 => exact bz.out); (case side5 => exact Kd.C_below bA.out TB); (case side6 => exact bC.out); rintro e w35 ⟨rfl, hb⟩; refine ⟨_, rfl, ?_⟩; replace HO1119 := aM (Kd.R_below (by (with_reducible repeat (first | apply Kd.R_alloc | apply Kd.R_drewN | apply Kd.R_drew)); exact (R_off (Kd.R_types HO1119.out af.out (by decide)) TO)) hb); replace HO1122 := aM (Kd.R_below (by (with_reducible repeat (first | apply Kd.R_alloc | apply Kd.R_drewN | apply Kd.R_drew)); exact (R_off (Kd.R_types HO1122.out af.out (by decide)) TO)) hb); replace HO1128 := aM (Kd.S_below (by (with_reducible repeat (first | apply Kd.S_alloc | apply Kd.S_drewN | apply Kd.S_drew)); exact (S_off (Kd.S_types HO1128.out af.out (by decide)) TO)) hb); replace ag := aM (blk_below (g := ao) (o := .cells #[.slice aH az.length aL, .slice aI aA.length aJ, .int .i64 aD, .int .i64 aC, .int .i64 aB, .slice aK ay.length aN] 33 (0, 0)) (by (with_reducible repeat (first | refine blk_drewN ?_ _ | refine blk_drew ?_ | refine blk_alloc ?_ _)); refine blk_far ?_ NB1115_1129.out _; (with_reducible repeat (first | refine blk_drewN ?_ _ | refine blk_drew ?_ | refine blk_alloc ?_ _)); refine blk_far ?_ NB1115_1129.out _; (with_reducible repeat (first | refine blk_drewN ?_ _ | refine blk_drew ?_ | refine blk_alloc ?_ _)); refine blk_far ?_ NB1115_1129.out _; (with_reducible repeat (first | refine blk_drewN ?_ _ | refine blk_drew ?_ | refine blk_alloc ?_ _)); refine blk_far ?_ NB1115_1129.out _; (with_reducible repeat (first | refine blk_drewN ?_ _ | refine blk_drew ?_ | refine blk_alloc ?_ _)); refine blk_far ?_ NB1115_1129.out _; (with_reducible repeat (first | refine blk_drewN ?_ _ | refine blk_drew ?_ | refine blk_alloc ?_ _)); refine blk_far ?_ NB1115_1129.out _; (with_reducible repeat (first | refine blk_drewN ?_ _ | refine blk_drew ?_ | refine blk_alloc ?_ _)); exact ag.out) hb); replace au := aM (blk_below (g := gb1116) (o := .cells #[.slice none 0 0, .slice none 0 0, .int .i64 0, .int .i64 0, .int .i64 0, .slice none 0 0] 33 (0, 0)) (by (with_reducible repeat (first | refine blk_drewN ?_ _ | refine blk_drew ?_ | refine blk_alloc ?_ _)); refine blk_far ?_ NB1116_1129.out _; (with_reducible repeat (first | refine blk_drewN ?_ _ | refine blk_drew ?_ | refine blk_alloc ?_ _)); refine blk_far ?_ NB1116_1129.out _; (with_reducible repeat (first | refine blk_drewN ?_ _ | refine blk_drew ?_ | refine blk_alloc ?_ _)); refine blk_far ?_ NB1116_1129.out _; (with_reducible repeat (first | refine blk_drewN ?_ _ | refine blk_drew ?_ | refine blk_alloc ?_ _)); refine blk_far ?_ NB1116_1129.out _; (with_reducible repeat (first | refine blk_drewN ?_ _ | refine blk_drew ?_ | refine blk_alloc ?_ _)); refine blk_far ?_ NB1116_1129.out _; (with_reducible repeat (first | refine blk_drewN ?_ _ | refine blk_drew ?_ | refine blk_alloc ?_ _)); refine blk_far ?_ NB1116_1129.out _; (with_reducible repeat (first | refine blk_drewN ?_ _ | refine blk_drew ?_ | refine blk_alloc ?_ _)); exact au.out) hb); replace af := aM (blk_below (g := gb1129) (o := .cells #[.slice Ao12 aP.length co12, .slice Ao16 aS.length co16, .int .i64 a9, .int .i64 bd, .int .i64 bk, .slice Ao17 bl.length co17] 33 (0, 0)) (by (with_reducible repeat (first | refine blk_drewN ?_ _ | refine blk_drew ?_ | refine blk_alloc ?_ _)); refine blk_put (cs := #[.slice Ao12 aP.length co12, .slice Ao16 aS.length co16, .int .i64 a9, .int .i64 bd, .int .i64 bk, .slice none 0 0]) ?_ 5 _ rfl; (with_reducible repeat (first | refine blk_drewN ?_ _ | refine blk_drew ?_ | refine blk_alloc ?_ _)); refine blk_put (cs := #[.slice Ao12 aP.length co12, .slice Ao16 aS.length co16, .int .i64 a9, .int .i64 bd, .int .i64 0, .slice none 0 0]) ?_ 4 _ rfl; (with_reducible repeat (first | refine blk_drewN ?_ _ | refine blk_drew ?_ | refine blk_alloc ?_ _)); refine blk_put (cs := #[.slice Ao12 aP.length co12, .slice Ao16 aS.length co16, .int .i64 a9, .int .i64 0, .int .i64 0, .slice none 0 0]) ?_ 3 _ rfl; (with_reducible repeat (first | refine blk_drewN ?_ _ | refine blk_drew ?_ | refine blk_alloc ?_ _)); refine blk_put (cs := #[.slice Ao12 aP.length co12, .slice Ao16 aS.length co16, .int .i64 0, .int .i64 0, .int .i64 0, .slice none 0 0]) ?_ 2 _ rfl; (with_reducible repeat (first | refine blk_drewN ?_ _ | refine blk_drew ?_ | refine blk_alloc ?_ _)); refine blk_put (cs := #[.slice Ao12 aP.length co12, .slice none 0 0, .int .i64 0, .int .i64 0, .int .i64 0, .slice none 0 0]) ?_ 1 _ rfl; (with_reducible repeat (first | refine blk_drewN ?_ _ | refine blk_drew ?_ | refine blk_alloc ?_ _)); refine blk_put (cs := #[.slice none 0 0, .slice none 0 0, .int .i64 0, .int .i64 0, .int .i64 0, .slice none 0 0]) ?_ 0 _ rfl; (with_reducible repeat (first | refine blk_drewN ?_ _ | refine blk_drew ?_ | refine blk_alloc ?_ _)); exact af.out) hb); replace HB := aM (below_step TB hb); clear hb))
   go_meet
   case rel => exact ⟨_, (true), (by first | rfl | (simp; done) | (simp [*]; done)), H', ⟨by first | omega | exact Nat.le_refl _⟩, ⟨by have X_ := HO1119.out; exact TR⟩, ⟨by have X_ := HO1122.out; exact TR⟩, ⟨by have X_ := HO1128.out; exact TS⟩, ⟨TK⟩, ⟨TK⟩, ⟨TK⟩, ⟨TB⟩⟩
 case rest =>
  clear HC5
  try clear c1
  try clear c2
  try clear p2
  try clear c3
  try clear c6
  try clear c8
  try clear c13
  try clear c14
  try clear c19
  try clear c20
  try clear bK
  try clear dq
  try clear c21
  try clear c22
  try clear c24
  try clear c27
  try clear c28
  try clear c32
  try clear c33
  try clear cw
  try clear co
  try clear ca
  try clear cJ
  try clear dh
  try clear cv
  try clear dk
  try clear cn
  try clear cb
  try clear dp
  try clear c5
  try clear b8
  try clear cU
  try clear cx
  try clear c0
  try clear cg
  try clear de
  try clear b9
  try clear cC
  try clear dg
  try clear cP
  try clear c7
  try clear cO
  try clear cd
  try clear cX
  try clear cu
  try clear cj
  try clear cM
  try clear cR
  try clear dd
  try clear cz
  try clear di
  try clear cL
  try clear da
  try clear cK
  try clear cN
  try clear dv
  try clear dx
  try clear dy
  try clear dB
  try clear dr
  try clear du
  try clear cD
  try clear cy
  try clear cY
  try clear dj
  try clear cZ
  try clear ck
  try clear cA
  try clear dc
  try clear dn
  try clear cS
  try clear cl
  try clear cm
  try clear df
  try clear ci
  try clear cB
  try clear cE
  try clear ch
  try clear cr
  try clear db
  try clear cp
  try clear cq
  try clear cF
  try clear cV
  try clear ce
  try clear cW
  try clear ct
  try clear c9
  try clear cQ
  try clear cI
  try clear cc
  try clear dl
  try clear cH
  try clear cT
  try clear dm
  try clear cG
  try clear cf
  try clear dz
  try clear dD
  try clear dw
  try clear dC
  try clear dA
  try clear dt
  obtain ⟨kq, bS, rfl, HA, HJ4, ad, ae, ah, ag, au, af, HB⟩ := hcut
  cases kq with
  | zero => exact absurd HA.out (by simp [spec_StageAll.j0])
  | succ kj4 =>
   have H := HA.out
   clear HA
   simp only [spec_StageAll.j0] at H
   by_cases c36 : bS = true
   ·subst c36
    replace H := ifT H
    simp only [Option.some.injEq, Prod.mk.injEq] at H
    obtain ⟨rfl, rfl, rfl, rfl, rfl, rfl, rfl⟩ := H
    have hnb37 := NB1129_1115.out
    have hnc37 := NB1115_1129.out
    have hnb38 := NB1129_1116.out
    have hnc38 := NB1116_1129.out
    obtain ⟨d4, dZ, d3, dV, dP, d6⟩ := cz6 af.out
    obtain ⟨dO, dU, dW, d5, d7, dM⟩ := fz6 af.out
    have hnb40 := NB1116_1115.out
    have hnc40 := NB1115_1116.out
    obtain ⟨d9, dQ, dX, dS, d1, d2⟩ := cz6 au.out
    obtain ⟨d0, dY, dN, dR, d8, dT⟩ := fz6 au.out
    go_wp2
    refine bodyPost_ret (results_ct rfl _ _ gb1116 33 #[.slice Ao12 aP.length co12, .slice Ao16 aS.length co16, .int .i64 a9, .int .i64 bd, .int .i64 bk, .slice Ao17 bl.length co17] (0, 0) _ rfl (by (with_reducible repeat (first | refine blk_drewN ?_ _ | refine blk_drew ?_ | refine blk_alloc ?_ _)); refine blk_put (cs := #[.slice Ao12 aP.length co12, .slice Ao16 aS.length co16, .int .i64 a9, .int .i64 bd, .int .i64 bk, .slice none 0 0]) ?_ 5 _ rfl; (with_reducible repeat (first | refine blk_drewN ?_ _ | refine blk_drew ?_ | refine blk_alloc ?_ _)); refine blk_put (cs := #[.slice Ao12 aP.length co12, .slice Ao16 aS.length co16, .int .i64 a9, .int .i64 bd, .int .i64 0, .slice none 0 0]) ?_ 4 _ rfl; (with_reducible repeat (first | refine blk_drewN ?_ _ | refine blk_drew ?_ | refine blk_alloc ?_ _)); refine blk_put (cs := #[.slice Ao12 aP.length co12, .slice Ao16 aS.length co16, .int .i64 a9, .int .i64 0, .int .i64 0, .slice none 0 0]) ?_ 3 _ rfl; (with_reducible repeat (first | refine blk_drewN ?_ _ | refine blk_drew ?_ | refine blk_alloc ?_ _)); refine blk_put (cs := #[.slice Ao12 aP.length co12, .slice Ao16 aS.length co16, .int .i64 0, .int .i64 0, .int .i64 0, .slice none 0 0]) ?_ 2 _ rfl; (with_reducible repeat (first | refine blk_drewN ?_ _ | refine blk_drew ?_ | refine blk_alloc ?_ _)); refine blk_put (cs := #[.slice Ao12 aP.length co12, .slice none 0 0, .int .i64 0, .int .i64 0, .int .i64 0, .slice none 0 0]) ?_ 1 _ rfl; (with_reducible repeat (first | refine blk_drewN ?_ _ | refine blk_drew ?_ | refine blk_alloc ?_ _)); refine blk_put (cs := #[.slice none 0 0, .slice none 0 0, .int .i64 0, .int .i64 0, .int .i64 0, .slice none 0 0]) ?_ 0 _ rfl; (with_reducible repeat (first | refine blk_drewN ?_ _ | refine blk_drew ?_ | refine blk_alloc ?_ _)); exact au.out) Try.underlying33 rfl (by kernel_rfl)) rfl ?_
    exact ⟨_, _, _, by first | rfl | (simp [errW_none, errW_some] <;> rfl) | (simp [*, errW_none, errW_some] <;> rfl), by (with_reducible repeat (first | apply Kd.R_alloc | apply Kd.R_drewN | apply Kd.R_drew)); exact Kd.R_mono (Kd.R_far (p := ⟨gb1116, 5, none⟩) (Kd.R_far (p := ⟨gb1116, 4, none⟩) (Kd.R_far (p := ⟨gb1116, 3, none⟩) (Kd.R_far (p := ⟨gb1116, 2, none⟩) (Kd.R_far (p := ⟨gb1116, 1, none⟩) (Kd.R_far (p := ⟨gb1116, 0, none⟩) (Kd.R_types ad.out au.out (by decide)) (fun _ hk => hk.2) (.slice Ao12 aP.length co12)) (fun _ hk => hk.2) (.slice Ao16 aS.length co16)) (fun _ hk => hk.2) (.int .i64 a9)) (fun _ hk => hk.2) (.int .i64 bd)) (fun _ hk => hk.2) (.int .i64 bk)) (fun _ hk => hk.2) (.slice Ao17 bl.length co17)) (fun _ hk => hk.1), by (with_reducible repeat (first | apply Kd.R_alloc | apply Kd.R_drewN | apply Kd.R_drew)); exact Kd.R_mono (Kd.R_far (p := ⟨gb1116, 5, none⟩) (Kd.R_far (p := ⟨gb1116, 4, none⟩) (Kd.R_far (p := ⟨gb1116, 3, none⟩) (Kd.R_far (p := ⟨gb1116, 2, none⟩) (Kd.R_far (p := ⟨gb1116, 1, none⟩) (Kd.R_far (p := ⟨gb1116, 0, none⟩) (Kd.R_types ae.out au.out (by decide)) (fun _ hk => hk.2) (.slice Ao12 aP.length co12)) (fun _ hk => hk.2) (.slice Ao16 aS.length co16)) (fun _ hk => hk.2) (.int .i64 a9)) (fun _ hk => hk.2) (.int .i64 bd)) (fun _ hk => hk.2) (.int .i64 bk)) (fun _ hk => hk.2) (.slice Ao17 bl.length co17)) (fun _ hk => hk.1), by (with_reducible repeat (first | apply Kd.S_alloc | apply Kd.S_drewN | apply Kd.S_drew)); exact Kd.S_mono (Kd.S_far (p := ⟨gb1116, 5, none⟩) (Kd.S_far (p := ⟨gb1116, 4, none⟩) (Kd.S_far (p := ⟨gb1116, 3, none⟩) (Kd.S_far (p := ⟨gb1116, 2, none⟩) (Kd.S_far (p := ⟨gb1116, 1, none⟩) (Kd.S_far (p := ⟨gb1116, 0, none⟩) (Kd.S_types ah.out au.out (by decide)) (fun _ hk => hk.2) (.slice Ao12 aP.length co12)) (fun _ hk => hk.2) (.slice Ao16 aS.length co16)) (fun _ hk => hk.2) (.int .i64 a9)) (fun _ hk => hk.2) (.int .i64 bd)) (fun _ hk => hk.2) (.int .i64 bk)) (fun _ hk => hk.2) (.slice Ao17 bl.length co17)) (fun _ hk => ⟨hk.1.1, hk.1.2⟩), TB⟩
   ·replace c36 := Bool.eq_false_iff.mpr c36
    subst c36
    replace H := ifF H
    have H' := aM H
    clear H
    go_wp2
    go_loopg [9] kj4 (fun kq v9 w' => ∃ (bt : Int) (av : Int) (ar : Int) (aq : Int) (aj : List Int) (ai : List Int) (am : Int) (al : Int) (an : Int) (ak : List (S110)) (be : Value) (bf : Value) (bs : Value), v9 = .int .i64 bt ∧ Aside0 (spec_StageAll.l0 kq l1 a2 bt az aA aD aC aB ay aj ai am al an ak = some (r1, r2, r3, r4, r5, r6, r7)) ∧ Aside0 (kq ≤ kj4) ∧ Aside0 (Kd.R (Kd.int .u8) 5 w' w.heap.size (fun k_ => some k_ ≠ (bf : Value).ownBlock) be aj) ∧ Aside0 (Kd.R (Kd.int .u8) 5 w' w.heap.size (fun k_ => some k_ ≠ (be : Value).ownBlock) bf ai) ∧ Aside0 (Kd.S k110 110 w' w.heap.size (fun k_ => some k_ ≠ (be : Value).ownBlock ∧ some k_ ≠ (bf : Value).ownBlock) bs ak) ∧ Aside0 (w'.heap[ao]? = some (.cells #[(.slice aH az.length aL), (.slice aI aA.length aJ), .int .i64 aD, .int .i64 aC, .int .i64 aB, (.slice aK ay.length aN)] 33 (0, 0))) ∧ Aside0 (w'.heap[gb1116]? = some (.cells #[(.slice none 0 0), (.slice none 0 0), .int .i64 av, .int .i64 ar, .int .i64 aq, (.slice none 0 0)] 33 (0, 0))) ∧ Aside0 (w'.heap[gb1129]? = some (.cells #[be, bf, .int .i64 am, .int .i64 al, .int .i64 an, bs] 33 (0, 0))) ∧ Aside0 (Below w.heap.size w w'))
    case atStart => exact ⟨(0), (0), (0), (0), (aP), (aS), (a9), (bd), (bk), (bl), (.slice Ao12 aP.length co12), (.slice Ao16 aS.length co16), (.slice Ao17 bl.length co17), (by first | rfl | (simp; done) | (simp [*]; done)), H', ⟨Nat.le_refl _⟩, ⟨by have X_ := ad.out; exact TR⟩, ⟨by have X_ := ae.out; exact TR⟩, ⟨by have X_ := ah.out; exact TS⟩, ⟨TK⟩, ⟨TK⟩, ⟨TK⟩, ⟨TB⟩⟩
    case round =>
     clear H'
     try clear c1
     try clear c2
     try clear p2
     try clear c3
     try clear c4
     try clear c6
     try clear c8
     try clear c13
     try clear c14
     try clear c19
     try clear c20
     try clear bK
     try clear dq
     try clear c21
     try clear c22
     try clear c24
     try clear c27
     try clear c28
     try clear c32
     try clear c33
     try clear c36
     try clear c37
     try clear c38
     try clear c40
     try clear cw
     try clear co
     try clear ca
     try clear cJ
     try clear dh
     try clear cv
     try clear dk
     try clear cn
     try clear cb
     try clear dp
     try clear c5
     try clear b8
     try clear cU
     try clear cx
     try clear c0
     try clear cg
     try clear de
     try clear b9
     try clear cC
     try clear dg
     try clear cP
     try clear c7
     try clear cO
     try clear cd
     try clear cX
     try clear cu
     try clear cj
     try clear cM
     try clear cR
     try clear dd
     try clear cz
     try clear di
     try clear cL
     try clear da
     try clear cK
     try clear cN
     try clear d4
     try clear dZ
     try clear d3
     try clear dV
     try clear dP
     try clear d6
     try clear d9
     try clear dQ
     try clear dX
     try clear dS
     try clear d1
     try clear d2
     try clear dv
     try clear dx
     try clear dy
     try clear dB
     try clear dr
     try clear du
     try clear cD
     try clear cy
     try clear cY
     try clear dj
     try clear cZ
     try clear ck
     try clear cA
     try clear dc
     try clear dn
     try clear cS
     try clear cl
     try clear cm
     try clear df
     try clear ci
     try clear cB
     try clear cE
     try clear ch
     try clear cr
     try clear db
     try clear cp
     try clear cq
     try clear cF
     try clear cV
     try clear ce
     try clear cW
     try clear ct
     try clear c9
     try clear cQ
     try clear cI
     try clear cc
     try clear dl
     try clear cH
     try clear cT
     try clear dm
     try clear cG
     try clear cf
     try clear dO
     try clear dU
     try clear dW
     try clear d5
     try clear d7
     try clear dM
     try clear d0
     try clear dY
     try clear dN
     try clear dR
     try clear d8
     try clear dT
     try clear dz
     try clear dD
     try clear dw
     try clear dC
     try clear dA
     try clear dt
     try clear p2
     obtain ⟨bt, av, ar, aq, aj, ai, am, al, an, ak, be, bf, bs, rfl, HA, HK2, ad, ae, ah, ag, au, af, HB⟩ := hrel
     cases gk with
     | zero => exact absurd HA.out (by simp [spec_StageAll.l0])
     | succ k2 =>
      have H := HA.out
      clear HA
      simp only [spec_StageAll.l0] at H
      replace H := bE H
      obtain ⟨bP, A42, H⟩ := H
      by_cases c43 : bt < bP
      ·rw [if_pos c43] at H
       have c43b0 : decide (bt < bP) = true := decide_eq_true c43
       clear c43
       replace H := bE H
       obtain ⟨⟨br, t1134⟩, A44, H⟩ := H
       dsimp only at H
       replace H := bE H
       obtain ⟨⟨aO, dH⟩, A45, H⟩ := H
       dsimp only at H
       replace H := bE H
       obtain ⟨bg, A46, H⟩ := H
       replace H := bE H
       obtain ⟨⟨aU, aX, aZ, a8, bb, bc, t1152⟩, A47, H⟩ := H
       dsimp only at H
       go_wp2_with (first | ((with_reducible refine gate_callee (f := 71) rfl ?_); refine gL (some 39) Try.func71 #[.int .i64 a2, .int .i64 (l1.length : Int)] ?_; (with_reducible refine (spec_Blocks.calls a2 (l1.length : Int) bP _ A42.out).mono ?_); rintro e w' ⟨rfl, ⟨nd, rfl⟩⟩; refine ⟨_, rfl, ?_⟩) | ((with_reducible refine gate_callee (f := 72) rfl ?_); refine gL (some 48) Try.func72 #[.int .i64 a2, .int .i64 (l1.length : Int), .int .i64 bt] ?_; (with_reducible refine (spec_SpanOf.calls a2 (l1.length : Int) bt br t1134 _ A44.out).mono ?_); rintro e w' ⟨rfl, ⟨nd, rfl⟩⟩; refine ⟨_, rfl, ?_⟩) | ((with_reducible refine gate_callee (f := 73) rfl ?_); (with_reducible refine gate_dst (N := 55) rfl ?_); generalize hG_ : wpList _ _ _ _ _ _ = G_))
       subst hG_
       by_cases c49 : t1152 = true
       ·subst c49
        replace H := ifT H
        have H' := aM H
        clear H
        try go_wp2_with (first | ((with_reducible refine gate_callee (f := 73) rfl ?_); refine gL (some 55) Try.func73 #[.slice A1 l1.length c1, .int .i64 a2, .int .i64 bt] ?_; (with_reducible refine (spec_BlockAt.calls _ _ l1 a2 bt aO dH _ ?side1 ?side2 A45.out).mono ?_); (case side1 => repeat (first | exact (Kd.C_below HR1.out TB) | (with_reducible refine Kd.C_alloc ?_ _) | (with_reducible refine Kd.C_drewN ?_ _) | (with_reducible refine Kd.C_drew ?_))); (case side2 => exact HC1.out); rintro e w50 ⟨v1137, rfl, ho0, hb⟩; refine ⟨_, rfl, ?_⟩; have ap := aM (Kd.R_lower (Kd.R_new' (Kd.R_new' ho0 (Kd.R_lt (by have X_ := ad.out; exact TR))) (Kd.R_lt (by have X_ := ae.out; exact TR))) (below_size TB)); replace ad := aM (Kd.R_elder' (by have X_ := ad.out; exact TR) (Kd.R_base ho0) hb); replace ae := aM (Kd.R_elder' (by have X_ := ae.out; exact TR) (Kd.R_base ho0) hb); replace ah := aM (Kd.S_elder' (by have X_ := ah.out; exact TS) (Kd.R_base ho0) hb); replace ag := aM (blk_below (g := ao) (o := .cells #[.slice aH az.length aL, .slice aI aA.length aJ, .int .i64 aD, .int .i64 aC, .int .i64 aB, .slice aK ay.length aN] 33 (0, 0)) TK hb); replace au := aM (blk_below (g := gb1116) (o := .cells #[.slice none 0 0, .slice none 0 0, .int .i64 av, .int .i64 ar, .int .i64 aq, .slice none 0 0] 33 (0, 0)) TK hb); replace af := aM (blk_below (g := gb1129) (o := .cells #[be, bf, .int .i64 am, .int .i64 al, .int .i64 an, bs] 33 (0, 0)) TK hb); replace HB := aM (below_step TB hb); clear ho0 hb; obtain ⟨Ao51, co51, eo51⟩ := Kd.R_slice ad.out; subst eo51; obtain ⟨Ao52, co52, eo52⟩ := Kd.R_slice ae.out; subst eo52; obtain ⟨Ao53, co53, eo53⟩ := Kd.S_slice ah.out; subst eo53; obtain ⟨Ao54, co54, eo54⟩ := Kd.R_slice ap.out; subst eo54))
        replace ad := aM (Kd.R_drew ad.out)
        replace ae := aM (Kd.R_drew ae.out)
        replace ah := aM (Kd.S_drew ah.out)
        replace ap := aM (Kd.R_drew ap.out)
        replace ag := aM (blk_drew ag.out)
        replace au := aM (blk_drew au.out)
        replace af := aM (blk_drew af.out)
        replace HB := aM (below_drew1 HB.out)
        refine start_ (n := 12) (S := fun w' => w'.cell? ⟨gb1129, 0, none⟩ = some (.slice Ao51 aj.length co51) ∧ w'.cell? ⟨gb1129, 1, none⟩ = some (.slice Ao52 ai.length co52) ∧ w'.cell? ⟨gb1129, 2, none⟩ = some (.int .i64 am) ∧ w'.cell? ⟨gb1129, 3, none⟩ = some (.int .i64 al) ∧ w'.cell? ⟨gb1129, 4, none⟩ = some (.int .i64 an) ∧ w'.cell? ⟨gb1129, 5, none⟩ = some (.slice Ao53 ak.length co53) ∧ w'.cell? ⟨ao, 0, none⟩ = some (.slice aH az.length aL) ∧ w'.cell? ⟨ao, 1, none⟩ = some (.slice aI aA.length aJ) ∧ w'.cell? ⟨ao, 2, none⟩ = some (.int .i64 aD) ∧ w'.cell? ⟨ao, 3, none⟩ = some (.int .i64 aC) ∧ w'.cell? ⟨ao, 4, none⟩ = some (.int .i64 aB) ∧ w'.cell? ⟨ao, 5, none⟩ = some (.slice aK ay.length aN)) (ds := []) #[false, false, false, false, false, false, false, false, false, false, false, false] (by kernel_rfl) rfl rfl ⟨(blk_cell af.out 0).trans rfl, (blk_cell af.out 1).trans rfl, (blk_cell af.out 2).trans rfl, (blk_cell af.out 3).trans rfl, (blk_cell af.out 4).trans rfl, (blk_cell af.out 5).trans rfl, (blk_cell ag.out 0).trans rfl, (blk_cell ag.out 1).trans rfl, (blk_cell ag.out 2).trans rfl, (blk_cell ag.out 3).trans rfl, (blk_cell ag.out 4).trans rfl, (blk_cell ag.out 5).trans rfl⟩ (fun hHeld => ?_); refine with_tabW spec_StageAll.tab9 spec_StageAll.bits9 (fun HT_ HW_ => ?_)
        generalize w50.drew = w55 at ad ae ah ap ag au af HB hHeld ⊢
        refine pPe 3 (some 62) #[false, false, false, true, false, false, false, false, false, false, false, false] ?_
        refine pPe 4 (some 63) #[false, false, false, true, true, false, false, false, false, false, false, false] ?_
        refine pTe 0 (some 59) #[true, false, false, true, true, false, false, false, false, false, false, false] ?_
        refine pTe 1 (some 60) #[true, true, false, true, true, false, false, false, false, false, false, false] ?_
        refine join_ (σ := Value × Value × Value × Nat) 2 #[true, true, true, true, true, true, true, true, true, true, false, false] (fun s_ => [(61, .int .i64 bg), (64, .tuple #[.agg #[s_.1, s_.2.1, .int .i64 aZ, .int .i64 a8, .int .i64 bb, s_.2.2.1], .bool true]), (14, .pointer (some ⟨s_.2.2.2, 0, none⟩)), (58, .tuple #[.agg #[s_.1, s_.2.1, .int .i64 aZ, .int .i64 a8, .int .i64 bb, s_.2.2.1], .bool true]), (65, .agg #[s_.1, s_.2.1, .int .i64 aZ, .int .i64 a8, .int .i64 bb, s_.2.2.1]), (66, .bool true)]) (fun s_ w' => (w'.cell? ⟨gb1129, 0, none⟩ = some (.slice Ao51 aj.length co51) ∧ w'.cell? ⟨gb1129, 1, none⟩ = some (.slice Ao52 ai.length co52) ∧ w'.cell? ⟨gb1129, 2, none⟩ = some (.int .i64 am) ∧ w'.cell? ⟨gb1129, 3, none⟩ = some (.int .i64 al) ∧ w'.cell? ⟨gb1129, 4, none⟩ = some (.int .i64 an) ∧ w'.cell? ⟨gb1129, 5, none⟩ = some (.slice Ao53 ak.length co53) ∧ w'.cell? ⟨ao, 0, none⟩ = some (.slice aH az.length aL) ∧ w'.cell? ⟨ao, 1, none⟩ = some (.slice aI aA.length aJ) ∧ w'.cell? ⟨ao, 2, none⟩ = some (.int .i64 aD) ∧ w'.cell? ⟨ao, 3, none⟩ = some (.int .i64 aC) ∧ w'.cell? ⟨ao, 4, none⟩ = some (.int .i64 aB) ∧ w'.cell? ⟨ao, 5, none⟩ = some (.slice aK ay.length aN)) ∧ (Kd.R (Kd.int .u8) 5 w' w.heap.size (fun k_ => some k_ ≠ (s_.1 : Value).ownBlock ∧ some k_ ≠ (s_.2.1 : Value).ownBlock ∧ some k_ ≠ (.slice Ao51 aj.length co51 : Value).ownBlock ∧ some k_ ≠ (.slice Ao52 ai.length co52 : Value).ownBlock) (.slice Ao54 aO.length co54) aO) ∧ (Kd.R (Kd.int .u8) 5 w' w.heap.size (fun k_ => some k_ ≠ (.slice Ao54 aO.length co54 : Value).ownBlock ∧ some k_ ≠ (s_.2.1 : Value).ownBlock ∧ some k_ ≠ (.slice Ao51 aj.length co51 : Value).ownBlock ∧ some k_ ≠ (.slice Ao52 ai.length co52 : Value).ownBlock) s_.1 aU) ∧ (Kd.R (Kd.int .u8) 5 w' w.heap.size (fun k_ => some k_ ≠ (.slice Ao54 aO.length co54 : Value).ownBlock ∧ some k_ ≠ (s_.1 : Value).ownBlock ∧ some k_ ≠ (.slice Ao51 aj.length co51 : Value).ownBlock ∧ some k_ ≠ (.slice Ao52 ai.length co52 : Value).ownBlock) s_.2.1 aX) ∧ (Kd.S k110 110 w' w.heap.size (fun k_ => some k_ ≠ (.slice Ao54 aO.length co54 : Value).ownBlock ∧ some k_ ≠ (s_.1 : Value).ownBlock ∧ some k_ ≠ (s_.2.1 : Value).ownBlock ∧ some k_ ≠ (.slice Ao51 aj.length co51 : Value).ownBlock ∧ some k_ ≠ (.slice Ao52 ai.length co52 : Value).ownBlock ∧ some k_ ≠ (.slice Ao53 ak.length co53 : Value).ownBlock) s_.2.2.1 bc) ∧ (Kd.R (Kd.int .u8) 5 w' w.heap.size (fun k_ => some k_ ≠ (.slice Ao54 aO.length co54 : Value).ownBlock ∧ some k_ ≠ (s_.1 : Value).ownBlock ∧ some k_ ≠ (s_.2.1 : Value).ownBlock ∧ some k_ ≠ (.slice Ao52 ai.length co52 : Value).ownBlock) (.slice Ao51 aj.length co51) aj) ∧ (Kd.R (Kd.int .u8) 5 w' w.heap.size (fun k_ => some k_ ≠ (.slice Ao54 aO.length co54 : Value).ownBlock ∧ some k_ ≠ (s_.1 : Value).ownBlock ∧ some k_ ≠ (s_.2.1 : Value).ownBlock ∧ some k_ ≠ (.slice Ao51 aj.length co51 : Value).ownBlock) (.slice Ao52 ai.length co52) ai) ∧ (Kd.S k110 110 w' w.heap.size (fun k_ => some k_ ≠ (.slice Ao54 aO.length co54 : Value).ownBlock ∧ some k_ ≠ (s_.1 : Value).ownBlock ∧ some k_ ≠ (s_.2.1 : Value).ownBlock ∧ some k_ ≠ (s_.2.2.1 : Value).ownBlock ∧ some k_ ≠ (.slice Ao51 aj.length co51 : Value).ownBlock ∧ some k_ ≠ (.slice Ao52 ai.length co52 : Value).ownBlock) (.slice Ao53 ak.length co53) ak) ∧ (w'.heap[ao]? = some (.cells #[.slice aH az.length aL, .slice aI aA.length aJ, .int .i64 aD, .int .i64 aC, .int .i64 aB, .slice aK ay.length aN] 33 (0, 0))) ∧ (w'.heap[gb1116]? = some (.cells #[.slice none 0 0, .slice none 0 0, .int .i64 av, .int .i64 ar, .int .i64 aq, .slice none 0 0] 33 (0, 0))) ∧ (w'.heap[gb1129]? = some (.cells #[.slice Ao51 aj.length co51, .slice Ao52 ai.length co52, .int .i64 am, .int .i64 al, .int .i64 an, .slice Ao53 ak.length co53] 33 (0, 0))) ∧ (w'.heap[s_.2.2.2]? = some (.cells #[.slice none 0 0, .slice none 0 0, .int .i64 0, .int .i64 0, .int .i64 0, .slice none 0 0] 33 (0, 0))) ∧ (w.heap.size ≤ s_.2.2.2) ∧ (w.heap.size ≤ s_.2.2.2) ∧ (ao ≠ s_.2.2.2) ∧ (s_.2.2.2 ≠ ao) ∧ (gb1116 ≠ s_.2.2.2) ∧ (s_.2.2.2 ≠ gb1116) ∧ (gb1129 ≠ s_.2.2.2) ∧ (s_.2.2.2 ≠ gb1129) ∧ (Below w.heap.size w w')) ?_ ?_
        rotate_left
        ·intro hCont
         refine two_ (i := 2) (j := 9) (Ni := some 61) (Nj := some 14) #[true, true, true, true, true, false, false, false, false, false, false, false] #[true, true, false, true, true, false, false, false, false, true, false, false] rfl rfl rfl rfl (two_of HT_.out (by kernel_rfl)) (by decide) (by decide) (fun K hK => ?_) (fun K hK => ?_)
         ·skip
          refine gG Try.func75 #[.agg #[.slice aH az.length aL, .slice aI aA.length aJ, .int .i64 aD, .int .i64 aC, .int .i64 aB, .slice aK ay.length aN]] ?_
          with_reducible refine (spec_Spare.calls _ _ az _ _ aA aD aC aB _ _ ay bg _ ?side1 ?side2 ?side3 ?side4 ?side5 ?side6 A46.out).mono ?_
          (case side1 => have X_ := (Kd.C_below bx.out HB.out); exact TC)
          (case side2 => exact bB.out)
          (case side3 => have X_ := (Kd.C_below bD.out HB.out); exact TC)
          (case side4 => exact bz.out)
          (case side5 => have X_ := (Kd.C_below bA.out HB.out); exact TC)
          (case side6 => exact bC.out)
          rintro e w56 ⟨rfl, hb⟩
          refine ⟨_, rfl, ?_⟩
          have n0_ := aM (Kd.R_below (by have X_ := ad.out; exact TR) hb)
          have n1_ := aM (Kd.R_below (by have X_ := ae.out; exact TR) hb)
          have n2_ := aM (Kd.S_below (by have X_ := ah.out; exact TS) hb)
          have n3_ := aM (Kd.R_below (by have X_ := ap.out; exact TR) hb)
          have n4_ := aM (blk_below (g := ao) (o := .cells #[.slice aH az.length aL, .slice aI aA.length aJ, .int .i64 aD, .int .i64 aC, .int .i64 aB, .slice aK ay.length aN] 33 (0, 0)) TK hb)
          have n5_ := aM (blk_below (g := gb1116) (o := .cells #[.slice none 0 0, .slice none 0 0, .int .i64 av, .int .i64 ar, .int .i64 aq, .slice none 0 0] 33 (0, 0)) TK hb)
          have n6_ := aM (blk_below (g := gb1129) (o := .cells #[.slice Ao51 aj.length co51, .slice Ao52 ai.length co52, .int .i64 am, .int .i64 al, .int .i64 an, .slice Ao53 ak.length co53] 33 (0, 0)) TK hb)
          have n7_ := aM (below_step TB hb)
          clear ad
          clear ae
          clear ah
          clear ap
          clear ag
          clear au
          clear af
          clear HB
          have ad := n0_
          have ae := n1_
          have ah := n2_
          have ap := n3_
          have ag := n4_
          have au := n5_
          have af := n6_
          have HB := n7_
          clear n0_ n1_ n2_ n3_ n4_ n5_ n6_ n7_
          (try clear hb)
          (try clear hb2)
          (try clear hk)
          (try clear hi)
          refine hK.out _ _ ⟨(blk_cell af.out 0).trans rfl, (blk_cell af.out 1).trans rfl, (blk_cell af.out 2).trans rfl, (blk_cell af.out 3).trans rfl, (blk_cell af.out 4).trans rfl, (blk_cell af.out 5).trans rfl, (blk_cell ag.out 0).trans rfl, (blk_cell ag.out 1).trans rfl, (blk_cell ag.out 2).trans rfl, (blk_cell ag.out 3).trans rfl, (blk_cell ag.out 4).trans rfl, (blk_cell ag.out 5).trans rfl⟩ (fun hHeld => ?_)
          clear hK K
          refine nR ?_
          refine two_ (i := 5) (j := 9) (Ni := some 64) (Nj := some 14) #[true, true, true, true, true, true, false, false, false, false, false, false] #[true, true, true, true, true, false, false, false, false, true, false, false] rfl rfl rfl rfl (two_of HT_.out (by kernel_rfl)) (by decide) (by decide) (fun K hK => ?_) (fun K hK => ?_)
          ·skip
           refine gG Try.func74 #[.agg #[.slice Ao51 aj.length co51, .slice Ao52 ai.length co52, .int .i64 am, .int .i64 al, .int .i64 an, .slice Ao53 ak.length co53], .int .i64 bg, .int .i64 br, .slice Ao54 aO.length co54] ?_
           with_reducible refine (spec_PutBytes.calls k2 _ _ aj _ _ ai am al an _ _ ak bg br _ _ aO aU aX aZ a8 bb bc true _ ?side1 ?side2 ?side3 ?side4 ?side5 ?side6 ?side7 ?side8 A47.out).mono ?_
           (case side1 => have X_ := (Kd.R_reads' ad.out).2.2; exact TC)
           (case side2 => exact (Kd.R_reads' ad.out).2.1)
           (case side3 => have X_ := (Kd.R_reads' ae.out).2.2; exact TC)
           (case side4 => exact (Kd.R_reads' ae.out).2.1)
           (case side5 => have X_ := (Kd.S_reads' ah.out).2.2; exact TC)
           (case side6 => exact (Kd.S_reads' ah.out).2.1)
           (case side7 => have X_ := (Kd.R_reads' ap.out).2.2; exact TC)
           (case side8 => exact (Kd.R_reads' ap.out).2.1)
           rintro e w57 ⟨aY, aW, bh, rfl, ho0, ho1, ho2, hb⟩
           refine ⟨_, rfl, ?_⟩
           have n0_ := aM (Kd.R_mono (Kd.R_told (Kd.R_told (Kd.R_old (by have X_ := ad.out; exact TR) hb) (Kd.R_base ho0)) (Kd.R_base ho1)) (fun _ h_ => h_.1))
           have n1_ := aM (Kd.R_mono (Kd.R_told (Kd.R_told (Kd.R_old (by have X_ := ae.out; exact TR) hb) (Kd.R_base ho0)) (Kd.R_base ho1)) (fun _ h_ => h_.1))
           have n2_ := aM (Kd.S_mono (Kd.S_told (Kd.S_told (Kd.S_told (Kd.S_old (by have X_ := ah.out; exact TS) hb) (Kd.R_base ho0)) (Kd.R_base ho1)) (Kd.S_base ho2)) (fun _ h_ => h_.1))
           have n3_ := aM (Kd.R_mono (Kd.R_told (Kd.R_told (Kd.R_old (by have X_ := ap.out; exact TR) hb) (Kd.R_base ho0)) (Kd.R_base ho1)) (fun _ h_ => h_.1))
           have n4_ := aM (Kd.R_lower (Kd.R_new' (Kd.R_new' (Kd.R_new' ho0 (Kd.R_lt (by have X_ := ad.out; exact TR))) (Kd.R_lt (by have X_ := ae.out; exact TR))) (Kd.R_lt (by have X_ := ap.out; exact TR))) (below_size TB))
           have n5_ := aM (Kd.R_lower (Kd.R_new' (Kd.R_new' (Kd.R_new' ho1 (Kd.R_lt (by have X_ := ad.out; exact TR))) (Kd.R_lt (by have X_ := ae.out; exact TR))) (Kd.R_lt (by have X_ := ap.out; exact TR))) (below_size TB))
           have n6_ := aM (Kd.S_lower (Kd.S_new' (Kd.S_new' (Kd.S_new' (Kd.S_new' ho2 (Kd.R_lt (by have X_ := ad.out; exact TR))) (Kd.R_lt (by have X_ := ae.out; exact TR))) (Kd.S_lt (by have X_ := ah.out; exact TS))) (Kd.R_lt (by have X_ := ap.out; exact TR))) (below_size TB))
           have n7_ := aM (blk_below (g := ao) (o := .cells #[.slice aH az.length aL, .slice aI aA.length aJ, .int .i64 aD, .int .i64 aC, .int .i64 aB, .slice aK ay.length aN] 33 (0, 0)) TK hb)
           have n8_ := aM (blk_below (g := gb1116) (o := .cells #[.slice none 0 0, .slice none 0 0, .int .i64 av, .int .i64 ar, .int .i64 aq, .slice none 0 0] 33 (0, 0)) TK hb)
           have n9_ := aM (blk_below (g := gb1129) (o := .cells #[.slice Ao51 aj.length co51, .slice Ao52 ai.length co52, .int .i64 am, .int .i64 al, .int .i64 an, .slice Ao53 ak.length co53] 33 (0, 0)) TK hb)
           have aV := aM (below_step TB hb)
           clear ad
           clear ae
           clear ah
           clear ap
           clear ag
           clear au
           clear af
           clear HB
           have ad := n0_
           have ae := n1_
           have ah := n2_
           have ap := n3_
           have aQ := n4_
           have aR := n5_
           have aT := n6_
           have ag := n7_
           have au := n8_
           have af := n9_
           have HB := aV
           clear n0_ n1_ n2_ n3_ n4_ n5_ n6_ n7_ n8_ n9_ aV
           (try clear hb)
           (try clear hb2)
           (try clear hk)
           (try clear hi)
           (try clear ho0)
           (try clear ho1)
           (try clear ho2)
           refine hK.out _ _ ⟨(blk_cell af.out 0).trans rfl, (blk_cell af.out 1).trans rfl, (blk_cell af.out 2).trans rfl, (blk_cell af.out 3).trans rfl, (blk_cell af.out 4).trans rfl, (blk_cell af.out 5).trans rfl, (blk_cell ag.out 0).trans rfl, (blk_cell ag.out 1).trans rfl, (blk_cell ag.out 2).trans rfl, (blk_cell ag.out 3).trans rfl, (blk_cell ag.out 4).trans rfl, (blk_cell ag.out 5).trans rfl⟩ (fun hHeld => ?_)
           clear hK K
           refine nR ?_
           refine pPe 6 (some 58) #[true, true, true, true, true, true, true, false, false, false, false, false] ?_
           refine pPe 7 (some 65) #[true, true, true, true, true, true, true, true, false, false, false, false] ?_
           refine pPe 8 (some 66) #[true, true, true, true, true, true, true, true, true, false, false, false] ?_
           refine pOe 9 (some 14) #[true, true, true, true, true, true, true, true, true, true, false, false] (fun K hK => ?_)
           refine box_step ?hg (N := 14) ?hd (cs := #[.slice none 0 0, .slice none 0 0, .int .i64 0, .int .i64 0, .int .i64 0, .slice none 0 0]) (t := 33) ?hr ?_; (case hd => rfl); (case hg => rfl); (case hr => first | (go_simp; done) | (go_simp; rfl))
           intro aa hg w58 hbox hb
           have n0_ := aM (Kd.R_below (by have X_ := ad.out; exact TR) hb)
           have n1_ := aM (Kd.R_below (by have X_ := ae.out; exact TR) hb)
           have n2_ := aM (Kd.S_below (by have X_ := ah.out; exact TS) hb)
           have n3_ := aM (Kd.R_below (by have X_ := ap.out; exact TR) hb)
           have n4_ := aM (Kd.R_below (by have X_ := aQ.out; exact TR) hb)
           have n5_ := aM (Kd.R_below (by have X_ := aR.out; exact TR) hb)
           have n6_ := aM (Kd.S_below (by have X_ := aT.out; exact TS) hb)
           have n7_ := aM (blk_below (g := ao) (o := .cells #[.slice aH az.length aL, .slice aI aA.length aJ, .int .i64 aD, .int .i64 aC, .int .i64 aB, .slice aK ay.length aN] 33 (0, 0)) TK hb)
           have n8_ := aM (blk_below (g := gb1116) (o := .cells #[.slice none 0 0, .slice none 0 0, .int .i64 av, .int .i64 ar, .int .i64 aq, .slice none 0 0] 33 (0, 0)) TK hb)
           have n9_ := aM (blk_below (g := gb1129) (o := .cells #[.slice Ao51 aj.length co51, .slice Ao52 ai.length co52, .int .i64 am, .int .i64 al, .int .i64 an, .slice Ao53 ak.length co53] 33 (0, 0)) TK hb)
           have aV := aM (below_step TB hb)
           have ba := aM (hbox)
           have bn := aM ((by rw [hg]; exact (below_size TB) : w.heap.size ≤ aa))
           have bm := aM ((by rw [hg]; exact (below_size TB) : w.heap.size ≤ aa))
           have bq := aM ((by rw [hg]; exact Nat.ne_of_lt (blk_lt (g := ao) (o := .cells #[.slice aH az.length aL, .slice aI aA.length aJ, .int .i64 aD, .int .i64 aC, .int .i64 aB, .slice aK ay.length aN] 33 (0, 0)) TK) : ao ≠ aa))
           have bp := aM ((by rw [hg]; exact Nat.ne_of_gt (blk_lt (g := ao) (o := .cells #[.slice aH az.length aL, .slice aI aA.length aJ, .int .i64 aD, .int .i64 aC, .int .i64 aB, .slice aK ay.length aN] 33 (0, 0)) TK) : aa ≠ ao))
           have bo := aM ((by rw [hg]; exact Nat.ne_of_lt (blk_lt (g := gb1116) (o := .cells #[.slice none 0 0, .slice none 0 0, .int .i64 av, .int .i64 ar, .int .i64 aq, .slice none 0 0] 33 (0, 0)) TK) : gb1116 ≠ aa))
           have b5 := aM ((by rw [hg]; exact Nat.ne_of_gt (blk_lt (g := gb1116) (o := .cells #[.slice none 0 0, .slice none 0 0, .int .i64 av, .int .i64 ar, .int .i64 aq, .slice none 0 0] 33 (0, 0)) TK) : aa ≠ gb1116))
           have b7 := aM ((by rw [hg]; exact Nat.ne_of_lt (blk_lt (g := gb1129) (o := .cells #[.slice Ao51 aj.length co51, .slice Ao52 ai.length co52, .int .i64 am, .int .i64 al, .int .i64 an, .slice Ao53 ak.length co53] 33 (0, 0)) TK) : gb1129 ≠ aa))
           have b2 := aM ((by rw [hg]; exact Nat.ne_of_gt (blk_lt (g := gb1129) (o := .cells #[.slice Ao51 aj.length co51, .slice Ao52 ai.length co52, .int .i64 am, .int .i64 al, .int .i64 an, .slice Ao53 ak.length co53] 33 (0, 0)) TK) : aa ≠ gb1129))
           clear ad
           clear ae
           clear ah
           clear ap
           clear aQ
           clear aR
           clear aT
           clear ag
           clear au
           clear af
           clear HB
           have ad := n0_
           have ae := n1_
           have ah := n2_
           have ap := n3_
           have aQ := n4_
           have aR := n5_
           have aT := n6_
           have ag := n7_
           have au := n8_
           have af := n9_
           have HB := aV
           have aw := ba
           have bj := bn
           have bi := bm
           have ab := bq
           have aE := bp
           have ax := bo
           have aF := b5
           have ac := b7
           have aG := b2
           clear n0_ n1_ n2_ n3_ n4_ n5_ n6_ n7_ n8_ n9_ aV ba bn bm bq bp bo b5 b7 b2
           clear hb hbox hg
           refine hK.out _ _ ⟨(blk_cell af.out 0).trans rfl, (blk_cell af.out 1).trans rfl, (blk_cell af.out 2).trans rfl, (blk_cell af.out 3).trans rfl, (blk_cell af.out 4).trans rfl, (blk_cell af.out 5).trans rfl, (blk_cell ag.out 0).trans rfl, (blk_cell ag.out 1).trans rfl, (blk_cell ag.out 2).trans rfl, (blk_cell ag.out 3).trans rfl, (blk_cell ag.out 4).trans rfl, (blk_cell ag.out 5).trans rfl⟩ (fun hHeld => ?_)
           clear hK K
           refine nR ?_
           exact norm_ (by simp only [putAll, Act.put, List.setIfInBounds_toArray, List.set_cons_zero, List.set_cons_succ]) (hCont (aY, aW, bh, aa) _ ⟨hHeld, (by (with_reducible repeat (first | apply Kd.R_alloc | apply Kd.R_drewN | apply Kd.R_drew)); exact Kd.R_mono ap.out (fun _ hk => ⟨hk.1.2, ⟨hk.2, ⟨hk.1.1.1.2, hk.1.1.2⟩⟩⟩)), (by (with_reducible repeat (first | apply Kd.R_alloc | apply Kd.R_drewN | apply Kd.R_drew)); exact Kd.R_mono aQ.out (fun _ hk => ⟨hk.2, ⟨hk.1.1.1, ⟨hk.1.1.2, hk.1.2⟩⟩⟩)), (by (with_reducible repeat (first | apply Kd.R_alloc | apply Kd.R_drewN | apply Kd.R_drew)); exact Kd.R_mono aR.out (fun _ hk => ⟨hk.2, ⟨hk.1.1.1, ⟨hk.1.1.2, hk.1.2⟩⟩⟩)), (by (with_reducible repeat (first | apply Kd.S_alloc | apply Kd.S_drewN | apply Kd.S_drew)); exact Kd.S_mono aT.out (fun _ hk => ⟨hk.2, ⟨hk.1.1.1.1.1, ⟨hk.1.1.1.1.2, ⟨hk.1.1.1.2, ⟨hk.1.1.2, hk.1.2⟩⟩⟩⟩⟩)), (by (with_reducible repeat (first | apply Kd.R_alloc | apply Kd.R_drewN | apply Kd.R_drew)); exact Kd.R_mono ad.out (fun _ hk => ⟨hk.1.1.2, ⟨hk.1.2, ⟨hk.2, hk.1.1.1⟩⟩⟩)), (by (with_reducible repeat (first | apply Kd.R_alloc | apply Kd.R_drewN | apply Kd.R_drew)); exact Kd.R_mono ae.out (fun _ hk => ⟨hk.1.1.2, ⟨hk.1.2, ⟨hk.2, hk.1.1.1⟩⟩⟩)), (by (with_reducible repeat (first | apply Kd.S_alloc | apply Kd.S_drewN | apply Kd.S_drew)); exact Kd.S_mono ah.out (fun _ hk => ⟨hk.1.1.1.2, ⟨hk.1.1.2, ⟨hk.1.2, ⟨hk.2, ⟨hk.1.1.1.1.1, hk.1.1.1.1.2⟩⟩⟩⟩⟩)), TK, TK, TK, TK, bj.out, bi.out, ab.out, aE.out, ax.out, aF.out, ac.out, aG.out, TB⟩)
          ·skip
           refine box_step ?hg (N := 14) ?hd (cs := #[.slice none 0 0, .slice none 0 0, .int .i64 0, .int .i64 0, .int .i64 0, .slice none 0 0]) (t := 33) ?hr ?_; (case hd => rfl); (case hg => rfl); (case hr => first | (go_simp; done) | (go_simp; rfl))
           intro aa hg w57 hbox hb
           have n0_ := aM (Kd.R_below (by have X_ := ad.out; exact TR) hb)
           have n1_ := aM (Kd.R_below (by have X_ := ae.out; exact TR) hb)
           have n2_ := aM (Kd.S_below (by have X_ := ah.out; exact TS) hb)
           have n3_ := aM (Kd.R_below (by have X_ := ap.out; exact TR) hb)
           have n4_ := aM (blk_below (g := ao) (o := .cells #[.slice aH az.length aL, .slice aI aA.length aJ, .int .i64 aD, .int .i64 aC, .int .i64 aB, .slice aK ay.length aN] 33 (0, 0)) TK hb)
           have n5_ := aM (blk_below (g := gb1116) (o := .cells #[.slice none 0 0, .slice none 0 0, .int .i64 av, .int .i64 ar, .int .i64 aq, .slice none 0 0] 33 (0, 0)) TK hb)
           have n6_ := aM (blk_below (g := gb1129) (o := .cells #[.slice Ao51 aj.length co51, .slice Ao52 ai.length co52, .int .i64 am, .int .i64 al, .int .i64 an, .slice Ao53 ak.length co53] 33 (0, 0)) TK hb)
           have n7_ := aM (below_step TB hb)
           have n8_ := aM (hbox)
           have n9_ := aM ((by rw [hg]; exact (below_size TB) : w.heap.size ≤ aa))
           have aV := aM ((by rw [hg]; exact (below_size TB) : w.heap.size ≤ aa))
           have ba := aM ((by rw [hg]; exact Nat.ne_of_lt (blk_lt (g := ao) (o := .cells #[.slice aH az.length aL, .slice aI aA.length aJ, .int .i64 aD, .int .i64 aC, .int .i64 aB, .slice aK ay.length aN] 33 (0, 0)) TK) : ao ≠ aa))
           have bn := aM ((by rw [hg]; exact Nat.ne_of_gt (blk_lt (g := ao) (o := .cells #[.slice aH az.length aL, .slice aI aA.length aJ, .int .i64 aD, .int .i64 aC, .int .i64 aB, .slice aK ay.length aN] 33 (0, 0)) TK) : aa ≠ ao))
           have bm := aM ((by rw [hg]; exact Nat.ne_of_lt (blk_lt (g := gb1116) (o := .cells #[.slice none 0 0, .slice none 0 0, .int .i64 av, .int .i64 ar, .int .i64 aq, .slice none 0 0] 33 (0, 0)) TK) : gb1116 ≠ aa))
           have bq := aM ((by rw [hg]; exact Nat.ne_of_gt (blk_lt (g := gb1116) (o := .cells #[.slice none 0 0, .slice none 0 0, .int .i64 av, .int .i64 ar, .int .i64 aq, .slice none 0 0] 33 (0, 0)) TK) : aa ≠ gb1116))
           have bp := aM ((by rw [hg]; exact Nat.ne_of_lt (blk_lt (g := gb1129) (o := .cells #[.slice Ao51 aj.length co51, .slice Ao52 ai.length co52, .int .i64 am, .int .i64 al, .int .i64 an, .slice Ao53 ak.length co53] 33 (0, 0)) TK) : gb1129 ≠ aa))
           have bo := aM ((by rw [hg]; exact Nat.ne_of_gt (blk_lt (g := gb1129) (o := .cells #[.slice Ao51 aj.length co51, .slice Ao52 ai.length co52, .int .i64 am, .int .i64 al, .int .i64 an, .slice Ao53 ak.length co53] 33 (0, 0)) TK) : aa ≠ gb1129))
           clear ad
           clear ae
           clear ah
           clear ap
           clear ag
           clear au
           clear af
           clear HB
           have ad := n0_
           have ae := n1_
           have ah := n2_
           have ap := n3_
           have ag := n4_
           have au := n5_
           have af := n6_
           have HB := n7_
           have aw := n8_
           have bj := n9_
           have bi := aV
           have ab := ba
           have aE := bn
           have ax := bm
           have aF := bq
           have ac := bp
           have aG := bo
           clear n0_ n1_ n2_ n3_ n4_ n5_ n6_ n7_ n8_ n9_ aV ba bn bm bq bp bo
           clear hb hbox hg
           refine hK.out _ _ ⟨(blk_cell af.out 0).trans rfl, (blk_cell af.out 1).trans rfl, (blk_cell af.out 2).trans rfl, (blk_cell af.out 3).trans rfl, (blk_cell af.out 4).trans rfl, (blk_cell af.out 5).trans rfl, (blk_cell ag.out 0).trans rfl, (blk_cell ag.out 1).trans rfl, (blk_cell ag.out 2).trans rfl, (blk_cell ag.out 3).trans rfl, (blk_cell ag.out 4).trans rfl, (blk_cell ag.out 5).trans rfl⟩ (fun hHeld => ?_)
           clear hK K
           refine nR ?_
           refine pOe 5 (some 64) #[true, true, true, true, true, true, false, false, false, true, false, false] (fun K hK => ?_)
           refine gG Try.func74 #[.agg #[.slice Ao51 aj.length co51, .slice Ao52 ai.length co52, .int .i64 am, .int .i64 al, .int .i64 an, .slice Ao53 ak.length co53], .int .i64 bg, .int .i64 br, .slice Ao54 aO.length co54] ?_
           with_reducible refine (spec_PutBytes.calls k2 _ _ aj _ _ ai am al an _ _ ak bg br _ _ aO aU aX aZ a8 bb bc true _ ?side1 ?side2 ?side3 ?side4 ?side5 ?side6 ?side7 ?side8 A47.out).mono ?_
           (case side1 => have X_ := (Kd.R_reads' ad.out).2.2; exact TC)
           (case side2 => exact (Kd.R_reads' ad.out).2.1)
           (case side3 => have X_ := (Kd.R_reads' ae.out).2.2; exact TC)
           (case side4 => exact (Kd.R_reads' ae.out).2.1)
           (case side5 => have X_ := (Kd.S_reads' ah.out).2.2; exact TC)
           (case side6 => exact (Kd.S_reads' ah.out).2.1)
           (case side7 => have X_ := (Kd.R_reads' ap.out).2.2; exact TC)
           (case side8 => exact (Kd.R_reads' ap.out).2.1)
           rintro e w58 ⟨aY, aW, bh, rfl, ho0, ho1, ho2, hb⟩
           refine ⟨_, rfl, ?_⟩
           have n0_ := aM (Kd.R_mono (Kd.R_told (Kd.R_told (Kd.R_old (by have X_ := ad.out; exact TR) hb) (Kd.R_base ho0)) (Kd.R_base ho1)) (fun _ h_ => h_.1))
           have n1_ := aM (Kd.R_mono (Kd.R_told (Kd.R_told (Kd.R_old (by have X_ := ae.out; exact TR) hb) (Kd.R_base ho0)) (Kd.R_base ho1)) (fun _ h_ => h_.1))
           have n2_ := aM (Kd.S_mono (Kd.S_told (Kd.S_told (Kd.S_told (Kd.S_old (by have X_ := ah.out; exact TS) hb) (Kd.R_base ho0)) (Kd.R_base ho1)) (Kd.S_base ho2)) (fun _ h_ => h_.1))
           have n3_ := aM (Kd.R_mono (Kd.R_told (Kd.R_told (Kd.R_old (by have X_ := ap.out; exact TR) hb) (Kd.R_base ho0)) (Kd.R_base ho1)) (fun _ h_ => h_.1))
           have n4_ := aM (Kd.R_lower (Kd.R_new' (Kd.R_new' (Kd.R_new' ho0 (Kd.R_lt (by have X_ := ad.out; exact TR))) (Kd.R_lt (by have X_ := ae.out; exact TR))) (Kd.R_lt (by have X_ := ap.out; exact TR))) (below_size TB))
           have n5_ := aM (Kd.R_lower (Kd.R_new' (Kd.R_new' (Kd.R_new' ho1 (Kd.R_lt (by have X_ := ad.out; exact TR))) (Kd.R_lt (by have X_ := ae.out; exact TR))) (Kd.R_lt (by have X_ := ap.out; exact TR))) (below_size TB))
           have n6_ := aM (Kd.S_lower (Kd.S_new' (Kd.S_new' (Kd.S_new' (Kd.S_new' ho2 (Kd.R_lt (by have X_ := ad.out; exact TR))) (Kd.R_lt (by have X_ := ae.out; exact TR))) (Kd.S_lt (by have X_ := ah.out; exact TS))) (Kd.R_lt (by have X_ := ap.out; exact TR))) (below_size TB))
           have n7_ := aM (blk_below (g := ao) (o := .cells #[.slice aH az.length aL, .slice aI aA.length aJ, .int .i64 aD, .int .i64 aC, .int .i64 aB, .slice aK ay.length aN] 33 (0, 0)) TK hb)
           have n8_ := aM (blk_below (g := gb1116) (o := .cells #[.slice none 0 0, .slice none 0 0, .int .i64 av, .int .i64 ar, .int .i64 aq, .slice none 0 0] 33 (0, 0)) TK hb)
           have n9_ := aM (blk_below (g := gb1129) (o := .cells #[.slice Ao51 aj.length co51, .slice Ao52 ai.length co52, .int .i64 am, .int .i64 al, .int .i64 an, .slice Ao53 ak.length co53] 33 (0, 0)) TK hb)
           have aV := aM (blk_below (g := aa) (o := .cells #[.slice none 0 0, .slice none 0 0, .int .i64 0, .int .i64 0, .int .i64 0, .slice none 0 0] 33 (0, 0)) TK hb)
           have ba := aM (below_step TB hb)
           clear ad
           clear ae
           clear ah
           clear ap
           clear ag
           clear au
           clear af
           clear aw
           clear HB
           have ad := n0_
           have ae := n1_
           have ah := n2_
           have ap := n3_
           have aQ := n4_
           have aR := n5_
           have aT := n6_
           have ag := n7_
           have au := n8_
           have af := n9_
           have aw := aV
           have HB := ba
           clear n0_ n1_ n2_ n3_ n4_ n5_ n6_ n7_ n8_ n9_ aV ba
           (try clear hb)
           (try clear hb2)
           (try clear hk)
           (try clear hi)
           (try clear ho0)
           (try clear ho1)
           (try clear ho2)
           refine hK.out _ _ ⟨(blk_cell af.out 0).trans rfl, (blk_cell af.out 1).trans rfl, (blk_cell af.out 2).trans rfl, (blk_cell af.out 3).trans rfl, (blk_cell af.out 4).trans rfl, (blk_cell af.out 5).trans rfl, (blk_cell ag.out 0).trans rfl, (blk_cell ag.out 1).trans rfl, (blk_cell ag.out 2).trans rfl, (blk_cell ag.out 3).trans rfl, (blk_cell ag.out 4).trans rfl, (blk_cell ag.out 5).trans rfl⟩ (fun hHeld => ?_)
           clear hK K
           refine nR ?_
           refine pPe 6 (some 58) #[true, true, true, true, true, true, true, false, false, true, false, false] ?_
           refine pPe 7 (some 65) #[true, true, true, true, true, true, true, true, false, true, false, false] ?_
           refine pPe 8 (some 66) #[true, true, true, true, true, true, true, true, true, true, false, false] ?_
           exact norm_ (by simp only [putAll, Act.put, List.setIfInBounds_toArray, List.set_cons_zero, List.set_cons_succ]) (hCont (aY, aW, bh, aa) _ ⟨hHeld, (by (with_reducible repeat (first | apply Kd.R_alloc | apply Kd.R_drewN | apply Kd.R_drew)); exact Kd.R_mono ap.out (fun _ hk => ⟨hk.1.2, ⟨hk.2, ⟨hk.1.1.1.2, hk.1.1.2⟩⟩⟩)), (by (with_reducible repeat (first | apply Kd.R_alloc | apply Kd.R_drewN | apply Kd.R_drew)); exact Kd.R_mono aQ.out (fun _ hk => ⟨hk.2, ⟨hk.1.1.1, ⟨hk.1.1.2, hk.1.2⟩⟩⟩)), (by (with_reducible repeat (first | apply Kd.R_alloc | apply Kd.R_drewN | apply Kd.R_drew)); exact Kd.R_mono aR.out (fun _ hk => ⟨hk.2, ⟨hk.1.1.1, ⟨hk.1.1.2, hk.1.2⟩⟩⟩)), (by (with_reducible repeat (first | apply Kd.S_alloc | apply Kd.S_drewN | apply Kd.S_drew)); exact Kd.S_mono aT.out (fun _ hk => ⟨hk.2, ⟨hk.1.1.1.1.1, ⟨hk.1.1.1.1.2, ⟨hk.1.1.1.2, ⟨hk.1.1.2, hk.1.2⟩⟩⟩⟩⟩)), (by (with_reducible repeat (first | apply Kd.R_alloc | apply Kd.R_drewN | apply Kd.R_drew)); exact Kd.R_mono ad.out (fun _ hk => ⟨hk.1.1.2, ⟨hk.1.2, ⟨hk.2, hk.1.1.1⟩⟩⟩)), (by (with_reducible repeat (first | apply Kd.R_alloc | apply Kd.R_drewN | apply Kd.R_drew)); exact Kd.R_mono ae.out (fun _ hk => ⟨hk.1.1.2, ⟨hk.1.2, ⟨hk.2, hk.1.1.1⟩⟩⟩)), (by (with_reducible repeat (first | apply Kd.S_alloc | apply Kd.S_drewN | apply Kd.S_drew)); exact Kd.S_mono ah.out (fun _ hk => ⟨hk.1.1.1.2, ⟨hk.1.1.2, ⟨hk.1.2, ⟨hk.2, ⟨hk.1.1.1.1.1, hk.1.1.1.1.2⟩⟩⟩⟩⟩)), TK, TK, TK, TK, bj.out, bi.out, ab.out, aE.out, ax.out, aF.out, ac.out, aG.out, TB⟩)
         ·skip
          refine box_step ?hg (N := 14) ?hd (cs := #[.slice none 0 0, .slice none 0 0, .int .i64 0, .int .i64 0, .int .i64 0, .slice none 0 0]) (t := 33) ?hr ?_; (case hd => rfl); (case hg => rfl); (case hr => first | (go_simp; done) | (go_simp; rfl))
          intro aa hg w56 hbox hb
          have n0_ := aM (Kd.R_below (by have X_ := ad.out; exact TR) hb)
          have n1_ := aM (Kd.R_below (by have X_ := ae.out; exact TR) hb)
          have n2_ := aM (Kd.S_below (by have X_ := ah.out; exact TS) hb)
          have n3_ := aM (Kd.R_below (by have X_ := ap.out; exact TR) hb)
          have n4_ := aM (blk_below (g := ao) (o := .cells #[.slice aH az.length aL, .slice aI aA.length aJ, .int .i64 aD, .int .i64 aC, .int .i64 aB, .slice aK ay.length aN] 33 (0, 0)) TK hb)
          have n5_ := aM (blk_below (g := gb1116) (o := .cells #[.slice none 0 0, .slice none 0 0, .int .i64 av, .int .i64 ar, .int .i64 aq, .slice none 0 0] 33 (0, 0)) TK hb)
          have n6_ := aM (blk_below (g := gb1129) (o := .cells #[.slice Ao51 aj.length co51, .slice Ao52 ai.length co52, .int .i64 am, .int .i64 al, .int .i64 an, .slice Ao53 ak.length co53] 33 (0, 0)) TK hb)
          have n7_ := aM (below_step TB hb)
          have n8_ := aM (hbox)
          have n9_ := aM ((by rw [hg]; exact (below_size TB) : w.heap.size ≤ aa))
          have aV := aM ((by rw [hg]; exact (below_size TB) : w.heap.size ≤ aa))
          have ba := aM ((by rw [hg]; exact Nat.ne_of_lt (blk_lt (g := ao) (o := .cells #[.slice aH az.length aL, .slice aI aA.length aJ, .int .i64 aD, .int .i64 aC, .int .i64 aB, .slice aK ay.length aN] 33 (0, 0)) TK) : ao ≠ aa))
          have bn := aM ((by rw [hg]; exact Nat.ne_of_gt (blk_lt (g := ao) (o := .cells #[.slice aH az.length aL, .slice aI aA.length aJ, .int .i64 aD, .int .i64 aC, .int .i64 aB, .slice aK ay.length aN] 33 (0, 0)) TK) : aa ≠ ao))
          have bm := aM ((by rw [hg]; exact Nat.ne_of_lt (blk_lt (g := gb1116) (o := .cells #[.slice none 0 0, .slice none 0 0, .int .i64 av, .int .i64 ar, .int .i64 aq, .slice none 0 0] 33 (0, 0)) TK) : gb1116 ≠ aa))
          have bq := aM ((by rw [hg]; exact Nat.ne_of_gt (blk_lt (g := gb1116) (o := .cells #[.slice none 0 0, .slice none 0 0, .int .i64 av, .int .i64 ar, .int .i64 aq, .slice none 0 0] 33 (0, 0)) TK) : aa ≠ gb1116))
          have bp := aM ((by rw [hg]; exact Nat.ne_of_lt (blk_lt (g := gb1129) (o := .cells #[.slice Ao51 aj.length co51, .slice Ao52 ai.length co52, .int .i64 am, .int .i64 al, .int .i64 an, .slice Ao53 ak.length co53] 33 (0, 0)) TK) : gb1129 ≠ aa))
          have bo := aM ((by rw [hg]; exact Nat.ne_of_gt (blk_lt (g := gb1129) (o := .cells #[.slice Ao51 aj.length co51, .slice Ao52 ai.length co52, .int .i64 am, .int .i64 al, .int .i64 an, .slice Ao53 ak.length co53] 33 (0, 0)) TK) : aa ≠ gb1129))
          clear ad
          clear ae
          clear ah
          clear ap
          clear ag
          clear au
          clear af
          clear HB
          have ad := n0_
          have ae := n1_
          have ah := n2_
          have ap := n3_
          have ag := n4_
          have au := n5_
          have af := n6_
          have HB := n7_
          have aw := n8_
          have bj := n9_
          have bi := aV
          have ab := ba
          have aE := bn
          have ax := bm
          have aF := bq
          have ac := bp
          have aG := bo
          clear n0_ n1_ n2_ n3_ n4_ n5_ n6_ n7_ n8_ n9_ aV ba bn bm bq bp bo
          clear hb hbox hg
          refine hK.out _ _ ⟨(blk_cell af.out 0).trans rfl, (blk_cell af.out 1).trans rfl, (blk_cell af.out 2).trans rfl, (blk_cell af.out 3).trans rfl, (blk_cell af.out 4).trans rfl, (blk_cell af.out 5).trans rfl, (blk_cell ag.out 0).trans rfl, (blk_cell ag.out 1).trans rfl, (blk_cell ag.out 2).trans rfl, (blk_cell ag.out 3).trans rfl, (blk_cell ag.out 4).trans rfl, (blk_cell ag.out 5).trans rfl⟩ (fun hHeld => ?_)
          clear hK K
          refine nR ?_
          refine pOe 2 (some 61) #[true, true, true, true, true, false, false, false, false, true, false, false] (fun K hK => ?_)
          refine gG Try.func75 #[.agg #[.slice aH az.length aL, .slice aI aA.length aJ, .int .i64 aD, .int .i64 aC, .int .i64 aB, .slice aK ay.length aN]] ?_
          with_reducible refine (spec_Spare.calls _ _ az _ _ aA aD aC aB _ _ ay bg _ ?side1 ?side2 ?side3 ?side4 ?side5 ?side6 A46.out).mono ?_
          (case side1 => have X_ := (Kd.C_below bx.out HB.out); exact TC)
          (case side2 => exact bB.out)
          (case side3 => have X_ := (Kd.C_below bD.out HB.out); exact TC)
          (case side4 => exact bz.out)
          (case side5 => have X_ := (Kd.C_below bA.out HB.out); exact TC)
          (case side6 => exact bC.out)
          rintro e w57 ⟨rfl, hb⟩
          refine ⟨_, rfl, ?_⟩
          have n0_ := aM (Kd.R_below (by have X_ := ad.out; exact TR) hb)
          have n1_ := aM (Kd.R_below (by have X_ := ae.out; exact TR) hb)
          have n2_ := aM (Kd.S_below (by have X_ := ah.out; exact TS) hb)
          have n3_ := aM (Kd.R_below (by have X_ := ap.out; exact TR) hb)
          have n4_ := aM (blk_below (g := ao) (o := .cells #[.slice aH az.length aL, .slice aI aA.length aJ, .int .i64 aD, .int .i64 aC, .int .i64 aB, .slice aK ay.length aN] 33 (0, 0)) TK hb)
          have n5_ := aM (blk_below (g := gb1116) (o := .cells #[.slice none 0 0, .slice none 0 0, .int .i64 av, .int .i64 ar, .int .i64 aq, .slice none 0 0] 33 (0, 0)) TK hb)
          have n6_ := aM (blk_below (g := gb1129) (o := .cells #[.slice Ao51 aj.length co51, .slice Ao52 ai.length co52, .int .i64 am, .int .i64 al, .int .i64 an, .slice Ao53 ak.length co53] 33 (0, 0)) TK hb)
          have n7_ := aM (blk_below (g := aa) (o := .cells #[.slice none 0 0, .slice none 0 0, .int .i64 0, .int .i64 0, .int .i64 0, .slice none 0 0] 33 (0, 0)) TK hb)
          have n8_ := aM (below_step TB hb)
          clear ad
          clear ae
          clear ah
          clear ap
          clear ag
          clear au
          clear af
          clear aw
          clear HB
          have ad := n0_
          have ae := n1_
          have ah := n2_
          have ap := n3_
          have ag := n4_
          have au := n5_
          have af := n6_
          have aw := n7_
          have HB := n8_
          clear n0_ n1_ n2_ n3_ n4_ n5_ n6_ n7_ n8_
          (try clear hb)
          (try clear hb2)
          (try clear hk)
          (try clear hi)
          refine hK.out _ _ ⟨(blk_cell af.out 0).trans rfl, (blk_cell af.out 1).trans rfl, (blk_cell af.out 2).trans rfl, (blk_cell af.out 3).trans rfl, (blk_cell af.out 4).trans rfl, (blk_cell af.out 5).trans rfl, (blk_cell ag.out 0).trans rfl, (blk_cell ag.out 1).trans rfl, (blk_cell ag.out 2).trans rfl, (blk_cell ag.out 3).trans rfl, (blk_cell ag.out 4).trans rfl, (blk_cell ag.out 5).trans rfl⟩ (fun hHeld => ?_)
          clear hK K
          refine nR ?_
          refine pOe 5 (some 64) #[true, true, true, true, true, true, false, false, false, true, false, false] (fun K hK => ?_)
          refine gG Try.func74 #[.agg #[.slice Ao51 aj.length co51, .slice Ao52 ai.length co52, .int .i64 am, .int .i64 al, .int .i64 an, .slice Ao53 ak.length co53], .int .i64 bg, .int .i64 br, .slice Ao54 aO.length co54] ?_
          with_reducible refine (spec_PutBytes.calls k2 _ _ aj _ _ ai am al an _ _ ak bg br _ _ aO aU aX aZ a8 bb bc true _ ?side1 ?side2 ?side3 ?side4 ?side5 ?side6 ?side7 ?side8 A47.out).mono ?_
          (case side1 => have X_ := (Kd.R_reads' ad.out).2.2; exact TC)
          (case side2 => exact (Kd.R_reads' ad.out).2.1)
          (case side3 => have X_ := (Kd.R_reads' ae.out).2.2; exact TC)
          (case side4 => exact (Kd.R_reads' ae.out).2.1)
          (case side5 => have X_ := (Kd.S_reads' ah.out).2.2; exact TC)
          (case side6 => exact (Kd.S_reads' ah.out).2.1)
          (case side7 => have X_ := (Kd.R_reads' ap.out).2.2; exact TC)
          (case side8 => exact (Kd.R_reads' ap.out).2.1)
          rintro e w58 ⟨aY, aW, bh, rfl, ho0, ho1, ho2, hb⟩
          refine ⟨_, rfl, ?_⟩
          have n0_ := aM (Kd.R_mono (Kd.R_told (Kd.R_told (Kd.R_old (by have X_ := ad.out; exact TR) hb) (Kd.R_base ho0)) (Kd.R_base ho1)) (fun _ h_ => h_.1))
          have n1_ := aM (Kd.R_mono (Kd.R_told (Kd.R_told (Kd.R_old (by have X_ := ae.out; exact TR) hb) (Kd.R_base ho0)) (Kd.R_base ho1)) (fun _ h_ => h_.1))
          have n2_ := aM (Kd.S_mono (Kd.S_told (Kd.S_told (Kd.S_told (Kd.S_old (by have X_ := ah.out; exact TS) hb) (Kd.R_base ho0)) (Kd.R_base ho1)) (Kd.S_base ho2)) (fun _ h_ => h_.1))
          have n3_ := aM (Kd.R_mono (Kd.R_told (Kd.R_told (Kd.R_old (by have X_ := ap.out; exact TR) hb) (Kd.R_base ho0)) (Kd.R_base ho1)) (fun _ h_ => h_.1))
          have n4_ := aM (Kd.R_lower (Kd.R_new' (Kd.R_new' (Kd.R_new' ho0 (Kd.R_lt (by have X_ := ad.out; exact TR))) (Kd.R_lt (by have X_ := ae.out; exact TR))) (Kd.R_lt (by have X_ := ap.out; exact TR))) (below_size TB))
          have n5_ := aM (Kd.R_lower (Kd.R_new' (Kd.R_new' (Kd.R_new' ho1 (Kd.R_lt (by have X_ := ad.out; exact TR))) (Kd.R_lt (by have X_ := ae.out; exact TR))) (Kd.R_lt (by have X_ := ap.out; exact TR))) (below_size TB))
          have n6_ := aM (Kd.S_lower (Kd.S_new' (Kd.S_new' (Kd.S_new' (Kd.S_new' ho2 (Kd.R_lt (by have X_ := ad.out; exact TR))) (Kd.R_lt (by have X_ := ae.out; exact TR))) (Kd.S_lt (by have X_ := ah.out; exact TS))) (Kd.R_lt (by have X_ := ap.out; exact TR))) (below_size TB))
          have n7_ := aM (blk_below (g := ao) (o := .cells #[.slice aH az.length aL, .slice aI aA.length aJ, .int .i64 aD, .int .i64 aC, .int .i64 aB, .slice aK ay.length aN] 33 (0, 0)) TK hb)
          have n8_ := aM (blk_below (g := gb1116) (o := .cells #[.slice none 0 0, .slice none 0 0, .int .i64 av, .int .i64 ar, .int .i64 aq, .slice none 0 0] 33 (0, 0)) TK hb)
          have n9_ := aM (blk_below (g := gb1129) (o := .cells #[.slice Ao51 aj.length co51, .slice Ao52 ai.length co52, .int .i64 am, .int .i64 al, .int .i64 an, .slice Ao53 ak.length co53] 33 (0, 0)) TK hb)
          have aV := aM (blk_below (g := aa) (o := .cells #[.slice none 0 0, .slice none 0 0, .int .i64 0, .int .i64 0, .int .i64 0, .slice none 0 0] 33 (0, 0)) TK hb)
          have ba := aM (below_step TB hb)
          clear ad
          clear ae
          clear ah
          clear ap
          clear ag
          clear au
          clear af
          clear aw
          clear HB
          have ad := n0_
          have ae := n1_
          have ah := n2_
          have ap := n3_
          have aQ := n4_
          have aR := n5_
          have aT := n6_
          have ag := n7_
          have au := n8_
          have af := n9_
          have aw := aV
          have HB := ba
          clear n0_ n1_ n2_ n3_ n4_ n5_ n6_ n7_ n8_ n9_ aV ba
          (try clear hb)
          (try clear hb2)
          (try clear hk)
          (try clear hi)
          (try clear ho0)
          (try clear ho1)
          (try clear ho2)
          refine hK.out _ _ ⟨(blk_cell af.out 0).trans rfl, (blk_cell af.out 1).trans rfl, (blk_cell af.out 2).trans rfl, (blk_cell af.out 3).trans rfl, (blk_cell af.out 4).trans rfl, (blk_cell af.out 5).trans rfl, (blk_cell ag.out 0).trans rfl, (blk_cell ag.out 1).trans rfl, (blk_cell ag.out 2).trans rfl, (blk_cell ag.out 3).trans rfl, (blk_cell ag.out 4).trans rfl, (blk_cell ag.out 5).trans rfl⟩ (fun hHeld => ?_)
          clear hK K
          refine nR ?_
          refine pPe 6 (some 58) #[true, true, true, true, true, true, true, false, false, true, false, false] ?_
          refine pPe 7 (some 65) #[true, true, true, true, true, true, true, true, false, true, false, false] ?_
          refine pPe 8 (some 66) #[true, true, true, true, true, true, true, true, true, true, false, false] ?_
          exact norm_ (by simp only [putAll, Act.put, List.setIfInBounds_toArray, List.set_cons_zero, List.set_cons_succ]) (hCont (aY, aW, bh, aa) _ ⟨hHeld, (by (with_reducible repeat (first | apply Kd.R_alloc | apply Kd.R_drewN | apply Kd.R_drew)); exact Kd.R_mono ap.out (fun _ hk => ⟨hk.1.2, ⟨hk.2, ⟨hk.1.1.1.2, hk.1.1.2⟩⟩⟩)), (by (with_reducible repeat (first | apply Kd.R_alloc | apply Kd.R_drewN | apply Kd.R_drew)); exact Kd.R_mono aQ.out (fun _ hk => ⟨hk.2, ⟨hk.1.1.1, ⟨hk.1.1.2, hk.1.2⟩⟩⟩)), (by (with_reducible repeat (first | apply Kd.R_alloc | apply Kd.R_drewN | apply Kd.R_drew)); exact Kd.R_mono aR.out (fun _ hk => ⟨hk.2, ⟨hk.1.1.1, ⟨hk.1.1.2, hk.1.2⟩⟩⟩)), (by (with_reducible repeat (first | apply Kd.S_alloc | apply Kd.S_drewN | apply Kd.S_drew)); exact Kd.S_mono aT.out (fun _ hk => ⟨hk.2, ⟨hk.1.1.1.1.1, ⟨hk.1.1.1.1.2, ⟨hk.1.1.1.2, ⟨hk.1.1.2, hk.1.2⟩⟩⟩⟩⟩)), (by (with_reducible repeat (first | apply Kd.R_alloc | apply Kd.R_drewN | apply Kd.R_drew)); exact Kd.R_mono ad.out (fun _ hk => ⟨hk.1.1.2, ⟨hk.1.2, ⟨hk.2, hk.1.1.1⟩⟩⟩)), (by (with_reducible repeat (first | apply Kd.R_alloc | apply Kd.R_drewN | apply Kd.R_drew)); exact Kd.R_mono ae.out (fun _ hk => ⟨hk.1.1.2, ⟨hk.1.2, ⟨hk.2, hk.1.1.1⟩⟩⟩)), (by (with_reducible repeat (first | apply Kd.S_alloc | apply Kd.S_drewN | apply Kd.S_drew)); exact Kd.S_mono ah.out (fun _ hk => ⟨hk.1.1.1.2, ⟨hk.1.1.2, ⟨hk.1.2, ⟨hk.2, ⟨hk.1.1.1.1.1, hk.1.1.1.1.2⟩⟩⟩⟩⟩)), TK, TK, TK, TK, bj.out, bi.out, ab.out, aE.out, ax.out, aF.out, ac.out, aG.out, TB⟩)
        rintro ⟨aY, aW, bh, aa⟩ w59 ⟨hS_, h0_, h1_, h2_, h3_, h4_, h5_, h6_, h7_, h8_, h9_, b1, b3, b4, bY, bV, bX, bU, b0, bW, bT⟩
        clear ad ae ah ap ag au af HB
        have ap : Aside0 (Kd.R (Kd.int .u8) 5 w59 w.heap.size (fun k_ => some k_ ≠ (aY : Value).ownBlock ∧ some k_ ≠ (aW : Value).ownBlock ∧ some k_ ≠ (.slice Ao51 aj.length co51 : Value).ownBlock ∧ some k_ ≠ (.slice Ao52 ai.length co52 : Value).ownBlock) (.slice Ao54 aO.length co54) aO) := ⟨h0_⟩
        have aQ : Aside0 (Kd.R (Kd.int .u8) 5 w59 w.heap.size (fun k_ => some k_ ≠ (.slice Ao54 aO.length co54 : Value).ownBlock ∧ some k_ ≠ (aW : Value).ownBlock ∧ some k_ ≠ (.slice Ao51 aj.length co51 : Value).ownBlock ∧ some k_ ≠ (.slice Ao52 ai.length co52 : Value).ownBlock) aY aU) := ⟨h1_⟩
        have aR : Aside0 (Kd.R (Kd.int .u8) 5 w59 w.heap.size (fun k_ => some k_ ≠ (.slice Ao54 aO.length co54 : Value).ownBlock ∧ some k_ ≠ (aY : Value).ownBlock ∧ some k_ ≠ (.slice Ao51 aj.length co51 : Value).ownBlock ∧ some k_ ≠ (.slice Ao52 ai.length co52 : Value).ownBlock) aW aX) := ⟨h2_⟩
        have aT : Aside0 (Kd.S k110 110 w59 w.heap.size (fun k_ => some k_ ≠ (.slice Ao54 aO.length co54 : Value).ownBlock ∧ some k_ ≠ (aY : Value).ownBlock ∧ some k_ ≠ (aW : Value).ownBlock ∧ some k_ ≠ (.slice Ao51 aj.length co51 : Value).ownBlock ∧ some k_ ≠ (.slice Ao52 ai.length co52 : Value).ownBlock ∧ some k_ ≠ (.slice Ao53 ak.length co53 : Value).ownBlock) bh bc) := ⟨h3_⟩
        have ad : Aside0 (Kd.R (Kd.int .u8) 5 w59 w.heap.size (fun k_ => some k_ ≠ (.slice Ao54 aO.length co54 : Value).ownBlock ∧ some k_ ≠ (aY : Value).ownBlock ∧ some k_ ≠ (aW : Value).ownBlock ∧ some k_ ≠ (.slice Ao52 ai.length co52 : Value).ownBlock) (.slice Ao51 aj.length co51) aj) := ⟨h4_⟩
        have ae : Aside0 (Kd.R (Kd.int .u8) 5 w59 w.heap.size (fun k_ => some k_ ≠ (.slice Ao54 aO.length co54 : Value).ownBlock ∧ some k_ ≠ (aY : Value).ownBlock ∧ some k_ ≠ (aW : Value).ownBlock ∧ some k_ ≠ (.slice Ao51 aj.length co51 : Value).ownBlock) (.slice Ao52 ai.length co52) ai) := ⟨h5_⟩
        have ah : Aside0 (Kd.S k110 110 w59 w.heap.size (fun k_ => some k_ ≠ (.slice Ao54 aO.length co54 : Value).ownBlock ∧ some k_ ≠ (aY : Value).ownBlock ∧ some k_ ≠ (aW : Value).ownBlock ∧ some k_ ≠ (bh : Value).ownBlock ∧ some k_ ≠ (.slice Ao51 aj.length co51 : Value).ownBlock ∧ some k_ ≠ (.slice Ao52 ai.length co52 : Value).ownBlock) (.slice Ao53 ak.length co53) ak) := ⟨h6_⟩
        have ag : Aside0 (w59.heap[ao]? = some (.cells #[.slice aH az.length aL, .slice aI aA.length aJ, .int .i64 aD, .int .i64 aC, .int .i64 aB, .slice aK ay.length aN] 33 (0, 0))) := ⟨h7_⟩
        have au : Aside0 (w59.heap[gb1116]? = some (.cells #[.slice none 0 0, .slice none 0 0, .int .i64 av, .int .i64 ar, .int .i64 aq, .slice none 0 0] 33 (0, 0))) := ⟨h8_⟩
        have af : Aside0 (w59.heap[gb1129]? = some (.cells #[.slice Ao51 aj.length co51, .slice Ao52 ai.length co52, .int .i64 am, .int .i64 al, .int .i64 an, .slice Ao53 ak.length co53] 33 (0, 0))) := ⟨h9_⟩
        have aw : Aside0 (w59.heap[aa]? = some (.cells #[.slice none 0 0, .slice none 0 0, .int .i64 0, .int .i64 0, .int .i64 0, .slice none 0 0] 33 (0, 0))) := ⟨b1⟩
        have bj : Aside0 (w.heap.size ≤ aa) := ⟨b3⟩
        have bi : Aside0 (w.heap.size ≤ aa) := ⟨b4⟩
        have ab : Aside0 (ao ≠ aa) := ⟨bY⟩
        have aE : Aside0 (aa ≠ ao) := ⟨bV⟩
        have ax : Aside0 (gb1116 ≠ aa) := ⟨bX⟩
        have aF : Aside0 (aa ≠ gb1116) := ⟨bU⟩
        have ac : Aside0 (gb1129 ≠ aa) := ⟨b0⟩
        have aG : Aside0 (aa ≠ gb1129) := ⟨bW⟩
        have HB : Aside0 (Below w.heap.size w w59) := ⟨bT⟩
        clear h0_ h1_ h2_ h3_ h4_ h5_ h6_ h7_ h8_ h9_ b1 b3 b4 bY bV bX bU b0 bW bT
        have hHeld : w59.cell? ⟨gb1129, 0, none⟩ = some (.slice Ao51 aj.length co51) ∧ w59.cell? ⟨gb1129, 1, none⟩ = some (.slice Ao52 ai.length co52) ∧ w59.cell? ⟨gb1129, 2, none⟩ = some (.int .i64 am) ∧ w59.cell? ⟨gb1129, 3, none⟩ = some (.int .i64 al) ∧ w59.cell? ⟨gb1129, 4, none⟩ = some (.int .i64 an) ∧ w59.cell? ⟨gb1129, 5, none⟩ = some (.slice Ao53 ak.length co53) ∧ w59.cell? ⟨ao, 0, none⟩ = some (.slice aH az.length aL) ∧ w59.cell? ⟨ao, 1, none⟩ = some (.slice aI aA.length aJ) ∧ w59.cell? ⟨ao, 2, none⟩ = some (.int .i64 aD) ∧ w59.cell? ⟨ao, 3, none⟩ = some (.int .i64 aC) ∧ w59.cell? ⟨ao, 4, none⟩ = some (.int .i64 aB) ∧ w59.cell? ⟨ao, 5, none⟩ = some (.slice aK ay.length aN) := hS_
        obtain ⟨bw, bv, eo60⟩ := Kd.R_slice aQ.out
        (first | subst eo60 | (injection eo60 with f1_ f2_ f3_; have f4_ := f1_.symm; have f5_ := f3_.symm; clear f1_ f2_ f3_; subst f4_; subst f5_))
        obtain ⟨bH, bG, eo62⟩ := Kd.R_slice aR.out
        (first | subst eo62 | (injection eo62 with f1_ f2_ f3_; have f4_ := f1_.symm; have f5_ := f3_.symm; clear f1_ f2_ f3_; subst f4_; subst f5_))
        obtain ⟨bN, bM, eo67⟩ := Kd.S_slice aT.out
        (first | subst eo67 | (injection eo67 with f1_ f2_ f3_; have f4_ := f1_.symm; have f5_ := f3_.symm; clear f1_ f2_ f3_; subst f4_; subst f5_))
        refine norm_ (a' := ?_) ?_ ?_
        rotate_left
        ·simp only [putAll, Act.put, List.setIfInBounds_toArray, List.set_cons_zero, List.set_cons_succ]
         rfl
        refine pOe 10 none #[true, true, true, true, true, true, true, true, true, true, true, false] (fun K hK => ?_)
        have hs61 : w59.cell? ⟨aa, 0, none⟩ = some (.slice none 0 0) := (blk_cell aw.out 0).trans rfl
        have hfs61 := blk_frozen aw.out 0
        have hns61_0 := ab.out
        have hns61_1 := ax.out
        have hns61_2 := ac.out
        have hms61_0 := aE.out
        have hms61_1 := aF.out
        have hms61_2 := aG.out
        have hs63 : w59.cell? ⟨aa, 1, none⟩ = some (.slice none 0 0) := (blk_cell aw.out 1).trans rfl
        have hfs63 := blk_frozen aw.out 1
        have hns63_0 := ab.out
        have hns63_1 := ax.out
        have hns63_2 := ac.out
        have hms63_0 := aE.out
        have hms63_1 := aF.out
        have hms63_2 := aG.out
        have hs64 : w59.cell? ⟨aa, 2, none⟩ = some (.int .i64 0) := (blk_cell aw.out 2).trans rfl
        have hfs64 := blk_frozen aw.out 2
        have hns64_0 := ab.out
        have hns64_1 := ax.out
        have hns64_2 := ac.out
        have hms64_0 := aE.out
        have hms64_1 := aF.out
        have hms64_2 := aG.out
        have hs65 : w59.cell? ⟨aa, 3, none⟩ = some (.int .i64 0) := (blk_cell aw.out 3).trans rfl
        have hfs65 := blk_frozen aw.out 3
        have hns65_0 := ab.out
        have hns65_1 := ax.out
        have hns65_2 := ac.out
        have hms65_0 := aE.out
        have hms65_1 := aF.out
        have hms65_2 := aG.out
        have hs66 : w59.cell? ⟨aa, 4, none⟩ = some (.int .i64 0) := (blk_cell aw.out 4).trans rfl
        have hfs66 := blk_frozen aw.out 4
        have hns66_0 := ab.out
        have hns66_1 := ax.out
        have hns66_2 := ac.out
        have hms66_0 := aE.out
        have hms66_1 := aF.out
        have hms66_2 := aG.out
        have hs68 : w59.cell? ⟨aa, 5, none⟩ = some (.slice none 0 0) := (blk_cell aw.out 5).trans rfl
        have hfs68 := blk_frozen aw.out 5
        have hns68_0 := ab.out
        have hns68_1 := ax.out
        have hns68_2 := ac.out
        have hms68_0 := aE.out
        have hms68_1 := aF.out
        have hms68_2 := aG.out
        refine skip_ (w1 := ?_) (by rfl) rfl ?_ ?_
        rotate_left
        ·go_simp
         rfl
        refine hK.out _ _ ⟨((cell_far (p := ⟨aa, _, none⟩) ac.out _).trans (((cell_far (p := ⟨aa, _, none⟩) ac.out _).trans (((cell_far (p := ⟨aa, _, none⟩) ac.out _).trans (((cell_far (p := ⟨aa, _, none⟩) ac.out _).trans (((cell_far (p := ⟨aa, _, none⟩) ac.out _).trans (((cell_far (p := ⟨aa, _, none⟩) ac.out _).trans (hHeld.1)))))))))))), ((cell_far (p := ⟨aa, _, none⟩) ac.out _).trans (((cell_far (p := ⟨aa, _, none⟩) ac.out _).trans (((cell_far (p := ⟨aa, _, none⟩) ac.out _).trans (((cell_far (p := ⟨aa, _, none⟩) ac.out _).trans (((cell_far (p := ⟨aa, _, none⟩) ac.out _).trans (((cell_far (p := ⟨aa, _, none⟩) ac.out _).trans (hHeld.2.1)))))))))))), ((cell_far (p := ⟨aa, _, none⟩) ac.out _).trans (((cell_far (p := ⟨aa, _, none⟩) ac.out _).trans (((cell_far (p := ⟨aa, _, none⟩) ac.out _).trans (((cell_far (p := ⟨aa, _, none⟩) ac.out _).trans (((cell_far (p := ⟨aa, _, none⟩) ac.out _).trans (((cell_far (p := ⟨aa, _, none⟩) ac.out _).trans (hHeld.2.2.1)))))))))))), ((cell_far (p := ⟨aa, _, none⟩) ac.out _).trans (((cell_far (p := ⟨aa, _, none⟩) ac.out _).trans (((cell_far (p := ⟨aa, _, none⟩) ac.out _).trans (((cell_far (p := ⟨aa, _, none⟩) ac.out _).trans (((cell_far (p := ⟨aa, _, none⟩) ac.out _).trans (((cell_far (p := ⟨aa, _, none⟩) ac.out _).trans (hHeld.2.2.2.1)))))))))))), ((cell_far (p := ⟨aa, _, none⟩) ac.out _).trans (((cell_far (p := ⟨aa, _, none⟩) ac.out _).trans (((cell_far (p := ⟨aa, _, none⟩) ac.out _).trans (((cell_far (p := ⟨aa, _, none⟩) ac.out _).trans (((cell_far (p := ⟨aa, _, none⟩) ac.out _).trans (((cell_far (p := ⟨aa, _, none⟩) ac.out _).trans (hHeld.2.2.2.2.1)))))))))))), ((cell_far (p := ⟨aa, _, none⟩) ac.out _).trans (((cell_far (p := ⟨aa, _, none⟩) ac.out _).trans (((cell_far (p := ⟨aa, _, none⟩) ac.out _).trans (((cell_far (p := ⟨aa, _, none⟩) ac.out _).trans (((cell_far (p := ⟨aa, _, none⟩) ac.out _).trans (((cell_far (p := ⟨aa, _, none⟩) ac.out _).trans (hHeld.2.2.2.2.2.1)))))))))))), ((cell_far (p := ⟨aa, _, none⟩) ab.out _).trans (((cell_far (p := ⟨aa, _, none⟩) ab.out _).trans (((cell_far (p := ⟨aa, _, none⟩) ab.out _).trans (((cell_far (p := ⟨aa, _, none⟩) ab.out _).trans (((cell_far (p := ⟨aa, _, none⟩) ab.out _).trans (((cell_far (p := ⟨aa, _, none⟩) ab.out _).trans (hHeld.2.2.2.2.2.2.1)))))))))))), ((cell_far (p := ⟨aa, _, none⟩) ab.out _).trans (((cell_far (p := ⟨aa, _, none⟩) ab.out _).trans (((cell_far (p := ⟨aa, _, none⟩) ab.out _).trans (((cell_far (p := ⟨aa, _, none⟩) ab.out _).trans (((cell_far (p := ⟨aa, _, none⟩) ab.out _).trans (((cell_far (p := ⟨aa, _, none⟩) ab.out _).trans (hHeld.2.2.2.2.2.2.2.1)))))))))))), ((cell_far (p := ⟨aa, _, none⟩) ab.out _).trans (((cell_far (p := ⟨aa, _, none⟩) ab.out _).trans (((cell_far (p := ⟨aa, _, none⟩) ab.out _).trans (((cell_far (p := ⟨aa, _, none⟩) ab.out _).trans (((cell_far (p := ⟨aa, _, none⟩) ab.out _).trans (((cell_far (p := ⟨aa, _, none⟩) ab.out _).trans (hHeld.2.2.2.2.2.2.2.2.1)))))))))))), ((cell_far (p := ⟨aa, _, none⟩) ab.out _).trans (((cell_far (p := ⟨aa, _, none⟩) ab.out _).trans (((cell_far (p := ⟨aa, _, none⟩) ab.out _).trans (((cell_far (p := ⟨aa, _, none⟩) ab.out _).trans (((cell_far (p := ⟨aa, _, none⟩) ab.out _).trans (((cell_far (p := ⟨aa, _, none⟩) ab.out _).trans (hHeld.2.2.2.2.2.2.2.2.2.1)))))))))))), ((cell_far (p := ⟨aa, _, none⟩) ab.out _).trans (((cell_far (p := ⟨aa, _, none⟩) ab.out _).trans (((cell_far (p := ⟨aa, _, none⟩) ab.out _).trans (((cell_far (p := ⟨aa, _, none⟩) ab.out _).trans (((cell_far (p := ⟨aa, _, none⟩) ab.out _).trans (((cell_far (p := ⟨aa, _, none⟩) ab.out _).trans (hHeld.2.2.2.2.2.2.2.2.2.2.1)))))))))))), ((cell_far (p := ⟨aa, _, none⟩) ab.out _).trans (((cell_far (p := ⟨aa, _, none⟩) ab.out _).trans (((cell_far (p := ⟨aa, _, none⟩) ab.out _).trans (((cell_far (p := ⟨aa, _, none⟩) ab.out _).trans (((cell_far (p := ⟨aa, _, none⟩) ab.out _).trans (((cell_far (p := ⟨aa, _, none⟩) ab.out _).trans (hHeld.2.2.2.2.2.2.2.2.2.2.2))))))))))))⟩ (fun hHeld => ?_)
        clear hK K
        refine pPe 11 (some 15) #[true, true, true, true, true, true, true, true, true, true, true, true] ?_
        refine done_ (done_of HT_.out (by kernel_rfl)) ?_
        have hnb69 := aE.out
        have hnc69 := ab.out
        have hnb70 := aF.out
        have hnc70 := ax.out
        have hnb71 := aG.out
        have hnc71 := ac.out
        obtain ⟨hcz72_0, hcz72_1, hcz72_2, hcz72_3, hcz72_4, hcz72_5⟩ := cz6 aw.out
        obtain ⟨hfz72_0, hfz72_1, hfz72_2, hfz72_3, hfz72_4, hfz72_5⟩ := fz6 aw.out
        have hnb73 := NB1129_1115.out
        have hnc73 := NB1115_1129.out
        have hnb74 := NB1129_1116.out
        have hnc74 := NB1116_1129.out
        obtain ⟨hcz75_0, hcz75_1, hcz75_2, hcz75_3, hcz75_4, hcz75_5⟩ := cz6 af.out
        obtain ⟨hfz75_0, hfz75_1, hfz75_2, hfz75_3, hfz75_4, hfz75_5⟩ := fz6 af.out
        try go_wp2
        go_roundg k2
        case measure => have := HJ4.out; have := HK2.out; omega
        case rel => exact ⟨(wrap64 (bt + 1)), (av), (ar), (aq), (aU), (aX), (aZ), (a8), (bb), (bc), (.slice bw aU.length bv), (.slice bH aX.length bG), (.slice bN bc.length bM), (by first | rfl | (simp; done) | (simp [*]; done)), H', ⟨by have := HJ4.out; have := HK2.out; omega⟩, ⟨by (with_reducible repeat (first | apply Kd.R_alloc | apply Kd.R_drewN | apply Kd.R_drew)); exact Kd.R_mono (Kd.R_far (p := ⟨gb1129, 5, none⟩) (Kd.R_far (p := ⟨gb1129, 4, none⟩) (Kd.R_far (p := ⟨gb1129, 3, none⟩) (Kd.R_far (p := ⟨gb1129, 2, none⟩) (Kd.R_far (p := ⟨gb1129, 1, none⟩) (Kd.R_far (p := ⟨gb1129, 0, none⟩) (Kd.R_far (p := ⟨aa, 5, none⟩) (Kd.R_far (p := ⟨aa, 4, none⟩) (Kd.R_far (p := ⟨aa, 3, none⟩) (Kd.R_far (p := ⟨aa, 2, none⟩) (Kd.R_far (p := ⟨aa, 1, none⟩) (Kd.R_far (p := ⟨aa, 0, none⟩) (Kd.R_types (Kd.R_types aQ.out aw.out (by decide)) af.out (by decide)) (fun _ hk => hk.1.2) (.slice bw aU.length bv)) (fun _ hk => hk.1.2) (.slice bH aX.length bG)) (fun _ hk => hk.1.2) (.int .i64 aZ)) (fun _ hk => hk.1.2) (.int .i64 a8)) (fun _ hk => hk.1.2) (.int .i64 bb)) (fun _ hk => hk.1.2) (.slice bN bc.length bM)) (fun _ hk => hk.2) (.slice bw aU.length bv)) (fun _ hk => hk.2) (.slice bH aX.length bG)) (fun _ hk => hk.2) (.int .i64 aZ)) (fun _ hk => hk.2) (.int .i64 a8)) (fun _ hk => hk.2) (.int .i64 bb)) (fun _ hk => hk.2) (.slice bN bc.length bM)) (fun _ hk => hk.1.1.2.1)⟩, ⟨by (with_reducible repeat (first | apply Kd.R_alloc | apply Kd.R_drewN | apply Kd.R_drew)); exact Kd.R_mono (Kd.R_far (p := ⟨gb1129, 5, none⟩) (Kd.R_far (p := ⟨gb1129, 4, none⟩) (Kd.R_far (p := ⟨gb1129, 3, none⟩) (Kd.R_far (p := ⟨gb1129, 2, none⟩) (Kd.R_far (p := ⟨gb1129, 1, none⟩) (Kd.R_far (p := ⟨gb1129, 0, none⟩) (Kd.R_far (p := ⟨aa, 5, none⟩) (Kd.R_far (p := ⟨aa, 4, none⟩) (Kd.R_far (p := ⟨aa, 3, none⟩) (Kd.R_far (p := ⟨aa, 2, none⟩) (Kd.R_far (p := ⟨aa, 1, none⟩) (Kd.R_far (p := ⟨aa, 0, none⟩) (Kd.R_types (Kd.R_types aR.out aw.out (by decide)) af.out (by decide)) (fun _ hk => hk.1.2) (.slice bw aU.length bv)) (fun _ hk => hk.1.2) (.slice bH aX.length bG)) (fun _ hk => hk.1.2) (.int .i64 aZ)) (fun _ hk => hk.1.2) (.int .i64 a8)) (fun _ hk => hk.1.2) (.int .i64 bb)) (fun _ hk => hk.1.2) (.slice bN bc.length bM)) (fun _ hk => hk.2) (.slice bw aU.length bv)) (fun _ hk => hk.2) (.slice bH aX.length bG)) (fun _ hk => hk.2) (.int .i64 aZ)) (fun _ hk => hk.2) (.int .i64 a8)) (fun _ hk => hk.2) (.int .i64 bb)) (fun _ hk => hk.2) (.slice bN bc.length bM)) (fun _ hk => hk.1.1.2.1)⟩, ⟨by (with_reducible repeat (first | apply Kd.S_alloc | apply Kd.S_drewN | apply Kd.S_drew)); exact Kd.S_mono (Kd.S_far (p := ⟨gb1129, 5, none⟩) (Kd.S_far (p := ⟨gb1129, 4, none⟩) (Kd.S_far (p := ⟨gb1129, 3, none⟩) (Kd.S_far (p := ⟨gb1129, 2, none⟩) (Kd.S_far (p := ⟨gb1129, 1, none⟩) (Kd.S_far (p := ⟨gb1129, 0, none⟩) (Kd.S_far (p := ⟨aa, 5, none⟩) (Kd.S_far (p := ⟨aa, 4, none⟩) (Kd.S_far (p := ⟨aa, 3, none⟩) (Kd.S_far (p := ⟨aa, 2, none⟩) (Kd.S_far (p := ⟨aa, 1, none⟩) (Kd.S_far (p := ⟨aa, 0, none⟩) (Kd.S_types (Kd.S_types aT.out aw.out (by decide)) af.out (by decide)) (fun _ hk => hk.1.2) (.slice bw aU.length bv)) (fun _ hk => hk.1.2) (.slice bH aX.length bG)) (fun _ hk => hk.1.2) (.int .i64 aZ)) (fun _ hk => hk.1.2) (.int .i64 a8)) (fun _ hk => hk.1.2) (.int .i64 bb)) (fun _ hk => hk.1.2) (.slice bN bc.length bM)) (fun _ hk => hk.2) (.slice bw aU.length bv)) (fun _ hk => hk.2) (.slice bH aX.length bG)) (fun _ hk => hk.2) (.int .i64 aZ)) (fun _ hk => hk.2) (.int .i64 a8)) (fun _ hk => hk.2) (.int .i64 bb)) (fun _ hk => hk.2) (.slice bN bc.length bM)) (fun _ hk => ⟨hk.1.1.2.1, hk.1.1.2.2.1⟩)⟩, ⟨by (with_reducible repeat (first | refine blk_drewN ?_ _ | refine blk_drew ?_ | refine blk_alloc ?_ _)); refine blk_far ?_ NB1115_1129.out _; (with_reducible repeat (first | refine blk_drewN ?_ _ | refine blk_drew ?_ | refine blk_alloc ?_ _)); refine blk_far ?_ NB1115_1129.out _; (with_reducible repeat (first | refine blk_drewN ?_ _ | refine blk_drew ?_ | refine blk_alloc ?_ _)); refine blk_far ?_ NB1115_1129.out _; (with_reducible repeat (first | refine blk_drewN ?_ _ | refine blk_drew ?_ | refine blk_alloc ?_ _)); refine blk_far ?_ NB1115_1129.out _; (with_reducible repeat (first | refine blk_drewN ?_ _ | refine blk_drew ?_ | refine blk_alloc ?_ _)); refine blk_far ?_ NB1115_1129.out _; (with_reducible repeat (first | refine blk_drewN ?_ _ | refine blk_drew ?_ | refine blk_alloc ?_ _)); refine blk_far ?_ NB1115_1129.out _; (with_reducible repeat (first | refine blk_drewN ?_ _ | refine blk_drew ?_ | refine blk_alloc ?_ _)); refine blk_far ?_ ab.out _; (with_reducible repeat (first | refine blk_drewN ?_ _ | refine blk_drew ?_ | refine blk_alloc ?_ _)); refine blk_far ?_ ab.out _; (with_reducible repeat (first | refine blk_drewN ?_ _ | refine blk_drew ?_ | refine blk_alloc ?_ _)); refine blk_far ?_ ab.out _; (with_reducible repeat (first | refine blk_drewN ?_ _ | refine blk_drew ?_ | refine blk_alloc ?_ _)); refine blk_far ?_ ab.out _; (with_reducible repeat (first | refine blk_drewN ?_ _ | refine blk_drew ?_ | refine blk_alloc ?_ _)); refine blk_far ?_ ab.out _; (with_reducible repeat (first | refine blk_drewN ?_ _ | refine blk_drew ?_ | refine blk_alloc ?_ _)); refine blk_far ?_ ab.out _; (with_reducible repeat (first | refine blk_drewN ?_ _ | refine blk_drew ?_ | refine blk_alloc ?_ _)); exact ag.out⟩, ⟨by (with_reducible repeat (first | refine blk_drewN ?_ _ | refine blk_drew ?_ | refine blk_alloc ?_ _)); refine blk_far ?_ NB1116_1129.out _; (with_reducible repeat (first | refine blk_drewN ?_ _ | refine blk_drew ?_ | refine blk_alloc ?_ _)); refine blk_far ?_ NB1116_1129.out _; (with_reducible repeat (first | refine blk_drewN ?_ _ | refine blk_drew ?_ | refine blk_alloc ?_ _)); refine blk_far ?_ NB1116_1129.out _; (with_reducible repeat (first | refine blk_drewN ?_ _ | refine blk_drew ?_ | refine blk_alloc ?_ _)); refine blk_far ?_ NB1116_1129.out _; (with_reducible repeat (first | refine blk_drewN ?_ _ | refine blk_drew ?_ | refine blk_alloc ?_ _)); refine blk_far ?_ NB1116_1129.out _; (with_reducible repeat (first | refine blk_drewN ?_ _ | refine blk_drew ?_ | refine blk_alloc ?_ _)); refine blk_far ?_ NB1116_1129.out _; (with_reducible repeat (first | refine blk_drewN ?_ _ | refine blk_drew ?_ | refine blk_alloc ?_ _)); refine blk_far ?_ ax.out _; (with_reducible repeat (first | refine blk_drewN ?_ _ | refine blk_drew ?_ | refine blk_alloc ?_ _)); refine blk_far ?_ ax.out _; (with_reducible repeat (first | refine blk_drewN ?_ _ | refine blk_drew ?_ | refine blk_alloc ?_ _)); refine blk_far ?_ ax.out _; (with_reducible repeat (first | refine blk_drewN ?_ _ | refine blk_drew ?_ | refine blk_alloc ?_ _)); refine blk_far ?_ ax.out _; (with_reducible repeat (first | refine blk_drewN ?_ _ | refine blk_drew ?_ | refine blk_alloc ?_ _)); refine blk_far ?_ ax.out _; (with_reducible repeat (first | refine blk_drewN ?_ _ | refine blk_drew ?_ | refine blk_alloc ?_ _)); refine blk_far ?_ ax.out _; (with_reducible repeat (first | refine blk_drewN ?_ _ | refine blk_drew ?_ | refine blk_alloc ?_ _)); exact au.out⟩, ⟨by (with_reducible repeat (first | refine blk_drewN ?_ _ | refine blk_drew ?_ | refine blk_alloc ?_ _)); refine blk_put (cs := #[.slice bw aU.length bv, .slice bH aX.length bG, .int .i64 aZ, .int .i64 a8, .int .i64 bb, .slice Ao53 ak.length co53]) ?_ 5 _ rfl; (with_reducible repeat (first | refine blk_drewN ?_ _ | refine blk_drew ?_ | refine blk_alloc ?_ _)); refine blk_put (cs := #[.slice bw aU.length bv, .slice bH aX.length bG, .int .i64 aZ, .int .i64 a8, .int .i64 an, .slice Ao53 ak.length co53]) ?_ 4 _ rfl; (with_reducible repeat (first | refine blk_drewN ?_ _ | refine blk_drew ?_ | refine blk_alloc ?_ _)); refine blk_put (cs := #[.slice bw aU.length bv, .slice bH aX.length bG, .int .i64 aZ, .int .i64 al, .int .i64 an, .slice Ao53 ak.length co53]) ?_ 3 _ rfl; (with_reducible repeat (first | refine blk_drewN ?_ _ | refine blk_drew ?_ | refine blk_alloc ?_ _)); refine blk_put (cs := #[.slice bw aU.length bv, .slice bH aX.length bG, .int .i64 am, .int .i64 al, .int .i64 an, .slice Ao53 ak.length co53]) ?_ 2 _ rfl; (with_reducible repeat (first | refine blk_drewN ?_ _ | refine blk_drew ?_ | refine blk_alloc ?_ _)); refine blk_put (cs := #[.slice bw aU.length bv, .slice Ao52 ai.length co52, .int .i64 am, .int .i64 al, .int .i64 an, .slice Ao53 ak.length co53]) ?_ 1 _ rfl; (with_reducible repeat (first | refine blk_drewN ?_ _ | refine blk_drew ?_ | refine blk_alloc ?_ _)); refine blk_put (cs := #[.slice Ao51 aj.length co51, .slice Ao52 ai.length co52, .int .i64 am, .int .i64 al, .int .i64 an, .slice Ao53 ak.length co53]) ?_ 0 _ rfl; (with_reducible repeat (first | refine blk_drewN ?_ _ | refine blk_drew ?_ | refine blk_alloc ?_ _)); refine blk_far ?_ ac.out _; (with_reducible repeat (first | refine blk_drewN ?_ _ | refine blk_drew ?_ | refine blk_alloc ?_ _)); refine blk_far ?_ ac.out _; (with_reducible repeat (first | refine blk_drewN ?_ _ | refine blk_drew ?_ | refine blk_alloc ?_ _)); refine blk_far ?_ ac.out _; (with_reducible repeat (first | refine blk_drewN ?_ _ | refine blk_drew ?_ | refine blk_alloc ?_ _)); refine blk_far ?_ ac.out _; (with_reducible repeat (first | refine blk_drewN ?_ _ | refine blk_drew ?_ | refine blk_alloc ?_ _)); refine blk_far ?_ ac.out _; (with_reducible repeat (first | refine blk_drewN ?_ _ | refine blk_drew ?_ | refine blk_alloc ?_ _)); refine blk_far ?_ ac.out _; (with_reducible repeat (first | refine blk_drewN ?_ _ | refine blk_drew ?_ | refine blk_alloc ?_ _)); exact af.out⟩, ⟨TB⟩⟩
       ·replace c49 := Bool.eq_false_iff.mpr c49
        subst c49
        replace H := ifF H
        replace H := bE H
        obtain ⟨⟨bu, bF, bI, bJ, bL, bO⟩, A76, H⟩ := H
        dsimp only at H
        simp only [Option.some.injEq, Prod.mk.injEq] at H
        obtain ⟨rfl, rfl, rfl, rfl, rfl, rfl, rfl⟩ := H
        try go_wp2_with (first | ((with_reducible refine gate_callee (f := 73) rfl ?_); refine gL (some 55) Try.func73 #[.slice A1 l1.length c1, .int .i64 a2, .int .i64 bt] ?_; (with_reducible refine (spec_BlockAt.calls _ _ l1 a2 bt aO dH _ ?side1 ?side2 A45.out).mono ?_); (case side1 => repeat (first | exact (Kd.C_below HR1.out TB) | (with_reducible refine Kd.C_alloc ?_ _) | (with_reducible refine Kd.C_drewN ?_ _) | (with_reducible refine Kd.C_drew ?_))); (case side2 => exact HC1.out); rintro e w77 ⟨v1137, rfl, ho0, hb⟩; refine ⟨_, rfl, ?_⟩; have ap := aM (Kd.R_lower (Kd.R_new' (Kd.R_new' ho0 (Kd.R_lt (by have X_ := ad.out; exact TR))) (Kd.R_lt (by have X_ := ae.out; exact TR))) (below_size TB)); replace ad := aM (Kd.R_elder' (by have X_ := ad.out; exact TR) (Kd.R_base ho0) hb); replace ae := aM (Kd.R_elder' (by have X_ := ae.out; exact TR) (Kd.R_base ho0) hb); replace ah := aM (Kd.S_elder' (by have X_ := ah.out; exact TS) (Kd.R_base ho0) hb); replace ag := aM (blk_below (g := ao) (o := .cells #[.slice aH az.length aL, .slice aI aA.length aJ, .int .i64 aD, .int .i64 aC, .int .i64 aB, .slice aK ay.length aN] 33 (0, 0)) TK hb); replace au := aM (blk_below (g := gb1116) (o := .cells #[.slice none 0 0, .slice none 0 0, .int .i64 av, .int .i64 ar, .int .i64 aq, .slice none 0 0] 33 (0, 0)) TK hb); replace af := aM (blk_below (g := gb1129) (o := .cells #[be, bf, .int .i64 am, .int .i64 al, .int .i64 an, bs] 33 (0, 0)) TK hb); replace HB := aM (below_step TB hb); clear ho0 hb; obtain ⟨Ao78, co78, eo78⟩ := Kd.R_slice ad.out; subst eo78; obtain ⟨Ao79, co79, eo79⟩ := Kd.R_slice ae.out; subst eo79; obtain ⟨Ao80, co80, eo80⟩ := Kd.S_slice ah.out; subst eo80; obtain ⟨Ao81, co81, eo81⟩ := Kd.R_slice ap.out; subst eo81))
        replace ad := aM (Kd.R_drew ad.out)
        replace ae := aM (Kd.R_drew ae.out)
        replace ah := aM (Kd.S_drew ah.out)
        replace ap := aM (Kd.R_drew ap.out)
        replace ag := aM (blk_drew ag.out)
        replace au := aM (blk_drew au.out)
        replace af := aM (blk_drew af.out)
        replace HB := aM (below_drew1 HB.out)
        refine start_ (n := 12) (S := fun w' => w'.cell? ⟨gb1129, 0, none⟩ = some (.slice Ao78 aj.length co78) ∧ w'.cell? ⟨gb1129, 1, none⟩ = some (.slice Ao79 ai.length co79) ∧ w'.cell? ⟨gb1129, 2, none⟩ = some (.int .i64 am) ∧ w'.cell? ⟨gb1129, 3, none⟩ = some (.int .i64 al) ∧ w'.cell? ⟨gb1129, 4, none⟩ = some (.int .i64 an) ∧ w'.cell? ⟨gb1129, 5, none⟩ = some (.slice Ao80 ak.length co80) ∧ w'.cell? ⟨ao, 0, none⟩ = some (.slice aH az.length aL) ∧ w'.cell? ⟨ao, 1, none⟩ = some (.slice aI aA.length aJ) ∧ w'.cell? ⟨ao, 2, none⟩ = some (.int .i64 aD) ∧ w'.cell? ⟨ao, 3, none⟩ = some (.int .i64 aC) ∧ w'.cell? ⟨ao, 4, none⟩ = some (.int .i64 aB) ∧ w'.cell? ⟨ao, 5, none⟩ = some (.slice aK ay.length aN)) (ds := []) #[false, false, false, false, false, false, false, false, false, false, false, false] (by kernel_rfl) rfl rfl ⟨(blk_cell af.out 0).trans rfl, (blk_cell af.out 1).trans rfl, (blk_cell af.out 2).trans rfl, (blk_cell af.out 3).trans rfl, (blk_cell af.out 4).trans rfl, (blk_cell af.out 5).trans rfl, (blk_cell ag.out 0).trans rfl, (blk_cell ag.out 1).trans rfl, (blk_cell ag.out 2).trans rfl, (blk_cell ag.out 3).trans rfl, (blk_cell ag.out 4).trans rfl, (blk_cell ag.out 5).trans rfl⟩ (fun hHeld => ?_); refine with_tabW spec_StageAll.tab9 spec_StageAll.bits9 (fun HT_ HW_ => ?_)
        generalize w77.drew = w82 at ad ae ah ap ag au af HB hHeld ⊢
        refine pPe 3 (some 62) #[false, false, false, true, false, false, false, false, false, false, false, false] ?_
        refine pPe 4 (some 63) #[false, false, false, true, true, false, false, false, false, false, false, false] ?_
        refine pTe 0 (some 59) #[true, false, false, true, true, false, false, false, false, false, false, false] ?_
        refine pTe 1 (some 60) #[true, true, false, true, true, false, false, false, false, false, false, false] ?_
        refine join_ (σ := Value × Value × Value × Nat) 2 #[true, true, true, true, true, true, true, true, true, true, false, false] (fun s_ => [(61, .int .i64 bg), (64, .tuple #[.agg #[s_.1, s_.2.1, .int .i64 aZ, .int .i64 a8, .int .i64 bb, s_.2.2.1], .bool false]), (14, .pointer (some ⟨s_.2.2.2, 0, none⟩)), (58, .tuple #[.agg #[s_.1, s_.2.1, .int .i64 aZ, .int .i64 a8, .int .i64 bb, s_.2.2.1], .bool false]), (65, .agg #[s_.1, s_.2.1, .int .i64 aZ, .int .i64 a8, .int .i64 bb, s_.2.2.1]), (66, .bool false)]) (fun s_ w' => (w'.cell? ⟨gb1129, 0, none⟩ = some (.slice Ao78 aj.length co78) ∧ w'.cell? ⟨gb1129, 1, none⟩ = some (.slice Ao79 ai.length co79) ∧ w'.cell? ⟨gb1129, 2, none⟩ = some (.int .i64 am) ∧ w'.cell? ⟨gb1129, 3, none⟩ = some (.int .i64 al) ∧ w'.cell? ⟨gb1129, 4, none⟩ = some (.int .i64 an) ∧ w'.cell? ⟨gb1129, 5, none⟩ = some (.slice Ao80 ak.length co80) ∧ w'.cell? ⟨ao, 0, none⟩ = some (.slice aH az.length aL) ∧ w'.cell? ⟨ao, 1, none⟩ = some (.slice aI aA.length aJ) ∧ w'.cell? ⟨ao, 2, none⟩ = some (.int .i64 aD) ∧ w'.cell? ⟨ao, 3, none⟩ = some (.int .i64 aC) ∧ w'.cell? ⟨ao, 4, none⟩ = some (.int .i64 aB) ∧ w'.cell? ⟨ao, 5, none⟩ = some (.slice aK ay.length aN)) ∧ (Kd.R (Kd.int .u8) 5 w' w.heap.size (fun k_ => some k_ ≠ (s_.1 : Value).ownBlock ∧ some k_ ≠ (s_.2.1 : Value).ownBlock ∧ some k_ ≠ (.slice Ao78 aj.length co78 : Value).ownBlock ∧ some k_ ≠ (.slice Ao79 ai.length co79 : Value).ownBlock) (.slice Ao81 aO.length co81) aO) ∧ (Kd.R (Kd.int .u8) 5 w' w.heap.size (fun k_ => some k_ ≠ (.slice Ao81 aO.length co81 : Value).ownBlock ∧ some k_ ≠ (s_.2.1 : Value).ownBlock ∧ some k_ ≠ (.slice Ao78 aj.length co78 : Value).ownBlock ∧ some k_ ≠ (.slice Ao79 ai.length co79 : Value).ownBlock) s_.1 aU) ∧ (Kd.R (Kd.int .u8) 5 w' w.heap.size (fun k_ => some k_ ≠ (.slice Ao81 aO.length co81 : Value).ownBlock ∧ some k_ ≠ (s_.1 : Value).ownBlock ∧ some k_ ≠ (.slice Ao78 aj.length co78 : Value).ownBlock ∧ some k_ ≠ (.slice Ao79 ai.length co79 : Value).ownBlock) s_.2.1 aX) ∧ (Kd.S k110 110 w' w.heap.size (fun k_ => some k_ ≠ (.slice Ao81 aO.length co81 : Value).ownBlock ∧ some k_ ≠ (s_.1 : Value).ownBlock ∧ some k_ ≠ (s_.2.1 : Value).ownBlock ∧ some k_ ≠ (.slice Ao78 aj.length co78 : Value).ownBlock ∧ some k_ ≠ (.slice Ao79 ai.length co79 : Value).ownBlock ∧ some k_ ≠ (.slice Ao80 ak.length co80 : Value).ownBlock) s_.2.2.1 bc) ∧ (Kd.R (Kd.int .u8) 5 w' w.heap.size (fun k_ => some k_ ≠ (.slice Ao81 aO.length co81 : Value).ownBlock ∧ some k_ ≠ (s_.1 : Value).ownBlock ∧ some k_ ≠ (s_.2.1 : Value).ownBlock ∧ some k_ ≠ (.slice Ao79 ai.length co79 : Value).ownBlock) (.slice Ao78 aj.length co78) aj) ∧ (Kd.R (Kd.int .u8) 5 w' w.heap.size (fun k_ => some k_ ≠ (.slice Ao81 aO.length co81 : Value).ownBlock ∧ some k_ ≠ (s_.1 : Value).ownBlock ∧ some k_ ≠ (s_.2.1 : Value).ownBlock ∧ some k_ ≠ (.slice Ao78 aj.length co78 : Value).ownBlock) (.slice Ao79 ai.length co79) ai) ∧ (Kd.S k110 110 w' w.heap.size (fun k_ => some k_ ≠ (.slice Ao81 aO.length co81 : Value).ownBlock ∧ some k_ ≠ (s_.1 : Value).ownBlock ∧ some k_ ≠ (s_.2.1 : Value).ownBlock ∧ some k_ ≠ (s_.2.2.1 : Value).ownBlock ∧ some k_ ≠ (.slice Ao78 aj.length co78 : Value).ownBlock ∧ some k_ ≠ (.slice Ao79 ai.length co79 : Value).ownBlock) (.slice Ao80 ak.length co80) ak) ∧ (w'.heap[ao]? = some (.cells #[.slice aH az.length aL, .slice aI aA.length aJ, .int .i64 aD, .int .i64 aC, .int .i64 aB, .slice aK ay.length aN] 33 (0, 0))) ∧ (w'.heap[gb1116]? = some (.cells #[.slice none 0 0, .slice none 0 0, .int .i64 av, .int .i64 ar, .int .i64 aq, .slice none 0 0] 33 (0, 0))) ∧ (w'.heap[gb1129]? = some (.cells #[.slice Ao78 aj.length co78, .slice Ao79 ai.length co79, .int .i64 am, .int .i64 al, .int .i64 an, .slice Ao80 ak.length co80] 33 (0, 0))) ∧ (w'.heap[s_.2.2.2]? = some (.cells #[.slice none 0 0, .slice none 0 0, .int .i64 0, .int .i64 0, .int .i64 0, .slice none 0 0] 33 (0, 0))) ∧ (w.heap.size ≤ s_.2.2.2) ∧ (w.heap.size ≤ s_.2.2.2) ∧ (ao ≠ s_.2.2.2) ∧ (s_.2.2.2 ≠ ao) ∧ (gb1116 ≠ s_.2.2.2) ∧ (s_.2.2.2 ≠ gb1116) ∧ (gb1129 ≠ s_.2.2.2) ∧ (s_.2.2.2 ≠ gb1129) ∧ (Below w.heap.size w w')) ?_ ?_
        rotate_left
        ·intro hCont
         refine two_ (i := 2) (j := 9) (Ni := some 61) (Nj := some 14) #[true, true, true, true, true, false, false, false, false, false, false, false] #[true, true, false, true, true, false, false, false, false, true, false, false] rfl rfl rfl rfl (two_of HT_.out (by kernel_rfl)) (by decide) (by decide) (fun K hK => ?_) (fun K hK => ?_)
         ·skip
          refine gG Try.func75 #[.agg #[.slice aH az.length aL, .slice aI aA.length aJ, .int .i64 aD, .int .i64 aC, .int .i64 aB, .slice aK ay.length aN]] ?_
          with_reducible refine (spec_Spare.calls _ _ az _ _ aA aD aC aB _ _ ay bg _ ?side1 ?side2 ?side3 ?side4 ?side5 ?side6 A46.out).mono ?_
          (case side1 => have X_ := (Kd.C_below bx.out HB.out); exact TC)
          (case side2 => exact bB.out)
          (case side3 => have X_ := (Kd.C_below bD.out HB.out); exact TC)
          (case side4 => exact bz.out)
          (case side5 => have X_ := (Kd.C_below bA.out HB.out); exact TC)
          (case side6 => exact bC.out)
          rintro e w83 ⟨rfl, hb⟩
          refine ⟨_, rfl, ?_⟩
          have n0_ := aM (Kd.R_below (by have X_ := ad.out; exact TR) hb)
          have n1_ := aM (Kd.R_below (by have X_ := ae.out; exact TR) hb)
          have n2_ := aM (Kd.S_below (by have X_ := ah.out; exact TS) hb)
          have n3_ := aM (Kd.R_below (by have X_ := ap.out; exact TR) hb)
          have n4_ := aM (blk_below (g := ao) (o := .cells #[.slice aH az.length aL, .slice aI aA.length aJ, .int .i64 aD, .int .i64 aC, .int .i64 aB, .slice aK ay.length aN] 33 (0, 0)) TK hb)
          have n5_ := aM (blk_below (g := gb1116) (o := .cells #[.slice none 0 0, .slice none 0 0, .int .i64 av, .int .i64 ar, .int .i64 aq, .slice none 0 0] 33 (0, 0)) TK hb)
          have n6_ := aM (blk_below (g := gb1129) (o := .cells #[.slice Ao78 aj.length co78, .slice Ao79 ai.length co79, .int .i64 am, .int .i64 al, .int .i64 an, .slice Ao80 ak.length co80] 33 (0, 0)) TK hb)
          have n7_ := aM (below_step TB hb)
          clear ad
          clear ae
          clear ah
          clear ap
          clear ag
          clear au
          clear af
          clear HB
          have ad := n0_
          have ae := n1_
          have ah := n2_
          have ap := n3_
          have ag := n4_
          have au := n5_
          have af := n6_
          have HB := n7_
          clear n0_ n1_ n2_ n3_ n4_ n5_ n6_ n7_
          (try clear hb)
          (try clear hb2)
          (try clear hk)
          (try clear hi)
          refine hK.out _ _ ⟨(blk_cell af.out 0).trans rfl, (blk_cell af.out 1).trans rfl, (blk_cell af.out 2).trans rfl, (blk_cell af.out 3).trans rfl, (blk_cell af.out 4).trans rfl, (blk_cell af.out 5).trans rfl, (blk_cell ag.out 0).trans rfl, (blk_cell ag.out 1).trans rfl, (blk_cell ag.out 2).trans rfl, (blk_cell ag.out 3).trans rfl, (blk_cell ag.out 4).trans rfl, (blk_cell ag.out 5).trans rfl⟩ (fun hHeld => ?_)
          clear hK K
          refine nR ?_
          refine two_ (i := 5) (j := 9) (Ni := some 64) (Nj := some 14) #[true, true, true, true, true, true, false, false, false, false, false, false] #[true, true, true, true, true, false, false, false, false, true, false, false] rfl rfl rfl rfl (two_of HT_.out (by kernel_rfl)) (by decide) (by decide) (fun K hK => ?_) (fun K hK => ?_)
          ·skip
           refine gG Try.func74 #[.agg #[.slice Ao78 aj.length co78, .slice Ao79 ai.length co79, .int .i64 am, .int .i64 al, .int .i64 an, .slice Ao80 ak.length co80], .int .i64 bg, .int .i64 br, .slice Ao81 aO.length co81] ?_
           with_reducible refine (spec_PutBytes.calls k2 _ _ aj _ _ ai am al an _ _ ak bg br _ _ aO aU aX aZ a8 bb bc false _ ?side1 ?side2 ?side3 ?side4 ?side5 ?side6 ?side7 ?side8 A47.out).mono ?_
           (case side1 => have X_ := (Kd.R_reads' ad.out).2.2; exact TC)
           (case side2 => exact (Kd.R_reads' ad.out).2.1)
           (case side3 => have X_ := (Kd.R_reads' ae.out).2.2; exact TC)
           (case side4 => exact (Kd.R_reads' ae.out).2.1)
           (case side5 => have X_ := (Kd.S_reads' ah.out).2.2; exact TC)
           (case side6 => exact (Kd.S_reads' ah.out).2.1)
           (case side7 => have X_ := (Kd.R_reads' ap.out).2.2; exact TC)
           (case side8 => exact (Kd.R_reads' ap.out).2.1)
           rintro e w84 ⟨aY, aW, bh, rfl, ho0, ho1, ho2, hb⟩
           refine ⟨_, rfl, ?_⟩
           have n0_ := aM (Kd.R_mono (Kd.R_told (Kd.R_told (Kd.R_old (by have X_ := ad.out; exact TR) hb) (Kd.R_base ho0)) (Kd.R_base ho1)) (fun _ h_ => h_.1))
           have n1_ := aM (Kd.R_mono (Kd.R_told (Kd.R_told (Kd.R_old (by have X_ := ae.out; exact TR) hb) (Kd.R_base ho0)) (Kd.R_base ho1)) (fun _ h_ => h_.1))
           have n2_ := aM (Kd.S_mono (Kd.S_told (Kd.S_told (Kd.S_told (Kd.S_old (by have X_ := ah.out; exact TS) hb) (Kd.R_base ho0)) (Kd.R_base ho1)) (Kd.S_base ho2)) (fun _ h_ => h_.1))
           have n3_ := aM (Kd.R_mono (Kd.R_told (Kd.R_told (Kd.R_old (by have X_ := ap.out; exact TR) hb) (Kd.R_base ho0)) (Kd.R_base ho1)) (fun _ h_ => h_.1))
           have n4_ := aM (Kd.R_lower (Kd.R_new' (Kd.R_new' (Kd.R_new' ho0 (Kd.R_lt (by have X_ := ad.out; exact TR))) (Kd.R_lt (by have X_ := ae.out; exact TR))) (Kd.R_lt (by have X_ := ap.out; exact TR))) (below_size TB))
           have n5_ := aM (Kd.R_lower (Kd.R_new' (Kd.R_new' (Kd.R_new' ho1 (Kd.R_lt (by have X_ := ad.out; exact TR))) (Kd.R_lt (by have X_ := ae.out; exact TR))) (Kd.R_lt (by have X_ := ap.out; exact TR))) (below_size TB))
           have n6_ := aM (Kd.S_lower (Kd.S_new' (Kd.S_new' (Kd.S_new' (Kd.S_new' ho2 (Kd.R_lt (by have X_ := ad.out; exact TR))) (Kd.R_lt (by have X_ := ae.out; exact TR))) (Kd.S_lt (by have X_ := ah.out; exact TS))) (Kd.R_lt (by have X_ := ap.out; exact TR))) (below_size TB))
           have n7_ := aM (blk_below (g := ao) (o := .cells #[.slice aH az.length aL, .slice aI aA.length aJ, .int .i64 aD, .int .i64 aC, .int .i64 aB, .slice aK ay.length aN] 33 (0, 0)) TK hb)
           have n8_ := aM (blk_below (g := gb1116) (o := .cells #[.slice none 0 0, .slice none 0 0, .int .i64 av, .int .i64 ar, .int .i64 aq, .slice none 0 0] 33 (0, 0)) TK hb)
           have n9_ := aM (blk_below (g := gb1129) (o := .cells #[.slice Ao78 aj.length co78, .slice Ao79 ai.length co79, .int .i64 am, .int .i64 al, .int .i64 an, .slice Ao80 ak.length co80] 33 (0, 0)) TK hb)
           have aV := aM (below_step TB hb)
           clear ad
           clear ae
           clear ah
           clear ap
           clear ag
           clear au
           clear af
           clear HB
           have ad := n0_
           have ae := n1_
           have ah := n2_
           have ap := n3_
           have aQ := n4_
           have aR := n5_
           have aT := n6_
           have ag := n7_
           have au := n8_
           have af := n9_
           have HB := aV
           clear n0_ n1_ n2_ n3_ n4_ n5_ n6_ n7_ n8_ n9_ aV
           (try clear hb)
           (try clear hb2)
           (try clear hk)
           (try clear hi)
           (try clear ho0)
           (try clear ho1)
           (try clear ho2)
           refine hK.out _ _ ⟨(blk_cell af.out 0).trans rfl, (blk_cell af.out 1).trans rfl, (blk_cell af.out 2).trans rfl, (blk_cell af.out 3).trans rfl, (blk_cell af.out 4).trans rfl, (blk_cell af.out 5).trans rfl, (blk_cell ag.out 0).trans rfl, (blk_cell ag.out 1).trans rfl, (blk_cell ag.out 2).trans rfl, (blk_cell ag.out 3).trans rfl, (blk_cell ag.out 4).trans rfl, (blk_cell ag.out 5).trans rfl⟩ (fun hHeld => ?_)
           clear hK K
           refine nR ?_
           refine pPe 6 (some 58) #[true, true, true, true, true, true, true, false, false, false, false, false] ?_
           refine pPe 7 (some 65) #[true, true, true, true, true, true, true, true, false, false, false, false] ?_
           refine pPe 8 (some 66) #[true, true, true, true, true, true, true, true, true, false, false, false] ?_
           refine pOe 9 (some 14) #[true, true, true, true, true, true, true, true, true, true, false, false] (fun K hK => ?_)
           refine box_step ?hg (N := 14) ?hd (cs := #[.slice none 0 0, .slice none 0 0, .int .i64 0, .int .i64 0, .int .i64 0, .slice none 0 0]) (t := 33) ?hr ?_; (case hd => rfl); (case hg => rfl); (case hr => first | (go_simp; done) | (go_simp; rfl))
           intro aa hg w85 hbox hb
           have n0_ := aM (Kd.R_below (by have X_ := ad.out; exact TR) hb)
           have n1_ := aM (Kd.R_below (by have X_ := ae.out; exact TR) hb)
           have n2_ := aM (Kd.S_below (by have X_ := ah.out; exact TS) hb)
           have n3_ := aM (Kd.R_below (by have X_ := ap.out; exact TR) hb)
           have n4_ := aM (Kd.R_below (by have X_ := aQ.out; exact TR) hb)
           have n5_ := aM (Kd.R_below (by have X_ := aR.out; exact TR) hb)
           have n6_ := aM (Kd.S_below (by have X_ := aT.out; exact TS) hb)
           have n7_ := aM (blk_below (g := ao) (o := .cells #[.slice aH az.length aL, .slice aI aA.length aJ, .int .i64 aD, .int .i64 aC, .int .i64 aB, .slice aK ay.length aN] 33 (0, 0)) TK hb)
           have n8_ := aM (blk_below (g := gb1116) (o := .cells #[.slice none 0 0, .slice none 0 0, .int .i64 av, .int .i64 ar, .int .i64 aq, .slice none 0 0] 33 (0, 0)) TK hb)
           have n9_ := aM (blk_below (g := gb1129) (o := .cells #[.slice Ao78 aj.length co78, .slice Ao79 ai.length co79, .int .i64 am, .int .i64 al, .int .i64 an, .slice Ao80 ak.length co80] 33 (0, 0)) TK hb)
           have aV := aM (below_step TB hb)
           have ba := aM (hbox)
           have bn := aM ((by rw [hg]; exact (below_size TB) : w.heap.size ≤ aa))
           have bm := aM ((by rw [hg]; exact (below_size TB) : w.heap.size ≤ aa))
           have bq := aM ((by rw [hg]; exact Nat.ne_of_lt (blk_lt (g := ao) (o := .cells #[.slice aH az.length aL, .slice aI aA.length aJ, .int .i64 aD, .int .i64 aC, .int .i64 aB, .slice aK ay.length aN] 33 (0, 0)) TK) : ao ≠ aa))
           have bp := aM ((by rw [hg]; exact Nat.ne_of_gt (blk_lt (g := ao) (o := .cells #[.slice aH az.length aL, .slice aI aA.length aJ, .int .i64 aD, .int .i64 aC, .int .i64 aB, .slice aK ay.length aN] 33 (0, 0)) TK) : aa ≠ ao))
           have bo := aM ((by rw [hg]; exact Nat.ne_of_lt (blk_lt (g := gb1116) (o := .cells #[.slice none 0 0, .slice none 0 0, .int .i64 av, .int .i64 ar, .int .i64 aq, .slice none 0 0] 33 (0, 0)) TK) : gb1116 ≠ aa))
           have b5 := aM ((by rw [hg]; exact Nat.ne_of_gt (blk_lt (g := gb1116) (o := .cells #[.slice none 0 0, .slice none 0 0, .int .i64 av, .int .i64 ar, .int .i64 aq, .slice none 0 0] 33 (0, 0)) TK) : aa ≠ gb1116))
           have b7 := aM ((by rw [hg]; exact Nat.ne_of_lt (blk_lt (g := gb1129) (o := .cells #[.slice Ao78 aj.length co78, .slice Ao79 ai.length co79, .int .i64 am, .int .i64 al, .int .i64 an, .slice Ao80 ak.length co80] 33 (0, 0)) TK) : gb1129 ≠ aa))
           have b2 := aM ((by rw [hg]; exact Nat.ne_of_gt (blk_lt (g := gb1129) (o := .cells #[.slice Ao78 aj.length co78, .slice Ao79 ai.length co79, .int .i64 am, .int .i64 al, .int .i64 an, .slice Ao80 ak.length co80] 33 (0, 0)) TK) : aa ≠ gb1129))
           clear ad
           clear ae
           clear ah
           clear ap
           clear aQ
           clear aR
           clear aT
           clear ag
           clear au
           clear af
           clear HB
           have ad := n0_
           have ae := n1_
           have ah := n2_
           have ap := n3_
           have aQ := n4_
           have aR := n5_
           have aT := n6_
           have ag := n7_
           have au := n8_
           have af := n9_
           have HB := aV
           have aw := ba
           have bj := bn
           have bi := bm
           have ab := bq
           have aE := bp
           have ax := bo
           have aF := b5
           have ac := b7
           have aG := b2
           clear n0_ n1_ n2_ n3_ n4_ n5_ n6_ n7_ n8_ n9_ aV ba bn bm bq bp bo b5 b7 b2
           clear hb hbox hg
           refine hK.out _ _ ⟨(blk_cell af.out 0).trans rfl, (blk_cell af.out 1).trans rfl, (blk_cell af.out 2).trans rfl, (blk_cell af.out 3).trans rfl, (blk_cell af.out 4).trans rfl, (blk_cell af.out 5).trans rfl, (blk_cell ag.out 0).trans rfl, (blk_cell ag.out 1).trans rfl, (blk_cell ag.out 2).trans rfl, (blk_cell ag.out 3).trans rfl, (blk_cell ag.out 4).trans rfl, (blk_cell ag.out 5).trans rfl⟩ (fun hHeld => ?_)
           clear hK K
           refine nR ?_
           exact norm_ (by simp only [putAll, Act.put, List.setIfInBounds_toArray, List.set_cons_zero, List.set_cons_succ]) (hCont (aY, aW, bh, aa) _ ⟨hHeld, (by (with_reducible repeat (first | apply Kd.R_alloc | apply Kd.R_drewN | apply Kd.R_drew)); exact Kd.R_mono ap.out (fun _ hk => ⟨hk.1.2, ⟨hk.2, ⟨hk.1.1.1.2, hk.1.1.2⟩⟩⟩)), (by (with_reducible repeat (first | apply Kd.R_alloc | apply Kd.R_drewN | apply Kd.R_drew)); exact Kd.R_mono aQ.out (fun _ hk => ⟨hk.2, ⟨hk.1.1.1, ⟨hk.1.1.2, hk.1.2⟩⟩⟩)), (by (with_reducible repeat (first | apply Kd.R_alloc | apply Kd.R_drewN | apply Kd.R_drew)); exact Kd.R_mono aR.out (fun _ hk => ⟨hk.2, ⟨hk.1.1.1, ⟨hk.1.1.2, hk.1.2⟩⟩⟩)), (by (with_reducible repeat (first | apply Kd.S_alloc | apply Kd.S_drewN | apply Kd.S_drew)); exact Kd.S_mono aT.out (fun _ hk => ⟨hk.2, ⟨hk.1.1.1.1.1, ⟨hk.1.1.1.1.2, ⟨hk.1.1.1.2, ⟨hk.1.1.2, hk.1.2⟩⟩⟩⟩⟩)), (by (with_reducible repeat (first | apply Kd.R_alloc | apply Kd.R_drewN | apply Kd.R_drew)); exact Kd.R_mono ad.out (fun _ hk => ⟨hk.1.1.2, ⟨hk.1.2, ⟨hk.2, hk.1.1.1⟩⟩⟩)), (by (with_reducible repeat (first | apply Kd.R_alloc | apply Kd.R_drewN | apply Kd.R_drew)); exact Kd.R_mono ae.out (fun _ hk => ⟨hk.1.1.2, ⟨hk.1.2, ⟨hk.2, hk.1.1.1⟩⟩⟩)), (by (with_reducible repeat (first | apply Kd.S_alloc | apply Kd.S_drewN | apply Kd.S_drew)); exact Kd.S_mono ah.out (fun _ hk => ⟨hk.1.1.1.2, ⟨hk.1.1.2, ⟨hk.1.2, ⟨hk.2, ⟨hk.1.1.1.1.1, hk.1.1.1.1.2⟩⟩⟩⟩⟩)), TK, TK, TK, TK, bj.out, bi.out, ab.out, aE.out, ax.out, aF.out, ac.out, aG.out, TB⟩)
          ·skip
           refine box_step ?hg (N := 14) ?hd (cs := #[.slice none 0 0, .slice none 0 0, .int .i64 0, .int .i64 0, .int .i64 0, .slice none 0 0]) (t := 33) ?hr ?_; (case hd => rfl); (case hg => rfl); (case hr => first | (go_simp; done) | (go_simp; rfl))
           intro aa hg w84 hbox hb
           have n0_ := aM (Kd.R_below (by have X_ := ad.out; exact TR) hb)
           have n1_ := aM (Kd.R_below (by have X_ := ae.out; exact TR) hb)
           have n2_ := aM (Kd.S_below (by have X_ := ah.out; exact TS) hb)
           have n3_ := aM (Kd.R_below (by have X_ := ap.out; exact TR) hb)
           have n4_ := aM (blk_below (g := ao) (o := .cells #[.slice aH az.length aL, .slice aI aA.length aJ, .int .i64 aD, .int .i64 aC, .int .i64 aB, .slice aK ay.length aN] 33 (0, 0)) TK hb)
           have n5_ := aM (blk_below (g := gb1116) (o := .cells #[.slice none 0 0, .slice none 0 0, .int .i64 av, .int .i64 ar, .int .i64 aq, .slice none 0 0] 33 (0, 0)) TK hb)
           have n6_ := aM (blk_below (g := gb1129) (o := .cells #[.slice Ao78 aj.length co78, .slice Ao79 ai.length co79, .int .i64 am, .int .i64 al, .int .i64 an, .slice Ao80 ak.length co80] 33 (0, 0)) TK hb)
           have n7_ := aM (below_step TB hb)
           have n8_ := aM (hbox)
           have n9_ := aM ((by rw [hg]; exact (below_size TB) : w.heap.size ≤ aa))
           have aV := aM ((by rw [hg]; exact (below_size TB) : w.heap.size ≤ aa))
           have ba := aM ((by rw [hg]; exact Nat.ne_of_lt (blk_lt (g := ao) (o := .cells #[.slice aH az.length aL, .slice aI aA.length aJ, .int .i64 aD, .int .i64 aC, .int .i64 aB, .slice aK ay.length aN] 33 (0, 0)) TK) : ao ≠ aa))
           have bn := aM ((by rw [hg]; exact Nat.ne_of_gt (blk_lt (g := ao) (o := .cells #[.slice aH az.length aL, .slice aI aA.length aJ, .int .i64 aD, .int .i64 aC, .int .i64 aB, .slice aK ay.length aN] 33 (0, 0)) TK) : aa ≠ ao))
           have bm := aM ((by rw [hg]; exact Nat.ne_of_lt (blk_lt (g := gb1116) (o := .cells #[.slice none 0 0, .slice none 0 0, .int .i64 av, .int .i64 ar, .int .i64 aq, .slice none 0 0] 33 (0, 0)) TK) : gb1116 ≠ aa))
           have bq := aM ((by rw [hg]; exact Nat.ne_of_gt (blk_lt (g := gb1116) (o := .cells #[.slice none 0 0, .slice none 0 0, .int .i64 av, .int .i64 ar, .int .i64 aq, .slice none 0 0] 33 (0, 0)) TK) : aa ≠ gb1116))
           have bp := aM ((by rw [hg]; exact Nat.ne_of_lt (blk_lt (g := gb1129) (o := .cells #[.slice Ao78 aj.length co78, .slice Ao79 ai.length co79, .int .i64 am, .int .i64 al, .int .i64 an, .slice Ao80 ak.length co80] 33 (0, 0)) TK) : gb1129 ≠ aa))
           have bo := aM ((by rw [hg]; exact Nat.ne_of_gt (blk_lt (g := gb1129) (o := .cells #[.slice Ao78 aj.length co78, .slice Ao79 ai.length co79, .int .i64 am, .int .i64 al, .int .i64 an, .slice Ao80 ak.length co80] 33 (0, 0)) TK) : aa ≠ gb1129))
           clear ad
           clear ae
           clear ah
           clear ap
           clear ag
           clear au
           clear af
           clear HB
           have ad := n0_
           have ae := n1_
           have ah := n2_
           have ap := n3_
           have ag := n4_
           have au := n5_
           have af := n6_
           have HB := n7_
           have aw := n8_
           have bj := n9_
           have bi := aV
           have ab := ba
           have aE := bn
           have ax := bm
           have aF := bq
           have ac := bp
           have aG := bo
           clear n0_ n1_ n2_ n3_ n4_ n5_ n6_ n7_ n8_ n9_ aV ba bn bm bq bp bo
           clear hb hbox hg
           refine hK.out _ _ ⟨(blk_cell af.out 0).trans rfl, (blk_cell af.out 1).trans rfl, (blk_cell af.out 2).trans rfl, (blk_cell af.out 3).trans rfl, (blk_cell af.out 4).trans rfl, (blk_cell af.out 5).trans rfl, (blk_cell ag.out 0).trans rfl, (blk_cell ag.out 1).trans rfl, (blk_cell ag.out 2).trans rfl, (blk_cell ag.out 3).trans rfl, (blk_cell ag.out 4).trans rfl, (blk_cell ag.out 5).trans rfl⟩ (fun hHeld => ?_)
           clear hK K
           refine nR ?_
           refine pOe 5 (some 64) #[true, true, true, true, true, true, false, false, false, true, false, false] (fun K hK => ?_)
           refine gG Try.func74 #[.agg #[.slice Ao78 aj.length co78, .slice Ao79 ai.length co79, .int .i64 am, .int .i64 al, .int .i64 an, .slice Ao80 ak.length co80], .int .i64 bg, .int .i64 br, .slice Ao81 aO.length co81] ?_
           with_reducible refine (spec_PutBytes.calls k2 _ _ aj _ _ ai am al an _ _ ak bg br _ _ aO aU aX aZ a8 bb bc false _ ?side1 ?side2 ?side3 ?side4 ?side5 ?side6 ?side7 ?side8 A47.out).mono ?_
           (case side1 => have X_ := (Kd.R_reads' ad.out).2.2; exact TC)
           (case side2 => exact (Kd.R_reads' ad.out).2.1)
           (case side3 => have X_ := (Kd.R_reads' ae.out).2.2; exact TC)
           (case side4 => exact (Kd.R_reads' ae.out).2.1)
           (case side5 => have X_ := (Kd.S_reads' ah.out).2.2; exact TC)
           (case side6 => exact (Kd.S_reads' ah.out).2.1)
           (case side7 => have X_ := (Kd.R_reads' ap.out).2.2; exact TC)
           (case side8 => exact (Kd.R_reads' ap.out).2.1)
           rintro e w85 ⟨aY, aW, bh, rfl, ho0, ho1, ho2, hb⟩
           refine ⟨_, rfl, ?_⟩
           have n0_ := aM (Kd.R_mono (Kd.R_told (Kd.R_told (Kd.R_old (by have X_ := ad.out; exact TR) hb) (Kd.R_base ho0)) (Kd.R_base ho1)) (fun _ h_ => h_.1))
           have n1_ := aM (Kd.R_mono (Kd.R_told (Kd.R_told (Kd.R_old (by have X_ := ae.out; exact TR) hb) (Kd.R_base ho0)) (Kd.R_base ho1)) (fun _ h_ => h_.1))
           have n2_ := aM (Kd.S_mono (Kd.S_told (Kd.S_told (Kd.S_told (Kd.S_old (by have X_ := ah.out; exact TS) hb) (Kd.R_base ho0)) (Kd.R_base ho1)) (Kd.S_base ho2)) (fun _ h_ => h_.1))
           have n3_ := aM (Kd.R_mono (Kd.R_told (Kd.R_told (Kd.R_old (by have X_ := ap.out; exact TR) hb) (Kd.R_base ho0)) (Kd.R_base ho1)) (fun _ h_ => h_.1))
           have n4_ := aM (Kd.R_lower (Kd.R_new' (Kd.R_new' (Kd.R_new' ho0 (Kd.R_lt (by have X_ := ad.out; exact TR))) (Kd.R_lt (by have X_ := ae.out; exact TR))) (Kd.R_lt (by have X_ := ap.out; exact TR))) (below_size TB))
           have n5_ := aM (Kd.R_lower (Kd.R_new' (Kd.R_new' (Kd.R_new' ho1 (Kd.R_lt (by have X_ := ad.out; exact TR))) (Kd.R_lt (by have X_ := ae.out; exact TR))) (Kd.R_lt (by have X_ := ap.out; exact TR))) (below_size TB))
           have n6_ := aM (Kd.S_lower (Kd.S_new' (Kd.S_new' (Kd.S_new' (Kd.S_new' ho2 (Kd.R_lt (by have X_ := ad.out; exact TR))) (Kd.R_lt (by have X_ := ae.out; exact TR))) (Kd.S_lt (by have X_ := ah.out; exact TS))) (Kd.R_lt (by have X_ := ap.out; exact TR))) (below_size TB))
           have n7_ := aM (blk_below (g := ao) (o := .cells #[.slice aH az.length aL, .slice aI aA.length aJ, .int .i64 aD, .int .i64 aC, .int .i64 aB, .slice aK ay.length aN] 33 (0, 0)) TK hb)
           have n8_ := aM (blk_below (g := gb1116) (o := .cells #[.slice none 0 0, .slice none 0 0, .int .i64 av, .int .i64 ar, .int .i64 aq, .slice none 0 0] 33 (0, 0)) TK hb)
           have n9_ := aM (blk_below (g := gb1129) (o := .cells #[.slice Ao78 aj.length co78, .slice Ao79 ai.length co79, .int .i64 am, .int .i64 al, .int .i64 an, .slice Ao80 ak.length co80] 33 (0, 0)) TK hb)
           have aV := aM (blk_below (g := aa) (o := .cells #[.slice none 0 0, .slice none 0 0, .int .i64 0, .int .i64 0, .int .i64 0, .slice none 0 0] 33 (0, 0)) TK hb)
           have ba := aM (below_step TB hb)
           clear ad
           clear ae
           clear ah
           clear ap
           clear ag
           clear au
           clear af
           clear aw
           clear HB
           have ad := n0_
           have ae := n1_
           have ah := n2_
           have ap := n3_
           have aQ := n4_
           have aR := n5_
           have aT := n6_
           have ag := n7_
           have au := n8_
           have af := n9_
           have aw := aV
           have HB := ba
           clear n0_ n1_ n2_ n3_ n4_ n5_ n6_ n7_ n8_ n9_ aV ba
           (try clear hb)
           (try clear hb2)
           (try clear hk)
           (try clear hi)
           (try clear ho0)
           (try clear ho1)
           (try clear ho2)
           refine hK.out _ _ ⟨(blk_cell af.out 0).trans rfl, (blk_cell af.out 1).trans rfl, (blk_cell af.out 2).trans rfl, (blk_cell af.out 3).trans rfl, (blk_cell af.out 4).trans rfl, (blk_cell af.out 5).trans rfl, (blk_cell ag.out 0).trans rfl, (blk_cell ag.out 1).trans rfl, (blk_cell ag.out 2).trans rfl, (blk_cell ag.out 3).trans rfl, (blk_cell ag.out 4).trans rfl, (blk_cell ag.out 5).trans rfl⟩ (fun hHeld => ?_)
           clear hK K
           refine nR ?_
           refine pPe 6 (some 58) #[true, true, true, true, true, true, true, false, false, true, false, false] ?_
           refine pPe 7 (some 65) #[true, true, true, true, true, true, true, true, false, true, false, false] ?_
           refine pPe 8 (some 66) #[true, true, true, true, true, true, true, true, true, true, false, false] ?_
           exact norm_ (by simp only [putAll, Act.put, List.setIfInBounds_toArray, List.set_cons_zero, List.set_cons_succ]) (hCont (aY, aW, bh, aa) _ ⟨hHeld, (by (with_reducible repeat (first | apply Kd.R_alloc | apply Kd.R_drewN | apply Kd.R_drew)); exact Kd.R_mono ap.out (fun _ hk => ⟨hk.1.2, ⟨hk.2, ⟨hk.1.1.1.2, hk.1.1.2⟩⟩⟩)), (by (with_reducible repeat (first | apply Kd.R_alloc | apply Kd.R_drewN | apply Kd.R_drew)); exact Kd.R_mono aQ.out (fun _ hk => ⟨hk.2, ⟨hk.1.1.1, ⟨hk.1.1.2, hk.1.2⟩⟩⟩)), (by (with_reducible repeat (first | apply Kd.R_alloc | apply Kd.R_drewN | apply Kd.R_drew)); exact Kd.R_mono aR.out (fun _ hk => ⟨hk.2, ⟨hk.1.1.1, ⟨hk.1.1.2, hk.1.2⟩⟩⟩)), (by (with_reducible repeat (first | apply Kd.S_alloc | apply Kd.S_drewN | apply Kd.S_drew)); exact Kd.S_mono aT.out (fun _ hk => ⟨hk.2, ⟨hk.1.1.1.1.1, ⟨hk.1.1.1.1.2, ⟨hk.1.1.1.2, ⟨hk.1.1.2, hk.1.2⟩⟩⟩⟩⟩)), (by (with_reducible repeat (first | apply Kd.R_alloc | apply Kd.R_drewN | apply Kd.R_drew)); exact Kd.R_mono ad.out (fun _ hk => ⟨hk.1.1.2, ⟨hk.1.2, ⟨hk.2, hk.1.1.1⟩⟩⟩)), (by (with_reducible repeat (first | apply Kd.R_alloc | apply Kd.R_drewN | apply Kd.R_drew)); exact Kd.R_mono ae.out (fun _ hk => ⟨hk.1.1.2, ⟨hk.1.2, ⟨hk.2, hk.1.1.1⟩⟩⟩)), (by (with_reducible repeat (first | apply Kd.S_alloc | apply Kd.S_drewN | apply Kd.S_drew)); exact Kd.S_mono ah.out (fun _ hk => ⟨hk.1.1.1.2, ⟨hk.1.1.2, ⟨hk.1.2, ⟨hk.2, ⟨hk.1.1.1.1.1, hk.1.1.1.1.2⟩⟩⟩⟩⟩)), TK, TK, TK, TK, bj.out, bi.out, ab.out, aE.out, ax.out, aF.out, ac.out, aG.out, TB⟩)
         ·skip
          refine box_step ?hg (N := 14) ?hd (cs := #[.slice none 0 0, .slice none 0 0, .int .i64 0, .int .i64 0, .int .i64 0, .slice none 0 0]) (t := 33) ?hr ?_; (case hd => rfl); (case hg => rfl); (case hr => first | (go_simp; done) | (go_simp; rfl))
          intro aa hg w83 hbox hb
          have n0_ := aM (Kd.R_below (by have X_ := ad.out; exact TR) hb)
          have n1_ := aM (Kd.R_below (by have X_ := ae.out; exact TR) hb)
          have n2_ := aM (Kd.S_below (by have X_ := ah.out; exact TS) hb)
          have n3_ := aM (Kd.R_below (by have X_ := ap.out; exact TR) hb)
          have n4_ := aM (blk_below (g := ao) (o := .cells #[.slice aH az.length aL, .slice aI aA.length aJ, .int .i64 aD, .int .i64 aC, .int .i64 aB, .slice aK ay.length aN] 33 (0, 0)) TK hb)
          have n5_ := aM (blk_below (g := gb1116) (o := .cells #[.slice none 0 0, .slice none 0 0, .int .i64 av, .int .i64 ar, .int .i64 aq, .slice none 0 0] 33 (0, 0)) TK hb)
          have n6_ := aM (blk_below (g := gb1129) (o := .cells #[.slice Ao78 aj.length co78, .slice Ao79 ai.length co79, .int .i64 am, .int .i64 al, .int .i64 an, .slice Ao80 ak.length co80] 33 (0, 0)) TK hb)
          have n7_ := aM (below_step TB hb)
          have n8_ := aM (hbox)
          have n9_ := aM ((by rw [hg]; exact (below_size TB) : w.heap.size ≤ aa))
          have aV := aM ((by rw [hg]; exact (below_size TB) : w.heap.size ≤ aa))
          have ba := aM ((by rw [hg]; exact Nat.ne_of_lt (blk_lt (g := ao) (o := .cells #[.slice aH az.length aL, .slice aI aA.length aJ, .int .i64 aD, .int .i64 aC, .int .i64 aB, .slice aK ay.length aN] 33 (0, 0)) TK) : ao ≠ aa))
          have bn := aM ((by rw [hg]; exact Nat.ne_of_gt (blk_lt (g := ao) (o := .cells #[.slice aH az.length aL, .slice aI aA.length aJ, .int .i64 aD, .int .i64 aC, .int .i64 aB, .slice aK ay.length aN] 33 (0, 0)) TK) : aa ≠ ao))
          have bm := aM ((by rw [hg]; exact Nat.ne_of_lt (blk_lt (g := gb1116) (o := .cells #[.slice none 0 0, .slice none 0 0, .int .i64 av, .int .i64 ar, .int .i64 aq, .slice none 0 0] 33 (0, 0)) TK) : gb1116 ≠ aa))
          have bq := aM ((by rw [hg]; exact Nat.ne_of_gt (blk_lt (g := gb1116) (o := .cells #[.slice none 0 0, .slice none 0 0, .int .i64 av, .int .i64 ar, .int .i64 aq, .slice none 0 0] 33 (0, 0)) TK) : aa ≠ gb1116))
          have bp := aM ((by rw [hg]; exact Nat.ne_of_lt (blk_lt (g := gb1129) (o := .cells #[.slice Ao78 aj.length co78, .slice Ao79 ai.length co79, .int .i64 am, .int .i64 al, .int .i64 an, .slice Ao80 ak.length co80] 33 (0, 0)) TK) : gb1129 ≠ aa))
          have bo := aM ((by rw [hg]; exact Nat.ne_of_gt (blk_lt (g := gb1129) (o := .cells #[.slice Ao78 aj.length co78, .slice Ao79 ai.length co79, .int .i64 am, .int .i64 al, .int .i64 an, .slice Ao80 ak.length co80] 33 (0, 0)) TK) : aa ≠ gb1129))
          clear ad
          clear ae
          clear ah
          clear ap
          clear ag
          clear au
          clear af
          clear HB
          have ad := n0_
          have ae := n1_
          have ah := n2_
          have ap := n3_
          have ag := n4_
          have au := n5_
          have af := n6_
          have HB := n7_
          have aw := n8_
          have bj := n9_
          have bi := aV
          have ab := ba
          have aE := bn
          have ax := bm
          have aF := bq
          have ac := bp
          have aG := bo
          clear n0_ n1_ n2_ n3_ n4_ n5_ n6_ n7_ n8_ n9_ aV ba bn bm bq bp bo
          clear hb hbox hg
          refine hK.out _ _ ⟨(blk_cell af.out 0).trans rfl, (blk_cell af.out 1).trans rfl, (blk_cell af.out 2).trans rfl, (blk_cell af.out 3).trans rfl, (blk_cell af.out 4).trans rfl, (blk_cell af.out 5).trans rfl, (blk_cell ag.out 0).trans rfl, (blk_cell ag.out 1).trans rfl, (blk_cell ag.out 2).trans rfl, (blk_cell ag.out 3).trans rfl, (blk_cell ag.out 4).trans rfl, (blk_cell ag.out 5).trans rfl⟩ (fun hHeld => ?_)
          clear hK K
          refine nR ?_
          refine pOe 2 (some 61) #[true, true, true, true, true, false, false, false, false, true, false, false] (fun K hK => ?_)
          refine gG Try.func75 #[.agg #[.slice aH az.length aL, .slice aI aA.length aJ, .int .i64 aD, .int .i64 aC, .int .i64 aB, .slice aK ay.length aN]] ?_
          with_reducible refine (spec_Spare.calls _ _ az _ _ aA aD aC aB _ _ ay bg _ ?side1 ?side2 ?side3 ?side4 ?side5 ?side6 A46.out).mono ?_
          (case side1 => have X_ := (Kd.C_below bx.out HB.out); exact TC)
          (case side2 => exact bB.out)
          (case side3 => have X_ := (Kd.C_below bD.out HB.out); exact TC)
          (case side4 => exact bz.out)
          (case side5 => have X_ := (Kd.C_below bA.out HB.out); exact TC)
          (case side6 => exact bC.out)
          rintro e w84 ⟨rfl, hb⟩
          refine ⟨_, rfl, ?_⟩
          have n0_ := aM (Kd.R_below (by have X_ := ad.out; exact TR) hb)
          have n1_ := aM (Kd.R_below (by have X_ := ae.out; exact TR) hb)
          have n2_ := aM (Kd.S_below (by have X_ := ah.out; exact TS) hb)
          have n3_ := aM (Kd.R_below (by have X_ := ap.out; exact TR) hb)
          have n4_ := aM (blk_below (g := ao) (o := .cells #[.slice aH az.length aL, .slice aI aA.length aJ, .int .i64 aD, .int .i64 aC, .int .i64 aB, .slice aK ay.length aN] 33 (0, 0)) TK hb)
          have n5_ := aM (blk_below (g := gb1116) (o := .cells #[.slice none 0 0, .slice none 0 0, .int .i64 av, .int .i64 ar, .int .i64 aq, .slice none 0 0] 33 (0, 0)) TK hb)
          have n6_ := aM (blk_below (g := gb1129) (o := .cells #[.slice Ao78 aj.length co78, .slice Ao79 ai.length co79, .int .i64 am, .int .i64 al, .int .i64 an, .slice Ao80 ak.length co80] 33 (0, 0)) TK hb)
          have n7_ := aM (blk_below (g := aa) (o := .cells #[.slice none 0 0, .slice none 0 0, .int .i64 0, .int .i64 0, .int .i64 0, .slice none 0 0] 33 (0, 0)) TK hb)
          have n8_ := aM (below_step TB hb)
          clear ad
          clear ae
          clear ah
          clear ap
          clear ag
          clear au
          clear af
          clear aw
          clear HB
          have ad := n0_
          have ae := n1_
          have ah := n2_
          have ap := n3_
          have ag := n4_
          have au := n5_
          have af := n6_
          have aw := n7_
          have HB := n8_
          clear n0_ n1_ n2_ n3_ n4_ n5_ n6_ n7_ n8_
          (try clear hb)
          (try clear hb2)
          (try clear hk)
          (try clear hi)
          refine hK.out _ _ ⟨(blk_cell af.out 0).trans rfl, (blk_cell af.out 1).trans rfl, (blk_cell af.out 2).trans rfl, (blk_cell af.out 3).trans rfl, (blk_cell af.out 4).trans rfl, (blk_cell af.out 5).trans rfl, (blk_cell ag.out 0).trans rfl, (blk_cell ag.out 1).trans rfl, (blk_cell ag.out 2).trans rfl, (blk_cell ag.out 3).trans rfl, (blk_cell ag.out 4).trans rfl, (blk_cell ag.out 5).trans rfl⟩ (fun hHeld => ?_)
          clear hK K
          refine nR ?_
          refine pOe 5 (some 64) #[true, true, true, true, true, true, false, false, false, true, false, false] (fun K hK => ?_)
          refine gG Try.func74 #[.agg #[.slice Ao78 aj.length co78, .slice Ao79 ai.length co79, .int .i64 am, .int .i64 al, .int .i64 an, .slice Ao80 ak.length co80], .int .i64 bg, .int .i64 br, .slice Ao81 aO.length co81] ?_
          with_reducible refine (spec_PutBytes.calls k2 _ _ aj _ _ ai am al an _ _ ak bg br _ _ aO aU aX aZ a8 bb bc false _ ?side1 ?side2 ?side3 ?side4 ?side5 ?side6 ?side7 ?side8 A47.out).mono ?_
          (case side1 => have X_ := (Kd.R_reads' ad.out).2.2; exact TC)
          (case side2 => exact (Kd.R_reads' ad.out).2.1)
          (case side3 => have X_ := (Kd.R_reads' ae.out).2.2; exact TC)
          (case side4 => exact (Kd.R_reads' ae.out).2.1)
          (case side5 => have X_ := (Kd.S_reads' ah.out).2.2; exact TC)
          (case side6 => exact (Kd.S_reads' ah.out).2.1)
          (case side7 => have X_ := (Kd.R_reads' ap.out).2.2; exact TC)
          (case side8 => exact (Kd.R_reads' ap.out).2.1)
          rintro e w85 ⟨aY, aW, bh, rfl, ho0, ho1, ho2, hb⟩
          refine ⟨_, rfl, ?_⟩
          have n0_ := aM (Kd.R_mono (Kd.R_told (Kd.R_told (Kd.R_old (by have X_ := ad.out; exact TR) hb) (Kd.R_base ho0)) (Kd.R_base ho1)) (fun _ h_ => h_.1))
          have n1_ := aM (Kd.R_mono (Kd.R_told (Kd.R_told (Kd.R_old (by have X_ := ae.out; exact TR) hb) (Kd.R_base ho0)) (Kd.R_base ho1)) (fun _ h_ => h_.1))
          have n2_ := aM (Kd.S_mono (Kd.S_told (Kd.S_told (Kd.S_told (Kd.S_old (by have X_ := ah.out; exact TS) hb) (Kd.R_base ho0)) (Kd.R_base ho1)) (Kd.S_base ho2)) (fun _ h_ => h_.1))
          have n3_ := aM (Kd.R_mono (Kd.R_told (Kd.R_told (Kd.R_old (by have X_ := ap.out; exact TR) hb) (Kd.R_base ho0)) (Kd.R_base ho1)) (fun _ h_ => h_.1))
          have n4_ := aM (Kd.R_lower (Kd.R_new' (Kd.R_new' (Kd.R_new' ho0 (Kd.R_lt (by have X_ := ad.out; exact TR))) (Kd.R_lt (by have X_ := ae.out; exact TR))) (Kd.R_lt (by have X_ := ap.out; exact TR))) (below_size TB))
          have n5_ := aM (Kd.R_lower (Kd.R_new' (Kd.R_new' (Kd.R_new' ho1 (Kd.R_lt (by have X_ := ad.out; exact TR))) (Kd.R_lt (by have X_ := ae.out; exact TR))) (Kd.R_lt (by have X_ := ap.out; exact TR))) (below_size TB))
          have n6_ := aM (Kd.S_lower (Kd.S_new' (Kd.S_new' (Kd.S_new' (Kd.S_new' ho2 (Kd.R_lt (by have X_ := ad.out; exact TR))) (Kd.R_lt (by have X_ := ae.out; exact TR))) (Kd.S_lt (by have X_ := ah.out; exact TS))) (Kd.R_lt (by have X_ := ap.out; exact TR))) (below_size TB))
          have n7_ := aM (blk_below (g := ao) (o := .cells #[.slice aH az.length aL, .slice aI aA.length aJ, .int .i64 aD, .int .i64 aC, .int .i64 aB, .slice aK ay.length aN] 33 (0, 0)) TK hb)
          have n8_ := aM (blk_below (g := gb1116) (o := .cells #[.slice none 0 0, .slice none 0 0, .int .i64 av, .int .i64 ar, .int .i64 aq, .slice none 0 0] 33 (0, 0)) TK hb)
          have n9_ := aM (blk_below (g := gb1129) (o := .cells #[.slice Ao78 aj.length co78, .slice Ao79 ai.length co79, .int .i64 am, .int .i64 al, .int .i64 an, .slice Ao80 ak.length co80] 33 (0, 0)) TK hb)
          have aV := aM (blk_below (g := aa) (o := .cells #[.slice none 0 0, .slice none 0 0, .int .i64 0, .int .i64 0, .int .i64 0, .slice none 0 0] 33 (0, 0)) TK hb)
          have ba := aM (below_step TB hb)
          clear ad
          clear ae
          clear ah
          clear ap
          clear ag
          clear au
          clear af
          clear aw
          clear HB
          have ad := n0_
          have ae := n1_
          have ah := n2_
          have ap := n3_
          have aQ := n4_
          have aR := n5_
          have aT := n6_
          have ag := n7_
          have au := n8_
          have af := n9_
          have aw := aV
          have HB := ba
          clear n0_ n1_ n2_ n3_ n4_ n5_ n6_ n7_ n8_ n9_ aV ba
          (try clear hb)
          (try clear hb2)
          (try clear hk)
          (try clear hi)
          (try clear ho0)
          (try clear ho1)
          (try clear ho2)
          refine hK.out _ _ ⟨(blk_cell af.out 0).trans rfl, (blk_cell af.out 1).trans rfl, (blk_cell af.out 2).trans rfl, (blk_cell af.out 3).trans rfl, (blk_cell af.out 4).trans rfl, (blk_cell af.out 5).trans rfl, (blk_cell ag.out 0).trans rfl, (blk_cell ag.out 1).trans rfl, (blk_cell ag.out 2).trans rfl, (blk_cell ag.out 3).trans rfl, (blk_cell ag.out 4).trans rfl, (blk_cell ag.out 5).trans rfl⟩ (fun hHeld => ?_)
          clear hK K
          refine nR ?_
          refine pPe 6 (some 58) #[true, true, true, true, true, true, true, false, false, true, false, false] ?_
          refine pPe 7 (some 65) #[true, true, true, true, true, true, true, true, false, true, false, false] ?_
          refine pPe 8 (some 66) #[true, true, true, true, true, true, true, true, true, true, false, false] ?_
          exact norm_ (by simp only [putAll, Act.put, List.setIfInBounds_toArray, List.set_cons_zero, List.set_cons_succ]) (hCont (aY, aW, bh, aa) _ ⟨hHeld, (by (with_reducible repeat (first | apply Kd.R_alloc | apply Kd.R_drewN | apply Kd.R_drew)); exact Kd.R_mono ap.out (fun _ hk => ⟨hk.1.2, ⟨hk.2, ⟨hk.1.1.1.2, hk.1.1.2⟩⟩⟩)), (by (with_reducible repeat (first | apply Kd.R_alloc | apply Kd.R_drewN | apply Kd.R_drew)); exact Kd.R_mono aQ.out (fun _ hk => ⟨hk.2, ⟨hk.1.1.1, ⟨hk.1.1.2, hk.1.2⟩⟩⟩)), (by (with_reducible repeat (first | apply Kd.R_alloc | apply Kd.R_drewN | apply Kd.R_drew)); exact Kd.R_mono aR.out (fun _ hk => ⟨hk.2, ⟨hk.1.1.1, ⟨hk.1.1.2, hk.1.2⟩⟩⟩)), (by (with_reducible repeat (first | apply Kd.S_alloc | apply Kd.S_drewN | apply Kd.S_drew)); exact Kd.S_mono aT.out (fun _ hk => ⟨hk.2, ⟨hk.1.1.1.1.1, ⟨hk.1.1.1.1.2, ⟨hk.1.1.1.2, ⟨hk.1.1.2, hk.1.2⟩⟩⟩⟩⟩)), (by (with_reducible repeat (first | apply Kd.R_alloc | apply Kd.R_drewN | apply Kd.R_drew)); exact Kd.R_mono ad.out (fun _ hk => ⟨hk.1.1.2, ⟨hk.1.2, ⟨hk.2, hk.1.1.1⟩⟩⟩)), (by (with_reducible repeat (first | apply Kd.R_alloc | apply Kd.R_drewN | apply Kd.R_drew)); exact Kd.R_mono ae.out (fun _ hk => ⟨hk.1.1.2, ⟨hk.1.2, ⟨hk.2, hk.1.1.1⟩⟩⟩)), (by (with_reducible repeat (first | apply Kd.S_alloc | apply Kd.S_drewN | apply Kd.S_drew)); exact Kd.S_mono ah.out (fun _ hk => ⟨hk.1.1.1.2, ⟨hk.1.1.2, ⟨hk.1.2, ⟨hk.2, ⟨hk.1.1.1.1.1, hk.1.1.1.1.2⟩⟩⟩⟩⟩)), TK, TK, TK, TK, bj.out, bi.out, ab.out, aE.out, ax.out, aF.out, ac.out, aG.out, TB⟩)
        rintro ⟨aY, aW, bh, aa⟩ w86 ⟨hS_, h0_, h1_, h2_, h3_, h4_, h5_, h6_, h7_, h8_, h9_, b1, b3, b4, bY, bV, bX, bU, b0, bW, bT⟩
        clear ad ae ah ap ag au af HB
        have ap : Aside0 (Kd.R (Kd.int .u8) 5 w86 w.heap.size (fun k_ => some k_ ≠ (aY : Value).ownBlock ∧ some k_ ≠ (aW : Value).ownBlock ∧ some k_ ≠ (.slice Ao78 aj.length co78 : Value).ownBlock ∧ some k_ ≠ (.slice Ao79 ai.length co79 : Value).ownBlock) (.slice Ao81 aO.length co81) aO) := ⟨h0_⟩
        have aQ : Aside0 (Kd.R (Kd.int .u8) 5 w86 w.heap.size (fun k_ => some k_ ≠ (.slice Ao81 aO.length co81 : Value).ownBlock ∧ some k_ ≠ (aW : Value).ownBlock ∧ some k_ ≠ (.slice Ao78 aj.length co78 : Value).ownBlock ∧ some k_ ≠ (.slice Ao79 ai.length co79 : Value).ownBlock) aY aU) := ⟨h1_⟩
        have aR : Aside0 (Kd.R (Kd.int .u8) 5 w86 w.heap.size (fun k_ => some k_ ≠ (.slice Ao81 aO.length co81 : Value).ownBlock ∧ some k_ ≠ (aY : Value).ownBlock ∧ some k_ ≠ (.slice Ao78 aj.length co78 : Value).ownBlock ∧ some k_ ≠ (.slice Ao79 ai.length co79 : Value).ownBlock) aW aX) := ⟨h2_⟩
        have aT : Aside0 (Kd.S k110 110 w86 w.heap.size (fun k_ => some k_ ≠ (.slice Ao81 aO.length co81 : Value).ownBlock ∧ some k_ ≠ (aY : Value).ownBlock ∧ some k_ ≠ (aW : Value).ownBlock ∧ some k_ ≠ (.slice Ao78 aj.length co78 : Value).ownBlock ∧ some k_ ≠ (.slice Ao79 ai.length co79 : Value).ownBlock ∧ some k_ ≠ (.slice Ao80 ak.length co80 : Value).ownBlock) bh bc) := ⟨h3_⟩
        have ad : Aside0 (Kd.R (Kd.int .u8) 5 w86 w.heap.size (fun k_ => some k_ ≠ (.slice Ao81 aO.length co81 : Value).ownBlock ∧ some k_ ≠ (aY : Value).ownBlock ∧ some k_ ≠ (aW : Value).ownBlock ∧ some k_ ≠ (.slice Ao79 ai.length co79 : Value).ownBlock) (.slice Ao78 aj.length co78) aj) := ⟨h4_⟩
        have ae : Aside0 (Kd.R (Kd.int .u8) 5 w86 w.heap.size (fun k_ => some k_ ≠ (.slice Ao81 aO.length co81 : Value).ownBlock ∧ some k_ ≠ (aY : Value).ownBlock ∧ some k_ ≠ (aW : Value).ownBlock ∧ some k_ ≠ (.slice Ao78 aj.length co78 : Value).ownBlock) (.slice Ao79 ai.length co79) ai) := ⟨h5_⟩
        have ah : Aside0 (Kd.S k110 110 w86 w.heap.size (fun k_ => some k_ ≠ (.slice Ao81 aO.length co81 : Value).ownBlock ∧ some k_ ≠ (aY : Value).ownBlock ∧ some k_ ≠ (aW : Value).ownBlock ∧ some k_ ≠ (bh : Value).ownBlock ∧ some k_ ≠ (.slice Ao78 aj.length co78 : Value).ownBlock ∧ some k_ ≠ (.slice Ao79 ai.length co79 : Value).ownBlock) (.slice Ao80 ak.length co80) ak) := ⟨h6_⟩
        have ag : Aside0 (w86.heap[ao]? = some (.cells #[.slice aH az.length aL, .slice aI aA.length aJ, .int .i64 aD, .int .i64 aC, .int .i64 aB, .slice aK ay.length aN] 33 (0, 0))) := ⟨h7_⟩
        have au : Aside0 (w86.heap[gb1116]? = some (.cells #[.slice none 0 0, .slice none 0 0, .int .i64 av, .int .i64 ar, .int .i64 aq, .slice none 0 0] 33 (0, 0))) := ⟨h8_⟩
        have af : Aside0 (w86.heap[gb1129]? = some (.cells #[.slice Ao78 aj.length co78, .slice Ao79 ai.length co79, .int .i64 am, .int .i64 al, .int .i64 an, .slice Ao80 ak.length co80] 33 (0, 0))) := ⟨h9_⟩
        have aw : Aside0 (w86.heap[aa]? = some (.cells #[.slice none 0 0, .slice none 0 0, .int .i64 0, .int .i64 0, .int .i64 0, .slice none 0 0] 33 (0, 0))) := ⟨b1⟩
        have bj : Aside0 (w.heap.size ≤ aa) := ⟨b3⟩
        have bi : Aside0 (w.heap.size ≤ aa) := ⟨b4⟩
        have ab : Aside0 (ao ≠ aa) := ⟨bY⟩
        have aE : Aside0 (aa ≠ ao) := ⟨bV⟩
        have ax : Aside0 (gb1116 ≠ aa) := ⟨bX⟩
        have aF : Aside0 (aa ≠ gb1116) := ⟨bU⟩
        have ac : Aside0 (gb1129 ≠ aa) := ⟨b0⟩
        have aG : Aside0 (aa ≠ gb1129) := ⟨bW⟩
        have HB : Aside0 (Below w.heap.size w w86) := ⟨bT⟩
        clear h0_ h1_ h2_ h3_ h4_ h5_ h6_ h7_ h8_ h9_ b1 b3 b4 bY bV bX bU b0 bW bT
        have hHeld : w86.cell? ⟨gb1129, 0, none⟩ = some (.slice Ao78 aj.length co78) ∧ w86.cell? ⟨gb1129, 1, none⟩ = some (.slice Ao79 ai.length co79) ∧ w86.cell? ⟨gb1129, 2, none⟩ = some (.int .i64 am) ∧ w86.cell? ⟨gb1129, 3, none⟩ = some (.int .i64 al) ∧ w86.cell? ⟨gb1129, 4, none⟩ = some (.int .i64 an) ∧ w86.cell? ⟨gb1129, 5, none⟩ = some (.slice Ao80 ak.length co80) ∧ w86.cell? ⟨ao, 0, none⟩ = some (.slice aH az.length aL) ∧ w86.cell? ⟨ao, 1, none⟩ = some (.slice aI aA.length aJ) ∧ w86.cell? ⟨ao, 2, none⟩ = some (.int .i64 aD) ∧ w86.cell? ⟨ao, 3, none⟩ = some (.int .i64 aC) ∧ w86.cell? ⟨ao, 4, none⟩ = some (.int .i64 aB) ∧ w86.cell? ⟨ao, 5, none⟩ = some (.slice aK ay.length aN) := hS_
        obtain ⟨bR, bQ, eo87⟩ := Kd.R_slice aQ.out
        (first | subst eo87 | (injection eo87 with f1_ f2_ f3_; have f4_ := f1_.symm; have f5_ := f3_.symm; clear f1_ f2_ f3_; subst f4_; subst f5_))
        obtain ⟨bZ, b6, eo89⟩ := Kd.R_slice aR.out
        (first | subst eo89 | (injection eo89 with f1_ f2_ f3_; have f4_ := f1_.symm; have f5_ := f3_.symm; clear f1_ f2_ f3_; subst f4_; subst f5_))
        obtain ⟨Ao94, co94, eo94⟩ := Kd.S_slice aT.out
        (first | subst eo94 | (injection eo94 with f1_ f2_ f3_; have f4_ := f1_.symm; have f5_ := f3_.symm; clear f1_ f2_ f3_; subst f4_; subst f5_))
        refine norm_ (a' := ?_) ?_ ?_
        rotate_left
        ·simp only [putAll, Act.put, List.setIfInBounds_toArray, List.set_cons_zero, List.set_cons_succ]
         rfl
        refine pOe 10 none #[true, true, true, true, true, true, true, true, true, true, true, false] (fun K hK => ?_)
        have hs88 : w86.cell? ⟨aa, 0, none⟩ = some (.slice none 0 0) := (blk_cell aw.out 0).trans rfl
        have hfs88 := blk_frozen aw.out 0
        have hns88_0 := ab.out
        have hns88_1 := ax.out
        have hns88_2 := ac.out
        have hms88_0 := aE.out
        have hms88_1 := aF.out
        have hms88_2 := aG.out
        have hs90 : w86.cell? ⟨aa, 1, none⟩ = some (.slice none 0 0) := (blk_cell aw.out 1).trans rfl
        have hfs90 := blk_frozen aw.out 1
        have hns90_0 := ab.out
        have hns90_1 := ax.out
        have hns90_2 := ac.out
        have hms90_0 := aE.out
        have hms90_1 := aF.out
        have hms90_2 := aG.out
        have hs91 : w86.cell? ⟨aa, 2, none⟩ = some (.int .i64 0) := (blk_cell aw.out 2).trans rfl
        have hfs91 := blk_frozen aw.out 2
        have hns91_0 := ab.out
        have hns91_1 := ax.out
        have hns91_2 := ac.out
        have hms91_0 := aE.out
        have hms91_1 := aF.out
        have hms91_2 := aG.out
        have hs92 : w86.cell? ⟨aa, 3, none⟩ = some (.int .i64 0) := (blk_cell aw.out 3).trans rfl
        have hfs92 := blk_frozen aw.out 3
        have hns92_0 := ab.out
        have hns92_1 := ax.out
        have hns92_2 := ac.out
        have hms92_0 := aE.out
        have hms92_1 := aF.out
        have hms92_2 := aG.out
        have hs93 : w86.cell? ⟨aa, 4, none⟩ = some (.int .i64 0) := (blk_cell aw.out 4).trans rfl
        have hfs93 := blk_frozen aw.out 4
        have hns93_0 := ab.out
        have hns93_1 := ax.out
        have hns93_2 := ac.out
        have hms93_0 := aE.out
        have hms93_1 := aF.out
        have hms93_2 := aG.out
        have hs95 : w86.cell? ⟨aa, 5, none⟩ = some (.slice none 0 0) := (blk_cell aw.out 5).trans rfl
        have hfs95 := blk_frozen aw.out 5
        have hns95_0 := ab.out
        have hns95_1 := ax.out
        have hns95_2 := ac.out
        have hms95_0 := aE.out
        have hms95_1 := aF.out
        have hms95_2 := aG.out
        refine skip_ (w1 := ?_) (by rfl) rfl ?_ ?_
        rotate_left
        ·go_simp
         rfl
        refine hK.out _ _ ⟨((cell_far (p := ⟨aa, _, none⟩) ac.out _).trans (((cell_far (p := ⟨aa, _, none⟩) ac.out _).trans (((cell_far (p := ⟨aa, _, none⟩) ac.out _).trans (((cell_far (p := ⟨aa, _, none⟩) ac.out _).trans (((cell_far (p := ⟨aa, _, none⟩) ac.out _).trans (((cell_far (p := ⟨aa, _, none⟩) ac.out _).trans (hHeld.1)))))))))))), ((cell_far (p := ⟨aa, _, none⟩) ac.out _).trans (((cell_far (p := ⟨aa, _, none⟩) ac.out _).trans (((cell_far (p := ⟨aa, _, none⟩) ac.out _).trans (((cell_far (p := ⟨aa, _, none⟩) ac.out _).trans (((cell_far (p := ⟨aa, _, none⟩) ac.out _).trans (((cell_far (p := ⟨aa, _, none⟩) ac.out _).trans (hHeld.2.1)))))))))))), ((cell_far (p := ⟨aa, _, none⟩) ac.out _).trans (((cell_far (p := ⟨aa, _, none⟩) ac.out _).trans (((cell_far (p := ⟨aa, _, none⟩) ac.out _).trans (((cell_far (p := ⟨aa, _, none⟩) ac.out _).trans (((cell_far (p := ⟨aa, _, none⟩) ac.out _).trans (((cell_far (p := ⟨aa, _, none⟩) ac.out _).trans (hHeld.2.2.1)))))))))))), ((cell_far (p := ⟨aa, _, none⟩) ac.out _).trans (((cell_far (p := ⟨aa, _, none⟩) ac.out _).trans (((cell_far (p := ⟨aa, _, none⟩) ac.out _).trans (((cell_far (p := ⟨aa, _, none⟩) ac.out _).trans (((cell_far (p := ⟨aa, _, none⟩) ac.out _).trans (((cell_far (p := ⟨aa, _, none⟩) ac.out _).trans (hHeld.2.2.2.1)))))))))))), ((cell_far (p := ⟨aa, _, none⟩) ac.out _).trans (((cell_far (p := ⟨aa, _, none⟩) ac.out _).trans (((cell_far (p := ⟨aa, _, none⟩) ac.out _).trans (((cell_far (p := ⟨aa, _, none⟩) ac.out _).trans (((cell_far (p := ⟨aa, _, none⟩) ac.out _).trans (((cell_far (p := ⟨aa, _, none⟩) ac.out _).trans (hHeld.2.2.2.2.1)))))))))))), ((cell_far (p := ⟨aa, _, none⟩) ac.out _).trans (((cell_far (p := ⟨aa, _, none⟩) ac.out _).trans (((cell_far (p := ⟨aa, _, none⟩) ac.out _).trans (((cell_far (p := ⟨aa, _, none⟩) ac.out _).trans (((cell_far (p := ⟨aa, _, none⟩) ac.out _).trans (((cell_far (p := ⟨aa, _, none⟩) ac.out _).trans (hHeld.2.2.2.2.2.1)))))))))))), ((cell_far (p := ⟨aa, _, none⟩) ab.out _).trans (((cell_far (p := ⟨aa, _, none⟩) ab.out _).trans (((cell_far (p := ⟨aa, _, none⟩) ab.out _).trans (((cell_far (p := ⟨aa, _, none⟩) ab.out _).trans (((cell_far (p := ⟨aa, _, none⟩) ab.out _).trans (((cell_far (p := ⟨aa, _, none⟩) ab.out _).trans (hHeld.2.2.2.2.2.2.1)))))))))))), ((cell_far (p := ⟨aa, _, none⟩) ab.out _).trans (((cell_far (p := ⟨aa, _, none⟩) ab.out _).trans (((cell_far (p := ⟨aa, _, none⟩) ab.out _).trans (((cell_far (p := ⟨aa, _, none⟩) ab.out _).trans (((cell_far (p := ⟨aa, _, none⟩) ab.out _).trans (((cell_far (p := ⟨aa, _, none⟩) ab.out _).trans (hHeld.2.2.2.2.2.2.2.1)))))))))))), ((cell_far (p := ⟨aa, _, none⟩) ab.out _).trans (((cell_far (p := ⟨aa, _, none⟩) ab.out _).trans (((cell_far (p := ⟨aa, _, none⟩) ab.out _).trans (((cell_far (p := ⟨aa, _, none⟩) ab.out _).trans (((cell_far (p := ⟨aa, _, none⟩) ab.out _).trans (((cell_far (p := ⟨aa, _, none⟩) ab.out _).trans (hHeld.2.2.2.2.2.2.2.2.1)))))))))))), ((cell_far (p := ⟨aa, _, none⟩) ab.out _).trans (((cell_far (p := ⟨aa, _, none⟩) ab.out _).trans (((cell_far (p := ⟨aa, _, none⟩) ab.out _).trans (((cell_far (p := ⟨aa, _, none⟩) ab.out _).trans (((cell_far (p := ⟨aa, _, none⟩) ab.out _).trans (((cell_far (p := ⟨aa, _, none⟩) ab.out _).trans (hHeld.2.2.2.2.2.2.2.2.2.1)))))))))))), ((cell_far (p := ⟨aa, _, none⟩) ab.out _).trans (((cell_far (p := ⟨aa, _, none⟩) ab.out _).trans (((cell_far (p := ⟨aa, _, none⟩) ab.out _).trans (((cell_far (p := ⟨aa, _, none⟩) ab.out _).trans (((cell_far (p := ⟨aa, _, none⟩) ab.out _).trans (((cell_far (p := ⟨aa, _, none⟩) ab.out _).trans (hHeld.2.2.2.2.2.2.2.2.2.2.1)))))))))))), ((cell_far (p := ⟨aa, _, none⟩) ab.out _).trans (((cell_far (p := ⟨aa, _, none⟩) ab.out _).trans (((cell_far (p := ⟨aa, _, none⟩) ab.out _).trans (((cell_far (p := ⟨aa, _, none⟩) ab.out _).trans (((cell_far (p := ⟨aa, _, none⟩) ab.out _).trans (((cell_far (p := ⟨aa, _, none⟩) ab.out _).trans (hHeld.2.2.2.2.2.2.2.2.2.2.2))))))))))))⟩ (fun hHeld => ?_)
        clear hK K
        refine pPe 11 (some 15) #[true, true, true, true, true, true, true, true, true, true, true, true] ?_
        refine done_ (done_of HT_.out (by kernel_rfl)) ?_
        have hnb96 := NB1115_1116.out
        have hnc96 := NB1116_1115.out
        have hnb97 := NB1115_1129.out
        have hnc97 := NB1129_1115.out
        have hnb98 := ab.out
        have hnc98 := aE.out
        obtain ⟨hcz99_0, hcz99_1, hcz99_2, hcz99_3, hcz99_4, hcz99_5⟩ := cz6 ag.out
        obtain ⟨hfz99_0, hfz99_1, hfz99_2, hfz99_3, hfz99_4, hfz99_5⟩ := fz6 ag.out
        try go_wp2_with (first | ((with_reducible refine gate_callee (f := 68) rfl ?_); refine gL (some 70) Try.func68 #[.agg #[.slice aH az.length aL, .slice aI aA.length aJ, .int .i64 aD, .int .i64 aC, .int .i64 aB, .slice aK ay.length aN]] ?_; (with_reducible refine (spec_l9Copy.calls k2 _ _ az _ _ aA aD aC aB _ _ ay bu bF bI bJ bL bO _ ?side1 ?side2 ?side3 ?side4 ?side5 ?side6 A76.out).mono ?_); (case side1 => exact Kd.C_below bx.out TB); (case side2 => exact bB.out); (case side3 => exact Kd.C_below bD.out TB); (case side4 => exact bz.out); (case side5 => exact Kd.C_below bA.out TB); (case side6 => exact bC.out); rintro e w100 ⟨v1155, v1158, v1164, rfl, ho0, ho1, ho2, hb⟩; refine ⟨_, rfl, ?_⟩; have HO1156 := aM (Kd.R_lower (Kd.R_new' (Kd.R_new' (Kd.R_new' (Kd.R_new' (Kd.R_new' ho0 (Kd.R_lt (by (with_reducible repeat (first | apply Kd.R_alloc | apply Kd.R_drewN | apply Kd.R_drew)); exact (R_off (Kd.R_types ad.out aw.out (by decide)) TO)))) (Kd.R_lt (by (with_reducible repeat (first | apply Kd.R_alloc | apply Kd.R_drewN | apply Kd.R_drew)); exact (R_off (Kd.R_types ae.out aw.out (by decide)) TO)))) (Kd.R_lt (by (with_reducible repeat (first | apply Kd.R_alloc | apply Kd.R_drewN | apply Kd.R_drew)); exact (R_off (Kd.R_types ap.out aw.out (by decide)) TO)))) (Kd.R_lt (by (with_reducible repeat (first | apply Kd.R_alloc | apply Kd.R_drewN | apply Kd.R_drew)); exact (R_off (Kd.R_types aQ.out aw.out (by decide)) TO)))) (Kd.R_lt (by (with_reducible repeat (first | apply Kd.R_alloc | apply Kd.R_drewN | apply Kd.R_drew)); exact (R_off (Kd.R_types aR.out aw.out (by decide)) TO)))) (below_size TB)); have HO1159 := aM (Kd.R_lower (Kd.R_new' (Kd.R_new' (Kd.R_new' (Kd.R_new' (Kd.R_new' ho1 (Kd.R_lt (by (with_reducible repeat (first | apply Kd.R_alloc | apply Kd.R_drewN | apply Kd.R_drew)); exact (R_off (Kd.R_types ad.out aw.out (by decide)) TO)))) (Kd.R_lt (by (with_reducible repeat (first | apply Kd.R_alloc | apply Kd.R_drewN | apply Kd.R_drew)); exact (R_off (Kd.R_types ae.out aw.out (by decide)) TO)))) (Kd.R_lt (by (with_reducible repeat (first | apply Kd.R_alloc | apply Kd.R_drewN | apply Kd.R_drew)); exact (R_off (Kd.R_types ap.out aw.out (by decide)) TO)))) (Kd.R_lt (by (with_reducible repeat (first | apply Kd.R_alloc | apply Kd.R_drewN | apply Kd.R_drew)); exact (R_off (Kd.R_types aQ.out aw.out (by decide)) TO)))) (Kd.R_lt (by (with_reducible repeat (first | apply Kd.R_alloc | apply Kd.R_drewN | apply Kd.R_drew)); exact (R_off (Kd.R_types aR.out aw.out (by decide)) TO)))) (below_size TB)); have HO1165 := aM (Kd.S_lower (Kd.S_new' (Kd.S_new' (Kd.S_new' (Kd.S_new' (Kd.S_new' (Kd.S_new' (Kd.S_new' ho2 (Kd.R_lt (by (with_reducible repeat (first | apply Kd.R_alloc | apply Kd.R_drewN | apply Kd.R_drew)); exact (R_off (Kd.R_types ad.out aw.out (by decide)) TO)))) (Kd.R_lt (by (with_reducible repeat (first | apply Kd.R_alloc | apply Kd.R_drewN | apply Kd.R_drew)); exact (R_off (Kd.R_types ae.out aw.out (by decide)) TO)))) (Kd.S_lt (by (with_reducible repeat (first | apply Kd.S_alloc | apply Kd.S_drewN | apply Kd.S_drew)); exact (S_off (Kd.S_types ah.out aw.out (by decide)) TO)))) (Kd.R_lt (by (with_reducible repeat (first | apply Kd.R_alloc | apply Kd.R_drewN | apply Kd.R_drew)); exact (R_off (Kd.R_types ap.out aw.out (by decide)) TO)))) (Kd.R_lt (by (with_reducible repeat (first | apply Kd.R_alloc | apply Kd.R_drewN | apply Kd.R_drew)); exact (R_off (Kd.R_types aQ.out aw.out (by decide)) TO)))) (Kd.R_lt (by (with_reducible repeat (first | apply Kd.R_alloc | apply Kd.R_drewN | apply Kd.R_drew)); exact (R_off (Kd.R_types aR.out aw.out (by decide)) TO)))) (Kd.S_lt (by (with_reducible repeat (first | apply Kd.S_alloc | apply Kd.S_drewN | apply Kd.S_drew)); exact (S_off (Kd.S_types aT.out aw.out (by decide)) TO)))) (below_size TB)); replace ad := aM (Kd.R_mono (Kd.R_told (Kd.R_told (Kd.R_old (by (with_reducible repeat (first | apply Kd.R_alloc | apply Kd.R_drewN | apply Kd.R_drew)); exact (R_off (Kd.R_types ad.out aw.out (by decide)) TO)) hb) (Kd.R_base ho0)) (Kd.R_base ho1)) (fun _ h_ => h_.1)); replace ae := aM (Kd.R_mono (Kd.R_told (Kd.R_told (Kd.R_old (by (with_reducible repeat (first | apply Kd.R_alloc | apply Kd.R_drewN | apply Kd.R_drew)); exact (R_off (Kd.R_types ae.out aw.out (by decide)) TO)) hb) (Kd.R_base ho0)) (Kd.R_base ho1)) (fun _ h_ => h_.1)); replace ah := aM (Kd.S_mono (Kd.S_told (Kd.S_told (Kd.S_told (Kd.S_old (by (with_reducible repeat (first | apply Kd.S_alloc | apply Kd.S_drewN | apply Kd.S_drew)); exact (S_off (Kd.S_types ah.out aw.out (by decide)) TO)) hb) (Kd.R_base ho0)) (Kd.R_base ho1)) (Kd.S_base ho2)) (fun _ h_ => h_.1)); replace ap := aM (Kd.R_mono (Kd.R_told (Kd.R_told (Kd.R_old (by (with_reducible repeat (first | apply Kd.R_alloc | apply Kd.R_drewN | apply Kd.R_drew)); exact (R_off (Kd.R_types ap.out aw.out (by decide)) TO)) hb) (Kd.R_base ho0)) (Kd.R_base ho1)) (fun _ h_ => h_.1)); replace aQ := aM (Kd.R_mono (Kd.R_told (Kd.R_told (Kd.R_old (by (with_reducible repeat (first | apply Kd.R_alloc | apply Kd.R_drewN | apply Kd.R_drew)); exact (R_off (Kd.R_types aQ.out aw.out (by decide)) TO)) hb) (Kd.R_base ho0)) (Kd.R_base ho1)) (fun _ h_ => h_.1)); replace aR := aM (Kd.R_mono (Kd.R_told (Kd.R_told (Kd.R_old (by (with_reducible repeat (first | apply Kd.R_alloc | apply Kd.R_drewN | apply Kd.R_drew)); exact (R_off (Kd.R_types aR.out aw.out (by decide)) TO)) hb) (Kd.R_base ho0)) (Kd.R_base ho1)) (fun _ h_ => h_.1)); replace aT := aM (Kd.S_mono (Kd.S_told (Kd.S_told (Kd.S_told (Kd.S_old (by (with_reducible repeat (first | apply Kd.S_alloc | apply Kd.S_drewN | apply Kd.S_drew)); exact (S_off (Kd.S_types aT.out aw.out (by decide)) TO)) hb) (Kd.R_base ho0)) (Kd.R_base ho1)) (Kd.S_base ho2)) (fun _ h_ => h_.1)); replace ag := aM (blk_below (g := ao) (o := .cells #[.slice aH az.length aL, .slice aI aA.length aJ, .int .i64 aD, .int .i64 aC, .int .i64 aB, .slice aK ay.length aN] 33 (0, 0)) (by (with_reducible repeat (first | refine blk_drewN ?_ _ | refine blk_drew ?_ | refine blk_alloc ?_ _)); refine blk_far ?_ ab.out _; (with_reducible repeat (first | refine blk_drewN ?_ _ | refine blk_drew ?_ | refine blk_alloc ?_ _)); refine blk_far ?_ ab.out _; (with_reducible repeat (first | refine blk_drewN ?_ _ | refine blk_drew ?_ | refine blk_alloc ?_ _)); refine blk_far ?_ ab.out _; (with_reducible repeat (first | refine blk_drewN ?_ _ | refine blk_drew ?_ | refine blk_alloc ?_ _)); refine blk_far ?_ ab.out _; (with_reducible repeat (first | refine blk_drewN ?_ _ | refine blk_drew ?_ | refine blk_alloc ?_ _)); refine blk_far ?_ ab.out _; (with_reducible repeat (first | refine blk_drewN ?_ _ | refine blk_drew ?_ | refine blk_alloc ?_ _)); refine blk_far ?_ ab.out _; (with_reducible repeat (first | refine blk_drewN ?_ _ | refine blk_drew ?_ | refine blk_alloc ?_ _)); exact ag.out) hb); replace au := aM (blk_below (g := gb1116) (o := .cells #[.slice none 0 0, .slice none 0 0, .int .i64 av, .int .i64 ar, .int .i64 aq, .slice none 0 0] 33 (0, 0)) (by (with_reducible repeat (first | refine blk_drewN ?_ _ | refine blk_drew ?_ | refine blk_alloc ?_ _)); refine blk_far ?_ ax.out _; (with_reducible repeat (first | refine blk_drewN ?_ _ | refine blk_drew ?_ | refine blk_alloc ?_ _)); refine blk_far ?_ ax.out _; (with_reducible repeat (first | refine blk_drewN ?_ _ | refine blk_drew ?_ | refine blk_alloc ?_ _)); refine blk_far ?_ ax.out _; (with_reducible repeat (first | refine blk_drewN ?_ _ | refine blk_drew ?_ | refine blk_alloc ?_ _)); refine blk_far ?_ ax.out _; (with_reducible repeat (first | refine blk_drewN ?_ _ | refine blk_drew ?_ | refine blk_alloc ?_ _)); refine blk_far ?_ ax.out _; (with_reducible repeat (first | refine blk_drewN ?_ _ | refine blk_drew ?_ | refine blk_alloc ?_ _)); refine blk_far ?_ ax.out _; (with_reducible repeat (first | refine blk_drewN ?_ _ | refine blk_drew ?_ | refine blk_alloc ?_ _)); exact au.out) hb); replace af := aM (blk_below (g := gb1129) (o := .cells #[.slice Ao78 aj.length co78, .slice Ao79 ai.length co79, .int .i64 am, .int .i64 al, .int .i64 an, .slice Ao80 ak.length co80] 33 (0, 0)) (by (with_reducible repeat (first | refine blk_drewN ?_ _ | refine blk_drew ?_ | refine blk_alloc ?_ _)); refine blk_far ?_ ac.out _; (with_reducible repeat (first | refine blk_drewN ?_ _ | refine blk_drew ?_ | refine blk_alloc ?_ _)); refine blk_far ?_ ac.out _; (with_reducible repeat (first | refine blk_drewN ?_ _ | refine blk_drew ?_ | refine blk_alloc ?_ _)); refine blk_far ?_ ac.out _; (with_reducible repeat (first | refine blk_drewN ?_ _ | refine blk_drew ?_ | refine blk_alloc ?_ _)); refine blk_far ?_ ac.out _; (with_reducible repeat (first | refine blk_drewN ?_ _ | refine blk_drew ?_ | refine blk_alloc ?_ _)); refine blk_far ?_ ac.out _; (with_reducible repeat (first | refine blk_drewN ?_ _ | refine blk_drew ?_ | refine blk_alloc ?_ _)); refine blk_far ?_ ac.out _; (with_reducible repeat (first | refine blk_drewN ?_ _ | refine blk_drew ?_ | refine blk_alloc ?_ _)); exact af.out) hb); replace aw := aM (blk_below (g := aa) (o := .cells #[.slice bR aU.length bQ, .slice bZ aX.length b6, .int .i64 aZ, .int .i64 a8, .int .i64 bb, .slice Ao94 bc.length co94] 33 (0, 0)) (by (with_reducible repeat (first | refine blk_drewN ?_ _ | refine blk_drew ?_ | refine blk_alloc ?_ _)); refine blk_put (cs := #[.slice bR aU.length bQ, .slice bZ aX.length b6, .int .i64 aZ, .int .i64 a8, .int .i64 bb, .slice none 0 0]) ?_ 5 _ rfl; (with_reducible repeat (first | refine blk_drewN ?_ _ | refine blk_drew ?_ | refine blk_alloc ?_ _)); refine blk_put (cs := #[.slice bR aU.length bQ, .slice bZ aX.length b6, .int .i64 aZ, .int .i64 a8, .int .i64 0, .slice none 0 0]) ?_ 4 _ rfl; (with_reducible repeat (first | refine blk_drewN ?_ _ | refine blk_drew ?_ | refine blk_alloc ?_ _)); refine blk_put (cs := #[.slice bR aU.length bQ, .slice bZ aX.length b6, .int .i64 aZ, .int .i64 0, .int .i64 0, .slice none 0 0]) ?_ 3 _ rfl; (with_reducible repeat (first | refine blk_drewN ?_ _ | refine blk_drew ?_ | refine blk_alloc ?_ _)); refine blk_put (cs := #[.slice bR aU.length bQ, .slice bZ aX.length b6, .int .i64 0, .int .i64 0, .int .i64 0, .slice none 0 0]) ?_ 2 _ rfl; (with_reducible repeat (first | refine blk_drewN ?_ _ | refine blk_drew ?_ | refine blk_alloc ?_ _)); refine blk_put (cs := #[.slice bR aU.length bQ, .slice none 0 0, .int .i64 0, .int .i64 0, .int .i64 0, .slice none 0 0]) ?_ 1 _ rfl; (with_reducible repeat (first | refine blk_drewN ?_ _ | refine blk_drew ?_ | refine blk_alloc ?_ _)); refine blk_put (cs := #[.slice none 0 0, .slice none 0 0, .int .i64 0, .int .i64 0, .int .i64 0, .slice none 0 0]) ?_ 0 _ rfl; (with_reducible repeat (first | refine blk_drewN ?_ _ | refine blk_drew ?_ | refine blk_alloc ?_ _)); exact aw.out) hb); replace HB := aM (below_step TB hb); clear ho0 ho1 ho2 hb; obtain ⟨Ao101, co101, eo101⟩ := Kd.R_slice HO1156.out; subst eo101; have hnb102 := NB1116_1129.out; have hnc102 := NB1129_1116.out; have hnb103 := ax.out; have hnc103 := aF.out; obtain ⟨hcz104_0, hcz104_1, hcz104_2, hcz104_3, hcz104_4, hcz104_5⟩ := cz6 au.out; obtain ⟨hfz104_0, hfz104_1, hfz104_2, hfz104_3, hfz104_4, hfz104_5⟩ := fz6 au.out; obtain ⟨Ao105, co105, eo105⟩ := Kd.R_slice HO1159.out; subst eo105; obtain ⟨Ao106, co106, eo106⟩ := Kd.S_slice HO1165.out; subst eo106))
        refine bodyPost_ret (results_ct rfl _ _ gb1116 33 #[.slice Ao101 bu.length co101, .slice Ao105 bF.length co105, .int .i64 bI, .int .i64 bJ, .int .i64 bL, .slice Ao106 bO.length co106] (0, 0) _ rfl (by (with_reducible repeat (first | refine blk_drewN ?_ _ | refine blk_drew ?_ | refine blk_alloc ?_ _)); refine blk_put (cs := #[.slice Ao101 bu.length co101, .slice Ao105 bF.length co105, .int .i64 bI, .int .i64 bJ, .int .i64 bL, .slice none 0 0]) ?_ 5 _ rfl; (with_reducible repeat (first | refine blk_drewN ?_ _ | refine blk_drew ?_ | refine blk_alloc ?_ _)); refine blk_put (cs := #[.slice Ao101 bu.length co101, .slice Ao105 bF.length co105, .int .i64 bI, .int .i64 bJ, .int .i64 aq, .slice none 0 0]) ?_ 4 _ rfl; (with_reducible repeat (first | refine blk_drewN ?_ _ | refine blk_drew ?_ | refine blk_alloc ?_ _)); refine blk_put (cs := #[.slice Ao101 bu.length co101, .slice Ao105 bF.length co105, .int .i64 bI, .int .i64 ar, .int .i64 aq, .slice none 0 0]) ?_ 3 _ rfl; (with_reducible repeat (first | refine blk_drewN ?_ _ | refine blk_drew ?_ | refine blk_alloc ?_ _)); refine blk_put (cs := #[.slice Ao101 bu.length co101, .slice Ao105 bF.length co105, .int .i64 av, .int .i64 ar, .int .i64 aq, .slice none 0 0]) ?_ 2 _ rfl; (with_reducible repeat (first | refine blk_drewN ?_ _ | refine blk_drew ?_ | refine blk_alloc ?_ _)); refine blk_put (cs := #[.slice Ao101 bu.length co101, .slice none 0 0, .int .i64 av, .int .i64 ar, .int .i64 aq, .slice none 0 0]) ?_ 1 _ rfl; (with_reducible repeat (first | refine blk_drewN ?_ _ | refine blk_drew ?_ | refine blk_alloc ?_ _)); refine blk_put (cs := #[.slice none 0 0, .slice none 0 0, .int .i64 av, .int .i64 ar, .int .i64 aq, .slice none 0 0]) ?_ 0 _ rfl; (with_reducible repeat (first | refine blk_drewN ?_ _ | refine blk_drew ?_ | refine blk_alloc ?_ _)); exact au.out) Try.underlying33 rfl (by kernel_rfl)) rfl ?_
        exact ⟨_, _, _, by first | rfl | (simp [errW_none, errW_some] <;> rfl) | (simp [*, errW_none, errW_some] <;> rfl), by (with_reducible repeat (first | apply Kd.R_alloc | apply Kd.R_drewN | apply Kd.R_drew)); exact Kd.R_mono (Kd.R_far (p := ⟨gb1116, 5, none⟩) (Kd.R_far (p := ⟨gb1116, 4, none⟩) (Kd.R_far (p := ⟨gb1116, 3, none⟩) (Kd.R_far (p := ⟨gb1116, 2, none⟩) (Kd.R_far (p := ⟨gb1116, 1, none⟩) (Kd.R_far (p := ⟨gb1116, 0, none⟩) (Kd.R_types HO1156.out au.out (by decide)) (fun _ hk => hk.2) (.slice Ao101 bu.length co101)) (fun _ hk => hk.2) (.slice Ao105 bF.length co105)) (fun _ hk => hk.2) (.int .i64 bI)) (fun _ hk => hk.2) (.int .i64 bJ)) (fun _ hk => hk.2) (.int .i64 bL)) (fun _ hk => hk.2) (.slice Ao106 bO.length co106)) (fun _ hk => hk.1.1.1.1.1.1), by (with_reducible repeat (first | apply Kd.R_alloc | apply Kd.R_drewN | apply Kd.R_drew)); exact Kd.R_mono (Kd.R_far (p := ⟨gb1116, 5, none⟩) (Kd.R_far (p := ⟨gb1116, 4, none⟩) (Kd.R_far (p := ⟨gb1116, 3, none⟩) (Kd.R_far (p := ⟨gb1116, 2, none⟩) (Kd.R_far (p := ⟨gb1116, 1, none⟩) (Kd.R_far (p := ⟨gb1116, 0, none⟩) (Kd.R_types HO1159.out au.out (by decide)) (fun _ hk => hk.2) (.slice Ao101 bu.length co101)) (fun _ hk => hk.2) (.slice Ao105 bF.length co105)) (fun _ hk => hk.2) (.int .i64 bI)) (fun _ hk => hk.2) (.int .i64 bJ)) (fun _ hk => hk.2) (.int .i64 bL)) (fun _ hk => hk.2) (.slice Ao106 bO.length co106)) (fun _ hk => hk.1.1.1.1.1.1), by (with_reducible repeat (first | apply Kd.S_alloc | apply Kd.S_drewN | apply Kd.S_drew)); exact Kd.S_mono (Kd.S_far (p := ⟨gb1116, 5, none⟩) (Kd.S_far (p := ⟨gb1116, 4, none⟩) (Kd.S_far (p := ⟨gb1116, 3, none⟩) (Kd.S_far (p := ⟨gb1116, 2, none⟩) (Kd.S_far (p := ⟨gb1116, 1, none⟩) (Kd.S_far (p := ⟨gb1116, 0, none⟩) (Kd.S_types HO1165.out au.out (by decide)) (fun _ hk => hk.2) (.slice Ao101 bu.length co101)) (fun _ hk => hk.2) (.slice Ao105 bF.length co105)) (fun _ hk => hk.2) (.int .i64 bI)) (fun _ hk => hk.2) (.int .i64 bJ)) (fun _ hk => hk.2) (.int .i64 bL)) (fun _ hk => hk.2) (.slice Ao106 bO.length co106)) (fun _ hk => ⟨hk.1.1.1.1.1.1.1.1.1, hk.1.1.1.1.1.1.1.1.2⟩), TB⟩
      ·rw [if_neg c43] at H
       have c43b0 : decide (bt < bP) = false := decide_eq_false c43
       clear c43
       simp only [Option.some.injEq, Prod.mk.injEq] at H
       obtain ⟨rfl, rfl, rfl, rfl, rfl, rfl, rfl⟩ := H
       go_wp2_with (first | ((with_reducible refine gate_callee (f := 71) rfl ?_); refine gL (some 39) Try.func71 #[.int .i64 a2, .int .i64 (l1.length : Int)] ?_; (with_reducible refine (spec_Blocks.calls a2 (l1.length : Int) bP _ A42.out).mono ?_); rintro e w' ⟨rfl, ⟨nd, rfl⟩⟩; refine ⟨_, rfl, ?_⟩; (try (rw [drewN_self wr]; generalize hq_ : World.drewN wr _ = wr; have n0_ : Aside0 (Kd.R (Kd.int .u8) 5 wr w.heap.size (fun k_ => some k_ ≠ (bf : Value).ownBlock) be aj) := ⟨by rw [← hq_]; exact (by have X_ := ad.out; exact TR)⟩; have n1_ : Aside0 (Kd.R (Kd.int .u8) 5 wr w.heap.size (fun k_ => some k_ ≠ (be : Value).ownBlock) bf ai) := ⟨by rw [← hq_]; exact (by have X_ := ae.out; exact TR)⟩; have n2_ : Aside0 (Kd.S k110 110 wr w.heap.size (fun k_ => (some k_ ≠ (be : Value).ownBlock ∧ some k_ ≠ (bf : Value).ownBlock)) bs ak) := ⟨by rw [← hq_]; exact (by have X_ := ah.out; exact TS)⟩; have n3_ : Aside0 (wr.heap[ao]? = some (.cells #[.slice aH az.length aL, .slice aI aA.length aJ, .int .i64 aD, .int .i64 aC, .int .i64 aB, .slice aK ay.length aN] 33 (0, 0))) := ⟨by rw [← hq_]; exact TK⟩; have n4_ : Aside0 (wr.heap[gb1116]? = some (.cells #[.slice none 0 0, .slice none 0 0, .int .i64 av, .int .i64 ar, .int .i64 aq, .slice none 0 0] 33 (0, 0))) := ⟨by rw [← hq_]; exact TK⟩; have n5_ : Aside0 (wr.heap[gb1129]? = some (.cells #[be, bf, .int .i64 am, .int .i64 al, .int .i64 an, bs] 33 (0, 0))) := ⟨by rw [← hq_]; exact TK⟩; have n6_ : Aside0 (Below w.heap.size w wr) := ⟨by rw [← hq_]; exact TB⟩; clear ad ae ah ag au af HB hq_; have ad := n0_; have ae := n1_; have ah := n2_; have ag := n3_; have au := n4_; have af := n5_; have HB := n6_; clear n0_ n1_ n2_ n3_ n4_ n5_ n6_)); have hnb107 := NB1129_1115.out; have hnc107 := NB1115_1129.out; have hnb108 := NB1129_1116.out; have hnc108 := NB1116_1129.out; obtain ⟨hcz109_0, hcz109_1, hcz109_2, hcz109_3, hcz109_4, hcz109_5⟩ := cz6 af.out; obtain ⟨hfz109_0, hfz109_1, hfz109_2, hfz109_3, hfz109_4, hfz109_5⟩ := fz6 af.out; obtain ⟨Ao110, co110, eo110⟩ := Kd.R_slice ad.out; subst eo110; have hnb111 := NB1116_1115.out; have hnc111 := NB1115_1116.out; obtain ⟨hcz112_0, hcz112_1, hcz112_2, hcz112_3, hcz112_4, hcz112_5⟩ := cz6 au.out; obtain ⟨hfz112_0, hfz112_1, hfz112_2, hfz112_3, hfz112_4, hfz112_5⟩ := fz6 au.out; obtain ⟨Ao113, co113, eo113⟩ := Kd.R_slice ae.out; subst eo113; obtain ⟨Ao114, co114, eo114⟩ := Kd.S_slice ah.out; subst eo114))
       refine bodyPost_ret (results_ct rfl _ _ gb1116 33 #[.slice Ao110 aj.length co110, .slice Ao113 ai.length co113, .int .i64 am, .int .i64 al, .int .i64 an, .slice Ao114 ak.length co114] (0, 0) _ rfl (by (with_reducible repeat (first | refine blk_drewN ?_ _ | refine blk_drew ?_ | refine blk_alloc ?_ _)); refine blk_put (cs := #[.slice Ao110 aj.length co110, .slice Ao113 ai.length co113, .int .i64 am, .int .i64 al, .int .i64 an, .slice none 0 0]) ?_ 5 _ rfl; (with_reducible repeat (first | refine blk_drewN ?_ _ | refine blk_drew ?_ | refine blk_alloc ?_ _)); refine blk_put (cs := #[.slice Ao110 aj.length co110, .slice Ao113 ai.length co113, .int .i64 am, .int .i64 al, .int .i64 aq, .slice none 0 0]) ?_ 4 _ rfl; (with_reducible repeat (first | refine blk_drewN ?_ _ | refine blk_drew ?_ | refine blk_alloc ?_ _)); refine blk_put (cs := #[.slice Ao110 aj.length co110, .slice Ao113 ai.length co113, .int .i64 am, .int .i64 ar, .int .i64 aq, .slice none 0 0]) ?_ 3 _ rfl; (with_reducible repeat (first | refine blk_drewN ?_ _ | refine blk_drew ?_ | refine blk_alloc ?_ _)); refine blk_put (cs := #[.slice Ao110 aj.length co110, .slice Ao113 ai.length co113, .int .i64 av, .int .i64 ar, .int .i64 aq, .slice none 0 0]) ?_ 2 _ rfl; (with_reducible repeat (first | refine blk_drewN ?_ _ | refine blk_drew ?_ | refine blk_alloc ?_ _)); refine blk_put (cs := #[.slice Ao110 aj.length co110, .slice none 0 0, .int .i64 av, .int .i64 ar, .int .i64 aq, .slice none 0 0]) ?_ 1 _ rfl; (with_reducible repeat (first | refine blk_drewN ?_ _ | refine blk_drew ?_ | refine blk_alloc ?_ _)); refine blk_put (cs := #[.slice none 0 0, .slice none 0 0, .int .i64 av, .int .i64 ar, .int .i64 aq, .slice none 0 0]) ?_ 0 _ rfl; (with_reducible repeat (first | refine blk_drewN ?_ _ | refine blk_drew ?_ | refine blk_alloc ?_ _)); exact au.out) Try.underlying33 rfl (by kernel_rfl)) rfl ?_
       exact ⟨_, _, _, by first | rfl | (simp [errW_none, errW_some] <;> rfl) | (simp [*, errW_none, errW_some] <;> rfl), by (with_reducible repeat (first | apply Kd.R_alloc | apply Kd.R_drewN | apply Kd.R_drew)); exact Kd.R_mono (Kd.R_far (p := ⟨gb1116, 5, none⟩) (Kd.R_far (p := ⟨gb1116, 4, none⟩) (Kd.R_far (p := ⟨gb1116, 3, none⟩) (Kd.R_far (p := ⟨gb1116, 2, none⟩) (Kd.R_far (p := ⟨gb1116, 1, none⟩) (Kd.R_far (p := ⟨gb1116, 0, none⟩) (Kd.R_types ad.out au.out (by decide)) (fun _ hk => hk.2) (.slice Ao110 aj.length co110)) (fun _ hk => hk.2) (.slice Ao113 ai.length co113)) (fun _ hk => hk.2) (.int .i64 am)) (fun _ hk => hk.2) (.int .i64 al)) (fun _ hk => hk.2) (.int .i64 an)) (fun _ hk => hk.2) (.slice Ao114 ak.length co114)) (fun _ hk => hk.1), by (with_reducible repeat (first | apply Kd.R_alloc | apply Kd.R_drewN | apply Kd.R_drew)); exact Kd.R_mono (Kd.R_far (p := ⟨gb1116, 5, none⟩) (Kd.R_far (p := ⟨gb1116, 4, none⟩) (Kd.R_far (p := ⟨gb1116, 3, none⟩) (Kd.R_far (p := ⟨gb1116, 2, none⟩) (Kd.R_far (p := ⟨gb1116, 1, none⟩) (Kd.R_far (p := ⟨gb1116, 0, none⟩) (Kd.R_types ae.out au.out (by decide)) (fun _ hk => hk.2) (.slice Ao110 aj.length co110)) (fun _ hk => hk.2) (.slice Ao113 ai.length co113)) (fun _ hk => hk.2) (.int .i64 am)) (fun _ hk => hk.2) (.int .i64 al)) (fun _ hk => hk.2) (.int .i64 an)) (fun _ hk => hk.2) (.slice Ao114 ak.length co114)) (fun _ hk => hk.1), by (with_reducible repeat (first | apply Kd.S_alloc | apply Kd.S_drewN | apply Kd.S_drew)); exact Kd.S_mono (Kd.S_far (p := ⟨gb1116, 5, none⟩) (Kd.S_far (p := ⟨gb1116, 4, none⟩) (Kd.S_far (p := ⟨gb1116, 3, none⟩) (Kd.S_far (p := ⟨gb1116, 2, none⟩) (Kd.S_far (p := ⟨gb1116, 1, none⟩) (Kd.S_far (p := ⟨gb1116, 0, none⟩) (Kd.S_types ah.out au.out (by decide)) (fun _ hk => hk.2) (.slice Ao110 aj.length co110)) (fun _ hk => hk.2) (.slice Ao113 ai.length co113)) (fun _ hk => hk.2) (.int .i64 am)) (fun _ hk => hk.2) (.int .i64 al)) (fun _ hk => hk.2) (.int .i64 an)) (fun _ hk => hk.2) (.slice Ao114 ak.length co114)) (fun _ hk => ⟨hk.1.1, hk.1.2⟩), TB⟩

end Go.Proofs.Ytlghklbjmmijpaa.Q
