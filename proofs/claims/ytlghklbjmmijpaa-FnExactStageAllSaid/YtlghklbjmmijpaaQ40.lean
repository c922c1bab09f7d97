/- Functions of the program as plain Lean functions, and that a call of each comes to what its function tells. Written by a program of this seat. -/
import Derived.Test.YtlghklbjmmijpaaQ0
import Derived.Test.YtlghklbjmmijpaaQ18
import Derived.Test.YtlghklbjmmijpaaQ22
import Derived.Test.YtlghklbjmmijpaaQ34
import Derived.Test.YtlghklbjmmijpaaQ37
import Derived.Test.YtlghklbjmmijpaaQ39
namespace Go.Proofs.Ytlghklbjmmijpaa.Q
open Go.RowKit Go.Proofs.YtlghklbjmmijpaaW.PrintWords Go.Proofs.YtlghklbjmmijpaaW.PrintLast Go.Proofs.YtlghklbjmmijpaaW.PrintMore
attribute [local go_sem] max2_int min2_int max_two min_two max_three min_three max_four min_four   -- for this text's walks alone
set_option linter.unusedVariables false
set_option linter.unusedSimpArgs false

/-! ### impl_StageAll: function 25 -/
mutual
def impl_StageAll.j0 : Nat → List Int → Int → Bool → List Int → List Int → Int → Int → Int → List (S110) → Option (List Int × List Int × Int × Int × Int × (List (S110)) × Bool)
  | 0, _, _, _, _, _, _, _, _, _ => none
  | k + 1, x1, x2, x29, x711000, x711001, x711002, x711003, x711004, x711005 => if x29 = true then ((impl_copyDisk.f k x711000 x711001 x711002 x711003 x711004 x711005).bind fun bt714 => (some (bt714.1, bt714.2.1, bt714.2.2.1, bt714.2.2.2.1, bt714.2.2.2.2.1, bt714.2.2.2.2.2, false))) else ((impl_copyDisk.f k x711000 x711001 x711002 x711003 x711004 x711005).bind fun bt726 => ((impl_Blocks.f x2 (x1.length : Int)).bind fun t739 => (impl_StageAll.l0 k x1 x2 t739 0 x711000 x711001 x711002 x711003 x711004 x711005 bt726.1 bt726.2.1 bt726.2.2.1 bt726.2.2.2.1 bt726.2.2.2.2.1 bt726.2.2.2.2.2)))
def impl_StageAll.l0 : Nat → List Int → Int → Int → Int → List Int → List Int → Int → Int → Int → List (S110) → List Int → List Int → Int → Int → Int → List (S110) → Option (List Int × List Int × Int × Int × Int × (List (S110)) × Bool)
  | 0, _, _, _, _, _, _, _, _, _, _, _, _, _, _, _, _ => none
  | k + 1, x1, x2, x37, x38, x711000, x711001, x711002, x711003, x711004, x711005, x739000, x739001, x739002, x739003, x739004, x739005 => if x38 < x37 then ((impl_BlockAt.f x1 x2 x38).bind fun bt740 => ((impl_Spare.f x711000 x711001 x711002 x711003 x711004 x711005).bind fun t744 => ((impl_PutBytes.f k x739000 x739001 x739002 x739003 x739004 x739005 t744 (wrap64 (x38 * x2)) bt740.1).bind fun bt745 => (if bt745.2.2.2.2.2.2 = true then (impl_StageAll.l0 k x1 x2 x37 (wrap64 (x38 + 1)) x711000 x711001 x711002 x711003 x711004 x711005 bt745.1 bt745.2.1 bt745.2.2.1 bt745.2.2.2.1 bt745.2.2.2.2.1 bt745.2.2.2.2.2.1) else ((impl_copyDisk.f k x711000 x711001 x711002 x711003 x711004 x711005).bind fun bt759 => (some (bt759.1, bt759.2.1, bt759.2.2.1, bt759.2.2.2.1, bt759.2.2.2.2.1, bt759.2.2.2.2.2, false))))))) else (some (x739000, x739001, x739002, x739003, x739004, x739005, true))
end
def impl_StageAll.f (k : Nat) (l0_0 : List Int) (l0_1 : List Int) (a0_2 : Int) (a0_3 : Int) (a0_4 : Int) (l0_5 : List (S110)) (l1 : List Int) (a2 : Int) : Option (List Int × List Int × Int × Int × Int × (List (S110)) × Bool) := (impl_DiskOk.f k l0_0 l0_1 a0_2 a0_3 a0_4 l0_5).bind fun t712 => (if t712 = true then (if (l0_5.length : Int) > 0 then (impl_StageAll.j0 k l1 a2 true l0_0 l0_1 a0_2 a0_3 a0_4 l0_5) else ((impl_SizeOk.f a2 (l1.length : Int)).bind fun t713 => (impl_StageAll.j0 k l1 a2 (!t713) l0_0 l0_1 a0_2 a0_3 a0_4 l0_5))) else (impl_StageAll.j0 k l1 a2 true l0_0 l0_1 a0_2 a0_3 a0_4 l0_5))
theorem impl_StageAll.mono_l : ∀ k, (∀ y0 y1 y2 y3 y4 y5 y6 y7 y8, LeO (impl_StageAll.j0 k y0 y1 y2 y3 y4 y5 y6 y7 y8) (impl_StageAll.j0 (k + 1) y0 y1 y2 y3 y4 y5 y6 y7 y8)) ∧ (∀ y0 y1 y2 y3 y4 y5 y6 y7 y8 y9 y10 y11 y12 y13 y14 y15, LeO (impl_StageAll.l0 k y0 y1 y2 y3 y4 y5 y6 y7 y8 y9 y10 y11 y12 y13 y14 y15) (impl_StageAll.l0 (k + 1) y0 y1 y2 y3 y4 y5 y6 y7 y8 y9 y10 y11 y12 y13 y14 y15))
  | 0 => ⟨fun _ _ _ _ _ _ _ _ _ r h => by simp [impl_StageAll.j0] at h, fun _ _ _ _ _ _ _ _ _ _ _ _ _ _ _ _ r h => by simp [impl_StageAll.l0] at h⟩
  | k + 1 => by
    have m0_ := @impl_DiskOk.mono
    have m1_ := @impl_PutBytes.mono
    have m2_ := @impl_copyDisk.mono
    obtain ⟨ih0, ih1⟩ := impl_StageAll.mono_l k
    refine ⟨?_, ?_⟩
    · intro y0 y1 y2 y3 y4 y5 y6 y7 y8
      unfold impl_StageAll.j0
      exact LM
    · intro y0 y1 y2 y3 y4 y5 y6 y7 y8 y9 y10 y11 y12 y13 y14 y15
      unfold impl_StageAll.l0
      exact LM
theorem impl_StageAll.mono : ∀ a0 a1 a2 a3 a4 a5 a6 a7 k, LeO (impl_StageAll.f k a0 a1 a2 a3 a4 a5 a6 a7) (impl_StageAll.f (k + 1) a0 a1 a2 a3 a4 a5 a6 a7) := by
  intro a0 a1 a2 a3 a4 a5 a6 a7 k
  have m0_ := @impl_DiskOk.mono
  have m1_ := @impl_PutBytes.mono
  have m2_ := @impl_copyDisk.mono
  obtain ⟨ih0, ih1⟩ := impl_StageAll.mono_l k
  unfold impl_StageAll.f
  exact LM
def impl_StageAll.T8 : Bool × List (List Nat × List Nat) := (true, [([], []), ([], []), ([1], [1]), ([], []), ([], []), ([3, 4], [3, 4]), ([], []), ([0, 2, 5, 6, 2], [0, 2, 5, 6]), ([7], [7]), ([8], [8]), ([8], [8]), ([], []), ([11, 9, 7, 0, 1, 2, 3, 4, 5, 6, 7, 8, 9, 11], [9, 11]), ([10, 12, 0, 1, 2, 3, 4, 5, 6, 7, 8, 9, 10, 11, 12], [10])])
def impl_StageAll.B8 : List Nat := [0, 0, 2, 0, 0, 24, 0, 127, 255, 511, 511, 0, 3071, 8191]
theorem impl_StageAll.tab8 : rtab .any (opsOf Try.f25 8) = impl_StageAll.T8 := by kernel_rfl
theorem impl_StageAll.bits8 : waitsOk impl_StageAll.T8.2 impl_StageAll.B8 = true := by kernel_rfl
set_option maxHeartbeats 40000000 in
set_option maxRecDepth 100000 in
theorem impl_StageAll.calls (k : Nat) (aT : Option Addr) (aY : Nat) (aB : List Int) (aU : Option Addr) (aW : Nat) (aC : List Int) (aF : Int) (aE : Int) (aD : Int) (aX : Option Addr) (aZ : Nat) (ay : List (S110)) (A1 : Option Addr) (c1 : Nat) (l1 : List Int) (a2 : Int) (r1 : List Int) (r2 : List Int) (r3 : Int) (r4 : Int) (r5 : Int) (r6 : List (S110)) (r7 : Bool) (w : World) (dr : Kd.C (Kd.int .u8) w aT aB.length aB) (dw : aB.length ≤ aY) (dx : Kd.C (Kd.int .u8) w aU aC.length aC) (du : aC.length ≤ aW) (dt : Kd.C k110 w aX ay.length ay) (dv : ay.length ≤ aZ) (hr1 : Kd.C (Kd.int .u8) w A1 l1.length l1) (hc1 : l1.length ≤ c1) (h : impl_StageAll.f k aB aC aF aE aD ay l1 a2 = some (r1, r2, r3, r4, r5, r6, r7)) :
  Calls Try.prog 25 #[.agg #[.slice aT aB.length aY, .slice aU aC.length aW, .int .i64 aF, .int .i64 aE, .int .i64 aD, .slice aX ay.length aZ], .slice A1 l1.length c1, .int .i64 a2] w fun e w' => ∃ v0_ v1_ v5_ : Value, e = .returned (.tuple #[.agg #[v0_, v1_, .int .i64 r3, .int .i64 r4, .int .i64 r5, v5_], .bool r7]) ∧ Kd.R (Kd.int .u8) 5 w' w.heap.size (fun k_ => some k_ ≠ (v1_ : Value).ownBlock) v0_ r1 ∧ Kd.R (Kd.int .u8) 5 w' w.heap.size (fun k_ => some k_ ≠ (v0_ : Value).ownBlock) v1_ r2 ∧ Kd.S k110 110 w' w.heap.size (fun k_ => some k_ ≠ (v0_ : Value).ownBlock ∧ some k_ ≠ (v1_ : Value).ownBlock) v5_ r6 ∧ Below w.heap.size w w' := by
 have hu33 := Try.underlying33
 have bk := aM dr
 have bn := aM dw
 clear dr dw
 have bp := aM dx
 have bl := aM du
 clear dx du
 have bm := aM dt
 have bo := aM dv
 clear dt dv
 have HR1 := aM hr1
 have HC1 := aM hc1
 clear hr1 hc1
 have HB := aM (Below.refl w.heap.size w)
 have H := h
 clear h
 unfold impl_StageAll.f at H
 have HC4 := aM H
 clear H
 go_enter Try.func25, Try.ntmps25
 go_upto_region 1 with (first | ((with_reducible refine gate_dst (N := 3) rfl ?_); (try (refine gate_guard (by rfl) ?_; dsimp only)); refine gBx 3 #[.slice aT aB.length aY, .slice aU aC.length aW, .int .i64 aF, .int .i64 aE, .int .i64 aD, .slice aX ay.length aZ] 33 ?_; intro ap hg w5 hbox hb; have ab := aM (hbox); have GW710 := aM ((by rw [hg]; exact (below_size TB) : w.heap.size ≤ ap)); have GE710 := aM ((by rw [hg]; exact (below_size TB) : w.heap.size ≤ ap)); replace HB := aM (below_step TB hb); clear hb hbox hg) | ((with_reducible refine gate_dst (N := 6) rfl ?_); (try (refine gate_guard (by rfl) ?_; dsimp only)); refine gBx 6 #[.slice none 0 0, .slice none 0 0, .int .i64 0, .int .i64 0, .int .i64 0, .slice none 0 0] 33 ?_; intro gb711 hg w6 hbox hb; have ak := aM (hbox); have GW711 := aM ((by rw [hg]; exact (below_size TB) : w.heap.size ≤ gb711)); have GE711 := aM ((by rw [hg]; exact (below_size TB) : w.heap.size ≤ gb711)); have NB710_711 := aM ((by rw [hg]; exact Nat.ne_of_lt (blk_lt (by have X_ := ab.out; exact TX)) : ap ≠ gb711)); have NB711_710 := aM ((by rw [hg]; exact Nat.ne_of_gt (blk_lt (by have X_ := ab.out; exact TX)) : gb711 ≠ ap)); replace ab := aM (blk_below (by have X_ := ab.out; exact TX) hb); replace HB := aM (below_step TB hb); clear hb hbox hg))
 (try simp only [Act.put, List.setIfInBounds_toArray, List.set_cons_zero, List.set_cons_succ])
 go_cut [29] (fun v29 wc => ∃ (kq : Nat) (bZ : Bool), v29 = .bool bZ ∧ Aside0 (impl_StageAll.j0 kq l1 a2 bZ aB aC aF aE aD ay = some (r1, r2, r3, r4, r5, r6, r7)) ∧ Aside0 (kq ≤ k) ∧ Aside0 (wc.heap[ap]? = some (.cells #[(.slice aT aB.length aY), (.slice aU aC.length aW), .int .i64 aF, .int .i64 aE, .int .i64 aD, (.slice aX ay.length aZ)] 33 (0, 0))) ∧ Aside0 (wc.heap[gb711]? = some (.cells #[(.slice none 0 0), (.slice none 0 0), .int .i64 0, .int .i64 0, .int .i64 0, (.slice none 0 0)] 33 (0, 0))) ∧ Aside0 (Below w.heap.size w wc))
 case first =>
  have H := HC4.out
  clear HC4
  replace H := bE H
  obtain ⟨t712, A7, H⟩ := H
  by_cases c8 : t712 = true
  ·subst c8
   replace H := ifT H
   by_cases c9 : (ay.length : Int) > 0
   ·rw [if_pos c9] at H
    have bO : decide (0 < (ay.length : Int)) = true := decide_eq_true c9
    have dq : decide (0 < ay.length) = true := decide_eq_true (by omega)
    clear c9
    (first | rw [bO] | (simp only [i64_w, i32_w]; rw [bO]) | skip)
    have H' := aM H
    clear H
    have hnb10 := NB710_711.out
    have hnc10 := NB711_710.out
    obtain ⟨dp, cK, cG, cm, cB, cD⟩ := cz6 ab.out
    obtain ⟨dj, co, cV, cl, cW, cL⟩ := fz6 ab.out
    go_wp2_with (first | ((with_reducible refine gate_callee (f := 76) rfl ?_); refine gL (some 15) Try.func76 #[.agg #[.slice aT aB.length aY, .slice aU aC.length aW, .int .i64 aF, .int .i64 aE, .int .i64 aD, .slice aX ay.length aZ]] ?_; (with_reducible refine (impl_DiskOk.calls k _ _ aB _ _ aC aF aE aD _ _ ay true _ ?side1 ?side2 ?side3 ?side4 ?side5 ?side6 A7.out).mono ?_); (case side1 => have X_ := (Kd.C_below bk.out HB.out); exact TC); (case side2 => exact bn.out); (case side3 => have X_ := (Kd.C_below bp.out HB.out); exact TC); (case side4 => exact bl.out); (case side5 => have X_ := (Kd.C_below bm.out HB.out); exact TC); (case side6 => exact bo.out); rintro e w12 ⟨rfl, hb⟩; refine ⟨_, rfl, ?_⟩; replace ab := aM (blk_below (by have X_ := ab.out; exact TX) hb); replace ak := aM (blk_below (by have X_ := ak.out; exact TX) hb); replace HB := aM (below_step TB hb); clear hb; obtain ⟨cH, cR, cu, cn, ct, cU⟩ := cz6 ab.out; obtain ⟨dl, cE, ck, cM, c5, cQ⟩ := fz6 ab.out))
    go_meet
    case rel => exact ⟨_, (true), (by first | rfl | (simp; done) | (simp [*]; done)), H', ⟨by first | omega | exact Nat.le_refl _⟩, ⟨TK⟩, ⟨TK⟩, ⟨TB⟩⟩
   ·rw [if_neg c9] at H
    have bO : decide (0 < (ay.length : Int)) = false := decide_eq_false c9
    have dq : decide (0 < ay.length) = false := decide_eq_false (by omega)
    clear c9
    (first | rw [bO] | (simp only [i64_w, i32_w]; rw [bO]) | skip)
    replace H := bE H
    obtain ⟨t713, A14, H⟩ := H
    have H' := aM H
    clear H
    have hnb15 := NB710_711.out
    have hnc15 := NB711_710.out
    obtain ⟨cj, db, cN, cq, dm, cz⟩ := cz6 ab.out
    obtain ⟨cI, cZ, cY, cC, dc, cw⟩ := fz6 ab.out
    go_wp2_with (first | ((with_reducible refine gate_callee (f := 76) rfl ?_); refine gL (some 15) Try.func76 #[.agg #[.slice aT aB.length aY, .slice aU aC.length aW, .int .i64 aF, .int .i64 aE, .int .i64 aD, .slice aX ay.length aZ]] ?_; (with_reducible refine (impl_DiskOk.calls k _ _ aB _ _ aC aF aE aD _ _ ay true _ ?side1 ?side2 ?side3 ?side4 ?side5 ?side6 A7.out).mono ?_); (case side1 => have X_ := (Kd.C_below bk.out HB.out); exact TC); (case side2 => exact bn.out); (case side3 => have X_ := (Kd.C_below bp.out HB.out); exact TC); (case side4 => exact bl.out); (case side5 => have X_ := (Kd.C_below bm.out HB.out); exact TC); (case side6 => exact bo.out); rintro e w17 ⟨rfl, hb⟩; refine ⟨_, rfl, ?_⟩; replace ab := aM (blk_below (by have X_ := ab.out; exact TX) hb); replace ak := aM (blk_below (by have X_ := ak.out; exact TX) hb); replace HB := aM (below_step TB hb); clear hb; obtain ⟨dk, cO, cA, cX, cx, cJ⟩ := cz6 ab.out; obtain ⟨dn, dg, de, cF, cS, dh⟩ := fz6 ab.out) | (go_at_call 54; (with_reducible refine (impl_SizeOk.calls a2 (l1.length : Int) t713 _ A14.out).mono ?_); rintro e w' ⟨rfl, ⟨nd, rfl⟩⟩))
    go_meet
    case rel => exact ⟨_, (!t713), (by first | rfl | (simp; done) | (simp [*]; done)), H', ⟨by first | omega | exact Nat.le_refl _⟩, ⟨TK⟩, ⟨TK⟩, ⟨TB⟩⟩
  ·replace c8 := Bool.eq_false_iff.mpr c8
   subst c8
   replace H := ifF H
   have H' := aM H
   clear H
   have hnb19 := NB710_711.out
   have hnc19 := NB711_710.out
   obtain ⟨di, df, cT, c0, cr, dd⟩ := cz6 ab.out
   obtain ⟨cP, c4, da, cy, cp, cv⟩ := fz6 ab.out
   go_wp2_with (first | ((with_reducible refine gate_callee (f := 76) rfl ?_); refine gL (some 15) Try.func76 #[.agg #[.slice aT aB.length aY, .slice aU aC.length aW, .int .i64 aF, .int .i64 aE, .int .i64 aD, .slice aX ay.length aZ]] ?_; (with_reducible refine (impl_DiskOk.calls k _ _ aB _ _ aC aF aE aD _ _ ay false _ ?side1 ?side2 ?side3 ?side4 ?side5 ?side6 A7.out).mono ?_); (case side1 => have X_ := (Kd.C_below bk.out HB.out); exact TC); (case side2 => exact bn.out); (case side3 => have X_ := (Kd.C_below bp.out HB.out); exact TC); (case side4 => exact bl.out); (case side5 => have X_ := (Kd.C_below bm.out HB.out); exact TC); (case side6 => exact bo.out); rintro e w21 ⟨rfl, hb⟩; refine ⟨_, rfl, ?_⟩; replace ab := aM (blk_below (by have X_ := ab.out; exact TX) hb); replace ak := aM (blk_below (by have X_ := ak.out; exact TX) hb); replace HB := aM (below_step TB hb); clear hb))
   go_meet
   case rel => exact ⟨_, (true), (by first | rfl | (simp; done) | (simp [*]; done)), H', ⟨by first | omega | exact Nat.le_refl _⟩, ⟨TK⟩, ⟨TK⟩, ⟨TB⟩⟩
 case rest =>
  clear HC4
  try clear c1
  try clear c2
  try clear p2
  try clear c7
  try clear c8
  try clear c9
  try clear bO
  try clear dq
  try clear c10
  try clear c15
  try clear c19
  try clear dp
  try clear cK
  try clear cG
  try clear cm
  try clear cB
  try clear cD
  try clear cH
  try clear cR
  try clear cu
  try clear cn
  try clear ct
  try clear cU
  try clear cj
  try clear db
  try clear cN
  try clear cq
  try clear dm
  try clear cz
  try clear dk
  try clear cO
  try clear cA
  try clear cX
  try clear cx
  try clear cJ
  try clear di
  try clear df
  try clear cT
  try clear c0
  try clear cr
  try clear dd
  try clear dj
  try clear co
  try clear cV
  try clear cl
  try clear cW
  try clear cL
  try clear dl
  try clear cE
  try clear ck
  try clear cM
  try clear c5
  try clear cQ
  try clear cI
  try clear cZ
  try clear cY
  try clear cC
  try clear dc
  try clear cw
  try clear dn
  try clear dg
  try clear de
  try clear cF
  try clear cS
  try clear dh
  try clear cP
  try clear c4
  try clear da
  try clear cy
  try clear cp
  try clear cv
  obtain ⟨kq, bZ, rfl, HA, HJ3, ab, ak, HB⟩ := hcut
  cases kq with
  | zero => exact absurd HA.out (by simp [impl_StageAll.j0])
  | succ kj3 =>
   have H := HA.out
   clear HA
   simp only [impl_StageAll.j0] at H
   by_cases c22 : bZ = true
   ·subst c22
    replace H := ifT H
    replace H := bE H
    obtain ⟨⟨bB, bH, bI, bP, bV, b5⟩, A23, H⟩ := H
    dsimp only at H
    simp only [Option.some.injEq, Prod.mk.injEq] at H
    obtain ⟨rfl, rfl, rfl, rfl, rfl, rfl, rfl⟩ := H
    have hnb24 := NB710_711.out
    have hnc24 := NB711_710.out
    obtain ⟨d4, dM, d8, dB, ea, dy⟩ := cz6 ab.out
    obtain ⟨eb, dD, dP, dQ, dC, dJ⟩ := fz6 ab.out
    go_wp2_with (first | ((with_reducible refine gate_callee (f := 60) rfl ?_); refine gL (some 31) Try.func60 #[.agg #[.slice aT aB.length aY, .slice aU aC.length aW, .int .i64 aF, .int .i64 aE, .int .i64 aD, .slice aX ay.length aZ]] ?_; (with_reducible refine (impl_copyDisk.calls kj3 _ _ aB _ _ aC aF aE aD _ _ ay bB bH bI bP bV b5 _ ?side1 ?side2 ?side3 ?side4 ?side5 ?side6 A23.out).mono ?_); (case side1 => have X_ := (Kd.C_below bk.out HB.out); exact TC); (case side2 => exact bn.out); (case side3 => have X_ := (Kd.C_below bp.out HB.out); exact TC); (case side4 => exact bl.out); (case side5 => have X_ := (Kd.C_below bm.out HB.out); exact TC); (case side6 => exact bo.out); rintro e w26 ⟨v715, v718, v724, rfl, ho0, ho1, ho2, hb⟩; refine ⟨_, rfl, ?_⟩; have HO716 := aM (Kd.R_lower ho0 (below_size TB)); have HO719 := aM (Kd.R_lower ho1 (below_size TB)); have HO725 := aM (Kd.S_lower ho2 (below_size TB)); replace ab := aM (blk_below (by have X_ := ab.out; exact TX) hb); replace ak := aM (blk_below (by have X_ := ak.out; exact TX) hb); replace HB := aM (below_step TB hb); clear ho0 ho1 ho2 hb; obtain ⟨Ao27, co27, eo27⟩ := Kd.R_slice HO716.out; subst eo27; obtain ⟨dG, dX, dE, dz, d5, dT⟩ := cz6 ak.out; obtain ⟨dI, ei, d0, ee, dF, dK⟩ := fz6 ak.out; obtain ⟨Ao29, co29, eo29⟩ := Kd.R_slice HO719.out; subst eo29; obtain ⟨Ao30, co30, eo30⟩ := Kd.S_slice HO725.out; subst eo30))
    refine bodyPost_ret (results_ct rfl _ _ gb711 33 #[.slice Ao27 bB.length co27, .slice Ao29 bH.length co29, .int .i64 bI, .int .i64 bP, .int .i64 bV, .slice Ao30 b5.length co30] (0, 0) _ rfl (by (with_reducible repeat (first | refine blk_drewN ?_ _ | refine blk_drew ?_ | refine blk_alloc ?_ _)); refine blk_put (cs := #[.slice Ao27 bB.length co27, .slice Ao29 bH.length co29, .int .i64 bI, .int .i64 bP, .int .i64 bV, .slice none 0 0]) ?_ 5 _ rfl; (with_reducible repeat (first | refine blk_drewN ?_ _ | refine blk_drew ?_ | refine blk_alloc ?_ _)); refine blk_put (cs := #[.slice Ao27 bB.length co27, .slice Ao29 bH.length co29, .int .i64 bI, .int .i64 bP, .int .i64 0, .slice none 0 0]) ?_ 4 _ rfl; (with_reducible repeat (first | refine blk_drewN ?_ _ | refine blk_drew ?_ | refine blk_alloc ?_ _)); refine blk_put (cs := #[.slice Ao27 bB.length co27, .slice Ao29 bH.length co29, .int .i64 bI, .int .i64 0, .int .i64 0, .slice none 0 0]) ?_ 3 _ rfl; (with_reducible repeat (first | refine blk_drewN ?_ _ | refine blk_drew ?_ | refine blk_alloc ?_ _)); refine blk_put (cs := #[.slice Ao27 bB.length co27, .slice Ao29 bH.length co29, .int .i64 0, .int .i64 0, .int .i64 0, .slice none 0 0]) ?_ 2 _ rfl; (with_reducible repeat (first | refine blk_drewN ?_ _ | refine blk_drew ?_ | refine blk_alloc ?_ _)); refine blk_put (cs := #[.slice Ao27 bB.length co27, .slice none 0 0, .int .i64 0, .int .i64 0, .int .i64 0, .slice none 0 0]) ?_ 1 _ rfl; (with_reducible repeat (first | refine blk_drewN ?_ _ | refine blk_drew ?_ | refine blk_alloc ?_ _)); refine blk_put (cs := #[.slice none 0 0, .slice none 0 0, .int .i64 0, .int .i64 0, .int .i64 0, .slice none 0 0]) ?_ 0 _ rfl; (with_reducible repeat (first | refine blk_drewN ?_ _ | refine blk_drew ?_ | refine blk_alloc ?_ _)); exact ak.out) Try.underlying33 rfl (by kernel_rfl)) rfl ?_
    exact ⟨_, _, _, by first | rfl | (simp [errW_none, errW_some] <;> rfl) | (simp [*, errW_none, errW_some] <;> rfl), by (with_reducible repeat (first | apply Kd.R_alloc | apply Kd.R_drewN | apply Kd.R_drew)); exact Kd.R_mono (Kd.R_far (p := ⟨gb711, 5, none⟩) (Kd.R_far (p := ⟨gb711, 4, none⟩) (Kd.R_far (p := ⟨gb711, 3, none⟩) (Kd.R_far (p := ⟨gb711, 2, none⟩) (Kd.R_far (p := ⟨gb711, 1, none⟩) (Kd.R_far (p := ⟨gb711, 0, none⟩) (Kd.R_types HO716.out ak.out (by decide)) (fun _ hk => hk.2) (.slice Ao27 bB.length co27)) (fun _ hk => hk.2) (.slice Ao29 bH.length co29)) (fun _ hk => hk.2) (.int .i64 bI)) (fun _ hk => hk.2) (.int .i64 bP)) (fun _ hk => hk.2) (.int .i64 bV)) (fun _ hk => hk.2) (.slice Ao30 b5.length co30)) (fun _ hk => hk.1), by (with_reducible repeat (first | apply Kd.R_alloc | apply Kd.R_drewN | apply Kd.R_drew)); exact Kd.R_mono (Kd.R_far (p := ⟨gb711, 5, none⟩) (Kd.R_far (p := ⟨gb711, 4, none⟩) (Kd.R_far (p := ⟨gb711, 3, none⟩) (Kd.R_far (p := ⟨gb711, 2, none⟩) (Kd.R_far (p := ⟨gb711, 1, none⟩) (Kd.R_far (p := ⟨gb711, 0, none⟩) (Kd.R_types HO719.out ak.out (by decide)) (fun _ hk => hk.2) (.slice Ao27 bB.length co27)) (fun _ hk => hk.2) (.slice Ao29 bH.length co29)) (fun _ hk => hk.2) (.int .i64 bI)) (fun _ hk => hk.2) (.int .i64 bP)) (fun _ hk => hk.2) (.int .i64 bV)) (fun _ hk => hk.2) (.slice Ao30 b5.length co30)) (fun _ hk => hk.1), by (with_reducible repeat (first | apply Kd.S_alloc | apply Kd.S_drewN | apply Kd.S_drew)); exact Kd.S_mono (Kd.S_far (p := ⟨gb711, 5, none⟩) (Kd.S_far (p := ⟨gb711, 4, none⟩) (Kd.S_far (p := ⟨gb711, 3, none⟩) (Kd.S_far (p := ⟨gb711, 2, none⟩) (Kd.S_far (p := ⟨gb711, 1, none⟩) (Kd.S_far (p := ⟨gb711, 0, none⟩) (Kd.S_types HO725.out ak.out (by decide)) (fun _ hk => hk.2) (.slice Ao27 bB.length co27)) (fun _ hk => hk.2) (.slice Ao29 bH.length co29)) (fun _ hk => hk.2) (.int .i64 bI)) (fun _ hk => hk.2) (.int .i64 bP)) (fun _ hk => hk.2) (.int .i64 bV)) (fun _ hk => hk.2) (.slice Ao30 b5.length co30)) (fun _ hk => ⟨hk.1.1, hk.1.2⟩), TB⟩
   ·replace c22 := Bool.eq_false_iff.mpr c22
    subst c22
    replace H := ifF H
    replace H := bE H
    obtain ⟨⟨bu, bC, bJ, bN, bU, bR⟩, A31, H⟩ := H
    dsimp only at H
    replace H := bE H
    obtain ⟨ch, A32, H⟩ := H
    have H' := aM H
    clear H
    have hnb33 := NB710_711.out
    have hnc33 := NB711_710.out
    obtain ⟨dN, ef, dV, d9, dU, dY⟩ := cz6 ab.out
    obtain ⟨eg, dS, d2, eh, dR, dA⟩ := fz6 ab.out
    go_wp2_with (first | ((with_reducible refine gate_callee (f := 60) rfl ?_); refine gL (some 33) Try.func60 #[.agg #[.slice aT aB.length aY, .slice aU aC.length aW, .int .i64 aF, .int .i64 aE, .int .i64 aD, .slice aX ay.length aZ]] ?_; (with_reducible refine (impl_copyDisk.calls kj3 _ _ aB _ _ aC aF aE aD _ _ ay bu bC bJ bN bU bR _ ?side1 ?side2 ?side3 ?side4 ?side5 ?side6 A31.out).mono ?_); (case side1 => have X_ := (Kd.C_below bk.out HB.out); exact TC); (case side2 => exact bn.out); (case side3 => have X_ := (Kd.C_below bp.out HB.out); exact TC); (case side4 => exact bl.out); (case side5 => have X_ := (Kd.C_below bm.out HB.out); exact TC); (case side6 => exact bo.out); rintro e w35 ⟨v727, v730, v736, rfl, ho0, ho1, ho2, hb⟩; refine ⟨_, rfl, ?_⟩; have HO728 := aM (Kd.R_lower ho0 (below_size TB)); have HO731 := aM (Kd.R_lower ho1 (below_size TB)); have HO737 := aM (Kd.S_lower ho2 (below_size TB)); replace ab := aM (blk_below (by have X_ := ab.out; exact TX) hb); replace ak := aM (blk_below (by have X_ := ak.out; exact TX) hb); replace HB := aM (below_step TB hb); clear ho0 ho1 ho2 hb) | ((with_reducible refine gate_dst (N := 8) rfl ?_); (try (refine gate_guard (by rfl) ?_; dsimp only)); refine gBx 8 #[.slice none 0 0, .slice none 0 0, .int .i64 0, .int .i64 0, .int .i64 0, .slice none 0 0] 33 ?_; intro gb738 hg w36 hbox hb; have ad := aM (hbox); have GW738 := aM ((by rw [hg]; exact (below_size TB) : w.heap.size ≤ gb738)); have GE738 := aM ((by rw [hg]; exact (below_size TB) : w.heap.size ≤ gb738)); have NB710_738 := aM ((by rw [hg]; exact Nat.ne_of_lt (blk_lt (by have X_ := ab.out; exact TX)) : ap ≠ gb738)); have NB738_710 := aM ((by rw [hg]; exact Nat.ne_of_gt (blk_lt (by have X_ := ab.out; exact TX)) : gb738 ≠ ap)); have NB711_738 := aM ((by rw [hg]; exact Nat.ne_of_lt (blk_lt (by have X_ := ak.out; exact TX)) : gb711 ≠ gb738)); have NB738_711 := aM ((by rw [hg]; exact Nat.ne_of_gt (blk_lt (by have X_ := ak.out; exact TX)) : gb738 ≠ gb711)); replace HO728 := aM (Kd.R_below (by have X_ := HO728.out; exact TR) hb); replace HO731 := aM (Kd.R_below (by have X_ := HO731.out; exact TR) hb); replace HO737 := aM (Kd.S_below (by have X_ := HO737.out; exact TS) hb); replace ab := aM (blk_below (by have X_ := ab.out; exact TX) hb); replace ak := aM (blk_below (by have X_ := ak.out; exact TX) hb); replace HB := aM (below_step TB hb); clear hb hbox hg; obtain ⟨Ao37, co37, eo37⟩ := Kd.R_slice HO728.out; subst eo37; have hnb38 := NB738_710.out; have hnc38 := NB710_738.out; have hnb39 := NB738_711.out; have hnc39 := NB711_738.out; obtain ⟨dZ, dW, ed, dH, d6, ec⟩ := cz6 ad.out; obtain ⟨d1, ej, d3, dL, dO, d7⟩ := fz6 ad.out; obtain ⟨Ao41, co41, eo41⟩ := Kd.R_slice HO731.out; subst eo41; obtain ⟨Ao42, co42, eo42⟩ := Kd.S_slice HO737.out; subst eo42) | ((with_reducible refine gate_callee (f := 77) rfl ?_); refine gL (some 37) Try.func77 #[.int .i64 a2, .int .i64 (l1.length : Int)] ?_; (with_reducible refine (impl_Blocks.calls a2 (l1.length : Int) ch _ A32.out).mono ?_); rintro e w' ⟨rfl, ⟨nd, rfl⟩⟩; refine ⟨_, rfl, ?_⟩))
    go_loopg [38] kj3 (fun kq v38 w' => ∃ (aN : Int) (aK : Int) (aG : Int) (aA : Int) (aj : List Int) (ai : List Int) (ar : Int) (aq : Int) (au : Int) (am : List (S110)) (bF : Value) (bD : Value) (bW : Value), v38 = .int .i64 aN ∧ Aside0 (impl_StageAll.l0 kq l1 a2 ch aN aB aC aF aE aD ay aj ai ar aq au am = some (r1, r2, r3, r4, r5, r6, r7)) ∧ Aside0 (kq ≤ kj3) ∧ Aside0 (Kd.R (Kd.int .u8) 5 w' w.heap.size (fun k_ => some k_ ≠ (bD : Value).ownBlock) bF aj) ∧ Aside0 (Kd.R (Kd.int .u8) 5 w' w.heap.size (fun k_ => some k_ ≠ (bF : Value).ownBlock) bD ai) ∧ Aside0 (Kd.S k110 110 w' w.heap.size (fun k_ => some k_ ≠ (bF : Value).ownBlock ∧ some k_ ≠ (bD : Value).ownBlock) bW am) ∧ Aside0 (w'.heap[ap]? = some (.cells #[(.slice aT aB.length aY), (.slice aU aC.length aW), .int .i64 aF, .int .i64 aE, .int .i64 aD, (.slice aX ay.length aZ)] 33 (0, 0))) ∧ Aside0 (w'.heap[gb711]? = some (.cells #[(.slice none 0 0), (.slice none 0 0), .int .i64 aK, .int .i64 aG, .int .i64 aA, (.slice none 0 0)] 33 (0, 0))) ∧ Aside0 (w'.heap[gb738]? = some (.cells #[bF, bD, .int .i64 ar, .int .i64 aq, .int .i64 au, bW] 33 (0, 0))) ∧ Aside0 (Below w.heap.size w w'))
    case atStart => exact ⟨(0), (0), (0), (0), (bu), (bC), (bJ), (bN), (bU), (bR), (.slice Ao37 bu.length co37), (.slice Ao41 bC.length co41), (.slice Ao42 bR.length co42), (by first | rfl | (simp; done) | (simp [*]; done)), H', ⟨Nat.le_refl _⟩, ⟨by (with_reducible repeat (first | apply Kd.R_alloc | apply Kd.R_drewN | apply Kd.R_drew)); exact Kd.R_mono (Kd.R_far (p := ⟨gb738, 5, none⟩) (Kd.R_far (p := ⟨gb738, 4, none⟩) (Kd.R_far (p := ⟨gb738, 3, none⟩) (Kd.R_far (p := ⟨gb738, 2, none⟩) (Kd.R_far (p := ⟨gb738, 1, none⟩) (Kd.R_far (p := ⟨gb738, 0, none⟩) (Kd.R_types HO728.out ad.out (by decide)) (fun _ hk => hk.2) (.slice Ao37 bu.length co37)) (fun _ hk => hk.2) (.slice Ao41 bC.length co41)) (fun _ hk => hk.2) (.int .i64 bJ)) (fun _ hk => hk.2) (.int .i64 bN)) (fun _ hk => hk.2) (.int .i64 bU)) (fun _ hk => hk.2) (.slice Ao42 bR.length co42)) (fun _ hk => hk.1)⟩, ⟨by (with_reducible repeat (first | apply Kd.R_alloc | apply Kd.R_drewN | apply Kd.R_drew)); exact Kd.R_mono (Kd.R_far (p := ⟨gb738, 5, none⟩) (Kd.R_far (p := ⟨gb738, 4, none⟩) (Kd.R_far (p := ⟨gb738, 3, none⟩) (Kd.R_far (p := ⟨gb738, 2, none⟩) (Kd.R_far (p := ⟨gb738, 1, none⟩) (Kd.R_far (p := ⟨gb738, 0, none⟩) (Kd.R_types HO731.out ad.out (by decide)) (fun _ hk => hk.2) (.slice Ao37 bu.length co37)) (fun _ hk => hk.2) (.slice Ao41 bC.length co41)) (fun _ hk => hk.2) (.int .i64 bJ)) (fun _ hk => hk.2) (.int .i64 bN)) (fun _ hk => hk.2) (.int .i64 bU)) (fun _ hk => hk.2) (.slice Ao42 bR.length co42)) (fun _ hk => hk.1)⟩, ⟨by (with_reducible repeat (first | apply Kd.S_alloc | apply Kd.S_drewN | apply Kd.S_drew)); exact Kd.S_mono (Kd.S_far (p := ⟨gb738, 5, none⟩) (Kd.S_far (p := ⟨gb738, 4, none⟩) (Kd.S_far (p := ⟨gb738, 3, none⟩) (Kd.S_far (p := ⟨gb738, 2, none⟩) (Kd.S_far (p := ⟨gb738, 1, none⟩) (Kd.S_far (p := ⟨gb738, 0, none⟩) (Kd.S_types HO737.out ad.out (by decide)) (fun _ hk => hk.2) (.slice Ao37 bu.length co37)) (fun _ hk => hk.2) (.slice Ao41 bC.length co41)) (fun _ hk => hk.2) (.int .i64 bJ)) (fun _ hk => hk.2) (.int .i64 bN)) (fun _ hk => hk.2) (.int .i64 bU)) (fun _ hk => hk.2) (.slice Ao42 bR.length co42)) (fun _ hk => ⟨hk.1.1, hk.1.2⟩)⟩, ⟨by (with_reducible repeat (first | refine blk_drewN ?_ _ | refine blk_drew ?_ | refine blk_alloc ?_ _)); refine blk_far ?_ NB710_738.out _; (with_reducible repeat (first | refine blk_drewN ?_ _ | refine blk_drew ?_ | refine blk_alloc ?_ _)); refine blk_far ?_ NB710_738.out _; (with_reducible repeat (first | refine blk_drewN ?_ _ | refine blk_drew ?_ | refine blk_alloc ?_ _)); refine blk_far ?_ NB710_738.out _; (with_reducible repeat (first | refine blk_drewN ?_ _ | refine blk_drew ?_ | refine blk_alloc ?_ _)); refine blk_far ?_ NB710_738.out _; (with_reducible repeat (first | refine blk_drewN ?_ _ | refine blk_drew ?_ | refine blk_alloc ?_ _)); refine blk_far ?_ NB710_738.out _; (with_reducible repeat (first | refine blk_drewN ?_ _ | refine blk_drew ?_ | refine blk_alloc ?_ _)); refine blk_far ?_ NB710_738.out _; (with_reducible repeat (first | refine blk_drewN ?_ _ | refine blk_drew ?_ | refine blk_alloc ?_ _)); exact ab.out⟩, ⟨by (with_reducible repeat (first | refine blk_drewN ?_ _ | refine blk_drew ?_ | refine blk_alloc ?_ _)); refine blk_far ?_ NB711_738.out _; (with_reducible repeat (first | refine blk_drewN ?_ _ | refine blk_drew ?_ | refine blk_alloc ?_ _)); refine blk_far ?_ NB711_738.out _; (with_reducible repeat (first | refine blk_drewN ?_ _ | refine blk_drew ?_ | refine blk_alloc ?_ _)); refine blk_far ?_ NB711_738.out _; (with_reducible repeat (first | refine blk_drewN ?_ _ | refine blk_drew ?_ | refine blk_alloc ?_ _)); refine blk_far ?_ NB711_738.out _; (with_reducible repeat (first | refine blk_drewN ?_ _ | refine blk_drew ?_ | refine blk_alloc ?_ _)); refine blk_far ?_ NB711_738.out _; (with_reducible repeat (first | refine blk_drewN ?_ _ | refine blk_drew ?_ | refine blk_alloc ?_ _)); refine blk_far ?_ NB711_738.out _; (with_reducible repeat (first | refine blk_drewN ?_ _ | refine blk_drew ?_ | refine blk_alloc ?_ _)); exact ak.out⟩, ⟨by (with_reducible repeat (first | refine blk_drewN ?_ _ | refine blk_drew ?_ | refine blk_alloc ?_ _)); refine blk_put (cs := #[.slice Ao37 bu.length co37, .slice Ao41 bC.length co41, .int .i64 bJ, .int .i64 bN, .int .i64 bU, .slice none 0 0]) ?_ 5 _ rfl; (with_reducible repeat (first | refine blk_drewN ?_ _ | refine blk_drew ?_ | refine blk_alloc ?_ _)); refine blk_put (cs := #[.slice Ao37 bu.length co37, .slice Ao41 bC.length co41, .int .i64 bJ, .int .i64 bN, .int .i64 0, .slice none 0 0]) ?_ 4 _ rfl; (with_reducible repeat (first | refine blk_drewN ?_ _ | refine blk_drew ?_ | refine blk_alloc ?_ _)); refine blk_put (cs := #[.slice Ao37 bu.length co37, .slice Ao41 bC.length co41, .int .i64 bJ, .int .i64 0, .int .i64 0, .slice none 0 0]) ?_ 3 _ rfl; (with_reducible repeat (first | refine blk_drewN ?_ _ | refine blk_drew ?_ | refine blk_alloc ?_ _)); refine blk_put (cs := #[.slice Ao37 bu.length co37, .slice Ao41 bC.length co41, .int .i64 0, .int .i64 0, .int .i64 0, .slice none 0 0]) ?_ 2 _ rfl; (with_reducible repeat (first | refine blk_drewN ?_ _ | refine blk_drew ?_ | refine blk_alloc ?_ _)); refine blk_put (cs := #[.slice Ao37 bu.length co37, .slice none 0 0, .int .i64 0, .int .i64 0, .int .i64 0, .slice none 0 0]) ?_ 1 _ rfl; (with_reducible repeat (first | refine blk_drewN ?_ _ | refine blk_drew ?_ | refine blk_alloc ?_ _)); refine blk_put (cs := #[.slice none 0 0, .slice none 0 0, .int .i64 0, .int .i64 0, .int .i64 0, .slice none 0 0]) ?_ 0 _ rfl; (with_reducible repeat (first | refine blk_drewN ?_ _ | refine blk_drew ?_ | refine blk_alloc ?_ _)); exact ad.out⟩, ⟨TB⟩⟩
    case round =>
     clear H'
     try clear c1
     try clear c2
     try clear p2
     try clear c3
     try clear c6
     try clear c7
     try clear c8
     try clear c9
     try clear bO
     try clear dq
     try clear c10
     try clear c15
     try clear c19
     try clear c22
     try clear c24
     try clear c25
     try clear c33
     try clear c38
     try clear c39
     try clear dp
     try clear cK
     try clear cG
     try clear cm
     try clear cB
     try clear cD
     try clear cH
     try clear cR
     try clear cu
     try clear cn
     try clear ct
     try clear cU
     try clear cj
     try clear db
     try clear cN
     try clear cq
     try clear dm
     try clear cz
     try clear dk
     try clear cO
     try clear cA
     try clear cX
     try clear cx
     try clear cJ
     try clear di
     try clear df
     try clear cT
     try clear c0
     try clear cr
     try clear dd
     try clear d4
     try clear dM
     try clear d8
     try clear dB
     try clear ea
     try clear dy
     try clear dG
     try clear dX
     try clear dE
     try clear dz
     try clear d5
     try clear dT
     try clear dN
     try clear ef
     try clear dV
     try clear d9
     try clear dU
     try clear dY
     try clear dZ
     try clear dW
     try clear ed
     try clear dH
     try clear d6
     try clear ec
     try clear dj
     try clear co
     try clear cV
     try clear cl
     try clear cW
     try clear cL
     try clear dl
     try clear cE
     try clear ck
     try clear cM
     try clear c5
     try clear cQ
     try clear cI
     try clear cZ
     try clear cY
     try clear cC
     try clear dc
     try clear cw
     try clear dn
     try clear dg
     try clear de
     try clear cF
     try clear cS
     try clear dh
     try clear cP
     try clear c4
     try clear da
     try clear cy
     try clear cp
     try clear cv
     try clear eb
     try clear dD
     try clear dP
     try clear dQ
     try clear dC
     try clear dJ
     try clear dI
     try clear ei
     try clear d0
     try clear ee
     try clear dF
     try clear dK
     try clear eg
     try clear dS
     try clear d2
     try clear eh
     try clear dR
     try clear dA
     try clear d1
     try clear ej
     try clear d3
     try clear dL
     try clear dO
     try clear d7
     try clear p2
     obtain ⟨aN, aK, aG, aA, aj, ai, ar, aq, au, am, bF, bD, bW, rfl, HA, HK2, af, ag, ah, ab, ak, ad, HB⟩ := hrel
     cases gk with
     | zero => exact absurd HA.out (by simp [impl_StageAll.l0])
     | succ k2 =>
      have H := HA.out
      clear HA
      simp only [impl_StageAll.l0] at H
      by_cases c43 : aN < ch
      ·rw [if_pos c43] at H
       have c43b0 : decide (aN < ch) = true := decide_eq_true c43
       clear c43
       replace H := bE H
       obtain ⟨⟨az, t741⟩, A44, H⟩ := H
       dsimp only at H
       replace H := bE H
       obtain ⟨bb, A45, H⟩ := H
       replace H := bE H
       obtain ⟨⟨aO, aR, aV, a8, a9, ba, t757⟩, A46, H⟩ := H
       dsimp only at H
       by_cases c47 : t757 = true
       ·subst c47
        replace H := ifT H
        have H' := aM H
        clear H
        try go_wp2_with (first | ((with_reducible refine gate_callee (f := 78) rfl ?_); refine gL (some 45) Try.func78 #[.slice A1 l1.length c1, .int .i64 a2, .int .i64 aN] ?_; (with_reducible refine (impl_BlockAt.calls _ _ l1 a2 aN az t741 _ ?side1 ?side2 A44.out).mono ?_); (case side1 => have X_ := (Kd.C_below HR1.out HB.out); exact TC); (case side2 => exact HC1.out); rintro e w48 ⟨v742, rfl, ho0, hb⟩; refine ⟨_, rfl, ?_⟩; have al := aM (Kd.R_lower (Kd.R_new' (Kd.R_new' ho0 (Kd.R_lt (by have X_ := af.out; exact TR))) (Kd.R_lt (by have X_ := ag.out; exact TR))) (below_size TB)); replace af := aM (Kd.R_elder' (by have X_ := af.out; exact TR) (Kd.R_base ho0) hb); replace ag := aM (Kd.R_elder' (by have X_ := ag.out; exact TR) (Kd.R_base ho0) hb); replace ah := aM (Kd.S_elder' (by have X_ := ah.out; exact TS) (Kd.R_base ho0) hb); replace ab := aM (blk_below (by have X_ := ab.out; exact TX) hb); replace ak := aM (blk_below (by have X_ := ak.out; exact TX) hb); replace ad := aM (blk_below (by have X_ := ad.out; exact TX) hb); replace HB := aM (below_step TB hb); clear ho0 hb; obtain ⟨Ao49, co49, eo49⟩ := Kd.R_slice af.out; subst eo49; obtain ⟨Ao50, co50, eo50⟩ := Kd.R_slice ag.out; subst eo50; obtain ⟨Ao51, co51, eo51⟩ := Kd.S_slice ah.out; subst eo51; obtain ⟨Ao52, co52, eo52⟩ := Kd.R_slice al.out; subst eo52))
        replace af := aM (Kd.R_drew af.out)
        replace ag := aM (Kd.R_drew ag.out)
        replace ah := aM (Kd.S_drew ah.out)
        replace al := aM (Kd.R_drew al.out)
        replace ab := aM (blk_drew ab.out)
        replace ak := aM (blk_drew ak.out)
        replace ad := aM (blk_drew ad.out)
        replace HB := aM (below_drew1 HB.out)
        refine start_ (n := 14) (S := fun w' => w'.cell? ⟨gb738, 0, none⟩ = some (.slice Ao49 aj.length co49) ∧ w'.cell? ⟨gb738, 1, none⟩ = some (.slice Ao50 ai.length co50) ∧ w'.cell? ⟨gb738, 2, none⟩ = some (.int .i64 ar) ∧ w'.cell? ⟨gb738, 3, none⟩ = some (.int .i64 aq) ∧ w'.cell? ⟨gb738, 4, none⟩ = some (.int .i64 au) ∧ w'.cell? ⟨gb738, 5, none⟩ = some (.slice Ao51 am.length co51) ∧ w'.cell? ⟨ap, 0, none⟩ = some (.slice aT aB.length aY) ∧ w'.cell? ⟨ap, 1, none⟩ = some (.slice aU aC.length aW) ∧ w'.cell? ⟨ap, 2, none⟩ = some (.int .i64 aF) ∧ w'.cell? ⟨ap, 3, none⟩ = some (.int .i64 aE) ∧ w'.cell? ⟨ap, 4, none⟩ = some (.int .i64 aD) ∧ w'.cell? ⟨ap, 5, none⟩ = some (.slice aX ay.length aZ)) (ds := []) #[false, false, false, false, false, false, false, false, false, false, false, false, false, false] (by kernel_rfl) rfl rfl ⟨(blk_cell ad.out 0).trans rfl, (blk_cell ad.out 1).trans rfl, (blk_cell ad.out 2).trans rfl, (blk_cell ad.out 3).trans rfl, (blk_cell ad.out 4).trans rfl, (blk_cell ad.out 5).trans rfl, (blk_cell ab.out 0).trans rfl, (blk_cell ab.out 1).trans rfl, (blk_cell ab.out 2).trans rfl, (blk_cell ab.out 3).trans rfl, (blk_cell ab.out 4).trans rfl, (blk_cell ab.out 5).trans rfl⟩ (fun hHeld => ?_); refine with_tabW impl_StageAll.tab8 impl_StageAll.bits8 (fun HT_ HW_ => ?_)
        generalize w48.drew = w53 at af ag ah al ab ak ad HB hHeld ⊢
        refine pPe 3 (some 52) #[false, false, false, true, false, false, false, false, false, false, false, false, false, false] ?_
        refine pPe 4 (some 53) #[false, false, false, true, true, false, false, false, false, false, false, false, false, false] ?_
        refine pPe 5 (some 54) #[false, false, false, true, true, true, false, false, false, false, false, false, false, false] ?_
        refine pPe 6 (some 55) #[false, false, false, true, true, true, true, false, false, false, false, false, false, false] ?_
        refine pTe 0 (some 49) #[true, false, false, true, true, true, true, false, false, false, false, false, false, false] ?_
        refine pTe 1 (some 50) #[true, true, false, true, true, true, true, false, false, false, false, false, false, false] ?_
        refine join_ (σ := Value × Value × Value × Nat) 2 #[true, true, true, true, true, true, true, true, true, true, true, true, false, false] (fun s_ => [(51, .int .i64 bb), (56, .tuple #[.agg #[s_.1, s_.2.1, .int .i64 aV, .int .i64 a8, .int .i64 a9, s_.2.2.1], .bool true]), (12, .pointer (some ⟨s_.2.2.2, 0, none⟩)), (48, .tuple #[.agg #[s_.1, s_.2.1, .int .i64 aV, .int .i64 a8, .int .i64 a9, s_.2.2.1], .bool true]), (57, .agg #[s_.1, s_.2.1, .int .i64 aV, .int .i64 a8, .int .i64 a9, s_.2.2.1]), (58, .bool true)]) (fun s_ w' => (w'.cell? ⟨gb738, 0, none⟩ = some (.slice Ao49 aj.length co49) ∧ w'.cell? ⟨gb738, 1, none⟩ = some (.slice Ao50 ai.length co50) ∧ w'.cell? ⟨gb738, 2, none⟩ = some (.int .i64 ar) ∧ w'.cell? ⟨gb738, 3, none⟩ = some (.int .i64 aq) ∧ w'.cell? ⟨gb738, 4, none⟩ = some (.int .i64 au) ∧ w'.cell? ⟨gb738, 5, none⟩ = some (.slice Ao51 am.length co51) ∧ w'.cell? ⟨ap, 0, none⟩ = some (.slice aT aB.length aY) ∧ w'.cell? ⟨ap, 1, none⟩ = some (.slice aU aC.length aW) ∧ w'.cell? ⟨ap, 2, none⟩ = some (.int .i64 aF) ∧ w'.cell? ⟨ap, 3, none⟩ = some (.int .i64 aE) ∧ w'.cell? ⟨ap, 4, none⟩ = some (.int .i64 aD) ∧ w'.cell? ⟨ap, 5, none⟩ = some (.slice aX ay.length aZ)) ∧ (Kd.R (Kd.int .u8) 5 w' w.heap.size (fun k_ => some k_ ≠ (s_.1 : Value).ownBlock ∧ some k_ ≠ (s_.2.1 : Value).ownBlock ∧ some k_ ≠ (.slice Ao49 aj.length co49 : Value).ownBlock ∧ some k_ ≠ (.slice Ao50 ai.length co50 : Value).ownBlock) (.slice Ao52 az.length co52) az) ∧ (Kd.R (Kd.int .u8) 5 w' w.heap.size (fun k_ => some k_ ≠ (.slice Ao52 az.length co52 : Value).ownBlock ∧ some k_ ≠ (s_.2.1 : Value).ownBlock ∧ some k_ ≠ (.slice Ao49 aj.length co49 : Value).ownBlock ∧ some k_ ≠ (.slice Ao50 ai.length co50 : Value).ownBlock) s_.1 aO) ∧ (Kd.R (Kd.int .u8) 5 w' w.heap.size (fun k_ => some k_ ≠ (.slice Ao52 az.length co52 : Value).ownBlock ∧ some k_ ≠ (s_.1 : Value).ownBlock ∧ some k_ ≠ (.slice Ao49 aj.length co49 : Value).ownBlock ∧ some k_ ≠ (.slice Ao50 ai.length co50 : Value).ownBlock) s_.2.1 aR) ∧ (Kd.S k110 110 w' w.heap.size (fun k_ => some k_ ≠ (.slice Ao52 az.length co52 : Value).ownBlock ∧ some k_ ≠ (s_.1 : Value).ownBlock ∧ some k_ ≠ (s_.2.1 : Value).ownBlock ∧ some k_ ≠ (.slice Ao49 aj.length co49 : Value).ownBlock ∧ some k_ ≠ (.slice Ao50 ai.length co50 : Value).ownBlock ∧ some k_ ≠ (.slice Ao51 am.length co51 : Value).ownBlock) s_.2.2.1 ba) ∧ (Kd.R (Kd.int .u8) 5 w' w.heap.size (fun k_ => some k_ ≠ (.slice Ao52 az.length co52 : Value).ownBlock ∧ some k_ ≠ (s_.1 : Value).ownBlock ∧ some k_ ≠ (s_.2.1 : Value).ownBlock ∧ some k_ ≠ (.slice Ao50 ai.length co50 : Value).ownBlock) (.slice Ao49 aj.length co49) aj) ∧ (Kd.R (Kd.int .u8) 5 w' w.heap.size (fun k_ => some k_ ≠ (.slice Ao52 az.length co52 : Value).ownBlock ∧ some k_ ≠ (s_.1 : Value).ownBlock ∧ some k_ ≠ (s_.2.1 : Value).ownBlock ∧ some k_ ≠ (.slice Ao49 aj.length co49 : Value).ownBlock) (.slice Ao50 ai.length co50) ai) ∧ (Kd.S k110 110 w' w.heap.size (fun k_ => some k_ ≠ (.slice Ao52 az.length co52 : Value).ownBlock ∧ some k_ ≠ (s_.1 : Value).ownBlock ∧ some k_ ≠ (s_.2.1 : Value).ownBlock ∧ some k_ ≠ (s_.2.2.1 : Value).ownBlock ∧ some k_ ≠ (.slice Ao49 aj.length co49 : Value).ownBlock ∧ some k_ ≠ (.slice Ao50 ai.length co50 : Value).ownBlock) (.slice Ao51 am.length co51) am) ∧ (w'.heap[ap]? = some (.cells #[.slice aT aB.length aY, .slice aU aC.length aW, .int .i64 aF, .int .i64 aE, .int .i64 aD, .slice aX ay.length aZ] 33 (0, 0))) ∧ (w'.heap[gb711]? = some (.cells #[.slice none 0 0, .slice none 0 0, .int .i64 aK, .int .i64 aG, .int .i64 aA, .slice none 0 0] 33 (0, 0))) ∧ (w'.heap[gb738]? = some (.cells #[.slice Ao49 aj.length co49, .slice Ao50 ai.length co50, .int .i64 ar, .int .i64 aq, .int .i64 au, .slice Ao51 am.length co51] 33 (0, 0))) ∧ (w'.heap[s_.2.2.2]? = some (.cells #[.slice none 0 0, .slice none 0 0, .int .i64 0, .int .i64 0, .int .i64 0, .slice none 0 0] 33 (0, 0))) ∧ (w.heap.size ≤ s_.2.2.2) ∧ (w.heap.size ≤ s_.2.2.2) ∧ (ap ≠ s_.2.2.2) ∧ (s_.2.2.2 ≠ ap) ∧ (gb711 ≠ s_.2.2.2) ∧ (s_.2.2.2 ≠ gb711) ∧ (gb738 ≠ s_.2.2.2) ∧ (s_.2.2.2 ≠ gb738) ∧ (Below w.heap.size w w')) ?_ ?_
        rotate_left
        ·intro hCont
         refine two_ (i := 2) (j := 11) (Ni := some 51) (Nj := some 12) #[true, true, true, true, true, true, true, false, false, false, false, false, false, false] #[true, true, false, true, true, true, true, false, false, false, false, true, false, false] rfl rfl rfl rfl (two_of HT_.out (by kernel_rfl)) (by decide) (by decide) (fun K hK => ?_) (fun K hK => ?_)
         ·skip
          refine gG Try.func23 #[.agg #[.slice aT aB.length aY, .slice aU aC.length aW, .int .i64 aF, .int .i64 aE, .int .i64 aD, .slice aX ay.length aZ]] ?_
          with_reducible refine (impl_Spare.calls _ _ aB _ _ aC aF aE aD _ _ ay bb _ ?side1 ?side2 ?side3 ?side4 ?side5 ?side6 A45.out).mono ?_
          (case side1 => have X_ := (Kd.C_below bk.out HB.out); exact TC)
          (case side2 => exact bn.out)
          (case side3 => have X_ := (Kd.C_below bp.out HB.out); exact TC)
          (case side4 => exact bl.out)
          (case side5 => have X_ := (Kd.C_below bm.out HB.out); exact TC)
          (case side6 => exact bo.out)
          rintro e w54 ⟨rfl, hb⟩
          refine ⟨_, rfl, ?_⟩
          have n0_ := aM (Kd.R_below (by have X_ := af.out; exact TR) hb)
          have n1_ := aM (Kd.R_below (by have X_ := ag.out; exact TR) hb)
          have n2_ := aM (Kd.S_below (by have X_ := ah.out; exact TS) hb)
          have n3_ := aM (Kd.R_below (by have X_ := al.out; exact TR) hb)
          have n4_ := aM (blk_below (by have X_ := ab.out; exact TX) hb)
          have n5_ := aM (blk_below (by have X_ := ak.out; exact TX) hb)
          have n6_ := aM (blk_below (by have X_ := ad.out; exact TX) hb)
          have n7_ := aM (below_step TB hb)
          clear af
          clear ag
          clear ah
          clear al
          clear ab
          clear ak
          clear ad
          clear HB
          have af := n0_
          have ag := n1_
          have ah := n2_
          have al := n3_
          have ab := n4_
          have ak := n5_
          have ad := n6_
          have HB := n7_
          clear n0_ n1_ n2_ n3_ n4_ n5_ n6_ n7_
          (try clear hb)
          (try clear hb2)
          (try clear hk)
          (try clear hi)
          refine hK.out _ _ ⟨(blk_cell ad.out 0).trans rfl, (blk_cell ad.out 1).trans rfl, (blk_cell ad.out 2).trans rfl, (blk_cell ad.out 3).trans rfl, (blk_cell ad.out 4).trans rfl, (blk_cell ad.out 5).trans rfl, (blk_cell ab.out 0).trans rfl, (blk_cell ab.out 1).trans rfl, (blk_cell ab.out 2).trans rfl, (blk_cell ab.out 3).trans rfl, (blk_cell ab.out 4).trans rfl, (blk_cell ab.out 5).trans rfl⟩ (fun hHeld => ?_)
          clear hK K
          refine nR ?_
          refine two_ (i := 7) (j := 11) (Ni := some 56) (Nj := some 12) #[true, true, true, true, true, true, true, true, false, false, false, false, false, false] #[true, true, true, true, true, true, true, false, false, false, false, true, false, false] rfl rfl rfl rfl (two_of HT_.out (by kernel_rfl)) (by decide) (by decide) (fun K hK => ?_) (fun K hK => ?_)
          ·skip
           refine gG Try.func79 #[.agg #[.slice Ao49 aj.length co49, .slice Ao50 ai.length co50, .int .i64 ar, .int .i64 aq, .int .i64 au, .slice Ao51 am.length co51], .int .i64 bb, .int .i64 (wrap64 (aN * a2)), .slice Ao52 az.length co52] ?_
           with_reducible refine (impl_PutBytes.calls k2 _ _ aj _ _ ai ar aq au _ _ am bb (wrap64 (aN * a2)) _ _ az aO aR aV a8 a9 ba true _ ?side1 ?side2 ?side3 ?side4 ?side5 ?side6 ?side7 ?side8 A46.out).mono ?_
           (case side1 => have X_ := (Kd.R_reads' af.out).2.2; exact TC)
           (case side2 => exact (Kd.R_reads' af.out).2.1)
           (case side3 => have X_ := (Kd.R_reads' ag.out).2.2; exact TC)
           (case side4 => exact (Kd.R_reads' ag.out).2.1)
           (case side5 => have X_ := (Kd.S_reads' ah.out).2.2; exact TC)
           (case side6 => exact (Kd.S_reads' ah.out).2.1)
           (case side7 => have X_ := (Kd.R_reads' al.out).2.2; exact TC)
           (case side8 => exact (Kd.R_reads' al.out).2.1)
           rintro e w55 ⟨aQ, aS, bf, rfl, ho0, ho1, ho2, hb⟩
           refine ⟨_, rfl, ?_⟩
           have n0_ := aM (Kd.R_mono (Kd.R_told (Kd.R_told (Kd.R_old (by have X_ := af.out; exact TR) hb) (Kd.R_base ho0)) (Kd.R_base ho1)) (fun _ h_ => h_.1))
           have n1_ := aM (Kd.R_mono (Kd.R_told (Kd.R_told (Kd.R_old (by have X_ := ag.out; exact TR) hb) (Kd.R_base ho0)) (Kd.R_base ho1)) (fun _ h_ => h_.1))
           have n2_ := aM (Kd.S_mono (Kd.S_told (Kd.S_told (Kd.S_told (Kd.S_old (by have X_ := ah.out; exact TS) hb) (Kd.R_base ho0)) (Kd.R_base ho1)) (Kd.S_base ho2)) (fun _ h_ => h_.1))
           have n3_ := aM (Kd.R_mono (Kd.R_told (Kd.R_told (Kd.R_old (by have X_ := al.out; exact TR) hb) (Kd.R_base ho0)) (Kd.R_base ho1)) (fun _ h_ => h_.1))
           have n4_ := aM (Kd.R_lower (Kd.R_new' (Kd.R_new' (Kd.R_new' ho0 (Kd.R_lt (by have X_ := af.out; exact TR))) (Kd.R_lt (by have X_ := ag.out; exact TR))) (Kd.R_lt (by have X_ := al.out; exact TR))) (below_size TB))
           have n5_ := aM (Kd.R_lower (Kd.R_new' (Kd.R_new' (Kd.R_new' ho1 (Kd.R_lt (by have X_ := af.out; exact TR))) (Kd.R_lt (by have X_ := ag.out; exact TR))) (Kd.R_lt (by have X_ := al.out; exact TR))) (below_size TB))
           have n6_ := aM (Kd.S_lower (Kd.S_new' (Kd.S_new' (Kd.S_new' (Kd.S_new' ho2 (Kd.R_lt (by have X_ := af.out; exact TR))) (Kd.R_lt (by have X_ := ag.out; exact TR))) (Kd.S_lt (by have X_ := ah.out; exact TS))) (Kd.R_lt (by have X_ := al.out; exact TR))) (below_size TB))
           have n7_ := aM (blk_below (by have X_ := ab.out; exact TX) hb)
           have n8_ := aM (blk_below (by have X_ := ak.out; exact TX) hb)
           have n9_ := aM (blk_below (by have X_ := ad.out; exact TX) hb)
           have aH := aM (below_step TB hb)
           clear af
           clear ag
           clear ah
           clear al
           clear ab
           clear ak
           clear ad
           clear HB
           have af := n0_
           have ag := n1_
           have ah := n2_
           have al := n3_
           have aJ := n4_
           have aI := n5_
           have aL := n6_
           have ab := n7_
           have ak := n8_
           have ad := n9_
           have HB := aH
           clear n0_ n1_ n2_ n3_ n4_ n5_ n6_ n7_ n8_ n9_ aH
           (try clear hb)
           (try clear hb2)
           (try clear hk)
           (try clear hi)
           (try clear ho0)
           (try clear ho1)
           (try clear ho2)
           refine hK.out _ _ ⟨(blk_cell ad.out 0).trans rfl, (blk_cell ad.out 1).trans rfl, (blk_cell ad.out 2).trans rfl, (blk_cell ad.out 3).trans rfl, (blk_cell ad.out 4).trans rfl, (blk_cell ad.out 5).trans rfl, (blk_cell ab.out 0).trans rfl, (blk_cell ab.out 1).trans rfl, (blk_cell ab.out 2).trans rfl, (blk_cell ab.out 3).trans rfl, (blk_cell ab.out 4).trans rfl, (blk_cell ab.out 5).trans rfl⟩ (fun hHeld => ?_)
           clear hK K
           refine nR ?_
           refine pPe 8 (some 48) #[true, true, true, true, true, true, true, true, true, false, false, false, false, false] ?_
           refine pPe 9 (some 57) #[true, true, true, true, true, true, true, true, true, true, false, false, false, false] ?_
           refine pPe 10 (some 58) #[true, true, true, true, true, true, true, true, true, true, true, false, false, false] ?_
           refine pOe 11 (some 12) #[true, true, true, true, true, true, true, true, true, true, true, true, false, false] (fun K hK => ?_)
           refine box_step ?hg (N := 12) ?hd (cs := #[.slice none 0 0, .slice none 0 0, .int .i64 0, .int .i64 0, .int .i64 0, .slice none 0 0]) (t := 33) ?hr ?_; (case hd => rfl); (case hg => rfl); (case hr => first | (go_simp; done) | (go_simp; rfl))
           intro aa hg w56 hbox hb
           have n0_ := aM (Kd.R_below (by have X_ := af.out; exact TR) hb)
           have n1_ := aM (Kd.R_below (by have X_ := ag.out; exact TR) hb)
           have n2_ := aM (Kd.S_below (by have X_ := ah.out; exact TS) hb)
           have n3_ := aM (Kd.R_below (by have X_ := al.out; exact TR) hb)
           have n4_ := aM (Kd.R_below (by have X_ := aJ.out; exact TR) hb)
           have n5_ := aM (Kd.R_below (by have X_ := aI.out; exact TR) hb)
           have n6_ := aM (Kd.S_below (by have X_ := aL.out; exact TS) hb)
           have n7_ := aM (blk_below (by have X_ := ab.out; exact TX) hb)
           have n8_ := aM (blk_below (by have X_ := ak.out; exact TX) hb)
           have n9_ := aM (blk_below (by have X_ := ad.out; exact TX) hb)
           have aH := aM (below_step TB hb)
           have aP := aM (hbox)
           have bd := aM ((by rw [hg]; exact (below_size TB) : w.heap.size ≤ aa))
           have bc := aM ((by rw [hg]; exact (below_size TB) : w.heap.size ≤ aa))
           have bh := aM ((by rw [hg]; exact Nat.ne_of_lt (blk_lt (by have X_ := ab.out; exact TX)) : ap ≠ aa))
           have bg := aM ((by rw [hg]; exact Nat.ne_of_gt (blk_lt (by have X_ := ab.out; exact TX)) : aa ≠ ap))
           have be := aM ((by rw [hg]; exact Nat.ne_of_lt (blk_lt (by have X_ := ak.out; exact TX)) : gb711 ≠ aa))
           have cf := aM ((by rw [hg]; exact Nat.ne_of_gt (blk_lt (by have X_ := ak.out; exact TX)) : aa ≠ gb711))
           have ci := aM ((by rw [hg]; exact Nat.ne_of_lt (blk_lt (by have X_ := ad.out; exact TX)) : gb738 ≠ aa))
           have cc := aM ((by rw [hg]; exact Nat.ne_of_gt (blk_lt (by have X_ := ad.out; exact TX)) : aa ≠ gb738))
           clear af
           clear ag
           clear ah
           clear al
           clear aJ
           clear aI
           clear aL
           clear ab
           clear ak
           clear ad
           clear HB
           have af := n0_
           have ag := n1_
           have ah := n2_
           have al := n3_
           have aJ := n4_
           have aI := n5_
           have aL := n6_
           have ab := n7_
           have ak := n8_
           have ad := n9_
           have HB := aH
           have an := aP
           have bj := bd
           have bi := bc
           have ac := bh
           have av := bg
           have ao := be
           have aw := cf
           have ae := ci
           have ax := cc
           clear n0_ n1_ n2_ n3_ n4_ n5_ n6_ n7_ n8_ n9_ aH aP bd bc bh bg be cf ci cc
           clear hb hbox hg
           refine hK.out _ _ ⟨(blk_cell ad.out 0).trans rfl, (blk_cell ad.out 1).trans rfl, (blk_cell ad.out 2).trans rfl, (blk_cell ad.out 3).trans rfl, (blk_cell ad.out 4).trans rfl, (blk_cell ad.out 5).trans rfl, (blk_cell ab.out 0).trans rfl, (blk_cell ab.out 1).trans rfl, (blk_cell ab.out 2).trans rfl, (blk_cell ab.out 3).trans rfl, (blk_cell ab.out 4).trans rfl, (blk_cell ab.out 5).trans rfl⟩ (fun hHeld => ?_)
           clear hK K
           refine nR ?_
           exact norm_ (by simp only [putAll, Act.put, List.setIfInBounds_toArray, List.set_cons_zero, List.set_cons_succ]) (hCont (aQ, aS, bf, aa) _ ⟨hHeld, (by (with_reducible repeat (first | apply Kd.R_alloc | apply Kd.R_drewN | apply Kd.R_drew)); exact Kd.R_mono al.out (fun _ hk => ⟨hk.1.2, ⟨hk.2, ⟨hk.1.1.1.2, hk.1.1.2⟩⟩⟩)), (by (with_reducible repeat (first | apply Kd.R_alloc | apply Kd.R_drewN | apply Kd.R_drew)); exact Kd.R_mono aJ.out (fun _ hk => ⟨hk.2, ⟨hk.1.1.1, ⟨hk.1.1.2, hk.1.2⟩⟩⟩)), (by (with_reducible repeat (first | apply Kd.R_alloc | apply Kd.R_drewN | apply Kd.R_drew)); exact Kd.R_mono aI.out (fun _ hk => ⟨hk.2, ⟨hk.1.1.1, ⟨hk.1.1.2, hk.1.2⟩⟩⟩)), (by (with_reducible repeat (first | apply Kd.S_alloc | apply Kd.S_drewN | apply Kd.S_drew)); exact Kd.S_mono aL.out (fun _ hk => ⟨hk.2, ⟨hk.1.1.1.1.1, ⟨hk.1.1.1.1.2, ⟨hk.1.1.1.2, ⟨hk.1.1.2, hk.1.2⟩⟩⟩⟩⟩)), (by (with_reducible repeat (first | apply Kd.R_alloc | apply Kd.R_drewN | apply Kd.R_drew)); exact Kd.R_mono af.out (fun _ hk => ⟨hk.1.1.2, ⟨hk.1.2, ⟨hk.2, hk.1.1.1⟩⟩⟩)), (by (with_reducible repeat (first | apply Kd.R_alloc | apply Kd.R_drewN | apply Kd.R_drew)); exact Kd.R_mono ag.out (fun _ hk => ⟨hk.1.1.2, ⟨hk.1.2, ⟨hk.2, hk.1.1.1⟩⟩⟩)), (by (with_reducible repeat (first | apply Kd.S_alloc | apply Kd.S_drewN | apply Kd.S_drew)); exact Kd.S_mono ah.out (fun _ hk => ⟨hk.1.1.1.2, ⟨hk.1.1.2, ⟨hk.1.2, ⟨hk.2, ⟨hk.1.1.1.1.1, hk.1.1.1.1.2⟩⟩⟩⟩⟩)), TK, TK, TK, TK, bj.out, bi.out, ac.out, av.out, ao.out, aw.out, ae.out, ax.out, TB⟩)
          ·skip
           refine box_step ?hg (N := 12) ?hd (cs := #[.slice none 0 0, .slice none 0 0, .int .i64 0, .int .i64 0, .int .i64 0, .slice none 0 0]) (t := 33) ?hr ?_; (case hd => rfl); (case hg => rfl); (case hr => first | (go_simp; done) | (go_simp; rfl))
           intro aa hg w55 hbox hb
           have n0_ := aM (Kd.R_below (by have X_ := af.out; exact TR) hb)
           have n1_ := aM (Kd.R_below (by have X_ := ag.out; exact TR) hb)
           have n2_ := aM (Kd.S_below (by have X_ := ah.out; exact TS) hb)
           have n3_ := aM (Kd.R_below (by have X_ := al.out; exact TR) hb)
           have n4_ := aM (blk_below (by have X_ := ab.out; exact TX) hb)
           have n5_ := aM (blk_below (by have X_ := ak.out; exact TX) hb)
           have n6_ := aM (blk_below (by have X_ := ad.out; exact TX) hb)
           have n7_ := aM (below_step TB hb)
           have n8_ := aM (hbox)
           have n9_ := aM ((by rw [hg]; exact (below_size TB) : w.heap.size ≤ aa))
           have aH := aM ((by rw [hg]; exact (below_size TB) : w.heap.size ≤ aa))
           have aP := aM ((by rw [hg]; exact Nat.ne_of_lt (blk_lt (by have X_ := ab.out; exact TX)) : ap ≠ aa))
           have bd := aM ((by rw [hg]; exact Nat.ne_of_gt (blk_lt (by have X_ := ab.out; exact TX)) : aa ≠ ap))
           have bc := aM ((by rw [hg]; exact Nat.ne_of_lt (blk_lt (by have X_ := ak.out; exact TX)) : gb711 ≠ aa))
           have bh := aM ((by rw [hg]; exact Nat.ne_of_gt (blk_lt (by have X_ := ak.out; exact TX)) : aa ≠ gb711))
           have bg := aM ((by rw [hg]; exact Nat.ne_of_lt (blk_lt (by have X_ := ad.out; exact TX)) : gb738 ≠ aa))
           have be := aM ((by rw [hg]; exact Nat.ne_of_gt (blk_lt (by have X_ := ad.out; exact TX)) : aa ≠ gb738))
           clear af
           clear ag
           clear ah
           clear al
           clear ab
           clear ak
           clear ad
           clear HB
           have af := n0_
           have ag := n1_
           have ah := n2_
           have al := n3_
           have ab := n4_
           have ak := n5_
           have ad := n6_
           have HB := n7_
           have an := n8_
           have bj := n9_
           have bi := aH
           have ac := aP
           have av := bd
           have ao := bc
           have aw := bh
           have ae := bg
           have ax := be
           clear n0_ n1_ n2_ n3_ n4_ n5_ n6_ n7_ n8_ n9_ aH aP bd bc bh bg be
           clear hb hbox hg
           refine hK.out _ _ ⟨(blk_cell ad.out 0).trans rfl, (blk_cell ad.out 1).trans rfl, (blk_cell ad.out 2).trans rfl, (blk_cell ad.out 3).trans rfl, (blk_cell ad.out 4).trans rfl, (blk_cell ad.out 5).trans rfl, (blk_cell ab.out 0).trans rfl, (blk_cell ab.out 1).trans rfl, (blk_cell ab.out 2).trans rfl, (blk_cell ab.out 3).trans rfl, (blk_cell ab.out 4).trans rfl, (blk_cell ab.out 5).trans rfl⟩ (fun hHeld => ?_)
           clear hK K
           refine nR ?_
           refine pOe 7 (some 56) #[true, true, true, true, true, true, true, true, false, false, false, true, false, false] (fun K hK => ?_)
           refine gG Try.func79 #[.agg #[.slice Ao49 aj.length co49, .slice Ao50 ai.length co50, .int .i64 ar, .int .i64 aq, .int .i64 au, .slice Ao51 am.length co51], .int .i64 bb, .int .i64 (wrap64 (aN * a2)), .slice Ao52 az.length co52] ?_
           with_reducible refine (impl_PutBytes.calls k2 _ _ aj _ _ ai ar aq au _ _ am bb (wrap64 (aN * a2)) _ _ az aO aR aV a8 a9 ba true _ ?side1 ?side2 ?side3 ?side4 ?side5 ?side6 ?side7 ?side8 A46.out).mono ?_
           (case side1 => have X_ := (Kd.R_reads' af.out).2.2; exact TC)
           (case side2 => exact (Kd.R_reads' af.out).2.1)
           (case side3 => have X_ := (Kd.R_reads' ag.out).2.2; exact TC)
           (case side4 => exact (Kd.R_reads' ag.out).2.1)
           (case side5 => have X_ := (Kd.S_reads' ah.out).2.2; exact TC)
           (case side6 => exact (Kd.S_reads' ah.out).2.1)
           (case side7 => have X_ := (Kd.R_reads' al.out).2.2; exact TC)
           (case side8 => exact (Kd.R_reads' al.out).2.1)
           rintro e w56 ⟨aQ, aS, bf, rfl, ho0, ho1, ho2, hb⟩
           refine ⟨_, rfl, ?_⟩
           have n0_ := aM (Kd.R_mono (Kd.R_told (Kd.R_told (Kd.R_old (by have X_ := af.out; exact TR) hb) (Kd.R_base ho0)) (Kd.R_base ho1)) (fun _ h_ => h_.1))
           have n1_ := aM (Kd.R_mono (Kd.R_told (Kd.R_told (Kd.R_old (by have X_ := ag.out; exact TR) hb) (Kd.R_base ho0)) (Kd.R_base ho1)) (fun _ h_ => h_.1))
           have n2_ := aM (Kd.S_mono (Kd.S_told (Kd.S_told (Kd.S_told (Kd.S_old (by have X_ := ah.out; exact TS) hb) (Kd.R_base ho0)) (Kd.R_base ho1)) (Kd.S_base ho2)) (fun _ h_ => h_.1))
           have n3_ := aM (Kd.R_mono (Kd.R_told (Kd.R_told (Kd.R_old (by have X_ := al.out; exact TR) hb) (Kd.R_base ho0)) (Kd.R_base ho1)) (fun _ h_ => h_.1))
           have n4_ := aM (Kd.R_lower (Kd.R_new' (Kd.R_new' (Kd.R_new' ho0 (Kd.R_lt (by have X_ := af.out; exact TR))) (Kd.R_lt (by have X_ := ag.out; exact TR))) (Kd.R_lt (by have X_ := al.out; exact TR))) (below_size TB))
           have n5_ := aM (Kd.R_lower (Kd.R_new' (Kd.R_new' (Kd.R_new' ho1 (Kd.R_lt (by have X_ := af.out; exact TR))) (Kd.R_lt (by have X_ := ag.out; exact TR))) (Kd.R_lt (by have X_ := al.out; exact TR))) (below_size TB))
           have n6_ := aM (Kd.S_lower (Kd.S_new' (Kd.S_new' (Kd.S_new' (Kd.S_new' ho2 (Kd.R_lt (by have X_ := af.out; exact TR))) (Kd.R_lt (by have X_ := ag.out; exact TR))) (Kd.S_lt (by have X_ := ah.out; exact TS))) (Kd.R_lt (by have X_ := al.out; exact TR))) (below_size TB))
           have n7_ := aM (blk_below (by have X_ := ab.out; exact TX) hb)
           have n8_ := aM (blk_below (by have X_ := ak.out; exact TX) hb)
           have n9_ := aM (blk_below (by have X_ := ad.out; exact TX) hb)
           have aH := aM (blk_below (by have X_ := an.out; exact TX) hb)
           have aP := aM (below_step TB hb)
           clear af
           clear ag
           clear ah
           clear al
           clear ab
           clear ak
           clear ad
           clear an
           clear HB
           have af := n0_
           have ag := n1_
           have ah := n2_
           have al := n3_
           have aJ := n4_
           have aI := n5_
           have aL := n6_
           have ab := n7_
           have ak := n8_
           have ad := n9_
           have an := aH
           have HB := aP
           clear n0_ n1_ n2_ n3_ n4_ n5_ n6_ n7_ n8_ n9_ aH aP
           (try clear hb)
           (try clear hb2)
           (try clear hk)
           (try clear hi)
           (try clear ho0)
           (try clear ho1)
           (try clear ho2)
           refine hK.out _ _ ⟨(blk_cell ad.out 0).trans rfl, (blk_cell ad.out 1).trans rfl, (blk_cell ad.out 2).trans rfl, (blk_cell ad.out 3).trans rfl, (blk_cell ad.out 4).trans rfl, (blk_cell ad.out 5).trans rfl, (blk_cell ab.out 0).trans rfl, (blk_cell ab.out 1).trans rfl, (blk_cell ab.out 2).trans rfl, (blk_cell ab.out 3).trans rfl, (blk_cell ab.out 4).trans rfl, (blk_cell ab.out 5).trans rfl⟩ (fun hHeld => ?_)
           clear hK K
           refine nR ?_
           refine pPe 8 (some 48) #[true, true, true, true, true, true, true, true, true, false, false, true, false, false] ?_
           refine pPe 9 (some 57) #[true, true, true, true, true, true, true, true, true, true, false, true, false, false] ?_
           refine pPe 10 (some 58) #[true, true, true, true, true, true, true, true, true, true, true, true, false, false] ?_
           exact norm_ (by simp only [putAll, Act.put, List.setIfInBounds_toArray, List.set_cons_zero, List.set_cons_succ]) (hCont (aQ, aS, bf, aa) _ ⟨hHeld, (by (with_reducible repeat (first | apply Kd.R_alloc | apply Kd.R_drewN | apply Kd.R_drew)); exact Kd.R_mono al.out (fun _ hk => ⟨hk.1.2, ⟨hk.2, ⟨hk.1.1.1.2, hk.1.1.2⟩⟩⟩)), (by (with_reducible repeat (first | apply Kd.R_alloc | apply Kd.R_drewN | apply Kd.R_drew)); exact Kd.R_mono aJ.out (fun _ hk => ⟨hk.2, ⟨hk.1.1.1, ⟨hk.1.1.2, hk.1.2⟩⟩⟩)), (by (with_reducible repeat (first | apply Kd.R_alloc | apply Kd.R_drewN | apply Kd.R_drew)); exact Kd.R_mono aI.out (fun _ hk => ⟨hk.2, ⟨hk.1.1.1, ⟨hk.1.1.2, hk.1.2⟩⟩⟩)), (by (with_reducible repeat (first | apply Kd.S_alloc | apply Kd.S_drewN | apply Kd.S_drew)); exact Kd.S_mono aL.out (fun _ hk => ⟨hk.2, ⟨hk.1.1.1.1.1, ⟨hk.1.1.1.1.2, ⟨hk.1.1.1.2, ⟨hk.1.1.2, hk.1.2⟩⟩⟩⟩⟩)), (by (with_reducible repeat (first | apply Kd.R_alloc | apply Kd.R_drewN | apply Kd.R_drew)); exact Kd.R_mono af.out (fun _ hk => ⟨hk.1.1.2, ⟨hk.1.2, ⟨hk.2, hk.1.1.1⟩⟩⟩)), (by (with_reducible repeat (first | apply Kd.R_alloc | apply Kd.R_drewN | apply Kd.R_drew)); exact Kd.R_mono ag.out (fun _ hk => ⟨hk.1.1.2, ⟨hk.1.2, ⟨hk.2, hk.1.1.1⟩⟩⟩)), (by (with_reducible repeat (first | apply Kd.S_alloc | apply Kd.S_drewN | apply Kd.S_drew)); exact Kd.S_mono ah.out (fun _ hk => ⟨hk.1.1.1.2, ⟨hk.1.1.2, ⟨hk.1.2, ⟨hk.2, ⟨hk.1.1.1.1.1, hk.1.1.1.1.2⟩⟩⟩⟩⟩)), TK, TK, TK, TK, bj.out, bi.out, ac.out, av.out, ao.out, aw.out, ae.out, ax.out, TB⟩)
         ·skip
          refine box_step ?hg (N := 12) ?hd (cs := #[.slice none 0 0, .slice none 0 0, .int .i64 0, .int .i64 0, .int .i64 0, .slice none 0 0]) (t := 33) ?hr ?_; (case hd => rfl); (case hg => rfl); (case hr => first | (go_simp; done) | (go_simp; rfl))
          intro aa hg w54 hbox hb
          have n0_ := aM (Kd.R_below (by have X_ := af.out; exact TR) hb)
          have n1_ := aM (Kd.R_below (by have X_ := ag.out; exact TR) hb)
          have n2_ := aM (Kd.S_below (by have X_ := ah.out; exact TS) hb)
          have n3_ := aM (Kd.R_below (by have X_ := al.out; exact TR) hb)
          have n4_ := aM (blk_below (by have X_ := ab.out; exact TX) hb)
          have n5_ := aM (blk_below (by have X_ := ak.out; exact TX) hb)
          have n6_ := aM (blk_below (by have X_ := ad.out; exact TX) hb)
          have n7_ := aM (below_step TB hb)
          have n8_ := aM (hbox)
          have n9_ := aM ((by rw [hg]; exact (below_size TB) : w.heap.size ≤ aa))
          have aH := aM ((by rw [hg]; exact (below_size TB) : w.heap.size ≤ aa))
          have aP := aM ((by rw [hg]; exact Nat.ne_of_lt (blk_lt (by have X_ := ab.out; exact TX)) : ap ≠ aa))
          have bd := aM ((by rw [hg]; exact Nat.ne_of_gt (blk_lt (by have X_ := ab.out; exact TX)) : aa ≠ ap))
          have bc := aM ((by rw [hg]; exact Nat.ne_of_lt (blk_lt (by have X_ := ak.out; exact TX)) : gb711 ≠ aa))
          have bh := aM ((by rw [hg]; exact Nat.ne_of_gt (blk_lt (by have X_ := ak.out; exact TX)) : aa ≠ gb711))
          have bg := aM ((by rw [hg]; exact Nat.ne_of_lt (blk_lt (by have X_ := ad.out; exact TX)) : gb738 ≠ aa))
          have be := aM ((by rw [hg]; exact Nat.ne_of_gt (blk_lt (by have X_ := ad.out; exact TX)) : aa ≠ gb738))
          clear af
          clear ag
          clear ah
          clear al
          clear ab
          clear ak
          clear ad
          clear HB
          have af := n0_
          have ag := n1_
          have ah := n2_
          have al := n3_
          have ab := n4_
          have ak := n5_
          have ad := n6_
          have HB := n7_
          have an := n8_
          have bj := n9_
          have bi := aH
          have ac := aP
          have av := bd
          have ao := bc
          have aw := bh
          have ae := bg
          have ax := be
          clear n0_ n1_ n2_ n3_ n4_ n5_ n6_ n7_ n8_ n9_ aH aP bd bc bh bg be
          clear hb hbox hg
          refine hK.out _ _ ⟨(blk_cell ad.out 0).trans rfl, (blk_cell ad.out 1).trans rfl, (blk_cell ad.out 2).trans rfl, (blk_cell ad.out 3).trans rfl, (blk_cell ad.out 4).trans rfl, (blk_cell ad.out 5).trans rfl, (blk_cell ab.out 0).trans rfl, (blk_cell ab.out 1).trans rfl, (blk_cell ab.out 2).trans rfl, (blk_cell ab.out 3).trans rfl, (blk_cell ab.out 4).trans rfl, (blk_cell ab.out 5).trans rfl⟩ (fun hHeld => ?_)
          clear hK K
          refine nR ?_
          refine pOe 2 (some 51) #[true, true, true, true, true, true, true, false, false, false, false, true, false, false] (fun K hK => ?_)
          refine gG Try.func23 #[.agg #[.slice aT aB.length aY, .slice aU aC.length aW, .int .i64 aF, .int .i64 aE, .int .i64 aD, .slice aX ay.length aZ]] ?_
          with_reducible refine (impl_Spare.calls _ _ aB _ _ aC aF aE aD _ _ ay bb _ ?side1 ?side2 ?side3 ?side4 ?side5 ?side6 A45.out).mono ?_
          (case side1 => have X_ := (Kd.C_below bk.out HB.out); exact TC)
          (case side2 => exact bn.out)
          (case side3 => have X_ := (Kd.C_below bp.out HB.out); exact TC)
          (case side4 => exact bl.out)
          (case side5 => have X_ := (Kd.C_below bm.out HB.out); exact TC)
          (case side6 => exact bo.out)
          rintro e w55 ⟨rfl, hb⟩
          refine ⟨_, rfl, ?_⟩
          have n0_ := aM (Kd.R_below (by have X_ := af.out; exact TR) hb)
          have n1_ := aM (Kd.R_below (by have X_ := ag.out; exact TR) hb)
          have n2_ := aM (Kd.S_below (by have X_ := ah.out; exact TS) hb)
          have n3_ := aM (Kd.R_below (by have X_ := al.out; exact TR) hb)
          have n4_ := aM (blk_below (by have X_ := ab.out; exact TX) hb)
          have n5_ := aM (blk_below (by have X_ := ak.out; exact TX) hb)
          have n6_ := aM (blk_below (by have X_ := ad.out; exact TX) hb)
          have n7_ := aM (blk_below (by have X_ := an.out; exact TX) hb)
          have n8_ := aM (below_step TB hb)
          clear af
          clear ag
          clear ah
          clear al
          clear ab
          clear ak
          clear ad
          clear an
          clear HB
          have af := n0_
          have ag := n1_
          have ah := n2_
          have al := n3_
          have ab := n4_
          have ak := n5_
          have ad := n6_
          have an := n7_
          have HB := n8_
          clear n0_ n1_ n2_ n3_ n4_ n5_ n6_ n7_ n8_
          (try clear hb)
          (try clear hb2)
          (try clear hk)
          (try clear hi)
          refine hK.out _ _ ⟨(blk_cell ad.out 0).trans rfl, (blk_cell ad.out 1).trans rfl, (blk_cell ad.out 2).trans rfl, (blk_cell ad.out 3).trans rfl, (blk_cell ad.out 4).trans rfl, (blk_cell ad.out 5).trans rfl, (blk_cell ab.out 0).trans rfl, (blk_cell ab.out 1).trans rfl, (blk_cell ab.out 2).trans rfl, (blk_cell ab.out 3).trans rfl, (blk_cell ab.out 4).trans rfl, (blk_cell ab.out 5).trans rfl⟩ (fun hHeld => ?_)
          clear hK K
          refine nR ?_
          refine pOe 7 (some 56) #[true, true, true, true, true, true, true, true, false, false, false, true, false, false] (fun K hK => ?_)
          refine gG Try.func79 #[.agg #[.slice Ao49 aj.length co49, .slice Ao50 ai.length co50, .int .i64 ar, .int .i64 aq, .int .i64 au, .slice Ao51 am.length co51], .int .i64 bb, .int .i64 (wrap64 (aN * a2)), .slice Ao52 az.length co52] ?_
          with_reducible refine (impl_PutBytes.calls k2 _ _ aj _ _ ai ar aq au _ _ am bb (wrap64 (aN * a2)) _ _ az aO aR aV a8 a9 ba true _ ?side1 ?side2 ?side3 ?side4 ?side5 ?side6 ?side7 ?side8 A46.out).mono ?_
          (case side1 => have X_ := (Kd.R_reads' af.out).2.2; exact TC)
          (case side2 => exact (Kd.R_reads' af.out).2.1)
          (case side3 => have X_ := (Kd.R_reads' ag.out).2.2; exact TC)
          (case side4 => exact (Kd.R_reads' ag.out).2.1)
          (case side5 => have X_ := (Kd.S_reads' ah.out).2.2; exact TC)
          (case side6 => exact (Kd.S_reads' ah.out).2.1)
          (case side7 => have X_ := (Kd.R_reads' al.out).2.2; exact TC)
          (case side8 => exact (Kd.R_reads' al.out).2.1)
          rintro e w56 ⟨aQ, aS, bf, rfl, ho0, ho1, ho2, hb⟩
          refine ⟨_, rfl, ?_⟩
          have n0_ := aM (Kd.R_mono (Kd.R_told (Kd.R_told (Kd.R_old (by have X_ := af.out; exact TR) hb) (Kd.R_base ho0)) (Kd.R_base ho1)) (fun _ h_ => h_.1))
          have n1_ := aM (Kd.R_mono (Kd.R_told (Kd.R_told (Kd.R_old (by have X_ := ag.out; exact TR) hb) (Kd.R_base ho0)) (Kd.R_base ho1)) (fun _ h_ => h_.1))
          have n2_ := aM (Kd.S_mono (Kd.S_told (Kd.S_told (Kd.S_told (Kd.S_old (by have X_ := ah.out; exact TS) hb) (Kd.R_base ho0)) (Kd.R_base ho1)) (Kd.S_base ho2)) (fun _ h_ => h_.1))
          have n3_ := aM (Kd.R_mono (Kd.R_told (Kd.R_told (Kd.R_old (by have X_ := al.out; exact TR) hb) (Kd.R_base ho0)) (Kd.R_base ho1)) (fun _ h_ => h_.1))
          have n4_ := aM (Kd.R_lower (Kd.R_new' (Kd.R_new' (Kd.R_new' ho0 (Kd.R_lt (by have X_ := af.out; exact TR))) (Kd.R_lt (by have X_ := ag.out; exact TR))) (Kd.R_lt (by have X_ := al.out; exact TR))) (below_size TB))
          have n5_ := aM (Kd.R_lower (Kd.R_new' (Kd.R_new' (Kd.R_new' ho1 (Kd.R_lt (by have X_ := af.out; exact TR))) (Kd.R_lt (by have X_ := ag.out; exact TR))) (Kd.R_lt (by have X_ := al.out; exact TR))) (below_size TB))
          have n6_ := aM (Kd.S_lower (Kd.S_new' (Kd.S_new' (Kd.S_new' (Kd.S_new' ho2 (Kd.R_lt (by have X_ := af.out; exact TR))) (Kd.R_lt (by have X_ := ag.out; exact TR))) (Kd.S_lt (by have X_ := ah.out; exact TS))) (Kd.R_lt (by have X_ := al.out; exact TR))) (below_size TB))
          have n7_ := aM (blk_below (by have X_ := ab.out; exact TX) hb)
          have n8_ := aM (blk_below (by have X_ := ak.out; exact TX) hb)
          have n9_ := aM (blk_below (by have X_ := ad.out; exact TX) hb)
          have aH := aM (blk_below (by have X_ := an.out; exact TX) hb)
          have aP := aM (below_step TB hb)
          clear af
          clear ag
          clear ah
          clear al
          clear ab
          clear ak
          clear ad
          clear an
          clear HB
          have af := n0_
          have ag := n1_
          have ah := n2_
          have al := n3_
          have aJ := n4_
          have aI := n5_
          have aL := n6_
          have ab := n7_
          have ak := n8_
          have ad := n9_
          have an := aH
          have HB := aP
          clear n0_ n1_ n2_ n3_ n4_ n5_ n6_ n7_ n8_ n9_ aH aP
          (try clear hb)
          (try clear hb2)
          (try clear hk)
          (try clear hi)
          (try clear ho0)
          (try clear ho1)
          (try clear ho2)
          refine hK.out _ _ ⟨(blk_cell ad.out 0).trans rfl, (blk_cell ad.out 1).trans rfl, (blk_cell ad.out 2).trans rfl, (blk_cell ad.out 3).trans rfl, (blk_cell ad.out 4).trans rfl, (blk_cell ad.out 5).trans rfl, (blk_cell ab.out 0).trans rfl, (blk_cell ab.out 1).trans rfl, (blk_cell ab.out 2).trans rfl, (blk_cell ab.out 3).trans rfl, (blk_cell ab.out 4).trans rfl, (blk_cell ab.out 5).trans rfl⟩ (fun hHeld => ?_)
          clear hK K
          refine nR ?_
          refine pPe 8 (some 48) #[true, true, true, true, true, true, true, true, true, false, false, true, false, false] ?_
          refine pPe 9 (some 57) #[true, true, true, true, true, true, true, true, true, true, false, true, false, false] ?_
          refine pPe 10 (some 58) #[true, true, true, true, true, true, true, true, true, true, true, true, false, false] ?_
          exact norm_ (by simp only [putAll, Act.put, List.setIfInBounds_toArray, List.set_cons_zero, List.set_cons_succ]) (hCont (aQ, aS, bf, aa) _ ⟨hHeld, (by (with_reducible repeat (first | apply Kd.R_alloc | apply Kd.R_drewN | apply Kd.R_drew)); exact Kd.R_mono al.out (fun _ hk => ⟨hk.1.2, ⟨hk.2, ⟨hk.1.1.1.2, hk.1.1.2⟩⟩⟩)), (by (with_reducible repeat (first | apply Kd.R_alloc | apply Kd.R_drewN | apply Kd.R_drew)); exact Kd.R_mono aJ.out (fun _ hk => ⟨hk.2, ⟨hk.1.1.1, ⟨hk.1.1.2, hk.1.2⟩⟩⟩)), (by (with_reducible repeat (first | apply Kd.R_alloc | apply Kd.R_drewN | apply Kd.R_drew)); exact Kd.R_mono aI.out (fun _ hk => ⟨hk.2, ⟨hk.1.1.1, ⟨hk.1.1.2, hk.1.2⟩⟩⟩)), (by (with_reducible repeat (first | apply Kd.S_alloc | apply Kd.S_drewN | apply Kd.S_drew)); exact Kd.S_mono aL.out (fun _ hk => ⟨hk.2, ⟨hk.1.1.1.1.1, ⟨hk.1.1.1.1.2, ⟨hk.1.1.1.2, ⟨hk.1.1.2, hk.1.2⟩⟩⟩⟩⟩)), (by (with_reducible repeat (first | apply Kd.R_alloc | apply Kd.R_drewN | apply Kd.R_drew)); exact Kd.R_mono af.out (fun _ hk => ⟨hk.1.1.2, ⟨hk.1.2, ⟨hk.2, hk.1.1.1⟩⟩⟩)), (by (with_reducible repeat (first | apply Kd.R_alloc | apply Kd.R_drewN | apply Kd.R_drew)); exact Kd.R_mono ag.out (fun _ hk => ⟨hk.1.1.2, ⟨hk.1.2, ⟨hk.2, hk.1.1.1⟩⟩⟩)), (by (with_reducible repeat (first | apply Kd.S_alloc | apply Kd.S_drewN | apply Kd.S_drew)); exact Kd.S_mono ah.out (fun _ hk => ⟨hk.1.1.1.2, ⟨hk.1.1.2, ⟨hk.1.2, ⟨hk.2, ⟨hk.1.1.1.1.1, hk.1.1.1.1.2⟩⟩⟩⟩⟩)), TK, TK, TK, TK, bj.out, bi.out, ac.out, av.out, ao.out, aw.out, ae.out, ax.out, TB⟩)
        rintro ⟨aQ, aS, bf, aa⟩ w57 ⟨hS_, h0_, h1_, h2_, h3_, h4_, h5_, h6_, h7_, h8_, h9_, cb, cd, ce, b9, b4, b8, b2, ca, b7, b1⟩
        clear af ag ah al ab ak ad HB
        have al : Aside0 (Kd.R (Kd.int .u8) 5 w57 w.heap.size (fun k_ => some k_ ≠ (aQ : Value).ownBlock ∧ some k_ ≠ (aS : Value).ownBlock ∧ some k_ ≠ (.slice Ao49 aj.length co49 : Value).ownBlock ∧ some k_ ≠ (.slice Ao50 ai.length co50 : Value).ownBlock) (.slice Ao52 az.length co52) az) := ⟨h0_⟩
        have aJ : Aside0 (Kd.R (Kd.int .u8) 5 w57 w.heap.size (fun k_ => some k_ ≠ (.slice Ao52 az.length co52 : Value).ownBlock ∧ some k_ ≠ (aS : Value).ownBlock ∧ some k_ ≠ (.slice Ao49 aj.length co49 : Value).ownBlock ∧ some k_ ≠ (.slice Ao50 ai.length co50 : Value).ownBlock) aQ aO) := ⟨h1_⟩
        have aI : Aside0 (Kd.R (Kd.int .u8) 5 w57 w.heap.size (fun k_ => some k_ ≠ (.slice Ao52 az.length co52 : Value).ownBlock ∧ some k_ ≠ (aQ : Value).ownBlock ∧ some k_ ≠ (.slice Ao49 aj.length co49 : Value).ownBlock ∧ some k_ ≠ (.slice Ao50 ai.length co50 : Value).ownBlock) aS aR) := ⟨h2_⟩
        have aL : Aside0 (Kd.S k110 110 w57 w.heap.size (fun k_ => some k_ ≠ (.slice Ao52 az.length co52 : Value).ownBlock ∧ some k_ ≠ (aQ : Value).ownBlock ∧ some k_ ≠ (aS : Value).ownBlock ∧ some k_ ≠ (.slice Ao49 aj.length co49 : Value).ownBlock ∧ some k_ ≠ (.slice Ao50 ai.length co50 : Value).ownBlock ∧ some k_ ≠ (.slice Ao51 am.length co51 : Value).ownBlock) bf ba) := ⟨h3_⟩
        have af : Aside0 (Kd.R (Kd.int .u8) 5 w57 w.heap.size (fun k_ => some k_ ≠ (.slice Ao52 az.length co52 : Value).ownBlock ∧ some k_ ≠ (aQ : Value).ownBlock ∧ some k_ ≠ (aS : Value).ownBlock ∧ some k_ ≠ (.slice Ao50 ai.length co50 : Value).ownBlock) (.slice Ao49 aj.length co49) aj) := ⟨h4_⟩
        have ag : Aside0 (Kd.R (Kd.int .u8) 5 w57 w.heap.size (fun k_ => some k_ ≠ (.slice Ao52 az.length co52 : Value).ownBlock ∧ some k_ ≠ (aQ : Value).ownBlock ∧ some k_ ≠ (aS : Value).ownBlock ∧ some k_ ≠ (.slice Ao49 aj.length co49 : Value).ownBlock) (.slice Ao50 ai.length co50) ai) := ⟨h5_⟩
        have ah : Aside0 (Kd.S k110 110 w57 w.heap.size (fun k_ => some k_ ≠ (.slice Ao52 az.length co52 : Value).ownBlock ∧ some k_ ≠ (aQ : Value).ownBlock ∧ some k_ ≠ (aS : Value).ownBlock ∧ some k_ ≠ (bf : Value).ownBlock ∧ some k_ ≠ (.slice Ao49 aj.length co49 : Value).ownBlock ∧ some k_ ≠ (.slice Ao50 ai.length co50 : Value).ownBlock) (.slice Ao51 am.length co51) am) := ⟨h6_⟩
        have ab : Aside0 (w57.heap[ap]? = some (.cells #[.slice aT aB.length aY, .slice aU aC.length aW, .int .i64 aF, .int .i64 aE, .int .i64 aD, .slice aX ay.length aZ] 33 (0, 0))) := ⟨h7_⟩
        have ak : Aside0 (w57.heap[gb711]? = some (.cells #[.slice none 0 0, .slice none 0 0, .int .i64 aK, .int .i64 aG, .int .i64 aA, .slice none 0 0] 33 (0, 0))) := ⟨h8_⟩
        have ad : Aside0 (w57.heap[gb738]? = some (.cells #[.slice Ao49 aj.length co49, .slice Ao50 ai.length co50, .int .i64 ar, .int .i64 aq, .int .i64 au, .slice Ao51 am.length co51] 33 (0, 0))) := ⟨h9_⟩
        have an : Aside0 (w57.heap[aa]? = some (.cells #[.slice none 0 0, .slice none 0 0, .int .i64 0, .int .i64 0, .int .i64 0, .slice none 0 0] 33 (0, 0))) := ⟨cb⟩
        have bj : Aside0 (w.heap.size ≤ aa) := ⟨cd⟩
        have bi : Aside0 (w.heap.size ≤ aa) := ⟨ce⟩
        have ac : Aside0 (ap ≠ aa) := ⟨b9⟩
        have av : Aside0 (aa ≠ ap) := ⟨b4⟩
        have ao : Aside0 (gb711 ≠ aa) := ⟨b8⟩
        have aw : Aside0 (aa ≠ gb711) := ⟨b2⟩
        have ae : Aside0 (gb738 ≠ aa) := ⟨ca⟩
        have ax : Aside0 (aa ≠ gb738) := ⟨b7⟩
        have HB : Aside0 (Below w.heap.size w w57) := ⟨b1⟩
        clear h0_ h1_ h2_ h3_ h4_ h5_ h6_ h7_ h8_ h9_ cb cd ce b9 b4 b8 b2 ca b7 b1
        have hHeld : w57.cell? ⟨gb738, 0, none⟩ = some (.slice Ao49 aj.length co49) ∧ w57.cell? ⟨gb738, 1, none⟩ = some (.slice Ao50 ai.length co50) ∧ w57.cell? ⟨gb738, 2, none⟩ = some (.int .i64 ar) ∧ w57.cell? ⟨gb738, 3, none⟩ = some (.int .i64 aq) ∧ w57.cell? ⟨gb738, 4, none⟩ = some (.int .i64 au) ∧ w57.cell? ⟨gb738, 5, none⟩ = some (.slice Ao51 am.length co51) ∧ w57.cell? ⟨ap, 0, none⟩ = some (.slice aT aB.length aY) ∧ w57.cell? ⟨ap, 1, none⟩ = some (.slice aU aC.length aW) ∧ w57.cell? ⟨ap, 2, none⟩ = some (.int .i64 aF) ∧ w57.cell? ⟨ap, 3, none⟩ = some (.int .i64 aE) ∧ w57.cell? ⟨ap, 4, none⟩ = some (.int .i64 aD) ∧ w57.cell? ⟨ap, 5, none⟩ = some (.slice aX ay.length aZ) := hS_
        obtain ⟨bq, br, eo58⟩ := Kd.R_slice aJ.out
        (first | subst eo58 | (injection eo58 with f1_ f2_ f3_; have f4_ := f1_.symm; have f5_ := f3_.symm; clear f1_ f2_ f3_; subst f4_; subst f5_))
        obtain ⟨bw, bv, eo60⟩ := Kd.R_slice aI.out
        (first | subst eo60 | (injection eo60 with f1_ f2_ f3_; have f4_ := f1_.symm; have f5_ := f3_.symm; clear f1_ f2_ f3_; subst f4_; subst f5_))
        obtain ⟨bL, bQ, eo65⟩ := Kd.S_slice aL.out
        (first | subst eo65 | (injection eo65 with f1_ f2_ f3_; have f4_ := f1_.symm; have f5_ := f3_.symm; clear f1_ f2_ f3_; subst f4_; subst f5_))
        refine norm_ (a' := ?_) ?_ ?_
        rotate_left
        ·simp only [putAll, Act.put, List.setIfInBounds_toArray, List.set_cons_zero, List.set_cons_succ]
         rfl
        refine pOe 12 none #[true, true, true, true, true, true, true, true, true, true, true, true, true, false] (fun K hK => ?_)
        have hs59 : w57.cell? ⟨aa, 0, none⟩ = some (.slice none 0 0) := (blk_cell an.out 0).trans rfl
        have hfs59 := blk_frozen an.out 0
        have hns59_0 := ac.out
        have hns59_1 := ao.out
        have hns59_2 := ae.out
        have hms59_0 := av.out
        have hms59_1 := aw.out
        have hms59_2 := ax.out
        have hs61 : w57.cell? ⟨aa, 1, none⟩ = some (.slice none 0 0) := (blk_cell an.out 1).trans rfl
        have hfs61 := blk_frozen an.out 1
        have hns61_0 := ac.out
        have hns61_1 := ao.out
        have hns61_2 := ae.out
        have hms61_0 := av.out
        have hms61_1 := aw.out
        have hms61_2 := ax.out
        have hs62 : w57.cell? ⟨aa, 2, none⟩ = some (.int .i64 0) := (blk_cell an.out 2).trans rfl
        have hfs62 := blk_frozen an.out 2
        have hns62_0 := ac.out
        have hns62_1 := ao.out
        have hns62_2 := ae.out
        have hms62_0 := av.out
        have hms62_1 := aw.out
        have hms62_2 := ax.out
        have hs63 : w57.cell? ⟨aa, 3, none⟩ = some (.int .i64 0) := (blk_cell an.out 3).trans rfl
        have hfs63 := blk_frozen an.out 3
        have hns63_0 := ac.out
        have hns63_1 := ao.out
        have hns63_2 := ae.out
        have hms63_0 := av.out
        have hms63_1 := aw.out
        have hms63_2 := ax.out
        have hs64 : w57.cell? ⟨aa, 4, none⟩ = some (.int .i64 0) := (blk_cell an.out 4).trans rfl
        have hfs64 := blk_frozen an.out 4
        have hns64_0 := ac.out
        have hns64_1 := ao.out
        have hns64_2 := ae.out
        have hms64_0 := av.out
        have hms64_1 := aw.out
        have hms64_2 := ax.out
        have hs66 : w57.cell? ⟨aa, 5, none⟩ = some (.slice none 0 0) := (blk_cell an.out 5).trans rfl
        have hfs66 := blk_frozen an.out 5
        have hns66_0 := ac.out
        have hns66_1 := ao.out
        have hns66_2 := ae.out
        have hms66_0 := av.out
        have hms66_1 := aw.out
        have hms66_2 := ax.out
        refine skip_ (w1 := ?_) (by rfl) rfl ?_ ?_
        rotate_left
        ·go_simp
         rfl
        refine hK.out _ _ ⟨((cell_far (p := ⟨aa, _, none⟩) ae.out _).trans (((cell_far (p := ⟨aa, _, none⟩) ae.out _).trans (((cell_far (p := ⟨aa, _, none⟩) ae.out _).trans (((cell_far (p := ⟨aa, _, none⟩) ae.out _).trans (((cell_far (p := ⟨aa, _, none⟩) ae.out _).trans (((cell_far (p := ⟨aa, _, none⟩) ae.out _).trans (hHeld.1)))))))))))), ((cell_far (p := ⟨aa, _, none⟩) ae.out _).trans (((cell_far (p := ⟨aa, _, none⟩) ae.out _).trans (((cell_far (p := ⟨aa, _, none⟩) ae.out _).trans (((cell_far (p := ⟨aa, _, none⟩) ae.out _).trans (((cell_far (p := ⟨aa, _, none⟩) ae.out _).trans (((cell_far (p := ⟨aa, _, none⟩) ae.out _).trans (hHeld.2.1)))))))))))), ((cell_far (p := ⟨aa, _, none⟩) ae.out _).trans (((cell_far (p := ⟨aa, _, none⟩) ae.out _).trans (((cell_far (p := ⟨aa, _, none⟩) ae.out _).trans (((cell_far (p := ⟨aa, _, none⟩) ae.out _).trans (((cell_far (p := ⟨aa, _, none⟩) ae.out _).trans (((cell_far (p := ⟨aa, _, none⟩) ae.out _).trans (hHeld.2.2.1)))))))))))), ((cell_far (p := ⟨aa, _, none⟩) ae.out _).trans (((cell_far (p := ⟨aa, _, none⟩) ae.out _).trans (((cell_far (p := ⟨aa, _, none⟩) ae.out _).trans (((cell_far (p := ⟨aa, _, none⟩) ae.out _).trans (((cell_far (p := ⟨aa, _, none⟩) ae.out _).trans (((cell_far (p := ⟨aa, _, none⟩) ae.out _).trans (hHeld.2.2.2.1)))))))))))), ((cell_far (p := ⟨aa, _, none⟩) ae.out _).trans (((cell_far (p := ⟨aa, _, none⟩) ae.out _).trans (((cell_far (p := ⟨aa, _, none⟩) ae.out _).trans (((cell_far (p := ⟨aa, _, none⟩) ae.out _).trans (((cell_far (p := ⟨aa, _, none⟩) ae.out _).trans (((cell_far (p := ⟨aa, _, none⟩) ae.out _).trans (hHeld.2.2.2.2.1)))))))))))), ((cell_far (p := ⟨aa, _, none⟩) ae.out _).trans (((cell_far (p := ⟨aa, _, none⟩) ae.out _).trans (((cell_far (p := ⟨aa, _, none⟩) ae.out _).trans (((cell_far (p := ⟨aa, _, none⟩) ae.out _).trans (((cell_far (p := ⟨aa, _, none⟩) ae.out _).trans (((cell_far (p := ⟨aa, _, none⟩) ae.out _).trans (hHeld.2.2.2.2.2.1)))))))))))), ((cell_far (p := ⟨aa, _, none⟩) ac.out _).trans (((cell_far (p := ⟨aa, _, none⟩) ac.out _).trans (((cell_far (p := ⟨aa, _, none⟩) ac.out _).trans (((cell_far (p := ⟨aa, _, none⟩) ac.out _).trans (((cell_far (p := ⟨aa, _, none⟩) ac.out _).trans (((cell_far (p := ⟨aa, _, none⟩) ac.out _).trans (hHeld.2.2.2.2.2.2.1)))))))))))), ((cell_far (p := ⟨aa, _, none⟩) ac.out _).trans (((cell_far (p := ⟨aa, _, none⟩) ac.out _).trans (((cell_far (p := ⟨aa, _, none⟩) ac.out _).trans (((cell_far (p := ⟨aa, _, none⟩) ac.out _).trans (((cell_far (p := ⟨aa, _, none⟩) ac.out _).trans (((cell_far (p := ⟨aa, _, none⟩) ac.out _).trans (hHeld.2.2.2.2.2.2.2.1)))))))))))), ((cell_far (p := ⟨aa, _, none⟩) ac.out _).trans (((cell_far (p := ⟨aa, _, none⟩) ac.out _).trans (((cell_far (p := ⟨aa, _, none⟩) ac.out _).trans (((cell_far (p := ⟨aa, _, none⟩) ac.out _).trans (((cell_far (p := ⟨aa, _, none⟩) ac.out _).trans (((cell_far (p := ⟨aa, _, none⟩) ac.out _).trans (hHeld.2.2.2.2.2.2.2.2.1)))))))))))), ((cell_far (p := ⟨aa, _, none⟩) ac.out _).trans (((cell_far (p := ⟨aa, _, none⟩) ac.out _).trans (((cell_far (p := ⟨aa, _, none⟩) ac.out _).trans (((cell_far (p := ⟨aa, _, none⟩) ac.out _).trans (((cell_far (p := ⟨aa, _, none⟩) ac.out _).trans (((cell_far (p := ⟨aa, _, none⟩) ac.out _).trans (hHeld.2.2.2.2.2.2.2.2.2.1)))))))))))), ((cell_far (p := ⟨aa, _, none⟩) ac.out _).trans (((cell_far (p := ⟨aa, _, none⟩) ac.out _).trans (((cell_far (p := ⟨aa, _, none⟩) ac.out _).trans (((cell_far (p := ⟨aa, _, none⟩) ac.out _).trans (((cell_far (p := ⟨aa, _, none⟩) ac.out _).trans (((cell_far (p := ⟨aa, _, none⟩) ac.out _).trans (hHeld.2.2.2.2.2.2.2.2.2.2.1)))))))))))), ((cell_far (p := ⟨aa, _, none⟩) ac.out _).trans (((cell_far (p := ⟨aa, _, none⟩) ac.out _).trans (((cell_far (p := ⟨aa, _, none⟩) ac.out _).trans (((cell_far (p := ⟨aa, _, none⟩) ac.out _).trans (((cell_far (p := ⟨aa, _, none⟩) ac.out _).trans (((cell_far (p := ⟨aa, _, none⟩) ac.out _).trans (hHeld.2.2.2.2.2.2.2.2.2.2.2))))))))))))⟩ (fun hHeld => ?_)
        clear hK K
        refine pPe 13 (some 13) #[true, true, true, true, true, true, true, true, true, true, true, true, true, true] ?_
        refine done_ (done_of HT_.out (by kernel_rfl)) ?_
        have hnb67 := av.out
        have hnc67 := ac.out
        have hnb68 := aw.out
        have hnc68 := ao.out
        have hnb69 := ax.out
        have hnc69 := ae.out
        obtain ⟨hcz70_0, hcz70_1, hcz70_2, hcz70_3, hcz70_4, hcz70_5⟩ := cz6 an.out
        obtain ⟨hfz70_0, hfz70_1, hfz70_2, hfz70_3, hfz70_4, hfz70_5⟩ := fz6 an.out
        have hnb71 := NB738_710.out
        have hnc71 := NB710_738.out
        have hnb72 := NB738_711.out
        have hnc72 := NB711_738.out
        obtain ⟨hcz73_0, hcz73_1, hcz73_2, hcz73_3, hcz73_4, hcz73_5⟩ := cz6 ad.out
        obtain ⟨hfz73_0, hfz73_1, hfz73_2, hfz73_3, hfz73_4, hfz73_5⟩ := fz6 ad.out
        try go_wp2
        go_roundg k2
        case measure => have := HJ3.out; have := HK2.out; omega
        case rel => exact ⟨(wrap64 (aN + 1)), (aK), (aG), (aA), (aO), (aR), (aV), (a8), (a9), (ba), (.slice bq aO.length br), (.slice bw aR.length bv), (.slice bL ba.length bQ), (by first | rfl | (simp; done) | (simp [*]; done)), H', ⟨by have := HJ3.out; have := HK2.out; omega⟩, ⟨by (with_reducible repeat (first | apply Kd.R_alloc | apply Kd.R_drewN | apply Kd.R_drew)); exact Kd.R_mono (Kd.R_far (p := ⟨gb738, 5, none⟩) (Kd.R_far (p := ⟨gb738, 4, none⟩) (Kd.R_far (p := ⟨gb738, 3, none⟩) (Kd.R_far (p := ⟨gb738, 2, none⟩) (Kd.R_far (p := ⟨gb738, 1, none⟩) (Kd.R_far (p := ⟨gb738, 0, none⟩) (Kd.R_far (p := ⟨aa, 5, none⟩) (Kd.R_far (p := ⟨aa, 4, none⟩) (Kd.R_far (p := ⟨aa, 3, none⟩) (Kd.R_far (p := ⟨aa, 2, none⟩) (Kd.R_far (p := ⟨aa, 1, none⟩) (Kd.R_far (p := ⟨aa, 0, none⟩) (Kd.R_types (Kd.R_types aJ.out an.out (by decide)) ad.out (by decide)) (fun _ hk => hk.1.2) (.slice bq aO.length br)) (fun _ hk => hk.1.2) (.slice bw aR.length bv)) (fun _ hk => hk.1.2) (.int .i64 aV)) (fun _ hk => hk.1.2) (.int .i64 a8)) (fun _ hk => hk.1.2) (.int .i64 a9)) (fun _ hk => hk.1.2) (.slice bL ba.length bQ)) (fun _ hk => hk.2) (.slice bq aO.length br)) (fun _ hk => hk.2) (.slice bw aR.length bv)) (fun _ hk => hk.2) (.int .i64 aV)) (fun _ hk => hk.2) (.int .i64 a8)) (fun _ hk => hk.2) (.int .i64 a9)) (fun _ hk => hk.2) (.slice bL ba.length bQ)) (fun _ hk => hk.1.1.2.1)⟩, ⟨by (with_reducible repeat (first | apply Kd.R_alloc | apply Kd.R_drewN | apply Kd.R_drew)); exact Kd.R_mono (Kd.R_far (p := ⟨gb738, 5, none⟩) (Kd.R_far (p := ⟨gb738, 4, none⟩) (Kd.R_far (p := ⟨gb738, 3, none⟩) (Kd.R_far (p := ⟨gb738, 2, none⟩) (Kd.R_far (p := ⟨gb738, 1, none⟩) (Kd.R_far (p := ⟨gb738, 0, none⟩) (Kd.R_far (p := ⟨aa, 5, none⟩) (Kd.R_far (p := ⟨aa, 4, none⟩) (Kd.R_far (p := ⟨aa, 3, none⟩) (Kd.R_far (p := ⟨aa, 2, none⟩) (Kd.R_far (p := ⟨aa, 1, none⟩) (Kd.R_far (p := ⟨aa, 0, none⟩) (Kd.R_types (Kd.R_types aI.out an.out (by decide)) ad.out (by decide)) (fun _ hk => hk.1.2) (.slice bq aO.length br)) (fun _ hk => hk.1.2) (.slice bw aR.length bv)) (fun _ hk => hk.1.2) (.int .i64 aV)) (fun _ hk => hk.1.2) (.int .i64 a8)) (fun _ hk => hk.1.2) (.int .i64 a9)) (fun _ hk => hk.1.2) (.slice bL ba.length bQ)) (fun _ hk => hk.2) (.slice bq aO.length br)) (fun _ hk => hk.2) (.slice bw aR.length bv)) (fun _ hk => hk.2) (.int .i64 aV)) (fun _ hk => hk.2) (.int .i64 a8)) (fun _ hk => hk.2) (.int .i64 a9)) (fun _ hk => hk.2) (.slice bL ba.length bQ)) (fun _ hk => hk.1.1.2.1)⟩, ⟨by (with_reducible repeat (first | apply Kd.S_alloc | apply Kd.S_drewN | apply Kd.S_drew)); exact Kd.S_mono (Kd.S_far (p := ⟨gb738, 5, none⟩) (Kd.S_far (p := ⟨gb738, 4, none⟩) (Kd.S_far (p := ⟨gb738, 3, none⟩) (Kd.S_far (p := ⟨gb738, 2, none⟩) (Kd.S_far (p := ⟨gb738, 1, none⟩) (Kd.S_far (p := ⟨gb738, 0, none⟩) (Kd.S_far (p := ⟨aa, 5, none⟩) (Kd.S_far (p := ⟨aa, 4, none⟩) (Kd.S_far (p := ⟨aa, 3, none⟩) (Kd.S_far (p := ⟨aa, 2, none⟩) (Kd.S_far (p := ⟨aa, 1, none⟩) (Kd.S_far (p := ⟨aa, 0, none⟩) (Kd.S_types (Kd.S_types aL.out an.out (by decide)) ad.out (by decide)) (fun _ hk => hk.1.2) (.slice bq aO.length br)) (fun _ hk => hk.1.2) (.slice bw aR.length bv)) (fun _ hk => hk.1.2) (.int .i64 aV)) (fun _ hk => hk.1.2) (.int .i64 a8)) (fun _ hk => hk.1.2) (.int .i64 a9)) (fun _ hk => hk.1.2) (.slice bL ba.length bQ)) (fun _ hk => hk.2) (.slice bq aO.length br)) (fun _ hk => hk.2) (.slice bw aR.length bv)) (fun _ hk => hk.2) (.int .i64 aV)) (fun _ hk => hk.2) (.int .i64 a8)) (fun _ hk => hk.2) (.int .i64 a9)) (fun _ hk => hk.2) (.slice bL ba.length bQ)) (fun _ hk => ⟨hk.1.1.2.1, hk.1.1.2.2.1⟩)⟩, ⟨by (with_reducible repeat (first | refine blk_drewN ?_ _ | refine blk_drew ?_ | refine blk_alloc ?_ _)); refine blk_far ?_ NB710_738.out _; (with_reducible repeat (first | refine blk_drewN ?_ _ | refine blk_drew ?_ | refine blk_alloc ?_ _)); refine blk_far ?_ NB710_738.out _; (with_reducible repeat (first | refine blk_drewN ?_ _ | refine blk_drew ?_ | refine blk_alloc ?_ _)); refine blk_far ?_ NB710_738.out _; (with_reducible repeat (first | refine blk_drewN ?_ _ | refine blk_drew ?_ | refine blk_alloc ?_ _)); refine blk_far ?_ NB710_738.out _; (with_reducible repeat (first | refine blk_drewN ?_ _ | refine blk_drew ?_ | refine blk_alloc ?_ _)); refine blk_far ?_ NB710_738.out _; (with_reducible repeat (first | refine blk_drewN ?_ _ | refine blk_drew ?_ | refine blk_alloc ?_ _)); refine blk_far ?_ NB710_738.out _; (with_reducible repeat (first | refine blk_drewN ?_ _ | refine blk_drew ?_ | refine blk_alloc ?_ _)); refine blk_far ?_ ac.out _; (with_reducible repeat (first | refine blk_drewN ?_ _ | refine blk_drew ?_ | refine blk_alloc ?_ _)); refine blk_far ?_ ac.out _; (with_reducible repeat (first | refine blk_drewN ?_ _ | refine blk_drew ?_ | refine blk_alloc ?_ _)); refine blk_far ?_ ac.out _; (with_reducible repeat (first | refine blk_drewN ?_ _ | refine blk_drew ?_ | refine blk_alloc ?_ _)); refine blk_far ?_ ac.out _; (with_reducible repeat (first | refine blk_drewN ?_ _ | refine blk_drew ?_ | refine blk_alloc ?_ _)); refine blk_far ?_ ac.out _; (with_reducible repeat (first | refine blk_drewN ?_ _ | refine blk_drew ?_ | refine blk_alloc ?_ _)); refine blk_far ?_ ac.out _; (with_reducible repeat (first | refine blk_drewN ?_ _ | refine blk_drew ?_ | refine blk_alloc ?_ _)); exact ab.out⟩, ⟨by (with_reducible repeat (first | refine blk_drewN ?_ _ | refine blk_drew ?_ | refine blk_alloc ?_ _)); refine blk_far ?_ NB711_738.out _; (with_reducible repeat (first | refine blk_drewN ?_ _ | refine blk_drew ?_ | refine blk_alloc ?_ _)); refine blk_far ?_ NB711_738.out _; (with_reducible repeat (first | refine blk_drewN ?_ _ | refine blk_drew ?_ | refine blk_alloc ?_ _)); refine blk_far ?_ NB711_738.out _; (with_reducible repeat (first | refine blk_drewN ?_ _ | refine blk_drew ?_ | refine blk_alloc ?_ _)); refine blk_far ?_ NB711_738.out _; (with_reducible repeat (first | refine blk_drewN ?_ _ | refine blk_drew ?_ | refine blk_alloc ?_ _)); refine blk_far ?_ NB711_738.out _; (with_reducible repeat (first | refine blk_drewN ?_ _ | refine blk_drew ?_ | refine blk_alloc ?_ _)); refine blk_far ?_ NB711_738.out _; (with_reducible repeat (first | refine blk_drewN ?_ _ | refine blk_drew ?_ | refine blk_alloc ?_ _)); refine blk_far ?_ ao.out _; (with_reducible repeat (first | refine blk_drewN ?_ _ | refine blk_drew ?_ | refine blk_alloc ?_ _)); refine blk_far ?_ ao.out _; (with_reducible repeat (first | refine blk_drewN ?_ _ | refine blk_drew ?_ | refine blk_alloc ?_ _)); refine blk_far ?_ ao.out _; (with_reducible repeat (first | refine blk_drewN ?_ _ | refine blk_drew ?_ | refine blk_alloc ?_ _)); refine blk_far ?_ ao.out _; (with_reducible repeat (first | refine blk_drewN ?_ _ | refine blk_drew ?_ | refine blk_alloc ?_ _)); refine blk_far ?_ ao.out _; (with_reducible repeat (first | refine blk_drewN ?_ _ | refine blk_drew ?_ | refine blk_alloc ?_ _)); refine blk_far ?_ ao.out _; (with_reducible repeat (first | refine blk_drewN ?_ _ | refine blk_drew ?_ | refine blk_alloc ?_ _)); exact ak.out⟩, ⟨by (with_reducible repeat (first | refine blk_drewN ?_ _ | refine blk_drew ?_ | refine blk_alloc ?_ _)); refine blk_put (cs := #[.slice bq aO.length br, .slice bw aR.length bv, .int .i64 aV, .int .i64 a8, .int .i64 a9, .slice Ao51 am.length co51]) ?_ 5 _ rfl; (with_reducible repeat (first | refine blk_drewN ?_ _ | refine blk_drew ?_ | refine blk_alloc ?_ _)); refine blk_put (cs := #[.slice bq aO.length br, .slice bw aR.length bv, .int .i64 aV, .int .i64 a8, .int .i64 au, .slice Ao51 am.length co51]) ?_ 4 _ rfl; (with_reducible repeat (first | refine blk_drewN ?_ _ | refine blk_drew ?_ | refine blk_alloc ?_ _)); refine blk_put (cs := #[.slice bq aO.length br, .slice bw aR.length bv, .int .i64 aV, .int .i64 aq, .int .i64 au, .slice Ao51 am.length co51]) ?_ 3 _ rfl; (with_reducible repeat (first | refine blk_drewN ?_ _ | refine blk_drew ?_ | refine blk_alloc ?_ _)); refine blk_put (cs := #[.slice bq aO.length br, .slice bw aR.length bv, .int .i64 ar, .int .i64 aq, .int .i64 au, .slice Ao51 am.length co51]) ?_ 2 _ rfl; (with_reducible repeat (first | refine blk_drewN ?_ _ | refine blk_drew ?_ | refine blk_alloc ?_ _)); refine blk_put (cs := #[.slice bq aO.length br, .slice Ao50 ai.length co50, .int .i64 ar, .int .i64 aq, .int .i64 au, .slice Ao51 am.length co51]) ?_ 1 _ rfl; (with_reducible repeat (first | refine blk_drewN ?_ _ | refine blk_drew ?_ | refine blk_alloc ?_ _)); refine blk_put (cs := #[.slice Ao49 aj.length co49, .slice Ao50 ai.length co50, .int .i64 ar, .int .i64 aq, .int .i64 au, .slice Ao51 am.length co51]) ?_ 0 _ rfl; (with_reducible repeat (first | refine blk_drewN ?_ _ | refine blk_drew ?_ | refine blk_alloc ?_ _)); refine blk_far ?_ ae.out _; (with_reducible repeat (first | refine blk_drewN ?_ _ | refine blk_drew ?_ | refine blk_alloc ?_ _)); refine blk_far ?_ ae.out _; (with_reducible repeat (first | refine blk_drewN ?_ _ | refine blk_drew ?_ | refine blk_alloc ?_ _)); refine blk_far ?_ ae.out _; (with_reducible repeat (first | refine blk_drewN ?_ _ | refine blk_drew ?_ | refine blk_alloc ?_ _)); refine blk_far ?_ ae.out _; (with_reducible repeat (first | refine blk_drewN ?_ _ | refine blk_drew ?_ | refine blk_alloc ?_ _)); refine blk_far ?_ ae.out _; (with_reducible repeat (first | refine blk_drewN ?_ _ | refine blk_drew ?_ | refine blk_alloc ?_ _)); refine blk_far ?_ ae.out _; (with_reducible repeat (first | refine blk_drewN ?_ _ | refine blk_drew ?_ | refine blk_alloc ?_ _)); exact ad.out⟩, ⟨TB⟩⟩
       ·replace c47 := Bool.eq_false_iff.mpr c47
        subst c47
        replace H := ifF H
        replace H := bE H
        obtain ⟨⟨bA, bG, bK, bM, bS, b6⟩, A74, H⟩ := H
        dsimp only at H
        simp only [Option.some.injEq, Prod.mk.injEq] at H
        obtain ⟨rfl, rfl, rfl, rfl, rfl, rfl, rfl⟩ := H
        try go_wp2_with (first | ((with_reducible refine gate_callee (f := 78) rfl ?_); refine gL (some 45) Try.func78 #[.slice A1 l1.length c1, .int .i64 a2, .int .i64 aN] ?_; (with_reducible refine (impl_BlockAt.calls _ _ l1 a2 aN az t741 _ ?side1 ?side2 A44.out).mono ?_); (case side1 => have X_ := (Kd.C_below HR1.out HB.out); exact TC); (case side2 => exact HC1.out); rintro e w75 ⟨v742, rfl, ho0, hb⟩; refine ⟨_, rfl, ?_⟩; have al := aM (Kd.R_lower (Kd.R_new' (Kd.R_new' ho0 (Kd.R_lt (by have X_ := af.out; exact TR))) (Kd.R_lt (by have X_ := ag.out; exact TR))) (below_size TB)); replace af := aM (Kd.R_elder' (by have X_ := af.out; exact TR) (Kd.R_base ho0) hb); replace ag := aM (Kd.R_elder' (by have X_ := ag.out; exact TR) (Kd.R_base ho0) hb); replace ah := aM (Kd.S_elder' (by have X_ := ah.out; exact TS) (Kd.R_base ho0) hb); replace ab := aM (blk_below (by have X_ := ab.out; exact TX) hb); replace ak := aM (blk_below (by have X_ := ak.out; exact TX) hb); replace ad := aM (blk_below (by have X_ := ad.out; exact TX) hb); replace HB := aM (below_step TB hb); clear ho0 hb; obtain ⟨Ao76, co76, eo76⟩ := Kd.R_slice af.out; subst eo76; obtain ⟨Ao77, co77, eo77⟩ := Kd.R_slice ag.out; subst eo77; obtain ⟨Ao78, co78, eo78⟩ := Kd.S_slice ah.out; subst eo78; obtain ⟨Ao79, co79, eo79⟩ := Kd.R_slice al.out; subst eo79))
        replace af := aM (Kd.R_drew af.out)
        replace ag := aM (Kd.R_drew ag.out)
        replace ah := aM (Kd.S_drew ah.out)
        replace al := aM (Kd.R_drew al.out)
        replace ab := aM (blk_drew ab.out)
        replace ak := aM (blk_drew ak.out)
        replace ad := aM (blk_drew ad.out)
        replace HB := aM (below_drew1 HB.out)
        refine start_ (n := 14) (S := fun w' => w'.cell? ⟨gb738, 0, none⟩ = some (.slice Ao76 aj.length co76) ∧ w'.cell? ⟨gb738, 1, none⟩ = some (.slice Ao77 ai.length co77) ∧ w'.cell? ⟨gb738, 2, none⟩ = some (.int .i64 ar) ∧ w'.cell? ⟨gb738, 3, none⟩ = some (.int .i64 aq) ∧ w'.cell? ⟨gb738, 4, none⟩ = some (.int .i64 au) ∧ w'.cell? ⟨gb738, 5, none⟩ = some (.slice Ao78 am.length co78) ∧ w'.cell? ⟨ap, 0, none⟩ = some (.slice aT aB.length aY) ∧ w'.cell? ⟨ap, 1, none⟩ = some (.slice aU aC.length aW) ∧ w'.cell? ⟨ap, 2, none⟩ = some (.int .i64 aF) ∧ w'.cell? ⟨ap, 3, none⟩ = some (.int .i64 aE) ∧ w'.cell? ⟨ap, 4, none⟩ = some (.int .i64 aD) ∧ w'.cell? ⟨ap, 5, none⟩ = some (.slice aX ay.length aZ)) (ds := []) #[false, false, false, false, false, false, false, false, false, false, false, false, false, false] (by kernel_rfl) rfl rfl ⟨(blk_cell ad.out 0).trans rfl, (blk_cell ad.out 1).trans rfl, (blk_cell ad.out 2).trans rfl, (blk_cell ad.out 3).trans rfl, (blk_cell ad.out 4).trans rfl, (blk_cell ad.out 5).trans rfl, (blk_cell ab.out 0).trans rfl, (blk_cell ab.out 1).trans rfl, (blk_cell ab.out 2).trans rfl, (blk_cell ab.out 3).trans rfl, (blk_cell ab.out 4).trans rfl, (blk_cell ab.out 5).trans rfl⟩ (fun hHeld => ?_); refine with_tabW impl_StageAll.tab8 impl_StageAll.bits8 (fun HT_ HW_ => ?_)
        generalize w75.drew = w80 at af ag ah al ab ak ad HB hHeld ⊢
        refine pPe 3 (some 52) #[false, false, false, true, false, false, false, false, false, false, false, false, false, false] ?_
        refine pPe 4 (some 53) #[false, false, false, true, true, false, false, false, false, false, false, false, false, false] ?_
        refine pPe 5 (some 54) #[false, false, false, true, true, true, false, false, false, false, false, false, false, false] ?_
        refine pPe 6 (some 55) #[false, false, false, true, true, true, true, false, false, false, false, false, false, false] ?_
        refine pTe 0 (some 49) #[true, false, false, true, true, true, true, false, false, false, false, false, false, false] ?_
        refine pTe 1 (some 50) #[true, true, false, true, true, true, true, false, false, false, false, false, false, false] ?_
        refine join_ (σ := Value × Value × Value × Nat) 2 #[true, true, true, true, true, true, true, true, true, true, true, true, false, false] (fun s_ => [(51, .int .i64 bb), (56, .tuple #[.agg #[s_.1, s_.2.1, .int .i64 aV, .int .i64 a8, .int .i64 a9, s_.2.2.1], .bool false]), (12, .pointer (some ⟨s_.2.2.2, 0, none⟩)), (48, .tuple #[.agg #[s_.1, s_.2.1, .int .i64 aV, .int .i64 a8, .int .i64 a9, s_.2.2.1], .bool false]), (57, .agg #[s_.1, s_.2.1, .int .i64 aV, .int .i64 a8, .int .i64 a9, s_.2.2.1]), (58, .bool false)]) (fun s_ w' => (w'.cell? ⟨gb738, 0, none⟩ = some (.slice Ao76 aj.length co76) ∧ w'.cell? ⟨gb738, 1, none⟩ = some (.slice Ao77 ai.length co77) ∧ w'.cell? ⟨gb738, 2, none⟩ = some (.int .i64 ar) ∧ w'.cell? ⟨gb738, 3, none⟩ = some (.int .i64 aq) ∧ w'.cell? ⟨gb738, 4, none⟩ = some (.int .i64 au) ∧ w'.cell? ⟨gb738, 5, none⟩ = some (.slice Ao78 am.length co78) ∧ w'.cell? ⟨ap, 0, none⟩ = some (.slice aT aB.length aY) ∧ w'.cell? ⟨ap, 1, none⟩ = some (.slice aU aC.length aW) ∧ w'.cell? ⟨ap, 2, none⟩ = some (.int .i64 aF) ∧ w'.cell? ⟨ap, 3, none⟩ = some (.int .i64 aE) ∧ w'.cell? ⟨ap, 4, none⟩ = some (.int .i64 aD) ∧ w'.cell? ⟨ap, 5, none⟩ = some (.slice aX ay.length aZ)) ∧ (Kd.R (Kd.int .u8) 5 w' w.heap.size (fun k_ => some k_ ≠ (s_.1 : Value).ownBlock ∧ some k_ ≠ (s_.2.1 : Value).ownBlock ∧ some k_ ≠ (.slice Ao76 aj.length co76 : Value).ownBlock ∧ some k_ ≠ (.slice Ao77 ai.length co77 : Value).ownBlock) (.slice Ao79 az.length co79) az) ∧ (Kd.R (Kd.int .u8) 5 w' w.heap.size (fun k_ => some k_ ≠ (.slice Ao79 az.length co79 : Value).ownBlock ∧ some k_ ≠ (s_.2.1 : Value).ownBlock ∧ some k_ ≠ (.slice Ao76 aj.length co76 : Value).ownBlock ∧ some k_ ≠ (.slice Ao77 ai.length co77 : Value).ownBlock) s_.1 aO) ∧ (Kd.R (Kd.int .u8) 5 w' w.heap.size (fun k_ => some k_ ≠ (.slice Ao79 az.length co79 : Value).ownBlock ∧ some k_ ≠ (s_.1 : Value).ownBlock ∧ some k_ ≠ (.slice Ao76 aj.length co76 : Value).ownBlock ∧ some k_ ≠ (.slice Ao77 ai.length co77 : Value).ownBlock) s_.2.1 aR) ∧ (Kd.S k110 110 w' w.heap.size (fun k_ => some k_ ≠ (.slice Ao79 az.length co79 : Value).ownBlock ∧ some k_ ≠ (s_.1 : Value).ownBlock ∧ some k_ ≠ (s_.2.1 : Value).ownBlock ∧ some k_ ≠ (.slice Ao76 aj.length co76 : Value).ownBlock ∧ some k_ ≠ (.slice Ao77 ai.length co77 : Value).ownBlock ∧ some k_ ≠ (.slice Ao78 am.length co78 : Value).ownBlock) s_.2.2.1 ba) ∧ (Kd.R (Kd.int .u8) 5 w' w.heap.size (fun k_ => some k_ ≠ (.slice Ao79 az.length co79 : Value).ownBlock ∧ some k_ ≠ (s_.1 : Value).ownBlock ∧ some k_ ≠ (s_.2.1 : Value).ownBlock ∧ some k_ ≠ (.slice Ao77 ai.length co77 : Value).ownBlock) (.slice Ao76 aj.length co76) aj) ∧ (Kd.R (Kd.int .u8) 5 w' w.heap.size (fun k_ => some k_ ≠ (.slice Ao79 az.length co79 : Value).ownBlock ∧ some k_ ≠ (s_.1 : Value).ownBlock ∧ some k_ ≠ (s_.2.1 : Value).ownBlock ∧ some k_ ≠ (.slice Ao76 aj.length co76 : Value).ownBlock) (.slice Ao77 ai.length co77) ai) ∧ (Kd.S k110 110 w' w.heap.size (fun k_ => some k_ ≠ (.slice Ao79 az.length co79 : Value).ownBlock ∧ some k_ ≠ (s_.1 : Value).ownBlock ∧ some k_ ≠ (s_.2.1 : Value).ownBlock ∧ some k_ ≠ (s_.2.2.1 : Value).ownBlock ∧ some k_ ≠ (.slice Ao76 aj.length co76 : Value).ownBlock ∧ some k_ ≠ (.slice Ao77 ai.length co77 : Value).ownBlock) (.slice Ao78 am.length co78) am) ∧ (w'.heap[ap]? = some (.cells #[.slice aT aB.length aY, .slice aU aC.length aW, .int .i64 aF, .int .i64 aE, .int .i64 aD, .slice aX ay.length aZ] 33 (0, 0))) ∧ (w'.heap[gb711]? = some (.cells #[.slice none 0 0, .slice none 0 0, .int .i64 aK, .int .i64 aG, .int .i64 aA, .slice none 0 0] 33 (0, 0))) ∧ (w'.heap[gb738]? = some (.cells #[.slice Ao76 aj.length co76, .slice Ao77 ai.length co77, .int .i64 ar, .int .i64 aq, .int .i64 au, .slice Ao78 am.length co78] 33 (0, 0))) ∧ (w'.heap[s_.2.2.2]? = some (.cells #[.slice none 0 0, .slice none 0 0, .int .i64 0, .int .i64 0, .int .i64 0, .slice none 0 0] 33 (0, 0))) ∧ (w.heap.size ≤ s_.2.2.2) ∧ (w.heap.size ≤ s_.2.2.2) ∧ (ap ≠ s_.2.2.2) ∧ (s_.2.2.2 ≠ ap) ∧ (gb711 ≠ s_.2.2.2) ∧ (s_.2.2.2 ≠ gb711) ∧ (gb738 ≠ s_.2.2.2) ∧ (s_.2.2.2 ≠ gb738) ∧ (Below w.heap.size w w')) ?_ ?_
        rotate_left
        ·intro hCont
         refine two_ (i := 2) (j := 11) (Ni := some 51) (Nj := some 12) #[true, true, true, true, true, true, true, false, false, false, false, false, false, false] #[true, true, false, true, true, true, true, false, false, false, false, true, false, false] rfl rfl rfl rfl (two_of HT_.out (by kernel_rfl)) (by decide) (by decide) (fun K hK => ?_) (fun K hK => ?_)
         ·skip
          refine gG Try.func23 #[.agg #[.slice aT aB.length aY, .slice aU aC.length aW, .int .i64 aF, .int .i64 aE, .int .i64 aD, .slice aX ay.length aZ]] ?_
          with_reducible refine (impl_Spare.calls _ _ aB _ _ aC aF aE aD _ _ ay bb _ ?side1 ?side2 ?side3 ?side4 ?side5 ?side6 A45.out).mono ?_
          (case side1 => have X_ := (Kd.C_below bk.out HB.out); exact TC)
          (case side2 => exact bn.out)
          (case side3 => have X_ := (Kd.C_below bp.out HB.out); exact TC)
          (case side4 => exact bl.out)
          (case side5 => have X_ := (Kd.C_below bm.out HB.out); exact TC)
          (case side6 => exact bo.out)
          rintro e w81 ⟨rfl, hb⟩
          refine ⟨_, rfl, ?_⟩
          have n0_ := aM (Kd.R_below (by have X_ := af.out; exact TR) hb)
          have n1_ := aM (Kd.R_below (by have X_ := ag.out; exact TR) hb)
          have n2_ := aM (Kd.S_below (by have X_ := ah.out; exact TS) hb)
          have n3_ := aM (Kd.R_below (by have X_ := al.out; exact TR) hb)
          have n4_ := aM (blk_below (by have X_ := ab.out; exact TX) hb)
          have n5_ := aM (blk_below (by have X_ := ak.out; exact TX) hb)
          have n6_ := aM (blk_below (by have X_ := ad.out; exact TX) hb)
          have n7_ := aM (below_step TB hb)
          clear af
          clear ag
          clear ah
          clear al
          clear ab
          clear ak
          clear ad
          clear HB
          have af := n0_
          have ag := n1_
          have ah := n2_
          have al := n3_
          have ab := n4_
          have ak := n5_
          have ad := n6_
          have HB := n7_
          clear n0_ n1_ n2_ n3_ n4_ n5_ n6_ n7_
          (try clear hb)
          (try clear hb2)
          (try clear hk)
          (try clear hi)
          refine hK.out _ _ ⟨(blk_cell ad.out 0).trans rfl, (blk_cell ad.out 1).trans rfl, (blk_cell ad.out 2).trans rfl, (blk_cell ad.out 3).trans rfl, (blk_cell ad.out 4).trans rfl, (blk_cell ad.out 5).trans rfl, (blk_cell ab.out 0).trans rfl, (blk_cell ab.out 1).trans rfl, (blk_cell ab.out 2).trans rfl, (blk_cell ab.out 3).trans rfl, (blk_cell ab.out 4).trans rfl, (blk_cell ab.out 5).trans rfl⟩ (fun hHeld => ?_)
          clear hK K
          refine nR ?_
          refine two_ (i := 7) (j := 11) (Ni := some 56) (Nj := some 12) #[true, true, true, true, true, true, true, true, false, false, false, false, false, false] #[true, true, true, true, true, true, true, false, false, false, false, true, false, false] rfl rfl rfl rfl (two_of HT_.out (by kernel_rfl)) (by decide) (by decide) (fun K hK => ?_) (fun K hK => ?_)
          ·skip
           refine gG Try.func79 #[.agg #[.slice Ao76 aj.length co76, .slice Ao77 ai.length co77, .int .i64 ar, .int .i64 aq, .int .i64 au, .slice Ao78 am.length co78], .int .i64 bb, .int .i64 (wrap64 (aN * a2)), .slice Ao79 az.length co79] ?_
           with_reducible refine (impl_PutBytes.calls k2 _ _ aj _ _ ai ar aq au _ _ am bb (wrap64 (aN * a2)) _ _ az aO aR aV a8 a9 ba false _ ?side1 ?side2 ?side3 ?side4 ?side5 ?side6 ?side7 ?side8 A46.out).mono ?_
           (case side1 => have X_ := (Kd.R_reads' af.out).2.2; exact TC)
           (case side2 => exact (Kd.R_reads' af.out).2.1)
           (case side3 => have X_ := (Kd.R_reads' ag.out).2.2; exact TC)
           (case side4 => exact (Kd.R_reads' ag.out).2.1)
           (case side5 => have X_ := (Kd.S_reads' ah.out).2.2; exact TC)
           (case side6 => exact (Kd.S_reads' ah.out).2.1)
           (case side7 => have X_ := (Kd.R_reads' al.out).2.2; exact TC)
           (case side8 => exact (Kd.R_reads' al.out).2.1)
           rintro e w82 ⟨aQ, aS, bf, rfl, ho0, ho1, ho2, hb⟩
           refine ⟨_, rfl, ?_⟩
           have n0_ := aM (Kd.R_mono (Kd.R_told (Kd.R_told (Kd.R_old (by have X_ := af.out; exact TR) hb) (Kd.R_base ho0)) (Kd.R_base ho1)) (fun _ h_ => h_.1))
           have n1_ := aM (Kd.R_mono (Kd.R_told (Kd.R_told (Kd.R_old (by have X_ := ag.out; exact TR) hb) (Kd.R_base ho0)) (Kd.R_base ho1)) (fun _ h_ => h_.1))
           have n2_ := aM (Kd.S_mono (Kd.S_told (Kd.S_told (Kd.S_told (Kd.S_old (by have X_ := ah.out; exact TS) hb) (Kd.R_base ho0)) (Kd.R_base ho1)) (Kd.S_base ho2)) (fun _ h_ => h_.1))
           have n3_ := aM (Kd.R_mono (Kd.R_told (Kd.R_told (Kd.R_old (by have X_ := al.out; exact TR) hb) (Kd.R_base ho0)) (Kd.R_base ho1)) (fun _ h_ => h_.1))
           have n4_ := aM (Kd.R_lower (Kd.R_new' (Kd.R_new' (Kd.R_new' ho0 (Kd.R_lt (by have X_ := af.out; exact TR))) (Kd.R_lt (by have X_ := ag.out; exact TR))) (Kd.R_lt (by have X_ := al.out; exact TR))) (below_size TB))
           have n5_ := aM (Kd.R_lower (Kd.R_new' (Kd.R_new' (Kd.R_new' ho1 (Kd.R_lt (by have X_ := af.out; exact TR))) (Kd.R_lt (by have X_ := ag.out; exact TR))) (Kd.R_lt (by have X_ := al.out; exact TR))) (below_size TB))
           have n6_ := aM (Kd.S_lower (Kd.S_new' (Kd.S_new' (Kd.S_new' (Kd.S_new' ho2 (Kd.R_lt (by have X_ := af.out; exact TR))) (Kd.R_lt (by have X_ := ag.out; exact TR))) (Kd.S_lt (by have X_ := ah.out; exact TS))) (Kd.R_lt (by have X_ := al.out; exact TR))) (below_size TB))
           have n7_ := aM (blk_below (by have X_ := ab.out; exact TX) hb)
           have n8_ := aM (blk_below (by have X_ := ak.out; exact TX) hb)
           have n9_ := aM (blk_below (by have X_ := ad.out; exact TX) hb)
           have aH := aM (below_step TB hb)
           clear af
           clear ag
           clear ah
           clear al
           clear ab
           clear ak
           clear ad
           clear HB
           have af := n0_
           have ag := n1_
           have ah := n2_
           have al := n3_
           have aJ := n4_
           have aI := n5_
           have aL := n6_
           have ab := n7_
           have ak := n8_
           have ad := n9_
           have HB := aH
           clear n0_ n1_ n2_ n3_ n4_ n5_ n6_ n7_ n8_ n9_ aH
           (try clear hb)
           (try clear hb2)
           (try clear hk)
           (try clear hi)
           (try clear ho0)
           (try clear ho1)
           (try clear ho2)
           refine hK.out _ _ ⟨(blk_cell ad.out 0).trans rfl, (blk_cell ad.out 1).trans rfl, (blk_cell ad.out 2).trans rfl, (blk_cell ad.out 3).trans rfl, (blk_cell ad.out 4).trans rfl, (blk_cell ad.out 5).trans rfl, (blk_cell ab.out 0).trans rfl, (blk_cell ab.out 1).trans rfl, (blk_cell ab.out 2).trans rfl, (blk_cell ab.out 3).trans rfl, (blk_cell ab.out 4).trans rfl, (blk_cell ab.out 5).trans rfl⟩ (fun hHeld => ?_)
           clear hK K
           refine nR ?_
           refine pPe 8 (some 48) #[true, true, true, true, true, true, true, true, true, false, false, false, false, false] ?_
           refine pPe 9 (some 57) #[true, true, true, true, true, true, true, true, true, true, false, false, false, false] ?_
           refine pPe 10 (some 58) #[true, true, true, true, true, true, true, true, true, true, true, false, false, false] ?_
           refine pOe 11 (some 12) #[true, true, true, true, true, true, true, true, true, true, true, true, false, false] (fun K hK => ?_)
           refine box_step ?hg (N := 12) ?hd (cs := #[.slice none 0 0, .slice none 0 0, .int .i64 0, .int .i64 0, .int .i64 0, .slice none 0 0]) (t := 33) ?hr ?_; (case hd => rfl); (case hg => rfl); (case hr => first | (go_simp; done) | (go_simp; rfl))
           intro aa hg w83 hbox hb
           have n0_ := aM (Kd.R_below (by have X_ := af.out; exact TR) hb)
           have n1_ := aM (Kd.R_below (by have X_ := ag.out; exact TR) hb)
           have n2_ := aM (Kd.S_below (by have X_ := ah.out; exact TS) hb)
           have n3_ := aM (Kd.R_below (by have X_ := al.out; exact TR) hb)
           have n4_ := aM (Kd.R_below (by have X_ := aJ.out; exact TR) hb)
           have n5_ := aM (Kd.R_below (by have X_ := aI.out; exact TR) hb)
           have n6_ := aM (Kd.S_below (by have X_ := aL.out; exact TS) hb)
           have n7_ := aM (blk_below (by have X_ := ab.out; exact TX) hb)
           have n8_ := aM (blk_below (by have X_ := ak.out; exact TX) hb)
           have n9_ := aM (blk_below (by have X_ := ad.out; exact TX) hb)
           have aH := aM (below_step TB hb)
           have aP := aM (hbox)
           have bd := aM ((by rw [hg]; exact (below_size TB) : w.heap.size ≤ aa))
           have bc := aM ((by rw [hg]; exact (below_size TB) : w.heap.size ≤ aa))
           have bh := aM ((by rw [hg]; exact Nat.ne_of_lt (blk_lt (by have X_ := ab.out; exact TX)) : ap ≠ aa))
           have bg := aM ((by rw [hg]; exact Nat.ne_of_gt (blk_lt (by have X_ := ab.out; exact TX)) : aa ≠ ap))
           have be := aM ((by rw [hg]; exact Nat.ne_of_lt (blk_lt (by have X_ := ak.out; exact TX)) : gb711 ≠ aa))
           have cf := aM ((by rw [hg]; exact Nat.ne_of_gt (blk_lt (by have X_ := ak.out; exact TX)) : aa ≠ gb711))
           have ci := aM ((by rw [hg]; exact Nat.ne_of_lt (blk_lt (by have X_ := ad.out; exact TX)) : gb738 ≠ aa))
           have cc := aM ((by rw [hg]; exact Nat.ne_of_gt (blk_lt (by have X_ := ad.out; exact TX)) : aa ≠ gb738))
           clear af
           clear ag
           clear ah
           clear al
           clear aJ
           clear aI
           clear aL
           clear ab
           clear ak
           clear ad
           clear HB
           have af := n0_
           have ag := n1_
           have ah := n2_
           have al := n3_
           have aJ := n4_
           have aI := n5_
           have aL := n6_
           have ab := n7_
           have ak := n8_
           have ad := n9_
           have HB := aH
           have an := aP
           have bj := bd
           have bi := bc
           have ac := bh
           have av := bg
           have ao := be
           have aw := cf
           have ae := ci
           have ax := cc
           clear n0_ n1_ n2_ n3_ n4_ n5_ n6_ n7_ n8_ n9_ aH aP bd bc bh bg be cf ci cc
           clear hb hbox hg
           refine hK.out _ _ ⟨(blk_cell ad.out 0).trans rfl, (blk_cell ad.out 1).trans rfl, (blk_cell ad.out 2).trans rfl, (blk_cell ad.out 3).trans rfl, (blk_cell ad.out 4).trans rfl, (blk_cell ad.out 5).trans rfl, (blk_cell ab.out 0).trans rfl, (blk_cell ab.out 1).trans rfl, (blk_cell ab.out 2).trans rfl, (blk_cell ab.out 3).trans rfl, (blk_cell ab.out 4).trans rfl, (blk_cell ab.out 5).trans rfl⟩ (fun hHeld => ?_)
           clear hK K
           refine nR ?_
           exact norm_ (by simp only [putAll, Act.put, List.setIfInBounds_toArray, List.set_cons_zero, List.set_cons_succ]) (hCont (aQ, aS, bf, aa) _ ⟨hHeld, (by (with_reducible repeat (first | apply Kd.R_alloc | apply Kd.R_drewN | apply Kd.R_drew)); exact Kd.R_mono al.out (fun _ hk => ⟨hk.1.2, ⟨hk.2, ⟨hk.1.1.1.2, hk.1.1.2⟩⟩⟩)), (by (with_reducible repeat (first | apply Kd.R_alloc | apply Kd.R_drewN | apply Kd.R_drew)); exact Kd.R_mono aJ.out (fun _ hk => ⟨hk.2, ⟨hk.1.1.1, ⟨hk.1.1.2, hk.1.2⟩⟩⟩)), (by (with_reducible repeat (first | apply Kd.R_alloc | apply Kd.R_drewN | apply Kd.R_drew)); exact Kd.R_mono aI.out (fun _ hk => ⟨hk.2, ⟨hk.1.1.1, ⟨hk.1.1.2, hk.1.2⟩⟩⟩)), (by (with_reducible repeat (first | apply Kd.S_alloc | apply Kd.S_drewN | apply Kd.S_drew)); exact Kd.S_mono aL.out (fun _ hk => ⟨hk.2, ⟨hk.1.1.1.1.1, ⟨hk.1.1.1.1.2, ⟨hk.1.1.1.2, ⟨hk.1.1.2, hk.1.2⟩⟩⟩⟩⟩)), (by (with_reducible repeat (first | apply Kd.R_alloc | apply Kd.R_drewN | apply Kd.R_drew)); exact Kd.R_mono af.out (fun _ hk => ⟨hk.1.1.2, ⟨hk.1.2, ⟨hk.2, hk.1.1.1⟩⟩⟩)), (by (with_reducible repeat (first | apply Kd.R_alloc | apply Kd.R_drewN | apply Kd.R_drew)); exact Kd.R_mono ag.out (fun _ hk => ⟨hk.1.1.2, ⟨hk.1.2, ⟨hk.2, hk.1.1.1⟩⟩⟩)), (by (with_reducible repeat (first | apply Kd.S_alloc | apply Kd.S_drewN | apply Kd.S_drew)); exact Kd.S_mono ah.out (fun _ hk => ⟨hk.1.1.1.2, ⟨hk.1.1.2, ⟨hk.1.2, ⟨hk.2, ⟨hk.1.1.1.1.1, hk.1.1.1.1.2⟩⟩⟩⟩⟩)), TK, TK, TK, TK, bj.out, bi.out, ac.out, av.out, ao.out, aw.out, ae.out, ax.out, TB⟩)
          ·skip
           refine box_step ?hg (N := 12) ?hd (cs := #[.slice none 0 0, .slice none 0 0, .int .i64 0, .int .i64 0, .int .i64 0, .slice none 0 0]) (t := 33) ?hr ?_; (case hd => rfl); (case hg => rfl); (case hr => first | (go_simp; done) | (go_simp; rfl))
           intro aa hg w82 hbox hb
           have n0_ := aM (Kd.R_below (by have X_ := af.out; exact TR) hb)
           have n1_ := aM (Kd.R_below (by have X_ := ag.out; exact TR) hb)
           have n2_ := aM (Kd.S_below (by have X_ := ah.out; exact TS) hb)
           have n3_ := aM (Kd.R_below (by have X_ := al.out; exact TR) hb)
           have n4_ := aM (blk_below (by have X_ := ab.out; exact TX) hb)
           have n5_ := aM (blk_below (by have X_ := ak.out; exact TX) hb)
           have n6_ := aM (blk_below (by have X_ := ad.out; exact TX) hb)
           have n7_ := aM (below_step TB hb)
           have n8_ := aM (hbox)
           have n9_ := aM ((by rw [hg]; exact (below_size TB) : w.heap.size ≤ aa))
           have aH := aM ((by rw [hg]; exact (below_size TB) : w.heap.size ≤ aa))
           have aP := aM ((by rw [hg]; exact Nat.ne_of_lt (blk_lt (by have X_ := ab.out; exact TX)) : ap ≠ aa))
           have bd := aM ((by rw [hg]; exact Nat.ne_of_gt (blk_lt (by have X_ := ab.out; exact TX)) : aa ≠ ap))
           have bc := aM ((by rw [hg]; exact Nat.ne_of_lt (blk_lt (by have X_ := ak.out; exact TX)) : gb711 ≠ aa))
           have bh := aM ((by rw [hg]; exact Nat.ne_of_gt (blk_lt (by have X_ := ak.out; exact TX)) : aa ≠ gb711))
           have bg := aM ((by rw [hg]; exact Nat.ne_of_lt (blk_lt (by have X_ := ad.out; exact TX)) : gb738 ≠ aa))
           have be := aM ((by rw [hg]; exact Nat.ne_of_gt (blk_lt (by have X_ := ad.out; exact TX)) : aa ≠ gb738))
           clear af
           clear ag
           clear ah
           clear al
           clear ab
           clear ak
           clear ad
           clear HB
           have af := n0_
           have ag := n1_
           have ah := n2_
           have al := n3_
           have ab := n4_
           have ak := n5_
           have ad := n6_
           have HB := n7_
           have an := n8_
           have bj := n9_
           have bi := aH
           have ac := aP
           have av := bd
           have ao := bc
           have aw := bh
           have ae := bg
           have ax := be
           clear n0_ n1_ n2_ n3_ n4_ n5_ n6_ n7_ n8_ n9_ aH aP bd bc bh bg be
           clear hb hbox hg
           refine hK.out _ _ ⟨(blk_cell ad.out 0).trans rfl, (blk_cell ad.out 1).trans rfl, (blk_cell ad.out 2).trans rfl, (blk_cell ad.out 3).trans rfl, (blk_cell ad.out 4).trans rfl, (blk_cell ad.out 5).trans rfl, (blk_cell ab.out 0).trans rfl, (blk_cell ab.out 1).trans rfl, (blk_cell ab.out 2).trans rfl, (blk_cell ab.out 3).trans rfl, (blk_cell ab.out 4).trans rfl, (blk_cell ab.out 5).trans rfl⟩ (fun hHeld => ?_)
           clear hK K
           refine nR ?_
           refine pOe 7 (some 56) #[true, true, true, true, true, true, true, true, false, false, false, true, false, false] (fun K hK => ?_)
           refine gG Try.func79 #[.agg #[.slice Ao76 aj.length co76, .slice Ao77 ai.length co77, .int .i64 ar, .int .i64 aq, .int .i64 au, .slice Ao78 am.length co78], .int .i64 bb, .int .i64 (wrap64 (aN * a2)), .slice Ao79 az.length co79] ?_
           with_reducible refine (impl_PutBytes.calls k2 _ _ aj _ _ ai ar aq au _ _ am bb (wrap64 (aN * a2)) _ _ az aO aR aV a8 a9 ba false _ ?side1 ?side2 ?side3 ?side4 ?side5 ?side6 ?side7 ?side8 A46.out).mono ?_
           (case side1 => have X_ := (Kd.R_reads' af.out).2.2; exact TC)
           (case side2 => exact (Kd.R_reads' af.out).2.1)
           (case side3 => have X_ := (Kd.R_reads' ag.out).2.2; exact TC)
           (case side4 => exact (Kd.R_reads' ag.out).2.1)
           (case side5 => have X_ := (Kd.S_reads' ah.out).2.2; exact TC)
           (case side6 => exact (Kd.S_reads' ah.out).2.1)
           (case side7 => have X_ := (Kd.R_reads' al.out).2.2; exact TC)
           (case side8 => exact (Kd.R_reads' al.out).2.1)
           rintro e w83 ⟨aQ, aS, bf, rfl, ho0, ho1, ho2, hb⟩
           refine ⟨_, rfl, ?_⟩
           have n0_ := aM (Kd.R_mono (Kd.R_told (Kd.R_told (Kd.R_old (by have X_ := af.out; exact TR) hb) (Kd.R_base ho0)) (Kd.R_base ho1)) (fun _ h_ => h_.1))
           have n1_ := aM (Kd.R_mono (Kd.R_told (Kd.R_told (Kd.R_old (by have X_ := ag.out; exact TR) hb) (Kd.R_base ho0)) (Kd.R_base ho1)) (fun _ h_ => h_.1))
           have n2_ := aM (Kd.S_mono (Kd.S_told (Kd.S_told (Kd.S_told (Kd.S_old (by have X_ := ah.out; exact TS) hb) (Kd.R_base ho0)) (Kd.R_base ho1)) (Kd.S_base ho2)) (fun _ h_ => h_.1))
           have n3_ := aM (Kd.R_mono (Kd.R_told (Kd.R_told (Kd.R_old (by have X_ := al.out; exact TR) hb) (Kd.R_base ho0)) (Kd.R_base ho1)) (fun _ h_ => h_.1))
           have n4_ := aM (Kd.R_lower (Kd.R_new' (Kd.R_new' (Kd.R_new' ho0 (Kd.R_lt (by have X_ := af.out; exact TR))) (Kd.R_lt (by have X_ := ag.out; exact TR))) (Kd.R_lt (by have X_ := al.out; exact TR))) (below_size TB))
           have n5_ := aM (Kd.R_lower (Kd.R_new' (Kd.R_new' (Kd.R_new' ho1 (Kd.R_lt (by have X_ := af.out; exact TR))) (Kd.R_lt (by have X_ := ag.out; exact TR))) (Kd.R_lt (by have X_ := al.out; exact TR))) (below_size TB))
           have n6_ := aM (Kd.S_lower (Kd.S_new' (Kd.S_new' (Kd.S_new' (Kd.S_new' ho2 (Kd.R_lt (by have X_ := af.out; exact TR))) (Kd.R_lt (by have X_ := ag.out; exact TR))) (Kd.S_lt (by have X_ := ah.out; exact TS))) (Kd.R_lt (by have X_ := al.out; exact TR))) (below_size TB))
           have n7_ := aM (blk_below (by have X_ := ab.out; exact TX) hb)
           have n8_ := aM (blk_below (by have X_ := ak.out; exact TX) hb)
           have n9_ := aM (blk_below (by have X_ := ad.out; exact TX) hb)
           have aH := aM (blk_below (by have X_ := an.out; exact TX) hb)
           have aP := aM (below_step TB hb)
           clear af
           clear ag
           clear ah
           clear al
           clear ab
           clear ak
           clear ad
           clear an
           clear HB
           have af := n0_
           have ag := n1_
           have ah := n2_
           have al := n3_
           have aJ := n4_
           have aI := n5_
           have aL := n6_
           have ab := n7_
           have ak := n8_
           have ad := n9_
           have an := aH
           have HB := aP
           clear n0_ n1_ n2_ n3_ n4_ n5_ n6_ n7_ n8_ n9_ aH aP
           (try clear hb)
           (try clear hb2)
           (try clear hk)
           (try clear hi)
           (try clear ho0)
           (try clear ho1)
           (try clear ho2)
           refine hK.out _ _ ⟨(blk_cell ad.out 0).trans rfl, (blk_cell ad.out 1).trans rfl, (blk_cell ad.out 2).trans rfl, (blk_cell ad.out 3).trans rfl, (blk_cell ad.out 4).trans rfl, (blk_cell ad.out 5).trans rfl, (blk_cell ab.out 0).trans rfl, (blk_cell ab.out 1).trans rfl, (blk_cell ab.out 2).trans rfl, (blk_cell ab.out 3).trans rfl, (blk_cell ab.out 4).trans rfl, (blk_cell ab.out 5).trans rfl⟩ (fun hHeld => ?_)
           clear hK K
           refine nR ?_
           refine pPe 8 (some 48) #[true, true, true, true, true, true, true, true, true, false, false, true, false, false] ?_
           refine pPe 9 (some 57) #[true, true, true, true, true, true, true, true, true, true, false, true, false, false] ?_
           refine pPe 10 (some 58) #[true, true, true, true, true, true, true, true, true, true, true, true, false, false] ?_
           exact norm_ (by simp only [putAll, Act.put, List.setIfInBounds_toArray, List.set_cons_zero, List.set_cons_succ]) (hCont (aQ, aS, bf, aa) _ ⟨hHeld, (by (with_reducible repeat (first | apply Kd.R_alloc | apply Kd.R_drewN | apply Kd.R_drew)); exact Kd.R_mono al.out (fun _ hk => ⟨hk.1.2, ⟨hk.2, ⟨hk.1.1.1.2, hk.1.1.2⟩⟩⟩)), (by (with_reducible repeat (first | apply Kd.R_alloc | apply Kd.R_drewN | apply Kd.R_drew)); exact Kd.R_mono aJ.out (fun _ hk => ⟨hk.2, ⟨hk.1.1.1, ⟨hk.1.1.2, hk.1.2⟩⟩⟩)), (by (with_reducible repeat (first | apply Kd.R_alloc | apply Kd.R_drewN | apply Kd.R_drew)); exact Kd.R_mono aI.out (fun _ hk => ⟨hk.2, ⟨hk.1.1.1, ⟨hk.1.1.2, hk.1.2⟩⟩⟩)), (by (with_reducible repeat (first | apply Kd.S_alloc | apply Kd.S_drewN | apply Kd.S_drew)); exact Kd.S_mono aL.out (fun _ hk => ⟨hk.2, ⟨hk.1.1.1.1.1, ⟨hk.1.1.1.1.2, ⟨hk.1.1.1.2, ⟨hk.1.1.2, hk.1.2⟩⟩⟩⟩⟩)), (by (with_reducible repeat (first | apply Kd.R_alloc | apply Kd.R_drewN | apply Kd.R_drew)); exact Kd.R_mono af.out (fun _ hk => ⟨hk.1.1.2, ⟨hk.1.2, ⟨hk.2, hk.1.1.1⟩⟩⟩)), (by (with_reducible repeat (first | apply Kd.R_alloc | apply Kd.R_drewN | apply Kd.R_drew)); exact Kd.R_mono ag.out (fun _ hk => ⟨hk.1.1.2, ⟨hk.1.2, ⟨hk.2, hk.1.1.1⟩⟩⟩)), (by (with_reducible repeat (first | apply Kd.S_alloc | apply Kd.S_drewN | apply Kd.S_drew)); exact Kd.S_mono ah.out (fun _ hk => ⟨hk.1.1.1.2, ⟨hk.1.1.2, ⟨hk.1.2, ⟨hk.2, ⟨hk.1.1.1.1.1, hk.1.1.1.1.2⟩⟩⟩⟩⟩)), TK, TK, TK, TK, bj.out, bi.out, ac.out, av.out, ao.out, aw.out, ae.out, ax.out, TB⟩)
         ·skip
          refine box_step ?hg (N := 12) ?hd (cs := #[.slice none 0 0, .slice none 0 0, .int .i64 0, .int .i64 0, .int .i64 0, .slice none 0 0]) (t := 33) ?hr ?_; (case hd => rfl); (case hg => rfl); (case hr => first | (go_simp; done) | (go_simp; rfl))
          intro aa hg w81 hbox hb
          have n0_ := aM (Kd.R_below (by have X_ := af.out; exact TR) hb)
          have n1_ := aM (Kd.R_below (by have X_ := ag.out; exact TR) hb)
          have n2_ := aM (Kd.S_below (by have X_ := ah.out; exact TS) hb)
          have n3_ := aM (Kd.R_below (by have X_ := al.out; exact TR) hb)
          have n4_ := aM (blk_below (by have X_ := ab.out; exact TX) hb)
          have n5_ := aM (blk_below (by have X_ := ak.out; exact TX) hb)
          have n6_ := aM (blk_below (by have X_ := ad.out; exact TX) hb)
          have n7_ := aM (below_step TB hb)
          have n8_ := aM (hbox)
          have n9_ := aM ((by rw [hg]; exact (below_size TB) : w.heap.size ≤ aa))
          have aH := aM ((by rw [hg]; exact (below_size TB) : w.heap.size ≤ aa))
          have aP := aM ((by rw [hg]; exact Nat.ne_of_lt (blk_lt (by have X_ := ab.out; exact TX)) : ap ≠ aa))
          have bd := aM ((by rw [hg]; exact Nat.ne_of_gt (blk_lt (by have X_ := ab.out; exact TX)) : aa ≠ ap))
          have bc := aM ((by rw [hg]; exact Nat.ne_of_lt (blk_lt (by have X_ := ak.out; exact TX)) : gb711 ≠ aa))
          have bh := aM ((by rw [hg]; exact Nat.ne_of_gt (blk_lt (by have X_ := ak.out; exact TX)) : aa ≠ gb711))
          have bg := aM ((by rw [hg]; exact Nat.ne_of_lt (blk_lt (by have X_ := ad.out; exact TX)) : gb738 ≠ aa))
          have be := aM ((by rw [hg]; exact Nat.ne_of_gt (blk_lt (by have X_ := ad.out; exact TX)) : aa ≠ gb738))
          clear af
          clear ag
          clear ah
          clear al
          clear ab
          clear ak
          clear ad
          clear HB
          have af := n0_
          have ag := n1_
          have ah := n2_
          have al := n3_
          have ab := n4_
          have ak := n5_
          have ad := n6_
          have HB := n7_
          have an := n8_
          have bj := n9_
          have bi := aH
          have ac := aP
          have av := bd
          have ao := bc
          have aw := bh
          have ae := bg
          have ax := be
          clear n0_ n1_ n2_ n3_ n4_ n5_ n6_ n7_ n8_ n9_ aH aP bd bc bh bg be
          clear hb hbox hg
          refine hK.out _ _ ⟨(blk_cell ad.out 0).trans rfl, (blk_cell ad.out 1).trans rfl, (blk_cell ad.out 2).trans rfl, (blk_cell ad.out 3).trans rfl, (blk_cell ad.out 4).trans rfl, (blk_cell ad.out 5).trans rfl, (blk_cell ab.out 0).trans rfl, (blk_cell ab.out 1).trans rfl, (blk_cell ab.out 2).trans rfl, (blk_cell ab.out 3).trans rfl, (blk_cell ab.out 4).trans rfl, (blk_cell ab.out 5).trans rfl⟩ (fun hHeld => ?_)
          clear hK K
          refine nR ?_
          refine pOe 2 (some 51) #[true, true, true, true, true, true, true, false, false, false, false, true, false, false] (fun K hK => ?_)
          refine gG Try.func23 #[.agg #[.slice aT aB.length aY, .slice aU aC.length aW, .int .i64 aF, .int .i64 aE, .int .i64 aD, .slice aX ay.length aZ]] ?_
          with_reducible refine (impl_Spare.calls _ _ aB _ _ aC aF aE aD _ _ ay bb _ ?side1 ?side2 ?side3 ?side4 ?side5 ?side6 A45.out).mono ?_
          (case side1 => have X_ := (Kd.C_below bk.out HB.out); exact TC)
          (case side2 => exact bn.out)
          (case side3 => have X_ := (Kd.C_below bp.out HB.out); exact TC)
          (case side4 => exact bl.out)
          (case side5 => have X_ := (Kd.C_below bm.out HB.out); exact TC)
          (case side6 => exact bo.out)
          rintro e w82 ⟨rfl, hb⟩
          refine ⟨_, rfl, ?_⟩
          have n0_ := aM (Kd.R_below (by have X_ := af.out; exact TR) hb)
          have n1_ := aM (Kd.R_below (by have X_ := ag.out; exact TR) hb)
          have n2_ := aM (Kd.S_below (by have X_ := ah.out; exact TS) hb)
          have n3_ := aM (Kd.R_below (by have X_ := al.out; exact TR) hb)
          have n4_ := aM (blk_below (by have X_ := ab.out; exact TX) hb)
          have n5_ := aM (blk_below (by have X_ := ak.out; exact TX) hb)
          have n6_ := aM (blk_below (by have X_ := ad.out; exact TX) hb)
          have n7_ := aM (blk_below (by have X_ := an.out; exact TX) hb)
          have n8_ := aM (below_step TB hb)
          clear af
          clear ag
          clear ah
          clear al
          clear ab
          clear ak
          clear ad
          clear an
          clear HB
          have af := n0_
          have ag := n1_
          have ah := n2_
          have al := n3_
          have ab := n4_
          have ak := n5_
          have ad := n6_
          have an := n7_
          have HB := n8_
          clear n0_ n1_ n2_ n3_ n4_ n5_ n6_ n7_ n8_
          (try clear hb)
          (try clear hb2)
          (try clear hk)
          (try clear hi)
          refine hK.out _ _ ⟨(blk_cell ad.out 0).trans rfl, (blk_cell ad.out 1).trans rfl, (blk_cell ad.out 2).trans rfl, (blk_cell ad.out 3).trans rfl, (blk_cell ad.out 4).trans rfl, (blk_cell ad.out 5).trans rfl, (blk_cell ab.out 0).trans rfl, (blk_cell ab.out 1).trans rfl, (blk_cell ab.out 2).trans rfl, (blk_cell ab.out 3).trans rfl, (blk_cell ab.out 4).trans rfl, (blk_cell ab.out 5).trans rfl⟩ (fun hHeld => ?_)
          clear hK K
          refine nR ?_
          refine pOe 7 (some 56) #[true, true, true, true, true, true, true, true, false, false, false, true, false, false] (fun K hK => ?_)
          refine gG Try.func79 #[.agg #[.slice Ao76 aj.length co76, .slice Ao77 ai.length co77, .int .i64 ar, .int .i64 aq, .int .i64 au, .slice Ao78 am.length co78], .int .i64 bb, .int .i64 (wrap64 (aN * a2)), .slice Ao79 az.length co79] ?_
          with_reducible refine (impl_PutBytes.calls k2 _ _ aj _ _ ai ar aq au _ _ am bb (wrap64 (aN * a2)) _ _ az aO aR aV a8 a9 ba false _ ?side1 ?side2 ?side3 ?side4 ?side5 ?side6 ?side7 ?side8 A46.out).mono ?_
          (case side1 => have X_ := (Kd.R_reads' af.out).2.2; exact TC)
          (case side2 => exact (Kd.R_reads' af.out).2.1)
          (case side3 => have X_ := (Kd.R_reads' ag.out).2.2; exact TC)
          (case side4 => exact (Kd.R_reads' ag.out).2.1)
          (case side5 => have X_ := (Kd.S_reads' ah.out).2.2; exact TC)
          (case side6 => exact (Kd.S_reads' ah.out).2.1)
          (case side7 => have X_ := (Kd.R_reads' al.out).2.2; exact TC)
          (case side8 => exact (Kd.R_reads' al.out).2.1)
          rintro e w83 ⟨aQ, aS, bf, rfl, ho0, ho1, ho2, hb⟩
          refine ⟨_, rfl, ?_⟩
          have n0_ := aM (Kd.R_mono (Kd.R_told (Kd.R_told (Kd.R_old (by have X_ := af.out; exact TR) hb) (Kd.R_base ho0)) (Kd.R_base ho1)) (fun _ h_ => h_.1))
          have n1_ := aM (Kd.R_mono (Kd.R_told (Kd.R_told (Kd.R_old (by have X_ := ag.out; exact TR) hb) (Kd.R_base ho0)) (Kd.R_base ho1)) (fun _ h_ => h_.1))
          have n2_ := aM (Kd.S_mono (Kd.S_told (Kd.S_told (Kd.S_told (Kd.S_old (by have X_ := ah.out; exact TS) hb) (Kd.R_base ho0)) (Kd.R_base ho1)) (Kd.S_base ho2)) (fun _ h_ => h_.1))
          have n3_ := aM (Kd.R_mono (Kd.R_told (Kd.R_told (Kd.R_old (by have X_ := al.out; exact TR) hb) (Kd.R_base ho0)) (Kd.R_base ho1)) (fun _ h_ => h_.1))
          have n4_ := aM (Kd.R_lower (Kd.R_new' (Kd.R_new' (Kd.R_new' ho0 (Kd.R_lt (by have X_ := af.out; exact TR))) (Kd.R_lt (by have X_ := ag.out; exact TR))) (Kd.R_lt (by have X_ := al.out; exact TR))) (below_size TB))
          have n5_ := aM (Kd.R_lower (Kd.R_new' (Kd.R_new' (Kd.R_new' ho1 (Kd.R_lt (by have X_ := af.out; exact TR))) (Kd.R_lt (by have X_ := ag.out; exact TR))) (Kd.R_lt (by have X_ := al.out; exact TR))) (below_size TB))
          have n6_ := aM (Kd.S_lower (Kd.S_new' (Kd.S_new' (Kd.S_new' (Kd.S_new' ho2 (Kd.R_lt (by have X_ := af.out; exact TR))) (Kd.R_lt (by have X_ := ag.out; exact TR))) (Kd.S_lt (by have X_ := ah.out; exact TS))) (Kd.R_lt (by have X_ := al.out; exact TR))) (below_size TB))
          have n7_ := aM (blk_below (by have X_ := ab.out; exact TX) hb)
          have n8_ := aM (blk_below (by have X_ := ak.out; exact TX) hb)
          have n9_ := aM (blk_below (by have X_ := ad.out; exact TX) hb)
          have aH := aM (blk_below (by have X_ := an.out; exact TX) hb)
          have aP := aM (below_step TB hb)
          clear af
          clear ag
          clear ah
          clear al
          clear ab
          clear ak
          clear ad
          clear an
          clear HB
          have af := n0_
          have ag := n1_
          have ah := n2_
          have al := n3_
          have aJ := n4_
          have aI := n5_
          have aL := n6_
          have ab := n7_
          have ak := n8_
          have ad := n9_
          have an := aH
          have HB := aP
          clear n0_ n1_ n2_ n3_ n4_ n5_ n6_ n7_ n8_ n9_ aH aP
          (try clear hb)
          (try clear hb2)
          (try clear hk)
          (try clear hi)
          (try clear ho0)
          (try clear ho1)
          (try clear ho2)
          refine hK.out _ _ ⟨(blk_cell ad.out 0).trans rfl, (blk_cell ad.out 1).trans rfl, (blk_cell ad.out 2).trans rfl, (blk_cell ad.out 3).trans rfl, (blk_cell ad.out 4).trans rfl, (blk_cell ad.out 5).trans rfl, (blk_cell ab.out 0).trans rfl, (blk_cell ab.out 1).trans rfl, (blk_cell ab.out 2).trans rfl, (blk_cell ab.out 3).trans rfl, (blk_cell ab.out 4).trans rfl, (blk_cell ab.out 5).trans rfl⟩ (fun hHeld => ?_)
          clear hK K
          refine nR ?_
          refine pPe 8 (some 48) #[true, true, true, true, true, true, true, true, true, false, false, true, false, false] ?_
          refine pPe 9 (some 57) #[true, true, true, true, true, true, true, true, true, true, false, true, false, false] ?_
          refine pPe 10 (some 58) #[true, true, true, true, true, true, true, true, true, true, true, true, false, false] ?_
          exact norm_ (by simp only [putAll, Act.put, List.setIfInBounds_toArray, List.set_cons_zero, List.set_cons_succ]) (hCont (aQ, aS, bf, aa) _ ⟨hHeld, (by (with_reducible repeat (first | apply Kd.R_alloc | apply Kd.R_drewN | apply Kd.R_drew)); exact Kd.R_mono al.out (fun _ hk => ⟨hk.1.2, ⟨hk.2, ⟨hk.1.1.1.2, hk.1.1.2⟩⟩⟩)), (by (with_reducible repeat (first | apply Kd.R_alloc | apply Kd.R_drewN | apply Kd.R_drew)); exact Kd.R_mono aJ.out (fun _ hk => ⟨hk.2, ⟨hk.1.1.1, ⟨hk.1.1.2, hk.1.2⟩⟩⟩)), (by (with_reducible repeat (first | apply Kd.R_alloc | apply Kd.R_drewN | apply Kd.R_drew)); exact Kd.R_mono aI.out (fun _ hk => ⟨hk.2, ⟨hk.1.1.1, ⟨hk.1.1.2, hk.1.2⟩⟩⟩)), (by (with_reducible repeat (first | apply Kd.S_alloc | apply Kd.S_drewN | apply Kd.S_drew)); exact Kd.S_mono aL.out (fun _ hk => ⟨hk.2, ⟨hk.1.1.1.1.1, ⟨hk.1.1.1.1.2, ⟨hk.1.1.1.2, ⟨hk.1.1.2, hk.1.2⟩⟩⟩⟩⟩)), (by (with_reducible repeat (first | apply Kd.R_alloc | apply Kd.R_drewN | apply Kd.R_drew)); exact Kd.R_mono af.out (fun _ hk => ⟨hk.1.1.2, ⟨hk.1.2, ⟨hk.2, hk.1.1.1⟩⟩⟩)), (by (with_reducible repeat (first | apply Kd.R_alloc | apply Kd.R_drewN | apply Kd.R_drew)); exact Kd.R_mono ag.out (fun _ hk => ⟨hk.1.1.2, ⟨hk.1.2, ⟨hk.2, hk.1.1.1⟩⟩⟩)), (by (with_reducible repeat (first | apply Kd.S_alloc | apply Kd.S_drewN | apply Kd.S_drew)); exact Kd.S_mono ah.out (fun _ hk => ⟨hk.1.1.1.2, ⟨hk.1.1.2, ⟨hk.1.2, ⟨hk.2, ⟨hk.1.1.1.1.1, hk.1.1.1.1.2⟩⟩⟩⟩⟩)), TK, TK, TK, TK, bj.out, bi.out, ac.out, av.out, ao.out, aw.out, ae.out, ax.out, TB⟩)
        rintro ⟨aQ, aS, bf, aa⟩ w84 ⟨hS_, h0_, h1_, h2_, h3_, h4_, h5_, h6_, h7_, h8_, h9_, cb, cd, ce, b9, b4, b8, b2, ca, b7, b1⟩
        clear af ag ah al ab ak ad HB
        have al : Aside0 (Kd.R (Kd.int .u8) 5 w84 w.heap.size (fun k_ => some k_ ≠ (aQ : Value).ownBlock ∧ some k_ ≠ (aS : Value).ownBlock ∧ some k_ ≠ (.slice Ao76 aj.length co76 : Value).ownBlock ∧ some k_ ≠ (.slice Ao77 ai.length co77 : Value).ownBlock) (.slice Ao79 az.length co79) az) := ⟨h0_⟩
        have aJ : Aside0 (Kd.R (Kd.int .u8) 5 w84 w.heap.size (fun k_ => some k_ ≠ (.slice Ao79 az.length co79 : Value).ownBlock ∧ some k_ ≠ (aS : Value).ownBlock ∧ some k_ ≠ (.slice Ao76 aj.length co76 : Value).ownBlock ∧ some k_ ≠ (.slice Ao77 ai.length co77 : Value).ownBlock) aQ aO) := ⟨h1_⟩
        have aI : Aside0 (Kd.R (Kd.int .u8) 5 w84 w.heap.size (fun k_ => some k_ ≠ (.slice Ao79 az.length co79 : Value).ownBlock ∧ some k_ ≠ (aQ : Value).ownBlock ∧ some k_ ≠ (.slice Ao76 aj.length co76 : Value).ownBlock ∧ some k_ ≠ (.slice Ao77 ai.length co77 : Value).ownBlock) aS aR) := ⟨h2_⟩
        have aL : Aside0 (Kd.S k110 110 w84 w.heap.size (fun k_ => some k_ ≠ (.slice Ao79 az.length co79 : Value).ownBlock ∧ some k_ ≠ (aQ : Value).ownBlock ∧ some k_ ≠ (aS : Value).ownBlock ∧ some k_ ≠ (.slice Ao76 aj.length co76 : Value).ownBlock ∧ some k_ ≠ (.slice Ao77 ai.length co77 : Value).ownBlock ∧ some k_ ≠ (.slice Ao78 am.length co78 : Value).ownBlock) bf ba) := ⟨h3_⟩
        have af : Aside0 (Kd.R (Kd.int .u8) 5 w84 w.heap.size (fun k_ => some k_ ≠ (.slice Ao79 az.length co79 : Value).ownBlock ∧ some k_ ≠ (aQ : Value).ownBlock ∧ some k_ ≠ (aS : Value).ownBlock ∧ some k_ ≠ (.slice Ao77 ai.length co77 : Value).ownBlock) (.slice Ao76 aj.length co76) aj) := ⟨h4_⟩
        have ag : Aside0 (Kd.R (Kd.int .u8) 5 w84 w.heap.size (fun k_ => some k_ ≠ (.slice Ao79 az.length co79 : Value).ownBlock ∧ some k_ ≠ (aQ : Value).ownBlock ∧ some k_ ≠ (aS : Value).ownBlock ∧ some k_ ≠ (.slice Ao76 aj.length co76 : Value).ownBlock) (.slice Ao77 ai.length co77) ai) := ⟨h5_⟩
        have ah : Aside0 (Kd.S k110 110 w84 w.heap.size (fun k_ => some k_ ≠ (.slice Ao79 az.length co79 : Value).ownBlock ∧ some k_ ≠ (aQ : Value).ownBlock ∧ some k_ ≠ (aS : Value).ownBlock ∧ some k_ ≠ (bf : Value).ownBlock ∧ some k_ ≠ (.slice Ao76 aj.length co76 : Value).ownBlock ∧ some k_ ≠ (.slice Ao77 ai.length co77 : Value).ownBlock) (.slice Ao78 am.length co78) am) := ⟨h6_⟩
        have ab : Aside0 (w84.heap[ap]? = some (.cells #[.slice aT aB.length aY, .slice aU aC.length aW, .int .i64 aF, .int .i64 aE, .int .i64 aD, .slice aX ay.length aZ] 33 (0, 0))) := ⟨h7_⟩
        have ak : Aside0 (w84.heap[gb711]? = some (.cells #[.slice none 0 0, .slice none 0 0, .int .i64 aK, .int .i64 aG, .int .i64 aA, .slice none 0 0] 33 (0, 0))) := ⟨h8_⟩
        have ad : Aside0 (w84.heap[gb738]? = some (.cells #[.slice Ao76 aj.length co76, .slice Ao77 ai.length co77, .int .i64 ar, .int .i64 aq, .int .i64 au, .slice Ao78 am.length co78] 33 (0, 0))) := ⟨h9_⟩
        have an : Aside0 (w84.heap[aa]? = some (.cells #[.slice none 0 0, .slice none 0 0, .int .i64 0, .int .i64 0, .int .i64 0, .slice none 0 0] 33 (0, 0))) := ⟨cb⟩
        have bj : Aside0 (w.heap.size ≤ aa) := ⟨cd⟩
        have bi : Aside0 (w.heap.size ≤ aa) := ⟨ce⟩
        have ac : Aside0 (ap ≠ aa) := ⟨b9⟩
        have av : Aside0 (aa ≠ ap) := ⟨b4⟩
        have ao : Aside0 (gb711 ≠ aa) := ⟨b8⟩
        have aw : Aside0 (aa ≠ gb711) := ⟨b2⟩
        have ae : Aside0 (gb738 ≠ aa) := ⟨ca⟩
        have ax : Aside0 (aa ≠ gb738) := ⟨b7⟩
        have HB : Aside0 (Below w.heap.size w w84) := ⟨b1⟩
        clear h0_ h1_ h2_ h3_ h4_ h5_ h6_ h7_ h8_ h9_ cb cd ce b9 b4 b8 b2 ca b7 b1
        have hHeld : w84.cell? ⟨gb738, 0, none⟩ = some (.slice Ao76 aj.length co76) ∧ w84.cell? ⟨gb738, 1, none⟩ = some (.slice Ao77 ai.length co77) ∧ w84.cell? ⟨gb738, 2, none⟩ = some (.int .i64 ar) ∧ w84.cell? ⟨gb738, 3, none⟩ = some (.int .i64 aq) ∧ w84.cell? ⟨gb738, 4, none⟩ = some (.int .i64 au) ∧ w84.cell? ⟨gb738, 5, none⟩ = some (.slice Ao78 am.length co78) ∧ w84.cell? ⟨ap, 0, none⟩ = some (.slice aT aB.length aY) ∧ w84.cell? ⟨ap, 1, none⟩ = some (.slice aU aC.length aW) ∧ w84.cell? ⟨ap, 2, none⟩ = some (.int .i64 aF) ∧ w84.cell? ⟨ap, 3, none⟩ = some (.int .i64 aE) ∧ w84.cell? ⟨ap, 4, none⟩ = some (.int .i64 aD) ∧ w84.cell? ⟨ap, 5, none⟩ = some (.slice aX ay.length aZ) := hS_
        obtain ⟨bT, bX, eo85⟩ := Kd.R_slice aJ.out
        (first | subst eo85 | (injection eo85 with f1_ f2_ f3_; have f4_ := f1_.symm; have f5_ := f3_.symm; clear f1_ f2_ f3_; subst f4_; subst f5_))
        obtain ⟨cg, b3, eo87⟩ := Kd.R_slice aI.out
        (first | subst eo87 | (injection eo87 with f1_ f2_ f3_; have f4_ := f1_.symm; have f5_ := f3_.symm; clear f1_ f2_ f3_; subst f4_; subst f5_))
        obtain ⟨Ao92, co92, eo92⟩ := Kd.S_slice aL.out
        (first | subst eo92 | (injection eo92 with f1_ f2_ f3_; have f4_ := f1_.symm; have f5_ := f3_.symm; clear f1_ f2_ f3_; subst f4_; subst f5_))
        refine norm_ (a' := ?_) ?_ ?_
        rotate_left
        ·simp only [putAll, Act.put, List.setIfInBounds_toArray, List.set_cons_zero, List.set_cons_succ]
         rfl
        refine pOe 12 none #[true, true, true, true, true, true, true, true, true, true, true, true, true, false] (fun K hK => ?_)
        have hs86 : w84.cell? ⟨aa, 0, none⟩ = some (.slice none 0 0) := (blk_cell an.out 0).trans rfl
        have hfs86 := blk_frozen an.out 0
        have hns86_0 := ac.out
        have hns86_1 := ao.out
        have hns86_2 := ae.out
        have hms86_0 := av.out
        have hms86_1 := aw.out
        have hms86_2 := ax.out
        have hs88 : w84.cell? ⟨aa, 1, none⟩ = some (.slice none 0 0) := (blk_cell an.out 1).trans rfl
        have hfs88 := blk_frozen an.out 1
        have hns88_0 := ac.out
        have hns88_1 := ao.out
        have hns88_2 := ae.out
        have hms88_0 := av.out
        have hms88_1 := aw.out
        have hms88_2 := ax.out
        have hs89 : w84.cell? ⟨aa, 2, none⟩ = some (.int .i64 0) := (blk_cell an.out 2).trans rfl
        have hfs89 := blk_frozen an.out 2
        have hns89_0 := ac.out
        have hns89_1 := ao.out
        have hns89_2 := ae.out
        have hms89_0 := av.out
        have hms89_1 := aw.out
        have hms89_2 := ax.out
        have hs90 : w84.cell? ⟨aa, 3, none⟩ = some (.int .i64 0) := (blk_cell an.out 3).trans rfl
        have hfs90 := blk_frozen an.out 3
        have hns90_0 := ac.out
        have hns90_1 := ao.out
        have hns90_2 := ae.out
        have hms90_0 := av.out
        have hms90_1 := aw.out
        have hms90_2 := ax.out
        have hs91 : w84.cell? ⟨aa, 4, none⟩ = some (.int .i64 0) := (blk_cell an.out 4).trans rfl
        have hfs91 := blk_frozen an.out 4
        have hns91_0 := ac.out
        have hns91_1 := ao.out
        have hns91_2 := ae.out
        have hms91_0 := av.out
        have hms91_1 := aw.out
        have hms91_2 := ax.out
        have hs93 : w84.cell? ⟨aa, 5, none⟩ = some (.slice none 0 0) := (blk_cell an.out 5).trans rfl
        have hfs93 := blk_frozen an.out 5
        have hns93_0 := ac.out
        have hns93_1 := ao.out
        have hns93_2 := ae.out
        have hms93_0 := av.out
        have hms93_1 := aw.out
        have hms93_2 := ax.out
        refine skip_ (w1 := ?_) (by rfl) rfl ?_ ?_
        rotate_left
        ·go_simp
         rfl
        refine hK.out _ _ ⟨((cell_far (p := ⟨aa, _, none⟩) ae.out _).trans (((cell_far (p := ⟨aa, _, none⟩) ae.out _).trans (((cell_far (p := ⟨aa, _, none⟩) ae.out _).trans (((cell_far (p := ⟨aa, _, none⟩) ae.out _).trans (((cell_far (p := ⟨aa, _, none⟩) ae.out _).trans (((cell_far (p := ⟨aa, _, none⟩) ae.out _).trans (hHeld.1)))))))))))), ((cell_far (p := ⟨aa, _, none⟩) ae.out _).trans (((cell_far (p := ⟨aa, _, none⟩) ae.out _).trans (((cell_far (p := ⟨aa, _, none⟩) ae.out _).trans (((cell_far (p := ⟨aa, _, none⟩) ae.out _).trans (((cell_far (p := ⟨aa, _, none⟩) ae.out _).trans (((cell_far (p := ⟨aa, _, none⟩) ae.out _).trans (hHeld.2.1)))))))))))), ((cell_far (p := ⟨aa, _, none⟩) ae.out _).trans (((cell_far (p := ⟨aa, _, none⟩) ae.out _).trans (((cell_far (p := ⟨aa, _, none⟩) ae.out _).trans (((cell_far (p := ⟨aa, _, none⟩) ae.out _).trans (((cell_far (p := ⟨aa, _, none⟩) ae.out _).trans (((cell_far (p := ⟨aa, _, none⟩) ae.out _).trans (hHeld.2.2.1)))))))))))), ((cell_far (p := ⟨aa, _, none⟩) ae.out _).trans (((cell_far (p := ⟨aa, _, none⟩) ae.out _).trans (((cell_far (p := ⟨aa, _, none⟩) ae.out _).trans (((cell_far (p := ⟨aa, _, none⟩) ae.out _).trans (((cell_far (p := ⟨aa, _, none⟩) ae.out _).trans (((cell_far (p := ⟨aa, _, none⟩) ae.out _).trans (hHeld.2.2.2.1)))))))))))), ((cell_far (p := ⟨aa, _, none⟩) ae.out _).trans (((cell_far (p := ⟨aa, _, none⟩) ae.out _).trans (((cell_far (p := ⟨aa, _, none⟩) ae.out _).trans (((cell_far (p := ⟨aa, _, none⟩) ae.out _).trans (((cell_far (p := ⟨aa, _, none⟩) ae.out _).trans (((cell_far (p := ⟨aa, _, none⟩) ae.out _).trans (hHeld.2.2.2.2.1)))))))))))), ((cell_far (p := ⟨aa, _, none⟩) ae.out _).trans (((cell_far (p := ⟨aa, _, none⟩) ae.out _).trans (((cell_far (p := ⟨aa, _, none⟩) ae.out _).trans (((cell_far (p := ⟨aa, _, none⟩) ae.out _).trans (((cell_far (p := ⟨aa, _, none⟩) ae.out _).trans (((cell_far (p := ⟨aa, _, none⟩) ae.out _).trans (hHeld.2.2.2.2.2.1)))))))))))), ((cell_far (p := ⟨aa, _, none⟩) ac.out _).trans (((cell_far (p := ⟨aa, _, none⟩) ac.out _).trans (((cell_far (p := ⟨aa, _, none⟩) ac.out _).trans (((cell_far (p := ⟨aa, _, none⟩) ac.out _).trans (((cell_far (p := ⟨aa, _, none⟩) ac.out _).trans (((cell_far (p := ⟨aa, _, none⟩) ac.out _).trans (hHeld.2.2.2.2.2.2.1)))))))))))), ((cell_far (p := ⟨aa, _, none⟩) ac.out _).trans (((cell_far (p := ⟨aa, _, none⟩) ac.out _).trans (((cell_far (p := ⟨aa, _, none⟩) ac.out _).trans (((cell_far (p := ⟨aa, _, none⟩) ac.out _).trans (((cell_far (p := ⟨aa, _, none⟩) ac.out _).trans (((cell_far (p := ⟨aa, _, none⟩) ac.out _).trans (hHeld.2.2.2.2.2.2.2.1)))))))))))), ((cell_far (p := ⟨aa, _, none⟩) ac.out _).trans (((cell_far (p := ⟨aa, _, none⟩) ac.out _).trans (((cell_far (p := ⟨aa, _, none⟩) ac.out _).trans (((cell_far (p := ⟨aa, _, none⟩) ac.out _).trans (((cell_far (p := ⟨aa, _, none⟩) ac.out _).trans (((cell_far (p := ⟨aa, _, none⟩) ac.out _).trans (hHeld.2.2.2.2.2.2.2.2.1)))))))))))), ((cell_far (p := ⟨aa, _, none⟩) ac.out _).trans (((cell_far (p := ⟨aa, _, none⟩) ac.out _).trans (((cell_far (p := ⟨aa, _, none⟩) ac.out _).trans (((cell_far (p := ⟨aa, _, none⟩) ac.out _).trans (((cell_far (p := ⟨aa, _, none⟩) ac.out _).trans (((cell_far (p := ⟨aa, _, none⟩) ac.out _).trans (hHeld.2.2.2.2.2.2.2.2.2.1)))))))))))), ((cell_far (p := ⟨aa, _, none⟩) ac.out _).trans (((cell_far (p := ⟨aa, _, none⟩) ac.out _).trans (((cell_far (p := ⟨aa, _, none⟩) ac.out _).trans (((cell_far (p := ⟨aa, _, none⟩) ac.out _).trans (((cell_far (p := ⟨aa, _, none⟩) ac.out _).trans (((cell_far (p := ⟨aa, _, none⟩) ac.out _).trans (hHeld.2.2.2.2.2.2.2.2.2.2.1)))))))))))), ((cell_far (p := ⟨aa, _, none⟩) ac.out _).trans (((cell_far (p := ⟨aa, _, none⟩) ac.out _).trans (((cell_far (p := ⟨aa, _, none⟩) ac.out _).trans (((cell_far (p := ⟨aa, _, none⟩) ac.out _).trans (((cell_far (p := ⟨aa, _, none⟩) ac.out _).trans (((cell_far (p := ⟨aa, _, none⟩) ac.out _).trans (hHeld.2.2.2.2.2.2.2.2.2.2.2))))))))))))⟩ (fun hHeld => ?_)
        clear hK K
        refine pPe 13 (some 13) #[true, true, true, true, true, true, true, true, true, true, true, true, true, true] ?_
        refine done_ (done_of HT_.out (by kernel_rfl)) ?_
        have hnb94 := NB710_711.out
        have hnc94 := NB711_710.out
        have hnb95 := NB710_738.out
        have hnc95 := NB738_710.out
        have hnb96 := ac.out
        have hnc96 := av.out
        obtain ⟨hcz97_0, hcz97_1, hcz97_2, hcz97_3, hcz97_4, hcz97_5⟩ := cz6 ab.out
        obtain ⟨hfz97_0, hfz97_1, hfz97_2, hfz97_3, hfz97_4, hfz97_5⟩ := fz6 ab.out
        try go_wp2_with (first | ((with_reducible refine gate_callee (f := 60) rfl ?_); refine gL (some 62) Try.func60 #[.agg #[.slice aT aB.length aY, .slice aU aC.length aW, .int .i64 aF, .int .i64 aE, .int .i64 aD, .slice aX ay.length aZ]] ?_; (with_reducible refine (impl_copyDisk.calls k2 _ _ aB _ _ aC aF aE aD _ _ ay bA bG bK bM bS b6 _ ?side1 ?side2 ?side3 ?side4 ?side5 ?side6 A74.out).mono ?_); (case side1 => exact Kd.C_below bk.out TB); (case side2 => exact bn.out); (case side3 => exact Kd.C_below bp.out TB); (case side4 => exact bl.out); (case side5 => exact Kd.C_below bm.out TB); (case side6 => exact bo.out); rintro e w98 ⟨v760, v763, v769, rfl, ho0, ho1, ho2, hb⟩; refine ⟨_, rfl, ?_⟩; have HO761 := aM (Kd.R_lower (Kd.R_new' (Kd.R_new' (Kd.R_new' (Kd.R_new' (Kd.R_new' ho0 (Kd.R_lt (by (with_reducible repeat (first | apply Kd.R_alloc | apply Kd.R_drewN | apply Kd.R_drew)); exact (R_off (Kd.R_types af.out an.out (by decide)) TO)))) (Kd.R_lt (by (with_reducible repeat (first | apply Kd.R_alloc | apply Kd.R_drewN | apply Kd.R_drew)); exact (R_off (Kd.R_types ag.out an.out (by decide)) TO)))) (Kd.R_lt (by (with_reducible repeat (first | apply Kd.R_alloc | apply Kd.R_drewN | apply Kd.R_drew)); exact (R_off (Kd.R_types al.out an.out (by decide)) TO)))) (Kd.R_lt (by (with_reducible repeat (first | apply Kd.R_alloc | apply Kd.R_drewN | apply Kd.R_drew)); exact (R_off (Kd.R_types aJ.out an.out (by decide)) TO)))) (Kd.R_lt (by (with_reducible repeat (first | apply Kd.R_alloc | apply Kd.R_drewN | apply Kd.R_drew)); exact (R_off (Kd.R_types aI.out an.out (by decide)) TO)))) (below_size TB)); have HO764 := aM (Kd.R_lower (Kd.R_new' (Kd.R_new' (Kd.R_new' (Kd.R_new' (Kd.R_new' ho1 (Kd.R_lt (by (with_reducible repeat (first | apply Kd.R_alloc | apply Kd.R_drewN | apply Kd.R_drew)); exact (R_off (Kd.R_types af.out an.out (by decide)) TO)))) (Kd.R_lt (by (with_reducible repeat (first | apply Kd.R_alloc | apply Kd.R_drewN | apply Kd.R_drew)); exact (R_off (Kd.R_types ag.out an.out (by decide)) TO)))) (Kd.R_lt (by (with_reducible repeat (first | apply Kd.R_alloc | apply Kd.R_drewN | apply Kd.R_drew)); exact (R_off (Kd.R_types al.out an.out (by decide)) TO)))) (Kd.R_lt (by (with_reducible repeat (first | apply Kd.R_alloc | apply Kd.R_drewN | apply Kd.R_drew)); exact (R_off (Kd.R_types aJ.out an.out (by decide)) TO)))) (Kd.R_lt (by (with_reducible repeat (first | apply Kd.R_alloc | apply Kd.R_drewN | apply Kd.R_drew)); exact (R_off (Kd.R_types aI.out an.out (by decide)) TO)))) (below_size TB)); have HO770 := aM (Kd.S_lower (Kd.S_new' (Kd.S_new' (Kd.S_new' (Kd.S_new' (Kd.S_new' (Kd.S_new' (Kd.S_new' ho2 (Kd.R_lt (by (with_reducible repeat (first | apply Kd.R_alloc | apply Kd.R_drewN | apply Kd.R_drew)); exact (R_off (Kd.R_types af.out an.out (by decide)) TO)))) (Kd.R_lt (by (with_reducible repeat (first | apply Kd.R_alloc | apply Kd.R_drewN | apply Kd.R_drew)); exact (R_off (Kd.R_types ag.out an.out (by decide)) TO)))) (Kd.S_lt (by (with_reducible repeat (first | apply Kd.S_alloc | apply Kd.S_drewN | apply Kd.S_drew)); exact (S_off (Kd.S_types ah.out an.out (by decide)) TO)))) (Kd.R_lt (by (with_reducible repeat (first | apply Kd.R_alloc | apply Kd.R_drewN | apply Kd.R_drew)); exact (R_off (Kd.R_types al.out an.out (by decide)) TO)))) (Kd.R_lt (by (with_reducible repeat (first | apply Kd.R_alloc | apply Kd.R_drewN | apply Kd.R_drew)); exact (R_off (Kd.R_types aJ.out an.out (by decide)) TO)))) (Kd.R_lt (by (with_reducible repeat (first | apply Kd.R_alloc | apply Kd.R_drewN | apply Kd.R_drew)); exact (R_off (Kd.R_types aI.out an.out (by decide)) TO)))) (Kd.S_lt (by (with_reducible repeat (first | apply Kd.S_alloc | apply Kd.S_drewN | apply Kd.S_drew)); exact (S_off (Kd.S_types aL.out an.out (by decide)) TO)))) (below_size TB)); replace af := aM (Kd.R_mono (Kd.R_told (Kd.R_told (Kd.R_old (by (with_reducible repeat (first | apply Kd.R_alloc | apply Kd.R_drewN | apply Kd.R_drew)); exact (R_off (Kd.R_types af.out an.out (by decide)) TO)) hb) (Kd.R_base ho0)) (Kd.R_base ho1)) (fun _ h_ => h_.1)); replace ag := aM (Kd.R_mono (Kd.R_told (Kd.R_told (Kd.R_old (by (with_reducible repeat (first | apply Kd.R_alloc | apply Kd.R_drewN | apply Kd.R_drew)); exact (R_off (Kd.R_types ag.out an.out (by decide)) TO)) hb) (Kd.R_base ho0)) (Kd.R_base ho1)) (fun _ h_ => h_.1)); replace ah := aM (Kd.S_mono (Kd.S_told (Kd.S_told (Kd.S_told (Kd.S_old (by (with_reducible repeat (first | apply Kd.S_alloc | apply Kd.S_drewN | apply Kd.S_drew)); exact (S_off (Kd.S_types ah.out an.out (by decide)) TO)) hb) (Kd.R_base ho0)) (Kd.R_base ho1)) (Kd.S_base ho2)) (fun _ h_ => h_.1)); replace al := aM (Kd.R_mono (Kd.R_told (Kd.R_told (Kd.R_old (by (with_reducible repeat (first | apply Kd.R_alloc | apply Kd.R_drewN | apply Kd.R_drew)); exact (R_off (Kd.R_types al.out an.out (by decide)) TO)) hb) (Kd.R_base ho0)) (Kd.R_base ho1)) (fun _ h_ => h_.1)); replace aJ := aM (Kd.R_mono (Kd.R_told (Kd.R_told (Kd.R_old (by (with_reducible repeat (first | apply Kd.R_alloc | apply Kd.R_drewN | apply Kd.R_drew)); exact (R_off (Kd.R_types aJ.out an.out (by decide)) TO)) hb) (Kd.R_base ho0)) (Kd.R_base ho1)) (fun _ h_ => h_.1)); replace aI := aM (Kd.R_mono (Kd.R_told (Kd.R_told (Kd.R_old (by (with_reducible repeat (first | apply Kd.R_alloc | apply Kd.R_drewN | apply Kd.R_drew)); exact (R_off (Kd.R_types aI.out an.out (by decide)) TO)) hb) (Kd.R_base ho0)) (Kd.R_base ho1)) (fun _ h_ => h_.1)); replace aL := aM (Kd.S_mono (Kd.S_told (Kd.S_told (Kd.S_told (Kd.S_old (by (with_reducible repeat (first | apply Kd.S_alloc | apply Kd.S_drewN | apply Kd.S_drew)); exact (S_off (Kd.S_types aL.out an.out (by decide)) TO)) hb) (Kd.R_base ho0)) (Kd.R_base ho1)) (Kd.S_base ho2)) (fun _ h_ => h_.1)); replace ab := aM (blk_below (g := ap) (o := .cells #[.slice aT aB.length aY, .slice aU aC.length aW, .int .i64 aF, .int .i64 aE, .int .i64 aD, .slice aX ay.length aZ] 33 (0, 0)) (by (with_reducible repeat (first | refine blk_drewN ?_ _ | refine blk_drew ?_ | refine blk_alloc ?_ _)); refine blk_far ?_ ac.out _; (with_reducible repeat (first | refine blk_drewN ?_ _ | refine blk_drew ?_ | refine blk_alloc ?_ _)); refine blk_far ?_ ac.out _; (with_reducible repeat (first | refine blk_drewN ?_ _ | refine blk_drew ?_ | refine blk_alloc ?_ _)); refine blk_far ?_ ac.out _; (with_reducible repeat (first | refine blk_drewN ?_ _ | refine blk_drew ?_ | refine blk_alloc ?_ _)); refine blk_far ?_ ac.out _; (with_reducible repeat (first | refine blk_drewN ?_ _ | refine blk_drew ?_ | refine blk_alloc ?_ _)); refine blk_far ?_ ac.out _; (with_reducible repeat (first | refine blk_drewN ?_ _ | refine blk_drew ?_ | refine blk_alloc ?_ _)); refine blk_far ?_ ac.out _; (with_reducible repeat (first | refine blk_drewN ?_ _ | refine blk_drew ?_ | refine blk_alloc ?_ _)); exact ab.out) hb); replace ak := aM (blk_below (g := gb711) (o := .cells #[.slice none 0 0, .slice none 0 0, .int .i64 aK, .int .i64 aG, .int .i64 aA, .slice none 0 0] 33 (0, 0)) (by (with_reducible repeat (first | refine blk_drewN ?_ _ | refine blk_drew ?_ | refine blk_alloc ?_ _)); refine blk_far ?_ ao.out _; (with_reducible repeat (first | refine blk_drewN ?_ _ | refine blk_drew ?_ | refine blk_alloc ?_ _)); refine blk_far ?_ ao.out _; (with_reducible repeat (first | refine blk_drewN ?_ _ | refine blk_drew ?_ | refine blk_alloc ?_ _)); refine blk_far ?_ ao.out _; (with_reducible repeat (first | refine blk_drewN ?_ _ | refine blk_drew ?_ | refine blk_alloc ?_ _)); refine blk_far ?_ ao.out _; (with_reducible repeat (first | refine blk_drewN ?_ _ | refine blk_drew ?_ | refine blk_alloc ?_ _)); refine blk_far ?_ ao.out _; (with_reducible repeat (first | refine blk_drewN ?_ _ | refine blk_drew ?_ | refine blk_alloc ?_ _)); refine blk_far ?_ ao.out _; (with_reducible repeat (first | refine blk_drewN ?_ _ | refine blk_drew ?_ | refine blk_alloc ?_ _)); exact ak.out) hb); replace ad := aM (blk_below (g := gb738) (o := .cells #[.slice Ao76 aj.length co76, .slice Ao77 ai.length co77, .int .i64 ar, .int .i64 aq, .int .i64 au, .slice Ao78 am.length co78] 33 (0, 0)) (by (with_reducible repeat (first | refine blk_drewN ?_ _ | refine blk_drew ?_ | refine blk_alloc ?_ _)); refine blk_far ?_ ae.out _; (with_reducible repeat (first | refine blk_drewN ?_ _ | refine blk_drew ?_ | refine blk_alloc ?_ _)); refine blk_far ?_ ae.out _; (with_reducible repeat (first | refine blk_drewN ?_ _ | refine blk_drew ?_ | refine blk_alloc ?_ _)); refine blk_far ?_ ae.out _; (with_reducible repeat (first | refine blk_drewN ?_ _ | refine blk_drew ?_ | refine blk_alloc ?_ _)); refine blk_far ?_ ae.out _; (with_reducible repeat (first | refine blk_drewN ?_ _ | refine blk_drew ?_ | refine blk_alloc ?_ _)); refine blk_far ?_ ae.out _; (with_reducible repeat (first | refine blk_drewN ?_ _ | refine blk_drew ?_ | refine blk_alloc ?_ _)); refine blk_far ?_ ae.out _; (with_reducible repeat (first | refine blk_drewN ?_ _ | refine blk_drew ?_ | refine blk_alloc ?_ _)); exact ad.out) hb); replace an := aM (blk_below (g := aa) (o := .cells #[.slice bT aO.length bX, .slice cg aR.length b3, .int .i64 aV, .int .i64 a8, .int .i64 a9, .slice Ao92 ba.length co92] 33 (0, 0)) (by (with_reducible repeat (first | refine blk_drewN ?_ _ | refine blk_drew ?_ | refine blk_alloc ?_ _)); refine blk_put (cs := #[.slice bT aO.length bX, .slice cg aR.length b3, .int .i64 aV, .int .i64 a8, .int .i64 a9, .slice none 0 0]) ?_ 5 _ rfl; (with_reducible repeat (first | refine blk_drewN ?_ _ | refine blk_drew ?_ | refine blk_alloc ?_ _)); refine blk_put (cs := #[.slice bT aO.length bX, .slice cg aR.length b3, .int .i64 aV, .int .i64 a8, .int .i64 0, .slice none 0 0]) ?_ 4 _ rfl; (with_reducible repeat (first | refine blk_drewN ?_ _ | refine blk_drew ?_ | refine blk_alloc ?_ _)); refine blk_put (cs := #[.slice bT aO.length bX, .slice cg aR.length b3, .int .i64 aV, .int .i64 0, .int .i64 0, .slice none 0 0]) ?_ 3 _ rfl; (with_reducible repeat (first | refine blk_drewN ?_ _ | refine blk_drew ?_ | refine blk_alloc ?_ _)); refine blk_put (cs := #[.slice bT aO.length bX, .slice cg aR.length b3, .int .i64 0, .int .i64 0, .int .i64 0, .slice none 0 0]) ?_ 2 _ rfl; (with_reducible repeat (first | refine blk_drewN ?_ _ | refine blk_drew ?_ | refine blk_alloc ?_ _)); refine blk_put (cs := #[.slice bT aO.length bX, .slice none 0 0, .int .i64 0, .int .i64 0, .int .i64 0, .slice none 0 0]) ?_ 1 _ rfl; (with_reducible repeat (first | refine blk_drewN ?_ _ | refine blk_drew ?_ | refine blk_alloc ?_ _)); refine blk_put (cs := #[.slice none 0 0, .slice none 0 0, .int .i64 0, .int .i64 0, .int .i64 0, .slice none 0 0]) ?_ 0 _ rfl; (with_reducible repeat (first | refine blk_drewN ?_ _ | refine blk_drew ?_ | refine blk_alloc ?_ _)); exact an.out) hb); replace HB := aM (below_step TB hb); clear ho0 ho1 ho2 hb; obtain ⟨Ao99, co99, eo99⟩ := Kd.R_slice HO761.out; subst eo99; have hnb100 := NB711_738.out; have hnc100 := NB738_711.out; have hnb101 := ao.out; have hnc101 := aw.out; obtain ⟨hcz102_0, hcz102_1, hcz102_2, hcz102_3, hcz102_4, hcz102_5⟩ := cz6 ak.out; obtain ⟨hfz102_0, hfz102_1, hfz102_2, hfz102_3, hfz102_4, hfz102_5⟩ := fz6 ak.out; obtain ⟨Ao103, co103, eo103⟩ := Kd.R_slice HO764.out; subst eo103; obtain ⟨Ao104, co104, eo104⟩ := Kd.S_slice HO770.out; subst eo104))
        refine bodyPost_ret (results_ct rfl _ _ gb711 33 #[.slice Ao99 bA.length co99, .slice Ao103 bG.length co103, .int .i64 bK, .int .i64 bM, .int .i64 bS, .slice Ao104 b6.length co104] (0, 0) _ rfl (by (with_reducible repeat (first | refine blk_drewN ?_ _ | refine blk_drew ?_ | refine blk_alloc ?_ _)); refine blk_put (cs := #[.slice Ao99 bA.length co99, .slice Ao103 bG.length co103, .int .i64 bK, .int .i64 bM, .int .i64 bS, .slice none 0 0]) ?_ 5 _ rfl; (with_reducible repeat (first | refine blk_drewN ?_ _ | refine blk_drew ?_ | refine blk_alloc ?_ _)); refine blk_put (cs := #[.slice Ao99 bA.length co99, .slice Ao103 bG.length co103, .int .i64 bK, .int .i64 bM, .int .i64 aA, .slice none 0 0]) ?_ 4 _ rfl; (with_reducible repeat (first | refine blk_drewN ?_ _ | refine blk_drew ?_ | refine blk_alloc ?_ _)); refine blk_put (cs := #[.slice Ao99 bA.length co99, .slice Ao103 bG.length co103, .int .i64 bK, .int .i64 aG, .int .i64 aA, .slice none 0 0]) ?_ 3 _ rfl; (with_reducible repeat (first | refine blk_drewN ?_ _ | refine blk_drew ?_ | refine blk_alloc ?_ _)); refine blk_put (cs := #[.slice Ao99 bA.length co99, .slice Ao103 bG.length co103, .int .i64 aK, .int .i64 aG, .int .i64 aA, .slice none 0 0]) ?_ 2 _ rfl; (with_reducible repeat (first | refine blk_drewN ?_ _ | refine blk_drew ?_ | refine blk_alloc ?_ _)); refine blk_put (cs := #[.slice Ao99 bA.length co99, .slice none 0 0, .int .i64 aK, .int .i64 aG, .int .i64 aA, .slice none 0 0]) ?_ 1 _ rfl; (with_reducible repeat (first | refine blk_drewN ?_ _ | refine blk_drew ?_ | refine blk_alloc ?_ _)); refine blk_put (cs := #[.slice none 0 0, .slice none 0 0, .int .i64 aK, .int .i64 aG, .int .i64 aA, .slice none 0 0]) ?_ 0 _ rfl; (with_reducible repeat (first | refine blk_drewN ?_ _ | refine blk_drew ?_ | refine blk_alloc ?_ _)); exact ak.out) Try.underlying33 rfl (by kernel_rfl)) rfl ?_
        exact ⟨_, _, _, by first | rfl | (simp [errW_none, errW_some] <;> rfl) | (simp [*, errW_none, errW_some] <;> rfl), by (with_reducible repeat (first | apply Kd.R_alloc | apply Kd.R_drewN | apply Kd.R_drew)); exact Kd.R_mono (Kd.R_far (p := ⟨gb711, 5, none⟩) (Kd.R_far (p := ⟨gb711, 4, none⟩) (Kd.R_far (p := ⟨gb711, 3, none⟩) (Kd.R_far (p := ⟨gb711, 2, none⟩) (Kd.R_far (p := ⟨gb711, 1, none⟩) (Kd.R_far (p := ⟨gb711, 0, none⟩) (Kd.R_types HO761.out ak.out (by decide)) (fun _ hk => hk.2) (.slice Ao99 bA.length co99)) (fun _ hk => hk.2) (.slice Ao103 bG.length co103)) (fun _ hk => hk.2) (.int .i64 bK)) (fun _ hk => hk.2) (.int .i64 bM)) (fun _ hk => hk.2) (.int .i64 bS)) (fun _ hk => hk.2) (.slice Ao104 b6.length co104)) (fun _ hk => hk.1.1.1.1.1.1), by (with_reducible repeat (first | apply Kd.R_alloc | apply Kd.R_drewN | apply Kd.R_drew)); exact Kd.R_mono (Kd.R_far (p := ⟨gb711, 5, none⟩) (Kd.R_far (p := ⟨gb711, 4, none⟩) (Kd.R_far (p := ⟨gb711, 3, none⟩) (Kd.R_far (p := ⟨gb711, 2, none⟩) (Kd.R_far (p := ⟨gb711, 1, none⟩) (Kd.R_far (p := ⟨gb711, 0, none⟩) (Kd.R_types HO764.out ak.out (by decide)) (fun _ hk => hk.2) (.slice Ao99 bA.length co99)) (fun _ hk => hk.2) (.slice Ao103 bG.length co103)) (fun _ hk => hk.2) (.int .i64 bK)) (fun _ hk => hk.2) (.int .i64 bM)) (fun _ hk => hk.2) (.int .i64 bS)) (fun _ hk => hk.2) (.slice Ao104 b6.length co104)) (fun _ hk => hk.1.1.1.1.1.1), by (with_reducible repeat (first | apply Kd.S_alloc | apply Kd.S_drewN | apply Kd.S_drew)); exact Kd.S_mono (Kd.S_far (p := ⟨gb711, 5, none⟩) (Kd.S_far (p := ⟨gb711, 4, none⟩) (Kd.S_far (p := ⟨gb711, 3, none⟩) (Kd.S_far (p := ⟨gb711, 2, none⟩) (Kd.S_far (p := ⟨gb711, 1, none⟩) (Kd.S_far (p := ⟨gb711, 0, none⟩) (Kd.S_types HO770.out ak.out (by decide)) (fun _ hk => hk.2) (.slice Ao99 bA.length co99)) (fun _ hk => hk.2) (.slice Ao103 bG.length co103)) (fun _ hk => hk.2) (.int .i64 bK)) (fun _ hk => hk.2) (.int .i64 bM)) (fun _ hk => hk.2) (.int .i64 bS)) (fun _ hk => hk.2) (.slice Ao104 b6.length co104)) (fun _ hk => ⟨hk.1.1.1.1.1.1.1.1.1, hk.1.1.1.1.1.1.1.1.2⟩), TB⟩
      ·rw [if_neg c43] at H
       have c43b0 : decide (aN < ch) = false := decide_eq_false c43
       clear c43
       simp only [Option.some.injEq, Prod.mk.injEq] at H
       obtain ⟨rfl, rfl, rfl, rfl, rfl, rfl, rfl⟩ := H
       have hnb105 := NB738_710.out
       have hnc105 := NB710_738.out
       have hnb106 := NB738_711.out
       have hnc106 := NB711_738.out
       obtain ⟨hcz107_0, hcz107_1, hcz107_2, hcz107_3, hcz107_4, hcz107_5⟩ := cz6 ad.out
       obtain ⟨hfz107_0, hfz107_1, hfz107_2, hfz107_3, hfz107_4, hfz107_5⟩ := fz6 ad.out
       obtain ⟨bt, bs, eo108⟩ := Kd.R_slice af.out
       subst eo108
       have hnb109 := NB711_710.out
       have hnc109 := NB710_711.out
       obtain ⟨hcz110_0, hcz110_1, hcz110_2, hcz110_3, hcz110_4, hcz110_5⟩ := cz6 ak.out
       obtain ⟨hfz110_0, hfz110_1, hfz110_2, hfz110_3, hfz110_4, hfz110_5⟩ := fz6 ak.out
       obtain ⟨bz, bx, eo111⟩ := Kd.R_slice ag.out
       subst eo111
       obtain ⟨b0, bY, eo112⟩ := Kd.S_slice ah.out
       subst eo112
       go_wp2
       refine bodyPost_ret (results_ct rfl _ _ gb711 33 #[.slice bt aj.length bs, .slice bz ai.length bx, .int .i64 ar, .int .i64 aq, .int .i64 au, .slice b0 am.length bY] (0, 0) _ rfl (by (with_reducible repeat (first | refine blk_drewN ?_ _ | refine blk_drew ?_ | refine blk_alloc ?_ _)); refine blk_put (cs := #[.slice bt aj.length bs, .slice bz ai.length bx, .int .i64 ar, .int .i64 aq, .int .i64 au, .slice none 0 0]) ?_ 5 _ rfl; (with_reducible repeat (first | refine blk_drewN ?_ _ | refine blk_drew ?_ | refine blk_alloc ?_ _)); refine blk_put (cs := #[.slice bt aj.length bs, .slice bz ai.length bx, .int .i64 ar, .int .i64 aq, .int .i64 aA, .slice none 0 0]) ?_ 4 _ rfl; (with_reducible repeat (first | refine blk_drewN ?_ _ | refine blk_drew ?_ | refine blk_alloc ?_ _)); refine blk_put (cs := #[.slice bt aj.length bs, .slice bz ai.length bx, .int .i64 ar, .int .i64 aG, .int .i64 aA, .slice none 0 0]) ?_ 3 _ rfl; (with_reducible repeat (first | refine blk_drewN ?_ _ | refine blk_drew ?_ | refine blk_alloc ?_ _)); refine blk_put (cs := #[.slice bt aj.length bs, .slice bz ai.length bx, .int .i64 aK, .int .i64 aG, .int .i64 aA, .slice none 0 0]) ?_ 2 _ rfl; (with_reducible repeat (first | refine blk_drewN ?_ _ | refine blk_drew ?_ | refine blk_alloc ?_ _)); refine blk_put (cs := #[.slice bt aj.length bs, .slice none 0 0, .int .i64 aK, .int .i64 aG, .int .i64 aA, .slice none 0 0]) ?_ 1 _ rfl; (with_reducible repeat (first | refine blk_drewN ?_ _ | refine blk_drew ?_ | refine blk_alloc ?_ _)); refine blk_put (cs := #[.slice none 0 0, .slice none 0 0, .int .i64 aK, .int .i64 aG, .int .i64 aA, .slice none 0 0]) ?_ 0 _ rfl; (with_reducible repeat (first | refine blk_drewN ?_ _ | refine blk_drew ?_ | refine blk_alloc ?_ _)); exact ak.out) Try.underlying33 rfl (by kernel_rfl)) rfl ?_
       exact ⟨_, _, _, by first | rfl | (simp [errW_none, errW_some] <;> rfl) | (simp [*, errW_none, errW_some] <;> rfl), by (with_reducible repeat (first | apply Kd.R_alloc | apply Kd.R_drewN | apply Kd.R_drew)); exact Kd.R_mono (Kd.R_far (p := ⟨gb711, 5, none⟩) (Kd.R_far (p := ⟨gb711, 4, none⟩) (Kd.R_far (p := ⟨gb711, 3, none⟩) (Kd.R_far (p := ⟨gb711, 2, none⟩) (Kd.R_far (p := ⟨gb711, 1, none⟩) (Kd.R_far (p := ⟨gb711, 0, none⟩) (Kd.R_types af.out ak.out (by decide)) (fun _ hk => hk.2) (.slice bt aj.length bs)) (fun _ hk => hk.2) (.slice bz ai.length bx)) (fun _ hk => hk.2) (.int .i64 ar)) (fun _ hk => hk.2) (.int .i64 aq)) (fun _ hk => hk.2) (.int .i64 au)) (fun _ hk => hk.2) (.slice b0 am.length bY)) (fun _ hk => hk.1), by (with_reducible repeat (first | apply Kd.R_alloc | apply Kd.R_drewN | apply Kd.R_drew)); exact Kd.R_mono (Kd.R_far (p := ⟨gb711, 5, none⟩) (Kd.R_far (p := ⟨gb711, 4, none⟩) (Kd.R_far (p := ⟨gb711, 3, none⟩) (Kd.R_far (p := ⟨gb711, 2, none⟩) (Kd.R_far (p := ⟨gb711, 1, none⟩) (Kd.R_far (p := ⟨gb711, 0, none⟩) (Kd.R_types ag.out ak.out (by decide)) (fun _ hk => hk.2) (.slice bt aj.length bs)) (fun _ hk => hk.2) (.slice bz ai.length bx)) (fun _ hk => hk.2) (.int .i64 ar)) (fun _ hk => hk.2) (.int .i64 aq)) (fun _ hk => hk.2) (.int .i64 au)) (fun _ hk => hk.2) (.slice b0 am.length bY)) (fun _ hk => hk.1), by (with_reducible repeat (first | apply Kd.S_alloc | apply Kd.S_drewN | apply Kd.S_drew)); exact Kd.S_mono (Kd.S_far (p := ⟨gb711, 5, none⟩) (Kd.S_far (p := ⟨gb711, 4, none⟩) (Kd.S_far (p := ⟨gb711, 3, none⟩) (Kd.S_far (p := ⟨gb711, 2, none⟩) (Kd.S_far (p := ⟨gb711, 1, none⟩) (Kd.S_far (p := ⟨gb711, 0, none⟩) (Kd.S_types ah.out ak.out (by decide)) (fun _ hk => hk.2) (.slice bt aj.length bs)) (fun _ hk => hk.2) (.slice bz ai.length bx)) (fun _ hk => hk.2) (.int .i64 ar)) (fun _ hk => hk.2) (.int .i64 aq)) (fun _ hk => hk.2) (.int .i64 au)) (fun _ hk => hk.2) (.slice b0 am.length bY)) (fun _ hk => ⟨hk.1.1, hk.1.2⟩), TB⟩

end Go.Proofs.Ytlghklbjmmijpaa.Q
