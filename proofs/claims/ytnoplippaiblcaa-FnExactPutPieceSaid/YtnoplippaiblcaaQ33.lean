/- Functions of the program as plain Lean functions, and that a call of each comes to what its function tells. Written by a program of this seat. -/
import Derived.Test.YtnoplippaiblcaaQ0
import Derived.Test.YtnoplippaiblcaaQ1
import Derived.Test.YtnoplippaiblcaaQ4
import Derived.Test.YtnoplippaiblcaaQ5
import Derived.Test.YtnoplippaiblcaaQ6
import Derived.Test.YtnoplippaiblcaaQ11
import Derived.Test.YtnoplippaiblcaaQ13
import Derived.Test.YtnoplippaiblcaaQ21
import Derived.Test.YtnoplippaiblcaaQ32
namespace Go.Proofs.Ytnoplippaiblcaa.Q
open Go.RowKit Go.Proofs.YtnoplippaiblcaaW.PrintWords Go.Proofs.YtnoplippaiblcaaW.PrintLast Go.Proofs.YtnoplippaiblcaaW.PrintMore
attribute [local go_sem] max2_int min2_int max_two min_two max_three min_three max_four min_four   -- for this text's walks alone
set_option linter.unusedVariables false
set_option linter.unusedSimpArgs false

attribute [local go_sem high] eqA72
/-! ### spec_BuildOk: function 28 -/
mutual
def spec_BuildOk.j0 : Nat → Bool → Int → Int → Int → List (S72) → Int → List Int → Option (Bool)
  | 0, _, _, _, _, _, _, _ => none
  | k + 1, x33, x495000, x495001, x495002, x495003, x496000, x496001 => if x33 = true then (some false) else (spec_BuildOk.l0 k 0 x495000 x495001 x495002 x495003 x496000 x496001)
def spec_BuildOk.l0 : Nat → Int → Int → Int → Int → List (S72) → Int → List Int → Option (Bool)
  | 0, _, _, _, _, _, _, _ => none
  | k + 1, x5, x495000, x495001, x495002, x495003, x496000, x496001 => if x5 < (x495003.length : Int) then ((spec_SpanOf.f x495001 x495002 x5).bind fun bt500 => (if 0 ≤ bt500.1 then (if bt500.1 ≤ (wrap64 (bt500.1 + bt500.2)) then (if (wrap64 (bt500.1 + bt500.2)) ≤ (x496001.length : Int) then ((spec_InSet.f x496000 x5).bind fun t503 => (if t503 = true then ((spec_SumOf.f k ((x496001.take ((wrap64 (bt500.1 + bt500.2)) : Int).toNat).drop (bt500.1 : Int).toNat)).bind fun bt504 => (if 0 ≤ x5 then (if (!(bt504.1 == ((rd_T72 x495003 x5).f0)) || (!(bt504.2 == ((rd_T72 x495003 x5).f1)))) = true then (some false) else ((spec_InSet.f x496000 x5).bind fun t507 => (if t507 = true then (spec_BuildOk.l0 k (wrap64 (x5 + 1)) x495000 x495001 x495002 x495003 x496000 x496001) else ((spec_l8Zero.f k ((x496001.take ((wrap64 (bt500.1 + bt500.2)) : Int).toNat).drop (bt500.1 : Int).toNat)).bind fun t508 => (if t508 = true then (spec_BuildOk.l0 k (wrap64 (x5 + 1)) x495000 x495001 x495002 x495003 x496000 x496001) else (some false)))))) else (none))) else ((spec_InSet.f x496000 x5).bind fun t509 => (if t509 = true then (spec_BuildOk.l0 k (wrap64 (x5 + 1)) x495000 x495001 x495002 x495003 x496000 x496001) else ((spec_l8Zero.f k ((x496001.take ((wrap64 (bt500.1 + bt500.2)) : Int).toNat).drop (bt500.1 : Int).toNat)).bind fun t510 => (if t510 = true then (spec_BuildOk.l0 k (wrap64 (x5 + 1)) x495000 x495001 x495002 x495003 x496000 x496001) else (some false))))))) else (none)) else (none)) else (none))) else (some true)
end
def spec_BuildOk.f (k : Nat) (a0_0 : Int) (a0_1 : Int) (a0_2 : Int) (l0_3 : List (S72)) (a1_0 : Int) (l1_1 : List Int) : Option (Bool) := (spec_ManOk.f k a0_0 a0_1 a0_2 l0_3).bind fun t496 => (if t496 = true then ((spec_SetOk.f a1_0).bind fun t497 => (if t497 = true then ((spec_AllParts.f a0_0 a0_1 a0_2 l0_3).bind fun t498 => ((spec_Without.f a1_0 t498).bind fun t499 => (if t499 = 0 then (spec_BuildOk.j0 k ((l1_1.length : Int) != a0_2) a0_0 a0_1 a0_2 l0_3 a1_0 l1_1) else (spec_BuildOk.j0 k true a0_0 a0_1 a0_2 l0_3 a1_0 l1_1)))) else (spec_BuildOk.j0 k true a0_0 a0_1 a0_2 l0_3 a1_0 l1_1))) else (spec_BuildOk.j0 k true a0_0 a0_1 a0_2 l0_3 a1_0 l1_1))
theorem spec_BuildOk.mono_l : ∀ k, (∀ y0 y1 y2 y3 y4 y5 y6, LeO (spec_BuildOk.j0 k y0 y1 y2 y3 y4 y5 y6) (spec_BuildOk.j0 (k + 1) y0 y1 y2 y3 y4 y5 y6)) ∧ (∀ y0 y1 y2 y3 y4 y5 y6, LeO (spec_BuildOk.l0 k y0 y1 y2 y3 y4 y5 y6) (spec_BuildOk.l0 (k + 1) y0 y1 y2 y3 y4 y5 y6))
  | 0 => ⟨fun _ _ _ _ _ _ _ r h => by simp [spec_BuildOk.j0] at h, fun _ _ _ _ _ _ _ r h => by simp [spec_BuildOk.l0] at h⟩
  | k + 1 => by
    have m0_ := @spec_ManOk.mono
    have m1_ := @spec_SumOf.mono
    have m2_ := @spec_l8Zero.mono
    obtain ⟨ih0, ih1⟩ := spec_BuildOk.mono_l k
    refine ⟨?_, ?_⟩
    · intro y0 y1 y2 y3 y4 y5 y6
      unfold spec_BuildOk.j0
      exact LM
    · intro y0 y1 y2 y3 y4 y5 y6
      unfold spec_BuildOk.l0
      exact LM
theorem spec_BuildOk.mono : ∀ a0 a1 a2 a3 a4 a5 k, LeO (spec_BuildOk.f k a0 a1 a2 a3 a4 a5) (spec_BuildOk.f (k + 1) a0 a1 a2 a3 a4 a5) := by
  intro a0 a1 a2 a3 a4 a5 k
  have m0_ := @spec_ManOk.mono
  have m1_ := @spec_SumOf.mono
  have m2_ := @spec_l8Zero.mono
  obtain ⟨ih0, ih1⟩ := spec_BuildOk.mono_l k
  unfold spec_BuildOk.f
  exact LM
def spec_BuildOk.T1 : Bool × List (List Nat × List Nat) := (true, [([], []), ([0], [0]), ([1], [1]), ([2, 1], [2]), ([3], [3]), ([4, 3], [3, 4]), ([5, 3, 3], [3, 5]), ([6, 3], [3, 6]), ([3, 7], [3, 7]), ([8, 6], [8]), ([9], [9]), ([10, 9], [9, 10]), ([9], [9]), ([12, 9, 9], [9, 12]), ([11, 13, 13, 9], [9, 11, 13]), ([14, 9], [9, 14]), ([9, 15], [9, 15]), ([16, 14], [16]), ([17], [17]), ([18, 17], [17, 18]), ([19, 17], [17, 19]), ([17], [17]), ([21, 17], [17, 21]), ([20, 22, 17], [17, 20, 22]), ([17, 23], [17, 23])])
def spec_BuildOk.B1 : List Nat := [0, 1, 3, 7, 15, 31, 63, 127, 255, 511, 1023, 2047, 1023, 5119, 16383, 32767, 65535, 131071, 262143, 524287, 1048575, 262143, 2359295, 8388607, 16777215]
theorem spec_BuildOk.tab1 : rtab .any (opsOf Try.f28 1) = spec_BuildOk.T1 := by kernel_rfl
theorem spec_BuildOk.bits1 : waitsOk spec_BuildOk.T1.2 spec_BuildOk.B1 = true := by kernel_rfl
def spec_BuildOk.T8 : Bool × List (List Nat × List Nat) := (true, [([], []), ([0], [0]), ([], []), ([1, 2], [1, 2]), ([3, 3], [3]), ([4], [4]), ([5, 4, 4], [4, 5]), ([4], [4]), ([7, 4], [4, 7]), ([4], [4]), ([8, 9, 4], [4, 8, 9]), ([10, 4], [4, 10]), ([6, 11, 4], [4, 6, 11]), ([4, 12], [4, 12]), ([13, 6], [13]), ([14], [14]), ([15, 14], [14, 15]), ([14], [14]), ([16, 17, 14, 14], [14, 16, 17]), ([18, 14], [14, 18]), ([19, 18, 14], [14, 19]), ([20], [20]), ([21, 20, 20], [20, 21]), ([22, 20], [20, 22]), ([20, 23, 14], [14, 20, 23]), ([14, 24], [14, 24])])
def spec_BuildOk.B8 : List Nat := [0, 1, 0, 7, 15, 31, 63, 31, 159, 31, 927, 1951, 4095, 8191, 16383, 32767, 65535, 32767, 262143, 524287, 1048575, 2097151, 4194303, 8388607, 16777215, 33554431]
theorem spec_BuildOk.tab8 : rtab .any (opsOf Try.f28 8) = spec_BuildOk.T8 := by kernel_rfl
theorem spec_BuildOk.bits8 : waitsOk spec_BuildOk.T8.2 spec_BuildOk.B8 = true := by kernel_rfl
set_option maxHeartbeats 40000000 in
set_option maxRecDepth 100000 in
theorem spec_BuildOk.calls (k : Nat) (ao : Int) (al : Int) (ak : Int) (av : Option Addr) (au : Nat) (ag : List (S72)) (ah : Int) (ar : Option Addr) (an : Nat) (ae : List Int) (r : Bool) (w : World) (aL : Kd.C k72 w av ag.length ag) (aN : ag.length ≤ au) (aK : Kd.C (Kd.int .u8) w ar ae.length ae) (aO : ae.length ≤ an) (h : spec_BuildOk.f k ao al ak ag ah ae = some r) :
  Calls Try.prog 28 #[.agg #[.int .i64 ao, .int .i64 al, .int .i64 ak, .slice av ag.length au], .agg #[.int .i64 ah, .slice ar ae.length an]] w fun e w' => e = .returned (.bool r) ∧ Below w.heap.size w w' := by
 have hu33 := Try.underlying33
 have hu35 := Try.underlying35
 have hu72 := Try.underlying72
 have az := aM aL
 have aC := aM aN
 clear aL aN
 have aA := aM aK
 have aB := aM aO
 clear aK aO
 have HB := aM (Below.refl w.heap.size w)
 have H := h
 clear h
 unfold spec_BuildOk.f at H
 have HC3 := aM H
 clear H
 go_enter Try.func28, Try.ntmps28
 go_upto_region 1 with (first | ((with_reducible refine gate_dst (N := 2) rfl ?_); (try (refine gate_guard (by rfl) ?_; dsimp only)); refine gBx 2 #[.int .i64 ao, .int .i64 al, .int .i64 ak, .slice av ag.length au] 33 ?_; intro af hg w4 hbox hb; have aa := aM (hbox); have GW494 := aM ((by rw [hg]; exact (below_size TB) : w.heap.size ≤ af)); have GE494 := aM ((by rw [hg]; exact (below_size TB) : w.heap.size ≤ af)); replace HB := aM (below_step TB hb); clear hb hbox hg) | ((with_reducible refine gate_dst (N := 3) rfl ?_); (try (refine gate_guard (by rfl) ?_; dsimp only)); refine gBx 3 #[.int .i64 ah, .slice ar ae.length an] 35 ?_; intro gb495 hg w5 hbox hb; have ab := aM (hbox); have GW495 := aM ((by rw [hg]; exact (below_size TB) : w.heap.size ≤ gb495)); have GE495 := aM ((by rw [hg]; exact (below_size TB) : w.heap.size ≤ gb495)); have NB494_495 := aM ((by rw [hg]; exact Nat.ne_of_lt (blk_lt (g := af) (o := .cells #[.int .i64 ao, .int .i64 al, .int .i64 ak, .slice av ag.length au] 33 (0, 0)) TK) : af ≠ gb495)); have NB495_494 := aM ((by rw [hg]; exact Nat.ne_of_gt (blk_lt (g := af) (o := .cells #[.int .i64 ao, .int .i64 al, .int .i64 ak, .slice av ag.length au] 33 (0, 0)) TK) : gb495 ≠ af)); replace aa := aM (blk_below (g := af) (o := .cells #[.int .i64 ao, .int .i64 al, .int .i64 ak, .slice av ag.length au] 33 (0, 0)) TK hb); replace HB := aM (below_step TB hb); clear hb hbox hg))
 (try simp only [Act.put, List.setIfInBounds_toArray, List.set_cons_zero, List.set_cons_succ])
 go_cut [33] (fun v33 wc => ∃ (kq : Nat) (aJ : Bool), v33 = .bool aJ ∧ Aside0 (spec_BuildOk.j0 kq aJ ao al ak ag ah ae = some r) ∧ Aside0 (kq ≤ k) ∧ Aside0 (wc.heap[af]? = some (.cells #[.int .i64 ao, .int .i64 al, .int .i64 ak, (.slice av ag.length au)] 33 (0, 0))) ∧ Aside0 (wc.heap[gb495]? = some (.cells #[.int .i64 ah, (.slice ar ae.length an)] 35 (0, 0))) ∧ Aside0 (Below w.heap.size w wc))
 case first =>
  have H := HC3.out
  clear HC3
  replace H := bE H
  obtain ⟨t496, A6, H⟩ := H
  by_cases c7 : t496 = true
  ·subst c7
   replace H := ifT H
   replace H := bE H
   obtain ⟨t497, A8, H⟩ := H
   by_cases c9 : t497 = true
   ·subst c9
    replace H := ifT H
    replace H := bE H
    obtain ⟨aI, A10, H⟩ := H
    replace H := bE H
    obtain ⟨aE, A11, H⟩ := H
    by_cases c12 : aE = 0
    ·rw [if_pos c12] at H
     have aH : (aE == 0) = true := beq_iff_eq.mpr c12
     have c12b1 : (aE != 0) = false := bne_eq_false_iff_eq.mpr c12
     clear c12
     (first | rw [aH] | (simp only [i64_w, i32_w]; rw [aH]) | skip)
     have H' := aM H
     clear H
     try go_wp2
     replace aa := aM (blk_drew aa.out)
     replace ab := aM (blk_drew ab.out)
     replace HB := aM (below_drew1 HB.out)
     refine start_ (n := 25) (S := fun w' => w'.cell? ⟨af, 0, none⟩ = some (.int .i64 ao) ∧ w'.cell? ⟨af, 1, none⟩ = some (.int .i64 al) ∧ w'.cell? ⟨af, 2, none⟩ = some (.int .i64 ak) ∧ w'.cell? ⟨af, 3, none⟩ = some (.slice av ag.length au) ∧ w'.cell? ⟨gb495, 0, none⟩ = some (.int .i64 ah) ∧ w'.cell? ⟨gb495, 1, none⟩ = some (.slice ar ae.length an)) (ds := []) (Array.replicate 25 false) (by kernel_rfl) rfl rfl ⟨(blk_cell aa.out 0).trans rfl, (blk_cell aa.out 1).trans rfl, (blk_cell aa.out 2).trans rfl, (blk_cell aa.out 3).trans rfl, (blk_cell ab.out 0).trans rfl, (blk_cell ab.out 1).trans rfl⟩ (fun hHeld => ?_); refine with_tabW spec_BuildOk.tab1 spec_BuildOk.bits1 (fun HT_ HW_ => ?_)
     generalize w5.drew = w13 at aa ab HB hHeld ⊢
     refine pT 0 (some 9) ?_
     refine pO 1 (some 10) (fun K hK => ?_)
     refine gG Try.func48 #[.agg #[.int .i64 ao, .int .i64 al, .int .i64 ak, .slice av ag.length au]] ?_
     with_reducible refine (spec_ManOk.calls k ao al ak _ _ ag true _ ?side1 ?side2 A6.out).mono ?_
     (case side1 => have X_ := (Kd.C_below az.out HB.out); exact TC)
     (case side2 => exact aC.out)
     rintro e w14 ⟨rfl, hb⟩
     refine ⟨_, rfl, ?_⟩
     have n0_ := aM (blk_below (g := af) (o := .cells #[.int .i64 ao, .int .i64 al, .int .i64 ak, .slice av ag.length au] 33 (0, 0)) TK hb)
     have n1_ := aM (blk_below (g := gb495) (o := .cells #[.int .i64 ah, .slice ar ae.length an] 35 (0, 0)) TK hb)
     have n2_ := aM (below_step TB hb)
     clear aa
     clear ab
     clear HB
     have aa := n0_
     have ab := n1_
     have HB := n2_
     clear n0_ n1_ n2_
     (try clear hb)
     (try clear hb2)
     (try clear hk)
     (try clear hi)
     refine hK.out _ _ ⟨(blk_cell aa.out 0).trans rfl, (blk_cell aa.out 1).trans rfl, (blk_cell aa.out 2).trans rfl, (blk_cell aa.out 3).trans rfl, (blk_cell ab.out 0).trans rfl, (blk_cell ab.out 1).trans rfl⟩ (fun hHeld => ?_)
     clear hK K
     refine nR ?_
     refine pP 2 (some 11) ?_
     refine pP 3 (some 12) ?_
     refine pP 4 (some 13) ?_
     refine pT 5 (some 14) ?_
     refine pO 6 (some 15) (fun K hK => ?_)
     refine gG Try.func57 #[.int .i64 ah] ?_
     with_reducible refine (spec_SetOk.calls ah true _ A8.out).mono ?_
     rintro e w' ⟨rfl, ⟨nd, rfl⟩⟩
     refine ⟨_, rfl, ?_⟩
     refine hK.out _ _ ⟨(blk_cell aa.out 0).trans rfl, (blk_cell aa.out 1).trans rfl, (blk_cell aa.out 2).trans rfl, (blk_cell aa.out 3).trans rfl, (blk_cell ab.out 0).trans rfl, (blk_cell ab.out 1).trans rfl⟩ (fun hHeld => ?_)
     clear hK K
     refine nR ?_
     refine pP 7 (some 16) ?_
     refine pP 8 (some 17) ?_
     refine pP 9 (some 18) ?_
     refine pP 10 (some 19) ?_
     refine pT 11 (some 20) ?_
     refine pT 12 (some 21) ?_
     refine pO 13 (some 22) (fun K hK => ?_)
     refine gG Try.func43 #[.agg #[.int .i64 ao, .int .i64 al, .int .i64 ak, .slice av ag.length au]] ?_
     with_reducible refine (spec_AllParts.calls ao al ak _ _ ag aI _ ?side1 ?side2 A10.out).mono ?_
     (case side1 => repeat (first | exact (Kd.C_below az.out TB) | (with_reducible refine Kd.C_alloc ?_ _) | (with_reducible refine Kd.C_drewN ?_ _) | (with_reducible refine Kd.C_drew ?_)))
     (case side2 => exact aC.out)
     rintro e w15 ⟨rfl, hb⟩
     refine ⟨_, rfl, ?_⟩
     have n0_ := aM (blk_below (g := af) (o := .cells #[.int .i64 ao, .int .i64 al, .int .i64 ak, .slice av ag.length au] 33 (0, 0)) TK hb)
     have n1_ := aM (blk_below (g := gb495) (o := .cells #[.int .i64 ah, .slice ar ae.length an] 35 (0, 0)) TK hb)
     have n2_ := aM (below_step TB hb)
     clear aa
     clear ab
     clear HB
     have aa := n0_
     have ab := n1_
     have HB := n2_
     clear n0_ n1_ n2_
     (try clear hb)
     (try clear hb2)
     (try clear hk)
     (try clear hi)
     refine hK.out _ _ ⟨(blk_cell aa.out 0).trans rfl, (blk_cell aa.out 1).trans rfl, (blk_cell aa.out 2).trans rfl, (blk_cell aa.out 3).trans rfl, (blk_cell ab.out 0).trans rfl, (blk_cell ab.out 1).trans rfl⟩ (fun hHeld => ?_)
     clear hK K
     refine nR ?_
     refine pO 14 (some 23) (fun K hK => ?_)
     refine gG Try.func42 #[.int .i64 ah, .int .i64 aI] ?_
     with_reducible refine (spec_Without.calls ah aI aE _ A11.out).mono ?_
     rintro e w' ⟨rfl, ⟨nd, rfl⟩⟩
     refine ⟨_, rfl, ?_⟩
     refine hK.out _ _ ⟨(blk_cell aa.out 0).trans rfl, (blk_cell aa.out 1).trans rfl, (blk_cell aa.out 2).trans rfl, (blk_cell aa.out 3).trans rfl, (blk_cell ab.out 0).trans rfl, (blk_cell ab.out 1).trans rfl⟩ (fun hHeld => ?_)
     clear hK K
     refine nR ?_
     refine pP 15 (some 24) ?_
     refine pP 16 (some 25) ?_
     refine pP 17 (some 26) ?_
     refine pP 18 (some 27) ?_
     refine pP 21 (some 30) ?_
     refine pT 19 (some 28) ?_
     refine pP 20 (some 29) ?_
     refine pT 22 (some 31) ?_
     refine pP 23 (some 32) ?_
     refine pP 24 (some 33) ?_
     refine done_ (done_of HT_.out (by kernel_rfl)) ?_
     try go_wp2
     go_meet
     case rel => exact ⟨_, (((ae.length : Int) != ak)), (by first | rfl | (simp; done) | (simp [*]; done)), H', ⟨by first | omega | exact Nat.le_refl _⟩, ⟨TK⟩, ⟨TK⟩, ⟨TB⟩⟩
    ·rw [if_neg c12] at H
     have aH : (aE == 0) = false := beq_eq_false_iff_ne.mpr c12
     have c12b1 : (aE != 0) = true := bne_iff_ne.mpr c12
     (first | rw [aH] | (simp only [i64_w, i32_w]; rw [aH]) | skip)
     have H' := aM H
     clear H
     try go_wp2
     replace aa := aM (blk_drew aa.out)
     replace ab := aM (blk_drew ab.out)
     replace HB := aM (below_drew1 HB.out)
     refine start_ (n := 25) (S := fun w' => w'.cell? ⟨af, 0, none⟩ = some (.int .i64 ao) ∧ w'.cell? ⟨af, 1, none⟩ = some (.int .i64 al) ∧ w'.cell? ⟨af, 2, none⟩ = some (.int .i64 ak) ∧ w'.cell? ⟨af, 3, none⟩ = some (.slice av ag.length au) ∧ w'.cell? ⟨gb495, 0, none⟩ = some (.int .i64 ah) ∧ w'.cell? ⟨gb495, 1, none⟩ = some (.slice ar ae.length an)) (ds := []) (Array.replicate 25 false) (by kernel_rfl) rfl rfl ⟨(blk_cell aa.out 0).trans rfl, (blk_cell aa.out 1).trans rfl, (blk_cell aa.out 2).trans rfl, (blk_cell aa.out 3).trans rfl, (blk_cell ab.out 0).trans rfl, (blk_cell ab.out 1).trans rfl⟩ (fun hHeld => ?_); refine with_tabW spec_BuildOk.tab1 spec_BuildOk.bits1 (fun HT_ HW_ => ?_)
     generalize w5.drew = w16 at aa ab HB hHeld ⊢
     refine pT 0 (some 9) ?_
     refine pO 1 (some 10) (fun K hK => ?_)
     refine gG Try.func48 #[.agg #[.int .i64 ao, .int .i64 al, .int .i64 ak, .slice av ag.length au]] ?_
     with_reducible refine (spec_ManOk.calls k ao al ak _ _ ag true _ ?side1 ?side2 A6.out).mono ?_
     (case side1 => have X_ := (Kd.C_below az.out HB.out); exact TC)
     (case side2 => exact aC.out)
     rintro e w17 ⟨rfl, hb⟩
     refine ⟨_, rfl, ?_⟩
     have n0_ := aM (blk_below (g := af) (o := .cells #[.int .i64 ao, .int .i64 al, .int .i64 ak, .slice av ag.length au] 33 (0, 0)) TK hb)
     have n1_ := aM (blk_below (g := gb495) (o := .cells #[.int .i64 ah, .slice ar ae.length an] 35 (0, 0)) TK hb)
     have n2_ := aM (below_step TB hb)
     clear aa
     clear ab
     clear HB
     have aa := n0_
     have ab := n1_
     have HB := n2_
     clear n0_ n1_ n2_
     (try clear hb)
     (try clear hb2)
     (try clear hk)
     (try clear hi)
     refine hK.out _ _ ⟨(blk_cell aa.out 0).trans rfl, (blk_cell aa.out 1).trans rfl, (blk_cell aa.out 2).trans rfl, (blk_cell aa.out 3).trans rfl, (blk_cell ab.out 0).trans rfl, (blk_cell ab.out 1).trans rfl⟩ (fun hHeld => ?_)
     clear hK K
     refine nR ?_
     refine pP 2 (some 11) ?_
     refine pP 3 (some 12) ?_
     refine pP 4 (some 13) ?_
     refine pT 5 (some 14) ?_
     refine pO 6 (some 15) (fun K hK => ?_)
     refine gG Try.func57 #[.int .i64 ah] ?_
     with_reducible refine (spec_SetOk.calls ah true _ A8.out).mono ?_
     rintro e w' ⟨rfl, ⟨nd, rfl⟩⟩
     refine ⟨_, rfl, ?_⟩
     refine hK.out _ _ ⟨(blk_cell aa.out 0).trans rfl, (blk_cell aa.out 1).trans rfl, (blk_cell aa.out 2).trans rfl, (blk_cell aa.out 3).trans rfl, (blk_cell ab.out 0).trans rfl, (blk_cell ab.out 1).trans rfl⟩ (fun hHeld => ?_)
     clear hK K
     refine nR ?_
     refine pP 7 (some 16) ?_
     refine pP 8 (some 17) ?_
     refine pP 9 (some 18) ?_
     refine pP 10 (some 19) ?_
     refine pT 11 (some 20) ?_
     refine pT 12 (some 21) ?_
     refine pO 13 (some 22) (fun K hK => ?_)
     refine gG Try.func43 #[.agg #[.int .i64 ao, .int .i64 al, .int .i64 ak, .slice av ag.length au]] ?_
     with_reducible refine (spec_AllParts.calls ao al ak _ _ ag aI _ ?side1 ?side2 A10.out).mono ?_
     (case side1 => repeat (first | exact (Kd.C_below az.out TB) | (with_reducible refine Kd.C_alloc ?_ _) | (with_reducible refine Kd.C_drewN ?_ _) | (with_reducible refine Kd.C_drew ?_)))
     (case side2 => exact aC.out)
     rintro e w18 ⟨rfl, hb⟩
     refine ⟨_, rfl, ?_⟩
     have n0_ := aM (blk_below (g := af) (o := .cells #[.int .i64 ao, .int .i64 al, .int .i64 ak, .slice av ag.length au] 33 (0, 0)) TK hb)
     have n1_ := aM (blk_below (g := gb495) (o := .cells #[.int .i64 ah, .slice ar ae.length an] 35 (0, 0)) TK hb)
     have n2_ := aM (below_step TB hb)
     clear aa
     clear ab
     clear HB
     have aa := n0_
     have ab := n1_
     have HB := n2_
     clear n0_ n1_ n2_
     (try clear hb)
     (try clear hb2)
     (try clear hk)
     (try clear hi)
     refine hK.out _ _ ⟨(blk_cell aa.out 0).trans rfl, (blk_cell aa.out 1).trans rfl, (blk_cell aa.out 2).trans rfl, (blk_cell aa.out 3).trans rfl, (blk_cell ab.out 0).trans rfl, (blk_cell ab.out 1).trans rfl⟩ (fun hHeld => ?_)
     clear hK K
     refine nR ?_
     refine pO 14 (some 23) (fun K hK => ?_)
     refine gG Try.func42 #[.int .i64 ah, .int .i64 aI] ?_
     with_reducible refine (spec_Without.calls ah aI aE _ A11.out).mono ?_
     rintro e w' ⟨rfl, ⟨nd, rfl⟩⟩
     refine ⟨_, rfl, ?_⟩
     refine hK.out _ _ ⟨(blk_cell aa.out 0).trans rfl, (blk_cell aa.out 1).trans rfl, (blk_cell aa.out 2).trans rfl, (blk_cell aa.out 3).trans rfl, (blk_cell ab.out 0).trans rfl, (blk_cell ab.out 1).trans rfl⟩ (fun hHeld => ?_)
     clear hK K
     refine nR ?_
     refine pP 15 (some 24) ?_
     refine pP 16 (some 25) ?_
     refine pP 17 (some 26) ?_
     refine pX 18 (some 27) ?_
     refine pX 19 (some 28) ?_
     refine pX 20 (some 29) ?_
     refine pX 21 (some 30) ?_
     refine pX 22 (some 31) ?_
     refine pX 23 (some 32) ?_
     refine pP 24 (some 33) ?_
     refine done_ (done_of HT_.out (by kernel_rfl)) ?_
     try go_wp2
     go_meet
     case rel => exact ⟨_, (true), (by first | rfl | (simp; done) | (simp [*]; done)), H', ⟨by first | omega | exact Nat.le_refl _⟩, ⟨TK⟩, ⟨TK⟩, ⟨TB⟩⟩
   ·replace c9 := Bool.eq_false_iff.mpr c9
    subst c9
    replace H := ifF H
    have H' := aM H
    clear H
    try go_wp2
    replace aa := aM (blk_drew aa.out)
    replace ab := aM (blk_drew ab.out)
    replace HB := aM (below_drew1 HB.out)
    refine start_ (n := 25) (S := fun w' => w'.cell? ⟨af, 0, none⟩ = some (.int .i64 ao) ∧ w'.cell? ⟨af, 1, none⟩ = some (.int .i64 al) ∧ w'.cell? ⟨af, 2, none⟩ = some (.int .i64 ak) ∧ w'.cell? ⟨af, 3, none⟩ = some (.slice av ag.length au) ∧ w'.cell? ⟨gb495, 0, none⟩ = some (.int .i64 ah) ∧ w'.cell? ⟨gb495, 1, none⟩ = some (.slice ar ae.length an)) (ds := []) (Array.replicate 25 false) (by kernel_rfl) rfl rfl ⟨(blk_cell aa.out 0).trans rfl, (blk_cell aa.out 1).trans rfl, (blk_cell aa.out 2).trans rfl, (blk_cell aa.out 3).trans rfl, (blk_cell ab.out 0).trans rfl, (blk_cell ab.out 1).trans rfl⟩ (fun hHeld => ?_); refine with_tabW spec_BuildOk.tab1 spec_BuildOk.bits1 (fun HT_ HW_ => ?_)
    generalize w5.drew = w19 at aa ab HB hHeld ⊢
    refine pT 0 (some 9) ?_
    refine pO 1 (some 10) (fun K hK => ?_)
    refine gG Try.func48 #[.agg #[.int .i64 ao, .int .i64 al, .int .i64 ak, .slice av ag.length au]] ?_
    with_reducible refine (spec_ManOk.calls k ao al ak _ _ ag true _ ?side1 ?side2 A6.out).mono ?_
    (case side1 => have X_ := (Kd.C_below az.out HB.out); exact TC)
    (case side2 => exact aC.out)
    rintro e w20 ⟨rfl, hb⟩
    refine ⟨_, rfl, ?_⟩
    have n0_ := aM (blk_below (g := af) (o := .cells #[.int .i64 ao, .int .i64 al, .int .i64 ak, .slice av ag.length au] 33 (0, 0)) TK hb)
    have n1_ := aM (blk_below (g := gb495) (o := .cells #[.int .i64 ah, .slice ar ae.length an] 35 (0, 0)) TK hb)
    have n2_ := aM (below_step TB hb)
    clear aa
    clear ab
    clear HB
    have aa := n0_
    have ab := n1_
    have HB := n2_
    clear n0_ n1_ n2_
    (try clear hb)
    (try clear hb2)
    (try clear hk)
    (try clear hi)
    refine hK.out _ _ ⟨(blk_cell aa.out 0).trans rfl, (blk_cell aa.out 1).trans rfl, (blk_cell aa.out 2).trans rfl, (blk_cell aa.out 3).trans rfl, (blk_cell ab.out 0).trans rfl, (blk_cell ab.out 1).trans rfl⟩ (fun hHeld => ?_)
    clear hK K
    refine nR ?_
    refine pP 2 (some 11) ?_
    refine pP 3 (some 12) ?_
    refine pP 4 (some 13) ?_
    refine pT 5 (some 14) ?_
    refine pO 6 (some 15) (fun K hK => ?_)
    refine gG Try.func57 #[.int .i64 ah] ?_
    with_reducible refine (spec_SetOk.calls ah false _ A8.out).mono ?_
    rintro e w' ⟨rfl, ⟨nd, rfl⟩⟩
    refine ⟨_, rfl, ?_⟩
    refine hK.out _ _ ⟨(blk_cell aa.out 0).trans rfl, (blk_cell aa.out 1).trans rfl, (blk_cell aa.out 2).trans rfl, (blk_cell aa.out 3).trans rfl, (blk_cell ab.out 0).trans rfl, (blk_cell ab.out 1).trans rfl⟩ (fun hHeld => ?_)
    clear hK K
    refine nR ?_
    refine pP 7 (some 16) ?_
    refine pP 8 (some 17) ?_
    refine pP 9 (some 18) ?_
    refine pX 10 (some 19) ?_
    refine pX 11 (some 20) ?_
    refine pX 12 (some 21) ?_
    refine pX 13 (some 22) ?_
    refine pX 14 (some 23) ?_
    refine pX 15 (some 24) ?_
    refine pP 16 (some 25) ?_
    refine pP 17 (some 26) ?_
    refine pX 18 (some 27) ?_
    refine pX 19 (some 28) ?_
    refine pX 20 (some 29) ?_
    refine pX 21 (some 30) ?_
    refine pX 22 (some 31) ?_
    refine pX 23 (some 32) ?_
    refine pP 24 (some 33) ?_
    refine done_ (done_of HT_.out (by kernel_rfl)) ?_
    try go_wp2
    go_meet
    case rel => exact ⟨_, (true), (by first | rfl | (simp; done) | (simp [*]; done)), H', ⟨by first | omega | exact Nat.le_refl _⟩, ⟨TK⟩, ⟨TK⟩, ⟨TB⟩⟩
  ·replace c7 := Bool.eq_false_iff.mpr c7
   subst c7
   replace H := ifF H
   have H' := aM H
   clear H
   try go_wp2
   replace aa := aM (blk_drew aa.out)
   replace ab := aM (blk_drew ab.out)
   replace HB := aM (below_drew1 HB.out)
   refine start_ (n := 25) (S := fun w' => w'.cell? ⟨af, 0, none⟩ = some (.int .i64 ao) ∧ w'.cell? ⟨af, 1, none⟩ = some (.int .i64 al) ∧ w'.cell? ⟨af, 2, none⟩ = some (.int .i64 ak) ∧ w'.cell? ⟨af, 3, none⟩ = some (.slice av ag.length au)) (ds := []) (Array.replicate 25 false) (by kernel_rfl) rfl rfl (cz4 aa.out) (fun hHeld => ?_); refine with_tabW spec_BuildOk.tab1 spec_BuildOk.bits1 (fun HT_ HW_ => ?_)
   generalize w5.drew = w21 at aa ab HB hHeld ⊢
   refine pT 0 (some 9) ?_
   refine pO 1 (some 10) (fun K hK => ?_)
   refine gG Try.func48 #[.agg #[.int .i64 ao, .int .i64 al, .int .i64 ak, .slice av ag.length au]] ?_
   with_reducible refine (spec_ManOk.calls k ao al ak _ _ ag false _ ?side1 ?side2 A6.out).mono ?_
   (case side1 => have X_ := (Kd.C_below az.out HB.out); exact TC)
   (case side2 => exact aC.out)
   rintro e w22 ⟨rfl, hb⟩
   refine ⟨_, rfl, ?_⟩
   have n0_ := aM (blk_below (g := af) (o := .cells #[.int .i64 ao, .int .i64 al, .int .i64 ak, .slice av ag.length au] 33 (0, 0)) TK hb)
   have n1_ := aM (blk_below (g := gb495) (o := .cells #[.int .i64 ah, .slice ar ae.length an] 35 (0, 0)) TK hb)
   have n2_ := aM (below_step TB hb)
   clear aa
   clear ab
   clear HB
   have aa := n0_
   have ab := n1_
   have HB := n2_
   clear n0_ n1_ n2_
   (try clear hb)
   (try clear hb2)
   (try clear hk)
   (try clear hi)
   refine hK.out _ _ (cz4 aa.out) (fun hHeld => ?_)
   clear hK K
   refine nR ?_
   refine pP 2 (some 11) ?_
   refine pP 3 (some 12) ?_
   refine pX 4 (some 13) ?_
   refine pX 5 (some 14) ?_
   refine pX 6 (some 15) ?_
   refine pX 7 (some 16) ?_
   refine pP 8 (some 17) ?_
   refine pP 9 (some 18) ?_
   refine pX 10 (some 19) ?_
   refine pX 11 (some 20) ?_
   refine pX 12 (some 21) ?_
   refine pX 13 (some 22) ?_
   refine pX 14 (some 23) ?_
   refine pX 15 (some 24) ?_
   refine pP 16 (some 25) ?_
   refine pP 17 (some 26) ?_
   refine pX 18 (some 27) ?_
   refine pX 19 (some 28) ?_
   refine pX 20 (some 29) ?_
   refine pX 21 (some 30) ?_
   refine pX 22 (some 31) ?_
   refine pX 23 (some 32) ?_
   refine pP 24 (some 33) ?_
   refine done_ (done_of HT_.out (by kernel_rfl)) ?_
   try go_wp2
   go_meet
   case rel => exact ⟨_, (true), (by first | rfl | (simp; done) | (simp [*]; done)), H', ⟨by first | omega | exact Nat.le_refl _⟩, ⟨TK⟩, ⟨TK⟩, ⟨TB⟩⟩
 case rest =>
  clear HC3
  try clear c1
  try clear p2
  try clear c4
  try clear c5
  try clear c7
  try clear c9
  obtain ⟨kq, aJ, rfl, HA, HJ2, aa, ab, HB⟩ := hcut
  cases kq with
  | zero => exact absurd HA.out (by simp [spec_BuildOk.j0])
  | succ kj2 =>
   have H := HA.out
   clear HA
   simp only [spec_BuildOk.j0] at H
   by_cases c23 : aJ = true
   ·subst c23
    replace H := ifT H
    obtain rfl := Option.some.inj H
    go_wp2
    go_ret
    exact ⟨by first | rfl | (simp [errW_none, errW_some] <;> rfl) | (simp [*, errW_none, errW_some] <;> rfl), TB⟩
   ·replace c23 := Bool.eq_false_iff.mpr c23
    subst c23
    replace H := ifF H
    have H' := aM H
    clear H
    go_wp2
    go_loopg [5] kj2 (fun kq v5 w' => ∃ (ad : Int), v5 = .int .i64 ad ∧ Aside0 (spec_BuildOk.l0 kq ad ao al ak ag ah ae = some r) ∧ Aside0 (kq ≤ kj2) ∧ Aside0 (w'.heap[af]? = some (.cells #[.int .i64 ao, .int .i64 al, .int .i64 ak, (.slice av ag.length au)] 33 (0, 0))) ∧ Aside0 (w'.heap[gb495]? = some (.cells #[.int .i64 ah, (.slice ar ae.length an)] 35 (0, 0))) ∧ Aside0 (Below w.heap.size w w'))
    case atStart => exact ⟨(0), (by first | rfl | (simp; done) | (simp [*]; done)), H', ⟨Nat.le_refl _⟩, ⟨TK⟩, ⟨TK⟩, ⟨TB⟩⟩
    case round =>
     clear H'
     try clear c1
     try clear c2
     try clear p2
     try clear c4
     try clear c5
     try clear c7
     try clear c9
     try clear c23
     try clear p2
     obtain ⟨ad, rfl, HA, HK2, aa, ab, HB⟩ := hrel
     cases gk with
     | zero => exact absurd HA.out (by simp [spec_BuildOk.l0])
     | succ k2 =>
      have H := HA.out
      clear HA
      simp only [spec_BuildOk.l0] at H
      by_cases c24 : ad < (ag.length : Int)
      ·rw [if_pos c24] at H
       have c24b0 : decide (ad < (ag.length : Int)) = true := decide_eq_true c24
       clear c24
       replace H := bE H
       obtain ⟨⟨ac, am⟩, A25, H⟩ := H
       dsimp only at H
       replace H := ifN H
       obtain ⟨c26, H⟩ := H
       have c26b0 := eq_true c26
       have c26b1 : decide (0 ≤ ac) = true := decide_eq_true c26
       clear c26
       replace H := ifN H
       obtain ⟨c27, H⟩ := H
       have c27b0 := eq_true c27
       have c27b1 : decide (ac ≤ (wrap64 (ac + am))) = true := decide_eq_true c27
       replace H := ifN H
       obtain ⟨c28, H⟩ := H
       have c28b0 := eq_true c28
       have c28b1 : decide ((wrap64 (ac + am)) ≤ (ae.length : Int)) = true := decide_eq_true c28
       replace H := bE H
       obtain ⟨t503, A29, H⟩ := H
       by_cases c30 : t503 = true
       ·subst c30
        replace H := ifT H
        replace H := bE H
        obtain ⟨⟨aF, aD⟩, A31, H⟩ := H
        dsimp only at H
        replace H := ifN H
        obtain ⟨c32, H⟩ := H
        have c32b0 : decide (0 ≤ ad) = true := decide_eq_true c32
        clear c32
        by_cases c33 : (!(aF == ((rd_T72 ag ad).f0)) || (!(aD == ((rd_T72 ag ad).f1)))) = true
        ·rw [if_pos c33] at H
         have c33b0 : (!(aF == ((rd_T72 ag ad).f0)) || (!(aD == ((rd_T72 ag ad).f1)))) = true := c33
         clear c33
         obtain rfl := Option.some.inj H
         have hnb34 := NB494_495.out
         have hnc34 := NB495_494.out
         obtain ⟨hcz35_0, hcz35_1, hcz35_2, hcz35_3⟩ := cz4 aa.out
         obtain ⟨hfz35_0, hfz35_1, hfz35_2, hfz35_3⟩ := fz4 aa.out
         try go_wp2_with (first | ((with_reducible refine gate_callee (f := 53) rfl ?_); refine gL (some 47) Try.func53 #[.int .i64 al, .int .i64 ak, .int .i64 ad] ?_; (with_reducible refine (spec_SpanOf.calls al ak ad ac am _ A25.out).mono ?_); rintro e w' ⟨rfl, ⟨nd, rfl⟩⟩; refine ⟨_, rfl, ?_⟩; obtain ⟨hcz36_0, hcz36_1⟩ := cz2 ab.out; obtain ⟨hfz36_0, hfz36_1⟩ := fz2 ab.out; obtain ⟨i037, hi037, _, hsz37, _⟩ := info_parts info5; obtain ⟨A37, hcut37, hA37, hC37⟩ := print_mid_of (P := Try.prog) (Value.int .u8) 0 25 5 .i64 .i64 Try.underlying25 hi037 hsz37 ar an ae ac (wrap64 (ac + am)) DT (by first | omega | exact DT) DT aB.out; have HR502 := aM (Kd.C_of_reads (h1 := fun _ => rfl) (hA37 _ (Kd.reads_of_C aA.out))); have HC502 := aM hC37; clear hA37 hC37 hi037 hsz37))
         (try (rw [drewN_self wr]; generalize hq_ : World.drewN wr _ = wr; have n0_ : Aside0 (wr.heap[af]? = some (.cells #[.int .i64 ao, .int .i64 al, .int .i64 ak, .slice av ag.length au] 33 (0, 0))) := ⟨by rw [← hq_]; exact TK⟩; have n1_ : Aside0 (wr.heap[gb495]? = some (.cells #[.int .i64 ah, .slice ar ae.length an] 35 (0, 0))) := ⟨by rw [← hq_]; exact TK⟩; have n2_ : Aside0 (Below w.heap.size w wr) := ⟨by rw [← hq_]; exact TB⟩; clear aa ab HB hq_; have aa := n0_; have ab := n1_; have HB := n2_; clear n0_ n1_ n2_))
         replace aa := aM (blk_drew aa.out)
         replace ab := aM (blk_drew ab.out)
         replace HB := aM (below_drew1 HB.out)
         have ax : 0 ≤ (ad : Int) := DT
         have ay : ad < (ag.length : Int) := DT
         obtain ⟨aw, aG, aq, ap⟩ := at_T72 az.out ad ax ay
         have aj := ap
         have ai := aq
         cases aG
         replace aq := (HB.out.cell (World.block_lt_of_cell? w _ aq)).trans aq
         replace ap := (HB.out.cell (World.block_lt_of_cell? w _ ap)).trans ap
         replace ax := eq_true ax
         replace ay := eq_true ay
         refine start_ (n := 26) (S := fun w' => w'.cell? ⟨gb495, 0, none⟩ = some (.int .i64 ah) ∧ w'.cell? ⟨gb495, 1, none⟩ = some (.slice ar ae.length an) ∧ w'.cell? ⟨af, 0, none⟩ = some (.int .i64 ao) ∧ w'.cell? ⟨af, 1, none⟩ = some (.int .i64 al) ∧ w'.cell? ⟨af, 2, none⟩ = some (.int .i64 ak) ∧ w'.cell? ⟨af, 3, none⟩ = some (.slice (some aw) ag.length au) ∧ w'.cell? (aw.add ((ad).toNat * 2)) = some (.int .i64 ((rd_T72 ag ad).f0)) ∧ w'.cell? ⟨(aw.add ((ad).toNat * 2)).block, (aw.add ((ad).toNat * 2)).off + 1, none⟩ = some (.int .i64 ((rd_T72 ag ad).f1))) (ds := []) (Array.replicate 26 false) (by kernel_rfl) rfl rfl ⟨(blk_cell ab.out 0).trans rfl, (blk_cell ab.out 1).trans rfl, (blk_cell aa.out 0).trans rfl, (blk_cell aa.out 1).trans rfl, (blk_cell aa.out 2).trans rfl, (blk_cell aa.out 3).trans rfl, ((HB.out.cell (World.block_lt_of_cell? w _ ai)).trans ai), ((HB.out.cell (World.block_lt_of_cell? w _ aj)).trans aj)⟩ (fun hHeld => ?_); refine with_tabW spec_BuildOk.tab8 spec_BuildOk.bits8 (fun HT_ HW_ => ?_)
         generalize wr.drew = w38 at aa ab HB aq ap hHeld ⊢
         refine pP 0 (some 57) ?_
         refine pP 2 (some 59) ?_
         refine pT 1 (some 58) ?_
         refine pO 3 (some 60) (fun K hK => ?_)
         refine gG Try.func58 #[.int .i64 ah, .int .i64 ad] ?_
         with_reducible refine (spec_InSet.calls ah ad true _ A29.out).mono ?_
         rintro e w' ⟨rfl, ⟨nd, rfl⟩⟩
         refine ⟨_, rfl, ?_⟩
         refine hK.out _ _ ⟨(blk_cell ab.out 0).trans rfl, (blk_cell ab.out 1).trans rfl, (blk_cell aa.out 0).trans rfl, (blk_cell aa.out 1).trans rfl, (blk_cell aa.out 2).trans rfl, (blk_cell aa.out 3).trans rfl, ((HB.out.cell (World.block_lt_of_cell? w _ ai)).trans ai), ((HB.out.cell (World.block_lt_of_cell? w _ aj)).trans aj)⟩ (fun hHeld => ?_)
         clear hK K
         refine nR ?_
         refine pP 4 (some 61) ?_
         refine pP 5 (some 62) ?_
         refine pP 7 (some 64) ?_
         refine pP 9 (some 66) ?_
         refine pT 8 (some 65) ?_
         refine pP 10 (some 67) ?_
         refine pT 11 (some 68) ?_
         refine pO 6 (some 63) (fun K hK => ?_)
         refine goes_ Try.func59 (by kernel_rfl) rfl #[.slice A37 ((ae.take ((wrap64 (ac + am)) : Int).toNat).drop (ac : Int).toNat).length (an - ac.toNat)] (by rfl) rfl rfl (by (try simp only [List.map_toArray, List.map_cons, List.map_nil]); first | done | (rw [show ((ae.take ((wrap64 (ac + am)) : Int).toNat).drop (ac : Int).toNat).length = ((wrap64 (ac + am)).toNat - ac.toNat) from (by rw [List.length_drop, List.length_take]; have h_ : ((wrap64 (ac + am)) : Int) ≤ (ae.length : Int) := DT; omega)] <;> rfl) | rfl | (simp only [List.length_drop, List.length_take]; rfl)) ?_
         with_reducible refine (spec_SumOf.calls k2 _ _ ((ae.take ((wrap64 (ac + am)) : Int).toNat).drop (ac : Int).toNat) aF aD _ ?side1 ?side2 A31.out).mono ?_
         (case side1 => repeat (first | exact (Kd.C_below HR502.out TB) | (with_reducible refine Kd.C_alloc ?_ _) | (with_reducible refine Kd.C_drewN ?_ _) | (with_reducible refine Kd.C_drew ?_)))
         (case side2 => exact HC502.out)
         rintro e w39 ⟨rfl, hb⟩
         refine ⟨_, rfl, ?_⟩
         have n0_ := aM (blk_below (g := af) (o := .cells #[.int .i64 ao, .int .i64 al, .int .i64 ak, .slice (some aw) ag.length au] 33 (0, 0)) TK hb)
         have n1_ := aM (blk_below (g := gb495) (o := .cells #[.int .i64 ah, .slice ar ae.length an] 35 (0, 0)) TK hb)
         have n2_ := aM (below_step TB hb)
         clear aa
         clear ab
         clear HB
         have aa := n0_
         have ab := n1_
         have HB := n2_
         clear n0_ n1_ n2_
         (try clear hb)
         (try clear hb2)
         (try clear hk)
         (try clear hi)
         refine hK.out _ _ ⟨(blk_cell ab.out 0).trans rfl, (blk_cell ab.out 1).trans rfl, (blk_cell aa.out 0).trans rfl, (blk_cell aa.out 1).trans rfl, (blk_cell aa.out 2).trans rfl, (blk_cell aa.out 3).trans rfl, ((HB.out.cell (World.block_lt_of_cell? w _ ai)).trans ai), ((HB.out.cell (World.block_lt_of_cell? w _ aj)).trans aj)⟩ (fun hHeld => ?_)
         clear hK K
         refine nR ?_
         refine pP 12 (some 69) ?_
         refine pP 13 (some 70) ?_
         refine pP 14 (some 71) ?_
         refine pX 15 (some 72) ?_
         refine pX 16 (some 73) ?_
         refine pX 17 (some 74) ?_
         refine pX 18 (some 75) ?_
         refine pX 19 (some 76) ?_
         refine pX 20 (some 77) ?_
         refine pX 21 (some 78) ?_
         refine pX 22 (some 79) ?_
         refine pX 23 (some 80) ?_
         refine pX 24 (some 81) ?_
         refine pP 25 (some 82) ?_
         refine done_ (done_of HT_.out (by kernel_rfl)) ?_
         try go_wp2
         go_ret
         exact ⟨by first | rfl | (simp [errW_none, errW_some] <;> rfl) | (simp [*, errW_none, errW_some] <;> rfl), TB⟩
        ·rw [if_neg c33] at H
         have c33b0 : (!(aF == ((rd_T72 ag ad).f0)) || (!(aD == ((rd_T72 ag ad).f1)))) = false := by simpa using c33
         clear c33
         replace H := bE H
         obtain ⟨t507, A40, H⟩ := H
         by_cases c41 : t507 = true
         ·subst c41
          replace H := ifT H
          have H' := aM H
          clear H
          have hnb42 := NB494_495.out
          have hnc42 := NB495_494.out
          obtain ⟨hcz43_0, hcz43_1, hcz43_2, hcz43_3⟩ := cz4 aa.out
          obtain ⟨hfz43_0, hfz43_1, hfz43_2, hfz43_3⟩ := fz4 aa.out
          try go_wp2_with (first | ((with_reducible refine gate_callee (f := 53) rfl ?_); refine gL (some 47) Try.func53 #[.int .i64 al, .int .i64 ak, .int .i64 ad] ?_; (with_reducible refine (spec_SpanOf.calls al ak ad ac am _ A25.out).mono ?_); rintro e w' ⟨rfl, ⟨nd, rfl⟩⟩; refine ⟨_, rfl, ?_⟩; obtain ⟨hcz44_0, hcz44_1⟩ := cz2 ab.out; obtain ⟨hfz44_0, hfz44_1⟩ := fz2 ab.out; obtain ⟨i045, hi045, _, hsz45, _⟩ := info_parts info5; obtain ⟨A45, hcut45, hA45, hC45⟩ := print_mid_of (P := Try.prog) (Value.int .u8) 0 25 5 .i64 .i64 Try.underlying25 hi045 hsz45 ar an ae ac (wrap64 (ac + am)) DT (by first | omega | exact DT) DT aB.out; have HR502 := aM (Kd.C_of_reads (h1 := fun _ => rfl) (hA45 _ (Kd.reads_of_C aA.out))); have HC502 := aM hC45; clear hA45 hC45 hi045 hsz45))
          (try (rw [drewN_self wr]; generalize hq_ : World.drewN wr _ = wr; have n0_ : Aside0 (wr.heap[af]? = some (.cells #[.int .i64 ao, .int .i64 al, .int .i64 ak, .slice av ag.length au] 33 (0, 0))) := ⟨by rw [← hq_]; exact TK⟩; have n1_ : Aside0 (wr.heap[gb495]? = some (.cells #[.int .i64 ah, .slice ar ae.length an] 35 (0, 0))) := ⟨by rw [← hq_]; exact TK⟩; have n2_ : Aside0 (Below w.heap.size w wr) := ⟨by rw [← hq_]; exact TB⟩; clear aa ab HB hq_; have aa := n0_; have ab := n1_; have HB := n2_; clear n0_ n1_ n2_))
          replace aa := aM (blk_drew aa.out)
          replace ab := aM (blk_drew ab.out)
          replace HB := aM (below_drew1 HB.out)
          have ax : 0 ≤ (ad : Int) := DT
          have ay : ad < (ag.length : Int) := DT
          obtain ⟨aw, aG, aq, ap⟩ := at_T72 az.out ad ax ay
          have aj := ap
          have ai := aq
          cases aG
          replace aq := (HB.out.cell (World.block_lt_of_cell? w _ aq)).trans aq
          replace ap := (HB.out.cell (World.block_lt_of_cell? w _ ap)).trans ap
          replace ax := eq_true ax
          replace ay := eq_true ay
          refine start_ (n := 26) (S := fun w' => w'.cell? ⟨gb495, 0, none⟩ = some (.int .i64 ah) ∧ w'.cell? ⟨gb495, 1, none⟩ = some (.slice ar ae.length an) ∧ w'.cell? ⟨af, 0, none⟩ = some (.int .i64 ao) ∧ w'.cell? ⟨af, 1, none⟩ = some (.int .i64 al) ∧ w'.cell? ⟨af, 2, none⟩ = some (.int .i64 ak) ∧ w'.cell? ⟨af, 3, none⟩ = some (.slice (some aw) ag.length au) ∧ w'.cell? (aw.add ((ad).toNat * 2)) = some (.int .i64 ((rd_T72 ag ad).f0)) ∧ w'.cell? ⟨(aw.add ((ad).toNat * 2)).block, (aw.add ((ad).toNat * 2)).off + 1, none⟩ = some (.int .i64 ((rd_T72 ag ad).f1))) (ds := []) (Array.replicate 26 false) (by kernel_rfl) rfl rfl ⟨(blk_cell ab.out 0).trans rfl, (blk_cell ab.out 1).trans rfl, (blk_cell aa.out 0).trans rfl, (blk_cell aa.out 1).trans rfl, (blk_cell aa.out 2).trans rfl, (blk_cell aa.out 3).trans rfl, ((HB.out.cell (World.block_lt_of_cell? w _ ai)).trans ai), ((HB.out.cell (World.block_lt_of_cell? w _ aj)).trans aj)⟩ (fun hHeld => ?_); refine with_tabW spec_BuildOk.tab8 spec_BuildOk.bits8 (fun HT_ HW_ => ?_)
          generalize wr.drew = w46 at aa ab HB aq ap hHeld ⊢
          refine pP 0 (some 57) ?_
          refine pP 2 (some 59) ?_
          refine pT 1 (some 58) ?_
          refine pO 3 (some 60) (fun K hK => ?_)
          refine gG Try.func58 #[.int .i64 ah, .int .i64 ad] ?_
          with_reducible refine (spec_InSet.calls ah ad true _ A29.out).mono ?_
          rintro e w' ⟨rfl, ⟨nd, rfl⟩⟩
          refine ⟨_, rfl, ?_⟩
          refine hK.out _ _ ⟨(blk_cell ab.out 0).trans rfl, (blk_cell ab.out 1).trans rfl, (blk_cell aa.out 0).trans rfl, (blk_cell aa.out 1).trans rfl, (blk_cell aa.out 2).trans rfl, (blk_cell aa.out 3).trans rfl, ((HB.out.cell (World.block_lt_of_cell? w _ ai)).trans ai), ((HB.out.cell (World.block_lt_of_cell? w _ aj)).trans aj)⟩ (fun hHeld => ?_)
          clear hK K
          refine nR ?_
          refine pP 4 (some 61) ?_
          refine pP 5 (some 62) ?_
          refine pP 7 (some 64) ?_
          refine pP 9 (some 66) ?_
          refine pT 8 (some 65) ?_
          refine pP 10 (some 67) ?_
          refine pT 11 (some 68) ?_
          refine pO 6 (some 63) (fun K hK => ?_)
          refine goes_ Try.func59 (by kernel_rfl) rfl #[.slice A45 ((ae.take ((wrap64 (ac + am)) : Int).toNat).drop (ac : Int).toNat).length (an - ac.toNat)] (by rfl) rfl rfl (by (try simp only [List.map_toArray, List.map_cons, List.map_nil]); first | done | (rw [show ((ae.take ((wrap64 (ac + am)) : Int).toNat).drop (ac : Int).toNat).length = ((wrap64 (ac + am)).toNat - ac.toNat) from (by rw [List.length_drop, List.length_take]; have h_ : ((wrap64 (ac + am)) : Int) ≤ (ae.length : Int) := DT; omega)] <;> rfl) | rfl | (simp only [List.length_drop, List.length_take]; rfl)) ?_
          with_reducible refine (spec_SumOf.calls k2 _ _ ((ae.take ((wrap64 (ac + am)) : Int).toNat).drop (ac : Int).toNat) aF aD _ ?side1 ?side2 A31.out).mono ?_
          (case side1 => repeat (first | exact (Kd.C_below HR502.out TB) | (with_reducible refine Kd.C_alloc ?_ _) | (with_reducible refine Kd.C_drewN ?_ _) | (with_reducible refine Kd.C_drew ?_)))
          (case side2 => exact HC502.out)
          rintro e w47 ⟨rfl, hb⟩
          refine ⟨_, rfl, ?_⟩
          have n0_ := aM (blk_below (g := af) (o := .cells #[.int .i64 ao, .int .i64 al, .int .i64 ak, .slice (some aw) ag.length au] 33 (0, 0)) TK hb)
          have n1_ := aM (blk_below (g := gb495) (o := .cells #[.int .i64 ah, .slice ar ae.length an] 35 (0, 0)) TK hb)
          have n2_ := aM (below_step TB hb)
          clear aa
          clear ab
          clear HB
          have aa := n0_
          have ab := n1_
          have HB := n2_
          clear n0_ n1_ n2_
          (try clear hb)
          (try clear hb2)
          (try clear hk)
          (try clear hi)
          refine hK.out _ _ ⟨(blk_cell ab.out 0).trans rfl, (blk_cell ab.out 1).trans rfl, (blk_cell aa.out 0).trans rfl, (blk_cell aa.out 1).trans rfl, (blk_cell aa.out 2).trans rfl, (blk_cell aa.out 3).trans rfl, ((HB.out.cell (World.block_lt_of_cell? w _ ai)).trans ai), ((HB.out.cell (World.block_lt_of_cell? w _ aj)).trans aj)⟩ (fun hHeld => ?_)
          clear hK K
          refine nR ?_
          refine pP 12 (some 69) ?_
          refine pP 13 (some 70) ?_
          refine pP 14 (some 71) ?_
          refine pP 15 (some 72) ?_
          refine pP 17 (some 74) ?_
          refine pT 16 (some 73) ?_
          refine pO 18 (some 75) (fun K hK => ?_)
          refine gG Try.func58 #[.int .i64 ah, .int .i64 ad] ?_
          with_reducible refine (spec_InSet.calls ah ad true _ A40.out).mono ?_
          rintro e w' ⟨rfl, ⟨nd, rfl⟩⟩
          refine ⟨_, rfl, ?_⟩
          refine hK.out _ _ ⟨(blk_cell ab.out 0).trans rfl, (blk_cell ab.out 1).trans rfl, (blk_cell aa.out 0).trans rfl, (blk_cell aa.out 1).trans rfl, (blk_cell aa.out 2).trans rfl, (blk_cell aa.out 3).trans rfl, ((HB.out.cell (World.block_lt_of_cell? w _ ai)).trans ai), ((HB.out.cell (World.block_lt_of_cell? w _ aj)).trans aj)⟩ (fun hHeld => ?_)
          clear hK K
          refine nR ?_
          refine pP 19 (some 76) ?_
          refine pP 20 (some 77) ?_
          refine pX 21 (some 78) ?_
          refine pX 22 (some 79) ?_
          refine pX 23 (some 80) ?_
          refine pP 24 (some 81) ?_
          refine pP 25 (some 82) ?_
          refine done_ (done_of HT_.out (by kernel_rfl)) ?_
          try go_wp2
          go_roundg k2
          case measure => have := HJ2.out; have := HK2.out; omega
          case rel => exact ⟨(wrap64 (ad + 1)), (by first | rfl | (simp; done) | (simp [*]; done)), H', ⟨by have := HJ2.out; have := HK2.out; omega⟩, ⟨TK⟩, ⟨TK⟩, ⟨TB⟩⟩
         ·replace c41 := Bool.eq_false_iff.mpr c41
          subst c41
          replace H := ifF H
          replace H := bE H
          obtain ⟨t508, A48, H⟩ := H
          by_cases c49 : t508 = true
          ·subst c49
           replace H := ifT H
           have H' := aM H
           clear H
           have hnb50 := NB494_495.out
           have hnc50 := NB495_494.out
           obtain ⟨hcz51_0, hcz51_1, hcz51_2, hcz51_3⟩ := cz4 aa.out
           obtain ⟨hfz51_0, hfz51_1, hfz51_2, hfz51_3⟩ := fz4 aa.out
           try go_wp2_with (first | ((with_reducible refine gate_callee (f := 53) rfl ?_); refine gL (some 47) Try.func53 #[.int .i64 al, .int .i64 ak, .int .i64 ad] ?_; (with_reducible refine (spec_SpanOf.calls al ak ad ac am _ A25.out).mono ?_); rintro e w' ⟨rfl, ⟨nd, rfl⟩⟩; refine ⟨_, rfl, ?_⟩; obtain ⟨hcz52_0, hcz52_1⟩ := cz2 ab.out; obtain ⟨hfz52_0, hfz52_1⟩ := fz2 ab.out; obtain ⟨i053, hi053, _, hsz53, _⟩ := info_parts info5; obtain ⟨A53, hcut53, hA53, hC53⟩ := print_mid_of (P := Try.prog) (Value.int .u8) 0 25 5 .i64 .i64 Try.underlying25 hi053 hsz53 ar an ae ac (wrap64 (ac + am)) DT (by first | omega | exact DT) DT aB.out; have HR502 := aM (Kd.C_of_reads (h1 := fun _ => rfl) (hA53 _ (Kd.reads_of_C aA.out))); have HC502 := aM hC53; clear hA53 hC53 hi053 hsz53))
           (try (rw [drewN_self wr]; generalize hq_ : World.drewN wr _ = wr; have n0_ : Aside0 (wr.heap[af]? = some (.cells #[.int .i64 ao, .int .i64 al, .int .i64 ak, .slice av ag.length au] 33 (0, 0))) := ⟨by rw [← hq_]; exact TK⟩; have n1_ : Aside0 (wr.heap[gb495]? = some (.cells #[.int .i64 ah, .slice ar ae.length an] 35 (0, 0))) := ⟨by rw [← hq_]; exact TK⟩; have n2_ : Aside0 (Below w.heap.size w wr) := ⟨by rw [← hq_]; exact TB⟩; clear aa ab HB hq_; have aa := n0_; have ab := n1_; have HB := n2_; clear n0_ n1_ n2_))
           replace aa := aM (blk_drew aa.out)
           replace ab := aM (blk_drew ab.out)
           replace HB := aM (below_drew1 HB.out)
           have ax : 0 ≤ (ad : Int) := DT
           have ay : ad < (ag.length : Int) := DT
           obtain ⟨aw, aG, aq, ap⟩ := at_T72 az.out ad ax ay
           have aj := ap
           have ai := aq
           cases aG
           replace aq := (HB.out.cell (World.block_lt_of_cell? w _ aq)).trans aq
           replace ap := (HB.out.cell (World.block_lt_of_cell? w _ ap)).trans ap
           replace ax := eq_true ax
           replace ay := eq_true ay
           refine start_ (n := 26) (S := fun w' => w'.cell? ⟨gb495, 0, none⟩ = some (.int .i64 ah) ∧ w'.cell? ⟨gb495, 1, none⟩ = some (.slice ar ae.length an) ∧ w'.cell? ⟨af, 0, none⟩ = some (.int .i64 ao) ∧ w'.cell? ⟨af, 1, none⟩ = some (.int .i64 al) ∧ w'.cell? ⟨af, 2, none⟩ = some (.int .i64 ak) ∧ w'.cell? ⟨af, 3, none⟩ = some (.slice (some aw) ag.length au) ∧ w'.cell? (aw.add ((ad).toNat * 2)) = some (.int .i64 ((rd_T72 ag ad).f0)) ∧ w'.cell? ⟨(aw.add ((ad).toNat * 2)).block, (aw.add ((ad).toNat * 2)).off + 1, none⟩ = some (.int .i64 ((rd_T72 ag ad).f1))) (ds := []) (Array.replicate 26 false) (by kernel_rfl) rfl rfl ⟨(blk_cell ab.out 0).trans rfl, (blk_cell ab.out 1).trans rfl, (blk_cell aa.out 0).trans rfl, (blk_cell aa.out 1).trans rfl, (blk_cell aa.out 2).trans rfl, (blk_cell aa.out 3).trans rfl, ((HB.out.cell (World.block_lt_of_cell? w _ ai)).trans ai), ((HB.out.cell (World.block_lt_of_cell? w _ aj)).trans aj)⟩ (fun hHeld => ?_); refine with_tabW spec_BuildOk.tab8 spec_BuildOk.bits8 (fun HT_ HW_ => ?_)
           generalize wr.drew = w54 at aa ab HB aq ap hHeld ⊢
           refine pP 0 (some 57) ?_
           refine pP 2 (some 59) ?_
           refine pT 1 (some 58) ?_
           refine pO 3 (some 60) (fun K hK => ?_)
           refine gG Try.func58 #[.int .i64 ah, .int .i64 ad] ?_
           with_reducible refine (spec_InSet.calls ah ad true _ A29.out).mono ?_
           rintro e w' ⟨rfl, ⟨nd, rfl⟩⟩
           refine ⟨_, rfl, ?_⟩
           refine hK.out _ _ ⟨(blk_cell ab.out 0).trans rfl, (blk_cell ab.out 1).trans rfl, (blk_cell aa.out 0).trans rfl, (blk_cell aa.out 1).trans rfl, (blk_cell aa.out 2).trans rfl, (blk_cell aa.out 3).trans rfl, ((HB.out.cell (World.block_lt_of_cell? w _ ai)).trans ai), ((HB.out.cell (World.block_lt_of_cell? w _ aj)).trans aj)⟩ (fun hHeld => ?_)
           clear hK K
           refine nR ?_
           refine pP 4 (some 61) ?_
           refine pP 5 (some 62) ?_
           refine pP 7 (some 64) ?_
           refine pP 9 (some 66) ?_
           refine pT 8 (some 65) ?_
           refine pP 10 (some 67) ?_
           refine pT 11 (some 68) ?_
           refine pO 6 (some 63) (fun K hK => ?_)
           refine goes_ Try.func59 (by kernel_rfl) rfl #[.slice A53 ((ae.take ((wrap64 (ac + am)) : Int).toNat).drop (ac : Int).toNat).length (an - ac.toNat)] (by rfl) rfl rfl (by (try simp only [List.map_toArray, List.map_cons, List.map_nil]); first | done | (rw [show ((ae.take ((wrap64 (ac + am)) : Int).toNat).drop (ac : Int).toNat).length = ((wrap64 (ac + am)).toNat - ac.toNat) from (by rw [List.length_drop, List.length_take]; have h_ : ((wrap64 (ac + am)) : Int) ≤ (ae.length : Int) := DT; omega)] <;> rfl) | rfl | (simp only [List.length_drop, List.length_take]; rfl)) ?_
           with_reducible refine (spec_SumOf.calls k2 _ _ ((ae.take ((wrap64 (ac + am)) : Int).toNat).drop (ac : Int).toNat) aF aD _ ?side1 ?side2 A31.out).mono ?_
           (case side1 => repeat (first | exact (Kd.C_below HR502.out TB) | (with_reducible refine Kd.C_alloc ?_ _) | (with_reducible refine Kd.C_drewN ?_ _) | (with_reducible refine Kd.C_drew ?_)))
           (case side2 => exact HC502.out)
           rintro e w55 ⟨rfl, hb⟩
           refine ⟨_, rfl, ?_⟩
           have n0_ := aM (blk_below (g := af) (o := .cells #[.int .i64 ao, .int .i64 al, .int .i64 ak, .slice (some aw) ag.length au] 33 (0, 0)) TK hb)
           have n1_ := aM (blk_below (g := gb495) (o := .cells #[.int .i64 ah, .slice ar ae.length an] 35 (0, 0)) TK hb)
           have n2_ := aM (below_step TB hb)
           clear aa
           clear ab
           clear HB
           have aa := n0_
           have ab := n1_
           have HB := n2_
           clear n0_ n1_ n2_
           (try clear hb)
           (try clear hb2)
           (try clear hk)
           (try clear hi)
           refine hK.out _ _ ⟨(blk_cell ab.out 0).trans rfl, (blk_cell ab.out 1).trans rfl, (blk_cell aa.out 0).trans rfl, (blk_cell aa.out 1).trans rfl, (blk_cell aa.out 2).trans rfl, (blk_cell aa.out 3).trans rfl, ((HB.out.cell (World.block_lt_of_cell? w _ ai)).trans ai), ((HB.out.cell (World.block_lt_of_cell? w _ aj)).trans aj)⟩ (fun hHeld => ?_)
           clear hK K
           refine nR ?_
           refine pP 12 (some 69) ?_
           refine pP 13 (some 70) ?_
           refine pP 14 (some 71) ?_
           refine pP 15 (some 72) ?_
           refine pP 17 (some 74) ?_
           refine pT 16 (some 73) ?_
           refine pO 18 (some 75) (fun K hK => ?_)
           refine gG Try.func58 #[.int .i64 ah, .int .i64 ad] ?_
           with_reducible refine (spec_InSet.calls ah ad false _ A40.out).mono ?_
           rintro e w' ⟨rfl, ⟨nd, rfl⟩⟩
           refine ⟨_, rfl, ?_⟩
           refine hK.out _ _ ⟨(blk_cell ab.out 0).trans rfl, (blk_cell ab.out 1).trans rfl, (blk_cell aa.out 0).trans rfl, (blk_cell aa.out 1).trans rfl, (blk_cell aa.out 2).trans rfl, (blk_cell aa.out 3).trans rfl, ((HB.out.cell (World.block_lt_of_cell? w _ ai)).trans ai), ((HB.out.cell (World.block_lt_of_cell? w _ aj)).trans aj)⟩ (fun hHeld => ?_)
           clear hK K
           refine nR ?_
           refine pP 19 (some 76) ?_
           refine pP 20 (some 77) ?_
           refine pP 21 (some 78) ?_
           refine pO 22 (some 79) (fun K hK => ?_)
           refine goes_ Try.func60 (by kernel_rfl) rfl #[.slice A53 ((ae.take ((wrap64 (ac + am)) : Int).toNat).drop (ac : Int).toNat).length (an - ac.toNat)] (by rfl) rfl rfl (by (try simp only [List.map_toArray, List.map_cons, List.map_nil]); first | done | (rw [show ((ae.take ((wrap64 (ac + am)) : Int).toNat).drop (ac : Int).toNat).length = ((wrap64 (ac + am)).toNat - ac.toNat) from (by rw [List.length_drop, List.length_take]; have h_ : ((wrap64 (ac + am)) : Int) ≤ (ae.length : Int) := DT; omega)] <;> rfl) | rfl | (simp only [List.length_drop, List.length_take]; rfl)) ?_
           with_reducible refine (spec_l8Zero.calls k2 _ _ ((ae.take ((wrap64 (ac + am)) : Int).toNat).drop (ac : Int).toNat) true _ ?side1 ?side2 A48.out).mono ?_
           (case side1 => repeat (first | exact (Kd.C_below HR502.out TB) | (with_reducible refine Kd.C_alloc ?_ _) | (with_reducible refine Kd.C_drewN ?_ _) | (with_reducible refine Kd.C_drew ?_)))
           (case side2 => exact HC502.out)
           rintro e w' ⟨rfl, ⟨nd, rfl⟩⟩
           refine ⟨_, rfl, ?_⟩
           refine hK.out _ _ ⟨(blk_cell ab.out 0).trans rfl, (blk_cell ab.out 1).trans rfl, (blk_cell aa.out 0).trans rfl, (blk_cell aa.out 1).trans rfl, (blk_cell aa.out 2).trans rfl, (blk_cell aa.out 3).trans rfl, ((HB.out.cell (World.block_lt_of_cell? w _ ai)).trans ai), ((HB.out.cell (World.block_lt_of_cell? w _ aj)).trans aj)⟩ (fun hHeld => ?_)
           clear hK K
           refine nR ?_
           refine pP 23 (some 80) ?_
           refine pP 24 (some 81) ?_
           refine pP 25 (some 82) ?_
           refine done_ (done_of HT_.out (by kernel_rfl)) ?_
           try go_wp2
           go_roundg k2
           case measure => have := HJ2.out; have := HK2.out; omega
           case rel => exact ⟨(wrap64 (ad + 1)), (by first | rfl | (simp; done) | (simp [*]; done)), H', ⟨by have := HJ2.out; have := HK2.out; omega⟩, ⟨TK⟩, ⟨TK⟩, ⟨TB⟩⟩
          ·replace c49 := Bool.eq_false_iff.mpr c49
           subst c49
           replace H := ifF H
           obtain rfl := Option.some.inj H
           have hnb56 := NB494_495.out
           have hnc56 := NB495_494.out
           obtain ⟨hcz57_0, hcz57_1, hcz57_2, hcz57_3⟩ := cz4 aa.out
           obtain ⟨hfz57_0, hfz57_1, hfz57_2, hfz57_3⟩ := fz4 aa.out
           try go_wp2_with (first | ((with_reducible refine gate_callee (f := 53) rfl ?_); refine gL (some 47) Try.func53 #[.int .i64 al, .int .i64 ak, .int .i64 ad] ?_; (with_reducible refine (spec_SpanOf.calls al ak ad ac am _ A25.out).mono ?_); rintro e w' ⟨rfl, ⟨nd, rfl⟩⟩; refine ⟨_, rfl, ?_⟩; obtain ⟨hcz58_0, hcz58_1⟩ := cz2 ab.out; obtain ⟨hfz58_0, hfz58_1⟩ := fz2 ab.out; obtain ⟨i059, hi059, _, hsz59, _⟩ := info_parts info5; obtain ⟨A59, hcut59, hA59, hC59⟩ := print_mid_of (P := Try.prog) (Value.int .u8) 0 25 5 .i64 .i64 Try.underlying25 hi059 hsz59 ar an ae ac (wrap64 (ac + am)) DT (by first | omega | exact DT) DT aB.out; have HR502 := aM (Kd.C_of_reads (h1 := fun _ => rfl) (hA59 _ (Kd.reads_of_C aA.out))); have HC502 := aM hC59; clear hA59 hC59 hi059 hsz59))
           (try (rw [drewN_self wr]; generalize hq_ : World.drewN wr _ = wr; have n0_ : Aside0 (wr.heap[af]? = some (.cells #[.int .i64 ao, .int .i64 al, .int .i64 ak, .slice av ag.length au] 33 (0, 0))) := ⟨by rw [← hq_]; exact TK⟩; have n1_ : Aside0 (wr.heap[gb495]? = some (.cells #[.int .i64 ah, .slice ar ae.length an] 35 (0, 0))) := ⟨by rw [← hq_]; exact TK⟩; have n2_ : Aside0 (Below w.heap.size w wr) := ⟨by rw [← hq_]; exact TB⟩; clear aa ab HB hq_; have aa := n0_; have ab := n1_; have HB := n2_; clear n0_ n1_ n2_))
           replace aa := aM (blk_drew aa.out)
           replace ab := aM (blk_drew ab.out)
           replace HB := aM (below_drew1 HB.out)
           have ax : 0 ≤ (ad : Int) := DT
           have ay : ad < (ag.length : Int) := DT
           obtain ⟨aw, aG, aq, ap⟩ := at_T72 az.out ad ax ay
           have aj := ap
           have ai := aq
           cases aG
           replace aq := (HB.out.cell (World.block_lt_of_cell? w _ aq)).trans aq
           replace ap := (HB.out.cell (World.block_lt_of_cell? w _ ap)).trans ap
           replace ax := eq_true ax
           replace ay := eq_true ay
           refine start_ (n := 26) (S := fun w' => w'.cell? ⟨gb495, 0, none⟩ = some (.int .i64 ah) ∧ w'.cell? ⟨gb495, 1, none⟩ = some (.slice ar ae.length an) ∧ w'.cell? ⟨af, 0, none⟩ = some (.int .i64 ao) ∧ w'.cell? ⟨af, 1, none⟩ = some (.int .i64 al) ∧ w'.cell? ⟨af, 2, none⟩ = some (.int .i64 ak) ∧ w'.cell? ⟨af, 3, none⟩ = some (.slice (some aw) ag.length au) ∧ w'.cell? (aw.add ((ad).toNat * 2)) = some (.int .i64 ((rd_T72 ag ad).f0)) ∧ w'.cell? ⟨(aw.add ((ad).toNat * 2)).block, (aw.add ((ad).toNat * 2)).off + 1, none⟩ = some (.int .i64 ((rd_T72 ag ad).f1))) (ds := []) (Array.replicate 26 false) (by kernel_rfl) rfl rfl ⟨(blk_cell ab.out 0).trans rfl, (blk_cell ab.out 1).trans rfl, (blk_cell aa.out 0).trans rfl, (blk_cell aa.out 1).trans rfl, (blk_cell aa.out 2).trans rfl, (blk_cell aa.out 3).trans rfl, ((HB.out.cell (World.block_lt_of_cell? w _ ai)).trans ai), ((HB.out.cell (World.block_lt_of_cell? w _ aj)).trans aj)⟩ (fun hHeld => ?_); refine with_tabW spec_BuildOk.tab8 spec_BuildOk.bits8 (fun HT_ HW_ => ?_)
           generalize wr.drew = w60 at aa ab HB aq ap hHeld ⊢
           refine pP 0 (some 57) ?_
           refine pP 2 (some 59) ?_
           refine pT 1 (some 58) ?_
           refine pO 3 (some 60) (fun K hK => ?_)
           refine gG Try.func58 #[.int .i64 ah, .int .i64 ad] ?_
           with_reducible refine (spec_InSet.calls ah ad true _ A29.out).mono ?_
           rintro e w' ⟨rfl, ⟨nd, rfl⟩⟩
           refine ⟨_, rfl, ?_⟩
           refine hK.out _ _ ⟨(blk_cell ab.out 0).trans rfl, (blk_cell ab.out 1).trans rfl, (blk_cell aa.out 0).trans rfl, (blk_cell aa.out 1).trans rfl, (blk_cell aa.out 2).trans rfl, (blk_cell aa.out 3).trans rfl, ((HB.out.cell (World.block_lt_of_cell? w _ ai)).trans ai), ((HB.out.cell (World.block_lt_of_cell? w _ aj)).trans aj)⟩ (fun hHeld => ?_)
           clear hK K
           refine nR ?_
           refine pP 4 (some 61) ?_
           refine pP 5 (some 62) ?_
           refine pP 7 (some 64) ?_
           refine pP 9 (some 66) ?_
           refine pT 8 (some 65) ?_
           refine pP 10 (some 67) ?_
           refine pT 11 (some 68) ?_
           refine pO 6 (some 63) (fun K hK => ?_)
           refine goes_ Try.func59 (by kernel_rfl) rfl #[.slice A59 ((ae.take ((wrap64 (ac + am)) : Int).toNat).drop (ac : Int).toNat).length (an - ac.toNat)] (by rfl) rfl rfl (by (try simp only [List.map_toArray, List.map_cons, List.map_nil]); first | done | (rw [show ((ae.take ((wrap64 (ac + am)) : Int).toNat).drop (ac : Int).toNat).length = ((wrap64 (ac + am)).toNat - ac.toNat) from (by rw [List.length_drop, List.length_take]; have h_ : ((wrap64 (ac + am)) : Int) ≤ (ae.length : Int) := DT; omega)] <;> rfl) | rfl | (simp only [List.length_drop, List.length_take]; rfl)) ?_
           with_reducible refine (spec_SumOf.calls k2 _ _ ((ae.take ((wrap64 (ac + am)) : Int).toNat).drop (ac : Int).toNat) aF aD _ ?side1 ?side2 A31.out).mono ?_
           (case side1 => repeat (first | exact (Kd.C_below HR502.out TB) | (with_reducible refine Kd.C_alloc ?_ _) | (with_reducible refine Kd.C_drewN ?_ _) | (with_reducible refine Kd.C_drew ?_)))
           (case side2 => exact HC502.out)
           rintro e w61 ⟨rfl, hb⟩
           refine ⟨_, rfl, ?_⟩
           have n0_ := aM (blk_below (g := af) (o := .cells #[.int .i64 ao, .int .i64 al, .int .i64 ak, .slice (some aw) ag.length au] 33 (0, 0)) TK hb)
           have n1_ := aM (blk_below (g := gb495) (o := .cells #[.int .i64 ah, .slice ar ae.length an] 35 (0, 0)) TK hb)
           have n2_ := aM (below_step TB hb)
           clear aa
           clear ab
           clear HB
           have aa := n0_
           have ab := n1_
           have HB := n2_
           clear n0_ n1_ n2_
           (try clear hb)
           (try clear hb2)
           (try clear hk)
           (try clear hi)
           refine hK.out _ _ ⟨(blk_cell ab.out 0).trans rfl, (blk_cell ab.out 1).trans rfl, (blk_cell aa.out 0).trans rfl, (blk_cell aa.out 1).trans rfl, (blk_cell aa.out 2).trans rfl, (blk_cell aa.out 3).trans rfl, ((HB.out.cell (World.block_lt_of_cell? w _ ai)).trans ai), ((HB.out.cell (World.block_lt_of_cell? w _ aj)).trans aj)⟩ (fun hHeld => ?_)
           clear hK K
           refine nR ?_
           refine pP 12 (some 69) ?_
           refine pP 13 (some 70) ?_
           refine pP 14 (some 71) ?_
           refine pP 15 (some 72) ?_
           refine pP 17 (some 74) ?_
           refine pT 16 (some 73) ?_
           refine pO 18 (some 75) (fun K hK => ?_)
           refine gG Try.func58 #[.int .i64 ah, .int .i64 ad] ?_
           with_reducible refine (spec_InSet.calls ah ad false _ A40.out).mono ?_
           rintro e w' ⟨rfl, ⟨nd, rfl⟩⟩
           refine ⟨_, rfl, ?_⟩
           refine hK.out _ _ ⟨(blk_cell ab.out 0).trans rfl, (blk_cell ab.out 1).trans rfl, (blk_cell aa.out 0).trans rfl, (blk_cell aa.out 1).trans rfl, (blk_cell aa.out 2).trans rfl, (blk_cell aa.out 3).trans rfl, ((HB.out.cell (World.block_lt_of_cell? w _ ai)).trans ai), ((HB.out.cell (World.block_lt_of_cell? w _ aj)).trans aj)⟩ (fun hHeld => ?_)
           clear hK K
           refine nR ?_
           refine pP 19 (some 76) ?_
           refine pP 20 (some 77) ?_
           refine pP 21 (some 78) ?_
           refine pO 22 (some 79) (fun K hK => ?_)
           refine goes_ Try.func60 (by kernel_rfl) rfl #[.slice A59 ((ae.take ((wrap64 (ac + am)) : Int).toNat).drop (ac : Int).toNat).length (an - ac.toNat)] (by rfl) rfl rfl (by (try simp only [List.map_toArray, List.map_cons, List.map_nil]); first | done | (rw [show ((ae.take ((wrap64 (ac + am)) : Int).toNat).drop (ac : Int).toNat).length = ((wrap64 (ac + am)).toNat - ac.toNat) from (by rw [List.length_drop, List.length_take]; have h_ : ((wrap64 (ac + am)) : Int) ≤ (ae.length : Int) := DT; omega)] <;> rfl) | rfl | (simp only [List.length_drop, List.length_take]; rfl)) ?_
           with_reducible refine (spec_l8Zero.calls k2 _ _ ((ae.take ((wrap64 (ac + am)) : Int).toNat).drop (ac : Int).toNat) false _ ?side1 ?side2 A48.out).mono ?_
           (case side1 => repeat (first | exact (Kd.C_below HR502.out TB) | (with_reducible refine Kd.C_alloc ?_ _) | (with_reducible refine Kd.C_drewN ?_ _) | (with_reducible refine Kd.C_drew ?_)))
           (case side2 => exact HC502.out)
           rintro e w' ⟨rfl, ⟨nd, rfl⟩⟩
           refine ⟨_, rfl, ?_⟩
           refine hK.out _ _ ⟨(blk_cell ab.out 0).trans rfl, (blk_cell ab.out 1).trans rfl, (blk_cell aa.out 0).trans rfl, (blk_cell aa.out 1).trans rfl, (blk_cell aa.out 2).trans rfl, (blk_cell aa.out 3).trans rfl, ((HB.out.cell (World.block_lt_of_cell? w _ ai)).trans ai), ((HB.out.cell (World.block_lt_of_cell? w _ aj)).trans aj)⟩ (fun hHeld => ?_)
           clear hK K
           refine nR ?_
           refine pP 23 (some 80) ?_
           refine pP 24 (some 81) ?_
           refine pP 25 (some 82) ?_
           refine done_ (done_of HT_.out (by kernel_rfl)) ?_
           try go_wp2
           go_ret
           exact ⟨by first | rfl | (simp [errW_none, errW_some] <;> rfl) | (simp [*, errW_none, errW_some] <;> rfl), TB⟩
       ·replace c30 := Bool.eq_false_iff.mpr c30
        subst c30
        replace H := ifF H
        replace H := bE H
        obtain ⟨t509, A62, H⟩ := H
        by_cases c63 : t509 = true
        ·subst c63
         replace H := ifT H
         have H' := aM H
         clear H
         have hnb64 := NB494_495.out
         have hnc64 := NB495_494.out
         obtain ⟨hcz65_0, hcz65_1, hcz65_2, hcz65_3⟩ := cz4 aa.out
         obtain ⟨hfz65_0, hfz65_1, hfz65_2, hfz65_3⟩ := fz4 aa.out
         try go_wp2_with (first | ((with_reducible refine gate_callee (f := 53) rfl ?_); refine gL (some 47) Try.func53 #[.int .i64 al, .int .i64 ak, .int .i64 ad] ?_; (with_reducible refine (spec_SpanOf.calls al ak ad ac am _ A25.out).mono ?_); rintro e w' ⟨rfl, ⟨nd, rfl⟩⟩; refine ⟨_, rfl, ?_⟩; obtain ⟨hcz66_0, hcz66_1⟩ := cz2 ab.out; obtain ⟨hfz66_0, hfz66_1⟩ := fz2 ab.out; obtain ⟨i067, hi067, _, hsz67, _⟩ := info_parts info5; obtain ⟨A67, hcut67, hA67, hC67⟩ := print_mid_of (P := Try.prog) (Value.int .u8) 0 25 5 .i64 .i64 Try.underlying25 hi067 hsz67 ar an ae ac (wrap64 (ac + am)) DT (by first | omega | exact DT) DT aB.out; have HR502 := aM (Kd.C_of_reads (h1 := fun _ => rfl) (hA67 _ (Kd.reads_of_C aA.out))); have HC502 := aM hC67; clear hA67 hC67 hi067 hsz67))
         (try (rw [drewN_self wr]; generalize hq_ : World.drewN wr _ = wr; have n0_ : Aside0 (wr.heap[af]? = some (.cells #[.int .i64 ao, .int .i64 al, .int .i64 ak, .slice av ag.length au] 33 (0, 0))) := ⟨by rw [← hq_]; exact TK⟩; have n1_ : Aside0 (wr.heap[gb495]? = some (.cells #[.int .i64 ah, .slice ar ae.length an] 35 (0, 0))) := ⟨by rw [← hq_]; exact TK⟩; have n2_ : Aside0 (Below w.heap.size w wr) := ⟨by rw [← hq_]; exact TB⟩; clear aa ab HB hq_; have aa := n0_; have ab := n1_; have HB := n2_; clear n0_ n1_ n2_))
         replace aa := aM (blk_drew aa.out)
         replace ab := aM (blk_drew ab.out)
         replace HB := aM (below_drew1 HB.out)
         refine start_ (n := 26) (S := fun w' => w'.cell? ⟨gb495, 0, none⟩ = some (.int .i64 ah) ∧ w'.cell? ⟨gb495, 1, none⟩ = some (.slice ar ae.length an)) (ds := []) (Array.replicate 26 false) (by kernel_rfl) rfl rfl (cz2 ab.out) (fun hHeld => ?_); refine with_tabW spec_BuildOk.tab8 spec_BuildOk.bits8 (fun HT_ HW_ => ?_)
         generalize wr.drew = w68 at aa ab HB hHeld ⊢
         refine pP 0 (some 57) ?_
         refine pP 2 (some 59) ?_
         refine pT 1 (some 58) ?_
         refine pO 3 (some 60) (fun K hK => ?_)
         refine gG Try.func58 #[.int .i64 ah, .int .i64 ad] ?_
         with_reducible refine (spec_InSet.calls ah ad false _ A29.out).mono ?_
         rintro e w' ⟨rfl, ⟨nd, rfl⟩⟩
         refine ⟨_, rfl, ?_⟩
         refine hK.out _ _ (cz2 ab.out) (fun hHeld => ?_)
         clear hK K
         refine nR ?_
         refine pP 4 (some 61) ?_
         refine pX 5 (some 62) ?_
         refine pX 6 (some 63) ?_
         refine pX 7 (some 64) ?_
         refine pX 8 (some 65) ?_
         refine pX 9 (some 66) ?_
         refine pX 10 (some 67) ?_
         refine pX 11 (some 68) ?_
         refine pX 12 (some 69) ?_
         refine pP 13 (some 70) ?_
         refine pP 14 (some 71) ?_
         refine pP 15 (some 72) ?_
         refine pP 17 (some 74) ?_
         refine pT 16 (some 73) ?_
         refine pO 18 (some 75) (fun K hK => ?_)
         refine gG Try.func58 #[.int .i64 ah, .int .i64 ad] ?_
         with_reducible refine (spec_InSet.calls ah ad true _ A62.out).mono ?_
         rintro e w' ⟨rfl, ⟨nd, rfl⟩⟩
         refine ⟨_, rfl, ?_⟩
         refine hK.out _ _ (cz2 ab.out) (fun hHeld => ?_)
         clear hK K
         refine nR ?_
         refine pP 19 (some 76) ?_
         refine pP 20 (some 77) ?_
         refine pX 21 (some 78) ?_
         refine pX 22 (some 79) ?_
         refine pX 23 (some 80) ?_
         refine pP 24 (some 81) ?_
         refine pP 25 (some 82) ?_
         refine done_ (done_of HT_.out (by kernel_rfl)) ?_
         try go_wp2
         go_roundg k2
         case measure => have := HJ2.out; have := HK2.out; omega
         case rel => exact ⟨(wrap64 (ad + 1)), (by first | rfl | (simp; done) | (simp [*]; done)), H', ⟨by have := HJ2.out; have := HK2.out; omega⟩, ⟨TK⟩, ⟨TK⟩, ⟨TB⟩⟩
        ·replace c63 := Bool.eq_false_iff.mpr c63
         subst c63
         replace H := ifF H
         replace H := bE H
         obtain ⟨t510, A69, H⟩ := H
         by_cases c70 : t510 = true
         ·subst c70
          replace H := ifT H
          have H' := aM H
          clear H
          have hnb71 := NB494_495.out
          have hnc71 := NB495_494.out
          obtain ⟨hcz72_0, hcz72_1, hcz72_2, hcz72_3⟩ := cz4 aa.out
          obtain ⟨hfz72_0, hfz72_1, hfz72_2, hfz72_3⟩ := fz4 aa.out
          try go_wp2_with (first | ((with_reducible refine gate_callee (f := 53) rfl ?_); refine gL (some 47) Try.func53 #[.int .i64 al, .int .i64 ak, .int .i64 ad] ?_; (with_reducible refine (spec_SpanOf.calls al ak ad ac am _ A25.out).mono ?_); rintro e w' ⟨rfl, ⟨nd, rfl⟩⟩; refine ⟨_, rfl, ?_⟩; obtain ⟨hcz73_0, hcz73_1⟩ := cz2 ab.out; obtain ⟨hfz73_0, hfz73_1⟩ := fz2 ab.out; obtain ⟨i074, hi074, _, hsz74, _⟩ := info_parts info5; obtain ⟨A74, hcut74, hA74, hC74⟩ := print_mid_of (P := Try.prog) (Value.int .u8) 0 25 5 .i64 .i64 Try.underlying25 hi074 hsz74 ar an ae ac (wrap64 (ac + am)) DT (by first | omega | exact DT) DT aB.out; have HR502 := aM (Kd.C_of_reads (h1 := fun _ => rfl) (hA74 _ (Kd.reads_of_C aA.out))); have HC502 := aM hC74; clear hA74 hC74 hi074 hsz74))
          (try (rw [drewN_self wr]; generalize hq_ : World.drewN wr _ = wr; have n0_ : Aside0 (wr.heap[af]? = some (.cells #[.int .i64 ao, .int .i64 al, .int .i64 ak, .slice av ag.length au] 33 (0, 0))) := ⟨by rw [← hq_]; exact TK⟩; have n1_ : Aside0 (wr.heap[gb495]? = some (.cells #[.int .i64 ah, .slice ar ae.length an] 35 (0, 0))) := ⟨by rw [← hq_]; exact TK⟩; have n2_ : Aside0 (Below w.heap.size w wr) := ⟨by rw [← hq_]; exact TB⟩; clear aa ab HB hq_; have aa := n0_; have ab := n1_; have HB := n2_; clear n0_ n1_ n2_))
          replace aa := aM (blk_drew aa.out)
          replace ab := aM (blk_drew ab.out)
          replace HB := aM (below_drew1 HB.out)
          refine start_ (n := 26) (S := fun w' => w'.cell? ⟨gb495, 0, none⟩ = some (.int .i64 ah) ∧ w'.cell? ⟨gb495, 1, none⟩ = some (.slice ar ae.length an)) (ds := []) (Array.replicate 26 false) (by kernel_rfl) rfl rfl (cz2 ab.out) (fun hHeld => ?_); refine with_tabW spec_BuildOk.tab8 spec_BuildOk.bits8 (fun HT_ HW_ => ?_)
          generalize wr.drew = w75 at aa ab HB hHeld ⊢
          refine pP 0 (some 57) ?_
          refine pP 2 (some 59) ?_
          refine pT 1 (some 58) ?_
          refine pO 3 (some 60) (fun K hK => ?_)
          refine gG Try.func58 #[.int .i64 ah, .int .i64 ad] ?_
          with_reducible refine (spec_InSet.calls ah ad false _ A29.out).mono ?_
          rintro e w' ⟨rfl, ⟨nd, rfl⟩⟩
          refine ⟨_, rfl, ?_⟩
          refine hK.out _ _ (cz2 ab.out) (fun hHeld => ?_)
          clear hK K
          refine nR ?_
          refine pP 4 (some 61) ?_
          refine pX 5 (some 62) ?_
          refine pX 6 (some 63) ?_
          refine pX 7 (some 64) ?_
          refine pX 8 (some 65) ?_
          refine pX 9 (some 66) ?_
          refine pX 10 (some 67) ?_
          refine pX 11 (some 68) ?_
          refine pX 12 (some 69) ?_
          refine pP 13 (some 70) ?_
          refine pP 14 (some 71) ?_
          refine pP 15 (some 72) ?_
          refine pP 17 (some 74) ?_
          refine pT 16 (some 73) ?_
          refine pO 18 (some 75) (fun K hK => ?_)
          refine gG Try.func58 #[.int .i64 ah, .int .i64 ad] ?_
          with_reducible refine (spec_InSet.calls ah ad false _ A62.out).mono ?_
          rintro e w' ⟨rfl, ⟨nd, rfl⟩⟩
          refine ⟨_, rfl, ?_⟩
          refine hK.out _ _ (cz2 ab.out) (fun hHeld => ?_)
          clear hK K
          refine nR ?_
          refine pP 19 (some 76) ?_
          refine pP 20 (some 77) ?_
          refine pP 21 (some 78) ?_
          refine pO 22 (some 79) (fun K hK => ?_)
          refine goes_ Try.func60 (by kernel_rfl) rfl #[.slice A74 ((ae.take ((wrap64 (ac + am)) : Int).toNat).drop (ac : Int).toNat).length (an - ac.toNat)] (by rfl) rfl rfl (by (try simp only [List.map_toArray, List.map_cons, List.map_nil]); first | done | (rw [show ((ae.take ((wrap64 (ac + am)) : Int).toNat).drop (ac : Int).toNat).length = ((wrap64 (ac + am)).toNat - ac.toNat) from (by rw [List.length_drop, List.length_take]; have h_ : ((wrap64 (ac + am)) : Int) ≤ (ae.length : Int) := DT; omega)] <;> rfl) | rfl | (simp only [List.length_drop, List.length_take]; rfl)) ?_
          with_reducible refine (spec_l8Zero.calls k2 _ _ ((ae.take ((wrap64 (ac + am)) : Int).toNat).drop (ac : Int).toNat) true _ ?side1 ?side2 A69.out).mono ?_
          (case side1 => repeat (first | exact (Kd.C_below HR502.out TB) | (with_reducible refine Kd.C_alloc ?_ _) | (with_reducible refine Kd.C_drewN ?_ _) | (with_reducible refine Kd.C_drew ?_)))
          (case side2 => exact HC502.out)
          rintro e w' ⟨rfl, ⟨nd, rfl⟩⟩
          refine ⟨_, rfl, ?_⟩
          refine hK.out _ _ (cz2 ab.out) (fun hHeld => ?_)
          clear hK K
          refine nR ?_
          refine pP 23 (some 80) ?_
          refine pP 24 (some 81) ?_
          refine pP 25 (some 82) ?_
          refine done_ (done_of HT_.out (by kernel_rfl)) ?_
          try go_wp2
          go_roundg k2
          case measure => have := HJ2.out; have := HK2.out; omega
          case rel => exact ⟨(wrap64 (ad + 1)), (by first | rfl | (simp; done) | (simp [*]; done)), H', ⟨by have := HJ2.out; have := HK2.out; omega⟩, ⟨TK⟩, ⟨TK⟩, ⟨TB⟩⟩
         ·replace c70 := Bool.eq_false_iff.mpr c70
          subst c70
          replace H := ifF H
          obtain rfl := Option.some.inj H
          have hnb76 := NB494_495.out
          have hnc76 := NB495_494.out
          obtain ⟨hcz77_0, hcz77_1, hcz77_2, hcz77_3⟩ := cz4 aa.out
          obtain ⟨hfz77_0, hfz77_1, hfz77_2, hfz77_3⟩ := fz4 aa.out
          try go_wp2_with (first | ((with_reducible refine gate_callee (f := 53) rfl ?_); refine gL (some 47) Try.func53 #[.int .i64 al, .int .i64 ak, .int .i64 ad] ?_; (with_reducible refine (spec_SpanOf.calls al ak ad ac am _ A25.out).mono ?_); rintro e w' ⟨rfl, ⟨nd, rfl⟩⟩; refine ⟨_, rfl, ?_⟩; obtain ⟨hcz78_0, hcz78_1⟩ := cz2 ab.out; obtain ⟨hfz78_0, hfz78_1⟩ := fz2 ab.out; obtain ⟨i079, hi079, _, hsz79, _⟩ := info_parts info5; obtain ⟨A79, hcut79, hA79, hC79⟩ := print_mid_of (P := Try.prog) (Value.int .u8) 0 25 5 .i64 .i64 Try.underlying25 hi079 hsz79 ar an ae ac (wrap64 (ac + am)) DT (by first | omega | exact DT) DT aB.out; have HR502 := aM (Kd.C_of_reads (h1 := fun _ => rfl) (hA79 _ (Kd.reads_of_C aA.out))); have HC502 := aM hC79; clear hA79 hC79 hi079 hsz79))
          (try (rw [drewN_self wr]; generalize hq_ : World.drewN wr _ = wr; have n0_ : Aside0 (wr.heap[af]? = some (.cells #[.int .i64 ao, .int .i64 al, .int .i64 ak, .slice av ag.length au] 33 (0, 0))) := ⟨by rw [← hq_]; exact TK⟩; have n1_ : Aside0 (wr.heap[gb495]? = some (.cells #[.int .i64 ah, .slice ar ae.length an] 35 (0, 0))) := ⟨by rw [← hq_]; exact TK⟩; have n2_ : Aside0 (Below w.heap.size w wr) := ⟨by rw [← hq_]; exact TB⟩; clear aa ab HB hq_; have aa := n0_; have ab := n1_; have HB := n2_; clear n0_ n1_ n2_))
          replace aa := aM (blk_drew aa.out)
          replace ab := aM (blk_drew ab.out)
          replace HB := aM (below_drew1 HB.out)
          refine start_ (n := 26) (S := fun w' => w'.cell? ⟨gb495, 0, none⟩ = some (.int .i64 ah) ∧ w'.cell? ⟨gb495, 1, none⟩ = some (.slice ar ae.length an)) (ds := []) (Array.replicate 26 false) (by kernel_rfl) rfl rfl (cz2 ab.out) (fun hHeld => ?_); refine with_tabW spec_BuildOk.tab8 spec_BuildOk.bits8 (fun HT_ HW_ => ?_)
          generalize wr.drew = w80 at aa ab HB hHeld ⊢
          refine pP 0 (some 57) ?_
          refine pP 2 (some 59) ?_
          refine pT 1 (some 58) ?_
          refine pO 3 (some 60) (fun K hK => ?_)
          refine gG Try.func58 #[.int .i64 ah, .int .i64 ad] ?_
          with_reducible refine (spec_InSet.calls ah ad false _ A29.out).mono ?_
          rintro e w' ⟨rfl, ⟨nd, rfl⟩⟩
          refine ⟨_, rfl, ?_⟩
          refine hK.out _ _ (cz2 ab.out) (fun hHeld => ?_)
          clear hK K
          refine nR ?_
          refine pP 4 (some 61) ?_
          refine pX 5 (some 62) ?_
          refine pX 6 (some 63) ?_
          refine pX 7 (some 64) ?_
          refine pX 8 (some 65) ?_
          refine pX 9 (some 66) ?_
          refine pX 10 (some 67) ?_
          refine pX 11 (some 68) ?_
          refine pX 12 (some 69) ?_
          refine pP 13 (some 70) ?_
          refine pP 14 (some 71) ?_
          refine pP 15 (some 72) ?_
          refine pP 17 (some 74) ?_
          refine pT 16 (some 73) ?_
          refine pO 18 (some 75) (fun K hK => ?_)
          refine gG Try.func58 #[.int .i64 ah, .int .i64 ad] ?_
          with_reducible refine (spec_InSet.calls ah ad false _ A62.out).mono ?_
          rintro e w' ⟨rfl, ⟨nd, rfl⟩⟩
          refine ⟨_, rfl, ?_⟩
          refine hK.out _ _ (cz2 ab.out) (fun hHeld => ?_)
          clear hK K
          refine nR ?_
          refine pP 19 (some 76) ?_
          refine pP 20 (some 77) ?_
          refine pP 21 (some 78) ?_
          refine pO 22 (some 79) (fun K hK => ?_)
          refine goes_ Try.func60 (by kernel_rfl) rfl #[.slice A79 ((ae.take ((wrap64 (ac + am)) : Int).toNat).drop (ac : Int).toNat).length (an - ac.toNat)] (by rfl) rfl rfl (by (try simp only [List.map_toArray, List.map_cons, List.map_nil]); first | done | (rw [show ((ae.take ((wrap64 (ac + am)) : Int).toNat).drop (ac : Int).toNat).length = ((wrap64 (ac + am)).toNat - ac.toNat) from (by rw [List.length_drop, List.length_take]; have h_ : ((wrap64 (ac + am)) : Int) ≤ (ae.length : Int) := DT; omega)] <;> rfl) | rfl | (simp only [List.length_drop, List.length_take]; rfl)) ?_
          with_reducible refine (spec_l8Zero.calls k2 _ _ ((ae.take ((wrap64 (ac + am)) : Int).toNat).drop (ac : Int).toNat) false _ ?side1 ?side2 A69.out).mono ?_
          (case side1 => repeat (first | exact (Kd.C_below HR502.out TB) | (with_reducible refine Kd.C_alloc ?_ _) | (with_reducible refine Kd.C_drewN ?_ _) | (with_reducible refine Kd.C_drew ?_)))
          (case side2 => exact HC502.out)
          rintro e w' ⟨rfl, ⟨nd, rfl⟩⟩
          refine ⟨_, rfl, ?_⟩
          refine hK.out _ _ (cz2 ab.out) (fun hHeld => ?_)
          clear hK K
          refine nR ?_
          refine pP 23 (some 80) ?_
          refine pP 24 (some 81) ?_
          refine pP 25 (some 82) ?_
          refine done_ (done_of HT_.out (by kernel_rfl)) ?_
          try go_wp2
          go_ret
          exact ⟨by first | rfl | (simp [errW_none, errW_some] <;> rfl) | (simp [*, errW_none, errW_some] <;> rfl), TB⟩
      ·rw [if_neg c24] at H
       have c24b0 : decide (ad < (ag.length : Int)) = false := decide_eq_false c24
       clear c24
       obtain rfl := Option.some.inj H
       have hnb81 := NB494_495.out
       have hnc81 := NB495_494.out
       obtain ⟨hcz82_0, hcz82_1, hcz82_2, hcz82_3⟩ := cz4 aa.out
       obtain ⟨hfz82_0, hfz82_1, hfz82_2, hfz82_3⟩ := fz4 aa.out
       go_wp2
       go_ret
       exact ⟨by first | rfl | (simp [errW_none, errW_some] <;> rfl) | (simp [*, errW_none, errW_some] <;> rfl), TB⟩

end Go.Proofs.Ytnoplippaiblcaa.Q
