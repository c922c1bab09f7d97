/- Functions of the program as plain Lean functions, and that a call of each comes to what its function tells. Written by a program of this seat. -/
import Derived.Test.YtfkndpjbkndhcaaQ0
import Derived.Test.YtfkndpjbkndhcaaQ1
import Derived.Test.YtfkndpjbkndhcaaQ5
import Derived.Test.YtfkndpjbkndhcaaQ8
import Derived.Test.YtfkndpjbkndhcaaQ9
import Derived.Test.YtfkndpjbkndhcaaQ10
import Derived.Test.YtfkndpjbkndhcaaQ11
namespace Go.Proofs.Ytfkndpjbkndhcaa.Q
open Go.RowKit Go.Proofs.YtfkndpjbkndhcaaW.PrintWords Go.Proofs.YtfkndpjbkndhcaaW.PrintLast Go.Proofs.YtfkndpjbkndhcaaW.PrintMore
attribute [local go_sem] max2_int min2_int max_two min_two max_three min_three max_four min_four   -- for this text's walks alone
set_option linter.unusedVariables false
set_option linter.unusedSimpArgs false

attribute [local go_sem high] eqA48
/-! ### impl_BuildOk: function 42 -/
mutual
def impl_BuildOk.j0 : Nat → Bool → Int → Int → Int → List (S48) → Int → List Int → Option (Bool)
  | 0, _, _, _, _, _, _, _ => none
  | k + 1, x32, x248000, x248001, x248002, x248003, x249000, x249001 => if x32 = true then (some false) else (impl_BuildOk.l0 k x248003 (x248003.length : Int) 0 x248000 x248001 x248002 x248003 x249000 x249001)
def impl_BuildOk.l0 : Nat → List (S48) → Int → Int → Int → Int → Int → List (S48) → Int → List Int → Option (Bool)
  | 0, _, _, _, _, _, _, _, _, _ => none
  | k + 1, x34, x35, x36, x248000, x248001, x248002, x248003, x249000, x249001 => if x36 < x35 then (if 0 ≤ x36 then (if x36 < (x34.length : Int) then ((impl_Build_block.f x249000 x249001 x248000 x248001 x248002 x248003 x36).bind fun t254 => ((impl_InSet.f x249000 x36).bind fun t257 => (if t257 = true then ((impl_SumOf.f k t254).bind fun bt258 => (if (!(bt258.1 == ((rd_T48 x34 x36).f0)) || (!(bt258.2 == ((rd_T48 x34 x36).f1)))) = true then (some false) else ((impl_InSet.f x249000 x36).bind fun t260 => (if t260 = true then (impl_BuildOk.l0 k x34 x35 (wrap64 (x36 + 1)) x248000 x248001 x248002 x248003 x249000 x249001) else ((slices_ContainsFunc_byte_byte.f k t254).bind fun t261 => (if t261 = true then (some false) else (impl_BuildOk.l0 k x34 x35 (wrap64 (x36 + 1)) x248000 x248001 x248002 x248003 x249000 x249001))))))) else ((impl_InSet.f x249000 x36).bind fun t262 => (if t262 = true then (impl_BuildOk.l0 k x34 x35 (wrap64 (x36 + 1)) x248000 x248001 x248002 x248003 x249000 x249001) else ((slices_ContainsFunc_byte_byte.f k t254).bind fun t263 => (if t263 = true then (some false) else (impl_BuildOk.l0 k x34 x35 (wrap64 (x36 + 1)) x248000 x248001 x248002 x248003 x249000 x249001)))))))) else (none)) else (none)) else (some true)
end
def impl_BuildOk.f (k : Nat) (a0_0 : Int) (a0_1 : Int) (a0_2 : Int) (l0_3 : List (S48)) (a1_0 : Int) (l1_1 : List Int) : Option (Bool) := (impl_ManOk.f k a0_0 a0_1 a0_2 l0_3).bind fun t249 => (if t249 = true then ((impl_SetOk.f a1_0).bind fun t250 => (if t250 = true then ((impl_AllParts.f a0_0 a0_1 a0_2 l0_3).bind fun t251 => (if (Go.bits .andNot .i64 a1_0 t251) = 0 then (impl_BuildOk.j0 k ((l1_1.length : Int) != a0_2) a0_0 a0_1 a0_2 l0_3 a1_0 l1_1) else (impl_BuildOk.j0 k true a0_0 a0_1 a0_2 l0_3 a1_0 l1_1))) else (impl_BuildOk.j0 k true a0_0 a0_1 a0_2 l0_3 a1_0 l1_1))) else (impl_BuildOk.j0 k true a0_0 a0_1 a0_2 l0_3 a1_0 l1_1))
theorem impl_BuildOk.mono_l : ∀ k, (∀ y0 y1 y2 y3 y4 y5 y6, LeO (impl_BuildOk.j0 k y0 y1 y2 y3 y4 y5 y6) (impl_BuildOk.j0 (k + 1) y0 y1 y2 y3 y4 y5 y6)) ∧ (∀ y0 y1 y2 y3 y4 y5 y6 y7 y8, LeO (impl_BuildOk.l0 k y0 y1 y2 y3 y4 y5 y6 y7 y8) (impl_BuildOk.l0 (k + 1) y0 y1 y2 y3 y4 y5 y6 y7 y8))
  | 0 => ⟨fun _ _ _ _ _ _ _ r h => by simp [impl_BuildOk.j0] at h, fun _ _ _ _ _ _ _ _ _ r h => by simp [impl_BuildOk.l0] at h⟩
  | k + 1 => by
    have m0_ := @impl_ManOk.mono
    have m1_ := @impl_SumOf.mono
    have m2_ := @slices_ContainsFunc_byte_byte.mono
    obtain ⟨ih0, ih1⟩ := impl_BuildOk.mono_l k
    refine ⟨?_, ?_⟩
    · intro y0 y1 y2 y3 y4 y5 y6
      unfold impl_BuildOk.j0
      exact LM
    · intro y0 y1 y2 y3 y4 y5 y6 y7 y8
      unfold impl_BuildOk.l0
      exact LM
theorem impl_BuildOk.mono : ∀ a0 a1 a2 a3 a4 a5 k, LeO (impl_BuildOk.f k a0 a1 a2 a3 a4 a5) (impl_BuildOk.f (k + 1) a0 a1 a2 a3 a4 a5) := by
  intro a0 a1 a2 a3 a4 a5 k
  have m0_ := @impl_ManOk.mono
  have m1_ := @impl_SumOf.mono
  have m2_ := @slices_ContainsFunc_byte_byte.mono
  obtain ⟨ih0, ih1⟩ := impl_BuildOk.mono_l k
  unfold impl_BuildOk.f
  exact LM
def impl_BuildOk.T1 : Bool × List (List Nat × List Nat) := (true, [([], []), ([0], [0]), ([1], [1]), ([2, 1], [2]), ([3], [3]), ([4, 3], [3, 4]), ([5, 3, 3], [3, 5]), ([6, 3], [3, 6]), ([3, 7], [3, 7]), ([8, 6], [8]), ([9], [9]), ([10, 9], [9, 10]), ([9], [9]), ([12, 9, 9], [9, 12]), ([11, 13, 9], [9, 11, 13]), ([14, 9], [9, 14]), ([9, 15], [9, 15]), ([16, 13], [16]), ([17], [17]), ([18, 17], [17, 18]), ([19, 17], [17, 19]), ([17], [17]), ([21, 17], [17, 21]), ([20, 22, 17], [17, 20, 22]), ([17, 23], [17, 23])])
def impl_BuildOk.B1 : List Nat := [0, 1, 3, 7, 15, 31, 63, 127, 255, 511, 1023, 2047, 1023, 5119, 16383, 32767, 65535, 131071, 262143, 524287, 1048575, 262143, 2359295, 8388607, 16777215]
theorem impl_BuildOk.tab1 : rtab .any (opsOf Try.f42 1) = impl_BuildOk.T1 := by kernel_rfl
theorem impl_BuildOk.bits1 : waitsOk impl_BuildOk.T1.2 impl_BuildOk.B1 = true := by kernel_rfl
def impl_BuildOk.T7 : Bool × List (List Nat × List Nat) := (true, [([], []), ([0], [0]), ([], []), ([1, 2], [1, 2]), ([3, 3], [3]), ([4], [4]), ([5, 4, 4], [4, 5]), ([4], [4]), ([6, 7, 4], [4, 6, 7]), ([4, 8], [4, 8]), ([9, 6], [9]), ([10], [10]), ([11, 10], [10, 11]), ([10], [10]), ([12, 13, 10, 10], [10, 12, 13]), ([14, 10], [10, 14]), ([15, 14, 10], [10, 15]), ([16], [16]), ([17, 16, 16], [16, 17]), ([16, 18, 10], [10, 16, 18]), ([10, 19], [10, 19])])
def impl_BuildOk.B7 : List Nat := [0, 1, 0, 7, 15, 31, 63, 31, 255, 511, 1023, 2047, 4095, 2047, 16383, 32767, 65535, 131071, 262143, 524287, 1048575]
theorem impl_BuildOk.tab7 : rtab .any (opsOf Try.f42 7) = impl_BuildOk.T7 := by kernel_rfl
theorem impl_BuildOk.bits7 : waitsOk impl_BuildOk.T7.2 impl_BuildOk.B7 = true := by kernel_rfl
set_option maxHeartbeats 40000000 in
set_option maxRecDepth 100000 in
theorem impl_BuildOk.calls (k : Nat) (ak : Int) (aj : Int) (ai : Int) (aw : Option Addr) (ao : Nat) (ad : List (S48)) (af : Int) (ap : Option Addr) (an : Nat) (al : List Int) (r : Bool) (w : World) (aN : Kd.C k48 w aw ad.length ad) (aL : ad.length ≤ ao) (aK : Kd.C (Kd.int .u8) w ap al.length al) (aO : al.length ≤ an) (h : impl_BuildOk.f k ak aj ai ad af al = some r) :
  Calls Try.prog 42 #[.agg #[.int .i64 ak, .int .i64 aj, .int .i64 ai, .slice aw ad.length ao], .agg #[.int .i64 af, .slice ap al.length an]] w fun e w' => e = .returned (.bool r) ∧ Below w.heap.size w w' := by
 have hu28 := Try.underlying28
 have hu31 := Try.underlying31
 have hu48 := Try.underlying48
 have au := aM aN
 have av := aM aL
 clear aN aL
 have ay := aM aK
 have ax := aM aO
 clear aK aO
 have HB := aM (Below.refl w.heap.size w)
 have H := h
 clear h
 unfold impl_BuildOk.f at H
 have HC3 := aM H
 clear H
 go_enter Try.func42, Try.ntmps42
 go_upto_region 1 with (first | ((with_reducible refine gate_dst (N := 2) rfl ?_); (try (refine gate_guard (by rfl) ?_; dsimp only)); refine gBx 2 #[.int .i64 ak, .int .i64 aj, .int .i64 ai, .slice aw ad.length ao] 28 ?_; intro ah hg w4 hbox hb; have ab := aM (hbox); have GW247 := aM ((by rw [hg]; exact (below_size TB) : w.heap.size ≤ ah)); have GE247 := aM ((by rw [hg]; exact (below_size TB) : w.heap.size ≤ ah)); replace HB := aM (below_step TB hb); clear hb hbox hg) | ((with_reducible refine gate_dst (N := 3) rfl ?_); (try (refine gate_guard (by rfl) ?_; dsimp only)); refine gBx 3 #[.int .i64 af, .slice ap al.length an] 31 ?_; intro gb248 hg w5 hbox hb; have aa := aM (hbox); have GW248 := aM ((by rw [hg]; exact (below_size TB) : w.heap.size ≤ gb248)); have GE248 := aM ((by rw [hg]; exact (below_size TB) : w.heap.size ≤ gb248)); have NB247_248 := aM ((by rw [hg]; exact Nat.ne_of_lt (blk_lt (by have X_ := ab.out; exact TX)) : ah ≠ gb248)); have NB248_247 := aM ((by rw [hg]; exact Nat.ne_of_gt (blk_lt (by have X_ := ab.out; exact TX)) : gb248 ≠ ah)); replace ab := aM (blk_below (by have X_ := ab.out; exact TX) hb); replace HB := aM (below_step TB hb); clear hb hbox hg))
 (try simp only [Act.put, List.setIfInBounds_toArray, List.set_cons_zero, List.set_cons_succ])
 go_cut [32] (fun v32 wc => ∃ (kq : Nat) (aG : Bool), v32 = .bool aG ∧ Aside0 (impl_BuildOk.j0 kq aG ak aj ai ad af al = some r) ∧ Aside0 (kq ≤ k) ∧ Aside0 (wc.heap[ah]? = some (.cells #[.int .i64 ak, .int .i64 aj, .int .i64 ai, (.slice aw ad.length ao)] 28 (0, 0))) ∧ Aside0 (wc.heap[gb248]? = some (.cells #[.int .i64 af, (.slice ap al.length an)] 31 (0, 0))) ∧ Aside0 (Below w.heap.size w wc))
 case first =>
  have H := HC3.out
  clear HC3
  replace H := bE H
  obtain ⟨t249, A6, H⟩ := H
  by_cases c7 : t249 = true
  ·subst c7
   replace H := ifT H
   replace H := bE H
   obtain ⟨t250, A8, H⟩ := H
   by_cases c9 : t250 = true
   ·subst c9
    replace H := ifT H
    replace H := bE H
    obtain ⟨aC, A10, H⟩ := H
    by_cases c11 : (Go.bits .andNot .i64 af aC) = 0
    ·rw [if_pos c11] at H
     have az : ((Go.bits .andNot .i64 af aC) == 0) = true := beq_iff_eq.mpr c11
     have aH : ((Go.bits .andNot .i64 af aC) != 0) = false := bne_eq_false_iff_eq.mpr c11
     clear c11
     (first | rw [az] | (simp only [i64_w, i32_w]; rw [az]) | skip)
     have H' := aM H
     clear H
     try go_wp2
     replace ab := aM (blk_drew ab.out)
     replace aa := aM (blk_drew aa.out)
     replace HB := aM (below_drew1 HB.out)
     refine start_ (n := 25) (S := fun w' => w'.cell? ⟨ah, 0, none⟩ = some (.int .i64 ak) ∧ w'.cell? ⟨ah, 1, none⟩ = some (.int .i64 aj) ∧ w'.cell? ⟨ah, 2, none⟩ = some (.int .i64 ai) ∧ w'.cell? ⟨ah, 3, none⟩ = some (.slice aw ad.length ao) ∧ w'.cell? ⟨gb248, 0, none⟩ = some (.int .i64 af) ∧ w'.cell? ⟨gb248, 1, none⟩ = some (.slice ap al.length an)) (ds := []) (Array.replicate 25 false) (by kernel_rfl) rfl rfl ⟨(blk_cell ab.out 0).trans rfl, (blk_cell ab.out 1).trans rfl, (blk_cell ab.out 2).trans rfl, (blk_cell ab.out 3).trans rfl, (blk_cell aa.out 0).trans rfl, (blk_cell aa.out 1).trans rfl⟩ (fun hHeld => ?_); refine with_tabW impl_BuildOk.tab1 impl_BuildOk.bits1 (fun HT_ HW_ => ?_)
     generalize w5.drew = w12 at ab aa HB hHeld ⊢
     refine pT 0 (some 8) ?_
     refine pO 1 (some 9) (fun K hK => ?_)
     refine gG Try.func64 #[.agg #[.int .i64 ak, .int .i64 aj, .int .i64 ai, .slice aw ad.length ao]] ?_
     with_reducible refine (impl_ManOk.calls k ak aj ai _ _ ad true _ ?side1 ?side2 A6.out).mono ?_
     (case side1 => have X_ := (Kd.C_below au.out HB.out); exact TC)
     (case side2 => exact av.out)
     rintro e w13 ⟨rfl, hb⟩
     refine ⟨_, rfl, ?_⟩
     have n0_ := aM (blk_below (by have X_ := ab.out; exact TX) hb)
     have n1_ := aM (blk_below (by have X_ := aa.out; exact TX) hb)
     have n2_ := aM (below_step TB hb)
     clear ab
     clear aa
     clear HB
     have ab := n0_
     have aa := n1_
     have HB := n2_
     clear n0_ n1_ n2_
     (try clear hb)
     (try clear hb2)
     (try clear hk)
     (try clear hi)
     refine hK.out _ _ ⟨(blk_cell ab.out 0).trans rfl, (blk_cell ab.out 1).trans rfl, (blk_cell ab.out 2).trans rfl, (blk_cell ab.out 3).trans rfl, (blk_cell aa.out 0).trans rfl, (blk_cell aa.out 1).trans rfl⟩ (fun hHeld => ?_)
     clear hK K
     refine nR ?_
     refine pP 2 (some 10) ?_
     refine pP 3 (some 11) ?_
     refine pP 4 (some 12) ?_
     refine pT 5 (some 13) ?_
     refine pO 6 (some 14) (fun K hK => ?_)
     refine gG Try.func72 #[.int .i64 af] ?_
     with_reducible refine (impl_SetOk.calls af true _ A8.out).mono ?_
     rintro e w' ⟨rfl, ⟨nd, rfl⟩⟩
     refine ⟨_, rfl, ?_⟩
     refine hK.out _ _ ⟨(blk_cell ab.out 0).trans rfl, (blk_cell ab.out 1).trans rfl, (blk_cell ab.out 2).trans rfl, (blk_cell ab.out 3).trans rfl, (blk_cell aa.out 0).trans rfl, (blk_cell aa.out 1).trans rfl⟩ (fun hHeld => ?_)
     clear hK K
     refine nR ?_
     refine pP 7 (some 15) ?_
     refine pP 8 (some 16) ?_
     refine pP 9 (some 17) ?_
     refine pP 10 (some 18) ?_
     refine pT 11 (some 19) ?_
     refine pT 12 (some 20) ?_
     refine pO 13 (some 21) (fun K hK => ?_)
     refine gG Try.func39 #[.agg #[.int .i64 ak, .int .i64 aj, .int .i64 ai, .slice aw ad.length ao]] ?_
     with_reducible refine (impl_AllParts.calls ak aj ai _ _ ad aC _ ?side1 ?side2 A10.out).mono ?_
     (case side1 => repeat (first | exact (Kd.C_below au.out TB) | (with_reducible refine Kd.C_alloc ?_ _) | (with_reducible refine Kd.C_drewN ?_ _) | (with_reducible refine Kd.C_drew ?_)))
     (case side2 => exact av.out)
     rintro e w14 ⟨rfl, hb⟩
     refine ⟨_, rfl, ?_⟩
     have n0_ := aM (blk_below (by have X_ := ab.out; exact TX) hb)
     have n1_ := aM (blk_below (by have X_ := aa.out; exact TX) hb)
     have n2_ := aM (below_step TB hb)
     clear ab
     clear aa
     clear HB
     have ab := n0_
     have aa := n1_
     have HB := n2_
     clear n0_ n1_ n2_
     (try clear hb)
     (try clear hb2)
     (try clear hk)
     (try clear hi)
     refine hK.out _ _ ⟨(blk_cell ab.out 0).trans rfl, (blk_cell ab.out 1).trans rfl, (blk_cell ab.out 2).trans rfl, (blk_cell ab.out 3).trans rfl, (blk_cell aa.out 0).trans rfl, (blk_cell aa.out 1).trans rfl⟩ (fun hHeld => ?_)
     clear hK K
     refine nR ?_
     refine pP 14 (some 22) ?_
     refine pP 15 (some 23) ?_
     refine pP 16 (some 24) ?_
     refine pP 17 (some 25) ?_
     refine pP 18 (some 26) ?_
     refine pP 21 (some 29) ?_
     refine pT 19 (some 27) ?_
     refine pP 20 (some 28) ?_
     refine pT 22 (some 30) ?_
     refine pP 23 (some 31) ?_
     refine pP 24 (some 32) ?_
     refine done_ (done_of HT_.out (by kernel_rfl)) ?_
     try go_wp2
     go_meet
     case rel => exact ⟨_, (((al.length : Int) != ai)), (by first | rfl | (simp; done) | (simp [*]; done)), H', ⟨by first | omega | exact Nat.le_refl _⟩, ⟨TK⟩, ⟨TK⟩, ⟨TB⟩⟩
    ·rw [if_neg c11] at H
     have az : ((Go.bits .andNot .i64 af aC) == 0) = false := beq_eq_false_iff_ne.mpr c11
     have aH : ((Go.bits .andNot .i64 af aC) != 0) = true := bne_iff_ne.mpr c11
     (first | rw [az] | (simp only [i64_w, i32_w]; rw [az]) | skip)
     have H' := aM H
     clear H
     try go_wp2
     replace ab := aM (blk_drew ab.out)
     replace aa := aM (blk_drew aa.out)
     replace HB := aM (below_drew1 HB.out)
     refine start_ (n := 25) (S := fun w' => w'.cell? ⟨ah, 0, none⟩ = some (.int .i64 ak) ∧ w'.cell? ⟨ah, 1, none⟩ = some (.int .i64 aj) ∧ w'.cell? ⟨ah, 2, none⟩ = some (.int .i64 ai) ∧ w'.cell? ⟨ah, 3, none⟩ = some (.slice aw ad.length ao) ∧ w'.cell? ⟨gb248, 0, none⟩ = some (.int .i64 af) ∧ w'.cell? ⟨gb248, 1, none⟩ = some (.slice ap al.length an)) (ds := []) (Array.replicate 25 false) (by kernel_rfl) rfl rfl ⟨(blk_cell ab.out 0).trans rfl, (blk_cell ab.out 1).trans rfl, (blk_cell ab.out 2).trans rfl, (blk_cell ab.out 3).trans rfl, (blk_cell aa.out 0).trans rfl, (blk_cell aa.out 1).trans rfl⟩ (fun hHeld => ?_); refine with_tabW impl_BuildOk.tab1 impl_BuildOk.bits1 (fun HT_ HW_ => ?_)
     generalize w5.drew = w15 at ab aa HB hHeld ⊢
     refine pT 0 (some 8) ?_
     refine pO 1 (some 9) (fun K hK => ?_)
     refine gG Try.func64 #[.agg #[.int .i64 ak, .int .i64 aj, .int .i64 ai, .slice aw ad.length ao]] ?_
     with_reducible refine (impl_ManOk.calls k ak aj ai _ _ ad true _ ?side1 ?side2 A6.out).mono ?_
     (case side1 => have X_ := (Kd.C_below au.out HB.out); exact TC)
     (case side2 => exact av.out)
     rintro e w16 ⟨rfl, hb⟩
     refine ⟨_, rfl, ?_⟩
     have n0_ := aM (blk_below (by have X_ := ab.out; exact TX) hb)
     have n1_ := aM (blk_below (by have X_ := aa.out; exact TX) hb)
     have n2_ := aM (below_step TB hb)
     clear ab
     clear aa
     clear HB
     have ab := n0_
     have aa := n1_
     have HB := n2_
     clear n0_ n1_ n2_
     (try clear hb)
     (try clear hb2)
     (try clear hk)
     (try clear hi)
     refine hK.out _ _ ⟨(blk_cell ab.out 0).trans rfl, (blk_cell ab.out 1).trans rfl, (blk_cell ab.out 2).trans rfl, (blk_cell ab.out 3).trans rfl, (blk_cell aa.out 0).trans rfl, (blk_cell aa.out 1).trans rfl⟩ (fun hHeld => ?_)
     clear hK K
     refine nR ?_
     refine pP 2 (some 10) ?_
     refine pP 3 (some 11) ?_
     refine pP 4 (some 12) ?_
     refine pT 5 (some 13) ?_
     refine pO 6 (some 14) (fun K hK => ?_)
     refine gG Try.func72 #[.int .i64 af] ?_
     with_reducible refine (impl_SetOk.calls af true _ A8.out).mono ?_
     rintro e w' ⟨rfl, ⟨nd, rfl⟩⟩
     refine ⟨_, rfl, ?_⟩
     refine hK.out _ _ ⟨(blk_cell ab.out 0).trans rfl, (blk_cell ab.out 1).trans rfl, (blk_cell ab.out 2).trans rfl, (blk_cell ab.out 3).trans rfl, (blk_cell aa.out 0).trans rfl, (blk_cell aa.out 1).trans rfl⟩ (fun hHeld => ?_)
     clear hK K
     refine nR ?_
     refine pP 7 (some 15) ?_
     refine pP 8 (some 16) ?_
     refine pP 9 (some 17) ?_
     refine pP 10 (some 18) ?_
     refine pT 11 (some 19) ?_
     refine pT 12 (some 20) ?_
     refine pO 13 (some 21) (fun K hK => ?_)
     refine gG Try.func39 #[.agg #[.int .i64 ak, .int .i64 aj, .int .i64 ai, .slice aw ad.length ao]] ?_
     with_reducible refine (impl_AllParts.calls ak aj ai _ _ ad aC _ ?side1 ?side2 A10.out).mono ?_
     (case side1 => repeat (first | exact (Kd.C_below au.out TB) | (with_reducible refine Kd.C_alloc ?_ _) | (with_reducible refine Kd.C_drewN ?_ _) | (with_reducible refine Kd.C_drew ?_)))
     (case side2 => exact av.out)
     rintro e w17 ⟨rfl, hb⟩
     refine ⟨_, rfl, ?_⟩
     have n0_ := aM (blk_below (by have X_ := ab.out; exact TX) hb)
     have n1_ := aM (blk_below (by have X_ := aa.out; exact TX) hb)
     have n2_ := aM (below_step TB hb)
     clear ab
     clear aa
     clear HB
     have ab := n0_
     have aa := n1_
     have HB := n2_
     clear n0_ n1_ n2_
     (try clear hb)
     (try clear hb2)
     (try clear hk)
     (try clear hi)
     refine hK.out _ _ ⟨(blk_cell ab.out 0).trans rfl, (blk_cell ab.out 1).trans rfl, (blk_cell ab.out 2).trans rfl, (blk_cell ab.out 3).trans rfl, (blk_cell aa.out 0).trans rfl, (blk_cell aa.out 1).trans rfl⟩ (fun hHeld => ?_)
     clear hK K
     refine nR ?_
     refine pP 14 (some 22) ?_
     refine pP 15 (some 23) ?_
     refine pP 16 (some 24) ?_
     refine pP 17 (some 25) ?_
     refine pX 18 (some 26) ?_
     refine pX 19 (some 27) ?_
     refine pX 20 (some 28) ?_
     refine pX 21 (some 29) ?_
     refine pX 22 (some 30) ?_
     refine pX 23 (some 31) ?_
     refine pP 24 (some 32) ?_
     refine done_ (done_of HT_.out (by kernel_rfl)) ?_
     try go_wp2
     go_meet
     case rel => exact ⟨_, (true), (by first | rfl | (simp; done) | (simp [*]; done)), H', ⟨by first | omega | exact Nat.le_refl _⟩, ⟨TK⟩, ⟨TK⟩, ⟨TB⟩⟩
   ·replace c9 := Bool.eq_false_iff.mpr c9
    subst c9
    replace H := ifF H
    have H' := aM H
    clear H
    try go_wp2
    replace ab := aM (blk_drew ab.out)
    replace aa := aM (blk_drew aa.out)
    replace HB := aM (below_drew1 HB.out)
    refine start_ (n := 25) (S := fun w' => w'.cell? ⟨ah, 0, none⟩ = some (.int .i64 ak) ∧ w'.cell? ⟨ah, 1, none⟩ = some (.int .i64 aj) ∧ w'.cell? ⟨ah, 2, none⟩ = some (.int .i64 ai) ∧ w'.cell? ⟨ah, 3, none⟩ = some (.slice aw ad.length ao) ∧ w'.cell? ⟨gb248, 0, none⟩ = some (.int .i64 af) ∧ w'.cell? ⟨gb248, 1, none⟩ = some (.slice ap al.length an)) (ds := []) (Array.replicate 25 false) (by kernel_rfl) rfl rfl ⟨(blk_cell ab.out 0).trans rfl, (blk_cell ab.out 1).trans rfl, (blk_cell ab.out 2).trans rfl, (blk_cell ab.out 3).trans rfl, (blk_cell aa.out 0).trans rfl, (blk_cell aa.out 1).trans rfl⟩ (fun hHeld => ?_); refine with_tabW impl_BuildOk.tab1 impl_BuildOk.bits1 (fun HT_ HW_ => ?_)
    generalize w5.drew = w18 at ab aa HB hHeld ⊢
    refine pT 0 (some 8) ?_
    refine pO 1 (some 9) (fun K hK => ?_)
    refine gG Try.func64 #[.agg #[.int .i64 ak, .int .i64 aj, .int .i64 ai, .slice aw ad.length ao]] ?_
    with_reducible refine (impl_ManOk.calls k ak aj ai _ _ ad true _ ?side1 ?side2 A6.out).mono ?_
    (case side1 => have X_ := (Kd.C_below au.out HB.out); exact TC)
    (case side2 => exact av.out)
    rintro e w19 ⟨rfl, hb⟩
    refine ⟨_, rfl, ?_⟩
    have n0_ := aM (blk_below (by have X_ := ab.out; exact TX) hb)
    have n1_ := aM (blk_below (by have X_ := aa.out; exact TX) hb)
    have n2_ := aM (below_step TB hb)
    clear ab
    clear aa
    clear HB
    have ab := n0_
    have aa := n1_
    have HB := n2_
    clear n0_ n1_ n2_
    (try clear hb)
    (try clear hb2)
    (try clear hk)
    (try clear hi)
    refine hK.out _ _ ⟨(blk_cell ab.out 0).trans rfl, (blk_cell ab.out 1).trans rfl, (blk_cell ab.out 2).trans rfl, (blk_cell ab.out 3).trans rfl, (blk_cell aa.out 0).trans rfl, (blk_cell aa.out 1).trans rfl⟩ (fun hHeld => ?_)
    clear hK K
    refine nR ?_
    refine pP 2 (some 10) ?_
    refine pP 3 (some 11) ?_
    refine pP 4 (some 12) ?_
    refine pT 5 (some 13) ?_
    refine pO 6 (some 14) (fun K hK => ?_)
    refine gG Try.func72 #[.int .i64 af] ?_
    with_reducible refine (impl_SetOk.calls af false _ A8.out).mono ?_
    rintro e w' ⟨rfl, ⟨nd, rfl⟩⟩
    refine ⟨_, rfl, ?_⟩
    refine hK.out _ _ ⟨(blk_cell ab.out 0).trans rfl, (blk_cell ab.out 1).trans rfl, (blk_cell ab.out 2).trans rfl, (blk_cell ab.out 3).trans rfl, (blk_cell aa.out 0).trans rfl, (blk_cell aa.out 1).trans rfl⟩ (fun hHeld => ?_)
    clear hK K
    refine nR ?_
    refine pP 7 (some 15) ?_
    refine pP 8 (some 16) ?_
    refine pP 9 (some 17) ?_
    refine pX 10 (some 18) ?_
    refine pX 11 (some 19) ?_
    refine pX 12 (some 20) ?_
    refine pX 13 (some 21) ?_
    refine pX 14 (some 22) ?_
    refine pX 15 (some 23) ?_
    refine pP 16 (some 24) ?_
    refine pP 17 (some 25) ?_
    refine pX 18 (some 26) ?_
    refine pX 19 (some 27) ?_
    refine pX 20 (some 28) ?_
    refine pX 21 (some 29) ?_
    refine pX 22 (some 30) ?_
    refine pX 23 (some 31) ?_
    refine pP 24 (some 32) ?_
    refine done_ (done_of HT_.out (by kernel_rfl)) ?_
    try go_wp2
    go_meet
    case rel => exact ⟨_, (true), (by first | rfl | (simp; done) | (simp [*]; done)), H', ⟨by first | omega | exact Nat.le_refl _⟩, ⟨TK⟩, ⟨TK⟩, ⟨TB⟩⟩
  ·replace c7 := Bool.eq_false_iff.mpr c7
   subst c7
   replace H := ifF H
   have H' := aM H
   clear H
   try go_wp2
   replace ab := aM (blk_drew ab.out)
   replace aa := aM (blk_drew aa.out)
   replace HB := aM (below_drew1 HB.out)
   refine start_ (n := 25) (S := fun w' => w'.cell? ⟨ah, 0, none⟩ = some (.int .i64 ak) ∧ w'.cell? ⟨ah, 1, none⟩ = some (.int .i64 aj) ∧ w'.cell? ⟨ah, 2, none⟩ = some (.int .i64 ai) ∧ w'.cell? ⟨ah, 3, none⟩ = some (.slice aw ad.length ao)) (ds := []) (Array.replicate 25 false) (by kernel_rfl) rfl rfl (cz4 ab.out) (fun hHeld => ?_); refine with_tabW impl_BuildOk.tab1 impl_BuildOk.bits1 (fun HT_ HW_ => ?_)
   generalize w5.drew = w20 at ab aa HB hHeld ⊢
   refine pT 0 (some 8) ?_
   refine pO 1 (some 9) (fun K hK => ?_)
   refine gG Try.func64 #[.agg #[.int .i64 ak, .int .i64 aj, .int .i64 ai, .slice aw ad.length ao]] ?_
   with_reducible refine (impl_ManOk.calls k ak aj ai _ _ ad false _ ?side1 ?side2 A6.out).mono ?_
   (case side1 => have X_ := (Kd.C_below au.out HB.out); exact TC)
   (case side2 => exact av.out)
   rintro e w21 ⟨rfl, hb⟩
   refine ⟨_, rfl, ?_⟩
   have n0_ := aM (blk_below (by have X_ := ab.out; exact TX) hb)
   have n1_ := aM (blk_below (by have X_ := aa.out; exact TX) hb)
   have n2_ := aM (below_step TB hb)
   clear ab
   clear aa
   clear HB
   have ab := n0_
   have aa := n1_
   have HB := n2_
   clear n0_ n1_ n2_
   (try clear hb)
   (try clear hb2)
   (try clear hk)
   (try clear hi)
   refine hK.out _ _ (cz4 ab.out) (fun hHeld => ?_)
   clear hK K
   refine nR ?_
   refine pP 2 (some 10) ?_
   refine pP 3 (some 11) ?_
   refine pX 4 (some 12) ?_
   refine pX 5 (some 13) ?_
   refine pX 6 (some 14) ?_
   refine pX 7 (some 15) ?_
   refine pP 8 (some 16) ?_
   refine pP 9 (some 17) ?_
   refine pX 10 (some 18) ?_
   refine pX 11 (some 19) ?_
   refine pX 12 (some 20) ?_
   refine pX 13 (some 21) ?_
   refine pX 14 (some 22) ?_
   refine pX 15 (some 23) ?_
   refine pP 16 (some 24) ?_
   refine pP 17 (some 25) ?_
   refine pX 18 (some 26) ?_
   refine pX 19 (some 27) ?_
   refine pX 20 (some 28) ?_
   refine pX 21 (some 29) ?_
   refine pX 22 (some 30) ?_
   refine pX 23 (some 31) ?_
   refine pP 24 (some 32) ?_
   refine done_ (done_of HT_.out (by kernel_rfl)) ?_
   try go_wp2
   go_meet
   case rel => exact ⟨_, (true), (by first | rfl | (simp; done) | (simp [*]; done)), H', ⟨by first | omega | exact Nat.le_refl _⟩, ⟨TK⟩, ⟨TK⟩, ⟨TB⟩⟩
 case rest =>
  clear HC3
  try clear c1
  try clear p2
  try clear c3
  try clear c6
  try clear c7
  try clear c9
  try clear c11
  try clear az
  try clear aH
  obtain ⟨kq, aG, rfl, HA, HJ2, ab, aa, HB⟩ := hcut
  cases kq with
  | zero => exact absurd HA.out (by simp [impl_BuildOk.j0])
  | succ kj2 =>
   have H := HA.out
   clear HA
   simp only [impl_BuildOk.j0] at H
   by_cases c22 : aG = true
   ·subst c22
    replace H := ifT H
    obtain rfl := Option.some.inj H
    go_wp2
    go_ret
    exact ⟨by first | rfl | (simp [errW_none, errW_some] <;> rfl) | (simp [*, errW_none, errW_some] <;> rfl), TB⟩
   ·replace c22 := Bool.eq_false_iff.mpr c22
    subst c22
    replace H := ifF H
    have H' := aM H
    clear H
    have hnb23 := NB247_248.out
    have hnc23 := NB248_247.out
    obtain ⟨aW, aU, aV, aS⟩ := cz4 ab.out
    obtain ⟨aT, aQ, aP, aR⟩ := fz4 ab.out
    go_wp2
    go_loopg [36] kj2 (fun kq v36 w' => ∃ (ac : Int), v36 = .int .i64 ac ∧ Aside0 (impl_BuildOk.l0 kq ad (ad.length : Int) ac ak aj ai ad af al = some r) ∧ Aside0 (kq ≤ kj2) ∧ Aside0 (w'.heap[ah]? = some (.cells #[.int .i64 ak, .int .i64 aj, .int .i64 ai, (.slice aw ad.length ao)] 28 (0, 0))) ∧ Aside0 (w'.heap[gb248]? = some (.cells #[.int .i64 af, (.slice ap al.length an)] 31 (0, 0))) ∧ Aside0 (Below w.heap.size w w'))
    case atStart => exact ⟨(0), (by first | rfl | (simp; done) | (simp [*]; done)), H', ⟨Nat.le_refl _⟩, ⟨TK⟩, ⟨TK⟩, ⟨TB⟩⟩
    case round =>
     clear H'
     try clear c1
     try clear c2
     try clear p2
     try clear c3
     try clear c6
     try clear c7
     try clear c9
     try clear c11
     try clear az
     try clear aH
     try clear c22
     try clear c23
     try clear aW
     try clear aU
     try clear aV
     try clear aS
     try clear aT
     try clear aQ
     try clear aP
     try clear aR
     try clear p2
     obtain ⟨ac, rfl, HA, HK2, ab, aa, HB⟩ := hrel
     cases gk with
     | zero => exact absurd HA.out (by simp [impl_BuildOk.l0])
     | succ k2 =>
      have H := HA.out
      clear HA
      simp only [impl_BuildOk.l0] at H
      by_cases c25 : ac < (ad.length : Int)
      ·rw [if_pos c25] at H
       have c25b0 : decide (ac < (ad.length : Int)) = true := decide_eq_true c25
       clear c25
       replace H := ifN H
       obtain ⟨c26, H⟩ := H
       have c26b0 : decide (0 ≤ ac) = true := decide_eq_true c26
       clear c26
       replace H := ifN H
       obtain ⟨c27, H⟩ := H
       have c27b0 : decide (ac < (ad.length : Int)) = true := decide_eq_true c27
       clear c27
       replace H := bE H
       obtain ⟨ar, A28, H⟩ := H
       replace H := bE H
       obtain ⟨t257, A29, H⟩ := H
       have aI : 0 ≤ (ac : Int) := DT
       have aJ : ac < (ad.length : Int) := DT
       obtain ⟨aq, e252, aD, aF⟩ := at_T48 au.out ac aI aJ
       cases e252
       replace aD := (HB.out.cell (World.block_lt_of_cell? w _ aD)).trans aD
       replace aF := (HB.out.cell (World.block_lt_of_cell? w _ aF)).trans aF
       replace aI := eq_true aI
       replace aJ := eq_true aJ
       go_wp2_with (first | ((with_reducible refine gate_dst (N := 6) rfl ?_); (try (refine gate_guard (by rfl) ?_; dsimp only)); refine gBx 6 #[.int .i64 0, .int .i64 0] 48 ?_; intro am hg w31 hbox hb; have ae := aM (hbox); have GW253 := aM ((by rw [hg]; exact (below_size TB) : w.heap.size ≤ am)); have GE253 := aM ((by rw [hg]; exact (below_size TB) : w.heap.size ≤ am)); have NB247_253 := aM ((by rw [hg]; exact Nat.ne_of_lt (blk_lt (by have X_ := ab.out; exact TX)) : ah ≠ am)); have NB253_247 := aM ((by rw [hg]; exact Nat.ne_of_gt (blk_lt (by have X_ := ab.out; exact TX)) : am ≠ ah)); have NB248_253 := aM ((by rw [hg]; exact Nat.ne_of_lt (blk_lt (by have X_ := aa.out; exact TX)) : gb248 ≠ am)); have NB253_248 := aM ((by rw [hg]; exact Nat.ne_of_gt (blk_lt (by have X_ := aa.out; exact TX)) : am ≠ gb248)); replace ab := aM (blk_below (by have X_ := ab.out; exact TX) hb); replace aa := aM (blk_below (by have X_ := aa.out; exact TX) hb); replace HB := aM (below_step TB hb); clear hb hbox hg; have hnb32 := NB253_247.out; have hnc32 := NB247_253.out; have hnb33 := NB253_248.out; have hnc33 := NB248_253.out; obtain ⟨hcz34_0, hcz34_1⟩ := cz2 ae.out; obtain ⟨hfz34_0, hfz34_1⟩ := fz2 ae.out; have hnb35 := NB248_247.out; have hnc35 := NB247_248.out; obtain ⟨hcz36_0, hcz36_1⟩ := cz2 aa.out; obtain ⟨hfz36_0, hfz36_1⟩ := fz2 aa.out; obtain ⟨hcz37_0, hcz37_1, hcz37_2, hcz37_3⟩ := cz4 ab.out; obtain ⟨hfz37_0, hfz37_1, hfz37_2, hfz37_3⟩ := fz4 ab.out) | ((with_reducible refine gate_callee (f := 89) rfl ?_); (with_reducible refine gate_dst (N := 44) rfl ?_); generalize hG_ : wpList _ _ _ _ _ _ = G_))
       subst hG_
       by_cases c38 : t257 = true
       ·subst c38
        replace H := ifT H
        replace H := bE H
        obtain ⟨⟨aA, aB⟩, A39, H⟩ := H
        dsimp only at H
        by_cases c40 : (!(aA == ((rd_T48 ad ac).f0)) || (!(aB == ((rd_T48 ad ac).f1)))) = true
        ·rw [if_pos c40] at H
         have c40b0 : (!(aA == ((rd_T48 ad ac).f0)) || (!(aB == ((rd_T48 ad ac).f1)))) = true := c40
         clear c40
         obtain rfl := Option.some.inj H
         try go_wp2_with (first | ((with_reducible refine gate_callee (f := 89) rfl ?_); refine gL (some 44) Try.func89 #[.agg #[.int .i64 af, .slice ap al.length an], .agg #[.int .i64 ak, .int .i64 aj, .int .i64 ai, .slice (some aq) ad.length ao], .int .i64 ac] ?_; (with_reducible refine (impl_Build_block.calls af (fun k_ => k_ < w.heap.size) _ _ al ak aj ai _ _ ad ac ar _ ?side1 ?side2 ?side3 A28.out).mono ?_); (case side1 => exact Kd.V_mk ax.out (Kd.F_below (Kd.C_F (Kd.heap_int .u8) ay.out) TB)); (case side2 => exact Kd.C_below au.out TB); (case side3 => exact av.out); rintro e w41 ⟨aE, rfl, ho0, hb⟩; refine ⟨_, rfl, ?_⟩; have ag := aM (Kd.V_lower (Kd.V_mono (ok' := fun k_ => k_ ≠ ah ∧ k_ ≠ gb248 ∧ k_ ≠ am) ho0 (fun k_ hk_ => ⟨Or.elim hk_ (fun hs_ => fun e_ => Nat.not_le.2 hs_ (by rw [e_]; exact GW247.out)) (fun hn_ => (Kd.freshB (g := ah) (o := .cells #[.int .i64 ak, .int .i64 aj, .int .i64 ai, .slice (some aq) ad.length ao] 28 (0, 0)) (by (with_reducible repeat (first | refine blk_drewN ?_ _ | refine blk_drew ?_ | refine blk_alloc ?_ _)); refine blk_far ?_ NB247_253.out _; (with_reducible repeat (first | refine blk_drewN ?_ _ | refine blk_drew ?_ | refine blk_alloc ?_ _)); refine blk_far ?_ NB247_253.out _; (with_reducible repeat (first | refine blk_drewN ?_ _ | refine blk_drew ?_ | refine blk_alloc ?_ _)); exact ab.out) k_ hn_)), Or.elim hk_ (fun hs_ => fun e_ => Nat.not_le.2 hs_ (by rw [e_]; exact GW248.out)) (fun hn_ => (Kd.freshB (g := gb248) (o := .cells #[.int .i64 af, .slice ap al.length an] 31 (0, 0)) (by (with_reducible repeat (first | refine blk_drewN ?_ _ | refine blk_drew ?_ | refine blk_alloc ?_ _)); refine blk_far ?_ NB248_253.out _; (with_reducible repeat (first | refine blk_drewN ?_ _ | refine blk_drew ?_ | refine blk_alloc ?_ _)); refine blk_far ?_ NB248_253.out _; (with_reducible repeat (first | refine blk_drewN ?_ _ | refine blk_drew ?_ | refine blk_alloc ?_ _)); exact aa.out) k_ hn_)), Or.elim hk_ (fun hs_ => fun e_ => Nat.not_le.2 hs_ (by rw [e_]; exact GW253.out)) (fun hn_ => (Kd.freshB (g := am) (o := .cells #[.int .i64 ((rd_T48 ad ac).f0), .int .i64 ((rd_T48 ad ac).f1)] 48 (0, 0)) (by (with_reducible repeat (first | refine blk_drewN ?_ _ | refine blk_drew ?_ | refine blk_alloc ?_ _)); refine blk_put (cs := #[.int .i64 ((rd_T48 ad ac).f0), .int .i64 0]) ?_ 1 _ rfl; (with_reducible repeat (first | refine blk_drewN ?_ _ | refine blk_drew ?_ | refine blk_alloc ?_ _)); refine blk_put (cs := #[.int .i64 0, .int .i64 0]) ?_ 0 _ rfl; (with_reducible repeat (first | refine blk_drewN ?_ _ | refine blk_drew ?_ | refine blk_alloc ?_ _)); exact ae.out) k_ hn_))⟩)) (below_size TB)); replace ab := aM (blk_below (g := ah) (o := .cells #[.int .i64 ak, .int .i64 aj, .int .i64 ai, .slice (some aq) ad.length ao] 28 (0, 0)) (by (with_reducible repeat (first | refine blk_drewN ?_ _ | refine blk_drew ?_ | refine blk_alloc ?_ _)); refine blk_far ?_ NB247_253.out _; (with_reducible repeat (first | refine blk_drewN ?_ _ | refine blk_drew ?_ | refine blk_alloc ?_ _)); refine blk_far ?_ NB247_253.out _; (with_reducible repeat (first | refine blk_drewN ?_ _ | refine blk_drew ?_ | refine blk_alloc ?_ _)); exact ab.out) hb); replace aa := aM (blk_below (g := gb248) (o := .cells #[.int .i64 af, .slice ap al.length an] 31 (0, 0)) (by (with_reducible repeat (first | refine blk_drewN ?_ _ | refine blk_drew ?_ | refine blk_alloc ?_ _)); refine blk_far ?_ NB248_253.out _; (with_reducible repeat (first | refine blk_drewN ?_ _ | refine blk_drew ?_ | refine blk_alloc ?_ _)); refine blk_far ?_ NB248_253.out _; (with_reducible repeat (first | refine blk_drewN ?_ _ | refine blk_drew ?_ | refine blk_alloc ?_ _)); exact aa.out) hb); replace ae := aM (blk_below (g := am) (o := .cells #[.int .i64 ((rd_T48 ad ac).f0), .int .i64 ((rd_T48 ad ac).f1)] 48 (0, 0)) (by (with_reducible repeat (first | refine blk_drewN ?_ _ | refine blk_drew ?_ | refine blk_alloc ?_ _)); refine blk_put (cs := #[.int .i64 ((rd_T48 ad ac).f0), .int .i64 0]) ?_ 1 _ rfl; (with_reducible repeat (first | refine blk_drewN ?_ _ | refine blk_drew ?_ | refine blk_alloc ?_ _)); refine blk_put (cs := #[.int .i64 0, .int .i64 0]) ?_ 0 _ rfl; (with_reducible repeat (first | refine blk_drewN ?_ _ | refine blk_drew ?_ | refine blk_alloc ?_ _)); exact ae.out) hb); replace HB := aM (below_step TB hb); clear ho0 hb))
         replace ag := aM (Kd.V_drew ag.out)
         replace ab := aM (blk_drew ab.out)
         replace aa := aM (blk_drew aa.out)
         replace ae := aM (blk_drew ae.out)
         replace HB := aM (below_drew1 HB.out)
         refine start_ (n := 21) (S := fun w' => w'.cell? ⟨gb248, 0, none⟩ = some (.int .i64 af) ∧ w'.cell? ⟨gb248, 1, none⟩ = some (.slice ap al.length an) ∧ w'.cell? ⟨am, 0, none⟩ = some (.int .i64 ((rd_T48 ad ac).f0)) ∧ w'.cell? ⟨am, 1, none⟩ = some (.int .i64 ((rd_T48 ad ac).f1))) (ds := []) (Array.replicate 21 false) (by kernel_rfl) rfl rfl ⟨(blk_cell aa.out 0).trans rfl, (blk_cell aa.out 1).trans rfl, (blk_cell ae.out 0).trans rfl, (blk_cell ae.out 1).trans rfl⟩ (fun hHeld => ?_); refine with_tabW impl_BuildOk.tab7 impl_BuildOk.bits7 (fun HT_ HW_ => ?_)
         generalize w41.drew = w42 at ag ab aa ae HB hHeld ⊢
         refine pP 0 (some 45) ?_
         refine pP 2 (some 47) ?_
         refine pT 1 (some 46) ?_
         refine pO 3 (some 48) (fun K hK => ?_)
         refine gG Try.func37 #[.int .i64 af, .int .i64 ac] ?_
         with_reducible refine (impl_InSet.calls af ac true _ A29.out).mono ?_
         rintro e w' ⟨rfl, ⟨nd, rfl⟩⟩
         refine ⟨_, rfl, ?_⟩
         obtain ⟨Ao43, co43, eo43⟩ := Kd.V_slice ag.out
         (first | subst eo43 | (injection eo43 with f1_ f2_ f3_; have f4_ := f1_.symm; have f5_ := f3_.symm; clear f1_ f2_ f3_; subst f4_; subst f5_))
         refine hK.out _ _ ⟨(blk_cell aa.out 0).trans rfl, (blk_cell aa.out 1).trans rfl, (blk_cell ae.out 0).trans rfl, (blk_cell ae.out 1).trans rfl⟩ (fun hHeld => ?_)
         clear hK K
         refine nR ?_
         refine pP 4 (some 49) ?_
         refine pP 5 (some 50) ?_
         refine pT 7 (some 52) ?_
         refine pO 6 (some 51) (fun K hK => ?_)
         refine gG Try.func57 #[.slice Ao43 ar.length co43] ?_
         with_reducible refine (impl_SumOf.calls k2 _ _ ar aA aB _ ?side1 ?side2 A39.out).mono ?_
         (case side1 => have X_ := (Kd.V_reads' ag.out).2.2; exact TC)
         (case side2 => exact (Kd.V_reads' ag.out).2.1)
         rintro e w44 ⟨rfl, hb⟩
         refine ⟨_, rfl, ?_⟩
         have n0_ := aM (Kd.V_below (by (with_reducible repeat (first | apply Kd.V_alloc | apply Kd.V_drewN | apply Kd.V_drew)); exact ag.out) hb)
         have n1_ := aM (blk_below (by have X_ := ab.out; exact TX) hb)
         have n2_ := aM (blk_below (by have X_ := aa.out; exact TX) hb)
         have n3_ := aM (blk_below (by have X_ := ae.out; exact TX) hb)
         have n4_ := aM (below_step TB hb)
         clear ag
         clear ab
         clear aa
         clear ae
         clear HB
         have ag := n0_
         have ab := n1_
         have aa := n2_
         have ae := n3_
         have HB := n4_
         clear n0_ n1_ n2_ n3_ n4_
         (try clear hb)
         (try clear hb2)
         (try clear hk)
         (try clear hi)
         refine hK.out _ _ ⟨(blk_cell aa.out 0).trans rfl, (blk_cell aa.out 1).trans rfl, (blk_cell ae.out 0).trans rfl, (blk_cell ae.out 1).trans rfl⟩ (fun hHeld => ?_)
         clear hK K
         refine nR ?_
         refine pP 8 (some 53) ?_
         refine pP 9 (some 54) ?_
         refine pP 10 (some 55) ?_
         refine pX 11 (some 56) ?_
         refine pX 12 (some 57) ?_
         refine pX 13 (some 58) ?_
         refine pX 14 (some 59) ?_
         refine pX 15 (some 60) ?_
         refine pX 16 (some 61) ?_
         refine pX 17 (some 62) ?_
         refine pX 18 (some 63) ?_
         refine pX 19 (some 64) ?_
         refine pP 20 (some 65) ?_
         refine done_ (done_of HT_.out (by kernel_rfl)) ?_
         try go_wp2
         go_ret
         exact ⟨by first | rfl | (simp [errW_none, errW_some] <;> rfl) | (simp [*, errW_none, errW_some] <;> rfl), TB⟩
        ·rw [if_neg c40] at H
         have c40b0 : (!(aA == ((rd_T48 ad ac).f0)) || (!(aB == ((rd_T48 ad ac).f1)))) = false := by simpa using c40
         clear c40
         replace H := bE H
         obtain ⟨t260, A45, H⟩ := H
         by_cases c46 : t260 = true
         ·subst c46
          replace H := ifT H
          have H' := aM H
          clear H
          try go_wp2_with (first | ((with_reducible refine gate_callee (f := 89) rfl ?_); refine gL (some 44) Try.func89 #[.agg #[.int .i64 af, .slice ap al.length an], .agg #[.int .i64 ak, .int .i64 aj, .int .i64 ai, .slice (some aq) ad.length ao], .int .i64 ac] ?_; (with_reducible refine (impl_Build_block.calls af (fun k_ => k_ < w.heap.size) _ _ al ak aj ai _ _ ad ac ar _ ?side1 ?side2 ?side3 A28.out).mono ?_); (case side1 => exact Kd.V_mk ax.out (Kd.F_below (Kd.C_F (Kd.heap_int .u8) ay.out) TB)); (case side2 => exact Kd.C_below au.out TB); (case side3 => exact av.out); rintro e w47 ⟨aE, rfl, ho0, hb⟩; refine ⟨_, rfl, ?_⟩; have ag := aM (Kd.V_lower (Kd.V_mono (ok' := fun k_ => k_ ≠ ah ∧ k_ ≠ gb248 ∧ k_ ≠ am) ho0 (fun k_ hk_ => ⟨Or.elim hk_ (fun hs_ => fun e_ => Nat.not_le.2 hs_ (by rw [e_]; exact GW247.out)) (fun hn_ => (Kd.freshB (g := ah) (o := .cells #[.int .i64 ak, .int .i64 aj, .int .i64 ai, .slice (some aq) ad.length ao] 28 (0, 0)) (by (with_reducible repeat (first | refine blk_drewN ?_ _ | refine blk_drew ?_ | refine blk_alloc ?_ _)); refine blk_far ?_ NB247_253.out _; (with_reducible repeat (first | refine blk_drewN ?_ _ | refine blk_drew ?_ | refine blk_alloc ?_ _)); refine blk_far ?_ NB247_253.out _; (with_reducible repeat (first | refine blk_drewN ?_ _ | refine blk_drew ?_ | refine blk_alloc ?_ _)); exact ab.out) k_ hn_)), Or.elim hk_ (fun hs_ => fun e_ => Nat.not_le.2 hs_ (by rw [e_]; exact GW248.out)) (fun hn_ => (Kd.freshB (g := gb248) (o := .cells #[.int .i64 af, .slice ap al.length an] 31 (0, 0)) (by (with_reducible repeat (first | refine blk_drewN ?_ _ | refine blk_drew ?_ | refine blk_alloc ?_ _)); refine blk_far ?_ NB248_253.out _; (with_reducible repeat (first | refine blk_drewN ?_ _ | refine blk_drew ?_ | refine blk_alloc ?_ _)); refine blk_far ?_ NB248_253.out _; (with_reducible repeat (first | refine blk_drewN ?_ _ | refine blk_drew ?_ | refine blk_alloc ?_ _)); exact aa.out) k_ hn_)), Or.elim hk_ (fun hs_ => fun e_ => Nat.not_le.2 hs_ (by rw [e_]; exact GW253.out)) (fun hn_ => (Kd.freshB (g := am) (o := .cells #[.int .i64 ((rd_T48 ad ac).f0), .int .i64 ((rd_T48 ad ac).f1)] 48 (0, 0)) (by (with_reducible repeat (first | refine blk_drewN ?_ _ | refine blk_drew ?_ | refine blk_alloc ?_ _)); refine blk_put (cs := #[.int .i64 ((rd_T48 ad ac).f0), .int .i64 0]) ?_ 1 _ rfl; (with_reducible repeat (first | refine blk_drewN ?_ _ | refine blk_drew ?_ | refine blk_alloc ?_ _)); refine blk_put (cs := #[.int .i64 0, .int .i64 0]) ?_ 0 _ rfl; (with_reducible repeat (first | refine blk_drewN ?_ _ | refine blk_drew ?_ | refine blk_alloc ?_ _)); exact ae.out) k_ hn_))⟩)) (below_size TB)); replace ab := aM (blk_below (g := ah) (o := .cells #[.int .i64 ak, .int .i64 aj, .int .i64 ai, .slice (some aq) ad.length ao] 28 (0, 0)) (by (with_reducible repeat (first | refine blk_drewN ?_ _ | refine blk_drew ?_ | refine blk_alloc ?_ _)); refine blk_far ?_ NB247_253.out _; (with_reducible repeat (first | refine blk_drewN ?_ _ | refine blk_drew ?_ | refine blk_alloc ?_ _)); refine blk_far ?_ NB247_253.out _; (with_reducible repeat (first | refine blk_drewN ?_ _ | refine blk_drew ?_ | refine blk_alloc ?_ _)); exact ab.out) hb); replace aa := aM (blk_below (g := gb248) (o := .cells #[.int .i64 af, .slice ap al.length an] 31 (0, 0)) (by (with_reducible repeat (first | refine blk_drewN ?_ _ | refine blk_drew ?_ | refine blk_alloc ?_ _)); refine blk_far ?_ NB248_253.out _; (with_reducible repeat (first | refine blk_drewN ?_ _ | refine blk_drew ?_ | refine blk_alloc ?_ _)); refine blk_far ?_ NB248_253.out _; (with_reducible repeat (first | refine blk_drewN ?_ _ | refine blk_drew ?_ | refine blk_alloc ?_ _)); exact aa.out) hb); replace ae := aM (blk_below (g := am) (o := .cells #[.int .i64 ((rd_T48 ad ac).f0), .int .i64 ((rd_T48 ad ac).f1)] 48 (0, 0)) (by (with_reducible repeat (first | refine blk_drewN ?_ _ | refine blk_drew ?_ | refine blk_alloc ?_ _)); refine blk_put (cs := #[.int .i64 ((rd_T48 ad ac).f0), .int .i64 0]) ?_ 1 _ rfl; (with_reducible repeat (first | refine blk_drewN ?_ _ | refine blk_drew ?_ | refine blk_alloc ?_ _)); refine blk_put (cs := #[.int .i64 0, .int .i64 0]) ?_ 0 _ rfl; (with_reducible repeat (first | refine blk_drewN ?_ _ | refine blk_drew ?_ | refine blk_alloc ?_ _)); exact ae.out) hb); replace HB := aM (below_step TB hb); clear ho0 hb))
          replace ag := aM (Kd.V_drew ag.out)
          replace ab := aM (blk_drew ab.out)
          replace aa := aM (blk_drew aa.out)
          replace ae := aM (blk_drew ae.out)
          replace HB := aM (below_drew1 HB.out)
          refine start_ (n := 21) (S := fun w' => w'.cell? ⟨gb248, 0, none⟩ = some (.int .i64 af) ∧ w'.cell? ⟨gb248, 1, none⟩ = some (.slice ap al.length an) ∧ w'.cell? ⟨am, 0, none⟩ = some (.int .i64 ((rd_T48 ad ac).f0)) ∧ w'.cell? ⟨am, 1, none⟩ = some (.int .i64 ((rd_T48 ad ac).f1))) (ds := []) (Array.replicate 21 false) (by kernel_rfl) rfl rfl ⟨(blk_cell aa.out 0).trans rfl, (blk_cell aa.out 1).trans rfl, (blk_cell ae.out 0).trans rfl, (blk_cell ae.out 1).trans rfl⟩ (fun hHeld => ?_); refine with_tabW impl_BuildOk.tab7 impl_BuildOk.bits7 (fun HT_ HW_ => ?_)
          generalize w47.drew = w48 at ag ab aa ae HB hHeld ⊢
          refine pP 0 (some 45) ?_
          refine pP 2 (some 47) ?_
          refine pT 1 (some 46) ?_
          refine pO 3 (some 48) (fun K hK => ?_)
          refine gG Try.func37 #[.int .i64 af, .int .i64 ac] ?_
          with_reducible refine (impl_InSet.calls af ac true _ A29.out).mono ?_
          rintro e w' ⟨rfl, ⟨nd, rfl⟩⟩
          refine ⟨_, rfl, ?_⟩
          obtain ⟨Ao49, co49, eo49⟩ := Kd.V_slice ag.out
          (first | subst eo49 | (injection eo49 with f1_ f2_ f3_; have f4_ := f1_.symm; have f5_ := f3_.symm; clear f1_ f2_ f3_; subst f4_; subst f5_))
          refine hK.out _ _ ⟨(blk_cell aa.out 0).trans rfl, (blk_cell aa.out 1).trans rfl, (blk_cell ae.out 0).trans rfl, (blk_cell ae.out 1).trans rfl⟩ (fun hHeld => ?_)
          clear hK K
          refine nR ?_
          refine pP 4 (some 49) ?_
          refine pP 5 (some 50) ?_
          refine pT 7 (some 52) ?_
          refine pO 6 (some 51) (fun K hK => ?_)
          refine gG Try.func57 #[.slice Ao49 ar.length co49] ?_
          with_reducible refine (impl_SumOf.calls k2 _ _ ar aA aB _ ?side1 ?side2 A39.out).mono ?_
          (case side1 => have X_ := (Kd.V_reads' ag.out).2.2; exact TC)
          (case side2 => exact (Kd.V_reads' ag.out).2.1)
          rintro e w50 ⟨rfl, hb⟩
          refine ⟨_, rfl, ?_⟩
          have n0_ := aM (Kd.V_below (by (with_reducible repeat (first | apply Kd.V_alloc | apply Kd.V_drewN | apply Kd.V_drew)); exact ag.out) hb)
          have n1_ := aM (blk_below (by have X_ := ab.out; exact TX) hb)
          have n2_ := aM (blk_below (by have X_ := aa.out; exact TX) hb)
          have n3_ := aM (blk_below (by have X_ := ae.out; exact TX) hb)
          have n4_ := aM (below_step TB hb)
          clear ag
          clear ab
          clear aa
          clear ae
          clear HB
          have ag := n0_
          have ab := n1_
          have aa := n2_
          have ae := n3_
          have HB := n4_
          clear n0_ n1_ n2_ n3_ n4_
          (try clear hb)
          (try clear hb2)
          (try clear hk)
          (try clear hi)
          refine hK.out _ _ ⟨(blk_cell aa.out 0).trans rfl, (blk_cell aa.out 1).trans rfl, (blk_cell ae.out 0).trans rfl, (blk_cell ae.out 1).trans rfl⟩ (fun hHeld => ?_)
          clear hK K
          refine nR ?_
          refine pP 8 (some 53) ?_
          refine pP 9 (some 54) ?_
          refine pP 10 (some 55) ?_
          refine pP 11 (some 56) ?_
          refine pP 13 (some 58) ?_
          refine pT 12 (some 57) ?_
          refine pO 14 (some 59) (fun K hK => ?_)
          refine gG Try.func37 #[.int .i64 af, .int .i64 ac] ?_
          with_reducible refine (impl_InSet.calls af ac true _ A45.out).mono ?_
          rintro e w' ⟨rfl, ⟨nd, rfl⟩⟩
          refine ⟨_, rfl, ?_⟩
          refine hK.out _ _ ⟨(blk_cell aa.out 0).trans rfl, (blk_cell aa.out 1).trans rfl, (blk_cell ae.out 0).trans rfl, (blk_cell ae.out 1).trans rfl⟩ (fun hHeld => ?_)
          clear hK K
          refine nR ?_
          refine pP 15 (some 60) ?_
          refine pP 16 (some 61) ?_
          refine pX 17 (some 62) ?_
          refine pX 18 (some 63) ?_
          refine pP 19 (some 64) ?_
          refine pP 20 (some 65) ?_
          refine done_ (done_of HT_.out (by kernel_rfl)) ?_
          try go_wp2
          go_roundg k2
          case measure => have := HJ2.out; have := HK2.out; omega
          case rel => exact ⟨(wrap64 (ac + 1)), (by first | rfl | (simp; done) | (simp [*]; done)), H', ⟨by have := HJ2.out; have := HK2.out; omega⟩, ⟨TK⟩, ⟨TK⟩, ⟨TB⟩⟩
         ·replace c46 := Bool.eq_false_iff.mpr c46
          subst c46
          replace H := ifF H
          replace H := bE H
          obtain ⟨t261, A51, H⟩ := H
          by_cases c52 : t261 = true
          ·subst c52
           replace H := ifT H
           obtain rfl := Option.some.inj H
           try go_wp2_with (first | ((with_reducible refine gate_callee (f := 89) rfl ?_); refine gL (some 44) Try.func89 #[.agg #[.int .i64 af, .slice ap al.length an], .agg #[.int .i64 ak, .int .i64 aj, .int .i64 ai, .slice (some aq) ad.length ao], .int .i64 ac] ?_; (with_reducible refine (impl_Build_block.calls af (fun k_ => k_ < w.heap.size) _ _ al ak aj ai _ _ ad ac ar _ ?side1 ?side2 ?side3 A28.out).mono ?_); (case side1 => exact Kd.V_mk ax.out (Kd.F_below (Kd.C_F (Kd.heap_int .u8) ay.out) TB)); (case side2 => exact Kd.C_below au.out TB); (case side3 => exact av.out); rintro e w53 ⟨aE, rfl, ho0, hb⟩; refine ⟨_, rfl, ?_⟩; have ag := aM (Kd.V_lower (Kd.V_mono (ok' := fun k_ => k_ ≠ ah ∧ k_ ≠ gb248 ∧ k_ ≠ am) ho0 (fun k_ hk_ => ⟨Or.elim hk_ (fun hs_ => fun e_ => Nat.not_le.2 hs_ (by rw [e_]; exact GW247.out)) (fun hn_ => (Kd.freshB (g := ah) (o := .cells #[.int .i64 ak, .int .i64 aj, .int .i64 ai, .slice (some aq) ad.length ao] 28 (0, 0)) (by (with_reducible repeat (first | refine blk_drewN ?_ _ | refine blk_drew ?_ | refine blk_alloc ?_ _)); refine blk_far ?_ NB247_253.out _; (with_reducible repeat (first | refine blk_drewN ?_ _ | refine blk_drew ?_ | refine blk_alloc ?_ _)); refine blk_far ?_ NB247_253.out _; (with_reducible repeat (first | refine blk_drewN ?_ _ | refine blk_drew ?_ | refine blk_alloc ?_ _)); exact ab.out) k_ hn_)), Or.elim hk_ (fun hs_ => fun e_ => Nat.not_le.2 hs_ (by rw [e_]; exact GW248.out)) (fun hn_ => (Kd.freshB (g := gb248) (o := .cells #[.int .i64 af, .slice ap al.length an] 31 (0, 0)) (by (with_reducible repeat (first | refine blk_drewN ?_ _ | refine blk_drew ?_ | refine blk_alloc ?_ _)); refine blk_far ?_ NB248_253.out _; (with_reducible repeat (first | refine blk_drewN ?_ _ | refine blk_drew ?_ | refine blk_alloc ?_ _)); refine blk_far ?_ NB248_253.out _; (with_reducible repeat (first | refine blk_drewN ?_ _ | refine blk_drew ?_ | refine blk_alloc ?_ _)); exact aa.out) k_ hn_)), Or.elim hk_ (fun hs_ => fun e_ => Nat.not_le.2 hs_ (by rw [e_]; exact GW253.out)) (fun hn_ => (Kd.freshB (g := am) (o := .cells #[.int .i64 ((rd_T48 ad ac).f0), .int .i64 ((rd_T48 ad ac).f1)] 48 (0, 0)) (by (with_reducible repeat (first | refine blk_drewN ?_ _ | refine blk_drew ?_ | refine blk_alloc ?_ _)); refine blk_put (cs := #[.int .i64 ((rd_T48 ad ac).f0), .int .i64 0]) ?_ 1 _ rfl; (with_reducible repeat (first | refine blk_drewN ?_ _ | refine blk_drew ?_ | refine blk_alloc ?_ _)); refine blk_put (cs := #[.int .i64 0, .int .i64 0]) ?_ 0 _ rfl; (with_reducible repeat (first | refine blk_drewN ?_ _ | refine blk_drew ?_ | refine blk_alloc ?_ _)); exact ae.out) k_ hn_))⟩)) (below_size TB)); replace ab := aM (blk_below (g := ah) (o := .cells #[.int .i64 ak, .int .i64 aj, .int .i64 ai, .slice (some aq) ad.length ao] 28 (0, 0)) (by (with_reducible repeat (first | refine blk_drewN ?_ _ | refine blk_drew ?_ | refine blk_alloc ?_ _)); refine blk_far ?_ NB247_253.out _; (with_reducible repeat (first | refine blk_drewN ?_ _ | refine blk_drew ?_ | refine blk_alloc ?_ _)); refine blk_far ?_ NB247_253.out _; (with_reducible repeat (first | refine blk_drewN ?_ _ | refine blk_drew ?_ | refine blk_alloc ?_ _)); exact ab.out) hb); replace aa := aM (blk_below (g := gb248) (o := .cells #[.int .i64 af, .slice ap al.length an] 31 (0, 0)) (by (with_reducible repeat (first | refine blk_drewN ?_ _ | refine blk_drew ?_ | refine blk_alloc ?_ _)); refine blk_far ?_ NB248_253.out _; (with_reducible repeat (first | refine blk_drewN ?_ _ | refine blk_drew ?_ | refine blk_alloc ?_ _)); refine blk_far ?_ NB248_253.out _; (with_reducible repeat (first | refine blk_drewN ?_ _ | refine blk_drew ?_ | refine blk_alloc ?_ _)); exact aa.out) hb); replace ae := aM (blk_below (g := am) (o := .cells #[.int .i64 ((rd_T48 ad ac).f0), .int .i64 ((rd_T48 ad ac).f1)] 48 (0, 0)) (by (with_reducible repeat (first | refine blk_drewN ?_ _ | refine blk_drew ?_ | refine blk_alloc ?_ _)); refine blk_put (cs := #[.int .i64 ((rd_T48 ad ac).f0), .int .i64 0]) ?_ 1 _ rfl; (with_reducible repeat (first | refine blk_drewN ?_ _ | refine blk_drew ?_ | refine blk_alloc ?_ _)); refine blk_put (cs := #[.int .i64 0, .int .i64 0]) ?_ 0 _ rfl; (with_reducible repeat (first | refine blk_drewN ?_ _ | refine blk_drew ?_ | refine blk_alloc ?_ _)); exact ae.out) hb); replace HB := aM (below_step TB hb); clear ho0 hb))
           replace ag := aM (Kd.V_drew ag.out)
           replace ab := aM (blk_drew ab.out)
           replace aa := aM (blk_drew aa.out)
           replace ae := aM (blk_drew ae.out)
           replace HB := aM (below_drew1 HB.out)
           refine start_ (n := 21) (S := fun w' => w'.cell? ⟨gb248, 0, none⟩ = some (.int .i64 af) ∧ w'.cell? ⟨gb248, 1, none⟩ = some (.slice ap al.length an) ∧ w'.cell? ⟨am, 0, none⟩ = some (.int .i64 ((rd_T48 ad ac).f0)) ∧ w'.cell? ⟨am, 1, none⟩ = some (.int .i64 ((rd_T48 ad ac).f1))) (ds := []) (Array.replicate 21 false) (by kernel_rfl) rfl rfl ⟨(blk_cell aa.out 0).trans rfl, (blk_cell aa.out 1).trans rfl, (blk_cell ae.out 0).trans rfl, (blk_cell ae.out 1).trans rfl⟩ (fun hHeld => ?_); refine with_tabW impl_BuildOk.tab7 impl_BuildOk.bits7 (fun HT_ HW_ => ?_)
           generalize w53.drew = w54 at ag ab aa ae HB hHeld ⊢
           refine pP 0 (some 45) ?_
           refine pP 2 (some 47) ?_
           refine pT 1 (some 46) ?_
           refine pO 3 (some 48) (fun K hK => ?_)
           refine gG Try.func37 #[.int .i64 af, .int .i64 ac] ?_
           with_reducible refine (impl_InSet.calls af ac true _ A29.out).mono ?_
           rintro e w' ⟨rfl, ⟨nd, rfl⟩⟩
           refine ⟨_, rfl, ?_⟩
           obtain ⟨Ao55, co55, eo55⟩ := Kd.V_slice ag.out
           (first | subst eo55 | (injection eo55 with f1_ f2_ f3_; have f4_ := f1_.symm; have f5_ := f3_.symm; clear f1_ f2_ f3_; subst f4_; subst f5_))
           refine hK.out _ _ ⟨(blk_cell aa.out 0).trans rfl, (blk_cell aa.out 1).trans rfl, (blk_cell ae.out 0).trans rfl, (blk_cell ae.out 1).trans rfl⟩ (fun hHeld => ?_)
           clear hK K
           refine nR ?_
           refine pP 4 (some 49) ?_
           refine pP 5 (some 50) ?_
           refine pT 7 (some 52) ?_
           refine pO 6 (some 51) (fun K hK => ?_)
           refine gG Try.func57 #[.slice Ao55 ar.length co55] ?_
           with_reducible refine (impl_SumOf.calls k2 _ _ ar aA aB _ ?side1 ?side2 A39.out).mono ?_
           (case side1 => have X_ := (Kd.V_reads' ag.out).2.2; exact TC)
           (case side2 => exact (Kd.V_reads' ag.out).2.1)
           rintro e w56 ⟨rfl, hb⟩
           refine ⟨_, rfl, ?_⟩
           have n0_ := aM (Kd.V_below (by (with_reducible repeat (first | apply Kd.V_alloc | apply Kd.V_drewN | apply Kd.V_drew)); exact ag.out) hb)
           have n1_ := aM (blk_below (by have X_ := ab.out; exact TX) hb)
           have n2_ := aM (blk_below (by have X_ := aa.out; exact TX) hb)
           have n3_ := aM (blk_below (by have X_ := ae.out; exact TX) hb)
           have n4_ := aM (below_step TB hb)
           clear ag
           clear ab
           clear aa
           clear ae
           clear HB
           have ag := n0_
           have ab := n1_
           have aa := n2_
           have ae := n3_
           have HB := n4_
           clear n0_ n1_ n2_ n3_ n4_
           (try clear hb)
           (try clear hb2)
           (try clear hk)
           (try clear hi)
           refine hK.out _ _ ⟨(blk_cell aa.out 0).trans rfl, (blk_cell aa.out 1).trans rfl, (blk_cell ae.out 0).trans rfl, (blk_cell ae.out 1).trans rfl⟩ (fun hHeld => ?_)
           clear hK K
           refine nR ?_
           refine pP 8 (some 53) ?_
           refine pP 9 (some 54) ?_
           refine pP 10 (some 55) ?_
           refine pP 11 (some 56) ?_
           refine pP 13 (some 58) ?_
           refine pT 12 (some 57) ?_
           refine pO 14 (some 59) (fun K hK => ?_)
           refine gG Try.func37 #[.int .i64 af, .int .i64 ac] ?_
           with_reducible refine (impl_InSet.calls af ac false _ A45.out).mono ?_
           rintro e w' ⟨rfl, ⟨nd, rfl⟩⟩
           refine ⟨_, rfl, ?_⟩
           refine hK.out _ _ ⟨(blk_cell aa.out 0).trans rfl, (blk_cell aa.out 1).trans rfl, (blk_cell ae.out 0).trans rfl, (blk_cell ae.out 1).trans rfl⟩ (fun hHeld => ?_)
           clear hK K
           refine nR ?_
           refine pP 15 (some 60) ?_
           refine pP 16 (some 61) ?_
           refine pP 17 (some 62) ?_
           refine pO 18 (some 63) (fun K hK => ?_)
           refine gG Try.func90 #[.slice Ao55 ar.length co55, .func (.func 91) #[] #[]] ?_
           with_reducible refine (slices_ContainsFunc_byte_byte.calls k2 _ _ ar  true _ ?side1 ?side2 A51.out).mono ?_
           (case side1 => have X_ := (Kd.V_reads' ag.out).2.2; exact TC)
           (case side2 => exact (Kd.V_reads' ag.out).2.1)
           rintro e w' ⟨rfl, ⟨nd, rfl⟩⟩
           refine ⟨_, rfl, ?_⟩
           refine hK.out _ _ ⟨(blk_cell aa.out 0).trans rfl, (blk_cell aa.out 1).trans rfl, (blk_cell ae.out 0).trans rfl, (blk_cell ae.out 1).trans rfl⟩ (fun hHeld => ?_)
           clear hK K
           refine nR ?_
           refine pP 19 (some 64) ?_
           refine pP 20 (some 65) ?_
           refine done_ (done_of HT_.out (by kernel_rfl)) ?_
           try go_wp2
           go_ret
           exact ⟨by first | rfl | (simp [errW_none, errW_some] <;> rfl) | (simp [*, errW_none, errW_some] <;> rfl), TB⟩
          ·replace c52 := Bool.eq_false_iff.mpr c52
           subst c52
           replace H := ifF H
           have H' := aM H
           clear H
           try go_wp2_with (first | ((with_reducible refine gate_callee (f := 89) rfl ?_); refine gL (some 44) Try.func89 #[.agg #[.int .i64 af, .slice ap al.length an], .agg #[.int .i64 ak, .int .i64 aj, .int .i64 ai, .slice (some aq) ad.length ao], .int .i64 ac] ?_; (with_reducible refine (impl_Build_block.calls af (fun k_ => k_ < w.heap.size) _ _ al ak aj ai _ _ ad ac ar _ ?side1 ?side2 ?side3 A28.out).mono ?_); (case side1 => exact Kd.V_mk ax.out (Kd.F_below (Kd.C_F (Kd.heap_int .u8) ay.out) TB)); (case side2 => exact Kd.C_below au.out TB); (case side3 => exact av.out); rintro e w57 ⟨aE, rfl, ho0, hb⟩; refine ⟨_, rfl, ?_⟩; have ag := aM (Kd.V_lower (Kd.V_mono (ok' := fun k_ => k_ ≠ ah ∧ k_ ≠ gb248 ∧ k_ ≠ am) ho0 (fun k_ hk_ => ⟨Or.elim hk_ (fun hs_ => fun e_ => Nat.not_le.2 hs_ (by rw [e_]; exact GW247.out)) (fun hn_ => (Kd.freshB (g := ah) (o := .cells #[.int .i64 ak, .int .i64 aj, .int .i64 ai, .slice (some aq) ad.length ao] 28 (0, 0)) (by (with_reducible repeat (first | refine blk_drewN ?_ _ | refine blk_drew ?_ | refine blk_alloc ?_ _)); refine blk_far ?_ NB247_253.out _; (with_reducible repeat (first | refine blk_drewN ?_ _ | refine blk_drew ?_ | refine blk_alloc ?_ _)); refine blk_far ?_ NB247_253.out _; (with_reducible repeat (first | refine blk_drewN ?_ _ | refine blk_drew ?_ | refine blk_alloc ?_ _)); exact ab.out) k_ hn_)), Or.elim hk_ (fun hs_ => fun e_ => Nat.not_le.2 hs_ (by rw [e_]; exact GW248.out)) (fun hn_ => (Kd.freshB (g := gb248) (o := .cells #[.int .i64 af, .slice ap al.length an] 31 (0, 0)) (by (with_reducible repeat (first | refine blk_drewN ?_ _ | refine blk_drew ?_ | refine blk_alloc ?_ _)); refine blk_far ?_ NB248_253.out _; (with_reducible repeat (first | refine blk_drewN ?_ _ | refine blk_drew ?_ | refine blk_alloc ?_ _)); refine blk_far ?_ NB248_253.out _; (with_reducible repeat (first | refine blk_drewN ?_ _ | refine blk_drew ?_ | refine blk_alloc ?_ _)); exact aa.out) k_ hn_)), Or.elim hk_ (fun hs_ => fun e_ => Nat.not_le.2 hs_ (by rw [e_]; exact GW253.out)) (fun hn_ => (Kd.freshB (g := am) (o := .cells #[.int .i64 ((rd_T48 ad ac).f0), .int .i64 ((rd_T48 ad ac).f1)] 48 (0, 0)) (by (with_reducible repeat (first | refine blk_drewN ?_ _ | refine blk_drew ?_ | refine blk_alloc ?_ _)); refine blk_put (cs := #[.int .i64 ((rd_T48 ad ac).f0), .int .i64 0]) ?_ 1 _ rfl; (with_reducible repeat (first | refine blk_drewN ?_ _ | refine blk_drew ?_ | refine blk_alloc ?_ _)); refine blk_put (cs := #[.int .i64 0, .int .i64 0]) ?_ 0 _ rfl; (with_reducible repeat (first | refine blk_drewN ?_ _ | refine blk_drew ?_ | refine blk_alloc ?_ _)); exact ae.out) k_ hn_))⟩)) (below_size TB)); replace ab := aM (blk_below (g := ah) (o := .cells #[.int .i64 ak, .int .i64 aj, .int .i64 ai, .slice (some aq) ad.length ao] 28 (0, 0)) (by (with_reducible repeat (first | refine blk_drewN ?_ _ | refine blk_drew ?_ | refine blk_alloc ?_ _)); refine blk_far ?_ NB247_253.out _; (with_reducible repeat (first | refine blk_drewN ?_ _ | refine blk_drew ?_ | refine blk_alloc ?_ _)); refine blk_far ?_ NB247_253.out _; (with_reducible repeat (first | refine blk_drewN ?_ _ | refine blk_drew ?_ | refine blk_alloc ?_ _)); exact ab.out) hb); replace aa := aM (blk_below (g := gb248) (o := .cells #[.int .i64 af, .slice ap al.length an] 31 (0, 0)) (by (with_reducible repeat (first | refine blk_drewN ?_ _ | refine blk_drew ?_ | refine blk_alloc ?_ _)); refine blk_far ?_ NB248_253.out _; (with_reducible repeat (first | refine blk_drewN ?_ _ | refine blk_drew ?_ | refine blk_alloc ?_ _)); refine blk_far ?_ NB248_253.out _; (with_reducible repeat (first | refine blk_drewN ?_ _ | refine blk_drew ?_ | refine blk_alloc ?_ _)); exact aa.out) hb); replace ae := aM (blk_below (g := am) (o := .cells #[.int .i64 ((rd_T48 ad ac).f0), .int .i64 ((rd_T48 ad ac).f1)] 48 (0, 0)) (by (with_reducible repeat (first | refine blk_drewN ?_ _ | refine blk_drew ?_ | refine blk_alloc ?_ _)); refine blk_put (cs := #[.int .i64 ((rd_T48 ad ac).f0), .int .i64 0]) ?_ 1 _ rfl; (with_reducible repeat (first | refine blk_drewN ?_ _ | refine blk_drew ?_ | refine blk_alloc ?_ _)); refine blk_put (cs := #[.int .i64 0, .int .i64 0]) ?_ 0 _ rfl; (with_reducible repeat (first | refine blk_drewN ?_ _ | refine blk_drew ?_ | refine blk_alloc ?_ _)); exact ae.out) hb); replace HB := aM (below_step TB hb); clear ho0 hb))
           replace ag := aM (Kd.V_drew ag.out)
           replace ab := aM (blk_drew ab.out)
           replace aa := aM (blk_drew aa.out)
           replace ae := aM (blk_drew ae.out)
           replace HB := aM (below_drew1 HB.out)
           refine start_ (n := 21) (S := fun w' => w'.cell? ⟨gb248, 0, none⟩ = some (.int .i64 af) ∧ w'.cell? ⟨gb248, 1, none⟩ = some (.slice ap al.length an) ∧ w'.cell? ⟨am, 0, none⟩ = some (.int .i64 ((rd_T48 ad ac).f0)) ∧ w'.cell? ⟨am, 1, none⟩ = some (.int .i64 ((rd_T48 ad ac).f1))) (ds := []) (Array.replicate 21 false) (by kernel_rfl) rfl rfl ⟨(blk_cell aa.out 0).trans rfl, (blk_cell aa.out 1).trans rfl, (blk_cell ae.out 0).trans rfl, (blk_cell ae.out 1).trans rfl⟩ (fun hHeld => ?_); refine with_tabW impl_BuildOk.tab7 impl_BuildOk.bits7 (fun HT_ HW_ => ?_)
           generalize w57.drew = w58 at ag ab aa ae HB hHeld ⊢
           refine pP 0 (some 45) ?_
           refine pP 2 (some 47) ?_
           refine pT 1 (some 46) ?_
           refine pO 3 (some 48) (fun K hK => ?_)
           refine gG Try.func37 #[.int .i64 af, .int .i64 ac] ?_
           with_reducible refine (impl_InSet.calls af ac true _ A29.out).mono ?_
           rintro e w' ⟨rfl, ⟨nd, rfl⟩⟩
           refine ⟨_, rfl, ?_⟩
           obtain ⟨Ao59, co59, eo59⟩ := Kd.V_slice ag.out
           (first | subst eo59 | (injection eo59 with f1_ f2_ f3_; have f4_ := f1_.symm; have f5_ := f3_.symm; clear f1_ f2_ f3_; subst f4_; subst f5_))
           refine hK.out _ _ ⟨(blk_cell aa.out 0).trans rfl, (blk_cell aa.out 1).trans rfl, (blk_cell ae.out 0).trans rfl, (blk_cell ae.out 1).trans rfl⟩ (fun hHeld => ?_)
           clear hK K
           refine nR ?_
           refine pP 4 (some 49) ?_
           refine pP 5 (some 50) ?_
           refine pT 7 (some 52) ?_
           refine pO 6 (some 51) (fun K hK => ?_)
           refine gG Try.func57 #[.slice Ao59 ar.length co59] ?_
           with_reducible refine (impl_SumOf.calls k2 _ _ ar aA aB _ ?side1 ?side2 A39.out).mono ?_
           (case side1 => have X_ := (Kd.V_reads' ag.out).2.2; exact TC)
           (case side2 => exact (Kd.V_reads' ag.out).2.1)
           rintro e w60 ⟨rfl, hb⟩
           refine ⟨_, rfl, ?_⟩
           have n0_ := aM (Kd.V_below (by (with_reducible repeat (first | apply Kd.V_alloc | apply Kd.V_drewN | apply Kd.V_drew)); exact ag.out) hb)
           have n1_ := aM (blk_below (by have X_ := ab.out; exact TX) hb)
           have n2_ := aM (blk_below (by have X_ := aa.out; exact TX) hb)
           have n3_ := aM (blk_below (by have X_ := ae.out; exact TX) hb)
           have n4_ := aM (below_step TB hb)
           clear ag
           clear ab
           clear aa
           clear ae
           clear HB
           have ag := n0_
           have ab := n1_
           have aa := n2_
           have ae := n3_
           have HB := n4_
           clear n0_ n1_ n2_ n3_ n4_
           (try clear hb)
           (try clear hb2)
           (try clear hk)
           (try clear hi)
           refine hK.out _ _ ⟨(blk_cell aa.out 0).trans rfl, (blk_cell aa.out 1).trans rfl, (blk_cell ae.out 0).trans rfl, (blk_cell ae.out 1).trans rfl⟩ (fun hHeld => ?_)
           clear hK K
           refine nR ?_
           refine pP 8 (some 53) ?_
           refine pP 9 (some 54) ?_
           refine pP 10 (some 55) ?_
           refine pP 11 (some 56) ?_
           refine pP 13 (some 58) ?_
           refine pT 12 (some 57) ?_
           refine pO 14 (some 59) (fun K hK => ?_)
           refine gG Try.func37 #[.int .i64 af, .int .i64 ac] ?_
           with_reducible refine (impl_InSet.calls af ac false _ A45.out).mono ?_
           rintro e w' ⟨rfl, ⟨nd, rfl⟩⟩
           refine ⟨_, rfl, ?_⟩
           refine hK.out _ _ ⟨(blk_cell aa.out 0).trans rfl, (blk_cell aa.out 1).trans rfl, (blk_cell ae.out 0).trans rfl, (blk_cell ae.out 1).trans rfl⟩ (fun hHeld => ?_)
           clear hK K
           refine nR ?_
           refine pP 15 (some 60) ?_
           refine pP 16 (some 61) ?_
           refine pP 17 (some 62) ?_
           refine pO 18 (some 63) (fun K hK => ?_)
           refine gG Try.func90 #[.slice Ao59 ar.length co59, .func (.func 91) #[] #[]] ?_
           with_reducible refine (slices_ContainsFunc_byte_byte.calls k2 _ _ ar  false _ ?side1 ?side2 A51.out).mono ?_
           (case side1 => have X_ := (Kd.V_reads' ag.out).2.2; exact TC)
           (case side2 => exact (Kd.V_reads' ag.out).2.1)
           rintro e w' ⟨rfl, ⟨nd, rfl⟩⟩
           refine ⟨_, rfl, ?_⟩
           refine hK.out _ _ ⟨(blk_cell aa.out 0).trans rfl, (blk_cell aa.out 1).trans rfl, (blk_cell ae.out 0).trans rfl, (blk_cell ae.out 1).trans rfl⟩ (fun hHeld => ?_)
           clear hK K
           refine nR ?_
           refine pP 19 (some 64) ?_
           refine pP 20 (some 65) ?_
           refine done_ (done_of HT_.out (by kernel_rfl)) ?_
           try go_wp2
           go_roundg k2
           case measure => have := HJ2.out; have := HK2.out; omega
           case rel => exact ⟨(wrap64 (ac + 1)), (by first | rfl | (simp; done) | (simp [*]; done)), H', ⟨by have := HJ2.out; have := HK2.out; omega⟩, ⟨TK⟩, ⟨TK⟩, ⟨TB⟩⟩
       ·replace c38 := Bool.eq_false_iff.mpr c38
        subst c38
        replace H := ifF H
        replace H := bE H
        obtain ⟨t262, A61, H⟩ := H
        by_cases c62 : t262 = true
        ·subst c62
         replace H := ifT H
         have H' := aM H
         clear H
         try go_wp2_with (first | ((with_reducible refine gate_callee (f := 89) rfl ?_); refine gL (some 44) Try.func89 #[.agg #[.int .i64 af, .slice ap al.length an], .agg #[.int .i64 ak, .int .i64 aj, .int .i64 ai, .slice (some aq) ad.length ao], .int .i64 ac] ?_; (with_reducible refine (impl_Build_block.calls af (fun k_ => k_ < w.heap.size) _ _ al ak aj ai _ _ ad ac ar _ ?side1 ?side2 ?side3 A28.out).mono ?_); (case side1 => exact Kd.V_mk ax.out (Kd.F_below (Kd.C_F (Kd.heap_int .u8) ay.out) TB)); (case side2 => exact Kd.C_below au.out TB); (case side3 => exact av.out); rintro e w63 ⟨aE, rfl, ho0, hb⟩; refine ⟨_, rfl, ?_⟩; have ag := aM (Kd.V_lower (Kd.V_mono (ok' := fun k_ => k_ ≠ ah ∧ k_ ≠ gb248 ∧ k_ ≠ am) ho0 (fun k_ hk_ => ⟨Or.elim hk_ (fun hs_ => fun e_ => Nat.not_le.2 hs_ (by rw [e_]; exact GW247.out)) (fun hn_ => (Kd.freshB (g := ah) (o := .cells #[.int .i64 ak, .int .i64 aj, .int .i64 ai, .slice (some aq) ad.length ao] 28 (0, 0)) (by (with_reducible repeat (first | refine blk_drewN ?_ _ | refine blk_drew ?_ | refine blk_alloc ?_ _)); refine blk_far ?_ NB247_253.out _; (with_reducible repeat (first | refine blk_drewN ?_ _ | refine blk_drew ?_ | refine blk_alloc ?_ _)); refine blk_far ?_ NB247_253.out _; (with_reducible repeat (first | refine blk_drewN ?_ _ | refine blk_drew ?_ | refine blk_alloc ?_ _)); exact ab.out) k_ hn_)), Or.elim hk_ (fun hs_ => fun e_ => Nat.not_le.2 hs_ (by rw [e_]; exact GW248.out)) (fun hn_ => (Kd.freshB (g := gb248) (o := .cells #[.int .i64 af, .slice ap al.length an] 31 (0, 0)) (by (with_reducible repeat (first | refine blk_drewN ?_ _ | refine blk_drew ?_ | refine blk_alloc ?_ _)); refine blk_far ?_ NB248_253.out _; (with_reducible repeat (first | refine blk_drewN ?_ _ | refine blk_drew ?_ | refine blk_alloc ?_ _)); refine blk_far ?_ NB248_253.out _; (with_reducible repeat (first | refine blk_drewN ?_ _ | refine blk_drew ?_ | refine blk_alloc ?_ _)); exact aa.out) k_ hn_)), Or.elim hk_ (fun hs_ => fun e_ => Nat.not_le.2 hs_ (by rw [e_]; exact GW253.out)) (fun hn_ => (Kd.freshB (g := am) (o := .cells #[.int .i64 ((rd_T48 ad ac).f0), .int .i64 ((rd_T48 ad ac).f1)] 48 (0, 0)) (by (with_reducible repeat (first | refine blk_drewN ?_ _ | refine blk_drew ?_ | refine blk_alloc ?_ _)); refine blk_put (cs := #[.int .i64 ((rd_T48 ad ac).f0), .int .i64 0]) ?_ 1 _ rfl; (with_reducible repeat (first | refine blk_drewN ?_ _ | refine blk_drew ?_ | refine blk_alloc ?_ _)); refine blk_put (cs := #[.int .i64 0, .int .i64 0]) ?_ 0 _ rfl; (with_reducible repeat (first | refine blk_drewN ?_ _ | refine blk_drew ?_ | refine blk_alloc ?_ _)); exact ae.out) k_ hn_))⟩)) (below_size TB)); replace ab := aM (blk_below (g := ah) (o := .cells #[.int .i64 ak, .int .i64 aj, .int .i64 ai, .slice (some aq) ad.length ao] 28 (0, 0)) (by (with_reducible repeat (first | refine blk_drewN ?_ _ | refine blk_drew ?_ | refine blk_alloc ?_ _)); refine blk_far ?_ NB247_253.out _; (with_reducible repeat (first | refine blk_drewN ?_ _ | refine blk_drew ?_ | refine blk_alloc ?_ _)); refine blk_far ?_ NB247_253.out _; (with_reducible repeat (first | refine blk_drewN ?_ _ | refine blk_drew ?_ | refine blk_alloc ?_ _)); exact ab.out) hb); replace aa := aM (blk_below (g := gb248) (o := .cells #[.int .i64 af, .slice ap al.length an] 31 (0, 0)) (by (with_reducible repeat (first | refine blk_drewN ?_ _ | refine blk_drew ?_ | refine blk_alloc ?_ _)); refine blk_far ?_ NB248_253.out _; (with_reducible repeat (first | refine blk_drewN ?_ _ | refine blk_drew ?_ | refine blk_alloc ?_ _)); refine blk_far ?_ NB248_253.out _; (with_reducible repeat (first | refine blk_drewN ?_ _ | refine blk_drew ?_ | refine blk_alloc ?_ _)); exact aa.out) hb); replace ae := aM (blk_below (g := am) (o := .cells #[.int .i64 ((rd_T48 ad ac).f0), .int .i64 ((rd_T48 ad ac).f1)] 48 (0, 0)) (by (with_reducible repeat (first | refine blk_drewN ?_ _ | refine blk_drew ?_ | refine blk_alloc ?_ _)); refine blk_put (cs := #[.int .i64 ((rd_T48 ad ac).f0), .int .i64 0]) ?_ 1 _ rfl; (with_reducible repeat (first | refine blk_drewN ?_ _ | refine blk_drew ?_ | refine blk_alloc ?_ _)); refine blk_put (cs := #[.int .i64 0, .int .i64 0]) ?_ 0 _ rfl; (with_reducible repeat (first | refine blk_drewN ?_ _ | refine blk_drew ?_ | refine blk_alloc ?_ _)); exact ae.out) hb); replace HB := aM (below_step TB hb); clear ho0 hb))
         replace ag := aM (Kd.V_drew ag.out)
         replace ab := aM (blk_drew ab.out)
         replace aa := aM (blk_drew aa.out)
         replace ae := aM (blk_drew ae.out)
         replace HB := aM (below_drew1 HB.out)
         refine start_ (n := 21) (S := fun w' => w'.cell? ⟨gb248, 0, none⟩ = some (.int .i64 af) ∧ w'.cell? ⟨gb248, 1, none⟩ = some (.slice ap al.length an)) (ds := []) (Array.replicate 21 false) (by kernel_rfl) rfl rfl (cz2 aa.out) (fun hHeld => ?_); refine with_tabW impl_BuildOk.tab7 impl_BuildOk.bits7 (fun HT_ HW_ => ?_)
         generalize w63.drew = w64 at ag ab aa ae HB hHeld ⊢
         refine pP 0 (some 45) ?_
         refine pP 2 (some 47) ?_
         refine pT 1 (some 46) ?_
         refine pO 3 (some 48) (fun K hK => ?_)
         refine gG Try.func37 #[.int .i64 af, .int .i64 ac] ?_
         with_reducible refine (impl_InSet.calls af ac false _ A29.out).mono ?_
         rintro e w' ⟨rfl, ⟨nd, rfl⟩⟩
         refine ⟨_, rfl, ?_⟩
         refine hK.out _ _ (cz2 aa.out) (fun hHeld => ?_)
         clear hK K
         refine nR ?_
         refine pP 4 (some 49) ?_
         refine pX 5 (some 50) ?_
         refine pX 6 (some 51) ?_
         refine pX 7 (some 52) ?_
         refine pX 8 (some 53) ?_
         refine pP 9 (some 54) ?_
         refine pP 10 (some 55) ?_
         refine pP 11 (some 56) ?_
         refine pP 13 (some 58) ?_
         refine pT 12 (some 57) ?_
         refine pO 14 (some 59) (fun K hK => ?_)
         refine gG Try.func37 #[.int .i64 af, .int .i64 ac] ?_
         with_reducible refine (impl_InSet.calls af ac true _ A61.out).mono ?_
         rintro e w' ⟨rfl, ⟨nd, rfl⟩⟩
         refine ⟨_, rfl, ?_⟩
         refine hK.out _ _ (cz2 aa.out) (fun hHeld => ?_)
         clear hK K
         refine nR ?_
         refine pP 15 (some 60) ?_
         refine pP 16 (some 61) ?_
         refine pX 17 (some 62) ?_
         refine pX 18 (some 63) ?_
         refine pP 19 (some 64) ?_
         refine pP 20 (some 65) ?_
         refine done_ (done_of HT_.out (by kernel_rfl)) ?_
         try go_wp2
         go_roundg k2
         case measure => have := HJ2.out; have := HK2.out; omega
         case rel => exact ⟨(wrap64 (ac + 1)), (by first | rfl | (simp; done) | (simp [*]; done)), H', ⟨by have := HJ2.out; have := HK2.out; omega⟩, ⟨TK⟩, ⟨TK⟩, ⟨TB⟩⟩
        ·replace c62 := Bool.eq_false_iff.mpr c62
         subst c62
         replace H := ifF H
         replace H := bE H
         obtain ⟨t263, A65, H⟩ := H
         by_cases c66 : t263 = true
         ·subst c66
          replace H := ifT H
          obtain rfl := Option.some.inj H
          try go_wp2_with (first | ((with_reducible refine gate_callee (f := 89) rfl ?_); refine gL (some 44) Try.func89 #[.agg #[.int .i64 af, .slice ap al.length an], .agg #[.int .i64 ak, .int .i64 aj, .int .i64 ai, .slice (some aq) ad.length ao], .int .i64 ac] ?_; (with_reducible refine (impl_Build_block.calls af (fun k_ => k_ < w.heap.size) _ _ al ak aj ai _ _ ad ac ar _ ?side1 ?side2 ?side3 A28.out).mono ?_); (case side1 => exact Kd.V_mk ax.out (Kd.F_below (Kd.C_F (Kd.heap_int .u8) ay.out) TB)); (case side2 => exact Kd.C_below au.out TB); (case side3 => exact av.out); rintro e w67 ⟨aE, rfl, ho0, hb⟩; refine ⟨_, rfl, ?_⟩; have ag := aM (Kd.V_lower (Kd.V_mono (ok' := fun k_ => k_ ≠ ah ∧ k_ ≠ gb248 ∧ k_ ≠ am) ho0 (fun k_ hk_ => ⟨Or.elim hk_ (fun hs_ => fun e_ => Nat.not_le.2 hs_ (by rw [e_]; exact GW247.out)) (fun hn_ => (Kd.freshB (g := ah) (o := .cells #[.int .i64 ak, .int .i64 aj, .int .i64 ai, .slice (some aq) ad.length ao] 28 (0, 0)) (by (with_reducible repeat (first | refine blk_drewN ?_ _ | refine blk_drew ?_ | refine blk_alloc ?_ _)); refine blk_far ?_ NB247_253.out _; (with_reducible repeat (first | refine blk_drewN ?_ _ | refine blk_drew ?_ | refine blk_alloc ?_ _)); refine blk_far ?_ NB247_253.out _; (with_reducible repeat (first | refine blk_drewN ?_ _ | refine blk_drew ?_ | refine blk_alloc ?_ _)); exact ab.out) k_ hn_)), Or.elim hk_ (fun hs_ => fun e_ => Nat.not_le.2 hs_ (by rw [e_]; exact GW248.out)) (fun hn_ => (Kd.freshB (g := gb248) (o := .cells #[.int .i64 af, .slice ap al.length an] 31 (0, 0)) (by (with_reducible repeat (first | refine blk_drewN ?_ _ | refine blk_drew ?_ | refine blk_alloc ?_ _)); refine blk_far ?_ NB248_253.out _; (with_reducible repeat (first | refine blk_drewN ?_ _ | refine blk_drew ?_ | refine blk_alloc ?_ _)); refine blk_far ?_ NB248_253.out _; (with_reducible repeat (first | refine blk_drewN ?_ _ | refine blk_drew ?_ | refine blk_alloc ?_ _)); exact aa.out) k_ hn_)), Or.elim hk_ (fun hs_ => fun e_ => Nat.not_le.2 hs_ (by rw [e_]; exact GW253.out)) (fun hn_ => (Kd.freshB (g := am) (o := .cells #[.int .i64 ((rd_T48 ad ac).f0), .int .i64 ((rd_T48 ad ac).f1)] 48 (0, 0)) (by (with_reducible repeat (first | refine blk_drewN ?_ _ | refine blk_drew ?_ | refine blk_alloc ?_ _)); refine blk_put (cs := #[.int .i64 ((rd_T48 ad ac).f0), .int .i64 0]) ?_ 1 _ rfl; (with_reducible repeat (first | refine blk_drewN ?_ _ | refine blk_drew ?_ | refine blk_alloc ?_ _)); refine blk_put (cs := #[.int .i64 0, .int .i64 0]) ?_ 0 _ rfl; (with_reducible repeat (first | refine blk_drewN ?_ _ | refine blk_drew ?_ | refine blk_alloc ?_ _)); exact ae.out) k_ hn_))⟩)) (below_size TB)); replace ab := aM (blk_below (g := ah) (o := .cells #[.int .i64 ak, .int .i64 aj, .int .i64 ai, .slice (some aq) ad.length ao] 28 (0, 0)) (by (with_reducible repeat (first | refine blk_drewN ?_ _ | refine blk_drew ?_ | refine blk_alloc ?_ _)); refine blk_far ?_ NB247_253.out _; (with_reducible repeat (first | refine blk_drewN ?_ _ | refine blk_drew ?_ | refine blk_alloc ?_ _)); refine blk_far ?_ NB247_253.out _; (with_reducible repeat (first | refine blk_drewN ?_ _ | refine blk_drew ?_ | refine blk_alloc ?_ _)); exact ab.out) hb); replace aa := aM (blk_below (g := gb248) (o := .cells #[.int .i64 af, .slice ap al.length an] 31 (0, 0)) (by (with_reducible repeat (first | refine blk_drewN ?_ _ | refine blk_drew ?_ | refine blk_alloc ?_ _)); refine blk_far ?_ NB248_253.out _; (with_reducible repeat (first | refine blk_drewN ?_ _ | refine blk_drew ?_ | refine blk_alloc ?_ _)); refine blk_far ?_ NB248_253.out _; (with_reducible repeat (first | refine blk_drewN ?_ _ | refine blk_drew ?_ | refine blk_alloc ?_ _)); exact aa.out) hb); replace ae := aM (blk_below (g := am) (o := .cells #[.int .i64 ((rd_T48 ad ac).f0), .int .i64 ((rd_T48 ad ac).f1)] 48 (0, 0)) (by (with_reducible repeat (first | refine blk_drewN ?_ _ | refine blk_drew ?_ | refine blk_alloc ?_ _)); refine blk_put (cs := #[.int .i64 ((rd_T48 ad ac).f0), .int .i64 0]) ?_ 1 _ rfl; (with_reducible repeat (first | refine blk_drewN ?_ _ | refine blk_drew ?_ | refine blk_alloc ?_ _)); refine blk_put (cs := #[.int .i64 0, .int .i64 0]) ?_ 0 _ rfl; (with_reducible repeat (first | refine blk_drewN ?_ _ | refine blk_drew ?_ | refine blk_alloc ?_ _)); exact ae.out) hb); replace HB := aM (below_step TB hb); clear ho0 hb))
          replace ag := aM (Kd.V_drew ag.out)
          replace ab := aM (blk_drew ab.out)
          replace aa := aM (blk_drew aa.out)
          replace ae := aM (blk_drew ae.out)
          replace HB := aM (below_drew1 HB.out)
          refine start_ (n := 21) (S := fun w' => w'.cell? ⟨gb248, 0, none⟩ = some (.int .i64 af) ∧ w'.cell? ⟨gb248, 1, none⟩ = some (.slice ap al.length an)) (ds := []) (Array.replicate 21 false) (by kernel_rfl) rfl rfl (cz2 aa.out) (fun hHeld => ?_); refine with_tabW impl_BuildOk.tab7 impl_BuildOk.bits7 (fun HT_ HW_ => ?_)
          generalize w67.drew = w68 at ag ab aa ae HB hHeld ⊢
          refine pP 0 (some 45) ?_
          refine pP 2 (some 47) ?_
          refine pT 1 (some 46) ?_
          refine pO 3 (some 48) (fun K hK => ?_)
          refine gG Try.func37 #[.int .i64 af, .int .i64 ac] ?_
          with_reducible refine (impl_InSet.calls af ac false _ A29.out).mono ?_
          rintro e w' ⟨rfl, ⟨nd, rfl⟩⟩
          refine ⟨_, rfl, ?_⟩
          refine hK.out _ _ (cz2 aa.out) (fun hHeld => ?_)
          clear hK K
          refine nR ?_
          refine pP 4 (some 49) ?_
          refine pX 5 (some 50) ?_
          refine pX 6 (some 51) ?_
          refine pX 7 (some 52) ?_
          refine pX 8 (some 53) ?_
          refine pP 9 (some 54) ?_
          refine pP 10 (some 55) ?_
          refine pP 11 (some 56) ?_
          refine pP 13 (some 58) ?_
          refine pT 12 (some 57) ?_
          refine pO 14 (some 59) (fun K hK => ?_)
          refine gG Try.func37 #[.int .i64 af, .int .i64 ac] ?_
          with_reducible refine (impl_InSet.calls af ac false _ A61.out).mono ?_
          rintro e w' ⟨rfl, ⟨nd, rfl⟩⟩
          refine ⟨_, rfl, ?_⟩
          obtain ⟨Ao69, co69, eo69⟩ := Kd.V_slice ag.out
          (first | subst eo69 | (injection eo69 with f1_ f2_ f3_; have f4_ := f1_.symm; have f5_ := f3_.symm; clear f1_ f2_ f3_; subst f4_; subst f5_))
          refine hK.out _ _ (cz2 aa.out) (fun hHeld => ?_)
          clear hK K
          refine nR ?_
          refine pP 15 (some 60) ?_
          refine pP 16 (some 61) ?_
          refine pP 17 (some 62) ?_
          refine pO 18 (some 63) (fun K hK => ?_)
          refine gG Try.func90 #[.slice Ao69 ar.length co69, .func (.func 91) #[] #[]] ?_
          with_reducible refine (slices_ContainsFunc_byte_byte.calls k2 _ _ ar  true _ ?side1 ?side2 A65.out).mono ?_
          (case side1 => have X_ := (Kd.V_reads' ag.out).2.2; exact TC)
          (case side2 => exact (Kd.V_reads' ag.out).2.1)
          rintro e w' ⟨rfl, ⟨nd, rfl⟩⟩
          refine ⟨_, rfl, ?_⟩
          refine hK.out _ _ (cz2 aa.out) (fun hHeld => ?_)
          clear hK K
          refine nR ?_
          refine pP 19 (some 64) ?_
          refine pP 20 (some 65) ?_
          refine done_ (done_of HT_.out (by kernel_rfl)) ?_
          try go_wp2
          go_ret
          exact ⟨by first | rfl | (simp [errW_none, errW_some] <;> rfl) | (simp [*, errW_none, errW_some] <;> rfl), TB⟩
         ·replace c66 := Bool.eq_false_iff.mpr c66
          subst c66
          replace H := ifF H
          have H' := aM H
          clear H
          try go_wp2_with (first | ((with_reducible refine gate_callee (f := 89) rfl ?_); refine gL (some 44) Try.func89 #[.agg #[.int .i64 af, .slice ap al.length an], .agg #[.int .i64 ak, .int .i64 aj, .int .i64 ai, .slice (some aq) ad.length ao], .int .i64 ac] ?_; (with_reducible refine (impl_Build_block.calls af (fun k_ => k_ < w.heap.size) _ _ al ak aj ai _ _ ad ac ar _ ?side1 ?side2 ?side3 A28.out).mono ?_); (case side1 => exact Kd.V_mk ax.out (Kd.F_below (Kd.C_F (Kd.heap_int .u8) ay.out) TB)); (case side2 => exact Kd.C_below au.out TB); (case side3 => exact av.out); rintro e w70 ⟨aE, rfl, ho0, hb⟩; refine ⟨_, rfl, ?_⟩; have ag := aM (Kd.V_lower (Kd.V_mono (ok' := fun k_ => k_ ≠ ah ∧ k_ ≠ gb248 ∧ k_ ≠ am) ho0 (fun k_ hk_ => ⟨Or.elim hk_ (fun hs_ => fun e_ => Nat.not_le.2 hs_ (by rw [e_]; exact GW247.out)) (fun hn_ => (Kd.freshB (g := ah) (o := .cells #[.int .i64 ak, .int .i64 aj, .int .i64 ai, .slice (some aq) ad.length ao] 28 (0, 0)) (by (with_reducible repeat (first | refine blk_drewN ?_ _ | refine blk_drew ?_ | refine blk_alloc ?_ _)); refine blk_far ?_ NB247_253.out _; (with_reducible repeat (first | refine blk_drewN ?_ _ | refine blk_drew ?_ | refine blk_alloc ?_ _)); refine blk_far ?_ NB247_253.out _; (with_reducible repeat (first | refine blk_drewN ?_ _ | refine blk_drew ?_ | refine blk_alloc ?_ _)); exact ab.out) k_ hn_)), Or.elim hk_ (fun hs_ => fun e_ => Nat.not_le.2 hs_ (by rw [e_]; exact GW248.out)) (fun hn_ => (Kd.freshB (g := gb248) (o := .cells #[.int .i64 af, .slice ap al.length an] 31 (0, 0)) (by (with_reducible repeat (first | refine blk_drewN ?_ _ | refine blk_drew ?_ | refine blk_alloc ?_ _)); refine blk_far ?_ NB248_253.out _; (with_reducible repeat (first | refine blk_drewN ?_ _ | refine blk_drew ?_ | refine blk_alloc ?_ _)); refine blk_far ?_ NB248_253.out _; (with_reducible repeat (first | refine blk_drewN ?_ _ | refine blk_drew ?_ | refine blk_alloc ?_ _)); exact aa.out) k_ hn_)), Or.elim hk_ (fun hs_ => fun e_ => Nat.not_le.2 hs_ (by rw [e_]; exact GW253.out)) (fun hn_ => (Kd.freshB (g := am) (o := .cells #[.int .i64 ((rd_T48 ad ac).f0), .int .i64 ((rd_T48 ad ac).f1)] 48 (0, 0)) (by (with_reducible repeat (first | refine blk_drewN ?_ _ | refine blk_drew ?_ | refine blk_alloc ?_ _)); refine blk_put (cs := #[.int .i64 ((rd_T48 ad ac).f0), .int .i64 0]) ?_ 1 _ rfl; (with_reducible repeat (first | refine blk_drewN ?_ _ | refine blk_drew ?_ | refine blk_alloc ?_ _)); refine blk_put (cs := #[.int .i64 0, .int .i64 0]) ?_ 0 _ rfl; (with_reducible repeat (first | refine blk_drewN ?_ _ | refine blk_drew ?_ | refine blk_alloc ?_ _)); exact ae.out) k_ hn_))⟩)) (below_size TB)); replace ab := aM (blk_below (g := ah) (o := .cells #[.int .i64 ak, .int .i64 aj, .int .i64 ai, .slice (some aq) ad.length ao] 28 (0, 0)) (by (with_reducible repeat (first | refine blk_drewN ?_ _ | refine blk_drew ?_ | refine blk_alloc ?_ _)); refine blk_far ?_ NB247_253.out _; (with_reducible repeat (first | refine blk_drewN ?_ _ | refine blk_drew ?_ | refine blk_alloc ?_ _)); refine blk_far ?_ NB247_253.out _; (with_reducible repeat (first | refine blk_drewN ?_ _ | refine blk_drew ?_ | refine blk_alloc ?_ _)); exact ab.out) hb); replace aa := aM (blk_below (g := gb248) (o := .cells #[.int .i64 af, .slice ap al.length an] 31 (0, 0)) (by (with_reducible repeat (first | refine blk_drewN ?_ _ | refine blk_drew ?_ | refine blk_alloc ?_ _)); refine blk_far ?_ NB248_253.out _; (with_reducible repeat (first | refine blk_drewN ?_ _ | refine blk_drew ?_ | refine blk_alloc ?_ _)); refine blk_far ?_ NB248_253.out _; (with_reducible repeat (first | refine blk_drewN ?_ _ | refine blk_drew ?_ | refine blk_alloc ?_ _)); exact aa.out) hb); replace ae := aM (blk_below (g := am) (o := .cells #[.int .i64 ((rd_T48 ad ac).f0), .int .i64 ((rd_T48 ad ac).f1)] 48 (0, 0)) (by (with_reducible repeat (first | refine blk_drewN ?_ _ | refine blk_drew ?_ | refine blk_alloc ?_ _)); refine blk_put (cs := #[.int .i64 ((rd_T48 ad ac).f0), .int .i64 0]) ?_ 1 _ rfl; (with_reducible repeat (first | refine blk_drewN ?_ _ | refine blk_drew ?_ | refine blk_alloc ?_ _)); refine blk_put (cs := #[.int .i64 0, .int .i64 0]) ?_ 0 _ rfl; (with_reducible repeat (first | refine blk_drewN ?_ _ | refine blk_drew ?_ | refine blk_alloc ?_ _)); exact ae.out) hb); replace HB := aM (below_step TB hb); clear ho0 hb))
          replace ag := aM (Kd.V_drew ag.out)
          replace ab := aM (blk_drew ab.out)
          replace aa := aM (blk_drew aa.out)
          replace ae := aM (blk_drew ae.out)
          replace HB := aM (below_drew1 HB.out)
          refine start_ (n := 21) (S := fun w' => w'.cell? ⟨gb248, 0, none⟩ = some (.int .i64 af) ∧ w'.cell? ⟨gb248, 1, none⟩ = some (.slice ap al.length an)) (ds := []) (Array.replicate 21 false) (by kernel_rfl) rfl rfl (cz2 aa.out) (fun hHeld => ?_); refine with_tabW impl_BuildOk.tab7 impl_BuildOk.bits7 (fun HT_ HW_ => ?_)
          generalize w70.drew = w71 at ag ab aa ae HB hHeld ⊢
          refine pP 0 (some 45) ?_
          refine pP 2 (some 47) ?_
          refine pT 1 (some 46) ?_
          refine pO 3 (some 48) (fun K hK => ?_)
          refine gG Try.func37 #[.int .i64 af, .int .i64 ac] ?_
          with_reducible refine (impl_InSet.calls af ac false _ A29.out).mono ?_
          rintro e w' ⟨rfl, ⟨nd, rfl⟩⟩
          refine ⟨_, rfl, ?_⟩
          refine hK.out _ _ (cz2 aa.out) (fun hHeld => ?_)
          clear hK K
          refine nR ?_
          refine pP 4 (some 49) ?_
          refine pX 5 (some 50) ?_
          refine pX 6 (some 51) ?_
          refine pX 7 (some 52) ?_
          refine pX 8 (some 53) ?_
          refine pP 9 (some 54) ?_
          refine pP 10 (some 55) ?_
          refine pP 11 (some 56) ?_
          refine pP 13 (some 58) ?_
          refine pT 12 (some 57) ?_
          refine pO 14 (some 59) (fun K hK => ?_)
          refine gG Try.func37 #[.int .i64 af, .int .i64 ac] ?_
          with_reducible refine (impl_InSet.calls af ac false _ A61.out).mono ?_
          rintro e w' ⟨rfl, ⟨nd, rfl⟩⟩
          refine ⟨_, rfl, ?_⟩
          obtain ⟨Ao72, co72, eo72⟩ := Kd.V_slice ag.out
          (first | subst eo72 | (injection eo72 with f1_ f2_ f3_; have f4_ := f1_.symm; have f5_ := f3_.symm; clear f1_ f2_ f3_; subst f4_; subst f5_))
          refine hK.out _ _ (cz2 aa.out) (fun hHeld => ?_)
          clear hK K
          refine nR ?_
          refine pP 15 (some 60) ?_
          refine pP 16 (some 61) ?_
          refine pP 17 (some 62) ?_
          refine pO 18 (some 63) (fun K hK => ?_)
          refine gG Try.func90 #[.slice Ao72 ar.length co72, .func (.func 91) #[] #[]] ?_
          with_reducible refine (slices_ContainsFunc_byte_byte.calls k2 _ _ ar  false _ ?side1 ?side2 A65.out).mono ?_
          (case side1 => have X_ := (Kd.V_reads' ag.out).2.2; exact TC)
          (case side2 => exact (Kd.V_reads' ag.out).2.1)
          rintro e w' ⟨rfl, ⟨nd, rfl⟩⟩
          refine ⟨_, rfl, ?_⟩
          refine hK.out _ _ (cz2 aa.out) (fun hHeld => ?_)
          clear hK K
          refine nR ?_
          refine pP 19 (some 64) ?_
          refine pP 20 (some 65) ?_
          refine done_ (done_of HT_.out (by kernel_rfl)) ?_
          try go_wp2
          go_roundg k2
          case measure => have := HJ2.out; have := HK2.out; omega
          case rel => exact ⟨(wrap64 (ac + 1)), (by first | rfl | (simp; done) | (simp [*]; done)), H', ⟨by have := HJ2.out; have := HK2.out; omega⟩, ⟨TK⟩, ⟨TK⟩, ⟨TB⟩⟩
      ·rw [if_neg c25] at H
       have c25b0 : decide (ac < (ad.length : Int)) = false := decide_eq_false c25
       clear c25
       obtain rfl := Option.some.inj H
       go_wp2
       go_ret
       exact ⟨by first | rfl | (simp [errW_none, errW_some] <;> rfl) | (simp [*, errW_none, errW_some] <;> rfl), TB⟩

end Go.Proofs.Ytfkndpjbkndhcaa.Q
