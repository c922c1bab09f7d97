/- Functions of the program as plain Lean functions, and that a call of each comes to what its function tells. Written by a program of this seat. -/
import Derived.Test.YtogilihkphjjbaaQ0
import Derived.Test.YtogilihkphjjbaaQ11
import Derived.Test.YtogilihkphjjbaaQ37
namespace Go.Proofs.Ytogilihkphjjbaa.Q
open Go.RowKit Go.Proofs.YtogilihkphjjbaaW.PrintWords Go.Proofs.YtogilihkphjjbaaW.PrintLast Go.Proofs.YtogilihkphjjbaaW.PrintMore
attribute [local go_sem] max2_int min2_int max_two min_two max_three min_three max_four min_four   -- for this text's walks alone
set_option linter.unusedVariables false
set_option linter.unusedSimpArgs false

/-! ### impl_copyDisk: function 78 -/
def impl_copyDisk.l0 : Nat → List (S55) → Int → Int → List Int → List Int → Int → Int → Int → List (S55) → Option (List Int × List Int × Int × Int × Int × (List (S55)))
  | 0, _, _, _, _, _, _, _, _, _ => none
  | k + 1, x16, x17, x18, x621000, x621001, x621002, x621003, x621004, x621005 => if x18 < x17 then (if 0 ≤ x18 then (if x18 < (x16.length : Int) then ((impl_copyPut.f ((rd_T55 x16 x18).f0) ((rd_T55 x16 x18).f1) ((rd_T55 x16 x18).f2) ((rd_T55 x16 x18).f3.f0) ((rd_T55 x16 x18).f3.f1) ((rd_T55 x16 x18).f3.f2)).bind fun bt623 => (if x621005.length < 2199023255552 then (impl_copyDisk.l0 k x16 x17 (wrap64 (x18 + 1)) x621000 x621001 x621002 x621003 x621004 (x621005 ++ [(⟨bt623.1, bt623.2.1, bt623.2.2.1, (⟨bt623.2.2.2.1, bt623.2.2.2.2.1, bt623.2.2.2.2.2⟩ : S30)⟩ : S55)])) else (none))) else (none)) else (none)) else (some (x621000, x621001, x621002, x621003, x621004, x621005))
def impl_copyDisk.f (k : Nat) (l0_0 : List Int) (l0_1 : List Int) (a0_2 : Int) (a0_3 : Int) (a0_4 : Int) (l0_5 : List (S55)) : Option (List Int × List Int × Int × Int × Int × (List (S55))) := (impl_cloned.f l0_0).bind fun t614 => ((impl_cloned.f l0_1).bind fun t617 => (impl_copyDisk.l0 k l0_5 (l0_5.length : Int) 0 t614 t617 a0_2 a0_3 a0_4 ([] : List (S55))))
theorem impl_copyDisk.mono_l : ∀ k, (∀ y0 y1 y2 y3 y4 y5 y6 y7 y8, LeO (impl_copyDisk.l0 k y0 y1 y2 y3 y4 y5 y6 y7 y8) (impl_copyDisk.l0 (k + 1) y0 y1 y2 y3 y4 y5 y6 y7 y8))
  | 0 => fun _ _ _ _ _ _ _ _ _ r h => by simp [impl_copyDisk.l0] at h
  | k + 1 => by
    have ih0 := impl_copyDisk.mono_l k
    · intro y0 y1 y2 y3 y4 y5 y6 y7 y8
      unfold impl_copyDisk.l0
      exact LM
theorem impl_copyDisk.mono : ∀ a0 a1 a2 a3 a4 a5 k, LeO (impl_copyDisk.f k a0 a1 a2 a3 a4 a5) (impl_copyDisk.f (k + 1) a0 a1 a2 a3 a4 a5) := by
  intro a0 a1 a2 a3 a4 a5 k
  have ih0 := impl_copyDisk.mono_l k
  unfold impl_copyDisk.f
  exact LM
def impl_copyDisk.T1 : Bool × List (List Nat × List Nat) := (true, [([], []), ([0], [0]), ([1], [1]), ([], []), ([3], [3]), ([4, 2], [4]), ([], []), ([6], [6]), ([2, 5, 7], [2, 5, 7]), ([], []), ([9, 8, 5, 0, 1, 2, 3, 4, 5, 6, 7, 8, 9], [8, 9])])
def impl_copyDisk.B1 : List Nat := [0, 1, 3, 0, 8, 31, 0, 64, 255, 0, 1023]
theorem impl_copyDisk.tab1 : rtab .any (opsOf Try.f78 1) = impl_copyDisk.T1 := by kernel_rfl
theorem impl_copyDisk.bits1 : waitsOk impl_copyDisk.T1.2 impl_copyDisk.B1 = true := by kernel_rfl
def impl_copyDisk.T5 : Bool × List (List Nat × List Nat) := (true, [([], []), ([0], [0]), ([], []), ([2], [2]), ([3], [3]), ([1, 4, 3], [1, 4]), ([0, 1, 2, 3, 4, 5], []), ([6, 5, 5, 0, 1, 2, 3, 4, 5], [5, 6])])
def impl_copyDisk.B5 : List Nat := [0, 1, 0, 4, 12, 31, 63, 127]
theorem impl_copyDisk.tab5 : rtab .any (opsOf Try.f78 5) = impl_copyDisk.T5 := by kernel_rfl
theorem impl_copyDisk.bits5 : waitsOk impl_copyDisk.T5.2 impl_copyDisk.B5 = true := by kernel_rfl
set_option maxHeartbeats 40000000 in
set_option maxRecDepth 100000 in
theorem impl_copyDisk.calls (k : Nat) (A0_0 : Option Addr) (c0_0 : Nat) (l0_0 : List Int) (A0_1 : Option Addr) (c0_1 : Nat) (l0_1 : List Int) (a0_2 : Int) (a0_3 : Int) (a0_4 : Int) (A0_5 : Option Addr) (c0_5 : Nat) (l0_5 : List (S55)) (r1 : List Int) (r2 : List Int) (r3 : Int) (r4 : Int) (r5 : Int) (r6 : List (S55)) (w : World) (hr0_0 : Kd.C (Kd.int .u8) w A0_0 l0_0.length l0_0) (hc0_0 : l0_0.length ≤ c0_0) (hr0_1 : Kd.C (Kd.int .u8) w A0_1 l0_1.length l0_1) (hc0_1 : l0_1.length ≤ c0_1) (hr0_5 : Kd.C k55 w A0_5 l0_5.length l0_5) (hc0_5 : l0_5.length ≤ c0_5) (h : impl_copyDisk.f k l0_0 l0_1 a0_2 a0_3 a0_4 l0_5 = some (r1, r2, r3, r4, r5, r6)) :
    Calls Try.prog 78 #[.agg #[.slice A0_0 l0_0.length c0_0, .slice A0_1 l0_1.length c0_1, .int .i64 a0_2, .int .i64 a0_3, .int .i64 a0_4, .slice A0_5 l0_5.length c0_5]] w fun e w' => ∃ v0_ v1_ v5_ : Value, e = .returned (.agg #[v0_, v1_, .int .i64 r3, .int .i64 r4, .int .i64 r5, v5_]) ∧ Kd.R (Kd.int .u8) 5 w' w.heap.size (fun k_ => some k_ ≠ (v1_ : Value).ownBlock) v0_ r1 ∧ Kd.R (Kd.int .u8) 5 w' w.heap.size (fun k_ => some k_ ≠ (v0_ : Value).ownBlock) v1_ r2 ∧ Kd.S k55 55 w' w.heap.size (fun k_ => some k_ ≠ (v0_ : Value).ownBlock ∧ some k_ ≠ (v1_ : Value).ownBlock) v5_ r6 ∧ Below w.heap.size w w' := by
  have hu33 := Try.underlying33
  have hu30 := Try.underlying30
  have hu55 := Try.underlying55
  have HR0_0 := aM hr0_0
  have HC0_0 := aM hc0_0
  clear hr0_0 hc0_0
  have HR0_1 := aM hr0_1
  have HC0_1 := aM hc0_1
  clear hr0_1 hc0_1
  have HR0_5 := aM hr0_5
  have HC0_5 := aM hc0_5
  clear hr0_5 hc0_5
  have HB := aM (Below.refl w.heap.size w)
  have H := h
  clear h
  unfold impl_copyDisk.f at H
  replace H := bE H
  obtain ⟨t614, A2, H⟩ := H
  replace H := bE H
  obtain ⟨t617, A3, H⟩ := H
  have H' := aM H
  clear H
  go_enter Try.func78, Try.ntmps78
  try go_wp2_with (first | ((with_reducible refine gate_dst (N := 1) rfl ?_); refine gBx 1 #[.slice A0_0 l0_0.length c0_0, .slice A0_1 l0_1.length c0_1, .int .i64 a0_2, .int .i64 a0_3, .int .i64 a0_4, .slice A0_5 l0_5.length c0_5] 33 ?_; intro gb612 hg w4 hbox hb; have BK612 := aM (hbox); have GW612 := aM ((by rw [hg]; exact (below_size TB) : w.heap.size ≤ gb612)); have GE612 := aM ((by rw [hg]; exact (below_size TB) : w.heap.size ≤ gb612)); replace HB := aM (below_step TB hb); clear hb hbox hg) | ((with_reducible refine gate_dst (N := 2) rfl ?_); refine gBx 2 #[.slice none 0 0, .slice none 0 0, .int .i64 0, .int .i64 0, .int .i64 0, .slice none 0 0] 33 ?_; intro gb613 hg w5 hbox hb; have BK613 := aM (hbox); have GW613 := aM ((by rw [hg]; exact (below_size TB) : w.heap.size ≤ gb613)); have GE613 := aM ((by rw [hg]; exact (below_size TB) : w.heap.size ≤ gb613)); have NB612_613 := aM ((by rw [hg]; exact Nat.ne_of_lt (blk_lt (g := gb612) (o := .cells #[.slice A0_0 l0_0.length c0_0, .slice A0_1 l0_1.length c0_1, .int .i64 a0_2, .int .i64 a0_3, .int .i64 a0_4, .slice A0_5 l0_5.length c0_5] 33 (0, 0)) TK) : gb612 ≠ gb613)); have NB613_612 := aM ((by rw [hg]; exact Nat.ne_of_gt (blk_lt (g := gb612) (o := .cells #[.slice A0_0 l0_0.length c0_0, .slice A0_1 l0_1.length c0_1, .int .i64 a0_2, .int .i64 a0_3, .int .i64 a0_4, .slice A0_5 l0_5.length c0_5] 33 (0, 0)) TK) : gb613 ≠ gb612)); replace BK612 := aM (blk_below (g := gb612) (o := .cells #[.slice A0_0 l0_0.length c0_0, .slice A0_1 l0_1.length c0_1, .int .i64 a0_2, .int .i64 a0_3, .int .i64 a0_4, .slice A0_5 l0_5.length c0_5] 33 (0, 0)) TK hb); replace HB := aM (below_step TB hb); clear hb hbox hg))
  replace BK612 := aM (blk_drew BK612.out)
  replace BK613 := aM (blk_drew BK613.out)
  replace HB := aM (below_drew1 HB.out)
  refine start_ (n := 11) (S := fun w' => w'.cell? ⟨gb612, 0, none⟩ = some (.slice A0_0 l0_0.length c0_0) ∧ w'.cell? ⟨gb612, 1, none⟩ = some (.slice A0_1 l0_1.length c0_1) ∧ w'.cell? ⟨gb612, 2, none⟩ = some (.int .i64 a0_2) ∧ w'.cell? ⟨gb612, 3, none⟩ = some (.int .i64 a0_3) ∧ w'.cell? ⟨gb612, 4, none⟩ = some (.int .i64 a0_4) ∧ w'.cell? ⟨gb612, 5, none⟩ = some (.slice A0_5 l0_5.length c0_5)) (ds := []) #[false, false, false, false, false, false, false, false, false, false, false] (by kernel_rfl) rfl rfl (cz6 BK612.out) (fun hHeld => ?_); refine with_tabW impl_copyDisk.tab1 impl_copyDisk.bits1 (fun HT_ HW_ => ?_)
  generalize w5.drew = w6 at BK612 BK613 HB hHeld ⊢
  refine pPe 0 (some 6) #[true, false, false, false, false, false, false, false, false, false, false] ?_
  refine pPe 3 (some 9) #[true, false, false, true, false, false, false, false, false, false, false] ?_
  refine pPe 6 (some 12) #[true, false, false, true, false, false, true, false, false, false, false] ?_
  refine pTe 1 (some 7) #[true, true, false, true, false, false, true, false, false, false, false] ?_
  refine pTe 4 (some 10) #[true, true, false, true, true, false, true, false, false, false, false] ?_
  refine pTe 7 (some 13) #[true, true, false, true, true, false, true, true, false, false, false] ?_
  refine join_ (σ := Value × Value × Nat) 1 #[true, true, true, true, true, true, true, true, true, true, false] (fun s_ => [(8, s_.1), (11, s_.2.1), (3, .pointer (some ⟨s_.2.2, 0, none⟩)), (14, .agg #[s_.1, s_.2.1, .int .i64 a0_2, .int .i64 a0_3, .int .i64 a0_4, .slice none 0 0])]) (fun s_ w' => (w'.cell? ⟨gb612, 0, none⟩ = some (.slice A0_0 l0_0.length c0_0) ∧ w'.cell? ⟨gb612, 1, none⟩ = some (.slice A0_1 l0_1.length c0_1) ∧ w'.cell? ⟨gb612, 2, none⟩ = some (.int .i64 a0_2) ∧ w'.cell? ⟨gb612, 3, none⟩ = some (.int .i64 a0_3) ∧ w'.cell? ⟨gb612, 4, none⟩ = some (.int .i64 a0_4) ∧ w'.cell? ⟨gb612, 5, none⟩ = some (.slice A0_5 l0_5.length c0_5)) ∧ (Kd.R (Kd.int .u8) 5 w' w.heap.size (fun k_ => some k_ ≠ (s_.2.1 : Value).ownBlock) s_.1 t614) ∧ (Kd.R (Kd.int .u8) 5 w' w.heap.size (fun k_ => some k_ ≠ (s_.1 : Value).ownBlock) s_.2.1 t617) ∧ (w'.heap[gb612]? = some (.cells #[.slice A0_0 l0_0.length c0_0, .slice A0_1 l0_1.length c0_1, .int .i64 a0_2, .int .i64 a0_3, .int .i64 a0_4, .slice A0_5 l0_5.length c0_5] 33 (0, 0))) ∧ (w'.heap[gb613]? = some (.cells #[.slice none 0 0, .slice none 0 0, .int .i64 0, .int .i64 0, .int .i64 0, .slice none 0 0] 33 (0, 0))) ∧ (w'.heap[s_.2.2]? = some (.cells #[.slice none 0 0, .slice none 0 0, .int .i64 0, .int .i64 0, .int .i64 0, .slice none 0 0] 33 (0, 0))) ∧ (w.heap.size ≤ s_.2.2) ∧ (w.heap.size ≤ s_.2.2) ∧ (gb612 ≠ s_.2.2) ∧ (s_.2.2 ≠ gb612) ∧ (gb613 ≠ s_.2.2) ∧ (s_.2.2 ≠ gb613) ∧ (Below w.heap.size w w')) ?_ ?_
  rotate_left
  · intro hCont
    refine two_ (i := 2) (j := 9) (Ni := some 8) (Nj := some 3) #[true, true, true, true, true, false, true, true, false, false, false] #[true, true, false, true, true, false, true, true, false, true, false] rfl rfl rfl rfl (two_of HT_.out (by kernel_rfl)) (by decide) (by decide) (fun K hK => ?_) (fun K hK => ?_)
    · skip
      refine gG Try.func63 #[.slice A0_0 l0_0.length c0_0] ?_
      with_reducible refine (impl_cloned.calls _ _ l0_0 t614 _ ?side1 ?side2 A2.out).mono ?_
      (case side1 => have X_ := (Kd.C_below HR0_0.out HB.out); exact TC)
      (case side2 => exact HC0_0.out)
      rintro e w7 ⟨v615, rfl, ho0, hb⟩
      refine ⟨_, rfl, ?_⟩
      have n0_ := aM (Kd.R_lower ho0 (below_size TB))
      have n1_ := aM (blk_below (g := gb612) (o := .cells #[.slice A0_0 l0_0.length c0_0, .slice A0_1 l0_1.length c0_1, .int .i64 a0_2, .int .i64 a0_3, .int .i64 a0_4, .slice A0_5 l0_5.length c0_5] 33 (0, 0)) TK hb)
      have n2_ := aM (blk_below (g := gb613) (o := .cells #[.slice none 0 0, .slice none 0 0, .int .i64 0, .int .i64 0, .int .i64 0, .slice none 0 0] 33 (0, 0)) TK hb)
      have n3_ := aM (below_step TB hb)
      clear BK612
      clear BK613
      clear HB
      have HO616 := n0_
      have BK612 := n1_
      have BK613 := n2_
      have HB := n3_
      clear n0_ n1_ n2_ n3_
      (try clear hb)
      (try clear hb2)
      (try clear hk)
      (try clear hi)
      (try clear ho0)
      refine hK.out _ _ (cz6 BK612.out) (fun hHeld => ?_)
      clear hK K
      refine nR ?_
      refine two_ (i := 5) (j := 9) (Ni := some 11) (Nj := some 3) #[true, true, true, true, true, true, true, true, false, false, false] #[true, true, true, true, true, false, true, true, false, true, false] rfl rfl rfl rfl (two_of HT_.out (by kernel_rfl)) (by decide) (by decide) (fun K hK => ?_) (fun K hK => ?_)
      · skip
        refine gG Try.func63 #[.slice A0_1 l0_1.length c0_1] ?_
        with_reducible refine (impl_cloned.calls _ _ l0_1 t617 _ ?side1 ?side2 A3.out).mono ?_
        (case side1 => have X_ := (Kd.C_below HR0_1.out HB.out); exact TC)
        (case side2 => exact HC0_1.out)
        rintro e w8 ⟨v618, rfl, ho0, hb⟩
        refine ⟨_, rfl, ?_⟩
        have n0_ := aM (Kd.R_elder' (by have X_ := HO616.out; exact TR) (Kd.R_base ho0) hb)
        have n1_ := aM (Kd.R_lower (Kd.R_new' ho0 (Kd.R_lt (by have X_ := HO616.out; exact TR))) (below_size TB))
        have n2_ := aM (blk_below (g := gb612) (o := .cells #[.slice A0_0 l0_0.length c0_0, .slice A0_1 l0_1.length c0_1, .int .i64 a0_2, .int .i64 a0_3, .int .i64 a0_4, .slice A0_5 l0_5.length c0_5] 33 (0, 0)) TK hb)
        have n3_ := aM (blk_below (g := gb613) (o := .cells #[.slice none 0 0, .slice none 0 0, .int .i64 0, .int .i64 0, .int .i64 0, .slice none 0 0] 33 (0, 0)) TK hb)
        have n4_ := aM (below_step TB hb)
        clear HO616
        clear BK612
        clear BK613
        clear HB
        have HO616 := n0_
        have HO619 := n1_
        have BK612 := n2_
        have BK613 := n3_
        have HB := n4_
        clear n0_ n1_ n2_ n3_ n4_
        (try clear hb)
        (try clear hb2)
        (try clear hk)
        (try clear hi)
        (try clear ho0)
        obtain ⟨Ao9, co9, eo9⟩ := Kd.R_slice HO619.out
        (first | subst eo9 | (injection eo9 with f1_ f2_ f3_; have f4_ := f1_.symm; have f5_ := f3_.symm; clear f1_ f2_ f3_; subst f4_; subst f5_))
        obtain ⟨Ao10, co10, eo10⟩ := Kd.R_slice HO616.out
        (first | subst eo10 | (injection eo10 with f1_ f2_ f3_; have f4_ := f1_.symm; have f5_ := f3_.symm; clear f1_ f2_ f3_; subst f4_; subst f5_))
        refine hK.out _ _ (cz6 BK612.out) (fun hHeld => ?_)
        clear hK K
        refine nR ?_
        refine pPe 8 (some 14) #[true, true, true, true, true, true, true, true, true, false, false] ?_
        refine pOe 9 (some 3) #[true, true, true, true, true, true, true, true, true, true, false] (fun K hK => ?_)
        refine box_step ?hg (N := 3) ?hd (cs := #[.slice none 0 0, .slice none 0 0, .int .i64 0, .int .i64 0, .int .i64 0, .slice none 0 0]) (t := 33) ?hr ?_; (case hd => rfl); (case hg => rfl); (case hr => first | (go_simp; done) | (go_simp; rfl))
        intro gb620 hg w11 hbox hb
        have n0_ := aM (Kd.R_below (by have X_ := HO616.out; exact TR) hb)
        have n1_ := aM (Kd.R_below (by have X_ := HO619.out; exact TR) hb)
        have n2_ := aM (blk_below (g := gb612) (o := .cells #[.slice A0_0 l0_0.length c0_0, .slice A0_1 l0_1.length c0_1, .int .i64 a0_2, .int .i64 a0_3, .int .i64 a0_4, .slice A0_5 l0_5.length c0_5] 33 (0, 0)) TK hb)
        have n3_ := aM (blk_below (g := gb613) (o := .cells #[.slice none 0 0, .slice none 0 0, .int .i64 0, .int .i64 0, .int .i64 0, .slice none 0 0] 33 (0, 0)) TK hb)
        have n4_ := aM (below_step TB hb)
        have n5_ := aM (hbox)
        have n6_ := aM ((by rw [hg]; exact (below_size TB) : w.heap.size ≤ gb620))
        have n7_ := aM ((by rw [hg]; exact (below_size TB) : w.heap.size ≤ gb620))
        have n8_ := aM ((by rw [hg]; exact Nat.ne_of_lt (blk_lt (g := gb612) (o := .cells #[.slice A0_0 l0_0.length c0_0, .slice A0_1 l0_1.length c0_1, .int .i64 a0_2, .int .i64 a0_3, .int .i64 a0_4, .slice A0_5 l0_5.length c0_5] 33 (0, 0)) TK) : gb612 ≠ gb620))
        have n9_ := aM ((by rw [hg]; exact Nat.ne_of_gt (blk_lt (g := gb612) (o := .cells #[.slice A0_0 l0_0.length c0_0, .slice A0_1 l0_1.length c0_1, .int .i64 a0_2, .int .i64 a0_3, .int .i64 a0_4, .slice A0_5 l0_5.length c0_5] 33 (0, 0)) TK) : gb620 ≠ gb612))
        have n10_ := aM ((by rw [hg]; exact Nat.ne_of_lt (blk_lt (g := gb613) (o := .cells #[.slice none 0 0, .slice none 0 0, .int .i64 0, .int .i64 0, .int .i64 0, .slice none 0 0] 33 (0, 0)) TK) : gb613 ≠ gb620))
        have n11_ := aM ((by rw [hg]; exact Nat.ne_of_gt (blk_lt (g := gb613) (o := .cells #[.slice none 0 0, .slice none 0 0, .int .i64 0, .int .i64 0, .int .i64 0, .slice none 0 0] 33 (0, 0)) TK) : gb620 ≠ gb613))
        clear HO616
        clear HO619
        clear BK612
        clear BK613
        clear HB
        have HO616 := n0_
        have HO619 := n1_
        have BK612 := n2_
        have BK613 := n3_
        have HB := n4_
        have BK620 := n5_
        have GW620 := n6_
        have GE620 := n7_
        have NB612_620 := n8_
        have NB620_612 := n9_
        have NB613_620 := n10_
        have NB620_613 := n11_
        clear n0_ n1_ n2_ n3_ n4_ n5_ n6_ n7_ n8_ n9_ n10_ n11_
        clear hb hbox hg
        refine hK.out _ _ (cz6 BK612.out) (fun hHeld => ?_)
        clear hK K
        refine nR ?_
        exact norm_ (by simp only [putAll, Act.put, List.setIfInBounds_toArray, List.set_cons_zero, List.set_cons_succ]) (hCont (.slice Ao10 t614.length co10, .slice Ao9 t617.length co9, gb620) _ ⟨hHeld, (by (with_reducible repeat (first | apply Kd.R_alloc | apply Kd.R_drewN | apply Kd.R_drew)); exact Kd.R_mono HO616.out (fun _ hk => hk.2)), (by (with_reducible repeat (first | apply Kd.R_alloc | apply Kd.R_drewN | apply Kd.R_drew)); exact Kd.R_mono HO619.out (fun _ hk => hk.2)), TK, TK, TK, GW620.out, GE620.out, NB612_620.out, NB620_612.out, NB613_620.out, NB620_613.out, TB⟩)
      · skip
        refine box_step ?hg (N := 3) ?hd (cs := #[.slice none 0 0, .slice none 0 0, .int .i64 0, .int .i64 0, .int .i64 0, .slice none 0 0]) (t := 33) ?hr ?_; (case hd => rfl); (case hg => rfl); (case hr => first | (go_simp; done) | (go_simp; rfl))
        intro gb620 hg w8 hbox hb
        have n0_ := aM (Kd.R_below (by have X_ := HO616.out; exact TR) hb)
        have n1_ := aM (blk_below (g := gb612) (o := .cells #[.slice A0_0 l0_0.length c0_0, .slice A0_1 l0_1.length c0_1, .int .i64 a0_2, .int .i64 a0_3, .int .i64 a0_4, .slice A0_5 l0_5.length c0_5] 33 (0, 0)) TK hb)
        have n2_ := aM (blk_below (g := gb613) (o := .cells #[.slice none 0 0, .slice none 0 0, .int .i64 0, .int .i64 0, .int .i64 0, .slice none 0 0] 33 (0, 0)) TK hb)
        have n3_ := aM (below_step TB hb)
        have n4_ := aM (hbox)
        have n5_ := aM ((by rw [hg]; exact (below_size TB) : w.heap.size ≤ gb620))
        have n6_ := aM ((by rw [hg]; exact (below_size TB) : w.heap.size ≤ gb620))
        have n7_ := aM ((by rw [hg]; exact Nat.ne_of_lt (blk_lt (g := gb612) (o := .cells #[.slice A0_0 l0_0.length c0_0, .slice A0_1 l0_1.length c0_1, .int .i64 a0_2, .int .i64 a0_3, .int .i64 a0_4, .slice A0_5 l0_5.length c0_5] 33 (0, 0)) TK) : gb612 ≠ gb620))
        have n8_ := aM ((by rw [hg]; exact Nat.ne_of_gt (blk_lt (g := gb612) (o := .cells #[.slice A0_0 l0_0.length c0_0, .slice A0_1 l0_1.length c0_1, .int .i64 a0_2, .int .i64 a0_3, .int .i64 a0_4, .slice A0_5 l0_5.length c0_5] 33 (0, 0)) TK) : gb620 ≠ gb612))
        have n9_ := aM ((by rw [hg]; exact Nat.ne_of_lt (blk_lt (g := gb613) (o := .cells #[.slice none 0 0, .slice none 0 0, .int .i64 0, .int .i64 0, .int .i64 0, .slice none 0 0] 33 (0, 0)) TK) : gb613 ≠ gb620))
        have n10_ := aM ((by rw [hg]; exact Nat.ne_of_gt (blk_lt (g := gb613) (o := .cells #[.slice none 0 0, .slice none 0 0, .int .i64 0, .int .i64 0, .int .i64 0, .slice none 0 0] 33 (0, 0)) TK) : gb620 ≠ gb613))
        clear HO616
        clear BK612
        clear BK613
        clear HB
        have HO616 := n0_
        have BK612 := n1_
        have BK613 := n2_
        have HB := n3_
        have BK620 := n4_
        have GW620 := n5_
        have GE620 := n6_
        have NB612_620 := n7_
        have NB620_612 := n8_
        have NB613_620 := n9_
        have NB620_613 := n10_
        clear n0_ n1_ n2_ n3_ n4_ n5_ n6_ n7_ n8_ n9_ n10_
        clear hb hbox hg
        refine hK.out _ _ (cz6 BK612.out) (fun hHeld => ?_)
        clear hK K
        refine nR ?_
        refine pOe 5 (some 11) #[true, true, true, true, true, true, true, true, false, true, false] (fun K hK => ?_)
        refine gG Try.func63 #[.slice A0_1 l0_1.length c0_1] ?_
        with_reducible refine (impl_cloned.calls _ _ l0_1 t617 _ ?side1 ?side2 A3.out).mono ?_
        (case side1 => have X_ := (Kd.C_below HR0_1.out HB.out); exact TC)
        (case side2 => exact HC0_1.out)
        rintro e w9 ⟨v618, rfl, ho0, hb⟩
        refine ⟨_, rfl, ?_⟩
        have n0_ := aM (Kd.R_elder' (by have X_ := HO616.out; exact TR) (Kd.R_base ho0) hb)
        have n1_ := aM (Kd.R_lower (Kd.R_new' ho0 (Kd.R_lt (by have X_ := HO616.out; exact TR))) (below_size TB))
        have n2_ := aM (blk_below (g := gb612) (o := .cells #[.slice A0_0 l0_0.length c0_0, .slice A0_1 l0_1.length c0_1, .int .i64 a0_2, .int .i64 a0_3, .int .i64 a0_4, .slice A0_5 l0_5.length c0_5] 33 (0, 0)) TK hb)
        have n3_ := aM (blk_below (g := gb613) (o := .cells #[.slice none 0 0, .slice none 0 0, .int .i64 0, .int .i64 0, .int .i64 0, .slice none 0 0] 33 (0, 0)) TK hb)
        have n4_ := aM (blk_below (g := gb620) (o := .cells #[.slice none 0 0, .slice none 0 0, .int .i64 0, .int .i64 0, .int .i64 0, .slice none 0 0] 33 (0, 0)) TK hb)
        have n5_ := aM (below_step TB hb)
        clear HO616
        clear BK612
        clear BK613
        clear BK620
        clear HB
        have HO616 := n0_
        have HO619 := n1_
        have BK612 := n2_
        have BK613 := n3_
        have BK620 := n4_
        have HB := n5_
        clear n0_ n1_ n2_ n3_ n4_ n5_
        (try clear hb)
        (try clear hb2)
        (try clear hk)
        (try clear hi)
        (try clear ho0)
        obtain ⟨Ao10, co10, eo10⟩ := Kd.R_slice HO619.out
        (first | subst eo10 | (injection eo10 with f1_ f2_ f3_; have f4_ := f1_.symm; have f5_ := f3_.symm; clear f1_ f2_ f3_; subst f4_; subst f5_))
        obtain ⟨Ao11, co11, eo11⟩ := Kd.R_slice HO616.out
        (first | subst eo11 | (injection eo11 with f1_ f2_ f3_; have f4_ := f1_.symm; have f5_ := f3_.symm; clear f1_ f2_ f3_; subst f4_; subst f5_))
        refine hK.out _ _ (cz6 BK612.out) (fun hHeld => ?_)
        clear hK K
        refine nR ?_
        refine pPe 8 (some 14) #[true, true, true, true, true, true, true, true, true, true, false] ?_
        exact norm_ (by simp only [putAll, Act.put, List.setIfInBounds_toArray, List.set_cons_zero, List.set_cons_succ]) (hCont (.slice Ao11 t614.length co11, .slice Ao10 t617.length co10, gb620) _ ⟨hHeld, (by (with_reducible repeat (first | apply Kd.R_alloc | apply Kd.R_drewN | apply Kd.R_drew)); exact Kd.R_mono HO616.out (fun _ hk => hk.2)), (by (with_reducible repeat (first | apply Kd.R_alloc | apply Kd.R_drewN | apply Kd.R_drew)); exact Kd.R_mono HO619.out (fun _ hk => hk.2)), TK, TK, TK, GW620.out, GE620.out, NB612_620.out, NB620_612.out, NB613_620.out, NB620_613.out, TB⟩)
    · skip
      refine box_step ?hg (N := 3) ?hd (cs := #[.slice none 0 0, .slice none 0 0, .int .i64 0, .int .i64 0, .int .i64 0, .slice none 0 0]) (t := 33) ?hr ?_; (case hd => rfl); (case hg => rfl); (case hr => first | (go_simp; done) | (go_simp; rfl))
      intro gb620 hg w7 hbox hb
      have n0_ := aM (blk_below (g := gb612) (o := .cells #[.slice A0_0 l0_0.length c0_0, .slice A0_1 l0_1.length c0_1, .int .i64 a0_2, .int .i64 a0_3, .int .i64 a0_4, .slice A0_5 l0_5.length c0_5] 33 (0, 0)) TK hb)
      have n1_ := aM (blk_below (g := gb613) (o := .cells #[.slice none 0 0, .slice none 0 0, .int .i64 0, .int .i64 0, .int .i64 0, .slice none 0 0] 33 (0, 0)) TK hb)
      have n2_ := aM (below_step TB hb)
      have n3_ := aM (hbox)
      have n4_ := aM ((by rw [hg]; exact (below_size TB) : w.heap.size ≤ gb620))
      have n5_ := aM ((by rw [hg]; exact (below_size TB) : w.heap.size ≤ gb620))
      have n6_ := aM ((by rw [hg]; exact Nat.ne_of_lt (blk_lt (g := gb612) (o := .cells #[.slice A0_0 l0_0.length c0_0, .slice A0_1 l0_1.length c0_1, .int .i64 a0_2, .int .i64 a0_3, .int .i64 a0_4, .slice A0_5 l0_5.length c0_5] 33 (0, 0)) TK) : gb612 ≠ gb620))
      have n7_ := aM ((by rw [hg]; exact Nat.ne_of_gt (blk_lt (g := gb612) (o := .cells #[.slice A0_0 l0_0.length c0_0, .slice A0_1 l0_1.length c0_1, .int .i64 a0_2, .int .i64 a0_3, .int .i64 a0_4, .slice A0_5 l0_5.length c0_5] 33 (0, 0)) TK) : gb620 ≠ gb612))
      have n8_ := aM ((by rw [hg]; exact Nat.ne_of_lt (blk_lt (g := gb613) (o := .cells #[.slice none 0 0, .slice none 0 0, .int .i64 0, .int .i64 0, .int .i64 0, .slice none 0 0] 33 (0, 0)) TK) : gb613 ≠ gb620))
      have n9_ := aM ((by rw [hg]; exact Nat.ne_of_gt (blk_lt (g := gb613) (o := .cells #[.slice none 0 0, .slice none 0 0, .int .i64 0, .int .i64 0, .int .i64 0, .slice none 0 0] 33 (0, 0)) TK) : gb620 ≠ gb613))
      clear BK612
      clear BK613
      clear HB
      have BK612 := n0_
      have BK613 := n1_
      have HB := n2_
      have BK620 := n3_
      have GW620 := n4_
      have GE620 := n5_
      have NB612_620 := n6_
      have NB620_612 := n7_
      have NB613_620 := n8_
      have NB620_613 := n9_
      clear n0_ n1_ n2_ n3_ n4_ n5_ n6_ n7_ n8_ n9_
      clear hb hbox hg
      refine hK.out _ _ (cz6 BK612.out) (fun hHeld => ?_)
      clear hK K
      refine nR ?_
      refine pOe 2 (some 8) #[true, true, true, true, true, false, true, true, false, true, false] (fun K hK => ?_)
      refine gG Try.func63 #[.slice A0_0 l0_0.length c0_0] ?_
      with_reducible refine (impl_cloned.calls _ _ l0_0 t614 _ ?side1 ?side2 A2.out).mono ?_
      (case side1 => have X_ := (Kd.C_below HR0_0.out HB.out); exact TC)
      (case side2 => exact HC0_0.out)
      rintro e w8 ⟨v615, rfl, ho0, hb⟩
      refine ⟨_, rfl, ?_⟩
      have n0_ := aM (Kd.R_lower ho0 (below_size TB))
      have n1_ := aM (blk_below (g := gb612) (o := .cells #[.slice A0_0 l0_0.length c0_0, .slice A0_1 l0_1.length c0_1, .int .i64 a0_2, .int .i64 a0_3, .int .i64 a0_4, .slice A0_5 l0_5.length c0_5] 33 (0, 0)) TK hb)
      have n2_ := aM (blk_below (g := gb613) (o := .cells #[.slice none 0 0, .slice none 0 0, .int .i64 0, .int .i64 0, .int .i64 0, .slice none 0 0] 33 (0, 0)) TK hb)
      have n3_ := aM (blk_below (g := gb620) (o := .cells #[.slice none 0 0, .slice none 0 0, .int .i64 0, .int .i64 0, .int .i64 0, .slice none 0 0] 33 (0, 0)) TK hb)
      have n4_ := aM (below_step TB hb)
      clear BK612
      clear BK613
      clear BK620
      clear HB
      have HO616 := n0_
      have BK612 := n1_
      have BK613 := n2_
      have BK620 := n3_
      have HB := n4_
      clear n0_ n1_ n2_ n3_ n4_
      (try clear hb)
      (try clear hb2)
      (try clear hk)
      (try clear hi)
      (try clear ho0)
      refine hK.out _ _ (cz6 BK612.out) (fun hHeld => ?_)
      clear hK K
      refine nR ?_
      refine pOe 5 (some 11) #[true, true, true, true, true, true, true, true, false, true, false] (fun K hK => ?_)
      refine gG Try.func63 #[.slice A0_1 l0_1.length c0_1] ?_
      with_reducible refine (impl_cloned.calls _ _ l0_1 t617 _ ?side1 ?side2 A3.out).mono ?_
      (case side1 => have X_ := (Kd.C_below HR0_1.out HB.out); exact TC)
      (case side2 => exact HC0_1.out)
      rintro e w9 ⟨v618, rfl, ho0, hb⟩
      refine ⟨_, rfl, ?_⟩
      have n0_ := aM (Kd.R_elder' (by have X_ := HO616.out; exact TR) (Kd.R_base ho0) hb)
      have n1_ := aM (Kd.R_lower (Kd.R_new' ho0 (Kd.R_lt (by have X_ := HO616.out; exact TR))) (below_size TB))
      have n2_ := aM (blk_below (g := gb612) (o := .cells #[.slice A0_0 l0_0.length c0_0, .slice A0_1 l0_1.length c0_1, .int .i64 a0_2, .int .i64 a0_3, .int .i64 a0_4, .slice A0_5 l0_5.length c0_5] 33 (0, 0)) TK hb)
      have n3_ := aM (blk_below (g := gb613) (o := .cells #[.slice none 0 0, .slice none 0 0, .int .i64 0, .int .i64 0, .int .i64 0, .slice none 0 0] 33 (0, 0)) TK hb)
      have n4_ := aM (blk_below (g := gb620) (o := .cells #[.slice none 0 0, .slice none 0 0, .int .i64 0, .int .i64 0, .int .i64 0, .slice none 0 0] 33 (0, 0)) TK hb)
      have n5_ := aM (below_step TB hb)
      clear HO616
      clear BK612
      clear BK613
      clear BK620
      clear HB
      have HO616 := n0_
      have HO619 := n1_
      have BK612 := n2_
      have BK613 := n3_
      have BK620 := n4_
      have HB := n5_
      clear n0_ n1_ n2_ n3_ n4_ n5_
      (try clear hb)
      (try clear hb2)
      (try clear hk)
      (try clear hi)
      (try clear ho0)
      obtain ⟨Ao10, co10, eo10⟩ := Kd.R_slice HO619.out
      (first | subst eo10 | (injection eo10 with f1_ f2_ f3_; have f4_ := f1_.symm; have f5_ := f3_.symm; clear f1_ f2_ f3_; subst f4_; subst f5_))
      obtain ⟨Ao11, co11, eo11⟩ := Kd.R_slice HO616.out
      (first | subst eo11 | (injection eo11 with f1_ f2_ f3_; have f4_ := f1_.symm; have f5_ := f3_.symm; clear f1_ f2_ f3_; subst f4_; subst f5_))
      refine hK.out _ _ (cz6 BK612.out) (fun hHeld => ?_)
      clear hK K
      refine nR ?_
      refine pPe 8 (some 14) #[true, true, true, true, true, true, true, true, true, true, false] ?_
      exact norm_ (by simp only [putAll, Act.put, List.setIfInBounds_toArray, List.set_cons_zero, List.set_cons_succ]) (hCont (.slice Ao11 t614.length co11, .slice Ao10 t617.length co10, gb620) _ ⟨hHeld, (by (with_reducible repeat (first | apply Kd.R_alloc | apply Kd.R_drewN | apply Kd.R_drew)); exact Kd.R_mono HO616.out (fun _ hk => hk.2)), (by (with_reducible repeat (first | apply Kd.R_alloc | apply Kd.R_drewN | apply Kd.R_drew)); exact Kd.R_mono HO619.out (fun _ hk => hk.2)), TK, TK, TK, GW620.out, GE620.out, NB612_620.out, NB620_612.out, NB613_620.out, NB620_613.out, TB⟩)
  rintro ⟨v615, v618, gb620⟩ w12 ⟨hS_, h0_, h1_, h2_, h3_, h4_, h5_, h6_, h7_, h8_, h9_, h10_, h11_⟩
  have n0_ : Aside0 (Kd.R (Kd.int .u8) 5 w12 w.heap.size (fun k_ => some k_ ≠ (v618 : Value).ownBlock) v615 t614) := ⟨h0_⟩
  have n1_ : Aside0 (Kd.R (Kd.int .u8) 5 w12 w.heap.size (fun k_ => some k_ ≠ (v615 : Value).ownBlock) v618 t617) := ⟨h1_⟩
  have n2_ : Aside0 (w12.heap[gb612]? = some (.cells #[.slice A0_0 l0_0.length c0_0, .slice A0_1 l0_1.length c0_1, .int .i64 a0_2, .int .i64 a0_3, .int .i64 a0_4, .slice A0_5 l0_5.length c0_5] 33 (0, 0))) := ⟨h2_⟩
  have n3_ : Aside0 (w12.heap[gb613]? = some (.cells #[.slice none 0 0, .slice none 0 0, .int .i64 0, .int .i64 0, .int .i64 0, .slice none 0 0] 33 (0, 0))) := ⟨h3_⟩
  have n4_ : Aside0 (w12.heap[gb620]? = some (.cells #[.slice none 0 0, .slice none 0 0, .int .i64 0, .int .i64 0, .int .i64 0, .slice none 0 0] 33 (0, 0))) := ⟨h4_⟩
  have n5_ : Aside0 (w.heap.size ≤ gb620) := ⟨h5_⟩
  have n6_ : Aside0 (w.heap.size ≤ gb620) := ⟨h6_⟩
  have n7_ : Aside0 (gb612 ≠ gb620) := ⟨h7_⟩
  have n8_ : Aside0 (gb620 ≠ gb612) := ⟨h8_⟩
  have n9_ : Aside0 (gb613 ≠ gb620) := ⟨h9_⟩
  have n10_ : Aside0 (gb620 ≠ gb613) := ⟨h10_⟩
  have n11_ : Aside0 (Below w.heap.size w w12) := ⟨h11_⟩
  clear BK612
  clear BK613
  clear HB
  clear h0_ h1_ h2_ h3_ h4_ h5_ h6_ h7_ h8_ h9_ h10_ h11_
  have HO616 := n0_
  have HO619 := n1_
  have BK612 := n2_
  have BK613 := n3_
  have BK620 := n4_
  have GW620 := n5_
  have GE620 := n6_
  have NB612_620 := n7_
  have NB620_612 := n8_
  have NB613_620 := n9_
  have NB620_613 := n10_
  have HB := n11_
  clear n0_ n1_ n2_ n3_ n4_ n5_ n6_ n7_ n8_ n9_ n10_ n11_
  have hHeld : w12.cell? ⟨gb612, 0, none⟩ = some (.slice A0_0 l0_0.length c0_0) ∧ w12.cell? ⟨gb612, 1, none⟩ = some (.slice A0_1 l0_1.length c0_1) ∧ w12.cell? ⟨gb612, 2, none⟩ = some (.int .i64 a0_2) ∧ w12.cell? ⟨gb612, 3, none⟩ = some (.int .i64 a0_3) ∧ w12.cell? ⟨gb612, 4, none⟩ = some (.int .i64 a0_4) ∧ w12.cell? ⟨gb612, 5, none⟩ = some (.slice A0_5 l0_5.length c0_5) := hS_
  obtain ⟨Ao13, co13, eo13⟩ := Kd.R_slice HO619.out
  (first | subst eo13 | (injection eo13 with f1_ f2_ f3_; have f4_ := f1_.symm; have f5_ := f3_.symm; clear f1_ f2_ f3_; subst f4_; subst f5_))
  obtain ⟨Ao14, co14, eo14⟩ := Kd.R_slice HO616.out
  (first | subst eo14 | (injection eo14 with f1_ f2_ f3_; have f4_ := f1_.symm; have f5_ := f3_.symm; clear f1_ f2_ f3_; subst f4_; subst f5_))
  refine norm_ (a' := ?_) ?_ ?_
  rotate_left
  · simp only [putAll, Act.put, List.setIfInBounds_toArray, List.set_cons_zero, List.set_cons_succ]
    rfl
  refine pOe 10 none #[true, true, true, true, true, true, true, true, true, true, true] (fun K hK => ?_)
  have hs15 : w12.cell? ⟨gb620, 0, none⟩ = some (.slice none 0 0) := (blk_cell BK620.out 0).trans rfl
  have hfs15 := blk_frozen BK620.out 0
  have hns15_0 := NB612_620.out
  have hns15_1 := NB613_620.out
  have hms15_0 := NB620_612.out
  have hms15_1 := NB620_613.out
  have hs16 : w12.cell? ⟨gb620, 1, none⟩ = some (.slice none 0 0) := (blk_cell BK620.out 1).trans rfl
  have hfs16 := blk_frozen BK620.out 1
  have hns16_0 := NB612_620.out
  have hns16_1 := NB613_620.out
  have hms16_0 := NB620_612.out
  have hms16_1 := NB620_613.out
  have hs17 : w12.cell? ⟨gb620, 2, none⟩ = some (.int .i64 0) := (blk_cell BK620.out 2).trans rfl
  have hfs17 := blk_frozen BK620.out 2
  have hns17_0 := NB612_620.out
  have hns17_1 := NB613_620.out
  have hms17_0 := NB620_612.out
  have hms17_1 := NB620_613.out
  have hs18 : w12.cell? ⟨gb620, 3, none⟩ = some (.int .i64 0) := (blk_cell BK620.out 3).trans rfl
  have hfs18 := blk_frozen BK620.out 3
  have hns18_0 := NB612_620.out
  have hns18_1 := NB613_620.out
  have hms18_0 := NB620_612.out
  have hms18_1 := NB620_613.out
  have hs19 : w12.cell? ⟨gb620, 4, none⟩ = some (.int .i64 0) := (blk_cell BK620.out 4).trans rfl
  have hfs19 := blk_frozen BK620.out 4
  have hns19_0 := NB612_620.out
  have hns19_1 := NB613_620.out
  have hms19_0 := NB620_612.out
  have hms19_1 := NB620_613.out
  have hs20 : w12.cell? ⟨gb620, 5, none⟩ = some (.slice none 0 0) := (blk_cell BK620.out 5).trans rfl
  have hfs20 := blk_frozen BK620.out 5
  have hns20_0 := NB612_620.out
  have hns20_1 := NB613_620.out
  have hms20_0 := NB620_612.out
  have hms20_1 := NB620_613.out
  refine skip_ (w1 := ?_) (by rfl) rfl ?_ ?_
  rotate_left
  · go_simp
    rfl
  refine hK.out _ _ ⟨((cell_far (p := ⟨gb620, _, none⟩) NB612_620.out _).trans (((cell_far (p := ⟨gb620, _, none⟩) NB612_620.out _).trans (((cell_far (p := ⟨gb620, _, none⟩) NB612_620.out _).trans (((cell_far (p := ⟨gb620, _, none⟩) NB612_620.out _).trans (((cell_far (p := ⟨gb620, _, none⟩) NB612_620.out _).trans (((cell_far (p := ⟨gb620, _, none⟩) NB612_620.out _).trans (hHeld.1)))))))))))), ((cell_far (p := ⟨gb620, _, none⟩) NB612_620.out _).trans (((cell_far (p := ⟨gb620, _, none⟩) NB612_620.out _).trans (((cell_far (p := ⟨gb620, _, none⟩) NB612_620.out _).trans (((cell_far (p := ⟨gb620, _, none⟩) NB612_620.out _).trans (((cell_far (p := ⟨gb620, _, none⟩) NB612_620.out _).trans (((cell_far (p := ⟨gb620, _, none⟩) NB612_620.out _).trans (hHeld.2.1)))))))))))), ((cell_far (p := ⟨gb620, _, none⟩) NB612_620.out _).trans (((cell_far (p := ⟨gb620, _, none⟩) NB612_620.out _).trans (((cell_far (p := ⟨gb620, _, none⟩) NB612_620.out _).trans (((cell_far (p := ⟨gb620, _, none⟩) NB612_620.out _).trans (((cell_far (p := ⟨gb620, _, none⟩) NB612_620.out _).trans (((cell_far (p := ⟨gb620, _, none⟩) NB612_620.out _).trans (hHeld.2.2.1)))))))))))), ((cell_far (p := ⟨gb620, _, none⟩) NB612_620.out _).trans (((cell_far (p := ⟨gb620, _, none⟩) NB612_620.out _).trans (((cell_far (p := ⟨gb620, _, none⟩) NB612_620.out _).trans (((cell_far (p := ⟨gb620, _, none⟩) NB612_620.out _).trans (((cell_far (p := ⟨gb620, _, none⟩) NB612_620.out _).trans (((cell_far (p := ⟨gb620, _, none⟩) NB612_620.out _).trans (hHeld.2.2.2.1)))))))))))), ((cell_far (p := ⟨gb620, _, none⟩) NB612_620.out _).trans (((cell_far (p := ⟨gb620, _, none⟩) NB612_620.out _).trans (((cell_far (p := ⟨gb620, _, none⟩) NB612_620.out _).trans (((cell_far (p := ⟨gb620, _, none⟩) NB612_620.out _).trans (((cell_far (p := ⟨gb620, _, none⟩) NB612_620.out _).trans (((cell_far (p := ⟨gb620, _, none⟩) NB612_620.out _).trans (hHeld.2.2.2.2.1)))))))))))), ((cell_far (p := ⟨gb620, _, none⟩) NB612_620.out _).trans (((cell_far (p := ⟨gb620, _, none⟩) NB612_620.out _).trans (((cell_far (p := ⟨gb620, _, none⟩) NB612_620.out _).trans (((cell_far (p := ⟨gb620, _, none⟩) NB612_620.out _).trans (((cell_far (p := ⟨gb620, _, none⟩) NB612_620.out _).trans (((cell_far (p := ⟨gb620, _, none⟩) NB612_620.out _).trans (hHeld.2.2.2.2.2))))))))))))⟩ (fun hHeld => ?_)
  clear hK K
  refine done_ (done_of HT_.out (by kernel_rfl)) ?_
  have hnb21 := NB612_613.out
  have hnc21 := NB613_612.out
  have hnb22 := NB612_620.out
  have hnc22 := NB620_612.out
  obtain ⟨hcz23_0, hcz23_1, hcz23_2, hcz23_3, hcz23_4, hcz23_5⟩ := cz6 BK612.out
  obtain ⟨hfz23_0, hfz23_1, hfz23_2, hfz23_3, hfz23_4, hfz23_5⟩ := fz6 BK612.out
  try go_wp2
  go_loopg [18] k (fun kq v18 w' => ∃ (x18_1 : Int) (x621005_1 : List (S55)) (u621005 : Value), v18 = .int .i64 x18_1 ∧ Aside0 (impl_copyDisk.l0 kq l0_5 (l0_5.length : Int) x18_1 t614 t617 a0_2 a0_3 a0_4 x621005_1 = some (r1, r2, r3, r4, r5, r6)) ∧ Aside0 (kq ≤ k) ∧ Aside0 (Kd.R (Kd.int .u8) 5 w' w.heap.size (fun k_ => some k_ ≠ ((.slice Ao13 t617.length co13) : Value).ownBlock) (.slice Ao14 t614.length co14) t614) ∧ Aside0 (Kd.R (Kd.int .u8) 5 w' w.heap.size (fun k_ => some k_ ≠ ((.slice Ao14 t614.length co14) : Value).ownBlock) (.slice Ao13 t617.length co13) t617) ∧ Aside0 (Kd.S k55 55 w' w.heap.size (fun k_ => some k_ ≠ ((.slice Ao14 t614.length co14) : Value).ownBlock ∧ some k_ ≠ ((.slice Ao13 t617.length co13) : Value).ownBlock) u621005 x621005_1) ∧ Aside0 (w'.heap[gb612]? = some (.cells #[(.slice A0_0 l0_0.length c0_0), (.slice A0_1 l0_1.length c0_1), .int .i64 a0_2, .int .i64 a0_3, .int .i64 a0_4, (.slice A0_5 l0_5.length c0_5)] 33 (0, 0))) ∧ Aside0 (w'.heap[gb613]? = some (.cells #[(.slice none 0 0), (.slice none 0 0), .int .i64 0, .int .i64 0, .int .i64 0, (.slice none 0 0)] 33 (0, 0))) ∧ Aside0 (w'.heap[gb620]? = some (.cells #[(.slice Ao14 t614.length co14), (.slice Ao13 t617.length co13), .int .i64 a0_2, .int .i64 a0_3, .int .i64 a0_4, u621005] 33 (0, 0))) ∧ Aside0 (Below w.heap.size w w'))
  case atStart => exact ⟨(0), (([] : List (S55))), (.slice none 0 0), (by first | rfl | (simp; done) | (simp [*]; done)), H', ⟨Nat.le_refl _⟩, ⟨by (with_reducible repeat (first | apply Kd.R_alloc | apply Kd.R_drewN | apply Kd.R_drew)); exact Kd.R_mono (Kd.R_far (p := ⟨gb620, 5, none⟩) (Kd.R_far (p := ⟨gb620, 4, none⟩) (Kd.R_far (p := ⟨gb620, 3, none⟩) (Kd.R_far (p := ⟨gb620, 2, none⟩) (Kd.R_far (p := ⟨gb620, 1, none⟩) (Kd.R_far (p := ⟨gb620, 0, none⟩) (Kd.R_types HO616.out BK620.out (by decide)) (fun _ hk => hk.2) (.slice Ao14 t614.length co14)) (fun _ hk => hk.2) (.slice Ao13 t617.length co13)) (fun _ hk => hk.2) (.int .i64 a0_2)) (fun _ hk => hk.2) (.int .i64 a0_3)) (fun _ hk => hk.2) (.int .i64 a0_4)) (fun _ hk => hk.2) (.slice none 0 0)) (fun _ hk => hk.1)⟩, ⟨by (with_reducible repeat (first | apply Kd.R_alloc | apply Kd.R_drewN | apply Kd.R_drew)); exact Kd.R_mono (Kd.R_far (p := ⟨gb620, 5, none⟩) (Kd.R_far (p := ⟨gb620, 4, none⟩) (Kd.R_far (p := ⟨gb620, 3, none⟩) (Kd.R_far (p := ⟨gb620, 2, none⟩) (Kd.R_far (p := ⟨gb620, 1, none⟩) (Kd.R_far (p := ⟨gb620, 0, none⟩) (Kd.R_types HO619.out BK620.out (by decide)) (fun _ hk => hk.2) (.slice Ao14 t614.length co14)) (fun _ hk => hk.2) (.slice Ao13 t617.length co13)) (fun _ hk => hk.2) (.int .i64 a0_2)) (fun _ hk => hk.2) (.int .i64 a0_3)) (fun _ hk => hk.2) (.int .i64 a0_4)) (fun _ hk => hk.2) (.slice none 0 0)) (fun _ hk => hk.1)⟩, ⟨by first | exact Kd.S_nil _ _ _ _ _ | exact Kd.N_nil _ _ _ _ _ | exact Kd.V_nil _ _ _ _ _ | exact Kd.Q_nil _ _ _ _ _ | exact Kd.R_nil _ _ _ _ _⟩, ⟨by (with_reducible repeat (first | refine blk_drewN ?_ _ | refine blk_drew ?_ | refine blk_alloc ?_ _)); refine blk_far ?_ NB612_620.out _; (with_reducible repeat (first | refine blk_drewN ?_ _ | refine blk_drew ?_ | refine blk_alloc ?_ _)); refine blk_far ?_ NB612_620.out _; (with_reducible repeat (first | refine blk_drewN ?_ _ | refine blk_drew ?_ | refine blk_alloc ?_ _)); refine blk_far ?_ NB612_620.out _; (with_reducible repeat (first | refine blk_drewN ?_ _ | refine blk_drew ?_ | refine blk_alloc ?_ _)); refine blk_far ?_ NB612_620.out _; (with_reducible repeat (first | refine blk_drewN ?_ _ | refine blk_drew ?_ | refine blk_alloc ?_ _)); refine blk_far ?_ NB612_620.out _; (with_reducible repeat (first | refine blk_drewN ?_ _ | refine blk_drew ?_ | refine blk_alloc ?_ _)); refine blk_far ?_ NB612_620.out _; (with_reducible repeat (first | refine blk_drewN ?_ _ | refine blk_drew ?_ | refine blk_alloc ?_ _)); exact BK612.out⟩, ⟨by (with_reducible repeat (first | refine blk_drewN ?_ _ | refine blk_drew ?_ | refine blk_alloc ?_ _)); refine blk_far ?_ NB613_620.out _; (with_reducible repeat (first | refine blk_drewN ?_ _ | refine blk_drew ?_ | refine blk_alloc ?_ _)); refine blk_far ?_ NB613_620.out _; (with_reducible repeat (first | refine blk_drewN ?_ _ | refine blk_drew ?_ | refine blk_alloc ?_ _)); refine blk_far ?_ NB613_620.out _; (with_reducible repeat (first | refine blk_drewN ?_ _ | refine blk_drew ?_ | refine blk_alloc ?_ _)); refine blk_far ?_ NB613_620.out _; (with_reducible repeat (first | refine blk_drewN ?_ _ | refine blk_drew ?_ | refine blk_alloc ?_ _)); refine blk_far ?_ NB613_620.out _; (with_reducible repeat (first | refine blk_drewN ?_ _ | refine blk_drew ?_ | refine blk_alloc ?_ _)); refine blk_far ?_ NB613_620.out _; (with_reducible repeat (first | refine blk_drewN ?_ _ | refine blk_drew ?_ | refine blk_alloc ?_ _)); exact BK613.out⟩, ⟨by (with_reducible repeat (first | refine blk_drewN ?_ _ | refine blk_drew ?_ | refine blk_alloc ?_ _)); refine blk_put (cs := #[.slice Ao14 t614.length co14, .slice Ao13 t617.length co13, .int .i64 a0_2, .int .i64 a0_3, .int .i64 a0_4, .slice none 0 0]) ?_ 5 _ rfl; (with_reducible repeat (first | refine blk_drewN ?_ _ | refine blk_drew ?_ | refine blk_alloc ?_ _)); refine blk_put (cs := #[.slice Ao14 t614.length co14, .slice Ao13 t617.length co13, .int .i64 a0_2, .int .i64 a0_3, .int .i64 0, .slice none 0 0]) ?_ 4 _ rfl; (with_reducible repeat (first | refine blk_drewN ?_ _ | refine blk_drew ?_ | refine blk_alloc ?_ _)); refine blk_put (cs := #[.slice Ao14 t614.length co14, .slice Ao13 t617.length co13, .int .i64 a0_2, .int .i64 0, .int .i64 0, .slice none 0 0]) ?_ 3 _ rfl; (with_reducible repeat (first | refine blk_drewN ?_ _ | refine blk_drew ?_ | refine blk_alloc ?_ _)); refine blk_put (cs := #[.slice Ao14 t614.length co14, .slice Ao13 t617.length co13, .int .i64 0, .int .i64 0, .int .i64 0, .slice none 0 0]) ?_ 2 _ rfl; (with_reducible repeat (first | refine blk_drewN ?_ _ | refine blk_drew ?_ | refine blk_alloc ?_ _)); refine blk_put (cs := #[.slice Ao14 t614.length co14, .slice none 0 0, .int .i64 0, .int .i64 0, .int .i64 0, .slice none 0 0]) ?_ 1 _ rfl; (with_reducible repeat (first | refine blk_drewN ?_ _ | refine blk_drew ?_ | refine blk_alloc ?_ _)); refine blk_put (cs := #[.slice none 0 0, .slice none 0 0, .int .i64 0, .int .i64 0, .int .i64 0, .slice none 0 0]) ?_ 0 _ rfl; (with_reducible repeat (first | refine blk_drewN ?_ _ | refine blk_drew ?_ | refine blk_alloc ?_ _)); exact BK620.out⟩, ⟨TB⟩⟩
  case round =>
    clear H'
    try clear c2
    try clear p2
    try clear c6
    try clear c7
    try clear c21
    try clear c22
    try clear hcz23_0
    try clear hcz23_1
    try clear hcz23_2
    try clear hcz23_3
    try clear hcz23_4
    try clear hcz23_5
    try clear hfz23_0
    try clear hfz23_1
    try clear hfz23_2
    try clear hfz23_3
    try clear hfz23_4
    try clear hfz23_5
    obtain ⟨x18_1, x621005_1, u621005, rfl, HA, HK1, HO_621000, HO_621001, HO_621005, BK612, BK613, BK620, HB⟩ := hrel
    cases gk with
    | zero => exact absurd HA.out (by simp [impl_copyDisk.l0])
    | succ k1 =>
      have H := HA.out
      clear HA
      simp only [impl_copyDisk.l0] at H
      by_cases c24 : x18_1 < (l0_5.length : Int)
      · rw [if_pos c24] at H
        have c24b0 : decide (x18_1 < (l0_5.length : Int)) = true := decide_eq_true c24
        clear c24
        replace H := ifN H
        obtain ⟨c25, H⟩ := H
        have c25b0 : decide (0 ≤ x18_1) = true := decide_eq_true c25
        clear c25
        replace H := ifN H
        obtain ⟨c26, H⟩ := H
        have c26b0 : decide (x18_1 < (l0_5.length : Int)) = true := decide_eq_true c26
        clear c26
        replace H := bE H
        obtain ⟨⟨t623, t624, t625, t628, t629, t630⟩, A27, H⟩ := H
        dsimp only at H
        replace H := ifN H
        obtain ⟨c28, H⟩ := H
        have LMc28 := aM c28
        clear c28
        obtain ⟨y631, hy631⟩ : ∃ y_ : List (S55), y_ = (x621005_1 ++ [(⟨t623, t624, t625, (⟨t628, t629, t630⟩ : S30)⟩ : S55)]) := ⟨_, rfl⟩
        rw [← hy631] at H
        have Ny631 := aM hy631
        clear hy631
        have H' := aM H
        clear H
        have p621 : 0 ≤ (x18_1 : Int) := DT
        have q621 : x18_1 < (l0_5.length : Int) := DT
        obtain ⟨ad621, A621_2, c621_2, e621, hx621_0, hx621_1, hx621_2, hx621_3, hx621_4, hx621_5, hl621_2, hi621_2⟩ := at_T55 HR0_5.out x18_1 p621 q621
        cases e621
        replace hx621_0 := (HB.out.cell (World.block_lt_of_cell? w _ hx621_0)).trans hx621_0
        replace hx621_1 := (HB.out.cell (World.block_lt_of_cell? w _ hx621_1)).trans hx621_1
        replace hx621_2 := (HB.out.cell (World.block_lt_of_cell? w _ hx621_2)).trans hx621_2
        replace hx621_3 := (HB.out.cell (World.block_lt_of_cell? w _ hx621_3)).trans hx621_3
        replace hx621_4 := (HB.out.cell (World.block_lt_of_cell? w _ hx621_4)).trans hx621_4
        replace hx621_5 := (HB.out.cell (World.block_lt_of_cell? w _ hx621_5)).trans hx621_5
        have HR621_2 := aM hi621_2
        have HC621_2 := aM hl621_2
        clear hi621_2 hl621_2
        replace p621 := eq_true p621
        replace q621 := eq_true q621
        try go_wp2_with (first | ((with_reducible refine gate_dst (N := 5) rfl ?_); refine gBx 5 #[.int .i64 0, .int .i64 0, .slice none 0 0, .int .i64 0, .int .i64 0, .int .i64 0] 55 ?_; intro gb622 hg w29 hbox hb; have BK622 := aM (hbox); have GW622 := aM ((by rw [hg]; exact (below_size TB) : w.heap.size ≤ gb622)); have GE622 := aM ((by rw [hg]; exact (below_size TB) : w.heap.size ≤ gb622)); have NB612_622 := aM ((by rw [hg]; exact Nat.ne_of_lt (blk_lt (g := gb612) (o := .cells #[.slice A0_0 l0_0.length c0_0, .slice A0_1 l0_1.length c0_1, .int .i64 a0_2, .int .i64 a0_3, .int .i64 a0_4, .slice (some ad621) l0_5.length c0_5] 33 (0, 0)) TK) : gb612 ≠ gb622)); have NB622_612 := aM ((by rw [hg]; exact Nat.ne_of_gt (blk_lt (g := gb612) (o := .cells #[.slice A0_0 l0_0.length c0_0, .slice A0_1 l0_1.length c0_1, .int .i64 a0_2, .int .i64 a0_3, .int .i64 a0_4, .slice (some ad621) l0_5.length c0_5] 33 (0, 0)) TK) : gb622 ≠ gb612)); have NB613_622 := aM ((by rw [hg]; exact Nat.ne_of_lt (blk_lt (g := gb613) (o := .cells #[.slice none 0 0, .slice none 0 0, .int .i64 0, .int .i64 0, .int .i64 0, .slice none 0 0] 33 (0, 0)) TK) : gb613 ≠ gb622)); have NB622_613 := aM ((by rw [hg]; exact Nat.ne_of_gt (blk_lt (g := gb613) (o := .cells #[.slice none 0 0, .slice none 0 0, .int .i64 0, .int .i64 0, .int .i64 0, .slice none 0 0] 33 (0, 0)) TK) : gb622 ≠ gb613)); have NB620_622 := aM ((by rw [hg]; exact Nat.ne_of_lt (blk_lt (g := gb620) (o := .cells #[.slice Ao14 t614.length co14, .slice Ao13 t617.length co13, .int .i64 a0_2, .int .i64 a0_3, .int .i64 a0_4, u621005] 33 (0, 0)) TK) : gb620 ≠ gb622)); have NB622_620 := aM ((by rw [hg]; exact Nat.ne_of_gt (blk_lt (g := gb620) (o := .cells #[.slice Ao14 t614.length co14, .slice Ao13 t617.length co13, .int .i64 a0_2, .int .i64 a0_3, .int .i64 a0_4, u621005] 33 (0, 0)) TK) : gb622 ≠ gb620)); replace HO_621000 := aM (Kd.R_below (by have X_ := HO_621000.out; exact TR) hb); replace HO_621001 := aM (Kd.R_below (by have X_ := HO_621001.out; exact TR) hb); replace HO_621005 := aM (Kd.S_below (Kd.S_elderB (by have X_ := HO_621005.out; exact TS) gb622 (Nat.le_of_eq hg.symm)) hb); replace BK612 := aM (blk_below (g := gb612) (o := .cells #[.slice A0_0 l0_0.length c0_0, .slice A0_1 l0_1.length c0_1, .int .i64 a0_2, .int .i64 a0_3, .int .i64 a0_4, .slice (some ad621) l0_5.length c0_5] 33 (0, 0)) TK hb); replace BK613 := aM (blk_below (g := gb613) (o := .cells #[.slice none 0 0, .slice none 0 0, .int .i64 0, .int .i64 0, .int .i64 0, .slice none 0 0] 33 (0, 0)) TK hb); replace BK620 := aM (blk_below (g := gb620) (o := .cells #[.slice Ao14 t614.length co14, .slice Ao13 t617.length co13, .int .i64 a0_2, .int .i64 a0_3, .int .i64 a0_4, u621005] 33 (0, 0)) TK hb); replace HB := aM (below_step TB hb); clear hb hbox hg; have hnb30 := NB622_612.out; have hnc30 := NB612_622.out; have hnb31 := NB622_613.out; have hnc31 := NB613_622.out; have hnb32 := NB622_620.out; have hnc32 := NB620_622.out; obtain ⟨hcz33_0, hcz33_1, hcz33_2, hcz33_3, hcz33_4, hcz33_5⟩ := cz6 BK622.out; obtain ⟨hfz33_0, hfz33_1, hfz33_2, hfz33_3, hfz33_4, hfz33_5⟩ := fz6 BK622.out))
        have n0_ : Aside0 (Kd.R (Kd.int .u8) 5 ((((((w29.setCell ⟨gb622, 0, none⟩ (.int .i64 ((rd_T55 l0_5 x18_1).f0))).setCell ⟨gb622, 1, none⟩ (.int .i64 ((rd_T55 l0_5 x18_1).f1))).setCell ⟨gb622, 2, none⟩ (.slice A621_2 ((rd_T55 l0_5 x18_1).f2).length c621_2)).setCell ⟨gb622, 3, none⟩ (.int .i64 ((rd_T55 l0_5 x18_1).f3.f0))).setCell ⟨gb622, 4, none⟩ (.int .i64 ((rd_T55 l0_5 x18_1).f3.f1))).setCell ⟨gb622, 5, none⟩ (.int .i64 ((rd_T55 l0_5 x18_1).f3.f2))) w.heap.size (fun k_ => some k_ ≠ (.slice Ao13 t617.length co13 : Value).ownBlock) (.slice Ao14 t614.length co14) t614) := ⟨by (with_reducible repeat (first | apply Kd.R_alloc | apply Kd.R_drewN | apply Kd.R_drew)); exact Kd.R_mono (Kd.R_far (p := ⟨gb622, 5, none⟩) (Kd.R_far (p := ⟨gb622, 4, none⟩) (Kd.R_far (p := ⟨gb622, 3, none⟩) (Kd.R_far (p := ⟨gb622, 2, none⟩) (Kd.R_far (p := ⟨gb622, 1, none⟩) (Kd.R_far (p := ⟨gb622, 0, none⟩) (Kd.R_types HO_621000.out BK622.out (by decide)) (fun _ hk => hk.2) (.int .i64 ((rd_T55 l0_5 x18_1).f0))) (fun _ hk => hk.2) (.int .i64 ((rd_T55 l0_5 x18_1).f1))) (fun _ hk => hk.2) (.slice A621_2 ((rd_T55 l0_5 x18_1).f2).length c621_2)) (fun _ hk => hk.2) (.int .i64 ((rd_T55 l0_5 x18_1).f3.f0))) (fun _ hk => hk.2) (.int .i64 ((rd_T55 l0_5 x18_1).f3.f1))) (fun _ hk => hk.2) (.int .i64 ((rd_T55 l0_5 x18_1).f3.f2))) (fun _ hk => hk.1)⟩
        have n1_ : Aside0 (Kd.R (Kd.int .u8) 5 ((((((w29.setCell ⟨gb622, 0, none⟩ (.int .i64 ((rd_T55 l0_5 x18_1).f0))).setCell ⟨gb622, 1, none⟩ (.int .i64 ((rd_T55 l0_5 x18_1).f1))).setCell ⟨gb622, 2, none⟩ (.slice A621_2 ((rd_T55 l0_5 x18_1).f2).length c621_2)).setCell ⟨gb622, 3, none⟩ (.int .i64 ((rd_T55 l0_5 x18_1).f3.f0))).setCell ⟨gb622, 4, none⟩ (.int .i64 ((rd_T55 l0_5 x18_1).f3.f1))).setCell ⟨gb622, 5, none⟩ (.int .i64 ((rd_T55 l0_5 x18_1).f3.f2))) w.heap.size (fun k_ => some k_ ≠ (.slice Ao14 t614.length co14 : Value).ownBlock) (.slice Ao13 t617.length co13) t617) := ⟨by (with_reducible repeat (first | apply Kd.R_alloc | apply Kd.R_drewN | apply Kd.R_drew)); exact Kd.R_mono (Kd.R_far (p := ⟨gb622, 5, none⟩) (Kd.R_far (p := ⟨gb622, 4, none⟩) (Kd.R_far (p := ⟨gb622, 3, none⟩) (Kd.R_far (p := ⟨gb622, 2, none⟩) (Kd.R_far (p := ⟨gb622, 1, none⟩) (Kd.R_far (p := ⟨gb622, 0, none⟩) (Kd.R_types HO_621001.out BK622.out (by decide)) (fun _ hk => hk.2) (.int .i64 ((rd_T55 l0_5 x18_1).f0))) (fun _ hk => hk.2) (.int .i64 ((rd_T55 l0_5 x18_1).f1))) (fun _ hk => hk.2) (.slice A621_2 ((rd_T55 l0_5 x18_1).f2).length c621_2)) (fun _ hk => hk.2) (.int .i64 ((rd_T55 l0_5 x18_1).f3.f0))) (fun _ hk => hk.2) (.int .i64 ((rd_T55 l0_5 x18_1).f3.f1))) (fun _ hk => hk.2) (.int .i64 ((rd_T55 l0_5 x18_1).f3.f2))) (fun _ hk => hk.1)⟩
        have n2_ : Aside0 (Kd.S k55 55 ((((((w29.setCell ⟨gb622, 0, none⟩ (.int .i64 ((rd_T55 l0_5 x18_1).f0))).setCell ⟨gb622, 1, none⟩ (.int .i64 ((rd_T55 l0_5 x18_1).f1))).setCell ⟨gb622, 2, none⟩ (.slice A621_2 ((rd_T55 l0_5 x18_1).f2).length c621_2)).setCell ⟨gb622, 3, none⟩ (.int .i64 ((rd_T55 l0_5 x18_1).f3.f0))).setCell ⟨gb622, 4, none⟩ (.int .i64 ((rd_T55 l0_5 x18_1).f3.f1))).setCell ⟨gb622, 5, none⟩ (.int .i64 ((rd_T55 l0_5 x18_1).f3.f2))) w.heap.size (fun k_ => some k_ ≠ (.slice Ao14 t614.length co14 : Value).ownBlock ∧ some k_ ≠ (.slice Ao13 t617.length co13 : Value).ownBlock ∧ k_ ≠ gb622) u621005 x621005_1) := ⟨by (with_reducible repeat (first | apply Kd.S_alloc | apply Kd.S_drewN | apply Kd.S_drew)); exact Kd.S_mono (Kd.S_far (p := ⟨gb622, 5, none⟩) (Kd.S_far (p := ⟨gb622, 4, none⟩) (Kd.S_far (p := ⟨gb622, 3, none⟩) (Kd.S_far (p := ⟨gb622, 2, none⟩) (Kd.S_far (p := ⟨gb622, 1, none⟩) (Kd.S_far (p := ⟨gb622, 0, none⟩) (Kd.S_mono HO_621005.out (fun k_ hk => (⟨hk, hk.2⟩ : _ ∧ k_ ≠ gb622))) (fun _ hk => hk.2) (.int .i64 ((rd_T55 l0_5 x18_1).f0))) (fun _ hk => hk.2) (.int .i64 ((rd_T55 l0_5 x18_1).f1))) (fun _ hk => hk.2) (.slice A621_2 ((rd_T55 l0_5 x18_1).f2).length c621_2)) (fun _ hk => hk.2) (.int .i64 ((rd_T55 l0_5 x18_1).f3.f0))) (fun _ hk => hk.2) (.int .i64 ((rd_T55 l0_5 x18_1).f3.f1))) (fun _ hk => hk.2) (.int .i64 ((rd_T55 l0_5 x18_1).f3.f2))) (fun _ hk => ⟨hk.1.1.1, ⟨hk.1.1.2, hk.1.2⟩⟩)⟩
        have n3_ : Aside0 (((((((w29.setCell ⟨gb622, 0, none⟩ (.int .i64 ((rd_T55 l0_5 x18_1).f0))).setCell ⟨gb622, 1, none⟩ (.int .i64 ((rd_T55 l0_5 x18_1).f1))).setCell ⟨gb622, 2, none⟩ (.slice A621_2 ((rd_T55 l0_5 x18_1).f2).length c621_2)).setCell ⟨gb622, 3, none⟩ (.int .i64 ((rd_T55 l0_5 x18_1).f3.f0))).setCell ⟨gb622, 4, none⟩ (.int .i64 ((rd_T55 l0_5 x18_1).f3.f1))).setCell ⟨gb622, 5, none⟩ (.int .i64 ((rd_T55 l0_5 x18_1).f3.f2))).heap[gb612]? = some (.cells #[.slice A0_0 l0_0.length c0_0, .slice A0_1 l0_1.length c0_1, .int .i64 a0_2, .int .i64 a0_3, .int .i64 a0_4, .slice (some ad621) l0_5.length c0_5] 33 (0, 0))) := ⟨by (with_reducible repeat (first | refine blk_drewN ?_ _ | refine blk_drew ?_ | refine blk_alloc ?_ _)); refine blk_far ?_ NB612_622.out _; (with_reducible repeat (first | refine blk_drewN ?_ _ | refine blk_drew ?_ | refine blk_alloc ?_ _)); refine blk_far ?_ NB612_622.out _; (with_reducible repeat (first | refine blk_drewN ?_ _ | refine blk_drew ?_ | refine blk_alloc ?_ _)); refine blk_far ?_ NB612_622.out _; (with_reducible repeat (first | refine blk_drewN ?_ _ | refine blk_drew ?_ | refine blk_alloc ?_ _)); refine blk_far ?_ NB612_622.out _; (with_reducible repeat (first | refine blk_drewN ?_ _ | refine blk_drew ?_ | refine blk_alloc ?_ _)); refine blk_far ?_ NB612_622.out _; (with_reducible repeat (first | refine blk_drewN ?_ _ | refine blk_drew ?_ | refine blk_alloc ?_ _)); refine blk_far ?_ NB612_622.out _; (with_reducible repeat (first | refine blk_drewN ?_ _ | refine blk_drew ?_ | refine blk_alloc ?_ _)); exact BK612.out⟩
        have n4_ : Aside0 (((((((w29.setCell ⟨gb622, 0, none⟩ (.int .i64 ((rd_T55 l0_5 x18_1).f0))).setCell ⟨gb622, 1, none⟩ (.int .i64 ((rd_T55 l0_5 x18_1).f1))).setCell ⟨gb622, 2, none⟩ (.slice A621_2 ((rd_T55 l0_5 x18_1).f2).length c621_2)).setCell ⟨gb622, 3, none⟩ (.int .i64 ((rd_T55 l0_5 x18_1).f3.f0))).setCell ⟨gb622, 4, none⟩ (.int .i64 ((rd_T55 l0_5 x18_1).f3.f1))).setCell ⟨gb622, 5, none⟩ (.int .i64 ((rd_T55 l0_5 x18_1).f3.f2))).heap[gb613]? = some (.cells #[.slice none 0 0, .slice none 0 0, .int .i64 0, .int .i64 0, .int .i64 0, .slice none 0 0] 33 (0, 0))) := ⟨by (with_reducible repeat (first | refine blk_drewN ?_ _ | refine blk_drew ?_ | refine blk_alloc ?_ _)); refine blk_far ?_ NB613_622.out _; (with_reducible repeat (first | refine blk_drewN ?_ _ | refine blk_drew ?_ | refine blk_alloc ?_ _)); refine blk_far ?_ NB613_622.out _; (with_reducible repeat (first | refine blk_drewN ?_ _ | refine blk_drew ?_ | refine blk_alloc ?_ _)); refine blk_far ?_ NB613_622.out _; (with_reducible repeat (first | refine blk_drewN ?_ _ | refine blk_drew ?_ | refine blk_alloc ?_ _)); refine blk_far ?_ NB613_622.out _; (with_reducible repeat (first | refine blk_drewN ?_ _ | refine blk_drew ?_ | refine blk_alloc ?_ _)); refine blk_far ?_ NB613_622.out _; (with_reducible repeat (first | refine blk_drewN ?_ _ | refine blk_drew ?_ | refine blk_alloc ?_ _)); refine blk_far ?_ NB613_622.out _; (with_reducible repeat (first | refine blk_drewN ?_ _ | refine blk_drew ?_ | refine blk_alloc ?_ _)); exact BK613.out⟩
        have n5_ : Aside0 (((((((w29.setCell ⟨gb622, 0, none⟩ (.int .i64 ((rd_T55 l0_5 x18_1).f0))).setCell ⟨gb622, 1, none⟩ (.int .i64 ((rd_T55 l0_5 x18_1).f1))).setCell ⟨gb622, 2, none⟩ (.slice A621_2 ((rd_T55 l0_5 x18_1).f2).length c621_2)).setCell ⟨gb622, 3, none⟩ (.int .i64 ((rd_T55 l0_5 x18_1).f3.f0))).setCell ⟨gb622, 4, none⟩ (.int .i64 ((rd_T55 l0_5 x18_1).f3.f1))).setCell ⟨gb622, 5, none⟩ (.int .i64 ((rd_T55 l0_5 x18_1).f3.f2))).heap[gb620]? = some (.cells #[.slice Ao14 t614.length co14, .slice Ao13 t617.length co13, .int .i64 a0_2, .int .i64 a0_3, .int .i64 a0_4, u621005] 33 (0, 0))) := ⟨by (with_reducible repeat (first | refine blk_drewN ?_ _ | refine blk_drew ?_ | refine blk_alloc ?_ _)); refine blk_far ?_ NB620_622.out _; (with_reducible repeat (first | refine blk_drewN ?_ _ | refine blk_drew ?_ | refine blk_alloc ?_ _)); refine blk_far ?_ NB620_622.out _; (with_reducible repeat (first | refine blk_drewN ?_ _ | refine blk_drew ?_ | refine blk_alloc ?_ _)); refine blk_far ?_ NB620_622.out _; (with_reducible repeat (first | refine blk_drewN ?_ _ | refine blk_drew ?_ | refine blk_alloc ?_ _)); refine blk_far ?_ NB620_622.out _; (with_reducible repeat (first | refine blk_drewN ?_ _ | refine blk_drew ?_ | refine blk_alloc ?_ _)); refine blk_far ?_ NB620_622.out _; (with_reducible repeat (first | refine blk_drewN ?_ _ | refine blk_drew ?_ | refine blk_alloc ?_ _)); refine blk_far ?_ NB620_622.out _; (with_reducible repeat (first | refine blk_drewN ?_ _ | refine blk_drew ?_ | refine blk_alloc ?_ _)); exact BK620.out⟩
        have n6_ : Aside0 (((((((w29.setCell ⟨gb622, 0, none⟩ (.int .i64 ((rd_T55 l0_5 x18_1).f0))).setCell ⟨gb622, 1, none⟩ (.int .i64 ((rd_T55 l0_5 x18_1).f1))).setCell ⟨gb622, 2, none⟩ (.slice A621_2 ((rd_T55 l0_5 x18_1).f2).length c621_2)).setCell ⟨gb622, 3, none⟩ (.int .i64 ((rd_T55 l0_5 x18_1).f3.f0))).setCell ⟨gb622, 4, none⟩ (.int .i64 ((rd_T55 l0_5 x18_1).f3.f1))).setCell ⟨gb622, 5, none⟩ (.int .i64 ((rd_T55 l0_5 x18_1).f3.f2))).heap[gb622]? = some (.cells #[.int .i64 ((rd_T55 l0_5 x18_1).f0), .int .i64 ((rd_T55 l0_5 x18_1).f1), .slice A621_2 ((rd_T55 l0_5 x18_1).f2).length c621_2, .int .i64 ((rd_T55 l0_5 x18_1).f3.f0), .int .i64 ((rd_T55 l0_5 x18_1).f3.f1), .int .i64 ((rd_T55 l0_5 x18_1).f3.f2)] 55 (0, 0))) := ⟨by (with_reducible repeat (first | refine blk_drewN ?_ _ | refine blk_drew ?_ | refine blk_alloc ?_ _)); refine blk_put (cs := #[.int .i64 ((rd_T55 l0_5 x18_1).f0), .int .i64 ((rd_T55 l0_5 x18_1).f1), .slice A621_2 ((rd_T55 l0_5 x18_1).f2).length c621_2, .int .i64 ((rd_T55 l0_5 x18_1).f3.f0), .int .i64 ((rd_T55 l0_5 x18_1).f3.f1), .int .i64 0]) ?_ 5 _ rfl; (with_reducible repeat (first | refine blk_drewN ?_ _ | refine blk_drew ?_ | refine blk_alloc ?_ _)); refine blk_put (cs := #[.int .i64 ((rd_T55 l0_5 x18_1).f0), .int .i64 ((rd_T55 l0_5 x18_1).f1), .slice A621_2 ((rd_T55 l0_5 x18_1).f2).length c621_2, .int .i64 ((rd_T55 l0_5 x18_1).f3.f0), .int .i64 0, .int .i64 0]) ?_ 4 _ rfl; (with_reducible repeat (first | refine blk_drewN ?_ _ | refine blk_drew ?_ | refine blk_alloc ?_ _)); refine blk_put (cs := #[.int .i64 ((rd_T55 l0_5 x18_1).f0), .int .i64 ((rd_T55 l0_5 x18_1).f1), .slice A621_2 ((rd_T55 l0_5 x18_1).f2).length c621_2, .int .i64 0, .int .i64 0, .int .i64 0]) ?_ 3 _ rfl; (with_reducible repeat (first | refine blk_drewN ?_ _ | refine blk_drew ?_ | refine blk_alloc ?_ _)); refine blk_put (cs := #[.int .i64 ((rd_T55 l0_5 x18_1).f0), .int .i64 ((rd_T55 l0_5 x18_1).f1), .slice none 0 0, .int .i64 0, .int .i64 0, .int .i64 0]) ?_ 2 _ rfl; (with_reducible repeat (first | refine blk_drewN ?_ _ | refine blk_drew ?_ | refine blk_alloc ?_ _)); refine blk_put (cs := #[.int .i64 ((rd_T55 l0_5 x18_1).f0), .int .i64 0, .slice none 0 0, .int .i64 0, .int .i64 0, .int .i64 0]) ?_ 1 _ rfl; (with_reducible repeat (first | refine blk_drewN ?_ _ | refine blk_drew ?_ | refine blk_alloc ?_ _)); refine blk_put (cs := #[.int .i64 0, .int .i64 0, .slice none 0 0, .int .i64 0, .int .i64 0, .int .i64 0]) ?_ 0 _ rfl; (with_reducible repeat (first | refine blk_drewN ?_ _ | refine blk_drew ?_ | refine blk_alloc ?_ _)); exact BK622.out⟩
        have n7_ : Aside0 (Below w.heap.size w ((((((w29.setCell ⟨gb622, 0, none⟩ (.int .i64 ((rd_T55 l0_5 x18_1).f0))).setCell ⟨gb622, 1, none⟩ (.int .i64 ((rd_T55 l0_5 x18_1).f1))).setCell ⟨gb622, 2, none⟩ (.slice A621_2 ((rd_T55 l0_5 x18_1).f2).length c621_2)).setCell ⟨gb622, 3, none⟩ (.int .i64 ((rd_T55 l0_5 x18_1).f3.f0))).setCell ⟨gb622, 4, none⟩ (.int .i64 ((rd_T55 l0_5 x18_1).f3.f1))).setCell ⟨gb622, 5, none⟩ (.int .i64 ((rd_T55 l0_5 x18_1).f3.f2)))) := ⟨TB⟩
        (try clear HO_621000)
        (try clear HO_621001)
        (try clear HO_621005)
        (try clear BK612)
        (try clear BK613)
        (try clear BK620)
        (try clear BK622)
        (try clear HB)
        generalize ((((((w29.setCell ⟨gb622, 0, none⟩ (.int .i64 ((rd_T55 l0_5 x18_1).f0))).setCell ⟨gb622, 1, none⟩ (.int .i64 ((rd_T55 l0_5 x18_1).f1))).setCell ⟨gb622, 2, none⟩ (.slice A621_2 ((rd_T55 l0_5 x18_1).f2).length c621_2)).setCell ⟨gb622, 3, none⟩ (.int .i64 ((rd_T55 l0_5 x18_1).f3.f0))).setCell ⟨gb622, 4, none⟩ (.int .i64 ((rd_T55 l0_5 x18_1).f3.f1))).setCell ⟨gb622, 5, none⟩ (.int .i64 ((rd_T55 l0_5 x18_1).f3.f2))) = w34 at n0_ n1_ n2_ n3_ n4_ n5_ n6_ n7_ ⊢
        have HO_621000 := n0_
        have HO_621001 := n1_
        have HO_621005 := n2_
        have BK612 := n3_
        have BK613 := n4_
        have BK620 := n5_
        have BK622 := n6_
        have HB := n7_
        clear n0_ n1_ n2_ n3_ n4_ n5_ n6_ n7_
        replace HO_621000 := aM (Kd.R_drew HO_621000.out)
        replace HO_621001 := aM (Kd.R_drew HO_621001.out)
        replace HO_621005 := aM (Kd.S_drew HO_621005.out)
        replace BK612 := aM (blk_drew BK612.out)
        replace BK613 := aM (blk_drew BK613.out)
        replace BK620 := aM (blk_drew BK620.out)
        replace BK622 := aM (blk_drew BK622.out)
        replace HB := aM (below_drew1 HB.out)
        refine start_ (n := 8) (S := fun w' => w'.cell? ⟨gb620, 0, none⟩ = some (.slice Ao14 t614.length co14) ∧ w'.cell? ⟨gb620, 1, none⟩ = some (.slice Ao13 t617.length co13) ∧ w'.cell? ⟨gb620, 2, none⟩ = some (.int .i64 a0_2) ∧ w'.cell? ⟨gb620, 3, none⟩ = some (.int .i64 a0_3) ∧ w'.cell? ⟨gb620, 4, none⟩ = some (.int .i64 a0_4) ∧ w'.cell? ⟨gb620, 5, none⟩ = some (u621005) ∧ w'.cell? ⟨gb622, 0, none⟩ = some (.int .i64 ((rd_T55 l0_5 x18_1).f0)) ∧ w'.cell? ⟨gb622, 1, none⟩ = some (.int .i64 ((rd_T55 l0_5 x18_1).f1)) ∧ w'.cell? ⟨gb622, 2, none⟩ = some (.slice A621_2 ((rd_T55 l0_5 x18_1).f2).length c621_2) ∧ w'.cell? ⟨gb622, 3, none⟩ = some (.int .i64 ((rd_T55 l0_5 x18_1).f3.f0)) ∧ w'.cell? ⟨gb622, 4, none⟩ = some (.int .i64 ((rd_T55 l0_5 x18_1).f3.f1)) ∧ w'.cell? ⟨gb622, 5, none⟩ = some (.int .i64 ((rd_T55 l0_5 x18_1).f3.f2))) (ds := [7]) #[false, false, false, false, false, false, false, false] (by kernel_rfl) rfl rfl ⟨(blk_cell BK620.out 0).trans rfl, (blk_cell BK620.out 1).trans rfl, (blk_cell BK620.out 2).trans rfl, (blk_cell BK620.out 3).trans rfl, (blk_cell BK620.out 4).trans rfl, (blk_cell BK620.out 5).trans rfl, (blk_cell BK622.out 0).trans rfl, (blk_cell BK622.out 1).trans rfl, (blk_cell BK622.out 2).trans rfl, (blk_cell BK622.out 3).trans rfl, (blk_cell BK622.out 4).trans rfl, (blk_cell BK622.out 5).trans rfl⟩ (fun hHeld => ?_); refine with_tabW impl_copyDisk.tab5 impl_copyDisk.bits5 (fun HT_ HW_ => ?_)
        generalize w34.drew = w35 at HO_621000 HO_621001 HO_621005 BK612 BK613 BK620 BK622 HB hHeld ⊢
        refine pPe 0 (some 22) #[true, false, false, false, false, false, false, false] ?_
        refine pTe 1 (some 23) #[true, true, false, false, false, false, false, false] ?_
        refine pTe 2 (some 24) #[true, true, true, false, false, false, false, false] ?_
        refine pOe 3 (some 25) #[true, true, true, true, false, false, false, false] (fun K hK => ?_)
        refine gG Try.func93 #[.agg #[.int .i64 ((rd_T55 l0_5 x18_1).f0), .int .i64 ((rd_T55 l0_5 x18_1).f1), .slice A621_2 ((rd_T55 l0_5 x18_1).f2).length c621_2, .int .i64 ((rd_T55 l0_5 x18_1).f3.f0), .int .i64 ((rd_T55 l0_5 x18_1).f3.f1), .int .i64 ((rd_T55 l0_5 x18_1).f3.f2)]] ?_
        with_reducible refine (impl_copyPut.calls ((rd_T55 l0_5 x18_1).f0) ((rd_T55 l0_5 x18_1).f1) _ _ ((rd_T55 l0_5 x18_1).f2) ((rd_T55 l0_5 x18_1).f3.f0) ((rd_T55 l0_5 x18_1).f3.f1) ((rd_T55 l0_5 x18_1).f3.f2) t623 t624 t625 t628 t629 t630 _ ?side1 ?side2 A27.out).mono ?_
        (case side1 => have X_ := (Kd.C_below HR621_2.out HB.out); exact TC)
        (case side2 => exact HC621_2.out)
        rintro e w36 ⟨v626, rfl, ho0, hb⟩
        refine ⟨_, rfl, ?_⟩
        have n0_ := aM (Kd.R_elder' (by have X_ := HO_621000.out; exact TR) (Kd.R_base ho0) hb)
        have n1_ := aM (Kd.R_elder' (by have X_ := HO_621001.out; exact TR) (Kd.R_base ho0) hb)
        have n2_ := aM (Kd.S_elder' (by have X_ := HO_621005.out; exact TS) (Kd.R_base ho0) hb)
        have n3_ := aM (Kd.R_lower (Kd.R_new' (Kd.R_new' ho0 (Kd.R_lt (by have X_ := HO_621000.out; exact TR))) (Kd.R_lt (by have X_ := HO_621001.out; exact TR))) (below_size TB))
        have n4_ := aM (blk_below (g := gb612) (o := .cells #[.slice A0_0 l0_0.length c0_0, .slice A0_1 l0_1.length c0_1, .int .i64 a0_2, .int .i64 a0_3, .int .i64 a0_4, .slice (some ad621) l0_5.length c0_5] 33 (0, 0)) TK hb)
        have n5_ := aM (blk_below (g := gb613) (o := .cells #[.slice none 0 0, .slice none 0 0, .int .i64 0, .int .i64 0, .int .i64 0, .slice none 0 0] 33 (0, 0)) TK hb)
        have n6_ := aM (blk_below (g := gb620) (o := .cells #[.slice Ao14 t614.length co14, .slice Ao13 t617.length co13, .int .i64 a0_2, .int .i64 a0_3, .int .i64 a0_4, u621005] 33 (0, 0)) TK hb)
        have n7_ := aM (blk_below (g := gb622) (o := .cells #[.int .i64 ((rd_T55 l0_5 x18_1).f0), .int .i64 ((rd_T55 l0_5 x18_1).f1), .slice A621_2 ((rd_T55 l0_5 x18_1).f2).length c621_2, .int .i64 ((rd_T55 l0_5 x18_1).f3.f0), .int .i64 ((rd_T55 l0_5 x18_1).f3.f1), .int .i64 ((rd_T55 l0_5 x18_1).f3.f2)] 55 (0, 0)) TK hb)
        have n8_ := aM (below_step TB hb)
        clear HO_621000
        clear HO_621001
        clear HO_621005
        clear BK612
        clear BK613
        clear BK620
        clear BK622
        clear HB
        have HO_621000 := n0_
        have HO_621001 := n1_
        have HO_621005 := n2_
        have HO627 := n3_
        have BK612 := n4_
        have BK613 := n5_
        have BK620 := n6_
        have BK622 := n7_
        have HB := n8_
        clear n0_ n1_ n2_ n3_ n4_ n5_ n6_ n7_ n8_
        (try clear hb)
        (try clear hb2)
        (try clear hk)
        (try clear hi)
        (try clear ho0)
        obtain ⟨Ao38, co38, eo38⟩ := Kd.R_slice HO627.out
        (first | subst eo38 | (injection eo38 with f1_ f2_ f3_; have f4_ := f1_.symm; have f5_ := f3_.symm; clear f1_ f2_ f3_; subst f4_; subst f5_))
        refine hK.out _ _ ⟨(blk_cell BK620.out 0).trans rfl, (blk_cell BK620.out 1).trans rfl, (blk_cell BK620.out 2).trans rfl, (blk_cell BK620.out 3).trans rfl, (blk_cell BK620.out 4).trans rfl, (blk_cell BK620.out 5).trans rfl, (blk_cell BK622.out 0).trans rfl, (blk_cell BK622.out 1).trans rfl, (blk_cell BK622.out 2).trans rfl, (blk_cell BK622.out 3).trans rfl, (blk_cell BK622.out 4).trans rfl, (blk_cell BK622.out 5).trans rfl⟩ (fun hHeld => ?_)
        clear hK K
        refine nR ?_
        refine pOe 4 (some 26) #[true, true, true, true, true, false, false, false] (fun K hK => ?_)
        refine value_ (w1 := ?_) (v := ?_) (by rfl) rfl ?_ ?_
        rotate_left 2
        · go_simp
          constructor
          · rfl
          · rfl
        refine hK.out _ _ ⟨(blk_cell (blk_alloc BK620.out _) 0).trans rfl, (blk_cell (blk_alloc BK620.out _) 1).trans rfl, (blk_cell (blk_alloc BK620.out _) 2).trans rfl, (blk_cell (blk_alloc BK620.out _) 3).trans rfl, (blk_cell (blk_alloc BK620.out _) 4).trans rfl, (blk_cell (blk_alloc BK620.out _) 5).trans rfl, (blk_cell (blk_alloc BK622.out _) 0).trans rfl, (blk_cell (blk_alloc BK622.out _) 1).trans rfl, (blk_cell (blk_alloc BK622.out _) 2).trans rfl, (blk_cell (blk_alloc BK622.out _) 3).trans rfl, (blk_cell (blk_alloc BK622.out _) 4).trans rfl, (blk_cell (blk_alloc BK622.out _) 5).trans rfl⟩ (fun hHeld => ?_)
        clear hK K
        refine nR ?_
        refine pOe 5 (some 27) #[true, true, true, true, true, true, false, false] (fun K hK => ?_)
        refine Kd.S_append_step k55 (w0 := w) w.heap.size (by rfl) (.tmp 23) (.tmp 26) 31 55 (.agg #[(.int .i64 0), (.int .i64 0), (.slice none 0 0), (.int .i64 0), (.int .i64 0), (.int .i64 0)]) 64 rfl Try.underlying31 info55 rfl (by decide) (by omega) u621005 x621005_1 (⟨t623, t624, t625, (⟨t628, t629, t630⟩ : S30)⟩ : S55) [.int .i64 t623, .int .i64 t624, .slice Ao38 t625.length co38, .int .i64 t628, .int .i64 t629, .int .i64 t630] (fun k_ => some k_ ≠ (.slice Ao14 t614.length co14 : Value).ownBlock ∧ some k_ ≠ (.slice Ao13 t617.length co13 : Value).ownBlock ∧ k_ ≠ gb622) (fun k_ => some k_ = (.slice Ao38 t625.length co38 : Value).ownBlock) rfl rfl ?aP (fun k_ hk_ => ((Kd.R_mono (ok' := fun k_ => ((fun k_ => some k_ ≠ (.slice Ao14 t614.length co14 : Value).ownBlock ∧ some k_ ≠ (.slice Ao13 t617.length co13 : Value).ownBlock ∧ k_ ≠ gb622)) k_ ∧ some k_ ≠ (u621005 : Value).ownBlock) (Kd.R_types (Kd.R_apart' (HO627.out) (Kd.S_typed HO_621005.out) (by decide)) BK622.out (by decide)) (fun k_ hk => ⟨⟨hk.1.1.1.2, ⟨hk.1.1.2, hk.2⟩⟩, hk.1.2⟩))).1 k_ hk_.symm) ?aF ?aO ?aB ?aS ?aL ?_
        (case aP => exact k55_mkM _ _ _ (⟨t623, t624, t625, (⟨t628, t629, t630⟩ : S30)⟩ : S55) (Kd.R_mono (Kd.R_tight rfl (Kd.R_mono (ok' := fun k_ => ((fun k_ => some k_ ≠ (.slice Ao14 t614.length co14 : Value).ownBlock ∧ some k_ ≠ (.slice Ao13 t617.length co13 : Value).ownBlock ∧ k_ ≠ gb622)) k_ ∧ some k_ ≠ (u621005 : Value).ownBlock) (Kd.R_types (Kd.R_apart' (HO627.out) (Kd.S_typed HO_621005.out) (by decide)) BK622.out (by decide)) (fun k_ hk => ⟨⟨hk.1.1.1.2, ⟨hk.1.1.2, hk.2⟩⟩, hk.1.2⟩))) (fun _ h_ => h_)))
        (case aB => exact TB)
        (case aF => exact (fun k_ hk => ⟨Kd.fresh' (Kd.R_lt (by have X_ := HO_621000.out; exact TR)) k_ hk, Kd.fresh' (Kd.R_lt (by have X_ := HO_621001.out; exact TR)) k_ hk, Kd.freshB (g := gb622) (o := .cells #[.int .i64 ((rd_T55 l0_5 x18_1).f0), .int .i64 ((rd_T55 l0_5 x18_1).f1), .slice A621_2 ((rd_T55 l0_5 x18_1).f2).length c621_2, .int .i64 ((rd_T55 l0_5 x18_1).f3.f0), .int .i64 ((rd_T55 l0_5 x18_1).f3.f1), .int .i64 ((rd_T55 l0_5 x18_1).f3.f2)] 55 (0, 0)) TK k_ hk⟩))
        (case aO => exact (by (with_reducible repeat (first | apply Kd.S_alloc | apply Kd.S_drewN | apply Kd.S_drew)); exact Kd.S_mono HO_621005.out (fun k_ hk => ⟨⟨hk.1.1, ⟨hk.1.2.1, hk.1.2.2⟩⟩, fun e_ => hk.2 e_⟩)))
        (case aS => exact (below_size TB))
        (case aL => have := LMc28.out; omega)
        intro v632 w37 ho hb hg hat
        rw [← Ny631.out] at ho
        have n0_ := aM (Kd.R_over' (by have X_ := HO_621000.out; exact TR) (Kd.S_typed (by have X_ := HO_621005.out; exact TS)) (by decide) hg)
        have n1_ := aM (Kd.R_over' (by have X_ := HO_621001.out; exact TR) (Kd.S_typed (by have X_ := HO_621005.out; exact TS)) (by decide) hg)
        have n2_ := aM (blk_grown (g := gb612) (o := .cells #[.slice A0_0 l0_0.length c0_0, .slice A0_1 l0_1.length c0_1, .int .i64 a0_2, .int .i64 a0_3, .int .i64 a0_4, .slice (some ad621) l0_5.length c0_5] 33 (0, 0)) TK hg (Kd.S_ne HO_621005.out BK612.out (by decide)))
        have n3_ := aM (blk_grown (g := gb613) (o := .cells #[.slice none 0 0, .slice none 0 0, .int .i64 0, .int .i64 0, .int .i64 0, .slice none 0 0] 33 (0, 0)) TK hg (Kd.S_ne HO_621005.out BK613.out (by decide)))
        have n4_ := aM (blk_grown (g := gb620) (o := .cells #[.slice Ao14 t614.length co14, .slice Ao13 t617.length co13, .int .i64 a0_2, .int .i64 a0_3, .int .i64 a0_4, u621005] 33 (0, 0)) TK hg (Kd.S_ne HO_621005.out BK620.out (by decide)))
        have n5_ := aM (blk_grown (g := gb622) (o := .cells #[.int .i64 ((rd_T55 l0_5 x18_1).f0), .int .i64 ((rd_T55 l0_5 x18_1).f1), .slice A621_2 ((rd_T55 l0_5 x18_1).f2).length c621_2, .int .i64 ((rd_T55 l0_5 x18_1).f3.f0), .int .i64 ((rd_T55 l0_5 x18_1).f3.f1), .int .i64 ((rd_T55 l0_5 x18_1).f3.f2)] 55 (0, 0)) TK hg (Kd.S_away HO_621005.out (fun _ hk => hk.1.2.2)))
        have n6_ := aM (hb)
        have n7_ := aM (ho)
        clear HO_621000
        clear HO_621001
        clear BK612
        clear BK613
        clear BK620
        clear BK622
        clear HB
        clear HO_621005
        clear HO627
        have HO_621000 := n0_
        have HO_621001 := n1_
        have BK612 := n2_
        have BK613 := n3_
        have BK620 := n4_
        have BK622 := n5_
        have HB := n6_
        have HO633 := n7_
        clear n0_ n1_ n2_ n3_ n4_ n5_ n6_ n7_
        clear ho hb hg hat
        obtain ⟨Ao39, co39, eo39⟩ := Kd.S_slice HO633.out
        (first | subst eo39 | (injection eo39 with f1_ f2_ f3_; have f4_ := f1_.symm; have f5_ := f3_.symm; clear f1_ f2_ f3_; subst f4_; subst f5_))
        refine hK.out _ _ ⟨(blk_cell BK620.out 0).trans rfl, (blk_cell BK620.out 1).trans rfl, (blk_cell BK620.out 2).trans rfl, (blk_cell BK620.out 3).trans rfl, (blk_cell BK620.out 4).trans rfl, (blk_cell BK620.out 5).trans rfl, (blk_cell BK622.out 0).trans rfl, (blk_cell BK622.out 1).trans rfl, (blk_cell BK622.out 2).trans rfl, (blk_cell BK622.out 3).trans rfl, (blk_cell BK622.out 4).trans rfl, (blk_cell BK622.out 5).trans rfl⟩ (fun hHeld => ?_)
        clear hK K
        refine nR ?_
        refine pPe 6 (some 28) #[true, true, true, true, true, true, true, false] ?_
        refine pLe 7 none #[true, true, true, true, true, true, true, true] (fun K hK => ?_)
        have hs40 : w37.cell? ⟨gb620, 5, none⟩ = some (u621005) := (blk_cell BK620.out 5).trans rfl
        have hfs40 := blk_frozen BK620.out 5
        have hns40_0 := NB612_620.out
        have hns40_1 := NB613_620.out
        have hns40_3 := NB622_620.out
        have hms40_0 := NB620_612.out
        have hms40_1 := NB620_613.out
        have hms40_3 := NB620_622.out
        refine skip_ (w1 := ?_) (by rfl) rfl ?_ ?_
        rotate_left
        · go_simp
          rfl
        refine hK.out _ _ ?_
        clear hK K
        refine done_ (done_of HT_.out (by kernel_rfl)) ?_
        try go_wp2
        go_roundg k1
        case measure => have := HK1.out; omega
        case rel => exact ⟨(wrap64 (x18_1 + 1)), (y631), (.slice Ao39 y631.length co39), (by first | rfl | (simp; done) | (simp [*]; done)), H', ⟨by have := HK1.out; omega⟩, ⟨by (with_reducible repeat (first | apply Kd.R_alloc | apply Kd.R_drewN | apply Kd.R_drew)); exact Kd.R_mono (Kd.R_far (p := ⟨gb620, 5, none⟩) (Kd.R_types HO_621000.out BK620.out (by decide)) (fun _ hk => hk.2) (.slice Ao39 y631.length co39)) (fun _ hk => hk.1.1)⟩, ⟨by (with_reducible repeat (first | apply Kd.R_alloc | apply Kd.R_drewN | apply Kd.R_drew)); exact Kd.R_mono (Kd.R_far (p := ⟨gb620, 5, none⟩) (Kd.R_types HO_621001.out BK620.out (by decide)) (fun _ hk => hk.2) (.slice Ao39 y631.length co39)) (fun _ hk => hk.1.1)⟩, ⟨by (with_reducible repeat (first | apply Kd.S_alloc | apply Kd.S_drewN | apply Kd.S_drew)); exact Kd.S_mono (Kd.S_far (p := ⟨gb620, 5, none⟩) (Kd.S_types HO633.out BK620.out (by decide)) (fun _ hk => hk.2) (.slice Ao39 y631.length co39)) (fun _ hk => ⟨hk.1.1, hk.1.2.1⟩)⟩, ⟨by (with_reducible repeat (first | refine blk_drewN ?_ _ | refine blk_drew ?_ | refine blk_alloc ?_ _)); refine blk_far ?_ NB612_620.out _; (with_reducible repeat (first | refine blk_drewN ?_ _ | refine blk_drew ?_ | refine blk_alloc ?_ _)); exact BK612.out⟩, ⟨by (with_reducible repeat (first | refine blk_drewN ?_ _ | refine blk_drew ?_ | refine blk_alloc ?_ _)); refine blk_far ?_ NB613_620.out _; (with_reducible repeat (first | refine blk_drewN ?_ _ | refine blk_drew ?_ | refine blk_alloc ?_ _)); exact BK613.out⟩, ⟨by (with_reducible repeat (first | refine blk_drewN ?_ _ | refine blk_drew ?_ | refine blk_alloc ?_ _)); refine blk_put (cs := #[.slice Ao14 t614.length co14, .slice Ao13 t617.length co13, .int .i64 a0_2, .int .i64 a0_3, .int .i64 a0_4, u621005]) ?_ 5 _ rfl; (with_reducible repeat (first | refine blk_drewN ?_ _ | refine blk_drew ?_ | refine blk_alloc ?_ _)); exact BK620.out⟩, ⟨TB⟩⟩
      · rw [if_neg c24] at H
        have c24b0 : decide (x18_1 < (l0_5.length : Int)) = false := decide_eq_false c24
        clear c24
        simp only [Option.some.injEq, Prod.mk.injEq] at H
        obtain ⟨rfl, rfl, rfl, rfl, rfl, rfl⟩ := H
        have hnb41 := NB620_612.out
        have hnc41 := NB612_620.out
        have hnb42 := NB620_613.out
        have hnc42 := NB613_620.out
        obtain ⟨hcz43_0, hcz43_1, hcz43_2, hcz43_3, hcz43_4, hcz43_5⟩ := cz6 BK620.out
        obtain ⟨hfz43_0, hfz43_1, hfz43_2, hfz43_3, hfz43_4, hfz43_5⟩ := fz6 BK620.out
        have hnb44 := NB613_612.out
        have hnc44 := NB612_613.out
        obtain ⟨hcz45_0, hcz45_1, hcz45_2, hcz45_3, hcz45_4, hcz45_5⟩ := cz6 BK613.out
        obtain ⟨hfz45_0, hfz45_1, hfz45_2, hfz45_3, hfz45_4, hfz45_5⟩ := fz6 BK613.out
        obtain ⟨Ao46, co46, eo46⟩ := Kd.S_slice HO_621005.out
        subst eo46
        go_wp2
        refine bodyPost_ret (results_cell_row rfl _ _ gb613 33 #[.slice Ao14 t614.length co14, .slice Ao13 t617.length co13, .int .i64 a0_2, .int .i64 a0_3, .int .i64 a0_4, .slice Ao46 x621005_1.length co46] (0, 0) _ rfl (by (with_reducible repeat (first | refine blk_drewN ?_ _ | refine blk_drew ?_ | refine blk_alloc ?_ _)); refine blk_put (cs := #[.slice Ao14 t614.length co14, .slice Ao13 t617.length co13, .int .i64 a0_2, .int .i64 a0_3, .int .i64 a0_4, .slice none 0 0]) ?_ 5 _ rfl; (with_reducible repeat (first | refine blk_drewN ?_ _ | refine blk_drew ?_ | refine blk_alloc ?_ _)); refine blk_put (cs := #[.slice Ao14 t614.length co14, .slice Ao13 t617.length co13, .int .i64 a0_2, .int .i64 a0_3, .int .i64 0, .slice none 0 0]) ?_ 4 _ rfl; (with_reducible repeat (first | refine blk_drewN ?_ _ | refine blk_drew ?_ | refine blk_alloc ?_ _)); refine blk_put (cs := #[.slice Ao14 t614.length co14, .slice Ao13 t617.length co13, .int .i64 a0_2, .int .i64 0, .int .i64 0, .slice none 0 0]) ?_ 3 _ rfl; (with_reducible repeat (first | refine blk_drewN ?_ _ | refine blk_drew ?_ | refine blk_alloc ?_ _)); refine blk_put (cs := #[.slice Ao14 t614.length co14, .slice Ao13 t617.length co13, .int .i64 0, .int .i64 0, .int .i64 0, .slice none 0 0]) ?_ 2 _ rfl; (with_reducible repeat (first | refine blk_drewN ?_ _ | refine blk_drew ?_ | refine blk_alloc ?_ _)); refine blk_put (cs := #[.slice Ao14 t614.length co14, .slice none 0 0, .int .i64 0, .int .i64 0, .int .i64 0, .slice none 0 0]) ?_ 1 _ rfl; (with_reducible repeat (first | refine blk_drewN ?_ _ | refine blk_drew ?_ | refine blk_alloc ?_ _)); refine blk_put (cs := #[.slice none 0 0, .slice none 0 0, .int .i64 0, .int .i64 0, .int .i64 0, .slice none 0 0]) ?_ 0 _ rfl; (with_reducible repeat (first | refine blk_drewN ?_ _ | refine blk_drew ?_ | refine blk_alloc ?_ _)); exact BK613.out) Try.underlying33 rfl (by kernel_rfl)) rfl ?_
        exact ⟨_, _, _, by first | rfl | (simp [errW_none, errW_some] <;> rfl) | (simp [*, errW_none, errW_some] <;> rfl), by (with_reducible repeat (first | apply Kd.R_alloc | apply Kd.R_drewN | apply Kd.R_drew)); exact Kd.R_mono (Kd.R_far (p := ⟨gb613, 5, none⟩) (Kd.R_far (p := ⟨gb613, 4, none⟩) (Kd.R_far (p := ⟨gb613, 3, none⟩) (Kd.R_far (p := ⟨gb613, 2, none⟩) (Kd.R_far (p := ⟨gb613, 1, none⟩) (Kd.R_far (p := ⟨gb613, 0, none⟩) (Kd.R_types HO_621000.out BK613.out (by decide)) (fun _ hk => hk.2) (.slice Ao14 t614.length co14)) (fun _ hk => hk.2) (.slice Ao13 t617.length co13)) (fun _ hk => hk.2) (.int .i64 a0_2)) (fun _ hk => hk.2) (.int .i64 a0_3)) (fun _ hk => hk.2) (.int .i64 a0_4)) (fun _ hk => hk.2) (.slice Ao46 x621005_1.length co46)) (fun _ hk => hk.1), by (with_reducible repeat (first | apply Kd.R_alloc | apply Kd.R_drewN | apply Kd.R_drew)); exact Kd.R_mono (Kd.R_far (p := ⟨gb613, 5, none⟩) (Kd.R_far (p := ⟨gb613, 4, none⟩) (Kd.R_far (p := ⟨gb613, 3, none⟩) (Kd.R_far (p := ⟨gb613, 2, none⟩) (Kd.R_far (p := ⟨gb613, 1, none⟩) (Kd.R_far (p := ⟨gb613, 0, none⟩) (Kd.R_types HO_621001.out BK613.out (by decide)) (fun _ hk => hk.2) (.slice Ao14 t614.length co14)) (fun _ hk => hk.2) (.slice Ao13 t617.length co13)) (fun _ hk => hk.2) (.int .i64 a0_2)) (fun _ hk => hk.2) (.int .i64 a0_3)) (fun _ hk => hk.2) (.int .i64 a0_4)) (fun _ hk => hk.2) (.slice Ao46 x621005_1.length co46)) (fun _ hk => hk.1), by (with_reducible repeat (first | apply Kd.S_alloc | apply Kd.S_drewN | apply Kd.S_drew)); exact Kd.S_mono (Kd.S_far (p := ⟨gb613, 5, none⟩) (Kd.S_far (p := ⟨gb613, 4, none⟩) (Kd.S_far (p := ⟨gb613, 3, none⟩) (Kd.S_far (p := ⟨gb613, 2, none⟩) (Kd.S_far (p := ⟨gb613, 1, none⟩) (Kd.S_far (p := ⟨gb613, 0, none⟩) (Kd.S_types HO_621005.out BK613.out (by decide)) (fun _ hk => hk.2) (.slice Ao14 t614.length co14)) (fun _ hk => hk.2) (.slice Ao13 t617.length co13)) (fun _ hk => hk.2) (.int .i64 a0_2)) (fun _ hk => hk.2) (.int .i64 a0_3)) (fun _ hk => hk.2) (.int .i64 a0_4)) (fun _ hk => hk.2) (.slice Ao46 x621005_1.length co46)) (fun _ hk => ⟨hk.1.1, hk.1.2⟩), TB⟩

end Go.Proofs.Ytogilihkphjjbaa.Q
