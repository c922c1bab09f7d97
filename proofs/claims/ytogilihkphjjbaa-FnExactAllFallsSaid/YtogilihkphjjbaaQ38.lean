/- Functions of the program as plain Lean functions, and that a call of each comes to what its function tells. Written by a program of this seat. -/
import Derived.Test.YtogilihkphjjbaaQ0
import Derived.Test.YtogilihkphjjbaaQ11
import Derived.Test.YtogilihkphjjbaaQ37
namespace Go.Proofs.Ytogilihkphjjbaa.Q
open Go.RowKit Go.Proofs.YtogilihkphjjbaaW.PrintWords Go.Proofs.YtogilihkphjjbaaW.PrintLast Go.Proofs.YtogilihkphjjbaaW.PrintMore
attribute [local go_sem] max2_int min2_int max_two min_two max_three min_three max_four min_four   -- for this text's walks alone
set_option linter.unusedVariables false
set_option linter.unusedSimpArgs false

/-! ### impl_copyDisk: function 78 -/
def impl_copyDisk.l0 : Nat → List (S55) → Int → Int → List Int → List Int → Int → Int → Int → List (S55) → Option (List Int × List Int × Int × Int × Int × (List (S55)))
  | 0, _, _, _, _, _, _, _, _, _ => none
  | k + 1, x16, x17, x18, x590000, x590001, x590002, x590003, x590004, x590005 => if x18 < x17 then (if 0 ≤ x18 then (if x18 < (x16.length : Int) then ((impl_copyPut.f ((rd_T55 x16 x18).f0) ((rd_T55 x16 x18).f1) ((rd_T55 x16 x18).f2) ((rd_T55 x16 x18).f3.f0) ((rd_T55 x16 x18).f3.f1) ((rd_T55 x16 x18).f3.f2)).bind fun bt592 => (if x590005.length < 2199023255552 then (impl_copyDisk.l0 k x16 x17 (wrap64 (x18 + 1)) x590000 x590001 x590002 x590003 x590004 (x590005 ++ [(⟨bt592.1, bt592.2.1, bt592.2.2.1, (⟨bt592.2.2.2.1, bt592.2.2.2.2.1, bt592.2.2.2.2.2⟩ : S30)⟩ : S55)])) else (none))) else (none)) else (none)) else (some (x590000, x590001, x590002, x590003, x590004, x590005))
def impl_copyDisk.f (k : Nat) (l0_0 : List Int) (l0_1 : List Int) (a0_2 : Int) (a0_3 : Int) (a0_4 : Int) (l0_5 : List (S55)) : Option (List Int × List Int × Int × Int × Int × (List (S55))) := (impl_cloned.f l0_0).bind fun t583 => ((impl_cloned.f l0_1).bind fun t586 => (impl_copyDisk.l0 k l0_5 (l0_5.length : Int) 0 t583 t586 a0_2 a0_3 a0_4 ([] : List (S55))))
theorem impl_copyDisk.mono_l : ∀ k, (∀ y0 y1 y2 y3 y4 y5 y6 y7 y8, LeO (impl_copyDisk.l0 k y0 y1 y2 y3 y4 y5 y6 y7 y8) (impl_copyDisk.l0 (k + 1) y0 y1 y2 y3 y4 y5 y6 y7 y8))
  | 0 => fun _ _ _ _ _ _ _ _ _ r h => by simp [impl_copyDisk.l0] at h
  | k + 1 => by
    have ih0 := impl_copyDisk.mono_l k
    · intro y0 y1 y2 y3 y4 y5 y6 y7 y8
      unfold impl_copyDisk.l0
      exact LM
theorem impl_copyDisk.mono : ∀ a0 a1 a2 a3 a4 a5 k, LeO (impl_copyDisk.f k a0 a1 a2 a3 a4 a5) (impl_copyDisk.f (k + 1) a0 a1 a2 a3 a4 a5) := by
  intro a0 a1 a2 a3 a4 a5 k
  have ih0 := impl_copyDisk.mono_l k
  unfold impl_copyDisk.f
  exact LM
def impl_copyDisk.T1 : Bool × List (List Nat × List Nat) := (true, [([], []), ([0], [0]), ([1], [1]), ([], []), ([3], [3]), ([4, 2], [4]), ([], []), ([6], [6]), ([2, 5, 7], [2, 5, 7]), ([], []), ([9, 8, 5, 0, 1, 2, 3, 4, 5, 6, 7, 8, 9], [8, 9])])
def impl_copyDisk.B1 : List Nat := [0, 1, 3, 0, 8, 31, 0, 64, 255, 0, 1023]
theorem impl_copyDisk.tab1 : rtab .any (opsOf Try.f78 1) = impl_copyDisk.T1 := by kernel_rfl
theorem impl_copyDisk.bits1 : waitsOk impl_copyDisk.T1.2 impl_copyDisk.B1 = true := by kernel_rfl
def impl_copyDisk.T5 : Bool × List (List Nat × List Nat) := (true, [([], []), ([0], [0]), ([], []), ([2], [2]), ([3], [3]), ([1, 4, 3], [1, 4]), ([0, 1, 2, 3, 4, 5], []), ([6, 5, 5, 0, 1, 2, 3, 4, 5], [5, 6])])
def impl_copyDisk.B5 : List Nat := [0, 1, 0, 4, 12, 31, 63, 127]
theorem impl_copyDisk.tab5 : rtab .any (opsOf Try.f78 5) = impl_copyDisk.T5 := by kernel_rfl
theorem impl_copyDisk.bits5 : waitsOk impl_copyDisk.T5.2 impl_copyDisk.B5 = true := by kernel_rfl
set_option maxHeartbeats 40000000 in
set_option maxRecDepth 100000 in
theorem impl_copyDisk.calls (k : Nat) (aD : Option Addr) (aG : Nat) (aw : List Int) (aA : Option Addr) (az : Nat) (av : List Int) (ai : Int) (ak : Int) (am : Int) (aT : Option Addr) (aI : Nat) (ab : List (S55)) (r1 : List Int) (r2 : List Int) (r3 : Int) (r4 : Int) (r5 : Int) (r6 : List (S55)) (w : World) (bK : Kd.C (Kd.int .u8) w aD aw.length aw) (bI : aw.length ≤ aG) (bL : Kd.C (Kd.int .u8) w aA av.length av) (bM : av.length ≤ az) (bN : Kd.C k55 w aT ab.length ab) (bF : ab.length ≤ aI) (h : impl_copyDisk.f k aw av ai ak am ab = some (r1, r2, r3, r4, r5, r6)) :
  Calls Try.prog 78 #[.agg #[.slice aD aw.length aG, .slice aA av.length az, .int .i64 ai, .int .i64 ak, .int .i64 am, .slice aT ab.length aI]] w fun e w' => ∃ v0_ v1_ v5_ : Value, e = .returned (.agg #[v0_, v1_, .int .i64 r3, .int .i64 r4, .int .i64 r5, v5_]) ∧ Kd.R (Kd.int .u8) 5 w' w.heap.size (fun k_ => some k_ ≠ (v1_ : Value).ownBlock) v0_ r1 ∧ Kd.R (Kd.int .u8) 5 w' w.heap.size (fun k_ => some k_ ≠ (v0_ : Value).ownBlock) v1_ r2 ∧ Kd.S k55 55 w' w.heap.size (fun k_ => some k_ ≠ (v0_ : Value).ownBlock ∧ some k_ ≠ (v1_ : Value).ownBlock) v5_ r6 ∧ Below w.heap.size w w' := by
 have hu33 := Try.underlying33
 have hu30 := Try.underlying30
 have hu55 := Try.underlying55
 have bJ := aM bK
 have bH := aM bI
 clear bK bI
 have bu := aM bL
 have bw := aM bM
 clear bL bM
 have HR0_5 := aM bN
 have HC0_5 := aM bF
 clear bN bF
 have HB := aM (Below.refl w.heap.size w)
 have H := h
 clear h
 unfold impl_copyDisk.f at H
 replace H := bE H
 obtain ⟨ap, A2, H⟩ := H
 replace H := bE H
 obtain ⟨aq, A3, H⟩ := H
 have H' := aM H
 clear H
 go_enter Try.func78, Try.ntmps78
 try go_wp2_with (first | ((with_reducible refine gate_dst (N := 1) rfl ?_); refine gBx 1 #[.slice aD aw.length aG, .slice aA av.length az, .int .i64 ai, .int .i64 ak, .int .i64 am, .slice aT ab.length aI] 33 ?_; intro ag hg w4 hbox hb; have ah := aM (hbox); have GW581 := aM ((by rw [hg]; exact (below_size TB) : w.heap.size ≤ ag)); have GE581 := aM ((by rw [hg]; exact (below_size TB) : w.heap.size ≤ ag)); replace HB := aM (below_step TB hb); clear hb hbox hg) | ((with_reducible refine gate_dst (N := 2) rfl ?_); refine gBx 2 #[.slice none 0 0, .slice none 0 0, .int .i64 0, .int .i64 0, .int .i64 0, .slice none 0 0] 33 ?_; intro gb582 hg w5 hbox hb; have al := aM (hbox); have GW582 := aM ((by rw [hg]; exact (below_size TB) : w.heap.size ≤ gb582)); have GE582 := aM ((by rw [hg]; exact (below_size TB) : w.heap.size ≤ gb582)); have NB581_582 := aM ((by rw [hg]; exact Nat.ne_of_lt (blk_lt (g := ag) (o := .cells #[.slice aD aw.length aG, .slice aA av.length az, .int .i64 ai, .int .i64 ak, .int .i64 am, .slice aT ab.length aI] 33 (0, 0)) TK) : ag ≠ gb582)); have NB582_581 := aM ((by rw [hg]; exact Nat.ne_of_gt (blk_lt (g := ag) (o := .cells #[.slice aD aw.length aG, .slice aA av.length az, .int .i64 ai, .int .i64 ak, .int .i64 am, .slice aT ab.length aI] 33 (0, 0)) TK) : gb582 ≠ ag)); replace ah := aM (blk_below (g := ag) (o := .cells #[.slice aD aw.length aG, .slice aA av.length az, .int .i64 ai, .int .i64 ak, .int .i64 am, .slice aT ab.length aI] 33 (0, 0)) TK hb); replace HB := aM (below_step TB hb); clear hb hbox hg))
 replace ah := aM (blk_drew ah.out)
 replace al := aM (blk_drew al.out)
 replace HB := aM (below_drew1 HB.out)
 refine start_ (n := 11) (S := fun w' => w'.cell? ⟨ag, 0, none⟩ = some (.slice aD aw.length aG) ∧ w'.cell? ⟨ag, 1, none⟩ = some (.slice aA av.length az) ∧ w'.cell? ⟨ag, 2, none⟩ = some (.int .i64 ai) ∧ w'.cell? ⟨ag, 3, none⟩ = some (.int .i64 ak) ∧ w'.cell? ⟨ag, 4, none⟩ = some (.int .i64 am) ∧ w'.cell? ⟨ag, 5, none⟩ = some (.slice aT ab.length aI)) (ds := []) #[false, false, false, false, false, false, false, false, false, false, false] (by kernel_rfl) rfl rfl (cz6 ah.out) (fun hHeld => ?_); refine with_tabW impl_copyDisk.tab1 impl_copyDisk.bits1 (fun HT_ HW_ => ?_)
 generalize w5.drew = w6 at ah al HB hHeld ⊢
 refine pPe 0 (some 6) #[true, false, false, false, false, false, false, false, false, false, false] ?_
 refine pPe 3 (some 9) #[true, false, false, true, false, false, false, false, false, false, false] ?_
 refine pPe 6 (some 12) #[true, false, false, true, false, false, true, false, false, false, false] ?_
 refine pTe 1 (some 7) #[true, true, false, true, false, false, true, false, false, false, false] ?_
 refine pTe 4 (some 10) #[true, true, false, true, true, false, true, false, false, false, false] ?_
 refine pTe 7 (some 13) #[true, true, false, true, true, false, true, true, false, false, false] ?_
 refine join_ (σ := Value × Value × Nat) 1 #[true, true, true, true, true, true, true, true, true, true, false] (fun s_ => [(8, s_.1), (11, s_.2.1), (3, .pointer (some ⟨s_.2.2, 0, none⟩)), (14, .agg #[s_.1, s_.2.1, .int .i64 ai, .int .i64 ak, .int .i64 am, .slice none 0 0])]) (fun s_ w' => (w'.cell? ⟨ag, 0, none⟩ = some (.slice aD aw.length aG) ∧ w'.cell? ⟨ag, 1, none⟩ = some (.slice aA av.length az) ∧ w'.cell? ⟨ag, 2, none⟩ = some (.int .i64 ai) ∧ w'.cell? ⟨ag, 3, none⟩ = some (.int .i64 ak) ∧ w'.cell? ⟨ag, 4, none⟩ = some (.int .i64 am) ∧ w'.cell? ⟨ag, 5, none⟩ = some (.slice aT ab.length aI)) ∧ (Kd.R (Kd.int .u8) 5 w' w.heap.size (fun k_ => some k_ ≠ (s_.2.1 : Value).ownBlock) s_.1 ap) ∧ (Kd.R (Kd.int .u8) 5 w' w.heap.size (fun k_ => some k_ ≠ (s_.1 : Value).ownBlock) s_.2.1 aq) ∧ (w'.heap[ag]? = some (.cells #[.slice aD aw.length aG, .slice aA av.length az, .int .i64 ai, .int .i64 ak, .int .i64 am, .slice aT ab.length aI] 33 (0, 0))) ∧ (w'.heap[gb582]? = some (.cells #[.slice none 0 0, .slice none 0 0, .int .i64 0, .int .i64 0, .int .i64 0, .slice none 0 0] 33 (0, 0))) ∧ (w'.heap[s_.2.2]? = some (.cells #[.slice none 0 0, .slice none 0 0, .int .i64 0, .int .i64 0, .int .i64 0, .slice none 0 0] 33 (0, 0))) ∧ (w.heap.size ≤ s_.2.2) ∧ (w.heap.size ≤ s_.2.2) ∧ (ag ≠ s_.2.2) ∧ (s_.2.2 ≠ ag) ∧ (gb582 ≠ s_.2.2) ∧ (s_.2.2 ≠ gb582) ∧ (Below w.heap.size w w')) ?_ ?_
 rotate_left
 ·intro hCont
  refine two_ (i := 2) (j := 9) (Ni := some 8) (Nj := some 3) #[true, true, true, true, true, false, true, true, false, false, false] #[true, true, false, true, true, false, true, true, false, true, false] rfl rfl rfl rfl (two_of HT_.out (by kernel_rfl)) (by decide) (by decide) (fun K hK => ?_) (fun K hK => ?_)
  ·skip
   refine gG Try.func63 #[.slice aD aw.length aG] ?_
   with_reducible refine (impl_cloned.calls _ _ aw ap _ ?side1 ?side2 A2.out).mono ?_
   (case side1 => have X_ := (Kd.C_below bJ.out HB.out); exact TC)
   (case side2 => exact bH.out)
   rintro e w7 ⟨bz, rfl, ho0, hb⟩
   refine ⟨_, rfl, ?_⟩
   have n0_ := aM (Kd.R_lower ho0 (below_size TB))
   have n1_ := aM (blk_below (g := ag) (o := .cells #[.slice aD aw.length aG, .slice aA av.length az, .int .i64 ai, .int .i64 ak, .int .i64 am, .slice aT ab.length aI] 33 (0, 0)) TK hb)
   have n2_ := aM (blk_below (g := gb582) (o := .cells #[.slice none 0 0, .slice none 0 0, .int .i64 0, .int .i64 0, .int .i64 0, .slice none 0 0] 33 (0, 0)) TK hb)
   have n3_ := aM (below_step TB hb)
   clear ah
   clear al
   clear HB
   have ax := n0_
   have ah := n1_
   have al := n2_
   have HB := n3_
   clear n0_ n1_ n2_ n3_
   (try clear hb)
   (try clear hb2)
   (try clear hk)
   (try clear hi)
   (try clear ho0)
   refine hK.out _ _ (cz6 ah.out) (fun hHeld => ?_)
   clear hK K
   refine nR ?_
   refine two_ (i := 5) (j := 9) (Ni := some 11) (Nj := some 3) #[true, true, true, true, true, true, true, true, false, false, false] #[true, true, true, true, true, false, true, true, false, true, false] rfl rfl rfl rfl (two_of HT_.out (by kernel_rfl)) (by decide) (by decide) (fun K hK => ?_) (fun K hK => ?_)
   ·skip
    refine gG Try.func63 #[.slice aA av.length az] ?_
    with_reducible refine (impl_cloned.calls _ _ av aq _ ?side1 ?side2 A3.out).mono ?_
    (case side1 => have X_ := (Kd.C_below bu.out HB.out); exact TC)
    (case side2 => exact bw.out)
    rintro e w8 ⟨bh, rfl, ho0, hb⟩
    refine ⟨_, rfl, ?_⟩
    have n0_ := aM (Kd.R_elder' (by have X_ := ax.out; exact TR) (Kd.R_base ho0) hb)
    have n1_ := aM (Kd.R_lower (Kd.R_new' ho0 (Kd.R_lt (by have X_ := ax.out; exact TR))) (below_size TB))
    have n2_ := aM (blk_below (g := ag) (o := .cells #[.slice aD aw.length aG, .slice aA av.length az, .int .i64 ai, .int .i64 ak, .int .i64 am, .slice aT ab.length aI] 33 (0, 0)) TK hb)
    have n3_ := aM (blk_below (g := gb582) (o := .cells #[.slice none 0 0, .slice none 0 0, .int .i64 0, .int .i64 0, .int .i64 0, .slice none 0 0] 33 (0, 0)) TK hb)
    have n4_ := aM (below_step TB hb)
    clear ax
    clear ah
    clear al
    clear HB
    have ax := n0_
    have aV := n1_
    have ah := n2_
    have al := n3_
    have HB := n4_
    clear n0_ n1_ n2_ n3_ n4_
    (try clear hb)
    (try clear hb2)
    (try clear hk)
    (try clear hi)
    (try clear ho0)
    obtain ⟨Ao9, co9, eo9⟩ := Kd.R_slice aV.out
    (first | subst eo9 | (injection eo9 with f1_ f2_ f3_; have f4_ := f1_.symm; have f5_ := f3_.symm; clear f1_ f2_ f3_; subst f4_; subst f5_))
    obtain ⟨bj, bk, aW⟩ := Kd.R_slice ax.out
    (first | subst aW | (injection aW with f1_ f2_ f3_; have f4_ := f1_.symm; have f5_ := f3_.symm; clear f1_ f2_ f3_; subst f4_; subst f5_))
    refine hK.out _ _ (cz6 ah.out) (fun hHeld => ?_)
    clear hK K
    refine nR ?_
    refine pPe 8 (some 14) #[true, true, true, true, true, true, true, true, true, false, false] ?_
    refine pOe 9 (some 3) #[true, true, true, true, true, true, true, true, true, true, false] (fun K hK => ?_)
    refine box_step ?hg (N := 3) ?hd (cs := #[.slice none 0 0, .slice none 0 0, .int .i64 0, .int .i64 0, .int .i64 0, .slice none 0 0]) (t := 33) ?hr ?_; (case hd => rfl); (case hg => rfl); (case hr => first | (go_simp; done) | (go_simp; rfl))
    intro ac hg w11 hbox hb
    have n0_ := aM (Kd.R_below (by have X_ := ax.out; exact TR) hb)
    have n1_ := aM (Kd.R_below (by have X_ := aV.out; exact TR) hb)
    have n2_ := aM (blk_below (g := ag) (o := .cells #[.slice aD aw.length aG, .slice aA av.length az, .int .i64 ai, .int .i64 ak, .int .i64 am, .slice aT ab.length aI] 33 (0, 0)) TK hb)
    have n3_ := aM (blk_below (g := gb582) (o := .cells #[.slice none 0 0, .slice none 0 0, .int .i64 0, .int .i64 0, .int .i64 0, .slice none 0 0] 33 (0, 0)) TK hb)
    have n4_ := aM (below_step TB hb)
    have n5_ := aM (hbox)
    have n6_ := aM ((by rw [hg]; exact (below_size TB) : w.heap.size ≤ ac))
    have n7_ := aM ((by rw [hg]; exact (below_size TB) : w.heap.size ≤ ac))
    have n8_ := aM ((by rw [hg]; exact Nat.ne_of_lt (blk_lt (g := ag) (o := .cells #[.slice aD aw.length aG, .slice aA av.length az, .int .i64 ai, .int .i64 ak, .int .i64 am, .slice aT ab.length aI] 33 (0, 0)) TK) : ag ≠ ac))
    have n9_ := aM ((by rw [hg]; exact Nat.ne_of_gt (blk_lt (g := ag) (o := .cells #[.slice aD aw.length aG, .slice aA av.length az, .int .i64 ai, .int .i64 ak, .int .i64 am, .slice aT ab.length aI] 33 (0, 0)) TK) : ac ≠ ag))
    have bf := aM ((by rw [hg]; exact Nat.ne_of_lt (blk_lt (g := gb582) (o := .cells #[.slice none 0 0, .slice none 0 0, .int .i64 0, .int .i64 0, .int .i64 0, .slice none 0 0] 33 (0, 0)) TK) : gb582 ≠ ac))
    have n11_ := aM ((by rw [hg]; exact Nat.ne_of_gt (blk_lt (g := gb582) (o := .cells #[.slice none 0 0, .slice none 0 0, .int .i64 0, .int .i64 0, .int .i64 0, .slice none 0 0] 33 (0, 0)) TK) : ac ≠ gb582))
    clear ax
    clear aV
    clear ah
    clear al
    clear HB
    have ax := n0_
    have aV := n1_
    have ah := n2_
    have al := n3_
    have HB := n4_
    have af := n5_
    have aZ := n6_
    have aX := n7_
    have ad := n8_
    have ay := n9_
    have ao := bf
    have aH := n11_
    clear n0_ n1_ n2_ n3_ n4_ n5_ n6_ n7_ n8_ n9_ bf n11_
    clear hb hbox hg
    refine hK.out _ _ (cz6 ah.out) (fun hHeld => ?_)
    clear hK K
    refine nR ?_
    exact norm_ (by simp only [putAll, Act.put, List.setIfInBounds_toArray, List.set_cons_zero, List.set_cons_succ]) (hCont (.slice bj ap.length bk, .slice Ao9 aq.length co9, ac) _ ⟨hHeld, (by (with_reducible repeat (first | apply Kd.R_alloc | apply Kd.R_drewN | apply Kd.R_drew)); exact Kd.R_mono ax.out (fun _ hk => hk.2)), (by (with_reducible repeat (first | apply Kd.R_alloc | apply Kd.R_drewN | apply Kd.R_drew)); exact Kd.R_mono aV.out (fun _ hk => hk.2)), TK, TK, TK, aZ.out, aX.out, ad.out, ay.out, ao.out, aH.out, TB⟩)
   ·skip
    refine box_step ?hg (N := 3) ?hd (cs := #[.slice none 0 0, .slice none 0 0, .int .i64 0, .int .i64 0, .int .i64 0, .slice none 0 0]) (t := 33) ?hr ?_; (case hd => rfl); (case hg => rfl); (case hr => first | (go_simp; done) | (go_simp; rfl))
    intro ac hg w8 hbox hb
    have n0_ := aM (Kd.R_below (by have X_ := ax.out; exact TR) hb)
    have n1_ := aM (blk_below (g := ag) (o := .cells #[.slice aD aw.length aG, .slice aA av.length az, .int .i64 ai, .int .i64 ak, .int .i64 am, .slice aT ab.length aI] 33 (0, 0)) TK hb)
    have n2_ := aM (blk_below (g := gb582) (o := .cells #[.slice none 0 0, .slice none 0 0, .int .i64 0, .int .i64 0, .int .i64 0, .slice none 0 0] 33 (0, 0)) TK hb)
    have n3_ := aM (below_step TB hb)
    have n4_ := aM (hbox)
    have n5_ := aM ((by rw [hg]; exact (below_size TB) : w.heap.size ≤ ac))
    have n6_ := aM ((by rw [hg]; exact (below_size TB) : w.heap.size ≤ ac))
    have n7_ := aM ((by rw [hg]; exact Nat.ne_of_lt (blk_lt (g := ag) (o := .cells #[.slice aD aw.length aG, .slice aA av.length az, .int .i64 ai, .int .i64 ak, .int .i64 am, .slice aT ab.length aI] 33 (0, 0)) TK) : ag ≠ ac))
    have n8_ := aM ((by rw [hg]; exact Nat.ne_of_gt (blk_lt (g := ag) (o := .cells #[.slice aD aw.length aG, .slice aA av.length az, .int .i64 ai, .int .i64 ak, .int .i64 am, .slice aT ab.length aI] 33 (0, 0)) TK) : ac ≠ ag))
    have n9_ := aM ((by rw [hg]; exact Nat.ne_of_lt (blk_lt (g := gb582) (o := .cells #[.slice none 0 0, .slice none 0 0, .int .i64 0, .int .i64 0, .int .i64 0, .slice none 0 0] 33 (0, 0)) TK) : gb582 ≠ ac))
    have bf := aM ((by rw [hg]; exact Nat.ne_of_gt (blk_lt (g := gb582) (o := .cells #[.slice none 0 0, .slice none 0 0, .int .i64 0, .int .i64 0, .int .i64 0, .slice none 0 0] 33 (0, 0)) TK) : ac ≠ gb582))
    clear ax
    clear ah
    clear al
    clear HB
    have ax := n0_
    have ah := n1_
    have al := n2_
    have HB := n3_
    have af := n4_
    have aZ := n5_
    have aX := n6_
    have ad := n7_
    have ay := n8_
    have ao := n9_
    have aH := bf
    clear n0_ n1_ n2_ n3_ n4_ n5_ n6_ n7_ n8_ n9_ bf
    clear hb hbox hg
    refine hK.out _ _ (cz6 ah.out) (fun hHeld => ?_)
    clear hK K
    refine nR ?_
    refine pOe 5 (some 11) #[true, true, true, true, true, true, true, true, false, true, false] (fun K hK => ?_)
    refine gG Try.func63 #[.slice aA av.length az] ?_
    with_reducible refine (impl_cloned.calls _ _ av aq _ ?side1 ?side2 A3.out).mono ?_
    (case side1 => have X_ := (Kd.C_below bu.out HB.out); exact TC)
    (case side2 => exact bw.out)
    rintro e w9 ⟨bh, rfl, ho0, hb⟩
    refine ⟨_, rfl, ?_⟩
    have n0_ := aM (Kd.R_elder' (by have X_ := ax.out; exact TR) (Kd.R_base ho0) hb)
    have n1_ := aM (Kd.R_lower (Kd.R_new' ho0 (Kd.R_lt (by have X_ := ax.out; exact TR))) (below_size TB))
    have n2_ := aM (blk_below (g := ag) (o := .cells #[.slice aD aw.length aG, .slice aA av.length az, .int .i64 ai, .int .i64 ak, .int .i64 am, .slice aT ab.length aI] 33 (0, 0)) TK hb)
    have n3_ := aM (blk_below (g := gb582) (o := .cells #[.slice none 0 0, .slice none 0 0, .int .i64 0, .int .i64 0, .int .i64 0, .slice none 0 0] 33 (0, 0)) TK hb)
    have n4_ := aM (blk_below (g := ac) (o := .cells #[.slice none 0 0, .slice none 0 0, .int .i64 0, .int .i64 0, .int .i64 0, .slice none 0 0] 33 (0, 0)) TK hb)
    have n5_ := aM (below_step TB hb)
    clear ax
    clear ah
    clear al
    clear af
    clear HB
    have ax := n0_
    have aV := n1_
    have ah := n2_
    have al := n3_
    have af := n4_
    have HB := n5_
    clear n0_ n1_ n2_ n3_ n4_ n5_
    (try clear hb)
    (try clear hb2)
    (try clear hk)
    (try clear hi)
    (try clear ho0)
    obtain ⟨bj, bk, aW⟩ := Kd.R_slice aV.out
    (first | subst aW | (injection aW with f1_ f2_ f3_; have f4_ := f1_.symm; have f5_ := f3_.symm; clear f1_ f2_ f3_; subst f4_; subst f5_))
    obtain ⟨bA, bD, be⟩ := Kd.R_slice ax.out
    (first | subst be | (injection be with f1_ f2_ f3_; have f4_ := f1_.symm; have f5_ := f3_.symm; clear f1_ f2_ f3_; subst f4_; subst f5_))
    refine hK.out _ _ (cz6 ah.out) (fun hHeld => ?_)
    clear hK K
    refine nR ?_
    refine pPe 8 (some 14) #[true, true, true, true, true, true, true, true, true, true, false] ?_
    exact norm_ (by simp only [putAll, Act.put, List.setIfInBounds_toArray, List.set_cons_zero, List.set_cons_succ]) (hCont (.slice bA ap.length bD, .slice bj aq.length bk, ac) _ ⟨hHeld, (by (with_reducible repeat (first | apply Kd.R_alloc | apply Kd.R_drewN | apply Kd.R_drew)); exact Kd.R_mono ax.out (fun _ hk => hk.2)), (by (with_reducible repeat (first | apply Kd.R_alloc | apply Kd.R_drewN | apply Kd.R_drew)); exact Kd.R_mono aV.out (fun _ hk => hk.2)), TK, TK, TK, aZ.out, aX.out, ad.out, ay.out, ao.out, aH.out, TB⟩)
  ·skip
   refine box_step ?hg (N := 3) ?hd (cs := #[.slice none 0 0, .slice none 0 0, .int .i64 0, .int .i64 0, .int .i64 0, .slice none 0 0]) (t := 33) ?hr ?_; (case hd => rfl); (case hg => rfl); (case hr => first | (go_simp; done) | (go_simp; rfl))
   intro ac hg w7 hbox hb
   have n0_ := aM (blk_below (g := ag) (o := .cells #[.slice aD aw.length aG, .slice aA av.length az, .int .i64 ai, .int .i64 ak, .int .i64 am, .slice aT ab.length aI] 33 (0, 0)) TK hb)
   have n1_ := aM (blk_below (g := gb582) (o := .cells #[.slice none 0 0, .slice none 0 0, .int .i64 0, .int .i64 0, .int .i64 0, .slice none 0 0] 33 (0, 0)) TK hb)
   have n2_ := aM (below_step TB hb)
   have n3_ := aM (hbox)
   have n4_ := aM ((by rw [hg]; exact (below_size TB) : w.heap.size ≤ ac))
   have n5_ := aM ((by rw [hg]; exact (below_size TB) : w.heap.size ≤ ac))
   have n6_ := aM ((by rw [hg]; exact Nat.ne_of_lt (blk_lt (g := ag) (o := .cells #[.slice aD aw.length aG, .slice aA av.length az, .int .i64 ai, .int .i64 ak, .int .i64 am, .slice aT ab.length aI] 33 (0, 0)) TK) : ag ≠ ac))
   have n7_ := aM ((by rw [hg]; exact Nat.ne_of_gt (blk_lt (g := ag) (o := .cells #[.slice aD aw.length aG, .slice aA av.length az, .int .i64 ai, .int .i64 ak, .int .i64 am, .slice aT ab.length aI] 33 (0, 0)) TK) : ac ≠ ag))
   have n8_ := aM ((by rw [hg]; exact Nat.ne_of_lt (blk_lt (g := gb582) (o := .cells #[.slice none 0 0, .slice none 0 0, .int .i64 0, .int .i64 0, .int .i64 0, .slice none 0 0] 33 (0, 0)) TK) : gb582 ≠ ac))
   have n9_ := aM ((by rw [hg]; exact Nat.ne_of_gt (blk_lt (g := gb582) (o := .cells #[.slice none 0 0, .slice none 0 0, .int .i64 0, .int .i64 0, .int .i64 0, .slice none 0 0] 33 (0, 0)) TK) : ac ≠ gb582))
   clear ah
   clear al
   clear HB
   have ah := n0_
   have al := n1_
   have HB := n2_
   have af := n3_
   have aZ := n4_
   have aX := n5_
   have ad := n6_
   have ay := n7_
   have ao := n8_
   have aH := n9_
   clear n0_ n1_ n2_ n3_ n4_ n5_ n6_ n7_ n8_ n9_
   clear hb hbox hg
   refine hK.out _ _ (cz6 ah.out) (fun hHeld => ?_)
   clear hK K
   refine nR ?_
   refine pOe 2 (some 8) #[true, true, true, true, true, false, true, true, false, true, false] (fun K hK => ?_)
   refine gG Try.func63 #[.slice aD aw.length aG] ?_
   with_reducible refine (impl_cloned.calls _ _ aw ap _ ?side1 ?side2 A2.out).mono ?_
   (case side1 => have X_ := (Kd.C_below bJ.out HB.out); exact TC)
   (case side2 => exact bH.out)
   rintro e w8 ⟨bz, rfl, ho0, hb⟩
   refine ⟨_, rfl, ?_⟩
   have n0_ := aM (Kd.R_lower ho0 (below_size TB))
   have n1_ := aM (blk_below (g := ag) (o := .cells #[.slice aD aw.length aG, .slice aA av.length az, .int .i64 ai, .int .i64 ak, .int .i64 am, .slice aT ab.length aI] 33 (0, 0)) TK hb)
   have n2_ := aM (blk_below (g := gb582) (o := .cells #[.slice none 0 0, .slice none 0 0, .int .i64 0, .int .i64 0, .int .i64 0, .slice none 0 0] 33 (0, 0)) TK hb)
   have n3_ := aM (blk_below (g := ac) (o := .cells #[.slice none 0 0, .slice none 0 0, .int .i64 0, .int .i64 0, .int .i64 0, .slice none 0 0] 33 (0, 0)) TK hb)
   have n4_ := aM (below_step TB hb)
   clear ah
   clear al
   clear af
   clear HB
   have ax := n0_
   have ah := n1_
   have al := n2_
   have af := n3_
   have HB := n4_
   clear n0_ n1_ n2_ n3_ n4_
   (try clear hb)
   (try clear hb2)
   (try clear hk)
   (try clear hi)
   (try clear ho0)
   refine hK.out _ _ (cz6 ah.out) (fun hHeld => ?_)
   clear hK K
   refine nR ?_
   refine pOe 5 (some 11) #[true, true, true, true, true, true, true, true, false, true, false] (fun K hK => ?_)
   refine gG Try.func63 #[.slice aA av.length az] ?_
   with_reducible refine (impl_cloned.calls _ _ av aq _ ?side1 ?side2 A3.out).mono ?_
   (case side1 => have X_ := (Kd.C_below bu.out HB.out); exact TC)
   (case side2 => exact bw.out)
   rintro e w9 ⟨bh, rfl, ho0, hb⟩
   refine ⟨_, rfl, ?_⟩
   have n0_ := aM (Kd.R_elder' (by have X_ := ax.out; exact TR) (Kd.R_base ho0) hb)
   have n1_ := aM (Kd.R_lower (Kd.R_new' ho0 (Kd.R_lt (by have X_ := ax.out; exact TR))) (below_size TB))
   have n2_ := aM (blk_below (g := ag) (o := .cells #[.slice aD aw.length aG, .slice aA av.length az, .int .i64 ai, .int .i64 ak, .int .i64 am, .slice aT ab.length aI] 33 (0, 0)) TK hb)
   have n3_ := aM (blk_below (g := gb582) (o := .cells #[.slice none 0 0, .slice none 0 0, .int .i64 0, .int .i64 0, .int .i64 0, .slice none 0 0] 33 (0, 0)) TK hb)
   have n4_ := aM (blk_below (g := ac) (o := .cells #[.slice none 0 0, .slice none 0 0, .int .i64 0, .int .i64 0, .int .i64 0, .slice none 0 0] 33 (0, 0)) TK hb)
   have n5_ := aM (below_step TB hb)
   clear ax
   clear ah
   clear al
   clear af
   clear HB
   have ax := n0_
   have aV := n1_
   have ah := n2_
   have al := n3_
   have af := n4_
   have HB := n5_
   clear n0_ n1_ n2_ n3_ n4_ n5_
   (try clear hb)
   (try clear hb2)
   (try clear hk)
   (try clear hi)
   (try clear ho0)
   obtain ⟨bj, bk, aW⟩ := Kd.R_slice aV.out
   (first | subst aW | (injection aW with f1_ f2_ f3_; have f4_ := f1_.symm; have f5_ := f3_.symm; clear f1_ f2_ f3_; subst f4_; subst f5_))
   obtain ⟨bA, bD, be⟩ := Kd.R_slice ax.out
   (first | subst be | (injection be with f1_ f2_ f3_; have f4_ := f1_.symm; have f5_ := f3_.symm; clear f1_ f2_ f3_; subst f4_; subst f5_))
   refine hK.out _ _ (cz6 ah.out) (fun hHeld => ?_)
   clear hK K
   refine nR ?_
   refine pPe 8 (some 14) #[true, true, true, true, true, true, true, true, true, true, false] ?_
   exact norm_ (by simp only [putAll, Act.put, List.setIfInBounds_toArray, List.set_cons_zero, List.set_cons_succ]) (hCont (.slice bA ap.length bD, .slice bj aq.length bk, ac) _ ⟨hHeld, (by (with_reducible repeat (first | apply Kd.R_alloc | apply Kd.R_drewN | apply Kd.R_drew)); exact Kd.R_mono ax.out (fun _ hk => hk.2)), (by (with_reducible repeat (first | apply Kd.R_alloc | apply Kd.R_drewN | apply Kd.R_drew)); exact Kd.R_mono aV.out (fun _ hk => hk.2)), TK, TK, TK, aZ.out, aX.out, ad.out, ay.out, ao.out, aH.out, TB⟩)
 rintro ⟨bz, bh, ac⟩ w12 ⟨hS_, h0_, h1_, h2_, h3_, h4_, h5_, h6_, h7_, h8_, h9_, h10_, h11_⟩
 clear ah al HB
 have ax : Aside0 (Kd.R (Kd.int .u8) 5 w12 w.heap.size (fun k_ => some k_ ≠ (bh : Value).ownBlock) bz ap) := ⟨h0_⟩
 have aV : Aside0 (Kd.R (Kd.int .u8) 5 w12 w.heap.size (fun k_ => some k_ ≠ (bz : Value).ownBlock) bh aq) := ⟨h1_⟩
 have ah : Aside0 (w12.heap[ag]? = some (.cells #[.slice aD aw.length aG, .slice aA av.length az, .int .i64 ai, .int .i64 ak, .int .i64 am, .slice aT ab.length aI] 33 (0, 0))) := ⟨h2_⟩
 have al : Aside0 (w12.heap[gb582]? = some (.cells #[.slice none 0 0, .slice none 0 0, .int .i64 0, .int .i64 0, .int .i64 0, .slice none 0 0] 33 (0, 0))) := ⟨h3_⟩
 have af : Aside0 (w12.heap[ac]? = some (.cells #[.slice none 0 0, .slice none 0 0, .int .i64 0, .int .i64 0, .int .i64 0, .slice none 0 0] 33 (0, 0))) := ⟨h4_⟩
 have aZ : Aside0 (w.heap.size ≤ ac) := ⟨h5_⟩
 have aX : Aside0 (w.heap.size ≤ ac) := ⟨h6_⟩
 have ad : Aside0 (ag ≠ ac) := ⟨h7_⟩
 have ay : Aside0 (ac ≠ ag) := ⟨h8_⟩
 have ao : Aside0 (gb582 ≠ ac) := ⟨h9_⟩
 have aH : Aside0 (ac ≠ gb582) := ⟨h10_⟩
 have HB : Aside0 (Below w.heap.size w w12) := ⟨h11_⟩
 clear h0_ h1_ h2_ h3_ h4_ h5_ h6_ h7_ h8_ h9_ h10_ h11_
 have hHeld : w12.cell? ⟨ag, 0, none⟩ = some (.slice aD aw.length aG) ∧ w12.cell? ⟨ag, 1, none⟩ = some (.slice aA av.length az) ∧ w12.cell? ⟨ag, 2, none⟩ = some (.int .i64 ai) ∧ w12.cell? ⟨ag, 3, none⟩ = some (.int .i64 ak) ∧ w12.cell? ⟨ag, 4, none⟩ = some (.int .i64 am) ∧ w12.cell? ⟨ag, 5, none⟩ = some (.slice aT ab.length aI) := hS_
 obtain ⟨aJ, aQ, eo13⟩ := Kd.R_slice aV.out
 (first | subst eo13 | (injection eo13 with f1_ f2_ f3_; have f4_ := f1_.symm; have f5_ := f3_.symm; clear f1_ f2_ f3_; subst f4_; subst f5_))
 obtain ⟨aE, aC, eo14⟩ := Kd.R_slice ax.out
 (first | subst eo14 | (injection eo14 with f1_ f2_ f3_; have f4_ := f1_.symm; have f5_ := f3_.symm; clear f1_ f2_ f3_; subst f4_; subst f5_))
 refine norm_ (a' := ?_) ?_ ?_
 rotate_left
 ·simp only [putAll, Act.put, List.setIfInBounds_toArray, List.set_cons_zero, List.set_cons_succ]
  rfl
 refine pOe 10 none #[true, true, true, true, true, true, true, true, true, true, true] (fun K hK => ?_)
 have hs15 : w12.cell? ⟨ac, 0, none⟩ = some (.slice none 0 0) := (blk_cell af.out 0).trans rfl
 have hfs15 := blk_frozen af.out 0
 have hns15_0 := ad.out
 have hns15_1 := ao.out
 have hms15_0 := ay.out
 have hms15_1 := aH.out
 have hs16 : w12.cell? ⟨ac, 1, none⟩ = some (.slice none 0 0) := (blk_cell af.out 1).trans rfl
 have hfs16 := blk_frozen af.out 1
 have hns16_0 := ad.out
 have hns16_1 := ao.out
 have hms16_0 := ay.out
 have hms16_1 := aH.out
 have hs17 : w12.cell? ⟨ac, 2, none⟩ = some (.int .i64 0) := (blk_cell af.out 2).trans rfl
 have hfs17 := blk_frozen af.out 2
 have hns17_0 := ad.out
 have hns17_1 := ao.out
 have hms17_0 := ay.out
 have hms17_1 := aH.out
 have hs18 : w12.cell? ⟨ac, 3, none⟩ = some (.int .i64 0) := (blk_cell af.out 3).trans rfl
 have hfs18 := blk_frozen af.out 3
 have hns18_0 := ad.out
 have hns18_1 := ao.out
 have hms18_0 := ay.out
 have hms18_1 := aH.out
 have hs19 : w12.cell? ⟨ac, 4, none⟩ = some (.int .i64 0) := (blk_cell af.out 4).trans rfl
 have hfs19 := blk_frozen af.out 4
 have hns19_0 := ad.out
 have hns19_1 := ao.out
 have hms19_0 := ay.out
 have hms19_1 := aH.out
 have hs20 : w12.cell? ⟨ac, 5, none⟩ = some (.slice none 0 0) := (blk_cell af.out 5).trans rfl
 have hfs20 := blk_frozen af.out 5
 have hns20_0 := ad.out
 have hns20_1 := ao.out
 have hms20_0 := ay.out
 have hms20_1 := aH.out
 refine skip_ (w1 := ?_) (by rfl) rfl ?_ ?_
 rotate_left
 ·go_simp
  rfl
 refine hK.out _ _ ⟨((cell_far (p := ⟨ac, _, none⟩) ad.out _).trans (((cell_far (p := ⟨ac, _, none⟩) ad.out _).trans (((cell_far (p := ⟨ac, _, none⟩) ad.out _).trans (((cell_far (p := ⟨ac, _, none⟩) ad.out _).trans (((cell_far (p := ⟨ac, _, none⟩) ad.out _).trans (((cell_far (p := ⟨ac, _, none⟩) ad.out _).trans (hHeld.1)))))))))))), ((cell_far (p := ⟨ac, _, none⟩) ad.out _).trans (((cell_far (p := ⟨ac, _, none⟩) ad.out _).trans (((cell_far (p := ⟨ac, _, none⟩) ad.out _).trans (((cell_far (p := ⟨ac, _, none⟩) ad.out _).trans (((cell_far (p := ⟨ac, _, none⟩) ad.out _).trans (((cell_far (p := ⟨ac, _, none⟩) ad.out _).trans (hHeld.2.1)))))))))))), ((cell_far (p := ⟨ac, _, none⟩) ad.out _).trans (((cell_far (p := ⟨ac, _, none⟩) ad.out _).trans (((cell_far (p := ⟨ac, _, none⟩) ad.out _).trans (((cell_far (p := ⟨ac, _, none⟩) ad.out _).trans (((cell_far (p := ⟨ac, _, none⟩) ad.out _).trans (((cell_far (p := ⟨ac, _, none⟩) ad.out _).trans (hHeld.2.2.1)))))))))))), ((cell_far (p := ⟨ac, _, none⟩) ad.out _).trans (((cell_far (p := ⟨ac, _, none⟩) ad.out _).trans (((cell_far (p := ⟨ac, _, none⟩) ad.out _).trans (((cell_far (p := ⟨ac, _, none⟩) ad.out _).trans (((cell_far (p := ⟨ac, _, none⟩) ad.out _).trans (((cell_far (p := ⟨ac, _, none⟩) ad.out _).trans (hHeld.2.2.2.1)))))))))))), ((cell_far (p := ⟨ac, _, none⟩) ad.out _).trans (((cell_far (p := ⟨ac, _, none⟩) ad.out _).trans (((cell_far (p := ⟨ac, _, none⟩) ad.out _).trans (((cell_far (p := ⟨ac, _, none⟩) ad.out _).trans (((cell_far (p := ⟨ac, _, none⟩) ad.out _).trans (((cell_far (p := ⟨ac, _, none⟩) ad.out _).trans (hHeld.2.2.2.2.1)))))))))))), ((cell_far (p := ⟨ac, _, none⟩) ad.out _).trans (((cell_far (p := ⟨ac, _, none⟩) ad.out _).trans (((cell_far (p := ⟨ac, _, none⟩) ad.out _).trans (((cell_far (p := ⟨ac, _, none⟩) ad.out _).trans (((cell_far (p := ⟨ac, _, none⟩) ad.out _).trans (((cell_far (p := ⟨ac, _, none⟩) ad.out _).trans (hHeld.2.2.2.2.2))))))))))))⟩ (fun hHeld => ?_)
 clear hK K
 refine done_ (done_of HT_.out (by kernel_rfl)) ?_
 have hnb21 := NB581_582.out
 have hnc21 := NB582_581.out
 have hnb22 := ad.out
 have hnc22 := ay.out
 obtain ⟨bR, bS, bT, bP, bW, b1⟩ := cz6 ah.out
 obtain ⟨bY, bZ, bX, bU, bO, b0⟩ := fz6 ah.out
 try go_wp2
 go_loopg [18] k (fun kq v18 w' => ∃ (aa : Int) (aU : List (S55)) (aR : Value), v18 = .int .i64 aa ∧ Aside0 (impl_copyDisk.l0 kq ab (ab.length : Int) aa ap aq ai ak am aU = some (r1, r2, r3, r4, r5, r6)) ∧ Aside0 (kq ≤ k) ∧ Aside0 (Kd.R (Kd.int .u8) 5 w' w.heap.size (fun k_ => some k_ ≠ ((.slice aJ aq.length aQ) : Value).ownBlock) (.slice aE ap.length aC) ap) ∧ Aside0 (Kd.R (Kd.int .u8) 5 w' w.heap.size (fun k_ => some k_ ≠ ((.slice aE ap.length aC) : Value).ownBlock) (.slice aJ aq.length aQ) aq) ∧ Aside0 (Kd.S k55 55 w' w.heap.size (fun k_ => some k_ ≠ ((.slice aE ap.length aC) : Value).ownBlock ∧ some k_ ≠ ((.slice aJ aq.length aQ) : Value).ownBlock) aR aU) ∧ Aside0 (w'.heap[ag]? = some (.cells #[(.slice aD aw.length aG), (.slice aA av.length az), .int .i64 ai, .int .i64 ak, .int .i64 am, (.slice aT ab.length aI)] 33 (0, 0))) ∧ Aside0 (w'.heap[gb582]? = some (.cells #[(.slice none 0 0), (.slice none 0 0), .int .i64 0, .int .i64 0, .int .i64 0, (.slice none 0 0)] 33 (0, 0))) ∧ Aside0 (w'.heap[ac]? = some (.cells #[(.slice aE ap.length aC), (.slice aJ aq.length aQ), .int .i64 ai, .int .i64 ak, .int .i64 am, aR] 33 (0, 0))) ∧ Aside0 (Below w.heap.size w w'))
 case atStart => exact ⟨(0), (([] : List (S55))), (.slice none 0 0), (by first | rfl | (simp; done) | (simp [*]; done)), H', ⟨Nat.le_refl _⟩, ⟨by (with_reducible repeat (first | apply Kd.R_alloc | apply Kd.R_drewN | apply Kd.R_drew)); exact Kd.R_mono (Kd.R_far (p := ⟨ac, 5, none⟩) (Kd.R_far (p := ⟨ac, 4, none⟩) (Kd.R_far (p := ⟨ac, 3, none⟩) (Kd.R_far (p := ⟨ac, 2, none⟩) (Kd.R_far (p := ⟨ac, 1, none⟩) (Kd.R_far (p := ⟨ac, 0, none⟩) (Kd.R_types ax.out af.out (by decide)) (fun _ hk => hk.2) (.slice aE ap.length aC)) (fun _ hk => hk.2) (.slice aJ aq.length aQ)) (fun _ hk => hk.2) (.int .i64 ai)) (fun _ hk => hk.2) (.int .i64 ak)) (fun _ hk => hk.2) (.int .i64 am)) (fun _ hk => hk.2) (.slice none 0 0)) (fun _ hk => hk.1)⟩, ⟨by (with_reducible repeat (first | apply Kd.R_alloc | apply Kd.R_drewN | apply Kd.R_drew)); exact Kd.R_mono (Kd.R_far (p := ⟨ac, 5, none⟩) (Kd.R_far (p := ⟨ac, 4, none⟩) (Kd.R_far (p := ⟨ac, 3, none⟩) (Kd.R_far (p := ⟨ac, 2, none⟩) (Kd.R_far (p := ⟨ac, 1, none⟩) (Kd.R_far (p := ⟨ac, 0, none⟩) (Kd.R_types aV.out af.out (by decide)) (fun _ hk => hk.2) (.slice aE ap.length aC)) (fun _ hk => hk.2) (.slice aJ aq.length aQ)) (fun _ hk => hk.2) (.int .i64 ai)) (fun _ hk => hk.2) (.int .i64 ak)) (fun _ hk => hk.2) (.int .i64 am)) (fun _ hk => hk.2) (.slice none 0 0)) (fun _ hk => hk.1)⟩, ⟨by first | exact Kd.S_nil _ _ _ _ _ | exact Kd.N_nil _ _ _ _ _ | exact Kd.V_nil _ _ _ _ _ | exact Kd.Q_nil _ _ _ _ _ | exact Kd.R_nil _ _ _ _ _⟩, ⟨by (with_reducible repeat (first | refine blk_drewN ?_ _ | refine blk_drew ?_ | refine blk_alloc ?_ _)); refine blk_far ?_ ad.out _; (with_reducible repeat (first | refine blk_drewN ?_ _ | refine blk_drew ?_ | refine blk_alloc ?_ _)); refine blk_far ?_ ad.out _; (with_reducible repeat (first | refine blk_drewN ?_ _ | refine blk_drew ?_ | refine blk_alloc ?_ _)); refine blk_far ?_ ad.out _; (with_reducible repeat (first | refine blk_drewN ?_ _ | refine blk_drew ?_ | refine blk_alloc ?_ _)); refine blk_far ?_ ad.out _; (with_reducible repeat (first | refine blk_drewN ?_ _ | refine blk_drew ?_ | refine blk_alloc ?_ _)); refine blk_far ?_ ad.out _; (with_reducible repeat (first | refine blk_drewN ?_ _ | refine blk_drew ?_ | refine blk_alloc ?_ _)); refine blk_far ?_ ad.out _; (with_reducible repeat (first | refine blk_drewN ?_ _ | refine blk_drew ?_ | refine blk_alloc ?_ _)); exact ah.out⟩, ⟨by (with_reducible repeat (first | refine blk_drewN ?_ _ | refine blk_drew ?_ | refine blk_alloc ?_ _)); refine blk_far ?_ ao.out _; (with_reducible repeat (first | refine blk_drewN ?_ _ | refine blk_drew ?_ | refine blk_alloc ?_ _)); refine blk_far ?_ ao.out _; (with_reducible repeat (first | refine blk_drewN ?_ _ | refine blk_drew ?_ | refine blk_alloc ?_ _)); refine blk_far ?_ ao.out _; (with_reducible repeat (first | refine blk_drewN ?_ _ | refine blk_drew ?_ | refine blk_alloc ?_ _)); refine blk_far ?_ ao.out _; (with_reducible repeat (first | refine blk_drewN ?_ _ | refine blk_drew ?_ | refine blk_alloc ?_ _)); refine blk_far ?_ ao.out _; (with_reducible repeat (first | refine blk_drewN ?_ _ | refine blk_drew ?_ | refine blk_alloc ?_ _)); refine blk_far ?_ ao.out _; (with_reducible repeat (first | refine blk_drewN ?_ _ | refine blk_drew ?_ | refine blk_alloc ?_ _)); exact al.out⟩, ⟨by (with_reducible repeat (first | refine blk_drewN ?_ _ | refine blk_drew ?_ | refine blk_alloc ?_ _)); refine blk_put (cs := #[.slice aE ap.length aC, .slice aJ aq.length aQ, .int .i64 ai, .int .i64 ak, .int .i64 am, .slice none 0 0]) ?_ 5 _ rfl; (with_reducible repeat (first | refine blk_drewN ?_ _ | refine blk_drew ?_ | refine blk_alloc ?_ _)); refine blk_put (cs := #[.slice aE ap.length aC, .slice aJ aq.length aQ, .int .i64 ai, .int .i64 ak, .int .i64 0, .slice none 0 0]) ?_ 4 _ rfl; (with_reducible repeat (first | refine blk_drewN ?_ _ | refine blk_drew ?_ | refine blk_alloc ?_ _)); refine blk_put (cs := #[.slice aE ap.length aC, .slice aJ aq.length aQ, .int .i64 ai, .int .i64 0, .int .i64 0, .slice none 0 0]) ?_ 3 _ rfl; (with_reducible repeat (first | refine blk_drewN ?_ _ | refine blk_drew ?_ | refine blk_alloc ?_ _)); refine blk_put (cs := #[.slice aE ap.length aC, .slice aJ aq.length aQ, .int .i64 0, .int .i64 0, .int .i64 0, .slice none 0 0]) ?_ 2 _ rfl; (with_reducible repeat (first | refine blk_drewN ?_ _ | refine blk_drew ?_ | refine blk_alloc ?_ _)); refine blk_put (cs := #[.slice aE ap.length aC, .slice none 0 0, .int .i64 0, .int .i64 0, .int .i64 0, .slice none 0 0]) ?_ 1 _ rfl; (with_reducible repeat (first | refine blk_drewN ?_ _ | refine blk_drew ?_ | refine blk_alloc ?_ _)); refine blk_put (cs := #[.slice none 0 0, .slice none 0 0, .int .i64 0, .int .i64 0, .int .i64 0, .slice none 0 0]) ?_ 0 _ rfl; (with_reducible repeat (first | refine blk_drewN ?_ _ | refine blk_drew ?_ | refine blk_alloc ?_ _)); exact af.out⟩, ⟨TB⟩⟩
 case round =>
  clear H'
  try clear c2
  try clear p2
  try clear c6
  try clear c7
  try clear c21
  try clear c22
  try clear bR
  try clear bS
  try clear bT
  try clear bP
  try clear bW
  try clear b1
  try clear bY
  try clear bZ
  try clear bX
  try clear bU
  try clear bO
  try clear b0
  obtain ⟨aa, aU, aR, rfl, HA, HK1, ar, au, aj, ah, al, af, HB⟩ := hrel
  cases gk with
  | zero => exact absurd HA.out (by simp [impl_copyDisk.l0])
  | succ k1 =>
   have H := HA.out
   clear HA
   simp only [impl_copyDisk.l0] at H
   by_cases c24 : aa < (ab.length : Int)
   ·rw [if_pos c24] at H
    have c24b0 : decide (aa < (ab.length : Int)) = true := decide_eq_true c24
    clear c24
    replace H := ifN H
    obtain ⟨c25, H⟩ := H
    have c25b0 : decide (0 ≤ aa) = true := decide_eq_true c25
    clear c25
    replace H := ifN H
    obtain ⟨c26, H⟩ := H
    have c26b0 : decide (aa < (ab.length : Int)) = true := decide_eq_true c26
    clear c26
    replace H := bE H
    obtain ⟨⟨bo, bn, bc, bi, bm, bl⟩, A27, H⟩ := H
    dsimp only at H
    replace H := ifN H
    obtain ⟨c28, H⟩ := H
    have LMc28 := aM c28
    clear c28
    obtain ⟨bg, bs⟩ : ∃ y_ : List (S55), y_ = (aU ++ [(⟨bo, bn, bc, (⟨bi, bm, bl⟩ : S30)⟩ : S55)]) := ⟨_, rfl⟩
    rw [← bs] at H
    have Ny600 := aM bs
    clear bs
    have H' := aM H
    clear H
    have bB : 0 ≤ (aa : Int) := DT
    have bC : aa < (ab.length : Int) := DT
    obtain ⟨aY, aK, aN, e590, bb, a6, a8, a9, a7, ba, bq, bp⟩ := at_T55 HR0_5.out aa bB bC
    cases e590
    replace bb := (HB.out.cell (World.block_lt_of_cell? w _ bb)).trans bb
    replace a6 := (HB.out.cell (World.block_lt_of_cell? w _ a6)).trans a6
    replace a8 := (HB.out.cell (World.block_lt_of_cell? w _ a8)).trans a8
    replace a9 := (HB.out.cell (World.block_lt_of_cell? w _ a9)).trans a9
    replace a7 := (HB.out.cell (World.block_lt_of_cell? w _ a7)).trans a7
    replace ba := (HB.out.cell (World.block_lt_of_cell? w _ ba)).trans ba
    have bQ := aM bp
    have bV := aM bq
    clear bp bq
    replace bB := eq_true bB
    replace bC := eq_true bC
    try go_wp2_with (first | ((with_reducible refine gate_dst (N := 5) rfl ?_); refine gBx 5 #[.int .i64 0, .int .i64 0, .slice none 0 0, .int .i64 0, .int .i64 0, .int .i64 0] 55 ?_; intro ae hg w29 hbox hb; have an := aM (hbox); have GW591 := aM ((by rw [hg]; exact (below_size TB) : w.heap.size ≤ ae)); have GE591 := aM ((by rw [hg]; exact (below_size TB) : w.heap.size ≤ ae)); have NB581_591 := aM ((by rw [hg]; exact Nat.ne_of_lt (blk_lt (g := ag) (o := .cells #[.slice aD aw.length aG, .slice aA av.length az, .int .i64 ai, .int .i64 ak, .int .i64 am, .slice (some aY) ab.length aI] 33 (0, 0)) TK) : ag ≠ ae)); have NB591_581 := aM ((by rw [hg]; exact Nat.ne_of_gt (blk_lt (g := ag) (o := .cells #[.slice aD aw.length aG, .slice aA av.length az, .int .i64 ai, .int .i64 ak, .int .i64 am, .slice (some aY) ab.length aI] 33 (0, 0)) TK) : ae ≠ ag)); have NB582_591 := aM ((by rw [hg]; exact Nat.ne_of_lt (blk_lt (g := gb582) (o := .cells #[.slice none 0 0, .slice none 0 0, .int .i64 0, .int .i64 0, .int .i64 0, .slice none 0 0] 33 (0, 0)) TK) : gb582 ≠ ae)); have NB591_582 := aM ((by rw [hg]; exact Nat.ne_of_gt (blk_lt (g := gb582) (o := .cells #[.slice none 0 0, .slice none 0 0, .int .i64 0, .int .i64 0, .int .i64 0, .slice none 0 0] 33 (0, 0)) TK) : ae ≠ gb582)); have NB589_591 := aM ((by rw [hg]; exact Nat.ne_of_lt (blk_lt (g := ac) (o := .cells #[.slice aE ap.length aC, .slice aJ aq.length aQ, .int .i64 ai, .int .i64 ak, .int .i64 am, aR] 33 (0, 0)) TK) : ac ≠ ae)); have NB591_589 := aM ((by rw [hg]; exact Nat.ne_of_gt (blk_lt (g := ac) (o := .cells #[.slice aE ap.length aC, .slice aJ aq.length aQ, .int .i64 ai, .int .i64 ak, .int .i64 am, aR] 33 (0, 0)) TK) : ae ≠ ac)); replace ar := aM (Kd.R_below (by have X_ := ar.out; exact TR) hb); replace au := aM (Kd.R_below (by have X_ := au.out; exact TR) hb); replace aj := aM (Kd.S_below (Kd.S_elderB (by have X_ := aj.out; exact TS) ae (Nat.le_of_eq hg.symm)) hb); replace ah := aM (blk_below (g := ag) (o := .cells #[.slice aD aw.length aG, .slice aA av.length az, .int .i64 ai, .int .i64 ak, .int .i64 am, .slice (some aY) ab.length aI] 33 (0, 0)) TK hb); replace al := aM (blk_below (g := gb582) (o := .cells #[.slice none 0 0, .slice none 0 0, .int .i64 0, .int .i64 0, .int .i64 0, .slice none 0 0] 33 (0, 0)) TK hb); replace af := aM (blk_below (g := ac) (o := .cells #[.slice aE ap.length aC, .slice aJ aq.length aQ, .int .i64 ai, .int .i64 ak, .int .i64 am, aR] 33 (0, 0)) TK hb); replace HB := aM (below_step TB hb); clear hb hbox hg; have hnb30 := NB591_581.out; have hnc30 := NB581_591.out; have hnb31 := NB591_582.out; have hnc31 := NB582_591.out; have hnb32 := NB591_589.out; have hnc32 := NB589_591.out; obtain ⟨hcz33_0, hcz33_1, hcz33_2, hcz33_3, hcz33_4, hcz33_5⟩ := cz6 an.out; obtain ⟨hfz33_0, hfz33_1, hfz33_2, hfz33_3, hfz33_4, hfz33_5⟩ := fz6 an.out))
    have n0_ : Aside0 (Kd.R (Kd.int .u8) 5 ((((((w29.setCell ⟨ae, 0, none⟩ (.int .i64 ((rd_T55 ab aa).f0))).setCell ⟨ae, 1, none⟩ (.int .i64 ((rd_T55 ab aa).f1))).setCell ⟨ae, 2, none⟩ (.slice aK ((rd_T55 ab aa).f2).length aN)).setCell ⟨ae, 3, none⟩ (.int .i64 ((rd_T55 ab aa).f3.f0))).setCell ⟨ae, 4, none⟩ (.int .i64 ((rd_T55 ab aa).f3.f1))).setCell ⟨ae, 5, none⟩ (.int .i64 ((rd_T55 ab aa).f3.f2))) w.heap.size (fun k_ => some k_ ≠ (.slice aJ aq.length aQ : Value).ownBlock) (.slice aE ap.length aC) ap) := ⟨by (with_reducible repeat (first | apply Kd.R_alloc | apply Kd.R_drewN | apply Kd.R_drew)); exact Kd.R_mono (Kd.R_far (p := ⟨ae, 5, none⟩) (Kd.R_far (p := ⟨ae, 4, none⟩) (Kd.R_far (p := ⟨ae, 3, none⟩) (Kd.R_far (p := ⟨ae, 2, none⟩) (Kd.R_far (p := ⟨ae, 1, none⟩) (Kd.R_far (p := ⟨ae, 0, none⟩) (Kd.R_types ar.out an.out (by decide)) (fun _ hk => hk.2) (.int .i64 ((rd_T55 ab aa).f0))) (fun _ hk => hk.2) (.int .i64 ((rd_T55 ab aa).f1))) (fun _ hk => hk.2) (.slice aK ((rd_T55 ab aa).f2).length aN)) (fun _ hk => hk.2) (.int .i64 ((rd_T55 ab aa).f3.f0))) (fun _ hk => hk.2) (.int .i64 ((rd_T55 ab aa).f3.f1))) (fun _ hk => hk.2) (.int .i64 ((rd_T55 ab aa).f3.f2))) (fun _ hk => hk.1)⟩
    have n1_ : Aside0 (Kd.R (Kd.int .u8) 5 ((((((w29.setCell ⟨ae, 0, none⟩ (.int .i64 ((rd_T55 ab aa).f0))).setCell ⟨ae, 1, none⟩ (.int .i64 ((rd_T55 ab aa).f1))).setCell ⟨ae, 2, none⟩ (.slice aK ((rd_T55 ab aa).f2).length aN)).setCell ⟨ae, 3, none⟩ (.int .i64 ((rd_T55 ab aa).f3.f0))).setCell ⟨ae, 4, none⟩ (.int .i64 ((rd_T55 ab aa).f3.f1))).setCell ⟨ae, 5, none⟩ (.int .i64 ((rd_T55 ab aa).f3.f2))) w.heap.size (fun k_ => some k_ ≠ (.slice aE ap.length aC : Value).ownBlock) (.slice aJ aq.length aQ) aq) := ⟨by (with_reducible repeat (first | apply Kd.R_alloc | apply Kd.R_drewN | apply Kd.R_drew)); exact Kd.R_mono (Kd.R_far (p := ⟨ae, 5, none⟩) (Kd.R_far (p := ⟨ae, 4, none⟩) (Kd.R_far (p := ⟨ae, 3, none⟩) (Kd.R_far (p := ⟨ae, 2, none⟩) (Kd.R_far (p := ⟨ae, 1, none⟩) (Kd.R_far (p := ⟨ae, 0, none⟩) (Kd.R_types au.out an.out (by decide)) (fun _ hk => hk.2) (.int .i64 ((rd_T55 ab aa).f0))) (fun _ hk => hk.2) (.int .i64 ((rd_T55 ab aa).f1))) (fun _ hk => hk.2) (.slice aK ((rd_T55 ab aa).f2).length aN)) (fun _ hk => hk.2) (.int .i64 ((rd_T55 ab aa).f3.f0))) (fun _ hk => hk.2) (.int .i64 ((rd_T55 ab aa).f3.f1))) (fun _ hk => hk.2) (.int .i64 ((rd_T55 ab aa).f3.f2))) (fun _ hk => hk.1)⟩
    have n2_ : Aside0 (Kd.S k55 55 ((((((w29.setCell ⟨ae, 0, none⟩ (.int .i64 ((rd_T55 ab aa).f0))).setCell ⟨ae, 1, none⟩ (.int .i64 ((rd_T55 ab aa).f1))).setCell ⟨ae, 2, none⟩ (.slice aK ((rd_T55 ab aa).f2).length aN)).setCell ⟨ae, 3, none⟩ (.int .i64 ((rd_T55 ab aa).f3.f0))).setCell ⟨ae, 4, none⟩ (.int .i64 ((rd_T55 ab aa).f3.f1))).setCell ⟨ae, 5, none⟩ (.int .i64 ((rd_T55 ab aa).f3.f2))) w.heap.size (fun k_ => some k_ ≠ (.slice aE ap.length aC : Value).ownBlock ∧ some k_ ≠ (.slice aJ aq.length aQ : Value).ownBlock ∧ k_ ≠ ae) aR aU) := ⟨by (with_reducible repeat (first | apply Kd.S_alloc | apply Kd.S_drewN | apply Kd.S_drew)); exact Kd.S_mono (Kd.S_far (p := ⟨ae, 5, none⟩) (Kd.S_far (p := ⟨ae, 4, none⟩) (Kd.S_far (p := ⟨ae, 3, none⟩) (Kd.S_far (p := ⟨ae, 2, none⟩) (Kd.S_far (p := ⟨ae, 1, none⟩) (Kd.S_far (p := ⟨ae, 0, none⟩) (Kd.S_mono aj.out (fun k_ hk => (⟨hk, hk.2⟩ : _ ∧ k_ ≠ ae))) (fun _ hk => hk.2) (.int .i64 ((rd_T55 ab aa).f0))) (fun _ hk => hk.2) (.int .i64 ((rd_T55 ab aa).f1))) (fun _ hk => hk.2) (.slice aK ((rd_T55 ab aa).f2).length aN)) (fun _ hk => hk.2) (.int .i64 ((rd_T55 ab aa).f3.f0))) (fun _ hk => hk.2) (.int .i64 ((rd_T55 ab aa).f3.f1))) (fun _ hk => hk.2) (.int .i64 ((rd_T55 ab aa).f3.f2))) (fun _ hk => ⟨hk.1.1.1, ⟨hk.1.1.2, hk.1.2⟩⟩)⟩
    have n3_ : Aside0 (((((((w29.setCell ⟨ae, 0, none⟩ (.int .i64 ((rd_T55 ab aa).f0))).setCell ⟨ae, 1, none⟩ (.int .i64 ((rd_T55 ab aa).f1))).setCell ⟨ae, 2, none⟩ (.slice aK ((rd_T55 ab aa).f2).length aN)).setCell ⟨ae, 3, none⟩ (.int .i64 ((rd_T55 ab aa).f3.f0))).setCell ⟨ae, 4, none⟩ (.int .i64 ((rd_T55 ab aa).f3.f1))).setCell ⟨ae, 5, none⟩ (.int .i64 ((rd_T55 ab aa).f3.f2))).heap[ag]? = some (.cells #[.slice aD aw.length aG, .slice aA av.length az, .int .i64 ai, .int .i64 ak, .int .i64 am, .slice (some aY) ab.length aI] 33 (0, 0))) := ⟨by (with_reducible repeat (first | refine blk_drewN ?_ _ | refine blk_drew ?_ | refine blk_alloc ?_ _)); refine blk_far ?_ NB581_591.out _; (with_reducible repeat (first | refine blk_drewN ?_ _ | refine blk_drew ?_ | refine blk_alloc ?_ _)); refine blk_far ?_ NB581_591.out _; (with_reducible repeat (first | refine blk_drewN ?_ _ | refine blk_drew ?_ | refine blk_alloc ?_ _)); refine blk_far ?_ NB581_591.out _; (with_reducible repeat (first | refine blk_drewN ?_ _ | refine blk_drew ?_ | refine blk_alloc ?_ _)); refine blk_far ?_ NB581_591.out _; (with_reducible repeat (first | refine blk_drewN ?_ _ | refine blk_drew ?_ | refine blk_alloc ?_ _)); refine blk_far ?_ NB581_591.out _; (with_reducible repeat (first | refine blk_drewN ?_ _ | refine blk_drew ?_ | refine blk_alloc ?_ _)); refine blk_far ?_ NB581_591.out _; (with_reducible repeat (first | refine blk_drewN ?_ _ | refine blk_drew ?_ | refine blk_alloc ?_ _)); exact ah.out⟩
    have n4_ : Aside0 (((((((w29.setCell ⟨ae, 0, none⟩ (.int .i64 ((rd_T55 ab aa).f0))).setCell ⟨ae, 1, none⟩ (.int .i64 ((rd_T55 ab aa).f1))).setCell ⟨ae, 2, none⟩ (.slice aK ((rd_T55 ab aa).f2).length aN)).setCell ⟨ae, 3, none⟩ (.int .i64 ((rd_T55 ab aa).f3.f0))).setCell ⟨ae, 4, none⟩ (.int .i64 ((rd_T55 ab aa).f3.f1))).setCell ⟨ae, 5, none⟩ (.int .i64 ((rd_T55 ab aa).f3.f2))).heap[gb582]? = some (.cells #[.slice none 0 0, .slice none 0 0, .int .i64 0, .int .i64 0, .int .i64 0, .slice none 0 0] 33 (0, 0))) := ⟨by (with_reducible repeat (first | refine blk_drewN ?_ _ | refine blk_drew ?_ | refine blk_alloc ?_ _)); refine blk_far ?_ NB582_591.out _; (with_reducible repeat (first | refine blk_drewN ?_ _ | refine blk_drew ?_ | refine blk_alloc ?_ _)); refine blk_far ?_ NB582_591.out _; (with_reducible repeat (first | refine blk_drewN ?_ _ | refine blk_drew ?_ | refine blk_alloc ?_ _)); refine blk_far ?_ NB582_591.out _; (with_reducible repeat (first | refine blk_drewN ?_ _ | refine blk_drew ?_ | refine blk_alloc ?_ _)); refine blk_far ?_ NB582_591.out _; (with_reducible repeat (first | refine blk_drewN ?_ _ | refine blk_drew ?_ | refine blk_alloc ?_ _)); refine blk_far ?_ NB582_591.out _; (with_reducible repeat (first | refine blk_drewN ?_ _ | refine blk_drew ?_ | refine blk_alloc ?_ _)); refine blk_far ?_ NB582_591.out _; (with_reducible repeat (first | refine blk_drewN ?_ _ | refine blk_drew ?_ | refine blk_alloc ?_ _)); exact al.out⟩
    have n5_ : Aside0 (((((((w29.setCell ⟨ae, 0, none⟩ (.int .i64 ((rd_T55 ab aa).f0))).setCell ⟨ae, 1, none⟩ (.int .i64 ((rd_T55 ab aa).f1))).setCell ⟨ae, 2, none⟩ (.slice aK ((rd_T55 ab aa).f2).length aN)).setCell ⟨ae, 3, none⟩ (.int .i64 ((rd_T55 ab aa).f3.f0))).setCell ⟨ae, 4, none⟩ (.int .i64 ((rd_T55 ab aa).f3.f1))).setCell ⟨ae, 5, none⟩ (.int .i64 ((rd_T55 ab aa).f3.f2))).heap[ac]? = some (.cells #[.slice aE ap.length aC, .slice aJ aq.length aQ, .int .i64 ai, .int .i64 ak, .int .i64 am, aR] 33 (0, 0))) := ⟨by (with_reducible repeat (first | refine blk_drewN ?_ _ | refine blk_drew ?_ | refine blk_alloc ?_ _)); refine blk_far ?_ NB589_591.out _; (with_reducible repeat (first | refine blk_drewN ?_ _ | refine blk_drew ?_ | refine blk_alloc ?_ _)); refine blk_far ?_ NB589_591.out _; (with_reducible repeat (first | refine blk_drewN ?_ _ | refine blk_drew ?_ | refine blk_alloc ?_ _)); refine blk_far ?_ NB589_591.out _; (with_reducible repeat (first | refine blk_drewN ?_ _ | refine blk_drew ?_ | refine blk_alloc ?_ _)); refine blk_far ?_ NB589_591.out _; (with_reducible repeat (first | refine blk_drewN ?_ _ | refine blk_drew ?_ | refine blk_alloc ?_ _)); refine blk_far ?_ NB589_591.out _; (with_reducible repeat (first | refine blk_drewN ?_ _ | refine blk_drew ?_ | refine blk_alloc ?_ _)); refine blk_far ?_ NB589_591.out _; (with_reducible repeat (first | refine blk_drewN ?_ _ | refine blk_drew ?_ | refine blk_alloc ?_ _)); exact af.out⟩
    have n6_ : Aside0 (((((((w29.setCell ⟨ae, 0, none⟩ (.int .i64 ((rd_T55 ab aa).f0))).setCell ⟨ae, 1, none⟩ (.int .i64 ((rd_T55 ab aa).f1))).setCell ⟨ae, 2, none⟩ (.slice aK ((rd_T55 ab aa).f2).length aN)).setCell ⟨ae, 3, none⟩ (.int .i64 ((rd_T55 ab aa).f3.f0))).setCell ⟨ae, 4, none⟩ (.int .i64 ((rd_T55 ab aa).f3.f1))).setCell ⟨ae, 5, none⟩ (.int .i64 ((rd_T55 ab aa).f3.f2))).heap[ae]? = some (.cells #[.int .i64 ((rd_T55 ab aa).f0), .int .i64 ((rd_T55 ab aa).f1), .slice aK ((rd_T55 ab aa).f2).length aN, .int .i64 ((rd_T55 ab aa).f3.f0), .int .i64 ((rd_T55 ab aa).f3.f1), .int .i64 ((rd_T55 ab aa).f3.f2)] 55 (0, 0))) := ⟨by (with_reducible repeat (first | refine blk_drewN ?_ _ | refine blk_drew ?_ | refine blk_alloc ?_ _)); refine blk_put (cs := #[.int .i64 ((rd_T55 ab aa).f0), .int .i64 ((rd_T55 ab aa).f1), .slice aK ((rd_T55 ab aa).f2).length aN, .int .i64 ((rd_T55 ab aa).f3.f0), .int .i64 ((rd_T55 ab aa).f3.f1), .int .i64 0]) ?_ 5 _ rfl; (with_reducible repeat (first | refine blk_drewN ?_ _ | refine blk_drew ?_ | refine blk_alloc ?_ _)); refine blk_put (cs := #[.int .i64 ((rd_T55 ab aa).f0), .int .i64 ((rd_T55 ab aa).f1), .slice aK ((rd_T55 ab aa).f2).length aN, .int .i64 ((rd_T55 ab aa).f3.f0), .int .i64 0, .int .i64 0]) ?_ 4 _ rfl; (with_reducible repeat (first | refine blk_drewN ?_ _ | refine blk_drew ?_ | refine blk_alloc ?_ _)); refine blk_put (cs := #[.int .i64 ((rd_T55 ab aa).f0), .int .i64 ((rd_T55 ab aa).f1), .slice aK ((rd_T55 ab aa).f2).length aN, .int .i64 0, .int .i64 0, .int .i64 0]) ?_ 3 _ rfl; (with_reducible repeat (first | refine blk_drewN ?_ _ | refine blk_drew ?_ | refine blk_alloc ?_ _)); refine blk_put (cs := #[.int .i64 ((rd_T55 ab aa).f0), .int .i64 ((rd_T55 ab aa).f1), .slice none 0 0, .int .i64 0, .int .i64 0, .int .i64 0]) ?_ 2 _ rfl; (with_reducible repeat (first | refine blk_drewN ?_ _ | refine blk_drew ?_ | refine blk_alloc ?_ _)); refine blk_put (cs := #[.int .i64 ((rd_T55 ab aa).f0), .int .i64 0, .slice none 0 0, .int .i64 0, .int .i64 0, .int .i64 0]) ?_ 1 _ rfl; (with_reducible repeat (first | refine blk_drewN ?_ _ | refine blk_drew ?_ | refine blk_alloc ?_ _)); refine blk_put (cs := #[.int .i64 0, .int .i64 0, .slice none 0 0, .int .i64 0, .int .i64 0, .int .i64 0]) ?_ 0 _ rfl; (with_reducible repeat (first | refine blk_drewN ?_ _ | refine blk_drew ?_ | refine blk_alloc ?_ _)); exact an.out⟩
    have n7_ : Aside0 (Below w.heap.size w ((((((w29.setCell ⟨ae, 0, none⟩ (.int .i64 ((rd_T55 ab aa).f0))).setCell ⟨ae, 1, none⟩ (.int .i64 ((rd_T55 ab aa).f1))).setCell ⟨ae, 2, none⟩ (.slice aK ((rd_T55 ab aa).f2).length aN)).setCell ⟨ae, 3, none⟩ (.int .i64 ((rd_T55 ab aa).f3.f0))).setCell ⟨ae, 4, none⟩ (.int .i64 ((rd_T55 ab aa).f3.f1))).setCell ⟨ae, 5, none⟩ (.int .i64 ((rd_T55 ab aa).f3.f2)))) := ⟨TB⟩
    (try clear ar)
    (try clear au)
    (try clear aj)
    (try clear ah)
    (try clear al)
    (try clear af)
    (try clear an)
    (try clear HB)
    generalize ((((((w29.setCell ⟨ae, 0, none⟩ (.int .i64 ((rd_T55 ab aa).f0))).setCell ⟨ae, 1, none⟩ (.int .i64 ((rd_T55 ab aa).f1))).setCell ⟨ae, 2, none⟩ (.slice aK ((rd_T55 ab aa).f2).length aN)).setCell ⟨ae, 3, none⟩ (.int .i64 ((rd_T55 ab aa).f3.f0))).setCell ⟨ae, 4, none⟩ (.int .i64 ((rd_T55 ab aa).f3.f1))).setCell ⟨ae, 5, none⟩ (.int .i64 ((rd_T55 ab aa).f3.f2))) = w34 at n0_ n1_ n2_ n3_ n4_ n5_ n6_ n7_ ⊢
    have ar := n0_
    have au := n1_
    have aj := n2_
    have ah := n3_
    have al := n4_
    have af := n5_
    have an := n6_
    have HB := n7_
    clear n0_ n1_ n2_ n3_ n4_ n5_ n6_ n7_
    replace ar := aM (Kd.R_drew ar.out)
    replace au := aM (Kd.R_drew au.out)
    replace aj := aM (Kd.S_drew aj.out)
    replace ah := aM (blk_drew ah.out)
    replace al := aM (blk_drew al.out)
    replace af := aM (blk_drew af.out)
    replace an := aM (blk_drew an.out)
    replace HB := aM (below_drew1 HB.out)
    refine start_ (n := 8) (S := fun w' => w'.cell? ⟨ac, 0, none⟩ = some (.slice aE ap.length aC) ∧ w'.cell? ⟨ac, 1, none⟩ = some (.slice aJ aq.length aQ) ∧ w'.cell? ⟨ac, 2, none⟩ = some (.int .i64 ai) ∧ w'.cell? ⟨ac, 3, none⟩ = some (.int .i64 ak) ∧ w'.cell? ⟨ac, 4, none⟩ = some (.int .i64 am) ∧ w'.cell? ⟨ac, 5, none⟩ = some (aR) ∧ w'.cell? ⟨ae, 0, none⟩ = some (.int .i64 ((rd_T55 ab aa).f0)) ∧ w'.cell? ⟨ae, 1, none⟩ = some (.int .i64 ((rd_T55 ab aa).f1)) ∧ w'.cell? ⟨ae, 2, none⟩ = some (.slice aK ((rd_T55 ab aa).f2).length aN) ∧ w'.cell? ⟨ae, 3, none⟩ = some (.int .i64 ((rd_T55 ab aa).f3.f0)) ∧ w'.cell? ⟨ae, 4, none⟩ = some (.int .i64 ((rd_T55 ab aa).f3.f1)) ∧ w'.cell? ⟨ae, 5, none⟩ = some (.int .i64 ((rd_T55 ab aa).f3.f2))) (ds := [7]) #[false, false, false, false, false, false, false, false] (by kernel_rfl) rfl rfl ⟨(blk_cell af.out 0).trans rfl, (blk_cell af.out 1).trans rfl, (blk_cell af.out 2).trans rfl, (blk_cell af.out 3).trans rfl, (blk_cell af.out 4).trans rfl, (blk_cell af.out 5).trans rfl, (blk_cell an.out 0).trans rfl, (blk_cell an.out 1).trans rfl, (blk_cell an.out 2).trans rfl, (blk_cell an.out 3).trans rfl, (blk_cell an.out 4).trans rfl, (blk_cell an.out 5).trans rfl⟩ (fun hHeld => ?_); refine with_tabW impl_copyDisk.tab5 impl_copyDisk.bits5 (fun HT_ HW_ => ?_)
    generalize w34.drew = w35 at ar au aj ah al af an HB hHeld ⊢
    refine pPe 0 (some 22) #[true, false, false, false, false, false, false, false] ?_
    refine pTe 1 (some 23) #[true, true, false, false, false, false, false, false] ?_
    refine pTe 2 (some 24) #[true, true, true, false, false, false, false, false] ?_
    refine pOe 3 (some 25) #[true, true, true, true, false, false, false, false] (fun K hK => ?_)
    refine gG Try.func93 #[.agg #[.int .i64 ((rd_T55 ab aa).f0), .int .i64 ((rd_T55 ab aa).f1), .slice aK ((rd_T55 ab aa).f2).length aN, .int .i64 ((rd_T55 ab aa).f3.f0), .int .i64 ((rd_T55 ab aa).f3.f1), .int .i64 ((rd_T55 ab aa).f3.f2)]] ?_
    with_reducible refine (impl_copyPut.calls ((rd_T55 ab aa).f0) ((rd_T55 ab aa).f1) _ _ ((rd_T55 ab aa).f2) ((rd_T55 ab aa).f3.f0) ((rd_T55 ab aa).f3.f1) ((rd_T55 ab aa).f3.f2) bo bn bc bi bm bl _ ?side1 ?side2 A27.out).mono ?_
    (case side1 => have X_ := (Kd.C_below bQ.out HB.out); exact TC)
    (case side2 => exact bV.out)
    rintro e w36 ⟨v595, rfl, ho0, hb⟩
    refine ⟨_, rfl, ?_⟩
    have n0_ := aM (Kd.R_elder' (by have X_ := ar.out; exact TR) (Kd.R_base ho0) hb)
    have n1_ := aM (Kd.R_elder' (by have X_ := au.out; exact TR) (Kd.R_base ho0) hb)
    have n2_ := aM (Kd.S_elder' (by have X_ := aj.out; exact TS) (Kd.R_base ho0) hb)
    have n3_ := aM (Kd.R_lower (Kd.R_new' (Kd.R_new' ho0 (Kd.R_lt (by have X_ := ar.out; exact TR))) (Kd.R_lt (by have X_ := au.out; exact TR))) (below_size TB))
    have n4_ := aM (blk_below (g := ag) (o := .cells #[.slice aD aw.length aG, .slice aA av.length az, .int .i64 ai, .int .i64 ak, .int .i64 am, .slice (some aY) ab.length aI] 33 (0, 0)) TK hb)
    have n5_ := aM (blk_below (g := gb582) (o := .cells #[.slice none 0 0, .slice none 0 0, .int .i64 0, .int .i64 0, .int .i64 0, .slice none 0 0] 33 (0, 0)) TK hb)
    have n6_ := aM (blk_below (g := ac) (o := .cells #[.slice aE ap.length aC, .slice aJ aq.length aQ, .int .i64 ai, .int .i64 ak, .int .i64 am, aR] 33 (0, 0)) TK hb)
    have n7_ := aM (blk_below (g := ae) (o := .cells #[.int .i64 ((rd_T55 ab aa).f0), .int .i64 ((rd_T55 ab aa).f1), .slice aK ((rd_T55 ab aa).f2).length aN, .int .i64 ((rd_T55 ab aa).f3.f0), .int .i64 ((rd_T55 ab aa).f3.f1), .int .i64 ((rd_T55 ab aa).f3.f2)] 55 (0, 0)) TK hb)
    have n8_ := aM (below_step TB hb)
    clear ar
    clear au
    clear aj
    clear ah
    clear al
    clear af
    clear an
    clear HB
    have ar := n0_
    have au := n1_
    have aj := n2_
    have bd := n3_
    have ah := n4_
    have al := n5_
    have af := n6_
    have an := n7_
    have HB := n8_
    clear n0_ n1_ n2_ n3_ n4_ n5_ n6_ n7_ n8_
    (try clear hb)
    (try clear hb2)
    (try clear hk)
    (try clear hi)
    (try clear ho0)
    obtain ⟨Ao38, co38, eo38⟩ := Kd.R_slice bd.out
    (first | subst eo38 | (injection eo38 with f1_ f2_ f3_; have f4_ := f1_.symm; have f5_ := f3_.symm; clear f1_ f2_ f3_; subst f4_; subst f5_))
    refine hK.out _ _ ⟨(blk_cell af.out 0).trans rfl, (blk_cell af.out 1).trans rfl, (blk_cell af.out 2).trans rfl, (blk_cell af.out 3).trans rfl, (blk_cell af.out 4).trans rfl, (blk_cell af.out 5).trans rfl, (blk_cell an.out 0).trans rfl, (blk_cell an.out 1).trans rfl, (blk_cell an.out 2).trans rfl, (blk_cell an.out 3).trans rfl, (blk_cell an.out 4).trans rfl, (blk_cell an.out 5).trans rfl⟩ (fun hHeld => ?_)
    clear hK K
    refine nR ?_
    refine pOe 4 (some 26) #[true, true, true, true, true, false, false, false] (fun K hK => ?_)
    refine value_ (w1 := ?_) (v := ?_) (by rfl) rfl ?_ ?_
    rotate_left 2
    ·go_simp
     constructor
     ·rfl
     ·rfl
    refine hK.out _ _ ⟨(blk_cell (blk_alloc af.out _) 0).trans rfl, (blk_cell (blk_alloc af.out _) 1).trans rfl, (blk_cell (blk_alloc af.out _) 2).trans rfl, (blk_cell (blk_alloc af.out _) 3).trans rfl, (blk_cell (blk_alloc af.out _) 4).trans rfl, (blk_cell (blk_alloc af.out _) 5).trans rfl, (blk_cell (blk_alloc an.out _) 0).trans rfl, (blk_cell (blk_alloc an.out _) 1).trans rfl, (blk_cell (blk_alloc an.out _) 2).trans rfl, (blk_cell (blk_alloc an.out _) 3).trans rfl, (blk_cell (blk_alloc an.out _) 4).trans rfl, (blk_cell (blk_alloc an.out _) 5).trans rfl⟩ (fun hHeld => ?_)
    clear hK K
    refine nR ?_
    refine pOe 5 (some 27) #[true, true, true, true, true, true, false, false] (fun K hK => ?_)
    refine Kd.S_append_step k55 (w0 := w) w.heap.size (by rfl) (.tmp 23) (.tmp 26) 31 55 (.agg #[(.int .i64 0), (.int .i64 0), (.slice none 0 0), (.int .i64 0), (.int .i64 0), (.int .i64 0)]) 64 rfl Try.underlying31 info55 rfl (by decide) (by omega) aR aU (⟨bo, bn, bc, (⟨bi, bm, bl⟩ : S30)⟩ : S55) [.int .i64 bo, .int .i64 bn, .slice Ao38 bc.length co38, .int .i64 bi, .int .i64 bm, .int .i64 bl] (fun k_ => some k_ ≠ (.slice aE ap.length aC : Value).ownBlock ∧ some k_ ≠ (.slice aJ aq.length aQ : Value).ownBlock ∧ k_ ≠ ae) (fun k_ => some k_ = (.slice Ao38 bc.length co38 : Value).ownBlock) rfl rfl ?aP (fun k_ hk_ => ((Kd.R_mono (ok' := fun k_ => ((fun k_ => some k_ ≠ (.slice aE ap.length aC : Value).ownBlock ∧ some k_ ≠ (.slice aJ aq.length aQ : Value).ownBlock ∧ k_ ≠ ae)) k_ ∧ some k_ ≠ (aR : Value).ownBlock) (Kd.R_types (Kd.R_apart' (bd.out) (Kd.S_typed aj.out) (by decide)) an.out (by decide)) (fun k_ hk => ⟨⟨hk.1.1.1.2, ⟨hk.1.1.2, hk.2⟩⟩, hk.1.2⟩))).1 k_ hk_.symm) ?aF ?aO ?aB ?aS ?aL ?_
    (case aP => exact k55_mkM _ _ _ (⟨bo, bn, bc, (⟨bi, bm, bl⟩ : S30)⟩ : S55) (Kd.R_mono (Kd.R_tight rfl (Kd.R_mono (ok' := fun k_ => ((fun k_ => some k_ ≠ (.slice aE ap.length aC : Value).ownBlock ∧ some k_ ≠ (.slice aJ aq.length aQ : Value).ownBlock ∧ k_ ≠ ae)) k_ ∧ some k_ ≠ (aR : Value).ownBlock) (Kd.R_types (Kd.R_apart' (bd.out) (Kd.S_typed aj.out) (by decide)) an.out (by decide)) (fun k_ hk => ⟨⟨hk.1.1.1.2, ⟨hk.1.1.2, hk.2⟩⟩, hk.1.2⟩))) (fun _ h_ => h_)))
    (case aB => exact TB)
    (case aF => exact (fun k_ hk => ⟨Kd.fresh' (Kd.R_lt (by have X_ := ar.out; exact TR)) k_ hk, Kd.fresh' (Kd.R_lt (by have X_ := au.out; exact TR)) k_ hk, Kd.freshB (g := ae) (o := .cells #[.int .i64 ((rd_T55 ab aa).f0), .int .i64 ((rd_T55 ab aa).f1), .slice aK ((rd_T55 ab aa).f2).length aN, .int .i64 ((rd_T55 ab aa).f3.f0), .int .i64 ((rd_T55 ab aa).f3.f1), .int .i64 ((rd_T55 ab aa).f3.f2)] 55 (0, 0)) TK k_ hk⟩))
    (case aO => exact (by (with_reducible repeat (first | apply Kd.S_alloc | apply Kd.S_drewN | apply Kd.S_drew)); exact Kd.S_mono aj.out (fun k_ hk => ⟨⟨hk.1.1, ⟨hk.1.2.1, hk.1.2.2⟩⟩, fun e_ => hk.2 e_⟩)))
    (case aS => exact (below_size TB))
    (case aL => have := LMc28.out; omega)
    intro v601 w37 ho hb hg hat
    rw [← Ny600.out] at ho
    have n0_ := aM (Kd.R_over' (by have X_ := ar.out; exact TR) (Kd.S_typed (by have X_ := aj.out; exact TS)) (by decide) hg)
    have n1_ := aM (Kd.R_over' (by have X_ := au.out; exact TR) (Kd.S_typed (by have X_ := aj.out; exact TS)) (by decide) hg)
    have n2_ := aM (blk_grown (g := ag) (o := .cells #[.slice aD aw.length aG, .slice aA av.length az, .int .i64 ai, .int .i64 ak, .int .i64 am, .slice (some aY) ab.length aI] 33 (0, 0)) TK hg (Kd.S_ne aj.out ah.out (by decide)))
    have n3_ := aM (blk_grown (g := gb582) (o := .cells #[.slice none 0 0, .slice none 0 0, .int .i64 0, .int .i64 0, .int .i64 0, .slice none 0 0] 33 (0, 0)) TK hg (Kd.S_ne aj.out al.out (by decide)))
    have n4_ := aM (blk_grown (g := ac) (o := .cells #[.slice aE ap.length aC, .slice aJ aq.length aQ, .int .i64 ai, .int .i64 ak, .int .i64 am, aR] 33 (0, 0)) TK hg (Kd.S_ne aj.out af.out (by decide)))
    have n5_ := aM (blk_grown (g := ae) (o := .cells #[.int .i64 ((rd_T55 ab aa).f0), .int .i64 ((rd_T55 ab aa).f1), .slice aK ((rd_T55 ab aa).f2).length aN, .int .i64 ((rd_T55 ab aa).f3.f0), .int .i64 ((rd_T55 ab aa).f3.f1), .int .i64 ((rd_T55 ab aa).f3.f2)] 55 (0, 0)) TK hg (Kd.S_away aj.out (fun _ hk => hk.1.2.2)))
    have n6_ := aM (hb)
    have n7_ := aM (ho)
    clear ar
    clear au
    clear ah
    clear al
    clear af
    clear an
    clear HB
    clear aj
    clear bd
    have ar := n0_
    have au := n1_
    have ah := n2_
    have al := n3_
    have af := n4_
    have an := n5_
    have HB := n6_
    have bG := n7_
    clear n0_ n1_ n2_ n3_ n4_ n5_ n6_ n7_
    clear ho hb hg hat
    obtain ⟨bv, bx, eo39⟩ := Kd.S_slice bG.out
    (first | subst eo39 | (injection eo39 with f1_ f2_ f3_; have f4_ := f1_.symm; have f5_ := f3_.symm; clear f1_ f2_ f3_; subst f4_; subst f5_))
    refine hK.out _ _ ⟨(blk_cell af.out 0).trans rfl, (blk_cell af.out 1).trans rfl, (blk_cell af.out 2).trans rfl, (blk_cell af.out 3).trans rfl, (blk_cell af.out 4).trans rfl, (blk_cell af.out 5).trans rfl, (blk_cell an.out 0).trans rfl, (blk_cell an.out 1).trans rfl, (blk_cell an.out 2).trans rfl, (blk_cell an.out 3).trans rfl, (blk_cell an.out 4).trans rfl, (blk_cell an.out 5).trans rfl⟩ (fun hHeld => ?_)
    clear hK K
    refine nR ?_
    refine pPe 6 (some 28) #[true, true, true, true, true, true, true, false] ?_
    refine pLe 7 none #[true, true, true, true, true, true, true, true] (fun K hK => ?_)
    have hs40 : w37.cell? ⟨ac, 5, none⟩ = some (aR) := (blk_cell af.out 5).trans rfl
    have hfs40 := blk_frozen af.out 5
    have hns40_0 := ad.out
    have hns40_1 := ao.out
    have hns40_3 := NB591_589.out
    have hms40_0 := ay.out
    have hms40_1 := aH.out
    have hms40_3 := NB589_591.out
    refine skip_ (w1 := ?_) (by rfl) rfl ?_ ?_
    rotate_left
    ·go_simp
     rfl
    refine hK.out _ _ ?_
    clear hK K
    refine done_ (done_of HT_.out (by kernel_rfl)) ?_
    try go_wp2
    go_roundg k1
    case measure => have := HK1.out; omega
    case rel => exact ⟨(wrap64 (aa + 1)), (bg), (.slice bv bg.length bx), (by first | rfl | (simp; done) | (simp [*]; done)), H', ⟨by have := HK1.out; omega⟩, ⟨by (with_reducible repeat (first | apply Kd.R_alloc | apply Kd.R_drewN | apply Kd.R_drew)); exact Kd.R_mono (Kd.R_far (p := ⟨ac, 5, none⟩) (Kd.R_types ar.out af.out (by decide)) (fun _ hk => hk.2) (.slice bv bg.length bx)) (fun _ hk => hk.1.1)⟩, ⟨by (with_reducible repeat (first | apply Kd.R_alloc | apply Kd.R_drewN | apply Kd.R_drew)); exact Kd.R_mono (Kd.R_far (p := ⟨ac, 5, none⟩) (Kd.R_types au.out af.out (by decide)) (fun _ hk => hk.2) (.slice bv bg.length bx)) (fun _ hk => hk.1.1)⟩, ⟨by (with_reducible repeat (first | apply Kd.S_alloc | apply Kd.S_drewN | apply Kd.S_drew)); exact Kd.S_mono (Kd.S_far (p := ⟨ac, 5, none⟩) (Kd.S_types bG.out af.out (by decide)) (fun _ hk => hk.2) (.slice bv bg.length bx)) (fun _ hk => ⟨hk.1.1, hk.1.2.1⟩)⟩, ⟨by (with_reducible repeat (first | refine blk_drewN ?_ _ | refine blk_drew ?_ | refine blk_alloc ?_ _)); refine blk_far ?_ ad.out _; (with_reducible repeat (first | refine blk_drewN ?_ _ | refine blk_drew ?_ | refine blk_alloc ?_ _)); exact ah.out⟩, ⟨by (with_reducible repeat (first | refine blk_drewN ?_ _ | refine blk_drew ?_ | refine blk_alloc ?_ _)); refine blk_far ?_ ao.out _; (with_reducible repeat (first | refine blk_drewN ?_ _ | refine blk_drew ?_ | refine blk_alloc ?_ _)); exact al.out⟩, ⟨by (with_reducible repeat (first | refine blk_drewN ?_ _ | refine blk_drew ?_ | refine blk_alloc ?_ _)); refine blk_put (cs := #[.slice aE ap.length aC, .slice aJ aq.length aQ, .int .i64 ai, .int .i64 ak, .int .i64 am, aR]) ?_ 5 _ rfl; (with_reducible repeat (first | refine blk_drewN ?_ _ | refine blk_drew ?_ | refine blk_alloc ?_ _)); exact af.out⟩, ⟨TB⟩⟩
   ·rw [if_neg c24] at H
    have c24b0 : decide (aa < (ab.length : Int)) = false := decide_eq_false c24
    clear c24
    simp only [Option.some.injEq, Prod.mk.injEq] at H
    obtain ⟨rfl, rfl, rfl, rfl, rfl, rfl⟩ := H
    have hnb41 := ay.out
    have hnc41 := ad.out
    have hnb42 := aH.out
    have hnc42 := ao.out
    obtain ⟨hcz43_0, hcz43_1, hcz43_2, hcz43_3, hcz43_4, hcz43_5⟩ := cz6 af.out
    obtain ⟨hfz43_0, hfz43_1, hfz43_2, hfz43_3, hfz43_4, hfz43_5⟩ := fz6 af.out
    have hnb44 := NB582_581.out
    have hnc44 := NB581_582.out
    obtain ⟨hcz45_0, hcz45_1, hcz45_2, hcz45_3, hcz45_4, hcz45_5⟩ := cz6 al.out
    obtain ⟨hfz45_0, hfz45_1, hfz45_2, hfz45_3, hfz45_4, hfz45_5⟩ := fz6 al.out
    obtain ⟨bt, br, eo46⟩ := Kd.S_slice aj.out
    subst eo46
    go_wp2
    refine bodyPost_ret (results_cell_row rfl _ _ gb582 33 #[.slice aE ap.length aC, .slice aJ aq.length aQ, .int .i64 ai, .int .i64 ak, .int .i64 am, .slice bt aU.length br] (0, 0) _ rfl (by (with_reducible repeat (first | refine blk_drewN ?_ _ | refine blk_drew ?_ | refine blk_alloc ?_ _)); refine blk_put (cs := #[.slice aE ap.length aC, .slice aJ aq.length aQ, .int .i64 ai, .int .i64 ak, .int .i64 am, .slice none 0 0]) ?_ 5 _ rfl; (with_reducible repeat (first | refine blk_drewN ?_ _ | refine blk_drew ?_ | refine blk_alloc ?_ _)); refine blk_put (cs := #[.slice aE ap.length aC, .slice aJ aq.length aQ, .int .i64 ai, .int .i64 ak, .int .i64 0, .slice none 0 0]) ?_ 4 _ rfl; (with_reducible repeat (first | refine blk_drewN ?_ _ | refine blk_drew ?_ | refine blk_alloc ?_ _)); refine blk_put (cs := #[.slice aE ap.length aC, .slice aJ aq.length aQ, .int .i64 ai, .int .i64 0, .int .i64 0, .slice none 0 0]) ?_ 3 _ rfl; (with_reducible repeat (first | refine blk_drewN ?_ _ | refine blk_drew ?_ | refine blk_alloc ?_ _)); refine blk_put (cs := #[.slice aE ap.length aC, .slice aJ aq.length aQ, .int .i64 0, .int .i64 0, .int .i64 0, .slice none 0 0]) ?_ 2 _ rfl; (with_reducible repeat (first | refine blk_drewN ?_ _ | refine blk_drew ?_ | refine blk_alloc ?_ _)); refine blk_put (cs := #[.slice aE ap.length aC, .slice none 0 0, .int .i64 0, .int .i64 0, .int .i64 0, .slice none 0 0]) ?_ 1 _ rfl; (with_reducible repeat (first | refine blk_drewN ?_ _ | refine blk_drew ?_ | refine blk_alloc ?_ _)); refine blk_put (cs := #[.slice none 0 0, .slice none 0 0, .int .i64 0, .int .i64 0, .int .i64 0, .slice none 0 0]) ?_ 0 _ rfl; (with_reducible repeat (first | refine blk_drewN ?_ _ | refine blk_drew ?_ | refine blk_alloc ?_ _)); exact al.out) Try.underlying33 rfl (by kernel_rfl)) rfl ?_
    exact ⟨_, _, _, by first | rfl | (simp [errW_none, errW_some] <;> rfl) | (simp [*, errW_none, errW_some] <;> rfl), by (with_reducible repeat (first | apply Kd.R_alloc | apply Kd.R_drewN | apply Kd.R_drew)); exact Kd.R_mono (Kd.R_far (p := ⟨gb582, 5, none⟩) (Kd.R_far (p := ⟨gb582, 4, none⟩) (Kd.R_far (p := ⟨gb582, 3, none⟩) (Kd.R_far (p := ⟨gb582, 2, none⟩) (Kd.R_far (p := ⟨gb582, 1, none⟩) (Kd.R_far (p := ⟨gb582, 0, none⟩) (Kd.R_types ar.out al.out (by decide)) (fun _ hk => hk.2) (.slice aE ap.length aC)) (fun _ hk => hk.2) (.slice aJ aq.length aQ)) (fun _ hk => hk.2) (.int .i64 ai)) (fun _ hk => hk.2) (.int .i64 ak)) (fun _ hk => hk.2) (.int .i64 am)) (fun _ hk => hk.2) (.slice bt aU.length br)) (fun _ hk => hk.1), by (with_reducible repeat (first | apply Kd.R_alloc | apply Kd.R_drewN | apply Kd.R_drew)); exact Kd.R_mono (Kd.R_far (p := ⟨gb582, 5, none⟩) (Kd.R_far (p := ⟨gb582, 4, none⟩) (Kd.R_far (p := ⟨gb582, 3, none⟩) (Kd.R_far (p := ⟨gb582, 2, none⟩) (Kd.R_far (p := ⟨gb582, 1, none⟩) (Kd.R_far (p := ⟨gb582, 0, none⟩) (Kd.R_types au.out al.out (by decide)) (fun _ hk => hk.2) (.slice aE ap.length aC)) (fun _ hk => hk.2) (.slice aJ aq.length aQ)) (fun _ hk => hk.2) (.int .i64 ai)) (fun _ hk => hk.2) (.int .i64 ak)) (fun _ hk => hk.2) (.int .i64 am)) (fun _ hk => hk.2) (.slice bt aU.length br)) (fun _ hk => hk.1), by (with_reducible repeat (first | apply Kd.S_alloc | apply Kd.S_drewN | apply Kd.S_drew)); exact Kd.S_mono (Kd.S_far (p := ⟨gb582, 5, none⟩) (Kd.S_far (p := ⟨gb582, 4, none⟩) (Kd.S_far (p := ⟨gb582, 3, none⟩) (Kd.S_far (p := ⟨gb582, 2, none⟩) (Kd.S_far (p := ⟨gb582, 1, none⟩) (Kd.S_far (p := ⟨gb582, 0, none⟩) (Kd.S_types aj.out al.out (by decide)) (fun _ hk => hk.2) (.slice aE ap.length aC)) (fun _ hk => hk.2) (.slice aJ aq.length aQ)) (fun _ hk => hk.2) (.int .i64 ai)) (fun _ hk => hk.2) (.int .i64 ak)) (fun _ hk => hk.2) (.int .i64 am)) (fun _ hk => hk.2) (.slice bt aU.length br)) (fun _ hk => ⟨hk.1.1, hk.1.2⟩), TB⟩

end Go.Proofs.Ytogilihkphjjbaa.Q
