/- Functions of the program as plain Lean functions, and that a call of each comes to what its function tells. -/
import Derived.Test.YtfkndpjbkndhcaaQ11
set_option maxHeartbeats 40000000
set_option maxRecDepth 100000
namespace Go.Proofs.Ytfkndpjbkndhcaa.Q
open Go.RowKit Go.Proofs.YtfkndpjbkndhcaaW.PrintWords Go.Proofs.YtfkndpjbkndhcaaW.PrintLast Go.Proofs.YtfkndpjbkndhcaaW.PrintMore
attribute [local go_sem] min2_int min_two
set_option linter.unusedVariables false
set_option linter.unusedSimpArgs false
attribute [local go_sem high] eqA48
theorem Zq12_0 {p : Prop} (h : p := by exact Kd.V_mk ay.out (Kd.F_below (Kd.C_F (Kd.heap_int .u8) az.out) TB)) : p := h
theorem Zq12_1 {p : Prop} (h : p := by (with_reducible repeat (first | apply Kd.V_alloc | apply Kd.V_drewN | apply Kd.V_drew)); exact ag.out) : p := h
theorem Zq12_2 {p : Prop} (h : p := by have X_ := (Kd.V_reads' ag.out).2.2; exact TC) : p := h
theorem Zq12_3 {p : Prop} (h : p := by repeat (first | exact (Kd.C_below ar.out TB) | (with_reducible refine Kd.C_alloc ?_ _) | (with_reducible refine Kd.C_drewN ?_ _) | (with_reducible refine Kd.C_drew ?_))) : p := h
mutual
def impl_BuildOk.j0 : Nat → Bool → Int → Int → Int → List (S48) → Int → List Int → Option (Bool)
  | 0, _, _, _, _, _, _, _ => none
  | k + 1, x32, x248000, x248001, x248002, x248003, x249000, x249001 => if x32 = true then (some false) else (impl_BuildOk.l0 k x248003 (x248003.length : Int) 0 x248000 x248001 x248002 x248003 x249000 x249001)
def impl_BuildOk.l0 : Nat → List (S48) → Int → Int → Int → Int → Int → List (S48) → Int → List Int → Option (Bool)
  | 0, _, _, _, _, _, _, _, _, _ => none
  | k + 1, x34, x35, x36, x248000, x248001, x248002, x248003, x249000, x249001 => if x36 < x35 then (if 0 ≤ x36 then (if x36 < (x34.length : Int) then ((impl_Build_block.f x249000 x249001 x248000 x248001 x248002 x248003 x36).bind fun t254 => ((impl_InSet.f x249000 x36).bind fun t257 => (if t257 = true then ((impl_SumOf.f k t254).bind fun bt258 => (if (!(bt258.1 == ((rd_T48 x34 x36).f0)) || (!(bt258.2 == ((rd_T48 x34 x36).f1)))) = true then (some false) else ((impl_InSet.f x249000 x36).bind fun t260 => (if t260 = true then (impl_BuildOk.l0 k x34 x35 (wrap64 (x36 + 1)) x248000 x248001 x248002 x248003 x249000 x249001) else ((slices_ContainsFunc_byte_byte.f k t254).bind fun t261 => (if t261 = true then (some false) else (impl_BuildOk.l0 k x34 x35 (wrap64 (x36 + 1)) x248000 x248001 x248002 x248003 x249000 x249001))))))) else ((impl_InSet.f x249000 x36).bind fun t262 => (if t262 = true then (impl_BuildOk.l0 k x34 x35 (wrap64 (x36 + 1)) x248000 x248001 x248002 x248003 x249000 x249001) else ((slices_ContainsFunc_byte_byte.f k t254).bind fun t263 => (if t263 = true then (some false) else (impl_BuildOk.l0 k x34 x35 (wrap64 (x36 + 1)) x248000 x248001 x248002 x248003 x249000 x249001)))))))) else (none)) else (none)) else (some true)
end
def impl_BuildOk.f (k : Nat) (a0_0 : Int) (a0_1 : Int) (a0_2 : Int) (l0_3 : List (S48)) (a1_0 : Int) (l1_1 : List Int) : Option (Bool) := (impl_ManOk.f k a0_0 a0_1 a0_2 l0_3).bind fun t249 => (if t249 = true then ((impl_SetOk.f a1_0).bind fun t250 => (if t250 = true then ((impl_AllParts.f a0_0 a0_1 a0_2 l0_3).bind fun t251 => (if (Go.bits .andNot .i64 a1_0 t251) = 0 then (impl_BuildOk.j0 k ((l1_1.length : Int) != a0_2) a0_0 a0_1 a0_2 l0_3 a1_0 l1_1) else (impl_BuildOk.j0 k true a0_0 a0_1 a0_2 l0_3 a1_0 l1_1))) else (impl_BuildOk.j0 k true a0_0 a0_1 a0_2 l0_3 a1_0 l1_1))) else (impl_BuildOk.j0 k true a0_0 a0_1 a0_2 l0_3 a1_0 l1_1))
theorem impl_BuildOk.mono_l : ∀ k, (∀ y0 y1 y2 y3 y4 y5 y6, LeO (impl_BuildOk.j0 k y0 y1 y2 y3 y4 y5 y6) (impl_BuildOk.j0 (k + 1) y0 y1 y2 y3 y4 y5 y6)) ∧ (∀ y0 y1 y2 y3 y4 y5 y6 y7 y8, LeO (impl_BuildOk.l0 k y0 y1 y2 y3 y4 y5 y6 y7 y8) (impl_BuildOk.l0 (k + 1) y0 y1 y2 y3 y4 y5 y6 y7 y8))
  | 0 => ⟨fun _ _ _ _ _ _ _ r h => by simp [impl_BuildOk.j0] at h, fun _ _ _ _ _ _ _ _ _ r h => by simp [impl_BuildOk.l0] at h⟩
  | k + 1 => by
    have m0_ := @impl_ManOk.mono
    have m1_ := @impl_SumOf.mono
    have m2_ := @slices_ContainsFunc_byte_byte.mono
    obtain ⟨ih0, ih1⟩ := impl_BuildOk.mono_l k
    refine ⟨?_, ?_⟩
    · intro y0 y1 y2 y3 y4 y5 y6
      unfold impl_BuildOk.j0
      exact LM
    · intro y0 y1 y2 y3 y4 y5 y6 y7 y8
      unfold impl_BuildOk.l0
      exact LM
theorem impl_BuildOk.mono : ∀ a0 a1 a2 a3 a4 a5 k, LeO (impl_BuildOk.f k a0 a1 a2 a3 a4 a5) (impl_BuildOk.f (k + 1) a0 a1 a2 a3 a4 a5) := by
  intro a0 a1 a2 a3 a4 a5 k;have m0_ := @impl_ManOk.mono;have m1_ := @impl_SumOf.mono;have m2_ := @slices_ContainsFunc_byte_byte.mono;obtain ⟨ih0, ih1⟩ := impl_BuildOk.mono_l k;unfold impl_BuildOk.f;exact LM
def impl_BuildOk.T1 : Bool × List (List Nat × List Nat) := (true, [([], []), ([0], [0]), ([1], [1]), ([2, 1], [2]), ([3], [3]), ([4, 3], [3, 4]), ([5, 3, 3], [3, 5]), ([6, 3], [3, 6]), ([3, 7], [3, 7]), ([8, 6], [8]), ([9], [9]), ([10, 9], [9, 10]), ([9], [9]), ([12, 9, 9], [9, 12]), ([11, 13, 9], [9, 11, 13]), ([14, 9], [9, 14]), ([9, 15], [9, 15]), ([16, 13], [16]), ([17], [17]), ([18, 17], [17, 18]), ([19, 17], [17, 19]), ([17], [17]), ([21, 17], [17, 21]), ([20, 22, 17], [17, 20, 22]), ([17, 23], [17, 23])])
def impl_BuildOk.B1 : List Nat := [0, 1, 3, 7, 15, 31, 63, 127, 255, 511, 1023, 2047, 1023, 5119, 16383, 32767, 65535, 131071, 262143, 524287, 1048575, 262143, 2359295, 8388607, 16777215]
theorem impl_BuildOk.tab1 : rtab .any (opsOf Try.f42 1) = impl_BuildOk.T1 := by kernel_rfl
theorem impl_BuildOk.bits1 : waitsOk impl_BuildOk.T1.2 impl_BuildOk.B1 = true := by kernel_rfl
def impl_BuildOk.T7 : Bool × List (List Nat × List Nat) := (true, [([], []), ([0], [0]), ([], []), ([1, 2], [1, 2]), ([3, 3], [3]), ([4], [4]), ([5, 4, 4], [4, 5]), ([4], [4]), ([6, 7, 4], [4, 6, 7]), ([4, 8], [4, 8]), ([9, 6], [9]), ([10], [10]), ([11, 10], [10, 11]), ([10], [10]), ([12, 13, 10, 10], [10, 12, 13]), ([14, 10], [10, 14]), ([15, 14, 10], [10, 15]), ([16], [16]), ([17, 16, 16], [16, 17]), ([16, 18, 10], [10, 16, 18]), ([10, 19], [10, 19])])
def impl_BuildOk.B7 : List Nat := [0, 1, 0, 7, 15, 31, 63, 31, 255, 511, 1023, 2047, 4095, 2047, 16383, 32767, 65535, 131071, 262143, 524287, 1048575]
theorem impl_BuildOk.tab7 : rtab .any (opsOf Try.f42 7) = impl_BuildOk.T7 := by kernel_rfl
theorem impl_BuildOk.bits7 : waitsOk impl_BuildOk.T7.2 impl_BuildOk.B7 = true := by kernel_rfl
theorem impl_BuildOk.calls (k : Nat) (ai : Int) (aj : Int) (ah : Int) (aw : Option Addr) (ap : Nat) (ae : List (S48)) (af : Int) (ao : Option Addr) (an : Nat) (ak : List Int) (r : Bool) (w : World) (aN : Kd.C k48 w aw ae.length ae) (aL : ae.length ≤ ap) (aK : Kd.C (Kd.int .u8) w ao ak.length ak) (aO : ak.length ≤ an) (h : impl_BuildOk.f k ai aj ah ae af ak = some r) :
  Calls Try.prog 42 #[.agg #[.int .i64 ai, .int .i64 aj, .int .i64 ah, .slice aw ae.length ap], .agg #[.int .i64 af, .slice ao ak.length an]] w fun e w' => e = .returned (.bool r) ∧ Below w.heap.size w w' := by
 have hu28 := Try.underlying28;have hu31 := Try.underlying31;have hu48 := Try.underlying48;have ar := aM aN;have av := aM aL;clear aN aL;have az := aM aK;have ay := aM aO;clear aK aO;have HB := aM (Below.refl w.heap.size w);have H := h;clear h;unfold impl_BuildOk.f at H;have HC3 := aM H;clear H;go_enter Try.func42, Try.ntmps42;go_upto_region 1 with (first | ((with_reducible refine gate_dst (N := 2) rfl ?_); (try (refine gate_guard (by rfl) ?_; dsimp only)); refine gBx 2 #[.int .i64 ai, .int .i64 aj, .int .i64 ah, .slice aw ae.length ap] 28 ?_; intro al hg w4 hbox hb; have ab := aM (hbox); have GW247 := gW HB hg; have GE247 := gW HB hg; replace HB := bS HB hb; clear hb hbox hg) | ((with_reducible refine gate_dst (N := 3) rfl ?_); (try (refine gate_guard (by rfl) ?_; dsimp only)); refine gBx 3 #[.int .i64 af, .slice ao ak.length an] 31 ?_; intro gb248 hg w5 hbox hb; have aa := aM (hbox); have GW248 := gW HB hg; have GE248 := gW HB hg; obtain ⟨NB247_248, NB248_247⟩ := nB ab hg; replace ab := mB ab hb; replace HB := bS HB hb; clear hb hbox hg))
 (try simp only [NP])
 go_cut [32] (fun v32 wc => ∃ (kq : Nat) (aG : Bool), v32 = .bool aG ∧ Aside0 (impl_BuildOk.j0 kq aG ai aj ah ae af ak = some r) ∧ Aside0 (kq ≤ k) ∧ Aside0 (wc.heap[al]? = some (.cells #[.int .i64 ai, .int .i64 aj, .int .i64 ah, (.slice aw ae.length ap)] 28 (0, 0))) ∧ Aside0 (wc.heap[gb248]? = some (.cells #[.int .i64 af, (.slice ao ak.length an)] 31 (0, 0))) ∧ Aside0 (Below w.heap.size w wc))
 case first =>
  have H := HC3.out;clear HC3;replace H := bE H;obtain ⟨t249, A6, H⟩ := H
  by_cases c7 : t249 = true
  ·subst c7;replace H := ifT H;replace H := bE H;obtain ⟨t250, A8, H⟩ := H
   by_cases c9 : t250 = true
   ·subst c9;replace H := ifT H;replace H := bE H;obtain ⟨aA, A10, H⟩ := H
    by_cases c11 : (Go.bits .andNot .i64 af aA) = 0
    ·rw [if_pos c11] at H;have ax : ((Go.bits .andNot .i64 af aA) == 0) = true := beq_iff_eq.mpr c11;have aH : ((Go.bits .andNot .i64 af aA) != 0) = false := bne_eq_false_iff_eq.mpr c11;clear c11;(first | rw [ax] | (simp only [i64_w, i32_w]; rw [ax]) | skip);have H' := aM H;clear H;try go_wp2
     replace ab := bD ab;replace aa := bD aa;replace HB := aM (below_drew1 HB.out);refine start_ (n := 25) (S := fun w' => w'.cell? ⟨al, 0, none⟩ = some (.int .i64 ai) ∧ w'.cell? ⟨al, 1, none⟩ = some (.int .i64 aj) ∧ w'.cell? ⟨al, 2, none⟩ = some (.int .i64 ah) ∧ w'.cell? ⟨al, 3, none⟩ = some (.slice aw ae.length ap) ∧ w'.cell? ⟨gb248, 0, none⟩ = some (.int .i64 af) ∧ w'.cell? ⟨gb248, 1, none⟩ = some (.slice ao ak.length an)) (ds := []) (Array.replicate 25 false) (by kernel_rfl) rfl rfl ⟨bC ab 0, bC ab 1, bC ab 2, bC ab 3, bC aa 0, bC aa 1⟩ (fun hHeld => ?_); refine with_tabW impl_BuildOk.tab1 impl_BuildOk.bits1 (fun HT_ HW_ => ?_);generalize w5.drew = w12 at ab aa HB hHeld ⊢;refine pT 0 (some 8) ?_;refine pO 1 (some 9) (fun K hK => ?_);refine gG Try.func64 #[.agg #[.int .i64 ai, .int .i64 aj, .int .i64 ah, .slice aw ae.length ap]] ?_;with_reducible refine (impl_ManOk.calls k ai aj ah _ _ ae true _ ?side1 ?side2 A6.out).mono ?_
     (case side1 => have X_ := (Kd.C_below ar.out HB.out); exact TC);(case side2 => exact av.out);rintro e w13 ⟨rfl, hb⟩;refine ⟨_, rfl, ?_⟩;replace ab := mB ab hb;replace aa := mB aa hb;replace HB := bS HB hb;(try clear hb);(try clear hb2);(try clear hk);(try clear hi);refine hK.out _ _ ⟨bC ab 0, bC ab 1, bC ab 2, bC ab 3, bC aa 0, bC aa 1⟩ (fun hHeld => ?_);clear hK K;refine nR ?_;refine pP 2 (some 10) ?_;refine pP 3 (some 11) ?_;refine pP 4 (some 12) ?_;refine pT 5 (some 13) ?_;refine pO 6 (some 14) (fun K hK => ?_);refine gG Try.func72 #[.int .i64 af] ?_;with_reducible refine (impl_SetOk.calls af true _ A8.out).mono ?_
     rintro e w' ⟨rfl, ⟨nd, rfl⟩⟩;refine ⟨_, rfl, ?_⟩;refine hK.out _ _ ⟨bC ab 0, bC ab 1, bC ab 2, bC ab 3, bC aa 0, bC aa 1⟩ (fun hHeld => ?_);clear hK K;refine nR ?_;refine pP 7 (some 15) ?_;refine pP 8 (some 16) ?_;refine pP 9 (some 17) ?_;refine pP 10 (some 18) ?_;refine pT 11 (some 19) ?_;refine pT 12 (some 20) ?_;refine pO 13 (some 21) (fun K hK => ?_);refine gG Try.func39 #[.agg #[.int .i64 ai, .int .i64 aj, .int .i64 ah, .slice aw ae.length ap]] ?_;with_reducible refine (impl_AllParts.calls ai aj ah _ _ ae aA _ ?side1 ?side2 A10.out).mono ?_
     (case side1 => exact Zq12_3);(case side2 => exact av.out);rintro e w14 ⟨rfl, hb⟩;refine ⟨_, rfl, ?_⟩;replace ab := mB ab hb;replace aa := mB aa hb;replace HB := bS HB hb;(try clear hb);(try clear hb2);(try clear hk);(try clear hi);refine hK.out _ _ ⟨bC ab 0, bC ab 1, bC ab 2, bC ab 3, bC aa 0, bC aa 1⟩ (fun hHeld => ?_);clear hK K;refine nR ?_;refine pP 14 (some 22) ?_;refine pP 15 (some 23) ?_;refine pP 16 (some 24) ?_;refine pP 17 (some 25) ?_;refine pP 18 (some 26) ?_;refine pP 21 (some 29) ?_;refine pT 19 (some 27) ?_;refine pP 20 (some 28) ?_;refine pT 22 (some 30) ?_;refine pP 23 (some 31) ?_;refine pP 24 (some 32) ?_;refine done_ (done_of HT_.out (by kernel_rfl)) ?_;try go_wp2
     go_meet
     case rel => exact ⟨_, (((ak.length : Int) != ah)), TF, H', ⟨by first | omega | exact Nat.le_refl _⟩, ⟨TK⟩, ⟨TK⟩, ⟨TB⟩⟩
    ·rw [if_neg c11] at H;have ax : ((Go.bits .andNot .i64 af aA) == 0) = false := beq_eq_false_iff_ne.mpr c11;have aH : ((Go.bits .andNot .i64 af aA) != 0) = true := bne_iff_ne.mpr c11;(first | rw [ax] | (simp only [i64_w, i32_w]; rw [ax]) | skip);have H' := aM H;clear H;try go_wp2
     replace ab := bD ab;replace aa := bD aa;replace HB := aM (below_drew1 HB.out);refine start_ (n := 25) (S := fun w' => w'.cell? ⟨al, 0, none⟩ = some (.int .i64 ai) ∧ w'.cell? ⟨al, 1, none⟩ = some (.int .i64 aj) ∧ w'.cell? ⟨al, 2, none⟩ = some (.int .i64 ah) ∧ w'.cell? ⟨al, 3, none⟩ = some (.slice aw ae.length ap) ∧ w'.cell? ⟨gb248, 0, none⟩ = some (.int .i64 af) ∧ w'.cell? ⟨gb248, 1, none⟩ = some (.slice ao ak.length an)) (ds := []) (Array.replicate 25 false) (by kernel_rfl) rfl rfl ⟨bC ab 0, bC ab 1, bC ab 2, bC ab 3, bC aa 0, bC aa 1⟩ (fun hHeld => ?_); refine with_tabW impl_BuildOk.tab1 impl_BuildOk.bits1 (fun HT_ HW_ => ?_);generalize w5.drew = w15 at ab aa HB hHeld ⊢;refine pT 0 (some 8) ?_;refine pO 1 (some 9) (fun K hK => ?_);refine gG Try.func64 #[.agg #[.int .i64 ai, .int .i64 aj, .int .i64 ah, .slice aw ae.length ap]] ?_;with_reducible refine (impl_ManOk.calls k ai aj ah _ _ ae true _ ?side1 ?side2 A6.out).mono ?_
     (case side1 => have X_ := (Kd.C_below ar.out HB.out); exact TC);(case side2 => exact av.out);rintro e w16 ⟨rfl, hb⟩;refine ⟨_, rfl, ?_⟩;replace ab := mB ab hb;replace aa := mB aa hb;replace HB := bS HB hb;(try clear hb);(try clear hb2);(try clear hk);(try clear hi);refine hK.out _ _ ⟨bC ab 0, bC ab 1, bC ab 2, bC ab 3, bC aa 0, bC aa 1⟩ (fun hHeld => ?_);clear hK K;refine nR ?_;refine pP 2 (some 10) ?_;refine pP 3 (some 11) ?_;refine pP 4 (some 12) ?_;refine pT 5 (some 13) ?_;refine pO 6 (some 14) (fun K hK => ?_);refine gG Try.func72 #[.int .i64 af] ?_;with_reducible refine (impl_SetOk.calls af true _ A8.out).mono ?_
     rintro e w' ⟨rfl, ⟨nd, rfl⟩⟩;refine ⟨_, rfl, ?_⟩;refine hK.out _ _ ⟨bC ab 0, bC ab 1, bC ab 2, bC ab 3, bC aa 0, bC aa 1⟩ (fun hHeld => ?_);clear hK K;refine nR ?_;refine pP 7 (some 15) ?_;refine pP 8 (some 16) ?_;refine pP 9 (some 17) ?_;refine pP 10 (some 18) ?_;refine pT 11 (some 19) ?_;refine pT 12 (some 20) ?_;refine pO 13 (some 21) (fun K hK => ?_);refine gG Try.func39 #[.agg #[.int .i64 ai, .int .i64 aj, .int .i64 ah, .slice aw ae.length ap]] ?_;with_reducible refine (impl_AllParts.calls ai aj ah _ _ ae aA _ ?side1 ?side2 A10.out).mono ?_
     (case side1 => exact Zq12_3);(case side2 => exact av.out);rintro e w17 ⟨rfl, hb⟩;refine ⟨_, rfl, ?_⟩;replace ab := mB ab hb;replace aa := mB aa hb;replace HB := bS HB hb;(try clear hb);(try clear hb2);(try clear hk);(try clear hi);refine hK.out _ _ ⟨bC ab 0, bC ab 1, bC ab 2, bC ab 3, bC aa 0, bC aa 1⟩ (fun hHeld => ?_);clear hK K;refine nR ?_;refine pP 14 (some 22) ?_;refine pP 15 (some 23) ?_;refine pP 16 (some 24) ?_;refine pP 17 (some 25) ?_;refine pX 18 (some 26) ?_;refine pX 19 (some 27) ?_;refine pX 20 (some 28) ?_;refine pX 21 (some 29) ?_;refine pX 22 (some 30) ?_;refine pX 23 (some 31) ?_;refine pP 24 (some 32) ?_;refine done_ (done_of HT_.out (by kernel_rfl)) ?_;try go_wp2
     go_meet
     case rel => exact ⟨_, (true), TF, H', ⟨by first | omega | exact Nat.le_refl _⟩, ⟨TK⟩, ⟨TK⟩, ⟨TB⟩⟩
   ·replace c9 := Bool.eq_false_iff.mpr c9;subst c9;replace H := ifF H;have H' := aM H;clear H;try go_wp2
    replace ab := bD ab;replace aa := bD aa;replace HB := aM (below_drew1 HB.out);refine start_ (n := 25) (S := fun w' => w'.cell? ⟨al, 0, none⟩ = some (.int .i64 ai) ∧ w'.cell? ⟨al, 1, none⟩ = some (.int .i64 aj) ∧ w'.cell? ⟨al, 2, none⟩ = some (.int .i64 ah) ∧ w'.cell? ⟨al, 3, none⟩ = some (.slice aw ae.length ap) ∧ w'.cell? ⟨gb248, 0, none⟩ = some (.int .i64 af) ∧ w'.cell? ⟨gb248, 1, none⟩ = some (.slice ao ak.length an)) (ds := []) (Array.replicate 25 false) (by kernel_rfl) rfl rfl ⟨bC ab 0, bC ab 1, bC ab 2, bC ab 3, bC aa 0, bC aa 1⟩ (fun hHeld => ?_); refine with_tabW impl_BuildOk.tab1 impl_BuildOk.bits1 (fun HT_ HW_ => ?_);generalize w5.drew = w18 at ab aa HB hHeld ⊢;refine pT 0 (some 8) ?_;refine pO 1 (some 9) (fun K hK => ?_);refine gG Try.func64 #[.agg #[.int .i64 ai, .int .i64 aj, .int .i64 ah, .slice aw ae.length ap]] ?_;with_reducible refine (impl_ManOk.calls k ai aj ah _ _ ae true _ ?side1 ?side2 A6.out).mono ?_
    (case side1 => have X_ := (Kd.C_below ar.out HB.out); exact TC);(case side2 => exact av.out);rintro e w19 ⟨rfl, hb⟩;refine ⟨_, rfl, ?_⟩;replace ab := mB ab hb;replace aa := mB aa hb;replace HB := bS HB hb;(try clear hb);(try clear hb2);(try clear hk);(try clear hi);refine hK.out _ _ ⟨bC ab 0, bC ab 1, bC ab 2, bC ab 3, bC aa 0, bC aa 1⟩ (fun hHeld => ?_);clear hK K;refine nR ?_;refine pP 2 (some 10) ?_;refine pP 3 (some 11) ?_;refine pP 4 (some 12) ?_;refine pT 5 (some 13) ?_;refine pO 6 (some 14) (fun K hK => ?_);refine gG Try.func72 #[.int .i64 af] ?_;with_reducible refine (impl_SetOk.calls af false _ A8.out).mono ?_
    rintro e w' ⟨rfl, ⟨nd, rfl⟩⟩;refine ⟨_, rfl, ?_⟩;refine hK.out _ _ ⟨bC ab 0, bC ab 1, bC ab 2, bC ab 3, bC aa 0, bC aa 1⟩ (fun hHeld => ?_);clear hK K;refine nR ?_;refine pP 7 (some 15) ?_;refine pP 8 (some 16) ?_;refine pP 9 (some 17) ?_;refine pX 10 (some 18) ?_;refine pX 11 (some 19) ?_;refine pX 12 (some 20) ?_;refine pX 13 (some 21) ?_;refine pX 14 (some 22) ?_;refine pX 15 (some 23) ?_;refine pP 16 (some 24) ?_;refine pP 17 (some 25) ?_;refine pX 18 (some 26) ?_;refine pX 19 (some 27) ?_;refine pX 20 (some 28) ?_;refine pX 21 (some 29) ?_;refine pX 22 (some 30) ?_;refine pX 23 (some 31) ?_;refine pP 24 (some 32) ?_;refine done_ (done_of HT_.out (by kernel_rfl)) ?_;try go_wp2
    go_meet
    case rel => exact ⟨_, (true), TF, H', ⟨by first | omega | exact Nat.le_refl _⟩, ⟨TK⟩, ⟨TK⟩, ⟨TB⟩⟩
  ·replace c7 := Bool.eq_false_iff.mpr c7;subst c7;replace H := ifF H;have H' := aM H;clear H;try go_wp2
   replace ab := bD ab;replace aa := bD aa;replace HB := aM (below_drew1 HB.out);refine start_ (n := 25) (S := fun w' => w'.cell? ⟨al, 0, none⟩ = some (.int .i64 ai) ∧ w'.cell? ⟨al, 1, none⟩ = some (.int .i64 aj) ∧ w'.cell? ⟨al, 2, none⟩ = some (.int .i64 ah) ∧ w'.cell? ⟨al, 3, none⟩ = some (.slice aw ae.length ap)) (ds := []) (Array.replicate 25 false) (by kernel_rfl) rfl rfl (cz4 ab.out) (fun hHeld => ?_); refine with_tabW impl_BuildOk.tab1 impl_BuildOk.bits1 (fun HT_ HW_ => ?_);generalize w5.drew = w20 at ab aa HB hHeld ⊢;refine pT 0 (some 8) ?_;refine pO 1 (some 9) (fun K hK => ?_);refine gG Try.func64 #[.agg #[.int .i64 ai, .int .i64 aj, .int .i64 ah, .slice aw ae.length ap]] ?_;with_reducible refine (impl_ManOk.calls k ai aj ah _ _ ae false _ ?side1 ?side2 A6.out).mono ?_
   (case side1 => have X_ := (Kd.C_below ar.out HB.out); exact TC);(case side2 => exact av.out);rintro e w21 ⟨rfl, hb⟩;refine ⟨_, rfl, ?_⟩;replace ab := mB ab hb;replace aa := mB aa hb;replace HB := bS HB hb;(try clear hb);(try clear hb2);(try clear hk);(try clear hi);refine hK.out _ _ (cz4 ab.out) (fun hHeld => ?_);clear hK K;refine nR ?_;refine pP 2 (some 10) ?_;refine pP 3 (some 11) ?_;refine pX 4 (some 12) ?_;refine pX 5 (some 13) ?_;refine pX 6 (some 14) ?_;refine pX 7 (some 15) ?_;refine pP 8 (some 16) ?_;refine pP 9 (some 17) ?_;refine pX 10 (some 18) ?_;refine pX 11 (some 19) ?_;refine pX 12 (some 20) ?_;refine pX 13 (some 21) ?_;refine pX 14 (some 22) ?_;refine pX 15 (some 23) ?_;refine pP 16 (some 24) ?_;refine pP 17 (some 25) ?_;refine pX 18 (some 26) ?_;refine pX 19 (some 27) ?_;refine pX 20 (some 28) ?_;refine pX 21 (some 29) ?_;refine pX 22 (some 30) ?_;refine pX 23 (some 31) ?_;refine pP 24 (some 32) ?_;refine done_ (done_of HT_.out (by kernel_rfl)) ?_;try go_wp2
   go_meet
   case rel => exact ⟨_, (true), TF, H', ⟨by first | omega | exact Nat.le_refl _⟩, ⟨TK⟩, ⟨TK⟩, ⟨TB⟩⟩
 case rest =>
  clear HC3;try clear c1
  try clear p2
  try clear c3
  try clear c6
  try clear c7
  try clear c9
  try clear c11
  try clear ax
  try clear aH
  obtain ⟨kq, aG, rfl, HA, HJ2, ab, aa, HB⟩ := hcut;cases kq with
  | zero => exact absurd HA.out (by simp [impl_BuildOk.j0])
  | succ kj2 =>
   have H := HA.out;clear HA;simp only [impl_BuildOk.j0] at H
   by_cases c22 : aG = true
   ·subst c22;replace H := ifT H;obtain rfl := Option.some.inj H;go_wp2
    go_ret
    exact ⟨TE, TB⟩
   ·replace c22 := Bool.eq_false_iff.mpr c22;subst c22;replace H := ifF H;have H' := aM H;clear H;obtain ⟨hnb23, hnc23⟩ := oB NB247_248;obtain ⟨aR, aQ, aT, aU⟩ := cz4 ab.out;obtain ⟨aP, aV, aW, aS⟩ := fz4 ab.out;go_wp2
    go_loopg [36] kj2 (fun kq v36 w' => ∃ (ac : Int), v36 = .int .i64 ac ∧ Aside0 (impl_BuildOk.l0 kq ae (ae.length : Int) ac ai aj ah ae af ak = some r) ∧ Aside0 (kq ≤ kj2) ∧ Aside0 (w'.heap[al]? = some (.cells #[.int .i64 ai, .int .i64 aj, .int .i64 ah, (.slice aw ae.length ap)] 28 (0, 0))) ∧ Aside0 (w'.heap[gb248]? = some (.cells #[.int .i64 af, (.slice ao ak.length an)] 31 (0, 0))) ∧ Aside0 (Below w.heap.size w w'))
    case atStart => exact ⟨(0), TF, H', ⟨Nat.le_refl _⟩, ⟨TK⟩, ⟨TK⟩, ⟨TB⟩⟩
    case round =>
     clear H';try clear c1
     try clear c2
     try clear p2
     try clear c3
     try clear c6
     try clear c7
     try clear c9
     try clear c11
     try clear ax
     try clear aH
     try clear c22
     try clear c23
     try clear aR
     try clear aQ
     try clear aT
     try clear aU
     try clear aP
     try clear aV
     try clear aW
     try clear aS
     try clear p2
     obtain ⟨ac, rfl, HA, HK2, ab, aa, HB⟩ := hrel;cases gk with
     | zero => exact absurd HA.out (by simp [impl_BuildOk.l0])
     | succ k2 =>
      have H := HA.out;clear HA;simp only [impl_BuildOk.l0] at H
      by_cases c25 : ac < (ae.length : Int)
      ·rw [if_pos c25] at H;have c25b0 : decide (ac < (ae.length : Int)) = true := decide_eq_true c25;clear c25;replace H := ifN H;obtain ⟨c26, H⟩ := H;have c26b0 : decide (0 ≤ ac) = true := decide_eq_true c26;clear c26;replace H := ifN H;obtain ⟨c27, H⟩ := H;have c27b0 : decide (ac < (ae.length : Int)) = true := decide_eq_true c27;clear c27;replace H := bE H;obtain ⟨aq, A28, H⟩ := H;replace H := bE H;obtain ⟨t257, A29, H⟩ := H;have aI : 0 ≤ (ac : Int) := DT;have aJ : ac < (ae.length : Int) := DT;obtain ⟨au, e252, aD, aE⟩ := at_T48 ar.out ac aI aJ;cases e252;replace aD := (HB.out.cell (World.block_lt_of_cell? w _ aD)).trans aD;replace aE := (HB.out.cell (World.block_lt_of_cell? w _ aE)).trans aE;replace aI := eq_true aI;replace aJ := eq_true aJ;go_wp2_with (first | ((with_reducible refine gate_dst (N := 6) rfl ?_); (try (refine gate_guard (by rfl) ?_; dsimp only)); refine gBx 6 #[.int .i64 0, .int .i64 0] 48 ?_; intro am hg w31 hbox hb; have ad := aM (hbox); have GW253 := gW HB hg; have GE253 := gW HB hg; obtain ⟨NB247_253, NB253_247⟩ := nB ab hg; obtain ⟨NB248_253, NB253_248⟩ := nB aa hg; replace ab := mB ab hb; replace aa := mB aa hb; replace HB := bS HB hb; clear hb hbox hg; obtain ⟨hnb32, hnc32⟩ := oB NB253_247; obtain ⟨hnb33, hnc33⟩ := oB NB253_248; obtain ⟨hcz34_0, hcz34_1⟩ := cz2 ad.out; obtain ⟨hfz34_0, hfz34_1⟩ := fz2 ad.out; obtain ⟨hnb35, hnc35⟩ := oB NB248_247; obtain ⟨hcz36_0, hcz36_1⟩ := cz2 aa.out; obtain ⟨hfz36_0, hfz36_1⟩ := fz2 aa.out; obtain ⟨hcz37_0, hcz37_1, hcz37_2, hcz37_3⟩ := cz4 ab.out; obtain ⟨hfz37_0, hfz37_1, hfz37_2, hfz37_3⟩ := fz4 ab.out) | ((with_reducible refine gate_callee (f := 89) rfl ?_); (with_reducible refine gate_dst (N := 44) rfl ?_); generalize hG_ : wpList _ _ _ _ _ _ = G_))
       subst hG_
       by_cases c38 : t257 = true
       ·subst c38;replace H := ifT H;replace H := bE H;obtain ⟨⟨aB, aC⟩, A39, H⟩ := H;dsimp only at H
        by_cases c40 : (!(aB == ((rd_T48 ae ac).f0)) || (!(aC == ((rd_T48 ae ac).f1)))) = true
        ·rw [if_pos c40] at H;have c40b0 : (!(aB == ((rd_T48 ae ac).f0)) || (!(aC == ((rd_T48 ae ac).f1)))) = true := c40;clear c40;obtain rfl := Option.some.inj H;try go_wp2_with (first | ((with_reducible refine gate_callee (f := 89) rfl ?_); refine gL (some 44) Try.func89 #[.agg #[.int .i64 af, .slice ao ak.length an], .agg #[.int .i64 ai, .int .i64 aj, .int .i64 ah, .slice (some au) ae.length ap], .int .i64 ac] ?_; (with_reducible refine (impl_Build_block.calls af (fun k_ => k_ < w.heap.size) _ _ ak ai aj ah _ _ ae ac aq _ ?side1 ?side2 ?side3 A28.out).mono ?_); (case side1 => exact Zq12_0); (case side2 => exact Kd.C_below ar.out TB); (case side3 => exact av.out); rintro e w41 ⟨aF, rfl, ho0, hb⟩; refine ⟨_, rfl, ?_⟩; have ag := aM (Kd.V_lower (Kd.V_mono (ok' := fun k_ => k_ ≠ al ∧ k_ ≠ gb248 ∧ k_ ≠ am) ho0 (fun k_ hk_ => ⟨Or.elim hk_ (fun hs_ => fun e_ => Nat.not_le.2 hs_ (by rw [e_]; exact GW247.out)) (fun hn_ => (Kd.freshB (g := al) (o := .cells #[.int .i64 ai, .int .i64 aj, .int .i64 ah, .slice (some au) ae.length ap] 28 (0, 0)) (TZ ab) k_ hn_)), Or.elim hk_ (fun hs_ => fun e_ => Nat.not_le.2 hs_ (by rw [e_]; exact GW248.out)) (fun hn_ => (Kd.freshB (g := gb248) (o := .cells #[.int .i64 af, .slice ao ak.length an] 31 (0, 0)) (TZ aa) k_ hn_)), Or.elim hk_ (fun hs_ => fun e_ => Nat.not_le.2 hs_ (by rw [e_]; exact GW253.out)) (fun hn_ => (Kd.freshB (g := am) (o := .cells #[.int .i64 ((rd_T48 ae ac).f0), .int .i64 ((rd_T48 ae ac).f1)] 48 (0, 0)) (blk_put (blk_put (cs := #[.int .i64 0, .int .i64 0]) (TZ ad) 0 _ rfl) 1 _ rfl) k_ hn_))⟩)) (below_size TB)); replace ab := mB ab hb; replace aa := mB aa hb; replace ad := aM (blk_below (g := am) (o := .cells #[.int .i64 ((rd_T48 ae ac).f0), .int .i64 ((rd_T48 ae ac).f1)] 48 (0, 0)) (blk_put (blk_put (cs := #[.int .i64 0, .int .i64 0]) (TZ ad) 0 _ rfl) 1 _ rfl) hb); replace HB := bS HB hb; clear ho0 hb))
         replace ag := aM (Kd.V_drew ag.out);replace ab := bD ab;replace aa := bD aa;replace ad := bD ad;replace HB := aM (below_drew1 HB.out);refine start_ (n := 21) (S := fun w' => w'.cell? ⟨gb248, 0, none⟩ = some (.int .i64 af) ∧ w'.cell? ⟨gb248, 1, none⟩ = some (.slice ao ak.length an) ∧ w'.cell? ⟨am, 0, none⟩ = some (.int .i64 ((rd_T48 ae ac).f0)) ∧ w'.cell? ⟨am, 1, none⟩ = some (.int .i64 ((rd_T48 ae ac).f1))) (ds := []) (Array.replicate 21 false) (by kernel_rfl) rfl rfl ⟨bC aa 0, bC aa 1, bC ad 0, bC ad 1⟩ (fun hHeld => ?_); refine with_tabW impl_BuildOk.tab7 impl_BuildOk.bits7 (fun HT_ HW_ => ?_);generalize w41.drew = w42 at ag ab aa ad HB hHeld ⊢;refine pP 0 (some 45) ?_;refine pP 2 (some 47) ?_;refine pT 1 (some 46) ?_;refine pO 3 (some 48) (fun K hK => ?_);refine gG Try.func37 #[.int .i64 af, .int .i64 ac] ?_;with_reducible refine (impl_InSet.calls af ac true _ A29.out).mono ?_
         rintro e w' ⟨rfl, ⟨nd, rfl⟩⟩;refine ⟨_, rfl, ?_⟩;obtain ⟨Ao43, co43, eo43⟩ := Kd.V_slice ag.out;(first | subst eo43 | (injection eo43 with f1_ f2_ f3_; have f4_ := f1_.symm; have f5_ := f3_.symm; clear f1_ f2_ f3_; subst f4_; subst f5_));refine hK.out _ _ ⟨bC aa 0, bC aa 1, bC ad 0, bC ad 1⟩ (fun hHeld => ?_);clear hK K;refine nR ?_;refine pP 4 (some 49) ?_;refine pP 5 (some 50) ?_;refine pT 7 (some 52) ?_;refine pO 6 (some 51) (fun K hK => ?_);refine gG Try.func57 #[.slice Ao43 aq.length co43] ?_;with_reducible refine (impl_SumOf.calls k2 _ _ aq aB aC _ ?side1 ?side2 A39.out).mono ?_
         (case side1 => exact Zq12_2);(case side2 => exact (Kd.V_reads' ag.out).2.1);rintro e w44 ⟨rfl, hb⟩;refine ⟨_, rfl, ?_⟩;replace ag := aM (Kd.V_below (by exact Zq12_1) hb);replace ab := mB ab hb;replace aa := mB aa hb;replace ad := mB ad hb;replace HB := bS HB hb;(try clear hb);(try clear hb2);(try clear hk);(try clear hi);refine hK.out _ _ ⟨bC aa 0, bC aa 1, bC ad 0, bC ad 1⟩ (fun hHeld => ?_);clear hK K;refine nR ?_;refine pP 8 (some 53) ?_;refine pP 9 (some 54) ?_;refine pP 10 (some 55) ?_;refine pX 11 (some 56) ?_;refine pX 12 (some 57) ?_;refine pX 13 (some 58) ?_;refine pX 14 (some 59) ?_;refine pX 15 (some 60) ?_;refine pX 16 (some 61) ?_;refine pX 17 (some 62) ?_;refine pX 18 (some 63) ?_;refine pX 19 (some 64) ?_;refine pP 20 (some 65) ?_;refine done_ (done_of HT_.out (by kernel_rfl)) ?_;try go_wp2
         go_ret
         exact ⟨TE, TB⟩
        ·rw [if_neg c40] at H;have c40b0 : (!(aB == ((rd_T48 ae ac).f0)) || (!(aC == ((rd_T48 ae ac).f1)))) = false := by simpa using c40
         clear c40;replace H := bE H;obtain ⟨t260, A45, H⟩ := H
         by_cases c46 : t260 = true
         ·subst c46;replace H := ifT H;have H' := aM H;clear H;try go_wp2_with (first | ((with_reducible refine gate_callee (f := 89) rfl ?_); refine gL (some 44) Try.func89 #[.agg #[.int .i64 af, .slice ao ak.length an], .agg #[.int .i64 ai, .int .i64 aj, .int .i64 ah, .slice (some au) ae.length ap], .int .i64 ac] ?_; (with_reducible refine (impl_Build_block.calls af (fun k_ => k_ < w.heap.size) _ _ ak ai aj ah _ _ ae ac aq _ ?side1 ?side2 ?side3 A28.out).mono ?_); (case side1 => exact Zq12_0); (case side2 => exact Kd.C_below ar.out TB); (case side3 => exact av.out); rintro e w47 ⟨aF, rfl, ho0, hb⟩; refine ⟨_, rfl, ?_⟩; have ag := aM (Kd.V_lower (Kd.V_mono (ok' := fun k_ => k_ ≠ al ∧ k_ ≠ gb248 ∧ k_ ≠ am) ho0 (fun k_ hk_ => ⟨Or.elim hk_ (fun hs_ => fun e_ => Nat.not_le.2 hs_ (by rw [e_]; exact GW247.out)) (fun hn_ => (Kd.freshB (g := al) (o := .cells #[.int .i64 ai, .int .i64 aj, .int .i64 ah, .slice (some au) ae.length ap] 28 (0, 0)) (TZ ab) k_ hn_)), Or.elim hk_ (fun hs_ => fun e_ => Nat.not_le.2 hs_ (by rw [e_]; exact GW248.out)) (fun hn_ => (Kd.freshB (g := gb248) (o := .cells #[.int .i64 af, .slice ao ak.length an] 31 (0, 0)) (TZ aa) k_ hn_)), Or.elim hk_ (fun hs_ => fun e_ => Nat.not_le.2 hs_ (by rw [e_]; exact GW253.out)) (fun hn_ => (Kd.freshB (g := am) (o := .cells #[.int .i64 ((rd_T48 ae ac).f0), .int .i64 ((rd_T48 ae ac).f1)] 48 (0, 0)) (blk_put (blk_put (cs := #[.int .i64 0, .int .i64 0]) (TZ ad) 0 _ rfl) 1 _ rfl) k_ hn_))⟩)) (below_size TB)); replace ab := mB ab hb; replace aa := mB aa hb; replace ad := aM (blk_below (g := am) (o := .cells #[.int .i64 ((rd_T48 ae ac).f0), .int .i64 ((rd_T48 ae ac).f1)] 48 (0, 0)) (blk_put (blk_put (cs := #[.int .i64 0, .int .i64 0]) (TZ ad) 0 _ rfl) 1 _ rfl) hb); replace HB := bS HB hb; clear ho0 hb))
          replace ag := aM (Kd.V_drew ag.out);replace ab := bD ab;replace aa := bD aa;replace ad := bD ad;replace HB := aM (below_drew1 HB.out);refine start_ (n := 21) (S := fun w' => w'.cell? ⟨gb248, 0, none⟩ = some (.int .i64 af) ∧ w'.cell? ⟨gb248, 1, none⟩ = some (.slice ao ak.length an) ∧ w'.cell? ⟨am, 0, none⟩ = some (.int .i64 ((rd_T48 ae ac).f0)) ∧ w'.cell? ⟨am, 1, none⟩ = some (.int .i64 ((rd_T48 ae ac).f1))) (ds := []) (Array.replicate 21 false) (by kernel_rfl) rfl rfl ⟨bC aa 0, bC aa 1, bC ad 0, bC ad 1⟩ (fun hHeld => ?_); refine with_tabW impl_BuildOk.tab7 impl_BuildOk.bits7 (fun HT_ HW_ => ?_);generalize w47.drew = w48 at ag ab aa ad HB hHeld ⊢;refine pP 0 (some 45) ?_;refine pP 2 (some 47) ?_;refine pT 1 (some 46) ?_;refine pO 3 (some 48) (fun K hK => ?_);refine gG Try.func37 #[.int .i64 af, .int .i64 ac] ?_;with_reducible refine (impl_InSet.calls af ac true _ A29.out).mono ?_
          rintro e w' ⟨rfl, ⟨nd, rfl⟩⟩;refine ⟨_, rfl, ?_⟩;obtain ⟨Ao49, co49, eo49⟩ := Kd.V_slice ag.out;(first | subst eo49 | (injection eo49 with f1_ f2_ f3_; have f4_ := f1_.symm; have f5_ := f3_.symm; clear f1_ f2_ f3_; subst f4_; subst f5_));refine hK.out _ _ ⟨bC aa 0, bC aa 1, bC ad 0, bC ad 1⟩ (fun hHeld => ?_);clear hK K;refine nR ?_;refine pP 4 (some 49) ?_;refine pP 5 (some 50) ?_;refine pT 7 (some 52) ?_;refine pO 6 (some 51) (fun K hK => ?_);refine gG Try.func57 #[.slice Ao49 aq.length co49] ?_;with_reducible refine (impl_SumOf.calls k2 _ _ aq aB aC _ ?side1 ?side2 A39.out).mono ?_
          (case side1 => exact Zq12_2);(case side2 => exact (Kd.V_reads' ag.out).2.1);rintro e w50 ⟨rfl, hb⟩;refine ⟨_, rfl, ?_⟩;replace ag := aM (Kd.V_below (by exact Zq12_1) hb);replace ab := mB ab hb;replace aa := mB aa hb;replace ad := mB ad hb;replace HB := bS HB hb;(try clear hb);(try clear hb2);(try clear hk);(try clear hi);refine hK.out _ _ ⟨bC aa 0, bC aa 1, bC ad 0, bC ad 1⟩ (fun hHeld => ?_);clear hK K;refine nR ?_;refine pP 8 (some 53) ?_;refine pP 9 (some 54) ?_;refine pP 10 (some 55) ?_;refine pP 11 (some 56) ?_;refine pP 13 (some 58) ?_;refine pT 12 (some 57) ?_;refine pO 14 (some 59) (fun K hK => ?_);refine gG Try.func37 #[.int .i64 af, .int .i64 ac] ?_;with_reducible refine (impl_InSet.calls af ac true _ A45.out).mono ?_
          rintro e w' ⟨rfl, ⟨nd, rfl⟩⟩;refine ⟨_, rfl, ?_⟩;refine hK.out _ _ ⟨bC aa 0, bC aa 1, bC ad 0, bC ad 1⟩ (fun hHeld => ?_);clear hK K;refine nR ?_;refine pP 15 (some 60) ?_;refine pP 16 (some 61) ?_;refine pX 17 (some 62) ?_;refine pX 18 (some 63) ?_;refine pP 19 (some 64) ?_;refine pP 20 (some 65) ?_;refine done_ (done_of HT_.out (by kernel_rfl)) ?_;try go_wp2
          go_roundg k2
          case measure => have := HJ2.out; have := HK2.out; omega
          case rel => exact ⟨(wrap64 (ac + 1)), TF, H', ⟨by have := HJ2.out; have := HK2.out; omega⟩, ⟨TK⟩, ⟨TK⟩, ⟨TB⟩⟩
         ·replace c46 := Bool.eq_false_iff.mpr c46;subst c46;replace H := ifF H;replace H := bE H;obtain ⟨t261, A51, H⟩ := H
          by_cases c52 : t261 = true
          ·subst c52;replace H := ifT H;obtain rfl := Option.some.inj H;try go_wp2_with (first | ((with_reducible refine gate_callee (f := 89) rfl ?_); refine gL (some 44) Try.func89 #[.agg #[.int .i64 af, .slice ao ak.length an], .agg #[.int .i64 ai, .int .i64 aj, .int .i64 ah, .slice (some au) ae.length ap], .int .i64 ac] ?_; (with_reducible refine (impl_Build_block.calls af (fun k_ => k_ < w.heap.size) _ _ ak ai aj ah _ _ ae ac aq _ ?side1 ?side2 ?side3 A28.out).mono ?_); (case side1 => exact Zq12_0); (case side2 => exact Kd.C_below ar.out TB); (case side3 => exact av.out); rintro e w53 ⟨aF, rfl, ho0, hb⟩; refine ⟨_, rfl, ?_⟩; have ag := aM (Kd.V_lower (Kd.V_mono (ok' := fun k_ => k_ ≠ al ∧ k_ ≠ gb248 ∧ k_ ≠ am) ho0 (fun k_ hk_ => ⟨Or.elim hk_ (fun hs_ => fun e_ => Nat.not_le.2 hs_ (by rw [e_]; exact GW247.out)) (fun hn_ => (Kd.freshB (g := al) (o := .cells #[.int .i64 ai, .int .i64 aj, .int .i64 ah, .slice (some au) ae.length ap] 28 (0, 0)) (TZ ab) k_ hn_)), Or.elim hk_ (fun hs_ => fun e_ => Nat.not_le.2 hs_ (by rw [e_]; exact GW248.out)) (fun hn_ => (Kd.freshB (g := gb248) (o := .cells #[.int .i64 af, .slice ao ak.length an] 31 (0, 0)) (TZ aa) k_ hn_)), Or.elim hk_ (fun hs_ => fun e_ => Nat.not_le.2 hs_ (by rw [e_]; exact GW253.out)) (fun hn_ => (Kd.freshB (g := am) (o := .cells #[.int .i64 ((rd_T48 ae ac).f0), .int .i64 ((rd_T48 ae ac).f1)] 48 (0, 0)) (blk_put (blk_put (cs := #[.int .i64 0, .int .i64 0]) (TZ ad) 0 _ rfl) 1 _ rfl) k_ hn_))⟩)) (below_size TB)); replace ab := mB ab hb; replace aa := mB aa hb; replace ad := aM (blk_below (g := am) (o := .cells #[.int .i64 ((rd_T48 ae ac).f0), .int .i64 ((rd_T48 ae ac).f1)] 48 (0, 0)) (blk_put (blk_put (cs := #[.int .i64 0, .int .i64 0]) (TZ ad) 0 _ rfl) 1 _ rfl) hb); replace HB := bS HB hb; clear ho0 hb))
           replace ag := aM (Kd.V_drew ag.out);replace ab := bD ab;replace aa := bD aa;replace ad := bD ad;replace HB := aM (below_drew1 HB.out);refine start_ (n := 21) (S := fun w' => w'.cell? ⟨gb248, 0, none⟩ = some (.int .i64 af) ∧ w'.cell? ⟨gb248, 1, none⟩ = some (.slice ao ak.length an) ∧ w'.cell? ⟨am, 0, none⟩ = some (.int .i64 ((rd_T48 ae ac).f0)) ∧ w'.cell? ⟨am, 1, none⟩ = some (.int .i64 ((rd_T48 ae ac).f1))) (ds := []) (Array.replicate 21 false) (by kernel_rfl) rfl rfl ⟨bC aa 0, bC aa 1, bC ad 0, bC ad 1⟩ (fun hHeld => ?_); refine with_tabW impl_BuildOk.tab7 impl_BuildOk.bits7 (fun HT_ HW_ => ?_);generalize w53.drew = w54 at ag ab aa ad HB hHeld ⊢;refine pP 0 (some 45) ?_;refine pP 2 (some 47) ?_;refine pT 1 (some 46) ?_;refine pO 3 (some 48) (fun K hK => ?_);refine gG Try.func37 #[.int .i64 af, .int .i64 ac] ?_;with_reducible refine (impl_InSet.calls af ac true _ A29.out).mono ?_
           rintro e w' ⟨rfl, ⟨nd, rfl⟩⟩;refine ⟨_, rfl, ?_⟩;obtain ⟨Ao55, co55, eo55⟩ := Kd.V_slice ag.out;(first | subst eo55 | (injection eo55 with f1_ f2_ f3_; have f4_ := f1_.symm; have f5_ := f3_.symm; clear f1_ f2_ f3_; subst f4_; subst f5_));refine hK.out _ _ ⟨bC aa 0, bC aa 1, bC ad 0, bC ad 1⟩ (fun hHeld => ?_);clear hK K;refine nR ?_;refine pP 4 (some 49) ?_;refine pP 5 (some 50) ?_;refine pT 7 (some 52) ?_;refine pO 6 (some 51) (fun K hK => ?_);refine gG Try.func57 #[.slice Ao55 aq.length co55] ?_;with_reducible refine (impl_SumOf.calls k2 _ _ aq aB aC _ ?side1 ?side2 A39.out).mono ?_
           (case side1 => exact Zq12_2);(case side2 => exact (Kd.V_reads' ag.out).2.1);rintro e w56 ⟨rfl, hb⟩;refine ⟨_, rfl, ?_⟩;replace ag := aM (Kd.V_below (by exact Zq12_1) hb);replace ab := mB ab hb;replace aa := mB aa hb;replace ad := mB ad hb;replace HB := bS HB hb;(try clear hb);(try clear hb2);(try clear hk);(try clear hi);refine hK.out _ _ ⟨bC aa 0, bC aa 1, bC ad 0, bC ad 1⟩ (fun hHeld => ?_);clear hK K;refine nR ?_;refine pP 8 (some 53) ?_;refine pP 9 (some 54) ?_;refine pP 10 (some 55) ?_;refine pP 11 (some 56) ?_;refine pP 13 (some 58) ?_;refine pT 12 (some 57) ?_;refine pO 14 (some 59) (fun K hK => ?_);refine gG Try.func37 #[.int .i64 af, .int .i64 ac] ?_;with_reducible refine (impl_InSet.calls af ac false _ A45.out).mono ?_
           rintro e w' ⟨rfl, ⟨nd, rfl⟩⟩;refine ⟨_, rfl, ?_⟩;refine hK.out _ _ ⟨bC aa 0, bC aa 1, bC ad 0, bC ad 1⟩ (fun hHeld => ?_);clear hK K;refine nR ?_;refine pP 15 (some 60) ?_;refine pP 16 (some 61) ?_;refine pP 17 (some 62) ?_;refine pO 18 (some 63) (fun K hK => ?_);refine gG Try.func90 #[.slice Ao55 aq.length co55, .func (.func 91) #[] #[]] ?_;with_reducible refine (slices_ContainsFunc_byte_byte.calls k2 _ _ aq  true _ ?side1 ?side2 A51.out).mono ?_
           (case side1 => exact Zq12_2);(case side2 => exact (Kd.V_reads' ag.out).2.1);rintro e w' ⟨rfl, ⟨nd, rfl⟩⟩;refine ⟨_, rfl, ?_⟩;refine hK.out _ _ ⟨bC aa 0, bC aa 1, bC ad 0, bC ad 1⟩ (fun hHeld => ?_);clear hK K;refine nR ?_;refine pP 19 (some 64) ?_;refine pP 20 (some 65) ?_;refine done_ (done_of HT_.out (by kernel_rfl)) ?_;try go_wp2
           go_ret
           exact ⟨TE, TB⟩
          ·replace c52 := Bool.eq_false_iff.mpr c52;subst c52;replace H := ifF H;have H' := aM H;clear H;try go_wp2_with (first | ((with_reducible refine gate_callee (f := 89) rfl ?_); refine gL (some 44) Try.func89 #[.agg #[.int .i64 af, .slice ao ak.length an], .agg #[.int .i64 ai, .int .i64 aj, .int .i64 ah, .slice (some au) ae.length ap], .int .i64 ac] ?_; (with_reducible refine (impl_Build_block.calls af (fun k_ => k_ < w.heap.size) _ _ ak ai aj ah _ _ ae ac aq _ ?side1 ?side2 ?side3 A28.out).mono ?_); (case side1 => exact Zq12_0); (case side2 => exact Kd.C_below ar.out TB); (case side3 => exact av.out); rintro e w57 ⟨aF, rfl, ho0, hb⟩; refine ⟨_, rfl, ?_⟩; have ag := aM (Kd.V_lower (Kd.V_mono (ok' := fun k_ => k_ ≠ al ∧ k_ ≠ gb248 ∧ k_ ≠ am) ho0 (fun k_ hk_ => ⟨Or.elim hk_ (fun hs_ => fun e_ => Nat.not_le.2 hs_ (by rw [e_]; exact GW247.out)) (fun hn_ => (Kd.freshB (g := al) (o := .cells #[.int .i64 ai, .int .i64 aj, .int .i64 ah, .slice (some au) ae.length ap] 28 (0, 0)) (TZ ab) k_ hn_)), Or.elim hk_ (fun hs_ => fun e_ => Nat.not_le.2 hs_ (by rw [e_]; exact GW248.out)) (fun hn_ => (Kd.freshB (g := gb248) (o := .cells #[.int .i64 af, .slice ao ak.length an] 31 (0, 0)) (TZ aa) k_ hn_)), Or.elim hk_ (fun hs_ => fun e_ => Nat.not_le.2 hs_ (by rw [e_]; exact GW253.out)) (fun hn_ => (Kd.freshB (g := am) (o := .cells #[.int .i64 ((rd_T48 ae ac).f0), .int .i64 ((rd_T48 ae ac).f1)] 48 (0, 0)) (blk_put (blk_put (cs := #[.int .i64 0, .int .i64 0]) (TZ ad) 0 _ rfl) 1 _ rfl) k_ hn_))⟩)) (below_size TB)); replace ab := mB ab hb; replace aa := mB aa hb; replace ad := aM (blk_below (g := am) (o := .cells #[.int .i64 ((rd_T48 ae ac).f0), .int .i64 ((rd_T48 ae ac).f1)] 48 (0, 0)) (blk_put (blk_put (cs := #[.int .i64 0, .int .i64 0]) (TZ ad) 0 _ rfl) 1 _ rfl) hb); replace HB := bS HB hb; clear ho0 hb))
           replace ag := aM (Kd.V_drew ag.out);replace ab := bD ab;replace aa := bD aa;replace ad := bD ad;replace HB := aM (below_drew1 HB.out);refine start_ (n := 21) (S := fun w' => w'.cell? ⟨gb248, 0, none⟩ = some (.int .i64 af) ∧ w'.cell? ⟨gb248, 1, none⟩ = some (.slice ao ak.length an) ∧ w'.cell? ⟨am, 0, none⟩ = some (.int .i64 ((rd_T48 ae ac).f0)) ∧ w'.cell? ⟨am, 1, none⟩ = some (.int .i64 ((rd_T48 ae ac).f1))) (ds := []) (Array.replicate 21 false) (by kernel_rfl) rfl rfl ⟨bC aa 0, bC aa 1, bC ad 0, bC ad 1⟩ (fun hHeld => ?_); refine with_tabW impl_BuildOk.tab7 impl_BuildOk.bits7 (fun HT_ HW_ => ?_);generalize w57.drew = w58 at ag ab aa ad HB hHeld ⊢;refine pP 0 (some 45) ?_;refine pP 2 (some 47) ?_;refine pT 1 (some 46) ?_;refine pO 3 (some 48) (fun K hK => ?_);refine gG Try.func37 #[.int .i64 af, .int .i64 ac] ?_;with_reducible refine (impl_InSet.calls af ac true _ A29.out).mono ?_
           rintro e w' ⟨rfl, ⟨nd, rfl⟩⟩;refine ⟨_, rfl, ?_⟩;obtain ⟨Ao59, co59, eo59⟩ := Kd.V_slice ag.out;(first | subst eo59 | (injection eo59 with f1_ f2_ f3_; have f4_ := f1_.symm; have f5_ := f3_.symm; clear f1_ f2_ f3_; subst f4_; subst f5_));refine hK.out _ _ ⟨bC aa 0, bC aa 1, bC ad 0, bC ad 1⟩ (fun hHeld => ?_);clear hK K;refine nR ?_;refine pP 4 (some 49) ?_;refine pP 5 (some 50) ?_;refine pT 7 (some 52) ?_;refine pO 6 (some 51) (fun K hK => ?_);refine gG Try.func57 #[.slice Ao59 aq.length co59] ?_;with_reducible refine (impl_SumOf.calls k2 _ _ aq aB aC _ ?side1 ?side2 A39.out).mono ?_
           (case side1 => exact Zq12_2);(case side2 => exact (Kd.V_reads' ag.out).2.1);rintro e w60 ⟨rfl, hb⟩;refine ⟨_, rfl, ?_⟩;replace ag := aM (Kd.V_below (by exact Zq12_1) hb);replace ab := mB ab hb;replace aa := mB aa hb;replace ad := mB ad hb;replace HB := bS HB hb;(try clear hb);(try clear hb2);(try clear hk);(try clear hi);refine hK.out _ _ ⟨bC aa 0, bC aa 1, bC ad 0, bC ad 1⟩ (fun hHeld => ?_);clear hK K;refine nR ?_;refine pP 8 (some 53) ?_;refine pP 9 (some 54) ?_;refine pP 10 (some 55) ?_;refine pP 11 (some 56) ?_;refine pP 13 (some 58) ?_;refine pT 12 (some 57) ?_;refine pO 14 (some 59) (fun K hK => ?_);refine gG Try.func37 #[.int .i64 af, .int .i64 ac] ?_;with_reducible refine (impl_InSet.calls af ac false _ A45.out).mono ?_
           rintro e w' ⟨rfl, ⟨nd, rfl⟩⟩;refine ⟨_, rfl, ?_⟩;refine hK.out _ _ ⟨bC aa 0, bC aa 1, bC ad 0, bC ad 1⟩ (fun hHeld => ?_);clear hK K;refine nR ?_;refine pP 15 (some 60) ?_;refine pP 16 (some 61) ?_;refine pP 17 (some 62) ?_;refine pO 18 (some 63) (fun K hK => ?_);refine gG Try.func90 #[.slice Ao59 aq.length co59, .func (.func 91) #[] #[]] ?_;with_reducible refine (slices_ContainsFunc_byte_byte.calls k2 _ _ aq  false _ ?side1 ?side2 A51.out).mono ?_
           (case side1 => exact Zq12_2);(case side2 => exact (Kd.V_reads' ag.out).2.1);rintro e w' ⟨rfl, ⟨nd, rfl⟩⟩;refine ⟨_, rfl, ?_⟩;refine hK.out _ _ ⟨bC aa 0, bC aa 1, bC ad 0, bC ad 1⟩ (fun hHeld => ?_);clear hK K;refine nR ?_;refine pP 19 (some 64) ?_;refine pP 20 (some 65) ?_;refine done_ (done_of HT_.out (by kernel_rfl)) ?_;try go_wp2
           go_roundg k2
           case measure => have := HJ2.out; have := HK2.out; omega
           case rel => exact ⟨(wrap64 (ac + 1)), TF, H', ⟨by have := HJ2.out; have := HK2.out; omega⟩, ⟨TK⟩, ⟨TK⟩, ⟨TB⟩⟩
       ·replace c38 := Bool.eq_false_iff.mpr c38;subst c38;replace H := ifF H;replace H := bE H;obtain ⟨t262, A61, H⟩ := H
        by_cases c62 : t262 = true
        ·subst c62;replace H := ifT H;have H' := aM H;clear H;try go_wp2_with (first | ((with_reducible refine gate_callee (f := 89) rfl ?_); refine gL (some 44) Try.func89 #[.agg #[.int .i64 af, .slice ao ak.length an], .agg #[.int .i64 ai, .int .i64 aj, .int .i64 ah, .slice (some au) ae.length ap], .int .i64 ac] ?_; (with_reducible refine (impl_Build_block.calls af (fun k_ => k_ < w.heap.size) _ _ ak ai aj ah _ _ ae ac aq _ ?side1 ?side2 ?side3 A28.out).mono ?_); (case side1 => exact Zq12_0); (case side2 => exact Kd.C_below ar.out TB); (case side3 => exact av.out); rintro e w63 ⟨aF, rfl, ho0, hb⟩; refine ⟨_, rfl, ?_⟩; have ag := aM (Kd.V_lower (Kd.V_mono (ok' := fun k_ => k_ ≠ al ∧ k_ ≠ gb248 ∧ k_ ≠ am) ho0 (fun k_ hk_ => ⟨Or.elim hk_ (fun hs_ => fun e_ => Nat.not_le.2 hs_ (by rw [e_]; exact GW247.out)) (fun hn_ => (Kd.freshB (g := al) (o := .cells #[.int .i64 ai, .int .i64 aj, .int .i64 ah, .slice (some au) ae.length ap] 28 (0, 0)) (TZ ab) k_ hn_)), Or.elim hk_ (fun hs_ => fun e_ => Nat.not_le.2 hs_ (by rw [e_]; exact GW248.out)) (fun hn_ => (Kd.freshB (g := gb248) (o := .cells #[.int .i64 af, .slice ao ak.length an] 31 (0, 0)) (TZ aa) k_ hn_)), Or.elim hk_ (fun hs_ => fun e_ => Nat.not_le.2 hs_ (by rw [e_]; exact GW253.out)) (fun hn_ => (Kd.freshB (g := am) (o := .cells #[.int .i64 ((rd_T48 ae ac).f0), .int .i64 ((rd_T48 ae ac).f1)] 48 (0, 0)) (blk_put (blk_put (cs := #[.int .i64 0, .int .i64 0]) (TZ ad) 0 _ rfl) 1 _ rfl) k_ hn_))⟩)) (below_size TB)); replace ab := mB ab hb; replace aa := mB aa hb; replace ad := aM (blk_below (g := am) (o := .cells #[.int .i64 ((rd_T48 ae ac).f0), .int .i64 ((rd_T48 ae ac).f1)] 48 (0, 0)) (blk_put (blk_put (cs := #[.int .i64 0, .int .i64 0]) (TZ ad) 0 _ rfl) 1 _ rfl) hb); replace HB := bS HB hb; clear ho0 hb))
         replace ag := aM (Kd.V_drew ag.out);replace ab := bD ab;replace aa := bD aa;replace ad := bD ad;replace HB := aM (below_drew1 HB.out);refine start_ (n := 21) (S := fun w' => w'.cell? ⟨gb248, 0, none⟩ = some (.int .i64 af) ∧ w'.cell? ⟨gb248, 1, none⟩ = some (.slice ao ak.length an)) (ds := []) (Array.replicate 21 false) (by kernel_rfl) rfl rfl (cz2 aa.out) (fun hHeld => ?_); refine with_tabW impl_BuildOk.tab7 impl_BuildOk.bits7 (fun HT_ HW_ => ?_);generalize w63.drew = w64 at ag ab aa ad HB hHeld ⊢;refine pP 0 (some 45) ?_;refine pP 2 (some 47) ?_;refine pT 1 (some 46) ?_;refine pO 3 (some 48) (fun K hK => ?_);refine gG Try.func37 #[.int .i64 af, .int .i64 ac] ?_;with_reducible refine (impl_InSet.calls af ac false _ A29.out).mono ?_
         rintro e w' ⟨rfl, ⟨nd, rfl⟩⟩;refine ⟨_, rfl, ?_⟩;refine hK.out _ _ (cz2 aa.out) (fun hHeld => ?_);clear hK K;refine nR ?_;refine pP 4 (some 49) ?_;refine pX 5 (some 50) ?_;refine pX 6 (some 51) ?_;refine pX 7 (some 52) ?_;refine pX 8 (some 53) ?_;refine pP 9 (some 54) ?_;refine pP 10 (some 55) ?_;refine pP 11 (some 56) ?_;refine pP 13 (some 58) ?_;refine pT 12 (some 57) ?_;refine pO 14 (some 59) (fun K hK => ?_);refine gG Try.func37 #[.int .i64 af, .int .i64 ac] ?_;with_reducible refine (impl_InSet.calls af ac true _ A61.out).mono ?_
         rintro e w' ⟨rfl, ⟨nd, rfl⟩⟩;refine ⟨_, rfl, ?_⟩;refine hK.out _ _ (cz2 aa.out) (fun hHeld => ?_);clear hK K;refine nR ?_;refine pP 15 (some 60) ?_;refine pP 16 (some 61) ?_;refine pX 17 (some 62) ?_;refine pX 18 (some 63) ?_;refine pP 19 (some 64) ?_;refine pP 20 (some 65) ?_;refine done_ (done_of HT_.out (by kernel_rfl)) ?_;try go_wp2
         go_roundg k2
         case measure => have := HJ2.out; have := HK2.out; omega
         case rel => exact ⟨(wrap64 (ac + 1)), TF, H', ⟨by have := HJ2.out; have := HK2.out; omega⟩, ⟨TK⟩, ⟨TK⟩, ⟨TB⟩⟩
        ·replace c62 := Bool.eq_false_iff.mpr c62;subst c62;replace H := ifF H;replace H := bE H;obtain ⟨t263, A65, H⟩ := H
         by_cases c66 : t263 = true
         ·subst c66;replace H := ifT H;obtain rfl := Option.some.inj H;try go_wp2_with (first | ((with_reducible refine gate_callee (f := 89) rfl ?_); refine gL (some 44) Try.func89 #[.agg #[.int .i64 af, .slice ao ak.length an], .agg #[.int .i64 ai, .int .i64 aj, .int .i64 ah, .slice (some au) ae.length ap], .int .i64 ac] ?_; (with_reducible refine (impl_Build_block.calls af (fun k_ => k_ < w.heap.size) _ _ ak ai aj ah _ _ ae ac aq _ ?side1 ?side2 ?side3 A28.out).mono ?_); (case side1 => exact Zq12_0); (case side2 => exact Kd.C_below ar.out TB); (case side3 => exact av.out); rintro e w67 ⟨aF, rfl, ho0, hb⟩; refine ⟨_, rfl, ?_⟩; have ag := aM (Kd.V_lower (Kd.V_mono (ok' := fun k_ => k_ ≠ al ∧ k_ ≠ gb248 ∧ k_ ≠ am) ho0 (fun k_ hk_ => ⟨Or.elim hk_ (fun hs_ => fun e_ => Nat.not_le.2 hs_ (by rw [e_]; exact GW247.out)) (fun hn_ => (Kd.freshB (g := al) (o := .cells #[.int .i64 ai, .int .i64 aj, .int .i64 ah, .slice (some au) ae.length ap] 28 (0, 0)) (TZ ab) k_ hn_)), Or.elim hk_ (fun hs_ => fun e_ => Nat.not_le.2 hs_ (by rw [e_]; exact GW248.out)) (fun hn_ => (Kd.freshB (g := gb248) (o := .cells #[.int .i64 af, .slice ao ak.length an] 31 (0, 0)) (TZ aa) k_ hn_)), Or.elim hk_ (fun hs_ => fun e_ => Nat.not_le.2 hs_ (by rw [e_]; exact GW253.out)) (fun hn_ => (Kd.freshB (g := am) (o := .cells #[.int .i64 ((rd_T48 ae ac).f0), .int .i64 ((rd_T48 ae ac).f1)] 48 (0, 0)) (blk_put (blk_put (cs := #[.int .i64 0, .int .i64 0]) (TZ ad) 0 _ rfl) 1 _ rfl) k_ hn_))⟩)) (below_size TB)); replace ab := mB ab hb; replace aa := mB aa hb; replace ad := aM (blk_below (g := am) (o := .cells #[.int .i64 ((rd_T48 ae ac).f0), .int .i64 ((rd_T48 ae ac).f1)] 48 (0, 0)) (blk_put (blk_put (cs := #[.int .i64 0, .int .i64 0]) (TZ ad) 0 _ rfl) 1 _ rfl) hb); replace HB := bS HB hb; clear ho0 hb))
          replace ag := aM (Kd.V_drew ag.out);replace ab := bD ab;replace aa := bD aa;replace ad := bD ad;replace HB := aM (below_drew1 HB.out);refine start_ (n := 21) (S := fun w' => w'.cell? ⟨gb248, 0, none⟩ = some (.int .i64 af) ∧ w'.cell? ⟨gb248, 1, none⟩ = some (.slice ao ak.length an)) (ds := []) (Array.replicate 21 false) (by kernel_rfl) rfl rfl (cz2 aa.out) (fun hHeld => ?_); refine with_tabW impl_BuildOk.tab7 impl_BuildOk.bits7 (fun HT_ HW_ => ?_);generalize w67.drew = w68 at ag ab aa ad HB hHeld ⊢;refine pP 0 (some 45) ?_;refine pP 2 (some 47) ?_;refine pT 1 (some 46) ?_;refine pO 3 (some 48) (fun K hK => ?_);refine gG Try.func37 #[.int .i64 af, .int .i64 ac] ?_;with_reducible refine (impl_InSet.calls af ac false _ A29.out).mono ?_
          rintro e w' ⟨rfl, ⟨nd, rfl⟩⟩;refine ⟨_, rfl, ?_⟩;refine hK.out _ _ (cz2 aa.out) (fun hHeld => ?_);clear hK K;refine nR ?_;refine pP 4 (some 49) ?_;refine pX 5 (some 50) ?_;refine pX 6 (some 51) ?_;refine pX 7 (some 52) ?_;refine pX 8 (some 53) ?_;refine pP 9 (some 54) ?_;refine pP 10 (some 55) ?_;refine pP 11 (some 56) ?_;refine pP 13 (some 58) ?_;refine pT 12 (some 57) ?_;refine pO 14 (some 59) (fun K hK => ?_);refine gG Try.func37 #[.int .i64 af, .int .i64 ac] ?_;with_reducible refine (impl_InSet.calls af ac false _ A61.out).mono ?_
          rintro e w' ⟨rfl, ⟨nd, rfl⟩⟩;refine ⟨_, rfl, ?_⟩;obtain ⟨Ao69, co69, eo69⟩ := Kd.V_slice ag.out;(first | subst eo69 | (injection eo69 with f1_ f2_ f3_; have f4_ := f1_.symm; have f5_ := f3_.symm; clear f1_ f2_ f3_; subst f4_; subst f5_));refine hK.out _ _ (cz2 aa.out) (fun hHeld => ?_);clear hK K;refine nR ?_;refine pP 15 (some 60) ?_;refine pP 16 (some 61) ?_;refine pP 17 (some 62) ?_;refine pO 18 (some 63) (fun K hK => ?_);refine gG Try.func90 #[.slice Ao69 aq.length co69, .func (.func 91) #[] #[]] ?_;with_reducible refine (slices_ContainsFunc_byte_byte.calls k2 _ _ aq  true _ ?side1 ?side2 A65.out).mono ?_
          (case side1 => exact Zq12_2);(case side2 => exact (Kd.V_reads' ag.out).2.1);rintro e w' ⟨rfl, ⟨nd, rfl⟩⟩;refine ⟨_, rfl, ?_⟩;refine hK.out _ _ (cz2 aa.out) (fun hHeld => ?_);clear hK K;refine nR ?_;refine pP 19 (some 64) ?_;refine pP 20 (some 65) ?_;refine done_ (done_of HT_.out (by kernel_rfl)) ?_;try go_wp2
          go_ret
          exact ⟨TE, TB⟩
         ·replace c66 := Bool.eq_false_iff.mpr c66;subst c66;replace H := ifF H;have H' := aM H;clear H;try go_wp2_with (first | ((with_reducible refine gate_callee (f := 89) rfl ?_); refine gL (some 44) Try.func89 #[.agg #[.int .i64 af, .slice ao ak.length an], .agg #[.int .i64 ai, .int .i64 aj, .int .i64 ah, .slice (some au) ae.length ap], .int .i64 ac] ?_; (with_reducible refine (impl_Build_block.calls af (fun k_ => k_ < w.heap.size) _ _ ak ai aj ah _ _ ae ac aq _ ?side1 ?side2 ?side3 A28.out).mono ?_); (case side1 => exact Zq12_0); (case side2 => exact Kd.C_below ar.out TB); (case side3 => exact av.out); rintro e w70 ⟨aF, rfl, ho0, hb⟩; refine ⟨_, rfl, ?_⟩; have ag := aM (Kd.V_lower (Kd.V_mono (ok' := fun k_ => k_ ≠ al ∧ k_ ≠ gb248 ∧ k_ ≠ am) ho0 (fun k_ hk_ => ⟨Or.elim hk_ (fun hs_ => fun e_ => Nat.not_le.2 hs_ (by rw [e_]; exact GW247.out)) (fun hn_ => (Kd.freshB (g := al) (o := .cells #[.int .i64 ai, .int .i64 aj, .int .i64 ah, .slice (some au) ae.length ap] 28 (0, 0)) (TZ ab) k_ hn_)), Or.elim hk_ (fun hs_ => fun e_ => Nat.not_le.2 hs_ (by rw [e_]; exact GW248.out)) (fun hn_ => (Kd.freshB (g := gb248) (o := .cells #[.int .i64 af, .slice ao ak.length an] 31 (0, 0)) (TZ aa) k_ hn_)), Or.elim hk_ (fun hs_ => fun e_ => Nat.not_le.2 hs_ (by rw [e_]; exact GW253.out)) (fun hn_ => (Kd.freshB (g := am) (o := .cells #[.int .i64 ((rd_T48 ae ac).f0), .int .i64 ((rd_T48 ae ac).f1)] 48 (0, 0)) (blk_put (blk_put (cs := #[.int .i64 0, .int .i64 0]) (TZ ad) 0 _ rfl) 1 _ rfl) k_ hn_))⟩)) (below_size TB)); replace ab := mB ab hb; replace aa := mB aa hb; replace ad := aM (blk_below (g := am) (o := .cells #[.int .i64 ((rd_T48 ae ac).f0), .int .i64 ((rd_T48 ae ac).f1)] 48 (0, 0)) (blk_put (blk_put (cs := #[.int .i64 0, .int .i64 0]) (TZ ad) 0 _ rfl) 1 _ rfl) hb); replace HB := bS HB hb; clear ho0 hb))
          replace ag := aM (Kd.V_drew ag.out);replace ab := bD ab;replace aa := bD aa;replace ad := bD ad;replace HB := aM (below_drew1 HB.out);refine start_ (n := 21) (S := fun w' => w'.cell? ⟨gb248, 0, none⟩ = some (.int .i64 af) ∧ w'.cell? ⟨gb248, 1, none⟩ = some (.slice ao ak.length an)) (ds := []) (Array.replicate 21 false) (by kernel_rfl) rfl rfl (cz2 aa.out) (fun hHeld => ?_); refine with_tabW impl_BuildOk.tab7 impl_BuildOk.bits7 (fun HT_ HW_ => ?_);generalize w70.drew = w71 at ag ab aa ad HB hHeld ⊢;refine pP 0 (some 45) ?_;refine pP 2 (some 47) ?_;refine pT 1 (some 46) ?_;refine pO 3 (some 48) (fun K hK => ?_);refine gG Try.func37 #[.int .i64 af, .int .i64 ac] ?_;with_reducible refine (impl_InSet.calls af ac false _ A29.out).mono ?_
          rintro e w' ⟨rfl, ⟨nd, rfl⟩⟩;refine ⟨_, rfl, ?_⟩;refine hK.out _ _ (cz2 aa.out) (fun hHeld => ?_);clear hK K;refine nR ?_;refine pP 4 (some 49) ?_;refine pX 5 (some 50) ?_;refine pX 6 (some 51) ?_;refine pX 7 (some 52) ?_;refine pX 8 (some 53) ?_;refine pP 9 (some 54) ?_;refine pP 10 (some 55) ?_;refine pP 11 (some 56) ?_;refine pP 13 (some 58) ?_;refine pT 12 (some 57) ?_;refine pO 14 (some 59) (fun K hK => ?_);refine gG Try.func37 #[.int .i64 af, .int .i64 ac] ?_;with_reducible refine (impl_InSet.calls af ac false _ A61.out).mono ?_
          rintro e w' ⟨rfl, ⟨nd, rfl⟩⟩;refine ⟨_, rfl, ?_⟩;obtain ⟨Ao72, co72, eo72⟩ := Kd.V_slice ag.out;(first | subst eo72 | (injection eo72 with f1_ f2_ f3_; have f4_ := f1_.symm; have f5_ := f3_.symm; clear f1_ f2_ f3_; subst f4_; subst f5_));refine hK.out _ _ (cz2 aa.out) (fun hHeld => ?_);clear hK K;refine nR ?_;refine pP 15 (some 60) ?_;refine pP 16 (some 61) ?_;refine pP 17 (some 62) ?_;refine pO 18 (some 63) (fun K hK => ?_);refine gG Try.func90 #[.slice Ao72 aq.length co72, .func (.func 91) #[] #[]] ?_;with_reducible refine (slices_ContainsFunc_byte_byte.calls k2 _ _ aq  false _ ?side1 ?side2 A65.out).mono ?_
          (case side1 => exact Zq12_2);(case side2 => exact (Kd.V_reads' ag.out).2.1);rintro e w' ⟨rfl, ⟨nd, rfl⟩⟩;refine ⟨_, rfl, ?_⟩;refine hK.out _ _ (cz2 aa.out) (fun hHeld => ?_);clear hK K;refine nR ?_;refine pP 19 (some 64) ?_;refine pP 20 (some 65) ?_;refine done_ (done_of HT_.out (by kernel_rfl)) ?_;try go_wp2
          go_roundg k2
          case measure => have := HJ2.out; have := HK2.out; omega
          case rel => exact ⟨(wrap64 (ac + 1)), TF, H', ⟨by have := HJ2.out; have := HK2.out; omega⟩, ⟨TK⟩, ⟨TK⟩, ⟨TB⟩⟩
      ·rw [if_neg c25] at H;have c25b0 : decide (ac < (ae.length : Int)) = false := decide_eq_false c25;clear c25;obtain rfl := Option.some.inj H;go_wp2
       go_ret
       exact ⟨TE, TB⟩
theorem Zq13_0 {p : Prop} (h : p := by repeat (first | exact (Kd.C_below aA.out TB) | (with_reducible refine Kd.C_alloc ?_ _) | (with_reducible refine Kd.C_drewN ?_ _) | (with_reducible refine Kd.C_drew ?_))) : p := h
theorem Zq13_1 {p : Prop} (h : p := by repeat (first | exact (Kd.C_below HR3.out TB) | (with_reducible refine Kd.C_alloc ?_ _) | (with_reducible refine Kd.C_drewN ?_ _) | (with_reducible refine Kd.C_drew ?_))) : p := h
theorem Zq13_2 {p : Prop} (h : p := by have X_ := (Kd.C_below aB.out HB.out); exact TC) : p := h
theorem Zq13_3 {p : Prop} (h : p := by have X_ := (Kd.C_below aA.out HB.out); exact TC) : p := h
def impl_PutPiece.f (k : Nat) (a0_0 : Int) (a0_1 : Int) (a0_2 : Int) (l0_3 : List (S48)) (a1_0 : Int) (l1_1 : List Int) (a2 : Int) (l3 : List Int) : Option (Int × List Int × Bool) := (impl_copyBuild.f a1_0 l1_1).bind fun bt272 => ((impl_BuildOk.f k a0_0 a0_1 a0_2 l0_3 a1_0 l1_1).bind fun t277 => (if t277 = true then ((impl_within.f a2 0 (wrap64 ((l0_3.length : Int) - 1))).bind fun t278 => (if t278 = true then ((impl_InSet.f a1_0 a2).bind fun t279 => (if t279 = true then (some (bt272.1, bt272.2, false)) else ((impl_SumOf.f k l3).bind fun bt280 => (if 0 ≤ a2 then (if a2 < (l0_3.length : Int) then (if (!(bt280.1 == ((rd_T48 l0_3 a2).f0)) || (!(bt280.2 == ((rd_T48 l0_3 a2).f1)))) = true then (some (bt272.1, bt272.2, false)) else ((impl_Build_put.f bt272.1 bt272.2 a0_1 a0_2 a2 l3).bind fun bt283 => (some (bt283.1, bt283.2, true)))) else (none)) else (none))))) else (some (bt272.1, bt272.2, false)))) else (some (bt272.1, bt272.2, false))))
theorem impl_PutPiece.mono : ∀ a0 a1 a2 a3 a4 a5 a6 a7 k, LeO (impl_PutPiece.f k a0 a1 a2 a3 a4 a5 a6 a7) (impl_PutPiece.f (k + 1) a0 a1 a2 a3 a4 a5 a6 a7) := by
  intro a0 a1 a2 a3 a4 a5 a6 a7 k;have m0_ := @impl_BuildOk.mono;have m1_ := @impl_SumOf.mono;unfold impl_PutPiece.f;exact LM
def impl_PutPiece.T2 : Bool × List (List Nat × List Nat) := (true, [([], []), ([], []), ([0, 1], [0, 1]), ([2], [2]), ([3, 2], [3]), ([4], [4]), ([4], [4]), ([6, 4], [4, 6]), ([7, 4], [4, 7]), ([8, 4], [4, 8]), ([5, 9, 4, 4], [4, 5, 9]), ([10, 4], [4, 10]), ([4, 11], [4, 11]), ([12, 10], [12]), ([13], [13]), ([14, 13], [13, 14]), ([13], [13]), ([15, 16, 13, 13], [13, 15, 16]), ([13, 17], [13, 17]), ([18, 17], [18]), ([19], [19]), ([20, 19, 19], [19, 20]), ([19], [19]), ([22, 19], [19, 22]), ([19], [19]), ([23, 24, 19], [19, 23, 24]), ([25, 19], [19, 25]), ([21, 26, 19], [19, 21, 26]), ([19, 27], [19, 27])])
def impl_PutPiece.B2 : List Nat := [0, 0, 3, 7, 15, 31, 31, 95, 223, 479, 1023, 2047, 4095, 8191, 16383, 32767, 16383, 131071, 262143, 524287, 1048575, 2097151, 1048575, 5242879, 1048575, 30408703, 63963135, 134217727, 268435455]
theorem impl_PutPiece.tab2 : rtab .any (opsOf Try.f14 2) = impl_PutPiece.T2 := by kernel_rfl
theorem impl_PutPiece.bits2 : waitsOk impl_PutPiece.T2.2 impl_PutPiece.B2 = true := by kernel_rfl
theorem impl_PutPiece.calls (k : Nat) (an : Int) (ao : Int) (aq : Int) (ay : Option Addr) (aw : Nat) (af : List (S48)) (ag : Int) (ap : Option Addr) (am : Nat) (aj : List Int) (a2 : Int) (A3 : Option Addr) (c3 : Nat) (l3 : List Int) (r1 : Int) (r2 : List Int) (r3 : Bool) (w : World) (aL : Kd.C k48 w ay af.length af) (aK : af.length ≤ aw) (aJ : Kd.C (Kd.int .u8) w ap aj.length aj) (aN : aj.length ≤ am) (hr3 : Kd.C (Kd.int .u8) w A3 l3.length l3) (hc3 : l3.length ≤ c3) (h : impl_PutPiece.f k an ao aq af ag aj a2 l3 = some (r1, r2, r3)) :
  Calls Try.prog 14 #[.agg #[.int .i64 an, .int .i64 ao, .int .i64 aq, .slice ay af.length aw], .agg #[.int .i64 ag, .slice ap aj.length am], .int .i64 a2, .slice A3 l3.length c3] w fun e w' => ∃ v1_ : Value, e = .returned (.tuple #[.agg #[.int .i64 r1, v1_], .bool r3]) ∧ Kd.R (Kd.int .u8) 5 w' w.heap.size (fun _ => True) v1_ r2 ∧ Below w.heap.size w w' := by
 have hu28 := Try.underlying28;have hu31 := Try.underlying31;have hu48 := Try.underlying48;have aB := aM aL;have aE := aM aK;clear aL aK;have aA := aM aJ;have az := aM aN;clear aJ aN;have HR3 := aM hr3;have HC3 := aM hc3;clear hr3 hc3;have HB := aM (Below.refl w.heap.size w);have H := h;clear h;unfold impl_PutPiece.f at H;replace H := bE H;obtain ⟨⟨ar, al⟩, A5, H⟩ := H;dsimp only at H;replace H := bE H;obtain ⟨t277, A6, H⟩ := H;go_enter Try.func14, Try.ntmps14;go_wp2_with (first | ((with_reducible refine gate_dst (N := 4) rfl ?_); (try (refine gate_guard (by rfl) ?_; dsimp only)); refine gBx 4 #[.int .i64 an, .int .i64 ao, .int .i64 aq, .slice ay af.length aw] 28 ?_; intro ak hg w8 hbox hb; have aa := aM (hbox); have GW269 := gW HB hg; have GE269 := gW HB hg; replace HB := bS HB hb; clear hb hbox hg) | ((with_reducible refine gate_dst (N := 5) rfl ?_); (try (refine gate_guard (by rfl) ?_; dsimp only)); refine gBx 5 #[.int .i64 ag, .slice ap aj.length am] 31 ?_; intro gb270 hg w9 hbox hb; have ab := aM (hbox); have GW270 := gW HB hg; have GE270 := gW HB hg; obtain ⟨NB269_270, NB270_269⟩ := nB aa hg; replace aa := mB aa hb; replace HB := bS HB hb; clear hb hbox hg) | ((with_reducible refine gate_dst (N := 8) rfl ?_); (try (refine gate_guard (by rfl) ?_; dsimp only)); refine gBx 8 #[.int .i64 0, .slice none 0 0] 31 ?_; intro gb271 hg w10 hbox hb; have ac := aM (hbox); have GW271 := gW HB hg; have GE271 := gW HB hg; obtain ⟨NB269_271, NB271_269⟩ := nB aa hg; obtain ⟨NB270_271, NB271_270⟩ := nB ab hg; replace aa := mB aa hb; replace ab := mB ab hb; replace HB := bS HB hb; clear hb hbox hg; obtain ⟨hnb11, hnc11⟩ := oB NB270_269; obtain ⟨hnb12, hnc12⟩ := oB NB270_271; obtain ⟨hcz13_0, hcz13_1⟩ := cz2 ab.out; obtain ⟨hfz13_0, hfz13_1⟩ := fz2 ab.out) | ((with_reducible refine gate_callee (f := 68) rfl ?_); (with_reducible refine gate_dst (N := 12) rfl ?_); generalize hG_ : wpList _ _ _ _ _ _ = G_))
 subst hG_
 by_cases c14 : t277 = true
 ·subst c14;replace H := ifT H;replace H := bE H;obtain ⟨t278, A15, H⟩ := H
  by_cases c16 : t278 = true
  ·subst c16;replace H := ifT H;replace H := bE H;obtain ⟨t279, A17, H⟩ := H
   by_cases c18 : t279 = true
   ·subst c18;replace H := ifT H;simp only [Option.some.injEq, Prod.mk.injEq] at H;obtain ⟨rfl, rfl, rfl⟩ := H;try go_wp2_with (first | ((with_reducible refine gate_callee (f := 68) rfl ?_); refine gL (some 12) Try.func68 #[.agg #[.int .i64 ag, .slice ap aj.length am]] ?_; (with_reducible refine (impl_copyBuild.calls ag _ _ aj ar al _ ?side1 ?side2 A5.out).mono ?_); (case side1 => exact Zq13_0); (case side2 => exact az.out); rintro e w19 ⟨aH, rfl, ho0, hb⟩; refine ⟨_, rfl, ?_⟩; have ae := aM (Kd.R_lower ho0 (below_size TB)); replace aa := mB aa hb; replace ab := mB ab hb; replace ac := mB ac hb; replace HB := bS HB hb; clear ho0 hb) | ((with_reducible refine gate_dst (N := 10) rfl ?_); (try (refine gate_guard (by rfl) ?_; dsimp only)); refine gBx 10 #[.int .i64 0, .slice none 0 0] 31 ?_; intro gb276 hg w20 hbox hb; have ad := aM (hbox); have GW276 := gW HB hg; have GE276 := gW HB hg; obtain ⟨NB269_276, NB276_269⟩ := nB aa hg; obtain ⟨NB270_276, NB276_270⟩ := nB ab hg; obtain ⟨NB271_276, NB276_271⟩ := nB ac hg; replace ae := mR ae hb; replace aa := mB aa hb; replace ab := mB ab hb; replace ac := mB ac hb; replace HB := bS HB hb; clear hb hbox hg; obtain ⟨hnb21, hnc21⟩ := oB NB276_269; obtain ⟨hnb22, hnc22⟩ := oB NB276_270; obtain ⟨hnb23, hnc23⟩ := oB NB276_271; obtain ⟨hcz24_0, hcz24_1⟩ := cz2 ad.out; obtain ⟨hfz24_0, hfz24_1⟩ := fz2 ad.out; obtain ⟨Ao25, co25, eo25⟩ := Kd.R_slice ae.out; subst eo25))
    generalize hX_ : (w20.setCell ⟨gb276, 0, none⟩ (.int .i64 ar)).setCell ⟨gb276, 1, none⟩ (.slice Ao25 al.length co25) = w26;replace ae : Aside0 (Kd.R (Kd.int .u8) 5 w26 w.heap.size (fun _ => True) (.slice Ao25 al.length co25) al) := ⟨by rw [← hX_]; (with_reducible repeat (first | apply Kd.R_alloc | apply Kd.R_drewN | apply Kd.R_drew)); exact Kd.R_mono (RK1 (Kd.R_types ae.out ad.out (by decide))) (fun _ hk => trivial)⟩;replace aa : Aside0 (w26.heap[ak]? = some (.cells #[.int .i64 an, .int .i64 ao, .int .i64 aq, .slice ay af.length aw] 28 (0, 0))) := ⟨by rw [← hX_]; exact (TZ aa)⟩;replace ab : Aside0 (w26.heap[gb270]? = some (.cells #[.int .i64 ag, .slice ap aj.length am] 31 (0, 0))) := ⟨by rw [← hX_]; exact (TZ ab)⟩;replace ac : Aside0 (w26.heap[gb271]? = some (.cells #[.int .i64 0, .slice none 0 0] 31 (0, 0))) := ⟨by rw [← hX_]; exact (TZ ac)⟩;replace ad : Aside0 (w26.heap[gb276]? = some (.cells #[.int .i64 ar, .slice Ao25 al.length co25] 31 (0, 0))) := ⟨by rw [← hX_]; exact (blk_put (blk_put (cs := #[.int .i64 0, .slice none 0 0]) (TZ ad) 0 _ rfl) 1 _ rfl)⟩;replace HB : Aside0 (Below w.heap.size w w26) := ⟨by rw [← hX_]; exact TB⟩;clear hX_;replace ae := rD ae;replace aa := bD aa;replace ab := bD ab;replace ac := bD ac;replace ad := bD ad;replace HB := aM (below_drew1 HB.out);refine start_ (n := 29) (S := fun w' => w'.cell? ⟨ak, 0, none⟩ = some (.int .i64 an) ∧ w'.cell? ⟨ak, 1, none⟩ = some (.int .i64 ao) ∧ w'.cell? ⟨ak, 2, none⟩ = some (.int .i64 aq) ∧ w'.cell? ⟨ak, 3, none⟩ = some (.slice ay af.length aw) ∧ w'.cell? ⟨gb270, 0, none⟩ = some (.int .i64 ag) ∧ w'.cell? ⟨gb270, 1, none⟩ = some (.slice ap aj.length am)) (ds := []) (Array.replicate 29 false) (by kernel_rfl) rfl rfl ⟨bC aa 0, bC aa 1, bC aa 2, bC aa 3, bC ab 0, bC ab 1⟩ (fun hHeld => ?_); refine with_tabW impl_PutPiece.tab2 impl_PutPiece.bits2 (fun HT_ HW_ => ?_);generalize w26.drew = w27 at ae aa ab ac ad HB ae hHeld ⊢;refine pT 0 (some 13) ?_;refine pT 1 (some 14) ?_;refine pO 2 (some 15) (fun K hK => ?_);refine gG Try.func42 #[.agg #[.int .i64 an, .int .i64 ao, .int .i64 aq, .slice ay af.length aw], .agg #[.int .i64 ag, .slice ap aj.length am]] ?_;with_reducible refine (impl_BuildOk.calls k an ao aq _ _ af ag _ _ aj true _ ?side1 ?side2 ?side3 ?side4 A6.out).mono ?_
    (case side1 => exact Zq13_2);(case side2 => exact aE.out);(case side3 => exact Zq13_3);(case side4 => exact az.out);rintro e w28 ⟨rfl, hb⟩;refine ⟨_, rfl, ?_⟩;replace ae := mR ae hb;replace aa := mB aa hb;replace ab := mB ab hb;replace ac := mB ac hb;replace ad := mB ad hb;replace HB := bS HB hb;(try clear hb);(try clear hb2);(try clear hk);(try clear hi);refine hK.out _ _ ⟨bC aa 0, bC aa 1, bC aa 2, bC aa 3, bC ab 0, bC ab 1⟩ (fun hHeld => ?_);clear hK K;refine nR ?_;refine pP 3 (some 16) ?_;refine pP 4 (some 17) ?_;refine pP 5 (some 18) ?_;refine pP 6 (some 19) ?_;refine pT 7 (some 20) ?_;refine pP 8 (some 21) ?_;refine pP 9 (some 22) ?_;refine pO 10 (some 23) (fun K hK => ?_);refine gG Try.func61 #[.int .i64 a2, .int .i64 0, .int .i64 (wrap64 ((af.length : Int) - 1))] ?_;with_reducible refine (impl_within.calls a2 0 (wrap64 ((af.length : Int) - 1)) true _ A15.out).mono ?_
    rintro e w' ⟨rfl, ⟨nd, rfl⟩⟩;refine ⟨_, rfl, ?_⟩;refine hK.out _ _ ⟨bC aa 0, bC aa 1, bC aa 2, bC aa 3, bC ab 0, bC ab 1⟩ (fun hHeld => ?_);clear hK K;refine nR ?_;refine pP 11 (some 24) ?_;refine pP 12 (some 25) ?_;refine pP 13 (some 26) ?_;refine pP 14 (some 27) ?_;refine pP 16 (some 29) ?_;refine pT 15 (some 28) ?_;refine pO 17 (some 30) (fun K hK => ?_);refine gG Try.func37 #[.int .i64 ag, .int .i64 a2] ?_;with_reducible refine (impl_InSet.calls ag a2 true _ A17.out).mono ?_
    rintro e w' ⟨rfl, ⟨nd, rfl⟩⟩;refine ⟨_, rfl, ?_⟩;refine hK.out _ _ ⟨bC aa 0, bC aa 1, bC aa 2, bC aa 3, bC ab 0, bC ab 1⟩ (fun hHeld => ?_);clear hK K;refine nR ?_;refine pP 18 (some 31) ?_;refine pP 19 (some 32) ?_;refine pX 20 (some 33) ?_;refine pX 21 (some 34) ?_;refine pX 22 (some 35) ?_;refine pX 23 (some 36) ?_;refine pX 24 (some 37) ?_;refine pX 25 (some 38) ?_;refine pX 26 (some 39) ?_;refine pX 27 (some 40) ?_;refine pP 28 (some 41) ?_;refine done_ (done_of HT_.out (by kernel_rfl)) ?_;obtain ⟨hcz29_0, hcz29_1⟩ := cz2 ad.out;obtain ⟨hfz29_0, hfz29_1⟩ := fz2 ad.out;obtain ⟨hnb30, hnc30⟩ := oB NB271_269;obtain ⟨hnb31, hnc31⟩ := oB NB271_270;obtain ⟨hcz32_0, hcz32_1⟩ := cz2 ac.out;obtain ⟨hfz32_0, hfz32_1⟩ := fz2 ac.out;try go_wp2
    refine bodyPost_ret (results_ct rfl _ _ gb271 31 #[.int .i64 ar, .slice Ao25 al.length co25] (0, 0) _ rfl (blk_put (blk_put (cs := #[.int .i64 0, .slice none 0 0]) (TZ ac) 0 _ rfl) 1 _ rfl) Try.underlying31 rfl (by kernel_rfl)) rfl ?_;exact ⟨_, TE, by (with_reducible repeat (first | apply Kd.R_alloc | apply Kd.R_drewN | apply Kd.R_drew)); exact Kd.R_mono (RK1 (Kd.R_types ae.out ac.out (by decide))) (fun _ hk => trivial), TB⟩
   ·replace c18 := Bool.eq_false_iff.mpr c18;subst c18;replace H := ifF H;replace H := bE H;obtain ⟨⟨aF, aG⟩, A33, H⟩ := H;dsimp only at H;replace H := ifN H;obtain ⟨c34, H⟩ := H;have c34b0 : decide (0 ≤ a2) = true := decide_eq_true c34;clear c34;replace H := ifN H;obtain ⟨c35, H⟩ := H;have c35b0 : decide (a2 < (af.length : Int)) = true := decide_eq_true c35;clear c35
    by_cases c36 : (!(aF == ((rd_T48 af a2).f0)) || (!(aG == ((rd_T48 af a2).f1)))) = true
    ·rw [if_pos c36] at H;have c36b0 : (!(aF == ((rd_T48 af a2).f0)) || (!(aG == ((rd_T48 af a2).f1)))) = true := c36;clear c36;simp only [Option.some.injEq, Prod.mk.injEq] at H;obtain ⟨rfl, rfl, rfl⟩ := H;try go_wp2_with (first | ((with_reducible refine gate_callee (f := 68) rfl ?_); refine gL (some 12) Try.func68 #[.agg #[.int .i64 ag, .slice ap aj.length am]] ?_; (with_reducible refine (impl_copyBuild.calls ag _ _ aj ar al _ ?side1 ?side2 A5.out).mono ?_); (case side1 => exact Zq13_0); (case side2 => exact az.out); rintro e w37 ⟨aH, rfl, ho0, hb⟩; refine ⟨_, rfl, ?_⟩; have ae := aM (Kd.R_lower ho0 (below_size TB)); replace aa := mB aa hb; replace ab := mB ab hb; replace ac := mB ac hb; replace HB := bS HB hb; clear ho0 hb) | ((with_reducible refine gate_dst (N := 10) rfl ?_); (try (refine gate_guard (by rfl) ?_; dsimp only)); refine gBx 10 #[.int .i64 0, .slice none 0 0] 31 ?_; intro gb276 hg w38 hbox hb; have ad := aM (hbox); have GW276 := gW HB hg; have GE276 := gW HB hg; obtain ⟨NB269_276, NB276_269⟩ := nB aa hg; obtain ⟨NB270_276, NB276_270⟩ := nB ab hg; obtain ⟨NB271_276, NB276_271⟩ := nB ac hg; replace ae := mR ae hb; replace aa := mB aa hb; replace ab := mB ab hb; replace ac := mB ac hb; replace HB := bS HB hb; clear hb hbox hg; obtain ⟨hnb39, hnc39⟩ := oB NB276_269; obtain ⟨hnb40, hnc40⟩ := oB NB276_270; obtain ⟨hnb41, hnc41⟩ := oB NB276_271; obtain ⟨hcz42_0, hcz42_1⟩ := cz2 ad.out; obtain ⟨hfz42_0, hfz42_1⟩ := fz2 ad.out; obtain ⟨Ao43, co43, eo43⟩ := Kd.R_slice ae.out; subst eo43))
     generalize hX_ : (w38.setCell ⟨gb276, 0, none⟩ (.int .i64 ar)).setCell ⟨gb276, 1, none⟩ (.slice Ao43 al.length co43) = w44;replace ae : Aside0 (Kd.R (Kd.int .u8) 5 w44 w.heap.size (fun _ => True) (.slice Ao43 al.length co43) al) := ⟨by rw [← hX_]; (with_reducible repeat (first | apply Kd.R_alloc | apply Kd.R_drewN | apply Kd.R_drew)); exact Kd.R_mono (RK1 (Kd.R_types ae.out ad.out (by decide))) (fun _ hk => trivial)⟩;replace aa : Aside0 (w44.heap[ak]? = some (.cells #[.int .i64 an, .int .i64 ao, .int .i64 aq, .slice ay af.length aw] 28 (0, 0))) := ⟨by rw [← hX_]; exact (TZ aa)⟩;replace ab : Aside0 (w44.heap[gb270]? = some (.cells #[.int .i64 ag, .slice ap aj.length am] 31 (0, 0))) := ⟨by rw [← hX_]; exact (TZ ab)⟩;replace ac : Aside0 (w44.heap[gb271]? = some (.cells #[.int .i64 0, .slice none 0 0] 31 (0, 0))) := ⟨by rw [← hX_]; exact (TZ ac)⟩;replace ad : Aside0 (w44.heap[gb276]? = some (.cells #[.int .i64 ar, .slice Ao43 al.length co43] 31 (0, 0))) := ⟨by rw [← hX_]; exact (blk_put (blk_put (cs := #[.int .i64 0, .slice none 0 0]) (TZ ad) 0 _ rfl) 1 _ rfl)⟩;replace HB : Aside0 (Below w.heap.size w w44) := ⟨by rw [← hX_]; exact TB⟩;clear hX_;replace ae := rD ae;replace aa := bD aa;replace ab := bD ab;replace ac := bD ac;replace ad := bD ad;replace HB := aM (below_drew1 HB.out);have aC : 0 ≤ (a2 : Int) := DT;have aD : a2 < (af.length : Int) := DT;obtain ⟨ax, aI, au, av⟩ := at_T48 aB.out a2 aC aD;have ah := av;have ai := au;cases aI;replace au := (HB.out.cell (World.block_lt_of_cell? w _ au)).trans au;replace av := (HB.out.cell (World.block_lt_of_cell? w _ av)).trans av;replace aC := eq_true aC;replace aD := eq_true aD;refine start_ (n := 29) (S := fun w' => w'.cell? ⟨ak, 0, none⟩ = some (.int .i64 an) ∧ w'.cell? ⟨ak, 1, none⟩ = some (.int .i64 ao) ∧ w'.cell? ⟨ak, 2, none⟩ = some (.int .i64 aq) ∧ w'.cell? ⟨ak, 3, none⟩ = some (.slice (some ax) af.length aw) ∧ w'.cell? ⟨gb270, 0, none⟩ = some (.int .i64 ag) ∧ w'.cell? ⟨gb270, 1, none⟩ = some (.slice ap aj.length am) ∧ w'.cell? (ax.add ((a2).toNat * 2)) = some (.int .i64 ((rd_T48 af a2).f0)) ∧ w'.cell? ⟨(ax.add ((a2).toNat * 2)).block, (ax.add ((a2).toNat * 2)).off + 1, none⟩ = some (.int .i64 ((rd_T48 af a2).f1))) (ds := []) (Array.replicate 29 false) (by kernel_rfl) rfl rfl ⟨bC aa 0, bC aa 1, bC aa 2, bC aa 3, bC ab 0, bC ab 1, ((HB.out.cell (World.block_lt_of_cell? w _ ai)).trans ai), ((HB.out.cell (World.block_lt_of_cell? w _ ah)).trans ah)⟩ (fun hHeld => ?_); refine with_tabW impl_PutPiece.tab2 impl_PutPiece.bits2 (fun HT_ HW_ => ?_);generalize w44.drew = w45 at ae aa ab ac ad HB ae au av hHeld ⊢;refine pT 0 (some 13) ?_;refine pT 1 (some 14) ?_;refine pO 2 (some 15) (fun K hK => ?_);refine gG Try.func42 #[.agg #[.int .i64 an, .int .i64 ao, .int .i64 aq, .slice (some ax) af.length aw], .agg #[.int .i64 ag, .slice ap aj.length am]] ?_;with_reducible refine (impl_BuildOk.calls k an ao aq _ _ af ag _ _ aj true _ ?side1 ?side2 ?side3 ?side4 A6.out).mono ?_
     (case side1 => exact Zq13_2);(case side2 => exact aE.out);(case side3 => exact Zq13_3);(case side4 => exact az.out);rintro e w46 ⟨rfl, hb⟩;refine ⟨_, rfl, ?_⟩;replace ae := mR ae hb;replace aa := mB aa hb;replace ab := mB ab hb;replace ac := mB ac hb;replace ad := mB ad hb;replace HB := bS HB hb;(try clear hb);(try clear hb2);(try clear hk);(try clear hi);refine hK.out _ _ ⟨bC aa 0, bC aa 1, bC aa 2, bC aa 3, bC ab 0, bC ab 1, ((HB.out.cell (World.block_lt_of_cell? w _ ai)).trans ai), ((HB.out.cell (World.block_lt_of_cell? w _ ah)).trans ah)⟩ (fun hHeld => ?_);clear hK K;refine nR ?_;refine pP 3 (some 16) ?_;refine pP 4 (some 17) ?_;refine pP 5 (some 18) ?_;refine pP 6 (some 19) ?_;refine pT 7 (some 20) ?_;refine pP 8 (some 21) ?_;refine pP 9 (some 22) ?_;refine pO 10 (some 23) (fun K hK => ?_);refine gG Try.func61 #[.int .i64 a2, .int .i64 0, .int .i64 (wrap64 ((af.length : Int) - 1))] ?_;with_reducible refine (impl_within.calls a2 0 (wrap64 ((af.length : Int) - 1)) true _ A15.out).mono ?_
     rintro e w' ⟨rfl, ⟨nd, rfl⟩⟩;refine ⟨_, rfl, ?_⟩;refine hK.out _ _ ⟨bC aa 0, bC aa 1, bC aa 2, bC aa 3, bC ab 0, bC ab 1, ((HB.out.cell (World.block_lt_of_cell? w _ ai)).trans ai), ((HB.out.cell (World.block_lt_of_cell? w _ ah)).trans ah)⟩ (fun hHeld => ?_);clear hK K;refine nR ?_;refine pP 11 (some 24) ?_;refine pP 12 (some 25) ?_;refine pP 13 (some 26) ?_;refine pP 14 (some 27) ?_;refine pP 16 (some 29) ?_;refine pT 15 (some 28) ?_;refine pO 17 (some 30) (fun K hK => ?_);refine gG Try.func37 #[.int .i64 ag, .int .i64 a2] ?_;with_reducible refine (impl_InSet.calls ag a2 false _ A17.out).mono ?_
     rintro e w' ⟨rfl, ⟨nd, rfl⟩⟩;refine ⟨_, rfl, ?_⟩;refine hK.out _ _ ⟨bC aa 0, bC aa 1, bC aa 2, bC aa 3, bC ab 0, bC ab 1, ((HB.out.cell (World.block_lt_of_cell? w _ ai)).trans ai), ((HB.out.cell (World.block_lt_of_cell? w _ ah)).trans ah)⟩ (fun hHeld => ?_);clear hK K;refine nR ?_;refine pP 18 (some 31) ?_;refine pP 19 (some 32) ?_;refine pP 20 (some 33) ?_;refine pP 22 (some 35) ?_;refine pP 24 (some 37) ?_;refine pT 23 (some 36) ?_;refine pP 25 (some 38) ?_;refine pT 26 (some 39) ?_;refine pO 21 (some 34) (fun K hK => ?_);refine gG Try.func57 #[.slice A3 l3.length c3] ?_;with_reducible refine (impl_SumOf.calls k _ _ l3 aF aG _ ?side1 ?side2 A33.out).mono ?_
     (case side1 => exact Zq13_1);(case side2 => exact HC3.out);rintro e w47 ⟨rfl, hb⟩;refine ⟨_, rfl, ?_⟩;replace ae := mR ae hb;replace aa := mB aa hb;replace ab := mB ab hb;replace ac := mB ac hb;replace ad := mB ad hb;replace HB := bS HB hb;(try clear hb);(try clear hb2);(try clear hk);(try clear hi);refine hK.out _ _ ⟨bC aa 0, bC aa 1, bC aa 2, bC aa 3, bC ab 0, bC ab 1, ((HB.out.cell (World.block_lt_of_cell? w _ ai)).trans ai), ((HB.out.cell (World.block_lt_of_cell? w _ ah)).trans ah)⟩ (fun hHeld => ?_);clear hK K;refine nR ?_;refine pP 27 (some 40) ?_;refine pP 28 (some 41) ?_;refine done_ (done_of HT_.out (by kernel_rfl)) ?_;obtain ⟨hcz48_0, hcz48_1⟩ := cz2 ad.out;obtain ⟨hfz48_0, hfz48_1⟩ := fz2 ad.out;obtain ⟨hnb49, hnc49⟩ := oB NB271_269;obtain ⟨hnb50, hnc50⟩ := oB NB271_270;obtain ⟨hcz51_0, hcz51_1⟩ := cz2 ac.out;obtain ⟨hfz51_0, hfz51_1⟩ := fz2 ac.out;try go_wp2
     refine bodyPost_ret (results_ct rfl _ _ gb271 31 #[.int .i64 ar, .slice Ao43 al.length co43] (0, 0) _ rfl (blk_put (blk_put (cs := #[.int .i64 0, .slice none 0 0]) (TZ ac) 0 _ rfl) 1 _ rfl) Try.underlying31 rfl (by kernel_rfl)) rfl ?_;exact ⟨_, TE, by (with_reducible repeat (first | apply Kd.R_alloc | apply Kd.R_drewN | apply Kd.R_drew)); exact Kd.R_mono (RK1 (Kd.R_types ae.out ac.out (by decide))) (fun _ hk => trivial), TB⟩
    ·rw [if_neg c36] at H;have c36b0 : (!(aF == ((rd_T48 af a2).f0)) || (!(aG == ((rd_T48 af a2).f1)))) = false := by simpa using c36
     clear c36;replace H := bE H;obtain ⟨⟨t283, t284⟩, A52, H⟩ := H;dsimp only at H;simp only [Option.some.injEq, Prod.mk.injEq] at H;obtain ⟨rfl, rfl, rfl⟩ := H;try go_wp2_with (first | ((with_reducible refine gate_callee (f := 68) rfl ?_); refine gL (some 12) Try.func68 #[.agg #[.int .i64 ag, .slice ap aj.length am]] ?_; (with_reducible refine (impl_copyBuild.calls ag _ _ aj ar al _ ?side1 ?side2 A5.out).mono ?_); (case side1 => exact Zq13_0); (case side2 => exact az.out); rintro e w53 ⟨aH, rfl, ho0, hb⟩; refine ⟨_, rfl, ?_⟩; have ae := aM (Kd.R_lower ho0 (below_size TB)); replace aa := mB aa hb; replace ab := mB ab hb; replace ac := mB ac hb; replace HB := bS HB hb; clear ho0 hb) | ((with_reducible refine gate_dst (N := 10) rfl ?_); (try (refine gate_guard (by rfl) ?_; dsimp only)); refine gBx 10 #[.int .i64 0, .slice none 0 0] 31 ?_; intro gb276 hg w54 hbox hb; have ad := aM (hbox); have GW276 := gW HB hg; have GE276 := gW HB hg; obtain ⟨NB269_276, NB276_269⟩ := nB aa hg; obtain ⟨NB270_276, NB276_270⟩ := nB ab hg; obtain ⟨NB271_276, NB276_271⟩ := nB ac hg; replace ae := mR ae hb; replace aa := mB aa hb; replace ab := mB ab hb; replace ac := mB ac hb; replace HB := bS HB hb; clear hb hbox hg; obtain ⟨hnb55, hnc55⟩ := oB NB276_269; obtain ⟨hnb56, hnc56⟩ := oB NB276_270; obtain ⟨hnb57, hnc57⟩ := oB NB276_271; obtain ⟨hcz58_0, hcz58_1⟩ := cz2 ad.out; obtain ⟨hfz58_0, hfz58_1⟩ := fz2 ad.out; obtain ⟨Ao59, co59, eo59⟩ := Kd.R_slice ae.out; subst eo59))
     generalize hX_ : (w54.setCell ⟨gb276, 0, none⟩ (.int .i64 ar)).setCell ⟨gb276, 1, none⟩ (.slice Ao59 al.length co59) = w60;replace ae : Aside0 (Kd.R (Kd.int .u8) 5 w60 w.heap.size (fun _ => True) (.slice Ao59 al.length co59) al) := ⟨by rw [← hX_]; (with_reducible repeat (first | apply Kd.R_alloc | apply Kd.R_drewN | apply Kd.R_drew)); exact Kd.R_mono (RK1 (Kd.R_types ae.out ad.out (by decide))) (fun _ hk => trivial)⟩;replace aa : Aside0 (w60.heap[ak]? = some (.cells #[.int .i64 an, .int .i64 ao, .int .i64 aq, .slice ay af.length aw] 28 (0, 0))) := ⟨by rw [← hX_]; exact (TZ aa)⟩;replace ab : Aside0 (w60.heap[gb270]? = some (.cells #[.int .i64 ag, .slice ap aj.length am] 31 (0, 0))) := ⟨by rw [← hX_]; exact (TZ ab)⟩;replace ac : Aside0 (w60.heap[gb271]? = some (.cells #[.int .i64 0, .slice none 0 0] 31 (0, 0))) := ⟨by rw [← hX_]; exact (TZ ac)⟩;replace ad : Aside0 (w60.heap[gb276]? = some (.cells #[.int .i64 ar, .slice Ao59 al.length co59] 31 (0, 0))) := ⟨by rw [← hX_]; exact (blk_put (blk_put (cs := #[.int .i64 0, .slice none 0 0]) (TZ ad) 0 _ rfl) 1 _ rfl)⟩;replace HB : Aside0 (Below w.heap.size w w60) := ⟨by rw [← hX_]; exact TB⟩;clear hX_;replace ae := rD ae;replace aa := bD aa;replace ab := bD ab;replace ac := bD ac;replace ad := bD ad;replace HB := aM (below_drew1 HB.out);have aC : 0 ≤ (a2 : Int) := DT;have aD : a2 < (af.length : Int) := DT;obtain ⟨ax, aI, au, av⟩ := at_T48 aB.out a2 aC aD;have ah := av;have ai := au;cases aI;replace au := (HB.out.cell (World.block_lt_of_cell? w _ au)).trans au;replace av := (HB.out.cell (World.block_lt_of_cell? w _ av)).trans av;replace aC := eq_true aC;replace aD := eq_true aD;refine start_ (n := 29) (S := fun w' => w'.cell? ⟨ak, 0, none⟩ = some (.int .i64 an) ∧ w'.cell? ⟨ak, 1, none⟩ = some (.int .i64 ao) ∧ w'.cell? ⟨ak, 2, none⟩ = some (.int .i64 aq) ∧ w'.cell? ⟨ak, 3, none⟩ = some (.slice (some ax) af.length aw) ∧ w'.cell? ⟨gb270, 0, none⟩ = some (.int .i64 ag) ∧ w'.cell? ⟨gb270, 1, none⟩ = some (.slice ap aj.length am) ∧ w'.cell? (ax.add ((a2).toNat * 2)) = some (.int .i64 ((rd_T48 af a2).f0)) ∧ w'.cell? ⟨(ax.add ((a2).toNat * 2)).block, (ax.add ((a2).toNat * 2)).off + 1, none⟩ = some (.int .i64 ((rd_T48 af a2).f1))) (ds := []) (Array.replicate 29 false) (by kernel_rfl) rfl rfl ⟨bC aa 0, bC aa 1, bC aa 2, bC aa 3, bC ab 0, bC ab 1, ((HB.out.cell (World.block_lt_of_cell? w _ ai)).trans ai), ((HB.out.cell (World.block_lt_of_cell? w _ ah)).trans ah)⟩ (fun hHeld => ?_); refine with_tabW impl_PutPiece.tab2 impl_PutPiece.bits2 (fun HT_ HW_ => ?_);generalize w60.drew = w61 at ae aa ab ac ad HB ae au av hHeld ⊢;refine pT 0 (some 13) ?_;refine pT 1 (some 14) ?_;refine pO 2 (some 15) (fun K hK => ?_);refine gG Try.func42 #[.agg #[.int .i64 an, .int .i64 ao, .int .i64 aq, .slice (some ax) af.length aw], .agg #[.int .i64 ag, .slice ap aj.length am]] ?_;with_reducible refine (impl_BuildOk.calls k an ao aq _ _ af ag _ _ aj true _ ?side1 ?side2 ?side3 ?side4 A6.out).mono ?_
     (case side1 => exact Zq13_2);(case side2 => exact aE.out);(case side3 => exact Zq13_3);(case side4 => exact az.out);rintro e w62 ⟨rfl, hb⟩;refine ⟨_, rfl, ?_⟩;replace ae := mR ae hb;replace aa := mB aa hb;replace ab := mB ab hb;replace ac := mB ac hb;replace ad := mB ad hb;replace HB := bS HB hb;(try clear hb);(try clear hb2);(try clear hk);(try clear hi);refine hK.out _ _ ⟨bC aa 0, bC aa 1, bC aa 2, bC aa 3, bC ab 0, bC ab 1, ((HB.out.cell (World.block_lt_of_cell? w _ ai)).trans ai), ((HB.out.cell (World.block_lt_of_cell? w _ ah)).trans ah)⟩ (fun hHeld => ?_);clear hK K;refine nR ?_;refine pP 3 (some 16) ?_;refine pP 4 (some 17) ?_;refine pP 5 (some 18) ?_;refine pP 6 (some 19) ?_;refine pT 7 (some 20) ?_;refine pP 8 (some 21) ?_;refine pP 9 (some 22) ?_;refine pO 10 (some 23) (fun K hK => ?_);refine gG Try.func61 #[.int .i64 a2, .int .i64 0, .int .i64 (wrap64 ((af.length : Int) - 1))] ?_;with_reducible refine (impl_within.calls a2 0 (wrap64 ((af.length : Int) - 1)) true _ A15.out).mono ?_
     rintro e w' ⟨rfl, ⟨nd, rfl⟩⟩;refine ⟨_, rfl, ?_⟩;refine hK.out _ _ ⟨bC aa 0, bC aa 1, bC aa 2, bC aa 3, bC ab 0, bC ab 1, ((HB.out.cell (World.block_lt_of_cell? w _ ai)).trans ai), ((HB.out.cell (World.block_lt_of_cell? w _ ah)).trans ah)⟩ (fun hHeld => ?_);clear hK K;refine nR ?_;refine pP 11 (some 24) ?_;refine pP 12 (some 25) ?_;refine pP 13 (some 26) ?_;refine pP 14 (some 27) ?_;refine pP 16 (some 29) ?_;refine pT 15 (some 28) ?_;refine pO 17 (some 30) (fun K hK => ?_);refine gG Try.func37 #[.int .i64 ag, .int .i64 a2] ?_;with_reducible refine (impl_InSet.calls ag a2 false _ A17.out).mono ?_
     rintro e w' ⟨rfl, ⟨nd, rfl⟩⟩;refine ⟨_, rfl, ?_⟩;refine hK.out _ _ ⟨bC aa 0, bC aa 1, bC aa 2, bC aa 3, bC ab 0, bC ab 1, ((HB.out.cell (World.block_lt_of_cell? w _ ai)).trans ai), ((HB.out.cell (World.block_lt_of_cell? w _ ah)).trans ah)⟩ (fun hHeld => ?_);clear hK K;refine nR ?_;refine pP 18 (some 31) ?_;refine pP 19 (some 32) ?_;refine pP 20 (some 33) ?_;refine pP 22 (some 35) ?_;refine pP 24 (some 37) ?_;refine pT 23 (some 36) ?_;refine pP 25 (some 38) ?_;refine pT 26 (some 39) ?_;refine pO 21 (some 34) (fun K hK => ?_);refine gG Try.func57 #[.slice A3 l3.length c3] ?_;with_reducible refine (impl_SumOf.calls k _ _ l3 aF aG _ ?side1 ?side2 A33.out).mono ?_
     (case side1 => exact Zq13_1);(case side2 => exact HC3.out);rintro e w63 ⟨rfl, hb⟩;refine ⟨_, rfl, ?_⟩;replace ae := mR ae hb;replace aa := mB aa hb;replace ab := mB ab hb;replace ac := mB ac hb;replace ad := mB ad hb;replace HB := bS HB hb;(try clear hb);(try clear hb2);(try clear hk);(try clear hi);refine hK.out _ _ ⟨bC aa 0, bC aa 1, bC aa 2, bC aa 3, bC ab 0, bC ab 1, ((HB.out.cell (World.block_lt_of_cell? w _ ai)).trans ai), ((HB.out.cell (World.block_lt_of_cell? w _ ah)).trans ah)⟩ (fun hHeld => ?_);clear hK K;refine nR ?_;refine pP 27 (some 40) ?_;refine pP 28 (some 41) ?_;refine done_ (done_of HT_.out (by kernel_rfl)) ?_;obtain ⟨hnb64, hnc64⟩ := oB NB269_270;obtain ⟨hnb65, hnc65⟩ := oB NB269_271;obtain ⟨hcz66_0, hcz66_1, hcz66_2, hcz66_3⟩ := cz4 aa.out;obtain ⟨hfz66_0, hfz66_1, hfz66_2, hfz66_3⟩ := fz4 aa.out;obtain ⟨hcz67_0, hcz67_1⟩ := cz2 ad.out;obtain ⟨hfz67_0, hfz67_1⟩ := fz2 ad.out;try go_wp2_with (first | (go_at_call 69; (with_reducible refine (impl_Build_put.calls gb276 Ao59 co59 _ _ _ _ _ _ _ _ _ _ _ _ _ _ (fun _ => True) w _ ?p1 ?p2 ?p3 ?p4 ?p5 A52.out).mono ?_); (case p1 => exact TB); (case p2 => exact GW276.out); (case p3 => have X_ := ad.out; exact TX); (case p4 => exact Kd.R_mono (TRf ae) (fun _ _ => trivial)); (case p5 => exact Kd.C_below HR3.out TB); rintro e w68 ⟨rfl, hl_, hG_, hO_, hb_, hk_⟩; obtain ⟨wv_, hv1_, hv2_, hv3_⟩ := virt_ (.int .i64 ar) (.slice Ao59 al.length co59) hG_; have hk2_ := hk_.then_ hv3_.kept (fun k_ e_ => .inl (.inl e_)); have HO286 := aM (Kd.R_mono (ok' := fun _ => True) (Kd.R_move (Kd.R_types hO_ hG_ (by decide)) (fun k_ q_ => hv3_.2.2 k_ q_.2)) (fun _ _ => trivial)); replace aa := aM (blk_kept (by have X_ := aa.out; exact TX) hk2_ (fun q_ => Or.elim q_ (fun e_ => NB269_276.out e_) (fun e_ => Kd.R_ne ae.out (by have X_ := aa.out; exact TX) (by decide) e_))); replace ab := aM (blk_kept (by have X_ := ab.out; exact TX) hk2_ (fun q_ => Or.elim q_ (fun e_ => NB270_276.out e_) (fun e_ => Kd.R_ne ae.out (by have X_ := ab.out; exact TX) (by decide) e_))); replace ac := aM (blk_kept (by have X_ := ac.out; exact TX) hk2_ (fun q_ => Or.elim q_ (fun e_ => NB271_276.out e_) (fun e_ => Kd.R_ne ae.out (by have X_ := ac.out; exact TX) (by decide) e_))); replace ad := aM hv2_; replace HB := aM (hv3_.below hb_ GW276.out); clear hl_ hG_ hO_ hb_ hk_ hk2_ hv2_ hv3_; subst hv1_; obtain ⟨hcz69_0, hcz69_1⟩ := cz2 ad.out; obtain ⟨hfz69_0, hfz69_1⟩ := fz2 ad.out; obtain ⟨hnb71, hnc71⟩ := oB NB271_270; obtain ⟨hcz72_0, hcz72_1⟩ := cz2 ac.out; obtain ⟨hfz72_0, hfz72_1⟩ := fz2 ac.out))
     refine bodyPost_ret (results_ct rfl _ _ gb271 31 #[.int .i64 t283, .slice Ao59 t284.length co59] (0, 0) _ rfl (blk_put (blk_put (cs := #[.int .i64 0, .slice none 0 0]) (TZ ac) 0 _ rfl) 1 _ rfl) Try.underlying31 rfl (by kernel_rfl)) rfl ?_;exact ⟨_, TE, by (with_reducible repeat (first | apply Kd.R_alloc | apply Kd.R_drewN | apply Kd.R_drew)); exact Kd.R_mono (RK2 (Kd.R_types (Kd.R_types HO286.out ad.out (by decide)) ac.out (by decide))) (fun _ hk => trivial), TB⟩
  ·replace c16 := Bool.eq_false_iff.mpr c16;subst c16;replace H := ifF H;simp only [Option.some.injEq, Prod.mk.injEq] at H;obtain ⟨rfl, rfl, rfl⟩ := H;try go_wp2_with (first | ((with_reducible refine gate_callee (f := 68) rfl ?_); refine gL (some 12) Try.func68 #[.agg #[.int .i64 ag, .slice ap aj.length am]] ?_; (with_reducible refine (impl_copyBuild.calls ag _ _ aj ar al _ ?side1 ?side2 A5.out).mono ?_); (case side1 => exact Zq13_0); (case side2 => exact az.out); rintro e w73 ⟨aH, rfl, ho0, hb⟩; refine ⟨_, rfl, ?_⟩; have ae := aM (Kd.R_lower ho0 (below_size TB)); replace aa := mB aa hb; replace ab := mB ab hb; replace ac := mB ac hb; replace HB := bS HB hb; clear ho0 hb) | ((with_reducible refine gate_dst (N := 10) rfl ?_); (try (refine gate_guard (by rfl) ?_; dsimp only)); refine gBx 10 #[.int .i64 0, .slice none 0 0] 31 ?_; intro gb276 hg w74 hbox hb; have ad := aM (hbox); have GW276 := gW HB hg; have GE276 := gW HB hg; obtain ⟨NB269_276, NB276_269⟩ := nB aa hg; obtain ⟨NB270_276, NB276_270⟩ := nB ab hg; obtain ⟨NB271_276, NB276_271⟩ := nB ac hg; replace ae := mR ae hb; replace aa := mB aa hb; replace ab := mB ab hb; replace ac := mB ac hb; replace HB := bS HB hb; clear hb hbox hg; obtain ⟨hnb75, hnc75⟩ := oB NB276_269; obtain ⟨hnb76, hnc76⟩ := oB NB276_270; obtain ⟨hnb77, hnc77⟩ := oB NB276_271; obtain ⟨hcz78_0, hcz78_1⟩ := cz2 ad.out; obtain ⟨hfz78_0, hfz78_1⟩ := fz2 ad.out; obtain ⟨Ao79, co79, eo79⟩ := Kd.R_slice ae.out; subst eo79))
   generalize hX_ : (w74.setCell ⟨gb276, 0, none⟩ (.int .i64 ar)).setCell ⟨gb276, 1, none⟩ (.slice Ao79 al.length co79) = w80;replace ae : Aside0 (Kd.R (Kd.int .u8) 5 w80 w.heap.size (fun _ => True) (.slice Ao79 al.length co79) al) := ⟨by rw [← hX_]; (with_reducible repeat (first | apply Kd.R_alloc | apply Kd.R_drewN | apply Kd.R_drew)); exact Kd.R_mono (RK1 (Kd.R_types ae.out ad.out (by decide))) (fun _ hk => trivial)⟩;replace aa : Aside0 (w80.heap[ak]? = some (.cells #[.int .i64 an, .int .i64 ao, .int .i64 aq, .slice ay af.length aw] 28 (0, 0))) := ⟨by rw [← hX_]; exact (TZ aa)⟩;replace ab : Aside0 (w80.heap[gb270]? = some (.cells #[.int .i64 ag, .slice ap aj.length am] 31 (0, 0))) := ⟨by rw [← hX_]; exact (TZ ab)⟩;replace ac : Aside0 (w80.heap[gb271]? = some (.cells #[.int .i64 0, .slice none 0 0] 31 (0, 0))) := ⟨by rw [← hX_]; exact (TZ ac)⟩;replace ad : Aside0 (w80.heap[gb276]? = some (.cells #[.int .i64 ar, .slice Ao79 al.length co79] 31 (0, 0))) := ⟨by rw [← hX_]; exact (blk_put (blk_put (cs := #[.int .i64 0, .slice none 0 0]) (TZ ad) 0 _ rfl) 1 _ rfl)⟩;replace HB : Aside0 (Below w.heap.size w w80) := ⟨by rw [← hX_]; exact TB⟩;clear hX_;replace ae := rD ae;replace aa := bD aa;replace ab := bD ab;replace ac := bD ac;replace ad := bD ad;replace HB := aM (below_drew1 HB.out);refine start_ (n := 29) (S := fun w' => w'.cell? ⟨ak, 0, none⟩ = some (.int .i64 an) ∧ w'.cell? ⟨ak, 1, none⟩ = some (.int .i64 ao) ∧ w'.cell? ⟨ak, 2, none⟩ = some (.int .i64 aq) ∧ w'.cell? ⟨ak, 3, none⟩ = some (.slice ay af.length aw) ∧ w'.cell? ⟨gb270, 0, none⟩ = some (.int .i64 ag) ∧ w'.cell? ⟨gb270, 1, none⟩ = some (.slice ap aj.length am)) (ds := []) (Array.replicate 29 false) (by kernel_rfl) rfl rfl ⟨bC aa 0, bC aa 1, bC aa 2, bC aa 3, bC ab 0, bC ab 1⟩ (fun hHeld => ?_); refine with_tabW impl_PutPiece.tab2 impl_PutPiece.bits2 (fun HT_ HW_ => ?_);generalize w80.drew = w81 at ae aa ab ac ad HB ae hHeld ⊢;refine pT 0 (some 13) ?_;refine pT 1 (some 14) ?_;refine pO 2 (some 15) (fun K hK => ?_);refine gG Try.func42 #[.agg #[.int .i64 an, .int .i64 ao, .int .i64 aq, .slice ay af.length aw], .agg #[.int .i64 ag, .slice ap aj.length am]] ?_;with_reducible refine (impl_BuildOk.calls k an ao aq _ _ af ag _ _ aj true _ ?side1 ?side2 ?side3 ?side4 A6.out).mono ?_
   (case side1 => exact Zq13_2);(case side2 => exact aE.out);(case side3 => exact Zq13_3);(case side4 => exact az.out);rintro e w82 ⟨rfl, hb⟩;refine ⟨_, rfl, ?_⟩;replace ae := mR ae hb;replace aa := mB aa hb;replace ab := mB ab hb;replace ac := mB ac hb;replace ad := mB ad hb;replace HB := bS HB hb;(try clear hb);(try clear hb2);(try clear hk);(try clear hi);refine hK.out _ _ ⟨bC aa 0, bC aa 1, bC aa 2, bC aa 3, bC ab 0, bC ab 1⟩ (fun hHeld => ?_);clear hK K;refine nR ?_;refine pP 3 (some 16) ?_;refine pP 4 (some 17) ?_;refine pP 5 (some 18) ?_;refine pP 6 (some 19) ?_;refine pT 7 (some 20) ?_;refine pP 8 (some 21) ?_;refine pP 9 (some 22) ?_;refine pO 10 (some 23) (fun K hK => ?_);refine gG Try.func61 #[.int .i64 a2, .int .i64 0, .int .i64 (wrap64 ((af.length : Int) - 1))] ?_;with_reducible refine (impl_within.calls a2 0 (wrap64 ((af.length : Int) - 1)) false _ A15.out).mono ?_
   rintro e w' ⟨rfl, ⟨nd, rfl⟩⟩;refine ⟨_, rfl, ?_⟩;refine hK.out _ _ ⟨bC aa 0, bC aa 1, bC aa 2, bC aa 3, bC ab 0, bC ab 1⟩ (fun hHeld => ?_);clear hK K;refine nR ?_;refine pP 11 (some 24) ?_;refine pP 12 (some 25) ?_;refine pP 13 (some 26) ?_;refine pX 14 (some 27) ?_;refine pX 15 (some 28) ?_;refine pX 16 (some 29) ?_;refine pX 17 (some 30) ?_;refine pP 18 (some 31) ?_;refine pP 19 (some 32) ?_;refine pX 20 (some 33) ?_;refine pX 21 (some 34) ?_;refine pX 22 (some 35) ?_;refine pX 23 (some 36) ?_;refine pX 24 (some 37) ?_;refine pX 25 (some 38) ?_;refine pX 26 (some 39) ?_;refine pX 27 (some 40) ?_;refine pP 28 (some 41) ?_;refine done_ (done_of HT_.out (by kernel_rfl)) ?_;obtain ⟨hcz83_0, hcz83_1⟩ := cz2 ad.out;obtain ⟨hfz83_0, hfz83_1⟩ := fz2 ad.out;obtain ⟨hnb84, hnc84⟩ := oB NB271_269;obtain ⟨hnb85, hnc85⟩ := oB NB271_270;obtain ⟨hcz86_0, hcz86_1⟩ := cz2 ac.out;obtain ⟨hfz86_0, hfz86_1⟩ := fz2 ac.out;try go_wp2
   refine bodyPost_ret (results_ct rfl _ _ gb271 31 #[.int .i64 ar, .slice Ao79 al.length co79] (0, 0) _ rfl (blk_put (blk_put (cs := #[.int .i64 0, .slice none 0 0]) (TZ ac) 0 _ rfl) 1 _ rfl) Try.underlying31 rfl (by kernel_rfl)) rfl ?_;exact ⟨_, TE, by (with_reducible repeat (first | apply Kd.R_alloc | apply Kd.R_drewN | apply Kd.R_drew)); exact Kd.R_mono (RK1 (Kd.R_types ae.out ac.out (by decide))) (fun _ hk => trivial), TB⟩
 ·replace c14 := Bool.eq_false_iff.mpr c14;subst c14;replace H := ifF H;simp only [Option.some.injEq, Prod.mk.injEq] at H;obtain ⟨rfl, rfl, rfl⟩ := H;try go_wp2_with (first | ((with_reducible refine gate_callee (f := 68) rfl ?_); refine gL (some 12) Try.func68 #[.agg #[.int .i64 ag, .slice ap aj.length am]] ?_; (with_reducible refine (impl_copyBuild.calls ag _ _ aj ar al _ ?side1 ?side2 A5.out).mono ?_); (case side1 => exact Zq13_0); (case side2 => exact az.out); rintro e w87 ⟨aH, rfl, ho0, hb⟩; refine ⟨_, rfl, ?_⟩; have ae := aM (Kd.R_lower ho0 (below_size TB)); replace aa := mB aa hb; replace ab := mB ab hb; replace ac := mB ac hb; replace HB := bS HB hb; clear ho0 hb) | ((with_reducible refine gate_dst (N := 10) rfl ?_); (try (refine gate_guard (by rfl) ?_; dsimp only)); refine gBx 10 #[.int .i64 0, .slice none 0 0] 31 ?_; intro gb276 hg w88 hbox hb; have ad := aM (hbox); have GW276 := gW HB hg; have GE276 := gW HB hg; obtain ⟨NB269_276, NB276_269⟩ := nB aa hg; obtain ⟨NB270_276, NB276_270⟩ := nB ab hg; obtain ⟨NB271_276, NB276_271⟩ := nB ac hg; replace ae := mR ae hb; replace aa := mB aa hb; replace ab := mB ab hb; replace ac := mB ac hb; replace HB := bS HB hb; clear hb hbox hg; obtain ⟨hnb89, hnc89⟩ := oB NB276_269; obtain ⟨hnb90, hnc90⟩ := oB NB276_270; obtain ⟨hnb91, hnc91⟩ := oB NB276_271; obtain ⟨hcz92_0, hcz92_1⟩ := cz2 ad.out; obtain ⟨hfz92_0, hfz92_1⟩ := fz2 ad.out; obtain ⟨Ao93, co93, eo93⟩ := Kd.R_slice ae.out; subst eo93))
  generalize hX_ : (w88.setCell ⟨gb276, 0, none⟩ (.int .i64 ar)).setCell ⟨gb276, 1, none⟩ (.slice Ao93 al.length co93) = w94;replace ae : Aside0 (Kd.R (Kd.int .u8) 5 w94 w.heap.size (fun _ => True) (.slice Ao93 al.length co93) al) := ⟨by rw [← hX_]; (with_reducible repeat (first | apply Kd.R_alloc | apply Kd.R_drewN | apply Kd.R_drew)); exact Kd.R_mono (RK1 (Kd.R_types ae.out ad.out (by decide))) (fun _ hk => trivial)⟩;replace aa : Aside0 (w94.heap[ak]? = some (.cells #[.int .i64 an, .int .i64 ao, .int .i64 aq, .slice ay af.length aw] 28 (0, 0))) := ⟨by rw [← hX_]; exact (TZ aa)⟩;replace ab : Aside0 (w94.heap[gb270]? = some (.cells #[.int .i64 ag, .slice ap aj.length am] 31 (0, 0))) := ⟨by rw [← hX_]; exact (TZ ab)⟩;replace ac : Aside0 (w94.heap[gb271]? = some (.cells #[.int .i64 0, .slice none 0 0] 31 (0, 0))) := ⟨by rw [← hX_]; exact (TZ ac)⟩;replace ad : Aside0 (w94.heap[gb276]? = some (.cells #[.int .i64 ar, .slice Ao93 al.length co93] 31 (0, 0))) := ⟨by rw [← hX_]; exact (blk_put (blk_put (cs := #[.int .i64 0, .slice none 0 0]) (TZ ad) 0 _ rfl) 1 _ rfl)⟩;replace HB : Aside0 (Below w.heap.size w w94) := ⟨by rw [← hX_]; exact TB⟩;clear hX_;replace ae := rD ae;replace aa := bD aa;replace ab := bD ab;replace ac := bD ac;replace ad := bD ad;replace HB := aM (below_drew1 HB.out);refine start_ (n := 29) (S := fun w' => w'.cell? ⟨ak, 0, none⟩ = some (.int .i64 an) ∧ w'.cell? ⟨ak, 1, none⟩ = some (.int .i64 ao) ∧ w'.cell? ⟨ak, 2, none⟩ = some (.int .i64 aq) ∧ w'.cell? ⟨ak, 3, none⟩ = some (.slice ay af.length aw) ∧ w'.cell? ⟨gb270, 0, none⟩ = some (.int .i64 ag) ∧ w'.cell? ⟨gb270, 1, none⟩ = some (.slice ap aj.length am)) (ds := []) (Array.replicate 29 false) (by kernel_rfl) rfl rfl ⟨bC aa 0, bC aa 1, bC aa 2, bC aa 3, bC ab 0, bC ab 1⟩ (fun hHeld => ?_); refine with_tabW impl_PutPiece.tab2 impl_PutPiece.bits2 (fun HT_ HW_ => ?_);generalize w94.drew = w95 at ae aa ab ac ad HB ae hHeld ⊢;refine pT 0 (some 13) ?_;refine pT 1 (some 14) ?_;refine pO 2 (some 15) (fun K hK => ?_);refine gG Try.func42 #[.agg #[.int .i64 an, .int .i64 ao, .int .i64 aq, .slice ay af.length aw], .agg #[.int .i64 ag, .slice ap aj.length am]] ?_;with_reducible refine (impl_BuildOk.calls k an ao aq _ _ af ag _ _ aj false _ ?side1 ?side2 ?side3 ?side4 A6.out).mono ?_
  (case side1 => exact Zq13_2);(case side2 => exact aE.out);(case side3 => exact Zq13_3);(case side4 => exact az.out);rintro e w96 ⟨rfl, hb⟩;refine ⟨_, rfl, ?_⟩;replace ae := mR ae hb;replace aa := mB aa hb;replace ab := mB ab hb;replace ac := mB ac hb;replace ad := mB ad hb;replace HB := bS HB hb;(try clear hb);(try clear hb2);(try clear hk);(try clear hi);refine hK.out _ _ ⟨bC aa 0, bC aa 1, bC aa 2, bC aa 3, bC ab 0, bC ab 1⟩ (fun hHeld => ?_);clear hK K;refine nR ?_;refine pP 3 (some 16) ?_;refine pP 4 (some 17) ?_;refine pX 5 (some 18) ?_;refine pX 6 (some 19) ?_;refine pX 7 (some 20) ?_;refine pX 8 (some 21) ?_;refine pX 9 (some 22) ?_;refine pX 10 (some 23) ?_;refine pX 11 (some 24) ?_;refine pP 12 (some 25) ?_;refine pP 13 (some 26) ?_;refine pX 14 (some 27) ?_;refine pX 15 (some 28) ?_;refine pX 16 (some 29) ?_;refine pX 17 (some 30) ?_;refine pP 18 (some 31) ?_;refine pP 19 (some 32) ?_;refine pX 20 (some 33) ?_;refine pX 21 (some 34) ?_;refine pX 22 (some 35) ?_;refine pX 23 (some 36) ?_;refine pX 24 (some 37) ?_;refine pX 25 (some 38) ?_;refine pX 26 (some 39) ?_;refine pX 27 (some 40) ?_;refine pP 28 (some 41) ?_;refine done_ (done_of HT_.out (by kernel_rfl)) ?_;obtain ⟨hcz97_0, hcz97_1⟩ := cz2 ad.out;obtain ⟨hfz97_0, hfz97_1⟩ := fz2 ad.out;obtain ⟨hnb98, hnc98⟩ := oB NB271_269;obtain ⟨hnb99, hnc99⟩ := oB NB271_270;obtain ⟨hcz100_0, hcz100_1⟩ := cz2 ac.out;obtain ⟨hfz100_0, hfz100_1⟩ := fz2 ac.out;try go_wp2
  refine bodyPost_ret (results_ct rfl _ _ gb271 31 #[.int .i64 ar, .slice Ao93 al.length co93] (0, 0) _ rfl (blk_put (blk_put (cs := #[.int .i64 0, .slice none 0 0]) (TZ ac) 0 _ rfl) 1 _ rfl) Try.underlying31 rfl (by kernel_rfl)) rfl ?_;exact ⟨_, TE, by (with_reducible repeat (first | apply Kd.R_alloc | apply Kd.R_drewN | apply Kd.R_drew)); exact Kd.R_mono (RK1 (Kd.R_types ae.out ac.out (by decide))) (fun _ hk => trivial), TB⟩
attribute [local go_sem] min2_int min_two
def laws_sameBuild.f (k : Nat) (a0_0 : Int) (l0_1 : List Int) (a1_0 : Int) (l1_1 : List Int) : Option (Bool) := if a0_0 = a1_0 then ((laws_same.f k l0_1 l1_1).bind fun t291 => (some t291)) else (some false)
theorem laws_sameBuild.mono : ∀ a0 a1 a2 a3 k, LeO (laws_sameBuild.f k a0 a1 a2 a3) (laws_sameBuild.f (k + 1) a0 a1 a2 a3) := by
  intro a0 a1 a2 a3 k;have m0_ := @laws_same.mono;unfold laws_sameBuild.f;exact LM
theorem laws_sameBuild.calls (k : Nat) (a0_0 : Int) (A0_1 : Option Addr) (c0_1 : Nat) (l0_1 : List Int) (a1_0 : Int) (A1_1 : Option Addr) (c1_1 : Nat) (l1_1 : List Int) (r : Bool) (w : World) (hr0_1 : Kd.C (Kd.int .u8) w A0_1 l0_1.length l0_1) (hc0_1 : l0_1.length ≤ c0_1) (hr1_1 : Kd.C (Kd.int .u8) w A1_1 l1_1.length l1_1) (hc1_1 : l1_1.length ≤ c1_1) (h : laws_sameBuild.f k a0_0 l0_1 a1_0 l1_1 = some r) :
    Calls Try.prog 15 #[.agg #[.int .i64 a0_0, .slice A0_1 l0_1.length c0_1], .agg #[.int .i64 a1_0, .slice A1_1 l1_1.length c1_1]] w fun e w' => e = .returned (.bool r) ∧ Below w.heap.size w w' := by
  have hu31 := Try.underlying31
  have HR0_1 := aM hr0_1
  have HC0_1 := aM hc0_1
  clear hr0_1 hc0_1
  have HR1_1 := aM hr1_1
  have HC1_1 := aM hc1_1
  clear hr1_1 hc1_1
  have HB := aM (Below.refl w.heap.size w)
  have H := h
  clear h
  unfold laws_sameBuild.f at H
  by_cases c3 : a0_0 = a1_0
  · rw [if_pos c3] at H
    have c3b0 : (a0_0 == a1_0) = true := beq_iff_eq.mpr c3
    have c3b1 : (a0_0 != a1_0) = false := bne_eq_false_iff_eq.mpr c3
    clear c3
    replace H := bE H
    obtain ⟨t291, A4, H⟩ := H
    obtain rfl := Option.some.inj H
    go_enter Try.func15, Try.ntmps15
    go_wp2_with (first | ((with_reducible refine gate_dst (N := 2) rfl ?_); refine gBx 2 #[.int .i64 a0_0, .slice A0_1 l0_1.length c0_1] 31 ?_; intro gb289 hg w5 hbox hb; have BK289 := aM (hbox); have GW289 := gW HB hg; have GE289 := gW HB hg; replace HB := bS HB hb; clear hb hbox hg) | ((with_reducible refine gate_dst (N := 3) rfl ?_); refine gBx 3 #[.int .i64 a1_0, .slice A1_1 l1_1.length c1_1] 31 ?_; intro gb290 hg w6 hbox hb; have BK290 := aM (hbox); have GW290 := gW HB hg; have GE290 := gW HB hg; obtain ⟨NB289_290, NB290_289⟩ := nB BK289 hg; replace BK289 := mB BK289 hb; replace HB := bS HB hb; clear hb hbox hg; obtain ⟨hnb7, hnc7⟩ := oB NB289_290; obtain ⟨hcz8_0, hcz8_1⟩ := cz2 BK289.out; obtain ⟨hfz8_0, hfz8_1⟩ := fz2 BK289.out; obtain ⟨hcz9_0, hcz9_1⟩ := cz2 BK290.out; obtain ⟨hfz9_0, hfz9_1⟩ := fz2 BK290.out) | (go_at_call 17; (with_reducible refine (laws_same.calls k _ _ l0_1 _ _ l1_1 t291 _ ?side1 ?side2 ?side3 ?side4 A4.out).mono ?_); (case side1 => have X_ := (Kd.C_below HR0_1.out HB.out); exact TC); (case side2 => exact HC0_1.out); (case side3 => have X_ := (Kd.C_below HR1_1.out HB.out); exact TC); (case side4 => exact HC1_1.out); rintro e w' ⟨rfl, ⟨nd, rfl⟩⟩))
    go_ret
    exact ⟨TE, TB⟩
  · rw [if_neg c3] at H
    have c3b0 : (a0_0 == a1_0) = false := beq_eq_false_iff_ne.mpr c3
    have c3b1 : (a0_0 != a1_0) = true := bne_iff_ne.mpr c3
    obtain rfl := Option.some.inj H
    go_enter Try.func15, Try.ntmps15
    go_wp2_with (first | ((with_reducible refine gate_dst (N := 2) rfl ?_); refine gBx 2 #[.int .i64 a0_0, .slice A0_1 l0_1.length c0_1] 31 ?_; intro gb289 hg w10 hbox hb; have BK289 := aM (hbox); have GW289 := gW HB hg; have GE289 := gW HB hg; replace HB := bS HB hb; clear hb hbox hg) | ((with_reducible refine gate_dst (N := 3) rfl ?_); refine gBx 3 #[.int .i64 a1_0, .slice A1_1 l1_1.length c1_1] 31 ?_; intro gb290 hg w11 hbox hb; have BK290 := aM (hbox); have GW290 := gW HB hg; have GE290 := gW HB hg; obtain ⟨NB289_290, NB290_289⟩ := nB BK289 hg; replace BK289 := mB BK289 hb; replace HB := bS HB hb; clear hb hbox hg; obtain ⟨hnb12, hnc12⟩ := oB NB289_290; obtain ⟨hcz13_0, hcz13_1⟩ := cz2 BK289.out; obtain ⟨hfz13_0, hfz13_1⟩ := fz2 BK289.out; obtain ⟨hcz14_0, hcz14_1⟩ := cz2 BK290.out; obtain ⟨hfz14_0, hfz14_1⟩ := fz2 BK290.out))
    go_ret
    exact ⟨TE, TB⟩
def impl_Missing.f (a0_0 : Int) (a0_1 : Int) (a0_2 : Int) (l0_3 : List (S48)) (a1_0 : Int) (l1_1 : List Int) : Option (Int) := (impl_AllParts.f a0_0 a0_1 a0_2 l0_3).bind fun t296 => ((impl_Without.f t296 a1_0).bind fun t297 => (some t297))
theorem impl_Missing.calls (a0_0 : Int) (a0_1 : Int) (a0_2 : Int) (A0_3 : Option Addr) (c0_3 : Nat) (l0_3 : List (S48)) (a1_0 : Int) (A1_1 : Option Addr) (c1_1 : Nat) (l1_1 : List Int) (r : Int) (w : World) (hr0_3 : Kd.C k48 w A0_3 l0_3.length l0_3) (hc0_3 : l0_3.length ≤ c0_3) (hr1_1 : Kd.C (Kd.int .u8) w A1_1 l1_1.length l1_1) (hc1_1 : l1_1.length ≤ c1_1) (h : impl_Missing.f a0_0 a0_1 a0_2 l0_3 a1_0 l1_1 = some r) :
    Calls Try.prog 41 #[.agg #[.int .i64 a0_0, .int .i64 a0_1, .int .i64 a0_2, .slice A0_3 l0_3.length c0_3], .agg #[.int .i64 a1_0, .slice A1_1 l1_1.length c1_1]] w fun e w' => e = .returned (.int .i64 r) ∧ Below w.heap.size w w' := by
  have hu28 := Try.underlying28
  have hu31 := Try.underlying31
  have HR0_3 := aM hr0_3
  have HC0_3 := aM hc0_3
  clear hr0_3 hc0_3
  have HR1_1 := aM hr1_1
  have HC1_1 := aM hc1_1
  clear hr1_1 hc1_1
  have HB := aM (Below.refl w.heap.size w)
  have H := h
  clear h
  unfold impl_Missing.f at H
  replace H := bE H
  obtain ⟨t296, A3, H⟩ := H
  replace H := bE H
  obtain ⟨t297, A4, H⟩ := H
  obtain rfl := Option.some.inj H
  go_enter Try.func41, Try.ntmps41
  try go_wp2_with (first | ((with_reducible refine gate_dst (N := 2) rfl ?_); refine gBx 2 #[.int .i64 a0_0, .int .i64 a0_1, .int .i64 a0_2, .slice A0_3 l0_3.length c0_3] 28 ?_; intro gb294 hg w5 hbox hb; have BK294 := aM (hbox); have GW294 := gW HB hg; have GE294 := gW HB hg; replace HB := bS HB hb; clear hb hbox hg) | ((with_reducible refine gate_dst (N := 3) rfl ?_); refine gBx 3 #[.int .i64 a1_0, .slice A1_1 l1_1.length c1_1] 31 ?_; intro gb295 hg w6 hbox hb; have BK295 := aM (hbox); have GW295 := gW HB hg; have GE295 := gW HB hg; obtain ⟨NB294_295, NB295_294⟩ := nB BK294 hg; replace BK294 := mB BK294 hb; replace HB := bS HB hb; clear hb hbox hg))
  replace BK294 := bD BK294
  replace BK295 := bD BK295
  replace HB := aM (below_drew1 HB.out)
  refine start_ (n := 6) (S := fun w' => w'.cell? ⟨gb294, 0, none⟩ = some (.int .i64 a0_0) ∧ w'.cell? ⟨gb294, 1, none⟩ = some (.int .i64 a0_1) ∧ w'.cell? ⟨gb294, 2, none⟩ = some (.int .i64 a0_2) ∧ w'.cell? ⟨gb294, 3, none⟩ = some (.slice A0_3 l0_3.length c0_3) ∧ w'.cell? ⟨gb295, 0, none⟩ = some (.int .i64 a1_0) ∧ w'.cell? ⟨gb295, 1, none⟩ = some (.slice A1_1 l1_1.length c1_1)) (ds := []) (Array.replicate 6 false) (by kernel_rfl) rfl rfl ⟨bC BK294 0, bC BK294 1, bC BK294 2, bC BK294 3, bC BK295 0, bC BK295 1⟩ (fun hHeld => ?_)
  generalize w6.drew = w7 at BK294 BK295 HB hHeld ⊢
  refine pP 2 (some 7) ?_
  refine pT 0 (some 5) ?_
  refine pT 3 (some 8) ?_
  refine pO 1 (some 6) (fun K hK => ?_)
  refine gG Try.func39 #[.agg #[.int .i64 a0_0, .int .i64 a0_1, .int .i64 a0_2, .slice A0_3 l0_3.length c0_3]] ?_
  with_reducible refine (impl_AllParts.calls a0_0 a0_1 a0_2 _ _ l0_3 t296 _ ?side1 ?side2 A3.out).mono ?_
  (case side1 => have X_ := (Kd.C_below HR0_3.out HB.out); exact TC)
  (case side2 => exact HC0_3.out)
  rintro e w8 ⟨rfl, hb⟩
  refine ⟨_, rfl, ?_⟩
  replace BK294 := mB BK294 hb
  replace BK295 := mB BK295 hb
  replace HB := bS HB hb
  (try clear hb)
  (try clear hb2)
  (try clear hk)
  (try clear hi)
  refine hK.out _ _ ⟨bC BK294 0, bC BK294 1, bC BK294 2, bC BK294 3, bC BK295 0, bC BK295 1⟩ (fun hHeld => ?_)
  clear hK K
  refine nR ?_
  refine pO 4 (some 9) (fun K hK => ?_)
  refine gG Try.func21 #[.int .i64 t296, .int .i64 a1_0] ?_
  with_reducible refine (impl_Without.calls t296 a1_0 t297 _ A4.out).mono ?_
  rintro e w' ⟨rfl, ⟨nd, rfl⟩⟩
  refine ⟨_, rfl, ?_⟩
  refine hK.out _ _ ⟨bC BK294 0, bC BK294 1, bC BK294 2, bC BK294 3, bC BK295 0, bC BK295 1⟩ (fun hHeld => ?_)
  clear hK K
  refine nR ?_
  refine pP 5 (some 4) ?_
  refine done_ (by kernel_rfl) ?_
  try go_wp2
  go_ret
  exact ⟨TE, TB⟩
def impl_Whole.f (k : Nat) (a0_0 : Int) (a0_1 : Int) (a0_2 : Int) (l0_3 : List (S48)) (a1_0 : Int) (l1_1 : List Int) : Option (Bool) := if a0_0 = 0 then (some false) else ((impl_BuildOk.f k a0_0 a0_1 a0_2 l0_3 a1_0 l1_1).bind fun t300 => (if t300 = true then ((impl_Missing.f a0_0 a0_1 a0_2 l0_3 a1_0 l1_1).bind fun t301 => (some (t301 == 0))) else (some false)))
theorem impl_Whole.mono : ∀ a0 a1 a2 a3 a4 a5 k, LeO (impl_Whole.f k a0 a1 a2 a3 a4 a5) (impl_Whole.f (k + 1) a0 a1 a2 a3 a4 a5) := by
  intro a0 a1 a2 a3 a4 a5 k;have m0_ := @impl_BuildOk.mono;unfold impl_Whole.f;exact LM
theorem impl_Whole.calls (k : Nat) (a0_0 : Int) (a0_1 : Int) (a0_2 : Int) (A0_3 : Option Addr) (c0_3 : Nat) (l0_3 : List (S48)) (a1_0 : Int) (A1_1 : Option Addr) (c1_1 : Nat) (l1_1 : List Int) (r : Bool) (w : World) (hr0_3 : Kd.C k48 w A0_3 l0_3.length l0_3) (hc0_3 : l0_3.length ≤ c0_3) (hr1_1 : Kd.C (Kd.int .u8) w A1_1 l1_1.length l1_1) (hc1_1 : l1_1.length ≤ c1_1) (h : impl_Whole.f k a0_0 a0_1 a0_2 l0_3 a1_0 l1_1 = some r) :
    Calls Try.prog 16 #[.agg #[.int .i64 a0_0, .int .i64 a0_1, .int .i64 a0_2, .slice A0_3 l0_3.length c0_3], .agg #[.int .i64 a1_0, .slice A1_1 l1_1.length c1_1]] w fun e w' => e = .returned (.bool r) ∧ Below w.heap.size w w' := by
  have hu28 := Try.underlying28
  have hu31 := Try.underlying31
  have HR0_3 := aM hr0_3
  have HC0_3 := aM hc0_3
  clear hr0_3 hc0_3
  have HR1_1 := aM hr1_1
  have HC1_1 := aM hc1_1
  clear hr1_1 hc1_1
  have HB := aM (Below.refl w.heap.size w)
  have H := h
  clear h
  unfold impl_Whole.f at H
  by_cases c3 : a0_0 = 0
  · rw [if_pos c3] at H
    have c3b0 : (a0_0 == 0) = true := beq_iff_eq.mpr c3
    have c3b1 : (a0_0 != 0) = false := bne_eq_false_iff_eq.mpr c3
    clear c3
    obtain rfl := Option.some.inj H
    go_enter Try.func16, Try.ntmps16
    go_wp2_with (first | ((with_reducible refine gate_dst (N := 2) rfl ?_); refine gBx 2 #[.int .i64 a0_0, .int .i64 a0_1, .int .i64 a0_2, .slice A0_3 l0_3.length c0_3] 28 ?_; intro gb298 hg w4 hbox hb; have BK298 := aM (hbox); have GW298 := gW HB hg; have GE298 := gW HB hg; replace HB := bS HB hb; clear hb hbox hg) | ((with_reducible refine gate_dst (N := 3) rfl ?_); refine gBx 3 #[.int .i64 a1_0, .slice A1_1 l1_1.length c1_1] 31 ?_; intro gb299 hg w5 hbox hb; have BK299 := aM (hbox); have GW299 := gW HB hg; have GE299 := gW HB hg; obtain ⟨NB298_299, NB299_298⟩ := nB BK298 hg; replace BK298 := mB BK298 hb; replace HB := bS HB hb; clear hb hbox hg; obtain ⟨hnb6, hnc6⟩ := oB NB298_299; obtain ⟨hcz7_0, hcz7_1, hcz7_2, hcz7_3⟩ := cz4 BK298.out; obtain ⟨hfz7_0, hfz7_1, hfz7_2, hfz7_3⟩ := fz4 BK298.out))
    go_ret
    exact ⟨TE, TB⟩
  · rw [if_neg c3] at H
    have c3b0 : (a0_0 == 0) = false := beq_eq_false_iff_ne.mpr c3
    have c3b1 : (a0_0 != 0) = true := bne_iff_ne.mpr c3
    replace H := bE H
    obtain ⟨t300, A8, H⟩ := H
    by_cases c9 : t300 = true
    · subst c9
      replace H := ifT H
      replace H := bE H
      obtain ⟨t301, A10, H⟩ := H
      obtain rfl := Option.some.inj H
      go_enter Try.func16, Try.ntmps16
      go_wp2_with (first | ((with_reducible refine gate_dst (N := 2) rfl ?_); refine gBx 2 #[.int .i64 a0_0, .int .i64 a0_1, .int .i64 a0_2, .slice A0_3 l0_3.length c0_3] 28 ?_; intro gb298 hg w11 hbox hb; have BK298 := aM (hbox); have GW298 := gW HB hg; have GE298 := gW HB hg; replace HB := bS HB hb; clear hb hbox hg) | ((with_reducible refine gate_dst (N := 3) rfl ?_); refine gBx 3 #[.int .i64 a1_0, .slice A1_1 l1_1.length c1_1] 31 ?_; intro gb299 hg w12 hbox hb; have BK299 := aM (hbox); have GW299 := gW HB hg; have GE299 := gW HB hg; obtain ⟨NB298_299, NB299_298⟩ := nB BK298 hg; replace BK298 := mB BK298 hb; replace HB := bS HB hb; clear hb hbox hg; obtain ⟨hnb13, hnc13⟩ := oB NB298_299; obtain ⟨hcz14_0, hcz14_1, hcz14_2, hcz14_3⟩ := cz4 BK298.out; obtain ⟨hfz14_0, hfz14_1, hfz14_2, hfz14_3⟩ := fz4 BK298.out; obtain ⟨hcz15_0, hcz15_1⟩ := cz2 BK299.out; obtain ⟨hfz15_0, hfz15_1⟩ := fz2 BK299.out) | (go_at_call 42; (with_reducible refine (impl_BuildOk.calls k a0_0 a0_1 a0_2 _ _ l0_3 a1_0 _ _ l1_1 true _ ?side1 ?side2 ?side3 ?side4 A8.out).mono ?_); (case side1 => have X_ := (Kd.C_below HR0_3.out HB.out); exact TC); (case side2 => exact HC0_3.out); (case side3 => have X_ := (Kd.C_below HR1_1.out HB.out); exact TC); (case side4 => exact HC1_1.out); rintro e w16 ⟨rfl, hb⟩; replace BK298 := mB BK298 hb; replace BK299 := mB BK299 hb; replace HB := bS HB hb; clear hb; obtain ⟨hcz17_0, hcz17_1, hcz17_2, hcz17_3⟩ := cz4 BK298.out; obtain ⟨hfz17_0, hfz17_1, hfz17_2, hfz17_3⟩ := fz4 BK298.out; obtain ⟨hcz18_0, hcz18_1⟩ := cz2 BK299.out; obtain ⟨hfz18_0, hfz18_1⟩ := fz2 BK299.out) | (go_at_call 41; (with_reducible refine (impl_Missing.calls a0_0 a0_1 a0_2 _ _ l0_3 a1_0 _ _ l1_1 t301 _ ?side1 ?side2 ?side3 ?side4 A10.out).mono ?_); (case side1 => have X_ := (Kd.C_below HR0_3.out HB.out); exact TC); (case side2 => exact HC0_3.out); (case side3 => have X_ := (Kd.C_below HR1_1.out HB.out); exact TC); (case side4 => exact HC1_1.out); rintro e w19 ⟨rfl, hb⟩; replace BK298 := mB BK298 hb; replace BK299 := mB BK299 hb; replace HB := bS HB hb; clear hb))
      go_ret
      exact ⟨TE, TB⟩
    · replace c9 := Bool.eq_false_iff.mpr c9
      subst c9
      replace H := ifF H
      obtain rfl := Option.some.inj H
      go_enter Try.func16, Try.ntmps16
      go_wp2_with (first | ((with_reducible refine gate_dst (N := 2) rfl ?_); refine gBx 2 #[.int .i64 a0_0, .int .i64 a0_1, .int .i64 a0_2, .slice A0_3 l0_3.length c0_3] 28 ?_; intro gb298 hg w20 hbox hb; have BK298 := aM (hbox); have GW298 := gW HB hg; have GE298 := gW HB hg; replace HB := bS HB hb; clear hb hbox hg) | ((with_reducible refine gate_dst (N := 3) rfl ?_); refine gBx 3 #[.int .i64 a1_0, .slice A1_1 l1_1.length c1_1] 31 ?_; intro gb299 hg w21 hbox hb; have BK299 := aM (hbox); have GW299 := gW HB hg; have GE299 := gW HB hg; obtain ⟨NB298_299, NB299_298⟩ := nB BK298 hg; replace BK298 := mB BK298 hb; replace HB := bS HB hb; clear hb hbox hg; obtain ⟨hnb22, hnc22⟩ := oB NB298_299; obtain ⟨hcz23_0, hcz23_1, hcz23_2, hcz23_3⟩ := cz4 BK298.out; obtain ⟨hfz23_0, hfz23_1, hfz23_2, hfz23_3⟩ := fz4 BK298.out; obtain ⟨hcz24_0, hcz24_1⟩ := cz2 BK299.out; obtain ⟨hfz24_0, hfz24_1⟩ := fz2 BK299.out) | (go_at_call 42; (with_reducible refine (impl_BuildOk.calls k a0_0 a0_1 a0_2 _ _ l0_3 a1_0 _ _ l1_1 false _ ?side1 ?side2 ?side3 ?side4 A8.out).mono ?_); (case side1 => have X_ := (Kd.C_below HR0_3.out HB.out); exact TC); (case side2 => exact HC0_3.out); (case side3 => have X_ := (Kd.C_below HR1_1.out HB.out); exact TC); (case side4 => exact HC1_1.out); rintro e w25 ⟨rfl, hb⟩; replace BK298 := mB BK298 hb; replace BK299 := mB BK299 hb; replace HB := bS HB hb; clear hb))
      go_ret
      exact ⟨TE, TB⟩
def spec_l1In.f (a0 : Int) (a1 : Int) (a2 : Int) : Option (Bool) := if a0 ≥ a1 then (some (decide (a0 ≤ a2))) else (some false)
theorem spec_l1In.calls (a0 : Int) (a1 : Int) (a2 : Int) (r : Bool) (w : World) (h : spec_l1In.f a0 a1 a2 = some r) :
    Calls Try.prog 80 #[.int .i64 a0, .int .i64 a1, .int .i64 a2] w fun e w' => e = .returned (.bool r) ∧ Drawn0 w w' := by
  have H := h
  clear h
  unfold spec_l1In.f at H
  by_cases c4 : a0 ≥ a1
  · rw [if_pos c4] at H
    have c4b0 : decide (a1 ≤ a0) = true := decide_eq_true c4
    clear c4
    obtain rfl := Option.some.inj H
    go_enter Try.func80, Try.ntmps80
    go_wp2
    go_ret
    exact ⟨by first | rfl | (simp; done) | (simp [*]; done), TD⟩
  · rw [if_neg c4] at H
    have c4b0 : decide (a1 ≤ a0) = false := decide_eq_false c4
    clear c4
    obtain rfl := Option.some.inj H
    go_enter Try.func80, Try.ntmps80
    go_wp2
    go_ret
    exact ⟨by first | rfl | (simp; done) | (simp [*]; done), TD⟩
def spec_SizeOk.f (a0 : Int) (a1 : Int) : Option (Bool) := (spec_l1In.f a0 2 6).bind fun t549 => (if t549 = true then ((spec_l1In.f a1 0 (wrap64 (a0 * 40))).bind fun t550 => (some t550)) else (some false))
theorem spec_SizeOk.calls (a0 : Int) (a1 : Int) (r : Bool) (w : World) (h : spec_SizeOk.f a0 a1 = some r) :
    Calls Try.prog 115 #[.int .i64 a0, .int .i64 a1] w fun e w' => e = .returned (.bool r) ∧ Drawn0 w w' := by
  have H := h
  clear h
  unfold spec_SizeOk.f at H
  replace H := bE H
  obtain ⟨t549, A3, H⟩ := H
  by_cases c4 : t549 = true
  · subst c4
    replace H := ifT H
    replace H := bE H
    obtain ⟨t550, A5, H⟩ := H
    obtain rfl := Option.some.inj H
    go_enter Try.func115, Try.ntmps115
    go_wp2_with (first | ((with_reducible refine gate_callee (f := 80) rfl ?_); refine gL (some 6) Try.func80 #[.int .i64 a0, .int .i64 2, .int .i64 6] ?_; (with_reducible refine (spec_l1In.calls a0 2 6 true _ A3.out).mono ?_); rintro e w' ⟨rfl, ⟨nd, rfl⟩⟩; refine ⟨_, rfl, ?_⟩) | (go_at_call 80; (with_reducible refine (spec_l1In.calls a1 0 (wrap64 (a0 * 40)) t550 _ A5.out).mono ?_); rintro e w' ⟨rfl, ⟨nd, rfl⟩⟩))
    go_ret
    exact ⟨by first | rfl | (simp; done) | (simp [*]; done), TD⟩
  · replace c4 := Bool.eq_false_iff.mpr c4
    subst c4
    replace H := ifF H
    obtain rfl := Option.some.inj H
    go_enter Try.func115, Try.ntmps115
    go_wp2_with (first | ((with_reducible refine gate_callee (f := 80) rfl ?_); refine gL (some 6) Try.func80 #[.int .i64 a0, .int .i64 2, .int .i64 6] ?_; (with_reducible refine (spec_l1In.calls a0 2 6 false _ A3.out).mono ?_); rintro e w' ⟨rfl, ⟨nd, rfl⟩⟩; refine ⟨_, rfl, ?_⟩))
    go_ret
    exact ⟨by first | rfl | (simp; done) | (simp [*]; done), TD⟩
def spec_WeakOf.l0 : Nat → List Int → Int → Int → Int → Option (Int)
  | 0, _, _, _, _ => none
  | k + 1, x0, x3, x4, x5 => if x5 < (x0.length : Int) then (if 0 ≤ x5 then (spec_WeakOf.l0 k x0 (Int.tmod (wrap64 (x3 + (wrap64 (rd x0 x5)))) 251) (Int.tmod (wrap64 (x4 + (Int.tmod (wrap64 (x3 + (wrap64 (rd x0 x5)))) 251))) 251) (wrap64 (x5 + 1))) else (none)) else (some (wrap64 (x3 + (wrap64 (251 * x4)))))
def spec_WeakOf.f (k : Nat) (l0 : List Int) : Option (Int) := spec_WeakOf.l0 k l0 0 0 0
theorem spec_WeakOf.mono_l : ∀ k, (∀ y0 y1 y2 y3, LeO (spec_WeakOf.l0 k y0 y1 y2 y3) (spec_WeakOf.l0 (k + 1) y0 y1 y2 y3))
  | 0 => fun _ _ _ _ r h => by simp [spec_WeakOf.l0] at h
  | k + 1 => by
    have ih0 := spec_WeakOf.mono_l k
    · intro y0 y1 y2 y3
      unfold spec_WeakOf.l0
      exact LM
theorem spec_WeakOf.mono : ∀ a0 k, LeO (spec_WeakOf.f k a0) (spec_WeakOf.f (k + 1) a0) := by
  intro a0 k;have ih0 := spec_WeakOf.mono_l k;unfold spec_WeakOf.f;exact LM
theorem spec_WeakOf.calls (k : Nat) (A0 : Option Addr) (c0 : Nat) (l0 : List Int) (r : Int) (w : World) (hr0 : Kd.C (Kd.int .u8) w A0 l0.length l0) (hc0 : l0.length ≤ c0) (h : spec_WeakOf.f k l0 = some r) :
    Calls Try.prog 112 #[.slice A0 l0.length c0] w fun e w' => e = .returned (.int .i64 r) ∧ Drawn0 w w' := by
  have HR0 := aM hr0
  have HC0 := aM hc0
  clear hr0 hc0
  have H := h
  clear h
  unfold spec_WeakOf.f at H
  have H' := aM H
  clear H
  go_enter Try.func112, Try.ntmps112
  go_wp2
  go_loopg [3, 4, 5] k (fun kq v3 v4 v5 w' => ∃ (x3_1 : Int) (x4_1 : Int) (x5_1 : Int), v3 = .int .i64 x3_1 ∧ v4 = .int .i64 x4_1 ∧ v5 = .int .i64 x5_1 ∧ Aside0 (spec_WeakOf.l0 kq l0 x3_1 x4_1 x5_1 = some r) ∧ Aside0 (kq ≤ k) ∧ Drawn0 w w')
  case atStart => exact ⟨(0), (0), (0), TF, TF, TF, H', ⟨Nat.le_refl _⟩, TD⟩
  case round =>
    clear H'
    try clear c1
    obtain ⟨x3_1, x4_1, x5_1, rfl, rfl, rfl, HA, HK1, ⟨m1, rfl⟩⟩ := hrel
    cases gk with
    | zero => exact absurd HA.out (by simp [spec_WeakOf.l0])
    | succ k1 =>
      have H := HA.out
      clear HA
      simp only [spec_WeakOf.l0] at H
      by_cases c2 : x5_1 < (l0.length : Int)
      · rw [if_pos c2] at H
        have c2b0 : decide (x5_1 < (l0.length : Int)) = true := decide_eq_true c2
        clear c2
        replace H := ifN H
        obtain ⟨c3, H⟩ := H
        have c3b0 : decide (0 ≤ x5_1) = true := decide_eq_true c3
        clear c3
        have H' := aM H
        clear H
        have p551 : 0 ≤ (x5_1 : Int) := DT
        have q551 : x5_1 < (l0.length : Int) := DT
        obtain ⟨ad551, e551, hx551_0⟩ := Kd.at_int HR0.out x5_1 p551 q551
        cases e551
        replace p551 := eq_true p551
        replace q551 := eq_true q551
        go_wp2
        go_roundg k1
        case measure => have := HK1.out; omega
        case rel => exact ⟨(Int.tmod (wrap64 (x3_1 + (wrap64 (rd l0 x5_1)))) 251), (Int.tmod (wrap64 (x4_1 + (Int.tmod (wrap64 (x3_1 + (wrap64 (rd l0 x5_1)))) 251))) 251), (wrap64 (x5_1 + 1)), TF, TF, TF, H', ⟨by have := HK1.out; omega⟩, TD⟩
      · rw [if_neg c2] at H
        have c2b0 : decide (x5_1 < (l0.length : Int)) = false := decide_eq_false c2
        clear c2
        obtain rfl := Option.some.inj H
        go_wp2
        go_ret
        exact ⟨by first | rfl | (simp; done) | (simp [*]; done), TD⟩
def spec_SumOf.l0 : Nat → List Int → Int → Int → Option (Int × Int)
  | 0, _, _, _ => none
  | k + 1, x0, x3, x4 => if x4 < (x0.length : Int) then (if 0 ≤ x4 then (spec_SumOf.l0 k x0 (wrap64 ((wrap64 (256 * x3)) + (wrap64 (rd x0 x4)))) (wrap64 (x4 + 1))) else (none)) else ((spec_WeakOf.f k x0).bind fun t554 => (some (t554, x3)))
def spec_SumOf.f (k : Nat) (l0 : List Int) : Option (Int × Int) := if (l0.length : Int) > 6 then (some (0, 0)) else (spec_SumOf.l0 k l0 1 0)
theorem spec_SumOf.mono_l : ∀ k, (∀ y0 y1 y2, LeO (spec_SumOf.l0 k y0 y1 y2) (spec_SumOf.l0 (k + 1) y0 y1 y2))
  | 0 => fun _ _ _ r h => by simp [spec_SumOf.l0] at h
  | k + 1 => by
    have m0_ := @spec_WeakOf.mono
    have ih0 := spec_SumOf.mono_l k
    · intro y0 y1 y2
      unfold spec_SumOf.l0
      exact LM
theorem spec_SumOf.mono : ∀ a0 k, LeO (spec_SumOf.f k a0) (spec_SumOf.f (k + 1) a0) := by
  intro a0 k;have m0_ := @spec_WeakOf.mono;have ih0 := spec_SumOf.mono_l k;unfold spec_SumOf.f;exact LM
theorem spec_SumOf.calls (k : Nat) (A0 : Option Addr) (c0 : Nat) (l0 : List Int) (r1 : Int) (r2 : Int) (w : World) (hr0 : Kd.C (Kd.int .u8) w A0 l0.length l0) (hc0 : l0.length ≤ c0) (h : spec_SumOf.f k l0 = some (r1, r2)) :
    Calls Try.prog 77 #[.slice A0 l0.length c0] w fun e w' => e = .returned (.agg #[.int .i64 r1, .int .i64 r2]) ∧ Below w.heap.size w w' := by
  have hu48 := Try.underlying48
  have HR0 := aM hr0
  have HC0 := aM hc0
  clear hr0 hc0
  have HB := aM (Below.refl w.heap.size w)
  have H := h
  clear h
  unfold spec_SumOf.f at H
  by_cases c2 : (l0.length : Int) > 6
  · rw [if_pos c2] at H
    have c2b0 : decide (6 < (l0.length : Int)) = true := decide_eq_true c2
    have c2b1 : decide (6 < l0.length) = true := decide_eq_true (by omega)
    clear c2
    simp only [Option.some.injEq, Prod.mk.injEq] at H
    obtain ⟨rfl, rfl⟩ := H
    go_enter Try.func77, Try.ntmps77
    go_wp2_with (first | ((with_reducible refine gate_dst (N := 2) rfl ?_); refine gBx 2 #[.int .i64 0, .int .i64 0] 48 ?_; intro gb552 hg w3 hbox hb; have BK552 := aM (hbox); have GW552 := gW HB hg; have GE552 := gW HB hg; replace HB := bS HB hb; clear hb hbox hg; obtain ⟨hcz4_0, hcz4_1⟩ := cz2 BK552.out; obtain ⟨hfz4_0, hfz4_1⟩ := fz2 BK552.out))
    refine bodyPost_ret (results_cell_row rfl _ _ gb552 48 #[.int .i64 0, .int .i64 0] (0, 0) _ rfl (blk_put (blk_put (cs := #[.int .i64 0, .int .i64 0]) (TZ BK552) 0 _ rfl) 1 _ rfl) Try.underlying48 rfl (by kernel_rfl)) rfl ?_
    exact ⟨TE, TB⟩
  · rw [if_neg c2] at H
    have c2b0 : decide (6 < (l0.length : Int)) = false := decide_eq_false c2
    have c2b1 : decide (6 < l0.length) = false := decide_eq_false (by omega)
    clear c2
    have H' := aM H
    clear H
    go_enter Try.func77, Try.ntmps77
    go_wp2_with (first | ((with_reducible refine gate_dst (N := 2) rfl ?_); refine gBx 2 #[.int .i64 0, .int .i64 0] 48 ?_; intro gb552 hg w5 hbox hb; have BK552 := aM (hbox); have GW552 := gW HB hg; have GE552 := gW HB hg; replace HB := bS HB hb; clear hb hbox hg))
    go_loopg [3, 4] k (fun kq v3 v4 w' => ∃ (x3_1 : Int) (x4_1 : Int), v3 = .int .i64 x3_1 ∧ v4 = .int .i64 x4_1 ∧ Aside0 (spec_SumOf.l0 kq l0 x3_1 x4_1 = some (r1, r2)) ∧ Aside0 (kq ≤ k) ∧ Aside0 (w'.heap[gb552]? = some (.cells #[.int .i64 0, .int .i64 0] 48 (0, 0))) ∧ Aside0 (Below w.heap.size w w'))
    case atStart => exact ⟨(1), (0), TF, TF, H', ⟨Nat.le_refl _⟩, ⟨TK⟩, ⟨TB⟩⟩
    case round =>
      clear H'
      try clear c2
      try clear c2b0
      try clear c2b1
      try clear p2
      try clear hcz4_0
      try clear hcz4_1
      try clear hfz4_0
      try clear hfz4_1
      obtain ⟨x3_1, x4_1, rfl, rfl, HA, HK1, BK552, HB⟩ := hrel
      cases gk with
      | zero => exact absurd HA.out (by simp [spec_SumOf.l0])
      | succ k1 =>
        have H := HA.out
        clear HA
        simp only [spec_SumOf.l0] at H
        by_cases c6 : x4_1 < (l0.length : Int)
        · rw [if_pos c6] at H
          have c6b0 : decide (x4_1 < (l0.length : Int)) = true := decide_eq_true c6
          clear c6
          replace H := ifN H
          obtain ⟨c7, H⟩ := H
          have c7b0 : decide (0 ≤ x4_1) = true := decide_eq_true c7
          clear c7
          have H' := aM H
          clear H
          have p553 : 0 ≤ (x4_1 : Int) := DT
          have q553 : x4_1 < (l0.length : Int) := DT
          obtain ⟨ad553, e553, hx553_0⟩ := Kd.at_int HR0.out x4_1 p553 q553
          cases e553
          replace hx553_0 := (HB.out.cell (World.block_lt_of_cell? w _ hx553_0)).trans hx553_0
          replace p553 := eq_true p553
          replace q553 := eq_true q553
          go_wp2
          go_roundg k1
          case measure => have := HK1.out; omega
          case rel => exact ⟨(wrap64 ((wrap64 (256 * x3_1)) + (wrap64 (rd l0 x4_1)))), (wrap64 (x4_1 + 1)), TF, TF, H', ⟨by have := HK1.out; omega⟩, ⟨TK⟩, ⟨TB⟩⟩
        · rw [if_neg c6] at H
          have c6b0 : decide (x4_1 < (l0.length : Int)) = false := decide_eq_false c6
          clear c6
          replace H := bE H
          obtain ⟨t554, A8, H⟩ := H
          simp only [Option.some.injEq, Prod.mk.injEq] at H
          obtain ⟨rfl, rfl⟩ := H
          go_wp2_with (first | ((with_reducible refine gate_callee (f := 112) rfl ?_); refine gL (some 24) Try.func112 #[.slice A0 l0.length c0] ?_; (with_reducible refine (spec_WeakOf.calls k1 _ _ l0 t554 _ ?side1 ?side2 A8.out).mono ?_); (case side1 => have X_ := (Kd.C_below HR0.out HB.out); exact TC); (case side2 => exact HC0.out); rintro e w' ⟨rfl, ⟨nd, rfl⟩⟩; refine ⟨_, rfl, ?_⟩; (try (rw [drewN_self wr]; generalize hq_ : World.drewN wr _ = wr; have n0_ : Aside0 (wr.heap[gb552]? = some (.cells #[.int .i64 0, .int .i64 0] 48 (0, 0))) := ⟨by rw [← hq_]; exact TK⟩; have n1_ : Aside0 (Below w.heap.size w wr) := ⟨by rw [← hq_]; exact TB⟩; clear BK552 HB hq_; have BK552 := n0_; have HB := n1_; clear n0_ n1_)); obtain ⟨hcz9_0, hcz9_1⟩ := cz2 BK552.out; obtain ⟨hfz9_0, hfz9_1⟩ := fz2 BK552.out))
          refine bodyPost_ret (results_cell_row rfl _ _ gb552 48 #[.int .i64 t554, .int .i64 x3_1] (0, 0) _ rfl (blk_put (blk_put (cs := #[.int .i64 0, .int .i64 0]) (TZ BK552) 0 _ rfl) 1 _ rfl) Try.underlying48 rfl (by kernel_rfl)) rfl ?_
          exact ⟨TE, TB⟩
def spec_Least.f (a0 : Int) (a1 : Int) : Option (Int) := if a1 < a0 then (some a1) else (some a0)
theorem spec_Least.calls (a0 : Int) (a1 : Int) (r : Int) (w : World) (h : spec_Least.f a0 a1 = some r) :
    Calls Try.prog 85 #[.int .i64 a0, .int .i64 a1] w fun e w' => e = .returned (.int .i64 r) ∧ Drawn0 w w' := by
  have H := h
  clear h
  unfold spec_Least.f at H
  by_cases c3 : a1 < a0
  · rw [if_pos c3] at H
    have c3b0 : decide (a1 < a0) = true := decide_eq_true c3
    clear c3
    obtain rfl := Option.some.inj H
    go_enter Try.func85, Try.ntmps85
    go_wp2
    go_ret
    exact ⟨by first | rfl | (simp; done) | (simp [*]; done), TD⟩
  · rw [if_neg c3] at H
    have c3b0 : decide (a1 < a0) = false := decide_eq_false c3
    clear c3
    obtain rfl := Option.some.inj H
    go_enter Try.func85, Try.ntmps85
    go_wp2
    go_ret
    exact ⟨by first | rfl | (simp; done) | (simp [*]; done), TD⟩
def spec_CeilDiv.f (a0 : Int) (a1 : Int) : Option (Int) := (spec_l1In.f a0 0 1000000000000).bind fun t555 => (if t555 = true then ((spec_l1In.f a1 1 1000000000000).bind fun t556 => (if t556 = true then (if a1 = 0 then (none) else (some (wrap64 (Int.tdiv (wrap64 ((wrap64 (a0 + a1)) - 1)) a1)))) else (some 0))) else (some 0))
theorem spec_CeilDiv.calls (a0 : Int) (a1 : Int) (r : Int) (w : World) (h : spec_CeilDiv.f a0 a1 = some r) :
    Calls Try.prog 121 #[.int .i64 a0, .int .i64 a1] w fun e w' => e = .returned (.int .i64 r) ∧ Drawn0 w w' := by
  have H := h
  clear h
  unfold spec_CeilDiv.f at H
  replace H := bE H
  obtain ⟨t555, A3, H⟩ := H
  by_cases c4 : t555 = true
  · subst c4
    replace H := ifT H
    replace H := bE H
    obtain ⟨t556, A5, H⟩ := H
    by_cases c6 : t556 = true
    · subst c6
      replace H := ifT H
      replace H := ifM H
      obtain ⟨c7, H⟩ := H
      have c7b0 : (a1 == 0) = false := beq_eq_false_iff_ne.mpr c7
      have c7b1 : (a1 != 0) = true := bne_iff_ne.mpr c7
      obtain rfl := Option.some.inj H
      go_enter Try.func121, Try.ntmps121
      go_wp2_with (first | ((with_reducible refine gate_callee (f := 80) rfl ?_); refine gL (some 6) Try.func80 #[.int .i64 a0, .int .i64 0, .int .i64 1000000000000] ?_; (with_reducible refine (spec_l1In.calls a0 0 1000000000000 true _ A3.out).mono ?_); rintro e w' ⟨rfl, ⟨nd, rfl⟩⟩; refine ⟨_, rfl, ?_⟩) | (go_at_call 80; (with_reducible refine (spec_l1In.calls a1 1 1000000000000 true _ A5.out).mono ?_); rintro e w' ⟨rfl, ⟨nd, rfl⟩⟩))
      go_ret
      exact ⟨by first | rfl | (simp; done) | (simp [*]; done), TD⟩
    · replace c6 := Bool.eq_false_iff.mpr c6
      subst c6
      replace H := ifF H
      obtain rfl := Option.some.inj H
      go_enter Try.func121, Try.ntmps121
      go_wp2_with (first | ((with_reducible refine gate_callee (f := 80) rfl ?_); refine gL (some 6) Try.func80 #[.int .i64 a0, .int .i64 0, .int .i64 1000000000000] ?_; (with_reducible refine (spec_l1In.calls a0 0 1000000000000 true _ A3.out).mono ?_); rintro e w' ⟨rfl, ⟨nd, rfl⟩⟩; refine ⟨_, rfl, ?_⟩) | (go_at_call 80; (with_reducible refine (spec_l1In.calls a1 1 1000000000000 false _ A5.out).mono ?_); rintro e w' ⟨rfl, ⟨nd, rfl⟩⟩))
      go_ret
      exact ⟨by first | rfl | (simp; done) | (simp [*]; done), TD⟩
  · replace c4 := Bool.eq_false_iff.mpr c4
    subst c4
    replace H := ifF H
    obtain rfl := Option.some.inj H
    go_enter Try.func121, Try.ntmps121
    go_wp2_with (first | ((with_reducible refine gate_callee (f := 80) rfl ?_); refine gL (some 6) Try.func80 #[.int .i64 a0, .int .i64 0, .int .i64 1000000000000] ?_; (with_reducible refine (spec_l1In.calls a0 0 1000000000000 false _ A3.out).mono ?_); rintro e w' ⟨rfl, ⟨nd, rfl⟩⟩; refine ⟨_, rfl, ?_⟩))
    go_ret
    exact ⟨by first | rfl | (simp; done) | (simp [*]; done), TD⟩
def spec_Blocks.f (a0 : Int) (a1 : Int) : Option (Int) := (spec_SizeOk.f a0 a1).bind fun t557 => (if t557 = true then ((spec_CeilDiv.f a1 a0).bind fun t558 => (some t558)) else (some 0))
theorem spec_Blocks.calls (a0 : Int) (a1 : Int) (r : Int) (w : World) (h : spec_Blocks.f a0 a1 = some r) :
    Calls Try.prog 111 #[.int .i64 a0, .int .i64 a1] w fun e w' => e = .returned (.int .i64 r) ∧ Drawn0 w w' := by
  have H := h
  clear h
  unfold spec_Blocks.f at H
  replace H := bE H
  obtain ⟨t557, A3, H⟩ := H
  by_cases c4 : t557 = true
  · subst c4
    replace H := ifT H
    replace H := bE H
    obtain ⟨t558, A5, H⟩ := H
    obtain rfl := Option.some.inj H
    go_enter Try.func111, Try.ntmps111
    go_wp2_with (first | ((with_reducible refine gate_callee (f := 115) rfl ?_); refine gL (some 7) Try.func115 #[.int .i64 a0, .int .i64 a1] ?_; (with_reducible refine (spec_SizeOk.calls a0 a1 true _ A3.out).mono ?_); rintro e w' ⟨rfl, ⟨nd, rfl⟩⟩; refine ⟨_, rfl, ?_⟩) | ((with_reducible refine gate_callee (f := 121) rfl ?_); refine gL (some 11) Try.func121 #[.int .i64 a1, .int .i64 a0] ?_; (with_reducible refine (spec_CeilDiv.calls a1 a0 t558 _ A5.out).mono ?_); rintro e w' ⟨rfl, ⟨nd, rfl⟩⟩; refine ⟨_, rfl, ?_⟩))
    go_ret
    exact ⟨by first | rfl | (simp; done) | (simp [*]; done), TD⟩
  · replace c4 := Bool.eq_false_iff.mpr c4
    subst c4
    replace H := ifF H
    obtain rfl := Option.some.inj H
    go_enter Try.func111, Try.ntmps111
    go_wp2_with (first | ((with_reducible refine gate_callee (f := 115) rfl ?_); refine gL (some 7) Try.func115 #[.int .i64 a0, .int .i64 a1] ?_; (with_reducible refine (spec_SizeOk.calls a0 a1 false _ A3.out).mono ?_); rintro e w' ⟨rfl, ⟨nd, rfl⟩⟩; refine ⟨_, rfl, ?_⟩))
    go_ret
    exact ⟨by first | rfl | (simp; done) | (simp [*]; done), TD⟩
def spec_SpanOf.f (a0 : Int) (a1 : Int) (a2 : Int) : Option (Int × Int) := (spec_Blocks.f a0 a1).bind fun t559 => ((spec_l1In.f a2 0 (wrap64 (t559 - 1))).bind fun t560 => (if t560 = true then ((spec_Least.f a0 (wrap64 (a1 - (wrap64 (a2 * a0))))).bind fun t561 => (some (wrap64 (a2 * a0), t561))) else (some (0, 0))))
theorem spec_SpanOf.calls (a0 : Int) (a1 : Int) (a2 : Int) (r1 : Int) (r2 : Int) (w : World) (h : spec_SpanOf.f a0 a1 a2 = some (r1, r2)) :
    Calls Try.prog 76 #[.int .i64 a0, .int .i64 a1, .int .i64 a2] w fun e w' => e = .returned (.tuple #[.int .i64 r1, .int .i64 r2]) ∧ Drawn0 w w' := by
  have H := h
  clear h
  unfold spec_SpanOf.f at H
  replace H := bE H
  obtain ⟨t559, A4, H⟩ := H
  replace H := bE H
  obtain ⟨t560, A5, H⟩ := H
  go_enter Try.func76, Try.ntmps76
  go_wp2_with (first | ((with_reducible refine gate_callee (f := 111) rfl ?_); refine gL (some 11) Try.func111 #[.int .i64 a0, .int .i64 a1] ?_; (with_reducible refine (spec_Blocks.calls a0 a1 t559 _ A4.out).mono ?_); rintro e w' ⟨rfl, ⟨nd, rfl⟩⟩; refine ⟨_, rfl, ?_⟩) | ((with_reducible refine gate_callee (f := 80) rfl ?_); refine gL (some 13) Try.func80 #[.int .i64 a2, .int .i64 0, .int .i64 (wrap64 (t559 - 1))] ?_; (with_reducible refine (spec_l1In.calls a2 0 (wrap64 (t559 - 1)) t560 _ A5.out).mono ?_); rintro e w' ⟨rfl, ⟨nd, rfl⟩⟩; refine ⟨_, rfl, ?_⟩) | ((with_reducible refine gate_dst (N := 14) rfl ?_); generalize hG_ : wpList _ _ _ _ _ _ = G_))
  subst hG_
  by_cases c7 : t560 = true
  · subst c7
    replace H := ifT H
    replace H := bE H
    obtain ⟨t561, A8, H⟩ := H
    simp only [Option.some.injEq, Prod.mk.injEq] at H
    obtain ⟨rfl, rfl⟩ := H
    go_wp2_with (first | ((with_reducible refine gate_callee (f := 85) rfl ?_); refine gL (some 24) Try.func85 #[.int .i64 a0, .int .i64 (wrap64 (a1 - (wrap64 (a2 * a0))))] ?_; (with_reducible refine (spec_Least.calls a0 (wrap64 (a1 - (wrap64 (a2 * a0)))) t561 _ A8.out).mono ?_); rintro e w' ⟨rfl, ⟨nd, rfl⟩⟩; refine ⟨_, rfl, ?_⟩))
    go_ret2
    exact ⟨by first | rfl | (simp; done) | (simp [*]; done), TD⟩
  · replace c7 := Bool.eq_false_iff.mpr c7
    subst c7
    replace H := ifF H
    simp only [Option.some.injEq, Prod.mk.injEq] at H
    obtain ⟨rfl, rfl⟩ := H
    go_wp2
    go_ret2
    exact ⟨by first | rfl | (simp; done) | (simp [*]; done), TD⟩
def spec_l3Ok.f (a0 : Int) : Option (Bool) := (spec_l1In.f a0 0 63000).bind fun t759 => (some t759)
theorem spec_l3Ok.calls (a0 : Int) (r : Bool) (w : World) (h : spec_l3Ok.f a0 = some r) :
    Calls Try.prog 122 #[.int .i64 a0] w fun e w' => e = .returned (.bool r) ∧ Drawn0 w w' := by
  have H := h
  clear h
  unfold spec_l3Ok.f at H
  replace H := bE H
  obtain ⟨t759, A2, H⟩ := H
  obtain rfl := Option.some.inj H
  go_enter Try.func122, Try.ntmps122
  go_wp2_with (first | ((with_reducible refine gate_callee (f := 80) rfl ?_); refine gL (some 4) Try.func80 #[.int .i64 a0, .int .i64 0, .int .i64 63000] ?_; (with_reducible refine (spec_l1In.calls a0 0 63000 t759 _ A2.out).mono ?_); rintro e w' ⟨rfl, ⟨nd, rfl⟩⟩; refine ⟨_, rfl, ?_⟩))
  go_ret
  exact ⟨by first | rfl | (simp; done) | (simp [*]; done), TD⟩
def spec_WeakHalves.f (a0 : Int) : Option (Int × Int) := (spec_l3Ok.f a0).bind fun t760 => (if t760 = true then (some (Int.tmod a0 251, wrap64 (Int.tdiv a0 251))) else (some (0, 0)))
theorem spec_WeakHalves.calls (a0 : Int) (r1 : Int) (r2 : Int) (w : World) (h : spec_WeakHalves.f a0 = some (r1, r2)) :
    Calls Try.prog 123 #[.int .i64 a0] w fun e w' => e = .returned (.tuple #[.int .i64 r1, .int .i64 r2]) ∧ Drawn0 w w' := by
  have H := h
  clear h
  unfold spec_WeakHalves.f at H
  replace H := bE H
  obtain ⟨t760, A2, H⟩ := H
  by_cases c3 : t760 = true
  · subst c3
    replace H := ifT H
    simp only [Option.some.injEq, Prod.mk.injEq] at H
    obtain ⟨rfl, rfl⟩ := H
    go_enter Try.func123, Try.ntmps123
    go_wp2_with (first | ((with_reducible refine gate_callee (f := 122) rfl ?_); refine gL (some 5) Try.func122 #[.int .i64 a0] ?_; (with_reducible refine (spec_l3Ok.calls a0 true _ A2.out).mono ?_); rintro e w' ⟨rfl, ⟨nd, rfl⟩⟩; refine ⟨_, rfl, ?_⟩))
    go_ret2
    exact ⟨by first | rfl | (simp; done) | (simp [*]; done), TD⟩
  · replace c3 := Bool.eq_false_iff.mpr c3
    subst c3
    replace H := ifF H
    simp only [Option.some.injEq, Prod.mk.injEq] at H
    obtain ⟨rfl, rfl⟩ := H
    go_enter Try.func123, Try.ntmps123
    go_wp2_with (first | ((with_reducible refine gate_callee (f := 122) rfl ?_); refine gL (some 5) Try.func122 #[.int .i64 a0] ?_; (with_reducible refine (spec_l3Ok.calls a0 false _ A2.out).mono ?_); rintro e w' ⟨rfl, ⟨nd, rfl⟩⟩; refine ⟨_, rfl, ?_⟩))
    go_ret2
    exact ⟨by first | rfl | (simp; done) | (simp [*]; done), TD⟩
def spec_Wrap.f (a0 : Int) (a1 : Int) : Option (Int) := (spec_l1In.f a1 1 1000000000000).bind fun t761 => (if t761 = true then (if a1 = 0 then (none) else (some (Int.tmod (wrap64 ((Int.tmod a0 a1) + a1)) a1))) else (some 0))
theorem spec_Wrap.calls (a0 : Int) (a1 : Int) (r : Int) (w : World) (h : spec_Wrap.f a0 a1 = some r) :
    Calls Try.prog 124 #[.int .i64 a0, .int .i64 a1] w fun e w' => e = .returned (.int .i64 r) ∧ Drawn0 w w' := by
  have H := h
  clear h
  unfold spec_Wrap.f at H
  replace H := bE H
  obtain ⟨t761, A3, H⟩ := H
  by_cases c4 : t761 = true
  · subst c4
    replace H := ifT H
    replace H := ifM H
    obtain ⟨c5, H⟩ := H
    have c5b0 : (a1 == 0) = false := beq_eq_false_iff_ne.mpr c5
    have c5b1 : (a1 != 0) = true := bne_iff_ne.mpr c5
    obtain rfl := Option.some.inj H
    go_enter Try.func124, Try.ntmps124
    go_wp2_with (first | ((with_reducible refine gate_callee (f := 80) rfl ?_); refine gL (some 6) Try.func80 #[.int .i64 a1, .int .i64 1, .int .i64 1000000000000] ?_; (with_reducible refine (spec_l1In.calls a1 1 1000000000000 true _ A3.out).mono ?_); rintro e w' ⟨rfl, ⟨nd, rfl⟩⟩; refine ⟨_, rfl, ?_⟩))
    go_ret
    exact ⟨by first | rfl | (simp; done) | (simp [*]; done), TD⟩
  · replace c4 := Bool.eq_false_iff.mpr c4
    subst c4
    replace H := ifF H
    obtain rfl := Option.some.inj H
    go_enter Try.func124, Try.ntmps124
    go_wp2_with (first | ((with_reducible refine gate_callee (f := 80) rfl ?_); refine gL (some 6) Try.func80 #[.int .i64 a1, .int .i64 1, .int .i64 1000000000000] ?_; (with_reducible refine (spec_l1In.calls a1 1 1000000000000 false _ A3.out).mono ?_); rintro e w' ⟨rfl, ⟨nd, rfl⟩⟩; refine ⟨_, rfl, ?_⟩))
    go_ret
    exact ⟨by first | rfl | (simp; done) | (simp [*]; done), TD⟩
def spec_Roll.j0 : Nat → Int → Int → Int → Int → Bool → Option (Int)
  | 0, _, _, _, _, _ => none
  | k + 1, x0, x1, x2, x3, x28 => if x28 = true then (some x0) else ((spec_WeakHalves.f x0).bind fun bt766 => ((spec_Wrap.f (wrap64 (bt766.2 - (wrap64 ((Int.tmod x1 251) * x2)))) 251).bind fun t768 => ((spec_Wrap.f (wrap64 ((wrap64 (bt766.1 - x2)) + x3)) 251).bind fun t769 => ((spec_Wrap.f (wrap64 (t768 + t769)) 251).bind fun t770 => (some (wrap64 (t769 + (wrap64 (251 * t770)))))))))
def spec_Roll.f (k : Nat) (a0 : Int) (a1 : Int) (a2 : Int) (a3 : Int) : Option (Int) := (spec_l3Ok.f a0).bind fun t762 => (if t762 = true then ((spec_l1In.f a1 1 1000000000000).bind fun t763 => (if t763 = true then ((spec_l1In.f a2 0 255).bind fun t764 => (if t764 = true then ((spec_l1In.f a3 0 255).bind fun t765 => (spec_Roll.j0 k a0 a1 a2 a3 (!t765))) else (spec_Roll.j0 k a0 a1 a2 a3 true))) else (spec_Roll.j0 k a0 a1 a2 a3 true))) else (spec_Roll.j0 k a0 a1 a2 a3 true))
theorem spec_Roll.mono_l : ∀ k, (∀ y0 y1 y2 y3 y4, LeO (spec_Roll.j0 k y0 y1 y2 y3 y4) (spec_Roll.j0 (k + 1) y0 y1 y2 y3 y4))
  | 0 => fun _ _ _ _ _ r h => by simp [spec_Roll.j0] at h
  | k + 1 => by
    have ih0 := spec_Roll.mono_l k
    · intro y0 y1 y2 y3 y4
      unfold spec_Roll.j0
      exact LM
theorem spec_Roll.mono : ∀ a0 a1 a2 a3 k, LeO (spec_Roll.f k a0 a1 a2 a3) (spec_Roll.f (k + 1) a0 a1 a2 a3) := by
  intro a0 a1 a2 a3 k;have ih0 := spec_Roll.mono_l k;unfold spec_Roll.f;exact LM
theorem spec_Roll.calls (k : Nat) (a0 : Int) (a1 : Int) (a2 : Int) (a3 : Int) (r : Int) (w : World) (h : spec_Roll.f k a0 a1 a2 a3 = some r) :
  Calls Try.prog 113 #[.int .i64 a0, .int .i64 a1, .int .i64 a2, .int .i64 a3] w fun e w' => e = .returned (.int .i64 r) ∧ Drawn0 w w' := by
 have H := h;clear h;unfold spec_Roll.f at H;have HC5 := aM H;clear H;go_enter Try.func113, Try.ntmps113;go_upto_region 1 with (fail)
 go_cut [28] (fun v28 wc => ∃ (kq : Nat) (aa : Bool), v28 = .bool aa ∧ Aside0 (spec_Roll.j0 kq a0 a1 a2 a3 aa = some r) ∧ Aside0 (kq ≤ k) ∧ Drawn0 w wc)
 case first =>
  have H := HC5.out;clear HC5;replace H := bE H;obtain ⟨t762, A6, H⟩ := H
  by_cases c7 : t762 = true
  ·subst c7;replace H := ifT H;replace H := bE H;obtain ⟨t763, A8, H⟩ := H
   by_cases c9 : t763 = true
   ·subst c9;replace H := ifT H;replace H := bE H;obtain ⟨t764, A10, H⟩ := H
    by_cases c11 : t764 = true
    ·subst c11;replace H := ifT H;replace H := bE H;obtain ⟨t765, A12, H⟩ := H;have H' := aM H;clear H;go_wp2_with (first | ((with_reducible refine gate_callee (f := 122) rfl ?_); refine gL (some 12) Try.func122 #[.int .i64 a0] ?_; (with_reducible refine (spec_l3Ok.calls a0 true _ A6.out).mono ?_); rintro e w' ⟨rfl, ⟨nd, rfl⟩⟩; refine ⟨_, rfl, ?_⟩) | (go_at_call 80; (with_reducible refine (spec_l1In.calls a1 1 1000000000000 true _ A8.out).mono ?_); rintro e w' ⟨rfl, ⟨nd, rfl⟩⟩) | (go_at_call 80; (with_reducible refine (spec_l1In.calls a2 0 255 true _ A10.out).mono ?_); rintro e w' ⟨rfl, ⟨nd, rfl⟩⟩) | (go_at_call 80; (with_reducible refine (spec_l1In.calls a3 0 255 t765 _ A12.out).mono ?_); rintro e w' ⟨rfl, ⟨nd, rfl⟩⟩))
     go_meet
     case rel => exact ⟨_, (!t765), TF, H', ⟨by first | omega | exact Nat.le_refl _⟩, TD⟩
    ·replace c11 := Bool.eq_false_iff.mpr c11;subst c11;replace H := ifF H;have H' := aM H;clear H;go_wp2_with (first | ((with_reducible refine gate_callee (f := 122) rfl ?_); refine gL (some 12) Try.func122 #[.int .i64 a0] ?_; (with_reducible refine (spec_l3Ok.calls a0 true _ A6.out).mono ?_); rintro e w' ⟨rfl, ⟨nd, rfl⟩⟩; refine ⟨_, rfl, ?_⟩) | (go_at_call 80; (with_reducible refine (spec_l1In.calls a1 1 1000000000000 true _ A8.out).mono ?_); rintro e w' ⟨rfl, ⟨nd, rfl⟩⟩) | (go_at_call 80; (with_reducible refine (spec_l1In.calls a2 0 255 false _ A10.out).mono ?_); rintro e w' ⟨rfl, ⟨nd, rfl⟩⟩))
     go_meet
     case rel => exact ⟨_, (true), TF, H', ⟨by first | omega | exact Nat.le_refl _⟩, TD⟩
   ·replace c9 := Bool.eq_false_iff.mpr c9;subst c9;replace H := ifF H;have H' := aM H;clear H;go_wp2_with (first | ((with_reducible refine gate_callee (f := 122) rfl ?_); refine gL (some 12) Try.func122 #[.int .i64 a0] ?_; (with_reducible refine (spec_l3Ok.calls a0 true _ A6.out).mono ?_); rintro e w' ⟨rfl, ⟨nd, rfl⟩⟩; refine ⟨_, rfl, ?_⟩) | (go_at_call 80; (with_reducible refine (spec_l1In.calls a1 1 1000000000000 false _ A8.out).mono ?_); rintro e w' ⟨rfl, ⟨nd, rfl⟩⟩))
    go_meet
    case rel => exact ⟨_, (true), TF, H', ⟨by first | omega | exact Nat.le_refl _⟩, TD⟩
  ·replace c7 := Bool.eq_false_iff.mpr c7;subst c7;replace H := ifF H;have H' := aM H;clear H;go_wp2_with (first | ((with_reducible refine gate_callee (f := 122) rfl ?_); refine gL (some 12) Try.func122 #[.int .i64 a0] ?_; (with_reducible refine (spec_l3Ok.calls a0 false _ A6.out).mono ?_); rintro e w' ⟨rfl, ⟨nd, rfl⟩⟩; refine ⟨_, rfl, ?_⟩))
   go_meet
   case rel => exact ⟨_, (true), TF, H', ⟨by first | omega | exact Nat.le_refl _⟩, TD⟩
 case rest =>
  clear HC5;try clear c1
  try clear p2
  try clear c7
  try clear c9
  try clear c11
  try clear c12
  obtain ⟨kq, aa, rfl, HA, HJ4, ⟨mc4, rfl⟩⟩ := hcut;cases kq with
  | zero => exact absurd HA.out (by simp [spec_Roll.j0])
  | succ kj4 =>
   have H := HA.out;clear HA;simp only [spec_Roll.j0] at H
   by_cases c13 : aa = true
   ·subst c13;replace H := ifT H;obtain rfl := Option.some.inj H;go_wp2
    go_ret
    exact ⟨by first | rfl | (simp; done) | (simp [*]; done), TD⟩
   ·replace c13 := Bool.eq_false_iff.mpr c13;subst c13;replace H := ifF H;replace H := bE H;obtain ⟨⟨ad, ae⟩, A14, H⟩ := H;dsimp only at H;replace H := bE H;obtain ⟨ac, A15, H⟩ := H;replace H := bE H;obtain ⟨ab, A16, H⟩ := H;replace H := bE H;obtain ⟨t770, A17, H⟩ := H;obtain rfl := Option.some.inj H;go_wp2_with (first | ((with_reducible refine gate_callee (f := 123) rfl ?_); refine gL (some 32) Try.func123 #[.int .i64 a0] ?_; (with_reducible refine (spec_WeakHalves.calls a0 ad ae _ A14.out).mono ?_); rintro e w' ⟨rfl, ⟨nd, rfl⟩⟩; refine ⟨_, rfl, ?_⟩) | ((with_reducible refine gate_callee (f := 124) rfl ?_); refine gL (some 41) Try.func124 #[.int .i64 (wrap64 (ae - (wrap64 ((Int.tmod a1 251) * a2)))), .int .i64 251] ?_; (with_reducible refine (spec_Wrap.calls (wrap64 (ae - (wrap64 ((Int.tmod a1 251) * a2)))) 251 ac _ A15.out).mono ?_); rintro e w' ⟨rfl, ⟨nd, rfl⟩⟩; refine ⟨_, rfl, ?_⟩) | ((with_reducible refine gate_callee (f := 124) rfl ?_); refine gL (some 47) Try.func124 #[.int .i64 (wrap64 ((wrap64 (ad - a2)) + a3)), .int .i64 251] ?_; (with_reducible refine (spec_Wrap.calls (wrap64 ((wrap64 (ad - a2)) + a3)) 251 ab _ A16.out).mono ?_); rintro e w' ⟨rfl, ⟨nd, rfl⟩⟩; refine ⟨_, rfl, ?_⟩) | ((with_reducible refine gate_callee (f := 124) rfl ?_); refine gL (some 52) Try.func124 #[.int .i64 (wrap64 (ac + ab)), .int .i64 251] ?_; (with_reducible refine (spec_Wrap.calls (wrap64 (ac + ab)) 251 t770 _ A17.out).mono ?_); rintro e w' ⟨rfl, ⟨nd, rfl⟩⟩; refine ⟨_, rfl, ?_⟩))
    go_ret
    exact ⟨by first | rfl | (simp; done) | (simp [*]; done), TD⟩
def spec_BytesOf.l0 : Nat → Int → List Int → Option (List Int × Bool)
  | 0, _, _ => none
  | k + 1, x0, x4 => if x0 > 1 then (if x0 < 256 then (some ((([] : List Int)), false)) else ((some (([(Go.bits .and .i64 x0 255) % 256] : List Int) : List Int)).bind fun y944 => (if y944.length + x4.length < 140737488355328 then (spec_BytesOf.l0 k (x0 / 256) (y944 ++ x4)) else (none)))) else (some (x4, true))
def spec_BytesOf.f (k : Nat) (a0 : Int) : Option (List Int × Bool) := (spec_l1In.f a0 1 562949953421311).bind fun t934 => (if t934 = true then (spec_BytesOf.l0 k a0 (([] : List Int))) else (some ((([] : List Int)), false)))
theorem spec_BytesOf.mono_l : ∀ k, (∀ y0 y1, LeO (spec_BytesOf.l0 k y0 y1) (spec_BytesOf.l0 (k + 1) y0 y1))
  | 0 => fun _ _ r h => by simp [spec_BytesOf.l0] at h
  | k + 1 => by
    have ih0 := spec_BytesOf.mono_l k
    · intro y0 y1
      unfold spec_BytesOf.l0
      exact LM
theorem spec_BytesOf.mono : ∀ a0 k, LeO (spec_BytesOf.f k a0) (spec_BytesOf.f (k + 1) a0) := by
  intro a0 k;have ih0 := spec_BytesOf.mono_l k;unfold spec_BytesOf.f;exact LM
theorem spec_BytesOf.calls (k : Nat) (a0 : Int) (r1 : List Int) (r2 : Bool) (w : World) (h : spec_BytesOf.f k a0 = some (r1, r2)) :
    Calls Try.prog 116 #[.int .i64 a0] w fun e w' => ∃ v0_ : Value, e = .returned (.tuple #[v0_, .bool r2]) ∧ Kd.R (Kd.int .u8) 5 w' w.heap.size (fun _ => True) v0_ r1 ∧ Below w.heap.size w w' := by
  have HB := aM (Below.refl w.heap.size w)
  have H := h
  clear h
  unfold spec_BytesOf.f at H
  replace H := bE H
  obtain ⟨t934, A2, H⟩ := H
  by_cases c3 : t934 = true
  · subst c3
    replace H := ifT H
    obtain ⟨y938, hy938⟩ : ∃ y_ : List Int, y_ = (([] : List Int)) := ⟨_, rfl⟩
    rw [← hy938] at H
    have Ny938 := aM hy938
    clear hy938
    have H' := aM H
    clear H
    go_enter Try.func116, Try.ntmps116
    go_wp2_with (first | ((with_reducible refine gate_callee (f := 80) rfl ?_); refine gL (some 6) Try.func80 #[.int .i64 a0, .int .i64 1, .int .i64 562949953421311] ?_; (with_reducible refine (spec_l1In.calls a0 1 562949953421311 true _ A2.out).mono ?_); rintro e w' ⟨rfl, ⟨nd, rfl⟩⟩; refine ⟨_, rfl, ?_⟩) | ((with_reducible refine gate_dst (N := 9) rfl ?_); refine Kd.R_lit (Kd.int .u8) _ 5 ?hg (N := 9) ?hd (xs := ([] : List Int)) (inner := []) (ok := fun _ => True) (okp := fun _ => True) ?hr ?hp (fun _ hk => hk) trivial (Below.refl _ _) (Nat.le_refl _) (by simp) ?_; (case hd => rfl); (case hg => rfl); (case hr => first | (go_simp; done) | (go_simp; rfl)); (case hp => exact (Reps.none _ _)); intro v939 w4 ho5 hb hg_ hnew_; clear hg_ hnew_; (first | rw [← Ny938.out] at ho5 | (simp only [Int.reduceToNat] at ho5; rw [← Ny938.out] at ho5)); have HO940 := aM (Kd.R_lower ho5 (below_size TB)); replace HB := bS HB hb; clear hb ho5))
    go_loopg [0, 4] k (fun kq v0 v4 w' => ∃ (x0_1 : Int) (x4_1 : List Int), v0 = .int .i64 x0_1 ∧ Aside0 (spec_BytesOf.l0 kq x0_1 x4_1 = some (r1, r2)) ∧ Aside0 (kq ≤ k) ∧ Aside0 (Kd.R (Kd.int .u8) 5 w' w.heap.size (fun _ => True) v4 x4_1) ∧ Aside0 (Below w.heap.size w w'))
    case atStart => exact ⟨(a0), (y938), TF, H', ⟨Nat.le_refl _⟩, ⟨by have X_ := HO940.out; exact TR⟩, ⟨TB⟩⟩
    case round =>
      clear H'
      try clear c1
      try clear p2
      try clear c3
      obtain ⟨x0_1, x4_1, rfl, HA, HK1, HO_4, HB⟩ := hrel
      cases gk with
      | zero => exact absurd HA.out (by simp [spec_BytesOf.l0])
      | succ k1 =>
        have H := HA.out
        clear HA
        simp only [spec_BytesOf.l0] at H
        by_cases c6 : x0_1 > 1
        · rw [if_pos c6] at H
          have c6b0 : decide (1 < x0_1) = true := decide_eq_true c6
          clear c6
          by_cases c7 : x0_1 < 256
          · rw [if_pos c7] at H
            have c7b0 : decide (x0_1 < 256) = true := decide_eq_true c7
            clear c7
            obtain ⟨y941, hy941⟩ : ∃ y_ : List Int, y_ = (([] : List Int)) := ⟨_, rfl⟩
            rw [← hy941] at H
            have Ny941 := aM hy941
            clear hy941
            simp only [Option.some.injEq, Prod.mk.injEq] at H
            obtain ⟨rfl, rfl⟩ := H
            go_wp2_with (first | ((with_reducible refine gate_dst (N := 14) rfl ?_); refine Kd.R_lit (Kd.int .u8) _ 5 ?hg (N := 14) ?hd (xs := ([] : List Int)) (inner := []) (ok := fun _ => True) (okp := fun _ => True) ?hr ?hp (fun _ hk => hk) trivial (Below.refl _ _) (Nat.le_refl _) (by simp) ?_; (case hd => rfl); (case hg => rfl); (case hr => first | (go_simp; done) | (go_simp; rfl)); (case hp => exact (Reps.none _ _)); intro v942 w8 ho9 hb hg_ hnew_; clear hg_ hnew_; (first | rw [← Ny941.out] at ho9 | (simp only [Int.reduceToNat] at ho9; rw [← Ny941.out] at ho9)); have HO943 := aM (Kd.R_lower (Kd.R_new' ho9 (Kd.R_lt (TRf HO_4))) (below_size TB)); replace HO_4 := aM (Kd.R_elder' (TRf HO_4) (Kd.R_base ho9) hb); replace HB := bS HB hb; clear hb ho9))
            go_ret2
            exact ⟨_, TE, by (with_reducible repeat (first | apply Kd.R_alloc | apply Kd.R_drewN | apply Kd.R_drew)); exact Kd.R_mono HO943.out (fun _ hk => trivial), TB⟩
          · rw [if_neg c7] at H
            have c7b0 : decide (x0_1 < 256) = false := decide_eq_false c7
            clear c7
            obtain ⟨y944, hy944⟩ : ∃ y_ : List Int, y_ = (([(Go.bits .and .i64 x0_1 255) % 256] : List Int)) := ⟨_, rfl⟩
            replace H := someE H hy944
            have Ny944 := aM hy944
            clear hy944
            replace H := ifN H
            obtain ⟨c10, H⟩ := H
            have LMc10 := aM c10
            clear c10
            obtain ⟨y947, hy947⟩ : ∃ y_ : List Int, y_ = (y944 ++ x4_1) := ⟨_, rfl⟩
            rw [← hy947] at H
            have Ny947 := aM hy947
            clear hy947
            have H' := aM H
            clear H
            go_wp2_with (first | ((with_reducible refine gate_dst (N := 18) rfl ?_); refine Kd.R_lit (Kd.int .u8) _ 5 ?hg (N := 18) ?hd (xs := ([(Go.bits .and .i64 x0_1 255) % 256] : List Int)) (inner := [.int .u8 ((Go.bits .and .i64 x0_1 255) % 256)]) (ok := fun _ => True) (okp := fun _ => True) ?hr ?hp (fun _ hk => hk) trivial (Below.refl _ _) (Nat.le_refl _) (by simp) ?_; (case hd => rfl); (case hg => rfl); (case hr => first | (go_simp; done) | (go_simp; rfl)); (case hp => exact (Reps.one (show Kd.M (Kd.int .u8) _ _ _ ((Go.bits .and .i64 x0_1 255) % 256) [.int .u8 ((Go.bits .and .i64 x0_1 255) % 256)] from rfl) (Reps.none _ _))); intro v945 w11 ho12 hb hg_ hnew_; clear hg_ hnew_; (first | rw [← Ny944.out] at ho12 | (simp only [Int.reduceToNat] at ho12; rw [← Ny944.out] at ho12)); have HO946 := aM (Kd.R_lower (Kd.R_new' ho12 (Kd.R_lt (TRf HO_4))) (below_size TB)); replace HO_4 := aM (Kd.R_elder' (TRf HO_4) (Kd.R_base ho12) hb); replace HB := bS HB hb; clear hb ho12; obtain ⟨Ao14, co14, eo14⟩ := Kd.R_slice HO_4.out; subst eo14) | ((with_reducible refine gate_builtin (b := .append) (xs := #[.tmp 18, .tmp 19]) rfl ?_); at_builtin; refine Kd.R_append_rows (Kd.int .u8) (w0 := w) w.heap.size rfl (.tmp 18) (.tmp 19) 22 5 (.int .u8 0) 1 rfl Try.underlying22 info5 rfl (by decide) (by omega) v945 y944 x4_1 _ _ _ (fun k_ => some k_ ≠ (.slice Ao14 x4_1.length co14 : Value).ownBlock) (fun _ => False) rfl rfl ?aO ?aR (fun _ _ h => h) (fun _ h => h.elim) ?aF ?aB ?aS ?aL ?_; (case aR => repeat (first | exact (Kd.R_reads' HO_4.out).2.2 | (with_reducible refine Kd.C_alloc ?_ _) | (with_reducible refine Kd.C_drewN ?_ _) | (with_reducible refine Kd.C_drew ?_))); (case aB => exact TB); (case aF => exact (fun k_ hk => Kd.fresh' (Kd.R_lt (TRf HO_4)) k_ hk)); (case aO => exact (by (with_reducible repeat (first | apply Kd.R_alloc | apply Kd.R_drewN | apply Kd.R_drew)); exact Kd.R_mono HO946.out (fun _ hk => hk.2))); (case aS => exact (below_size TB)); (case aL => have := LMc10.out; omega); intro v948 w13 ho hb hg hat; rw [← Ny947.out] at ho; have HO949 := aM (ho); replace HO_4 := aM (Kd.R_after (ok := (fun _ => True)) (TRf HO_4) hg hat); replace HB := aM (hb); clear HO946; clear ho hb hg hat))
            go_roundg k1
            case measure => have := HK1.out; omega
            case rel => exact ⟨(x0_1 / 256), (y947), TF, H', ⟨by have := HK1.out; omega⟩, ⟨by (with_reducible repeat (first | apply Kd.R_alloc | apply Kd.R_drewN | apply Kd.R_drew)); exact Kd.R_mono HO949.out (fun _ hk => trivial)⟩, ⟨TB⟩⟩
        · rw [if_neg c6] at H
          have c6b0 : decide (1 < x0_1) = false := decide_eq_false c6
          clear c6
          simp only [Option.some.injEq, Prod.mk.injEq] at H
          obtain ⟨rfl, rfl⟩ := H
          go_wp2
          go_ret2
          exact ⟨_, TE, by have X_ := HO_4.out; exact TR, TB⟩
  · replace c3 := Bool.eq_false_iff.mpr c3
    subst c3
    replace H := ifF H
    obtain ⟨y935, hy935⟩ : ∃ y_ : List Int, y_ = (([] : List Int)) := ⟨_, rfl⟩
    rw [← hy935] at H
    have Ny935 := aM hy935
    clear hy935
    simp only [Option.some.injEq, Prod.mk.injEq] at H
    obtain ⟨rfl, rfl⟩ := H
    go_enter Try.func116, Try.ntmps116
    go_wp2_with (first | ((with_reducible refine gate_callee (f := 80) rfl ?_); refine gL (some 6) Try.func80 #[.int .i64 a0, .int .i64 1, .int .i64 562949953421311] ?_; (with_reducible refine (spec_l1In.calls a0 1 562949953421311 false _ A2.out).mono ?_); rintro e w' ⟨rfl, ⟨nd, rfl⟩⟩; refine ⟨_, rfl, ?_⟩) | ((with_reducible refine gate_dst (N := 8) rfl ?_); refine Kd.R_lit (Kd.int .u8) _ 5 ?hg (N := 8) ?hd (xs := ([] : List Int)) (inner := []) (ok := fun _ => True) (okp := fun _ => True) ?hr ?hp (fun _ hk => hk) trivial (Below.refl _ _) (Nat.le_refl _) (by simp) ?_; (case hd => rfl); (case hg => rfl); (case hr => first | (go_simp; done) | (go_simp; rfl)); (case hp => exact (Reps.none _ _)); intro v936 w15 ho16 hb hg_ hnew_; clear hg_ hnew_; (first | rw [← Ny935.out] at ho16 | (simp only [Int.reduceToNat] at ho16; rw [← Ny935.out] at ho16)); have HO937 := aM (Kd.R_lower ho16 (below_size TB)); replace HB := bS HB hb; clear hb ho16))
    go_ret2
    exact ⟨_, TE, by have X_ := HO937.out; exact TR, TB⟩
attribute [local go_sem] min2_int min_two
attribute [local go_sem high] eqA48
mutual
def spec_ManOk.j0 : Nat → Bool → Int → Int → Int → List (S48) → Option (Bool)
  | 0, _, _, _, _, _ => none
  | k + 1, x47, x951000, x951001, x951002, x951003 => if x47 = true then (some false) else (spec_ManOk.l0 k 0 x951000 x951001 x951002 x951003)
def spec_ManOk.l0 : Nat → Int → Int → Int → Int → List (S48) → Option (Bool)
  | 0, _, _, _, _, _ => none
  | k + 1, x3, x951000, x951001, x951002, x951003 => if x3 < (x951003.length : Int) then (if 0 ≤ x3 then ((spec_BytesOf.f k ((rd_T48 x951003 x3).f1)).bind fun bt955 => ((spec_SpanOf.f x951001 x951002 x3).bind fun bt959 => (if bt955.2 = true then (if (bt955.1.length : Int) = bt959.2 then ((spec_SumOf.f k bt955.1).bind fun bt961 => (if (!(bt961.1 == ((rd_T48 x951003 x3).f0)) || (!(bt961.2 == ((rd_T48 x951003 x3).f1)))) = true then (some false) else (spec_ManOk.l0 k (wrap64 (x3 + 1)) x951000 x951001 x951002 x951003))) else (some false)) else (some false)))) else (none)) else (some true)
end
def spec_ManOk.f (k : Nat) (a0_0 : Int) (a0_1 : Int) (a0_2 : Int) (l0_3 : List (S48)) : Option (Bool) := if a0_0 = 0 then (if a0_1 = 0 then (if a0_2 = 0 then (some ((l0_3.length : Int) == 0)) else (some false)) else (some false)) else ((spec_l1In.f a0_0 1 1000000).bind fun t951 => (if t951 = true then ((spec_SizeOk.f a0_1 a0_2).bind fun t952 => (if t952 = true then ((spec_Blocks.f a0_1 a0_2).bind fun t953 => (spec_ManOk.j0 k ((l0_3.length : Int) != t953) a0_0 a0_1 a0_2 l0_3)) else (spec_ManOk.j0 k true a0_0 a0_1 a0_2 l0_3))) else (spec_ManOk.j0 k true a0_0 a0_1 a0_2 l0_3)))
theorem spec_ManOk.mono_l : ∀ k, (∀ y0 y1 y2 y3 y4, LeO (spec_ManOk.j0 k y0 y1 y2 y3 y4) (spec_ManOk.j0 (k + 1) y0 y1 y2 y3 y4)) ∧ (∀ y0 y1 y2 y3 y4, LeO (spec_ManOk.l0 k y0 y1 y2 y3 y4) (spec_ManOk.l0 (k + 1) y0 y1 y2 y3 y4))
  | 0 => ⟨fun _ _ _ _ _ r h => by simp [spec_ManOk.j0] at h, fun _ _ _ _ _ r h => by simp [spec_ManOk.l0] at h⟩
  | k + 1 => by
    have m0_ := @spec_BytesOf.mono
    have m1_ := @spec_SumOf.mono
    obtain ⟨ih0, ih1⟩ := spec_ManOk.mono_l k
    refine ⟨?_, ?_⟩
    · intro y0 y1 y2 y3 y4
      unfold spec_ManOk.j0
      exact LM
    · intro y0 y1 y2 y3 y4
      unfold spec_ManOk.l0
      exact LM
theorem spec_ManOk.mono : ∀ a0 a1 a2 a3 k, LeO (spec_ManOk.f k a0 a1 a2 a3) (spec_ManOk.f (k + 1) a0 a1 a2 a3) := by
  intro a0 a1 a2 a3 k;have m0_ := @spec_BytesOf.mono;have m1_ := @spec_SumOf.mono;obtain ⟨ih0, ih1⟩ := spec_ManOk.mono_l k;unfold spec_ManOk.f;exact LM
def spec_ManOk.T3 : Bool × List (List Nat × List Nat) := (true, [([], []), ([0], [0]), ([1], [1]), ([2], [2]), ([3, 2], [3]), ([4], [4]), ([5, 4], [4, 5]), ([4], [4]), ([7, 4], [4, 7]), ([6, 8, 4, 4], [4, 6, 8]), ([9, 4], [4, 9]), ([4, 10], [4, 10]), ([11, 9], [11]), ([12], [12]), ([13, 12], [12, 13]), ([14, 12], [12, 14]), ([12], [12]), ([16, 12], [12, 16]), ([12], [12]), ([18, 12], [12, 18]), ([17, 19, 12, 12], [12, 17, 19]), ([15, 20, 12], [12, 15, 20]), ([12, 21], [12, 21])])
def spec_ManOk.B3 : List Nat := [0, 1, 3, 7, 15, 31, 63, 31, 159, 511, 1023, 2047, 4095, 8191, 16383, 32767, 8191, 73727, 8191, 270335, 991231, 2097151, 4194303]
theorem spec_ManOk.tab3 : rtab .any (opsOf Try.f92 3) = spec_ManOk.T3 := by kernel_rfl
theorem spec_ManOk.bits3 : waitsOk spec_ManOk.T3.2 spec_ManOk.B3 = true := by kernel_rfl
def spec_ManOk.T10 : Bool × List (List Nat × List Nat) := (true, [([], []), ([0], [0]), ([1], [1]), ([2], [2]), ([3, 2], [2, 3]), ([2], [2]), ([4, 5, 2], [2, 4, 5]), ([2, 6], [2, 6]), ([7, 2], [7]), ([8], [8]), ([9, 8, 8], [8, 9]), ([8], [8]), ([11, 8], [8, 11]), ([8], [8]), ([12, 13, 8], [8, 12, 13]), ([14, 8], [8, 14]), ([10, 15, 8], [8, 10, 15]), ([8, 16], [8, 16])])
def spec_ManOk.B10 : List Nat := [0, 1, 3, 7, 15, 7, 63, 127, 255, 511, 1023, 511, 2559, 511, 14847, 31231, 65535, 131071]
theorem spec_ManOk.tab10 : rtab .any (opsOf Try.f92 10) = spec_ManOk.T10 := by kernel_rfl
theorem spec_ManOk.bits10 : waitsOk spec_ManOk.T10.2 spec_ManOk.B10 = true := by kernel_rfl
theorem spec_ManOk.calls (k : Nat) (ah : Int) (ae : Int) (af : Int) (ap : Option Addr) (al : Nat) (ad : List (S48)) (r : Bool) (w : World) (bq : Kd.C k48 w ap ad.length ad) (bp : ad.length ≤ al) (h : spec_ManOk.f k ah ae af ad = some r) :
  Calls Try.prog 92 #[.agg #[.int .i64 ah, .int .i64 ae, .int .i64 af, .slice ap ad.length al]] w fun e w' => e = .returned (.bool r) ∧ Below w.heap.size w w' := by
 have hu28 := Try.underlying28;have hu48 := Try.underlying48;have aR := aM bq;have HC0_3 := aM bp;clear bq bp;have HB := aM (Below.refl w.heap.size w);have H := h;clear h;unfold spec_ManOk.f at H
 by_cases c2 : ah = 0
 ·rw [if_pos c2] at H;have bg : (ah == 0) = true := beq_iff_eq.mpr c2;have bh : (ah != 0) = false := bne_eq_false_iff_eq.mpr c2;clear c2
  by_cases c3 : ae = 0
  ·rw [if_pos c3] at H;have bm : (ae == 0) = true := beq_iff_eq.mpr c3;have bl : (ae != 0) = false := bne_eq_false_iff_eq.mpr c3;clear c3
   by_cases c4 : af = 0
   ·rw [if_pos c4] at H;have bn : (af == 0) = true := beq_iff_eq.mpr c4;have bf : (af != 0) = false := bne_eq_false_iff_eq.mpr c4;clear c4;obtain rfl := Option.some.inj H;go_enter Try.func92, Try.ntmps92;go_wp2_with (first | ((with_reducible refine gate_dst (N := 1) rfl ?_); (try (refine gate_guard (by rfl) ?_; dsimp only)); refine gBx 1 #[.int .i64 ah, .int .i64 ae, .int .i64 af, .slice ap ad.length al] 28 ?_; intro ag hg w5 hbox hb; have aa := aM (hbox); have GW950 := gW HB hg; have GE950 := gW HB hg; replace HB := bS HB hb; clear hb hbox hg; obtain ⟨bd, a6, a9, ba⟩ := cz4 aa.out; obtain ⟨a4, be, aZ, aY⟩ := fz4 aa.out))
    go_ret
    exact ⟨TE, TB⟩
   ·rw [if_neg c4] at H;have bn : (af == 0) = false := beq_eq_false_iff_ne.mpr c4;have bf : (af != 0) = true := bne_iff_ne.mpr c4;obtain rfl := Option.some.inj H;go_enter Try.func92, Try.ntmps92;go_wp2_with (first | ((with_reducible refine gate_dst (N := 1) rfl ?_); (try (refine gate_guard (by rfl) ?_; dsimp only)); refine gBx 1 #[.int .i64 ah, .int .i64 ae, .int .i64 af, .slice ap ad.length al] 28 ?_; intro ag hg w7 hbox hb; have aa := aM (hbox); have GW950 := gW HB hg; have GE950 := gW HB hg; replace HB := bS HB hb; clear hb hbox hg; obtain ⟨aV, bb, a7, a5⟩ := cz4 aa.out; obtain ⟨bc, aX, aW, a8⟩ := fz4 aa.out))
    go_ret
    exact ⟨TE, TB⟩
  ·rw [if_neg c3] at H;have bm : (ae == 0) = false := beq_eq_false_iff_ne.mpr c3;have bl : (ae != 0) = true := bne_iff_ne.mpr c3;obtain rfl := Option.some.inj H;go_enter Try.func92, Try.ntmps92;go_wp2_with (first | ((with_reducible refine gate_dst (N := 1) rfl ?_); (try (refine gate_guard (by rfl) ?_; dsimp only)); refine gBx 1 #[.int .i64 ah, .int .i64 ae, .int .i64 af, .slice ap ad.length al] 28 ?_; intro ag hg w9 hbox hb; have aa := aM (hbox); have GW950 := gW HB hg; have GE950 := gW HB hg; replace HB := bS HB hb; clear hb hbox hg; obtain ⟨aG, aH, aL, aB⟩ := cz4 aa.out; obtain ⟨aC, aQ, aN, aJ⟩ := fz4 aa.out))
   go_ret
   exact ⟨TE, TB⟩
 ·rw [if_neg c2] at H;have bg : (ah == 0) = false := beq_eq_false_iff_ne.mpr c2;have bh : (ah != 0) = true := bne_iff_ne.mpr c2;have bi := aM H;clear H;go_enter Try.func92, Try.ntmps92;go_upto_region 3 with (first | ((with_reducible refine gate_dst (N := 1) rfl ?_); (try (refine gate_guard (by rfl) ?_; dsimp only)); refine gBx 1 #[.int .i64 ah, .int .i64 ae, .int .i64 af, .slice ap ad.length al] 28 ?_; intro ag hg w12 hbox hb; have aa := aM (hbox); have GW950 := gW HB hg; have GE950 := gW HB hg; replace HB := bS HB hb; clear hb hbox hg; obtain ⟨aF, aI, aK, aO⟩ := cz4 aa.out; obtain ⟨aD, aP, aA, aE⟩ := fz4 aa.out))
  (try simp only [NP])
  go_cut [47] (fun v47 wc => ∃ (kq : Nat) (av : Bool), v47 = .bool av ∧ Aside0 (spec_ManOk.j0 kq av ah ae af ad = some r) ∧ Aside0 (kq ≤ k) ∧ Aside0 (wc.heap[ag]? = some (.cells #[.int .i64 ah, .int .i64 ae, .int .i64 af, (.slice ap ad.length al)] 28 (0, 0))) ∧ Aside0 (Below w.heap.size w wc))
  case first =>
   have H := bi.out;clear bi;replace H := bE H;obtain ⟨t951, A14, H⟩ := H
   by_cases c15 : t951 = true
   ·subst c15;replace H := ifT H;replace H := bE H;obtain ⟨t952, A16, H⟩ := H
    by_cases c17 : t952 = true
    ·subst c17;replace H := ifT H;replace H := bE H;obtain ⟨t953, A18, H⟩ := H;have H' := aM H;clear H;try go_wp2
     replace aa := bD aa;replace HB := aM (below_drew1 HB.out);refine start_ (n := 23) (S := fun w' => w'.cell? ⟨ag, 0, none⟩ = some (.int .i64 ah) ∧ w'.cell? ⟨ag, 1, none⟩ = some (.int .i64 ae) ∧ w'.cell? ⟨ag, 2, none⟩ = some (.int .i64 af) ∧ w'.cell? ⟨ag, 3, none⟩ = some (.slice ap ad.length al)) (ds := []) (Array.replicate 23 false) (by kernel_rfl) rfl rfl (cz4 aa.out) (fun hHeld => ?_); refine with_tabW spec_ManOk.tab3 spec_ManOk.bits3 (fun HT_ HW_ => ?_);generalize w12.drew = w19 at aa HB hHeld ⊢;refine pP 0 (some 25) ?_;refine pT 1 (some 26) ?_;refine pO 2 (some 27) (fun K hK => ?_);refine gG Try.func80 #[.int .i64 ah, .int .i64 1, .int .i64 1000000] ?_;with_reducible refine (spec_l1In.calls ah 1 1000000 true _ A14.out).mono ?_
     rintro e w' ⟨rfl, ⟨nd, rfl⟩⟩;refine ⟨_, rfl, ?_⟩;refine hK.out _ _ (cz4 aa.out) (fun hHeld => ?_);clear hK K;refine nR ?_;refine pP 3 (some 28) ?_;refine pP 4 (some 29) ?_;refine pP 5 (some 30) ?_;refine pP 7 (some 32) ?_;refine pT 6 (some 31) ?_;refine pT 8 (some 33) ?_;refine pO 9 (some 34) (fun K hK => ?_);refine gG Try.func115 #[.int .i64 ae, .int .i64 af] ?_;with_reducible refine (spec_SizeOk.calls ae af true _ A16.out).mono ?_
     rintro e w' ⟨rfl, ⟨nd, rfl⟩⟩;refine ⟨_, rfl, ?_⟩;refine hK.out _ _ (cz4 aa.out) (fun hHeld => ?_);clear hK K;refine nR ?_;refine pP 10 (some 35) ?_;refine pP 11 (some 36) ?_;refine pP 12 (some 37) ?_;refine pP 13 (some 38) ?_;refine pP 16 (some 41) ?_;refine pP 18 (some 43) ?_;refine pT 14 (some 39) ?_;refine pP 15 (some 40) ?_;refine pT 17 (some 42) ?_;refine pT 19 (some 44) ?_;refine pO 20 (some 45) (fun K hK => ?_);refine gG Try.func111 #[.int .i64 ae, .int .i64 af] ?_;with_reducible refine (spec_Blocks.calls ae af t953 _ A18.out).mono ?_
     rintro e w' ⟨rfl, ⟨nd, rfl⟩⟩;refine ⟨_, rfl, ?_⟩;refine hK.out _ _ (cz4 aa.out) (fun hHeld => ?_);clear hK K;refine nR ?_;refine pP 21 (some 46) ?_;refine pP 22 (some 47) ?_;refine done_ (done_of HT_.out (by kernel_rfl)) ?_;try go_wp2
     go_meet
     case rel => exact ⟨_, (((ad.length : Int) != t953)), TF, H', ⟨by first | omega | exact Nat.le_refl _⟩, ⟨TK⟩, ⟨TB⟩⟩
    ·replace c17 := Bool.eq_false_iff.mpr c17;subst c17;replace H := ifF H;have H' := aM H;clear H;try go_wp2
     replace aa := bD aa;replace HB := aM (below_drew1 HB.out);refine start_ (n := 23) (S := fun w' => w'.cell? ⟨ag, 0, none⟩ = some (.int .i64 ah) ∧ w'.cell? ⟨ag, 1, none⟩ = some (.int .i64 ae) ∧ w'.cell? ⟨ag, 2, none⟩ = some (.int .i64 af) ∧ w'.cell? ⟨ag, 3, none⟩ = some (.slice ap ad.length al)) (ds := []) (Array.replicate 23 false) (by kernel_rfl) rfl rfl (cz4 aa.out) (fun hHeld => ?_); refine with_tabW spec_ManOk.tab3 spec_ManOk.bits3 (fun HT_ HW_ => ?_);generalize w12.drew = w20 at aa HB hHeld ⊢;refine pP 0 (some 25) ?_;refine pT 1 (some 26) ?_;refine pO 2 (some 27) (fun K hK => ?_);refine gG Try.func80 #[.int .i64 ah, .int .i64 1, .int .i64 1000000] ?_;with_reducible refine (spec_l1In.calls ah 1 1000000 true _ A14.out).mono ?_
     rintro e w' ⟨rfl, ⟨nd, rfl⟩⟩;refine ⟨_, rfl, ?_⟩;refine hK.out _ _ (cz4 aa.out) (fun hHeld => ?_);clear hK K;refine nR ?_;refine pP 3 (some 28) ?_;refine pP 4 (some 29) ?_;refine pP 5 (some 30) ?_;refine pP 7 (some 32) ?_;refine pT 6 (some 31) ?_;refine pT 8 (some 33) ?_;refine pO 9 (some 34) (fun K hK => ?_);refine gG Try.func115 #[.int .i64 ae, .int .i64 af] ?_;with_reducible refine (spec_SizeOk.calls ae af false _ A16.out).mono ?_
     rintro e w' ⟨rfl, ⟨nd, rfl⟩⟩;refine ⟨_, rfl, ?_⟩;refine hK.out _ _ (cz4 aa.out) (fun hHeld => ?_);clear hK K;refine nR ?_;refine pP 10 (some 35) ?_;refine pP 11 (some 36) ?_;refine pP 12 (some 37) ?_;refine pX 13 (some 38) ?_;refine pX 14 (some 39) ?_;refine pX 15 (some 40) ?_;refine pX 16 (some 41) ?_;refine pX 17 (some 42) ?_;refine pX 18 (some 43) ?_;refine pX 19 (some 44) ?_;refine pX 20 (some 45) ?_;refine pX 21 (some 46) ?_;refine pP 22 (some 47) ?_;refine done_ (done_of HT_.out (by kernel_rfl)) ?_;try go_wp2
     go_meet
     case rel => exact ⟨_, (true), TF, H', ⟨by first | omega | exact Nat.le_refl _⟩, ⟨TK⟩, ⟨TB⟩⟩
   ·replace c15 := Bool.eq_false_iff.mpr c15;subst c15;replace H := ifF H;have H' := aM H;clear H;try go_wp2
    replace aa := bD aa;replace HB := aM (below_drew1 HB.out);refine start_ (n := 23) (S := fun w' => w'.cell? ⟨ag, 0, none⟩ = some (.int .i64 ah) ∧ w'.cell? ⟨ag, 1, none⟩ = some (.int .i64 ae) ∧ w'.cell? ⟨ag, 2, none⟩ = some (.int .i64 af) ∧ w'.cell? ⟨ag, 3, none⟩ = some (.slice ap ad.length al)) (ds := []) (Array.replicate 23 false) (by kernel_rfl) rfl rfl (cz4 aa.out) (fun hHeld => ?_); refine with_tabW spec_ManOk.tab3 spec_ManOk.bits3 (fun HT_ HW_ => ?_);generalize w12.drew = w21 at aa HB hHeld ⊢;refine pP 0 (some 25) ?_;refine pT 1 (some 26) ?_;refine pO 2 (some 27) (fun K hK => ?_);refine gG Try.func80 #[.int .i64 ah, .int .i64 1, .int .i64 1000000] ?_;with_reducible refine (spec_l1In.calls ah 1 1000000 false _ A14.out).mono ?_
    rintro e w' ⟨rfl, ⟨nd, rfl⟩⟩;refine ⟨_, rfl, ?_⟩;refine hK.out _ _ (cz4 aa.out) (fun hHeld => ?_);clear hK K;refine nR ?_;refine pP 3 (some 28) ?_;refine pP 4 (some 29) ?_;refine pX 5 (some 30) ?_;refine pX 6 (some 31) ?_;refine pX 7 (some 32) ?_;refine pX 8 (some 33) ?_;refine pX 9 (some 34) ?_;refine pX 10 (some 35) ?_;refine pP 11 (some 36) ?_;refine pP 12 (some 37) ?_;refine pX 13 (some 38) ?_;refine pX 14 (some 39) ?_;refine pX 15 (some 40) ?_;refine pX 16 (some 41) ?_;refine pX 17 (some 42) ?_;refine pX 18 (some 43) ?_;refine pX 19 (some 44) ?_;refine pX 20 (some 45) ?_;refine pX 21 (some 46) ?_;refine pP 22 (some 47) ?_;refine done_ (done_of HT_.out (by kernel_rfl)) ?_;try go_wp2
    go_meet
    case rel => exact ⟨_, (true), TF, H', ⟨by first | omega | exact Nat.le_refl _⟩, ⟨TK⟩, ⟨TB⟩⟩
  case rest =>
   clear bi;try clear c1
   try clear c2
   try clear bg
   try clear bh
   try clear p2
   try clear c3
   try clear bm
   try clear bl
   try clear c4
   try clear bn
   try clear bf
   try clear c8
   try clear c9
   try clear c11
   try clear c15
   try clear c17
   try clear aG
   try clear aH
   try clear aL
   try clear aB
   try clear aF
   try clear aI
   try clear aK
   try clear aO
   try clear bd
   try clear a6
   try clear a9
   try clear ba
   try clear aV
   try clear bb
   try clear a7
   try clear a5
   try clear aC
   try clear aQ
   try clear aN
   try clear aJ
   try clear aD
   try clear aP
   try clear aA
   try clear aE
   try clear a4
   try clear be
   try clear aZ
   try clear aY
   try clear bc
   try clear aX
   try clear aW
   try clear a8
   obtain ⟨kq, av, rfl, HA, HJ10, aa, HB⟩ := hcut;cases kq with
   | zero => exact absurd HA.out (by simp [spec_ManOk.j0])
   | succ kj10 =>
    have H := HA.out;clear HA;simp only [spec_ManOk.j0] at H
    by_cases c22 : av = true
    ·subst c22;replace H := ifT H;obtain rfl := Option.some.inj H;go_wp2
     go_ret
     exact ⟨TE, TB⟩
    ·replace c22 := Bool.eq_false_iff.mpr c22;subst c22;replace H := ifF H;have H' := aM H;clear H;go_wp2
     go_loopg [3] kj10 (fun kq v3 w' => ∃ (ac : Int), v3 = .int .i64 ac ∧ Aside0 (spec_ManOk.l0 kq ac ah ae af ad = some r) ∧ Aside0 (kq ≤ kj10) ∧ Aside0 (w'.heap[ag]? = some (.cells #[.int .i64 ah, .int .i64 ae, .int .i64 af, (.slice ap ad.length al)] 28 (0, 0))) ∧ Aside0 (Below w.heap.size w w'))
     case atStart => exact ⟨(0), TF, H', ⟨Nat.le_refl _⟩, ⟨TK⟩, ⟨TB⟩⟩
     case round =>
      clear H';try clear c1
      try clear c2
      try clear bg
      try clear bh
      try clear p2
      try clear c3
      try clear bm
      try clear bl
      try clear c4
      try clear bn
      try clear bf
      try clear c8
      try clear c9
      try clear c11
      try clear c15
      try clear c17
      try clear c22
      try clear aG
      try clear aH
      try clear aL
      try clear aB
      try clear aF
      try clear aI
      try clear aK
      try clear aO
      try clear bd
      try clear a6
      try clear a9
      try clear ba
      try clear aV
      try clear bb
      try clear a7
      try clear a5
      try clear aC
      try clear aQ
      try clear aN
      try clear aJ
      try clear aD
      try clear aP
      try clear aA
      try clear aE
      try clear a4
      try clear be
      try clear aZ
      try clear aY
      try clear bc
      try clear aX
      try clear aW
      try clear a8
      try clear p2
      obtain ⟨ac, rfl, HA, HK2, aa, HB⟩ := hrel;cases gk with
      | zero => exact absurd HA.out (by simp [spec_ManOk.l0])
      | succ k2 =>
       have H := HA.out;clear HA;simp only [spec_ManOk.l0] at H
       by_cases c23 : ac < (ad.length : Int)
       ·rw [if_pos c23] at H;have c23b0 : decide (ac < (ad.length : Int)) = true := decide_eq_true c23;clear c23;replace H := ifN H;obtain ⟨c24, H⟩ := H;have c24b0 : decide (0 ≤ ac) = true := decide_eq_true c24;clear c24;replace H := bE H;obtain ⟨⟨ao, t956⟩, A25, H⟩ := H;dsimp only at H;replace H := bE H;obtain ⟨⟨aS, aq⟩, A26, H⟩ := H;dsimp only at H;obtain ⟨hcz28_0, hcz28_1, hcz28_2, hcz28_3⟩ := cz4 aa.out;obtain ⟨hfz28_0, hfz28_1, hfz28_2, hfz28_3⟩ := fz4 aa.out;have bo : 0 ≤ (ac : Int) := DT;have bj : ac < (ad.length : Int) := DT;obtain ⟨ak, e954, aw, ax⟩ := at_T48 aR.out ac bo bj;cases e954;replace aw := (HB.out.cell (World.block_lt_of_cell? w _ aw)).trans aw;replace ax := (HB.out.cell (World.block_lt_of_cell? w _ ax)).trans ax;replace bo := eq_true bo;replace bj := eq_true bj;go_wp2_with (first | ((with_reducible refine gate_callee (f := 116) rfl ?_); refine gL (some 62) Try.func116 #[.int .i64 ((rd_T48 ad ac).f1)] ?_; (with_reducible refine (spec_BytesOf.calls k2 ((rd_T48 ad ac).f1) ao t956 _ A25.out).mono ?_); rintro e w29 ⟨aT, rfl, ho0, hb⟩; refine ⟨_, rfl, ?_⟩; have ab := aM (Kd.R_lower ho0 (below_size TB)); replace aa := mB aa hb; replace HB := bS HB hb; clear ho0 hb; obtain ⟨hcz30_0, hcz30_1, hcz30_2, hcz30_3⟩ := cz4 aa.out; obtain ⟨hfz30_0, hfz30_1, hfz30_2, hfz30_3⟩ := fz4 aa.out) | ((with_reducible refine gate_callee (f := 76) rfl ?_); (with_reducible refine gate_dst (N := 71) rfl ?_); generalize hG_ : wpList _ _ _ _ _ _ = G_))
        subst hG_
        by_cases c31 : t956 = true
        ·subst c31;replace H := ifT H
         by_cases c32 : (ao.length : Int) = aq
         ·rw [if_pos c32] at H;have c32b0 : ((ao.length : Int) == aq) = true := beq_iff_eq.mpr c32;have c32b1 : ((ao.length : Int) != aq) = false := bne_eq_false_iff_eq.mpr c32;clear c32;replace H := bE H;obtain ⟨⟨az, ay⟩, A33, H⟩ := H;dsimp only at H
          by_cases c34 : (!(az == ((rd_T48 ad ac).f0)) || (!(ay == ((rd_T48 ad ac).f1)))) = true
          ·rw [if_pos c34] at H;have c34b0 : (!(az == ((rd_T48 ad ac).f0)) || (!(ay == ((rd_T48 ad ac).f1)))) = true := c34;clear c34;obtain rfl := Option.some.inj H;try go_wp2_with (first | ((with_reducible refine gate_callee (f := 76) rfl ?_); refine gL (some 71) Try.func76 #[.int .i64 ae, .int .i64 af, .int .i64 ac] ?_; (with_reducible refine (spec_SpanOf.calls ae af ac aS aq _ A26.out).mono ?_); rintro e w' ⟨rfl, ⟨nd, rfl⟩⟩; refine ⟨_, rfl, ?_⟩))
           (try (rw [drewN_self w29]; generalize hq_ : World.drewN w29 _ = w29; have n0_ : Aside0 (Kd.R (Kd.int .u8) 5 w29 w.heap.size (fun _ => True) aT ao) := ⟨by rw [← hq_]; exact (TRf ab)⟩; have n1_ : Aside0 (w29.heap[ag]? = some (.cells #[.int .i64 ah, .int .i64 ae, .int .i64 af, .slice (some ak) ad.length al] 28 (0, 0))) := ⟨by rw [← hq_]; exact TK⟩; have n2_ : Aside0 (Below w.heap.size w w29) := ⟨by rw [← hq_]; exact TB⟩; clear ab aa HB hq_; have ab := n0_; have aa := n1_; have HB := n2_; clear n0_ n1_ n2_));replace ab := rD ab;replace aa := bD aa;replace HB := aM (below_drew1 HB.out);obtain ⟨Ao36, co36, eo36⟩ := Kd.R_slice ab.out;(first | subst eo36 | (injection eo36 with f1_ f2_ f3_; have f4_ := f1_.symm; have f5_ := f3_.symm; clear f1_ f2_ f3_; subst f4_; subst f5_));have ar : 0 ≤ (ac : Int) := DT;have au : ac < (ad.length : Int) := DT;obtain ⟨aU, bk, ai, aj⟩ := at_T48 aR.out ac ar au;have an := aj;have am := ai;obtain rfl : ak = aU := (by injection bk);replace ai := (HB.out.cell (World.block_lt_of_cell? w _ ai)).trans ai;replace aj := (HB.out.cell (World.block_lt_of_cell? w _ aj)).trans aj;replace ar := eq_true ar;replace au := eq_true au;refine start_ (n := 18) (S := fun w' => w'.cell? ⟨ag, 0, none⟩ = some (.int .i64 ah) ∧ w'.cell? ⟨ag, 1, none⟩ = some (.int .i64 ae) ∧ w'.cell? ⟨ag, 2, none⟩ = some (.int .i64 af) ∧ w'.cell? ⟨ag, 3, none⟩ = some (.slice (some ak) ad.length al) ∧ w'.cell? (ak.add ((ac).toNat * 2)) = some (.int .i64 ((rd_T48 ad ac).f0)) ∧ w'.cell? ⟨(ak.add ((ac).toNat * 2)).block, (ak.add ((ac).toNat * 2)).off + 1, none⟩ = some (.int .i64 ((rd_T48 ad ac).f1))) (ds := []) (Array.replicate 18 false) (by kernel_rfl) rfl rfl ⟨bC aa 0, bC aa 1, bC aa 2, bC aa 3, ((HB.out.cell (World.block_lt_of_cell? w _ am)).trans am), ((HB.out.cell (World.block_lt_of_cell? w _ an)).trans an)⟩ (fun hHeld => ?_); refine with_tabW spec_ManOk.tab10 spec_ManOk.bits10 (fun HT_ HW_ => ?_);generalize w29.drew = w35 at ab aa HB ai aj hHeld ⊢;refine pP 0 (some 74) ?_;refine pP 1 (some 75) ?_;refine pP 2 (some 76) ?_;refine pP 3 (some 77) ?_;refine pP 4 (some 78) ?_;refine pP 5 (some 79) ?_;refine pP 6 (some 80) ?_;refine pP 7 (some 81) ?_;refine pP 8 (some 82) ?_;refine pP 9 (some 83) ?_;refine pP 11 (some 85) ?_;refine pP 13 (some 87) ?_;refine pT 12 (some 86) ?_;refine pP 14 (some 88) ?_;refine pT 15 (some 89) ?_;refine pO 10 (some 84) (fun K hK => ?_);refine gG Try.func77 #[.slice Ao36 ao.length co36] ?_;with_reducible refine (spec_SumOf.calls k2 _ _ ao az ay _ ?side1 ?side2 A33.out).mono ?_
           (case side1 => have X_ := (Kd.R_reads' ab.out).2.2; exact TC);(case side2 => exact (Kd.R_reads' ab.out).2.1);rintro e w37 ⟨rfl, hb⟩;refine ⟨_, rfl, ?_⟩;replace ab := mR ab hb;replace aa := mB aa hb;replace HB := bS HB hb;(try clear hb);(try clear hb2);(try clear hk);(try clear hi);refine hK.out _ _ ⟨bC aa 0, bC aa 1, bC aa 2, bC aa 3, ((HB.out.cell (World.block_lt_of_cell? w _ am)).trans am), ((HB.out.cell (World.block_lt_of_cell? w _ an)).trans an)⟩ (fun hHeld => ?_);clear hK K;refine nR ?_;refine pP 16 (some 90) ?_;refine pP 17 (some 91) ?_;refine done_ (done_of HT_.out (by kernel_rfl)) ?_;try go_wp2
           go_ret
           exact ⟨TE, TB⟩
          ·rw [if_neg c34] at H;have c34b0 : (!(az == ((rd_T48 ad ac).f0)) || (!(ay == ((rd_T48 ad ac).f1)))) = false := by simpa using c34
           clear c34;have H' := aM H;clear H;try go_wp2_with (first | ((with_reducible refine gate_callee (f := 76) rfl ?_); refine gL (some 71) Try.func76 #[.int .i64 ae, .int .i64 af, .int .i64 ac] ?_; (with_reducible refine (spec_SpanOf.calls ae af ac aS aq _ A26.out).mono ?_); rintro e w' ⟨rfl, ⟨nd, rfl⟩⟩; refine ⟨_, rfl, ?_⟩))
           (try (rw [drewN_self w29]; generalize hq_ : World.drewN w29 _ = w29; have n0_ : Aside0 (Kd.R (Kd.int .u8) 5 w29 w.heap.size (fun _ => True) aT ao) := ⟨by rw [← hq_]; exact (TRf ab)⟩; have n1_ : Aside0 (w29.heap[ag]? = some (.cells #[.int .i64 ah, .int .i64 ae, .int .i64 af, .slice (some ak) ad.length al] 28 (0, 0))) := ⟨by rw [← hq_]; exact TK⟩; have n2_ : Aside0 (Below w.heap.size w w29) := ⟨by rw [← hq_]; exact TB⟩; clear ab aa HB hq_; have ab := n0_; have aa := n1_; have HB := n2_; clear n0_ n1_ n2_));replace ab := rD ab;replace aa := bD aa;replace HB := aM (below_drew1 HB.out);obtain ⟨Ao39, co39, eo39⟩ := Kd.R_slice ab.out;(first | subst eo39 | (injection eo39 with f1_ f2_ f3_; have f4_ := f1_.symm; have f5_ := f3_.symm; clear f1_ f2_ f3_; subst f4_; subst f5_));have ar : 0 ≤ (ac : Int) := DT;have au : ac < (ad.length : Int) := DT;obtain ⟨aU, bk, ai, aj⟩ := at_T48 aR.out ac ar au;have an := aj;have am := ai;obtain rfl : ak = aU := (by injection bk);replace ai := (HB.out.cell (World.block_lt_of_cell? w _ ai)).trans ai;replace aj := (HB.out.cell (World.block_lt_of_cell? w _ aj)).trans aj;replace ar := eq_true ar;replace au := eq_true au;refine start_ (n := 18) (S := fun w' => w'.cell? ⟨ag, 0, none⟩ = some (.int .i64 ah) ∧ w'.cell? ⟨ag, 1, none⟩ = some (.int .i64 ae) ∧ w'.cell? ⟨ag, 2, none⟩ = some (.int .i64 af) ∧ w'.cell? ⟨ag, 3, none⟩ = some (.slice (some ak) ad.length al) ∧ w'.cell? (ak.add ((ac).toNat * 2)) = some (.int .i64 ((rd_T48 ad ac).f0)) ∧ w'.cell? ⟨(ak.add ((ac).toNat * 2)).block, (ak.add ((ac).toNat * 2)).off + 1, none⟩ = some (.int .i64 ((rd_T48 ad ac).f1))) (ds := []) (Array.replicate 18 false) (by kernel_rfl) rfl rfl ⟨bC aa 0, bC aa 1, bC aa 2, bC aa 3, ((HB.out.cell (World.block_lt_of_cell? w _ am)).trans am), ((HB.out.cell (World.block_lt_of_cell? w _ an)).trans an)⟩ (fun hHeld => ?_); refine with_tabW spec_ManOk.tab10 spec_ManOk.bits10 (fun HT_ HW_ => ?_);generalize w29.drew = w38 at ab aa HB ai aj hHeld ⊢;refine pP 0 (some 74) ?_;refine pP 1 (some 75) ?_;refine pP 2 (some 76) ?_;refine pP 3 (some 77) ?_;refine pP 4 (some 78) ?_;refine pP 5 (some 79) ?_;refine pP 6 (some 80) ?_;refine pP 7 (some 81) ?_;refine pP 8 (some 82) ?_;refine pP 9 (some 83) ?_;refine pP 11 (some 85) ?_;refine pP 13 (some 87) ?_;refine pT 12 (some 86) ?_;refine pP 14 (some 88) ?_;refine pT 15 (some 89) ?_;refine pO 10 (some 84) (fun K hK => ?_);refine gG Try.func77 #[.slice Ao39 ao.length co39] ?_;with_reducible refine (spec_SumOf.calls k2 _ _ ao az ay _ ?side1 ?side2 A33.out).mono ?_
           (case side1 => have X_ := (Kd.R_reads' ab.out).2.2; exact TC);(case side2 => exact (Kd.R_reads' ab.out).2.1);rintro e w40 ⟨rfl, hb⟩;refine ⟨_, rfl, ?_⟩;replace ab := mR ab hb;replace aa := mB aa hb;replace HB := bS HB hb;(try clear hb);(try clear hb2);(try clear hk);(try clear hi);refine hK.out _ _ ⟨bC aa 0, bC aa 1, bC aa 2, bC aa 3, ((HB.out.cell (World.block_lt_of_cell? w _ am)).trans am), ((HB.out.cell (World.block_lt_of_cell? w _ an)).trans an)⟩ (fun hHeld => ?_);clear hK K;refine nR ?_;refine pP 16 (some 90) ?_;refine pP 17 (some 91) ?_;refine done_ (done_of HT_.out (by kernel_rfl)) ?_;try go_wp2
           go_roundg k2
           case measure => have := HJ10.out; have := HK2.out; omega
           case rel => exact ⟨(wrap64 (ac + 1)), TF, H', ⟨by have := HJ10.out; have := HK2.out; omega⟩, ⟨TK⟩, ⟨TB⟩⟩
         ·rw [if_neg c32] at H;have c32b0 : ((ao.length : Int) == aq) = false := beq_eq_false_iff_ne.mpr c32;have c32b1 : ((ao.length : Int) != aq) = true := bne_iff_ne.mpr c32;obtain rfl := Option.some.inj H;try go_wp2_with (first | ((with_reducible refine gate_callee (f := 76) rfl ?_); refine gL (some 71) Try.func76 #[.int .i64 ae, .int .i64 af, .int .i64 ac] ?_; (with_reducible refine (spec_SpanOf.calls ae af ac aS aq _ A26.out).mono ?_); rintro e w' ⟨rfl, ⟨nd, rfl⟩⟩; refine ⟨_, rfl, ?_⟩))
          (try (rw [drewN_self w29]; generalize hq_ : World.drewN w29 _ = w29; have n0_ : Aside0 (Kd.R (Kd.int .u8) 5 w29 w.heap.size (fun _ => True) aT ao) := ⟨by rw [← hq_]; exact (TRf ab)⟩; have n1_ : Aside0 (w29.heap[ag]? = some (.cells #[.int .i64 ah, .int .i64 ae, .int .i64 af, .slice (some ak) ad.length al] 28 (0, 0))) := ⟨by rw [← hq_]; exact TK⟩; have n2_ : Aside0 (Below w.heap.size w w29) := ⟨by rw [← hq_]; exact TB⟩; clear ab aa HB hq_; have ab := n0_; have aa := n1_; have HB := n2_; clear n0_ n1_ n2_));replace ab := rD ab;replace aa := bD aa;replace HB := aM (below_drew1 HB.out);obtain ⟨Ao42, co42, eo42⟩ := Kd.R_slice ab.out;(first | subst eo42 | (injection eo42 with f1_ f2_ f3_; have f4_ := f1_.symm; have f5_ := f3_.symm; clear f1_ f2_ f3_; subst f4_; subst f5_));refine start_ (n := 18) (S := fun w' => True) (ds := []) (Array.replicate 18 false) (by kernel_rfl) rfl rfl trivial (fun hHeld => ?_); refine with_tabW spec_ManOk.tab10 spec_ManOk.bits10 (fun HT_ HW_ => ?_);generalize w29.drew = w41 at ab aa HB hHeld ⊢;refine pP 0 (some 74) ?_;refine pP 1 (some 75) ?_;refine pP 2 (some 76) ?_;refine pP 3 (some 77) ?_;refine pP 4 (some 78) ?_;refine pP 5 (some 79) ?_;refine pP 6 (some 80) ?_;refine pP 7 (some 81) ?_;refine pP 8 (some 82) ?_;refine pX 9 (some 83) ?_;refine pX 10 (some 84) ?_;refine pX 11 (some 85) ?_;refine pX 12 (some 86) ?_;refine pX 13 (some 87) ?_;refine pX 14 (some 88) ?_;refine pX 15 (some 89) ?_;refine pX 16 (some 90) ?_;refine pP 17 (some 91) ?_;refine done_ (done_of HT_.out (by kernel_rfl)) ?_;try go_wp2
          go_ret
          exact ⟨TE, TB⟩
        ·replace c31 := Bool.eq_false_iff.mpr c31;subst c31;replace H := ifF H;obtain rfl := Option.some.inj H;try go_wp2_with (first | ((with_reducible refine gate_callee (f := 76) rfl ?_); refine gL (some 71) Try.func76 #[.int .i64 ae, .int .i64 af, .int .i64 ac] ?_; (with_reducible refine (spec_SpanOf.calls ae af ac aS aq _ A26.out).mono ?_); rintro e w' ⟨rfl, ⟨nd, rfl⟩⟩; refine ⟨_, rfl, ?_⟩))
         (try (rw [drewN_self w29]; generalize hq_ : World.drewN w29 _ = w29; have n0_ : Aside0 (Kd.R (Kd.int .u8) 5 w29 w.heap.size (fun _ => True) aT ao) := ⟨by rw [← hq_]; exact (TRf ab)⟩; have n1_ : Aside0 (w29.heap[ag]? = some (.cells #[.int .i64 ah, .int .i64 ae, .int .i64 af, .slice (some ak) ad.length al] 28 (0, 0))) := ⟨by rw [← hq_]; exact TK⟩; have n2_ : Aside0 (Below w.heap.size w w29) := ⟨by rw [← hq_]; exact TB⟩; clear ab aa HB hq_; have ab := n0_; have aa := n1_; have HB := n2_; clear n0_ n1_ n2_));replace ab := rD ab;replace aa := bD aa;replace HB := aM (below_drew1 HB.out);refine start_ (n := 18) (S := fun w' => True) (ds := []) (Array.replicate 18 false) (by kernel_rfl) rfl rfl trivial (fun hHeld => ?_); refine with_tabW spec_ManOk.tab10 spec_ManOk.bits10 (fun HT_ HW_ => ?_);generalize w29.drew = w43 at ab aa HB hHeld ⊢;refine pP 0 (some 74) ?_;refine pP 1 (some 75) ?_;refine pP 2 (some 76) ?_;refine pX 3 (some 77) ?_;refine pX 4 (some 78) ?_;refine pX 5 (some 79) ?_;refine pX 6 (some 80) ?_;refine pP 7 (some 81) ?_;refine pP 8 (some 82) ?_;refine pX 9 (some 83) ?_;refine pX 10 (some 84) ?_;refine pX 11 (some 85) ?_;refine pX 12 (some 86) ?_;refine pX 13 (some 87) ?_;refine pX 14 (some 88) ?_;refine pX 15 (some 89) ?_;refine pX 16 (some 90) ?_;refine pP 17 (some 91) ?_;refine done_ (done_of HT_.out (by kernel_rfl)) ?_;try go_wp2
         go_ret
         exact ⟨TE, TB⟩
       ·rw [if_neg c23] at H;have c23b0 : decide (ac < (ad.length : Int)) = false := decide_eq_false c23;clear c23;obtain rfl := Option.some.inj H;obtain ⟨hcz44_0, hcz44_1, hcz44_2, hcz44_3⟩ := cz4 aa.out;obtain ⟨hfz44_0, hfz44_1, hfz44_2, hfz44_3⟩ := fz4 aa.out;go_wp2
        go_ret
        exact ⟨TE, TB⟩
attribute [local go_sem] min2_int min_two
def spec_BuildNew.f (k : Nat) (a0_0 : Int) (a0_1 : Int) (a0_2 : Int) (l0_3 : List (S48)) : Option (Int × List Int) := (spec_ManOk.f k a0_0 a0_1 a0_2 l0_3).bind fun t966 => (if t966 = true then (if 0 ≤ a0_2 then (if (a0_2 : Int).toNat ≤ 281474976710656 then (some (0, (List.replicate (a0_2 : Int).toNat 0))) else (none)) else (none)) else (some (0, ([] : List Int))))
theorem spec_BuildNew.mono : ∀ a0 a1 a2 a3 k, LeO (spec_BuildNew.f k a0 a1 a2 a3) (spec_BuildNew.f (k + 1) a0 a1 a2 a3) := by
  intro a0 a1 a2 a3 k;have m0_ := @spec_ManOk.mono;unfold spec_BuildNew.f;exact LM
theorem spec_BuildNew.calls (k : Nat) (a0_0 : Int) (a0_1 : Int) (a0_2 : Int) (A0_3 : Option Addr) (c0_3 : Nat) (l0_3 : List (S48)) (r1 : Int) (r2 : List Int) (w : World) (hr0_3 : Kd.C k48 w A0_3 l0_3.length l0_3) (hc0_3 : l0_3.length ≤ c0_3) (h : spec_BuildNew.f k a0_0 a0_1 a0_2 l0_3 = some (r1, r2)) :
    Calls Try.prog 53 #[.agg #[.int .i64 a0_0, .int .i64 a0_1, .int .i64 a0_2, .slice A0_3 l0_3.length c0_3]] w fun e w' => ∃ v1_ : Value, e = .returned (.agg #[.int .i64 r1, v1_]) ∧ Kd.R (Kd.int .u8) 5 w' w.heap.size (fun _ => True) v1_ r2 ∧ Below w.heap.size w w' := by
  have hu28 := Try.underlying28
  have hu31 := Try.underlying31
  have HR0_3 := aM hr0_3
  have HC0_3 := aM hc0_3
  clear hr0_3 hc0_3
  have HB := aM (Below.refl w.heap.size w)
  have H := h
  clear h
  unfold spec_BuildNew.f at H
  replace H := bE H
  obtain ⟨t966, A2, H⟩ := H
  go_enter Try.func53, Try.ntmps53
  go_wp2_with (first | ((with_reducible refine gate_dst (N := 1) rfl ?_); refine gBx 1 #[.int .i64 a0_0, .int .i64 a0_1, .int .i64 a0_2, .slice A0_3 l0_3.length c0_3] 28 ?_; intro gb964 hg w4 hbox hb; have BK964 := aM (hbox); have GW964 := gW HB hg; have GE964 := gW HB hg; replace HB := bS HB hb; clear hb hbox hg) | ((with_reducible refine gate_dst (N := 2) rfl ?_); refine gBx 2 #[.int .i64 0, .slice none 0 0] 31 ?_; intro gb965 hg w5 hbox hb; have BK965 := aM (hbox); have GW965 := gW HB hg; have GE965 := gW HB hg; obtain ⟨NB964_965, NB965_964⟩ := nB BK964 hg; replace BK964 := mB BK964 hb; replace HB := bS HB hb; clear hb hbox hg; obtain ⟨hnb6, hnc6⟩ := oB NB964_965; obtain ⟨hcz7_0, hcz7_1, hcz7_2, hcz7_3⟩ := cz4 BK964.out; obtain ⟨hfz7_0, hfz7_1, hfz7_2, hfz7_3⟩ := fz4 BK964.out) | ((with_reducible refine gate_callee (f := 92) rfl ?_); refine gL (some 4) Try.func92 #[.agg #[.int .i64 a0_0, .int .i64 a0_1, .int .i64 a0_2, .slice A0_3 l0_3.length c0_3]] ?_; (with_reducible refine (spec_ManOk.calls k a0_0 a0_1 a0_2 _ _ l0_3 t966 _ ?side1 ?side2 A2.out).mono ?_); (case side1 => have X_ := (Kd.C_below HR0_3.out HB.out); exact TC); (case side2 => exact HC0_3.out); rintro e w8 ⟨rfl, hb⟩; refine ⟨_, rfl, ?_⟩; replace BK964 := mB BK964 hb; replace BK965 := mB BK965 hb; replace HB := bS HB hb; clear hb) | ((with_reducible refine gate_dst (N := 5) rfl ?_); generalize hG_ : wpList _ _ _ _ _ _ = G_))
  subst hG_
  by_cases c9 : t966 = true
  · subst c9
    replace H := ifT H
    replace H := ifN H
    obtain ⟨c10, H⟩ := H
    have c10b0 := eq_true c10
    have c10b1 : decide (0 ≤ a0_2) = true := decide_eq_true c10
    clear c10
    replace H := ifN H
    obtain ⟨c11, H⟩ := H
    have c11b0 := eq_true c11
    have c11b1 : decide ((a0_2 : Int).toNat ≤ 281474976710656) = true := decide_eq_true c11
    clear c11
    obtain ⟨y967, hy967⟩ : ∃ y_ : List Int, y_ = (List.replicate (a0_2 : Int).toNat 0) := ⟨_, rfl⟩
    rw [← hy967] at H
    have Ny967 := aM hy967
    clear hy967
    simp only [Option.some.injEq, Prod.mk.injEq] at H
    obtain ⟨rfl, rfl⟩ := H
    obtain ⟨hnb12, hnc12⟩ := oB NB964_965
    obtain ⟨hcz13_0, hcz13_1, hcz13_2, hcz13_3⟩ := cz4 BK964.out
    obtain ⟨hfz13_0, hfz13_1, hfz13_2, hfz13_3⟩ := fz4 BK964.out
    go_wp2_with (first | ((with_reducible refine gate_dst (N := 9) rfl ?_); refine Kd.R_make (Kd.int .u8) _ 5 rfl (N := 9) rfl 22 _ _ rfl a0_2 rfl rfl Try.underlying22 (.int .u8 0) 1 info5 rfl (by decide) (by omega) 0 (ok := fun _ => True) (okp := fun _ => True) rfl (fun _ hk => hk) trivial DT (Nat.le_trans (Nat.mul_le_mul_right _ (DT : a0_2.toNat ≤ 281474976710656)) (by omega)) (Below.refl _ _) (Nat.le_refl _) ?_; intro v968 w14 ho15 hb hg_ hnew_; clear hg_ hnew_; (first | rw [← Ny967.out] at ho15 | (simp only [Int.reduceToNat] at ho15; rw [← Ny967.out] at ho15)); have HO969 := aM (Kd.R_lower ho15 (below_size TB)); replace BK964 := mB BK964 hb; replace BK965 := mB BK965 hb; replace HB := bS HB hb; clear hb ho15; obtain ⟨Ao16, co16, eo16⟩ := Kd.R_slice HO969.out; subst eo16; obtain ⟨hcz17_0, hcz17_1⟩ := cz2 BK965.out; obtain ⟨hfz17_0, hfz17_1⟩ := fz2 BK965.out))
    refine bodyPost_ret (results_cell_row rfl _ _ gb965 31 #[.int .i64 0, .slice Ao16 y967.length co16] (0, 0) _ rfl (blk_put (blk_put (cs := #[.int .i64 0, .slice none 0 0]) (TZ BK965) 0 _ rfl) 1 _ rfl) Try.underlying31 rfl (by kernel_rfl)) rfl ?_
    exact ⟨_, TE, by (with_reducible repeat (first | apply Kd.R_alloc | apply Kd.R_drewN | apply Kd.R_drew)); exact Kd.R_mono (RK1 (Kd.R_types HO969.out BK965.out (by decide))) (fun _ hk => trivial), TB⟩
  · replace c9 := Bool.eq_false_iff.mpr c9
    subst c9
    replace H := ifF H
    simp only [Option.some.injEq, Prod.mk.injEq] at H
    obtain ⟨rfl, rfl⟩ := H
    obtain ⟨hnb18, hnc18⟩ := oB NB965_964
    obtain ⟨hcz19_0, hcz19_1⟩ := cz2 BK965.out
    obtain ⟨hfz19_0, hfz19_1⟩ := fz2 BK965.out
    go_wp2
    refine bodyPost_ret (results_cell_row rfl _ _ gb965 31 #[.int .i64 0, .slice none 0 0] (0, 0) _ rfl (blk_put (blk_put (cs := #[.int .i64 0, .slice none 0 0]) (TZ BK965) 0 _ rfl) 1 _ rfl) Try.underlying31 rfl (by kernel_rfl)) rfl ?_
    exact ⟨_, TE, by first | exact Kd.R_nil _ _ _ _ _ | exact Kd.N_nil _ _ _ _ _ | exact Kd.V_nil _ _ _ _ _ | exact Kd.Q_nil _ _ _ _ _ | exact Kd.S_nil _ _ _ _ _, TB⟩
end Go.Proofs.Ytfkndpjbkndhcaa.Q
