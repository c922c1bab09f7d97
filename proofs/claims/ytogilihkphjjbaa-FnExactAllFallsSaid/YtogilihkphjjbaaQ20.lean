/- Functions of the program as plain Lean functions, and that a call of each comes to what its function tells. Written by a program of this seat. -/
import Derived.Test.YtogilihkphjjbaaQ0
import Derived.Test.YtogilihkphjjbaaQ14
import Derived.Test.YtogilihkphjjbaaQ19
namespace Go.Proofs.Ytogilihkphjjbaa.Q
open Go.RowKit Go.Proofs.YtogilihkphjjbaaW.PrintWords Go.Proofs.YtogilihkphjjbaaW.PrintLast Go.Proofs.YtogilihkphjjbaaW.PrintMore
attribute [local go_sem] max2_int min2_int max_two min_two max_three min_three max_four min_four   -- for this text's walks alone
set_option linter.unusedVariables false
set_option linter.unusedSimpArgs false

/-! ### spec_DiskOk: function 27 -/
mutual
def spec_DiskOk.j0 : Nat → Bool → List Int → List Int → Int → Int → Int → List (S55) → Option (Bool)
  | 0, _, _, _, _, _, _, _ => none
  | k + 1, x37, x312000, x312001, x312002, x312003, x312004, x312005 => if x37 = true then (some false) else (spec_DiskOk.l0 k 0 x312000 x312001 x312002 x312003 x312004 x312005)
def spec_DiskOk.l0 : Nat → Int → List Int → List Int → Int → Int → Int → List (S55) → Option (Bool)
  | 0, _, _, _, _, _, _, _ => none
  | k + 1, x3, x312000, x312001, x312002, x312003, x312004, x312005 => if x3 < (x312005.length : Int) then (if 0 ≤ x3 then ((spec_l9Put.f ((rd_T55 x312005 x3).f0) ((rd_T55 x312005 x3).f1) ((rd_T55 x312005 x3).f2) ((rd_T55 x312005 x3).f3.f0) ((rd_T55 x312005 x3).f3.f1) ((rd_T55 x312005 x3).f3.f2)).bind fun t314 => (if t314 = true then (spec_DiskOk.l0 k (wrap64 (x3 + 1)) x312000 x312001 x312002 x312003 x312004 x312005) else (some false))) else (none)) else (some true)
end
def spec_DiskOk.f (k : Nat) (l0_0 : List Int) (l0_1 : List Int) (a0_2 : Int) (a0_3 : Int) (a0_4 : Int) (l0_5 : List (S55)) : Option (Bool) := if (l0_0.length : Int) > 240 then (spec_DiskOk.j0 k true l0_0 l0_1 a0_2 a0_3 a0_4 l0_5) else (if (l0_1.length : Int) > 240 then (spec_DiskOk.j0 k true l0_0 l0_1 a0_2 a0_3 a0_4 l0_5) else ((spec_l9Record.f a0_2 a0_3 a0_4).bind fun t312 => (if t312 = true then (if a0_3 = 1 then ((spec_l9Slot.f a0_3 1).bind fun _ => (if a0_4 > (l0_1.length : Int) then (spec_DiskOk.j0 k true l0_0 l0_1 a0_2 a0_3 a0_4 l0_5) else (spec_DiskOk.j0 k (decide ((l0_5.length : Int) > 200)) l0_0 l0_1 a0_2 a0_3 a0_4 l0_5))) else ((spec_l9Slot.f a0_3 0).bind fun _ => (if a0_4 > (l0_0.length : Int) then (spec_DiskOk.j0 k true l0_0 l0_1 a0_2 a0_3 a0_4 l0_5) else (spec_DiskOk.j0 k (decide ((l0_5.length : Int) > 200)) l0_0 l0_1 a0_2 a0_3 a0_4 l0_5)))) else (spec_DiskOk.j0 k true l0_0 l0_1 a0_2 a0_3 a0_4 l0_5))))
theorem spec_DiskOk.mono_l : ∀ k, (∀ y0 y1 y2 y3 y4 y5 y6, LeO (spec_DiskOk.j0 k y0 y1 y2 y3 y4 y5 y6) (spec_DiskOk.j0 (k + 1) y0 y1 y2 y3 y4 y5 y6)) ∧ (∀ y0 y1 y2 y3 y4 y5 y6, LeO (spec_DiskOk.l0 k y0 y1 y2 y3 y4 y5 y6) (spec_DiskOk.l0 (k + 1) y0 y1 y2 y3 y4 y5 y6))
  | 0 => ⟨fun _ _ _ _ _ _ _ r h => by simp [spec_DiskOk.j0] at h, fun _ _ _ _ _ _ _ r h => by simp [spec_DiskOk.l0] at h⟩
  | k + 1 => by
    obtain ⟨ih0, ih1⟩ := spec_DiskOk.mono_l k
    refine ⟨?_, ?_⟩
    · intro y0 y1 y2 y3 y4 y5 y6
      unfold spec_DiskOk.j0
      exact LM
    · intro y0 y1 y2 y3 y4 y5 y6
      unfold spec_DiskOk.l0
      exact LM
theorem spec_DiskOk.mono : ∀ a0 a1 a2 a3 a4 a5 k, LeO (spec_DiskOk.f k a0 a1 a2 a3 a4 a5) (spec_DiskOk.f (k + 1) a0 a1 a2 a3 a4 a5) := by
  intro a0 a1 a2 a3 a4 a5 k
  obtain ⟨ih0, ih1⟩ := spec_DiskOk.mono_l k
  unfold spec_DiskOk.f
  exact LM
def spec_DiskOk.T1 : Bool × List (List Nat × List Nat) := (true, [([], []), ([0], [0]), ([1], [1]), ([2], [2]), ([3], [3]), ([4], [4]), ([5, 4], [4, 5]), ([6, 4], [4, 6]), ([7, 4], [4, 7]), ([4, 8], [4, 8]), ([9, 4], [9]), ([10], [10]), ([11, 10], [10, 11]), ([12, 10, 10], [10, 12]), ([13, 10], [10, 13]), ([10, 14], [10, 14]), ([15, 13], [15]), ([16], [16]), ([17, 16], [16, 17]), ([18, 16], [16, 18]), ([16], [16]), ([16], [16]), ([21, 16], [16, 21]), ([22, 16], [16, 22]), ([20, 23, 16, 16], [16, 20, 23]), ([24, 16], [16, 24]), ([19, 25, 16], [16, 19, 25]), ([16, 26], [16, 26]), ([27, 24], [27]), ([28], [28]), ([29, 28], [28, 29]), ([30, 28], [28, 30]), ([31, 28], [28, 31]), ([28, 32], [28, 32])])
def spec_DiskOk.B1 : List Nat := [0, 1, 3, 7, 15, 31, 63, 127, 255, 511, 1023, 2047, 4095, 8191, 16383, 32767, 65535, 131071, 262143, 524287, 131071, 131071, 2228223, 6422527, 15859711, 32636927, 67108863, 134217727, 268435455, 536870911, 1073741823, 2147483647, 4294967295, 8589934591]
theorem spec_DiskOk.tab1 : rtab .any (opsOf Try.f27 1) = spec_DiskOk.T1 := by kernel_rfl
theorem spec_DiskOk.bits1 : waitsOk spec_DiskOk.T1.2 spec_DiskOk.B1 = true := by kernel_rfl
set_option maxHeartbeats 40000000 in
set_option maxRecDepth 100000 in
theorem spec_DiskOk.calls (k : Nat) (ak : Option Addr) (am : Nat) (ah : List Int) (ao : Option Addr) (an : Nat) (ag : List Int) (ai : Int) (ad : Int) (ae : Int) (al : Option Addr) (aj : Nat) (ac : List (S55)) (r : Bool) (w : World) (aR : Kd.C (Kd.int .u8) w ak ah.length ah) (aQ : ah.length ≤ am) (aS : Kd.C (Kd.int .u8) w ao ag.length ag) (aT : ag.length ≤ an) (aU : Kd.C k55 w al ac.length ac) (aP : ac.length ≤ aj) (h : spec_DiskOk.f k ah ag ai ad ae ac = some r) :
  Calls Try.prog 27 #[.agg #[.slice ak ah.length am, .slice ao ag.length an, .int .i64 ai, .int .i64 ad, .int .i64 ae, .slice al ac.length aj]] w fun e w' => e = .returned (.bool r) ∧ Below w.heap.size w w' := by
 have hu33 := Try.underlying33
 have hu30 := Try.underlying30
 have hu55 := Try.underlying55
 have az := aM aR
 have ay := aM aQ
 clear aR aQ
 have aB := aM aS
 have aC := aM aT
 clear aS aT
 have ap := aM aU
 have aA := aM aP
 clear aU aP
 have HB := aM (Below.refl w.heap.size w)
 have H := h
 clear h
 unfold spec_DiskOk.f at H
 have HC2 := aM H
 clear H
 go_enter Try.func27, Try.ntmps27
 go_upto_region 1 with (first | ((with_reducible refine gate_dst (N := 1) rfl ?_); (try (refine gate_guard (by rfl) ?_; dsimp only)); refine gBx 1 #[.slice ak ah.length am, .slice ao ag.length an, .int .i64 ai, .int .i64 ad, .int .i64 ae, .slice al ac.length aj] 33 ?_; intro ab hg w3 hbox hb; have aa := aM (hbox); have GW311 := aM ((by rw [hg]; exact (below_size TB) : w.heap.size ≤ ab)); have GE311 := aM ((by rw [hg]; exact (below_size TB) : w.heap.size ≤ ab)); replace HB := aM (below_step TB hb); clear hb hbox hg))
 (try simp only [Act.put, List.setIfInBounds_toArray, List.set_cons_zero, List.set_cons_succ])
 go_cut [37] (fun v37 wc => ∃ (kq : Nat) (aD : Bool), v37 = .bool aD ∧ Aside0 (spec_DiskOk.j0 kq aD ah ag ai ad ae ac = some r) ∧ Aside0 (kq ≤ k) ∧ Aside0 (wc.heap[ab]? = some (.cells #[(.slice ak ah.length am), (.slice ao ag.length an), .int .i64 ai, .int .i64 ad, .int .i64 ae, (.slice al ac.length aj)] 33 (0, 0))) ∧ Aside0 (Below w.heap.size w wc))
 case first =>
  have H := HC2.out
  clear HC2
  by_cases c4 : (ah.length : Int) > 240
  ·rw [if_pos c4] at H
   have aE : decide (240 < (ah.length : Int)) = true := decide_eq_true c4
   have c4b1 : decide (240 < ah.length) = true := decide_eq_true (by omega)
   clear c4
   (first | rw [aE] | (simp only [i64_w, i32_w]; rw [aE]) | skip)
   have H' := aM H
   clear H
   try go_wp2
   replace aa := aM (blk_drew aa.out)
   replace HB := aM (below_drew1 HB.out)
   refine start_ (n := 34) (S := fun w' => w'.cell? ⟨ab, 0, none⟩ = some (.slice ak ah.length am) ∧ w'.cell? ⟨ab, 1, none⟩ = some (.slice ao ag.length an) ∧ w'.cell? ⟨ab, 2, none⟩ = some (.int .i64 ai) ∧ w'.cell? ⟨ab, 3, none⟩ = some (.int .i64 ad) ∧ w'.cell? ⟨ab, 4, none⟩ = some (.int .i64 ae) ∧ w'.cell? ⟨ab, 5, none⟩ = some (.slice al ac.length aj)) (ds := []) (Array.replicate 34 false) (by kernel_rfl) rfl rfl (cz6 aa.out) (fun hHeld => ?_); refine with_tabW spec_DiskOk.tab1 spec_DiskOk.bits1 (fun HT_ HW_ => ?_)
   generalize w3.drew = w5 at aa HB hHeld ⊢
   refine pP 0 (some 4) ?_
   refine pT 1 (some 5) ?_
   refine pP 2 (some 6) ?_
   refine pP 3 (some 7) ?_
   refine pP 4 (some 8) ?_
   refine pX 5 (some 9) ?_
   refine pX 6 (some 10) ?_
   refine pX 7 (some 11) ?_
   refine pX 8 (some 12) ?_
   refine pP 9 (some 13) ?_
   refine pP 10 (some 14) ?_
   refine pX 11 (some 15) ?_
   refine pX 12 (some 16) ?_
   refine pX 13 (some 17) ?_
   refine pX 14 (some 18) ?_
   refine pP 15 (some 19) ?_
   refine pP 16 (some 20) ?_
   refine pX 17 (some 21) ?_
   refine pX 18 (some 22) ?_
   refine pX 19 (some 23) ?_
   refine pX 20 (some 24) ?_
   refine pX 21 (some 25) ?_
   refine pX 22 (some 26) ?_
   refine pX 23 (some 27) ?_
   refine pX 24 (some 28) ?_
   refine pX 25 (some 29) ?_
   refine pX 26 (some 30) ?_
   refine pP 27 (some 31) ?_
   refine pP 28 (some 32) ?_
   refine pX 29 (some 33) ?_
   refine pX 30 (some 34) ?_
   refine pX 31 (some 35) ?_
   refine pX 32 (some 36) ?_
   refine pP 33 (some 37) ?_
   refine done_ (done_of HT_.out (by kernel_rfl)) ?_
   try go_wp2
   go_meet
   case rel => exact ⟨_, (true), (by first | rfl | (simp; done) | (simp [*]; done)), H', ⟨by first | omega | exact Nat.le_refl _⟩, ⟨TK⟩, ⟨TB⟩⟩
  ·rw [if_neg c4] at H
   have aE : decide (240 < (ah.length : Int)) = false := decide_eq_false c4
   have c4b1 : decide (240 < ah.length) = false := decide_eq_false (by omega)
   clear c4
   (first | rw [aE] | (simp only [i64_w, i32_w]; rw [aE]) | skip)
   by_cases c6 : (ag.length : Int) > 240
   ·rw [if_pos c6] at H
    have c6b0 : decide (240 < (ag.length : Int)) = true := decide_eq_true c6
    have c6b1 : decide (240 < ag.length) = true := decide_eq_true (by omega)
    clear c6
    have H' := aM H
    clear H
    try go_wp2
    replace aa := aM (blk_drew aa.out)
    replace HB := aM (below_drew1 HB.out)
    refine start_ (n := 34) (S := fun w' => w'.cell? ⟨ab, 0, none⟩ = some (.slice ak ah.length am) ∧ w'.cell? ⟨ab, 1, none⟩ = some (.slice ao ag.length an) ∧ w'.cell? ⟨ab, 2, none⟩ = some (.int .i64 ai) ∧ w'.cell? ⟨ab, 3, none⟩ = some (.int .i64 ad) ∧ w'.cell? ⟨ab, 4, none⟩ = some (.int .i64 ae) ∧ w'.cell? ⟨ab, 5, none⟩ = some (.slice al ac.length aj)) (ds := []) (Array.replicate 34 false) (by kernel_rfl) rfl rfl (cz6 aa.out) (fun hHeld => ?_); refine with_tabW spec_DiskOk.tab1 spec_DiskOk.bits1 (fun HT_ HW_ => ?_)
    generalize w3.drew = w7 at aa HB hHeld ⊢
    refine pP 0 (some 4) ?_
    refine pT 1 (some 5) ?_
    refine pP 2 (some 6) ?_
    refine pP 3 (some 7) ?_
    refine pP 4 (some 8) ?_
    refine pP 5 (some 9) ?_
    refine pT 6 (some 10) ?_
    refine pP 7 (some 11) ?_
    refine pP 8 (some 12) ?_
    refine pP 9 (some 13) ?_
    refine pP 10 (some 14) ?_
    refine pX 11 (some 15) ?_
    refine pX 12 (some 16) ?_
    refine pX 13 (some 17) ?_
    refine pX 14 (some 18) ?_
    refine pP 15 (some 19) ?_
    refine pP 16 (some 20) ?_
    refine pX 17 (some 21) ?_
    refine pX 18 (some 22) ?_
    refine pX 19 (some 23) ?_
    refine pX 20 (some 24) ?_
    refine pX 21 (some 25) ?_
    refine pX 22 (some 26) ?_
    refine pX 23 (some 27) ?_
    refine pX 24 (some 28) ?_
    refine pX 25 (some 29) ?_
    refine pX 26 (some 30) ?_
    refine pP 27 (some 31) ?_
    refine pP 28 (some 32) ?_
    refine pX 29 (some 33) ?_
    refine pX 30 (some 34) ?_
    refine pX 31 (some 35) ?_
    refine pX 32 (some 36) ?_
    refine pP 33 (some 37) ?_
    refine done_ (done_of HT_.out (by kernel_rfl)) ?_
    try go_wp2
    go_meet
    case rel => exact ⟨_, (true), (by first | rfl | (simp; done) | (simp [*]; done)), H', ⟨by first | omega | exact Nat.le_refl _⟩, ⟨TK⟩, ⟨TB⟩⟩
   ·rw [if_neg c6] at H
    have c6b0 : decide (240 < (ag.length : Int)) = false := decide_eq_false c6
    have c6b1 : decide (240 < ag.length) = false := decide_eq_false (by omega)
    clear c6
    replace H := bE H
    obtain ⟨t312, A8, H⟩ := H
    by_cases c9 : t312 = true
    ·subst c9
     replace H := ifT H
     by_cases c10 : ad = 1
     ·rw [if_pos c10] at H
      have c10b0 : (ad == 1) = true := beq_iff_eq.mpr c10
      have c10b1 : (ad != 1) = false := bne_eq_false_iff_eq.mpr c10
      clear c10
      replace H := bE H
      obtain ⟨_, A11, H⟩ := H
      by_cases c12 : ae > (ag.length : Int)
      ·rw [if_pos c12] at H
       have c12b0 : decide ((ag.length : Int) < ae) = true := decide_eq_true c12
       clear c12
       have H' := aM H
       clear H
       try go_wp2
       replace aa := aM (blk_drew aa.out)
       replace HB := aM (below_drew1 HB.out)
       refine start_ (n := 34) (S := fun w' => w'.cell? ⟨ab, 0, none⟩ = some (.slice ak ah.length am) ∧ w'.cell? ⟨ab, 1, none⟩ = some (.slice ao ag.length an) ∧ w'.cell? ⟨ab, 2, none⟩ = some (.int .i64 ai) ∧ w'.cell? ⟨ab, 3, none⟩ = some (.int .i64 ad) ∧ w'.cell? ⟨ab, 4, none⟩ = some (.int .i64 ae) ∧ w'.cell? ⟨ab, 5, none⟩ = some (.slice al ac.length aj)) (ds := []) (Array.replicate 34 false) (by kernel_rfl) rfl rfl (cz6 aa.out) (fun hHeld => ?_); refine with_tabW spec_DiskOk.tab1 spec_DiskOk.bits1 (fun HT_ HW_ => ?_)
       generalize w3.drew = w13 at aa HB hHeld ⊢
       refine pP 0 (some 4) ?_
       refine pT 1 (some 5) ?_
       refine pP 2 (some 6) ?_
       refine pP 3 (some 7) ?_
       refine pP 4 (some 8) ?_
       refine pP 5 (some 9) ?_
       refine pT 6 (some 10) ?_
       refine pP 7 (some 11) ?_
       refine pP 8 (some 12) ?_
       refine pP 9 (some 13) ?_
       refine pP 10 (some 14) ?_
       refine pP 11 (some 15) ?_
       refine pT 12 (some 16) ?_
       refine pO 13 (some 17) (fun K hK => ?_)
       refine gG Try.func66 #[.agg #[.int .i64 ai, .int .i64 ad, .int .i64 ae]] ?_
       with_reducible refine (spec_l9Record.calls ai ad ae true _ A8.out).mono ?_
       rintro e w14 ⟨rfl, hb⟩
       refine ⟨_, rfl, ?_⟩
       have n0_ := aM (blk_below (by have X_ := aa.out; exact TX) hb)
       have n1_ := aM (below_step TB hb)
       clear aa
       clear HB
       have aa := n0_
       have HB := n1_
       clear n0_ n1_
       (try clear hb)
       (try clear hb2)
       (try clear hk)
       (try clear hi)
       refine hK.out _ _ (cz6 aa.out) (fun hHeld => ?_)
       clear hK K
       refine nR ?_
       refine pP 14 (some 18) ?_
       refine pP 15 (some 19) ?_
       refine pP 16 (some 20) ?_
       refine pP 17 (some 21) ?_
       refine pP 18 (some 22) ?_
       refine pP 21 (some 25) ?_
       refine pP 22 (some 26) ?_
       refine pT 19 (some 23) ?_
       refine pT 20 (some 24) ?_
       refine pT 23 (some 27) ?_
       refine pO 24 (some 28) (fun K hK => ?_)
       refine gG Try.func67 #[.agg #[.slice ak ah.length am, .slice ao ag.length an, .int .i64 ai, .int .i64 ad, .int .i64 ae, .slice al ac.length aj], .int .i64 ad] ?_
       with_reducible refine (spec_l9Slot.o1.calls _ _ ah _ _ ag ai ad ae _ _ ac ad  _ ?side1 ?side2 ?side3 ?side4 ?side5 ?side6 A11.out).mono ?_
       (case side1 => have X_ := (Kd.C_below az.out HB.out); exact TC)
       (case side2 => exact ay.out)
       (case side3 => have X_ := (Kd.C_below aB.out HB.out); exact TC)
       (case side4 => exact aC.out)
       (case side5 => have X_ := (Kd.C_below ap.out HB.out); exact TC)
       (case side6 => exact aA.out)
       rintro e w15 ⟨rfl, hb⟩
       refine ⟨_, rfl, ?_⟩
       have n0_ := aM (blk_below (by have X_ := aa.out; exact TX) hb)
       have n1_ := aM (below_step TB hb)
       clear aa
       clear HB
       have aa := n0_
       have HB := n1_
       clear n0_ n1_
       (try clear hb)
       (try clear hb2)
       (try clear hk)
       (try clear hi)
       refine hK.out _ _ (cz6 aa.out) (fun hHeld => ?_)
       clear hK K
       refine nR ?_
       refine pP 25 (some 29) ?_
       refine pP 26 (some 30) ?_
       refine pP 27 (some 31) ?_
       refine pP 28 (some 32) ?_
       refine pX 29 (some 33) ?_
       refine pX 30 (some 34) ?_
       refine pX 31 (some 35) ?_
       refine pX 32 (some 36) ?_
       refine pP 33 (some 37) ?_
       refine done_ (done_of HT_.out (by kernel_rfl)) ?_
       try go_wp2
       go_meet
       case rel => exact ⟨_, (true), (by first | rfl | (simp; done) | (simp [*]; done)), H', ⟨by first | omega | exact Nat.le_refl _⟩, ⟨TK⟩, ⟨TB⟩⟩
      ·rw [if_neg c12] at H
       have c12b0 : decide ((ag.length : Int) < ae) = false := decide_eq_false c12
       clear c12
       have H' := aM H
       clear H
       try go_wp2
       replace aa := aM (blk_drew aa.out)
       replace HB := aM (below_drew1 HB.out)
       refine start_ (n := 34) (S := fun w' => w'.cell? ⟨ab, 0, none⟩ = some (.slice ak ah.length am) ∧ w'.cell? ⟨ab, 1, none⟩ = some (.slice ao ag.length an) ∧ w'.cell? ⟨ab, 2, none⟩ = some (.int .i64 ai) ∧ w'.cell? ⟨ab, 3, none⟩ = some (.int .i64 ad) ∧ w'.cell? ⟨ab, 4, none⟩ = some (.int .i64 ae) ∧ w'.cell? ⟨ab, 5, none⟩ = some (.slice al ac.length aj)) (ds := []) (Array.replicate 34 false) (by kernel_rfl) rfl rfl (cz6 aa.out) (fun hHeld => ?_); refine with_tabW spec_DiskOk.tab1 spec_DiskOk.bits1 (fun HT_ HW_ => ?_)
       generalize w3.drew = w16 at aa HB hHeld ⊢
       refine pP 0 (some 4) ?_
       refine pT 1 (some 5) ?_
       refine pP 2 (some 6) ?_
       refine pP 3 (some 7) ?_
       refine pP 4 (some 8) ?_
       refine pP 5 (some 9) ?_
       refine pT 6 (some 10) ?_
       refine pP 7 (some 11) ?_
       refine pP 8 (some 12) ?_
       refine pP 9 (some 13) ?_
       refine pP 10 (some 14) ?_
       refine pP 11 (some 15) ?_
       refine pT 12 (some 16) ?_
       refine pO 13 (some 17) (fun K hK => ?_)
       refine gG Try.func66 #[.agg #[.int .i64 ai, .int .i64 ad, .int .i64 ae]] ?_
       with_reducible refine (spec_l9Record.calls ai ad ae true _ A8.out).mono ?_
       rintro e w17 ⟨rfl, hb⟩
       refine ⟨_, rfl, ?_⟩
       have n0_ := aM (blk_below (by have X_ := aa.out; exact TX) hb)
       have n1_ := aM (below_step TB hb)
       clear aa
       clear HB
       have aa := n0_
       have HB := n1_
       clear n0_ n1_
       (try clear hb)
       (try clear hb2)
       (try clear hk)
       (try clear hi)
       refine hK.out _ _ (cz6 aa.out) (fun hHeld => ?_)
       clear hK K
       refine nR ?_
       refine pP 14 (some 18) ?_
       refine pP 15 (some 19) ?_
       refine pP 16 (some 20) ?_
       refine pP 17 (some 21) ?_
       refine pP 18 (some 22) ?_
       refine pP 21 (some 25) ?_
       refine pP 22 (some 26) ?_
       refine pT 19 (some 23) ?_
       refine pT 20 (some 24) ?_
       refine pT 23 (some 27) ?_
       refine pO 24 (some 28) (fun K hK => ?_)
       refine gG Try.func67 #[.agg #[.slice ak ah.length am, .slice ao ag.length an, .int .i64 ai, .int .i64 ad, .int .i64 ae, .slice al ac.length aj], .int .i64 ad] ?_
       with_reducible refine (spec_l9Slot.o1.calls _ _ ah _ _ ag ai ad ae _ _ ac ad  _ ?side1 ?side2 ?side3 ?side4 ?side5 ?side6 A11.out).mono ?_
       (case side1 => have X_ := (Kd.C_below az.out HB.out); exact TC)
       (case side2 => exact ay.out)
       (case side3 => have X_ := (Kd.C_below aB.out HB.out); exact TC)
       (case side4 => exact aC.out)
       (case side5 => have X_ := (Kd.C_below ap.out HB.out); exact TC)
       (case side6 => exact aA.out)
       rintro e w18 ⟨rfl, hb⟩
       refine ⟨_, rfl, ?_⟩
       have n0_ := aM (blk_below (by have X_ := aa.out; exact TX) hb)
       have n1_ := aM (below_step TB hb)
       clear aa
       clear HB
       have aa := n0_
       have HB := n1_
       clear n0_ n1_
       (try clear hb)
       (try clear hb2)
       (try clear hk)
       (try clear hi)
       refine hK.out _ _ (cz6 aa.out) (fun hHeld => ?_)
       clear hK K
       refine nR ?_
       refine pP 25 (some 29) ?_
       refine pP 26 (some 30) ?_
       refine pP 27 (some 31) ?_
       refine pP 28 (some 32) ?_
       refine pP 29 (some 33) ?_
       refine pT 30 (some 34) ?_
       refine pP 31 (some 35) ?_
       refine pP 32 (some 36) ?_
       refine pP 33 (some 37) ?_
       refine done_ (done_of HT_.out (by kernel_rfl)) ?_
       try go_wp2
       go_meet
       case rel => exact ⟨_, (decide ((ac.length : Int) > 200)), (by first | rfl | (simp; done) | (simp [*]; done)), H', ⟨by first | omega | exact Nat.le_refl _⟩, ⟨TK⟩, ⟨TB⟩⟩
     ·rw [if_neg c10] at H
      have c10b0 : (ad == 1) = false := beq_eq_false_iff_ne.mpr c10
      have c10b1 : (ad != 1) = true := bne_iff_ne.mpr c10
      replace H := bE H
      obtain ⟨_, A19, H⟩ := H
      by_cases c20 : ae > (ah.length : Int)
      ·rw [if_pos c20] at H
       have aJ : decide ((ah.length : Int) < ae) = true := decide_eq_true c20
       clear c20
       have H' := aM H
       clear H
       try go_wp2
       replace aa := aM (blk_drew aa.out)
       replace HB := aM (below_drew1 HB.out)
       refine start_ (n := 34) (S := fun w' => w'.cell? ⟨ab, 0, none⟩ = some (.slice ak ah.length am) ∧ w'.cell? ⟨ab, 1, none⟩ = some (.slice ao ag.length an) ∧ w'.cell? ⟨ab, 2, none⟩ = some (.int .i64 ai) ∧ w'.cell? ⟨ab, 3, none⟩ = some (.int .i64 ad) ∧ w'.cell? ⟨ab, 4, none⟩ = some (.int .i64 ae) ∧ w'.cell? ⟨ab, 5, none⟩ = some (.slice al ac.length aj)) (ds := []) (Array.replicate 34 false) (by kernel_rfl) rfl rfl (cz6 aa.out) (fun hHeld => ?_); refine with_tabW spec_DiskOk.tab1 spec_DiskOk.bits1 (fun HT_ HW_ => ?_)
       generalize w3.drew = w21 at aa HB hHeld ⊢
       refine pP 0 (some 4) ?_
       refine pT 1 (some 5) ?_
       refine pP 2 (some 6) ?_
       refine pP 3 (some 7) ?_
       refine pP 4 (some 8) ?_
       refine pP 5 (some 9) ?_
       refine pT 6 (some 10) ?_
       refine pP 7 (some 11) ?_
       refine pP 8 (some 12) ?_
       refine pP 9 (some 13) ?_
       refine pP 10 (some 14) ?_
       refine pP 11 (some 15) ?_
       refine pT 12 (some 16) ?_
       refine pO 13 (some 17) (fun K hK => ?_)
       refine gG Try.func66 #[.agg #[.int .i64 ai, .int .i64 ad, .int .i64 ae]] ?_
       with_reducible refine (spec_l9Record.calls ai ad ae true _ A8.out).mono ?_
       rintro e w22 ⟨rfl, hb⟩
       refine ⟨_, rfl, ?_⟩
       have n0_ := aM (blk_below (by have X_ := aa.out; exact TX) hb)
       have n1_ := aM (below_step TB hb)
       clear aa
       clear HB
       have aa := n0_
       have HB := n1_
       clear n0_ n1_
       (try clear hb)
       (try clear hb2)
       (try clear hk)
       (try clear hi)
       refine hK.out _ _ (cz6 aa.out) (fun hHeld => ?_)
       clear hK K
       refine nR ?_
       refine pP 14 (some 18) ?_
       refine pP 15 (some 19) ?_
       refine pP 16 (some 20) ?_
       refine pP 17 (some 21) ?_
       refine pP 18 (some 22) ?_
       refine pP 21 (some 25) ?_
       refine pP 22 (some 26) ?_
       refine pT 19 (some 23) ?_
       refine pT 20 (some 24) ?_
       refine pT 23 (some 27) ?_
       refine pO 24 (some 28) (fun K hK => ?_)
       refine gG Try.func67 #[.agg #[.slice ak ah.length am, .slice ao ag.length an, .int .i64 ai, .int .i64 ad, .int .i64 ae, .slice al ac.length aj], .int .i64 ad] ?_
       with_reducible refine (spec_l9Slot.o0.calls _ _ ah _ _ ag ai ad ae _ _ ac ad  _ ?side1 ?side2 ?side3 ?side4 ?side5 ?side6 A19.out).mono ?_
       (case side1 => have X_ := (Kd.C_below az.out HB.out); exact TC)
       (case side2 => exact ay.out)
       (case side3 => have X_ := (Kd.C_below aB.out HB.out); exact TC)
       (case side4 => exact aC.out)
       (case side5 => have X_ := (Kd.C_below ap.out HB.out); exact TC)
       (case side6 => exact aA.out)
       rintro e w23 ⟨rfl, hb⟩
       refine ⟨_, rfl, ?_⟩
       have n0_ := aM (blk_below (by have X_ := aa.out; exact TX) hb)
       have n1_ := aM (below_step TB hb)
       clear aa
       clear HB
       have aa := n0_
       have HB := n1_
       clear n0_ n1_
       (try clear hb)
       (try clear hb2)
       (try clear hk)
       (try clear hi)
       refine hK.out _ _ (cz6 aa.out) (fun hHeld => ?_)
       clear hK K
       refine nR ?_
       refine pP 25 (some 29) ?_
       refine pP 26 (some 30) ?_
       refine pP 27 (some 31) ?_
       refine pP 28 (some 32) ?_
       refine pX 29 (some 33) ?_
       refine pX 30 (some 34) ?_
       refine pX 31 (some 35) ?_
       refine pX 32 (some 36) ?_
       refine pP 33 (some 37) ?_
       refine done_ (done_of HT_.out (by kernel_rfl)) ?_
       try go_wp2
       go_meet
       case rel => exact ⟨_, (true), (by first | rfl | (simp; done) | (simp [*]; done)), H', ⟨by first | omega | exact Nat.le_refl _⟩, ⟨TK⟩, ⟨TB⟩⟩
      ·rw [if_neg c20] at H
       have aJ : decide ((ah.length : Int) < ae) = false := decide_eq_false c20
       clear c20
       have H' := aM H
       clear H
       try go_wp2
       replace aa := aM (blk_drew aa.out)
       replace HB := aM (below_drew1 HB.out)
       refine start_ (n := 34) (S := fun w' => w'.cell? ⟨ab, 0, none⟩ = some (.slice ak ah.length am) ∧ w'.cell? ⟨ab, 1, none⟩ = some (.slice ao ag.length an) ∧ w'.cell? ⟨ab, 2, none⟩ = some (.int .i64 ai) ∧ w'.cell? ⟨ab, 3, none⟩ = some (.int .i64 ad) ∧ w'.cell? ⟨ab, 4, none⟩ = some (.int .i64 ae) ∧ w'.cell? ⟨ab, 5, none⟩ = some (.slice al ac.length aj)) (ds := []) (Array.replicate 34 false) (by kernel_rfl) rfl rfl (cz6 aa.out) (fun hHeld => ?_); refine with_tabW spec_DiskOk.tab1 spec_DiskOk.bits1 (fun HT_ HW_ => ?_)
       generalize w3.drew = w24 at aa HB hHeld ⊢
       refine pP 0 (some 4) ?_
       refine pT 1 (some 5) ?_
       refine pP 2 (some 6) ?_
       refine pP 3 (some 7) ?_
       refine pP 4 (some 8) ?_
       refine pP 5 (some 9) ?_
       refine pT 6 (some 10) ?_
       refine pP 7 (some 11) ?_
       refine pP 8 (some 12) ?_
       refine pP 9 (some 13) ?_
       refine pP 10 (some 14) ?_
       refine pP 11 (some 15) ?_
       refine pT 12 (some 16) ?_
       refine pO 13 (some 17) (fun K hK => ?_)
       refine gG Try.func66 #[.agg #[.int .i64 ai, .int .i64 ad, .int .i64 ae]] ?_
       with_reducible refine (spec_l9Record.calls ai ad ae true _ A8.out).mono ?_
       rintro e w25 ⟨rfl, hb⟩
       refine ⟨_, rfl, ?_⟩
       have n0_ := aM (blk_below (by have X_ := aa.out; exact TX) hb)
       have n1_ := aM (below_step TB hb)
       clear aa
       clear HB
       have aa := n0_
       have HB := n1_
       clear n0_ n1_
       (try clear hb)
       (try clear hb2)
       (try clear hk)
       (try clear hi)
       refine hK.out _ _ (cz6 aa.out) (fun hHeld => ?_)
       clear hK K
       refine nR ?_
       refine pP 14 (some 18) ?_
       refine pP 15 (some 19) ?_
       refine pP 16 (some 20) ?_
       refine pP 17 (some 21) ?_
       refine pP 18 (some 22) ?_
       refine pP 21 (some 25) ?_
       refine pP 22 (some 26) ?_
       refine pT 19 (some 23) ?_
       refine pT 20 (some 24) ?_
       refine pT 23 (some 27) ?_
       refine pO 24 (some 28) (fun K hK => ?_)
       refine gG Try.func67 #[.agg #[.slice ak ah.length am, .slice ao ag.length an, .int .i64 ai, .int .i64 ad, .int .i64 ae, .slice al ac.length aj], .int .i64 ad] ?_
       with_reducible refine (spec_l9Slot.o0.calls _ _ ah _ _ ag ai ad ae _ _ ac ad  _ ?side1 ?side2 ?side3 ?side4 ?side5 ?side6 A19.out).mono ?_
       (case side1 => have X_ := (Kd.C_below az.out HB.out); exact TC)
       (case side2 => exact ay.out)
       (case side3 => have X_ := (Kd.C_below aB.out HB.out); exact TC)
       (case side4 => exact aC.out)
       (case side5 => have X_ := (Kd.C_below ap.out HB.out); exact TC)
       (case side6 => exact aA.out)
       rintro e w26 ⟨rfl, hb⟩
       refine ⟨_, rfl, ?_⟩
       have n0_ := aM (blk_below (by have X_ := aa.out; exact TX) hb)
       have n1_ := aM (below_step TB hb)
       clear aa
       clear HB
       have aa := n0_
       have HB := n1_
       clear n0_ n1_
       (try clear hb)
       (try clear hb2)
       (try clear hk)
       (try clear hi)
       refine hK.out _ _ (cz6 aa.out) (fun hHeld => ?_)
       clear hK K
       refine nR ?_
       refine pP 25 (some 29) ?_
       refine pP 26 (some 30) ?_
       refine pP 27 (some 31) ?_
       refine pP 28 (some 32) ?_
       refine pP 29 (some 33) ?_
       refine pT 30 (some 34) ?_
       refine pP 31 (some 35) ?_
       refine pP 32 (some 36) ?_
       refine pP 33 (some 37) ?_
       refine done_ (done_of HT_.out (by kernel_rfl)) ?_
       try go_wp2
       go_meet
       case rel => exact ⟨_, (decide ((ac.length : Int) > 200)), (by first | rfl | (simp; done) | (simp [*]; done)), H', ⟨by first | omega | exact Nat.le_refl _⟩, ⟨TK⟩, ⟨TB⟩⟩
    ·replace c9 := Bool.eq_false_iff.mpr c9
     subst c9
     replace H := ifF H
     have H' := aM H
     clear H
     try go_wp2
     replace aa := aM (blk_drew aa.out)
     replace HB := aM (below_drew1 HB.out)
     refine start_ (n := 34) (S := fun w' => w'.cell? ⟨ab, 0, none⟩ = some (.slice ak ah.length am) ∧ w'.cell? ⟨ab, 1, none⟩ = some (.slice ao ag.length an) ∧ w'.cell? ⟨ab, 2, none⟩ = some (.int .i64 ai) ∧ w'.cell? ⟨ab, 3, none⟩ = some (.int .i64 ad) ∧ w'.cell? ⟨ab, 4, none⟩ = some (.int .i64 ae) ∧ w'.cell? ⟨ab, 5, none⟩ = some (.slice al ac.length aj)) (ds := []) (Array.replicate 34 false) (by kernel_rfl) rfl rfl (cz6 aa.out) (fun hHeld => ?_); refine with_tabW spec_DiskOk.tab1 spec_DiskOk.bits1 (fun HT_ HW_ => ?_)
     generalize w3.drew = w27 at aa HB hHeld ⊢
     refine pP 0 (some 4) ?_
     refine pT 1 (some 5) ?_
     refine pP 2 (some 6) ?_
     refine pP 3 (some 7) ?_
     refine pP 4 (some 8) ?_
     refine pP 5 (some 9) ?_
     refine pT 6 (some 10) ?_
     refine pP 7 (some 11) ?_
     refine pP 8 (some 12) ?_
     refine pP 9 (some 13) ?_
     refine pP 10 (some 14) ?_
     refine pP 11 (some 15) ?_
     refine pT 12 (some 16) ?_
     refine pO 13 (some 17) (fun K hK => ?_)
     refine gG Try.func66 #[.agg #[.int .i64 ai, .int .i64 ad, .int .i64 ae]] ?_
     with_reducible refine (spec_l9Record.calls ai ad ae false _ A8.out).mono ?_
     rintro e w28 ⟨rfl, hb⟩
     refine ⟨_, rfl, ?_⟩
     have n0_ := aM (blk_below (by have X_ := aa.out; exact TX) hb)
     have n1_ := aM (below_step TB hb)
     clear aa
     clear HB
     have aa := n0_
     have HB := n1_
     clear n0_ n1_
     (try clear hb)
     (try clear hb2)
     (try clear hk)
     (try clear hi)
     refine hK.out _ _ (cz6 aa.out) (fun hHeld => ?_)
     clear hK K
     refine nR ?_
     refine pP 14 (some 18) ?_
     refine pP 15 (some 19) ?_
     refine pP 16 (some 20) ?_
     refine pX 17 (some 21) ?_
     refine pX 18 (some 22) ?_
     refine pX 19 (some 23) ?_
     refine pX 20 (some 24) ?_
     refine pX 21 (some 25) ?_
     refine pX 22 (some 26) ?_
     refine pX 23 (some 27) ?_
     refine pX 24 (some 28) ?_
     refine pX 25 (some 29) ?_
     refine pX 26 (some 30) ?_
     refine pP 27 (some 31) ?_
     refine pP 28 (some 32) ?_
     refine pX 29 (some 33) ?_
     refine pX 30 (some 34) ?_
     refine pX 31 (some 35) ?_
     refine pX 32 (some 36) ?_
     refine pP 33 (some 37) ?_
     refine done_ (done_of HT_.out (by kernel_rfl)) ?_
     try go_wp2
     go_meet
     case rel => exact ⟨_, (true), (by first | rfl | (simp; done) | (simp [*]; done)), H', ⟨by first | omega | exact Nat.le_refl _⟩, ⟨TK⟩, ⟨TB⟩⟩
 case rest =>
  clear HC2
  try clear c2
  try clear p2
  try clear c6
  try clear c9
  try clear c20
  try clear aJ
  obtain ⟨kq, aD, rfl, HA, HJ1, aa, HB⟩ := hcut
  cases kq with
  | zero => exact absurd HA.out (by simp [spec_DiskOk.j0])
  | succ kj1 =>
   have H := HA.out
   clear HA
   simp only [spec_DiskOk.j0] at H
   by_cases c29 : aD = true
   ·subst c29
    replace H := ifT H
    obtain rfl := Option.some.inj H
    go_wp2
    go_ret
    exact ⟨by first | rfl | (simp [errW_none, errW_some] <;> rfl) | (simp [*, errW_none, errW_some] <;> rfl), TB⟩
   ·replace c29 := Bool.eq_false_iff.mpr c29
    subst c29
    replace H := ifF H
    have H' := aM H
    clear H
    go_wp2
    go_loopg [3] kj1 (fun kq v3 w' => ∃ (af : Int), v3 = .int .i64 af ∧ Aside0 (spec_DiskOk.l0 kq af ah ag ai ad ae ac = some r) ∧ Aside0 (kq ≤ kj1) ∧ Aside0 (w'.heap[ab]? = some (.cells #[(.slice ak ah.length am), (.slice ao ag.length an), .int .i64 ai, .int .i64 ad, .int .i64 ae, (.slice al ac.length aj)] 33 (0, 0))) ∧ Aside0 (Below w.heap.size w w'))
    case atStart => exact ⟨(0), (by first | rfl | (simp; done) | (simp [*]; done)), H', ⟨Nat.le_refl _⟩, ⟨TK⟩, ⟨TB⟩⟩
    case round =>
     clear H'
     try clear c2
     try clear p2
     try clear c6
     try clear c9
     try clear c20
     try clear aJ
     try clear c29
     try clear p2
     obtain ⟨af, rfl, HA, HK2, aa, HB⟩ := hrel
     cases gk with
     | zero => exact absurd HA.out (by simp [spec_DiskOk.l0])
     | succ k2 =>
      have H := HA.out
      clear HA
      simp only [spec_DiskOk.l0] at H
      by_cases c30 : af < (ac.length : Int)
      ·rw [if_pos c30] at H
       have c30b0 : decide (af < (ac.length : Int)) = true := decide_eq_true c30
       clear c30
       replace H := ifN H
       obtain ⟨c31, H⟩ := H
       have c31b0 : decide (0 ≤ af) = true := decide_eq_true c31
       clear c31
       replace H := bE H
       obtain ⟨t314, A32, H⟩ := H
       obtain ⟨hcz34_0, hcz34_1, hcz34_2, hcz34_3, hcz34_4, hcz34_5⟩ := cz6 aa.out
       obtain ⟨hfz34_0, hfz34_1, hfz34_2, hfz34_3, hfz34_4, hfz34_5⟩ := fz6 aa.out
       have aO : 0 ≤ (af : Int) := DT
       have aN : af < (ac.length : Int) := DT
       obtain ⟨ad313, aK, aL, e313, aq, ax, aw, au, av, ar, aI, aH⟩ := at_T55 ap.out af aO aN
       cases e313
       replace aq := (HB.out.cell (World.block_lt_of_cell? w _ aq)).trans aq
       replace ax := (HB.out.cell (World.block_lt_of_cell? w _ ax)).trans ax
       replace aw := (HB.out.cell (World.block_lt_of_cell? w _ aw)).trans aw
       replace au := (HB.out.cell (World.block_lt_of_cell? w _ au)).trans au
       replace av := (HB.out.cell (World.block_lt_of_cell? w _ av)).trans av
       replace ar := (HB.out.cell (World.block_lt_of_cell? w _ ar)).trans ar
       have aF := aM aH
       have aG := aM aI
       clear aH aI
       replace aO := eq_true aO
       replace aN := eq_true aN
       go_wp2_with (first | ((with_reducible refine gate_callee (f := 68) rfl ?_); (with_reducible refine gate_dst (N := 50) rfl ?_); generalize hG_ : wpList _ _ _ _ _ _ = G_))
       subst hG_
       by_cases c35 : t314 = true
       ·subst c35
        replace H := ifT H
        have H' := aM H
        clear H
        go_wp2_with (first | ((with_reducible refine gate_callee (f := 68) rfl ?_); refine gL (some 50) Try.func68 #[.agg #[.int .i64 ((rd_T55 ac af).f0), .int .i64 ((rd_T55 ac af).f1), .slice aK ((rd_T55 ac af).f2).length aL, .int .i64 ((rd_T55 ac af).f3.f0), .int .i64 ((rd_T55 ac af).f3.f1), .int .i64 ((rd_T55 ac af).f3.f2)]] ?_; (with_reducible refine (spec_l9Put.calls ((rd_T55 ac af).f0) ((rd_T55 ac af).f1) _ _ ((rd_T55 ac af).f2) ((rd_T55 ac af).f3.f0) ((rd_T55 ac af).f3.f1) ((rd_T55 ac af).f3.f2) true _ ?side1 ?side2 A32.out).mono ?_); (case side1 => repeat (first | exact (Kd.C_below aF.out TB) | (with_reducible refine Kd.C_alloc ?_ _) | (with_reducible refine Kd.C_drewN ?_ _) | (with_reducible refine Kd.C_drew ?_))); (case side2 => exact aG.out); rintro e w36 ⟨rfl, hb⟩; refine ⟨_, rfl, ?_⟩; replace aa := aM (blk_below (by have X_ := aa.out; exact TX) hb); replace HB := aM (below_step TB hb); clear hb))
        go_roundg k2
        case measure => have := HJ1.out; have := HK2.out; omega
        case rel => exact ⟨(wrap64 (af + 1)), (by first | rfl | (simp; done) | (simp [*]; done)), H', ⟨by have := HJ1.out; have := HK2.out; omega⟩, ⟨TK⟩, ⟨TB⟩⟩
       ·replace c35 := Bool.eq_false_iff.mpr c35
        subst c35
        replace H := ifF H
        obtain rfl := Option.some.inj H
        go_wp2_with (first | ((with_reducible refine gate_callee (f := 68) rfl ?_); refine gL (some 50) Try.func68 #[.agg #[.int .i64 ((rd_T55 ac af).f0), .int .i64 ((rd_T55 ac af).f1), .slice aK ((rd_T55 ac af).f2).length aL, .int .i64 ((rd_T55 ac af).f3.f0), .int .i64 ((rd_T55 ac af).f3.f1), .int .i64 ((rd_T55 ac af).f3.f2)]] ?_; (with_reducible refine (spec_l9Put.calls ((rd_T55 ac af).f0) ((rd_T55 ac af).f1) _ _ ((rd_T55 ac af).f2) ((rd_T55 ac af).f3.f0) ((rd_T55 ac af).f3.f1) ((rd_T55 ac af).f3.f2) false _ ?side1 ?side2 A32.out).mono ?_); (case side1 => repeat (first | exact (Kd.C_below aF.out TB) | (with_reducible refine Kd.C_alloc ?_ _) | (with_reducible refine Kd.C_drewN ?_ _) | (with_reducible refine Kd.C_drew ?_))); (case side2 => exact aG.out); rintro e w37 ⟨rfl, hb⟩; refine ⟨_, rfl, ?_⟩; replace aa := aM (blk_below (by have X_ := aa.out; exact TX) hb); replace HB := aM (below_step TB hb); clear hb))
        go_ret
        exact ⟨by first | rfl | (simp [errW_none, errW_some] <;> rfl) | (simp [*, errW_none, errW_some] <;> rfl), TB⟩
      ·rw [if_neg c30] at H
       have c30b0 : decide (af < (ac.length : Int)) = false := decide_eq_false c30
       clear c30
       obtain rfl := Option.some.inj H
       obtain ⟨hcz38_0, hcz38_1, hcz38_2, hcz38_3, hcz38_4, hcz38_5⟩ := cz6 aa.out
       obtain ⟨hfz38_0, hfz38_1, hfz38_2, hfz38_3, hfz38_4, hfz38_5⟩ := fz6 aa.out
       go_wp2
       go_ret
       exact ⟨by first | rfl | (simp [errW_none, errW_some] <;> rfl) | (simp [*, errW_none, errW_some] <;> rfl), TB⟩

end Go.Proofs.Ytogilihkphjjbaa.Q
