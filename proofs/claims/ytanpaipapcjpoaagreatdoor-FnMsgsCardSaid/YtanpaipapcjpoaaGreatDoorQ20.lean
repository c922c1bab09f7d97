/- Functions of the program as plain Lean functions, and that a call of each comes to what its function tells. Written by a program of this seat. -/
import Derived.Test.YtanpaipapcjpoaaGreatDoorQ0
import Derived.Test.YtanpaipapcjpoaaGreatDoorQ1
import Derived.Test.YtanpaipapcjpoaaGreatDoorQ4
import Derived.Test.YtanpaipapcjpoaaGreatDoorQ5
import Derived.Test.YtanpaipapcjpoaaGreatDoorQ19
set_option maxHeartbeats 40000000
set_option maxRecDepth 100000
namespace Go.Proofs.YtanpaipapcjpoaaGreatDoor.Q
open Go.RowKit Go.Proofs.YtanpaipapcjpoaaGreatDoorW.PrintWords Go.Proofs.YtanpaipapcjpoaaGreatDoorW.PrintLast Go.Proofs.YtanpaipapcjpoaaGreatDoorW.PrintMore
attribute [local go_sem] min2_int min_two
set_option linter.unusedVariables false
set_option linter.unusedSimpArgs false
attribute [local go_sem high] eqA75
mutual
def spec_ManOk.j0 : Nat → Bool → Int → Int → Int → List (S75) → Option (Bool)
  | 0, _, _, _, _, _ => none
  | k + 1, x47, x673000, x673001, x673002, x673003 => if x47 = true then (some false) else (spec_ManOk.l0 k 0 x673000 x673001 x673002 x673003)
def spec_ManOk.l0 : Nat → Int → Int → Int → Int → List (S75) → Option (Bool)
  | 0, _, _, _, _, _ => none
  | k + 1, x3, x673000, x673001, x673002, x673003 => if x3 < (x673003.length : Int) then (if 0 ≤ x3 then ((spec_BytesOf.f k ((rd_T75 x673003 x3).f1)).bind fun bt677 => ((spec_SpanOf.f x673001 x673002 x3).bind fun bt681 => (if bt677.2 = true then (if (bt677.1.length : Int) = bt681.2 then ((spec_SumOf.f k bt677.1).bind fun bt683 => (if (!(bt683.1 == ((rd_T75 x673003 x3).f0)) || (!(bt683.2 == ((rd_T75 x673003 x3).f1)))) = true then (some false) else (spec_ManOk.l0 k (wrap64 (x3 + 1)) x673000 x673001 x673002 x673003))) else (some false)) else (some false)))) else (none)) else (some true)
end
def spec_ManOk.f (k : Nat) (a0_0 : Int) (a0_1 : Int) (a0_2 : Int) (l0_3 : List (S75)) : Option (Bool) := if a0_0 = 0 then (if a0_1 = 0 then (if a0_2 = 0 then (some ((l0_3.length : Int) == 0)) else (some false)) else (some false)) else ((spec_l1In.f a0_0 1 1000000).bind fun t673 => (if t673 = true then ((spec_SizeOk.f a0_1 a0_2).bind fun t674 => (if t674 = true then ((spec_Blocks.f a0_1 a0_2).bind fun t675 => (spec_ManOk.j0 k ((l0_3.length : Int) != t675) a0_0 a0_1 a0_2 l0_3)) else (spec_ManOk.j0 k true a0_0 a0_1 a0_2 l0_3))) else (spec_ManOk.j0 k true a0_0 a0_1 a0_2 l0_3)))
theorem spec_ManOk.mono_l : ∀ k, (∀ y0 y1 y2 y3 y4, LeO (spec_ManOk.j0 k y0 y1 y2 y3 y4) (spec_ManOk.j0 (k + 1) y0 y1 y2 y3 y4)) ∧ (∀ y0 y1 y2 y3 y4, LeO (spec_ManOk.l0 k y0 y1 y2 y3 y4) (spec_ManOk.l0 (k + 1) y0 y1 y2 y3 y4))
  | 0 => ⟨fun _ _ _ _ _ r h => by simp [spec_ManOk.j0] at h, fun _ _ _ _ _ r h => by simp [spec_ManOk.l0] at h⟩
  | k + 1 => by
    have m0_ := @spec_BytesOf.mono
    have m1_ := @spec_SumOf.mono
    obtain ⟨ih0, ih1⟩ := spec_ManOk.mono_l k
    refine ⟨?_, ?_⟩
    · intro y0 y1 y2 y3 y4
      unfold spec_ManOk.j0
      exact LM
    · intro y0 y1 y2 y3 y4
      unfold spec_ManOk.l0
      exact LM
theorem spec_ManOk.mono : ∀ a0 a1 a2 a3 k, LeO (spec_ManOk.f k a0 a1 a2 a3) (spec_ManOk.f (k + 1) a0 a1 a2 a3) := by
  intro a0 a1 a2 a3 k;have m0_ := @spec_BytesOf.mono;have m1_ := @spec_SumOf.mono;obtain ⟨ih0, ih1⟩ := spec_ManOk.mono_l k;unfold spec_ManOk.f;exact LM
def spec_ManOk.T3 : Bool × List (List Nat × List Nat) := (true, [([], []), ([0], [0]), ([1], [1]), ([2], [2]), ([3, 2], [3]), ([4], [4]), ([5, 4], [4, 5]), ([4], [4]), ([7, 4], [4, 7]), ([6, 8, 4, 4], [4, 6, 8]), ([9, 4], [4, 9]), ([4, 10], [4, 10]), ([11, 9], [11]), ([12], [12]), ([13, 12], [12, 13]), ([14, 12], [12, 14]), ([12], [12]), ([16, 12], [12, 16]), ([12], [12]), ([18, 12], [12, 18]), ([17, 19, 12, 12], [12, 17, 19]), ([15, 20, 12], [12, 15, 20]), ([12, 21], [12, 21])])
def spec_ManOk.B3 : List Nat := [0, 1, 3, 7, 15, 31, 63, 31, 159, 511, 1023, 2047, 4095, 8191, 16383, 32767, 8191, 73727, 8191, 270335, 991231, 2097151, 4194303]
theorem spec_ManOk.tab3 : rtab .any (opsOf Tryz.f50 3) = spec_ManOk.T3 := by kernel_rfl
theorem spec_ManOk.bits3 : waitsOk spec_ManOk.T3.2 spec_ManOk.B3 = true := by kernel_rfl
def spec_ManOk.T10 : Bool × List (List Nat × List Nat) := (true, [([], []), ([0], [0]), ([1], [1]), ([2], [2]), ([3, 2], [2, 3]), ([2], [2]), ([4, 5, 2], [2, 4, 5]), ([2, 6], [2, 6]), ([7, 2], [7]), ([8], [8]), ([9, 8, 8], [8, 9]), ([8], [8]), ([11, 8], [8, 11]), ([8], [8]), ([12, 13, 8], [8, 12, 13]), ([14, 8], [8, 14]), ([10, 15, 8], [8, 10, 15]), ([8, 16], [8, 16])])
def spec_ManOk.B10 : List Nat := [0, 1, 3, 7, 15, 7, 63, 127, 255, 511, 1023, 511, 2559, 511, 14847, 31231, 65535, 131071]
theorem spec_ManOk.tab10 : rtab .any (opsOf Tryz.f50 10) = spec_ManOk.T10 := by kernel_rfl
theorem spec_ManOk.bits10 : waitsOk spec_ManOk.T10.2 spec_ManOk.B10 = true := by kernel_rfl
theorem Yq20_2 {p : Prop} (h : p := by
 refine ppq 7 81 ?_;refine ppq 8 82 ?_;refine pxq 9 83 ?_;refine pxq 10 84 ?_;refine pxq 11 85 ?_;refine pxq 12 86 ?_;refine pxq 13 87 ?_;refine pxq 14 88 ?_;refine pxq 15 89 ?_;refine pxq 16 90 ?_;refine ppq 17 91 ?_;refine done_ (done_of HT_.out (by kernel_rfl)) ?_;try go_wp2
 go_ret
 exact ⟨TE, TB⟩) : p := h
theorem Yq20_1 {p : Prop} (h : p := by
 refine pxq 13 38 ?_;refine pxq 14 39 ?_;refine pxq 15 40 ?_;refine pxq 16 41 ?_;refine pxq 17 42 ?_;refine pxq 18 43 ?_;refine pxq 19 44 ?_;refine pxq 20 45 ?_;refine pxq 21 46 ?_;refine ppq 22 47 ?_;refine done_ (done_of HT_.out (by kernel_rfl)) ?_;try go_wp2
 go_meet
 case rel => exact ⟨_, (true), TF, H', ⟨by first | omega | exact Nat.le_refl _⟩, ⟨TK⟩, ⟨TB⟩⟩) : p := h
theorem Yq20_0 {p : Prop} (h : p := by
 obtain rfl := oI H;go_enter Tryz.func50, Tryz.ntmps50;go_wp2_with (first | ((with_reducible refine gate_dst (N := 1) rfl ?_); (try (refine gate_guard (by rfl) ?_; dsimp only)); refine gBx 1 #[.int .i64 af, .int .i64 ae, .int .i64 ad, .slice an ac.length ag] 26 ?_; intro aj hg wq1 hbox hb; have aa := aM (hbox); have GWq1 := gW HB hg; have GEq1 := gW HB hg; replace HB := bS HB hb; clear hb hbox hg; obtain ⟨aw, au, av, ar⟩ := cz4 aa.out; obtain ⟨ap, ax, ay, aq⟩ := fz4 aa.out))
 go_ret
 exact ⟨TE, TB⟩) : p := h
theorem spec_ManOk.calls {k : Nat} {af : Int} {ae : Int} {ad : Int} {an : Option Addr} {ag : Nat} {ac : List (S75)} {r : Bool} {w : World} (aL : Kd.C k75 w an ac.length ac) (aN : ac.length ≤ ag) (h : spec_ManOk.f k af ae ad ac = some r) :
  Calls Tryz.prog 50 #[.agg #[.int .i64 af, .int .i64 ae, .int .i64 ad, .slice an ac.length ag]] w fun e w' => e = .returned (.bool r) ∧ Below w.heap.size w w' := by
 have huq1 := Tryz.underlying26;have huq2 := Tryz.underlying75;have aG := aM aL;have HCq1 := aM aN;clear aL aN;have HB := aM (Below.refl w.heap.size w);have H := h;clear h;unfold spec_ManOk.f at H
 by_cases cq1 : af = 0
 ·rw [if_pos cq1] at H;have cq2 : (af == 0) = true := beq_iff_eq.mpr cq1;have cq3 : (af != 0) = false := bne_eq_false_iff_eq.mpr cq1;clear cq1
  by_cases cq4 : ae = 0
  ·rw [if_pos cq4] at H;have cq5 : (ae == 0) = true := beq_iff_eq.mpr cq4;have cq6 : (ae != 0) = false := bne_eq_false_iff_eq.mpr cq4;clear cq4
   by_cases cq7 : ad = 0
   ·rw [if_pos cq7] at H;have cq8 : (ad == 0) = true := beq_iff_eq.mpr cq7;have cq9 : (ad != 0) = false := bne_eq_false_iff_eq.mpr cq7;clear cq7;exact Yq20_0
   ·rw [if_neg cq7] at H;have cq8 : (ad == 0) = false := beq_eq_false_iff_ne.mpr cq7;have cq9 : (ad != 0) = true := bne_iff_ne.mpr cq7;exact Yq20_0
  ·rw [if_neg cq4] at H;have cq5 : (ae == 0) = false := beq_eq_false_iff_ne.mpr cq4;have cq6 : (ae != 0) = true := bne_iff_ne.mpr cq4;exact Yq20_0
 ·rw [if_neg cq1] at H;have cq2 : (af == 0) = false := beq_eq_false_iff_ne.mpr cq1;have cq3 : (af != 0) = true := bne_iff_ne.mpr cq1;have aH := aM H;clear H;go_enter Tryz.func50, Tryz.ntmps50;go_upto_region 3 with (first | ((with_reducible refine gate_dst (N := 1) rfl ?_); (try (refine gate_guard (by rfl) ?_; dsimp only)); refine gBx 1 #[.int .i64 af, .int .i64 ae, .int .i64 ad, .slice an ac.length ag] 26 ?_; intro aj hg wq1 hbox hb; have aa := aM (hbox); have GWq1 := gW HB hg; have GEq1 := gW HB hg; replace HB := bS HB hb; clear hb hbox hg; obtain ⟨aw, au, av, ar⟩ := cz4 aa.out; obtain ⟨ap, ax, ay, aq⟩ := fz4 aa.out))
  (try simp only [NP])
  go_cut [47] (fun vq1 wc => ∃ (kq : Nat) (xq1 : Bool), vq1 = .bool xq1 ∧ Aside0 (spec_ManOk.j0 kq xq1 af ae ad ac = some r) ∧ Aside0 (kq ≤ k) ∧ Aside0 (wc.heap[aj]? = some (.cells #[.int .i64 af, .int .i64 ae, .int .i64 ad, (.slice an ac.length ag)] 26 (0, 0))) ∧ Aside0 (Below w.heap.size w wc))
  case first =>
   have H := aH.out;clear aH;replace H := bE H;obtain ⟨t673, Aq1, H⟩ := H;try go_wp2
   replace aa := bD aa;replace HB := aM (below_drew1 HB.out);refine st_ (n := 23) (ds := []) (Array.replicate 23 false) (hK4 aa.out) (by kernel_rfl) rfl rfl (fun hHeld => ?_); refine with_tabW spec_ManOk.tab3 spec_ManOk.bits3 (fun HT_ HW_ => ?_);generalize wq1.drew = wq2 at aa HB hHeld ⊢;refine ppq 0 25 ?_;refine ptq 1 26 ?_;refine poq 2 27 (fun K hK => ?_);refine gG Tryz.func51 #[.int .i64 af, .int .i64 1, .int .i64 1000000] ?_;with_reducible refine (spec_l1In.calls Aq1.out).mono ?_
   rintro e w' ⟨rfl, ⟨nd, rfl⟩⟩;refine ⟨_, rfl, ?_⟩;refine hK.out _ _ (cz4 aa.out) (fun hHeld => ?_);clear hK K;refine nR ?_;refine ppq 3 28 ?_;refine ppq 4 29 ?_
   by_cases cq4 : t673 = true
   ·subst cq4;replace H := ifT H;replace H := bE H;obtain ⟨t674, Aq2, H⟩ := H;refine ppq 5 30 ?_;refine ppq 7 32 ?_;refine ptq 6 31 ?_;refine ptq 8 33 ?_;refine poq 9 34 (fun K hK => ?_);refine gG Tryz.func77 #[.int .i64 ae, .int .i64 ad] ?_;with_reducible refine (spec_SizeOk.calls Aq2.out).mono ?_
    rintro e w' ⟨rfl, ⟨nd, rfl⟩⟩;refine ⟨_, rfl, ?_⟩;refine hK.out _ _ (cz4 aa.out) (fun hHeld => ?_);clear hK K;refine nR ?_;refine ppq 10 35 ?_;refine ppq 11 36 ?_;refine ppq 12 37 ?_
    by_cases cq5 : t674 = true
    ·subst cq5;replace H := ifT H;replace H := bE H;obtain ⟨t675, Aq3, H⟩ := H;have H' := aM H;clear H;refine ppq 13 38 ?_;refine ppq 16 41 ?_;refine ppq 18 43 ?_;refine ptq 14 39 ?_;refine ppq 15 40 ?_;refine ptq 17 42 ?_;refine ptq 19 44 ?_;refine poq 20 45 (fun K hK => ?_);refine gG Tryz.func78 #[.int .i64 ae, .int .i64 ad] ?_;with_reducible refine (spec_Blocks.calls Aq3.out).mono ?_
     rintro e w' ⟨rfl, ⟨nd, rfl⟩⟩;refine ⟨_, rfl, ?_⟩;refine hK.out _ _ (cz4 aa.out) (fun hHeld => ?_);clear hK K;refine nR ?_;refine ppq 21 46 ?_;refine ppq 22 47 ?_;refine done_ (done_of HT_.out (by kernel_rfl)) ?_;try go_wp2
     go_meet
     case rel => exact ⟨_, (((ac.length : Int) != t675)), TF, H', ⟨by first | omega | exact Nat.le_refl _⟩, ⟨TK⟩, ⟨TB⟩⟩
    ·replace cq5 := bF cq5;subst cq5;replace H := ifF H;have H' := aM H;clear H;exact Yq20_1
   ·replace cq4 := bF cq4;subst cq4;replace H := ifF H;have H' := aM H;clear H;refine pxq 5 30 ?_;refine pxq 6 31 ?_;refine pxq 7 32 ?_;refine pxq 8 33 ?_;refine pxq 9 34 ?_;refine pxq 10 35 ?_;refine ppq 11 36 ?_;refine ppq 12 37 ?_;exact Yq20_1
  case rest =>
   clear aH;try clear cq1
   try clear cq2
   try clear cq3
   try clear aw
   try clear au
   try clear av
   try clear ar
   try clear ap
   try clear ax
   try clear ay
   try clear aq
   obtain ⟨kq, xq1, rfl, HA, HJq1, aa, HB⟩ := hcut;cases kq with
   | zero => exact absurd HA.out (by simp [spec_ManOk.j0])
   | succ kj10 =>
    have H := HA.out;clear HA;simp only [spec_ManOk.j0] at H
    by_cases aC : xq1 = true
    ·subst aC;replace H := ifT H;obtain rfl := oI H;go_wp2
     go_ret
     exact ⟨TE, TB⟩
    ·replace aC := bF aC;subst aC;replace H := ifF H;have H' := aM H;clear H;go_wp2
     go_loopg [3] kj10 (fun kq vq2 w' => ∃ (xq2 : Int), vq2 = .int .i64 xq2 ∧ Aside0 (spec_ManOk.l0 kq xq2 af ae ad ac = some r) ∧ Aside0 (kq ≤ kj10) ∧ Aside0 (w'.heap[aj]? = some (.cells #[.int .i64 af, .int .i64 ae, .int .i64 ad, (.slice an ac.length ag)] 26 (0, 0))) ∧ Aside0 (Below w.heap.size w w'))
     case atStart => exact ⟨(0), TF, H', ⟨Nat.le_refl _⟩, ⟨TK⟩, ⟨TB⟩⟩
     case round =>
      clear H';try clear cq1
      try clear cq2
      try clear cq3
      try clear aC
      try clear aw
      try clear au
      try clear av
      try clear ar
      try clear ap
      try clear ax
      try clear ay
      try clear aq
      obtain ⟨xq2, rfl, HA, HKq1, aa, HB⟩ := hrel;cases gk with
      | zero => exact absurd HA.out (by simp [spec_ManOk.l0])
      | succ k2 =>
       have H := HA.out;clear HA;simp only [spec_ManOk.l0] at H
       by_cases aB : xq2 < (ac.length : Int)
       ·rw [if_pos aB] at H;have cq17 : decide (xq2 < (ac.length : Int)) = true := decide_eq_true aB;clear aB;replace H := ifN H;obtain ⟨cq18, H⟩ := H;have cq19 : decide (0 ≤ xq2) = true := decide_eq_true cq18;clear cq18;replace H := bE H;obtain ⟨⟨tq1, tq2⟩, Aq1, H⟩ := H;dsimp only at H;replace H := bE H;obtain ⟨⟨tq3, tq4⟩, Aq2, H⟩ := H;dsimp only at H;obtain ⟨a7, aQ, bc, aZ⟩ := cz4 aa.out;obtain ⟨a9, aS, aT, bd⟩ := fz4 aa.out;have pq2 : 0 ≤ (xq2 : Int) := DT;have qq1 : xq2 < (ac.length : Int) := DT;obtain ⟨aA, eq1, aJ, aI⟩ := at_T75 aG.out xq2 pq2 qq1;cases eq1;replace aJ := (HB.out.cell (World.block_lt_of_cell? w _ aJ)).trans aJ;replace aI := (HB.out.cell (World.block_lt_of_cell? w _ aI)).trans aI;replace pq2 := eq_true pq2;replace qq1 := eq_true qq1;go_wp2_with (first | ((with_reducible refine gate_callee (f := 79) rfl ?_); refine gL (some 62) Tryz.func79 #[.int .i64 ((rd_T75 ac xq2).f1)] ?_; (with_reducible refine (spec_BytesOf.calls Aq1.out).mono ?_); rintro e wq2 ⟨vq3, rfl, hoq1, hb⟩; refine ⟨_, rfl, ?_⟩; have ab := aM (Kd.R_lower hoq1 (below_size TB)); replace aa := mB aa hb; replace HB := bS HB hb; clear hoq1 hb; obtain ⟨hczq21, hczq22, hczq23, hczq24⟩ := cz4 aa.out; obtain ⟨hfzq21, hfzq22, hfzq23, hfzq24⟩ := fz4 aa.out) | ((with_reducible refine gate_callee (f := 80) rfl ?_); (with_reducible refine gate_dst (N := 71) rfl ?_); generalize hG_ : wpList _ _ _ _ _ _ = G_))
        subst hG_
        by_cases aE : tq2 = true
        ·subst aE;replace H := ifT H
         by_cases ao : (tq1.length : Int) = tq4
         ·rw [if_pos ao] at H;have cq22 : ((tq1.length : Int) == tq4) = true := beq_iff_eq.mpr ao;have cq23 : ((tq1.length : Int) != tq4) = false := bne_eq_false_iff_eq.mpr ao;clear ao;replace H := bE H;obtain ⟨⟨tq5, tq6⟩, Aq3, H⟩ := H;dsimp only at H
          by_cases az : (!(tq5 == ((rd_T75 ac xq2).f0)) || (!(tq6 == ((rd_T75 ac xq2).f1)))) = true
          ·rw [if_pos az] at H;have cq25 : (!(tq5 == ((rd_T75 ac xq2).f0)) || (!(tq6 == ((rd_T75 ac xq2).f1)))) = true := az;clear az;obtain rfl := oI H;try go_wp2_with (first | ((with_reducible refine gate_callee (f := 80) rfl ?_); refine gL (some 71) Tryz.func80 #[.int .i64 ae, .int .i64 ad, .int .i64 xq2] ?_; (with_reducible refine (spec_SpanOf.calls Aq2.out).mono ?_); rintro e w' ⟨rfl, ⟨nd, rfl⟩⟩; refine ⟨_, rfl, ?_⟩))
           (try (rw [drewN_self wq2]; generalize hq_ : World.drewN wq2 _ = wq2; have n0_ : Aside0 (Kd.R (Kd.int .u8) 5 wq2 w.heap.size (fun _ => True) vq3 tq1) := ⟨by rw [← hq_]; exact (TRf ab)⟩; have n1_ : Aside0 (wq2.heap[aj]? = some (.cells #[.int .i64 af, .int .i64 ae, .int .i64 ad, .slice (some aA) ac.length ag] 26 (0, 0))) := ⟨by rw [← hq_]; exact TK⟩; have n2_ : Aside0 (Below w.heap.size w wq2) := ⟨by rw [← hq_]; exact TB⟩; clear ab aa HB hq_; have ab := n0_; have aa := n1_; have HB := n2_; clear n0_ n1_ n2_));replace ab := rD ab;replace aa := bD aa;replace HB := aM (below_drew1 HB.out);obtain ⟨aF, aD, am⟩ := Kd.R_slice ab.out;(first | subst am | (injection am with f1_ f2_ f3_; have f4_ := f1_.symm; have f5_ := f3_.symm; clear f1_ f2_ f3_; subst f4_; subst f5_));have pq3 : 0 ≤ (xq2 : Int) := DT;have qq2 : xq2 < (ac.length : Int) := DT;obtain ⟨aK, eq2, ah, ai⟩ := at_T75 aG.out xq2 pq3 qq2;have al := ai;have ak := ah;obtain rfl : aA = aK := (by injection eq2);replace ah := (HB.out.cell (World.block_lt_of_cell? w _ ah)).trans ah;replace ai := (HB.out.cell (World.block_lt_of_cell? w _ ai)).trans ai;replace pq3 := eq_true pq3;replace qq2 := eq_true qq2;refine st_ (n := 18) (ds := []) (Array.replicate 18 false) (hJ4 aa.out (hX (bW HB ak) (hE (bW HB al)))) (by kernel_rfl) rfl rfl (fun hHeld => ?_); refine with_tabW spec_ManOk.tab10 spec_ManOk.bits10 (fun HT_ HW_ => ?_);generalize wq2.drew = wq3 at ab aa HB ah ai hHeld ⊢;refine ppq 0 74 ?_;refine ppq 1 75 ?_;refine ppq 2 76 ?_;refine ppq 3 77 ?_;refine ppq 4 78 ?_;refine ppq 5 79 ?_;refine ppq 6 80 ?_;refine ppq 7 81 ?_;refine ppq 8 82 ?_;refine ppq 9 83 ?_;refine ppq 11 85 ?_;refine ppq 13 87 ?_;refine ptq 12 86 ?_;refine ppq 14 88 ?_;refine ptq 15 89 ?_;refine poq 10 84 (fun K hK => ?_);refine gG Tryz.func81 #[.slice aF tq1.length aD] ?_;with_reducible refine (spec_SumOf.calls ?side1 ?side2 Aq3.out).mono ?_
           (case side1 => have X_ := (Kd.R_reads' ab.out).2.2; exact TC);(case side2 => exact (Kd.R_reads' ab.out).2.1);rintro e wq4 ⟨rfl, hb⟩;refine ⟨_, rfl, ?_⟩;replace ab := mR ab hb;replace aa := mB aa hb;replace HB := bS HB hb;(try clear hb);refine hK.out _ _ (cJ4 aa.out ⟨(bW HB ak), (bW HB al)⟩) (fun hHeld => ?_);clear hK K;refine nR ?_;refine ppq 16 90 ?_;refine ppq 17 91 ?_;refine done_ (done_of HT_.out (by kernel_rfl)) ?_;try go_wp2
           go_ret
           exact ⟨TE, TB⟩
          ·rw [if_neg az] at H;have cq25 : (!(tq5 == ((rd_T75 ac xq2).f0)) || (!(tq6 == ((rd_T75 ac xq2).f1)))) = false := by simpa using az
           clear az;have H' := aM H;clear H;try go_wp2_with (first | ((with_reducible refine gate_callee (f := 80) rfl ?_); refine gL (some 71) Tryz.func80 #[.int .i64 ae, .int .i64 ad, .int .i64 xq2] ?_; (with_reducible refine (spec_SpanOf.calls Aq2.out).mono ?_); rintro e w' ⟨rfl, ⟨nd, rfl⟩⟩; refine ⟨_, rfl, ?_⟩))
           (try (rw [drewN_self wq2]; generalize hq_ : World.drewN wq2 _ = wq2; have n0_ : Aside0 (Kd.R (Kd.int .u8) 5 wq2 w.heap.size (fun _ => True) vq3 tq1) := ⟨by rw [← hq_]; exact (TRf ab)⟩; have n1_ : Aside0 (wq2.heap[aj]? = some (.cells #[.int .i64 af, .int .i64 ae, .int .i64 ad, .slice (some aA) ac.length ag] 26 (0, 0))) := ⟨by rw [← hq_]; exact TK⟩; have n2_ : Aside0 (Below w.heap.size w wq2) := ⟨by rw [← hq_]; exact TB⟩; clear ab aa HB hq_; have ab := n0_; have aa := n1_; have HB := n2_; clear n0_ n1_ n2_));replace ab := rD ab;replace aa := bD aa;replace HB := aM (below_drew1 HB.out);obtain ⟨aF, aD, am⟩ := Kd.R_slice ab.out;(first | subst am | (injection am with f1_ f2_ f3_; have f4_ := f1_.symm; have f5_ := f3_.symm; clear f1_ f2_ f3_; subst f4_; subst f5_));have pq3 : 0 ≤ (xq2 : Int) := DT;have qq2 : xq2 < (ac.length : Int) := DT;obtain ⟨aK, eq2, ah, ai⟩ := at_T75 aG.out xq2 pq3 qq2;have al := ai;have ak := ah;obtain rfl : aA = aK := (by injection eq2);replace ah := (HB.out.cell (World.block_lt_of_cell? w _ ah)).trans ah;replace ai := (HB.out.cell (World.block_lt_of_cell? w _ ai)).trans ai;replace pq3 := eq_true pq3;replace qq2 := eq_true qq2;refine st_ (n := 18) (ds := []) (Array.replicate 18 false) (hJ4 aa.out (hX (bW HB ak) (hE (bW HB al)))) (by kernel_rfl) rfl rfl (fun hHeld => ?_); refine with_tabW spec_ManOk.tab10 spec_ManOk.bits10 (fun HT_ HW_ => ?_);generalize wq2.drew = wq3 at ab aa HB ah ai hHeld ⊢;refine ppq 0 74 ?_;refine ppq 1 75 ?_;refine ppq 2 76 ?_;refine ppq 3 77 ?_;refine ppq 4 78 ?_;refine ppq 5 79 ?_;refine ppq 6 80 ?_;refine ppq 7 81 ?_;refine ppq 8 82 ?_;refine ppq 9 83 ?_;refine ppq 11 85 ?_;refine ppq 13 87 ?_;refine ptq 12 86 ?_;refine ppq 14 88 ?_;refine ptq 15 89 ?_;refine poq 10 84 (fun K hK => ?_);refine gG Tryz.func81 #[.slice aF tq1.length aD] ?_;with_reducible refine (spec_SumOf.calls ?side1 ?side2 Aq3.out).mono ?_
           (case side1 => have X_ := (Kd.R_reads' ab.out).2.2; exact TC);(case side2 => exact (Kd.R_reads' ab.out).2.1);rintro e wq4 ⟨rfl, hb⟩;refine ⟨_, rfl, ?_⟩;replace ab := mR ab hb;replace aa := mB aa hb;replace HB := bS HB hb;(try clear hb);refine hK.out _ _ (cJ4 aa.out ⟨(bW HB ak), (bW HB al)⟩) (fun hHeld => ?_);clear hK K;refine nR ?_;refine ppq 16 90 ?_;refine ppq 17 91 ?_;refine done_ (done_of HT_.out (by kernel_rfl)) ?_;try go_wp2
           go_roundg k2
           case measure => have := HJq1.out; have := HKq1.out; omega
           case rel => exact ⟨(wrap64 (xq2 + 1)), TF, H', ⟨by have := HJq1.out; have := HKq1.out; omega⟩, ⟨TK⟩, ⟨TB⟩⟩
         ·rw [if_neg ao] at H;have cq22 : ((tq1.length : Int) == tq4) = false := beq_eq_false_iff_ne.mpr ao;have cq23 : ((tq1.length : Int) != tq4) = true := bne_iff_ne.mpr ao;obtain rfl := oI H;try go_wp2_with (first | ((with_reducible refine gate_callee (f := 80) rfl ?_); refine gL (some 71) Tryz.func80 #[.int .i64 ae, .int .i64 ad, .int .i64 xq2] ?_; (with_reducible refine (spec_SpanOf.calls Aq2.out).mono ?_); rintro e w' ⟨rfl, ⟨nd, rfl⟩⟩; refine ⟨_, rfl, ?_⟩))
          (try (rw [drewN_self wq2]; generalize hq_ : World.drewN wq2 _ = wq2; have n0_ : Aside0 (Kd.R (Kd.int .u8) 5 wq2 w.heap.size (fun _ => True) vq3 tq1) := ⟨by rw [← hq_]; exact (TRf ab)⟩; have n1_ : Aside0 (wq2.heap[aj]? = some (.cells #[.int .i64 af, .int .i64 ae, .int .i64 ad, .slice (some aA) ac.length ag] 26 (0, 0))) := ⟨by rw [← hq_]; exact TK⟩; have n2_ : Aside0 (Below w.heap.size w wq2) := ⟨by rw [← hq_]; exact TB⟩; clear ab aa HB hq_; have ab := n0_; have aa := n1_; have HB := n2_; clear n0_ n1_ n2_));replace ab := rD ab;replace aa := bD aa;replace HB := aM (below_drew1 HB.out);obtain ⟨aF, aD, am⟩ := Kd.R_slice ab.out;(first | subst am | (injection am with f1_ f2_ f3_; have f4_ := f1_.symm; have f5_ := f3_.symm; clear f1_ f2_ f3_; subst f4_; subst f5_));refine start_ (n := 18) (S := fun w' => True) (ds := []) (Array.replicate 18 false) (by kernel_rfl) rfl rfl trivial (fun hHeld => ?_); refine with_tabW spec_ManOk.tab10 spec_ManOk.bits10 (fun HT_ HW_ => ?_);generalize wq2.drew = wq3 at ab aa HB hHeld ⊢;refine ppq 0 74 ?_;refine ppq 1 75 ?_;refine ppq 2 76 ?_;refine ppq 3 77 ?_;refine ppq 4 78 ?_;refine ppq 5 79 ?_;refine ppq 6 80 ?_;exact Yq20_2
        ·replace aE := bF aE;subst aE;replace H := ifF H;obtain rfl := oI H;try go_wp2_with (first | ((with_reducible refine gate_callee (f := 80) rfl ?_); refine gL (some 71) Tryz.func80 #[.int .i64 ae, .int .i64 ad, .int .i64 xq2] ?_; (with_reducible refine (spec_SpanOf.calls Aq2.out).mono ?_); rintro e w' ⟨rfl, ⟨nd, rfl⟩⟩; refine ⟨_, rfl, ?_⟩))
         (try (rw [drewN_self wq2]; generalize hq_ : World.drewN wq2 _ = wq2; have n0_ : Aside0 (Kd.R (Kd.int .u8) 5 wq2 w.heap.size (fun _ => True) vq3 tq1) := ⟨by rw [← hq_]; exact (TRf ab)⟩; have n1_ : Aside0 (wq2.heap[aj]? = some (.cells #[.int .i64 af, .int .i64 ae, .int .i64 ad, .slice (some aA) ac.length ag] 26 (0, 0))) := ⟨by rw [← hq_]; exact TK⟩; have n2_ : Aside0 (Below w.heap.size w wq2) := ⟨by rw [← hq_]; exact TB⟩; clear ab aa HB hq_; have ab := n0_; have aa := n1_; have HB := n2_; clear n0_ n1_ n2_));replace ab := rD ab;replace aa := bD aa;replace HB := aM (below_drew1 HB.out);refine start_ (n := 18) (S := fun w' => True) (ds := []) (Array.replicate 18 false) (by kernel_rfl) rfl rfl trivial (fun hHeld => ?_); refine with_tabW spec_ManOk.tab10 spec_ManOk.bits10 (fun HT_ HW_ => ?_);generalize wq2.drew = wq3 at ab aa HB hHeld ⊢;refine ppq 0 74 ?_;refine ppq 1 75 ?_;refine ppq 2 76 ?_;refine pxq 3 77 ?_;refine pxq 4 78 ?_;refine pxq 5 79 ?_;refine pxq 6 80 ?_;exact Yq20_2
       ·rw [if_neg aB] at H;have cq17 : decide (xq2 < (ac.length : Int)) = false := decide_eq_false aB;clear aB;obtain rfl := oI H;obtain ⟨a7, aQ, bc, aZ⟩ := cz4 aa.out;obtain ⟨a9, aS, aT, bd⟩ := fz4 aa.out;go_wp2
        go_ret
        exact ⟨TE, TB⟩
end Go.Proofs.YtanpaipapcjpoaaGreatDoor.Q
