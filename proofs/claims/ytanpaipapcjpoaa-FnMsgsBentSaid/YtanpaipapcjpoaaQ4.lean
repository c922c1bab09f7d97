/- Functions of the program as plain Lean functions, and that a call of each comes to what its function tells. Written by a program of this seat. -/
import Derived.Test.YtanpaipapcjpoaaQ0
import Derived.Test.YtanpaipapcjpoaaQ1
import Derived.Test.YtanpaipapcjpoaaQ2
import Derived.Test.YtanpaipapcjpoaaQ3
namespace Go.Proofs.Ytanpaipapcjpoaa.Q
open Go.RowKit Go.Proofs.YtanpaipapcjpoaaW.PrintWords Go.Proofs.YtanpaipapcjpoaaW.PrintLast Go.Proofs.YtanpaipapcjpoaaW.PrintMore
attribute [local go_sem] min2_int min_two
set_option linter.unusedVariables false
set_option linter.unusedSimpArgs false

attribute [local go_sem high] eqA83
mutual
def spec_ManOk.j0 : Nat → Bool → Int → Int → Int → List (S83) → Option (Bool)
  | 0, _, _, _, _, _ => none
  | k + 1, x47, x132000, x132001, x132002, x132003 => if x47 = true then (some false) else (spec_ManOk.l0 k 0 x132000 x132001 x132002 x132003)
def spec_ManOk.l0 : Nat → Int → Int → Int → Int → List (S83) → Option (Bool)
  | 0, _, _, _, _, _ => none
  | k + 1, x3, x132000, x132001, x132002, x132003 => if x3 < (x132003.length : Int) then (if 0 ≤ x3 then ((spec_BytesOf.f k ((rd_T83 x132003 x3).f1)).bind fun bt136 => ((spec_SpanOf.f x132001 x132002 x3).bind fun bt140 => (if bt136.2 = true then (if (bt136.1.length : Int) = bt140.2 then ((spec_SumOf.f k bt136.1).bind fun bt142 => (if (!(bt142.1 == ((rd_T83 x132003 x3).f0)) || (!(bt142.2 == ((rd_T83 x132003 x3).f1)))) = true then (some false) else (spec_ManOk.l0 k (wrap64 (x3 + 1)) x132000 x132001 x132002 x132003))) else (some false)) else (some false)))) else (none)) else (some true)
end
def spec_ManOk.f (k : Nat) (a0_0 : Int) (a0_1 : Int) (a0_2 : Int) (l0_3 : List (S83)) : Option (Bool) := if a0_0 = 0 then (if a0_1 = 0 then (if a0_2 = 0 then (some ((l0_3.length : Int) == 0)) else (some false)) else (some false)) else ((spec_l1In.f a0_0 1 1000000).bind fun t132 => (if t132 = true then ((spec_SizeOk.f a0_1 a0_2).bind fun t133 => (if t133 = true then ((spec_Blocks.f a0_1 a0_2).bind fun t134 => (spec_ManOk.j0 k ((l0_3.length : Int) != t134) a0_0 a0_1 a0_2 l0_3)) else (spec_ManOk.j0 k true a0_0 a0_1 a0_2 l0_3))) else (spec_ManOk.j0 k true a0_0 a0_1 a0_2 l0_3)))
theorem spec_ManOk.mono_l : ∀ k, (∀ y0 y1 y2 y3 y4, LeO (spec_ManOk.j0 k y0 y1 y2 y3 y4) (spec_ManOk.j0 (k + 1) y0 y1 y2 y3 y4)) ∧ (∀ y0 y1 y2 y3 y4, LeO (spec_ManOk.l0 k y0 y1 y2 y3 y4) (spec_ManOk.l0 (k + 1) y0 y1 y2 y3 y4))
  | 0 => ⟨fun _ _ _ _ _ r h => by simp [spec_ManOk.j0] at h, fun _ _ _ _ _ r h => by simp [spec_ManOk.l0] at h⟩
  | k + 1 => by
    have m0_ := @spec_BytesOf.mono
    have m1_ := @spec_SumOf.mono
    obtain ⟨ih0, ih1⟩ := spec_ManOk.mono_l k
    refine ⟨?_, ?_⟩
    · intro y0 y1 y2 y3 y4
      unfold spec_ManOk.j0
      exact LM
    · intro y0 y1 y2 y3 y4
      unfold spec_ManOk.l0
      exact LM
theorem spec_ManOk.mono : ∀ a0 a1 a2 a3 k, LeO (spec_ManOk.f k a0 a1 a2 a3) (spec_ManOk.f (k + 1) a0 a1 a2 a3) := by
  intro a0 a1 a2 a3 k;have m0_ := @spec_BytesOf.mono;have m1_ := @spec_SumOf.mono;obtain ⟨ih0, ih1⟩ := spec_ManOk.mono_l k;unfold spec_ManOk.f;exact LM
def spec_ManOk.T3 : Bool × List (List Nat × List Nat) := (true, [([], []), ([0], [0]), ([1], [1]), ([2], [2]), ([3, 2], [3]), ([4], [4]), ([5, 4], [4, 5]), ([4], [4]), ([7, 4], [4, 7]), ([6, 8, 4, 4], [4, 6, 8]), ([9, 4], [4, 9]), ([4, 10], [4, 10]), ([11, 9], [11]), ([12], [12]), ([13, 12], [12, 13]), ([14, 12], [12, 14]), ([12], [12]), ([16, 12], [12, 16]), ([12], [12]), ([18, 12], [12, 18]), ([17, 19, 12, 12], [12, 17, 19]), ([15, 20, 12], [12, 15, 20]), ([12, 21], [12, 21])])
def spec_ManOk.B3 : List Nat := [0, 1, 3, 7, 15, 31, 63, 31, 159, 511, 1023, 2047, 4095, 8191, 16383, 32767, 8191, 73727, 8191, 270335, 991231, 2097151, 4194303]
theorem spec_ManOk.tab3 : rtab .any (opsOf Try.f50 3) = spec_ManOk.T3 := by kernel_rfl
theorem spec_ManOk.bits3 : waitsOk spec_ManOk.T3.2 spec_ManOk.B3 = true := by kernel_rfl
def spec_ManOk.T10 : Bool × List (List Nat × List Nat) := (true, [([], []), ([0], [0]), ([1], [1]), ([2], [2]), ([3, 2], [2, 3]), ([2], [2]), ([4, 5, 2], [2, 4, 5]), ([2, 6], [2, 6]), ([7, 2], [7]), ([8], [8]), ([9, 8, 8], [8, 9]), ([8], [8]), ([11, 8], [8, 11]), ([8], [8]), ([12, 13, 8], [8, 12, 13]), ([14, 8], [8, 14]), ([10, 15, 8], [8, 10, 15]), ([8, 16], [8, 16])])
def spec_ManOk.B10 : List Nat := [0, 1, 3, 7, 15, 7, 63, 127, 255, 511, 1023, 511, 2559, 511, 14847, 31231, 65535, 131071]
theorem spec_ManOk.tab10 : rtab .any (opsOf Try.f50 10) = spec_ManOk.T10 := by kernel_rfl
theorem spec_ManOk.bits10 : waitsOk spec_ManOk.T10.2 spec_ManOk.B10 = true := by kernel_rfl
set_option maxHeartbeats 40000000 in
set_option maxRecDepth 100000 in
theorem spec_ManOk.calls (k : Nat) (ah : Int) (ae : Int) (af : Int) (ap : Option Addr) (al : Nat) (ad : List (S83)) (r : Bool) (w : World) (bq : Kd.C k83 w ap ad.length ad) (bp : ad.length ≤ al) (h : spec_ManOk.f k ah ae af ad = some r) :
  Calls Try.prog 50 #[.agg #[.int .i64 ah, .int .i64 ae, .int .i64 af, .slice ap ad.length al]] w fun e w' => e = .returned (.bool r) ∧ Below w.heap.size w w' := by
 have hu25 := Try.underlying25;have hu83 := Try.underlying83;have aU := aM bq;have HC0_3 := aM bp;clear bq bp;have HB := aM (Below.refl w.heap.size w);have H := h;clear h;unfold spec_ManOk.f at H
 by_cases c2 : ah = 0
 ·rw [if_pos c2] at H;have bo : (ah == 0) = true := beq_iff_eq.mpr c2;have bk : (ah != 0) = false := bne_eq_false_iff_eq.mpr c2;clear c2
  by_cases c3 : ae = 0
  ·rw [if_pos c3] at H;have bi : (ae == 0) = true := beq_iff_eq.mpr c3;have bl : (ae != 0) = false := bne_eq_false_iff_eq.mpr c3;clear c3
   by_cases c4 : af = 0
   ·rw [if_pos c4] at H;have bj : (af == 0) = true := beq_iff_eq.mpr c4;have bg : (af != 0) = false := bne_eq_false_iff_eq.mpr c4;clear c4;obtain rfl := Option.some.inj H;go_enter Try.func50, Try.ntmps50;go_wp2_with (first | ((with_reducible refine gate_dst (N := 1) rfl ?_); (try (refine gate_guard (by rfl) ?_; dsimp only)); refine gBx 1 #[.int .i64 ah, .int .i64 ae, .int .i64 af, .slice ap ad.length al] 25 ?_; intro ag hg w5 hbox hb; have aa := aM (hbox); have GW131 := gW HB hg; have GE131 := gW HB hg; replace HB := bS HB hb; clear hb hbox hg; obtain ⟨a9, be, bd, a6⟩ := cz4 aa.out; obtain ⟨a5, aW, a4, a7⟩ := fz4 aa.out))
    go_ret
    exact ⟨TE, TB⟩
   ·rw [if_neg c4] at H;have bj : (af == 0) = false := beq_eq_false_iff_ne.mpr c4;have bg : (af != 0) = true := bne_iff_ne.mpr c4;obtain rfl := Option.some.inj H;go_enter Try.func50, Try.ntmps50;go_wp2_with (first | ((with_reducible refine gate_dst (N := 1) rfl ?_); (try (refine gate_guard (by rfl) ?_; dsimp only)); refine gBx 1 #[.int .i64 ah, .int .i64 ae, .int .i64 af, .slice ap ad.length al] 25 ?_; intro ag hg w7 hbox hb; have aa := aM (hbox); have GW131 := gW HB hg; have GE131 := gW HB hg; replace HB := bS HB hb; clear hb hbox hg; obtain ⟨aX, aY, bb, aV⟩ := cz4 aa.out; obtain ⟨ba, aZ, bc, a8⟩ := fz4 aa.out))
    go_ret
    exact ⟨TE, TB⟩
  ·rw [if_neg c3] at H;have bi : (ae == 0) = false := beq_eq_false_iff_ne.mpr c3;have bl : (ae != 0) = true := bne_iff_ne.mpr c3;obtain rfl := Option.some.inj H;go_enter Try.func50, Try.ntmps50;go_wp2_with (first | ((with_reducible refine gate_dst (N := 1) rfl ?_); (try (refine gate_guard (by rfl) ?_; dsimp only)); refine gBx 1 #[.int .i64 ah, .int .i64 ae, .int .i64 af, .slice ap ad.length al] 25 ?_; intro ag hg w9 hbox hb; have aa := aM (hbox); have GW131 := gW HB hg; have GE131 := gW HB hg; replace HB := bS HB hb; clear hb hbox hg; obtain ⟨aN, aD, aO, aE⟩ := cz4 aa.out; obtain ⟨aA, aC, aP, aI⟩ := fz4 aa.out))
   go_ret
   exact ⟨TE, TB⟩
 ·rw [if_neg c2] at H;have bo : (ah == 0) = false := beq_eq_false_iff_ne.mpr c2;have bk : (ah != 0) = true := bne_iff_ne.mpr c2;have bm := aM H;clear H;go_enter Try.func50, Try.ntmps50;go_upto_region 3 with (first | ((with_reducible refine gate_dst (N := 1) rfl ?_); (try (refine gate_guard (by rfl) ?_; dsimp only)); refine gBx 1 #[.int .i64 ah, .int .i64 ae, .int .i64 af, .slice ap ad.length al] 25 ?_; intro ag hg w12 hbox hb; have aa := aM (hbox); have GW131 := gW HB hg; have GE131 := gW HB hg; replace HB := bS HB hb; clear hb hbox hg; obtain ⟨aQ, aF, aL, aJ⟩ := cz4 aa.out; obtain ⟨aG, aK, aH, aB⟩ := fz4 aa.out))
  (try simp only [NP])
  go_cut [47] (fun v47 wc => ∃ (kq : Nat) (av : Bool), v47 = .bool av ∧ Aside0 (spec_ManOk.j0 kq av ah ae af ad = some r) ∧ Aside0 (kq ≤ k) ∧ Aside0 (wc.heap[ag]? = some (.cells #[.int .i64 ah, .int .i64 ae, .int .i64 af, (.slice ap ad.length al)] 25 (0, 0))) ∧ Aside0 (Below w.heap.size w wc))
  case first =>
   have H := bm.out;clear bm;replace H := bE H;obtain ⟨t132, A14, H⟩ := H
   by_cases c15 : t132 = true
   ·subst c15;replace H := ifT H;replace H := bE H;obtain ⟨t133, A16, H⟩ := H
    by_cases c17 : t133 = true
    ·subst c17;replace H := ifT H;replace H := bE H;obtain ⟨t134, A18, H⟩ := H;have H' := aM H;clear H;try go_wp2
     replace aa := bD aa;replace HB := aM (below_drew1 HB.out);refine start_ (n := 23) (S := fun w' => w'.cell? ⟨ag, 0, none⟩ = some (.int .i64 ah) ∧ w'.cell? ⟨ag, 1, none⟩ = some (.int .i64 ae) ∧ w'.cell? ⟨ag, 2, none⟩ = some (.int .i64 af) ∧ w'.cell? ⟨ag, 3, none⟩ = some (.slice ap ad.length al)) (ds := []) (Array.replicate 23 false) (by kernel_rfl) rfl rfl (cz4 aa.out) (fun hHeld => ?_); refine with_tabW spec_ManOk.tab3 spec_ManOk.bits3 (fun HT_ HW_ => ?_);generalize w12.drew = w19 at aa HB hHeld ⊢;refine pP 0 (some 25) ?_;refine pT 1 (some 26) ?_;refine pO 2 (some 27) (fun K hK => ?_);refine gG Try.func51 #[.int .i64 ah, .int .i64 1, .int .i64 1000000] ?_;with_reducible refine (spec_l1In.calls ah 1 1000000 true _ A14.out).mono ?_
     rintro e w' ⟨rfl, ⟨nd, rfl⟩⟩;refine ⟨_, rfl, ?_⟩;refine hK.out _ _ (cz4 aa.out) (fun hHeld => ?_);clear hK K;refine nR ?_;refine pP 3 (some 28) ?_;refine pP 4 (some 29) ?_;refine pP 5 (some 30) ?_;refine pP 7 (some 32) ?_;refine pT 6 (some 31) ?_;refine pT 8 (some 33) ?_;refine pO 9 (some 34) (fun K hK => ?_);refine gG Try.func86 #[.int .i64 ae, .int .i64 af] ?_;with_reducible refine (spec_SizeOk.calls ae af true _ A16.out).mono ?_
     rintro e w' ⟨rfl, ⟨nd, rfl⟩⟩;refine ⟨_, rfl, ?_⟩;refine hK.out _ _ (cz4 aa.out) (fun hHeld => ?_);clear hK K;refine nR ?_;refine pP 10 (some 35) ?_;refine pP 11 (some 36) ?_;refine pP 12 (some 37) ?_;refine pP 13 (some 38) ?_;refine pP 16 (some 41) ?_;refine pP 18 (some 43) ?_;refine pT 14 (some 39) ?_;refine pP 15 (some 40) ?_;refine pT 17 (some 42) ?_;refine pT 19 (some 44) ?_;refine pO 20 (some 45) (fun K hK => ?_);refine gG Try.func81 #[.int .i64 ae, .int .i64 af] ?_;with_reducible refine (spec_Blocks.calls ae af t134 _ A18.out).mono ?_
     rintro e w' ⟨rfl, ⟨nd, rfl⟩⟩;refine ⟨_, rfl, ?_⟩;refine hK.out _ _ (cz4 aa.out) (fun hHeld => ?_);clear hK K;refine nR ?_;refine pP 21 (some 46) ?_;refine pP 22 (some 47) ?_;refine done_ (done_of HT_.out (by kernel_rfl)) ?_;try go_wp2
     go_meet
     case rel => exact ⟨_, (((ad.length : Int) != t134)), TF, H', ⟨by first | omega | exact Nat.le_refl _⟩, ⟨TK⟩, ⟨TB⟩⟩
    ·replace c17 := Bool.eq_false_iff.mpr c17;subst c17;replace H := ifF H;have H' := aM H;clear H;try go_wp2
     replace aa := bD aa;replace HB := aM (below_drew1 HB.out);refine start_ (n := 23) (S := fun w' => w'.cell? ⟨ag, 0, none⟩ = some (.int .i64 ah) ∧ w'.cell? ⟨ag, 1, none⟩ = some (.int .i64 ae) ∧ w'.cell? ⟨ag, 2, none⟩ = some (.int .i64 af) ∧ w'.cell? ⟨ag, 3, none⟩ = some (.slice ap ad.length al)) (ds := []) (Array.replicate 23 false) (by kernel_rfl) rfl rfl (cz4 aa.out) (fun hHeld => ?_); refine with_tabW spec_ManOk.tab3 spec_ManOk.bits3 (fun HT_ HW_ => ?_);generalize w12.drew = w20 at aa HB hHeld ⊢;refine pP 0 (some 25) ?_;refine pT 1 (some 26) ?_;refine pO 2 (some 27) (fun K hK => ?_);refine gG Try.func51 #[.int .i64 ah, .int .i64 1, .int .i64 1000000] ?_;with_reducible refine (spec_l1In.calls ah 1 1000000 true _ A14.out).mono ?_
     rintro e w' ⟨rfl, ⟨nd, rfl⟩⟩;refine ⟨_, rfl, ?_⟩;refine hK.out _ _ (cz4 aa.out) (fun hHeld => ?_);clear hK K;refine nR ?_;refine pP 3 (some 28) ?_;refine pP 4 (some 29) ?_;refine pP 5 (some 30) ?_;refine pP 7 (some 32) ?_;refine pT 6 (some 31) ?_;refine pT 8 (some 33) ?_;refine pO 9 (some 34) (fun K hK => ?_);refine gG Try.func86 #[.int .i64 ae, .int .i64 af] ?_;with_reducible refine (spec_SizeOk.calls ae af false _ A16.out).mono ?_
     rintro e w' ⟨rfl, ⟨nd, rfl⟩⟩;refine ⟨_, rfl, ?_⟩;refine hK.out _ _ (cz4 aa.out) (fun hHeld => ?_);clear hK K;refine nR ?_;refine pP 10 (some 35) ?_;refine pP 11 (some 36) ?_;refine pP 12 (some 37) ?_;refine pX 13 (some 38) ?_;refine pX 14 (some 39) ?_;refine pX 15 (some 40) ?_;refine pX 16 (some 41) ?_;refine pX 17 (some 42) ?_;refine pX 18 (some 43) ?_;refine pX 19 (some 44) ?_;refine pX 20 (some 45) ?_;refine pX 21 (some 46) ?_;refine pP 22 (some 47) ?_;refine done_ (done_of HT_.out (by kernel_rfl)) ?_;try go_wp2
     go_meet
     case rel => exact ⟨_, (true), TF, H', ⟨by first | omega | exact Nat.le_refl _⟩, ⟨TK⟩, ⟨TB⟩⟩
   ·replace c15 := Bool.eq_false_iff.mpr c15;subst c15;replace H := ifF H;have H' := aM H;clear H;try go_wp2
    replace aa := bD aa;replace HB := aM (below_drew1 HB.out);refine start_ (n := 23) (S := fun w' => w'.cell? ⟨ag, 0, none⟩ = some (.int .i64 ah) ∧ w'.cell? ⟨ag, 1, none⟩ = some (.int .i64 ae) ∧ w'.cell? ⟨ag, 2, none⟩ = some (.int .i64 af) ∧ w'.cell? ⟨ag, 3, none⟩ = some (.slice ap ad.length al)) (ds := []) (Array.replicate 23 false) (by kernel_rfl) rfl rfl (cz4 aa.out) (fun hHeld => ?_); refine with_tabW spec_ManOk.tab3 spec_ManOk.bits3 (fun HT_ HW_ => ?_);generalize w12.drew = w21 at aa HB hHeld ⊢;refine pP 0 (some 25) ?_;refine pT 1 (some 26) ?_;refine pO 2 (some 27) (fun K hK => ?_);refine gG Try.func51 #[.int .i64 ah, .int .i64 1, .int .i64 1000000] ?_;with_reducible refine (spec_l1In.calls ah 1 1000000 false _ A14.out).mono ?_
    rintro e w' ⟨rfl, ⟨nd, rfl⟩⟩;refine ⟨_, rfl, ?_⟩;refine hK.out _ _ (cz4 aa.out) (fun hHeld => ?_);clear hK K;refine nR ?_;refine pP 3 (some 28) ?_;refine pP 4 (some 29) ?_;refine pX 5 (some 30) ?_;refine pX 6 (some 31) ?_;refine pX 7 (some 32) ?_;refine pX 8 (some 33) ?_;refine pX 9 (some 34) ?_;refine pX 10 (some 35) ?_;refine pP 11 (some 36) ?_;refine pP 12 (some 37) ?_;refine pX 13 (some 38) ?_;refine pX 14 (some 39) ?_;refine pX 15 (some 40) ?_;refine pX 16 (some 41) ?_;refine pX 17 (some 42) ?_;refine pX 18 (some 43) ?_;refine pX 19 (some 44) ?_;refine pX 20 (some 45) ?_;refine pX 21 (some 46) ?_;refine pP 22 (some 47) ?_;refine done_ (done_of HT_.out (by kernel_rfl)) ?_;try go_wp2
    go_meet
    case rel => exact ⟨_, (true), TF, H', ⟨by first | omega | exact Nat.le_refl _⟩, ⟨TK⟩, ⟨TB⟩⟩
  case rest =>
   clear bm;try clear c1
   try clear c2
   try clear bo
   try clear bk
   try clear p2
   try clear c3
   try clear bi
   try clear bl
   try clear c4
   try clear bj
   try clear bg
   try clear c5
   try clear c8
   try clear c15
   try clear c17
   try clear aN
   try clear aD
   try clear aO
   try clear aE
   try clear aQ
   try clear aF
   try clear aL
   try clear aJ
   try clear a9
   try clear be
   try clear bd
   try clear a6
   try clear aX
   try clear aY
   try clear bb
   try clear aV
   try clear aA
   try clear aC
   try clear aP
   try clear aI
   try clear aG
   try clear aK
   try clear aH
   try clear aB
   try clear a5
   try clear aW
   try clear a4
   try clear a7
   try clear ba
   try clear aZ
   try clear bc
   try clear a8
   obtain ⟨kq, av, rfl, HA, HJ10, aa, HB⟩ := hcut;cases kq with
   | zero => exact absurd HA.out (by simp [spec_ManOk.j0])
   | succ kj10 =>
    have H := HA.out;clear HA;simp only [spec_ManOk.j0] at H
    by_cases c22 : av = true
    ·subst c22;replace H := ifT H;obtain rfl := Option.some.inj H;go_wp2
     go_ret
     exact ⟨TE, TB⟩
    ·replace c22 := Bool.eq_false_iff.mpr c22;subst c22;replace H := ifF H;have H' := aM H;clear H;go_wp2
     go_loopg [3] kj10 (fun kq v3 w' => ∃ (ac : Int), v3 = .int .i64 ac ∧ Aside0 (spec_ManOk.l0 kq ac ah ae af ad = some r) ∧ Aside0 (kq ≤ kj10) ∧ Aside0 (w'.heap[ag]? = some (.cells #[.int .i64 ah, .int .i64 ae, .int .i64 af, (.slice ap ad.length al)] 25 (0, 0))) ∧ Aside0 (Below w.heap.size w w'))
     case atStart => exact ⟨(0), TF, H', ⟨Nat.le_refl _⟩, ⟨TK⟩, ⟨TB⟩⟩
     case round =>
      clear H';try clear c1
      try clear c2
      try clear bo
      try clear bk
      try clear p2
      try clear c3
      try clear bi
      try clear bl
      try clear c4
      try clear bj
      try clear bg
      try clear c5
      try clear c8
      try clear c15
      try clear c17
      try clear c22
      try clear aN
      try clear aD
      try clear aO
      try clear aE
      try clear aQ
      try clear aF
      try clear aL
      try clear aJ
      try clear a9
      try clear be
      try clear bd
      try clear a6
      try clear aX
      try clear aY
      try clear bb
      try clear aV
      try clear aA
      try clear aC
      try clear aP
      try clear aI
      try clear aG
      try clear aK
      try clear aH
      try clear aB
      try clear a5
      try clear aW
      try clear a4
      try clear a7
      try clear ba
      try clear aZ
      try clear bc
      try clear a8
      try clear p2
      obtain ⟨ac, rfl, HA, HK2, aa, HB⟩ := hrel;cases gk with
      | zero => exact absurd HA.out (by simp [spec_ManOk.l0])
      | succ k2 =>
       have H := HA.out;clear HA;simp only [spec_ManOk.l0] at H
       by_cases c23 : ac < (ad.length : Int)
       ·rw [if_pos c23] at H;have c23b0 : decide (ac < (ad.length : Int)) = true := decide_eq_true c23;clear c23;replace H := ifN H;obtain ⟨c24, H⟩ := H;have c24b0 : decide (0 ≤ ac) = true := decide_eq_true c24;clear c24;replace H := bE H;obtain ⟨⟨ao, t137⟩, A25, H⟩ := H;dsimp only at H;replace H := bE H;obtain ⟨⟨aS, aq⟩, A26, H⟩ := H;dsimp only at H;obtain ⟨hcz28_0, hcz28_1, hcz28_2, hcz28_3⟩ := cz4 aa.out;obtain ⟨hfz28_0, hfz28_1, hfz28_2, hfz28_3⟩ := fz4 aa.out;have bf : 0 ≤ (ac : Int) := DT;have bn : ac < (ad.length : Int) := DT;obtain ⟨ak, e135, aw, ax⟩ := at_T83 aU.out ac bf bn;cases e135;replace aw := (HB.out.cell (World.block_lt_of_cell? w _ aw)).trans aw;replace ax := (HB.out.cell (World.block_lt_of_cell? w _ ax)).trans ax;replace bf := eq_true bf;replace bn := eq_true bn;go_wp2_with (first | ((with_reducible refine gate_callee (f := 83) rfl ?_); refine gL (some 62) Try.func83 #[.int .i64 ((rd_T83 ad ac).f1)] ?_; (with_reducible refine (spec_BytesOf.calls k2 ((rd_T83 ad ac).f1) ao t137 _ A25.out).mono ?_); rintro e w29 ⟨aR, rfl, ho0, hb⟩; refine ⟨_, rfl, ?_⟩; have ab := aM (Kd.R_lower ho0 (below_size TB)); replace aa := mB aa hb; replace HB := bS HB hb; clear ho0 hb; obtain ⟨hcz30_0, hcz30_1, hcz30_2, hcz30_3⟩ := cz4 aa.out; obtain ⟨hfz30_0, hfz30_1, hfz30_2, hfz30_3⟩ := fz4 aa.out) | ((with_reducible refine gate_callee (f := 87) rfl ?_); (with_reducible refine gate_dst (N := 71) rfl ?_); generalize hG_ : wpList _ _ _ _ _ _ = G_))
        subst hG_
        by_cases c31 : t137 = true
        ·subst c31;replace H := ifT H
         by_cases c32 : (ao.length : Int) = aq
         ·rw [if_pos c32] at H;have c32b0 : ((ao.length : Int) == aq) = true := beq_iff_eq.mpr c32;have c32b1 : ((ao.length : Int) != aq) = false := bne_eq_false_iff_eq.mpr c32;clear c32;replace H := bE H;obtain ⟨⟨ay, az⟩, A33, H⟩ := H;dsimp only at H
          by_cases c34 : (!(ay == ((rd_T83 ad ac).f0)) || (!(az == ((rd_T83 ad ac).f1)))) = true
          ·rw [if_pos c34] at H;have c34b0 : (!(ay == ((rd_T83 ad ac).f0)) || (!(az == ((rd_T83 ad ac).f1)))) = true := c34;clear c34;obtain rfl := Option.some.inj H;try go_wp2_with (first | ((with_reducible refine gate_callee (f := 87) rfl ?_); refine gL (some 71) Try.func87 #[.int .i64 ae, .int .i64 af, .int .i64 ac] ?_; (with_reducible refine (spec_SpanOf.calls ae af ac aS aq _ A26.out).mono ?_); rintro e w' ⟨rfl, ⟨nd, rfl⟩⟩; refine ⟨_, rfl, ?_⟩))
           (try (rw [drewN_self w29]; generalize hq_ : World.drewN w29 _ = w29; have n0_ : Aside0 (Kd.R (Kd.int .u8) 5 w29 w.heap.size (fun _ => True) aR ao) := ⟨by rw [← hq_]; exact (TRf ab)⟩; have n1_ : Aside0 (w29.heap[ag]? = some (.cells #[.int .i64 ah, .int .i64 ae, .int .i64 af, .slice (some ak) ad.length al] 25 (0, 0))) := ⟨by rw [← hq_]; exact TK⟩; have n2_ : Aside0 (Below w.heap.size w w29) := ⟨by rw [← hq_]; exact TB⟩; clear ab aa HB hq_; have ab := n0_; have aa := n1_; have HB := n2_; clear n0_ n1_ n2_));replace ab := rD ab;replace aa := bD aa;replace HB := aM (below_drew1 HB.out);obtain ⟨Ao36, co36, eo36⟩ := Kd.R_slice ab.out;(first | subst eo36 | (injection eo36 with f1_ f2_ f3_; have f4_ := f1_.symm; have f5_ := f3_.symm; clear f1_ f2_ f3_; subst f4_; subst f5_));have ar : 0 ≤ (ac : Int) := DT;have au : ac < (ad.length : Int) := DT;obtain ⟨aT, bh, ai, aj⟩ := at_T83 aU.out ac ar au;have an := aj;have am := ai;obtain rfl : ak = aT := (by injection bh);replace ai := (HB.out.cell (World.block_lt_of_cell? w _ ai)).trans ai;replace aj := (HB.out.cell (World.block_lt_of_cell? w _ aj)).trans aj;replace ar := eq_true ar;replace au := eq_true au;refine start_ (n := 18) (S := fun w' => w'.cell? ⟨ag, 0, none⟩ = some (.int .i64 ah) ∧ w'.cell? ⟨ag, 1, none⟩ = some (.int .i64 ae) ∧ w'.cell? ⟨ag, 2, none⟩ = some (.int .i64 af) ∧ w'.cell? ⟨ag, 3, none⟩ = some (.slice (some ak) ad.length al) ∧ w'.cell? (ak.add ((ac).toNat * 2)) = some (.int .i64 ((rd_T83 ad ac).f0)) ∧ w'.cell? ⟨(ak.add ((ac).toNat * 2)).block, (ak.add ((ac).toNat * 2)).off + 1, none⟩ = some (.int .i64 ((rd_T83 ad ac).f1))) (ds := []) (Array.replicate 18 false) (by kernel_rfl) rfl rfl ⟨bC aa 0, bC aa 1, bC aa 2, bC aa 3, ((HB.out.cell (World.block_lt_of_cell? w _ am)).trans am), ((HB.out.cell (World.block_lt_of_cell? w _ an)).trans an)⟩ (fun hHeld => ?_); refine with_tabW spec_ManOk.tab10 spec_ManOk.bits10 (fun HT_ HW_ => ?_);generalize w29.drew = w35 at ab aa HB ai aj hHeld ⊢;refine pP 0 (some 74) ?_;refine pP 1 (some 75) ?_;refine pP 2 (some 76) ?_;refine pP 3 (some 77) ?_;refine pP 4 (some 78) ?_;refine pP 5 (some 79) ?_;refine pP 6 (some 80) ?_;refine pP 7 (some 81) ?_;refine pP 8 (some 82) ?_;refine pP 9 (some 83) ?_;refine pP 11 (some 85) ?_;refine pP 13 (some 87) ?_;refine pT 12 (some 86) ?_;refine pP 14 (some 88) ?_;refine pT 15 (some 89) ?_;refine pO 10 (some 84) (fun K hK => ?_);refine gG Try.func84 #[.slice Ao36 ao.length co36] ?_;with_reducible refine (spec_SumOf.calls k2 _ _ ao ay az _ ?side1 ?side2 A33.out).mono ?_
           (case side1 => have X_ := (Kd.R_reads' ab.out).2.2; exact TC);(case side2 => exact (Kd.R_reads' ab.out).2.1);rintro e w37 ⟨rfl, hb⟩;refine ⟨_, rfl, ?_⟩;replace ab := mR ab hb;replace aa := mB aa hb;replace HB := bS HB hb;(try clear hb);(try clear hb2);(try clear hk);(try clear hi);refine hK.out _ _ ⟨bC aa 0, bC aa 1, bC aa 2, bC aa 3, ((HB.out.cell (World.block_lt_of_cell? w _ am)).trans am), ((HB.out.cell (World.block_lt_of_cell? w _ an)).trans an)⟩ (fun hHeld => ?_);clear hK K;refine nR ?_;refine pP 16 (some 90) ?_;refine pP 17 (some 91) ?_;refine done_ (done_of HT_.out (by kernel_rfl)) ?_;try go_wp2
           go_ret
           exact ⟨TE, TB⟩
          ·rw [if_neg c34] at H;have c34b0 : (!(ay == ((rd_T83 ad ac).f0)) || (!(az == ((rd_T83 ad ac).f1)))) = false := by simpa using c34
           clear c34;have H' := aM H;clear H;try go_wp2_with (first | ((with_reducible refine gate_callee (f := 87) rfl ?_); refine gL (some 71) Try.func87 #[.int .i64 ae, .int .i64 af, .int .i64 ac] ?_; (with_reducible refine (spec_SpanOf.calls ae af ac aS aq _ A26.out).mono ?_); rintro e w' ⟨rfl, ⟨nd, rfl⟩⟩; refine ⟨_, rfl, ?_⟩))
           (try (rw [drewN_self w29]; generalize hq_ : World.drewN w29 _ = w29; have n0_ : Aside0 (Kd.R (Kd.int .u8) 5 w29 w.heap.size (fun _ => True) aR ao) := ⟨by rw [← hq_]; exact (TRf ab)⟩; have n1_ : Aside0 (w29.heap[ag]? = some (.cells #[.int .i64 ah, .int .i64 ae, .int .i64 af, .slice (some ak) ad.length al] 25 (0, 0))) := ⟨by rw [← hq_]; exact TK⟩; have n2_ : Aside0 (Below w.heap.size w w29) := ⟨by rw [← hq_]; exact TB⟩; clear ab aa HB hq_; have ab := n0_; have aa := n1_; have HB := n2_; clear n0_ n1_ n2_));replace ab := rD ab;replace aa := bD aa;replace HB := aM (below_drew1 HB.out);obtain ⟨Ao39, co39, eo39⟩ := Kd.R_slice ab.out;(first | subst eo39 | (injection eo39 with f1_ f2_ f3_; have f4_ := f1_.symm; have f5_ := f3_.symm; clear f1_ f2_ f3_; subst f4_; subst f5_));have ar : 0 ≤ (ac : Int) := DT;have au : ac < (ad.length : Int) := DT;obtain ⟨aT, bh, ai, aj⟩ := at_T83 aU.out ac ar au;have an := aj;have am := ai;obtain rfl : ak = aT := (by injection bh);replace ai := (HB.out.cell (World.block_lt_of_cell? w _ ai)).trans ai;replace aj := (HB.out.cell (World.block_lt_of_cell? w _ aj)).trans aj;replace ar := eq_true ar;replace au := eq_true au;refine start_ (n := 18) (S := fun w' => w'.cell? ⟨ag, 0, none⟩ = some (.int .i64 ah) ∧ w'.cell? ⟨ag, 1, none⟩ = some (.int .i64 ae) ∧ w'.cell? ⟨ag, 2, none⟩ = some (.int .i64 af) ∧ w'.cell? ⟨ag, 3, none⟩ = some (.slice (some ak) ad.length al) ∧ w'.cell? (ak.add ((ac).toNat * 2)) = some (.int .i64 ((rd_T83 ad ac).f0)) ∧ w'.cell? ⟨(ak.add ((ac).toNat * 2)).block, (ak.add ((ac).toNat * 2)).off + 1, none⟩ = some (.int .i64 ((rd_T83 ad ac).f1))) (ds := []) (Array.replicate 18 false) (by kernel_rfl) rfl rfl ⟨bC aa 0, bC aa 1, bC aa 2, bC aa 3, ((HB.out.cell (World.block_lt_of_cell? w _ am)).trans am), ((HB.out.cell (World.block_lt_of_cell? w _ an)).trans an)⟩ (fun hHeld => ?_); refine with_tabW spec_ManOk.tab10 spec_ManOk.bits10 (fun HT_ HW_ => ?_);generalize w29.drew = w38 at ab aa HB ai aj hHeld ⊢;refine pP 0 (some 74) ?_;refine pP 1 (some 75) ?_;refine pP 2 (some 76) ?_;refine pP 3 (some 77) ?_;refine pP 4 (some 78) ?_;refine pP 5 (some 79) ?_;refine pP 6 (some 80) ?_;refine pP 7 (some 81) ?_;refine pP 8 (some 82) ?_;refine pP 9 (some 83) ?_;refine pP 11 (some 85) ?_;refine pP 13 (some 87) ?_;refine pT 12 (some 86) ?_;refine pP 14 (some 88) ?_;refine pT 15 (some 89) ?_;refine pO 10 (some 84) (fun K hK => ?_);refine gG Try.func84 #[.slice Ao39 ao.length co39] ?_;with_reducible refine (spec_SumOf.calls k2 _ _ ao ay az _ ?side1 ?side2 A33.out).mono ?_
           (case side1 => have X_ := (Kd.R_reads' ab.out).2.2; exact TC);(case side2 => exact (Kd.R_reads' ab.out).2.1);rintro e w40 ⟨rfl, hb⟩;refine ⟨_, rfl, ?_⟩;replace ab := mR ab hb;replace aa := mB aa hb;replace HB := bS HB hb;(try clear hb);(try clear hb2);(try clear hk);(try clear hi);refine hK.out _ _ ⟨bC aa 0, bC aa 1, bC aa 2, bC aa 3, ((HB.out.cell (World.block_lt_of_cell? w _ am)).trans am), ((HB.out.cell (World.block_lt_of_cell? w _ an)).trans an)⟩ (fun hHeld => ?_);clear hK K;refine nR ?_;refine pP 16 (some 90) ?_;refine pP 17 (some 91) ?_;refine done_ (done_of HT_.out (by kernel_rfl)) ?_;try go_wp2
           go_roundg k2
           case measure => have := HJ10.out; have := HK2.out; omega
           case rel => exact ⟨(wrap64 (ac + 1)), TF, H', ⟨by have := HJ10.out; have := HK2.out; omega⟩, ⟨TK⟩, ⟨TB⟩⟩
         ·rw [if_neg c32] at H;have c32b0 : ((ao.length : Int) == aq) = false := beq_eq_false_iff_ne.mpr c32;have c32b1 : ((ao.length : Int) != aq) = true := bne_iff_ne.mpr c32;obtain rfl := Option.some.inj H;try go_wp2_with (first | ((with_reducible refine gate_callee (f := 87) rfl ?_); refine gL (some 71) Try.func87 #[.int .i64 ae, .int .i64 af, .int .i64 ac] ?_; (with_reducible refine (spec_SpanOf.calls ae af ac aS aq _ A26.out).mono ?_); rintro e w' ⟨rfl, ⟨nd, rfl⟩⟩; refine ⟨_, rfl, ?_⟩))
          (try (rw [drewN_self w29]; generalize hq_ : World.drewN w29 _ = w29; have n0_ : Aside0 (Kd.R (Kd.int .u8) 5 w29 w.heap.size (fun _ => True) aR ao) := ⟨by rw [← hq_]; exact (TRf ab)⟩; have n1_ : Aside0 (w29.heap[ag]? = some (.cells #[.int .i64 ah, .int .i64 ae, .int .i64 af, .slice (some ak) ad.length al] 25 (0, 0))) := ⟨by rw [← hq_]; exact TK⟩; have n2_ : Aside0 (Below w.heap.size w w29) := ⟨by rw [← hq_]; exact TB⟩; clear ab aa HB hq_; have ab := n0_; have aa := n1_; have HB := n2_; clear n0_ n1_ n2_));replace ab := rD ab;replace aa := bD aa;replace HB := aM (below_drew1 HB.out);obtain ⟨Ao42, co42, eo42⟩ := Kd.R_slice ab.out;(first | subst eo42 | (injection eo42 with f1_ f2_ f3_; have f4_ := f1_.symm; have f5_ := f3_.symm; clear f1_ f2_ f3_; subst f4_; subst f5_));refine start_ (n := 18) (S := fun w' => True) (ds := []) (Array.replicate 18 false) (by kernel_rfl) rfl rfl trivial (fun hHeld => ?_); refine with_tabW spec_ManOk.tab10 spec_ManOk.bits10 (fun HT_ HW_ => ?_);generalize w29.drew = w41 at ab aa HB hHeld ⊢;refine pP 0 (some 74) ?_;refine pP 1 (some 75) ?_;refine pP 2 (some 76) ?_;refine pP 3 (some 77) ?_;refine pP 4 (some 78) ?_;refine pP 5 (some 79) ?_;refine pP 6 (some 80) ?_;refine pP 7 (some 81) ?_;refine pP 8 (some 82) ?_;refine pX 9 (some 83) ?_;refine pX 10 (some 84) ?_;refine pX 11 (some 85) ?_;refine pX 12 (some 86) ?_;refine pX 13 (some 87) ?_;refine pX 14 (some 88) ?_;refine pX 15 (some 89) ?_;refine pX 16 (some 90) ?_;refine pP 17 (some 91) ?_;refine done_ (done_of HT_.out (by kernel_rfl)) ?_;try go_wp2
          go_ret
          exact ⟨TE, TB⟩
        ·replace c31 := Bool.eq_false_iff.mpr c31;subst c31;replace H := ifF H;obtain rfl := Option.some.inj H;try go_wp2_with (first | ((with_reducible refine gate_callee (f := 87) rfl ?_); refine gL (some 71) Try.func87 #[.int .i64 ae, .int .i64 af, .int .i64 ac] ?_; (with_reducible refine (spec_SpanOf.calls ae af ac aS aq _ A26.out).mono ?_); rintro e w' ⟨rfl, ⟨nd, rfl⟩⟩; refine ⟨_, rfl, ?_⟩))
         (try (rw [drewN_self w29]; generalize hq_ : World.drewN w29 _ = w29; have n0_ : Aside0 (Kd.R (Kd.int .u8) 5 w29 w.heap.size (fun _ => True) aR ao) := ⟨by rw [← hq_]; exact (TRf ab)⟩; have n1_ : Aside0 (w29.heap[ag]? = some (.cells #[.int .i64 ah, .int .i64 ae, .int .i64 af, .slice (some ak) ad.length al] 25 (0, 0))) := ⟨by rw [← hq_]; exact TK⟩; have n2_ : Aside0 (Below w.heap.size w w29) := ⟨by rw [← hq_]; exact TB⟩; clear ab aa HB hq_; have ab := n0_; have aa := n1_; have HB := n2_; clear n0_ n1_ n2_));replace ab := rD ab;replace aa := bD aa;replace HB := aM (below_drew1 HB.out);refine start_ (n := 18) (S := fun w' => True) (ds := []) (Array.replicate 18 false) (by kernel_rfl) rfl rfl trivial (fun hHeld => ?_); refine with_tabW spec_ManOk.tab10 spec_ManOk.bits10 (fun HT_ HW_ => ?_);generalize w29.drew = w43 at ab aa HB hHeld ⊢;refine pP 0 (some 74) ?_;refine pP 1 (some 75) ?_;refine pP 2 (some 76) ?_;refine pX 3 (some 77) ?_;refine pX 4 (some 78) ?_;refine pX 5 (some 79) ?_;refine pX 6 (some 80) ?_;refine pP 7 (some 81) ?_;refine pP 8 (some 82) ?_;refine pX 9 (some 83) ?_;refine pX 10 (some 84) ?_;refine pX 11 (some 85) ?_;refine pX 12 (some 86) ?_;refine pX 13 (some 87) ?_;refine pX 14 (some 88) ?_;refine pX 15 (some 89) ?_;refine pX 16 (some 90) ?_;refine pP 17 (some 91) ?_;refine done_ (done_of HT_.out (by kernel_rfl)) ?_;try go_wp2
         go_ret
         exact ⟨TE, TB⟩
       ·rw [if_neg c23] at H;have c23b0 : decide (ac < (ad.length : Int)) = false := decide_eq_false c23;clear c23;obtain rfl := Option.some.inj H;obtain ⟨hcz44_0, hcz44_1, hcz44_2, hcz44_3⟩ := cz4 aa.out;obtain ⟨hfz44_0, hfz44_1, hfz44_2, hfz44_3⟩ := fz4 aa.out;go_wp2
        go_ret
        exact ⟨TE, TB⟩

end Go.Proofs.Ytanpaipapcjpoaa.Q
