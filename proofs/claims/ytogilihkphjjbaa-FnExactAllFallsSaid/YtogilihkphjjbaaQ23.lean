/- Functions of the program as plain Lean functions, and that a call of each comes to what its function tells. Written by a program of this seat. -/
import Derived.Test.YtogilihkphjjbaaQ0
import Derived.Test.YtogilihkphjjbaaQ14
import Derived.Test.YtogilihkphjjbaaQ22
namespace Go.Proofs.Ytogilihkphjjbaa.Q
open Go.RowKit Go.Proofs.YtogilihkphjjbaaW.PrintWords Go.Proofs.YtogilihkphjjbaaW.PrintLast Go.Proofs.YtogilihkphjjbaaW.PrintMore
attribute [local go_sem] max2_int min2_int max_two min_two max_three min_three max_four min_four   -- for this text's walks alone
set_option linter.unusedVariables false
set_option linter.unusedSimpArgs false

/-! ### impl_DiskOk: function 28 -/
def impl_DiskOk.f (k : Nat) (l0_0 : List Int) (l0_1 : List Int) (a0_2 : Int) (a0_3 : Int) (a0_4 : Int) (l0_5 : List (S55)) : Option (Bool) := if (l0_0.length : Int) > 240 then (some false) else (if (l0_1.length : Int) > 240 then (some false) else ((impl_isRecord.f a0_2 a0_3 a0_4).bind fun t329 => (if t329 = true then (if a0_3 = 0 then ((impl_Disk_slot.f a0_3 0).bind fun _ => (if a0_4 > (l0_0.length : Int) then (some false) else (if (l0_5.length : Int) ≤ 200 then ((impl_Put_71.f k l0_5).bind fun t330 => (some (!t330))) else (some false)))) else ((impl_Disk_slot.f a0_3 1).bind fun _ => (if a0_4 > (l0_1.length : Int) then (some false) else (if (l0_5.length : Int) ≤ 200 then ((impl_Put_71.f k l0_5).bind fun t331 => (some (!t331))) else (some false))))) else (some false))))
theorem impl_DiskOk.mono : ∀ a0 a1 a2 a3 a4 a5 k, LeO (impl_DiskOk.f k a0 a1 a2 a3 a4 a5) (impl_DiskOk.f (k + 1) a0 a1 a2 a3 a4 a5) := by
  intro a0 a1 a2 a3 a4 a5 k
  have m0_ := @impl_Put_71.mono
  unfold impl_DiskOk.f
  exact LM
def impl_DiskOk.T1 : Bool × List (List Nat × List Nat) := (true, [([], []), ([0], [0]), ([1], [1]), ([2], [2]), ([3], [3]), ([4], [4]), ([5, 4], [4, 5]), ([6, 4], [4, 6]), ([7, 4], [4, 7]), ([4, 8], [4, 8]), ([9, 4], [9]), ([10], [10]), ([11, 10], [10, 11]), ([12, 10, 10], [10, 12]), ([13, 10], [10, 13]), ([10, 14], [10, 14]), ([15, 13], [15]), ([16], [16]), ([17, 16], [16, 17]), ([18, 16], [16, 18]), ([16], [16]), ([20, 16], [16, 20]), ([21, 16], [16, 21]), ([22, 16, 16], [16, 22]), ([23, 16], [16, 23]), ([24, 16], [16, 24]), ([25, 16], [16, 25]), ([19, 26, 16], [16, 19, 26]), ([16, 27], [16, 27])])
def impl_DiskOk.B1 : List Nat := [0, 1, 3, 7, 15, 31, 63, 127, 255, 511, 1023, 2047, 4095, 8191, 16383, 32767, 65535, 131071, 262143, 524287, 131071, 1179647, 3276799, 7471103, 15859711, 32636927, 66191359, 134217727, 268435455]
theorem impl_DiskOk.tab1 : rtab .any (opsOf Try.f28 1) = impl_DiskOk.T1 := by kernel_rfl
theorem impl_DiskOk.bits1 : waitsOk impl_DiskOk.T1.2 impl_DiskOk.B1 = true := by kernel_rfl
set_option maxHeartbeats 40000000 in
set_option maxRecDepth 100000 in
theorem impl_DiskOk.calls (k : Nat) (aj : Option Addr) (al : Nat) (ah : List Int) (an : Option Addr) (am : Nat) (ag : List Int) (af : Int) (ac : Int) (ad : Int) (ak : Option Addr) (ai : Nat) (ae : List (S55)) (r : Bool) (w : World) (au : Kd.C (Kd.int .u8) w aj ah.length ah) (ap : ah.length ≤ al) (av : Kd.C (Kd.int .u8) w an ag.length ag) (aw : ag.length ≤ am) (ax : Kd.C k55 w ak ae.length ae) (ao : ae.length ≤ ai) (h : impl_DiskOk.f k ah ag af ac ad ae = some r) :
  Calls Try.prog 28 #[.agg #[.slice aj ah.length al, .slice an ag.length am, .int .i64 af, .int .i64 ac, .int .i64 ad, .slice ak ae.length ai]] w fun e w' => e = .returned (.bool r) ∧ Below w.heap.size w w' := by
 have hu33 := Try.underlying33
 have hu30 := Try.underlying30
 have HR0_0 := aM au
 have HC0_0 := aM ap
 clear au ap
 have HR0_1 := aM av
 have HC0_1 := aM aw
 clear av aw
 have aq := aM ax
 have ar := aM ao
 clear ax ao
 have HB := aM (Below.refl w.heap.size w)
 have H := h
 clear h
 unfold impl_DiskOk.f at H
 by_cases c2 : (ah.length : Int) > 240
 ·rw [if_pos c2] at H
  have c2b0 : decide (240 < (ah.length : Int)) = true := decide_eq_true c2
  have c2b1 : decide (240 < ah.length) = true := decide_eq_true (by omega)
  clear c2
  obtain rfl := Option.some.inj H
  go_enter Try.func28, Try.ntmps28
  try go_wp2_with (first | ((with_reducible refine gate_dst (N := 1) rfl ?_); (try (refine gate_guard (by rfl) ?_; dsimp only)); refine gBx 1 #[.slice aj ah.length al, .slice an ag.length am, .int .i64 af, .int .i64 ac, .int .i64 ad, .slice ak ae.length ai] 33 ?_; intro aa hg w3 hbox hb; have ab := aM (hbox); have GW328 := aM ((by rw [hg]; exact (below_size TB) : w.heap.size ≤ aa)); have GE328 := aM ((by rw [hg]; exact (below_size TB) : w.heap.size ≤ aa)); replace HB := aM (below_step TB hb); clear hb hbox hg))
  replace ab := aM (blk_drew ab.out)
  replace HB := aM (below_drew1 HB.out)
  refine start_ (n := 29) (S := fun w' => w'.cell? ⟨aa, 0, none⟩ = some (.slice aj ah.length al) ∧ w'.cell? ⟨aa, 1, none⟩ = some (.slice an ag.length am) ∧ w'.cell? ⟨aa, 2, none⟩ = some (.int .i64 af) ∧ w'.cell? ⟨aa, 3, none⟩ = some (.int .i64 ac) ∧ w'.cell? ⟨aa, 4, none⟩ = some (.int .i64 ad) ∧ w'.cell? ⟨aa, 5, none⟩ = some (.slice ak ae.length ai)) (ds := []) (Array.replicate 29 false) (by kernel_rfl) rfl rfl (cz6 ab.out) (fun hHeld => ?_); refine with_tabW impl_DiskOk.tab1 impl_DiskOk.bits1 (fun HT_ HW_ => ?_)
  generalize w3.drew = w4 at ab HB hHeld ⊢
  refine pP 0 (some 3) ?_
  refine pT 1 (some 4) ?_
  refine pP 2 (some 5) ?_
  refine pP 3 (some 6) ?_
  refine pP 4 (some 7) ?_
  refine pX 5 (some 8) ?_
  refine pX 6 (some 9) ?_
  refine pX 7 (some 10) ?_
  refine pX 8 (some 11) ?_
  refine pP 9 (some 12) ?_
  refine pP 10 (some 13) ?_
  refine pX 11 (some 14) ?_
  refine pX 12 (some 15) ?_
  refine pX 13 (some 16) ?_
  refine pX 14 (some 17) ?_
  refine pP 15 (some 18) ?_
  refine pP 16 (some 19) ?_
  refine pX 17 (some 20) ?_
  refine pX 18 (some 21) ?_
  refine pX 19 (some 22) ?_
  refine pX 20 (some 23) ?_
  refine pX 21 (some 24) ?_
  refine pX 22 (some 25) ?_
  refine pX 23 (some 26) ?_
  refine pX 24 (some 27) ?_
  refine pX 25 (some 28) ?_
  refine pX 26 (some 29) ?_
  refine pX 27 (some 30) ?_
  refine pP 28 (some 31) ?_
  refine done_ (done_of HT_.out (by kernel_rfl)) ?_
  try go_wp2
  go_ret
  exact ⟨by first | rfl | (simp [errW_none, errW_some] <;> rfl) | (simp [*, errW_none, errW_some] <;> rfl), TB⟩
 ·rw [if_neg c2] at H
  have c2b0 : decide (240 < (ah.length : Int)) = false := decide_eq_false c2
  have c2b1 : decide (240 < ah.length) = false := decide_eq_false (by omega)
  clear c2
  by_cases c5 : (ag.length : Int) > 240
  ·rw [if_pos c5] at H
   have c5b0 : decide (240 < (ag.length : Int)) = true := decide_eq_true c5
   have c5b1 : decide (240 < ag.length) = true := decide_eq_true (by omega)
   clear c5
   obtain rfl := Option.some.inj H
   go_enter Try.func28, Try.ntmps28
   try go_wp2_with (first | ((with_reducible refine gate_dst (N := 1) rfl ?_); (try (refine gate_guard (by rfl) ?_; dsimp only)); refine gBx 1 #[.slice aj ah.length al, .slice an ag.length am, .int .i64 af, .int .i64 ac, .int .i64 ad, .slice ak ae.length ai] 33 ?_; intro aa hg w6 hbox hb; have ab := aM (hbox); have GW328 := aM ((by rw [hg]; exact (below_size TB) : w.heap.size ≤ aa)); have GE328 := aM ((by rw [hg]; exact (below_size TB) : w.heap.size ≤ aa)); replace HB := aM (below_step TB hb); clear hb hbox hg))
   replace ab := aM (blk_drew ab.out)
   replace HB := aM (below_drew1 HB.out)
   refine start_ (n := 29) (S := fun w' => w'.cell? ⟨aa, 0, none⟩ = some (.slice aj ah.length al) ∧ w'.cell? ⟨aa, 1, none⟩ = some (.slice an ag.length am) ∧ w'.cell? ⟨aa, 2, none⟩ = some (.int .i64 af) ∧ w'.cell? ⟨aa, 3, none⟩ = some (.int .i64 ac) ∧ w'.cell? ⟨aa, 4, none⟩ = some (.int .i64 ad) ∧ w'.cell? ⟨aa, 5, none⟩ = some (.slice ak ae.length ai)) (ds := []) (Array.replicate 29 false) (by kernel_rfl) rfl rfl (cz6 ab.out) (fun hHeld => ?_); refine with_tabW impl_DiskOk.tab1 impl_DiskOk.bits1 (fun HT_ HW_ => ?_)
   generalize w6.drew = w7 at ab HB hHeld ⊢
   refine pP 0 (some 3) ?_
   refine pT 1 (some 4) ?_
   refine pP 2 (some 5) ?_
   refine pP 3 (some 6) ?_
   refine pP 4 (some 7) ?_
   refine pP 5 (some 8) ?_
   refine pT 6 (some 9) ?_
   refine pP 7 (some 10) ?_
   refine pP 8 (some 11) ?_
   refine pP 9 (some 12) ?_
   refine pP 10 (some 13) ?_
   refine pX 11 (some 14) ?_
   refine pX 12 (some 15) ?_
   refine pX 13 (some 16) ?_
   refine pX 14 (some 17) ?_
   refine pP 15 (some 18) ?_
   refine pP 16 (some 19) ?_
   refine pX 17 (some 20) ?_
   refine pX 18 (some 21) ?_
   refine pX 19 (some 22) ?_
   refine pX 20 (some 23) ?_
   refine pX 21 (some 24) ?_
   refine pX 22 (some 25) ?_
   refine pX 23 (some 26) ?_
   refine pX 24 (some 27) ?_
   refine pX 25 (some 28) ?_
   refine pX 26 (some 29) ?_
   refine pX 27 (some 30) ?_
   refine pP 28 (some 31) ?_
   refine done_ (done_of HT_.out (by kernel_rfl)) ?_
   try go_wp2
   go_ret
   exact ⟨by first | rfl | (simp [errW_none, errW_some] <;> rfl) | (simp [*, errW_none, errW_some] <;> rfl), TB⟩
  ·rw [if_neg c5] at H
   have c5b0 : decide (240 < (ag.length : Int)) = false := decide_eq_false c5
   have c5b1 : decide (240 < ag.length) = false := decide_eq_false (by omega)
   clear c5
   replace H := bE H
   obtain ⟨t329, A8, H⟩ := H
   by_cases c9 : t329 = true
   ·subst c9
    replace H := ifT H
    by_cases c10 : ac = 0
    ·rw [if_pos c10] at H
     have c10b0 : (ac == 0) = true := beq_iff_eq.mpr c10
     have c10b1 : (ac != 0) = false := bne_eq_false_iff_eq.mpr c10
     clear c10
     replace H := bE H
     obtain ⟨_, A11, H⟩ := H
     by_cases c12 : ad > (ah.length : Int)
     ·rw [if_pos c12] at H
      have c12b0 : decide ((ah.length : Int) < ad) = true := decide_eq_true c12
      clear c12
      obtain rfl := Option.some.inj H
      go_enter Try.func28, Try.ntmps28
      try go_wp2_with (first | ((with_reducible refine gate_dst (N := 1) rfl ?_); (try (refine gate_guard (by rfl) ?_; dsimp only)); refine gBx 1 #[.slice aj ah.length al, .slice an ag.length am, .int .i64 af, .int .i64 ac, .int .i64 ad, .slice ak ae.length ai] 33 ?_; intro aa hg w13 hbox hb; have ab := aM (hbox); have GW328 := aM ((by rw [hg]; exact (below_size TB) : w.heap.size ≤ aa)); have GE328 := aM ((by rw [hg]; exact (below_size TB) : w.heap.size ≤ aa)); replace HB := aM (below_step TB hb); clear hb hbox hg))
      replace ab := aM (blk_drew ab.out)
      replace HB := aM (below_drew1 HB.out)
      refine start_ (n := 29) (S := fun w' => w'.cell? ⟨aa, 0, none⟩ = some (.slice aj ah.length al) ∧ w'.cell? ⟨aa, 1, none⟩ = some (.slice an ag.length am) ∧ w'.cell? ⟨aa, 2, none⟩ = some (.int .i64 af) ∧ w'.cell? ⟨aa, 3, none⟩ = some (.int .i64 ac) ∧ w'.cell? ⟨aa, 4, none⟩ = some (.int .i64 ad) ∧ w'.cell? ⟨aa, 5, none⟩ = some (.slice ak ae.length ai)) (ds := []) (Array.replicate 29 false) (by kernel_rfl) rfl rfl (cz6 ab.out) (fun hHeld => ?_); refine with_tabW impl_DiskOk.tab1 impl_DiskOk.bits1 (fun HT_ HW_ => ?_)
      generalize w13.drew = w14 at ab HB hHeld ⊢
      refine pP 0 (some 3) ?_
      refine pT 1 (some 4) ?_
      refine pP 2 (some 5) ?_
      refine pP 3 (some 6) ?_
      refine pP 4 (some 7) ?_
      refine pP 5 (some 8) ?_
      refine pT 6 (some 9) ?_
      refine pP 7 (some 10) ?_
      refine pP 8 (some 11) ?_
      refine pP 9 (some 12) ?_
      refine pP 10 (some 13) ?_
      refine pP 11 (some 14) ?_
      refine pT 12 (some 15) ?_
      refine pO 13 (some 16) (fun K hK => ?_)
      refine gG Try.func69 #[.agg #[.int .i64 af, .int .i64 ac, .int .i64 ad]] ?_
      with_reducible refine (impl_isRecord.calls af ac ad true _ A8.out).mono ?_
      rintro e w15 ⟨rfl, hb⟩
      refine ⟨_, rfl, ?_⟩
      have n0_ := aM (blk_below (by have X_ := ab.out; exact TX) hb)
      have n1_ := aM (below_step TB hb)
      clear ab
      clear HB
      have ab := n0_
      have HB := n1_
      clear n0_ n1_
      (try clear hb)
      (try clear hb2)
      (try clear hk)
      (try clear hi)
      refine hK.out _ _ (cz6 ab.out) (fun hHeld => ?_)
      clear hK K
      refine nR ?_
      refine pP 14 (some 17) ?_
      refine pP 15 (some 18) ?_
      refine pP 16 (some 19) ?_
      refine pP 17 (some 20) ?_
      refine pP 18 (some 21) ?_
      refine pP 20 (some 23) ?_
      refine pP 21 (some 24) ?_
      refine pT 19 (some 22) ?_
      refine pT 22 (some 25) ?_
      refine pO 23 (some 26) (fun K hK => ?_)
      refine gG Try.func70 #[.pointer (some ⟨aa, 0, none⟩), .int .i64 ac] ?_
      with_reducible refine (impl_Disk_slot.calls aa ac  _ A11.out).mono ?_
      rintro e w' ⟨rfl, ⟨nd, rfl⟩⟩
      refine ⟨_, rfl, ?_⟩
      refine hK.out _ _ (cz6 ab.out) (fun hHeld => ?_)
      clear hK K
      refine nR ?_
      refine pP 24 (some 27) ?_
      refine pT 25 (some 28) ?_
      refine pP 26 (some 29) ?_
      refine pP 27 (some 30) ?_
      refine pP 28 (some 31) ?_
      refine done_ (done_of HT_.out (by kernel_rfl)) ?_
      try go_wp2
      go_ret
      exact ⟨by first | rfl | (simp [errW_none, errW_some] <;> rfl) | (simp [*, errW_none, errW_some] <;> rfl), TB⟩
     ·rw [if_neg c12] at H
      have c12b0 : decide ((ah.length : Int) < ad) = false := decide_eq_false c12
      clear c12
      by_cases c16 : (ae.length : Int) ≤ 200
      ·rw [if_pos c16] at H
       have c16b0 : decide ((ae.length : Int) ≤ 200) = true := decide_eq_true c16
       have c16b1 : decide (ae.length ≤ 200) = true := decide_eq_true (by omega)
       clear c16
       replace H := bE H
       obtain ⟨t330, A17, H⟩ := H
       obtain rfl := Option.some.inj H
       go_enter Try.func28, Try.ntmps28
       try go_wp2_with (first | ((with_reducible refine gate_dst (N := 1) rfl ?_); (try (refine gate_guard (by rfl) ?_; dsimp only)); refine gBx 1 #[.slice aj ah.length al, .slice an ag.length am, .int .i64 af, .int .i64 ac, .int .i64 ad, .slice ak ae.length ai] 33 ?_; intro aa hg w18 hbox hb; have ab := aM (hbox); have GW328 := aM ((by rw [hg]; exact (below_size TB) : w.heap.size ≤ aa)); have GE328 := aM ((by rw [hg]; exact (below_size TB) : w.heap.size ≤ aa)); replace HB := aM (below_step TB hb); clear hb hbox hg))
       replace ab := aM (blk_drew ab.out)
       replace HB := aM (below_drew1 HB.out)
       refine start_ (n := 29) (S := fun w' => w'.cell? ⟨aa, 0, none⟩ = some (.slice aj ah.length al) ∧ w'.cell? ⟨aa, 1, none⟩ = some (.slice an ag.length am) ∧ w'.cell? ⟨aa, 2, none⟩ = some (.int .i64 af) ∧ w'.cell? ⟨aa, 3, none⟩ = some (.int .i64 ac) ∧ w'.cell? ⟨aa, 4, none⟩ = some (.int .i64 ad) ∧ w'.cell? ⟨aa, 5, none⟩ = some (.slice ak ae.length ai)) (ds := []) (Array.replicate 29 false) (by kernel_rfl) rfl rfl (cz6 ab.out) (fun hHeld => ?_); refine with_tabW impl_DiskOk.tab1 impl_DiskOk.bits1 (fun HT_ HW_ => ?_)
       generalize w18.drew = w19 at ab HB hHeld ⊢
       refine pP 0 (some 3) ?_
       refine pT 1 (some 4) ?_
       refine pP 2 (some 5) ?_
       refine pP 3 (some 6) ?_
       refine pP 4 (some 7) ?_
       refine pP 5 (some 8) ?_
       refine pT 6 (some 9) ?_
       refine pP 7 (some 10) ?_
       refine pP 8 (some 11) ?_
       refine pP 9 (some 12) ?_
       refine pP 10 (some 13) ?_
       refine pP 11 (some 14) ?_
       refine pT 12 (some 15) ?_
       refine pO 13 (some 16) (fun K hK => ?_)
       refine gG Try.func69 #[.agg #[.int .i64 af, .int .i64 ac, .int .i64 ad]] ?_
       with_reducible refine (impl_isRecord.calls af ac ad true _ A8.out).mono ?_
       rintro e w20 ⟨rfl, hb⟩
       refine ⟨_, rfl, ?_⟩
       have n0_ := aM (blk_below (by have X_ := ab.out; exact TX) hb)
       have n1_ := aM (below_step TB hb)
       clear ab
       clear HB
       have ab := n0_
       have HB := n1_
       clear n0_ n1_
       (try clear hb)
       (try clear hb2)
       (try clear hk)
       (try clear hi)
       refine hK.out _ _ (cz6 ab.out) (fun hHeld => ?_)
       clear hK K
       refine nR ?_
       refine pP 14 (some 17) ?_
       refine pP 15 (some 18) ?_
       refine pP 16 (some 19) ?_
       refine pP 17 (some 20) ?_
       refine pP 18 (some 21) ?_
       refine pP 20 (some 23) ?_
       refine pP 21 (some 24) ?_
       refine pT 19 (some 22) ?_
       refine pT 22 (some 25) ?_
       refine pO 23 (some 26) (fun K hK => ?_)
       refine gG Try.func70 #[.pointer (some ⟨aa, 0, none⟩), .int .i64 ac] ?_
       with_reducible refine (impl_Disk_slot.calls aa ac  _ A11.out).mono ?_
       rintro e w' ⟨rfl, ⟨nd, rfl⟩⟩
       refine ⟨_, rfl, ?_⟩
       refine hK.out _ _ (cz6 ab.out) (fun hHeld => ?_)
       clear hK K
       refine nR ?_
       refine pP 24 (some 27) ?_
       refine pT 25 (some 28) ?_
       refine pP 26 (some 29) ?_
       refine pP 27 (some 30) ?_
       refine pP 28 (some 31) ?_
       refine done_ (done_of HT_.out (by kernel_rfl)) ?_
       obtain ⟨hcz21_0, hcz21_1, hcz21_2, hcz21_3, hcz21_4, hcz21_5⟩ := cz6 ab.out
       obtain ⟨hfz21_0, hfz21_1, hfz21_2, hfz21_3, hfz21_4, hfz21_5⟩ := fz6 ab.out
       try go_wp2_with (first | (go_at_call 71; (with_reducible refine (impl_Put_71.calls k _ _ ae  t330 _ ?side1 ?side2 A17.out).mono ?_); (case side1 => repeat (first | exact (Kd.C_below aq.out TB) | (with_reducible refine Kd.C_alloc ?_ _) | (with_reducible refine Kd.C_drewN ?_ _) | (with_reducible refine Kd.C_drew ?_))); (case side2 => exact ar.out); rintro e w22 ⟨rfl, hb⟩; replace ab := aM (blk_below (by have X_ := ab.out; exact TX) hb); replace HB := aM (below_step TB hb); clear hb))
       go_ret
       exact ⟨by first | rfl | (simp [errW_none, errW_some] <;> rfl) | (simp [*, errW_none, errW_some] <;> rfl), TB⟩
      ·rw [if_neg c16] at H
       have c16b0 : decide ((ae.length : Int) ≤ 200) = false := decide_eq_false c16
       have c16b1 : decide (ae.length ≤ 200) = false := decide_eq_false (by omega)
       clear c16
       obtain rfl := Option.some.inj H
       go_enter Try.func28, Try.ntmps28
       try go_wp2_with (first | ((with_reducible refine gate_dst (N := 1) rfl ?_); (try (refine gate_guard (by rfl) ?_; dsimp only)); refine gBx 1 #[.slice aj ah.length al, .slice an ag.length am, .int .i64 af, .int .i64 ac, .int .i64 ad, .slice ak ae.length ai] 33 ?_; intro aa hg w23 hbox hb; have ab := aM (hbox); have GW328 := aM ((by rw [hg]; exact (below_size TB) : w.heap.size ≤ aa)); have GE328 := aM ((by rw [hg]; exact (below_size TB) : w.heap.size ≤ aa)); replace HB := aM (below_step TB hb); clear hb hbox hg))
       replace ab := aM (blk_drew ab.out)
       replace HB := aM (below_drew1 HB.out)
       refine start_ (n := 29) (S := fun w' => w'.cell? ⟨aa, 0, none⟩ = some (.slice aj ah.length al) ∧ w'.cell? ⟨aa, 1, none⟩ = some (.slice an ag.length am) ∧ w'.cell? ⟨aa, 2, none⟩ = some (.int .i64 af) ∧ w'.cell? ⟨aa, 3, none⟩ = some (.int .i64 ac) ∧ w'.cell? ⟨aa, 4, none⟩ = some (.int .i64 ad) ∧ w'.cell? ⟨aa, 5, none⟩ = some (.slice ak ae.length ai)) (ds := []) (Array.replicate 29 false) (by kernel_rfl) rfl rfl (cz6 ab.out) (fun hHeld => ?_); refine with_tabW impl_DiskOk.tab1 impl_DiskOk.bits1 (fun HT_ HW_ => ?_)
       generalize w23.drew = w24 at ab HB hHeld ⊢
       refine pP 0 (some 3) ?_
       refine pT 1 (some 4) ?_
       refine pP 2 (some 5) ?_
       refine pP 3 (some 6) ?_
       refine pP 4 (some 7) ?_
       refine pP 5 (some 8) ?_
       refine pT 6 (some 9) ?_
       refine pP 7 (some 10) ?_
       refine pP 8 (some 11) ?_
       refine pP 9 (some 12) ?_
       refine pP 10 (some 13) ?_
       refine pP 11 (some 14) ?_
       refine pT 12 (some 15) ?_
       refine pO 13 (some 16) (fun K hK => ?_)
       refine gG Try.func69 #[.agg #[.int .i64 af, .int .i64 ac, .int .i64 ad]] ?_
       with_reducible refine (impl_isRecord.calls af ac ad true _ A8.out).mono ?_
       rintro e w25 ⟨rfl, hb⟩
       refine ⟨_, rfl, ?_⟩
       have n0_ := aM (blk_below (by have X_ := ab.out; exact TX) hb)
       have n1_ := aM (below_step TB hb)
       clear ab
       clear HB
       have ab := n0_
       have HB := n1_
       clear n0_ n1_
       (try clear hb)
       (try clear hb2)
       (try clear hk)
       (try clear hi)
       refine hK.out _ _ (cz6 ab.out) (fun hHeld => ?_)
       clear hK K
       refine nR ?_
       refine pP 14 (some 17) ?_
       refine pP 15 (some 18) ?_
       refine pP 16 (some 19) ?_
       refine pP 17 (some 20) ?_
       refine pP 18 (some 21) ?_
       refine pP 20 (some 23) ?_
       refine pP 21 (some 24) ?_
       refine pT 19 (some 22) ?_
       refine pT 22 (some 25) ?_
       refine pO 23 (some 26) (fun K hK => ?_)
       refine gG Try.func70 #[.pointer (some ⟨aa, 0, none⟩), .int .i64 ac] ?_
       with_reducible refine (impl_Disk_slot.calls aa ac  _ A11.out).mono ?_
       rintro e w' ⟨rfl, ⟨nd, rfl⟩⟩
       refine ⟨_, rfl, ?_⟩
       refine hK.out _ _ (cz6 ab.out) (fun hHeld => ?_)
       clear hK K
       refine nR ?_
       refine pP 24 (some 27) ?_
       refine pT 25 (some 28) ?_
       refine pP 26 (some 29) ?_
       refine pP 27 (some 30) ?_
       refine pP 28 (some 31) ?_
       refine done_ (done_of HT_.out (by kernel_rfl)) ?_
       obtain ⟨hcz26_0, hcz26_1, hcz26_2, hcz26_3, hcz26_4, hcz26_5⟩ := cz6 ab.out
       obtain ⟨hfz26_0, hfz26_1, hfz26_2, hfz26_3, hfz26_4, hfz26_5⟩ := fz6 ab.out
       try go_wp2
       go_ret
       exact ⟨by first | rfl | (simp [errW_none, errW_some] <;> rfl) | (simp [*, errW_none, errW_some] <;> rfl), TB⟩
    ·rw [if_neg c10] at H
     have c10b0 : (ac == 0) = false := beq_eq_false_iff_ne.mpr c10
     have c10b1 : (ac != 0) = true := bne_iff_ne.mpr c10
     replace H := bE H
     obtain ⟨_, A27, H⟩ := H
     by_cases c28 : ad > (ag.length : Int)
     ·rw [if_pos c28] at H
      have c28b0 : decide ((ag.length : Int) < ad) = true := decide_eq_true c28
      clear c28
      obtain rfl := Option.some.inj H
      go_enter Try.func28, Try.ntmps28
      try go_wp2_with (first | ((with_reducible refine gate_dst (N := 1) rfl ?_); (try (refine gate_guard (by rfl) ?_; dsimp only)); refine gBx 1 #[.slice aj ah.length al, .slice an ag.length am, .int .i64 af, .int .i64 ac, .int .i64 ad, .slice ak ae.length ai] 33 ?_; intro aa hg w29 hbox hb; have ab := aM (hbox); have GW328 := aM ((by rw [hg]; exact (below_size TB) : w.heap.size ≤ aa)); have GE328 := aM ((by rw [hg]; exact (below_size TB) : w.heap.size ≤ aa)); replace HB := aM (below_step TB hb); clear hb hbox hg))
      replace ab := aM (blk_drew ab.out)
      replace HB := aM (below_drew1 HB.out)
      refine start_ (n := 29) (S := fun w' => w'.cell? ⟨aa, 0, none⟩ = some (.slice aj ah.length al) ∧ w'.cell? ⟨aa, 1, none⟩ = some (.slice an ag.length am) ∧ w'.cell? ⟨aa, 2, none⟩ = some (.int .i64 af) ∧ w'.cell? ⟨aa, 3, none⟩ = some (.int .i64 ac) ∧ w'.cell? ⟨aa, 4, none⟩ = some (.int .i64 ad) ∧ w'.cell? ⟨aa, 5, none⟩ = some (.slice ak ae.length ai)) (ds := []) (Array.replicate 29 false) (by kernel_rfl) rfl rfl (cz6 ab.out) (fun hHeld => ?_); refine with_tabW impl_DiskOk.tab1 impl_DiskOk.bits1 (fun HT_ HW_ => ?_)
      generalize w29.drew = w30 at ab HB hHeld ⊢
      refine pP 0 (some 3) ?_
      refine pT 1 (some 4) ?_
      refine pP 2 (some 5) ?_
      refine pP 3 (some 6) ?_
      refine pP 4 (some 7) ?_
      refine pP 5 (some 8) ?_
      refine pT 6 (some 9) ?_
      refine pP 7 (some 10) ?_
      refine pP 8 (some 11) ?_
      refine pP 9 (some 12) ?_
      refine pP 10 (some 13) ?_
      refine pP 11 (some 14) ?_
      refine pT 12 (some 15) ?_
      refine pO 13 (some 16) (fun K hK => ?_)
      refine gG Try.func69 #[.agg #[.int .i64 af, .int .i64 ac, .int .i64 ad]] ?_
      with_reducible refine (impl_isRecord.calls af ac ad true _ A8.out).mono ?_
      rintro e w31 ⟨rfl, hb⟩
      refine ⟨_, rfl, ?_⟩
      have n0_ := aM (blk_below (by have X_ := ab.out; exact TX) hb)
      have n1_ := aM (below_step TB hb)
      clear ab
      clear HB
      have ab := n0_
      have HB := n1_
      clear n0_ n1_
      (try clear hb)
      (try clear hb2)
      (try clear hk)
      (try clear hi)
      refine hK.out _ _ (cz6 ab.out) (fun hHeld => ?_)
      clear hK K
      refine nR ?_
      refine pP 14 (some 17) ?_
      refine pP 15 (some 18) ?_
      refine pP 16 (some 19) ?_
      refine pP 17 (some 20) ?_
      refine pP 18 (some 21) ?_
      refine pP 20 (some 23) ?_
      refine pP 21 (some 24) ?_
      refine pT 19 (some 22) ?_
      refine pT 22 (some 25) ?_
      refine pO 23 (some 26) (fun K hK => ?_)
      refine gG Try.func70 #[.pointer (some ⟨aa, 0, none⟩), .int .i64 ac] ?_
      with_reducible refine (impl_Disk_slot.calls aa ac  _ A27.out).mono ?_
      rintro e w' ⟨rfl, ⟨nd, rfl⟩⟩
      refine ⟨_, rfl, ?_⟩
      refine hK.out _ _ (cz6 ab.out) (fun hHeld => ?_)
      clear hK K
      refine nR ?_
      refine pP 24 (some 27) ?_
      refine pT 25 (some 28) ?_
      refine pP 26 (some 29) ?_
      refine pP 27 (some 30) ?_
      refine pP 28 (some 31) ?_
      refine done_ (done_of HT_.out (by kernel_rfl)) ?_
      try go_wp2
      go_ret
      exact ⟨by first | rfl | (simp [errW_none, errW_some] <;> rfl) | (simp [*, errW_none, errW_some] <;> rfl), TB⟩
     ·rw [if_neg c28] at H
      have c28b0 : decide ((ag.length : Int) < ad) = false := decide_eq_false c28
      clear c28
      by_cases c32 : (ae.length : Int) ≤ 200
      ·rw [if_pos c32] at H
       have c32b0 : decide ((ae.length : Int) ≤ 200) = true := decide_eq_true c32
       have c32b1 : decide (ae.length ≤ 200) = true := decide_eq_true (by omega)
       clear c32
       replace H := bE H
       obtain ⟨t331, A33, H⟩ := H
       obtain rfl := Option.some.inj H
       go_enter Try.func28, Try.ntmps28
       try go_wp2_with (first | ((with_reducible refine gate_dst (N := 1) rfl ?_); (try (refine gate_guard (by rfl) ?_; dsimp only)); refine gBx 1 #[.slice aj ah.length al, .slice an ag.length am, .int .i64 af, .int .i64 ac, .int .i64 ad, .slice ak ae.length ai] 33 ?_; intro aa hg w34 hbox hb; have ab := aM (hbox); have GW328 := aM ((by rw [hg]; exact (below_size TB) : w.heap.size ≤ aa)); have GE328 := aM ((by rw [hg]; exact (below_size TB) : w.heap.size ≤ aa)); replace HB := aM (below_step TB hb); clear hb hbox hg))
       replace ab := aM (blk_drew ab.out)
       replace HB := aM (below_drew1 HB.out)
       refine start_ (n := 29) (S := fun w' => w'.cell? ⟨aa, 0, none⟩ = some (.slice aj ah.length al) ∧ w'.cell? ⟨aa, 1, none⟩ = some (.slice an ag.length am) ∧ w'.cell? ⟨aa, 2, none⟩ = some (.int .i64 af) ∧ w'.cell? ⟨aa, 3, none⟩ = some (.int .i64 ac) ∧ w'.cell? ⟨aa, 4, none⟩ = some (.int .i64 ad) ∧ w'.cell? ⟨aa, 5, none⟩ = some (.slice ak ae.length ai)) (ds := []) (Array.replicate 29 false) (by kernel_rfl) rfl rfl (cz6 ab.out) (fun hHeld => ?_); refine with_tabW impl_DiskOk.tab1 impl_DiskOk.bits1 (fun HT_ HW_ => ?_)
       generalize w34.drew = w35 at ab HB hHeld ⊢
       refine pP 0 (some 3) ?_
       refine pT 1 (some 4) ?_
       refine pP 2 (some 5) ?_
       refine pP 3 (some 6) ?_
       refine pP 4 (some 7) ?_
       refine pP 5 (some 8) ?_
       refine pT 6 (some 9) ?_
       refine pP 7 (some 10) ?_
       refine pP 8 (some 11) ?_
       refine pP 9 (some 12) ?_
       refine pP 10 (some 13) ?_
       refine pP 11 (some 14) ?_
       refine pT 12 (some 15) ?_
       refine pO 13 (some 16) (fun K hK => ?_)
       refine gG Try.func69 #[.agg #[.int .i64 af, .int .i64 ac, .int .i64 ad]] ?_
       with_reducible refine (impl_isRecord.calls af ac ad true _ A8.out).mono ?_
       rintro e w36 ⟨rfl, hb⟩
       refine ⟨_, rfl, ?_⟩
       have n0_ := aM (blk_below (by have X_ := ab.out; exact TX) hb)
       have n1_ := aM (below_step TB hb)
       clear ab
       clear HB
       have ab := n0_
       have HB := n1_
       clear n0_ n1_
       (try clear hb)
       (try clear hb2)
       (try clear hk)
       (try clear hi)
       refine hK.out _ _ (cz6 ab.out) (fun hHeld => ?_)
       clear hK K
       refine nR ?_
       refine pP 14 (some 17) ?_
       refine pP 15 (some 18) ?_
       refine pP 16 (some 19) ?_
       refine pP 17 (some 20) ?_
       refine pP 18 (some 21) ?_
       refine pP 20 (some 23) ?_
       refine pP 21 (some 24) ?_
       refine pT 19 (some 22) ?_
       refine pT 22 (some 25) ?_
       refine pO 23 (some 26) (fun K hK => ?_)
       refine gG Try.func70 #[.pointer (some ⟨aa, 0, none⟩), .int .i64 ac] ?_
       with_reducible refine (impl_Disk_slot.calls aa ac  _ A27.out).mono ?_
       rintro e w' ⟨rfl, ⟨nd, rfl⟩⟩
       refine ⟨_, rfl, ?_⟩
       refine hK.out _ _ (cz6 ab.out) (fun hHeld => ?_)
       clear hK K
       refine nR ?_
       refine pP 24 (some 27) ?_
       refine pT 25 (some 28) ?_
       refine pP 26 (some 29) ?_
       refine pP 27 (some 30) ?_
       refine pP 28 (some 31) ?_
       refine done_ (done_of HT_.out (by kernel_rfl)) ?_
       obtain ⟨hcz37_0, hcz37_1, hcz37_2, hcz37_3, hcz37_4, hcz37_5⟩ := cz6 ab.out
       obtain ⟨hfz37_0, hfz37_1, hfz37_2, hfz37_3, hfz37_4, hfz37_5⟩ := fz6 ab.out
       try go_wp2_with (first | (go_at_call 71; (with_reducible refine (impl_Put_71.calls k _ _ ae  t331 _ ?side1 ?side2 A33.out).mono ?_); (case side1 => repeat (first | exact (Kd.C_below aq.out TB) | (with_reducible refine Kd.C_alloc ?_ _) | (with_reducible refine Kd.C_drewN ?_ _) | (with_reducible refine Kd.C_drew ?_))); (case side2 => exact ar.out); rintro e w38 ⟨rfl, hb⟩; replace ab := aM (blk_below (by have X_ := ab.out; exact TX) hb); replace HB := aM (below_step TB hb); clear hb))
       go_ret
       exact ⟨by first | rfl | (simp [errW_none, errW_some] <;> rfl) | (simp [*, errW_none, errW_some] <;> rfl), TB⟩
      ·rw [if_neg c32] at H
       have c32b0 : decide ((ae.length : Int) ≤ 200) = false := decide_eq_false c32
       have c32b1 : decide (ae.length ≤ 200) = false := decide_eq_false (by omega)
       clear c32
       obtain rfl := Option.some.inj H
       go_enter Try.func28, Try.ntmps28
       try go_wp2_with (first | ((with_reducible refine gate_dst (N := 1) rfl ?_); (try (refine gate_guard (by rfl) ?_; dsimp only)); refine gBx 1 #[.slice aj ah.length al, .slice an ag.length am, .int .i64 af, .int .i64 ac, .int .i64 ad, .slice ak ae.length ai] 33 ?_; intro aa hg w39 hbox hb; have ab := aM (hbox); have GW328 := aM ((by rw [hg]; exact (below_size TB) : w.heap.size ≤ aa)); have GE328 := aM ((by rw [hg]; exact (below_size TB) : w.heap.size ≤ aa)); replace HB := aM (below_step TB hb); clear hb hbox hg))
       replace ab := aM (blk_drew ab.out)
       replace HB := aM (below_drew1 HB.out)
       refine start_ (n := 29) (S := fun w' => w'.cell? ⟨aa, 0, none⟩ = some (.slice aj ah.length al) ∧ w'.cell? ⟨aa, 1, none⟩ = some (.slice an ag.length am) ∧ w'.cell? ⟨aa, 2, none⟩ = some (.int .i64 af) ∧ w'.cell? ⟨aa, 3, none⟩ = some (.int .i64 ac) ∧ w'.cell? ⟨aa, 4, none⟩ = some (.int .i64 ad) ∧ w'.cell? ⟨aa, 5, none⟩ = some (.slice ak ae.length ai)) (ds := []) (Array.replicate 29 false) (by kernel_rfl) rfl rfl (cz6 ab.out) (fun hHeld => ?_); refine with_tabW impl_DiskOk.tab1 impl_DiskOk.bits1 (fun HT_ HW_ => ?_)
       generalize w39.drew = w40 at ab HB hHeld ⊢
       refine pP 0 (some 3) ?_
       refine pT 1 (some 4) ?_
       refine pP 2 (some 5) ?_
       refine pP 3 (some 6) ?_
       refine pP 4 (some 7) ?_
       refine pP 5 (some 8) ?_
       refine pT 6 (some 9) ?_
       refine pP 7 (some 10) ?_
       refine pP 8 (some 11) ?_
       refine pP 9 (some 12) ?_
       refine pP 10 (some 13) ?_
       refine pP 11 (some 14) ?_
       refine pT 12 (some 15) ?_
       refine pO 13 (some 16) (fun K hK => ?_)
       refine gG Try.func69 #[.agg #[.int .i64 af, .int .i64 ac, .int .i64 ad]] ?_
       with_reducible refine (impl_isRecord.calls af ac ad true _ A8.out).mono ?_
       rintro e w41 ⟨rfl, hb⟩
       refine ⟨_, rfl, ?_⟩
       have n0_ := aM (blk_below (by have X_ := ab.out; exact TX) hb)
       have n1_ := aM (below_step TB hb)
       clear ab
       clear HB
       have ab := n0_
       have HB := n1_
       clear n0_ n1_
       (try clear hb)
       (try clear hb2)
       (try clear hk)
       (try clear hi)
       refine hK.out _ _ (cz6 ab.out) (fun hHeld => ?_)
       clear hK K
       refine nR ?_
       refine pP 14 (some 17) ?_
       refine pP 15 (some 18) ?_
       refine pP 16 (some 19) ?_
       refine pP 17 (some 20) ?_
       refine pP 18 (some 21) ?_
       refine pP 20 (some 23) ?_
       refine pP 21 (some 24) ?_
       refine pT 19 (some 22) ?_
       refine pT 22 (some 25) ?_
       refine pO 23 (some 26) (fun K hK => ?_)
       refine gG Try.func70 #[.pointer (some ⟨aa, 0, none⟩), .int .i64 ac] ?_
       with_reducible refine (impl_Disk_slot.calls aa ac  _ A27.out).mono ?_
       rintro e w' ⟨rfl, ⟨nd, rfl⟩⟩
       refine ⟨_, rfl, ?_⟩
       refine hK.out _ _ (cz6 ab.out) (fun hHeld => ?_)
       clear hK K
       refine nR ?_
       refine pP 24 (some 27) ?_
       refine pT 25 (some 28) ?_
       refine pP 26 (some 29) ?_
       refine pP 27 (some 30) ?_
       refine pP 28 (some 31) ?_
       refine done_ (done_of HT_.out (by kernel_rfl)) ?_
       obtain ⟨hcz42_0, hcz42_1, hcz42_2, hcz42_3, hcz42_4, hcz42_5⟩ := cz6 ab.out
       obtain ⟨hfz42_0, hfz42_1, hfz42_2, hfz42_3, hfz42_4, hfz42_5⟩ := fz6 ab.out
       try go_wp2
       go_ret
       exact ⟨by first | rfl | (simp [errW_none, errW_some] <;> rfl) | (simp [*, errW_none, errW_some] <;> rfl), TB⟩
   ·replace c9 := Bool.eq_false_iff.mpr c9
    subst c9
    replace H := ifF H
    obtain rfl := Option.some.inj H
    go_enter Try.func28, Try.ntmps28
    try go_wp2_with (first | ((with_reducible refine gate_dst (N := 1) rfl ?_); (try (refine gate_guard (by rfl) ?_; dsimp only)); refine gBx 1 #[.slice aj ah.length al, .slice an ag.length am, .int .i64 af, .int .i64 ac, .int .i64 ad, .slice ak ae.length ai] 33 ?_; intro aa hg w43 hbox hb; have ab := aM (hbox); have GW328 := aM ((by rw [hg]; exact (below_size TB) : w.heap.size ≤ aa)); have GE328 := aM ((by rw [hg]; exact (below_size TB) : w.heap.size ≤ aa)); replace HB := aM (below_step TB hb); clear hb hbox hg))
    replace ab := aM (blk_drew ab.out)
    replace HB := aM (below_drew1 HB.out)
    refine start_ (n := 29) (S := fun w' => w'.cell? ⟨aa, 0, none⟩ = some (.slice aj ah.length al) ∧ w'.cell? ⟨aa, 1, none⟩ = some (.slice an ag.length am) ∧ w'.cell? ⟨aa, 2, none⟩ = some (.int .i64 af) ∧ w'.cell? ⟨aa, 3, none⟩ = some (.int .i64 ac) ∧ w'.cell? ⟨aa, 4, none⟩ = some (.int .i64 ad) ∧ w'.cell? ⟨aa, 5, none⟩ = some (.slice ak ae.length ai)) (ds := []) (Array.replicate 29 false) (by kernel_rfl) rfl rfl (cz6 ab.out) (fun hHeld => ?_); refine with_tabW impl_DiskOk.tab1 impl_DiskOk.bits1 (fun HT_ HW_ => ?_)
    generalize w43.drew = w44 at ab HB hHeld ⊢
    refine pP 0 (some 3) ?_
    refine pT 1 (some 4) ?_
    refine pP 2 (some 5) ?_
    refine pP 3 (some 6) ?_
    refine pP 4 (some 7) ?_
    refine pP 5 (some 8) ?_
    refine pT 6 (some 9) ?_
    refine pP 7 (some 10) ?_
    refine pP 8 (some 11) ?_
    refine pP 9 (some 12) ?_
    refine pP 10 (some 13) ?_
    refine pP 11 (some 14) ?_
    refine pT 12 (some 15) ?_
    refine pO 13 (some 16) (fun K hK => ?_)
    refine gG Try.func69 #[.agg #[.int .i64 af, .int .i64 ac, .int .i64 ad]] ?_
    with_reducible refine (impl_isRecord.calls af ac ad false _ A8.out).mono ?_
    rintro e w45 ⟨rfl, hb⟩
    refine ⟨_, rfl, ?_⟩
    have n0_ := aM (blk_below (by have X_ := ab.out; exact TX) hb)
    have n1_ := aM (below_step TB hb)
    clear ab
    clear HB
    have ab := n0_
    have HB := n1_
    clear n0_ n1_
    (try clear hb)
    (try clear hb2)
    (try clear hk)
    (try clear hi)
    refine hK.out _ _ (cz6 ab.out) (fun hHeld => ?_)
    clear hK K
    refine nR ?_
    refine pP 14 (some 17) ?_
    refine pP 15 (some 18) ?_
    refine pP 16 (some 19) ?_
    refine pX 17 (some 20) ?_
    refine pX 18 (some 21) ?_
    refine pX 19 (some 22) ?_
    refine pX 20 (some 23) ?_
    refine pX 21 (some 24) ?_
    refine pX 22 (some 25) ?_
    refine pX 23 (some 26) ?_
    refine pX 24 (some 27) ?_
    refine pX 25 (some 28) ?_
    refine pX 26 (some 29) ?_
    refine pX 27 (some 30) ?_
    refine pP 28 (some 31) ?_
    refine done_ (done_of HT_.out (by kernel_rfl)) ?_
    try go_wp2
    go_ret
    exact ⟨by first | rfl | (simp [errW_none, errW_some] <;> rfl) | (simp [*, errW_none, errW_some] <;> rfl), TB⟩

end Go.Proofs.Ytogilihkphjjbaa.Q
