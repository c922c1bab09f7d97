/- Functions of the program as plain Lean functions, and that a call of each comes to what its function tells. Written by a program of this seat. -/
import Derived.Test.YtanpaipapcjpoaaGreatDoorQ0
import Derived.Test.YtanpaipapcjpoaaGreatDoorQ14
import Derived.Test.YtanpaipapcjpoaaGreatDoorQ21
import Derived.Test.YtanpaipapcjpoaaGreatDoorQ28
set_option maxHeartbeats 40000000
set_option maxRecDepth 100000
namespace Go.Proofs.YtanpaipapcjpoaaGreatDoor.Q
open Go.RowKit Go.Proofs.YtanpaipapcjpoaaGreatDoorW.PrintWords Go.Proofs.YtanpaipapcjpoaaGreatDoorW.PrintLast Go.Proofs.YtanpaipapcjpoaaGreatDoorW.PrintMore
attribute [local go_sem] min2_int min_two
set_option linter.unusedVariables false
set_option linter.unusedSimpArgs false
def spec_MsgText.f (k : Nat) (a0_0 : Int) (a0_1 : Int) (a0_2 : Int) (a0_3 : Int) (a0_4 : Int) (l0_5 : List (S75)) (a0_6 : Int) (a0_7 : Int) (a0_8 : Int) (l0_9 : List Int) : Option (ByteArray) := (spec_MsgOk.f k a0_0 a0_1 a0_2 a0_3 a0_4 l0_5 a0_6 a0_7 a0_8 l0_9).bind fun t847 => (if t847 = true then (if a0_0 = 1 then ((spec_NumText.f k a0_2).bind fun t848 => (if 4 + t848.size ≤ 9223372036854775807 then (some ((⟨#[109, 97, 110, 32]⟩ : ByteArray) ++ t848)) else (none))) else (if a0_0 = 2 then ((spec_NumText.f k a0_1).bind fun t849 => (if 5 + t849.size ≤ 9223372036854775807 then (if ((⟨#[119, 97, 110, 116, 32]⟩ : ByteArray) ++ t849).size + 1 ≤ 9223372036854775807 then ((spec_CountSet.f k a0_6).bind fun t850 => ((spec_NumText.f k t850).bind fun t851 => (if (((⟨#[119, 97, 110, 116, 32]⟩ : ByteArray) ++ t849) ++ (⟨#[32]⟩ : ByteArray)).size + t851.size ≤ 9223372036854775807 then (if ((((⟨#[119, 97, 110, 116, 32]⟩ : ByteArray) ++ t849) ++ (⟨#[32]⟩ : ByteArray)) ++ t851).size + 1 ≤ 9223372036854775807 then ((spec_CountSet.f k a0_7).bind fun t852 => ((spec_NumText.f k t852).bind fun t853 => (if (((((⟨#[119, 97, 110, 116, 32]⟩ : ByteArray) ++ t849) ++ (⟨#[32]⟩ : ByteArray)) ++ t851) ++ (⟨#[32]⟩ : ByteArray)).size + t853.size ≤ 9223372036854775807 then (some ((((((⟨#[119, 97, 110, 116, 32]⟩ : ByteArray) ++ t849) ++ (⟨#[32]⟩ : ByteArray)) ++ t851) ++ (⟨#[32]⟩ : ByteArray)) ++ t853)) else (none)))) else (none)) else (none)))) else (none)) else (none))) else (if a0_0 = 3 then ((spec_NumText.f k a0_1).bind fun t854 => (if 5 + t854.size ≤ 9223372036854775807 then (if ((⟨#[112, 97, 114, 116, 32]⟩ : ByteArray) ++ t854).size + 1 ≤ 9223372036854775807 then ((spec_NumText.f k a0_8).bind fun t855 => (if (((⟨#[112, 97, 114, 116, 32]⟩ : ByteArray) ++ t854) ++ (⟨#[32]⟩ : ByteArray)).size + t855.size ≤ 9223372036854775807 then (some ((((⟨#[112, 97, 114, 116, 32]⟩ : ByteArray) ++ t854) ++ (⟨#[32]⟩ : ByteArray)) ++ t855)) else (none))) else (none)) else (none))) else ((spec_NumText.f k a0_1).bind fun t856 => (if 5 + t856.size ≤ 9223372036854775807 then (some ((⟨#[98, 101, 97, 116, 32]⟩ : ByteArray) ++ t856)) else (none)))))) else (some (⟨#[]⟩ : ByteArray)))
theorem spec_MsgText.mono : ∀ a0 a1 a2 a3 a4 a5 a6 a7 a8 a9 k, LeO (spec_MsgText.f k a0 a1 a2 a3 a4 a5 a6 a7 a8 a9) (spec_MsgText.f (k + 1) a0 a1 a2 a3 a4 a5 a6 a7 a8 a9) := by
  intro a0 a1 a2 a3 a4 a5 a6 a7 a8 a9 k;have m0_ := @spec_CountSet.mono;have m1_ := @spec_MsgOk.mono;have m2_ := @spec_NumText.mono;unfold spec_MsgText.f;exact LM
def spec_MsgText.T7 : Bool × List (List Nat × List Nat) := (true, [([], []), ([0], [0]), ([1], [1]), ([2], [2]), ([3], [3]), ([], []), ([5], [5]), ([6, 2], [6]), ([7, 7], [7]), ([4, 8], [4, 8]), ([9], [9]), ([], []), ([11], [11]), ([12, 8], [12]), ([13, 13], [13]), ([10, 14], [10, 14]), ([15, 14, 0, 1, 2, 3, 4, 5, 6, 7, 8, 9, 10, 11, 12, 13, 14, 15], [15])])
def spec_MsgText.B7 : List Nat := [0, 1, 3, 7, 15, 0, 32, 103, 231, 511, 1023, 0, 2048, 6631, 14823, 32767, 65535]
theorem spec_MsgText.tab7 : rtab .any (opsOf Tryz.f17 7) = spec_MsgText.T7 := by kernel_rfl
theorem spec_MsgText.bits7 : waitsOk spec_MsgText.T7.2 spec_MsgText.B7 = true := by kernel_rfl
def spec_MsgText.T9 : Bool × List (List Nat × List Nat) := (true, [([], []), ([0], [0]), ([1], [1]), ([2], [2]), ([3], [3]), ([], []), ([5], [5]), ([6, 2], [6]), ([4, 7], [4, 7]), ([8, 7, 0, 1, 2, 3, 4, 5, 6, 7, 8], [8])])
def spec_MsgText.B9 : List Nat := [0, 1, 3, 7, 15, 0, 32, 103, 255, 511]
theorem spec_MsgText.tab9 : rtab .any (opsOf Tryz.f17 9) = spec_MsgText.T9 := by kernel_rfl
theorem spec_MsgText.bits9 : waitsOk spec_MsgText.T9.2 spec_MsgText.B9 = true := by kernel_rfl
theorem spec_MsgText.calls {k : Nat} {a0_0 : Int} {a0_1 : Int} {a0_2 : Int} {a0_3 : Int} {a0_4 : Int} {A0_5 : Option Addr} {c0_5 : Nat} {l0_5 : List (S75)} {a0_6 : Int} {a0_7 : Int} {a0_8 : Int} {A0_9 : Option Addr} {c0_9 : Nat} {l0_9 : List Int} {r : ByteArray} {w : World} (hr0_5 : Kd.C k75 w A0_5 l0_5.length l0_5) (hc0_5 : l0_5.length ≤ c0_5) (hr0_9 : Kd.C (Kd.int .u8) w A0_9 l0_9.length l0_9) (hc0_9 : l0_9.length ≤ c0_9) (h : spec_MsgText.f k a0_0 a0_1 a0_2 a0_3 a0_4 l0_5 a0_6 a0_7 a0_8 l0_9 = some r) :
    Calls Tryz.prog 17 #[.agg #[.int .i64 a0_0, .int .i64 a0_1, .int .i64 a0_2, .int .i64 a0_3, .int .i64 a0_4, .slice A0_5 l0_5.length c0_5, .int .i64 a0_6, .int .i64 a0_7, .int .i64 a0_8, .slice A0_9 l0_9.length c0_9]] w fun e w' => e = .returned (.string r) ∧ Below w.heap.size w w' := by
  have hu28 := Tryz.underlying28
  have HR0_5 := aM hr0_5
  have HC0_5 := aM hc0_5
  clear hr0_5 hc0_5
  have HR0_9 := aM hr0_9
  have HC0_9 := aM hc0_9
  clear hr0_9 hc0_9
  have HB := aM (Below.refl w.heap.size w)
  have H := h
  clear h
  unfold spec_MsgText.f at H
  replace H := bE H
  obtain ⟨t847, A2, H⟩ := H
  go_enter Tryz.func17, Tryz.ntmps17
  go_wp2_with (first | ((with_reducible refine gate_dst (N := 1) rfl ?_); refine gBx 1 #[.int .i64 a0_0, .int .i64 a0_1, .int .i64 a0_2, .int .i64 a0_3, .int .i64 a0_4, .slice A0_5 l0_5.length c0_5, .int .i64 a0_6, .int .i64 a0_7, .int .i64 a0_8, .slice A0_9 l0_9.length c0_9] 28 ?_; intro gb846 hg w4 hbox hb; have BK846 := aM (hbox); have GW846 := gW HB hg; have GE846 := gW HB hg; replace HB := bS HB hb; clear hb hbox hg; obtain ⟨hcz5_0, hcz5_1, hcz5_2, hcz5_3, hcz5_4, hcz5_5, hcz5_6, hcz5_7, hcz5_8, hcz5_9⟩ := cz10 BK846.out; obtain ⟨hfz5_0, hfz5_1, hfz5_2, hfz5_3, hfz5_4, hfz5_5, hfz5_6, hfz5_7, hfz5_8, hfz5_9⟩ := fz10 BK846.out) | ((with_reducible refine gate_callee (f := 15) rfl ?_); refine gL (some 4) Tryz.func15 #[.agg #[.int .i64 a0_0, .int .i64 a0_1, .int .i64 a0_2, .int .i64 a0_3, .int .i64 a0_4, .slice A0_5 l0_5.length c0_5, .int .i64 a0_6, .int .i64 a0_7, .int .i64 a0_8, .slice A0_9 l0_9.length c0_9]] ?_; (with_reducible refine (spec_MsgOk.calls ?side1 ?side2 ?side3 ?side4 A2.out).mono ?_); (case side1 => have X_ := (Kd.C_below HR0_5.out HB.out); exact TC); (case side2 => exact HC0_5.out); (case side3 => have X_ := (Kd.C_below HR0_9.out HB.out); exact TC); (case side4 => exact HC0_9.out); rintro e w6 ⟨rfl, hb⟩; refine ⟨_, rfl, ?_⟩; replace BK846 := mB BK846 hb; replace HB := bS HB hb; clear hb) | ((with_reducible refine gate_dst (N := 5) rfl ?_); generalize hG_ : wpList _ _ _ _ _ _ = G_))
  subst hG_
  by_cases c7 : t847 = true
  · subst c7
    replace H := ifT H
    by_cases c8 : a0_0 = 1
    · rw [if_pos c8] at H
      have c8b0 : (a0_0 == 1) = true := beq_iff_eq.mpr c8
      have c8b1 : (a0_0 != 1) = false := bne_eq_false_iff_eq.mpr c8
      clear c8
      replace H := bE H
      obtain ⟨t848, A9, H⟩ := H
      replace H := ifN H
      obtain ⟨c10, H⟩ := H
      have c10b0 := eq_true c10
      have c10b1 : decide (4 + t848.size ≤ 9223372036854775807) = true := decide_eq_true c10
      try have c10b2 : (9223372036854775807 < 4 + t848.size) = False := eq_false (Nat.not_lt.2 c10)
      obtain rfl := oI H
      obtain ⟨hcz11_0, hcz11_1, hcz11_2, hcz11_3, hcz11_4, hcz11_5, hcz11_6, hcz11_7, hcz11_8, hcz11_9⟩ := cz10 BK846.out
      obtain ⟨hfz11_0, hfz11_1, hfz11_2, hfz11_3, hfz11_4, hfz11_5, hfz11_6, hfz11_7, hfz11_8, hfz11_9⟩ := fz10 BK846.out
      go_wp2_with (first | ((with_reducible refine gate_callee (f := 55) rfl ?_); refine gL (some 13) Tryz.func55 #[.int .i64 a0_2] ?_; (with_reducible refine (spec_NumText.calls A9.out).mono ?_); rintro e w12 ⟨rfl, hb⟩; refine ⟨_, rfl, ?_⟩; replace BK846 := mB BK846 hb; replace HB := bS HB hb; clear hb))
      go_ret
      exact ⟨TE, TB⟩
    · rw [if_neg c8] at H
      have c8b0 : (a0_0 == 1) = false := beq_eq_false_iff_ne.mpr c8
      have c8b1 : (a0_0 != 1) = true := bne_iff_ne.mpr c8
      by_cases c13 : a0_0 = 2
      · rw [if_pos c13] at H
        have c13b0 : (a0_0 == 2) = true := beq_iff_eq.mpr c13
        have c13b1 : (a0_0 != 2) = false := bne_eq_false_iff_eq.mpr c13
        clear c13
        replace H := bE H
        obtain ⟨t849, A14, H⟩ := H
        replace H := ifN H
        obtain ⟨c15, H⟩ := H
        have c15b0 := eq_true c15
        have c15b1 : decide (5 + t849.size ≤ 9223372036854775807) = true := decide_eq_true c15
        try have c15b2 : (9223372036854775807 < 5 + t849.size) = False := eq_false (Nat.not_lt.2 c15)
        replace H := ifN H
        obtain ⟨c16, H⟩ := H
        have c16b0 := eq_true c16
        have c16b1 : decide (((⟨#[119, 97, 110, 116, 32]⟩ : ByteArray) ++ t849).size + 1 ≤ 9223372036854775807) = true := decide_eq_true c16
        try have c16b2 : (9223372036854775807 < ((⟨#[119, 97, 110, 116, 32]⟩ : ByteArray) ++ t849).size + 1) = False := eq_false (Nat.not_lt.2 c16)
        (try have c16b3 : (9223372036854775807 < 5 + t849.size + 1) = False := eq_false (Nat.not_lt.2 (by have q_ := c16; simp only [ByteArray.size_append] at q_; exact q_)))
        replace H := bE H
        obtain ⟨t850, A17, H⟩ := H
        replace H := bE H
        obtain ⟨t851, A18, H⟩ := H
        replace H := ifN H
        obtain ⟨c19, H⟩ := H
        have c19b0 := eq_true c19
        have c19b1 : decide ((((⟨#[119, 97, 110, 116, 32]⟩ : ByteArray) ++ t849) ++ (⟨#[32]⟩ : ByteArray)).size + t851.size ≤ 9223372036854775807) = true := decide_eq_true c19
        try have c19b2 : (9223372036854775807 < (((⟨#[119, 97, 110, 116, 32]⟩ : ByteArray) ++ t849) ++ (⟨#[32]⟩ : ByteArray)).size + t851.size) = False := eq_false (Nat.not_lt.2 c19)
        (try have c19b3 : (9223372036854775807 < 5 + t849.size + 1 + t851.size) = False := eq_false (Nat.not_lt.2 (by have q_ := c19; simp only [ByteArray.size_append] at q_; exact q_)))
        replace H := ifN H
        obtain ⟨c20, H⟩ := H
        have c20b0 := eq_true c20
        have c20b1 : decide (((((⟨#[119, 97, 110, 116, 32]⟩ : ByteArray) ++ t849) ++ (⟨#[32]⟩ : ByteArray)) ++ t851).size + 1 ≤ 9223372036854775807) = true := decide_eq_true c20
        try have c20b2 : (9223372036854775807 < ((((⟨#[119, 97, 110, 116, 32]⟩ : ByteArray) ++ t849) ++ (⟨#[32]⟩ : ByteArray)) ++ t851).size + 1) = False := eq_false (Nat.not_lt.2 c20)
        (try have c20b3 : (9223372036854775807 < 5 + t849.size + 1 + t851.size + 1) = False := eq_false (Nat.not_lt.2 (by have q_ := c20; simp only [ByteArray.size_append] at q_; exact q_)))
        replace H := bE H
        obtain ⟨t852, A21, H⟩ := H
        replace H := bE H
        obtain ⟨t853, A22, H⟩ := H
        replace H := ifN H
        obtain ⟨c23, H⟩ := H
        have c23b0 := eq_true c23
        have c23b1 : decide ((((((⟨#[119, 97, 110, 116, 32]⟩ : ByteArray) ++ t849) ++ (⟨#[32]⟩ : ByteArray)) ++ t851) ++ (⟨#[32]⟩ : ByteArray)).size + t853.size ≤ 9223372036854775807) = true := decide_eq_true c23
        try have c23b2 : (9223372036854775807 < (((((⟨#[119, 97, 110, 116, 32]⟩ : ByteArray) ++ t849) ++ (⟨#[32]⟩ : ByteArray)) ++ t851) ++ (⟨#[32]⟩ : ByteArray)).size + t853.size) = False := eq_false (Nat.not_lt.2 c23)
        (try have c23b3 : (9223372036854775807 < 5 + t849.size + 1 + t851.size + 1 + t853.size) = False := eq_false (Nat.not_lt.2 (by have q_ := c23; simp only [ByteArray.size_append] at q_; exact q_)))
        obtain rfl := oI H
        obtain ⟨hcz24_0, hcz24_1, hcz24_2, hcz24_3, hcz24_4, hcz24_5, hcz24_6, hcz24_7, hcz24_8, hcz24_9⟩ := cz10 BK846.out
        obtain ⟨hfz24_0, hfz24_1, hfz24_2, hfz24_3, hfz24_4, hfz24_5, hfz24_6, hfz24_7, hfz24_8, hfz24_9⟩ := fz10 BK846.out
        try go_wp2
        (try (rw [drewN_self w6]; generalize hq_ : World.drewN w6 _ = w6; have n0_ : Aside0 (w6.heap[gb846]? = some (.cells #[.int .i64 a0_0, .int .i64 a0_1, .int .i64 a0_2, .int .i64 a0_3, .int .i64 a0_4, .slice A0_5 l0_5.length c0_5, .int .i64 a0_6, .int .i64 a0_7, .int .i64 a0_8, .slice A0_9 l0_9.length c0_9] 28 (0, 0))) := ⟨by rw [← hq_]; exact TK⟩; have n1_ : Aside0 (Below w.heap.size w w6) := ⟨by rw [← hq_]; exact TB⟩; clear BK846 HB hq_; have BK846 := n0_; have HB := n1_; clear n0_ n1_))
        replace BK846 := bD BK846
        replace HB := aM (below_drew1 HB.out)
        refine st_ (n := 17) (ds := []) (Array.replicate 17 false) (hK10 BK846.out) (by kernel_rfl) rfl rfl (fun hHeld => ?_); refine with_tabW spec_MsgText.tab7 spec_MsgText.bits7 (fun HT_ HW_ => ?_)
        generalize w6.drew = w25 at BK846 HB hHeld ⊢
        refine ppq 0 17 ?_
        refine ppq 5 22 ?_
        refine ppq 11 28 ?_
        refine ptq 1 18 ?_
        refine ptq 6 23 ?_
        refine ptq 12 29 ?_
        refine poq 2 19 (fun K hK => ?_)
        refine gG Tryz.func55 #[.int .i64 a0_1] ?_
        with_reducible refine (spec_NumText.calls A14.out).mono ?_
        rintro e w26 ⟨rfl, hb⟩
        refine ⟨_, rfl, ?_⟩
        replace BK846 := mB BK846 hb
        replace HB := bS HB hb
        (try clear hb)
        (try clear hb2)
        (try clear hk)
        (try clear hi)
        refine hK.out _ _ (cz10 BK846.out) (fun hHeld => ?_)
        clear hK K
        refine nR ?_
        refine ppq 3 20 ?_
        refine ppq 4 21 ?_
        refine poq 7 24 (fun K hK => ?_)
        refine gG Tryz.func56 #[.int .i64 a0_6] ?_
        with_reducible refine (spec_CountSet.calls A17.out).mono ?_
        rintro e w' ⟨rfl, ⟨nd, rfl⟩⟩
        refine ⟨_, rfl, ?_⟩
        refine hK.out _ _ (cz10 BK846.out) (fun hHeld => ?_)
        clear hK K
        refine nR ?_
        refine poq 8 25 (fun K hK => ?_)
        refine gG Tryz.func55 #[.int .i64 t850] ?_
        with_reducible refine (spec_NumText.calls A18.out).mono ?_
        rintro e w27 ⟨rfl, hb⟩
        refine ⟨_, rfl, ?_⟩
        replace BK846 := mB BK846 hb
        replace HB := bS HB hb
        (try clear hb)
        (try clear hb2)
        (try clear hk)
        (try clear hi)
        refine hK.out _ _ (cz10 BK846.out) (fun hHeld => ?_)
        clear hK K
        refine nR ?_
        refine ppq 9 26 ?_
        refine ppq 10 27 ?_
        refine poq 13 30 (fun K hK => ?_)
        refine gG Tryz.func56 #[.int .i64 a0_7] ?_
        with_reducible refine (spec_CountSet.calls A21.out).mono ?_
        rintro e w' ⟨rfl, ⟨nd, rfl⟩⟩
        refine ⟨_, rfl, ?_⟩
        refine hK.out _ _ (cz10 BK846.out) (fun hHeld => ?_)
        clear hK K
        refine nR ?_
        refine poq 14 31 (fun K hK => ?_)
        refine gG Tryz.func55 #[.int .i64 t852] ?_
        with_reducible refine (spec_NumText.calls A22.out).mono ?_
        rintro e w28 ⟨rfl, hb⟩
        refine ⟨_, rfl, ?_⟩
        replace BK846 := mB BK846 hb
        replace HB := bS HB hb
        (try clear hb)
        (try clear hb2)
        (try clear hk)
        (try clear hi)
        refine hK.out _ _ (cz10 BK846.out) (fun hHeld => ?_)
        clear hK K
        refine nR ?_
        refine ppq 15 32 ?_
        refine ppq 16 2 ?_
        refine done_ (done_of HT_.out (by kernel_rfl)) ?_
        try go_wp2
        go_ret
        exact ⟨TE, TB⟩
      · rw [if_neg c13] at H
        have c13b0 : (a0_0 == 2) = false := beq_eq_false_iff_ne.mpr c13
        have c13b1 : (a0_0 != 2) = true := bne_iff_ne.mpr c13
        by_cases c29 : a0_0 = 3
        · rw [if_pos c29] at H
          have c29b0 : (a0_0 == 3) = true := beq_iff_eq.mpr c29
          have c29b1 : (a0_0 != 3) = false := bne_eq_false_iff_eq.mpr c29
          clear c29
          replace H := bE H
          obtain ⟨t854, A30, H⟩ := H
          replace H := ifN H
          obtain ⟨c31, H⟩ := H
          have c31b0 := eq_true c31
          have c31b1 : decide (5 + t854.size ≤ 9223372036854775807) = true := decide_eq_true c31
          try have c31b2 : (9223372036854775807 < 5 + t854.size) = False := eq_false (Nat.not_lt.2 c31)
          replace H := ifN H
          obtain ⟨c32, H⟩ := H
          have c32b0 := eq_true c32
          have c32b1 : decide (((⟨#[112, 97, 114, 116, 32]⟩ : ByteArray) ++ t854).size + 1 ≤ 9223372036854775807) = true := decide_eq_true c32
          try have c32b2 : (9223372036854775807 < ((⟨#[112, 97, 114, 116, 32]⟩ : ByteArray) ++ t854).size + 1) = False := eq_false (Nat.not_lt.2 c32)
          (try have c32b3 : (9223372036854775807 < 5 + t854.size + 1) = False := eq_false (Nat.not_lt.2 (by have q_ := c32; simp only [ByteArray.size_append] at q_; exact q_)))
          replace H := bE H
          obtain ⟨t855, A33, H⟩ := H
          replace H := ifN H
          obtain ⟨c34, H⟩ := H
          have c34b0 := eq_true c34
          have c34b1 : decide ((((⟨#[112, 97, 114, 116, 32]⟩ : ByteArray) ++ t854) ++ (⟨#[32]⟩ : ByteArray)).size + t855.size ≤ 9223372036854775807) = true := decide_eq_true c34
          try have c34b2 : (9223372036854775807 < (((⟨#[112, 97, 114, 116, 32]⟩ : ByteArray) ++ t854) ++ (⟨#[32]⟩ : ByteArray)).size + t855.size) = False := eq_false (Nat.not_lt.2 c34)
          (try have c34b3 : (9223372036854775807 < 5 + t854.size + 1 + t855.size) = False := eq_false (Nat.not_lt.2 (by have q_ := c34; simp only [ByteArray.size_append] at q_; exact q_)))
          obtain rfl := oI H
          obtain ⟨hcz35_0, hcz35_1, hcz35_2, hcz35_3, hcz35_4, hcz35_5, hcz35_6, hcz35_7, hcz35_8, hcz35_9⟩ := cz10 BK846.out
          obtain ⟨hfz35_0, hfz35_1, hfz35_2, hfz35_3, hfz35_4, hfz35_5, hfz35_6, hfz35_7, hfz35_8, hfz35_9⟩ := fz10 BK846.out
          try go_wp2
          (try (rw [drewN_self w6]; generalize hq_ : World.drewN w6 _ = w6; have n0_ : Aside0 (w6.heap[gb846]? = some (.cells #[.int .i64 a0_0, .int .i64 a0_1, .int .i64 a0_2, .int .i64 a0_3, .int .i64 a0_4, .slice A0_5 l0_5.length c0_5, .int .i64 a0_6, .int .i64 a0_7, .int .i64 a0_8, .slice A0_9 l0_9.length c0_9] 28 (0, 0))) := ⟨by rw [← hq_]; exact TK⟩; have n1_ : Aside0 (Below w.heap.size w w6) := ⟨by rw [← hq_]; exact TB⟩; clear BK846 HB hq_; have BK846 := n0_; have HB := n1_; clear n0_ n1_))
          replace BK846 := bD BK846
          replace HB := aM (below_drew1 HB.out)
          refine st_ (n := 10) (ds := []) (Array.replicate 10 false) (hK10 BK846.out) (by kernel_rfl) rfl rfl (fun hHeld => ?_); refine with_tabW spec_MsgText.tab9 spec_MsgText.bits9 (fun HT_ HW_ => ?_)
          generalize w6.drew = w36 at BK846 HB hHeld ⊢
          refine ppq 0 35 ?_
          refine ppq 5 40 ?_
          refine ptq 1 36 ?_
          refine ptq 6 41 ?_
          refine poq 2 37 (fun K hK => ?_)
          refine gG Tryz.func55 #[.int .i64 a0_1] ?_
          with_reducible refine (spec_NumText.calls A30.out).mono ?_
          rintro e w37 ⟨rfl, hb⟩
          refine ⟨_, rfl, ?_⟩
          replace BK846 := mB BK846 hb
          replace HB := bS HB hb
          (try clear hb)
          (try clear hb2)
          (try clear hk)
          (try clear hi)
          refine hK.out _ _ (cz10 BK846.out) (fun hHeld => ?_)
          clear hK K
          refine nR ?_
          refine ppq 3 38 ?_
          refine ppq 4 39 ?_
          refine poq 7 42 (fun K hK => ?_)
          refine gG Tryz.func55 #[.int .i64 a0_8] ?_
          with_reducible refine (spec_NumText.calls A33.out).mono ?_
          rintro e w38 ⟨rfl, hb⟩
          refine ⟨_, rfl, ?_⟩
          replace BK846 := mB BK846 hb
          replace HB := bS HB hb
          (try clear hb)
          (try clear hb2)
          (try clear hk)
          (try clear hi)
          refine hK.out _ _ (cz10 BK846.out) (fun hHeld => ?_)
          clear hK K
          refine nR ?_
          refine ppq 8 43 ?_
          refine ppq 9 2 ?_
          refine done_ (done_of HT_.out (by kernel_rfl)) ?_
          try go_wp2
          go_ret
          exact ⟨TE, TB⟩
        · rw [if_neg c29] at H
          have c29b0 : (a0_0 == 3) = false := beq_eq_false_iff_ne.mpr c29
          have c29b1 : (a0_0 != 3) = true := bne_iff_ne.mpr c29
          replace H := bE H
          obtain ⟨t856, A39, H⟩ := H
          replace H := ifN H
          obtain ⟨c40, H⟩ := H
          have c40b0 := eq_true c40
          have c40b1 : decide (5 + t856.size ≤ 9223372036854775807) = true := decide_eq_true c40
          try have c40b2 : (9223372036854775807 < 5 + t856.size) = False := eq_false (Nat.not_lt.2 c40)
          obtain rfl := oI H
          obtain ⟨hcz41_0, hcz41_1, hcz41_2, hcz41_3, hcz41_4, hcz41_5, hcz41_6, hcz41_7, hcz41_8, hcz41_9⟩ := cz10 BK846.out
          obtain ⟨hfz41_0, hfz41_1, hfz41_2, hfz41_3, hfz41_4, hfz41_5, hfz41_6, hfz41_7, hfz41_8, hfz41_9⟩ := fz10 BK846.out
          go_wp2_with (first | ((with_reducible refine gate_callee (f := 55) rfl ?_); refine gL (some 46) Tryz.func55 #[.int .i64 a0_1] ?_; (with_reducible refine (spec_NumText.calls A39.out).mono ?_); rintro e w42 ⟨rfl, hb⟩; refine ⟨_, rfl, ?_⟩; replace BK846 := mB BK846 hb; replace HB := bS HB hb; clear hb))
          go_ret
          exact ⟨TE, TB⟩
  · replace c7 := bF c7
    subst c7
    replace H := ifF H
    obtain rfl := oI H
    go_wp2
    go_ret
    exact ⟨TE, TB⟩
def impl_PartMsg.f (a0 : Int) (a1 : Int) (l2 : List Int) : Option (Int × Int × Int × Int × Int × (List (S75)) × Int × Int × Int × List Int) := (impl_cloned.f l2).bind fun t858 => (some (3, a0, 0, 0, 0, ([] : List (S75)), 0, 0, a1, t858))
theorem impl_PartMsg.calls {a0 : Int} {a1 : Int} {A2 : Option Addr} {c2 : Nat} {l2 : List Int} {r1 : Int} {r2 : Int} {r3 : Int} {r4 : Int} {r5 : Int} {r6 : List (S75)} {r7 : Int} {r8 : Int} {r9 : Int} {r10 : List Int} {w : World} (hr2 : Kd.C (Kd.int .u8) w A2 l2.length l2) (hc2 : l2.length ≤ c2) (h : impl_PartMsg.f a0 a1 l2 = some (r1, r2, r3, r4, r5, r6, r7, r8, r9, r10)) :
    Calls Tryz.prog 18 #[.int .i64 a0, .int .i64 a1, .slice A2 l2.length c2] w fun e w' => ∃ v5_ v9_ : Value, e = .returned (.agg #[.int .i64 r1, .int .i64 r2, .int .i64 r3, .int .i64 r4, .int .i64 r5, v5_, .int .i64 r7, .int .i64 r8, .int .i64 r9, v9_]) ∧ Kd.R k75 75 w' w.heap.size (fun _ => True) v5_ r6 ∧ Kd.R (Kd.int .u8) 5 w' w.heap.size (fun _ => True) v9_ r10 ∧ Below w.heap.size w w' := by
  have hu28 := Tryz.underlying28
  have HR2 := aM hr2
  have HC2 := aM hc2
  clear hr2 hc2
  have HB := aM (Below.refl w.heap.size w)
  have H := h
  clear h
  unfold impl_PartMsg.f at H
  replace H := bE H
  obtain ⟨t858, A4, H⟩ := H
  simp only [Option.some.injEq, Prod.mk.injEq] at H
  obtain ⟨rfl, rfl, rfl, rfl, rfl, rfl, rfl, rfl, rfl, rfl⟩ := H
  go_enter Tryz.func18, Tryz.ntmps18
  go_wp2_with (first | ((with_reducible refine gate_dst (N := 6) rfl ?_); refine gBx 6 #[.int .i64 0, .int .i64 0, .int .i64 0, .int .i64 0, .int .i64 0, .slice none 0 0, .int .i64 0, .int .i64 0, .int .i64 0, .slice none 0 0] 28 ?_; intro gb857 hg w5 hbox hb; have BK857 := aM (hbox); have GW857 := gW HB hg; have GE857 := gW HB hg; replace HB := bS HB hb; clear hb hbox hg) | ((with_reducible refine gate_callee (f := 57) rfl ?_); refine gL (some 10) Tryz.func57 #[.slice A2 l2.length c2] ?_; (with_reducible refine (impl_cloned.calls ?side1 ?side2 A4.out).mono ?_); (case side1 => have X_ := (Kd.C_below HR2.out HB.out); exact TC); (case side2 => exact HC2.out); rintro e w6 ⟨v859, rfl, ho0, hb⟩; refine ⟨_, rfl, ?_⟩; have HO860 := aM (Kd.R_lower ho0 (below_size TB)); replace BK857 := mB BK857 hb; replace HB := bS HB hb; clear ho0 hb; obtain ⟨Ao7, co7, eo7⟩ := Kd.R_slice HO860.out; subst eo7; obtain ⟨hcz8_0, hcz8_1, hcz8_2, hcz8_3, hcz8_4, hcz8_5, hcz8_6, hcz8_7, hcz8_8, hcz8_9⟩ := cz10 BK857.out; obtain ⟨hfz8_0, hfz8_1, hfz8_2, hfz8_3, hfz8_4, hfz8_5, hfz8_6, hfz8_7, hfz8_8, hfz8_9⟩ := fz10 BK857.out))
  refine bodyPost_ret (results_cell_row rfl _ _ gb857 28 #[.int .i64 3, .int .i64 a0, .int .i64 0, .int .i64 0, .int .i64 0, .slice none 0 0, .int .i64 0, .int .i64 0, .int .i64 a1, .slice Ao7 t858.length co7] (0, 0) _ rfl (blk_put (cs := #[.int .i64 3, .int .i64 a0, .int .i64 0, .int .i64 0, .int .i64 0, .slice none 0 0, .int .i64 0, .int .i64 0, .int .i64 a1, .slice none 0 0]) (blk_put (cs := #[.int .i64 3, .int .i64 a0, .int .i64 0, .int .i64 0, .int .i64 0, .slice none 0 0, .int .i64 0, .int .i64 0, .int .i64 0, .slice none 0 0]) (blk_put (cs := #[.int .i64 3, .int .i64 a0, .int .i64 0, .int .i64 0, .int .i64 0, .slice none 0 0, .int .i64 0, .int .i64 0, .int .i64 0, .slice none 0 0]) (blk_put (cs := #[.int .i64 3, .int .i64 a0, .int .i64 0, .int .i64 0, .int .i64 0, .slice none 0 0, .int .i64 0, .int .i64 0, .int .i64 0, .slice none 0 0]) (blk_put (cs := #[.int .i64 3, .int .i64 a0, .int .i64 0, .int .i64 0, .int .i64 0, .slice none 0 0, .int .i64 0, .int .i64 0, .int .i64 0, .slice none 0 0]) (blk_put (cs := #[.int .i64 3, .int .i64 a0, .int .i64 0, .int .i64 0, .int .i64 0, .slice none 0 0, .int .i64 0, .int .i64 0, .int .i64 0, .slice none 0 0]) (blk_put (cs := #[.int .i64 3, .int .i64 a0, .int .i64 0, .int .i64 0, .int .i64 0, .slice none 0 0, .int .i64 0, .int .i64 0, .int .i64 0, .slice none 0 0]) (blk_put (cs := #[.int .i64 3, .int .i64 a0, .int .i64 0, .int .i64 0, .int .i64 0, .slice none 0 0, .int .i64 0, .int .i64 0, .int .i64 0, .slice none 0 0]) (blk_put (cs := #[.int .i64 3, .int .i64 0, .int .i64 0, .int .i64 0, .int .i64 0, .slice none 0 0, .int .i64 0, .int .i64 0, .int .i64 0, .slice none 0 0]) (blk_put (cs := #[.int .i64 0, .int .i64 0, .int .i64 0, .int .i64 0, .int .i64 0, .slice none 0 0, .int .i64 0, .int .i64 0, .int .i64 0, .slice none 0 0]) (TZ BK857) 0 _ rfl) 1 _ rfl) 2 _ rfl) 3 _ rfl) 4 _ rfl) 5 _ rfl) 6 _ rfl) 7 _ rfl) 8 _ rfl) 9 _ rfl) Tryz.underlying28 rfl (by kernel_rfl)) rfl ?_
  exact ⟨_, _, TE, by first | exact Kd.R_nil _ _ _ _ _ | exact Kd.N_nil _ _ _ _ _ | exact Kd.V_nil _ _ _ _ _ | exact Kd.Q_nil _ _ _ _ _ | exact Kd.S_nil _ _ _ _ _, by (with_reducible repeat (first | apply Kd.R_alloc | apply Kd.R_drewN | apply Kd.R_drew)); exact Kd.R_mono (RK1 (Kd.R_types HO860.out BK857.out (by decide))) (fun _ hk => trivial), TB⟩
def impl_WantMsg.f (a0 : Int) (a1 : Int) (a2 : Int) : Option (Int × Int × Int × Int × Int × (List (S75)) × Int × Int × Int × List Int) := some (2, a0, 0, 0, 0, ([] : List (S75)), a1, a2, 0, ([] : List Int))
theorem impl_WantMsg.calls {a0 : Int} {a1 : Int} {a2 : Int} {r1 : Int} {r2 : Int} {r3 : Int} {r4 : Int} {r5 : Int} {r6 : List (S75)} {r7 : Int} {r8 : Int} {r9 : Int} {r10 : List Int} {w : World} (h : impl_WantMsg.f a0 a1 a2 = some (r1, r2, r3, r4, r5, r6, r7, r8, r9, r10)) :
  Calls Tryz.prog 20 #[.int .i64 a0, .int .i64 a1, .int .i64 a2] w fun e w' => ∃ v5_ v9_ : Value, e = .returned (.agg #[.int .i64 r1, .int .i64 r2, .int .i64 r3, .int .i64 r4, .int .i64 r5, v5_, .int .i64 r7, .int .i64 r8, .int .i64 r9, v9_]) ∧ Kd.R k75 75 w' w.heap.size (fun _ => True) v5_ r6 ∧ Kd.R (Kd.int .u8) 5 w' w.heap.size (fun _ => True) v9_ r10 ∧ Below w.heap.size w w' := by
 have hu28 := Tryz.underlying28;have HB := aM (Below.refl w.heap.size w);have H := h;clear h;unfold impl_WantMsg.f at H;simp only [Option.some.injEq, Prod.mk.injEq] at H;obtain ⟨rfl, rfl, rfl, rfl, rfl, rfl, rfl, rfl, rfl, rfl⟩ := H;go_enter Tryz.func20, Tryz.ntmps20;go_wp2_with (first | ((with_reducible refine gate_dst (N := 6) rfl ?_); refine gBx 6 #[.int .i64 0, .int .i64 0, .int .i64 0, .int .i64 0, .int .i64 0, .slice none 0 0, .int .i64 0, .int .i64 0, .int .i64 0, .slice none 0 0] 28 ?_; intro gbq1 hg w4 hbox hb; have BKq1 := aM (hbox); have GWq1 := gW HB hg; have GEq1 := gW HB hg; replace HB := bS HB hb; clear hb hbox hg; obtain ⟨hcz5_0, hcz5_1, hcz5_2, hcz5_3, hcz5_4, hcz5_5, hcz5_6, hcz5_7, hcz5_8, hcz5_9⟩ := cz10 BKq1.out; obtain ⟨hfz5_0, hfz5_1, hfz5_2, hfz5_3, hfz5_4, hfz5_5, hfz5_6, hfz5_7, hfz5_8, hfz5_9⟩ := fz10 BKq1.out))
 refine bodyPost_ret (results_cell_row rfl _ _ gbq1 28 #[.int .i64 2, .int .i64 a0, .int .i64 0, .int .i64 0, .int .i64 0, .slice none 0 0, .int .i64 a1, .int .i64 a2, .int .i64 0, .slice none 0 0] (0, 0) _ rfl (blk_put (cs := #[.int .i64 2, .int .i64 a0, .int .i64 0, .int .i64 0, .int .i64 0, .slice none 0 0, .int .i64 a1, .int .i64 a2, .int .i64 0, .slice none 0 0]) (blk_put (cs := #[.int .i64 2, .int .i64 a0, .int .i64 0, .int .i64 0, .int .i64 0, .slice none 0 0, .int .i64 a1, .int .i64 a2, .int .i64 0, .slice none 0 0]) (blk_put (cs := #[.int .i64 2, .int .i64 a0, .int .i64 0, .int .i64 0, .int .i64 0, .slice none 0 0, .int .i64 a1, .int .i64 0, .int .i64 0, .slice none 0 0]) (blk_put (cs := #[.int .i64 2, .int .i64 a0, .int .i64 0, .int .i64 0, .int .i64 0, .slice none 0 0, .int .i64 0, .int .i64 0, .int .i64 0, .slice none 0 0]) (blk_put (cs := #[.int .i64 2, .int .i64 a0, .int .i64 0, .int .i64 0, .int .i64 0, .slice none 0 0, .int .i64 0, .int .i64 0, .int .i64 0, .slice none 0 0]) (blk_put (cs := #[.int .i64 2, .int .i64 a0, .int .i64 0, .int .i64 0, .int .i64 0, .slice none 0 0, .int .i64 0, .int .i64 0, .int .i64 0, .slice none 0 0]) (blk_put (cs := #[.int .i64 2, .int .i64 a0, .int .i64 0, .int .i64 0, .int .i64 0, .slice none 0 0, .int .i64 0, .int .i64 0, .int .i64 0, .slice none 0 0]) (blk_put (cs := #[.int .i64 2, .int .i64 a0, .int .i64 0, .int .i64 0, .int .i64 0, .slice none 0 0, .int .i64 0, .int .i64 0, .int .i64 0, .slice none 0 0]) (blk_put (cs := #[.int .i64 2, .int .i64 0, .int .i64 0, .int .i64 0, .int .i64 0, .slice none 0 0, .int .i64 0, .int .i64 0, .int .i64 0, .slice none 0 0]) (blk_put (cs := #[.int .i64 0, .int .i64 0, .int .i64 0, .int .i64 0, .int .i64 0, .slice none 0 0, .int .i64 0, .int .i64 0, .int .i64 0, .slice none 0 0]) (TZ BKq1) 0 _ rfl) 1 _ rfl) 2 _ rfl) 3 _ rfl) 4 _ rfl) 5 _ rfl) 6 _ rfl) 7 _ rfl) 8 _ rfl) 9 _ rfl) Tryz.underlying28 rfl (by kernel_rfl)) rfl ?_;exact ⟨_, _, TE, by first | exact Kd.R_nil _ _ _ _ _ | exact Kd.N_nil _ _ _ _ _ | exact Kd.V_nil _ _ _ _ _ | exact Kd.Q_nil _ _ _ _ _ | exact Kd.S_nil _ _ _ _ _, by first | exact Kd.R_nil _ _ _ _ _ | exact Kd.N_nil _ _ _ _ _ | exact Kd.V_nil _ _ _ _ _ | exact Kd.Q_nil _ _ _ _ _ | exact Kd.S_nil _ _ _ _ _, TB⟩
end Go.Proofs.YtanpaipapcjpoaaGreatDoor.Q
