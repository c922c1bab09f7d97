/- Functions of the program as plain Lean functions, and that a call of each comes to what its function tells. Written by a program of this seat. -/
import Derived.Test.YtanpaipapcjpoaaDoorQ0
import Derived.Test.YtanpaipapcjpoaaDoorQ5
import Derived.Test.YtanpaipapcjpoaaDoorQ6
namespace Go.Proofs.YtanpaipapcjpoaaDoor.Q
open Go.RowKit Go.Proofs.YtanpaipapcjpoaaDoorW.PrintWords Go.Proofs.YtanpaipapcjpoaaDoorW.PrintLast Go.Proofs.YtanpaipapcjpoaaDoorW.PrintMore
attribute [local go_sem] max2_int min2_int max_two min_two max_three min_three max_four min_four   -- for this text's walks alone
set_option linter.unusedVariables false
set_option linter.unusedSimpArgs false

/-! ### spec_MsgText: function 5 -/
def spec_MsgText.f (k : Nat) (a0_0 : Int) (a0_1 : Int) (a0_2 : Int) (a0_3 : Int) (a0_4 : Int) (l0_5 : List (S61)) (a0_6 : Int) (a0_7 : Int) (a0_8 : Int) (l0_9 : List Int) : Option (ByteArray) := (spec_MsgOk.f k a0_0 a0_1 a0_2 a0_3 a0_4 l0_5 a0_6 a0_7 a0_8 l0_9).bind fun t175 => (if t175 = true then (if a0_0 = 1 then ((spec_NumText.f k a0_2).bind fun t176 => (if 4 + t176.size ≤ 9223372036854775807 then (some ((⟨#[109, 97, 110, 32]⟩ : ByteArray) ++ t176)) else (none))) else (if a0_0 = 2 then ((spec_NumText.f k a0_1).bind fun t177 => (if 5 + t177.size ≤ 9223372036854775807 then (if ((⟨#[119, 97, 110, 116, 32]⟩ : ByteArray) ++ t177).size + 1 ≤ 9223372036854775807 then ((spec_CountSet.f k a0_6).bind fun t178 => ((spec_NumText.f k t178).bind fun t179 => (if (((⟨#[119, 97, 110, 116, 32]⟩ : ByteArray) ++ t177) ++ (⟨#[32]⟩ : ByteArray)).size + t179.size ≤ 9223372036854775807 then (if ((((⟨#[119, 97, 110, 116, 32]⟩ : ByteArray) ++ t177) ++ (⟨#[32]⟩ : ByteArray)) ++ t179).size + 1 ≤ 9223372036854775807 then ((spec_CountSet.f k a0_7).bind fun t180 => ((spec_NumText.f k t180).bind fun t181 => (if (((((⟨#[119, 97, 110, 116, 32]⟩ : ByteArray) ++ t177) ++ (⟨#[32]⟩ : ByteArray)) ++ t179) ++ (⟨#[32]⟩ : ByteArray)).size + t181.size ≤ 9223372036854775807 then (some ((((((⟨#[119, 97, 110, 116, 32]⟩ : ByteArray) ++ t177) ++ (⟨#[32]⟩ : ByteArray)) ++ t179) ++ (⟨#[32]⟩ : ByteArray)) ++ t181)) else (none)))) else (none)) else (none)))) else (none)) else (none))) else (if a0_0 = 3 then ((spec_NumText.f k a0_1).bind fun t182 => (if 5 + t182.size ≤ 9223372036854775807 then (if ((⟨#[112, 97, 114, 116, 32]⟩ : ByteArray) ++ t182).size + 1 ≤ 9223372036854775807 then ((spec_NumText.f k a0_8).bind fun t183 => (if (((⟨#[112, 97, 114, 116, 32]⟩ : ByteArray) ++ t182) ++ (⟨#[32]⟩ : ByteArray)).size + t183.size ≤ 9223372036854775807 then (some ((((⟨#[112, 97, 114, 116, 32]⟩ : ByteArray) ++ t182) ++ (⟨#[32]⟩ : ByteArray)) ++ t183)) else (none))) else (none)) else (none))) else ((spec_NumText.f k a0_1).bind fun t184 => (if 5 + t184.size ≤ 9223372036854775807 then (some ((⟨#[98, 101, 97, 116, 32]⟩ : ByteArray) ++ t184)) else (none)))))) else (some (⟨#[]⟩ : ByteArray)))
theorem spec_MsgText.mono : ∀ a0 a1 a2 a3 a4 a5 a6 a7 a8 a9 k, LeO (spec_MsgText.f k a0 a1 a2 a3 a4 a5 a6 a7 a8 a9) (spec_MsgText.f (k + 1) a0 a1 a2 a3 a4 a5 a6 a7 a8 a9) := by
  intro a0 a1 a2 a3 a4 a5 a6 a7 a8 a9 k
  have m0_ := @spec_CountSet.mono
  have m1_ := @spec_MsgOk.mono
  have m2_ := @spec_NumText.mono
  unfold spec_MsgText.f
  exact LM
def spec_MsgText.T7 : Bool × List (List Nat × List Nat) := (true, [([], []), ([0], [0]), ([1], [1]), ([2], [2]), ([3], [3]), ([], []), ([5], [5]), ([6, 2], [6]), ([7, 7], [7]), ([4, 8], [4, 8]), ([9], [9]), ([], []), ([11], [11]), ([12, 8], [12]), ([13, 13], [13]), ([10, 14], [10, 14]), ([15, 14, 0, 1, 2, 3, 4, 5, 6, 7, 8, 9, 10, 11, 12, 13, 14, 15], [15])])
def spec_MsgText.B7 : List Nat := [0, 1, 3, 7, 15, 0, 32, 103, 231, 511, 1023, 0, 2048, 6631, 14823, 32767, 65535]
theorem spec_MsgText.tab7 : rtab .any (opsOf Tryd.f5 7) = spec_MsgText.T7 := by kernel_rfl
theorem spec_MsgText.bits7 : waitsOk spec_MsgText.T7.2 spec_MsgText.B7 = true := by kernel_rfl
def spec_MsgText.T9 : Bool × List (List Nat × List Nat) := (true, [([], []), ([0], [0]), ([1], [1]), ([2], [2]), ([3], [3]), ([], []), ([5], [5]), ([6, 2], [6]), ([4, 7], [4, 7]), ([8, 7, 0, 1, 2, 3, 4, 5, 6, 7, 8], [8])])
def spec_MsgText.B9 : List Nat := [0, 1, 3, 7, 15, 0, 32, 103, 255, 511]
theorem spec_MsgText.tab9 : rtab .any (opsOf Tryd.f5 9) = spec_MsgText.T9 := by kernel_rfl
theorem spec_MsgText.bits9 : waitsOk spec_MsgText.T9.2 spec_MsgText.B9 = true := by kernel_rfl
set_option maxHeartbeats 40000000 in
set_option maxRecDepth 100000 in
theorem spec_MsgText.calls (k : Nat) (a0_0 : Int) (a0_1 : Int) (a0_2 : Int) (a0_3 : Int) (a0_4 : Int) (A0_5 : Option Addr) (c0_5 : Nat) (l0_5 : List (S61)) (a0_6 : Int) (a0_7 : Int) (a0_8 : Int) (A0_9 : Option Addr) (c0_9 : Nat) (l0_9 : List Int) (r : ByteArray) (w : World) (hr0_5 : Kd.C k61 w A0_5 l0_5.length l0_5) (hc0_5 : l0_5.length ≤ c0_5) (hr0_9 : Kd.C (Kd.int .u8) w A0_9 l0_9.length l0_9) (hc0_9 : l0_9.length ≤ c0_9) (h : spec_MsgText.f k a0_0 a0_1 a0_2 a0_3 a0_4 l0_5 a0_6 a0_7 a0_8 l0_9 = some r) :
    Calls Tryd.prog 5 #[.agg #[.int .i64 a0_0, .int .i64 a0_1, .int .i64 a0_2, .int .i64 a0_3, .int .i64 a0_4, .slice A0_5 l0_5.length c0_5, .int .i64 a0_6, .int .i64 a0_7, .int .i64 a0_8, .slice A0_9 l0_9.length c0_9]] w fun e w' => e = .returned (.string r) ∧ Below w.heap.size w w' := by
  have hu34 := Tryd.underlying34
  have HR0_5 := aM hr0_5
  have HC0_5 := aM hc0_5
  clear hr0_5 hc0_5
  have HR0_9 := aM hr0_9
  have HC0_9 := aM hc0_9
  clear hr0_9 hc0_9
  have HB := aM (Below.refl w.heap.size w)
  have H := h
  clear h
  unfold spec_MsgText.f at H
  replace H := bE H
  obtain ⟨t175, A2, H⟩ := H
  go_enter Tryd.func5, Tryd.ntmps5
  go_wp2_with (first | ((with_reducible refine gate_dst (N := 1) rfl ?_); refine gBx 1 #[.int .i64 a0_0, .int .i64 a0_1, .int .i64 a0_2, .int .i64 a0_3, .int .i64 a0_4, .slice A0_5 l0_5.length c0_5, .int .i64 a0_6, .int .i64 a0_7, .int .i64 a0_8, .slice A0_9 l0_9.length c0_9] 34 ?_; intro gb174 hg w4 hbox hb; have BK174 := aM (hbox); have GW174 := aM ((by rw [hg]; exact (below_size TB) : w.heap.size ≤ gb174)); have GE174 := aM ((by rw [hg]; exact (below_size TB) : w.heap.size ≤ gb174)); replace HB := aM (below_step TB hb); clear hb hbox hg; obtain ⟨hcz5_0, hcz5_1, hcz5_2, hcz5_3, hcz5_4, hcz5_5, hcz5_6, hcz5_7, hcz5_8, hcz5_9⟩ := cz10 BK174.out; obtain ⟨hfz5_0, hfz5_1, hfz5_2, hfz5_3, hfz5_4, hfz5_5, hfz5_6, hfz5_7, hfz5_8, hfz5_9⟩ := fz10 BK174.out) | ((with_reducible refine gate_callee (f := 11) rfl ?_); refine gL (some 4) Tryd.func11 #[.agg #[.int .i64 a0_0, .int .i64 a0_1, .int .i64 a0_2, .int .i64 a0_3, .int .i64 a0_4, .slice A0_5 l0_5.length c0_5, .int .i64 a0_6, .int .i64 a0_7, .int .i64 a0_8, .slice A0_9 l0_9.length c0_9]] ?_; (with_reducible refine (spec_MsgOk.calls k a0_0 a0_1 a0_2 a0_3 a0_4 _ _ l0_5 a0_6 a0_7 a0_8 _ _ l0_9 t175 _ ?side1 ?side2 ?side3 ?side4 A2.out).mono ?_); (case side1 => have X_ := (Kd.C_below HR0_5.out HB.out); exact TC); (case side2 => exact HC0_5.out); (case side3 => have X_ := (Kd.C_below HR0_9.out HB.out); exact TC); (case side4 => exact HC0_9.out); rintro e w6 ⟨rfl, hb⟩; refine ⟨_, rfl, ?_⟩; replace BK174 := aM (blk_below (g := gb174) (o := .cells #[.int .i64 a0_0, .int .i64 a0_1, .int .i64 a0_2, .int .i64 a0_3, .int .i64 a0_4, .slice A0_5 l0_5.length c0_5, .int .i64 a0_6, .int .i64 a0_7, .int .i64 a0_8, .slice A0_9 l0_9.length c0_9] 34 (0, 0)) TK hb); replace HB := aM (below_step TB hb); clear hb) | ((with_reducible refine gate_dst (N := 5) rfl ?_); generalize hG_ : wpList _ _ _ _ _ _ = G_))
  subst hG_
  by_cases c7 : t175 = true
  · subst c7
    replace H := ifT H
    by_cases c8 : a0_0 = 1
    · rw [if_pos c8] at H
      have c8b0 : (a0_0 == 1) = true := beq_iff_eq.mpr c8
      have c8b1 : (a0_0 != 1) = false := bne_eq_false_iff_eq.mpr c8
      clear c8
      replace H := bE H
      obtain ⟨t176, A9, H⟩ := H
      replace H := ifN H
      obtain ⟨c10, H⟩ := H
      have c10b0 := eq_true c10
      have c10b1 : decide (4 + t176.size ≤ 9223372036854775807) = true := decide_eq_true c10
      try have c10b2 : (9223372036854775807 < 4 + t176.size) = False := eq_false (Nat.not_lt.2 c10)
      obtain rfl := Option.some.inj H
      obtain ⟨hcz11_0, hcz11_1, hcz11_2, hcz11_3, hcz11_4, hcz11_5, hcz11_6, hcz11_7, hcz11_8, hcz11_9⟩ := cz10 BK174.out
      obtain ⟨hfz11_0, hfz11_1, hfz11_2, hfz11_3, hfz11_4, hfz11_5, hfz11_6, hfz11_7, hfz11_8, hfz11_9⟩ := fz10 BK174.out
      go_wp2_with (first | ((with_reducible refine gate_callee (f := 12) rfl ?_); refine gL (some 13) Tryd.func12 #[.int .i64 a0_2] ?_; (with_reducible refine (spec_NumText.calls k a0_2 t176 _ A9.out).mono ?_); rintro e w12 ⟨rfl, hb⟩; refine ⟨_, rfl, ?_⟩; replace BK174 := aM (blk_below (g := gb174) (o := .cells #[.int .i64 a0_0, .int .i64 a0_1, .int .i64 a0_2, .int .i64 a0_3, .int .i64 a0_4, .slice A0_5 l0_5.length c0_5, .int .i64 a0_6, .int .i64 a0_7, .int .i64 a0_8, .slice A0_9 l0_9.length c0_9] 34 (0, 0)) TK hb); replace HB := aM (below_step TB hb); clear hb))
      go_ret
      exact ⟨by first | rfl | (simp [errW_none, errW_some] <;> rfl) | (simp [*, errW_none, errW_some] <;> rfl), TB⟩
    · rw [if_neg c8] at H
      have c8b0 : (a0_0 == 1) = false := beq_eq_false_iff_ne.mpr c8
      have c8b1 : (a0_0 != 1) = true := bne_iff_ne.mpr c8
      by_cases c13 : a0_0 = 2
      · rw [if_pos c13] at H
        have c13b0 : (a0_0 == 2) = true := beq_iff_eq.mpr c13
        have c13b1 : (a0_0 != 2) = false := bne_eq_false_iff_eq.mpr c13
        clear c13
        replace H := bE H
        obtain ⟨t177, A14, H⟩ := H
        replace H := ifN H
        obtain ⟨c15, H⟩ := H
        have c15b0 := eq_true c15
        have c15b1 : decide (5 + t177.size ≤ 9223372036854775807) = true := decide_eq_true c15
        try have c15b2 : (9223372036854775807 < 5 + t177.size) = False := eq_false (Nat.not_lt.2 c15)
        replace H := ifN H
        obtain ⟨c16, H⟩ := H
        have c16b0 := eq_true c16
        have c16b1 : decide (((⟨#[119, 97, 110, 116, 32]⟩ : ByteArray) ++ t177).size + 1 ≤ 9223372036854775807) = true := decide_eq_true c16
        try have c16b2 : (9223372036854775807 < ((⟨#[119, 97, 110, 116, 32]⟩ : ByteArray) ++ t177).size + 1) = False := eq_false (Nat.not_lt.2 c16)
        (try have c16b3 : (9223372036854775807 < 5 + t177.size + 1) = False := eq_false (Nat.not_lt.2 (by have q_ := c16; simp only [ByteArray.size_append] at q_; exact q_)))
        replace H := bE H
        obtain ⟨t178, A17, H⟩ := H
        replace H := bE H
        obtain ⟨t179, A18, H⟩ := H
        replace H := ifN H
        obtain ⟨c19, H⟩ := H
        have c19b0 := eq_true c19
        have c19b1 : decide ((((⟨#[119, 97, 110, 116, 32]⟩ : ByteArray) ++ t177) ++ (⟨#[32]⟩ : ByteArray)).size + t179.size ≤ 9223372036854775807) = true := decide_eq_true c19
        try have c19b2 : (9223372036854775807 < (((⟨#[119, 97, 110, 116, 32]⟩ : ByteArray) ++ t177) ++ (⟨#[32]⟩ : ByteArray)).size + t179.size) = False := eq_false (Nat.not_lt.2 c19)
        (try have c19b3 : (9223372036854775807 < 5 + t177.size + 1 + t179.size) = False := eq_false (Nat.not_lt.2 (by have q_ := c19; simp only [ByteArray.size_append] at q_; exact q_)))
        replace H := ifN H
        obtain ⟨c20, H⟩ := H
        have c20b0 := eq_true c20
        have c20b1 : decide (((((⟨#[119, 97, 110, 116, 32]⟩ : ByteArray) ++ t177) ++ (⟨#[32]⟩ : ByteArray)) ++ t179).size + 1 ≤ 9223372036854775807) = true := decide_eq_true c20
        try have c20b2 : (9223372036854775807 < ((((⟨#[119, 97, 110, 116, 32]⟩ : ByteArray) ++ t177) ++ (⟨#[32]⟩ : ByteArray)) ++ t179).size + 1) = False := eq_false (Nat.not_lt.2 c20)
        (try have c20b3 : (9223372036854775807 < 5 + t177.size + 1 + t179.size + 1) = False := eq_false (Nat.not_lt.2 (by have q_ := c20; simp only [ByteArray.size_append] at q_; exact q_)))
        replace H := bE H
        obtain ⟨t180, A21, H⟩ := H
        replace H := bE H
        obtain ⟨t181, A22, H⟩ := H
        replace H := ifN H
        obtain ⟨c23, H⟩ := H
        have c23b0 := eq_true c23
        have c23b1 : decide ((((((⟨#[119, 97, 110, 116, 32]⟩ : ByteArray) ++ t177) ++ (⟨#[32]⟩ : ByteArray)) ++ t179) ++ (⟨#[32]⟩ : ByteArray)).size + t181.size ≤ 9223372036854775807) = true := decide_eq_true c23
        try have c23b2 : (9223372036854775807 < (((((⟨#[119, 97, 110, 116, 32]⟩ : ByteArray) ++ t177) ++ (⟨#[32]⟩ : ByteArray)) ++ t179) ++ (⟨#[32]⟩ : ByteArray)).size + t181.size) = False := eq_false (Nat.not_lt.2 c23)
        (try have c23b3 : (9223372036854775807 < 5 + t177.size + 1 + t179.size + 1 + t181.size) = False := eq_false (Nat.not_lt.2 (by have q_ := c23; simp only [ByteArray.size_append] at q_; exact q_)))
        obtain rfl := Option.some.inj H
        obtain ⟨hcz24_0, hcz24_1, hcz24_2, hcz24_3, hcz24_4, hcz24_5, hcz24_6, hcz24_7, hcz24_8, hcz24_9⟩ := cz10 BK174.out
        obtain ⟨hfz24_0, hfz24_1, hfz24_2, hfz24_3, hfz24_4, hfz24_5, hfz24_6, hfz24_7, hfz24_8, hfz24_9⟩ := fz10 BK174.out
        try go_wp2
        (try (rw [drewN_self w6]; generalize hq_ : World.drewN w6 _ = w6; have n0_ : Aside0 (w6.heap[gb174]? = some (.cells #[.int .i64 a0_0, .int .i64 a0_1, .int .i64 a0_2, .int .i64 a0_3, .int .i64 a0_4, .slice A0_5 l0_5.length c0_5, .int .i64 a0_6, .int .i64 a0_7, .int .i64 a0_8, .slice A0_9 l0_9.length c0_9] 34 (0, 0))) := ⟨by rw [← hq_]; exact TK⟩; have n1_ : Aside0 (Below w.heap.size w w6) := ⟨by rw [← hq_]; exact TB⟩; clear BK174 HB hq_; have BK174 := n0_; have HB := n1_; clear n0_ n1_))
        replace BK174 := aM (blk_drew BK174.out)
        replace HB := aM (below_drew1 HB.out)
        refine start_ (n := 17) (S := fun w' => w'.cell? ⟨gb174, 0, none⟩ = some (.int .i64 a0_0) ∧ w'.cell? ⟨gb174, 1, none⟩ = some (.int .i64 a0_1) ∧ w'.cell? ⟨gb174, 2, none⟩ = some (.int .i64 a0_2) ∧ w'.cell? ⟨gb174, 3, none⟩ = some (.int .i64 a0_3) ∧ w'.cell? ⟨gb174, 4, none⟩ = some (.int .i64 a0_4) ∧ w'.cell? ⟨gb174, 5, none⟩ = some (.slice A0_5 l0_5.length c0_5) ∧ w'.cell? ⟨gb174, 6, none⟩ = some (.int .i64 a0_6) ∧ w'.cell? ⟨gb174, 7, none⟩ = some (.int .i64 a0_7) ∧ w'.cell? ⟨gb174, 8, none⟩ = some (.int .i64 a0_8) ∧ w'.cell? ⟨gb174, 9, none⟩ = some (.slice A0_9 l0_9.length c0_9)) (ds := []) (Array.replicate 17 false) (by kernel_rfl) rfl rfl (cz10 BK174.out) (fun hHeld => ?_); refine with_tabW spec_MsgText.tab7 spec_MsgText.bits7 (fun HT_ HW_ => ?_)
        generalize w6.drew = w25 at BK174 HB hHeld ⊢
        refine pP 0 (some 17) ?_
        refine pP 5 (some 22) ?_
        refine pP 11 (some 28) ?_
        refine pT 1 (some 18) ?_
        refine pT 6 (some 23) ?_
        refine pT 12 (some 29) ?_
        refine pO 2 (some 19) (fun K hK => ?_)
        refine gG Tryd.func12 #[.int .i64 a0_1] ?_
        with_reducible refine (spec_NumText.calls k a0_1 t177 _ A14.out).mono ?_
        rintro e w26 ⟨rfl, hb⟩
        refine ⟨_, rfl, ?_⟩
        have n0_ := aM (blk_below (g := gb174) (o := .cells #[.int .i64 a0_0, .int .i64 a0_1, .int .i64 a0_2, .int .i64 a0_3, .int .i64 a0_4, .slice A0_5 l0_5.length c0_5, .int .i64 a0_6, .int .i64 a0_7, .int .i64 a0_8, .slice A0_9 l0_9.length c0_9] 34 (0, 0)) TK hb)
        have n1_ := aM (below_step TB hb)
        clear BK174
        clear HB
        have BK174 := n0_
        have HB := n1_
        clear n0_ n1_
        (try clear hb)
        (try clear hb2)
        (try clear hk)
        (try clear hi)
        refine hK.out _ _ (cz10 BK174.out) (fun hHeld => ?_)
        clear hK K
        refine nR ?_
        refine pP 3 (some 20) ?_
        refine pP 4 (some 21) ?_
        refine pO 7 (some 24) (fun K hK => ?_)
        refine gG Tryd.func13 #[.int .i64 a0_6] ?_
        with_reducible refine (spec_CountSet.calls k a0_6 t178 _ A17.out).mono ?_
        rintro e w' ⟨rfl, ⟨nd, rfl⟩⟩
        refine ⟨_, rfl, ?_⟩
        refine hK.out _ _ (cz10 BK174.out) (fun hHeld => ?_)
        clear hK K
        refine nR ?_
        refine pO 8 (some 25) (fun K hK => ?_)
        refine gG Tryd.func12 #[.int .i64 t178] ?_
        with_reducible refine (spec_NumText.calls k t178 t179 _ A18.out).mono ?_
        rintro e w27 ⟨rfl, hb⟩
        refine ⟨_, rfl, ?_⟩
        have n0_ := aM (blk_below (g := gb174) (o := .cells #[.int .i64 a0_0, .int .i64 a0_1, .int .i64 a0_2, .int .i64 a0_3, .int .i64 a0_4, .slice A0_5 l0_5.length c0_5, .int .i64 a0_6, .int .i64 a0_7, .int .i64 a0_8, .slice A0_9 l0_9.length c0_9] 34 (0, 0)) TK hb)
        have n1_ := aM (below_step TB hb)
        clear BK174
        clear HB
        have BK174 := n0_
        have HB := n1_
        clear n0_ n1_
        (try clear hb)
        (try clear hb2)
        (try clear hk)
        (try clear hi)
        refine hK.out _ _ (cz10 BK174.out) (fun hHeld => ?_)
        clear hK K
        refine nR ?_
        refine pP 9 (some 26) ?_
        refine pP 10 (some 27) ?_
        refine pO 13 (some 30) (fun K hK => ?_)
        refine gG Tryd.func13 #[.int .i64 a0_7] ?_
        with_reducible refine (spec_CountSet.calls k a0_7 t180 _ A21.out).mono ?_
        rintro e w' ⟨rfl, ⟨nd, rfl⟩⟩
        refine ⟨_, rfl, ?_⟩
        refine hK.out _ _ (cz10 BK174.out) (fun hHeld => ?_)
        clear hK K
        refine nR ?_
        refine pO 14 (some 31) (fun K hK => ?_)
        refine gG Tryd.func12 #[.int .i64 t180] ?_
        with_reducible refine (spec_NumText.calls k t180 t181 _ A22.out).mono ?_
        rintro e w28 ⟨rfl, hb⟩
        refine ⟨_, rfl, ?_⟩
        have n0_ := aM (blk_below (g := gb174) (o := .cells #[.int .i64 a0_0, .int .i64 a0_1, .int .i64 a0_2, .int .i64 a0_3, .int .i64 a0_4, .slice A0_5 l0_5.length c0_5, .int .i64 a0_6, .int .i64 a0_7, .int .i64 a0_8, .slice A0_9 l0_9.length c0_9] 34 (0, 0)) TK hb)
        have n1_ := aM (below_step TB hb)
        clear BK174
        clear HB
        have BK174 := n0_
        have HB := n1_
        clear n0_ n1_
        (try clear hb)
        (try clear hb2)
        (try clear hk)
        (try clear hi)
        refine hK.out _ _ (cz10 BK174.out) (fun hHeld => ?_)
        clear hK K
        refine nR ?_
        refine pP 15 (some 32) ?_
        refine pP 16 (some 2) ?_
        refine done_ (done_of HT_.out (by kernel_rfl)) ?_
        try go_wp2
        go_ret
        exact ⟨by first | rfl | (simp [errW_none, errW_some] <;> rfl) | (simp [*, errW_none, errW_some] <;> rfl), TB⟩
      · rw [if_neg c13] at H
        have c13b0 : (a0_0 == 2) = false := beq_eq_false_iff_ne.mpr c13
        have c13b1 : (a0_0 != 2) = true := bne_iff_ne.mpr c13
        by_cases c29 : a0_0 = 3
        · rw [if_pos c29] at H
          have c29b0 : (a0_0 == 3) = true := beq_iff_eq.mpr c29
          have c29b1 : (a0_0 != 3) = false := bne_eq_false_iff_eq.mpr c29
          clear c29
          replace H := bE H
          obtain ⟨t182, A30, H⟩ := H
          replace H := ifN H
          obtain ⟨c31, H⟩ := H
          have c31b0 := eq_true c31
          have c31b1 : decide (5 + t182.size ≤ 9223372036854775807) = true := decide_eq_true c31
          try have c31b2 : (9223372036854775807 < 5 + t182.size) = False := eq_false (Nat.not_lt.2 c31)
          replace H := ifN H
          obtain ⟨c32, H⟩ := H
          have c32b0 := eq_true c32
          have c32b1 : decide (((⟨#[112, 97, 114, 116, 32]⟩ : ByteArray) ++ t182).size + 1 ≤ 9223372036854775807) = true := decide_eq_true c32
          try have c32b2 : (9223372036854775807 < ((⟨#[112, 97, 114, 116, 32]⟩ : ByteArray) ++ t182).size + 1) = False := eq_false (Nat.not_lt.2 c32)
          (try have c32b3 : (9223372036854775807 < 5 + t182.size + 1) = False := eq_false (Nat.not_lt.2 (by have q_ := c32; simp only [ByteArray.size_append] at q_; exact q_)))
          replace H := bE H
          obtain ⟨t183, A33, H⟩ := H
          replace H := ifN H
          obtain ⟨c34, H⟩ := H
          have c34b0 := eq_true c34
          have c34b1 : decide ((((⟨#[112, 97, 114, 116, 32]⟩ : ByteArray) ++ t182) ++ (⟨#[32]⟩ : ByteArray)).size + t183.size ≤ 9223372036854775807) = true := decide_eq_true c34
          try have c34b2 : (9223372036854775807 < (((⟨#[112, 97, 114, 116, 32]⟩ : ByteArray) ++ t182) ++ (⟨#[32]⟩ : ByteArray)).size + t183.size) = False := eq_false (Nat.not_lt.2 c34)
          (try have c34b3 : (9223372036854775807 < 5 + t182.size + 1 + t183.size) = False := eq_false (Nat.not_lt.2 (by have q_ := c34; simp only [ByteArray.size_append] at q_; exact q_)))
          obtain rfl := Option.some.inj H
          obtain ⟨hcz35_0, hcz35_1, hcz35_2, hcz35_3, hcz35_4, hcz35_5, hcz35_6, hcz35_7, hcz35_8, hcz35_9⟩ := cz10 BK174.out
          obtain ⟨hfz35_0, hfz35_1, hfz35_2, hfz35_3, hfz35_4, hfz35_5, hfz35_6, hfz35_7, hfz35_8, hfz35_9⟩ := fz10 BK174.out
          try go_wp2
          (try (rw [drewN_self w6]; generalize hq_ : World.drewN w6 _ = w6; have n0_ : Aside0 (w6.heap[gb174]? = some (.cells #[.int .i64 a0_0, .int .i64 a0_1, .int .i64 a0_2, .int .i64 a0_3, .int .i64 a0_4, .slice A0_5 l0_5.length c0_5, .int .i64 a0_6, .int .i64 a0_7, .int .i64 a0_8, .slice A0_9 l0_9.length c0_9] 34 (0, 0))) := ⟨by rw [← hq_]; exact TK⟩; have n1_ : Aside0 (Below w.heap.size w w6) := ⟨by rw [← hq_]; exact TB⟩; clear BK174 HB hq_; have BK174 := n0_; have HB := n1_; clear n0_ n1_))
          replace BK174 := aM (blk_drew BK174.out)
          replace HB := aM (below_drew1 HB.out)
          refine start_ (n := 10) (S := fun w' => w'.cell? ⟨gb174, 0, none⟩ = some (.int .i64 a0_0) ∧ w'.cell? ⟨gb174, 1, none⟩ = some (.int .i64 a0_1) ∧ w'.cell? ⟨gb174, 2, none⟩ = some (.int .i64 a0_2) ∧ w'.cell? ⟨gb174, 3, none⟩ = some (.int .i64 a0_3) ∧ w'.cell? ⟨gb174, 4, none⟩ = some (.int .i64 a0_4) ∧ w'.cell? ⟨gb174, 5, none⟩ = some (.slice A0_5 l0_5.length c0_5) ∧ w'.cell? ⟨gb174, 6, none⟩ = some (.int .i64 a0_6) ∧ w'.cell? ⟨gb174, 7, none⟩ = some (.int .i64 a0_7) ∧ w'.cell? ⟨gb174, 8, none⟩ = some (.int .i64 a0_8) ∧ w'.cell? ⟨gb174, 9, none⟩ = some (.slice A0_9 l0_9.length c0_9)) (ds := []) (Array.replicate 10 false) (by kernel_rfl) rfl rfl (cz10 BK174.out) (fun hHeld => ?_); refine with_tabW spec_MsgText.tab9 spec_MsgText.bits9 (fun HT_ HW_ => ?_)
          generalize w6.drew = w36 at BK174 HB hHeld ⊢
          refine pP 0 (some 35) ?_
          refine pP 5 (some 40) ?_
          refine pT 1 (some 36) ?_
          refine pT 6 (some 41) ?_
          refine pO 2 (some 37) (fun K hK => ?_)
          refine gG Tryd.func12 #[.int .i64 a0_1] ?_
          with_reducible refine (spec_NumText.calls k a0_1 t182 _ A30.out).mono ?_
          rintro e w37 ⟨rfl, hb⟩
          refine ⟨_, rfl, ?_⟩
          have n0_ := aM (blk_below (g := gb174) (o := .cells #[.int .i64 a0_0, .int .i64 a0_1, .int .i64 a0_2, .int .i64 a0_3, .int .i64 a0_4, .slice A0_5 l0_5.length c0_5, .int .i64 a0_6, .int .i64 a0_7, .int .i64 a0_8, .slice A0_9 l0_9.length c0_9] 34 (0, 0)) TK hb)
          have n1_ := aM (below_step TB hb)
          clear BK174
          clear HB
          have BK174 := n0_
          have HB := n1_
          clear n0_ n1_
          (try clear hb)
          (try clear hb2)
          (try clear hk)
          (try clear hi)
          refine hK.out _ _ (cz10 BK174.out) (fun hHeld => ?_)
          clear hK K
          refine nR ?_
          refine pP 3 (some 38) ?_
          refine pP 4 (some 39) ?_
          refine pO 7 (some 42) (fun K hK => ?_)
          refine gG Tryd.func12 #[.int .i64 a0_8] ?_
          with_reducible refine (spec_NumText.calls k a0_8 t183 _ A33.out).mono ?_
          rintro e w38 ⟨rfl, hb⟩
          refine ⟨_, rfl, ?_⟩
          have n0_ := aM (blk_below (g := gb174) (o := .cells #[.int .i64 a0_0, .int .i64 a0_1, .int .i64 a0_2, .int .i64 a0_3, .int .i64 a0_4, .slice A0_5 l0_5.length c0_5, .int .i64 a0_6, .int .i64 a0_7, .int .i64 a0_8, .slice A0_9 l0_9.length c0_9] 34 (0, 0)) TK hb)
          have n1_ := aM (below_step TB hb)
          clear BK174
          clear HB
          have BK174 := n0_
          have HB := n1_
          clear n0_ n1_
          (try clear hb)
          (try clear hb2)
          (try clear hk)
          (try clear hi)
          refine hK.out _ _ (cz10 BK174.out) (fun hHeld => ?_)
          clear hK K
          refine nR ?_
          refine pP 8 (some 43) ?_
          refine pP 9 (some 2) ?_
          refine done_ (done_of HT_.out (by kernel_rfl)) ?_
          try go_wp2
          go_ret
          exact ⟨by first | rfl | (simp [errW_none, errW_some] <;> rfl) | (simp [*, errW_none, errW_some] <;> rfl), TB⟩
        · rw [if_neg c29] at H
          have c29b0 : (a0_0 == 3) = false := beq_eq_false_iff_ne.mpr c29
          have c29b1 : (a0_0 != 3) = true := bne_iff_ne.mpr c29
          replace H := bE H
          obtain ⟨t184, A39, H⟩ := H
          replace H := ifN H
          obtain ⟨c40, H⟩ := H
          have c40b0 := eq_true c40
          have c40b1 : decide (5 + t184.size ≤ 9223372036854775807) = true := decide_eq_true c40
          try have c40b2 : (9223372036854775807 < 5 + t184.size) = False := eq_false (Nat.not_lt.2 c40)
          obtain rfl := Option.some.inj H
          obtain ⟨hcz41_0, hcz41_1, hcz41_2, hcz41_3, hcz41_4, hcz41_5, hcz41_6, hcz41_7, hcz41_8, hcz41_9⟩ := cz10 BK174.out
          obtain ⟨hfz41_0, hfz41_1, hfz41_2, hfz41_3, hfz41_4, hfz41_5, hfz41_6, hfz41_7, hfz41_8, hfz41_9⟩ := fz10 BK174.out
          go_wp2_with (first | ((with_reducible refine gate_callee (f := 12) rfl ?_); refine gL (some 46) Tryd.func12 #[.int .i64 a0_1] ?_; (with_reducible refine (spec_NumText.calls k a0_1 t184 _ A39.out).mono ?_); rintro e w42 ⟨rfl, hb⟩; refine ⟨_, rfl, ?_⟩; replace BK174 := aM (blk_below (g := gb174) (o := .cells #[.int .i64 a0_0, .int .i64 a0_1, .int .i64 a0_2, .int .i64 a0_3, .int .i64 a0_4, .slice A0_5 l0_5.length c0_5, .int .i64 a0_6, .int .i64 a0_7, .int .i64 a0_8, .slice A0_9 l0_9.length c0_9] 34 (0, 0)) TK hb); replace HB := aM (below_step TB hb); clear hb))
          go_ret
          exact ⟨by first | rfl | (simp [errW_none, errW_some] <;> rfl) | (simp [*, errW_none, errW_some] <;> rfl), TB⟩
  · replace c7 := Bool.eq_false_iff.mpr c7
    subst c7
    replace H := ifF H
    obtain rfl := Option.some.inj H
    go_wp2
    go_ret
    exact ⟨by first | rfl | (simp [errW_none, errW_some] <;> rfl) | (simp [*, errW_none, errW_some] <;> rfl), TB⟩

/-! ### laws_toSum: function 43 -/
def laws_toSum.f (a0_0 : Int) (a0_1 : Int) : Option (Int × Int) := some (a0_0, a0_1)
set_option maxHeartbeats 40000000 in
set_option maxRecDepth 100000 in
theorem laws_toSum.calls (a0_0 : Int) (a0_1 : Int) (r1 : Int) (r2 : Int) (w : World) (h : laws_toSum.f a0_0 a0_1 = some (r1, r2)) :
    Calls Tryd.prog 43 #[.agg #[.int .i64 a0_0, .int .i64 a0_1]] w fun e w' => e = .returned (.agg #[.int .i64 r1, .int .i64 r2]) ∧ Below w.heap.size w w' := by
  have hu66 := Tryd.underlying66
  have hu61 := Tryd.underlying61
  have HB := aM (Below.refl w.heap.size w)
  have H := h
  clear h
  unfold laws_toSum.f at H
  simp only [Option.some.injEq, Prod.mk.injEq] at H
  obtain ⟨rfl, rfl⟩ := H
  go_enter Tryd.func43, Tryd.ntmps43
  go_wp2_with (first | ((with_reducible refine gate_dst (N := 1) rfl ?_); refine gBx 1 #[.int .i64 a0_0, .int .i64 a0_1] 66 ?_; intro gb185 hg w2 hbox hb; have BK185 := aM (hbox); have GW185 := aM ((by rw [hg]; exact (below_size TB) : w.heap.size ≤ gb185)); have GE185 := aM ((by rw [hg]; exact (below_size TB) : w.heap.size ≤ gb185)); replace HB := aM (below_step TB hb); clear hb hbox hg) | ((with_reducible refine gate_dst (N := 2) rfl ?_); refine gBx 2 #[.int .i64 0, .int .i64 0] 61 ?_; intro gb186 hg w3 hbox hb; have BK186 := aM (hbox); have GW186 := aM ((by rw [hg]; exact (below_size TB) : w.heap.size ≤ gb186)); have GE186 := aM ((by rw [hg]; exact (below_size TB) : w.heap.size ≤ gb186)); have NB185_186 := aM ((by rw [hg]; exact Nat.ne_of_lt (blk_lt (by have X_ := BK185.out; exact TX)) : gb185 ≠ gb186)); have NB186_185 := aM ((by rw [hg]; exact Nat.ne_of_gt (blk_lt (by have X_ := BK185.out; exact TX)) : gb186 ≠ gb185)); replace BK185 := aM (blk_below (by have X_ := BK185.out; exact TX) hb); replace HB := aM (below_step TB hb); clear hb hbox hg) | ((with_reducible refine gate_dst (N := 3) rfl ?_); refine gBx 3 #[.int .i64 0, .int .i64 0] 61 ?_; intro gb187 hg w4 hbox hb; have BK187 := aM (hbox); have GW187 := aM ((by rw [hg]; exact (below_size TB) : w.heap.size ≤ gb187)); have GE187 := aM ((by rw [hg]; exact (below_size TB) : w.heap.size ≤ gb187)); have NB185_187 := aM ((by rw [hg]; exact Nat.ne_of_lt (blk_lt (by have X_ := BK185.out; exact TX)) : gb185 ≠ gb187)); have NB187_185 := aM ((by rw [hg]; exact Nat.ne_of_gt (blk_lt (by have X_ := BK185.out; exact TX)) : gb187 ≠ gb185)); have NB186_187 := aM ((by rw [hg]; exact Nat.ne_of_lt (blk_lt (by have X_ := BK186.out; exact TX)) : gb186 ≠ gb187)); have NB187_186 := aM ((by rw [hg]; exact Nat.ne_of_gt (blk_lt (by have X_ := BK186.out; exact TX)) : gb187 ≠ gb186)); replace BK185 := aM (blk_below (by have X_ := BK185.out; exact TX) hb); replace BK186 := aM (blk_below (by have X_ := BK186.out; exact TX) hb); replace HB := aM (below_step TB hb); clear hb hbox hg; have hnb5 := NB185_186.out; have hnc5 := NB186_185.out; have hnb6 := NB185_187.out; have hnc6 := NB187_185.out; obtain ⟨hcz7_0, hcz7_1⟩ := cz2 BK185.out; obtain ⟨hfz7_0, hfz7_1⟩ := fz2 BK185.out; have hnb8 := NB187_186.out; have hnc8 := NB186_187.out; obtain ⟨hcz9_0, hcz9_1⟩ := cz2 BK187.out; obtain ⟨hfz9_0, hfz9_1⟩ := fz2 BK187.out; obtain ⟨hcz10_0, hcz10_1⟩ := cz2 BK186.out; obtain ⟨hfz10_0, hfz10_1⟩ := fz2 BK186.out))
  refine bodyPost_ret (results_cell_row rfl _ _ gb186 61 #[.int .i64 a0_0, .int .i64 a0_1] (0, 0) _ rfl (by (with_reducible repeat (first | refine blk_drewN ?_ _ | refine blk_drew ?_ | refine blk_alloc ?_ _)); refine blk_put (cs := #[.int .i64 a0_0, .int .i64 0]) ?_ 1 _ rfl; (with_reducible repeat (first | refine blk_drewN ?_ _ | refine blk_drew ?_ | refine blk_alloc ?_ _)); refine blk_put (cs := #[.int .i64 0, .int .i64 0]) ?_ 0 _ rfl; (with_reducible repeat (first | refine blk_drewN ?_ _ | refine blk_drew ?_ | refine blk_alloc ?_ _)); refine blk_far ?_ NB186_187.out _; (with_reducible repeat (first | refine blk_drewN ?_ _ | refine blk_drew ?_ | refine blk_alloc ?_ _)); refine blk_far ?_ NB186_187.out _; (with_reducible repeat (first | refine blk_drewN ?_ _ | refine blk_drew ?_ | refine blk_alloc ?_ _)); exact BK186.out) Tryd.underlying61 rfl (by kernel_rfl)) rfl ?_
  exact ⟨by first | rfl | (simp [errW_none, errW_some] <;> rfl) | (simp [*, errW_none, errW_some] <;> rfl), TB⟩

/-! ### laws_toSumS: function 27 -/
def laws_toSumS.l0 : Nat → List (S66) → List (S61) → Int → Option ((List (S61)))
  | 0, _, _, _ => none
  | k + 1, x0, x3, x4 => if x4 < (x0.length : Int) then (if 0 ≤ x4 then ((laws_toSum.f ((rd_T66 x0 x4).f0) ((rd_T66 x0 x4).f1)).bind fun bt192 => (if x4 < (x3.length : Int) then (laws_toSumS.l0 k x0 (x3.set (x4 : Int).toNat (⟨bt192.1, bt192.2⟩ : S61)) (wrap64 (x4 + 1))) else (none))) else (none)) else (some x3)
def laws_toSumS.f (k : Nat) (l0 : List (S66)) : Option ((List (S61))) := if 0 ≤ (l0.length : Int) then (if ((l0.length : Int) : Int).toNat ≤ 17592186044416 then (laws_toSumS.l0 k l0 (List.replicate ((l0.length : Int) : Int).toNat z61) 0) else (none)) else (none)
theorem laws_toSumS.mono_l : ∀ k, (∀ y0 y1 y2, LeO (laws_toSumS.l0 k y0 y1 y2) (laws_toSumS.l0 (k + 1) y0 y1 y2))
  | 0 => fun _ _ _ r h => by simp [laws_toSumS.l0] at h
  | k + 1 => by
    have ih0 := laws_toSumS.mono_l k
    · intro y0 y1 y2
      unfold laws_toSumS.l0
      exact LM
theorem laws_toSumS.mono : ∀ a0 k, LeO (laws_toSumS.f k a0) (laws_toSumS.f (k + 1) a0) := by
  intro a0 k
  have ih0 := laws_toSumS.mono_l k
  unfold laws_toSumS.f
  exact LM
set_option maxHeartbeats 40000000 in
set_option maxRecDepth 100000 in
theorem laws_toSumS.calls (k : Nat) (A0 : Option Addr) (c0 : Nat) (l0 : List (S66)) (r : List (S61)) (w : World) (hr0 : Kd.C k66 w A0 l0.length l0) (hc0 : l0.length ≤ c0) (h : laws_toSumS.f k l0 = some r) :
    Calls Tryd.prog 27 #[.slice A0 l0.length c0] w fun e w' => ∃ v0_ : Value, e = .returned (v0_) ∧ Kd.R k61 61 w' w.heap.size (fun _ => True) v0_ r ∧ Below w.heap.size w w' := by
  have hu66 := Tryd.underlying66
  have hu61 := Tryd.underlying61
  have HR0 := aM hr0
  have HC0 := aM hc0
  clear hr0 hc0
  have HB := aM (Below.refl w.heap.size w)
  have H := h
  clear h
  unfold laws_toSumS.f at H
  replace H := ifN H
  obtain ⟨c2, H⟩ := H
  have c2b0 := eq_true c2
  have c2b1 : decide (0 ≤ (l0.length : Int)) = true := decide_eq_true c2
  clear c2
  replace H := ifN H
  obtain ⟨c3, H⟩ := H
  have c3b0 := eq_true c3
  have c3b1 : decide (((l0.length : Int) : Int).toNat ≤ 17592186044416) = true := decide_eq_true c3
  clear c3
  obtain ⟨y188, hy188⟩ : ∃ y_ : List (S61), y_ = (List.replicate ((l0.length : Int) : Int).toNat z61) := ⟨_, rfl⟩
  rw [← hy188] at H
  have Ny188 := aM hy188
  clear hy188
  have H' := aM H
  clear H
  go_enter Tryd.func27, Tryd.ntmps27
  go_wp2_with (first | ((with_reducible refine gate_dst (N := 7) rfl ?_); refine Kd.R_make k61 _ 61 rfl (N := 7) rfl 30 _ _ rfl (l0.length : Int) rfl rfl Tryd.underlying30 (.agg #[(.int .i64 0), (.int .i64 0)]) 16 info61 rfl (by decide) (by omega) z61 (ok := fun _ => True) (okp := fun _ => True) (k61_mkM _ _ _ z61 ) (fun _ hk => hk) trivial DT (Nat.le_trans (Nat.mul_le_mul_right _ (DT : (l0.length : Int).toNat ≤ 17592186044416)) (by omega)) (Below.refl _ _) (Nat.le_refl _) ?_; intro v189 w4 ho5 hb hg_ hnew_; clear hg_ hnew_; (first | rw [← Ny188.out] at ho5 | (simp only [Int.reduceToNat] at ho5; rw [← Ny188.out] at ho5)); have HO190 := aM (Kd.R_lower ho5 (below_size TB)); replace HB := aM (below_step TB hb); clear hb ho5))
  go_loopg [4] k (fun kq v4 w' => ∃ (x3_1 : List (S61)) (x4_1 : Int), v4 = .int .i64 x4_1 ∧ Aside0 (laws_toSumS.l0 kq l0 x3_1 x4_1 = some r) ∧ Aside0 (kq ≤ k) ∧ Aside0 (Kd.R k61 61 w' w.heap.size (fun _ => True) v189 x3_1) ∧ Aside0 (Below w.heap.size w w'))
  case atStart => exact ⟨(y188), (0), (by first | rfl | (simp; done) | (simp [*]; done)), H', ⟨Nat.le_refl _⟩, ⟨by have X_ := HO190.out; exact TR⟩, ⟨TB⟩⟩
  case round =>
    clear H'
    try clear c2
    try clear c2b0
    try clear c2b1
    try clear p2
    try clear c3
    try clear c3b0
    try clear c3b1
    obtain ⟨x3_1, x4_1, rfl, HA, HK1, HO_3, HB⟩ := hrel
    cases gk with
    | zero => exact absurd HA.out (by simp [laws_toSumS.l0])
    | succ k1 =>
      have H := HA.out
      clear HA
      simp only [laws_toSumS.l0] at H
      by_cases c6 : x4_1 < (l0.length : Int)
      · rw [if_pos c6] at H
        have c6b0 : decide (x4_1 < (l0.length : Int)) = true := decide_eq_true c6
        clear c6
        replace H := ifN H
        obtain ⟨c7, H⟩ := H
        have c7b0 : decide (0 ≤ x4_1) = true := decide_eq_true c7
        clear c7
        replace H := bE H
        obtain ⟨⟨t192, t193⟩, A8, H⟩ := H
        dsimp only at H
        replace H := ifN H
        obtain ⟨c9, H⟩ := H
        have c9b0 : decide (x4_1 < (x3_1.length : Int)) = true := decide_eq_true c9
        clear c9
        obtain ⟨y194, hy194⟩ : ∃ y_ : List (S61), y_ = (x3_1.set (x4_1 : Int).toNat (⟨t192, t193⟩ : S61)) := ⟨_, rfl⟩
        rw [← hy194] at H
        have Ny194 := aM hy194
        clear hy194
        have H' := aM H
        clear H
        have p191 : 0 ≤ (x4_1 : Int) := DT
        have q191 : x4_1 < (l0.length : Int) := DT
        obtain ⟨ad191, e191, hx191_0, hx191_1⟩ := at_T66 HR0.out x4_1 p191 q191
        cases e191
        replace hx191_0 := (HB.out.cell (World.block_lt_of_cell? w _ hx191_0)).trans hx191_0
        replace hx191_1 := (HB.out.cell (World.block_lt_of_cell? w _ hx191_1)).trans hx191_1
        replace p191 := eq_true p191
        replace q191 := eq_true q191
        go_wp2_with (first | ((with_reducible refine gate_callee (f := 43) rfl ?_); refine gL (some 20) Tryd.func43 #[.agg #[.int .i64 ((rd_T66 l0 x4_1).f0), .int .i64 ((rd_T66 l0 x4_1).f1)]] ?_; (with_reducible refine (laws_toSum.calls ((rd_T66 l0 x4_1).f0) ((rd_T66 l0 x4_1).f1) t192 t193 _ A8.out).mono ?_); rintro e w11 ⟨rfl, hb⟩; refine ⟨_, rfl, ?_⟩; replace HO_3 := aM (Kd.R_below (by have X_ := HO_3.out; exact TR) hb); replace HB := aM (below_step TB hb); clear hb; have p10 : 0 ≤ (x4_1 : Int) := DT; have q10 : (x4_1 : Int) < ((x3_1.length : Int) : Int) := DT; obtain ⟨go10, co10, eo10, gb10, gl10, cl10, HG10⟩ := Kd.R_form HO_3.out (by omega); (first | cases eo10 | (injection eo10 with ea_ en_ ec_; (first | subst ea_ | (injection ea_ with ea_; subst ea_)); subst ec_; clear en_)); have GB10 := aM gb10; have GG10 := aM HG10; clear gb10 gl10 HG10; obtain ⟨ce10, hcl10, hM10, hcc10, hfr10⟩ := Kd.R_elem HO_3.out z61 (x4_1 : Int) p10 q10; obtain rfl := k61_openM hM10; have hx10_0 : w11.cell? ⟨go10, (x4_1 : Int).toNat * 2, none⟩ = some (.int .i64 ((rd_T61 x3_1 x4_1).f0)) := hcc10 0 _ rfl; have hx10_1 : w11.cell? ⟨go10, (x4_1 : Int).toNat * 2 + 1, none⟩ = some (.int .i64 ((rd_T61 x3_1 x4_1).f1)) := hcc10 1 _ rfl; have hf10_0 : w11.frozen? ⟨go10, (x4_1 : Int).toNat * 2, none⟩ = false := hfr10 0; have hf10_1 : w11.frozen? ⟨go10, (x4_1 : Int).toNat * 2 + 1, none⟩ = false := hfr10 1; clear hcl10 hcc10 hfr10 hM10; replace p10 := eq_true p10; replace q10 := eq_true q10; have HX12 := aM (show Kd.R k61 61 w11 w.heap.size (fun _ => True) (.slice (some ⟨go10, 0, none⟩) x3_1.length co10) x3_1 from (by have X_ := HO_3.out; exact TR)); obtain ⟨ce12, hcl12, hM12, hcc12, hfr12⟩ := Kd.R_elem HX12.out z61 (x4_1 : Int) DT (by have h_ : (x4_1 : Int) < ((x3_1.length : Int) : Int) := DT; first | exact h_ | (have e_ := (Kd.R_reads' HO_3.out).1; omega) | simpa using h_); obtain rfl := k61_openM hM12; have HP12 := Kd.R_seg HX12.out (x4_1 : Int) DT (by have h_ : (x4_1 : Int) < ((x3_1.length : Int) : Int) := DT; first | exact h_ | (have e_ := (Kd.R_reads' HO_3.out).1; omega) | simpa using h_) (seg := [.int .i64 t192, .int .i64 t193]) (j := 0) hcl12 hcc12 (show 2 ≤ 2 from by decide) (x' := (⟨t192, t193⟩ : S61)) (k61_mkM _ _ _ (⟨t192, t193⟩ : S61) ) (fun _ hk => hk); have hx12_0 := hcc12 0 _ rfl; (try simp only [show (k61).sz = 2 from rfl, Nat.mul_one, Nat.add_zero] at hx12_0); have hf12_0 := hfr12 0; (try simp only [show (k61).sz = 2 from rfl, Nat.mul_one, Nat.add_zero] at hf12_0); have hx12_1 := hcc12 1 _ rfl; (try simp only [show (k61).sz = 2 from rfl, Nat.mul_one, Nat.add_zero] at hx12_1); have hf12_1 := hfr12 1; (try simp only [show (k61).sz = 2 from rfl, Nat.mul_one, Nat.add_zero] at hf12_1); clear hcl12 hcc12 hfr12 hM12) | ((with_reducible refine gate_store (t := 61) (p := 21) rfl ?_); refine store_event (t := 61) (p := 21) (v := ?vo_w13) (w1 := ((w11.setCell ⟨go10, (x4_1 : Int).toNat * 2, none⟩ (.int .i64 t192)).setCell ⟨go10, (x4_1 : Int).toNat * 2 + 1, none⟩ (.int .i64 t193))) ?hg ?ho ?hn ?hr ?_; (case ho => rfl); (case hg => rfl); (case hn => rfl); (case hr => first | (go_simp; done) | (go_simp; rfl)); intro w13 hw; have hg : w11.grownBy w13 (some go10) := (by rw [hw]; exact HP12.2); have hp_ : Kd.R k61 61 w13 w.heap.size (fun _ => True) (.slice (some ⟨go10, 0, none⟩) x3_1.length co10) y194 := (by rw [hw, Ny194.out]; exact HP12.1); clear HP12; replace HO_3 := aM (hp_); replace HB := aM ((by rw [hw]; exact below_set (below_set (HB.out) GB10.out) GB10.out : Below w.heap.size w w13)); clear hg hw hp_))
        go_roundg k1
        case measure => have := HK1.out; omega
        case rel => exact ⟨(y194), (wrap64 (x4_1 + 1)), (by first | rfl | (simp; done) | (simp [*]; done)), H', ⟨by have := HK1.out; omega⟩, ⟨by have X_ := HO_3.out; exact TR⟩, ⟨TB⟩⟩
      · rw [if_neg c6] at H
        have c6b0 : decide (x4_1 < (l0.length : Int)) = false := decide_eq_false c6
        clear c6
        obtain rfl := Option.some.inj H
        go_wp2
        go_ret
        exact ⟨_, by first | rfl | (simp [errW_none, errW_some] <;> rfl) | (simp [*, errW_none, errW_some] <;> rfl), by have X_ := HO_3.out; exact TR, TB⟩

end Go.Proofs.YtanpaipapcjpoaaDoor.Q
