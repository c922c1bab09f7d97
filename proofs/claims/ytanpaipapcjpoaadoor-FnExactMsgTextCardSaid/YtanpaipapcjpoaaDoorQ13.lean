/- Functions of the program as plain Lean functions, and that a call of each comes to what its function tells. Written by a program of this seat. -/
import Derived.Test.YtanpaipapcjpoaaDoorQ0
import Derived.Test.YtanpaipapcjpoaaDoorQ12
namespace Go.Proofs.YtanpaipapcjpoaaDoor.Q
open Go.RowKit Go.Proofs.YtanpaipapcjpoaaDoorW.PrintWords Go.Proofs.YtanpaipapcjpoaaDoorW.PrintLast Go.Proofs.YtanpaipapcjpoaaDoorW.PrintMore
attribute [local go_sem] max2_int min2_int max_two min_two max_three min_three max_four min_four   -- for this text's walks alone
set_option linter.unusedVariables false
set_option linter.unusedSimpArgs false

/-! ### impl_MsgText: function 7 -/
def impl_MsgText.f (k : Nat) (a0_0 : Int) (a0_1 : Int) (a0_2 : Int) (a0_3 : Int) (a0_4 : Int) (l0_5 : List (S61)) (a0_6 : Int) (a0_7 : Int) (a0_8 : Int) (l0_9 : List Int) : Option (ByteArray) := (impl_MsgOk.f k a0_0 a0_1 a0_2 a0_3 a0_4 l0_5 a0_6 a0_7 a0_8 l0_9).bind fun t272 => (if t272 = true then (if a0_0 = 1 then ((impl_NumText.f a0_2).bind fun t273 => (if 4 + t273.size ≤ 9223372036854775807 then (some ((⟨#[109, 97, 110, 32]⟩ : ByteArray) ++ t273)) else (none))) else (if a0_0 = 2 then ((impl_NumText.f a0_1).bind fun t274 => (if 5 + t274.size ≤ 9223372036854775807 then (if ((⟨#[119, 97, 110, 116, 32]⟩ : ByteArray) ++ t274).size + 1 ≤ 9223372036854775807 then ((impl_CountSet.f a0_6).bind fun t275 => ((impl_NumText.f t275).bind fun t276 => (if (((⟨#[119, 97, 110, 116, 32]⟩ : ByteArray) ++ t274) ++ (⟨#[32]⟩ : ByteArray)).size + t276.size ≤ 9223372036854775807 then (if ((((⟨#[119, 97, 110, 116, 32]⟩ : ByteArray) ++ t274) ++ (⟨#[32]⟩ : ByteArray)) ++ t276).size + 1 ≤ 9223372036854775807 then ((impl_CountSet.f a0_7).bind fun t277 => ((impl_NumText.f t277).bind fun t278 => (if (((((⟨#[119, 97, 110, 116, 32]⟩ : ByteArray) ++ t274) ++ (⟨#[32]⟩ : ByteArray)) ++ t276) ++ (⟨#[32]⟩ : ByteArray)).size + t278.size ≤ 9223372036854775807 then (some ((((((⟨#[119, 97, 110, 116, 32]⟩ : ByteArray) ++ t274) ++ (⟨#[32]⟩ : ByteArray)) ++ t276) ++ (⟨#[32]⟩ : ByteArray)) ++ t278)) else (none)))) else (none)) else (none)))) else (none)) else (none))) else (if a0_0 = 3 then ((impl_NumText.f a0_1).bind fun t279 => (if 5 + t279.size ≤ 9223372036854775807 then (if ((⟨#[112, 97, 114, 116, 32]⟩ : ByteArray) ++ t279).size + 1 ≤ 9223372036854775807 then ((impl_NumText.f a0_8).bind fun t280 => (if (((⟨#[112, 97, 114, 116, 32]⟩ : ByteArray) ++ t279) ++ (⟨#[32]⟩ : ByteArray)).size + t280.size ≤ 9223372036854775807 then (some ((((⟨#[112, 97, 114, 116, 32]⟩ : ByteArray) ++ t279) ++ (⟨#[32]⟩ : ByteArray)) ++ t280)) else (none))) else (none)) else (none))) else ((impl_NumText.f a0_1).bind fun t281 => (if 5 + t281.size ≤ 9223372036854775807 then (some ((⟨#[98, 101, 97, 116, 32]⟩ : ByteArray) ++ t281)) else (none)))))) else (some (⟨#[]⟩ : ByteArray)))
theorem impl_MsgText.mono : ∀ a0 a1 a2 a3 a4 a5 a6 a7 a8 a9 k, LeO (impl_MsgText.f k a0 a1 a2 a3 a4 a5 a6 a7 a8 a9) (impl_MsgText.f (k + 1) a0 a1 a2 a3 a4 a5 a6 a7 a8 a9) := by
  intro a0 a1 a2 a3 a4 a5 a6 a7 a8 a9 k
  have m0_ := @impl_MsgOk.mono
  unfold impl_MsgText.f
  exact LM
def impl_MsgText.T7 : Bool × List (List Nat × List Nat) := (true, [([], []), ([0], [0]), ([1], [1]), ([2], [2]), ([3], [3]), ([], []), ([5], [5]), ([6, 2], [6]), ([7, 7], [7]), ([4, 8], [4, 8]), ([9], [9]), ([], []), ([11], [11]), ([12, 8], [12]), ([13, 13], [13]), ([10, 14], [10, 14]), ([15, 14, 0, 1, 2, 3, 4, 5, 6, 7, 8, 9, 10, 11, 12, 13, 14, 15], [15])])
def impl_MsgText.B7 : List Nat := [0, 1, 3, 7, 15, 0, 32, 103, 231, 511, 1023, 0, 2048, 6631, 14823, 32767, 65535]
theorem impl_MsgText.tab7 : rtab .any (opsOf Tryd.f7 7) = impl_MsgText.T7 := by kernel_rfl
theorem impl_MsgText.bits7 : waitsOk impl_MsgText.T7.2 impl_MsgText.B7 = true := by kernel_rfl
def impl_MsgText.T9 : Bool × List (List Nat × List Nat) := (true, [([], []), ([0], [0]), ([1], [1]), ([2], [2]), ([3], [3]), ([], []), ([5], [5]), ([6, 2], [6]), ([4, 7], [4, 7]), ([8, 7, 0, 1, 2, 3, 4, 5, 6, 7, 8], [8])])
def impl_MsgText.B9 : List Nat := [0, 1, 3, 7, 15, 0, 32, 103, 255, 511]
theorem impl_MsgText.tab9 : rtab .any (opsOf Tryd.f7 9) = impl_MsgText.T9 := by kernel_rfl
theorem impl_MsgText.bits9 : waitsOk impl_MsgText.T9.2 impl_MsgText.B9 = true := by kernel_rfl
set_option maxHeartbeats 40000000 in
set_option maxRecDepth 100000 in
theorem impl_MsgText.calls (k : Nat) (a0_0 : Int) (a0_1 : Int) (a0_2 : Int) (a0_3 : Int) (a0_4 : Int) (A0_5 : Option Addr) (c0_5 : Nat) (l0_5 : List (S61)) (a0_6 : Int) (a0_7 : Int) (a0_8 : Int) (A0_9 : Option Addr) (c0_9 : Nat) (l0_9 : List Int) (r : ByteArray) (w : World) (hr0_5 : Kd.C k61 w A0_5 l0_5.length l0_5) (hc0_5 : l0_5.length ≤ c0_5) (hr0_9 : Kd.C (Kd.int .u8) w A0_9 l0_9.length l0_9) (hc0_9 : l0_9.length ≤ c0_9) (h : impl_MsgText.f k a0_0 a0_1 a0_2 a0_3 a0_4 l0_5 a0_6 a0_7 a0_8 l0_9 = some r) (hT : TabOk w) :
    Calls Tryd.prog 7 #[.agg #[.int .i64 a0_0, .int .i64 a0_1, .int .i64 a0_2, .int .i64 a0_3, .int .i64 a0_4, .slice A0_5 l0_5.length c0_5, .int .i64 a0_6, .int .i64 a0_7, .int .i64 a0_8, .slice A0_9 l0_9.length c0_9]] w fun e w' => e = .returned (.string r) ∧ Below w.heap.size w w' := by
  have HT := aM hT
  clear hT
  have hu34 := Tryd.underlying34
  have HR0_5 := aM hr0_5
  have HC0_5 := aM hc0_5
  clear hr0_5 hc0_5
  have HR0_9 := aM hr0_9
  have HC0_9 := aM hc0_9
  clear hr0_9 hc0_9
  have HB := aM (Below.refl w.heap.size w)
  have H := h
  clear h
  unfold impl_MsgText.f at H
  replace H := bE H
  obtain ⟨t272, A2, H⟩ := H
  go_enter Tryd.func7, Tryd.ntmps7
  go_wp2_with (first | ((with_reducible refine gate_dst (N := 1) rfl ?_); refine gBx 1 #[.int .i64 a0_0, .int .i64 a0_1, .int .i64 a0_2, .int .i64 a0_3, .int .i64 a0_4, .slice A0_5 l0_5.length c0_5, .int .i64 a0_6, .int .i64 a0_7, .int .i64 a0_8, .slice A0_9 l0_9.length c0_9] 34 ?_; intro gb271 hg w4 hbox hb; have BK271 := aM (hbox); have GW271 := aM ((by rw [hg]; exact (below_size TB) : w.heap.size ≤ gb271)); have GE271 := aM ((by rw [hg]; exact (below_size TB) : w.heap.size ≤ gb271)); replace HB := aM (below_step TB hb); clear hb hbox hg; obtain ⟨hcz5_0, hcz5_1, hcz5_2, hcz5_3, hcz5_4, hcz5_5, hcz5_6, hcz5_7, hcz5_8, hcz5_9⟩ := cz10 BK271.out; obtain ⟨hfz5_0, hfz5_1, hfz5_2, hfz5_3, hfz5_4, hfz5_5, hfz5_6, hfz5_7, hfz5_8, hfz5_9⟩ := fz10 BK271.out) | ((with_reducible refine gate_callee (f := 16) rfl ?_); refine gL (some 4) Tryd.func16 #[.agg #[.int .i64 a0_0, .int .i64 a0_1, .int .i64 a0_2, .int .i64 a0_3, .int .i64 a0_4, .slice A0_5 l0_5.length c0_5, .int .i64 a0_6, .int .i64 a0_7, .int .i64 a0_8, .slice A0_9 l0_9.length c0_9]] ?_; (with_reducible refine (impl_MsgOk.calls k a0_0 a0_1 a0_2 a0_3 a0_4 _ _ l0_5 a0_6 a0_7 a0_8 _ _ l0_9 t272 _ ?side1 ?side2 ?side3 ?side4 A2.out).mono ?_); (case side1 => have X_ := (Kd.C_below HR0_5.out HB.out); exact TC); (case side2 => exact HC0_5.out); (case side3 => have X_ := (Kd.C_below HR0_9.out HB.out); exact TC); (case side4 => exact HC0_9.out); rintro e w6 ⟨rfl, hb⟩; refine ⟨_, rfl, ?_⟩; replace BK271 := aM (blk_below (g := gb271) (o := .cells #[.int .i64 a0_0, .int .i64 a0_1, .int .i64 a0_2, .int .i64 a0_3, .int .i64 a0_4, .slice A0_5 l0_5.length c0_5, .int .i64 a0_6, .int .i64 a0_7, .int .i64 a0_8, .slice A0_9 l0_9.length c0_9] 34 (0, 0)) TK hb); replace HB := aM (below_step TB hb); clear hb) | ((with_reducible refine gate_dst (N := 5) rfl ?_); generalize hG_ : wpList _ _ _ _ _ _ = G_))
  subst hG_
  by_cases c7 : t272 = true
  · subst c7
    replace H := ifT H
    by_cases c8 : a0_0 = 1
    · rw [if_pos c8] at H
      have c8b0 : (a0_0 == 1) = true := beq_iff_eq.mpr c8
      have c8b1 : (a0_0 != 1) = false := bne_eq_false_iff_eq.mpr c8
      clear c8
      replace H := bE H
      obtain ⟨t273, A9, H⟩ := H
      replace H := ifN H
      obtain ⟨c10, H⟩ := H
      have c10b0 := eq_true c10
      have c10b1 : decide (4 + t273.size ≤ 9223372036854775807) = true := decide_eq_true c10
      try have c10b2 : (9223372036854775807 < 4 + t273.size) = False := eq_false (Nat.not_lt.2 c10)
      obtain rfl := Option.some.inj H
      obtain ⟨hcz11_0, hcz11_1, hcz11_2, hcz11_3, hcz11_4, hcz11_5, hcz11_6, hcz11_7, hcz11_8, hcz11_9⟩ := cz10 BK271.out
      obtain ⟨hfz11_0, hfz11_1, hfz11_2, hfz11_3, hfz11_4, hfz11_5, hfz11_6, hfz11_7, hfz11_8, hfz11_9⟩ := fz10 BK271.out
      go_wp2_with (first | ((with_reducible refine gate_callee (f := 17) rfl ?_); refine gL (some 13) Tryd.func17 #[.int .i64 a0_2] ?_; (with_reducible refine (impl_NumText.calls a0_2 t273 _ A9.out (HT.out.below TB)).mono ?_); rintro e w12 ⟨rfl, hb⟩; refine ⟨_, rfl, ?_⟩; replace BK271 := aM (blk_below (g := gb271) (o := .cells #[.int .i64 a0_0, .int .i64 a0_1, .int .i64 a0_2, .int .i64 a0_3, .int .i64 a0_4, .slice A0_5 l0_5.length c0_5, .int .i64 a0_6, .int .i64 a0_7, .int .i64 a0_8, .slice A0_9 l0_9.length c0_9] 34 (0, 0)) TK hb); replace HB := aM (below_step TB hb); clear hb))
      go_ret
      exact ⟨by first | rfl | (simp [errW_none, errW_some] <;> rfl) | (simp [*, errW_none, errW_some] <;> rfl), TB⟩
    · rw [if_neg c8] at H
      have c8b0 : (a0_0 == 1) = false := beq_eq_false_iff_ne.mpr c8
      have c8b1 : (a0_0 != 1) = true := bne_iff_ne.mpr c8
      by_cases c13 : a0_0 = 2
      · rw [if_pos c13] at H
        have c13b0 : (a0_0 == 2) = true := beq_iff_eq.mpr c13
        have c13b1 : (a0_0 != 2) = false := bne_eq_false_iff_eq.mpr c13
        clear c13
        replace H := bE H
        obtain ⟨t274, A14, H⟩ := H
        replace H := ifN H
        obtain ⟨c15, H⟩ := H
        have c15b0 := eq_true c15
        have c15b1 : decide (5 + t274.size ≤ 9223372036854775807) = true := decide_eq_true c15
        try have c15b2 : (9223372036854775807 < 5 + t274.size) = False := eq_false (Nat.not_lt.2 c15)
        replace H := ifN H
        obtain ⟨c16, H⟩ := H
        have c16b0 := eq_true c16
        have c16b1 : decide (((⟨#[119, 97, 110, 116, 32]⟩ : ByteArray) ++ t274).size + 1 ≤ 9223372036854775807) = true := decide_eq_true c16
        try have c16b2 : (9223372036854775807 < ((⟨#[119, 97, 110, 116, 32]⟩ : ByteArray) ++ t274).size + 1) = False := eq_false (Nat.not_lt.2 c16)
        (try have c16b3 : (9223372036854775807 < 5 + t274.size + 1) = False := eq_false (Nat.not_lt.2 (by have q_ := c16; simp only [ByteArray.size_append] at q_; exact q_)))
        replace H := bE H
        obtain ⟨t275, A17, H⟩ := H
        replace H := bE H
        obtain ⟨t276, A18, H⟩ := H
        replace H := ifN H
        obtain ⟨c19, H⟩ := H
        have c19b0 := eq_true c19
        have c19b1 : decide ((((⟨#[119, 97, 110, 116, 32]⟩ : ByteArray) ++ t274) ++ (⟨#[32]⟩ : ByteArray)).size + t276.size ≤ 9223372036854775807) = true := decide_eq_true c19
        try have c19b2 : (9223372036854775807 < (((⟨#[119, 97, 110, 116, 32]⟩ : ByteArray) ++ t274) ++ (⟨#[32]⟩ : ByteArray)).size + t276.size) = False := eq_false (Nat.not_lt.2 c19)
        (try have c19b3 : (9223372036854775807 < 5 + t274.size + 1 + t276.size) = False := eq_false (Nat.not_lt.2 (by have q_ := c19; simp only [ByteArray.size_append] at q_; exact q_)))
        replace H := ifN H
        obtain ⟨c20, H⟩ := H
        have c20b0 := eq_true c20
        have c20b1 : decide (((((⟨#[119, 97, 110, 116, 32]⟩ : ByteArray) ++ t274) ++ (⟨#[32]⟩ : ByteArray)) ++ t276).size + 1 ≤ 9223372036854775807) = true := decide_eq_true c20
        try have c20b2 : (9223372036854775807 < ((((⟨#[119, 97, 110, 116, 32]⟩ : ByteArray) ++ t274) ++ (⟨#[32]⟩ : ByteArray)) ++ t276).size + 1) = False := eq_false (Nat.not_lt.2 c20)
        (try have c20b3 : (9223372036854775807 < 5 + t274.size + 1 + t276.size + 1) = False := eq_false (Nat.not_lt.2 (by have q_ := c20; simp only [ByteArray.size_append] at q_; exact q_)))
        replace H := bE H
        obtain ⟨t277, A21, H⟩ := H
        replace H := bE H
        obtain ⟨t278, A22, H⟩ := H
        replace H := ifN H
        obtain ⟨c23, H⟩ := H
        have c23b0 := eq_true c23
        have c23b1 : decide ((((((⟨#[119, 97, 110, 116, 32]⟩ : ByteArray) ++ t274) ++ (⟨#[32]⟩ : ByteArray)) ++ t276) ++ (⟨#[32]⟩ : ByteArray)).size + t278.size ≤ 9223372036854775807) = true := decide_eq_true c23
        try have c23b2 : (9223372036854775807 < (((((⟨#[119, 97, 110, 116, 32]⟩ : ByteArray) ++ t274) ++ (⟨#[32]⟩ : ByteArray)) ++ t276) ++ (⟨#[32]⟩ : ByteArray)).size + t278.size) = False := eq_false (Nat.not_lt.2 c23)
        (try have c23b3 : (9223372036854775807 < 5 + t274.size + 1 + t276.size + 1 + t278.size) = False := eq_false (Nat.not_lt.2 (by have q_ := c23; simp only [ByteArray.size_append] at q_; exact q_)))
        obtain rfl := Option.some.inj H
        obtain ⟨hcz24_0, hcz24_1, hcz24_2, hcz24_3, hcz24_4, hcz24_5, hcz24_6, hcz24_7, hcz24_8, hcz24_9⟩ := cz10 BK271.out
        obtain ⟨hfz24_0, hfz24_1, hfz24_2, hfz24_3, hfz24_4, hfz24_5, hfz24_6, hfz24_7, hfz24_8, hfz24_9⟩ := fz10 BK271.out
        try go_wp2
        (try (rw [drewN_self w6]; generalize hq_ : World.drewN w6 _ = w6; have n0_ : Aside0 (w6.heap[gb271]? = some (.cells #[.int .i64 a0_0, .int .i64 a0_1, .int .i64 a0_2, .int .i64 a0_3, .int .i64 a0_4, .slice A0_5 l0_5.length c0_5, .int .i64 a0_6, .int .i64 a0_7, .int .i64 a0_8, .slice A0_9 l0_9.length c0_9] 34 (0, 0))) := ⟨by rw [← hq_]; exact TK⟩; have n1_ : Aside0 (Below w.heap.size w w6) := ⟨by rw [← hq_]; exact TB⟩; clear BK271 HB hq_; have BK271 := n0_; have HB := n1_; clear n0_ n1_))
        replace BK271 := aM (blk_drew BK271.out)
        replace HB := aM (below_drew1 HB.out)
        refine start_ (n := 17) (S := fun w' => w'.cell? ⟨gb271, 0, none⟩ = some (.int .i64 a0_0) ∧ w'.cell? ⟨gb271, 1, none⟩ = some (.int .i64 a0_1) ∧ w'.cell? ⟨gb271, 2, none⟩ = some (.int .i64 a0_2) ∧ w'.cell? ⟨gb271, 3, none⟩ = some (.int .i64 a0_3) ∧ w'.cell? ⟨gb271, 4, none⟩ = some (.int .i64 a0_4) ∧ w'.cell? ⟨gb271, 5, none⟩ = some (.slice A0_5 l0_5.length c0_5) ∧ w'.cell? ⟨gb271, 6, none⟩ = some (.int .i64 a0_6) ∧ w'.cell? ⟨gb271, 7, none⟩ = some (.int .i64 a0_7) ∧ w'.cell? ⟨gb271, 8, none⟩ = some (.int .i64 a0_8) ∧ w'.cell? ⟨gb271, 9, none⟩ = some (.slice A0_9 l0_9.length c0_9)) (ds := []) (Array.replicate 17 false) (by kernel_rfl) rfl rfl (cz10 BK271.out) (fun hHeld => ?_); refine with_tabW impl_MsgText.tab7 impl_MsgText.bits7 (fun HT_ HW_ => ?_)
        generalize w6.drew = w25 at BK271 HB hHeld ⊢
        refine pP 0 (some 17) ?_
        refine pP 5 (some 22) ?_
        refine pP 11 (some 28) ?_
        refine pT 1 (some 18) ?_
        refine pT 6 (some 23) ?_
        refine pT 12 (some 29) ?_
        refine pO 2 (some 19) (fun K hK => ?_)
        refine gG Tryd.func17 #[.int .i64 a0_1] ?_
        with_reducible refine (impl_NumText.calls a0_1 t274 _ A14.out (HT.out.below TB)).mono ?_
        rintro e w26 ⟨rfl, hb⟩
        refine ⟨_, rfl, ?_⟩
        have n0_ := aM (blk_below (g := gb271) (o := .cells #[.int .i64 a0_0, .int .i64 a0_1, .int .i64 a0_2, .int .i64 a0_3, .int .i64 a0_4, .slice A0_5 l0_5.length c0_5, .int .i64 a0_6, .int .i64 a0_7, .int .i64 a0_8, .slice A0_9 l0_9.length c0_9] 34 (0, 0)) TK hb)
        have n1_ := aM (below_step TB hb)
        clear BK271
        clear HB
        have BK271 := n0_
        have HB := n1_
        clear n0_ n1_
        (try clear hb)
        (try clear hb2)
        (try clear hk)
        (try clear hi)
        refine hK.out _ _ (cz10 BK271.out) (fun hHeld => ?_)
        clear hK K
        refine nR ?_
        refine pP 3 (some 20) ?_
        refine pP 4 (some 21) ?_
        refine pO 7 (some 24) (fun K hK => ?_)
        refine gG Tryd.func18 #[.int .i64 a0_6] ?_
        with_reducible refine (impl_CountSet.calls a0_6 t275 _ A17.out).mono ?_
        rintro e w' ⟨rfl, ⟨nd, rfl⟩⟩
        refine ⟨_, rfl, ?_⟩
        refine hK.out _ _ (cz10 BK271.out) (fun hHeld => ?_)
        clear hK K
        refine nR ?_
        refine pO 8 (some 25) (fun K hK => ?_)
        refine gG Tryd.func17 #[.int .i64 t275] ?_
        with_reducible refine (impl_NumText.calls t275 t276 _ A18.out (HT.out.below TB)).mono ?_
        rintro e w27 ⟨rfl, hb⟩
        refine ⟨_, rfl, ?_⟩
        have n0_ := aM (blk_below (g := gb271) (o := .cells #[.int .i64 a0_0, .int .i64 a0_1, .int .i64 a0_2, .int .i64 a0_3, .int .i64 a0_4, .slice A0_5 l0_5.length c0_5, .int .i64 a0_6, .int .i64 a0_7, .int .i64 a0_8, .slice A0_9 l0_9.length c0_9] 34 (0, 0)) TK hb)
        have n1_ := aM (below_step TB hb)
        clear BK271
        clear HB
        have BK271 := n0_
        have HB := n1_
        clear n0_ n1_
        (try clear hb)
        (try clear hb2)
        (try clear hk)
        (try clear hi)
        refine hK.out _ _ (cz10 BK271.out) (fun hHeld => ?_)
        clear hK K
        refine nR ?_
        refine pP 9 (some 26) ?_
        refine pP 10 (some 27) ?_
        refine pO 13 (some 30) (fun K hK => ?_)
        refine gG Tryd.func18 #[.int .i64 a0_7] ?_
        with_reducible refine (impl_CountSet.calls a0_7 t277 _ A21.out).mono ?_
        rintro e w' ⟨rfl, ⟨nd, rfl⟩⟩
        refine ⟨_, rfl, ?_⟩
        refine hK.out _ _ (cz10 BK271.out) (fun hHeld => ?_)
        clear hK K
        refine nR ?_
        refine pO 14 (some 31) (fun K hK => ?_)
        refine gG Tryd.func17 #[.int .i64 t277] ?_
        with_reducible refine (impl_NumText.calls t277 t278 _ A22.out (HT.out.below TB)).mono ?_
        rintro e w28 ⟨rfl, hb⟩
        refine ⟨_, rfl, ?_⟩
        have n0_ := aM (blk_below (g := gb271) (o := .cells #[.int .i64 a0_0, .int .i64 a0_1, .int .i64 a0_2, .int .i64 a0_3, .int .i64 a0_4, .slice A0_5 l0_5.length c0_5, .int .i64 a0_6, .int .i64 a0_7, .int .i64 a0_8, .slice A0_9 l0_9.length c0_9] 34 (0, 0)) TK hb)
        have n1_ := aM (below_step TB hb)
        clear BK271
        clear HB
        have BK271 := n0_
        have HB := n1_
        clear n0_ n1_
        (try clear hb)
        (try clear hb2)
        (try clear hk)
        (try clear hi)
        refine hK.out _ _ (cz10 BK271.out) (fun hHeld => ?_)
        clear hK K
        refine nR ?_
        refine pP 15 (some 32) ?_
        refine pP 16 (some 2) ?_
        refine done_ (done_of HT_.out (by kernel_rfl)) ?_
        try go_wp2
        go_ret
        exact ⟨by first | rfl | (simp [errW_none, errW_some] <;> rfl) | (simp [*, errW_none, errW_some] <;> rfl), TB⟩
      · rw [if_neg c13] at H
        have c13b0 : (a0_0 == 2) = false := beq_eq_false_iff_ne.mpr c13
        have c13b1 : (a0_0 != 2) = true := bne_iff_ne.mpr c13
        by_cases c29 : a0_0 = 3
        · rw [if_pos c29] at H
          have c29b0 : (a0_0 == 3) = true := beq_iff_eq.mpr c29
          have c29b1 : (a0_0 != 3) = false := bne_eq_false_iff_eq.mpr c29
          clear c29
          replace H := bE H
          obtain ⟨t279, A30, H⟩ := H
          replace H := ifN H
          obtain ⟨c31, H⟩ := H
          have c31b0 := eq_true c31
          have c31b1 : decide (5 + t279.size ≤ 9223372036854775807) = true := decide_eq_true c31
          try have c31b2 : (9223372036854775807 < 5 + t279.size) = False := eq_false (Nat.not_lt.2 c31)
          replace H := ifN H
          obtain ⟨c32, H⟩ := H
          have c32b0 := eq_true c32
          have c32b1 : decide (((⟨#[112, 97, 114, 116, 32]⟩ : ByteArray) ++ t279).size + 1 ≤ 9223372036854775807) = true := decide_eq_true c32
          try have c32b2 : (9223372036854775807 < ((⟨#[112, 97, 114, 116, 32]⟩ : ByteArray) ++ t279).size + 1) = False := eq_false (Nat.not_lt.2 c32)
          (try have c32b3 : (9223372036854775807 < 5 + t279.size + 1) = False := eq_false (Nat.not_lt.2 (by have q_ := c32; simp only [ByteArray.size_append] at q_; exact q_)))
          replace H := bE H
          obtain ⟨t280, A33, H⟩ := H
          replace H := ifN H
          obtain ⟨c34, H⟩ := H
          have c34b0 := eq_true c34
          have c34b1 : decide ((((⟨#[112, 97, 114, 116, 32]⟩ : ByteArray) ++ t279) ++ (⟨#[32]⟩ : ByteArray)).size + t280.size ≤ 9223372036854775807) = true := decide_eq_true c34
          try have c34b2 : (9223372036854775807 < (((⟨#[112, 97, 114, 116, 32]⟩ : ByteArray) ++ t279) ++ (⟨#[32]⟩ : ByteArray)).size + t280.size) = False := eq_false (Nat.not_lt.2 c34)
          (try have c34b3 : (9223372036854775807 < 5 + t279.size + 1 + t280.size) = False := eq_false (Nat.not_lt.2 (by have q_ := c34; simp only [ByteArray.size_append] at q_; exact q_)))
          obtain rfl := Option.some.inj H
          obtain ⟨hcz35_0, hcz35_1, hcz35_2, hcz35_3, hcz35_4, hcz35_5, hcz35_6, hcz35_7, hcz35_8, hcz35_9⟩ := cz10 BK271.out
          obtain ⟨hfz35_0, hfz35_1, hfz35_2, hfz35_3, hfz35_4, hfz35_5, hfz35_6, hfz35_7, hfz35_8, hfz35_9⟩ := fz10 BK271.out
          try go_wp2
          (try (rw [drewN_self w6]; generalize hq_ : World.drewN w6 _ = w6; have n0_ : Aside0 (w6.heap[gb271]? = some (.cells #[.int .i64 a0_0, .int .i64 a0_1, .int .i64 a0_2, .int .i64 a0_3, .int .i64 a0_4, .slice A0_5 l0_5.length c0_5, .int .i64 a0_6, .int .i64 a0_7, .int .i64 a0_8, .slice A0_9 l0_9.length c0_9] 34 (0, 0))) := ⟨by rw [← hq_]; exact TK⟩; have n1_ : Aside0 (Below w.heap.size w w6) := ⟨by rw [← hq_]; exact TB⟩; clear BK271 HB hq_; have BK271 := n0_; have HB := n1_; clear n0_ n1_))
          replace BK271 := aM (blk_drew BK271.out)
          replace HB := aM (below_drew1 HB.out)
          refine start_ (n := 10) (S := fun w' => w'.cell? ⟨gb271, 0, none⟩ = some (.int .i64 a0_0) ∧ w'.cell? ⟨gb271, 1, none⟩ = some (.int .i64 a0_1) ∧ w'.cell? ⟨gb271, 2, none⟩ = some (.int .i64 a0_2) ∧ w'.cell? ⟨gb271, 3, none⟩ = some (.int .i64 a0_3) ∧ w'.cell? ⟨gb271, 4, none⟩ = some (.int .i64 a0_4) ∧ w'.cell? ⟨gb271, 5, none⟩ = some (.slice A0_5 l0_5.length c0_5) ∧ w'.cell? ⟨gb271, 6, none⟩ = some (.int .i64 a0_6) ∧ w'.cell? ⟨gb271, 7, none⟩ = some (.int .i64 a0_7) ∧ w'.cell? ⟨gb271, 8, none⟩ = some (.int .i64 a0_8) ∧ w'.cell? ⟨gb271, 9, none⟩ = some (.slice A0_9 l0_9.length c0_9)) (ds := []) (Array.replicate 10 false) (by kernel_rfl) rfl rfl (cz10 BK271.out) (fun hHeld => ?_); refine with_tabW impl_MsgText.tab9 impl_MsgText.bits9 (fun HT_ HW_ => ?_)
          generalize w6.drew = w36 at BK271 HB hHeld ⊢
          refine pP 0 (some 35) ?_
          refine pP 5 (some 40) ?_
          refine pT 1 (some 36) ?_
          refine pT 6 (some 41) ?_
          refine pO 2 (some 37) (fun K hK => ?_)
          refine gG Tryd.func17 #[.int .i64 a0_1] ?_
          with_reducible refine (impl_NumText.calls a0_1 t279 _ A30.out (HT.out.below TB)).mono ?_
          rintro e w37 ⟨rfl, hb⟩
          refine ⟨_, rfl, ?_⟩
          have n0_ := aM (blk_below (g := gb271) (o := .cells #[.int .i64 a0_0, .int .i64 a0_1, .int .i64 a0_2, .int .i64 a0_3, .int .i64 a0_4, .slice A0_5 l0_5.length c0_5, .int .i64 a0_6, .int .i64 a0_7, .int .i64 a0_8, .slice A0_9 l0_9.length c0_9] 34 (0, 0)) TK hb)
          have n1_ := aM (below_step TB hb)
          clear BK271
          clear HB
          have BK271 := n0_
          have HB := n1_
          clear n0_ n1_
          (try clear hb)
          (try clear hb2)
          (try clear hk)
          (try clear hi)
          refine hK.out _ _ (cz10 BK271.out) (fun hHeld => ?_)
          clear hK K
          refine nR ?_
          refine pP 3 (some 38) ?_
          refine pP 4 (some 39) ?_
          refine pO 7 (some 42) (fun K hK => ?_)
          refine gG Tryd.func17 #[.int .i64 a0_8] ?_
          with_reducible refine (impl_NumText.calls a0_8 t280 _ A33.out (HT.out.below TB)).mono ?_
          rintro e w38 ⟨rfl, hb⟩
          refine ⟨_, rfl, ?_⟩
          have n0_ := aM (blk_below (g := gb271) (o := .cells #[.int .i64 a0_0, .int .i64 a0_1, .int .i64 a0_2, .int .i64 a0_3, .int .i64 a0_4, .slice A0_5 l0_5.length c0_5, .int .i64 a0_6, .int .i64 a0_7, .int .i64 a0_8, .slice A0_9 l0_9.length c0_9] 34 (0, 0)) TK hb)
          have n1_ := aM (below_step TB hb)
          clear BK271
          clear HB
          have BK271 := n0_
          have HB := n1_
          clear n0_ n1_
          (try clear hb)
          (try clear hb2)
          (try clear hk)
          (try clear hi)
          refine hK.out _ _ (cz10 BK271.out) (fun hHeld => ?_)
          clear hK K
          refine nR ?_
          refine pP 8 (some 43) ?_
          refine pP 9 (some 2) ?_
          refine done_ (done_of HT_.out (by kernel_rfl)) ?_
          try go_wp2
          go_ret
          exact ⟨by first | rfl | (simp [errW_none, errW_some] <;> rfl) | (simp [*, errW_none, errW_some] <;> rfl), TB⟩
        · rw [if_neg c29] at H
          have c29b0 : (a0_0 == 3) = false := beq_eq_false_iff_ne.mpr c29
          have c29b1 : (a0_0 != 3) = true := bne_iff_ne.mpr c29
          replace H := bE H
          obtain ⟨t281, A39, H⟩ := H
          replace H := ifN H
          obtain ⟨c40, H⟩ := H
          have c40b0 := eq_true c40
          have c40b1 : decide (5 + t281.size ≤ 9223372036854775807) = true := decide_eq_true c40
          try have c40b2 : (9223372036854775807 < 5 + t281.size) = False := eq_false (Nat.not_lt.2 c40)
          obtain rfl := Option.some.inj H
          obtain ⟨hcz41_0, hcz41_1, hcz41_2, hcz41_3, hcz41_4, hcz41_5, hcz41_6, hcz41_7, hcz41_8, hcz41_9⟩ := cz10 BK271.out
          obtain ⟨hfz41_0, hfz41_1, hfz41_2, hfz41_3, hfz41_4, hfz41_5, hfz41_6, hfz41_7, hfz41_8, hfz41_9⟩ := fz10 BK271.out
          go_wp2_with (first | ((with_reducible refine gate_callee (f := 17) rfl ?_); refine gL (some 46) Tryd.func17 #[.int .i64 a0_1] ?_; (with_reducible refine (impl_NumText.calls a0_1 t281 _ A39.out (HT.out.below TB)).mono ?_); rintro e w42 ⟨rfl, hb⟩; refine ⟨_, rfl, ?_⟩; replace BK271 := aM (blk_below (g := gb271) (o := .cells #[.int .i64 a0_0, .int .i64 a0_1, .int .i64 a0_2, .int .i64 a0_3, .int .i64 a0_4, .slice A0_5 l0_5.length c0_5, .int .i64 a0_6, .int .i64 a0_7, .int .i64 a0_8, .slice A0_9 l0_9.length c0_9] 34 (0, 0)) TK hb); replace HB := aM (below_step TB hb); clear hb))
          go_ret
          exact ⟨by first | rfl | (simp [errW_none, errW_some] <;> rfl) | (simp [*, errW_none, errW_some] <;> rfl), TB⟩
  · replace c7 := Bool.eq_false_iff.mpr c7
    subst c7
    replace H := ifF H
    obtain rfl := Option.some.inj H
    go_wp2
    go_ret
    exact ⟨by first | rfl | (simp [errW_none, errW_some] <;> rfl) | (simp [*, errW_none, errW_some] <;> rfl), TB⟩

/-! ### laws_eqSum: function 51 -/
def laws_eqSum.f (a0_0 : Int) (a0_1 : Int) (a1_0 : Int) (a1_1 : Int) : Option (Bool) := if a0_0 = a1_0 then (if a0_1 = a1_1 then (some true) else (some false)) else (some false)
set_option maxHeartbeats 40000000 in
set_option maxRecDepth 100000 in
theorem laws_eqSum.calls (a0_0 : Int) (a0_1 : Int) (a1_0 : Int) (a1_1 : Int) (r : Bool) (w : World) (h : laws_eqSum.f a0_0 a0_1 a1_0 a1_1 = some r) :
    Calls Tryd.prog 51 #[.agg #[.int .i64 a0_0, .int .i64 a0_1], .agg #[.int .i64 a1_0, .int .i64 a1_1]] w fun e w' => e = .returned (.bool r) ∧ Below w.heap.size w w' := by
  have hu61 := Tryd.underlying61
  have HB := aM (Below.refl w.heap.size w)
  have H := h
  clear h
  unfold laws_eqSum.f at H
  by_cases c3 : a0_0 = a1_0
  · rw [if_pos c3] at H
    have c3b0 : (a0_0 == a1_0) = true := beq_iff_eq.mpr c3
    have c3b1 : (a0_0 != a1_0) = false := bne_eq_false_iff_eq.mpr c3
    clear c3
    by_cases c4 : a0_1 = a1_1
    · rw [if_pos c4] at H
      have c4b0 : (a0_1 == a1_1) = true := beq_iff_eq.mpr c4
      have c4b1 : (a0_1 != a1_1) = false := bne_eq_false_iff_eq.mpr c4
      clear c4
      obtain rfl := Option.some.inj H
      go_enter Tryd.func51, Tryd.ntmps51
      go_wp2_with (first | ((with_reducible refine gate_dst (N := 2) rfl ?_); refine gBx 2 #[.int .i64 a0_0, .int .i64 a0_1] 61 ?_; intro gb282 hg w5 hbox hb; have BK282 := aM (hbox); have GW282 := aM ((by rw [hg]; exact (below_size TB) : w.heap.size ≤ gb282)); have GE282 := aM ((by rw [hg]; exact (below_size TB) : w.heap.size ≤ gb282)); replace HB := aM (below_step TB hb); clear hb hbox hg) | ((with_reducible refine gate_dst (N := 3) rfl ?_); refine gBx 3 #[.int .i64 a1_0, .int .i64 a1_1] 61 ?_; intro gb283 hg w6 hbox hb; have BK283 := aM (hbox); have GW283 := aM ((by rw [hg]; exact (below_size TB) : w.heap.size ≤ gb283)); have GE283 := aM ((by rw [hg]; exact (below_size TB) : w.heap.size ≤ gb283)); have NB282_283 := aM ((by rw [hg]; exact Nat.ne_of_lt (blk_lt (by have X_ := BK282.out; exact TX)) : gb282 ≠ gb283)); have NB283_282 := aM ((by rw [hg]; exact Nat.ne_of_gt (blk_lt (by have X_ := BK282.out; exact TX)) : gb283 ≠ gb282)); replace BK282 := aM (blk_below (by have X_ := BK282.out; exact TX) hb); replace HB := aM (below_step TB hb); clear hb hbox hg; have hnb7 := NB282_283.out; have hnc7 := NB283_282.out; obtain ⟨hcz8_0, hcz8_1⟩ := cz2 BK282.out; obtain ⟨hfz8_0, hfz8_1⟩ := fz2 BK282.out; obtain ⟨hcz9_0, hcz9_1⟩ := cz2 BK283.out; obtain ⟨hfz9_0, hfz9_1⟩ := fz2 BK283.out))
      go_ret
      exact ⟨by first | rfl | (simp [errW_none, errW_some] <;> rfl) | (simp [*, errW_none, errW_some] <;> rfl), TB⟩
    · rw [if_neg c4] at H
      have c4b0 : (a0_1 == a1_1) = false := beq_eq_false_iff_ne.mpr c4
      have c4b1 : (a0_1 != a1_1) = true := bne_iff_ne.mpr c4
      obtain rfl := Option.some.inj H
      go_enter Tryd.func51, Tryd.ntmps51
      go_wp2_with (first | ((with_reducible refine gate_dst (N := 2) rfl ?_); refine gBx 2 #[.int .i64 a0_0, .int .i64 a0_1] 61 ?_; intro gb282 hg w10 hbox hb; have BK282 := aM (hbox); have GW282 := aM ((by rw [hg]; exact (below_size TB) : w.heap.size ≤ gb282)); have GE282 := aM ((by rw [hg]; exact (below_size TB) : w.heap.size ≤ gb282)); replace HB := aM (below_step TB hb); clear hb hbox hg) | ((with_reducible refine gate_dst (N := 3) rfl ?_); refine gBx 3 #[.int .i64 a1_0, .int .i64 a1_1] 61 ?_; intro gb283 hg w11 hbox hb; have BK283 := aM (hbox); have GW283 := aM ((by rw [hg]; exact (below_size TB) : w.heap.size ≤ gb283)); have GE283 := aM ((by rw [hg]; exact (below_size TB) : w.heap.size ≤ gb283)); have NB282_283 := aM ((by rw [hg]; exact Nat.ne_of_lt (blk_lt (by have X_ := BK282.out; exact TX)) : gb282 ≠ gb283)); have NB283_282 := aM ((by rw [hg]; exact Nat.ne_of_gt (blk_lt (by have X_ := BK282.out; exact TX)) : gb283 ≠ gb282)); replace BK282 := aM (blk_below (by have X_ := BK282.out; exact TX) hb); replace HB := aM (below_step TB hb); clear hb hbox hg; have hnb12 := NB282_283.out; have hnc12 := NB283_282.out; obtain ⟨hcz13_0, hcz13_1⟩ := cz2 BK282.out; obtain ⟨hfz13_0, hfz13_1⟩ := fz2 BK282.out; obtain ⟨hcz14_0, hcz14_1⟩ := cz2 BK283.out; obtain ⟨hfz14_0, hfz14_1⟩ := fz2 BK283.out))
      go_ret
      exact ⟨by first | rfl | (simp [errW_none, errW_some] <;> rfl) | (simp [*, errW_none, errW_some] <;> rfl), TB⟩
  · rw [if_neg c3] at H
    have c3b0 : (a0_0 == a1_0) = false := beq_eq_false_iff_ne.mpr c3
    have c3b1 : (a0_0 != a1_0) = true := bne_iff_ne.mpr c3
    obtain rfl := Option.some.inj H
    go_enter Tryd.func51, Tryd.ntmps51
    go_wp2_with (first | ((with_reducible refine gate_dst (N := 2) rfl ?_); refine gBx 2 #[.int .i64 a0_0, .int .i64 a0_1] 61 ?_; intro gb282 hg w15 hbox hb; have BK282 := aM (hbox); have GW282 := aM ((by rw [hg]; exact (below_size TB) : w.heap.size ≤ gb282)); have GE282 := aM ((by rw [hg]; exact (below_size TB) : w.heap.size ≤ gb282)); replace HB := aM (below_step TB hb); clear hb hbox hg) | ((with_reducible refine gate_dst (N := 3) rfl ?_); refine gBx 3 #[.int .i64 a1_0, .int .i64 a1_1] 61 ?_; intro gb283 hg w16 hbox hb; have BK283 := aM (hbox); have GW283 := aM ((by rw [hg]; exact (below_size TB) : w.heap.size ≤ gb283)); have GE283 := aM ((by rw [hg]; exact (below_size TB) : w.heap.size ≤ gb283)); have NB282_283 := aM ((by rw [hg]; exact Nat.ne_of_lt (blk_lt (by have X_ := BK282.out; exact TX)) : gb282 ≠ gb283)); have NB283_282 := aM ((by rw [hg]; exact Nat.ne_of_gt (blk_lt (by have X_ := BK282.out; exact TX)) : gb283 ≠ gb282)); replace BK282 := aM (blk_below (by have X_ := BK282.out; exact TX) hb); replace HB := aM (below_step TB hb); clear hb hbox hg; have hnb17 := NB282_283.out; have hnc17 := NB283_282.out; obtain ⟨hcz18_0, hcz18_1⟩ := cz2 BK282.out; obtain ⟨hfz18_0, hfz18_1⟩ := fz2 BK282.out; obtain ⟨hcz19_0, hcz19_1⟩ := cz2 BK283.out; obtain ⟨hfz19_0, hfz19_1⟩ := fz2 BK283.out))
    go_ret
    exact ⟨by first | rfl | (simp [errW_none, errW_some] <;> rfl) | (simp [*, errW_none, errW_some] <;> rfl), TB⟩

end Go.Proofs.YtanpaipapcjpoaaDoor.Q
