/- Functions of the program as plain Lean functions, and that a call of each comes to what its function tells. Written by a program of this seat. -/
import Derived.Test.YtlghklbjmmijpaaQ0
import Derived.Test.YtlghklbjmmijpaaQ2
import Derived.Test.YtlghklbjmmijpaaQ19
import Derived.Test.YtlghklbjmmijpaaQ33
namespace Go.Proofs.Ytlghklbjmmijpaa.Q
open Go.RowKit Go.Proofs.YtlghklbjmmijpaaW.PrintWords Go.Proofs.YtlghklbjmmijpaaW.PrintLast Go.Proofs.YtlghklbjmmijpaaW.PrintMore
attribute [local go_sem] max2_int min2_int max_two min_two max_three min_three max_four min_four   -- for this text's walks alone
set_option linter.unusedVariables false
set_option linter.unusedSimpArgs false

attribute [local go_sem high] eqA119
/-! ### impl_Sum: function 131 -/
def impl_Sum.l0 : Nat → List (S119) → List (S119) → Int → Int → Option (Bool)
  | 0, _, _, _, _ => none
  | k + 1, x0, x1, x12, x13 => if x13 < x12 then (if 0 ≤ x13 then (if x13 < (x0.length : Int) then (if x13 < (x1.length : Int) then (if (!(((rd_T119 x0 x13).f0) == ((rd_T119 x1 x13).f0)) || (!(((rd_T119 x0 x13).f1) == ((rd_T119 x1 x13).f1)))) = true then (some false) else (impl_Sum.l0 k x0 x1 x12 (wrap64 (x13 + 1)))) else (none)) else (none)) else (none)) else (some true)
def impl_Sum.f (k : Nat) (l0 : List (S119)) (l1 : List (S119)) : Option (Bool) := if (l0.length : Int) = (l1.length : Int) then (impl_Sum.l0 k l0 l1 (l0.length : Int) 0) else (some false)
theorem impl_Sum.mono_l : ∀ k, (∀ y0 y1 y2 y3, LeO (impl_Sum.l0 k y0 y1 y2 y3) (impl_Sum.l0 (k + 1) y0 y1 y2 y3))
  | 0 => fun _ _ _ _ r h => by simp [impl_Sum.l0] at h
  | k + 1 => by
    have ih0 := impl_Sum.mono_l k
    · intro y0 y1 y2 y3
      unfold impl_Sum.l0
      exact LM
theorem impl_Sum.mono : ∀ a0 a1 k, LeO (impl_Sum.f k a0 a1) (impl_Sum.f (k + 1) a0 a1) := by
  intro a0 a1 k
  have ih0 := impl_Sum.mono_l k
  unfold impl_Sum.f
  exact LM
set_option maxHeartbeats 40000000 in
set_option maxRecDepth 100000 in
theorem impl_Sum.calls (k : Nat) (A0 : Option Addr) (c0 : Nat) (l0 : List (S119)) (A1 : Option Addr) (c1 : Nat) (l1 : List (S119)) (r : Bool) (w : World) (hr0 : Kd.C k119 w A0 l0.length l0) (hc0 : l0.length ≤ c0) (hr1 : Kd.C k119 w A1 l1.length l1) (hc1 : l1.length ≤ c1) (h : impl_Sum.f k l0 l1 = some r) :
    Calls Try.prog 131 #[.slice A0 l0.length c0, .slice A1 l1.length c1] w fun e w' => e = .returned (.bool r) ∧ Drawn0 w w' := by
  have hu119 := Try.underlying119
  have HR0 := aM hr0
  have HC0 := aM hc0
  clear hr0 hc0
  have HR1 := aM hr1
  have HC1 := aM hc1
  clear hr1 hc1
  have H := h
  clear h
  unfold impl_Sum.f at H
  by_cases c3 : (l0.length : Int) = (l1.length : Int)
  · rw [if_pos c3] at H
    have c3b0 : ((l0.length : Int) == (l1.length : Int)) = true := beq_iff_eq.mpr c3
    have c3b1 : ((l0.length : Int) != (l1.length : Int)) = false := bne_eq_false_iff_eq.mpr c3
    have c3b2 : (l0.length == l1.length) = true := by first | simpa using c3 | (simp at c3 ⊢; omega)
    clear c3
    have H' := aM H
    clear H
    go_enter Try.func131, Try.ntmps131
    go_wp2
    repeat (go_quiet (fail); try go_wp2)
    go_loopg [13] k (fun kq v13 w' => ∃ (x13_1 : Int), v13 = .int .i64 x13_1 ∧ Aside0 (impl_Sum.l0 kq l0 l1 (l0.length : Int) x13_1 = some r) ∧ Aside0 (kq ≤ k) ∧ Drawn0 w w')
    case atStart => exact ⟨(0), (by first | rfl | (simp; done) | (simp [*]; done)), H', ⟨Nat.le_refl _⟩, TD⟩
    case round =>
      clear H'
      try clear c1
      try clear p2
      try clear c3
      try clear c3b0
      try clear c3b1
      try clear c3b2
      obtain ⟨x13_1, rfl, HA, HK1, ⟨m1, rfl⟩⟩ := hrel
      cases gk with
      | zero => exact absurd HA.out (by simp [impl_Sum.l0])
      | succ k1 =>
        have H := HA.out
        clear HA
        simp only [impl_Sum.l0] at H
        by_cases c4 : x13_1 < (l0.length : Int)
        · rw [if_pos c4] at H
          have c4b0 : decide (x13_1 < (l0.length : Int)) = true := decide_eq_true c4
          clear c4
          replace H := ifN H
          obtain ⟨c5, H⟩ := H
          have c5b0 : decide (0 ≤ x13_1) = true := decide_eq_true c5
          clear c5
          replace H := ifN H
          obtain ⟨c6, H⟩ := H
          have c6b0 : decide (x13_1 < (l0.length : Int)) = true := decide_eq_true c6
          clear c6
          replace H := ifN H
          obtain ⟨c7, H⟩ := H
          have c7b0 : decide (x13_1 < (l1.length : Int)) = true := decide_eq_true c7
          clear c7
          by_cases c8 : (!(((rd_T119 l0 x13_1).f0) == ((rd_T119 l1 x13_1).f0)) || (!(((rd_T119 l0 x13_1).f1) == ((rd_T119 l1 x13_1).f1)))) = true
          · rw [if_pos c8] at H
            have c8b0 : (!(((rd_T119 l0 x13_1).f0) == ((rd_T119 l1 x13_1).f0)) || (!(((rd_T119 l0 x13_1).f1) == ((rd_T119 l1 x13_1).f1)))) = true := c8
            clear c8
            obtain rfl := Option.some.inj H
            have p1034 : 0 ≤ (x13_1 : Int) := DT
            have q1034 : x13_1 < (l0.length : Int) := DT
            obtain ⟨ad1034, e1034, hx1034_0, hx1034_1⟩ := at_T119 HR0.out x13_1 p1034 q1034
            cases e1034
            replace p1034 := eq_true p1034
            replace q1034 := eq_true q1034
            have p1035 : 0 ≤ (x13_1 : Int) := DT
            have q1035 : x13_1 < (l1.length : Int) := DT
            obtain ⟨ad1035, e1035, hx1035_0, hx1035_1⟩ := at_T119 HR1.out x13_1 p1035 q1035
            cases e1035
            replace p1035 := eq_true p1035
            replace q1035 := eq_true q1035
            go_wp2
            repeat (go_quiet (fail); try go_wp2)
            go_ret
            exact ⟨by first | rfl | (simp; done) | (simp [*]; done), TD⟩
          · rw [if_neg c8] at H
            have c8b0 : (!(((rd_T119 l0 x13_1).f0) == ((rd_T119 l1 x13_1).f0)) || (!(((rd_T119 l0 x13_1).f1) == ((rd_T119 l1 x13_1).f1)))) = false := by simpa using c8
            clear c8
            have H' := aM H
            clear H
            have p1034 : 0 ≤ (x13_1 : Int) := DT
            have q1034 : x13_1 < (l0.length : Int) := DT
            obtain ⟨ad1034, e1034, hx1034_0, hx1034_1⟩ := at_T119 HR0.out x13_1 p1034 q1034
            cases e1034
            replace p1034 := eq_true p1034
            replace q1034 := eq_true q1034
            have p1035 : 0 ≤ (x13_1 : Int) := DT
            have q1035 : x13_1 < (l1.length : Int) := DT
            obtain ⟨ad1035, e1035, hx1035_0, hx1035_1⟩ := at_T119 HR1.out x13_1 p1035 q1035
            cases e1035
            replace p1035 := eq_true p1035
            replace q1035 := eq_true q1035
            go_wp2
            repeat (go_quiet (fail); try go_wp2)
            go_roundg k1
            case measure => have := HK1.out; omega
            case rel => exact ⟨(wrap64 (x13_1 + 1)), (by first | rfl | (simp; done) | (simp [*]; done)), H', ⟨by have := HK1.out; omega⟩, TD⟩
        · rw [if_neg c4] at H
          have c4b0 : decide (x13_1 < (l0.length : Int)) = false := decide_eq_false c4
          clear c4
          obtain rfl := Option.some.inj H
          go_wp2
          repeat (go_quiet (fail); try go_wp2)
          go_ret
          exact ⟨by first | rfl | (simp; done) | (simp [*]; done), TD⟩
  · rw [if_neg c3] at H
    have c3b0 : ((l0.length : Int) == (l1.length : Int)) = false := beq_eq_false_iff_ne.mpr c3
    have c3b1 : ((l0.length : Int) != (l1.length : Int)) = true := bne_iff_ne.mpr c3
    have c3b2 : (l0.length == l1.length) = false := by first | simpa using c3 | (simp at c3 ⊢; omega)
    obtain rfl := Option.some.inj H
    go_enter Try.func131, Try.ntmps131
    go_wp2
    repeat (go_quiet (fail); try go_wp2)
    go_ret
    exact ⟨by first | rfl | (simp; done) | (simp [*]; done), TD⟩

/-! ### impl_Tells: function 86 -/
def impl_Tells.f (k : Nat) (a0_0 : Int) (a0_1 : Int) (a0_2 : Int) (l0_3 : List (S119)) (l1 : List Int) : Option (Bool) := if (l1.length : Int) = a0_2 then ((impl_SumsOf.f k l1 a0_1).bind fun t1037 => ((impl_Sum.f k t1037 l0_3).bind fun t1040 => (some t1040))) else (some false)
theorem impl_Tells.mono : ∀ a0 a1 a2 a3 a4 k, LeO (impl_Tells.f k a0 a1 a2 a3 a4) (impl_Tells.f (k + 1) a0 a1 a2 a3 a4) := by
  intro a0 a1 a2 a3 a4 k
  have m0_ := @impl_Sum.mono
  have m1_ := @impl_SumsOf.mono
  unfold impl_Tells.f
  exact LM
def impl_Tells.T1 : Bool × List (List Nat × List Nat) := (true, [([], []), ([0], [0]), ([], []), ([2], [2]), ([1, 3], [1, 3]), ([4], [4]), ([5], [5]), ([5], [5]), ([7, 5], [5, 7]), ([6, 8, 5, 5], [5, 6, 8]), ([5], [5]), ([10, 5], [5, 10]), ([9, 11, 9, 5], [5, 9, 11]), ([5, 12], [5, 12]), ([13, 12, 0, 1, 2, 3, 4, 5, 6, 7, 8, 9, 10, 11, 12, 13], [13])])
def impl_Tells.B1 : List Nat := [0, 1, 0, 4, 15, 31, 63, 63, 191, 511, 63, 1087, 4095, 8191, 16383]
theorem impl_Tells.tab1 : rtab .any (opsOf Try.f86 1) = impl_Tells.T1 := by kernel_rfl
theorem impl_Tells.bits1 : waitsOk impl_Tells.T1.2 impl_Tells.B1 = true := by kernel_rfl
set_option maxHeartbeats 40000000 in
set_option maxRecDepth 100000 in
theorem impl_Tells.calls (k : Nat) (a0_0 : Int) (a0_1 : Int) (a0_2 : Int) (A0_3 : Option Addr) (c0_3 : Nat) (l0_3 : List (S119)) (A1 : Option Addr) (c1 : Nat) (l1 : List Int) (r : Bool) (w : World) (hr0_3 : Kd.C k119 w A0_3 l0_3.length l0_3) (hc0_3 : l0_3.length ≤ c0_3) (hr1 : Kd.C (Kd.int .u8) w A1 l1.length l1) (hc1 : l1.length ≤ c1) (h : impl_Tells.f k a0_0 a0_1 a0_2 l0_3 l1 = some r) :
    Calls Try.prog 86 #[.agg #[.int .i64 a0_0, .int .i64 a0_1, .int .i64 a0_2, .slice A0_3 l0_3.length c0_3], .slice A1 l1.length c1] w fun e w' => e = .returned (.bool r) ∧ Below w.heap.size w w' := by
  have hu44 := Try.underlying44
  have HR0_3 := aM hr0_3
  have HC0_3 := aM hc0_3
  clear hr0_3 hc0_3
  have HR1 := aM hr1
  have HC1 := aM hc1
  clear hr1 hc1
  have HB := aM (Below.refl w.heap.size w)
  have H := h
  clear h
  unfold impl_Tells.f at H
  by_cases c3 : (l1.length : Int) = a0_2
  · rw [if_pos c3] at H
    have c3b0 : ((l1.length : Int) == a0_2) = true := beq_iff_eq.mpr c3
    have c3b1 : ((l1.length : Int) != a0_2) = false := bne_eq_false_iff_eq.mpr c3
    clear c3
    replace H := bE H
    obtain ⟨t1037, A4, H⟩ := H
    replace H := bE H
    obtain ⟨t1040, A5, H⟩ := H
    obtain rfl := Option.some.inj H
    go_enter Try.func86, Try.ntmps86
    try go_wp2_with (first | ((with_reducible refine gate_dst (N := 2) rfl ?_); refine gBx 2 #[.int .i64 a0_0, .int .i64 a0_1, .int .i64 a0_2, .slice A0_3 l0_3.length c0_3] 44 ?_; intro gb1036 hg w6 hbox hb; have BK1036 := aM (hbox); have GW1036 := aM ((by rw [hg]; exact (below_size TB) : w.heap.size ≤ gb1036)); have GE1036 := aM ((by rw [hg]; exact (below_size TB) : w.heap.size ≤ gb1036)); replace HB := aM (below_step TB hb); clear hb hbox hg))
    replace BK1036 := aM (blk_drew BK1036.out)
    replace HB := aM (below_drew1 HB.out)
    refine start_ (n := 15) (S := fun w' => w'.cell? ⟨gb1036, 0, none⟩ = some (.int .i64 a0_0) ∧ w'.cell? ⟨gb1036, 1, none⟩ = some (.int .i64 a0_1) ∧ w'.cell? ⟨gb1036, 2, none⟩ = some (.int .i64 a0_2) ∧ w'.cell? ⟨gb1036, 3, none⟩ = some (.slice A0_3 l0_3.length c0_3)) (ds := []) (Array.replicate 15 false) (by kernel_rfl) rfl rfl (cz4 BK1036.out) (fun hHeld => ?_); refine with_tabW impl_Tells.tab1 impl_Tells.bits1 (fun HT_ HW_ => ?_)
    generalize w6.drew = w7 at BK1036 HB hHeld ⊢
    refine pP 0 (some 5) ?_
    refine pP 1 (some 6) ?_
    refine pP 2 (some 7) ?_
    refine pT 3 (some 8) ?_
    refine pP 4 (some 9) ?_
    refine pP 5 (some 10) ?_
    refine pP 6 (some 11) ?_
    refine pP 7 (some 12) ?_
    refine pP 10 (some 15) ?_
    refine pT 8 (some 13) ?_
    refine pT 11 (some 16) ?_
    refine pO 9 (some 14) (fun K hK => ?_)
    refine gG Try.func55 #[.slice A1 l1.length c1, .int .i64 a0_1] ?_
    with_reducible refine (impl_SumsOf.calls k _ _ l1 a0_1 t1037 _ ?side1 ?side2 A4.out).mono ?_
    (case side1 => have X_ := (Kd.C_below HR1.out HB.out); exact TC)
    (case side2 => exact HC1.out)
    rintro e w8 ⟨v1038, rfl, ho0, hb⟩
    refine ⟨_, rfl, ?_⟩
    have n0_ := aM (Kd.R_lower ho0 (below_size TB))
    have n1_ := aM (blk_below (by have X_ := BK1036.out; exact TX) hb)
    have n2_ := aM (below_step TB hb)
    clear BK1036
    clear HB
    have HO1039 := n0_
    have BK1036 := n1_
    have HB := n2_
    clear n0_ n1_ n2_
    (try clear hb)
    (try clear hb2)
    (try clear hk)
    (try clear hi)
    (try clear ho0)
    obtain ⟨Ao9, co9, eo9⟩ := Kd.R_slice HO1039.out
    (first | subst eo9 | (injection eo9 with f1_ f2_ f3_; have f4_ := f1_.symm; have f5_ := f3_.symm; clear f1_ f2_ f3_; subst f4_; subst f5_))
    refine hK.out _ _ (cz4 BK1036.out) (fun hHeld => ?_)
    clear hK K
    refine nR ?_
    refine pO 12 (some 17) (fun K hK => ?_)
    refine gG Try.func131 #[.slice Ao9 t1037.length co9, .slice A0_3 l0_3.length c0_3] ?_
    with_reducible refine (impl_Sum.calls k _ _ t1037 _ _ l0_3 t1040 _ ?side1 ?side2 ?side3 ?side4 A5.out).mono ?_
    (case side1 => have X_ := (Kd.R_reads' HO1039.out).2.2; exact TC)
    (case side2 => exact (Kd.R_reads' HO1039.out).2.1)
    (case side3 => have X_ := (Kd.C_below HR0_3.out HB.out); exact TC)
    (case side4 => exact HC0_3.out)
    rintro e w' ⟨rfl, ⟨nd, rfl⟩⟩
    refine ⟨_, rfl, ?_⟩
    refine hK.out _ _ (cz4 BK1036.out) (fun hHeld => ?_)
    clear hK K
    refine nR ?_
    refine pP 13 (some 18) ?_
    refine pP 14 (some 4) ?_
    refine done_ (done_of HT_.out (by kernel_rfl)) ?_
    try go_wp2
    go_ret
    exact ⟨by first | rfl | (simp [errW_none, errW_some] <;> rfl) | (simp [*, errW_none, errW_some] <;> rfl), TB⟩
  · rw [if_neg c3] at H
    have c3b0 : ((l1.length : Int) == a0_2) = false := beq_eq_false_iff_ne.mpr c3
    have c3b1 : ((l1.length : Int) != a0_2) = true := bne_iff_ne.mpr c3
    obtain rfl := Option.some.inj H
    go_enter Try.func86, Try.ntmps86
    try go_wp2_with (first | ((with_reducible refine gate_dst (N := 2) rfl ?_); refine gBx 2 #[.int .i64 a0_0, .int .i64 a0_1, .int .i64 a0_2, .slice A0_3 l0_3.length c0_3] 44 ?_; intro gb1036 hg w10 hbox hb; have BK1036 := aM (hbox); have GW1036 := aM ((by rw [hg]; exact (below_size TB) : w.heap.size ≤ gb1036)); have GE1036 := aM ((by rw [hg]; exact (below_size TB) : w.heap.size ≤ gb1036)); replace HB := aM (below_step TB hb); clear hb hbox hg))
    replace BK1036 := aM (blk_drew BK1036.out)
    replace HB := aM (below_drew1 HB.out)
    refine start_ (n := 15) (S := fun w' => w'.cell? ⟨gb1036, 0, none⟩ = some (.int .i64 a0_0) ∧ w'.cell? ⟨gb1036, 1, none⟩ = some (.int .i64 a0_1) ∧ w'.cell? ⟨gb1036, 2, none⟩ = some (.int .i64 a0_2) ∧ w'.cell? ⟨gb1036, 3, none⟩ = some (.slice A0_3 l0_3.length c0_3)) (ds := []) (Array.replicate 15 false) (by kernel_rfl) rfl rfl (cz4 BK1036.out) (fun hHeld => ?_); refine with_tabW impl_Tells.tab1 impl_Tells.bits1 (fun HT_ HW_ => ?_)
    generalize w10.drew = w11 at BK1036 HB hHeld ⊢
    refine pP 0 (some 5) ?_
    refine pP 1 (some 6) ?_
    refine pP 2 (some 7) ?_
    refine pT 3 (some 8) ?_
    refine pP 4 (some 9) ?_
    refine pP 5 (some 10) ?_
    refine pX 6 (some 11) ?_
    refine pX 7 (some 12) ?_
    refine pX 8 (some 13) ?_
    refine pX 9 (some 14) ?_
    refine pX 10 (some 15) ?_
    refine pX 11 (some 16) ?_
    refine pX 12 (some 17) ?_
    refine pP 13 (some 18) ?_
    refine pP 14 (some 4) ?_
    refine done_ (done_of HT_.out (by kernel_rfl)) ?_
    try go_wp2
    go_ret
    exact ⟨by first | rfl | (simp [errW_none, errW_some] <;> rfl) | (simp [*, errW_none, errW_some] <;> rfl), TB⟩

/-! ### impl_Committed: function 33 -/
def impl_Committed.f (k : Nat) (l0_0 : List Int) (l0_1 : List Int) (a0_2 : Int) (a0_3 : Int) (a0_4 : Int) (l0_5 : List (S110)) (a1_0 : Int) (a1_1 : Int) (a1_2 : Int) (l1_3 : List (S119)) (l2 : List Int) : Option (Bool) := (impl_Holds.f k l0_0 l0_1 a0_2 a0_3 a0_4 l0_5 a1_0 l2).bind fun t1043 => (if t1043 = true then ((impl_Tells.f k a1_0 a1_1 a1_2 l1_3 l2).bind fun t1044 => (some t1044)) else (some false))
theorem impl_Committed.mono : ∀ a0 a1 a2 a3 a4 a5 a6 a7 a8 a9 a10 k, LeO (impl_Committed.f k a0 a1 a2 a3 a4 a5 a6 a7 a8 a9 a10) (impl_Committed.f (k + 1) a0 a1 a2 a3 a4 a5 a6 a7 a8 a9 a10) := by
  intro a0 a1 a2 a3 a4 a5 a6 a7 a8 a9 a10 k
  have m0_ := @impl_Holds.mono
  have m1_ := @impl_Tells.mono
  unfold impl_Committed.f
  exact LM
set_option maxHeartbeats 40000000 in
set_option maxRecDepth 100000 in
theorem impl_Committed.calls (k : Nat) (A0_0 : Option Addr) (c0_0 : Nat) (l0_0 : List Int) (A0_1 : Option Addr) (c0_1 : Nat) (l0_1 : List Int) (a0_2 : Int) (a0_3 : Int) (a0_4 : Int) (A0_5 : Option Addr) (c0_5 : Nat) (l0_5 : List (S110)) (a1_0 : Int) (a1_1 : Int) (a1_2 : Int) (A1_3 : Option Addr) (c1_3 : Nat) (l1_3 : List (S119)) (A2 : Option Addr) (c2 : Nat) (l2 : List Int) (r : Bool) (w : World) (hr0_0 : Kd.C (Kd.int .u8) w A0_0 l0_0.length l0_0) (hc0_0 : l0_0.length ≤ c0_0) (hr0_1 : Kd.C (Kd.int .u8) w A0_1 l0_1.length l0_1) (hc0_1 : l0_1.length ≤ c0_1) (hr0_5 : Kd.C k110 w A0_5 l0_5.length l0_5) (hc0_5 : l0_5.length ≤ c0_5) (hr1_3 : Kd.C k119 w A1_3 l1_3.length l1_3) (hc1_3 : l1_3.length ≤ c1_3) (hr2 : Kd.C (Kd.int .u8) w A2 l2.length l2) (hc2 : l2.length ≤ c2) (h : impl_Committed.f k l0_0 l0_1 a0_2 a0_3 a0_4 l0_5 a1_0 a1_1 a1_2 l1_3 l2 = some r) :
    Calls Try.prog 33 #[.agg #[.slice A0_0 l0_0.length c0_0, .slice A0_1 l0_1.length c0_1, .int .i64 a0_2, .int .i64 a0_3, .int .i64 a0_4, .slice A0_5 l0_5.length c0_5], .agg #[.int .i64 a1_0, .int .i64 a1_1, .int .i64 a1_2, .slice A1_3 l1_3.length c1_3], .slice A2 l2.length c2] w fun e w' => e = .returned (.bool r) ∧ Below w.heap.size w w' := by
  have hu33 := Try.underlying33
  have hu44 := Try.underlying44
  have HR0_0 := aM hr0_0
  have HC0_0 := aM hc0_0
  clear hr0_0 hc0_0
  have HR0_1 := aM hr0_1
  have HC0_1 := aM hc0_1
  clear hr0_1 hc0_1
  have HR0_5 := aM hr0_5
  have HC0_5 := aM hc0_5
  clear hr0_5 hc0_5
  have HR1_3 := aM hr1_3
  have HC1_3 := aM hc1_3
  clear hr1_3 hc1_3
  have HR2 := aM hr2
  have HC2 := aM hc2
  clear hr2 hc2
  have HB := aM (Below.refl w.heap.size w)
  have H := h
  clear h
  unfold impl_Committed.f at H
  replace H := bE H
  obtain ⟨t1043, A4, H⟩ := H
  go_enter Try.func33, Try.ntmps33
  go_wp2_with (first | ((with_reducible refine gate_dst (N := 3) rfl ?_); refine gBx 3 #[.slice A0_0 l0_0.length c0_0, .slice A0_1 l0_1.length c0_1, .int .i64 a0_2, .int .i64 a0_3, .int .i64 a0_4, .slice A0_5 l0_5.length c0_5] 33 ?_; intro gb1041 hg w6 hbox hb; have BK1041 := aM (hbox); have GW1041 := aM ((by rw [hg]; exact (below_size TB) : w.heap.size ≤ gb1041)); have GE1041 := aM ((by rw [hg]; exact (below_size TB) : w.heap.size ≤ gb1041)); replace HB := aM (below_step TB hb); clear hb hbox hg) | ((with_reducible refine gate_dst (N := 4) rfl ?_); refine gBx 4 #[.int .i64 a1_0, .int .i64 a1_1, .int .i64 a1_2, .slice A1_3 l1_3.length c1_3] 44 ?_; intro gb1042 hg w7 hbox hb; have BK1042 := aM (hbox); have GW1042 := aM ((by rw [hg]; exact (below_size TB) : w.heap.size ≤ gb1042)); have GE1042 := aM ((by rw [hg]; exact (below_size TB) : w.heap.size ≤ gb1042)); have NB1041_1042 := aM ((by rw [hg]; exact Nat.ne_of_lt (blk_lt (by have X_ := BK1041.out; exact TX)) : gb1041 ≠ gb1042)); have NB1042_1041 := aM ((by rw [hg]; exact Nat.ne_of_gt (blk_lt (by have X_ := BK1041.out; exact TX)) : gb1042 ≠ gb1041)); replace BK1041 := aM (blk_below (by have X_ := BK1041.out; exact TX) hb); replace HB := aM (below_step TB hb); clear hb hbox hg; have hnb8 := NB1041_1042.out; have hnc8 := NB1042_1041.out; obtain ⟨hcz9_0, hcz9_1, hcz9_2, hcz9_3, hcz9_4, hcz9_5⟩ := cz6 BK1041.out; obtain ⟨hfz9_0, hfz9_1, hfz9_2, hfz9_3, hfz9_4, hfz9_5⟩ := fz6 BK1041.out; obtain ⟨hcz10_0, hcz10_1, hcz10_2, hcz10_3⟩ := cz4 BK1042.out; obtain ⟨hfz10_0, hfz10_1, hfz10_2, hfz10_3⟩ := fz4 BK1042.out) | ((with_reducible refine gate_callee (f := 85) rfl ?_); (with_reducible refine gate_dst (N := 11) rfl ?_); generalize hG_ : wpList _ _ _ _ _ _ = G_))
  subst hG_
  by_cases c11 : t1043 = true
  · subst c11
    replace H := ifT H
    replace H := bE H
    obtain ⟨t1044, A12, H⟩ := H
    obtain rfl := Option.some.inj H
    go_wp2_with (first | ((with_reducible refine gate_callee (f := 85) rfl ?_); refine gL (some 11) Try.func85 #[.agg #[.slice A0_0 l0_0.length c0_0, .slice A0_1 l0_1.length c0_1, .int .i64 a0_2, .int .i64 a0_3, .int .i64 a0_4, .slice A0_5 l0_5.length c0_5], .int .i64 a1_0, .slice A2 l2.length c2] ?_; (with_reducible refine (impl_Holds.calls k _ _ l0_0 _ _ l0_1 a0_2 a0_3 a0_4 _ _ l0_5 a1_0 _ _ l2 true _ ?side1 ?side2 ?side3 ?side4 ?side5 ?side6 ?side7 ?side8 A4.out).mono ?_); (case side1 => repeat (first | exact (Kd.C_below HR0_0.out TB) | (with_reducible refine Kd.C_alloc ?_ _) | (with_reducible refine Kd.C_drewN ?_ _) | (with_reducible refine Kd.C_drew ?_))); (case side2 => exact HC0_0.out); (case side3 => repeat (first | exact (Kd.C_below HR0_1.out TB) | (with_reducible refine Kd.C_alloc ?_ _) | (with_reducible refine Kd.C_drewN ?_ _) | (with_reducible refine Kd.C_drew ?_))); (case side4 => exact HC0_1.out); (case side5 => repeat (first | exact (Kd.C_below HR0_5.out TB) | (with_reducible refine Kd.C_alloc ?_ _) | (with_reducible refine Kd.C_drewN ?_ _) | (with_reducible refine Kd.C_drew ?_))); (case side6 => exact HC0_5.out); (case side7 => repeat (first | exact (Kd.C_below HR2.out TB) | (with_reducible refine Kd.C_alloc ?_ _) | (with_reducible refine Kd.C_drewN ?_ _) | (with_reducible refine Kd.C_drew ?_))); (case side8 => exact HC2.out); rintro e w13 ⟨rfl, hb⟩; refine ⟨_, rfl, ?_⟩; replace BK1041 := aM (blk_below (by have X_ := BK1041.out; exact TX) hb); replace BK1042 := aM (blk_below (by have X_ := BK1042.out; exact TX) hb); replace HB := aM (below_step TB hb); clear hb; have hnb14 := NB1042_1041.out; have hnc14 := NB1041_1042.out; obtain ⟨hcz15_0, hcz15_1, hcz15_2, hcz15_3⟩ := cz4 BK1042.out; obtain ⟨hfz15_0, hfz15_1, hfz15_2, hfz15_3⟩ := fz4 BK1042.out) | (go_at_call 86; (with_reducible refine (impl_Tells.calls k a1_0 a1_1 a1_2 _ _ l1_3 _ _ l2 t1044 _ ?side1 ?side2 ?side3 ?side4 A12.out).mono ?_); (case side1 => have X_ := (Kd.C_below HR1_3.out HB.out); exact TC); (case side2 => exact HC1_3.out); (case side3 => have X_ := (Kd.C_below HR2.out HB.out); exact TC); (case side4 => exact HC2.out); rintro e w16 ⟨rfl, hb⟩; replace BK1041 := aM (blk_below (by have X_ := BK1041.out; exact TX) hb); replace BK1042 := aM (blk_below (by have X_ := BK1042.out; exact TX) hb); replace HB := aM (below_step TB hb); clear hb))
    go_ret
    exact ⟨by first | rfl | (simp [errW_none, errW_some] <;> rfl) | (simp [*, errW_none, errW_some] <;> rfl), TB⟩
  · replace c11 := Bool.eq_false_iff.mpr c11
    subst c11
    replace H := ifF H
    obtain rfl := Option.some.inj H
    go_wp2_with (first | ((with_reducible refine gate_callee (f := 85) rfl ?_); refine gL (some 11) Try.func85 #[.agg #[.slice A0_0 l0_0.length c0_0, .slice A0_1 l0_1.length c0_1, .int .i64 a0_2, .int .i64 a0_3, .int .i64 a0_4, .slice A0_5 l0_5.length c0_5], .int .i64 a1_0, .slice A2 l2.length c2] ?_; (with_reducible refine (impl_Holds.calls k _ _ l0_0 _ _ l0_1 a0_2 a0_3 a0_4 _ _ l0_5 a1_0 _ _ l2 false _ ?side1 ?side2 ?side3 ?side4 ?side5 ?side6 ?side7 ?side8 A4.out).mono ?_); (case side1 => repeat (first | exact (Kd.C_below HR0_0.out TB) | (with_reducible refine Kd.C_alloc ?_ _) | (with_reducible refine Kd.C_drewN ?_ _) | (with_reducible refine Kd.C_drew ?_))); (case side2 => exact HC0_0.out); (case side3 => repeat (first | exact (Kd.C_below HR0_1.out TB) | (with_reducible refine Kd.C_alloc ?_ _) | (with_reducible refine Kd.C_drewN ?_ _) | (with_reducible refine Kd.C_drew ?_))); (case side4 => exact HC0_1.out); (case side5 => repeat (first | exact (Kd.C_below HR0_5.out TB) | (with_reducible refine Kd.C_alloc ?_ _) | (with_reducible refine Kd.C_drewN ?_ _) | (with_reducible refine Kd.C_drew ?_))); (case side6 => exact HC0_5.out); (case side7 => repeat (first | exact (Kd.C_below HR2.out TB) | (with_reducible refine Kd.C_alloc ?_ _) | (with_reducible refine Kd.C_drewN ?_ _) | (with_reducible refine Kd.C_drew ?_))); (case side8 => exact HC2.out); rintro e w17 ⟨rfl, hb⟩; refine ⟨_, rfl, ?_⟩; replace BK1041 := aM (blk_below (by have X_ := BK1041.out; exact TX) hb); replace BK1042 := aM (blk_below (by have X_ := BK1042.out; exact TX) hb); replace HB := aM (below_step TB hb); clear hb))
    go_ret
    exact ⟨by first | rfl | (simp [errW_none, errW_some] <;> rfl) | (simp [*, errW_none, errW_some] <;> rfl), TB⟩

end Go.Proofs.Ytlghklbjmmijpaa.Q
