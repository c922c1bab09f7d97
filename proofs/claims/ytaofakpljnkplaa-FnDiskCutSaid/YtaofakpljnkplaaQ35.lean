/- Functions of the program as plain Lean functions, and that a call of each comes to what its function tells. Written by a program of this seat. -/
import Derived.Test.YtaofakpljnkplaaQ0
import Derived.Test.YtaofakpljnkplaaQ2
import Derived.Test.YtaofakpljnkplaaQ6
import Derived.Test.YtaofakpljnkplaaQ23
import Derived.Test.YtaofakpljnkplaaQ32
namespace Go.Proofs.Ytaofakpljnkplaa.Q
open Go.RowKit Go.Proofs.YtaofakpljnkplaaW.PrintWords Go.Proofs.YtaofakpljnkplaaW.PrintLast Go.Proofs.YtaofakpljnkplaaW.PrintMore
attribute [local go_sem] min2_int min_two
set_option linter.unusedVariables false
set_option linter.unusedSimpArgs false

attribute [local go_sem high] eqA71
theorem Zq35_0 {p : Prop} (h : p := by repeat (first | exact (Kd.C_below HR0_0.out TB) | (with_reducible refine Kd.C_alloc ?_ _) | (with_reducible refine Kd.C_drewN ?_ _) | (with_reducible refine Kd.C_drew ?_))) : p := h
theorem Zq35_1 {p : Prop} (h : p := by repeat (first | exact (Kd.C_below HR0_1.out TB) | (with_reducible refine Kd.C_alloc ?_ _) | (with_reducible refine Kd.C_drewN ?_ _) | (with_reducible refine Kd.C_drew ?_))) : p := h
theorem Zq35_2 {p : Prop} (h : p := by repeat (first | exact (Kd.C_below HR0_5.out TB) | (with_reducible refine Kd.C_alloc ?_ _) | (with_reducible refine Kd.C_drewN ?_ _) | (with_reducible refine Kd.C_drew ?_))) : p := h
theorem Zq35_3 {p : Prop} (h : p := by repeat (first | exact (Kd.C_below HR2.out TB) | (with_reducible refine Kd.C_alloc ?_ _) | (with_reducible refine Kd.C_drewN ?_ _) | (with_reducible refine Kd.C_drew ?_))) : p := h
def impl_Sum.l0 : Nat → List (S71) → List (S71) → Int → Int → Option (Bool)
  | 0, _, _, _, _ => none
  | k + 1, x0, x1, x12, x13 => if x13 < x12 then (if 0 ≤ x13 then (if x13 < (x0.length : Int) then (if x13 < (x1.length : Int) then (if (!(((rd_T71 x0 x13).f0) == ((rd_T71 x1 x13).f0)) || (!(((rd_T71 x0 x13).f1) == ((rd_T71 x1 x13).f1)))) = true then (some false) else (impl_Sum.l0 k x0 x1 x12 (wrap64 (x13 + 1)))) else (none)) else (none)) else (none)) else (some true)
def impl_Sum.f (k : Nat) (l0 : List (S71)) (l1 : List (S71)) : Option (Bool) := if (l0.length : Int) = (l1.length : Int) then (impl_Sum.l0 k l0 l1 (l0.length : Int) 0) else (some false)
theorem impl_Sum.mono_l : ∀ k, (∀ y0 y1 y2 y3, LeO (impl_Sum.l0 k y0 y1 y2 y3) (impl_Sum.l0 (k + 1) y0 y1 y2 y3))
  | 0 => fun _ _ _ _ r h => by simp [impl_Sum.l0] at h
  | k + 1 => by
    have ih0 := impl_Sum.mono_l k
    · intro y0 y1 y2 y3
      unfold impl_Sum.l0
      exact LM
theorem impl_Sum.mono : ∀ a0 a1 k, LeO (impl_Sum.f k a0 a1) (impl_Sum.f (k + 1) a0 a1) := by
  intro a0 a1 k;have ih0 := impl_Sum.mono_l k;unfold impl_Sum.f;exact LM
set_option maxHeartbeats 40000000 in
set_option maxRecDepth 100000 in
theorem impl_Sum.calls {k : Nat} {A0 : Option Addr} {c0 : Nat} {l0 : List (S71)} {A1 : Option Addr} {c1 : Nat} {l1 : List (S71)} {r : Bool} {w : World} (hr0 : Kd.C k71 w A0 l0.length l0) (hc0 : l0.length ≤ c0) (hr1 : Kd.C k71 w A1 l1.length l1) (hc1 : l1.length ≤ c1) (h : impl_Sum.f k l0 l1 = some r) :
    Calls Try.prog 80 #[.slice A0 l0.length c0, .slice A1 l1.length c1] w fun e w' => e = .returned (.bool r) ∧ Drawn0 w w' := by
  have hu71 := Try.underlying71
  have HR0 := aM hr0
  have HC0 := aM hc0
  clear hr0 hc0
  have HR1 := aM hr1
  have HC1 := aM hc1
  clear hr1 hc1
  have H := h
  clear h
  unfold impl_Sum.f at H
  by_cases c3 : (l0.length : Int) = (l1.length : Int)
  · rw [if_pos c3] at H
    have c3b0 : ((l0.length : Int) == (l1.length : Int)) = true := beq_iff_eq.mpr c3
    have c3b1 : ((l0.length : Int) != (l1.length : Int)) = false := bne_eq_false_iff_eq.mpr c3
    have c3b2 : (l0.length == l1.length) = true := by first | simpa using c3 | (simp at c3 ⊢; omega)
    clear c3
    have H' := aM H
    clear H
    go_enter Try.func80, Try.ntmps80
    go_wp2
    repeat (go_quiet (fail); try go_wp2)
    go_loopg [13] k (fun kq v13 w' => ∃ (x13_1 : Int), v13 = .int .i64 x13_1 ∧ Aside0 (impl_Sum.l0 kq l0 l1 (l0.length : Int) x13_1 = some r) ∧ Aside0 (kq ≤ k) ∧ Drawn0 w w')
    case atStart => exact ⟨(0), TF, H', ⟨Nat.le_refl _⟩, TD⟩
    case round =>
      clear H'
      try clear c1
      try clear p2
      try clear c3
      try clear c3b0
      try clear c3b1
      try clear c3b2
      obtain ⟨x13_1, rfl, HA, HK1, ⟨m1, rfl⟩⟩ := hrel
      cases gk with
      | zero => exact absurd HA.out (by simp [impl_Sum.l0])
      | succ k1 =>
        have H := HA.out
        clear HA
        simp only [impl_Sum.l0] at H
        by_cases c4 : x13_1 < (l0.length : Int)
        · rw [if_pos c4] at H
          have c4b0 : decide (x13_1 < (l0.length : Int)) = true := decide_eq_true c4
          clear c4
          replace H := ifN H
          obtain ⟨c5, H⟩ := H
          have c5b0 : decide (0 ≤ x13_1) = true := decide_eq_true c5
          clear c5
          replace H := ifN H
          obtain ⟨c6, H⟩ := H
          have c6b0 : decide (x13_1 < (l0.length : Int)) = true := decide_eq_true c6
          clear c6
          replace H := ifN H
          obtain ⟨c7, H⟩ := H
          have c7b0 : decide (x13_1 < (l1.length : Int)) = true := decide_eq_true c7
          clear c7
          by_cases c8 : (!(((rd_T71 l0 x13_1).f0) == ((rd_T71 l1 x13_1).f0)) || (!(((rd_T71 l0 x13_1).f1) == ((rd_T71 l1 x13_1).f1)))) = true
          · rw [if_pos c8] at H
            have c8b0 : (!(((rd_T71 l0 x13_1).f0) == ((rd_T71 l1 x13_1).f0)) || (!(((rd_T71 l0 x13_1).f1) == ((rd_T71 l1 x13_1).f1)))) = true := c8
            clear c8
            obtain rfl := o_I H
            have p902 : 0 ≤ (x13_1 : Int) := DT
            have q902 : x13_1 < (l0.length : Int) := DT
            obtain ⟨ad902, e902, hx902_0, hx902_1⟩ := at_T71 HR0.out x13_1 p902 q902
            cases e902
            replace p902 := eq_true p902
            replace q902 := eq_true q902
            have p903 : 0 ≤ (x13_1 : Int) := DT
            have q903 : x13_1 < (l1.length : Int) := DT
            obtain ⟨ad903, e903, hx903_0, hx903_1⟩ := at_T71 HR1.out x13_1 p903 q903
            cases e903
            replace p903 := eq_true p903
            replace q903 := eq_true q903
            go_wp2
            repeat (go_quiet (fail); try go_wp2)
            go_ret
            exact ⟨by first | rfl | (simp; done) | (simp [*]; done), TD⟩
          · rw [if_neg c8] at H
            have c8b0 : (!(((rd_T71 l0 x13_1).f0) == ((rd_T71 l1 x13_1).f0)) || (!(((rd_T71 l0 x13_1).f1) == ((rd_T71 l1 x13_1).f1)))) = false := by simpa using c8
            clear c8
            have H' := aM H
            clear H
            have p902 : 0 ≤ (x13_1 : Int) := DT
            have q902 : x13_1 < (l0.length : Int) := DT
            obtain ⟨ad902, e902, hx902_0, hx902_1⟩ := at_T71 HR0.out x13_1 p902 q902
            cases e902
            replace p902 := eq_true p902
            replace q902 := eq_true q902
            have p903 : 0 ≤ (x13_1 : Int) := DT
            have q903 : x13_1 < (l1.length : Int) := DT
            obtain ⟨ad903, e903, hx903_0, hx903_1⟩ := at_T71 HR1.out x13_1 p903 q903
            cases e903
            replace p903 := eq_true p903
            replace q903 := eq_true q903
            go_wp2
            repeat (go_quiet (fail); try go_wp2)
            go_roundg k1
            case measure => have := HK1.out; omega
            case rel => exact ⟨(wrap64 (x13_1 + 1)), TF, H', ⟨by have := HK1.out; omega⟩, TD⟩
        · rw [if_neg c4] at H
          have c4b0 : decide (x13_1 < (l0.length : Int)) = false := decide_eq_false c4
          clear c4
          obtain rfl := o_I H
          go_wp2
          repeat (go_quiet (fail); try go_wp2)
          go_ret
          exact ⟨by first | rfl | (simp; done) | (simp [*]; done), TD⟩
  · rw [if_neg c3] at H
    have c3b0 : ((l0.length : Int) == (l1.length : Int)) = false := beq_eq_false_iff_ne.mpr c3
    have c3b1 : ((l0.length : Int) != (l1.length : Int)) = true := bne_iff_ne.mpr c3
    have c3b2 : (l0.length == l1.length) = false := by first | simpa using c3 | (simp at c3 ⊢; omega)
    obtain rfl := o_I H
    go_enter Try.func80, Try.ntmps80
    go_wp2
    repeat (go_quiet (fail); try go_wp2)
    go_ret
    exact ⟨by first | rfl | (simp; done) | (simp [*]; done), TD⟩

def impl_Tells.f (k : Nat) (a0_0 : Int) (a0_1 : Int) (a0_2 : Int) (l0_3 : List (S71)) (l1 : List Int) : Option (Bool) := if (l1.length : Int) = a0_2 then ((impl_SumsOf.f k l1 a0_1).bind fun t905 => ((impl_Sum.f k t905 l0_3).bind fun t908 => (some t908))) else (some false)
theorem impl_Tells.mono : ∀ a0 a1 a2 a3 a4 k, LeO (impl_Tells.f k a0 a1 a2 a3 a4) (impl_Tells.f (k + 1) a0 a1 a2 a3 a4) := by
  intro a0 a1 a2 a3 a4 k;have m0_ := @impl_Sum.mono;have m1_ := @impl_SumsOf.mono;unfold impl_Tells.f;exact LM
def impl_Tells.T1 : Bool × List (List Nat × List Nat) := (true, [([], []), ([0], [0]), ([], []), ([2], [2]), ([1, 3], [1, 3]), ([4], [4]), ([5], [5]), ([5], [5]), ([7, 5], [5, 7]), ([6, 8, 5, 5], [5, 6, 8]), ([5], [5]), ([10, 5], [5, 10]), ([9, 11, 9, 5], [5, 9, 11]), ([5, 12], [5, 12]), ([13, 12, 0, 1, 2, 3, 4, 5, 6, 7, 8, 9, 10, 11, 12, 13], [13])])
def impl_Tells.B1 : List Nat := [0, 1, 0, 4, 15, 31, 63, 63, 191, 511, 63, 1087, 4095, 8191, 16383]
theorem impl_Tells.tab1 : rtab .any (opsOf Try.f55 1) = impl_Tells.T1 := by kernel_rfl
theorem impl_Tells.bits1 : waitsOk impl_Tells.T1.2 impl_Tells.B1 = true := by kernel_rfl
set_option maxHeartbeats 40000000 in
set_option maxRecDepth 100000 in
theorem impl_Tells.calls {k : Nat} {a0_0 : Int} {a0_1 : Int} {a0_2 : Int} {A0_3 : Option Addr} {c0_3 : Nat} {l0_3 : List (S71)} {A1 : Option Addr} {c1 : Nat} {l1 : List Int} {r : Bool} {w : World} (hr0_3 : Kd.C k71 w A0_3 l0_3.length l0_3) (hc0_3 : l0_3.length ≤ c0_3) (hr1 : Kd.C (Kd.int .u8) w A1 l1.length l1) (hc1 : l1.length ≤ c1) (h : impl_Tells.f k a0_0 a0_1 a0_2 l0_3 l1 = some r) :
    Calls Try.prog 55 #[.agg #[.int .i64 a0_0, .int .i64 a0_1, .int .i64 a0_2, .slice A0_3 l0_3.length c0_3], .slice A1 l1.length c1] w fun e w' => e = .returned (.bool r) ∧ Below w.heap.size w w' := by
  have hu28 := Try.underlying28
  have HR0_3 := aM hr0_3
  have HC0_3 := aM hc0_3
  clear hr0_3 hc0_3
  have HR1 := aM hr1
  have HC1 := aM hc1
  clear hr1 hc1
  have HB := aM (Below.refl w.heap.size w)
  have H := h
  clear h
  unfold impl_Tells.f at H
  by_cases c3 : (l1.length : Int) = a0_2
  · rw [if_pos c3] at H
    have c3b0 : ((l1.length : Int) == a0_2) = true := beq_iff_eq.mpr c3
    have c3b1 : ((l1.length : Int) != a0_2) = false := bne_eq_false_iff_eq.mpr c3
    clear c3
    replace H := bE H
    obtain ⟨t905, A4, H⟩ := H
    replace H := bE H
    obtain ⟨t908, A5, H⟩ := H
    obtain rfl := o_I H
    go_enter Try.func55, Try.ntmps55
    try go_wp2_with (first | ((with_reducible refine gate_dst (N := 2) rfl ?_); refine gBx 2 #[.int .i64 a0_0, .int .i64 a0_1, .int .i64 a0_2, .slice A0_3 l0_3.length c0_3] 28 ?_; intro gb904 hg w6 hbox hb; have BK904 := aM (hbox); have GW904 := gW HB hg; have GE904 := gW HB hg; replace HB := bS HB hb; clear hb hbox hg))
    replace BK904 := bD BK904
    replace HB := aM (below_drew1 HB.out)
    refine st_ (n := 15) (ds := []) (Array.replicate 15 false) (hK4 BK904.out) (by kernel_rfl) rfl rfl (fun hHeld => ?_); refine with_tabW impl_Tells.tab1 impl_Tells.bits1 (fun HT_ HW_ => ?_)
    generalize w6.drew = w7 at BK904 HB hHeld ⊢
    refine ppq 0 5 ?_
    refine ppq 1 6 ?_
    refine ppq 2 7 ?_
    refine ptq 3 8 ?_
    refine ppq 4 9 ?_
    refine ppq 5 10 ?_
    refine ppq 6 11 ?_
    refine ppq 7 12 ?_
    refine ppq 10 15 ?_
    refine ptq 8 13 ?_
    refine ptq 11 16 ?_
    refine poq 9 14 (fun K hK => ?_)
    refine gG Try.func33 #[.slice A1 l1.length c1, .int .i64 a0_1] ?_
    with_reducible refine (impl_SumsOf.calls ?side1 ?side2 A4.out).mono ?_
    (case side1 => have X_ := (Kd.C_below HR1.out HB.out); exact TC)
    (case side2 => exact HC1.out)
    rintro e w8 ⟨v906, rfl, ho0, hb⟩
    refine ⟨_, rfl, ?_⟩
    replace HO907 := aM (Kd.R_lower ho0 (below_size TB))
    replace BK904 := mB BK904 hb
    replace HB := bS HB hb
    (try clear hb)
    (try clear hb2)
    (try clear hk)
    (try clear hi)
    (try clear ho0)
    obtain ⟨Ao9, co9, eo9⟩ := Kd.R_slice HO907.out
    (first | subst eo9 | (injection eo9 with f1_ f2_ f3_; have f4_ := f1_.symm; have f5_ := f3_.symm; clear f1_ f2_ f3_; subst f4_; subst f5_))
    refine hK.out _ _ (cz4 BK904.out) (fun hHeld => ?_)
    clear hK K
    refine nR ?_
    refine poq 12 17 (fun K hK => ?_)
    refine gG Try.func80 #[.slice Ao9 t905.length co9, .slice A0_3 l0_3.length c0_3] ?_
    with_reducible refine (impl_Sum.calls ?side1 ?side2 ?side3 ?side4 A5.out).mono ?_
    (case side1 => have X_ := (Kd.R_reads' HO907.out).2.2; exact TC)
    (case side2 => exact (Kd.R_reads' HO907.out).2.1)
    (case side3 => have X_ := (Kd.C_below HR0_3.out HB.out); exact TC)
    (case side4 => exact HC0_3.out)
    rintro e w' ⟨rfl, ⟨nd, rfl⟩⟩
    refine ⟨_, rfl, ?_⟩
    refine hK.out _ _ (cz4 BK904.out) (fun hHeld => ?_)
    clear hK K
    refine nR ?_
    refine ppq 13 18 ?_
    refine ppq 14 4 ?_
    refine done_ (done_of HT_.out (by kernel_rfl)) ?_
    try go_wp2
    go_ret
    exact ⟨TE, TB⟩
  · rw [if_neg c3] at H
    have c3b0 : ((l1.length : Int) == a0_2) = false := beq_eq_false_iff_ne.mpr c3
    have c3b1 : ((l1.length : Int) != a0_2) = true := bne_iff_ne.mpr c3
    obtain rfl := o_I H
    go_enter Try.func55, Try.ntmps55
    try go_wp2_with (first | ((with_reducible refine gate_dst (N := 2) rfl ?_); refine gBx 2 #[.int .i64 a0_0, .int .i64 a0_1, .int .i64 a0_2, .slice A0_3 l0_3.length c0_3] 28 ?_; intro gb904 hg w10 hbox hb; have BK904 := aM (hbox); have GW904 := gW HB hg; have GE904 := gW HB hg; replace HB := bS HB hb; clear hb hbox hg))
    replace BK904 := bD BK904
    replace HB := aM (below_drew1 HB.out)
    refine st_ (n := 15) (ds := []) (Array.replicate 15 false) (hK4 BK904.out) (by kernel_rfl) rfl rfl (fun hHeld => ?_); refine with_tabW impl_Tells.tab1 impl_Tells.bits1 (fun HT_ HW_ => ?_)
    generalize w10.drew = w11 at BK904 HB hHeld ⊢
    refine ppq 0 5 ?_
    refine ppq 1 6 ?_
    refine ppq 2 7 ?_
    refine ptq 3 8 ?_
    refine ppq 4 9 ?_
    refine ppq 5 10 ?_
    refine pxq 6 11 ?_
    refine pxq 7 12 ?_
    refine pxq 8 13 ?_
    refine pxq 9 14 ?_
    refine pxq 10 15 ?_
    refine pxq 11 16 ?_
    refine pxq 12 17 ?_
    refine ppq 13 18 ?_
    refine ppq 14 4 ?_
    refine done_ (done_of HT_.out (by kernel_rfl)) ?_
    try go_wp2
    go_ret
    exact ⟨TE, TB⟩

def impl_Committed.f (k : Nat) (l0_0 : List Int) (l0_1 : List Int) (a0_2 : Int) (a0_3 : Int) (a0_4 : Int) (l0_5 : List (S104)) (a1_0 : Int) (a1_1 : Int) (a1_2 : Int) (l1_3 : List (S71)) (l2 : List Int) : Option (Bool) := (impl_Holds.f k l0_0 l0_1 a0_2 a0_3 a0_4 l0_5 a1_0 l2).bind fun t911 => (if t911 = true then ((impl_Tells.f k a1_0 a1_1 a1_2 l1_3 l2).bind fun t912 => (some t912)) else (some false))
theorem impl_Committed.mono : ∀ a0 a1 a2 a3 a4 a5 a6 a7 a8 a9 a10 k, LeO (impl_Committed.f k a0 a1 a2 a3 a4 a5 a6 a7 a8 a9 a10) (impl_Committed.f (k + 1) a0 a1 a2 a3 a4 a5 a6 a7 a8 a9 a10) := by
  intro a0 a1 a2 a3 a4 a5 a6 a7 a8 a9 a10 k;have m0_ := @impl_Holds.mono;have m1_ := @impl_Tells.mono;unfold impl_Committed.f;exact LM
set_option maxHeartbeats 40000000 in
set_option maxRecDepth 100000 in
theorem impl_Committed.calls {k : Nat} {A0_0 : Option Addr} {c0_0 : Nat} {l0_0 : List Int} {A0_1 : Option Addr} {c0_1 : Nat} {l0_1 : List Int} {a0_2 : Int} {a0_3 : Int} {a0_4 : Int} {A0_5 : Option Addr} {c0_5 : Nat} {l0_5 : List (S104)} {a1_0 : Int} {a1_1 : Int} {a1_2 : Int} {A1_3 : Option Addr} {c1_3 : Nat} {l1_3 : List (S71)} {A2 : Option Addr} {c2 : Nat} {l2 : List Int} {r : Bool} {w : World} (hr0_0 : Kd.C (Kd.int .u8) w A0_0 l0_0.length l0_0) (hc0_0 : l0_0.length ≤ c0_0) (hr0_1 : Kd.C (Kd.int .u8) w A0_1 l0_1.length l0_1) (hc0_1 : l0_1.length ≤ c0_1) (hr0_5 : Kd.C k104 w A0_5 l0_5.length l0_5) (hc0_5 : l0_5.length ≤ c0_5) (hr1_3 : Kd.C k71 w A1_3 l1_3.length l1_3) (hc1_3 : l1_3.length ≤ c1_3) (hr2 : Kd.C (Kd.int .u8) w A2 l2.length l2) (hc2 : l2.length ≤ c2) (h : impl_Committed.f k l0_0 l0_1 a0_2 a0_3 a0_4 l0_5 a1_0 a1_1 a1_2 l1_3 l2 = some r) :
    Calls Try.prog 26 #[.agg #[.slice A0_0 l0_0.length c0_0, .slice A0_1 l0_1.length c0_1, .int .i64 a0_2, .int .i64 a0_3, .int .i64 a0_4, .slice A0_5 l0_5.length c0_5], .agg #[.int .i64 a1_0, .int .i64 a1_1, .int .i64 a1_2, .slice A1_3 l1_3.length c1_3], .slice A2 l2.length c2] w fun e w' => e = .returned (.bool r) ∧ Below w.heap.size w w' := by
  have hu47 := Try.underlying47
  have hu28 := Try.underlying28
  have HR0_0 := aM hr0_0
  have HC0_0 := aM hc0_0
  clear hr0_0 hc0_0
  have HR0_1 := aM hr0_1
  have HC0_1 := aM hc0_1
  clear hr0_1 hc0_1
  have HR0_5 := aM hr0_5
  have HC0_5 := aM hc0_5
  clear hr0_5 hc0_5
  have HR1_3 := aM hr1_3
  have HC1_3 := aM hc1_3
  clear hr1_3 hc1_3
  have HR2 := aM hr2
  have HC2 := aM hc2
  clear hr2 hc2
  have HB := aM (Below.refl w.heap.size w)
  have H := h
  clear h
  unfold impl_Committed.f at H
  replace H := bE H
  obtain ⟨t911, A4, H⟩ := H
  go_enter Try.func26, Try.ntmps26
  go_wp2_with (first | ((with_reducible refine gate_dst (N := 3) rfl ?_); refine gBx 3 #[.slice A0_0 l0_0.length c0_0, .slice A0_1 l0_1.length c0_1, .int .i64 a0_2, .int .i64 a0_3, .int .i64 a0_4, .slice A0_5 l0_5.length c0_5] 47 ?_; intro gb909 hg w6 hbox hb; have BK909 := aM (hbox); have GW909 := gW HB hg; have GE909 := gW HB hg; replace HB := bS HB hb; clear hb hbox hg) | ((with_reducible refine gate_dst (N := 4) rfl ?_); refine gBx 4 #[.int .i64 a1_0, .int .i64 a1_1, .int .i64 a1_2, .slice A1_3 l1_3.length c1_3] 28 ?_; intro gb910 hg w7 hbox hb; have BK910 := aM (hbox); have GW910 := gW HB hg; have GE910 := gW HB hg; obtain ⟨NB909_910, NB910_909⟩ := nB BK909 hg; replace BK909 := mB BK909 hb; replace HB := bS HB hb; clear hb hbox hg; obtain ⟨hnb8, hnc8⟩ := oB NB909_910; obtain ⟨hcz9_0, hcz9_1, hcz9_2, hcz9_3, hcz9_4, hcz9_5⟩ := cz6 BK909.out; obtain ⟨hfz9_0, hfz9_1, hfz9_2, hfz9_3, hfz9_4, hfz9_5⟩ := fz6 BK909.out; obtain ⟨hcz10_0, hcz10_1, hcz10_2, hcz10_3⟩ := cz4 BK910.out; obtain ⟨hfz10_0, hfz10_1, hfz10_2, hfz10_3⟩ := fz4 BK910.out) | ((with_reducible refine gate_callee (f := 54) rfl ?_); (with_reducible refine gate_dst (N := 11) rfl ?_); generalize hG_ : wpList _ _ _ _ _ _ = G_))
  subst hG_
  by_cases c11 : t911 = true
  · subst c11
    replace H := ifT H
    replace H := bE H
    obtain ⟨t912, A12, H⟩ := H
    obtain rfl := o_I H
    go_wp2_with (first | ((with_reducible refine gate_callee (f := 54) rfl ?_); refine gL (some 11) Try.func54 #[.agg #[.slice A0_0 l0_0.length c0_0, .slice A0_1 l0_1.length c0_1, .int .i64 a0_2, .int .i64 a0_3, .int .i64 a0_4, .slice A0_5 l0_5.length c0_5], .int .i64 a1_0, .slice A2 l2.length c2] ?_; (with_reducible refine (impl_Holds.calls ?side1 ?side2 ?side3 ?side4 ?side5 ?side6 ?side7 ?side8 A4.out).mono ?_); (case side1 => exact Zq35_0); (case side2 => exact HC0_0.out); (case side3 => exact Zq35_1); (case side4 => exact HC0_1.out); (case side5 => exact Zq35_2); (case side6 => exact HC0_5.out); (case side7 => exact Zq35_3); (case side8 => exact HC2.out); rintro e w13 ⟨rfl, hb⟩; refine ⟨_, rfl, ?_⟩; replace BK909 := mB BK909 hb; replace BK910 := mB BK910 hb; replace HB := bS HB hb; clear hb; obtain ⟨hnb14, hnc14⟩ := oB NB910_909; obtain ⟨hcz15_0, hcz15_1, hcz15_2, hcz15_3⟩ := cz4 BK910.out; obtain ⟨hfz15_0, hfz15_1, hfz15_2, hfz15_3⟩ := fz4 BK910.out) | (go_at_call 55; (with_reducible refine (impl_Tells.calls ?side1 ?side2 ?side3 ?side4 A12.out).mono ?_); (case side1 => have X_ := (Kd.C_below HR1_3.out HB.out); exact TC); (case side2 => exact HC1_3.out); (case side3 => have X_ := (Kd.C_below HR2.out HB.out); exact TC); (case side4 => exact HC2.out); rintro e w16 ⟨rfl, hb⟩; replace BK909 := mB BK909 hb; replace BK910 := mB BK910 hb; replace HB := bS HB hb; clear hb))
    go_ret
    exact ⟨TE, TB⟩
  · replace c11 := b_F c11
    subst c11
    replace H := ifF H
    obtain rfl := o_I H
    go_wp2_with (first | ((with_reducible refine gate_callee (f := 54) rfl ?_); refine gL (some 11) Try.func54 #[.agg #[.slice A0_0 l0_0.length c0_0, .slice A0_1 l0_1.length c0_1, .int .i64 a0_2, .int .i64 a0_3, .int .i64 a0_4, .slice A0_5 l0_5.length c0_5], .int .i64 a1_0, .slice A2 l2.length c2] ?_; (with_reducible refine (impl_Holds.calls ?side1 ?side2 ?side3 ?side4 ?side5 ?side6 ?side7 ?side8 A4.out).mono ?_); (case side1 => exact Zq35_0); (case side2 => exact HC0_0.out); (case side3 => exact Zq35_1); (case side4 => exact HC0_1.out); (case side5 => exact Zq35_2); (case side6 => exact HC0_5.out); (case side7 => exact Zq35_3); (case side8 => exact HC2.out); rintro e w17 ⟨rfl, hb⟩; refine ⟨_, rfl, ?_⟩; replace BK909 := mB BK909 hb; replace BK910 := mB BK910 hb; replace HB := bS HB hb; clear hb))
    go_ret
    exact ⟨TE, TB⟩

def idxDisk.f : Nat → (Nat → S47 → Option Bool) → List S47 → Int → Option Int
  | 0, _, _, _ => none
  | k + 1, p, x, i => if i < (x.length : Int) then (if 0 ≤ i then ((p k (rd_T47 x i)).bind fun t => (if t = true then (some i) else (idxDisk.f k p x (wrap64 (i + 1))))) else none) else (some (-1))
theorem idxDisk.mono (p : Nat → S47 → Option Bool) (hp : ∀ k x, LeO (p k x) (p (k + 1) x)) : ∀ k, (∀ x i, LeO (idxDisk.f k p x i) (idxDisk.f (k + 1) p x i))
  | 0 => fun _ _ r h => by simp [idxDisk.f] at h
  | k + 1 => by
    have ih0 := idxDisk.mono p hp k
    intro x i
    unfold idxDisk.f
    exact LM
set_option maxHeartbeats 4000000 in
set_option maxRecDepth 100000 in
theorem idxDisk.calls {k : Nat} (p : Nat → S47 → Option Bool) (F : FuncId) (fn : Func) (cap : Array Value) (A : Option Addr) (c : Nat) (l : List S47) (r : Int) (w : World) (hr : Kd.C k47 w A l.length l) (hc : l.length ≤ c) (hf : Try.prog.funcs[F]? = some fn) (hname : (fn.name == "runtime.NumGoroutine") = false) (hb : fn.body.isSome = true)
    (hkeep : ∀ (k : Nat) (x : S47) (t : Bool) (A0 A1 A5 : Option Addr) (c0 c1 c5 : Nat) (w' : World), Below w.heap.size w w' → Kd.C (Kd.int .u8) w' A0 x.f0.length x.f0 → x.f0.length ≤ c0 → Kd.C (Kd.int .u8) w' A1 x.f1.length x.f1 → x.f1.length ≤ c1 → Kd.C k104 w' A5 x.f3.length x.f3 → x.f3.length ≤ c5 → p k x = some t → Calls Try.prog F (#[.agg #[.slice A0 x.f0.length c0, .slice A1 x.f1.length c1, .int .i64 x.f2.f0, .int .i64 x.f2.f1, .int .i64 x.f2.f2, .slice A5 x.f3.length c5]] ++ cap) w' fun e w'' => e = .returned (.bool t) ∧ Below w'.heap.size w' w'')
    (h : idxDisk.f k p l 0 = some r) :
    Calls Try.prog 81 #[.slice A l.length c, .func (.func F) #[] cap] w fun e w' => e = .returned (.int .i64 r) ∧ Below w.heap.size w w' := by
  have hu47 := Try.underlying47
  have HR := aM (And.intro hr hc)
  have HB := aM (Below.refl w.heap.size w)
  have HN := aM hname
  have HF := aM hf
  have HY := aM hb
  have HC := aM hkeep
  have H1 := aM h
  clear hr hc hname hf hb hkeep h
  go_enter Try.func81, Try.ntmps81
  go_wp2
  go_loopg [8] k (fun kq v8 w' => ∃ (i : Int), v8 = .int .i64 i ∧ Aside0 (idxDisk.f kq p l i = some r) ∧ Aside0 (kq ≤ k) ∧ Aside0 (Below w.heap.size w w'))
  case atStart => exact ⟨0, rfl, H1, ⟨Nat.le_refl _⟩, HB⟩
  case round =>
    clear H1 HB
    obtain ⟨i, rfl, HA, HK1, HB⟩ := hrel
    cases gk with
    | zero => exact absurd HA.out (by simp [idxDisk.f])
    | succ k1 =>
      have H := HA.out
      clear HA
      simp only [idxDisk.f] at H
      by_cases c3 : i < (l.length : Int)
      · rw [if_pos c3] at H
        have c3b : decide (i < (l.length : Int)) = true := decide_eq_true c3
        replace H := ifN H
        obtain ⟨c4, H⟩ := H
        replace H := bE H
        obtain ⟨t, A5', H⟩ := H
        obtain ⟨ad, A0, c0, A1, c1, A5, c5, e0, hx0, hx1, hx2, hx3, hx4, hx5, hl0, hi0, hl1, hi1, hl5, hi5⟩ := at_T47 HR.out.1 i c4 c3
        cases e0
        replace hx0 := (HB.out.cell (World.block_lt_of_cell? w _ hx0)).trans hx0
        replace hx1 := (HB.out.cell (World.block_lt_of_cell? w _ hx1)).trans hx1
        replace hx2 := (HB.out.cell (World.block_lt_of_cell? w _ hx2)).trans hx2
        replace hx3 := (HB.out.cell (World.block_lt_of_cell? w _ hx3)).trans hx3
        replace hx4 := (HB.out.cell (World.block_lt_of_cell? w _ hx4)).trans hx4
        replace hx5 := (HB.out.cell (World.block_lt_of_cell? w _ hx5)).trans hx5
        have p0 : (0 ≤ i) = True := eq_true c4
        have q0 : (i < (l.length : Int)) = True := eq_true c3
        have c4b : decide (0 ≤ i) = true := decide_eq_true c4
        clear c3 c4
        cases t with
        | true =>
          rw [if_pos rfl] at H
          obtain rfl := o_I H
          clear H
          go_wp2_with (first | ((with_reducible refine gate_dst (N := 16) rfl ?_); refine gLv (some 16) 11 cap HF.out HN.out HY.out #[.agg #[.slice A0 (rd_T47 l i).f0.length c0, .slice A1 (rd_T47 l i).f1.length c1, .int .i64 (rd_T47 l i).f2.f0, .int .i64 (rd_T47 l i).f2.f1, .int .i64 (rd_T47 l i).f2.f2, .slice A5 (rd_T47 l i).f3.length c5]] ?_; refine (HC.out _ (rd_T47 l i) true _ _ _ _ _ _ _ HB.out (Kd.C_below hi0 HB.out) hl0 (Kd.C_below hi1 HB.out) hl1 (Kd.C_below hi5 HB.out) hl5 A5'.out).mono ?_; rintro e_ w8 ⟨rfl, hb⟩; refine ⟨_, rfl, ?_⟩; replace HB := aM (below_step HB.out hb); clear hb hx0 hx1 hx2 hx3 hx4 hx5; (simp only [Act.put, List.setIfInBounds_toArray, List.set_cons_zero, List.set_cons_succ])))
          go_ret
          exact ⟨rfl, HB.out⟩
        | false =>
          rw [if_neg (by decide)] at H
          have H' := aM H
          clear H
          go_wp2_with (first | ((with_reducible refine gate_dst (N := 16) rfl ?_); refine gLv (some 16) 11 cap HF.out HN.out HY.out #[.agg #[.slice A0 (rd_T47 l i).f0.length c0, .slice A1 (rd_T47 l i).f1.length c1, .int .i64 (rd_T47 l i).f2.f0, .int .i64 (rd_T47 l i).f2.f1, .int .i64 (rd_T47 l i).f2.f2, .slice A5 (rd_T47 l i).f3.length c5]] ?_; refine (HC.out _ (rd_T47 l i) false _ _ _ _ _ _ _ HB.out (Kd.C_below hi0 HB.out) hl0 (Kd.C_below hi1 HB.out) hl1 (Kd.C_below hi5 HB.out) hl5 A5'.out).mono ?_; rintro e_ w8 ⟨rfl, hb⟩; refine ⟨_, rfl, ?_⟩; replace HB := aM (below_step HB.out hb); clear hb hx0 hx1 hx2 hx3 hx4 hx5; (simp only [Act.put, List.setIfInBounds_toArray, List.set_cons_zero, List.set_cons_succ])))
          go_roundg k1
          case measure => have := HK1.out; omega
          case rel => exact ⟨_, rfl, H', ⟨by have := HK1.out; omega⟩, HB⟩
      · rw [if_neg c3] at H
        have c3b : decide (i < (l.length : Int)) = false := decide_eq_false c3
        clear c3
        obtain rfl := o_I H
        clear H
        go_wp2
        go_ret
        exact ⟨rfl, HB.out⟩

def anyDisk.f (k : Nat) (p : Nat → S47 → Option Bool) (x : List S47) : Option Bool := (idxDisk.f k p x 0).bind fun t => some (decide (t ≥ 0))
theorem anyDisk.mono (p : Nat → S47 → Option Bool) (hp : ∀ k x, LeO (p k x) (p (k + 1) x)) : ∀ x k, LeO (anyDisk.f k p x) (anyDisk.f (k + 1) p x) := by
  intro x k;have ih0 := idxDisk.mono p hp k;unfold anyDisk.f;exact LM
set_option maxHeartbeats 4000000 in
set_option maxRecDepth 100000 in
theorem anyDisk.calls {k : Nat} (p : Nat → S47 → Option Bool) (F : FuncId) (fn : Func) (cap : Array Value) (A : Option Addr) (c : Nat) (l : List S47) (r : Bool) (w : World) (hr : Kd.C k47 w A l.length l) (hc : l.length ≤ c) (hf : Try.prog.funcs[F]? = some fn) (hname : (fn.name == "runtime.NumGoroutine") = false) (hb : fn.body.isSome = true)
  (hkeep : ∀ (k : Nat) (x : S47) (t : Bool) (A0 A1 A5 : Option Addr) (c0 c1 c5 : Nat) (w' : World), Below w.heap.size w w' → Kd.C (Kd.int .u8) w' A0 x.f0.length x.f0 → x.f0.length ≤ c0 → Kd.C (Kd.int .u8) w' A1 x.f1.length x.f1 → x.f1.length ≤ c1 → Kd.C k104 w' A5 x.f3.length x.f3 → x.f3.length ≤ c5 → p k x = some t → Calls Try.prog F (#[.agg #[.slice A0 x.f0.length c0, .slice A1 x.f1.length c1, .int .i64 x.f2.f0, .int .i64 x.f2.f1, .int .i64 x.f2.f2, .slice A5 x.f3.length c5]] ++ cap) w' fun e w'' => e = .returned (.bool t) ∧ Below w'.heap.size w' w'')
  (h : anyDisk.f k p l = some r) :
  Calls Try.prog 56 #[.slice A l.length c, .func (.func F) #[] cap] w fun e w' => e = .returned (.bool r) ∧ Below w.heap.size w w' := by
 have H := h;clear h;unfold anyDisk.f at H;replace H := bE H;obtain ⟨t, Aq1, H⟩ := H;obtain rfl := o_I H;clear H;go_enter Try.func56, Try.ntmps56;go_wp2_with (first | ((with_reducible refine gate_callee (f := 81) rfl ?_); refine gL (some 7) Try.func81 #[.slice A l.length c, .func (.func F) #[] cap] ?_; refine (idxDisk.calls p F fn cap A c l t _ hr hc hf hname hb hkeep Aq1.out).mono ?_; rintro e w' ⟨rfl, hb'⟩; refine ⟨_, rfl, ?_⟩; have HB := aM hb'; clear hb'))
 go_ret
 exact ⟨rfl, HB.out⟩

end Go.Proofs.Ytaofakpljnkplaa.Q
