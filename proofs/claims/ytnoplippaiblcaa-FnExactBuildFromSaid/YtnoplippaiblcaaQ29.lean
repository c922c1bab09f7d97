/- Functions of the program as plain Lean functions, and that a call of each comes to what its function tells. Written by a program of this seat. -/
import Derived.Test.YtnoplippaiblcaaQ0
import Derived.Test.YtnoplippaiblcaaQ1
import Derived.Test.YtnoplippaiblcaaQ2
import Derived.Test.YtnoplippaiblcaaQ11
import Derived.Test.YtnoplippaiblcaaQ21
namespace Go.Proofs.Ytnoplippaiblcaa.Q
open Go.RowKit Go.Proofs.YtnoplippaiblcaaW.PrintWords Go.Proofs.YtnoplippaiblcaaW.PrintLast Go.Proofs.YtnoplippaiblcaaW.PrintMore
attribute [local go_sem] max2_int min2_int max_two min_two max_three min_three max_four min_four   -- for this text's walks alone
set_option linter.unusedVariables false
set_option linter.unusedSimpArgs false

attribute [local go_sem high] eqA72
/-! ### impl_FindSum: function 96 -/
def impl_FindSum.l0 : Nat → List Int → Int → Int → Int → Int → Option (Int)
  | 0, _, _, _, _, _ => none
  | k + 1, x0, x2, x7, x437000, x437001 => if (wrap64 (x7 + x2)) ≤ (x0.length : Int) then (if 0 ≤ x7 then (if x7 ≤ (wrap64 (x7 + x2)) then ((impl_SumOf.f k ((x0.take ((wrap64 (x7 + x2)) : Int).toNat).drop (x7 : Int).toNat)).bind fun bt439 => (if (bt439.1 == x437000 && (bt439.2 == x437001)) = true then (some x7) else (impl_FindSum.l0 k x0 x2 (wrap64 (x7 + 1)) x437000 x437001))) else (none)) else (none)) else (some (-1))
def impl_FindSum.f (k : Nat) (l0 : List Int) (a1_0 : Int) (a1_1 : Int) (a2 : Int) : Option (Int) := (impl_within.f a2 1 6).bind fun t437 => (if t437 = true then (impl_FindSum.l0 k l0 a2 0 a1_0 a1_1) else (some (-1)))
theorem impl_FindSum.mono_l : ∀ k, (∀ y0 y1 y2 y3 y4, LeO (impl_FindSum.l0 k y0 y1 y2 y3 y4) (impl_FindSum.l0 (k + 1) y0 y1 y2 y3 y4))
  | 0 => fun _ _ _ _ _ r h => by simp [impl_FindSum.l0] at h
  | k + 1 => by
    have m0_ := @impl_SumOf.mono
    have ih0 := impl_FindSum.mono_l k
    · intro y0 y1 y2 y3 y4
      unfold impl_FindSum.l0
      exact LM
theorem impl_FindSum.mono : ∀ a0 a1 a2 a3 k, LeO (impl_FindSum.f k a0 a1 a2 a3) (impl_FindSum.f (k + 1) a0 a1 a2 a3) := by
  intro a0 a1 a2 a3 k
  have m0_ := @impl_SumOf.mono
  have ih0 := impl_FindSum.mono_l k
  unfold impl_FindSum.f
  exact LM
def impl_FindSum.T6 : Bool × List (List Nat × List Nat) := (true, [([], []), ([], []), ([], []), ([], []), ([2, 3], [2, 3]), ([0, 1, 4], [0, 1, 4]), ([5], [5]), ([], []), ([6, 7], [6, 7])])
def impl_FindSum.B6 : List Nat := [0, 0, 0, 0, 12, 31, 63, 0, 255]
theorem impl_FindSum.tab6 : rtab .any (opsOf Try.f96 6) = impl_FindSum.T6 := by kernel_rfl
theorem impl_FindSum.bits6 : waitsOk impl_FindSum.T6.2 impl_FindSum.B6 = true := by kernel_rfl
set_option maxHeartbeats 40000000 in
set_option maxRecDepth 100000 in
theorem impl_FindSum.calls (k : Nat) (A0 : Option Addr) (c0 : Nat) (l0 : List Int) (a1_0 : Int) (a1_1 : Int) (a2 : Int) (r : Int) (w : World) (hr0 : Kd.C (Kd.int .u8) w A0 l0.length l0) (hc0 : l0.length ≤ c0) (h : impl_FindSum.f k l0 a1_0 a1_1 a2 = some r) :
    Calls Try.prog 96 #[.slice A0 l0.length c0, .agg #[.int .i64 a1_0, .int .i64 a1_1], .int .i64 a2] w fun e w' => e = .returned (.int .i64 r) ∧ Below w.heap.size w w' := by
  have hu72 := Try.underlying72
  have HR0 := aM hr0
  have HC0 := aM hc0
  clear hr0 hc0
  have HB := aM (Below.refl w.heap.size w)
  have H := h
  clear h
  unfold impl_FindSum.f at H
  replace H := bE H
  obtain ⟨t437, A4, H⟩ := H
  go_enter Try.func96, Try.ntmps96
  go_wp2_with (first | ((with_reducible refine gate_dst (N := 4) rfl ?_); refine gBx 4 #[.int .i64 a1_0, .int .i64 a1_1] 72 ?_; intro gb436 hg w6 hbox hb; have BK436 := aM (hbox); have GW436 := aM ((by rw [hg]; exact (below_size TB) : w.heap.size ≤ gb436)); have GE436 := aM ((by rw [hg]; exact (below_size TB) : w.heap.size ≤ gb436)); replace HB := aM (below_step TB hb); clear hb hbox hg) | ((with_reducible refine gate_callee (f := 71) rfl ?_); (with_reducible refine gate_dst (N := 9) rfl ?_); generalize hG_ : wpList _ _ _ _ _ _ = G_))
  subst hG_
  by_cases c7 : t437 = true
  · subst c7
    replace H := ifT H
    have H' := aM H
    clear H
    go_wp2_with (first | ((with_reducible refine gate_callee (f := 71) rfl ?_); refine gL (some 9) Try.func71 #[.int .i64 a2, .int .i64 1, .int .i64 6] ?_; (with_reducible refine (impl_within.calls a2 1 6 true _ A4.out).mono ?_); rintro e w' ⟨rfl, ⟨nd, rfl⟩⟩; refine ⟨_, rfl, ?_⟩))
    go_loopg [7] k (fun kq v7 w' => ∃ (x7_1 : Int), v7 = .int .i64 x7_1 ∧ Aside0 (impl_FindSum.l0 kq l0 a2 x7_1 a1_0 a1_1 = some r) ∧ Aside0 (kq ≤ k) ∧ Aside0 (w'.heap[gb436]? = some (.cells #[.int .i64 a1_0, .int .i64 a1_1] 72 (0, 0))) ∧ Aside0 (Below w.heap.size w w'))
    case atStart => exact ⟨(0), (by first | rfl | (simp; done) | (simp [*]; done)), H', ⟨Nat.le_refl _⟩, ⟨TK⟩, ⟨TB⟩⟩
    case round =>
      clear H'
      try clear p2
      try clear c7
      obtain ⟨x7_1, rfl, HA, HK1, BK436, HB⟩ := hrel
      cases gk with
      | zero => exact absurd HA.out (by simp [impl_FindSum.l0])
      | succ k1 =>
        have H := HA.out
        clear HA
        simp only [impl_FindSum.l0] at H
        by_cases c8 : (wrap64 (x7_1 + a2)) ≤ (l0.length : Int)
        · rw [if_pos c8] at H
          have c8b0 : decide ((wrap64 (x7_1 + a2)) ≤ (l0.length : Int)) = true := decide_eq_true c8
          clear c8
          replace H := ifN H
          obtain ⟨c9, H⟩ := H
          have c9b0 := eq_true c9
          have c9b1 : decide (0 ≤ x7_1) = true := decide_eq_true c9
          clear c9
          replace H := ifN H
          obtain ⟨c10, H⟩ := H
          have c10b0 := eq_true c10
          have c10b1 : decide (x7_1 ≤ (wrap64 (x7_1 + a2))) = true := decide_eq_true c10
          have c11b0 := eq_true (DT : (wrap64 (x7_1 + a2)) ≤ (l0.length : Int))
          replace H := bE H
          obtain ⟨⟨t439, t440⟩, A12, H⟩ := H
          dsimp only at H
          by_cases c13 : (t439 == a1_0 && (t440 == a1_1)) = true
          · rw [if_pos c13] at H
            have c13b0 : (t439 == a1_0 && (t440 == a1_1)) = true := c13
            (try (have c13b1 : decide (t439 = a1_0 && (t440 == a1_1)) = true := by simpa using c13))
            (try (have c13b2 : (t439 == a1_0 && (t440 == a1_1)) = true := by simpa using c13))
            clear c13
            obtain rfl := Option.some.inj H
            try go_wp2
            (try (rw [drewN_self wr]; generalize hq_ : World.drewN wr _ = wr; have n0_ : Aside0 (wr.heap[gb436]? = some (.cells #[.int .i64 a1_0, .int .i64 a1_1] 72 (0, 0))) := ⟨by rw [← hq_]; exact TK⟩; have n1_ : Aside0 (Below w.heap.size w wr) := ⟨by rw [← hq_]; exact TB⟩; clear BK436 HB hq_; have BK436 := n0_; have HB := n1_; clear n0_ n1_))
            replace BK436 := aM (blk_drew BK436.out)
            replace HB := aM (below_drew1 HB.out)
            obtain ⟨i015, hi015, _, hsz15, _⟩ := info_parts info5
            obtain ⟨A15, hcut15, hA15, hC15⟩ := print_mid_of (P := Try.prog) (Value.int .u8) 0 25 5 .i64 .i64 Try.underlying25 hi015 hsz15 A0 c0 l0 x7_1 (wrap64 (x7_1 + a2)) DT (by first | omega | exact DT) DT HC0.out
            have HR438 := aM (Kd.C_of_reads (h1 := fun _ => rfl) (hA15 _ (Kd.reads_of_C HR0.out)))
            have HC438 := aM hC15
            clear hA15 hC15 hi015 hsz15
            refine start_ (n := 9) (S := fun w' => w'.cell? ⟨gb436, 0, none⟩ = some (.int .i64 a1_0) ∧ w'.cell? ⟨gb436, 1, none⟩ = some (.int .i64 a1_1)) (ds := []) (Array.replicate 9 false) (by kernel_rfl) rfl rfl (cz2 BK436.out) (fun hHeld => ?_); refine with_tabW impl_FindSum.tab6 impl_FindSum.bits6 (fun HT_ HW_ => ?_)
            generalize wr.drew = w14 at BK436 HB HR438 hHeld ⊢
            refine pP 0 (some 19) ?_
            refine pP 1 (some 20) ?_
            refine pP 2 (some 21) ?_
            refine pP 3 (some 22) ?_
            refine pP 4 (some 23) ?_
            refine pP 5 (some 24) ?_
            refine pT 7 (some 26) ?_
            refine pO 6 (some 25) (fun K hK => ?_)
            refine goes_ Try.func64 (by kernel_rfl) rfl #[.slice A15 ((l0.take ((wrap64 (x7_1 + a2)) : Int).toNat).drop (x7_1 : Int).toNat).length (c0 - x7_1.toNat)] (by rfl) rfl rfl (by (try simp only [List.map_toArray, List.map_cons, List.map_nil]); first | done | (rw [show ((l0.take ((wrap64 (x7_1 + a2)) : Int).toNat).drop (x7_1 : Int).toNat).length = ((wrap64 (x7_1 + a2)).toNat - x7_1.toNat) from (by rw [List.length_drop, List.length_take]; have h_ : ((wrap64 (x7_1 + a2)) : Int) ≤ (l0.length : Int) := DT; omega)] <;> rfl) | rfl | (simp only [List.length_drop, List.length_take]; rfl)) ?_
            with_reducible refine (impl_SumOf.calls k1 _ _ ((l0.take ((wrap64 (x7_1 + a2)) : Int).toNat).drop (x7_1 : Int).toNat) t439 t440 _ ?side1 ?side2 A12.out).mono ?_
            (case side1 => have X_ := (Kd.C_below HR438.out HB.out); exact TC)
            (case side2 => exact HC438.out)
            rintro e w16 ⟨rfl, hb⟩
            refine ⟨_, rfl, ?_⟩
            have n0_ := aM (blk_below (g := gb436) (o := .cells #[.int .i64 a1_0, .int .i64 a1_1] 72 (0, 0)) TK hb)
            have n1_ := aM (below_step TB hb)
            clear BK436
            clear HB
            have BK436 := n0_
            have HB := n1_
            clear n0_ n1_
            (try clear hb)
            (try clear hb2)
            (try clear hk)
            (try clear hi)
            refine hK.out _ _ (cz2 BK436.out) (fun hHeld => ?_)
            clear hK K
            refine nR ?_
            refine pP 8 (some 27) ?_
            refine done_ (done_of HT_.out (by kernel_rfl)) ?_
            try go_wp2
            go_ret
            exact ⟨by first | rfl | (simp [errW_none, errW_some] <;> rfl) | (simp [*, errW_none, errW_some] <;> rfl), TB⟩
          · rw [if_neg c13] at H
            have c13b0 : (t439 == a1_0 && (t440 == a1_1)) = false := by simpa using c13
            (try (have c13b1 : decide (t439 = a1_0 && (t440 == a1_1)) = false := by simpa using c13))
            (try (have c13b2 : (t439 == a1_0 && (t440 == a1_1)) = false := by simpa using c13))
            (try (have c13b3 : ¬ (t439 = a1_0 && (t440 == a1_1)) := by simpa using c13))
            clear c13
            have H' := aM H
            clear H
            try go_wp2
            (try (rw [drewN_self wr]; generalize hq_ : World.drewN wr _ = wr; have n0_ : Aside0 (wr.heap[gb436]? = some (.cells #[.int .i64 a1_0, .int .i64 a1_1] 72 (0, 0))) := ⟨by rw [← hq_]; exact TK⟩; have n1_ : Aside0 (Below w.heap.size w wr) := ⟨by rw [← hq_]; exact TB⟩; clear BK436 HB hq_; have BK436 := n0_; have HB := n1_; clear n0_ n1_))
            replace BK436 := aM (blk_drew BK436.out)
            replace HB := aM (below_drew1 HB.out)
            obtain ⟨i018, hi018, _, hsz18, _⟩ := info_parts info5
            obtain ⟨A18, hcut18, hA18, hC18⟩ := print_mid_of (P := Try.prog) (Value.int .u8) 0 25 5 .i64 .i64 Try.underlying25 hi018 hsz18 A0 c0 l0 x7_1 (wrap64 (x7_1 + a2)) DT (by first | omega | exact DT) DT HC0.out
            have HR438 := aM (Kd.C_of_reads (h1 := fun _ => rfl) (hA18 _ (Kd.reads_of_C HR0.out)))
            have HC438 := aM hC18
            clear hA18 hC18 hi018 hsz18
            refine start_ (n := 9) (S := fun w' => w'.cell? ⟨gb436, 0, none⟩ = some (.int .i64 a1_0) ∧ w'.cell? ⟨gb436, 1, none⟩ = some (.int .i64 a1_1)) (ds := []) (Array.replicate 9 false) (by kernel_rfl) rfl rfl (cz2 BK436.out) (fun hHeld => ?_); refine with_tabW impl_FindSum.tab6 impl_FindSum.bits6 (fun HT_ HW_ => ?_)
            generalize wr.drew = w17 at BK436 HB HR438 hHeld ⊢
            refine pP 0 (some 19) ?_
            refine pP 1 (some 20) ?_
            refine pP 2 (some 21) ?_
            refine pP 3 (some 22) ?_
            refine pP 4 (some 23) ?_
            refine pP 5 (some 24) ?_
            refine pT 7 (some 26) ?_
            refine pO 6 (some 25) (fun K hK => ?_)
            refine goes_ Try.func64 (by kernel_rfl) rfl #[.slice A18 ((l0.take ((wrap64 (x7_1 + a2)) : Int).toNat).drop (x7_1 : Int).toNat).length (c0 - x7_1.toNat)] (by rfl) rfl rfl (by (try simp only [List.map_toArray, List.map_cons, List.map_nil]); first | done | (rw [show ((l0.take ((wrap64 (x7_1 + a2)) : Int).toNat).drop (x7_1 : Int).toNat).length = ((wrap64 (x7_1 + a2)).toNat - x7_1.toNat) from (by rw [List.length_drop, List.length_take]; have h_ : ((wrap64 (x7_1 + a2)) : Int) ≤ (l0.length : Int) := DT; omega)] <;> rfl) | rfl | (simp only [List.length_drop, List.length_take]; rfl)) ?_
            with_reducible refine (impl_SumOf.calls k1 _ _ ((l0.take ((wrap64 (x7_1 + a2)) : Int).toNat).drop (x7_1 : Int).toNat) t439 t440 _ ?side1 ?side2 A12.out).mono ?_
            (case side1 => have X_ := (Kd.C_below HR438.out HB.out); exact TC)
            (case side2 => exact HC438.out)
            rintro e w19 ⟨rfl, hb⟩
            refine ⟨_, rfl, ?_⟩
            have n0_ := aM (blk_below (g := gb436) (o := .cells #[.int .i64 a1_0, .int .i64 a1_1] 72 (0, 0)) TK hb)
            have n1_ := aM (below_step TB hb)
            clear BK436
            clear HB
            have BK436 := n0_
            have HB := n1_
            clear n0_ n1_
            (try clear hb)
            (try clear hb2)
            (try clear hk)
            (try clear hi)
            refine hK.out _ _ (cz2 BK436.out) (fun hHeld => ?_)
            clear hK K
            refine nR ?_
            refine pP 8 (some 27) ?_
            refine done_ (done_of HT_.out (by kernel_rfl)) ?_
            try go_wp2
            go_roundg k1
            case measure => have := HK1.out; omega
            case rel => exact ⟨(wrap64 (x7_1 + 1)), (by first | rfl | (simp; done) | (simp [*]; done)), H', ⟨by have := HK1.out; omega⟩, ⟨TK⟩, ⟨TB⟩⟩
        · rw [if_neg c8] at H
          have c8b0 : decide ((wrap64 (x7_1 + a2)) ≤ (l0.length : Int)) = false := decide_eq_false c8
          clear c8
          obtain rfl := Option.some.inj H
          go_wp2
          go_ret
          exact ⟨by first | rfl | (simp [errW_none, errW_some] <;> rfl) | (simp [*, errW_none, errW_some] <;> rfl), TB⟩
  · replace c7 := Bool.eq_false_iff.mpr c7
    subst c7
    replace H := ifF H
    obtain rfl := Option.some.inj H
    go_wp2_with (first | ((with_reducible refine gate_callee (f := 71) rfl ?_); refine gL (some 9) Try.func71 #[.int .i64 a2, .int .i64 1, .int .i64 6] ?_; (with_reducible refine (impl_within.calls a2 1 6 false _ A4.out).mono ?_); rintro e w' ⟨rfl, ⟨nd, rfl⟩⟩; refine ⟨_, rfl, ?_⟩))
    go_ret
    exact ⟨by first | rfl | (simp [errW_none, errW_some] <;> rfl) | (simp [*, errW_none, errW_some] <;> rfl), TB⟩

/-! ### impl_PlaceOf: function 74 -/
def impl_PlaceOf.f (k : Nat) (l0 : List Int) (a1_0 : Int) (a1_1 : Int) (a1_2 : Int) (l1_3 : List (S72)) (a2 : Int) : Option (Int) := (impl_SpanOf.f a1_1 a1_2 a2).bind fun bt442 => ((impl_within.f a2 0 (wrap64 ((l1_3.length : Int) - 1))).bind fun t444 => (if t444 = true then (if 0 ≤ a2 then (if a2 < (l1_3.length : Int) then ((impl_FindSum.f k l0 ((rd_T72 l1_3 a2).f0) ((rd_T72 l1_3 a2).f1) bt442.2).bind fun t446 => (some t446)) else (none)) else (none)) else (some (-1))))
theorem impl_PlaceOf.mono : ∀ a0 a1 a2 a3 a4 a5 k, LeO (impl_PlaceOf.f k a0 a1 a2 a3 a4 a5) (impl_PlaceOf.f (k + 1) a0 a1 a2 a3 a4 a5) := by
  intro a0 a1 a2 a3 a4 a5 k
  have m0_ := @impl_FindSum.mono
  unfold impl_PlaceOf.f
  exact LM
set_option maxHeartbeats 40000000 in
set_option maxRecDepth 100000 in
theorem impl_PlaceOf.calls (k : Nat) (A0 : Option Addr) (c0 : Nat) (l0 : List Int) (af : Int) (ac : Int) (ab : Int) (ae : Option Addr) (ad : Nat) (aa : List (S72)) (a2 : Int) (r : Int) (w : World) (hr0 : Kd.C (Kd.int .u8) w A0 l0.length l0) (hc0 : l0.length ≤ c0) (ah : Kd.C k72 w ae aa.length aa) (aj : aa.length ≤ ad) (h : impl_PlaceOf.f k l0 af ac ab aa a2 = some r) :
  Calls Try.prog 74 #[.slice A0 l0.length c0, .agg #[.int .i64 af, .int .i64 ac, .int .i64 ab, .slice ae aa.length ad], .int .i64 a2] w fun e w' => e = .returned (.int .i64 r) ∧ Below w.heap.size w w' := by
 have hu33 := Try.underlying33
 have hu72 := Try.underlying72
 have HR0 := aM hr0
 have HC0 := aM hc0
 clear hr0 hc0
 have HR1_3 := aM ah
 have HC1_3 := aM aj
 clear ah aj
 have HB := aM (Below.refl w.heap.size w)
 have H := h
 clear h
 unfold impl_PlaceOf.f at H
 replace H := bE H
 obtain ⟨⟨t442, ag⟩, A4, H⟩ := H
 dsimp only at H
 replace H := bE H
 obtain ⟨t444, A5, H⟩ := H
 go_enter Try.func74, Try.ntmps74
 go_wp2_with (first | ((with_reducible refine gate_dst (N := 4) rfl ?_); refine gBx 4 #[.int .i64 af, .int .i64 ac, .int .i64 ab, .slice ae aa.length ad] 33 ?_; intro ai hg w7 hbox hb; have BK441 := aM (hbox); have GW441 := aM ((by rw [hg]; exact (below_size TB) : w.heap.size ≤ ai)); have GE441 := aM ((by rw [hg]; exact (below_size TB) : w.heap.size ≤ ai)); replace HB := aM (below_step TB hb); clear hb hbox hg; obtain ⟨hcz8_0, hcz8_1, hcz8_2, hcz8_3⟩ := cz4 BK441.out; obtain ⟨hfz8_0, hfz8_1, hfz8_2, hfz8_3⟩ := fz4 BK441.out) | ((with_reducible refine gate_callee (f := 56) rfl ?_); refine gL (some 15) Try.func56 #[.int .i64 ac, .int .i64 ab, .int .i64 a2] ?_; (with_reducible refine (impl_SpanOf.calls ac ab a2 t442 ag _ A4.out).mono ?_); rintro e w9 ⟨rfl, hb⟩; refine ⟨_, rfl, ?_⟩; replace BK441 := aM (blk_below (by have X_ := BK441.out; exact TX) hb); replace HB := aM (below_step TB hb); clear hb; obtain ⟨hcz10_0, hcz10_1, hcz10_2, hcz10_3⟩ := cz4 BK441.out; obtain ⟨hfz10_0, hfz10_1, hfz10_2, hfz10_3⟩ := fz4 BK441.out) | ((with_reducible refine gate_callee (f := 71) rfl ?_); (with_reducible refine gate_dst (N := 23) rfl ?_); generalize hG_ : wpList _ _ _ _ _ _ = G_))
 subst hG_
 by_cases c11 : t444 = true
 ·subst c11
  replace H := ifT H
  replace H := ifN H
  obtain ⟨c12, H⟩ := H
  have c12b0 : decide (0 ≤ a2) = true := decide_eq_true c12
  clear c12
  replace H := ifN H
  obtain ⟨c13, H⟩ := H
  have c13b0 : decide (a2 < (aa.length : Int)) = true := decide_eq_true c13
  clear c13
  replace H := bE H
  obtain ⟨t446, A14, H⟩ := H
  obtain rfl := Option.some.inj H
  go_wp2_with (first | ((with_reducible refine gate_callee (f := 71) rfl ?_); refine gL (some 23) Try.func71 #[.int .i64 a2, .int .i64 0, .int .i64 (wrap64 ((aa.length : Int) - 1))] ?_; (with_reducible refine (impl_within.calls a2 0 (wrap64 ((aa.length : Int) - 1)) true _ A5.out).mono ?_); rintro e w' ⟨rfl, ⟨nd, rfl⟩⟩; refine ⟨_, rfl, ?_⟩; obtain ⟨hcz15_0, hcz15_1, hcz15_2, hcz15_3⟩ := cz4 BK441.out; obtain ⟨hfz15_0, hfz15_1, hfz15_2, hfz15_3⟩ := fz4 BK441.out; have p445 : 0 ≤ (a2 : Int) := DT; have q445 : a2 < (aa.length : Int) := DT; obtain ⟨ad445, e445, hx445_0, hx445_1⟩ := at_T72 HR1_3.out a2 p445 q445; cases e445; replace hx445_0 := (HB.out.cell (World.block_lt_of_cell? w _ hx445_0)).trans hx445_0; replace hx445_1 := (HB.out.cell (World.block_lt_of_cell? w _ hx445_1)).trans hx445_1; replace p445 := eq_true p445; replace q445 := eq_true q445) | ((with_reducible refine gate_callee (f := 96) rfl ?_); refine gL (some 32) Try.func96 #[.slice A0 l0.length c0, .agg #[.int .i64 ((rd_T72 aa a2).f0), .int .i64 ((rd_T72 aa a2).f1)], .int .i64 ag] ?_; (with_reducible refine (impl_FindSum.calls k _ _ l0 ((rd_T72 aa a2).f0) ((rd_T72 aa a2).f1) ag t446 _ ?side1 ?side2 A14.out).mono ?_); (case side1 => repeat (first | exact (Kd.C_below HR0.out TB) | (with_reducible refine Kd.C_alloc ?_ _) | (with_reducible refine Kd.C_drewN ?_ _) | (with_reducible refine Kd.C_drew ?_))); (case side2 => exact HC0.out); rintro e w16 ⟨rfl, hb⟩; refine ⟨_, rfl, ?_⟩; replace BK441 := aM (blk_below (by have X_ := BK441.out; exact TX) hb); replace HB := aM (below_step TB hb); clear hb))
  go_ret
  exact ⟨by first | rfl | (simp [errW_none, errW_some] <;> rfl) | (simp [*, errW_none, errW_some] <;> rfl), TB⟩
 ·replace c11 := Bool.eq_false_iff.mpr c11
  subst c11
  replace H := ifF H
  obtain rfl := Option.some.inj H
  go_wp2_with (first | ((with_reducible refine gate_callee (f := 71) rfl ?_); refine gL (some 23) Try.func71 #[.int .i64 a2, .int .i64 0, .int .i64 (wrap64 ((aa.length : Int) - 1))] ?_; (with_reducible refine (impl_within.calls a2 0 (wrap64 ((aa.length : Int) - 1)) false _ A5.out).mono ?_); rintro e w' ⟨rfl, ⟨nd, rfl⟩⟩; refine ⟨_, rfl, ?_⟩))
  go_ret
  exact ⟨by first | rfl | (simp [errW_none, errW_some] <;> rfl) | (simp [*, errW_none, errW_some] <;> rfl), TB⟩

end Go.Proofs.Ytnoplippaiblcaa.Q
