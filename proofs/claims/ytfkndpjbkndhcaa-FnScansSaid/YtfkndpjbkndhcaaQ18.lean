/- Functions of the program as plain Lean functions, and that a call of each comes to what its function tells. Written by a program of this seat. -/
import Derived.Test.YtfkndpjbkndhcaaQ0
import Derived.Test.YtfkndpjbkndhcaaQ1
import Derived.Test.YtfkndpjbkndhcaaQ2
import Derived.Test.YtfkndpjbkndhcaaQ3
import Derived.Test.YtfkndpjbkndhcaaQ5
import Derived.Test.YtfkndpjbkndhcaaQ17
namespace Go.Proofs.Ytfkndpjbkndhcaa.Q
open Go.RowKit Go.Proofs.YtfkndpjbkndhcaaW.PrintWords Go.Proofs.YtfkndpjbkndhcaaW.PrintLast Go.Proofs.YtfkndpjbkndhcaaW.PrintMore
attribute [local go_sem] max2_int min2_int max_two min_two max_three min_three max_four min_four   -- for this text's walks alone
set_option linter.unusedVariables false
set_option linter.unusedSimpArgs false

attribute [local go_sem high] eqA48
/-! ### spec_DrawOld: function 18 -/
def spec_DrawOld.f (k : Nat) (l0 : List Int) : Option (List Int × List Int × Int) := (spec_l1New.f k l0).bind fun bt432 => ((spec_l6Image.f k bt432.1 bt432.2.1 bt432.2.2).bind fun bt436 => ((spec_l7Old.f k bt432.1 bt436.2.1 bt436.2.2 bt436.1).bind fun bt441 => ((spec_l1Below.f bt432.1 bt441.2.1 bt441.2.2 5).bind fun bt446 => (some (bt441.1, bt436.1, wrap64 (2 + bt446.1))))))
theorem spec_DrawOld.mono : ∀ a0 k, LeO (spec_DrawOld.f k a0) (spec_DrawOld.f (k + 1) a0) := by
  intro a0 k
  have m0_ := @spec_l1New.mono
  have m1_ := @spec_l6Image.mono
  have m2_ := @spec_l7Old.mono
  unfold spec_DrawOld.f
  exact LM
set_option maxHeartbeats 40000000 in
set_option maxRecDepth 100000 in
theorem spec_DrawOld.calls (k : Nat) (A0 : Option Addr) (c0 : Nat) (l0 : List Int) (r1 : List Int) (r2 : List Int) (r3 : Int) (w : World) (hr0 : Kd.C (Kd.int .u8) w A0 l0.length l0) (hc0 : l0.length ≤ c0) (h : spec_DrawOld.f k l0 = some (r1, r2, r3)) :
    Calls Try.prog 18 #[.slice A0 l0.length c0] w fun e w' => ∃ v0_ v1_ : Value, e = .returned (.tuple #[v0_, v1_, .int .i64 r3]) ∧ Kd.R (Kd.int .u8) 5 w' w.heap.size (fun k_ => some k_ ≠ (v1_ : Value).ownBlock) v0_ r1 ∧ Kd.R (Kd.int .u8) 5 w' w.heap.size (fun k_ => some k_ ≠ (v0_ : Value).ownBlock) v1_ r2 ∧ Below w.heap.size w w' := by
  have HR0 := aM hr0
  have HC0 := aM hc0
  clear hr0 hc0
  have HB := aM (Below.refl w.heap.size w)
  have H := h
  clear h
  unfold spec_DrawOld.f at H
  replace H := bE H
  obtain ⟨⟨t432, t433, t434⟩, A2, H⟩ := H
  dsimp only at H
  replace H := bE H
  obtain ⟨⟨t436, t439, t440⟩, A3, H⟩ := H
  dsimp only at H
  replace H := bE H
  obtain ⟨⟨t441, t444, t445⟩, A4, H⟩ := H
  dsimp only at H
  replace H := bE H
  obtain ⟨⟨t446, t447, t448⟩, A5, H⟩ := H
  dsimp only at H
  simp only [Option.some.injEq, Prod.mk.injEq] at H
  obtain ⟨rfl, rfl, rfl⟩ := H
  go_enter Try.func18, Try.ntmps18
  go_wp2_with (first | ((with_reducible refine gate_callee (f := 58) rfl ?_); refine gL (some 9) Try.func58 #[.slice A0 l0.length c0] ?_; (with_reducible refine (spec_l1New.calls k _ _ l0 t432 t433 t434 w _ ?side1 ?side2 ?side3 A2.out).mono ?_); (case side1 => repeat (first | (with_reducible first | exact HB.out | apply below_alloc | apply pw_below_drewN | apply below_drew1) | exact HB.out)); (case side2 => exact HR0.out); (case side3 => exact HC0.out); rintro e w6 ⟨g435, rfl, hi, hb, hb2⟩; refine ⟨_, rfl, ?_⟩; have HI435 := aM (hi); replace HB := aM (hb); clear hi hb hb2) | ((with_reducible refine gate_callee (f := 59) rfl ?_); refine gL (some 11) Try.func59 #[.pointer (some ⟨g435, 0, none⟩)] ?_; (with_reducible refine (spec_l6Image.calls k g435 t432 t433 t434 t436 t439 t440 w _ ?side1 ?side2 A3.out).mono ?_); (case side1 => repeat (first | (with_reducible first | exact HI435.out | apply IsS108.alloc | apply IsS108.drewN | apply IsS108.drew | apply IsS108.set_1 | apply IsS108.set_2) | exact HI435.out)); (case side2 => repeat (first | (with_reducible first | exact HB.out | apply below_alloc | apply pw_below_drewN | apply below_drew1 | refine below_set ?_ (IsS108.ge HI435.out)) | exact HB.out)); rintro e w7 ⟨v437, rfl, ho0, hi, hb, hk⟩; refine ⟨_, rfl, ?_⟩; have HO438 := aM (Kd.R_lower ho0 (below_size (by repeat (first | (with_reducible first | exact HB.out | apply below_alloc | apply pw_below_drewN | apply below_drew1 | refine below_set ?_ (IsS108.ge HI435.out)) | exact HB.out)))); replace HB := aM (hb); replace HI435 := aM (hi); (try clear hb); (try clear hb2); (try clear hk); (try clear hi); (try clear ho0); obtain ⟨Ao8, co8, eo8⟩ := Kd.R_slice HO438.out; subst eo8) | ((with_reducible refine gate_callee (f := 70) rfl ?_); refine gL (some 14) Try.func70 #[.pointer (some ⟨g435, 0, none⟩), .slice Ao8 t436.length co8] ?_; (with_reducible refine (spec_l7Old.calls k g435 t432 t439 t440 _ _ t436 t441 t444 t445 w _ ?side1 ?side2 ?side3 ?side4 ?side5 A4.out).mono ?_); (case side1 => repeat (first | (with_reducible first | exact HI435.out | apply IsS108.alloc | apply IsS108.drewN | apply IsS108.drew | apply IsS108.set_1 | apply IsS108.set_2) | exact HI435.out)); (case side2 => repeat (first | (with_reducible first | exact HB.out | apply below_alloc | apply pw_below_drewN | apply below_drew1 | refine below_set ?_ (IsS108.ge HI435.out)) | exact HB.out)); (case side3 => have X_ := (Kd.R_reads' HO438.out).2.2; exact TC); (case side4 => exact (Kd.R_reads' HO438.out).2.1); (case side5 => exact far_slice (IsS108.own_ne HI435.out HO438.out (by decide))); rintro e w9 ⟨v442, rfl, ho0, hi, hb, hk⟩; refine ⟨_, rfl, ?_⟩; have HO443 := aM (Kd.R_lower (Kd.R_new' ho0 (Kd.R_lt (by have X_ := HO438.out; exact TR))) (below_size (by repeat (first | (with_reducible first | exact HB.out | apply below_alloc | apply pw_below_drewN | apply below_drew1 | refine below_set ?_ (IsS108.ge HI435.out)) | exact HB.out)))); replace HO438 := aM (Kd.R_mono (Kd.R_told (Kd.R_oldK (IsS108.apart (show IsS108 w _ g435 t432 t439 t440 from by repeat (first | (with_reducible first | exact HI435.out | apply IsS108.alloc | apply IsS108.drewN | apply IsS108.drew | apply IsS108.set_1 | apply IsS108.set_2) | exact HI435.out)) (by have X_ := HO438.out; exact TR) (by decide)) hk) (Kd.R_base ho0)) (fun _ h_ => h_.1)); replace HB := aM (hb); replace HI435 := aM (hi); (try clear hb); (try clear hb2); (try clear hk); (try clear hi); (try clear ho0)) | ((with_reducible refine gate_callee (f := 60) rfl ?_); refine gL (some 18) Try.func60 #[.pointer (some ⟨g435, 0, none⟩), .int .i64 5] ?_; (with_reducible refine (spec_l1Below.calls g435 t432 t444 t445 5 t446 t447 t448 w _ ?side1 ?side2 A5.out).mono ?_); (case side1 => repeat (first | (with_reducible first | exact HI435.out | apply IsS108.alloc | apply IsS108.drewN | apply IsS108.drew | apply IsS108.set_1 | apply IsS108.set_2) | exact HI435.out)); (case side2 => repeat (first | (with_reducible first | exact HB.out | apply below_alloc | apply pw_below_drewN | apply below_drew1 | refine below_set ?_ (IsS108.ge HI435.out)) | exact HB.out)); rintro e w10 ⟨rfl, hi, hb, hk⟩; refine ⟨_, rfl, ?_⟩; replace HO438 := aM (Kd.R_mono (Kd.R_keep (IsS108.apart (show IsS108 w _ g435 t432 t444 t445 from by repeat (first | (with_reducible first | exact HI435.out | apply IsS108.alloc | apply IsS108.drewN | apply IsS108.drew | apply IsS108.set_1 | apply IsS108.set_2) | exact HI435.out)) (by have X_ := HO438.out; exact TR) (by decide)) hk (fun _ h => h.2)) (fun _ h => h.1)); replace HO443 := aM (Kd.R_mono (Kd.R_keep (IsS108.apart (show IsS108 w _ g435 t432 t444 t445 from by repeat (first | (with_reducible first | exact HI435.out | apply IsS108.alloc | apply IsS108.drewN | apply IsS108.drew | apply IsS108.set_1 | apply IsS108.set_2) | exact HI435.out)) (by have X_ := HO443.out; exact TR) (by decide)) hk (fun _ h => h.2)) (fun _ h => h.1)); replace HB := aM (hb); replace HI435 := aM (hi); (try clear hb); (try clear hb2); (try clear hk); (try clear hi)))
  go_ret3
  exact ⟨_, _, by first | rfl | (simp [errW_none, errW_some] <;> rfl) | (simp [*, errW_none, errW_some] <;> rfl), by (with_reducible repeat (first | apply Kd.R_alloc | apply Kd.R_drewN | apply Kd.R_drew)); exact Kd.R_mono HO443.out (fun _ hk => hk.2), by (with_reducible repeat (first | apply Kd.R_alloc | apply Kd.R_drewN | apply Kd.R_drew)); exact Kd.R_mono HO438.out (fun _ hk => hk.2), by repeat (first | (with_reducible first | exact HB.out | apply below_alloc | apply pw_below_drewN | apply below_drew1 | refine below_set ?_ (IsS108.ge HI435.out)) | exact HB.out)⟩

/-! ### impl_FindSum: function 27 -/
def impl_FindSum.l0 : Nat → List Int → Int → Int → Int → Int → Option (Int)
  | 0, _, _, _, _, _ => none
  | k + 1, x0, x2, x7, x450000, x450001 => if (wrap64 (x7 + x2)) ≤ (x0.length : Int) then (if 0 ≤ x7 then (if x7 ≤ (wrap64 (x7 + x2)) then ((impl_SumOf.f k ((x0.take ((wrap64 (x7 + x2)) : Int).toNat).drop (x7 : Int).toNat)).bind fun bt452 => (if (bt452.1 == x450000 && (bt452.2 == x450001)) = true then (some x7) else (impl_FindSum.l0 k x0 x2 (wrap64 (x7 + 1)) x450000 x450001))) else (none)) else (none)) else (some (-1))
def impl_FindSum.f (k : Nat) (l0 : List Int) (a1_0 : Int) (a1_1 : Int) (a2 : Int) : Option (Int) := (impl_within.f a2 1 6).bind fun t450 => (if t450 = true then (impl_FindSum.l0 k l0 a2 0 a1_0 a1_1) else (some (-1)))
theorem impl_FindSum.mono_l : ∀ k, (∀ y0 y1 y2 y3 y4, LeO (impl_FindSum.l0 k y0 y1 y2 y3 y4) (impl_FindSum.l0 (k + 1) y0 y1 y2 y3 y4))
  | 0 => fun _ _ _ _ _ r h => by simp [impl_FindSum.l0] at h
  | k + 1 => by
    have m0_ := @impl_SumOf.mono
    have ih0 := impl_FindSum.mono_l k
    · intro y0 y1 y2 y3 y4
      unfold impl_FindSum.l0
      exact LM
theorem impl_FindSum.mono : ∀ a0 a1 a2 a3 k, LeO (impl_FindSum.f k a0 a1 a2 a3) (impl_FindSum.f (k + 1) a0 a1 a2 a3) := by
  intro a0 a1 a2 a3 k
  have m0_ := @impl_SumOf.mono
  have ih0 := impl_FindSum.mono_l k
  unfold impl_FindSum.f
  exact LM
def impl_FindSum.T6 : Bool × List (List Nat × List Nat) := (true, [([], []), ([], []), ([], []), ([], []), ([2, 3], [2, 3]), ([0, 1, 4], [0, 1, 4]), ([5], [5]), ([], []), ([6, 7], [6, 7])])
def impl_FindSum.B6 : List Nat := [0, 0, 0, 0, 12, 31, 63, 0, 255]
theorem impl_FindSum.tab6 : rtab .any (opsOf Try.f27 6) = impl_FindSum.T6 := by kernel_rfl
theorem impl_FindSum.bits6 : waitsOk impl_FindSum.T6.2 impl_FindSum.B6 = true := by kernel_rfl
set_option maxHeartbeats 40000000 in
set_option maxRecDepth 100000 in
theorem impl_FindSum.calls (k : Nat) (A0 : Option Addr) (c0 : Nat) (l0 : List Int) (a1_0 : Int) (a1_1 : Int) (a2 : Int) (r : Int) (w : World) (hr0 : Kd.C (Kd.int .u8) w A0 l0.length l0) (hc0 : l0.length ≤ c0) (h : impl_FindSum.f k l0 a1_0 a1_1 a2 = some r) :
    Calls Try.prog 27 #[.slice A0 l0.length c0, .agg #[.int .i64 a1_0, .int .i64 a1_1], .int .i64 a2] w fun e w' => e = .returned (.int .i64 r) ∧ Below w.heap.size w w' := by
  have hu48 := Try.underlying48
  have HR0 := aM hr0
  have HC0 := aM hc0
  clear hr0 hc0
  have HB := aM (Below.refl w.heap.size w)
  have H := h
  clear h
  unfold impl_FindSum.f at H
  replace H := bE H
  obtain ⟨t450, A4, H⟩ := H
  go_enter Try.func27, Try.ntmps27
  go_wp2_with (first | ((with_reducible refine gate_dst (N := 4) rfl ?_); refine gBx 4 #[.int .i64 a1_0, .int .i64 a1_1] 48 ?_; intro gb449 hg w6 hbox hb; have BK449 := aM (hbox); have GW449 := aM ((by rw [hg]; exact (below_size TB) : w.heap.size ≤ gb449)); have GE449 := aM ((by rw [hg]; exact (below_size TB) : w.heap.size ≤ gb449)); replace HB := aM (below_step TB hb); clear hb hbox hg) | ((with_reducible refine gate_callee (f := 61) rfl ?_); (with_reducible refine gate_dst (N := 9) rfl ?_); generalize hG_ : wpList _ _ _ _ _ _ = G_))
  subst hG_
  by_cases c7 : t450 = true
  · subst c7
    replace H := ifT H
    have H' := aM H
    clear H
    go_wp2_with (first | ((with_reducible refine gate_callee (f := 61) rfl ?_); refine gL (some 9) Try.func61 #[.int .i64 a2, .int .i64 1, .int .i64 6] ?_; (with_reducible refine (impl_within.calls a2 1 6 true _ A4.out).mono ?_); rintro e w' ⟨rfl, ⟨nd, rfl⟩⟩; refine ⟨_, rfl, ?_⟩))
    go_loopg [7] k (fun kq v7 w' => ∃ (x7_1 : Int), v7 = .int .i64 x7_1 ∧ Aside0 (impl_FindSum.l0 kq l0 a2 x7_1 a1_0 a1_1 = some r) ∧ Aside0 (kq ≤ k) ∧ Aside0 (w'.heap[gb449]? = some (.cells #[.int .i64 a1_0, .int .i64 a1_1] 48 (0, 0))) ∧ Aside0 (Below w.heap.size w w'))
    case atStart => exact ⟨(0), (by first | rfl | (simp; done) | (simp [*]; done)), H', ⟨Nat.le_refl _⟩, ⟨TK⟩, ⟨TB⟩⟩
    case round =>
      clear H'
      try clear c2
      try clear p2
      try clear c6
      try clear c7
      obtain ⟨x7_1, rfl, HA, HK1, BK449, HB⟩ := hrel
      cases gk with
      | zero => exact absurd HA.out (by simp [impl_FindSum.l0])
      | succ k1 =>
        have H := HA.out
        clear HA
        simp only [impl_FindSum.l0] at H
        by_cases c8 : (wrap64 (x7_1 + a2)) ≤ (l0.length : Int)
        · rw [if_pos c8] at H
          have c8b0 : decide ((wrap64 (x7_1 + a2)) ≤ (l0.length : Int)) = true := decide_eq_true c8
          clear c8
          replace H := ifN H
          obtain ⟨c9, H⟩ := H
          have c9b0 := eq_true c9
          have c9b1 : decide (0 ≤ x7_1) = true := decide_eq_true c9
          clear c9
          replace H := ifN H
          obtain ⟨c10, H⟩ := H
          have c10b0 := eq_true c10
          have c10b1 : decide (x7_1 ≤ (wrap64 (x7_1 + a2))) = true := decide_eq_true c10
          have c11b0 := eq_true (DT : (wrap64 (x7_1 + a2)) ≤ (l0.length : Int))
          replace H := bE H
          obtain ⟨⟨t452, t453⟩, A12, H⟩ := H
          dsimp only at H
          by_cases c13 : (t452 == a1_0 && (t453 == a1_1)) = true
          · rw [if_pos c13] at H
            have c13b0 : (t452 == a1_0 && (t453 == a1_1)) = true := c13
            (try (have c13b1 : decide (t452 = a1_0 && (t453 == a1_1)) = true := by simpa using c13))
            (try (have c13b2 : (t452 == a1_0 && (t453 == a1_1)) = true := by simpa using c13))
            clear c13
            obtain rfl := Option.some.inj H
            try go_wp2
            (try (rw [drewN_self wr]; generalize hq_ : World.drewN wr _ = wr; have n0_ : Aside0 (wr.heap[gb449]? = some (.cells #[.int .i64 a1_0, .int .i64 a1_1] 48 (0, 0))) := ⟨by rw [← hq_]; exact TK⟩; have n1_ : Aside0 (Below w.heap.size w wr) := ⟨by rw [← hq_]; exact TB⟩; clear BK449 HB hq_; have BK449 := n0_; have HB := n1_; clear n0_ n1_))
            replace BK449 := aM (blk_drew BK449.out)
            replace HB := aM (below_drew1 HB.out)
            obtain ⟨i015, hi015, _, hsz15, _⟩ := info_parts info5
            obtain ⟨A15, hcut15, hA15, hC15⟩ := print_mid_of (P := Try.prog) (Value.int .u8) 0 22 5 .i64 .i64 Try.underlying22 hi015 hsz15 A0 c0 l0 x7_1 (wrap64 (x7_1 + a2)) DT (by first | omega | exact DT) DT HC0.out
            have HR451 := aM (Kd.C_of_reads (h1 := fun _ => rfl) (hA15 _ (Kd.reads_of_C HR0.out)))
            have HC451 := aM hC15
            clear hA15 hC15 hi015 hsz15
            refine start_ (n := 9) (S := fun w' => w'.cell? ⟨gb449, 0, none⟩ = some (.int .i64 a1_0) ∧ w'.cell? ⟨gb449, 1, none⟩ = some (.int .i64 a1_1)) (ds := []) (Array.replicate 9 false) (by kernel_rfl) rfl rfl (cz2 BK449.out) (fun hHeld => ?_); refine with_tabW impl_FindSum.tab6 impl_FindSum.bits6 (fun HT_ HW_ => ?_)
            generalize wr.drew = w14 at BK449 HB HR451 hHeld ⊢
            refine pP 0 (some 19) ?_
            refine pP 1 (some 20) ?_
            refine pP 2 (some 21) ?_
            refine pP 3 (some 22) ?_
            refine pP 4 (some 23) ?_
            refine pP 5 (some 24) ?_
            refine pT 7 (some 26) ?_
            refine pO 6 (some 25) (fun K hK => ?_)
            refine goes_ Try.func57 (by kernel_rfl) rfl #[.slice A15 ((l0.take ((wrap64 (x7_1 + a2)) : Int).toNat).drop (x7_1 : Int).toNat).length (c0 - x7_1.toNat)] (by rfl) rfl rfl (by (try simp only [List.map_toArray, List.map_cons, List.map_nil]); first | done | (rw [show ((l0.take ((wrap64 (x7_1 + a2)) : Int).toNat).drop (x7_1 : Int).toNat).length = ((wrap64 (x7_1 + a2)).toNat - x7_1.toNat) from (by rw [List.length_drop, List.length_take]; have h_ : ((wrap64 (x7_1 + a2)) : Int) ≤ (l0.length : Int) := DT; omega)] <;> rfl) | rfl | (simp only [List.length_drop, List.length_take]; rfl)) ?_
            with_reducible refine (impl_SumOf.calls k1 _ _ ((l0.take ((wrap64 (x7_1 + a2)) : Int).toNat).drop (x7_1 : Int).toNat) t452 t453 _ ?side1 ?side2 A12.out).mono ?_
            (case side1 => have X_ := (Kd.C_below HR451.out HB.out); exact TC)
            (case side2 => exact HC451.out)
            rintro e w16 ⟨rfl, hb⟩
            refine ⟨_, rfl, ?_⟩
            have n0_ := aM (blk_below (g := gb449) (o := .cells #[.int .i64 a1_0, .int .i64 a1_1] 48 (0, 0)) TK hb)
            have n1_ := aM (below_step TB hb)
            clear BK449
            clear HB
            have BK449 := n0_
            have HB := n1_
            clear n0_ n1_
            (try clear hb)
            (try clear hb2)
            (try clear hk)
            (try clear hi)
            refine hK.out _ _ (cz2 BK449.out) (fun hHeld => ?_)
            clear hK K
            refine nR ?_
            refine pP 8 (some 27) ?_
            refine done_ (done_of HT_.out (by kernel_rfl)) ?_
            try go_wp2
            go_ret
            exact ⟨by first | rfl | (simp [errW_none, errW_some] <;> rfl) | (simp [*, errW_none, errW_some] <;> rfl), TB⟩
          · rw [if_neg c13] at H
            have c13b0 : (t452 == a1_0 && (t453 == a1_1)) = false := by simpa using c13
            (try (have c13b1 : decide (t452 = a1_0 && (t453 == a1_1)) = false := by simpa using c13))
            (try (have c13b2 : (t452 == a1_0 && (t453 == a1_1)) = false := by simpa using c13))
            (try (have c13b3 : ¬ (t452 = a1_0 && (t453 == a1_1)) := by simpa using c13))
            clear c13
            have H' := aM H
            clear H
            try go_wp2
            (try (rw [drewN_self wr]; generalize hq_ : World.drewN wr _ = wr; have n0_ : Aside0 (wr.heap[gb449]? = some (.cells #[.int .i64 a1_0, .int .i64 a1_1] 48 (0, 0))) := ⟨by rw [← hq_]; exact TK⟩; have n1_ : Aside0 (Below w.heap.size w wr) := ⟨by rw [← hq_]; exact TB⟩; clear BK449 HB hq_; have BK449 := n0_; have HB := n1_; clear n0_ n1_))
            replace BK449 := aM (blk_drew BK449.out)
            replace HB := aM (below_drew1 HB.out)
            obtain ⟨i018, hi018, _, hsz18, _⟩ := info_parts info5
            obtain ⟨A18, hcut18, hA18, hC18⟩ := print_mid_of (P := Try.prog) (Value.int .u8) 0 22 5 .i64 .i64 Try.underlying22 hi018 hsz18 A0 c0 l0 x7_1 (wrap64 (x7_1 + a2)) DT (by first | omega | exact DT) DT HC0.out
            have HR451 := aM (Kd.C_of_reads (h1 := fun _ => rfl) (hA18 _ (Kd.reads_of_C HR0.out)))
            have HC451 := aM hC18
            clear hA18 hC18 hi018 hsz18
            refine start_ (n := 9) (S := fun w' => w'.cell? ⟨gb449, 0, none⟩ = some (.int .i64 a1_0) ∧ w'.cell? ⟨gb449, 1, none⟩ = some (.int .i64 a1_1)) (ds := []) (Array.replicate 9 false) (by kernel_rfl) rfl rfl (cz2 BK449.out) (fun hHeld => ?_); refine with_tabW impl_FindSum.tab6 impl_FindSum.bits6 (fun HT_ HW_ => ?_)
            generalize wr.drew = w17 at BK449 HB HR451 hHeld ⊢
            refine pP 0 (some 19) ?_
            refine pP 1 (some 20) ?_
            refine pP 2 (some 21) ?_
            refine pP 3 (some 22) ?_
            refine pP 4 (some 23) ?_
            refine pP 5 (some 24) ?_
            refine pT 7 (some 26) ?_
            refine pO 6 (some 25) (fun K hK => ?_)
            refine goes_ Try.func57 (by kernel_rfl) rfl #[.slice A18 ((l0.take ((wrap64 (x7_1 + a2)) : Int).toNat).drop (x7_1 : Int).toNat).length (c0 - x7_1.toNat)] (by rfl) rfl rfl (by (try simp only [List.map_toArray, List.map_cons, List.map_nil]); first | done | (rw [show ((l0.take ((wrap64 (x7_1 + a2)) : Int).toNat).drop (x7_1 : Int).toNat).length = ((wrap64 (x7_1 + a2)).toNat - x7_1.toNat) from (by rw [List.length_drop, List.length_take]; have h_ : ((wrap64 (x7_1 + a2)) : Int) ≤ (l0.length : Int) := DT; omega)] <;> rfl) | rfl | (simp only [List.length_drop, List.length_take]; rfl)) ?_
            with_reducible refine (impl_SumOf.calls k1 _ _ ((l0.take ((wrap64 (x7_1 + a2)) : Int).toNat).drop (x7_1 : Int).toNat) t452 t453 _ ?side1 ?side2 A12.out).mono ?_
            (case side1 => have X_ := (Kd.C_below HR451.out HB.out); exact TC)
            (case side2 => exact HC451.out)
            rintro e w19 ⟨rfl, hb⟩
            refine ⟨_, rfl, ?_⟩
            have n0_ := aM (blk_below (g := gb449) (o := .cells #[.int .i64 a1_0, .int .i64 a1_1] 48 (0, 0)) TK hb)
            have n1_ := aM (below_step TB hb)
            clear BK449
            clear HB
            have BK449 := n0_
            have HB := n1_
            clear n0_ n1_
            (try clear hb)
            (try clear hb2)
            (try clear hk)
            (try clear hi)
            refine hK.out _ _ (cz2 BK449.out) (fun hHeld => ?_)
            clear hK K
            refine nR ?_
            refine pP 8 (some 27) ?_
            refine done_ (done_of HT_.out (by kernel_rfl)) ?_
            try go_wp2
            go_roundg k1
            case measure => have := HK1.out; omega
            case rel => exact ⟨(wrap64 (x7_1 + 1)), (by first | rfl | (simp; done) | (simp [*]; done)), H', ⟨by have := HK1.out; omega⟩, ⟨TK⟩, ⟨TB⟩⟩
        · rw [if_neg c8] at H
          have c8b0 : decide ((wrap64 (x7_1 + a2)) ≤ (l0.length : Int)) = false := decide_eq_false c8
          clear c8
          obtain rfl := Option.some.inj H
          go_wp2
          go_ret
          exact ⟨by first | rfl | (simp [errW_none, errW_some] <;> rfl) | (simp [*, errW_none, errW_some] <;> rfl), TB⟩
  · replace c7 := Bool.eq_false_iff.mpr c7
    subst c7
    replace H := ifF H
    obtain rfl := Option.some.inj H
    go_wp2_with (first | ((with_reducible refine gate_callee (f := 61) rfl ?_); refine gL (some 9) Try.func61 #[.int .i64 a2, .int .i64 1, .int .i64 6] ?_; (with_reducible refine (impl_within.calls a2 1 6 false _ A4.out).mono ?_); rintro e w' ⟨rfl, ⟨nd, rfl⟩⟩; refine ⟨_, rfl, ?_⟩))
    go_ret
    exact ⟨by first | rfl | (simp [errW_none, errW_some] <;> rfl) | (simp [*, errW_none, errW_some] <;> rfl), TB⟩

/-! ### impl_PlaceOf: function 33 -/
def impl_PlaceOf.f (k : Nat) (l0 : List Int) (a1_0 : Int) (a1_1 : Int) (a1_2 : Int) (l1_3 : List (S48)) (a2 : Int) : Option (Int) := (impl_SpanOf.f a1_1 a1_2 a2).bind fun bt455 => ((impl_within.f a2 0 (wrap64 ((l1_3.length : Int) - 1))).bind fun t457 => (if t457 = true then (if 0 ≤ a2 then (if a2 < (l1_3.length : Int) then ((impl_FindSum.f k l0 ((rd_T48 l1_3 a2).f0) ((rd_T48 l1_3 a2).f1) bt455.2).bind fun t459 => (some t459)) else (none)) else (none)) else (some (-1))))
theorem impl_PlaceOf.mono : ∀ a0 a1 a2 a3 a4 a5 k, LeO (impl_PlaceOf.f k a0 a1 a2 a3 a4 a5) (impl_PlaceOf.f (k + 1) a0 a1 a2 a3 a4 a5) := by
  intro a0 a1 a2 a3 a4 a5 k
  have m0_ := @impl_FindSum.mono
  unfold impl_PlaceOf.f
  exact LM
set_option maxHeartbeats 40000000 in
set_option maxRecDepth 100000 in
theorem impl_PlaceOf.calls (k : Nat) (A0 : Option Addr) (c0 : Nat) (l0 : List Int) (a1_0 : Int) (a1_1 : Int) (a1_2 : Int) (A1_3 : Option Addr) (c1_3 : Nat) (l1_3 : List (S48)) (a2 : Int) (r : Int) (w : World) (hr0 : Kd.C (Kd.int .u8) w A0 l0.length l0) (hc0 : l0.length ≤ c0) (hr1_3 : Kd.C k48 w A1_3 l1_3.length l1_3) (hc1_3 : l1_3.length ≤ c1_3) (h : impl_PlaceOf.f k l0 a1_0 a1_1 a1_2 l1_3 a2 = some r) :
    Calls Try.prog 33 #[.slice A0 l0.length c0, .agg #[.int .i64 a1_0, .int .i64 a1_1, .int .i64 a1_2, .slice A1_3 l1_3.length c1_3], .int .i64 a2] w fun e w' => e = .returned (.int .i64 r) ∧ Below w.heap.size w w' := by
  have hu28 := Try.underlying28
  have hu48 := Try.underlying48
  have HR0 := aM hr0
  have HC0 := aM hc0
  clear hr0 hc0
  have HR1_3 := aM hr1_3
  have HC1_3 := aM hc1_3
  clear hr1_3 hc1_3
  have HB := aM (Below.refl w.heap.size w)
  have H := h
  clear h
  unfold impl_PlaceOf.f at H
  replace H := bE H
  obtain ⟨⟨t455, t456⟩, A4, H⟩ := H
  dsimp only at H
  replace H := bE H
  obtain ⟨t457, A5, H⟩ := H
  go_enter Try.func33, Try.ntmps33
  go_wp2_with (first | ((with_reducible refine gate_dst (N := 4) rfl ?_); refine gBx 4 #[.int .i64 a1_0, .int .i64 a1_1, .int .i64 a1_2, .slice A1_3 l1_3.length c1_3] 28 ?_; intro gb454 hg w7 hbox hb; have BK454 := aM (hbox); have GW454 := aM ((by rw [hg]; exact (below_size TB) : w.heap.size ≤ gb454)); have GE454 := aM ((by rw [hg]; exact (below_size TB) : w.heap.size ≤ gb454)); replace HB := aM (below_step TB hb); clear hb hbox hg; obtain ⟨hcz8_0, hcz8_1, hcz8_2, hcz8_3⟩ := cz4 BK454.out; obtain ⟨hfz8_0, hfz8_1, hfz8_2, hfz8_3⟩ := fz4 BK454.out) | ((with_reducible refine gate_callee (f := 66) rfl ?_); refine gL (some 15) Try.func66 #[.int .i64 a1_1, .int .i64 a1_2, .int .i64 a2] ?_; (with_reducible refine (impl_SpanOf.calls a1_1 a1_2 a2 t455 t456 _ A4.out).mono ?_); rintro e w9 ⟨rfl, hb⟩; refine ⟨_, rfl, ?_⟩; replace BK454 := aM (blk_below (by have X_ := BK454.out; exact TX) hb); replace HB := aM (below_step TB hb); clear hb; obtain ⟨hcz10_0, hcz10_1, hcz10_2, hcz10_3⟩ := cz4 BK454.out; obtain ⟨hfz10_0, hfz10_1, hfz10_2, hfz10_3⟩ := fz4 BK454.out) | ((with_reducible refine gate_callee (f := 61) rfl ?_); (with_reducible refine gate_dst (N := 23) rfl ?_); generalize hG_ : wpList _ _ _ _ _ _ = G_))
  subst hG_
  by_cases c11 : t457 = true
  · subst c11
    replace H := ifT H
    replace H := ifN H
    obtain ⟨c12, H⟩ := H
    have c12b0 : decide (0 ≤ a2) = true := decide_eq_true c12
    clear c12
    replace H := ifN H
    obtain ⟨c13, H⟩ := H
    have c13b0 : decide (a2 < (l1_3.length : Int)) = true := decide_eq_true c13
    clear c13
    replace H := bE H
    obtain ⟨t459, A14, H⟩ := H
    obtain rfl := Option.some.inj H
    go_wp2_with (first | ((with_reducible refine gate_callee (f := 61) rfl ?_); refine gL (some 23) Try.func61 #[.int .i64 a2, .int .i64 0, .int .i64 (wrap64 ((l1_3.length : Int) - 1))] ?_; (with_reducible refine (impl_within.calls a2 0 (wrap64 ((l1_3.length : Int) - 1)) true _ A5.out).mono ?_); rintro e w' ⟨rfl, ⟨nd, rfl⟩⟩; refine ⟨_, rfl, ?_⟩; obtain ⟨hcz15_0, hcz15_1, hcz15_2, hcz15_3⟩ := cz4 BK454.out; obtain ⟨hfz15_0, hfz15_1, hfz15_2, hfz15_3⟩ := fz4 BK454.out; have p458 : 0 ≤ (a2 : Int) := DT; have q458 : a2 < (l1_3.length : Int) := DT; obtain ⟨ad458, e458, hx458_0, hx458_1⟩ := at_T48 HR1_3.out a2 p458 q458; cases e458; replace hx458_0 := (HB.out.cell (World.block_lt_of_cell? w _ hx458_0)).trans hx458_0; replace hx458_1 := (HB.out.cell (World.block_lt_of_cell? w _ hx458_1)).trans hx458_1; replace p458 := eq_true p458; replace q458 := eq_true q458) | ((with_reducible refine gate_callee (f := 27) rfl ?_); refine gL (some 32) Try.func27 #[.slice A0 l0.length c0, .agg #[.int .i64 ((rd_T48 l1_3 a2).f0), .int .i64 ((rd_T48 l1_3 a2).f1)], .int .i64 t456] ?_; (with_reducible refine (impl_FindSum.calls k _ _ l0 ((rd_T48 l1_3 a2).f0) ((rd_T48 l1_3 a2).f1) t456 t459 _ ?side1 ?side2 A14.out).mono ?_); (case side1 => repeat (first | exact (Kd.C_below HR0.out TB) | (with_reducible refine Kd.C_alloc ?_ _) | (with_reducible refine Kd.C_drewN ?_ _) | (with_reducible refine Kd.C_drew ?_))); (case side2 => exact HC0.out); rintro e w16 ⟨rfl, hb⟩; refine ⟨_, rfl, ?_⟩; replace BK454 := aM (blk_below (by have X_ := BK454.out; exact TX) hb); replace HB := aM (below_step TB hb); clear hb))
    go_ret
    exact ⟨by first | rfl | (simp [errW_none, errW_some] <;> rfl) | (simp [*, errW_none, errW_some] <;> rfl), TB⟩
  · replace c11 := Bool.eq_false_iff.mpr c11
    subst c11
    replace H := ifF H
    obtain rfl := Option.some.inj H
    go_wp2_with (first | ((with_reducible refine gate_callee (f := 61) rfl ?_); refine gL (some 23) Try.func61 #[.int .i64 a2, .int .i64 0, .int .i64 (wrap64 ((l1_3.length : Int) - 1))] ?_; (with_reducible refine (impl_within.calls a2 0 (wrap64 ((l1_3.length : Int) - 1)) false _ A5.out).mono ?_); rintro e w' ⟨rfl, ⟨nd, rfl⟩⟩; refine ⟨_, rfl, ?_⟩))
    go_ret
    exact ⟨by first | rfl | (simp [errW_none, errW_some] <;> rfl) | (simp [*, errW_none, errW_some] <;> rfl), TB⟩

/-! ### impl_placed: function 71 -/
def impl_placed.l0 : Nat → List Int → Bool → Int → Int → Int → Int → Int → Int → List (S48) → Option (Int)
  | 0, _, _, _, _, _, _, _, _, _ => none
  | k + 1, x0, x2, x7, x12, x13, x461000, x461001, x461002, x461003 => if x13 < x12 then ((impl_PlaceOf.f k x0 x461000 x461001 x461002 x461003 x13).bind fun t461 => (if ((decide (t461 ≥ 0)) == x2) = true then (if 0 ≤ x13 then (impl_placed.l0 k x0 x2 (Go.bits .or .i64 x7 (shl .i64 1 x13)) x12 (wrap64 (x13 + 1)) x461000 x461001 x461002 x461003) else (none)) else (impl_placed.l0 k x0 x2 x7 x12 (wrap64 (x13 + 1)) x461000 x461001 x461002 x461003))) else (some x7)
def impl_placed.f (k : Nat) (l0 : List Int) (a1_0 : Int) (a1_1 : Int) (a1_2 : Int) (l1_3 : List (S48)) (a2 : Bool) : Option (Int) := impl_placed.l0 k l0 a2 0 (mn 40 (l1_3.length : Int)) 0 a1_0 a1_1 a1_2 l1_3
theorem impl_placed.mono_l : ∀ k, (∀ y0 y1 y2 y3 y4 y5 y6 y7 y8, LeO (impl_placed.l0 k y0 y1 y2 y3 y4 y5 y6 y7 y8) (impl_placed.l0 (k + 1) y0 y1 y2 y3 y4 y5 y6 y7 y8))
  | 0 => fun _ _ _ _ _ _ _ _ _ r h => by simp [impl_placed.l0] at h
  | k + 1 => by
    have m0_ := @impl_PlaceOf.mono
    have ih0 := impl_placed.mono_l k
    · intro y0 y1 y2 y3 y4 y5 y6 y7 y8
      unfold impl_placed.l0
      exact LM
theorem impl_placed.mono : ∀ a0 a1 a2 a3 a4 a5 k, LeO (impl_placed.f k a0 a1 a2 a3 a4 a5) (impl_placed.f (k + 1) a0 a1 a2 a3 a4 a5) := by
  intro a0 a1 a2 a3 a4 a5 k
  have m0_ := @impl_PlaceOf.mono
  have ih0 := impl_placed.mono_l k
  unfold impl_placed.f
  exact LM
set_option maxHeartbeats 40000000 in
set_option maxRecDepth 100000 in
theorem impl_placed.calls (k : Nat) (A0 : Option Addr) (c0 : Nat) (l0 : List Int) (a1_0 : Int) (a1_1 : Int) (a1_2 : Int) (A1_3 : Option Addr) (c1_3 : Nat) (l1_3 : List (S48)) (a2 : Bool) (r : Int) (w : World) (hr0 : Kd.C (Kd.int .u8) w A0 l0.length l0) (hc0 : l0.length ≤ c0) (hr1_3 : Kd.C k48 w A1_3 l1_3.length l1_3) (hc1_3 : l1_3.length ≤ c1_3) (h : impl_placed.f k l0 a1_0 a1_1 a1_2 l1_3 a2 = some r) :
    Calls Try.prog 71 #[.slice A0 l0.length c0, .agg #[.int .i64 a1_0, .int .i64 a1_1, .int .i64 a1_2, .slice A1_3 l1_3.length c1_3], .bool a2] w fun e w' => e = .returned (.int .i64 r) ∧ Below w.heap.size w w' := by
  have hu28 := Try.underlying28
  have HR0 := aM hr0
  have HC0 := aM hc0
  clear hr0 hc0
  have HR1_3 := aM hr1_3
  have HC1_3 := aM hc1_3
  clear hr1_3 hc1_3
  have HB := aM (Below.refl w.heap.size w)
  have H := h
  clear h
  unfold impl_placed.f at H
  obtain ⟨ji4, hji4⟩ : ∃ j_ : Int, (mn 40 (l1_3.length : Int)) = j_ := ⟨_, rfl⟩
  (first | rw [hji4] at H | simp only [hji4] at H | skip)
  (try (have hji4h : ji4 ≤ 40 := by (rw [← hji4]; unfold mn; (repeat' split) <;> omega)))
  (try (have hji4g : ji4 ≤ 64 := by omega))
  (try (have hji4l : 0 ≤ ji4 := by (rw [← hji4]; unfold mn; (repeat' split) <;> omega)))
  (try (have hji4m : 0 ≤ ji4 := by omega))
  have hji4_ : (if (l1_3.length : Int) < 40 then (l1_3.length : Int) else 40) = ji4 := hji4
  have H' := aM H
  clear H
  go_enter Try.func71, Try.ntmps71
  go_wp2_with (first | ((with_reducible refine gate_dst (N := 4) rfl ?_); refine gBx 4 #[.int .i64 a1_0, .int .i64 a1_1, .int .i64 a1_2, .slice A1_3 l1_3.length c1_3] 28 ?_; intro gb460 hg w5 hbox hb; have BK460 := aM (hbox); have GW460 := aM ((by rw [hg]; exact (below_size TB) : w.heap.size ≤ gb460)); have GE460 := aM ((by rw [hg]; exact (below_size TB) : w.heap.size ≤ gb460)); replace HB := aM (below_step TB hb); clear hb hbox hg; obtain ⟨hcz6_0, hcz6_1, hcz6_2, hcz6_3⟩ := cz4 BK460.out; obtain ⟨hfz6_0, hfz6_1, hfz6_2, hfz6_3⟩ := fz4 BK460.out))
  go_loopg [7, 13] k (fun kq v7 v13 w' => ∃ (x7_1 : Int) (x13_1 : Int), v7 = .int .i64 x7_1 ∧ v13 = .int .i64 x13_1 ∧ Aside0 (impl_placed.l0 kq l0 a2 x7_1 ji4 x13_1 a1_0 a1_1 a1_2 l1_3 = some r) ∧ Aside0 (kq ≤ k) ∧ Aside0 (w'.heap[gb460]? = some (.cells #[.int .i64 a1_0, .int .i64 a1_1, .int .i64 a1_2, (.slice A1_3 l1_3.length c1_3)] 28 (0, 0))) ∧ Aside0 (Below w.heap.size w w'))
  case atStart => exact ⟨(0), (0), (by first | rfl | (simp; done) | (simp [*]; done)), (by first | rfl | (simp; done) | (simp [*]; done)), H', ⟨Nat.le_refl _⟩, ⟨TK⟩, ⟨TB⟩⟩
  case round =>
    clear H'
    try clear c1
    try clear p2
    try clear hcz6_0
    try clear hcz6_1
    try clear hcz6_2
    try clear hcz6_3
    try clear hfz6_0
    try clear hfz6_1
    try clear hfz6_2
    try clear hfz6_3
    obtain ⟨x7_1, x13_1, rfl, rfl, HA, HK1, BK460, HB⟩ := hrel
    cases gk with
    | zero => exact absurd HA.out (by simp [impl_placed.l0])
    | succ k1 =>
      have H := HA.out
      clear HA
      simp only [impl_placed.l0] at H
      by_cases c7 : x13_1 < ji4
      · rw [if_pos c7] at H
        have c7b0 : decide (x13_1 < ji4) = true := decide_eq_true c7
        clear c7
        replace H := bE H
        obtain ⟨t461, A8, H⟩ := H
        by_cases c9 : ((decide (t461 ≥ 0)) == a2) = true
        · rw [if_pos c9] at H
          have c9b0 : ((decide (t461 ≥ 0)) == a2) = true := c9
          (try (have c9b1 : decide ((decide (t461 ≥ 0)) = a2) = true := by simpa using c9))
          (try (have c9b2 : ((decide (t461 ≥ 0)) == a2) = true := by simpa using c9))
          clear c9
          replace H := ifN H
          obtain ⟨c10, H⟩ := H
          have c10b0 := eq_true c10
          have c10b1 : decide (0 ≤ x13_1) = true := decide_eq_true c10
          clear c10
          obtain ⟨ji11, hji11⟩ : ∃ j_ : Int, (shl .i64 1 x13_1) = j_ := ⟨_, rfl⟩
          (first | rw [hji11] at H | simp only [hji11] at H | skip)
          (try rw [hji11] at A8)
          have hji11_ : (IntKind.i64.wrap (1 * 2 ^ min x13_1.toNat 64)) = ji11 := hji11
          have hji11z : x13_1 ≤ 64 → (IntKind.i64.wrap (1 * 2 ^ x13_1.toNat)) = ji11 := shl_small hji11
          have hji11u : (IntKind.i64.wrap (2 ^ min x13_1.toNat 64)) = ji11 := by have h_ := hji11_; rw [Int.one_mul] at h_; exact h_
          have hji11v : x13_1 ≤ 64 → (IntKind.i64.wrap (2 ^ x13_1.toNat)) = ji11 := fun hle_ => by have h_ := hji11z hle_; rw [Int.one_mul] at h_; exact h_
          have hji11y : (wrap64 (1 * 2 ^ min x13_1.toNat 64)) = ji11 := (i64_w _).symm.trans hji11_
          have hji11x : x13_1 ≤ 64 → (wrap64 (1 * 2 ^ x13_1.toNat)) = ji11 := fun h_ => (i64_w _).symm.trans (hji11z h_)
          have H' := aM H
          clear H
          obtain ⟨hcz12_0, hcz12_1, hcz12_2, hcz12_3⟩ := cz4 BK460.out
          obtain ⟨hfz12_0, hfz12_1, hfz12_2, hfz12_3⟩ := fz4 BK460.out
          go_wp2_with (first | ((with_reducible refine gate_callee (f := 33) rfl ?_); refine gL (some 19) Try.func33 #[.slice A0 l0.length c0, .agg #[.int .i64 a1_0, .int .i64 a1_1, .int .i64 a1_2, .slice A1_3 l1_3.length c1_3], .int .i64 x13_1] ?_; (with_reducible refine (impl_PlaceOf.calls k1 _ _ l0 a1_0 a1_1 a1_2 _ _ l1_3 x13_1 t461 _ ?side1 ?side2 ?side3 ?side4 A8.out).mono ?_); (case side1 => have X_ := (Kd.C_below HR0.out HB.out); exact TC); (case side2 => exact HC0.out); (case side3 => have X_ := (Kd.C_below HR1_3.out HB.out); exact TC); (case side4 => exact HC1_3.out); rintro e w13 ⟨rfl, hb⟩; refine ⟨_, rfl, ?_⟩; replace BK460 := aM (blk_below (by have X_ := BK460.out; exact TX) hb); replace HB := aM (below_step TB hb); clear hb))
          go_roundg k1
          case measure => have := HK1.out; omega
          case rel => exact ⟨(Go.bits .or .i64 x7_1 (ji11)), (wrap64 (x13_1 + 1)), (by first | rfl | (simp; done) | (simp only [← hji11] <;> (first | rfl | simp)) | (simp [*]; done)), (by first | rfl | (simp; done) | (simp [*]; done)), H', ⟨by have := HK1.out; omega⟩, ⟨TK⟩, ⟨TB⟩⟩
        · rw [if_neg c9] at H
          have c9b0 : ((decide (t461 ≥ 0)) == a2) = false := by simpa using c9
          (try (have c9b1 : decide ((decide (t461 ≥ 0)) = a2) = false := by simpa using c9))
          (try (have c9b2 : ((decide (t461 ≥ 0)) == a2) = false := by simpa using c9))
          (try (have c9b3 : ¬ ((decide (t461 ≥ 0)) = a2) := by simpa using c9))
          clear c9
          have H' := aM H
          clear H
          obtain ⟨hcz14_0, hcz14_1, hcz14_2, hcz14_3⟩ := cz4 BK460.out
          obtain ⟨hfz14_0, hfz14_1, hfz14_2, hfz14_3⟩ := fz4 BK460.out
          go_wp2_with (first | ((with_reducible refine gate_callee (f := 33) rfl ?_); refine gL (some 19) Try.func33 #[.slice A0 l0.length c0, .agg #[.int .i64 a1_0, .int .i64 a1_1, .int .i64 a1_2, .slice A1_3 l1_3.length c1_3], .int .i64 x13_1] ?_; (with_reducible refine (impl_PlaceOf.calls k1 _ _ l0 a1_0 a1_1 a1_2 _ _ l1_3 x13_1 t461 _ ?side1 ?side2 ?side3 ?side4 A8.out).mono ?_); (case side1 => have X_ := (Kd.C_below HR0.out HB.out); exact TC); (case side2 => exact HC0.out); (case side3 => have X_ := (Kd.C_below HR1_3.out HB.out); exact TC); (case side4 => exact HC1_3.out); rintro e w15 ⟨rfl, hb⟩; refine ⟨_, rfl, ?_⟩; replace BK460 := aM (blk_below (by have X_ := BK460.out; exact TX) hb); replace HB := aM (below_step TB hb); clear hb))
          go_roundg k1
          case measure => have := HK1.out; omega
          case rel => exact ⟨(x7_1), (wrap64 (x13_1 + 1)), (by first | rfl | (simp; done) | (simp [*]; done)), (by first | rfl | (simp; done) | (simp [*]; done)), H', ⟨by have := HK1.out; omega⟩, ⟨TK⟩, ⟨TB⟩⟩
      · rw [if_neg c7] at H
        have c7b0 : decide (x13_1 < ji4) = false := decide_eq_false c7
        clear c7
        obtain rfl := Option.some.inj H
        go_wp2
        go_ret
        exact ⟨by first | rfl | (simp [errW_none, errW_some] <;> rfl) | (simp only [← hji4]; first | rfl | (simp [errW_none, errW_some] <;> rfl)) | (simp [*, errW_none, errW_some] <;> rfl), TB⟩

/-! ### impl_Lacking: function 19 -/
def impl_Lacking.f (k : Nat) (l0 : List Int) (a1_0 : Int) (a1_1 : Int) (a1_2 : Int) (l1_3 : List (S48)) : Option (Int) := (impl_placed.f k l0 a1_0 a1_1 a1_2 l1_3 false).bind fun t463 => (some t463)
theorem impl_Lacking.mono : ∀ a0 a1 a2 a3 a4 k, LeO (impl_Lacking.f k a0 a1 a2 a3 a4) (impl_Lacking.f (k + 1) a0 a1 a2 a3 a4) := by
  intro a0 a1 a2 a3 a4 k
  have m0_ := @impl_placed.mono
  unfold impl_Lacking.f
  exact LM
set_option maxHeartbeats 40000000 in
set_option maxRecDepth 100000 in
theorem impl_Lacking.calls (k : Nat) (A0 : Option Addr) (c0 : Nat) (l0 : List Int) (ad : Int) (ac : Int) (ab : Int) (af : Option Addr) (ae : Nat) (aa : List (S48)) (r : Int) (w : World) (hr0 : Kd.C (Kd.int .u8) w A0 l0.length l0) (hc0 : l0.length ≤ c0) (ag : Kd.C k48 w af aa.length aa) (ah : aa.length ≤ ae) (h : impl_Lacking.f k l0 ad ac ab aa = some r) :
  Calls Try.prog 19 #[.slice A0 l0.length c0, .agg #[.int .i64 ad, .int .i64 ac, .int .i64 ab, .slice af aa.length ae]] w fun e w' => e = .returned (.int .i64 r) ∧ Below w.heap.size w w' := by
 have hu28 := Try.underlying28
 have HR0 := aM hr0
 have HC0 := aM hc0
 clear hr0 hc0
 have HR1_3 := aM ag
 have HC1_3 := aM ah
 clear ag ah
 have HB := aM (Below.refl w.heap.size w)
 have H := h
 clear h
 unfold impl_Lacking.f at H
 replace H := bE H
 obtain ⟨t463, A3, H⟩ := H
 obtain rfl := Option.some.inj H
 go_enter Try.func19, Try.ntmps19
 go_wp2_with (first | ((with_reducible refine gate_dst (N := 3) rfl ?_); refine gBx 3 #[.int .i64 ad, .int .i64 ac, .int .i64 ab, .slice af aa.length ae] 28 ?_; intro ai hg w4 hbox hb; have BK462 := aM (hbox); have GW462 := aM ((by rw [hg]; exact (below_size TB) : w.heap.size ≤ ai)); have GE462 := aM ((by rw [hg]; exact (below_size TB) : w.heap.size ≤ ai)); replace HB := aM (below_step TB hb); clear hb hbox hg; obtain ⟨hcz5_0, hcz5_1, hcz5_2, hcz5_3⟩ := cz4 BK462.out; obtain ⟨hfz5_0, hfz5_1, hfz5_2, hfz5_3⟩ := fz4 BK462.out) | ((with_reducible refine gate_callee (f := 71) rfl ?_); refine gL (some 7) Try.func71 #[.slice A0 l0.length c0, .agg #[.int .i64 ad, .int .i64 ac, .int .i64 ab, .slice af aa.length ae], .bool false] ?_; (with_reducible refine (impl_placed.calls k _ _ l0 ad ac ab _ _ aa false t463 _ ?side1 ?side2 ?side3 ?side4 A3.out).mono ?_); (case side1 => have X_ := (Kd.C_below HR0.out HB.out); exact TC); (case side2 => exact HC0.out); (case side3 => have X_ := (Kd.C_below HR1_3.out HB.out); exact TC); (case side4 => exact HC1_3.out); rintro e w6 ⟨rfl, hb⟩; refine ⟨_, rfl, ?_⟩; replace BK462 := aM (blk_below (by have X_ := BK462.out; exact TX) hb); replace HB := aM (below_step TB hb); clear hb))
 go_ret
 exact ⟨by first | rfl | (simp [errW_none, errW_some] <;> rfl) | (simp [*, errW_none, errW_some] <;> rfl), TB⟩

end Go.Proofs.Ytfkndpjbkndhcaa.Q
