/- Functions of the program as plain Lean functions, and that a call of each comes to what its function tells. Written by a program of this seat. -/
import Derived.Test.YtmaeahbiiiifmaaQ0
import Derived.Test.YtmaeahbiiiifmaaQ1
import Derived.Test.YtmaeahbiiiifmaaQ2
import Derived.Test.YtmaeahbiiiifmaaQ3
namespace Go.Proofs.Ytmaeahbiiiifmaa.Q
open Go.RowKit Go.Proofs.YtmaeahbiiiifmaaW.PrintWords Go.Proofs.YtmaeahbiiiifmaaW.PrintLast Go.Proofs.YtmaeahbiiiifmaaW.PrintMore
attribute [local go_sem] max2_int min2_int max_two min_two max_three min_three max_four min_four   -- for this text's walks alone
set_option linter.unusedVariables false
set_option linter.unusedSimpArgs false

/-! ### spec_l13Any: function 26 -/
def spec_l13Any.f (k : Nat) (s0_0 : List Int) (s0_1 : Int) (s0_2 : Int) : Option (List Int × Int × Int) := (spec_l13Draw.f k s0_0 s0_1 s0_2).bind fun bt155 => ((spec_l1Below.f s0_0 bt155.2.1 bt155.2.2 8).bind fun bt161 => (if bt161.1 = 0 then ((spec_l1Below.f s0_0 bt161.2.1 bt161.2.2 (bt155.1.length : Int)).bind fun bt164 => ((spec_l1Int.f s0_0 bt164.2.1 bt164.2.2 (([(-1), 0, 6, (-2)] : List Int))).bind fun bt170 => (if 0 ≤ bt164.1 then (if bt164.1 < (bt155.1.length : Int) then (some ((bt155.1.set (bt164.1 : Int).toNat bt170.1), bt170.2.1, bt170.2.2)) else (none)) else (none)))) else (if bt161.1 = 1 then (some ((([] : List Int)), bt161.2.1, bt161.2.2)) else (some (bt155.1, bt161.2.1, bt161.2.2)))))
theorem spec_l13Any.mono : ∀ a0 a1 a2 k, LeO (spec_l13Any.f k a0 a1 a2) (spec_l13Any.f (k + 1) a0 a1 a2) := by
  intro a0 a1 a2 k
  have m0_ := @spec_l13Draw.mono
  unfold spec_l13Any.f
  exact LM
def spec_l13Any.T4 : Bool × List (List Nat × List Nat) := (true, [([], []), ([0], [0]), ([], []), ([], []), ([3], [3]), ([4], [4]), ([2, 5], [2, 5]), ([], []), ([], []), ([7, 8, 6], [7, 8]), ([1, 6, 0, 1, 2, 3, 4, 5, 6, 7, 8, 9], [1, 6]), ([10, 9, 9, 0, 1, 2, 3, 4, 5, 6, 7, 8, 9], [9, 10])])
def spec_l13Any.B4 : List Nat := [0, 1, 0, 0, 8, 24, 60, 0, 0, 508, 1023, 2047]
theorem spec_l13Any.tab4 : rtab .any (opsOf Try.f26 4) = spec_l13Any.T4 := by kernel_rfl
theorem spec_l13Any.bits4 : waitsOk spec_l13Any.T4.2 spec_l13Any.B4 = true := by kernel_rfl
set_option maxHeartbeats 40000000 in
set_option maxRecDepth 100000 in
theorem spec_l13Any.calls (k : Nat) (g : Nat) (s0_0 : List Int) (s0_1 : Int) (s0_2 : Int) (r1 : List Int) (r2 : Int) (r3 : Int) (w0 w : World) (hI : IsS47 w0 w g s0_0 s0_1 s0_2) (hB : Below w0.heap.size w0 w) (h : spec_l13Any.f k s0_0 s0_1 s0_2 = some (r1, r2, r3)) :
    Calls Try.prog 26 #[.pointer (some ⟨g, 0, none⟩)] w fun e w' => ∃ v0_ : Value, e = .returned (.agg #[v0_]) ∧ Kd.R (Kd.int .i64) 3 w' w.heap.size (fun _ => True) v0_ r1 ∧ IsS47 w0 w' g s0_0 r2 r3 ∧ Below w0.heap.size w0 w' ∧ KeepBut w w' g none := by
  have hu26 := Try.underlying26
  have HI0 := aM hI
  have HK := aM (KeepBut.refl w g none)
  have HL := aM hB.size
  clear hI
  have HW0 := aM hB.size
  have HB := aM hB
  clear hB
  have H := h
  clear h
  unfold spec_l13Any.f at H
  replace H := bE H
  obtain ⟨⟨t155, t158, t159⟩, A2, H⟩ := H
  dsimp only at H
  replace H := bE H
  obtain ⟨⟨t161, t162, t163⟩, A3, H⟩ := H
  dsimp only at H
  go_enter Try.func26, Try.ntmps26
  go_wp2_with (first | ((with_reducible refine gate_dst (N := 2) rfl ?_); refine gBx 2 #[.slice none 0 0] 26 ?_; intro gb154 hg w4 hbox hb; have BK154 := aM (hbox); have GW154 := aM ((by rw [hg]; exact (keep_size (w := w) (g := g) (row := none) (by repeat (first | (with_reducible first | exact HK.out | apply KeepBut.set_ | apply keep_drewN | apply keep_drew | apply keep_alloc) | exact HK.out))) : w.heap.size ≤ gb154)); have GE154 := aM ((Nat.le_trans HW0.out (by rw [hg]; exact (keep_size (w := w) (g := g) (row := none) (by repeat (first | (with_reducible first | exact HK.out | apply KeepBut.set_ | apply keep_drewN | apply keep_drew | apply keep_alloc) | exact HK.out))) : w.heap.size ≤ gb154) : w0.heap.size ≤ gb154)); have NB0_154 := aM ((by rw [hg]; exact Nat.ne_of_lt (IsS47.lt (show IsS47 w0 _ g s0_0 s0_1 s0_2 from by repeat (first | (with_reducible first | exact HI0.out | apply IsS47.alloc | apply IsS47.drewN | apply IsS47.drew | apply IsS47.set_1 | apply IsS47.set_2) | exact HI0.out))) : g ≠ gb154)); have NB154_0 := aM ((by rw [hg]; exact Nat.ne_of_gt (IsS47.lt (show IsS47 w0 _ g s0_0 s0_1 s0_2 from by repeat (first | (with_reducible first | exact HI0.out | apply IsS47.alloc | apply IsS47.drewN | apply IsS47.drew | apply IsS47.set_1 | apply IsS47.set_2) | exact HI0.out))) : gb154 ≠ g)); replace HK := aM (KeepBut.trans (by repeat (first | (with_reducible first | exact HK.out | apply KeepBut.set_ | apply keep_drewN | apply keep_drew | apply keep_alloc) | exact HK.out)) (KeepBut.of_below hb g none) (.inl rfl)); replace HB := aM (below_step (by repeat (first | (with_reducible first | exact HB.out | apply below_alloc | apply pw_below_drewN | apply below_drew1 | refine below_set ?_ (IsS47.ge HI0.out)) | exact HB.out)) hb); replace HI0 := aM (IsS47.below (by repeat (first | (with_reducible first | exact HI0.out | apply IsS47.alloc | apply IsS47.drewN | apply IsS47.drew | apply IsS47.set_1 | apply IsS47.set_2) | exact HI0.out)) hb); clear hb hbox hg) | ((with_reducible refine gate_callee (f := 24) rfl ?_); refine gL (some 5) Try.func24 #[.pointer (some ⟨g, 0, none⟩)] ?_; (with_reducible refine (spec_l13Draw.calls k g s0_0 s0_1 s0_2 t155 t158 t159 w0 _ ?side1 ?side2 A2.out).mono ?_); (case side1 => repeat (first | (with_reducible first | exact HI0.out | apply IsS47.alloc | apply IsS47.drewN | apply IsS47.drew | apply IsS47.set_1 | apply IsS47.set_2 | refine IsS47.far ?_ NB0_154.out _) | exact HI0.out)); (case side2 => repeat (first | (with_reducible first | exact HB.out | apply below_alloc | apply pw_below_drewN | apply below_drew1 | refine below_set ?_ (IsS47.ge HI0.out) | refine below_set ?_ GE154.out) | exact HB.out)); rintro e w5 ⟨v156, rfl, ho0, hi, hb, hk⟩; refine ⟨_, rfl, ?_⟩; have HO157 := aM (Kd.R_lower ho0 (keep_size (w := w) (g := g) (row := none) (by repeat (first | (with_reducible first | exact HK.out | apply KeepBut.set_ | apply keep_drewN | apply keep_drew | apply keep_alloc | refine keep_far ?_ GW154.out _) | exact HK.out)))); replace BK154 := aM (KeepBut.blk hk (g' := gb154) (o := .cells #[.slice none 0 0] 26 (0, 0)) TK NB154_0.out (by simp)); replace HK := aM (KeepBut.trans (by repeat (first | (with_reducible first | exact HK.out | apply KeepBut.set_ | apply keep_drewN | apply keep_drew | apply keep_alloc | refine keep_far ?_ GW154.out _) | exact HK.out)) hk (.inl rfl)); replace HB := aM (hb); replace HI0 := aM (hi); (try clear hb); (try clear hb2); (try clear hk); (try clear hi); (try clear ho0)) | ((with_reducible refine gate_dst (N := 3) rfl ?_); refine gBx 3 #[.slice none 0 0] 26 ?_; intro gb160 hg w6 hbox hb; have BK160 := aM (hbox); have GW160 := aM ((by rw [hg]; exact (keep_size (w := w) (g := g) (row := none) (by repeat (first | (with_reducible first | exact HK.out | apply KeepBut.set_ | apply keep_drewN | apply keep_drew | apply keep_alloc | refine keep_far ?_ GW154.out _) | exact HK.out))) : w.heap.size ≤ gb160)); have GE160 := aM ((Nat.le_trans HW0.out (by rw [hg]; exact (keep_size (w := w) (g := g) (row := none) (by repeat (first | (with_reducible first | exact HK.out | apply KeepBut.set_ | apply keep_drewN | apply keep_drew | apply keep_alloc | refine keep_far ?_ GW154.out _) | exact HK.out))) : w.heap.size ≤ gb160) : w0.heap.size ≤ gb160)); have NB154_160 := aM ((by rw [hg]; exact Nat.ne_of_lt (blk_lt (g := gb154) (o := .cells #[.slice none 0 0] 26 (0, 0)) TK) : gb154 ≠ gb160)); have NB160_154 := aM ((by rw [hg]; exact Nat.ne_of_gt (blk_lt (g := gb154) (o := .cells #[.slice none 0 0] 26 (0, 0)) TK) : gb160 ≠ gb154)); have NB0_160 := aM ((by rw [hg]; exact Nat.ne_of_lt (IsS47.lt (show IsS47 w0 _ g s0_0 t158 t159 from by repeat (first | (with_reducible first | exact HI0.out | apply IsS47.alloc | apply IsS47.drewN | apply IsS47.drew | apply IsS47.set_1 | apply IsS47.set_2 | refine IsS47.far ?_ NB0_154.out _) | exact HI0.out))) : g ≠ gb160)); have NB160_0 := aM ((by rw [hg]; exact Nat.ne_of_gt (IsS47.lt (show IsS47 w0 _ g s0_0 t158 t159 from by repeat (first | (with_reducible first | exact HI0.out | apply IsS47.alloc | apply IsS47.drewN | apply IsS47.drew | apply IsS47.set_1 | apply IsS47.set_2 | refine IsS47.far ?_ NB0_154.out _) | exact HI0.out))) : gb160 ≠ g)); replace HO157 := aM (Kd.R_below (by have X_ := HO157.out; exact TR) hb); replace BK154 := aM (blk_below (g := gb154) (o := .cells #[.slice none 0 0] 26 (0, 0)) TK hb); replace HK := aM (KeepBut.trans (by repeat (first | (with_reducible first | exact HK.out | apply KeepBut.set_ | apply keep_drewN | apply keep_drew | apply keep_alloc | refine keep_far ?_ GW154.out _) | exact HK.out)) (KeepBut.of_below hb g none) (.inl rfl)); replace HB := aM (below_step (by repeat (first | (with_reducible first | exact HB.out | apply below_alloc | apply pw_below_drewN | apply below_drew1 | refine below_set ?_ (IsS47.ge HI0.out) | refine below_set ?_ GE154.out) | exact HB.out)) hb); replace HI0 := aM (IsS47.below (by repeat (first | (with_reducible first | exact HI0.out | apply IsS47.alloc | apply IsS47.drewN | apply IsS47.drew | apply IsS47.set_1 | apply IsS47.set_2 | refine IsS47.far ?_ NB0_154.out _) | exact HI0.out)) hb); clear hb hbox hg; obtain ⟨Ao7, co7, eo7⟩ := Kd.R_slice HO157.out; subst eo7; have hnb8 := NB160_154.out; have hnc8 := NB154_160.out; have hnb9 := NB160_0.out; have hnc9 := NB0_160.out; have hcz10_0 : w6.cell? ⟨gb160, 0, none⟩ = some (.slice none 0 0) := (blk_cell BK160.out 0).trans rfl; have hfz10_0 := blk_frozen BK160.out 0) | ((with_reducible refine gate_callee (f := 27) rfl ?_); refine gL (some 7) Try.func27 #[.pointer (some ⟨g, 0, none⟩), .int .i64 8] ?_; (with_reducible refine (spec_l1Below.calls g s0_0 t158 t159 8 t161 t162 t163 w0 _ ?side1 ?side2 A3.out).mono ?_); (case side1 => repeat (first | (with_reducible first | exact HI0.out | apply IsS47.alloc | apply IsS47.drewN | apply IsS47.drew | apply IsS47.set_1 | apply IsS47.set_2 | refine IsS47.far ?_ NB0_154.out _ | refine IsS47.far ?_ NB0_160.out _) | exact HI0.out)); (case side2 => repeat (first | (with_reducible first | exact HB.out | apply below_alloc | apply pw_below_drewN | apply below_drew1 | refine below_set ?_ (IsS47.ge HI0.out) | refine below_set ?_ GE154.out | refine below_set ?_ GE160.out) | exact HB.out)); rintro e w11 ⟨rfl, hi, hb, hk⟩; refine ⟨_, rfl, ?_⟩; replace BK154 := aM (KeepBut.blk hk (g' := gb154) (o := .cells #[.slice none 0 0] 26 (0, 0)) (by (with_reducible repeat (first | refine blk_drewN ?_ _ | refine blk_drew ?_ | refine blk_alloc ?_ _)); refine blk_far ?_ NB154_160.out _; (with_reducible repeat (first | refine blk_drewN ?_ _ | refine blk_drew ?_ | refine blk_alloc ?_ _)); exact BK154.out) NB154_0.out (by simp)); replace HO157 := aM (Kd.R_mono (Kd.R_keep (IsS47.apart (show IsS47 w0 _ g s0_0 t158 t159 from by repeat (first | (with_reducible first | exact HI0.out | apply IsS47.alloc | apply IsS47.drewN | apply IsS47.drew | apply IsS47.set_1 | apply IsS47.set_2 | refine IsS47.far ?_ NB0_154.out _ | refine IsS47.far ?_ NB0_160.out _) | exact HI0.out)) (by (with_reducible repeat (first | apply Kd.R_alloc | apply Kd.R_drewN | apply Kd.R_drew)); exact (R_off (Kd.R_types HO157.out BK160.out (by decide)) TO)) (by decide)) hk (fun _ h => h.2)) (fun _ h => h.1)); replace BK160 := aM (KeepBut.blk hk (g' := gb160) (o := .cells #[.slice Ao7 t155.length co7] 26 (0, 0)) (by (with_reducible repeat (first | refine blk_drewN ?_ _ | refine blk_drew ?_ | refine blk_alloc ?_ _)); refine blk_put (cs := #[.slice none 0 0]) ?_ 0 _ rfl; (with_reducible repeat (first | refine blk_drewN ?_ _ | refine blk_drew ?_ | refine blk_alloc ?_ _)); exact BK160.out) NB160_0.out (by simp)); replace HK := aM (KeepBut.trans (by repeat (first | (with_reducible first | exact HK.out | apply KeepBut.set_ | apply keep_drewN | apply keep_drew | apply keep_alloc | refine keep_far ?_ GW154.out _ | refine keep_far ?_ GW160.out _) | exact HK.out)) hk (.inl rfl)); replace HB := aM (hb); replace HI0 := aM (hi); (try clear hb); (try clear hb2); (try clear hk); (try clear hi)) | ((with_reducible refine gate_dst (N := 9) rfl ?_); generalize hG_ : wpList _ _ _ _ _ _ = G_))
  subst hG_
  by_cases c12 : t161 = 0
  · rw [if_pos c12] at H
    have c12b0 : (t161 == 0) = true := beq_iff_eq.mpr c12
    have c12b1 : (t161 != 0) = false := bne_eq_false_iff_eq.mpr c12
    clear c12
    replace H := bE H
    obtain ⟨⟨t164, t165, t166⟩, A13, H⟩ := H
    dsimp only at H
    obtain ⟨y167, hy167⟩ : ∃ y_ : List Int, y_ = (([(-1), 0, 6, (-2)] : List Int)) := ⟨_, rfl⟩
    rw [← hy167] at H
    have Ny167 := aM hy167
    clear hy167
    replace H := bE H
    obtain ⟨⟨t170, t171, t172⟩, A14, H⟩ := H
    dsimp only at H
    replace H := ifN H
    obtain ⟨c15, H⟩ := H
    have c15b0 : decide (0 ≤ t164) = true := decide_eq_true c15
    clear c15
    replace H := ifN H
    obtain ⟨c16, H⟩ := H
    have c16b0 : decide (t164 < (t155.length : Int)) = true := decide_eq_true c16
    clear c16
    obtain ⟨y173, hy173⟩ : ∃ y_ : List Int, y_ = (t155.set (t164 : Int).toNat t170) := ⟨_, rfl⟩
    rw [← hy173] at H
    have Ny173 := aM hy173
    clear hy173
    simp only [Option.some.injEq, Prod.mk.injEq] at H
    obtain ⟨rfl, rfl, rfl⟩ := H
    try go_wp2
    (try (rw [drewN_self w11]; generalize hq_ : World.drewN w11 _ = w11; have n0_ : Aside0 (Kd.R (Kd.int .i64) 3 w11 w.heap.size (fun _ => True) (.slice Ao7 t155.length co7) t155) := ⟨by rw [← hq_]; exact (by have X_ := HO157.out; exact TR)⟩; have n1_ : Aside0 (w11.heap[gb154]? = some (.cells #[.slice none 0 0] 26 (0, 0))) := ⟨by rw [← hq_]; exact TK⟩; have n2_ : Aside0 (w11.heap[gb160]? = some (.cells #[.slice Ao7 t155.length co7] 26 (0, 0))) := ⟨by rw [← hq_]; exact TK⟩; have n3_ : Aside0 (IsS47 w0 w11 g s0_0 t162 t163) := ⟨by rw [← hq_]; exact (by repeat (first | (with_reducible first | exact HI0.out | apply IsS47.alloc | apply IsS47.drewN | apply IsS47.drew | apply IsS47.set_1 | apply IsS47.set_2 | refine IsS47.far ?_ NB0_154.out _ | refine IsS47.far ?_ NB0_160.out _) | exact HI0.out))⟩; have n4_ : Aside0 (KeepBut w w11 g none) := ⟨by rw [← hq_]; exact (by repeat (first | (with_reducible first | exact HK.out | apply KeepBut.set_ | apply keep_drewN | apply keep_drew | apply keep_alloc | refine keep_far ?_ GW154.out _ | refine keep_far ?_ GW160.out _) | exact HK.out))⟩; have n5_ : Aside0 (Below w0.heap.size w0 w11) := ⟨by rw [← hq_]; exact (by repeat (first | (with_reducible first | exact HB.out | apply below_alloc | apply pw_below_drewN | apply below_drew1 | refine below_set ?_ (IsS47.ge HI0.out) | refine below_set ?_ GE154.out | refine below_set ?_ GE160.out) | exact HB.out))⟩; clear HO157 BK154 BK160 HI0 HK HB hq_; have HO157 := n0_; have BK154 := n1_; have BK160 := n2_; have HI0 := n3_; have HK := n4_; have HB := n5_; clear n0_ n1_ n2_ n3_ n4_ n5_))
    replace HO157 := aM (Kd.R_drew HO157.out)
    replace BK154 := aM (blk_drew BK154.out)
    replace BK160 := aM (blk_drew BK160.out)
    replace HI0 := aM (IsS47.drew HI0.out)
    replace HK := aM (keep_drew HK.out)
    replace HB := aM (below_drew1 HB.out)
    refine start_ (n := 12) (S := fun w' => w'.cell? ⟨gb160, 0, none⟩ = some (.slice Ao7 t155.length co7)) (ds := [11]) #[false, false, false, false, false, false, false, false, false, false, false, false] (by kernel_rfl) rfl rfl ((blk_cell BK160.out 0).trans rfl) (fun hHeld => ?_); refine with_tabW spec_l13Any.tab4 spec_l13Any.bits4 (fun HT_ HW_ => ?_)
    generalize w11.drew = w18 at HO157 BK154 BK160 HI0 HK HB hHeld ⊢
    refine pPe 0 (some 10) #[true, false, false, false, false, false, false, false, false, false, false, false] ?_
    refine pPe 2 (some 12) #[true, false, true, false, false, false, false, false, false, false, false, false] ?_
    refine pPe 3 (some 13) #[true, false, true, true, false, false, false, false, false, false, false, false] ?_
    refine pPe 7 (some 17) #[true, false, true, true, false, false, false, true, false, false, false, false] ?_
    refine pTe 1 (some 11) #[true, true, true, true, false, false, false, true, false, false, false, false] ?_
    refine pTe 4 (some 14) #[true, true, true, true, true, false, false, true, false, false, false, false] ?_
    refine pPe 5 (some 15) #[true, true, true, true, true, true, false, true, false, false, false, false] ?_
    refine join_ (σ := Value) 3 #[true, true, true, true, true, true, true, true, true, false, false, false] (fun s_ => [(16, .int .i64 t164), (18, s_)]) (fun s_ w' => (w'.cell? ⟨gb160, 0, none⟩ = some (.slice Ao7 t155.length co7)) ∧ (Kd.R (Kd.int .i64) 3 w' w.heap.size (fun k_ => some k_ ≠ (s_ : Value).ownBlock) (.slice Ao7 t155.length co7) t155) ∧ (Kd.R (Kd.int .i64) 3 w' w.heap.size (fun k_ => some k_ ≠ (.slice Ao7 t155.length co7 : Value).ownBlock) s_ y167) ∧ (w'.heap[gb154]? = some (.cells #[.slice none 0 0] 26 (0, 0))) ∧ (w'.heap[gb160]? = some (.cells #[.slice Ao7 t155.length co7] 26 (0, 0))) ∧ (IsS47 w0 w' g s0_0 t165 t166) ∧ (KeepBut w w' g none) ∧ (Below w0.heap.size w0 w')) ?_ ?_
    rotate_left
    · intro hCont
      refine two_ (i := 6) (j := 8) (Ni := some 16) (Nj := some 18) #[true, true, true, true, true, true, true, true, false, false, false, false] #[true, true, true, true, true, true, false, true, true, false, false, false] rfl rfl rfl rfl (two_of HT_.out (by kernel_rfl)) (by decide) (by decide) (fun K hK => ?_) (fun K hK => ?_)
      · skip
        refine gG Try.func27 #[.pointer (some ⟨g, 0, none⟩), .int .i64 (t155.length : Int)] ?_
        with_reducible refine (spec_l1Below.calls g s0_0 t162 t163 (t155.length : Int) t164 t165 t166 w0 _ ?side1 ?side2 A13.out).mono ?_
        (case side1 => repeat (first | (with_reducible first | exact HI0.out | apply IsS47.alloc | apply IsS47.drewN | apply IsS47.drew | apply IsS47.set_1 | apply IsS47.set_2 | refine IsS47.far ?_ NB0_154.out _ | refine IsS47.far ?_ NB0_160.out _) | exact HI0.out))
        (case side2 => repeat (first | (with_reducible first | exact HB.out | apply below_alloc | apply pw_below_drewN | apply below_drew1 | refine below_set ?_ (IsS47.ge HI0.out) | refine below_set ?_ GE154.out | refine below_set ?_ GE160.out) | exact HB.out))
        rintro e w19 ⟨rfl, hi, hb, hk⟩
        refine ⟨_, rfl, ?_⟩
        have n0_ := aM (KeepBut.blk hk (g' := gb154) (o := .cells #[.slice none 0 0] 26 (0, 0)) TK NB154_0.out (by simp))
        have n1_ := aM (Kd.R_mono (Kd.R_keep (IsS47.apart (show IsS47 w0 _ g s0_0 t162 t163 from by repeat (first | (with_reducible first | exact HI0.out | apply IsS47.alloc | apply IsS47.drewN | apply IsS47.drew | apply IsS47.set_1 | apply IsS47.set_2 | refine IsS47.far ?_ NB0_154.out _ | refine IsS47.far ?_ NB0_160.out _) | exact HI0.out)) (by have X_ := HO157.out; exact TR) (by decide)) hk (fun _ h => h.2)) (fun _ h => h.1))
        have n2_ := aM (KeepBut.blk hk (g' := gb160) (o := .cells #[.slice Ao7 t155.length co7] 26 (0, 0)) TK NB160_0.out (by simp))
        have n3_ := aM (KeepBut.trans (by repeat (first | (with_reducible first | exact HK.out | apply KeepBut.set_ | apply keep_drewN | apply keep_drew | apply keep_alloc | refine keep_far ?_ GW154.out _ | refine keep_far ?_ GW160.out _) | exact HK.out)) hk (.inl rfl))
        have n4_ := aM (hb)
        have n5_ := aM (hi)
        clear BK154
        clear HO157
        clear BK160
        clear HK
        clear HB
        clear HI0
        have BK154 := n0_
        have HO157 := n1_
        have BK160 := n2_
        have HK := n3_
        have HB := n4_
        have HI0 := n5_
        clear n0_ n1_ n2_ n3_ n4_ n5_
        (try clear hb)
        (try clear hb2)
        (try clear hk)
        (try clear hi)
        refine hK.out _ _ ((blk_cell BK160.out 0).trans rfl) (fun hHeld => ?_)
        clear hK K
        refine nR ?_
        refine pOe 8 (some 18) #[true, true, true, true, true, true, true, true, true, false, false, false] (fun K hK => ?_)
        refine Kd.R_lit_step (Kd.int .i64) _ 3 ?hg (N := 18) ?hd (xs := ([(-1), 0, 6, (-2)] : List Int)) (inner := [.int .i64 (-1), .int .i64 0, .int .i64 6, .int .i64 (-2)]) (ok := fun _ => True) (okp := fun _ => True) ?hr ?hp (fun _ hk => hk) trivial (Below.refl _ _) (Nat.le_refl _) (by simp) ?_; (case hd => rfl); (case hg => rfl); (case hr => first | (go_simp; done) | (go_simp; rfl)); (case hp => exact (Reps.one (show Kd.M (Kd.int .i64) _ _ _ (-1) [.int .i64 (-1)] from rfl) (Reps.one (show Kd.M (Kd.int .i64) _ _ _ 0 [.int .i64 0] from rfl) (Reps.one (show Kd.M (Kd.int .i64) _ _ _ 6 [.int .i64 6] from rfl) (Reps.one (show Kd.M (Kd.int .i64) _ _ _ (-2) [.int .i64 (-2)] from rfl) (Reps.none _ _))))))
        intro v168 w20 ho21 hb hg_ hnew_
        clear hg_ hnew_
        (first | rw [← Ny167.out] at ho21 | (simp only [Int.reduceToNat] at ho21; rw [← Ny167.out] at ho21))
        have n0_ := aM (Kd.R_elder' (by have X_ := HO157.out; exact TR) (Kd.R_base ho21) hb)
        have n1_ := aM (Kd.R_lower (Kd.R_new' ho21 (Kd.R_lt (by have X_ := HO157.out; exact TR))) (keep_size (w := w) (g := g) (row := none) (by repeat (first | (with_reducible first | exact HK.out | apply KeepBut.set_ | apply keep_drewN | apply keep_drew | apply keep_alloc | refine keep_far ?_ GW154.out _ | refine keep_far ?_ GW160.out _) | exact HK.out))))
        have n2_ := aM (IsS47.below (by repeat (first | (with_reducible first | exact HI0.out | apply IsS47.alloc | apply IsS47.drewN | apply IsS47.drew | apply IsS47.set_1 | apply IsS47.set_2 | refine IsS47.far ?_ NB0_154.out _ | refine IsS47.far ?_ NB0_160.out _) | exact HI0.out)) hb)
        have n3_ := aM (blk_below (g := gb154) (o := .cells #[.slice none 0 0] 26 (0, 0)) TK hb)
        have n4_ := aM (blk_below (g := gb160) (o := .cells #[.slice Ao7 t155.length co7] 26 (0, 0)) TK hb)
        have n5_ := aM (KeepBut.trans (by repeat (first | (with_reducible first | exact HK.out | apply KeepBut.set_ | apply keep_drewN | apply keep_drew | apply keep_alloc | refine keep_far ?_ GW154.out _ | refine keep_far ?_ GW160.out _) | exact HK.out)) (KeepBut.of_below hb g none) (.inl rfl))
        have n6_ := aM (below_step (by repeat (first | (with_reducible first | exact HB.out | apply below_alloc | apply pw_below_drewN | apply below_drew1 | refine below_set ?_ (IsS47.ge HI0.out) | refine below_set ?_ GE154.out | refine below_set ?_ GE160.out) | exact HB.out)) hb)
        clear HO157
        clear HI0
        clear BK154
        clear BK160
        clear HK
        clear HB
        have HO157 := n0_
        have HO169 := n1_
        have HI0 := n2_
        have BK154 := n3_
        have BK160 := n4_
        have HK := n5_
        have HB := n6_
        clear n0_ n1_ n2_ n3_ n4_ n5_ n6_
        clear hb ho21
        refine hK.out _ _ ((blk_cell BK160.out 0).trans rfl) (fun hHeld => ?_)
        clear hK K
        refine nR ?_
        exact norm_ (by simp only [putAll, Act.put, List.setIfInBounds_toArray, List.set_cons_zero, List.set_cons_succ]) (hCont (v168) _ ⟨hHeld, (by (with_reducible repeat (first | apply Kd.R_alloc | apply Kd.R_drewN | apply Kd.R_drew)); exact Kd.R_mono HO157.out (fun _ hk => hk.2)), (by (with_reducible repeat (first | apply Kd.R_alloc | apply Kd.R_drewN | apply Kd.R_drew)); exact Kd.R_mono HO169.out (fun _ hk => hk.2)), TK, TK, (by repeat (first | (with_reducible first | exact HI0.out | apply IsS47.alloc | apply IsS47.drewN | apply IsS47.drew | apply IsS47.set_1 | apply IsS47.set_2 | refine IsS47.far ?_ NB0_154.out _ | refine IsS47.far ?_ NB0_160.out _) | exact HI0.out)), (by repeat (first | (with_reducible first | exact HK.out | apply KeepBut.set_ | apply keep_drewN | apply keep_drew | apply keep_alloc | refine keep_far ?_ GW154.out _ | refine keep_far ?_ GW160.out _) | exact HK.out)), (by repeat (first | (with_reducible first | exact HB.out | apply below_alloc | apply pw_below_drewN | apply below_drew1 | refine below_set ?_ (IsS47.ge HI0.out) | refine below_set ?_ GE154.out | refine below_set ?_ GE160.out) | exact HB.out))⟩)
      · skip
        refine Kd.R_lit_step (Kd.int .i64) _ 3 ?hg (N := 18) ?hd (xs := ([(-1), 0, 6, (-2)] : List Int)) (inner := [.int .i64 (-1), .int .i64 0, .int .i64 6, .int .i64 (-2)]) (ok := fun _ => True) (okp := fun _ => True) ?hr ?hp (fun _ hk => hk) trivial (Below.refl _ _) (Nat.le_refl _) (by simp) ?_; (case hd => rfl); (case hg => rfl); (case hr => first | (go_simp; done) | (go_simp; rfl)); (case hp => exact (Reps.one (show Kd.M (Kd.int .i64) _ _ _ (-1) [.int .i64 (-1)] from rfl) (Reps.one (show Kd.M (Kd.int .i64) _ _ _ 0 [.int .i64 0] from rfl) (Reps.one (show Kd.M (Kd.int .i64) _ _ _ 6 [.int .i64 6] from rfl) (Reps.one (show Kd.M (Kd.int .i64) _ _ _ (-2) [.int .i64 (-2)] from rfl) (Reps.none _ _))))))
        intro v168 w19 ho20 hb hg_ hnew_
        clear hg_ hnew_
        (first | rw [← Ny167.out] at ho20 | (simp only [Int.reduceToNat] at ho20; rw [← Ny167.out] at ho20))
        have n0_ := aM (Kd.R_elder' (by have X_ := HO157.out; exact TR) (Kd.R_base ho20) hb)
        have n1_ := aM (Kd.R_lower (Kd.R_new' ho20 (Kd.R_lt (by have X_ := HO157.out; exact TR))) (keep_size (w := w) (g := g) (row := none) (by repeat (first | (with_reducible first | exact HK.out | apply KeepBut.set_ | apply keep_drewN | apply keep_drew | apply keep_alloc | refine keep_far ?_ GW154.out _ | refine keep_far ?_ GW160.out _) | exact HK.out))))
        have n2_ := aM (IsS47.below (by repeat (first | (with_reducible first | exact HI0.out | apply IsS47.alloc | apply IsS47.drewN | apply IsS47.drew | apply IsS47.set_1 | apply IsS47.set_2 | refine IsS47.far ?_ NB0_154.out _ | refine IsS47.far ?_ NB0_160.out _) | exact HI0.out)) hb)
        have n3_ := aM (blk_below (g := gb154) (o := .cells #[.slice none 0 0] 26 (0, 0)) TK hb)
        have n4_ := aM (blk_below (g := gb160) (o := .cells #[.slice Ao7 t155.length co7] 26 (0, 0)) TK hb)
        have n5_ := aM (KeepBut.trans (by repeat (first | (with_reducible first | exact HK.out | apply KeepBut.set_ | apply keep_drewN | apply keep_drew | apply keep_alloc | refine keep_far ?_ GW154.out _ | refine keep_far ?_ GW160.out _) | exact HK.out)) (KeepBut.of_below hb g none) (.inl rfl))
        have n6_ := aM (below_step (by repeat (first | (with_reducible first | exact HB.out | apply below_alloc | apply pw_below_drewN | apply below_drew1 | refine below_set ?_ (IsS47.ge HI0.out) | refine below_set ?_ GE154.out | refine below_set ?_ GE160.out) | exact HB.out)) hb)
        clear HO157
        clear HI0
        clear BK154
        clear BK160
        clear HK
        clear HB
        have HO157 := n0_
        have HO169 := n1_
        have HI0 := n2_
        have BK154 := n3_
        have BK160 := n4_
        have HK := n5_
        have HB := n6_
        clear n0_ n1_ n2_ n3_ n4_ n5_ n6_
        clear hb ho20
        refine hK.out _ _ ((blk_cell BK160.out 0).trans rfl) (fun hHeld => ?_)
        clear hK K
        refine nR ?_
        refine pOe 6 (some 16) #[true, true, true, true, true, true, true, true, true, false, false, false] (fun K hK => ?_)
        refine gG Try.func27 #[.pointer (some ⟨g, 0, none⟩), .int .i64 (t155.length : Int)] ?_
        with_reducible refine (spec_l1Below.calls g s0_0 t162 t163 (t155.length : Int) t164 t165 t166 w0 _ ?side1 ?side2 A13.out).mono ?_
        (case side1 => repeat (first | (with_reducible first | exact HI0.out | apply IsS47.alloc | apply IsS47.drewN | apply IsS47.drew | apply IsS47.set_1 | apply IsS47.set_2 | refine IsS47.far ?_ NB0_154.out _ | refine IsS47.far ?_ NB0_160.out _) | exact HI0.out))
        (case side2 => repeat (first | (with_reducible first | exact HB.out | apply below_alloc | apply pw_below_drewN | apply below_drew1 | refine below_set ?_ (IsS47.ge HI0.out) | refine below_set ?_ GE154.out | refine below_set ?_ GE160.out) | exact HB.out))
        rintro e w21 ⟨rfl, hi, hb, hk⟩
        refine ⟨_, rfl, ?_⟩
        have n0_ := aM (KeepBut.blk hk (g' := gb154) (o := .cells #[.slice none 0 0] 26 (0, 0)) TK NB154_0.out (by simp))
        have n1_ := aM (Kd.R_mono (Kd.R_keep (IsS47.apart (show IsS47 w0 _ g s0_0 t162 t163 from by repeat (first | (with_reducible first | exact HI0.out | apply IsS47.alloc | apply IsS47.drewN | apply IsS47.drew | apply IsS47.set_1 | apply IsS47.set_2 | refine IsS47.far ?_ NB0_154.out _ | refine IsS47.far ?_ NB0_160.out _) | exact HI0.out)) (by have X_ := HO157.out; exact TR) (by decide)) hk (fun _ h => h.2)) (fun _ h => h.1))
        have n2_ := aM (KeepBut.blk hk (g' := gb160) (o := .cells #[.slice Ao7 t155.length co7] 26 (0, 0)) TK NB160_0.out (by simp))
        have n3_ := aM (Kd.R_mono (Kd.R_keep (IsS47.apart (show IsS47 w0 _ g s0_0 t162 t163 from by repeat (first | (with_reducible first | exact HI0.out | apply IsS47.alloc | apply IsS47.drewN | apply IsS47.drew | apply IsS47.set_1 | apply IsS47.set_2 | refine IsS47.far ?_ NB0_154.out _ | refine IsS47.far ?_ NB0_160.out _) | exact HI0.out)) (by have X_ := HO169.out; exact TR) (by decide)) hk (fun _ h => h.2)) (fun _ h => h.1))
        have n4_ := aM (KeepBut.trans (by repeat (first | (with_reducible first | exact HK.out | apply KeepBut.set_ | apply keep_drewN | apply keep_drew | apply keep_alloc | refine keep_far ?_ GW154.out _ | refine keep_far ?_ GW160.out _) | exact HK.out)) hk (.inl rfl))
        have n5_ := aM (hb)
        have n6_ := aM (hi)
        clear BK154
        clear HO157
        clear BK160
        clear HO169
        clear HK
        clear HB
        clear HI0
        have BK154 := n0_
        have HO157 := n1_
        have BK160 := n2_
        have HO169 := n3_
        have HK := n4_
        have HB := n5_
        have HI0 := n6_
        clear n0_ n1_ n2_ n3_ n4_ n5_ n6_
        (try clear hb)
        (try clear hb2)
        (try clear hk)
        (try clear hi)
        refine hK.out _ _ ((blk_cell BK160.out 0).trans rfl) (fun hHeld => ?_)
        clear hK K
        refine nR ?_
        exact norm_ (by simp only [putAll, Act.put, List.setIfInBounds_toArray, List.set_cons_zero, List.set_cons_succ]) (hCont (v168) _ ⟨hHeld, (by (with_reducible repeat (first | apply Kd.R_alloc | apply Kd.R_drewN | apply Kd.R_drew)); exact Kd.R_mono HO157.out (fun _ hk => hk.2)), (by (with_reducible repeat (first | apply Kd.R_alloc | apply Kd.R_drewN | apply Kd.R_drew)); exact Kd.R_mono HO169.out (fun _ hk => hk.2)), TK, TK, (by repeat (first | (with_reducible first | exact HI0.out | apply IsS47.alloc | apply IsS47.drewN | apply IsS47.drew | apply IsS47.set_1 | apply IsS47.set_2 | refine IsS47.far ?_ NB0_154.out _ | refine IsS47.far ?_ NB0_160.out _) | exact HI0.out)), (by repeat (first | (with_reducible first | exact HK.out | apply KeepBut.set_ | apply keep_drewN | apply keep_drew | apply keep_alloc | refine keep_far ?_ GW154.out _ | refine keep_far ?_ GW160.out _) | exact HK.out)), (by repeat (first | (with_reducible first | exact HB.out | apply below_alloc | apply pw_below_drewN | apply below_drew1 | refine below_set ?_ (IsS47.ge HI0.out) | refine below_set ?_ GE154.out | refine below_set ?_ GE160.out) | exact HB.out))⟩)
    rintro v168 w22 ⟨hS_, h0_, h1_, h2_, h3_, h4_, h5_, h6_⟩
    have n0_ : Aside0 (Kd.R (Kd.int .i64) 3 w22 w.heap.size (fun k_ => some k_ ≠ (v168 : Value).ownBlock) (.slice Ao7 t155.length co7) t155) := ⟨h0_⟩
    have n1_ : Aside0 (Kd.R (Kd.int .i64) 3 w22 w.heap.size (fun k_ => some k_ ≠ (.slice Ao7 t155.length co7 : Value).ownBlock) v168 y167) := ⟨h1_⟩
    have n2_ : Aside0 (w22.heap[gb154]? = some (.cells #[.slice none 0 0] 26 (0, 0))) := ⟨h2_⟩
    have n3_ : Aside0 (w22.heap[gb160]? = some (.cells #[.slice Ao7 t155.length co7] 26 (0, 0))) := ⟨h3_⟩
    have n4_ : Aside0 (IsS47 w0 w22 g s0_0 t165 t166) := ⟨h4_⟩
    have n5_ : Aside0 (KeepBut w w22 g none) := ⟨h5_⟩
    have n6_ : Aside0 (Below w0.heap.size w0 w22) := ⟨h6_⟩
    clear HO157
    clear BK154
    clear BK160
    clear HI0
    clear HK
    clear HB
    clear h0_ h1_ h2_ h3_ h4_ h5_ h6_
    have HO157 := n0_
    have HO169 := n1_
    have BK154 := n2_
    have BK160 := n3_
    have HI0 := n4_
    have HK := n5_
    have HB := n6_
    clear n0_ n1_ n2_ n3_ n4_ n5_ n6_
    have hHeld : w22.cell? ⟨gb160, 0, none⟩ = some (.slice Ao7 t155.length co7) := hS_
    obtain ⟨Ao23, co23, eo23⟩ := Kd.R_slice HO169.out
    (first | subst eo23 | (injection eo23 with f1_ f2_ f3_; have f4_ := f1_.symm; have f5_ := f3_.symm; clear f1_ f2_ f3_; subst f4_; subst f5_))
    refine norm_ (a' := ?_) ?_ ?_
    rotate_left
    · simp only [putAll, Act.put, List.setIfInBounds_toArray, List.set_cons_zero, List.set_cons_succ]
      rfl
    refine pOe 9 (some 19) #[true, true, true, true, true, true, true, true, true, true, false, false] (fun K hK => ?_)
    refine gG Try.func38 #[.pointer (some ⟨g, 0, none⟩), .slice Ao23 y167.length co23] ?_
    with_reducible refine (spec_l1Int.calls g s0_0 t165 t166 _ _ y167 t170 t171 t172 w0 _ ?side1 ?side2 ?side3 ?side4 ?side5 A14.out).mono ?_
    (case side1 => repeat (first | (with_reducible first | exact HI0.out | apply IsS47.alloc | apply IsS47.drewN | apply IsS47.drew | apply IsS47.set_1 | apply IsS47.set_2 | refine IsS47.far ?_ NB0_154.out _ | refine IsS47.far ?_ NB0_160.out _) | exact HI0.out))
    (case side2 => repeat (first | (with_reducible first | exact HB.out | apply below_alloc | apply pw_below_drewN | apply below_drew1 | refine below_set ?_ (IsS47.ge HI0.out) | refine below_set ?_ GE154.out | refine below_set ?_ GE160.out) | exact HB.out))
    (case side3 => have X_ := (Kd.R_reads' HO169.out).2.2; exact TC)
    (case side4 => exact (Kd.R_reads' HO169.out).2.1)
    (case side5 => exact far_slice (IsS47.own_ne HI0.out HO169.out (by decide)))
    rintro e w24 ⟨rfl, hi, hb, hk⟩
    refine ⟨_, rfl, ?_⟩
    have n0_ := aM (KeepBut.blk hk (g' := gb154) (o := .cells #[.slice none 0 0] 26 (0, 0)) TK NB154_0.out (by simp))
    have n1_ := aM (Kd.R_mono (Kd.R_keep (IsS47.apart (show IsS47 w0 _ g s0_0 t165 t166 from by repeat (first | (with_reducible first | exact HI0.out | apply IsS47.alloc | apply IsS47.drewN | apply IsS47.drew | apply IsS47.set_1 | apply IsS47.set_2 | refine IsS47.far ?_ NB0_154.out _ | refine IsS47.far ?_ NB0_160.out _) | exact HI0.out)) (by have X_ := HO157.out; exact TR) (by decide)) hk (fun _ h => h.2)) (fun _ h => h.1))
    have n2_ := aM (KeepBut.blk hk (g' := gb160) (o := .cells #[.slice Ao7 t155.length co7] 26 (0, 0)) TK NB160_0.out (by simp))
    have n3_ := aM (Kd.R_mono (Kd.R_keep (IsS47.apart (show IsS47 w0 _ g s0_0 t165 t166 from by repeat (first | (with_reducible first | exact HI0.out | apply IsS47.alloc | apply IsS47.drewN | apply IsS47.drew | apply IsS47.set_1 | apply IsS47.set_2 | refine IsS47.far ?_ NB0_154.out _ | refine IsS47.far ?_ NB0_160.out _) | exact HI0.out)) (by have X_ := HO169.out; exact TR) (by decide)) hk (fun _ h => h.2)) (fun _ h => h.1))
    have n4_ := aM (KeepBut.trans (by repeat (first | (with_reducible first | exact HK.out | apply KeepBut.set_ | apply keep_drewN | apply keep_drew | apply keep_alloc | refine keep_far ?_ GW154.out _ | refine keep_far ?_ GW160.out _) | exact HK.out)) hk (.inl rfl))
    have n5_ := aM (hb)
    have n6_ := aM (hi)
    clear BK154
    clear HO157
    clear BK160
    clear HO169
    clear HK
    clear HB
    clear HI0
    have BK154 := n0_
    have HO157 := n1_
    have BK160 := n2_
    have HO169 := n3_
    have HK := n4_
    have HB := n5_
    have HI0 := n6_
    clear n0_ n1_ n2_ n3_ n4_ n5_ n6_
    (try clear hb)
    (try clear hb2)
    (try clear hk)
    (try clear hi)
    have p17 : 0 ≤ (t164 : Int) := DT
    have q17 : (t164 : Int) < ((t155.length : Int) : Int) := DT
    obtain ⟨go17, co17, eo17, gb17, gl17, cl17, HG17⟩ := Kd.R_form HO157.out (by omega)
    (first | cases eo17 | (injection eo17 with ea_ en_ ec_; (first | subst ea_ | (injection ea_ with ea_; subst ea_)); subst ec_; clear en_))
    have GB17 := aM gb17
    have GG17 := aM HG17
    clear gb17 gl17 HG17
    obtain ⟨hx17_0, hf17_0⟩ := Kd.R_celln 0 HO157.out (t164 : Int) p17 q17
    replace p17 := eq_true p17
    replace q17 := eq_true q17
    have HN0_go17 := aM (show g ≠ go17 from by have h_ := IsS47.own_ne HI0.out HO157.out (by decide); intro e_; exact h_ (by rw [e_]; rfl))
    have HP25 := Kd.R_putn HO157.out (t164 : Int) t170
    rw [← Ny173.out] at HP25
    have HQ25 := aM HP25
    clear HP25
    refine hK.out _ _ ((blk_cell BK160.out 0).trans rfl) (fun hHeld => ?_)
    clear hK K
    refine nR ?_
    refine pPe 10 (some 20) #[true, true, true, true, true, true, true, true, true, true, true, false] ?_
    refine pLe 11 none #[true, true, true, true, true, true, true, true, true, true, true, true] (fun K hK => ?_)
    refine skip_ (w1 := ?_) (by rfl) rfl ?_ ?_
    rotate_left
    · go_simp
      rfl
    refine hK.out _ _ ?_
    clear hK K
    refine done_ (done_of HT_.out (by kernel_rfl)) ?_
    have n0_ : Aside0 (Kd.R (Kd.int .i64) 3 (w24.setCell ⟨go17, (t164 : Int).toNat, none⟩ (.int .i64 t170)) w.heap.size (fun k_ => some k_ ≠ (.slice Ao23 y167.length co23 : Value).ownBlock) (.slice (some ⟨go17, 0, none⟩) t155.length co7) y173) := ⟨by have X_ := HQ25.out; exact TR⟩
    have n1_ : Aside0 (Kd.R (Kd.int .i64) 3 (w24.setCell ⟨go17, (t164 : Int).toNat, none⟩ (.int .i64 t170)) w.heap.size (fun k_ => some k_ ≠ (.slice (some ⟨go17, 0, none⟩) t155.length co7 : Value).ownBlock) (.slice Ao23 y167.length co23) y167) := ⟨by (with_reducible repeat (first | apply Kd.R_alloc | apply Kd.R_drewN | apply Kd.R_drew)); exact Kd.R_mono (Kd.R_far (p := ⟨go17, (t164 : Int).toNat, none⟩) (Kd.R_mono HO169.out (fun k_ hk => (⟨hk, fun e_ => hk (by rw [e_]; rfl)⟩ : _ ∧ k_ ≠ go17))) (fun _ hk => hk.2) (.int .i64 t170)) (fun _ hk => hk.1)⟩
    have n2_ : Aside0 ((w24.setCell ⟨go17, (t164 : Int).toNat, none⟩ (.int .i64 t170)).heap[gb154]? = some (.cells #[.slice none 0 0] 26 (0, 0))) := ⟨by (with_reducible repeat (first | refine blk_drewN ?_ _ | refine blk_drew ?_ | refine blk_alloc ?_ _)); refine blk_far ?_ (by have h_ := Kd.R_ne HO157.out BK154.out (by decide); intro e_; exact h_ (by rw [e_]; rfl)) _; (with_reducible repeat (first | refine blk_drewN ?_ _ | refine blk_drew ?_ | refine blk_alloc ?_ _)); exact BK154.out⟩
    have n3_ : Aside0 ((w24.setCell ⟨go17, (t164 : Int).toNat, none⟩ (.int .i64 t170)).heap[gb160]? = some (.cells #[.slice (some ⟨go17, 0, none⟩) t155.length co7] 26 (0, 0))) := ⟨by (with_reducible repeat (first | refine blk_drewN ?_ _ | refine blk_drew ?_ | refine blk_alloc ?_ _)); refine blk_far ?_ (by have h_ := Kd.R_ne HO157.out BK160.out (by decide); intro e_; exact h_ (by rw [e_]; rfl)) _; (with_reducible repeat (first | refine blk_drewN ?_ _ | refine blk_drew ?_ | refine blk_alloc ?_ _)); exact BK160.out⟩
    have n4_ : Aside0 (IsS47 w0 (w24.setCell ⟨go17, (t164 : Int).toNat, none⟩ (.int .i64 t170)) g s0_0 t171 t172) := ⟨by repeat (first | (with_reducible first | exact HI0.out | apply IsS47.alloc | apply IsS47.drewN | apply IsS47.drew | apply IsS47.set_1 | apply IsS47.set_2 | refine IsS47.far ?_ HN0_go17.out _ | refine IsS47.far ?_ NB0_154.out _ | refine IsS47.far ?_ NB0_160.out _) | exact HI0.out)⟩
    have n5_ : Aside0 (KeepBut w (w24.setCell ⟨go17, (t164 : Int).toNat, none⟩ (.int .i64 t170)) g none) := ⟨by repeat (first | (with_reducible first | exact HK.out | apply KeepBut.set_ | apply keep_drewN | apply keep_drew | apply keep_alloc | refine keep_far ?_ GB17.out _ | refine keep_far ?_ GW154.out _ | refine keep_far ?_ GW160.out _) | exact HK.out)⟩
    have n6_ : Aside0 (Below w0.heap.size w0 (w24.setCell ⟨go17, (t164 : Int).toNat, none⟩ (.int .i64 t170))) := ⟨by repeat (first | (with_reducible first | exact HB.out | apply below_alloc | apply pw_below_drewN | apply below_drew1 | refine below_set ?_ (Nat.le_trans HL.out GB17.out) | refine below_set ?_ (IsS47.ge HI0.out) | refine below_set ?_ GE154.out | refine below_set ?_ GE160.out) | exact HB.out)⟩
    (try clear HO157)
    (try clear HO169)
    (try clear BK154)
    (try clear BK160)
    (try clear HI0)
    (try clear HK)
    (try clear HB)
    generalize (w24.setCell ⟨go17, (t164 : Int).toNat, none⟩ (.int .i64 t170)) = w26 at n0_ n1_ n2_ n3_ n4_ n5_ n6_ ⊢
    have HO157 := n0_
    have HO169 := n1_
    have BK154 := n2_
    have BK160 := n3_
    have HI0 := n4_
    have HK := n5_
    have HB := n6_
    clear n0_ n1_ n2_ n3_ n4_ n5_ n6_
    have hnb27 := NB160_154.out
    have hnc27 := NB154_160.out
    have hnb28 := NB160_0.out
    have hnc28 := NB0_160.out
    have hcz29_0 : w26.cell? ⟨gb160, 0, none⟩ = some (.slice (some ⟨go17, 0, none⟩) t155.length co7) := (blk_cell BK160.out 0).trans rfl
    have hfz29_0 := blk_frozen BK160.out 0
    have hnb30 := NB154_0.out
    have hnc30 := NB0_154.out
    have hcz31_0 : w26.cell? ⟨gb154, 0, none⟩ = some (.slice none 0 0) := (blk_cell BK154.out 0).trans rfl
    have hfz31_0 := blk_frozen BK154.out 0
    try go_wp2
    refine bodyPost_ret (results_cell_row rfl _ _ gb154 26 #[.slice (some ⟨go17, 0, none⟩) t155.length co7] (0, 0) _ rfl (by (with_reducible repeat (first | refine blk_drewN ?_ _ | refine blk_drew ?_ | refine blk_alloc ?_ _)); refine blk_put (cs := #[.slice none 0 0]) ?_ 0 _ rfl; (with_reducible repeat (first | refine blk_drewN ?_ _ | refine blk_drew ?_ | refine blk_alloc ?_ _)); exact BK154.out) Try.underlying26 rfl (by kernel_rfl)) rfl ?_
    exact ⟨_, by first | rfl | (simp [errW_none, errW_some] <;> rfl) | (simp [*, errW_none, errW_some] <;> rfl), by (with_reducible repeat (first | apply Kd.R_alloc | apply Kd.R_drewN | apply Kd.R_drew)); exact Kd.R_mono (Kd.R_far (p := ⟨gb154, 0, none⟩) (Kd.R_types HO157.out BK154.out (by decide)) (fun _ hk => hk.2) (.slice (some ⟨go17, 0, none⟩) t155.length co7)) (fun _ hk => trivial), by repeat (first | (with_reducible first | exact HI0.out | apply IsS47.alloc | apply IsS47.drewN | apply IsS47.drew | apply IsS47.set_1 | apply IsS47.set_2 | refine IsS47.far ?_ NB0_154.out _ | refine IsS47.far ?_ NB0_160.out _) | exact HI0.out), by repeat (first | (with_reducible first | exact HB.out | apply below_alloc | apply pw_below_drewN | apply below_drew1 | refine below_set ?_ (IsS47.ge HI0.out) | refine below_set ?_ GE154.out | refine below_set ?_ GE160.out) | exact HB.out), by repeat (first | (with_reducible first | exact HK.out | apply KeepBut.set_ | apply keep_drewN | apply keep_drew | apply keep_alloc | refine keep_far ?_ GW154.out _ | refine keep_far ?_ GW160.out _) | exact HK.out)⟩
  · rw [if_neg c12] at H
    have c12b0 : (t161 == 0) = false := beq_eq_false_iff_ne.mpr c12
    have c12b1 : (t161 != 0) = true := bne_iff_ne.mpr c12
    by_cases c32 : t161 = 1
    · rw [if_pos c32] at H
      have c32b0 : (t161 == 1) = true := beq_iff_eq.mpr c32
      have c32b1 : (t161 != 1) = false := bne_eq_false_iff_eq.mpr c32
      clear c32
      obtain ⟨y174, hy174⟩ : ∃ y_ : List Int, y_ = (([] : List Int)) := ⟨_, rfl⟩
      rw [← hy174] at H
      have Ny174 := aM hy174
      clear hy174
      simp only [Option.some.injEq, Prod.mk.injEq] at H
      obtain ⟨rfl, rfl, rfl⟩ := H
      go_wp2_with (first | ((with_reducible refine gate_dst (N := 23) rfl ?_); refine Kd.R_lit (Kd.int .i64) _ 3 ?hg (N := 23) ?hd (xs := ([] : List Int)) (inner := []) (ok := fun _ => True) (okp := fun _ => True) ?hr ?hp (fun _ hk => hk) trivial (Below.refl _ _) (Nat.le_refl _) (by simp) ?_; (case hd => rfl); (case hg => rfl); (case hr => first | (go_simp; done) | (go_simp; rfl)); (case hp => exact (Reps.none _ _)); intro v175 w33 ho34 hb hg_ hnew_; clear hg_ hnew_; (first | rw [← Ny174.out] at ho34 | (simp only [Int.reduceToNat] at ho34; rw [← Ny174.out] at ho34)); have HO176 := aM (Kd.R_lower (Kd.R_new' ho34 (Kd.R_lt (by have X_ := HO157.out; exact TR))) (keep_size (w := w) (g := g) (row := none) (by repeat (first | (with_reducible first | exact HK.out | apply KeepBut.set_ | apply keep_drewN | apply keep_drew | apply keep_alloc | refine keep_far ?_ GW154.out _ | refine keep_far ?_ GW160.out _) | exact HK.out)))); replace HO157 := aM (Kd.R_elder' (by have X_ := HO157.out; exact TR) (Kd.R_base ho34) hb); replace BK154 := aM (blk_below (g := gb154) (o := .cells #[.slice none 0 0] 26 (0, 0)) TK hb); replace BK160 := aM (blk_below (g := gb160) (o := .cells #[.slice Ao7 t155.length co7] 26 (0, 0)) TK hb); replace HK := aM (KeepBut.trans (by repeat (first | (with_reducible first | exact HK.out | apply KeepBut.set_ | apply keep_drewN | apply keep_drew | apply keep_alloc | refine keep_far ?_ GW154.out _ | refine keep_far ?_ GW160.out _) | exact HK.out)) (KeepBut.of_below hb g none) (.inl rfl)); replace HB := aM (below_step (by repeat (first | (with_reducible first | exact HB.out | apply below_alloc | apply pw_below_drewN | apply below_drew1 | refine below_set ?_ (IsS47.ge HI0.out) | refine below_set ?_ GE154.out | refine below_set ?_ GE160.out) | exact HB.out)) hb); replace HI0 := aM (IsS47.below (by repeat (first | (with_reducible first | exact HI0.out | apply IsS47.alloc | apply IsS47.drewN | apply IsS47.drew | apply IsS47.set_1 | apply IsS47.set_2 | refine IsS47.far ?_ NB0_154.out _ | refine IsS47.far ?_ NB0_160.out _) | exact HI0.out)) hb); clear hb ho34; obtain ⟨Ao35, co35, eo35⟩ := Kd.R_slice HO176.out; subst eo35; have hnb36 := NB160_154.out; have hnc36 := NB154_160.out; have hnb37 := NB160_0.out; have hnc37 := NB0_160.out; have hcz38_0 : w33.cell? ⟨gb160, 0, none⟩ = some (.slice Ao7 t155.length co7) := (blk_cell BK160.out 0).trans rfl; have hfz38_0 := blk_frozen BK160.out 0; have hnb39 := NB154_0.out; have hnc39 := NB0_154.out; have hcz40_0 : w33.cell? ⟨gb154, 0, none⟩ = some (.slice none 0 0) := (blk_cell BK154.out 0).trans rfl; have hfz40_0 := blk_frozen BK154.out 0))
      refine bodyPost_ret (results_cell_row rfl _ _ gb154 26 #[.slice Ao35 y174.length co35] (0, 0) _ rfl (by (with_reducible repeat (first | refine blk_drewN ?_ _ | refine blk_drew ?_ | refine blk_alloc ?_ _)); refine blk_put (cs := #[.slice none 0 0]) ?_ 0 _ rfl; (with_reducible repeat (first | refine blk_drewN ?_ _ | refine blk_drew ?_ | refine blk_alloc ?_ _)); refine blk_far ?_ NB154_160.out _; (with_reducible repeat (first | refine blk_drewN ?_ _ | refine blk_drew ?_ | refine blk_alloc ?_ _)); exact BK154.out) Try.underlying26 rfl (by kernel_rfl)) rfl ?_
      exact ⟨_, by first | rfl | (simp [errW_none, errW_some] <;> rfl) | (simp [*, errW_none, errW_some] <;> rfl), by (with_reducible repeat (first | apply Kd.R_alloc | apply Kd.R_drewN | apply Kd.R_drew)); exact Kd.R_mono (Kd.R_far (p := ⟨gb154, 0, none⟩) (Kd.R_far (p := ⟨gb160, 0, none⟩) (Kd.R_types (Kd.R_types HO176.out BK160.out (by decide)) BK154.out (by decide)) (fun _ hk => hk.1.2) (.slice Ao35 y174.length co35)) (fun _ hk => hk.2) (.slice Ao35 y174.length co35)) (fun _ hk => trivial), by repeat (first | (with_reducible first | exact HI0.out | apply IsS47.alloc | apply IsS47.drewN | apply IsS47.drew | apply IsS47.set_1 | apply IsS47.set_2 | refine IsS47.far ?_ NB0_154.out _ | refine IsS47.far ?_ NB0_160.out _) | exact HI0.out), by repeat (first | (with_reducible first | exact HB.out | apply below_alloc | apply pw_below_drewN | apply below_drew1 | refine below_set ?_ (IsS47.ge HI0.out) | refine below_set ?_ GE154.out | refine below_set ?_ GE160.out) | exact HB.out), by repeat (first | (with_reducible first | exact HK.out | apply KeepBut.set_ | apply keep_drewN | apply keep_drew | apply keep_alloc | refine keep_far ?_ GW154.out _ | refine keep_far ?_ GW160.out _) | exact HK.out)⟩
    · rw [if_neg c32] at H
      have c32b0 : (t161 == 1) = false := beq_eq_false_iff_ne.mpr c32
      have c32b1 : (t161 != 1) = true := bne_iff_ne.mpr c32
      simp only [Option.some.injEq, Prod.mk.injEq] at H
      obtain ⟨rfl, rfl, rfl⟩ := H
      have hnb41 := NB160_154.out
      have hnc41 := NB154_160.out
      have hnb42 := NB160_0.out
      have hnc42 := NB0_160.out
      have hcz43_0 : w11.cell? ⟨gb160, 0, none⟩ = some (.slice Ao7 t155.length co7) := (blk_cell BK160.out 0).trans rfl
      have hfz43_0 := blk_frozen BK160.out 0
      have hnb44 := NB154_0.out
      have hnc44 := NB0_154.out
      have hcz45_0 : w11.cell? ⟨gb154, 0, none⟩ = some (.slice none 0 0) := (blk_cell BK154.out 0).trans rfl
      have hfz45_0 := blk_frozen BK154.out 0
      go_wp2
      refine bodyPost_ret (results_cell_row rfl _ _ gb154 26 #[.slice Ao7 t155.length co7] (0, 0) _ rfl (by (with_reducible repeat (first | refine blk_drewN ?_ _ | refine blk_drew ?_ | refine blk_alloc ?_ _)); refine blk_put (cs := #[.slice none 0 0]) ?_ 0 _ rfl; (with_reducible repeat (first | refine blk_drewN ?_ _ | refine blk_drew ?_ | refine blk_alloc ?_ _)); exact BK154.out) Try.underlying26 rfl (by kernel_rfl)) rfl ?_
      exact ⟨_, by first | rfl | (simp [errW_none, errW_some] <;> rfl) | (simp [*, errW_none, errW_some] <;> rfl), by (with_reducible repeat (first | apply Kd.R_alloc | apply Kd.R_drewN | apply Kd.R_drew)); exact Kd.R_mono (Kd.R_far (p := ⟨gb154, 0, none⟩) (Kd.R_types HO157.out BK154.out (by decide)) (fun _ hk => hk.2) (.slice Ao7 t155.length co7)) (fun _ hk => trivial), by repeat (first | (with_reducible first | exact HI0.out | apply IsS47.alloc | apply IsS47.drewN | apply IsS47.drew | apply IsS47.set_1 | apply IsS47.set_2 | refine IsS47.far ?_ NB0_154.out _ | refine IsS47.far ?_ NB0_160.out _) | exact HI0.out), by repeat (first | (with_reducible first | exact HB.out | apply below_alloc | apply pw_below_drewN | apply below_drew1 | refine below_set ?_ (IsS47.ge HI0.out) | refine below_set ?_ GE154.out | refine below_set ?_ GE160.out) | exact HB.out), by repeat (first | (with_reducible first | exact HK.out | apply KeepBut.set_ | apply keep_drewN | apply keep_drew | apply keep_alloc | refine keep_far ?_ GW154.out _ | refine keep_far ?_ GW160.out _) | exact HK.out)⟩

end Go.Proofs.Ytmaeahbiiiifmaa.Q
