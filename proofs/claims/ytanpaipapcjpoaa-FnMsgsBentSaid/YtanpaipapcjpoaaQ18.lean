/- Functions of the program as plain Lean functions, and that a call of each comes to what its function tells. Written by a program of this seat. -/
import Derived.Test.YtanpaipapcjpoaaQ0
import Derived.Test.YtanpaipapcjpoaaQ13
import Derived.Test.YtanpaipapcjpoaaQ15
import Derived.Test.YtanpaipapcjpoaaQ17
namespace Go.Proofs.Ytanpaipapcjpoaa.Q
open Go.RowKit Go.Proofs.YtanpaipapcjpoaaW.PrintWords Go.Proofs.YtanpaipapcjpoaaW.PrintLast Go.Proofs.YtanpaipapcjpoaaW.PrintMore
attribute [local go_sem] min2_int min_two
set_option linter.unusedVariables false
set_option linter.unusedSimpArgs false

def impl_PutVar.f (k : Nat) (l0 : List Int) (a1 : Int) : Option (List Int) := (impl_cloned.f l0).bind fun t331 => ((impl_within.f a1 0 1000000000000).bind fun t334 => (if t334 = true then ((impl_appendVar.f k t331 a1).bind fun t335 => (some t335)) else (some t331)))
theorem impl_PutVar.mono : ∀ a0 a1 k, LeO (impl_PutVar.f k a0 a1) (impl_PutVar.f (k + 1) a0 a1) := by
  intro a0 a1 k;have m0_ := @impl_appendVar.mono;unfold impl_PutVar.f;exact LM
set_option maxHeartbeats 40000000 in
set_option maxRecDepth 100000 in
theorem impl_PutVar.calls (k : Nat) (A0 : Option Addr) (c0 : Nat) (l0 : List Int) (a1 : Int) (r : List Int) (w : World) (hr0 : Kd.C (Kd.int .u8) w A0 l0.length l0) (hc0 : l0.length ≤ c0) (h : impl_PutVar.f k l0 a1 = some r) :
    Calls Try.prog 42 #[.slice A0 l0.length c0, .int .i64 a1] w fun e w' => ∃ v0_ : Value, e = .returned (v0_) ∧ Kd.R (Kd.int .u8) 5 w' w.heap.size (fun _ => True) v0_ r ∧ Below w.heap.size w w' := by
  have HR0 := aM hr0
  have HC0 := aM hc0
  clear hr0 hc0
  have HB := aM (Below.refl w.heap.size w)
  have H := h
  clear h
  unfold impl_PutVar.f at H
  replace H := bE H
  obtain ⟨t331, A3, H⟩ := H
  replace H := bE H
  obtain ⟨t334, A4, H⟩ := H
  go_enter Try.func42, Try.ntmps42
  go_wp2_with (first | ((with_reducible refine gate_callee (f := 78) rfl ?_); refine gL (some 7) Try.func78 #[.slice A0 l0.length c0] ?_; (with_reducible refine (impl_cloned.calls _ _ l0 t331 _ ?side1 ?side2 A3.out).mono ?_); (case side1 => have X_ := HR0.out; exact TC); (case side2 => exact HC0.out); rintro e w6 ⟨v332, rfl, ho0, hb⟩; refine ⟨_, rfl, ?_⟩; have HO333 := aM (Kd.R_lower ho0 (below_size TB)); replace HB := bS HB hb; clear ho0 hb) | ((with_reducible refine gate_callee (f := 40) rfl ?_); refine gL (some 9) Try.func40 #[.int .i64 a1, .int .i64 0, .int .i64 1000000000000] ?_; (with_reducible refine (impl_within.calls a1 0 1000000000000 t334 _ A4.out).mono ?_); rintro e w' ⟨rfl, ⟨nd, rfl⟩⟩; refine ⟨_, rfl, ?_⟩) | ((with_reducible refine gate_dst (N := 10) rfl ?_); generalize hG_ : wpList _ _ _ _ _ _ = G_))
  subst hG_
  by_cases c7 : t334 = true
  · subst c7
    replace H := ifT H
    replace H := bE H
    obtain ⟨t335, A8, H⟩ := H
    obtain rfl := Option.some.inj H
    obtain ⟨Ao9, co9, eo9⟩ := Kd.R_slice HO333.out
    subst eo9
    go_wp2_with (first | ((with_reducible refine gate_callee (f := 79) rfl ?_); refine gL (some 14) Try.func79 #[.slice Ao9 t331.length co9, .int .i64 a1] ?_; (with_reducible refine (impl_appendVar.calls k (fun k_ => some k_ = (.slice Ao9 t331.length co9 : Value).ownBlock) (.slice Ao9 t331.length co9) t331 a1 t335 w _ ?side1 ?side2 A8.out).mono ?_); (case side1 => exact TB); (case side2 => exact Kd.R_tight rfl HO333.out); rintro e w10 ⟨v336, rfl, ho0, hb, hkp⟩; refine ⟨_, rfl, ?_⟩; have HO337 := aM (Kd.R_mono (ok' := fun k_ => True) ho0 (fun k_ hk_ => trivial)); replace HB := aM (hb); clear HO333; clear hb; (try clear hkp); (try clear ho0)))
    go_ret
    exact ⟨_, TE, by have X_ := HO337.out; exact TR, TB⟩
  · replace c7 := Bool.eq_false_iff.mpr c7
    subst c7
    replace H := ifF H
    obtain rfl := Option.some.inj H
    go_wp2
    go_ret
    exact ⟨_, TE, by have X_ := HO333.out; exact TR, TB⟩

def impl_PutMan.l0 : Nat → List Int → List (S83) → Int → Int → Option (List Int)
  | 0, _, _, _, _ => none
  | k + 1, x5, x24, x25, x26 => if x26 < x25 then (if 0 ≤ x26 then (if x26 < (x24.length : Int) then ((impl_appendVar.f k x5 ((rd_T83 x24 x26).f1)).bind fun t354 => (impl_PutMan.l0 k t354 x24 x25 (wrap64 (x26 + 1)))) else (none)) else (none)) else (some x5)
def impl_PutMan.f (k : Nat) (l0 : List Int) (a1_0 : Int) (a1_1 : Int) (a1_2 : Int) (l1_3 : List (S83)) : Option (List Int) := (impl_ManOk.f k a1_0 a1_1 a1_2 l1_3).bind fun t339 => (if t339 = true then ((impl_PutVar.f k l0 a1_0).bind fun t343 => ((impl_PutVar.f k t343 a1_1).bind fun t346 => ((impl_PutVar.f k t346 a1_2).bind fun t349 => (impl_PutMan.l0 k t349 l1_3 (l1_3.length : Int) 0)))) else ((impl_cloned.f l0).bind fun t340 => (some t340)))
theorem impl_PutMan.mono_l : ∀ k, (∀ y0 y1 y2 y3, LeO (impl_PutMan.l0 k y0 y1 y2 y3) (impl_PutMan.l0 (k + 1) y0 y1 y2 y3))
  | 0 => fun _ _ _ _ r h => by simp [impl_PutMan.l0] at h
  | k + 1 => by
    have m0_ := @impl_ManOk.mono
    have m1_ := @impl_PutVar.mono
    have m2_ := @impl_appendVar.mono
    have ih0 := impl_PutMan.mono_l k
    · intro y0 y1 y2 y3
      unfold impl_PutMan.l0
      exact LM
theorem impl_PutMan.mono : ∀ a0 a1 a2 a3 a4 k, LeO (impl_PutMan.f k a0 a1 a2 a3 a4) (impl_PutMan.f (k + 1) a0 a1 a2 a3 a4) := by
  intro a0 a1 a2 a3 a4 k;have m0_ := @impl_ManOk.mono;have m1_ := @impl_PutVar.mono;have m2_ := @impl_appendVar.mono;have ih0 := impl_PutMan.mono_l k;unfold impl_PutMan.f;exact LM
def impl_PutMan.T3 : Bool × List (List Nat × List Nat) := (true, [([], []), ([], []), ([1], [1]), ([0, 2], [0, 2]), ([], []), ([4], [4]), ([3, 5, 3], [3, 5]), ([], []), ([7], [7]), ([6, 8, 6], [6, 8]), ([9, 9, 0, 1, 2, 3, 4, 5, 6, 7, 8, 9], [9])])
def impl_PutMan.B3 : List Nat := [0, 0, 2, 7, 0, 16, 63, 0, 128, 511, 1023]
theorem impl_PutMan.tab3 : rtab .any (opsOf Try.f43 3) = impl_PutMan.T3 := by kernel_rfl
theorem impl_PutMan.bits3 : waitsOk impl_PutMan.T3.2 impl_PutMan.B3 = true := by kernel_rfl
set_option maxHeartbeats 40000000 in
set_option maxRecDepth 100000 in
theorem impl_PutMan.calls (k : Nat) (A0 : Option Addr) (c0 : Nat) (l0 : List Int) (a1_0 : Int) (a1_1 : Int) (a1_2 : Int) (A1_3 : Option Addr) (c1_3 : Nat) (l1_3 : List (S83)) (r : List Int) (w : World) (hr0 : Kd.C (Kd.int .u8) w A0 l0.length l0) (hc0 : l0.length ≤ c0) (hr1_3 : Kd.C k83 w A1_3 l1_3.length l1_3) (hc1_3 : l1_3.length ≤ c1_3) (h : impl_PutMan.f k l0 a1_0 a1_1 a1_2 l1_3 = some r) :
    Calls Try.prog 43 #[.slice A0 l0.length c0, .agg #[.int .i64 a1_0, .int .i64 a1_1, .int .i64 a1_2, .slice A1_3 l1_3.length c1_3]] w fun e w' => ∃ v0_ : Value, e = .returned (v0_) ∧ Kd.R (Kd.int .u8) 5 w' w.heap.size (fun _ => True) v0_ r ∧ Below w.heap.size w w' := by
  have hu25 := Try.underlying25
  have hu83 := Try.underlying83
  have HR0 := aM hr0
  have HC0 := aM hc0
  clear hr0 hc0
  have HR1_3 := aM hr1_3
  have HC1_3 := aM hc1_3
  clear hr1_3 hc1_3
  have HB := aM (Below.refl w.heap.size w)
  have H := h
  clear h
  unfold impl_PutMan.f at H
  replace H := bE H
  obtain ⟨t339, A3, H⟩ := H
  go_enter Try.func43, Try.ntmps43
  go_wp2_with (first | ((with_reducible refine gate_dst (N := 3) rfl ?_); refine gBx 3 #[.int .i64 a1_0, .int .i64 a1_1, .int .i64 a1_2, .slice A1_3 l1_3.length c1_3] 25 ?_; intro gb338 hg w5 hbox hb; have BK338 := aM (hbox); have GW338 := gW HB hg; have GE338 := gW HB hg; replace HB := bS HB hb; clear hb hbox hg; obtain ⟨hcz6_0, hcz6_1, hcz6_2, hcz6_3⟩ := cz4 BK338.out; obtain ⟨hfz6_0, hfz6_1, hfz6_2, hfz6_3⟩ := fz4 BK338.out) | ((with_reducible refine gate_callee (f := 36) rfl ?_); refine gL (some 9) Try.func36 #[.agg #[.int .i64 a1_0, .int .i64 a1_1, .int .i64 a1_2, .slice A1_3 l1_3.length c1_3]] ?_; (with_reducible refine (impl_ManOk.calls k a1_0 a1_1 a1_2 _ _ l1_3 t339 _ ?side1 ?side2 A3.out).mono ?_); (case side1 => have X_ := (Kd.C_below HR1_3.out HB.out); exact TC); (case side2 => exact HC1_3.out); rintro e w7 ⟨rfl, hb⟩; refine ⟨_, rfl, ?_⟩; replace BK338 := mB BK338 hb; replace HB := bS HB hb; clear hb) | ((with_reducible refine gate_dst (N := 10) rfl ?_); generalize hG_ : wpList _ _ _ _ _ _ = G_))
  subst hG_
  by_cases c8 : t339 = true
  · subst c8
    replace H := ifT H
    replace H := bE H
    obtain ⟨t343, A9, H⟩ := H
    replace H := bE H
    obtain ⟨t346, A10, H⟩ := H
    replace H := bE H
    obtain ⟨t349, A11, H⟩ := H
    have H' := aM H
    clear H
    try go_wp2
    (try (rw [drewN_self w7]; generalize hq_ : World.drewN w7 _ = w7; have n0_ : Aside0 (w7.heap[gb338]? = some (.cells #[.int .i64 a1_0, .int .i64 a1_1, .int .i64 a1_2, .slice A1_3 l1_3.length c1_3] 25 (0, 0))) := ⟨by rw [← hq_]; exact TK⟩; have n1_ : Aside0 (Below w.heap.size w w7) := ⟨by rw [← hq_]; exact TB⟩; clear BK338 HB hq_; have BK338 := n0_; have HB := n1_; clear n0_ n1_))
    replace BK338 := bD BK338
    replace HB := aM (below_drew1 HB.out)
    refine start_ (n := 11) (S := fun w' => w'.cell? ⟨gb338, 0, none⟩ = some (.int .i64 a1_0) ∧ w'.cell? ⟨gb338, 1, none⟩ = some (.int .i64 a1_1) ∧ w'.cell? ⟨gb338, 2, none⟩ = some (.int .i64 a1_2) ∧ w'.cell? ⟨gb338, 3, none⟩ = some (.slice A1_3 l1_3.length c1_3)) (ds := []) (Array.replicate 11 false) (by kernel_rfl) rfl rfl (cz4 BK338.out) (fun hHeld => ?_); refine with_tabW impl_PutMan.tab3 impl_PutMan.bits3 (fun HT_ HW_ => ?_)
    generalize w7.drew = w12 at BK338 HB hHeld ⊢
    refine pP 0 (some 13) ?_
    refine pP 1 (some 14) ?_
    refine pP 4 (some 17) ?_
    refine pP 7 (some 20) ?_
    refine pT 2 (some 15) ?_
    refine pT 5 (some 18) ?_
    refine pT 8 (some 21) ?_
    refine pO 3 (some 16) (fun K hK => ?_)
    refine gG Try.func42 #[.slice A0 l0.length c0, .int .i64 a1_0] ?_
    with_reducible refine (impl_PutVar.calls k _ _ l0 a1_0 t343 _ ?side1 ?side2 A9.out).mono ?_
    (case side1 => have X_ := (Kd.C_below HR0.out HB.out); exact TC)
    (case side2 => exact HC0.out)
    rintro e w13 ⟨v344, rfl, ho0, hb⟩
    refine ⟨_, rfl, ?_⟩
    replace HO345 := aM (Kd.R_lower ho0 (below_size TB))
    replace BK338 := mB BK338 hb
    replace HB := bS HB hb
    (try clear hb)
    (try clear hb2)
    (try clear hk)
    (try clear hi)
    (try clear ho0)
    obtain ⟨Ao14, co14, eo14⟩ := Kd.R_slice HO345.out
    (first | subst eo14 | (injection eo14 with f1_ f2_ f3_; have f4_ := f1_.symm; have f5_ := f3_.symm; clear f1_ f2_ f3_; subst f4_; subst f5_))
    refine hK.out _ _ (cz4 BK338.out) (fun hHeld => ?_)
    clear hK K
    refine nR ?_
    refine pO 6 (some 19) (fun K hK => ?_)
    refine gG Try.func42 #[.slice Ao14 t343.length co14, .int .i64 a1_1] ?_
    with_reducible refine (impl_PutVar.calls k _ _ t343 a1_1 t346 _ ?side1 ?side2 A10.out).mono ?_
    (case side1 => have X_ := (Kd.R_reads' HO345.out).2.2; exact TC)
    (case side2 => exact (Kd.R_reads' HO345.out).2.1)
    rintro e w15 ⟨v347, rfl, ho0, hb⟩
    refine ⟨_, rfl, ?_⟩
    have n0_ := aM (Kd.R_elder' (TRf HO345) (Kd.R_base ho0) hb)
    have n1_ := aM (Kd.R_lower (Kd.R_new' ho0 (Kd.R_lt (TRf HO345))) (below_size TB))
    have n2_ := mB BK338 hb
    have n3_ := bS HB hb
    clear HO345
    clear BK338
    clear HB
    have HO345 := n0_
    have HO348 := n1_
    have BK338 := n2_
    have HB := n3_
    clear n0_ n1_ n2_ n3_
    (try clear hb)
    (try clear hb2)
    (try clear hk)
    (try clear hi)
    (try clear ho0)
    obtain ⟨Ao16, co16, eo16⟩ := Kd.R_slice HO348.out
    (first | subst eo16 | (injection eo16 with f1_ f2_ f3_; have f4_ := f1_.symm; have f5_ := f3_.symm; clear f1_ f2_ f3_; subst f4_; subst f5_))
    refine hK.out _ _ (cz4 BK338.out) (fun hHeld => ?_)
    clear hK K
    refine nR ?_
    refine pO 9 (some 22) (fun K hK => ?_)
    refine gG Try.func42 #[.slice Ao16 t346.length co16, .int .i64 a1_2] ?_
    with_reducible refine (impl_PutVar.calls k _ _ t346 a1_2 t349 _ ?side1 ?side2 A11.out).mono ?_
    (case side1 => have X_ := (Kd.R_reads' HO348.out).2.2; exact TC)
    (case side2 => exact (Kd.R_reads' HO348.out).2.1)
    rintro e w17 ⟨v350, rfl, ho0, hb⟩
    refine ⟨_, rfl, ?_⟩
    have n0_ := aM (Kd.R_elder' (TRf HO345) (Kd.R_base ho0) hb)
    have n1_ := aM (Kd.R_elder' (TRf HO348) (Kd.R_base ho0) hb)
    have n2_ := aM (Kd.R_lower (Kd.R_new' (Kd.R_new' ho0 (Kd.R_lt (TRf HO345))) (Kd.R_lt (TRf HO348))) (below_size TB))
    have n3_ := mB BK338 hb
    have n4_ := bS HB hb
    clear HO345
    clear HO348
    clear BK338
    clear HB
    have HO345 := n0_
    have HO348 := n1_
    have HO351 := n2_
    have BK338 := n3_
    have HB := n4_
    clear n0_ n1_ n2_ n3_ n4_
    (try clear hb)
    (try clear hb2)
    (try clear hk)
    (try clear hi)
    (try clear ho0)
    refine hK.out _ _ (cz4 BK338.out) (fun hHeld => ?_)
    clear hK K
    refine nR ?_
    refine pP 10 (some 5) ?_
    refine done_ (done_of HT_.out (by kernel_rfl)) ?_
    obtain ⟨hcz18_0, hcz18_1, hcz18_2, hcz18_3⟩ := cz4 BK338.out
    obtain ⟨hfz18_0, hfz18_1, hfz18_2, hfz18_3⟩ := fz4 BK338.out
    try go_wp2
    go_loopg [5, 26] k (fun kq v5 v26 w' => ∃ (x5_1 : List Int) (x26_1 : Int), v26 = .int .i64 x26_1 ∧ Aside0 (impl_PutMan.l0 kq x5_1 l1_3 (l1_3.length : Int) x26_1 = some r) ∧ Aside0 (kq ≤ k) ∧ Aside0 (Kd.R (Kd.int .u8) 5 w' w.heap.size (fun _ => True) v5 x5_1) ∧ Aside0 (w'.heap[gb338]? = some (.cells #[.int .i64 a1_0, .int .i64 a1_1, .int .i64 a1_2, (.slice A1_3 l1_3.length c1_3)] 25 (0, 0))) ∧ Aside0 (Below w.heap.size w w'))
    case atStart => exact ⟨(t349), (0), TF, H', ⟨Nat.le_refl _⟩, ⟨by (with_reducible repeat (first | apply Kd.R_alloc | apply Kd.R_drewN | apply Kd.R_drew)); exact Kd.R_mono HO351.out (fun _ hk => trivial)⟩, ⟨TK⟩, ⟨TB⟩⟩
    case round =>
      clear H'
      try clear c1
      try clear p2
      try clear c3
      try clear c4
      try clear c8
      try clear hcz18_0
      try clear hcz18_1
      try clear hcz18_2
      try clear hcz18_3
      try clear hcz6_0
      try clear hcz6_1
      try clear hcz6_2
      try clear hcz6_3
      try clear hfz18_0
      try clear hfz18_1
      try clear hfz18_2
      try clear hfz18_3
      try clear hfz6_0
      try clear hfz6_1
      try clear hfz6_2
      try clear hfz6_3
      obtain ⟨x5_1, x26_1, rfl, HA, HK1, HO_5, BK338, HB⟩ := hrel
      cases gk with
      | zero => exact absurd HA.out (by simp [impl_PutMan.l0])
      | succ k1 =>
        have H := HA.out
        clear HA
        simp only [impl_PutMan.l0] at H
        by_cases c19 : x26_1 < (l1_3.length : Int)
        · rw [if_pos c19] at H
          have c19b0 : decide (x26_1 < (l1_3.length : Int)) = true := decide_eq_true c19
          clear c19
          replace H := ifN H
          obtain ⟨c20, H⟩ := H
          have c20b0 : decide (0 ≤ x26_1) = true := decide_eq_true c20
          clear c20
          replace H := ifN H
          obtain ⟨c21, H⟩ := H
          have c21b0 : decide (x26_1 < (l1_3.length : Int)) = true := decide_eq_true c21
          clear c21
          replace H := bE H
          obtain ⟨t354, A22, H⟩ := H
          have H' := aM H
          clear H
          have p352 : 0 ≤ (x26_1 : Int) := DT
          have q352 : x26_1 < (l1_3.length : Int) := DT
          obtain ⟨ad352, e352, hx352_0, hx352_1⟩ := at_T83 HR1_3.out x26_1 p352 q352
          cases e352
          replace hx352_0 := (HB.out.cell (World.block_lt_of_cell? w _ hx352_0)).trans hx352_0
          replace hx352_1 := (HB.out.cell (World.block_lt_of_cell? w _ hx352_1)).trans hx352_1
          replace p352 := eq_true p352
          replace q352 := eq_true q352
          go_wp2_with (first | ((with_reducible refine gate_dst (N := 7) rfl ?_); refine gBx 7 #[.int .i64 0, .int .i64 0] 83 ?_; intro gb353 hg w23 hbox hb; have BK353 := aM (hbox); have GW353 := gW HB hg; have GE353 := gW HB hg; obtain ⟨NB338_353, NB353_338⟩ := nB BK338 hg; replace HO_5 := mR HO_5 hb; replace BK338 := mB BK338 hb; replace HB := bS HB hb; clear hb hbox hg; obtain ⟨hnb24, hnc24⟩ := oB NB353_338; obtain ⟨hcz25_0, hcz25_1⟩ := cz2 BK353.out; obtain ⟨hfz25_0, hfz25_1⟩ := fz2 BK353.out) | ((with_reducible refine gate_store (t := 83) (p := 7) rfl ?_); refine store_event (t := 83) (p := 7) (v := ?vo_w26) (w1 := ((w23.setCell ⟨gb353, 0, none⟩ (.int .i64 ((rd_T83 l1_3 x26_1).f0))).setCell ⟨gb353, 1, none⟩ (.int .i64 ((rd_T83 l1_3 x26_1).f1)))) ?hg ?ho ?hn ?hr ?_; (case ho => rfl); (case hg => rfl); (case hn => rfl); (case hr => first | (go_simp; done) | (go_simp; rfl)); intro w26 hw; have n0_ : Aside0 (Kd.R (Kd.int .u8) 5 w26 w.heap.size (fun _ => True) u5 x5_1) := ⟨(by rw [hw]; exact (by (with_reducible repeat (first | apply Kd.R_alloc | apply Kd.R_drewN | apply Kd.R_drew)); exact Kd.R_mono (RK1 (Kd.R_types HO_5.out BK353.out (by decide))) (fun _ hk => trivial)))⟩; have n1_ : Aside0 (w26.heap[gb338]? = some (.cells #[.int .i64 a1_0, .int .i64 a1_1, .int .i64 a1_2, .slice (some ad352) l1_3.length c1_3] 25 (0, 0))) := ⟨(by rw [hw]; exact (TZ BK338))⟩; have n2_ : Aside0 (w26.heap[gb353]? = some (.cells #[.int .i64 ((rd_T83 l1_3 x26_1).f0), .int .i64 ((rd_T83 l1_3 x26_1).f1)] 83 (0, 0))) := ⟨(by rw [hw]; exact (blk_put (blk_put (cs := #[.int .i64 0, .int .i64 0]) (TZ BK353) 0 _ rfl) 1 _ rfl))⟩; have n3_ : Aside0 (Below w.heap.size w w26) := ⟨(by rw [hw]; exact TB)⟩; clear hw; clear HO_5; clear BK338; clear BK353; clear HB; have HO_5 := n0_; have BK338 := n1_; have BK353 := n2_; have HB := n3_; clear n0_ n1_ n2_ n3_; obtain ⟨hcz27_0, hcz27_1⟩ := cz2 BK353.out; obtain ⟨hfz27_0, hfz27_1⟩ := fz2 BK353.out; obtain ⟨Ao28, co28, eo28⟩ := Kd.R_slice HO_5.out; subst eo28) | ((with_reducible refine gate_callee (f := 79) rfl ?_); refine gL (some 33) Try.func79 #[.slice Ao28 x5_1.length co28, .int .i64 ((rd_T83 l1_3 x26_1).f1)] ?_; (with_reducible refine (impl_appendVar.calls k1 (fun k_ => some k_ = (.slice Ao28 x5_1.length co28 : Value).ownBlock) (.slice Ao28 x5_1.length co28) x5_1 ((rd_T83 l1_3 x26_1).f1) t354 w _ ?side1 ?side2 A22.out).mono ?_); (case side1 => exact TB); (case side2 => exact Kd.R_tight rfl HO_5.out); rintro e w29 ⟨v355, rfl, ho0, hb, hkp⟩; refine ⟨_, rfl, ?_⟩; have HO356 := aM (Kd.R_mono (ok' := fun k_ => True) ho0 (fun k_ hk_ => trivial)); replace BK338 := aM (blk_kept TK hkp (fun hs_ => (fun e_ => (Kd.R_ne HO_5.out BK338.out (by decide)) e_) hs_)); replace BK353 := aM (blk_kept TK hkp (fun hs_ => (fun e_ => (Kd.R_ne HO_5.out BK353.out (by decide)) e_) hs_)); replace HB := aM (hb); clear HO_5; clear hb; (try clear hkp); (try clear ho0)))
          go_roundg k1
          case measure => have := HK1.out; omega
          case rel => exact ⟨(t354), (wrap64 (x26_1 + 1)), TF, H', ⟨by have := HK1.out; omega⟩, ⟨by have X_ := HO356.out; exact TR⟩, ⟨TK⟩, ⟨TB⟩⟩
        · rw [if_neg c19] at H
          have c19b0 : decide (x26_1 < (l1_3.length : Int)) = false := decide_eq_false c19
          clear c19
          obtain rfl := Option.some.inj H
          go_wp2
          go_ret
          exact ⟨_, TE, by have X_ := HO_5.out; exact TR, TB⟩
  · replace c8 := Bool.eq_false_iff.mpr c8
    subst c8
    replace H := ifF H
    replace H := bE H
    obtain ⟨t340, A30, H⟩ := H
    obtain rfl := Option.some.inj H
    go_wp2_with (first | ((with_reducible refine gate_callee (f := 78) rfl ?_); refine gL (some 12) Try.func78 #[.slice A0 l0.length c0] ?_; (with_reducible refine (impl_cloned.calls _ _ l0 t340 _ ?side1 ?side2 A30.out).mono ?_); (case side1 => repeat (first | exact (Kd.C_below HR0.out TB) | (with_reducible refine Kd.C_alloc ?_ _) | (with_reducible refine Kd.C_drewN ?_ _) | (with_reducible refine Kd.C_drew ?_))); (case side2 => exact HC0.out); rintro e w31 ⟨v341, rfl, ho0, hb⟩; refine ⟨_, rfl, ?_⟩; have HO342 := aM (Kd.R_lower ho0 (below_size TB)); replace BK338 := mB BK338 hb; replace HB := bS HB hb; clear ho0 hb))
    go_ret
    exact ⟨_, TE, by have X_ := HO342.out; exact TR, TB⟩

def impl_putSet.f (k : Nat) (l0 : List Int) (a1 : Int) : Option (List Int) := (impl_PutVar.f k l0 (Go.bits .and .i64 a1 1048575)).bind fun t357 => ((impl_PutVar.f k t357 (a1 / 1048576)).bind fun t360 => (some t360))
theorem impl_putSet.mono : ∀ a0 a1 k, LeO (impl_putSet.f k a0 a1) (impl_putSet.f (k + 1) a0 a1) := by
  intro a0 a1 k;have m0_ := @impl_PutVar.mono;unfold impl_putSet.f;exact LM
set_option maxHeartbeats 40000000 in
set_option maxRecDepth 100000 in
theorem impl_putSet.calls (k : Nat) (A0 : Option Addr) (c0 : Nat) (l0 : List Int) (a1 : Int) (r : List Int) (w : World) (hr0 : Kd.C (Kd.int .u8) w A0 l0.length l0) (hc0 : l0.length ≤ c0) (h : impl_putSet.f k l0 a1 = some r) :
    Calls Try.prog 44 #[.slice A0 l0.length c0, .int .i64 a1] w fun e w' => ∃ v0_ : Value, e = .returned (v0_) ∧ Kd.R (Kd.int .u8) 5 w' w.heap.size (fun _ => True) v0_ r ∧ Below w.heap.size w w' := by
  have HR0 := aM hr0
  have HC0 := aM hc0
  clear hr0 hc0
  have HB := aM (Below.refl w.heap.size w)
  have H := h
  clear h
  unfold impl_putSet.f at H
  replace H := bE H
  obtain ⟨t357, A3, H⟩ := H
  replace H := bE H
  obtain ⟨t360, A4, H⟩ := H
  obtain rfl := Option.some.inj H
  go_enter Try.func44, Try.ntmps44
  go_wp2_with (first | ((with_reducible refine gate_callee (f := 42) rfl ?_); refine gL (some 8) Try.func42 #[.slice A0 l0.length c0, .int .i64 (Go.bits .and .i64 a1 1048575)] ?_; (with_reducible refine (impl_PutVar.calls k _ _ l0 (Go.bits .and .i64 a1 1048575) t357 _ ?side1 ?side2 A3.out).mono ?_); (case side1 => have X_ := HR0.out; exact TC); (case side2 => exact HC0.out); rintro e w5 ⟨v358, rfl, ho0, hb⟩; refine ⟨_, rfl, ?_⟩; have HO359 := aM (Kd.R_lower ho0 (below_size TB)); replace HB := bS HB hb; clear ho0 hb; obtain ⟨Ao6, co6, eo6⟩ := Kd.R_slice HO359.out; subst eo6) | ((with_reducible refine gate_callee (f := 42) rfl ?_); refine gL (some 11) Try.func42 #[.slice Ao6 t357.length co6, .int .i64 (a1 / 1048576)] ?_; (with_reducible refine (impl_PutVar.calls k _ _ t357 (a1 / 1048576) t360 _ ?side1 ?side2 A4.out).mono ?_); (case side1 => have X_ := (Kd.R_reads' HO359.out).2.2; exact TC); (case side2 => exact (Kd.R_reads' HO359.out).2.1); rintro e w7 ⟨v361, rfl, ho0, hb⟩; refine ⟨_, rfl, ?_⟩; have HO362 := aM (Kd.R_lower (Kd.R_new' ho0 (Kd.R_lt (TRf HO359))) (below_size TB)); replace HO359 := aM (Kd.R_elder' (TRf HO359) (Kd.R_base ho0) hb); replace HB := bS HB hb; clear ho0 hb))
  go_ret
  exact ⟨_, TE, by (with_reducible repeat (first | apply Kd.R_alloc | apply Kd.R_drewN | apply Kd.R_drew)); exact Kd.R_mono HO362.out (fun _ hk => trivial), TB⟩

def impl_PutPart.f (k : Nat) (l0 : List Int) (l1 : List Int) : Option (List Int) := (impl_PutVar.f k l0 (l1.length : Int)).bind fun t363 => (if t363.length + l1.length < 140737488355328 then (some (t363 ++ l1)) else (none))
theorem impl_PutPart.mono : ∀ a0 a1 k, LeO (impl_PutPart.f k a0 a1) (impl_PutPart.f (k + 1) a0 a1) := by
  intro a0 a1 k;have m0_ := @impl_PutVar.mono;unfold impl_PutPart.f;exact LM
set_option maxHeartbeats 40000000 in
set_option maxRecDepth 100000 in
theorem impl_PutPart.calls (k : Nat) (A0 : Option Addr) (c0 : Nat) (l0 : List Int) (A1 : Option Addr) (c1 : Nat) (l1 : List Int) (r : List Int) (w : World) (hr0 : Kd.C (Kd.int .u8) w A0 l0.length l0) (hc0 : l0.length ≤ c0) (hr1 : Kd.C (Kd.int .u8) w A1 l1.length l1) (hc1 : l1.length ≤ c1) (h : impl_PutPart.f k l0 l1 = some r) :
  Calls Try.prog 45 #[.slice A0 l0.length c0, .slice A1 l1.length c1] w fun e w' => ∃ v0_ : Value, e = .returned (v0_) ∧ Kd.R (Kd.int .u8) 5 w' w.heap.size (fun _ => True) v0_ r ∧ Below w.heap.size w w' := by
 have HR0 := aM hr0;have HC0 := aM hc0;clear hr0 hc0;have HR1 := aM hr1;have HC1 := aM hc1;clear hr1 hc1;have HB := aM (Below.refl w.heap.size w);have H := h;clear h;unfold impl_PutPart.f at H;replace H := bE H;obtain ⟨ab, A3, H⟩ := H;replace H := ifN H;obtain ⟨c4, H⟩ := H;have LMc4 := aM c4;clear c4;obtain ⟨y366, aa⟩ : ∃ y_ : List Int, y_ = (ab ++ l1) := ⟨_, rfl⟩;rw [← aa] at H;have Ny366 := aM aa;clear aa;obtain rfl := Option.some.inj H;go_enter Try.func45, Try.ntmps45;go_wp2_with (first | ((with_reducible refine gate_callee (f := 42) rfl ?_); refine gL (some 8) Try.func42 #[.slice A0 l0.length c0, .int .i64 (l1.length : Int)] ?_; (with_reducible refine (impl_PutVar.calls k _ _ l0 (l1.length : Int) ab _ ?side1 ?side2 A3.out).mono ?_); (case side1 => have X_ := HR0.out; exact TC); (case side2 => exact HC0.out); rintro e w5 ⟨v364, rfl, ho0, hb⟩; refine ⟨_, rfl, ?_⟩; have HO365 := aM (Kd.R_lower ho0 (below_size TB)); replace HB := bS HB hb; clear ho0 hb) | ((with_reducible refine gate_builtin (b := .append) (xs := #[.tmp 8, .tmp 9]) rfl ?_); at_builtin; refine Kd.R_append_rows (Kd.int .u8) (w0 := w) w.heap.size rfl (.tmp 8) (.tmp 9) 22 5 (.int .u8 0) 1 rfl Try.underlying22 info5 rfl (by decide) (by omega) v364 ab l1 _ _ _ (fun _ => True) (fun _ => False) rfl rfl ?aO ?aR (fun _ _ h => h) (fun _ h => h.elim) ?aF ?aB ?aS ?aL ?_; (case aR => repeat (first | exact (Kd.C_below HR1.out HB.out) | (with_reducible refine Kd.C_alloc ?_ _) | (with_reducible refine Kd.C_drewN ?_ _) | (with_reducible refine Kd.C_drew ?_))); (case aB => exact TB); (case aF => exact (fun _ _ => trivial)); (case aO => exact (TRf HO365)); (case aS => exact (below_size TB)); (case aL => have := LMc4.out; omega); intro v367 w6 ho hb hg hat; rw [← Ny366.out] at ho; have HO368 := aM (ho); replace HB := aM (hb); clear HO365; clear ho hb hg hat))
 go_ret
 exact ⟨_, TE, by have X_ := HO368.out; exact TR, TB⟩

end Go.Proofs.Ytanpaipapcjpoaa.Q
