/- Functions of the program as plain Lean functions, and that a call of each comes to what its function tells. Written by a program of this seat. -/
import Derived.Test.YtanpaipapcjpoaaGreatDoorQ0
import Derived.Test.YtanpaipapcjpoaaGreatDoorQ10
import Derived.Test.YtanpaipapcjpoaaGreatDoorQ12
import Derived.Test.YtanpaipapcjpoaaGreatDoorQ14
set_option maxHeartbeats 40000000
set_option maxRecDepth 100000
namespace Go.Proofs.YtanpaipapcjpoaaGreatDoor.Q
open Go.RowKit Go.Proofs.YtanpaipapcjpoaaGreatDoorW.PrintWords Go.Proofs.YtanpaipapcjpoaaGreatDoorW.PrintLast Go.Proofs.YtanpaipapcjpoaaGreatDoorW.PrintMore
attribute [local go_sem] min2_int min_two
set_option linter.unusedVariables false
set_option linter.unusedSimpArgs false
def impl_PutVar.f (k : Nat) (l0 : List Int) (a1 : Int) : Option (List Int) := (impl_cloned.f l0).bind fun t485 => ((impl_within.f a1 0 1000000000000).bind fun t488 => (if t488 = true then ((impl_appendVar.f k t485 a1).bind fun t489 => (some t489)) else (some t485)))
theorem impl_PutVar.mono : ∀ a0 a1 k, LeO (impl_PutVar.f k a0 a1) (impl_PutVar.f (k + 1) a0 a1) := by
  intro a0 a1 k;have m0_ := @impl_appendVar.mono;unfold impl_PutVar.f;exact LM
theorem impl_PutVar.calls {k : Nat} {A0 : Option Addr} {c0 : Nat} {l0 : List Int} {a1 : Int} {r : List Int} {w : World} (hr0 : Kd.C (Kd.int .u8) w A0 l0.length l0) (hc0 : l0.length ≤ c0) (h : impl_PutVar.f k l0 a1 = some r) :
    Calls Tryz.prog 25 #[.slice A0 l0.length c0, .int .i64 a1] w fun e w' => ∃ v0_ : Value, e = .returned (v0_) ∧ Kd.R (Kd.int .u8) 5 w' w.heap.size (fun _ => True) v0_ r ∧ Below w.heap.size w w' := by
  have HR0 := aM hr0
  have HC0 := aM hc0
  clear hr0 hc0
  have HB := aM (Below.refl w.heap.size w)
  have H := h
  clear h
  unfold impl_PutVar.f at H
  replace H := bE H
  obtain ⟨t485, A3, H⟩ := H
  replace H := bE H
  obtain ⟨t488, A4, H⟩ := H
  go_enter Tryz.func25, Tryz.ntmps25
  go_wp2_with (first | ((with_reducible refine gate_callee (f := 57) rfl ?_); refine gL (some 7) Tryz.func57 #[.slice A0 l0.length c0] ?_; (with_reducible refine (impl_cloned.calls ?side1 ?side2 A3.out).mono ?_); (case side1 => have X_ := HR0.out; exact TC); (case side2 => exact HC0.out); rintro e w6 ⟨v486, rfl, ho0, hb⟩; refine ⟨_, rfl, ?_⟩; have HO487 := aM (Kd.R_lower ho0 (below_size TB)); replace HB := bS HB hb; clear ho0 hb) | ((with_reducible refine gate_callee (f := 47) rfl ?_); refine gL (some 9) Tryz.func47 #[.int .i64 a1, .int .i64 0, .int .i64 1000000000000] ?_; (with_reducible refine (impl_within.calls A4.out).mono ?_); rintro e w' ⟨rfl, ⟨nd, rfl⟩⟩; refine ⟨_, rfl, ?_⟩) | ((with_reducible refine gate_dst (N := 10) rfl ?_); generalize hG_ : wpList _ _ _ _ _ _ = G_))
  subst hG_
  by_cases c7 : t488 = true
  · subst c7
    replace H := ifT H
    replace H := bE H
    obtain ⟨t489, A8, H⟩ := H
    obtain rfl := oI H
    obtain ⟨Ao9, co9, eo9⟩ := Kd.R_slice HO487.out
    subst eo9
    go_wp2_with (first | ((with_reducible refine gate_callee (f := 63) rfl ?_); refine gL (some 14) Tryz.func63 #[.slice Ao9 t485.length co9, .int .i64 a1] ?_; (with_reducible refine (impl_appendVar.calls (fun k_ => some k_ = (.slice Ao9 t485.length co9 : Value).ownBlock) (.slice Ao9 t485.length co9) t485 a1 t489 w _ ?side1 ?side2 A8.out).mono ?_); (case side1 => exact TB); (case side2 => exact Kd.R_tight rfl HO487.out); rintro e w10 ⟨v490, rfl, ho0, hb, hkp⟩; refine ⟨_, rfl, ?_⟩; have HO491 := aM (Kd.R_mono (ok' := fun k_ => True) ho0 (fun k_ hk_ => trivial)); replace HB := aM (hb); clear HO487; clear hb; (try clear hkp); (try clear ho0)))
    go_ret
    exact ⟨_, TE, by have X_ := HO491.out; exact TR, TB⟩
  · replace c7 := bF c7
    subst c7
    replace H := ifF H
    obtain rfl := oI H
    go_wp2
    go_ret
    exact ⟨_, TE, by have X_ := HO487.out; exact TR, TB⟩
def impl_PutMan.l0 : Nat → List Int → List (S75) → Int → Int → Option (List Int)
  | 0, _, _, _, _ => none
  | k + 1, x5, x24, x25, x26 => if x26 < x25 then (if 0 ≤ x26 then (if x26 < (x24.length : Int) then ((impl_appendVar.f k x5 ((rd_T75 x24 x26).f1)).bind fun t508 => (impl_PutMan.l0 k t508 x24 x25 (wrap64 (x26 + 1)))) else (none)) else (none)) else (some x5)
def impl_PutMan.f (k : Nat) (l0 : List Int) (a1_0 : Int) (a1_1 : Int) (a1_2 : Int) (l1_3 : List (S75)) : Option (List Int) := (impl_ManOk.f k a1_0 a1_1 a1_2 l1_3).bind fun t493 => (if t493 = true then ((impl_PutVar.f k l0 a1_0).bind fun t497 => ((impl_PutVar.f k t497 a1_1).bind fun t500 => ((impl_PutVar.f k t500 a1_2).bind fun t503 => (impl_PutMan.l0 k t503 l1_3 (l1_3.length : Int) 0)))) else ((impl_cloned.f l0).bind fun t494 => (some t494)))
theorem impl_PutMan.mono_l : ∀ k, (∀ y0 y1 y2 y3, LeO (impl_PutMan.l0 k y0 y1 y2 y3) (impl_PutMan.l0 (k + 1) y0 y1 y2 y3))
  | 0 => fun _ _ _ _ r h => by simp [impl_PutMan.l0] at h
  | k + 1 => by
    have m0_ := @impl_ManOk.mono
    have m1_ := @impl_PutVar.mono
    have m2_ := @impl_appendVar.mono
    have ih0 := impl_PutMan.mono_l k
    · intro y0 y1 y2 y3
      unfold impl_PutMan.l0
      exact LM
theorem impl_PutMan.mono : ∀ a0 a1 a2 a3 a4 k, LeO (impl_PutMan.f k a0 a1 a2 a3 a4) (impl_PutMan.f (k + 1) a0 a1 a2 a3 a4) := by
  intro a0 a1 a2 a3 a4 k;have m0_ := @impl_ManOk.mono;have m1_ := @impl_PutVar.mono;have m2_ := @impl_appendVar.mono;have ih0 := impl_PutMan.mono_l k;unfold impl_PutMan.f;exact LM
def impl_PutMan.T3 : Bool × List (List Nat × List Nat) := (true, [([], []), ([], []), ([1], [1]), ([0, 2], [0, 2]), ([], []), ([4], [4]), ([3, 5, 3], [3, 5]), ([], []), ([7], [7]), ([6, 8, 6], [6, 8]), ([9, 9, 0, 1, 2, 3, 4, 5, 6, 7, 8, 9], [9])])
def impl_PutMan.B3 : List Nat := [0, 0, 2, 7, 0, 16, 63, 0, 128, 511, 1023]
theorem impl_PutMan.tab3 : rtab .any (opsOf Tryz.f26 3) = impl_PutMan.T3 := by kernel_rfl
theorem impl_PutMan.bits3 : waitsOk impl_PutMan.T3.2 impl_PutMan.B3 = true := by kernel_rfl
theorem impl_PutMan.calls {k : Nat} {A0 : Option Addr} {c0 : Nat} {l0 : List Int} {a1_0 : Int} {a1_1 : Int} {a1_2 : Int} {A1_3 : Option Addr} {c1_3 : Nat} {l1_3 : List (S75)} {r : List Int} {w : World} (hr0 : Kd.C (Kd.int .u8) w A0 l0.length l0) (hc0 : l0.length ≤ c0) (hr1_3 : Kd.C k75 w A1_3 l1_3.length l1_3) (hc1_3 : l1_3.length ≤ c1_3) (h : impl_PutMan.f k l0 a1_0 a1_1 a1_2 l1_3 = some r) :
    Calls Tryz.prog 26 #[.slice A0 l0.length c0, .agg #[.int .i64 a1_0, .int .i64 a1_1, .int .i64 a1_2, .slice A1_3 l1_3.length c1_3]] w fun e w' => ∃ v0_ : Value, e = .returned (v0_) ∧ Kd.R (Kd.int .u8) 5 w' w.heap.size (fun _ => True) v0_ r ∧ Below w.heap.size w w' := by
  have hu26 := Tryz.underlying26
  have hu75 := Tryz.underlying75
  have HR0 := aM hr0
  have HC0 := aM hc0
  clear hr0 hc0
  have HR1_3 := aM hr1_3
  have HC1_3 := aM hc1_3
  clear hr1_3 hc1_3
  have HB := aM (Below.refl w.heap.size w)
  have H := h
  clear h
  unfold impl_PutMan.f at H
  replace H := bE H
  obtain ⟨t493, A3, H⟩ := H
  go_enter Tryz.func26, Tryz.ntmps26
  go_wp2_with (first | ((with_reducible refine gate_dst (N := 3) rfl ?_); refine gBx 3 #[.int .i64 a1_0, .int .i64 a1_1, .int .i64 a1_2, .slice A1_3 l1_3.length c1_3] 26 ?_; intro gb492 hg w5 hbox hb; have BK492 := aM (hbox); have GW492 := gW HB hg; have GE492 := gW HB hg; replace HB := bS HB hb; clear hb hbox hg; obtain ⟨hcz6_0, hcz6_1, hcz6_2, hcz6_3⟩ := cz4 BK492.out; obtain ⟨hfz6_0, hfz6_1, hfz6_2, hfz6_3⟩ := fz4 BK492.out) | ((with_reducible refine gate_callee (f := 43) rfl ?_); refine gL (some 9) Tryz.func43 #[.agg #[.int .i64 a1_0, .int .i64 a1_1, .int .i64 a1_2, .slice A1_3 l1_3.length c1_3]] ?_; (with_reducible refine (impl_ManOk.calls ?side1 ?side2 A3.out).mono ?_); (case side1 => have X_ := (Kd.C_below HR1_3.out HB.out); exact TC); (case side2 => exact HC1_3.out); rintro e w7 ⟨rfl, hb⟩; refine ⟨_, rfl, ?_⟩; replace BK492 := mB BK492 hb; replace HB := bS HB hb; clear hb) | ((with_reducible refine gate_dst (N := 10) rfl ?_); generalize hG_ : wpList _ _ _ _ _ _ = G_))
  subst hG_
  by_cases c8 : t493 = true
  · subst c8
    replace H := ifT H
    replace H := bE H
    obtain ⟨t497, A9, H⟩ := H
    replace H := bE H
    obtain ⟨t500, A10, H⟩ := H
    replace H := bE H
    obtain ⟨t503, A11, H⟩ := H
    have H' := aM H
    clear H
    try go_wp2
    (try (rw [drewN_self w7]; generalize hq_ : World.drewN w7 _ = w7; have n0_ : Aside0 (w7.heap[gb492]? = some (.cells #[.int .i64 a1_0, .int .i64 a1_1, .int .i64 a1_2, .slice A1_3 l1_3.length c1_3] 26 (0, 0))) := ⟨by rw [← hq_]; exact TK⟩; have n1_ : Aside0 (Below w.heap.size w w7) := ⟨by rw [← hq_]; exact TB⟩; clear BK492 HB hq_; have BK492 := n0_; have HB := n1_; clear n0_ n1_))
    replace BK492 := bD BK492
    replace HB := aM (below_drew1 HB.out)
    refine st_ (n := 11) (ds := []) (Array.replicate 11 false) (hK4 BK492.out) (by kernel_rfl) rfl rfl (fun hHeld => ?_); refine with_tabW impl_PutMan.tab3 impl_PutMan.bits3 (fun HT_ HW_ => ?_)
    generalize w7.drew = w12 at BK492 HB hHeld ⊢
    refine ppq 0 13 ?_
    refine ppq 1 14 ?_
    refine ppq 4 17 ?_
    refine ppq 7 20 ?_
    refine ptq 2 15 ?_
    refine ptq 5 18 ?_
    refine ptq 8 21 ?_
    refine poq 3 16 (fun K hK => ?_)
    refine gG Tryz.func25 #[.slice A0 l0.length c0, .int .i64 a1_0] ?_
    with_reducible refine (impl_PutVar.calls ?side1 ?side2 A9.out).mono ?_
    (case side1 => have X_ := (Kd.C_below HR0.out HB.out); exact TC)
    (case side2 => exact HC0.out)
    rintro e w13 ⟨v498, rfl, ho0, hb⟩
    refine ⟨_, rfl, ?_⟩
    replace HO499 := aM (Kd.R_lower ho0 (below_size TB))
    replace BK492 := mB BK492 hb
    replace HB := bS HB hb
    (try clear hb)
    (try clear hb2)
    (try clear hk)
    (try clear hi)
    (try clear ho0)
    obtain ⟨Ao14, co14, eo14⟩ := Kd.R_slice HO499.out
    (first | subst eo14 | (injection eo14 with f1_ f2_ f3_; have f4_ := f1_.symm; have f5_ := f3_.symm; clear f1_ f2_ f3_; subst f4_; subst f5_))
    refine hK.out _ _ (cz4 BK492.out) (fun hHeld => ?_)
    clear hK K
    refine nR ?_
    refine poq 6 19 (fun K hK => ?_)
    refine gG Tryz.func25 #[.slice Ao14 t497.length co14, .int .i64 a1_1] ?_
    with_reducible refine (impl_PutVar.calls ?side1 ?side2 A10.out).mono ?_
    (case side1 => have X_ := (Kd.R_reads' HO499.out).2.2; exact TC)
    (case side2 => exact (Kd.R_reads' HO499.out).2.1)
    rintro e w15 ⟨v501, rfl, ho0, hb⟩
    refine ⟨_, rfl, ?_⟩
    have n0_ := aM (Kd.R_elder' (TRf HO499) (Kd.R_base ho0) hb)
    have n1_ := aM (Kd.R_lower (Kd.R_new' ho0 (Kd.R_lt (TRf HO499))) (below_size TB))
    have n2_ := mB BK492 hb
    have n3_ := bS HB hb
    clear HO499
    clear BK492
    clear HB
    have HO499 := n0_
    have HO502 := n1_
    have BK492 := n2_
    have HB := n3_
    clear n0_ n1_ n2_ n3_
    (try clear hb)
    (try clear hb2)
    (try clear hk)
    (try clear hi)
    (try clear ho0)
    obtain ⟨Ao16, co16, eo16⟩ := Kd.R_slice HO502.out
    (first | subst eo16 | (injection eo16 with f1_ f2_ f3_; have f4_ := f1_.symm; have f5_ := f3_.symm; clear f1_ f2_ f3_; subst f4_; subst f5_))
    refine hK.out _ _ (cz4 BK492.out) (fun hHeld => ?_)
    clear hK K
    refine nR ?_
    refine poq 9 22 (fun K hK => ?_)
    refine gG Tryz.func25 #[.slice Ao16 t500.length co16, .int .i64 a1_2] ?_
    with_reducible refine (impl_PutVar.calls ?side1 ?side2 A11.out).mono ?_
    (case side1 => have X_ := (Kd.R_reads' HO502.out).2.2; exact TC)
    (case side2 => exact (Kd.R_reads' HO502.out).2.1)
    rintro e w17 ⟨v504, rfl, ho0, hb⟩
    refine ⟨_, rfl, ?_⟩
    have n0_ := aM (Kd.R_elder' (TRf HO499) (Kd.R_base ho0) hb)
    have n1_ := aM (Kd.R_elder' (TRf HO502) (Kd.R_base ho0) hb)
    have n2_ := aM (Kd.R_lower (Kd.R_new' (Kd.R_new' ho0 (Kd.R_lt (TRf HO499))) (Kd.R_lt (TRf HO502))) (below_size TB))
    have n3_ := mB BK492 hb
    have n4_ := bS HB hb
    clear HO499
    clear HO502
    clear BK492
    clear HB
    have HO499 := n0_
    have HO502 := n1_
    have HO505 := n2_
    have BK492 := n3_
    have HB := n4_
    clear n0_ n1_ n2_ n3_ n4_
    (try clear hb)
    (try clear hb2)
    (try clear hk)
    (try clear hi)
    (try clear ho0)
    refine hK.out _ _ (cz4 BK492.out) (fun hHeld => ?_)
    clear hK K
    refine nR ?_
    refine ppq 10 5 ?_
    refine done_ (done_of HT_.out (by kernel_rfl)) ?_
    obtain ⟨hcz18_0, hcz18_1, hcz18_2, hcz18_3⟩ := cz4 BK492.out
    obtain ⟨hfz18_0, hfz18_1, hfz18_2, hfz18_3⟩ := fz4 BK492.out
    try go_wp2
    go_loopg [5, 26] k (fun kq v5 v26 w' => ∃ (x5_1 : List Int) (x26_1 : Int), v26 = .int .i64 x26_1 ∧ Aside0 (impl_PutMan.l0 kq x5_1 l1_3 (l1_3.length : Int) x26_1 = some r) ∧ Aside0 (kq ≤ k) ∧ Aside0 (Kd.R (Kd.int .u8) 5 w' w.heap.size (fun _ => True) v5 x5_1) ∧ Aside0 (w'.heap[gb492]? = some (.cells #[.int .i64 a1_0, .int .i64 a1_1, .int .i64 a1_2, (.slice A1_3 l1_3.length c1_3)] 26 (0, 0))) ∧ Aside0 (Below w.heap.size w w'))
    case atStart => exact ⟨(t503), (0), TF, H', ⟨Nat.le_refl _⟩, ⟨by (with_reducible repeat (first | apply Kd.R_alloc | apply Kd.R_drewN | apply Kd.R_drew)); exact Kd.R_mono HO505.out (fun _ hk => trivial)⟩, ⟨TK⟩, ⟨TB⟩⟩
    case round =>
      clear H'
      try clear c1
      try clear c2
      try clear p2
      try clear c4
      try clear c8
      try clear hcz18_0
      try clear hcz18_1
      try clear hcz18_2
      try clear hcz18_3
      try clear hcz6_0
      try clear hcz6_1
      try clear hcz6_2
      try clear hcz6_3
      try clear hfz18_0
      try clear hfz18_1
      try clear hfz18_2
      try clear hfz18_3
      try clear hfz6_0
      try clear hfz6_1
      try clear hfz6_2
      try clear hfz6_3
      obtain ⟨x5_1, x26_1, rfl, HA, HK1, HO_5, BK492, HB⟩ := hrel
      cases gk with
      | zero => exact absurd HA.out (by simp [impl_PutMan.l0])
      | succ k1 =>
        have H := HA.out
        clear HA
        simp only [impl_PutMan.l0] at H
        by_cases c19 : x26_1 < (l1_3.length : Int)
        · rw [if_pos c19] at H
          have c19b0 : decide (x26_1 < (l1_3.length : Int)) = true := decide_eq_true c19
          clear c19
          replace H := ifN H
          obtain ⟨c20, H⟩ := H
          have c20b0 : decide (0 ≤ x26_1) = true := decide_eq_true c20
          clear c20
          replace H := ifN H
          obtain ⟨c21, H⟩ := H
          have c21b0 : decide (x26_1 < (l1_3.length : Int)) = true := decide_eq_true c21
          clear c21
          replace H := bE H
          obtain ⟨t508, A22, H⟩ := H
          have H' := aM H
          clear H
          have p506 : 0 ≤ (x26_1 : Int) := DT
          have q506 : x26_1 < (l1_3.length : Int) := DT
          obtain ⟨ad506, e506, hx506_0, hx506_1⟩ := at_T75 HR1_3.out x26_1 p506 q506
          cases e506
          replace hx506_0 := (HB.out.cell (World.block_lt_of_cell? w _ hx506_0)).trans hx506_0
          replace hx506_1 := (HB.out.cell (World.block_lt_of_cell? w _ hx506_1)).trans hx506_1
          replace p506 := eq_true p506
          replace q506 := eq_true q506
          go_wp2_with (first | ((with_reducible refine gate_dst (N := 7) rfl ?_); refine gBx 7 #[.int .i64 0, .int .i64 0] 75 ?_; intro gb507 hg w23 hbox hb; have BK507 := aM (hbox); have GW507 := gW HB hg; have GE507 := gW HB hg; obtain ⟨NB492_507, NB507_492⟩ := nB BK492 hg; replace HO_5 := mR HO_5 hb; replace BK492 := mB BK492 hb; replace HB := bS HB hb; clear hb hbox hg; obtain ⟨hnb24, hnc24⟩ := oB NB507_492; obtain ⟨hcz25_0, hcz25_1⟩ := cz2 BK507.out; obtain ⟨hfz25_0, hfz25_1⟩ := fz2 BK507.out) | ((with_reducible refine gate_store (t := 75) (p := 7) rfl ?_); refine store_event (t := 75) (p := 7) (v := ?vo_w26) (w1 := ((w23.setCell ⟨gb507, 0, none⟩ (.int .i64 ((rd_T75 l1_3 x26_1).f0))).setCell ⟨gb507, 1, none⟩ (.int .i64 ((rd_T75 l1_3 x26_1).f1)))) ?hg ?ho ?hn ?hr ?_; (case ho => rfl); (case hg => rfl); (case hn => rfl); (case hr => first | (go_simp; done) | (go_simp; rfl)); intro w26 hw; have n0_ : Aside0 (Kd.R (Kd.int .u8) 5 w26 w.heap.size (fun _ => True) u5 x5_1) := ⟨(by rw [hw]; exact (by (with_reducible repeat (first | apply Kd.R_alloc | apply Kd.R_drewN | apply Kd.R_drew)); exact Kd.R_mono (RK1 (Kd.R_types HO_5.out BK507.out (by decide))) (fun _ hk => trivial)))⟩; have n1_ : Aside0 (w26.heap[gb492]? = some (.cells #[.int .i64 a1_0, .int .i64 a1_1, .int .i64 a1_2, .slice (some ad506) l1_3.length c1_3] 26 (0, 0))) := ⟨(by rw [hw]; exact (TZ BK492))⟩; have n2_ : Aside0 (w26.heap[gb507]? = some (.cells #[.int .i64 ((rd_T75 l1_3 x26_1).f0), .int .i64 ((rd_T75 l1_3 x26_1).f1)] 75 (0, 0))) := ⟨(by rw [hw]; exact (blk_put (blk_put (cs := #[.int .i64 0, .int .i64 0]) (TZ BK507) 0 _ rfl) 1 _ rfl))⟩; have n3_ : Aside0 (Below w.heap.size w w26) := ⟨(by rw [hw]; exact TB)⟩; clear hw; clear HO_5; clear BK492; clear BK507; clear HB; have HO_5 := n0_; have BK492 := n1_; have BK507 := n2_; have HB := n3_; clear n0_ n1_ n2_ n3_; obtain ⟨hcz27_0, hcz27_1⟩ := cz2 BK507.out; obtain ⟨hfz27_0, hfz27_1⟩ := fz2 BK507.out; obtain ⟨Ao28, co28, eo28⟩ := Kd.R_slice HO_5.out; subst eo28) | ((with_reducible refine gate_callee (f := 63) rfl ?_); refine gL (some 33) Tryz.func63 #[.slice Ao28 x5_1.length co28, .int .i64 ((rd_T75 l1_3 x26_1).f1)] ?_; (with_reducible refine (impl_appendVar.calls (fun k_ => some k_ = (.slice Ao28 x5_1.length co28 : Value).ownBlock) (.slice Ao28 x5_1.length co28) x5_1 ((rd_T75 l1_3 x26_1).f1) t508 w _ ?side1 ?side2 A22.out).mono ?_); (case side1 => exact TB); (case side2 => exact Kd.R_tight rfl HO_5.out); rintro e w29 ⟨v509, rfl, ho0, hb, hkp⟩; refine ⟨_, rfl, ?_⟩; have HO510 := aM (Kd.R_mono (ok' := fun k_ => True) ho0 (fun k_ hk_ => trivial)); replace BK492 := aM (blk_kept TK hkp (fun hs_ => (fun e_ => (Kd.R_ne HO_5.out BK492.out (by decide)) e_) hs_)); replace BK507 := aM (blk_kept TK hkp (fun hs_ => (fun e_ => (Kd.R_ne HO_5.out BK507.out (by decide)) e_) hs_)); replace HB := aM (hb); clear HO_5; clear hb; (try clear hkp); (try clear ho0)))
          go_roundg k1
          case measure => have := HK1.out; omega
          case rel => exact ⟨(t508), (wrap64 (x26_1 + 1)), TF, H', ⟨by have := HK1.out; omega⟩, ⟨by have X_ := HO510.out; exact TR⟩, ⟨TK⟩, ⟨TB⟩⟩
        · rw [if_neg c19] at H
          have c19b0 : decide (x26_1 < (l1_3.length : Int)) = false := decide_eq_false c19
          clear c19
          obtain rfl := oI H
          go_wp2
          go_ret
          exact ⟨_, TE, by have X_ := HO_5.out; exact TR, TB⟩
  · replace c8 := bF c8
    subst c8
    replace H := ifF H
    replace H := bE H
    obtain ⟨t494, A30, H⟩ := H
    obtain rfl := oI H
    go_wp2_with (first | ((with_reducible refine gate_callee (f := 57) rfl ?_); refine gL (some 12) Tryz.func57 #[.slice A0 l0.length c0] ?_; (with_reducible refine (impl_cloned.calls ?side1 ?side2 A30.out).mono ?_); (case side1 => repeat (first | exact (Kd.C_below HR0.out TB) | (with_reducible refine Kd.C_alloc ?_ _) | (with_reducible refine Kd.C_drewN ?_ _) | (with_reducible refine Kd.C_drew ?_))); (case side2 => exact HC0.out); rintro e w31 ⟨v495, rfl, ho0, hb⟩; refine ⟨_, rfl, ?_⟩; have HO496 := aM (Kd.R_lower ho0 (below_size TB)); replace BK492 := mB BK492 hb; replace HB := bS HB hb; clear ho0 hb))
    go_ret
    exact ⟨_, TE, by have X_ := HO496.out; exact TR, TB⟩
def impl_putSet.f (k : Nat) (l0 : List Int) (a1 : Int) : Option (List Int) := (impl_PutVar.f k l0 (Go.bits .and .i64 a1 1048575)).bind fun t511 => ((impl_PutVar.f k t511 (a1 / 1048576)).bind fun t514 => (some t514))
theorem impl_putSet.mono : ∀ a0 a1 k, LeO (impl_putSet.f k a0 a1) (impl_putSet.f (k + 1) a0 a1) := by
  intro a0 a1 k;have m0_ := @impl_PutVar.mono;unfold impl_putSet.f;exact LM
theorem impl_putSet.calls {k : Nat} {A0 : Option Addr} {c0 : Nat} {l0 : List Int} {a1 : Int} {r : List Int} {w : World} (hr0 : Kd.C (Kd.int .u8) w A0 l0.length l0) (hc0 : l0.length ≤ c0) (h : impl_putSet.f k l0 a1 = some r) :
    Calls Tryz.prog 27 #[.slice A0 l0.length c0, .int .i64 a1] w fun e w' => ∃ v0_ : Value, e = .returned (v0_) ∧ Kd.R (Kd.int .u8) 5 w' w.heap.size (fun _ => True) v0_ r ∧ Below w.heap.size w w' := by
  have HR0 := aM hr0
  have HC0 := aM hc0
  clear hr0 hc0
  have HB := aM (Below.refl w.heap.size w)
  have H := h
  clear h
  unfold impl_putSet.f at H
  replace H := bE H
  obtain ⟨t511, A3, H⟩ := H
  replace H := bE H
  obtain ⟨t514, A4, H⟩ := H
  obtain rfl := oI H
  go_enter Tryz.func27, Tryz.ntmps27
  go_wp2_with (first | ((with_reducible refine gate_callee (f := 25) rfl ?_); refine gL (some 8) Tryz.func25 #[.slice A0 l0.length c0, .int .i64 (Go.bits .and .i64 a1 1048575)] ?_; (with_reducible refine (impl_PutVar.calls ?side1 ?side2 A3.out).mono ?_); (case side1 => have X_ := HR0.out; exact TC); (case side2 => exact HC0.out); rintro e w5 ⟨v512, rfl, ho0, hb⟩; refine ⟨_, rfl, ?_⟩; have HO513 := aM (Kd.R_lower ho0 (below_size TB)); replace HB := bS HB hb; clear ho0 hb; obtain ⟨Ao6, co6, eo6⟩ := Kd.R_slice HO513.out; subst eo6) | ((with_reducible refine gate_callee (f := 25) rfl ?_); refine gL (some 11) Tryz.func25 #[.slice Ao6 t511.length co6, .int .i64 (a1 / 1048576)] ?_; (with_reducible refine (impl_PutVar.calls ?side1 ?side2 A4.out).mono ?_); (case side1 => have X_ := (Kd.R_reads' HO513.out).2.2; exact TC); (case side2 => exact (Kd.R_reads' HO513.out).2.1); rintro e w7 ⟨v515, rfl, ho0, hb⟩; refine ⟨_, rfl, ?_⟩; have HO516 := aM (Kd.R_lower (Kd.R_new' ho0 (Kd.R_lt (TRf HO513))) (below_size TB)); replace HO513 := aM (Kd.R_elder' (TRf HO513) (Kd.R_base ho0) hb); replace HB := bS HB hb; clear ho0 hb))
  go_ret
  exact ⟨_, TE, by (with_reducible repeat (first | apply Kd.R_alloc | apply Kd.R_drewN | apply Kd.R_drew)); exact Kd.R_mono HO516.out (fun _ hk => trivial), TB⟩
def impl_PutPart.f (k : Nat) (l0 : List Int) (l1 : List Int) : Option (List Int) := (impl_PutVar.f k l0 (l1.length : Int)).bind fun t517 => (if t517.length + l1.length < 140737488355328 then (some (t517 ++ l1)) else (none))
theorem impl_PutPart.mono : ∀ a0 a1 k, LeO (impl_PutPart.f k a0 a1) (impl_PutPart.f (k + 1) a0 a1) := by
  intro a0 a1 k;have m0_ := @impl_PutVar.mono;unfold impl_PutPart.f;exact LM
theorem impl_PutPart.calls {k : Nat} {A0 : Option Addr} {c0 : Nat} {l0 : List Int} {A1 : Option Addr} {c1 : Nat} {l1 : List Int} {r : List Int} {w : World} (hr0 : Kd.C (Kd.int .u8) w A0 l0.length l0) (hc0 : l0.length ≤ c0) (hr1 : Kd.C (Kd.int .u8) w A1 l1.length l1) (hc1 : l1.length ≤ c1) (h : impl_PutPart.f k l0 l1 = some r) :
  Calls Tryz.prog 28 #[.slice A0 l0.length c0, .slice A1 l1.length c1] w fun e w' => ∃ v0_ : Value, e = .returned (v0_) ∧ Kd.R (Kd.int .u8) 5 w' w.heap.size (fun _ => True) v0_ r ∧ Below w.heap.size w w' := by
 have HR0 := aM hr0;have HC0 := aM hc0;clear hr0 hc0;have HRq1 := aM hr1;have HCq1 := aM hc1;clear hr1 hc1;have HB := aM (Below.refl w.heap.size w);have H := h;clear h;unfold impl_PutPart.f at H;replace H := bE H;obtain ⟨aa, A3, H⟩ := H;replace H := ifN H;obtain ⟨c4, H⟩ := H;have LMcq1 := aM c4;clear c4;obtain ⟨yq1, ab⟩ : ∃ y_ : List Int, y_ = (aa ++ l1) := ⟨_, rfl⟩;rw [← ab] at H;have Nyq1 := aM ab;clear ab;obtain rfl := oI H;go_enter Tryz.func28, Tryz.ntmps28;go_wp2_with (first | ((with_reducible refine gate_callee (f := 25) rfl ?_); refine gL (some 8) Tryz.func25 #[.slice A0 l0.length c0, .int .i64 (l1.length : Int)] ?_; (with_reducible refine (impl_PutVar.calls ?side1 ?side2 A3.out).mono ?_); (case side1 => have X_ := HR0.out; exact TC); (case side2 => exact HC0.out); rintro e w5 ⟨vq1, rfl, ho0, hb⟩; refine ⟨_, rfl, ?_⟩; have HOq1 := aM (Kd.R_lower ho0 (below_size TB)); replace HB := bS HB hb; clear ho0 hb) | ((with_reducible refine gate_builtin (b := .append) (xs := #[.tmp 8, .tmp 9]) rfl ?_); at_builtin; refine Kd.R_append_rows (Kd.int .u8) (w0 := w) w.heap.size rfl (.tmp 8) (.tmp 9) 22 5 (.int .u8 0) 1 rfl Tryz.underlying22 info5 rfl (by decide) (by omega) vq1 aa l1 _ _ _ (fun _ => True) (fun _ => False) rfl rfl ?aO ?aR (fun _ _ h => h) (fun _ h => h.elim) ?aF ?aB ?aS ?aL ?_; (case aR => repeat (first | exact (Kd.C_below HRq1.out HB.out) | (with_reducible refine Kd.C_alloc ?_ _) | (with_reducible refine Kd.C_drewN ?_ _) | (with_reducible refine Kd.C_drew ?_))); (case aB => exact TB); (case aF => exact (fun _ _ => trivial)); (case aO => exact (TRf HOq1)); (case aS => exact (below_size TB)); (case aL => have := LMcq1.out; omega); intro vq2 w6 ho hb hg hat; rw [← Nyq1.out] at ho; have HOq2 := aM (ho); replace HB := aM (hb); clear HOq1; clear ho hb hg hat))
 go_ret
 exact ⟨_, TE, by have X_ := HOq2.out; exact TR, TB⟩
end Go.Proofs.YtanpaipapcjpoaaGreatDoor.Q
