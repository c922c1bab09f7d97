/- Functions of the program as plain Lean functions, and that a call of each comes to what its function tells. Written by a program of this seat. -/
import Derived.Test.YtanpaipapcjpoaaGreatDoorQ0
import Derived.Test.YtanpaipapcjpoaaGreatDoorQ10
import Derived.Test.YtanpaipapcjpoaaGreatDoorQ11
set_option maxHeartbeats 40000000
set_option maxRecDepth 100000
namespace Go.Proofs.YtanpaipapcjpoaaGreatDoor.Q
open Go.RowKit Go.Proofs.YtanpaipapcjpoaaGreatDoorW.PrintWords Go.Proofs.YtanpaipapcjpoaaGreatDoorW.PrintLast Go.Proofs.YtanpaipapcjpoaaGreatDoorW.PrintMore
attribute [local go_sem] min2_int min_two
set_option linter.unusedVariables false
set_option linter.unusedSimpArgs false
theorem Zq12_0 {p : Prop} (h : p := by repeat (first | exact (Kd.C_below ah.out TB) | (with_reducible refine Kd.C_alloc ?_ _) | (with_reducible refine Kd.C_drewN ?_ _) | (with_reducible refine Kd.C_drew ?_))) : p := h
theorem Zq12_1 {p : Prop} (h : p := by have X_ := (Kd.R_reads' HOq1.out).2.2; exact TC) : p := h
mutual
def impl_ManOk.j0 : Nat → Bool → Int → Int → Int → List (S75) → Option (Bool)
  | 0, _, _, _, _, _ => none
  | k + 1, x33, x448000, x448001, x448002, x448003 => if x33 = true then (some false) else (impl_ManOk.l0 k x448003 (x448003.length : Int) 0 x448000 x448001 x448002 x448003)
def impl_ManOk.l0 : Nat → List (S75) → Int → Int → Int → Int → Int → List (S75) → Option (Bool)
  | 0, _, _, _, _, _, _, _ => none
  | k + 1, x35, x36, x37, x448000, x448001, x448002, x448003 => if x37 < x36 then (if 0 ≤ x37 then (if x37 < (x35.length : Int) then ((impl_BytesOf.f k ((rd_T75 x35 x37).f1)).bind fun bt454 => ((impl_SpanOf.f x448001 x448002 x37).bind fun bt458 => (if bt454.2 = true then (if (bt454.1.length : Int) = bt458.2 then ((impl_WeakOf.f k bt454.1).bind fun t460 => (if t460 = ((rd_T75 x35 x37).f0) then (impl_ManOk.l0 k x35 x36 (wrap64 (x37 + 1)) x448000 x448001 x448002 x448003) else (some false))) else (some false)) else (some false)))) else (none)) else (none)) else (some true)
end
def impl_ManOk.f (k : Nat) (a0_0 : Int) (a0_1 : Int) (a0_2 : Int) (l0_3 : List (S75)) : Option (Bool) := (impl_isZeroMan.f a0_0 a0_1 a0_2 l0_3).bind fun t448 => (if t448 = true then (some true) else ((impl_within.f a0_0 1 1000000).bind fun t449 => (if t449 = true then ((impl_SizeOk.f a0_1 a0_2).bind fun t450 => (if t450 = true then ((impl_Blocks.f a0_1 a0_2).bind fun t451 => (impl_ManOk.j0 k ((l0_3.length : Int) != t451) a0_0 a0_1 a0_2 l0_3)) else (impl_ManOk.j0 k true a0_0 a0_1 a0_2 l0_3))) else (impl_ManOk.j0 k true a0_0 a0_1 a0_2 l0_3))))
theorem impl_ManOk.mono_l : ∀ k, (∀ y0 y1 y2 y3 y4, LeO (impl_ManOk.j0 k y0 y1 y2 y3 y4) (impl_ManOk.j0 (k + 1) y0 y1 y2 y3 y4)) ∧ (∀ y0 y1 y2 y3 y4 y5 y6, LeO (impl_ManOk.l0 k y0 y1 y2 y3 y4 y5 y6) (impl_ManOk.l0 (k + 1) y0 y1 y2 y3 y4 y5 y6))
  | 0 => ⟨fun _ _ _ _ _ r h => by simp [impl_ManOk.j0] at h, fun _ _ _ _ _ _ _ r h => by simp [impl_ManOk.l0] at h⟩
  | k + 1 => by
    have m0_ := @impl_BytesOf.mono
    have m1_ := @impl_WeakOf.mono
    obtain ⟨ih0, ih1⟩ := impl_ManOk.mono_l k
    refine ⟨?_, ?_⟩
    · intro y0 y1 y2 y3 y4
      unfold impl_ManOk.j0
      exact LM
    · intro y0 y1 y2 y3 y4 y5 y6
      unfold impl_ManOk.l0
      exact LM
theorem impl_ManOk.mono : ∀ a0 a1 a2 a3 k, LeO (impl_ManOk.f k a0 a1 a2 a3) (impl_ManOk.f (k + 1) a0 a1 a2 a3) := by
  intro a0 a1 a2 a3 k;have m0_ := @impl_BytesOf.mono;have m1_ := @impl_WeakOf.mono;obtain ⟨ih0, ih1⟩ := impl_ManOk.mono_l k;unfold impl_ManOk.f;exact LM
theorem impl_ManOk.calls {k : Nat} {ae : Int} {ac : Int} {ad : Int} {aj : Option Addr} {ak : Nat} {ab : List (S75)} {r : Bool} {w : World} (aN : Kd.C k75 w aj ab.length ab) (aL : ab.length ≤ ak) (h : impl_ManOk.f k ae ac ad ab = some r) :
  Calls Tryz.prog 43 #[.agg #[.int .i64 ae, .int .i64 ac, .int .i64 ad, .slice aj ab.length ak]] w fun e w' => e = .returned (.bool r) ∧ Below w.heap.size w w' := by
 have huq1 := Tryz.underlying26;have huq2 := Tryz.underlying75;have ah := aM aN;have al := aM aL;clear aN aL;have HB := aM (Below.refl w.heap.size w);have H := h;clear h;unfold impl_ManOk.f at H;replace H := bE H;obtain ⟨t448, Aq1, H⟩ := H;go_enter Tryz.func43, Tryz.ntmps43;go_wp2_with (first | ((with_reducible refine gate_dst (N := 1) rfl ?_); (try (refine gate_guard (by rfl) ?_; dsimp only)); refine gBx 1 #[.int .i64 ae, .int .i64 ac, .int .i64 ad, .slice aj ab.length ak] 26 ?_; intro aH hg wq1 hbox hb; have aa := aM (hbox); have GWq1 := gW HB hg; have GEq1 := gW HB hg; replace HB := bS HB hb; clear hb hbox hg; obtain ⟨aA, ay, aB, ax⟩ := cz4 aa.out; obtain ⟨ao, aC, aD, au⟩ := fz4 aa.out) | ((with_reducible refine gate_callee (f := 71) rfl ?_); (with_reducible refine gate_dst (N := 10) rfl ?_); generalize hG_ : wpList _ _ _ _ _ _ = G_))
 repeat (go_quiet (first | ((with_reducible refine gate_dst (N := 1) rfl ?_); (try (refine gate_guard (by rfl) ?_; dsimp only)); refine gBx 1 #[.int .i64 ae, .int .i64 ac, .int .i64 ad, .slice aj ab.length ak] 26 ?_; intro aH hg wq1 hbox hb; have aa := aM (hbox); have GWq1 := gW HB hg; have GEq1 := gW HB hg; replace HB := bS HB hb; clear hb hbox hg; obtain ⟨aA, ay, aB, ax⟩ := cz4 aa.out; obtain ⟨ao, aC, aD, au⟩ := fz4 aa.out) | ((with_reducible refine gate_callee (f := 71) rfl ?_); (with_reducible refine gate_dst (N := 10) rfl ?_); generalize hG_ : wpList _ _ _ _ _ _ = G_)); try go_wp2_with (first | ((with_reducible refine gate_dst (N := 1) rfl ?_); (try (refine gate_guard (by rfl) ?_; dsimp only)); refine gBx 1 #[.int .i64 ae, .int .i64 ac, .int .i64 ad, .slice aj ab.length ak] 26 ?_; intro aH hg wq1 hbox hb; have aa := aM (hbox); have GWq1 := gW HB hg; have GEq1 := gW HB hg; replace HB := bS HB hb; clear hb hbox hg; obtain ⟨aA, ay, aB, ax⟩ := cz4 aa.out; obtain ⟨ao, aC, aD, au⟩ := fz4 aa.out) | ((with_reducible refine gate_callee (f := 71) rfl ?_); (with_reducible refine gate_dst (N := 10) rfl ?_); generalize hG_ : wpList _ _ _ _ _ _ = G_)))
 subst hG_
 by_cases cq1 : t448 = true
 ·subst cq1;replace H := ifT H;obtain rfl := oI H;go_wp2_with (first | (go_at_call 71; (with_reducible refine (impl_isZeroMan.calls ?side1 ?side2 Aq1.out).mono ?_); (case side1 => exact Zq12_0); (case side2 => exact al.out); rintro e wq2 ⟨rfl, hb⟩; replace aa := mB aa hb; replace HB := bS HB hb; clear hb))
  repeat (go_quiet (first | (go_at_call 71; (with_reducible refine (impl_isZeroMan.calls ?side1 ?side2 Aq1.out).mono ?_); (case side1 => exact Zq12_0); (case side2 => exact al.out); rintro e wq2 ⟨rfl, hb⟩; replace aa := mB aa hb; replace HB := bS HB hb; clear hb)); try go_wp2_with (first | (go_at_call 71; (with_reducible refine (impl_isZeroMan.calls ?side1 ?side2 Aq1.out).mono ?_); (case side1 => exact Zq12_0); (case side2 => exact al.out); rintro e wq2 ⟨rfl, hb⟩; replace aa := mB aa hb; replace HB := bS HB hb; clear hb)))
  go_ret
  exact ⟨TE, TB⟩
 ·replace cq1 := bF cq1;subst cq1;replace H := ifF H;have aI := aM H;clear H;go_upto_region 3 with (first | (go_at_call 71; (with_reducible refine (impl_isZeroMan.calls ?side1 ?side2 Aq1.out).mono ?_); (case side1 => exact Zq12_0); (case side2 => exact al.out); rintro e wq2 ⟨rfl, hb⟩; replace aa := mB aa hb; replace HB := bS HB hb; clear hb))
  repeat (go_quiet (first | (go_at_call 71; (with_reducible refine (impl_isZeroMan.calls ?side1 ?side2 Aq1.out).mono ?_); (case side1 => exact Zq12_0); (case side2 => exact al.out); rintro e wq2 ⟨rfl, hb⟩; replace aa := mB aa hb; replace HB := bS HB hb; clear hb)); go_upto_region 3 with (first | (go_at_call 71; (with_reducible refine (impl_isZeroMan.calls ?side1 ?side2 Aq1.out).mono ?_); (case side1 => exact Zq12_0); (case side2 => exact al.out); rintro e wq2 ⟨rfl, hb⟩; replace aa := mB aa hb; replace HB := bS HB hb; clear hb)))
  (try simp only [NP])
  go_cut [33] (fun vq1 wc => ∃ (kq : Nat) (xq1 : Bool), vq1 = .bool xq1 ∧ Aside0 (impl_ManOk.j0 kq xq1 ae ac ad ab = some r) ∧ Aside0 (kq ≤ k) ∧ Aside0 (wc.heap[aH]? = some (.cells #[.int .i64 ae, .int .i64 ac, .int .i64 ad, (.slice aj ab.length ak)] 26 (0, 0))) ∧ Aside0 (Below w.heap.size w wc))
  case first =>
   have H := aI.out;clear aI;replace H := bE H;obtain ⟨t449, Aq2, H⟩ := H
   by_cases cq2 : t449 = true
   ·subst cq2;replace H := ifT H;replace H := bE H;obtain ⟨t450, Aq3, H⟩ := H
    by_cases cq3 : t450 = true
    ·subst cq3;replace H := ifT H;replace H := bE H;obtain ⟨aG, Aq4, H⟩ := H;have H' := aM H;clear H;obtain ⟨am, av, aw, ar⟩ := cz4 aa.out;obtain ⟨ap, an, aq, az⟩ := fz4 aa.out;go_wp2_with (first | (go_at_call 47; (with_reducible refine (impl_within.calls Aq2.out).mono ?_); rintro e w' ⟨rfl, ⟨nd, rfl⟩⟩; (try first | exact ⟨rfl, _, World.drewN_drewN _ _ _⟩ | exact ⟨rfl, _, Eq.trans (World.drewN_drewN _ _ _) (congrArg (World.drewN _) (Nat.add_assoc _ _ _))⟩)) | (go_at_call 72; (with_reducible refine (impl_SizeOk.calls Aq3.out).mono ?_); rintro e w' ⟨rfl, ⟨nd, rfl⟩⟩; (try first | exact ⟨rfl, _, World.drewN_drewN _ _ _⟩ | exact ⟨rfl, _, Eq.trans (World.drewN_drewN _ _ _) (congrArg (World.drewN _) (Nat.add_assoc _ _ _))⟩)) | (go_at_call 73; (with_reducible refine (impl_Blocks.calls Aq4.out).mono ?_); rintro e w' ⟨rfl, ⟨nd, rfl⟩⟩; (try first | exact ⟨rfl, _, World.drewN_drewN _ _ _⟩ | exact ⟨rfl, _, Eq.trans (World.drewN_drewN _ _ _) (congrArg (World.drewN _) (Nat.add_assoc _ _ _))⟩)))
     repeat (go_quiet (first | (go_at_call 47; (with_reducible refine (impl_within.calls Aq2.out).mono ?_); rintro e w' ⟨rfl, ⟨nd, rfl⟩⟩; (try first | exact ⟨rfl, _, World.drewN_drewN _ _ _⟩ | exact ⟨rfl, _, Eq.trans (World.drewN_drewN _ _ _) (congrArg (World.drewN _) (Nat.add_assoc _ _ _))⟩)) | (go_at_call 72; (with_reducible refine (impl_SizeOk.calls Aq3.out).mono ?_); rintro e w' ⟨rfl, ⟨nd, rfl⟩⟩; (try first | exact ⟨rfl, _, World.drewN_drewN _ _ _⟩ | exact ⟨rfl, _, Eq.trans (World.drewN_drewN _ _ _) (congrArg (World.drewN _) (Nat.add_assoc _ _ _))⟩)) | (go_at_call 73; (with_reducible refine (impl_Blocks.calls Aq4.out).mono ?_); rintro e w' ⟨rfl, ⟨nd, rfl⟩⟩; (try first | exact ⟨rfl, _, World.drewN_drewN _ _ _⟩ | exact ⟨rfl, _, Eq.trans (World.drewN_drewN _ _ _) (congrArg (World.drewN _) (Nat.add_assoc _ _ _))⟩))); try go_wp2_with (first | (go_at_call 47; (with_reducible refine (impl_within.calls Aq2.out).mono ?_); rintro e w' ⟨rfl, ⟨nd, rfl⟩⟩; (try first | exact ⟨rfl, _, World.drewN_drewN _ _ _⟩ | exact ⟨rfl, _, Eq.trans (World.drewN_drewN _ _ _) (congrArg (World.drewN _) (Nat.add_assoc _ _ _))⟩)) | (go_at_call 72; (with_reducible refine (impl_SizeOk.calls Aq3.out).mono ?_); rintro e w' ⟨rfl, ⟨nd, rfl⟩⟩; (try first | exact ⟨rfl, _, World.drewN_drewN _ _ _⟩ | exact ⟨rfl, _, Eq.trans (World.drewN_drewN _ _ _) (congrArg (World.drewN _) (Nat.add_assoc _ _ _))⟩)) | (go_at_call 73; (with_reducible refine (impl_Blocks.calls Aq4.out).mono ?_); rintro e w' ⟨rfl, ⟨nd, rfl⟩⟩; (try first | exact ⟨rfl, _, World.drewN_drewN _ _ _⟩ | exact ⟨rfl, _, Eq.trans (World.drewN_drewN _ _ _) (congrArg (World.drewN _) (Nat.add_assoc _ _ _))⟩))))
     go_meet
     case rel => exact ⟨_, (((ab.length : Int) != aG)), TF, H', ⟨by first | omega | exact Nat.le_refl _⟩, ⟨TK⟩, ⟨TB⟩⟩
    ·replace cq3 := bF cq3;subst cq3;replace H := ifF H;have H' := aM H;clear H;obtain ⟨am, av, aw, ar⟩ := cz4 aa.out;obtain ⟨ap, an, aq, az⟩ := fz4 aa.out;go_wp2_with (first | (go_at_call 47; (with_reducible refine (impl_within.calls Aq2.out).mono ?_); rintro e w' ⟨rfl, ⟨nd, rfl⟩⟩; (try first | exact ⟨rfl, _, World.drewN_drewN _ _ _⟩ | exact ⟨rfl, _, Eq.trans (World.drewN_drewN _ _ _) (congrArg (World.drewN _) (Nat.add_assoc _ _ _))⟩)) | (go_at_call 72; (with_reducible refine (impl_SizeOk.calls Aq3.out).mono ?_); rintro e w' ⟨rfl, ⟨nd, rfl⟩⟩; (try first | exact ⟨rfl, _, World.drewN_drewN _ _ _⟩ | exact ⟨rfl, _, Eq.trans (World.drewN_drewN _ _ _) (congrArg (World.drewN _) (Nat.add_assoc _ _ _))⟩)))
     repeat (go_quiet (first | (go_at_call 47; (with_reducible refine (impl_within.calls Aq2.out).mono ?_); rintro e w' ⟨rfl, ⟨nd, rfl⟩⟩; (try first | exact ⟨rfl, _, World.drewN_drewN _ _ _⟩ | exact ⟨rfl, _, Eq.trans (World.drewN_drewN _ _ _) (congrArg (World.drewN _) (Nat.add_assoc _ _ _))⟩)) | (go_at_call 72; (with_reducible refine (impl_SizeOk.calls Aq3.out).mono ?_); rintro e w' ⟨rfl, ⟨nd, rfl⟩⟩; (try first | exact ⟨rfl, _, World.drewN_drewN _ _ _⟩ | exact ⟨rfl, _, Eq.trans (World.drewN_drewN _ _ _) (congrArg (World.drewN _) (Nat.add_assoc _ _ _))⟩))); try go_wp2_with (first | (go_at_call 47; (with_reducible refine (impl_within.calls Aq2.out).mono ?_); rintro e w' ⟨rfl, ⟨nd, rfl⟩⟩; (try first | exact ⟨rfl, _, World.drewN_drewN _ _ _⟩ | exact ⟨rfl, _, Eq.trans (World.drewN_drewN _ _ _) (congrArg (World.drewN _) (Nat.add_assoc _ _ _))⟩)) | (go_at_call 72; (with_reducible refine (impl_SizeOk.calls Aq3.out).mono ?_); rintro e w' ⟨rfl, ⟨nd, rfl⟩⟩; (try first | exact ⟨rfl, _, World.drewN_drewN _ _ _⟩ | exact ⟨rfl, _, Eq.trans (World.drewN_drewN _ _ _) (congrArg (World.drewN _) (Nat.add_assoc _ _ _))⟩))))
     go_meet
     case rel => exact ⟨_, (true), TF, H', ⟨by first | omega | exact Nat.le_refl _⟩, ⟨TK⟩, ⟨TB⟩⟩
   ·replace cq2 := bF cq2;subst cq2;replace H := ifF H;have H' := aM H;clear H;obtain ⟨am, av, aw, ar⟩ := cz4 aa.out;obtain ⟨ap, an, aq, az⟩ := fz4 aa.out;go_wp2_with (first | (go_at_call 47; (with_reducible refine (impl_within.calls Aq2.out).mono ?_); rintro e w' ⟨rfl, ⟨nd, rfl⟩⟩; (try first | exact ⟨rfl, _, World.drewN_drewN _ _ _⟩ | exact ⟨rfl, _, Eq.trans (World.drewN_drewN _ _ _) (congrArg (World.drewN _) (Nat.add_assoc _ _ _))⟩)))
    repeat (go_quiet (first | (go_at_call 47; (with_reducible refine (impl_within.calls Aq2.out).mono ?_); rintro e w' ⟨rfl, ⟨nd, rfl⟩⟩; (try first | exact ⟨rfl, _, World.drewN_drewN _ _ _⟩ | exact ⟨rfl, _, Eq.trans (World.drewN_drewN _ _ _) (congrArg (World.drewN _) (Nat.add_assoc _ _ _))⟩))); try go_wp2_with (first | (go_at_call 47; (with_reducible refine (impl_within.calls Aq2.out).mono ?_); rintro e w' ⟨rfl, ⟨nd, rfl⟩⟩; (try first | exact ⟨rfl, _, World.drewN_drewN _ _ _⟩ | exact ⟨rfl, _, Eq.trans (World.drewN_drewN _ _ _) (congrArg (World.drewN _) (Nat.add_assoc _ _ _))⟩))))
    go_meet
    case rel => exact ⟨_, (true), TF, H', ⟨by first | omega | exact Nat.le_refl _⟩, ⟨TK⟩, ⟨TB⟩⟩
  case rest =>
   clear aI;try clear cq1
   try clear aA
   try clear ay
   try clear aB
   try clear ax
   try clear ao
   try clear aC
   try clear aD
   try clear au
   obtain ⟨kq, xq1, rfl, HA, HJq1, aa, HB⟩ := hcut;cases kq with
   | zero => exact absurd HA.out (by simp [impl_ManOk.j0])
   | succ kj7 =>
    have H := HA.out;clear HA;simp only [impl_ManOk.j0] at H
    by_cases cq6 : xq1 = true
    ·subst cq6;replace H := ifT H;obtain rfl := oI H;go_wp2
     repeat (go_quiet (fail); try go_wp2)
     go_ret
     exact ⟨TE, TB⟩
    ·replace cq6 := bF cq6;subst cq6;replace H := ifF H;have H' := aM H;clear H;obtain ⟨a7, aW, ba, aQ⟩ := cz4 aa.out;obtain ⟨aO, a6, a9, bc⟩ := fz4 aa.out;go_wp2
     repeat (go_quiet (fail); try go_wp2)
     go_loopg [37] kj7 (fun kq vq2 w' => ∃ (xq2 : Int), vq2 = .int .i64 xq2 ∧ Aside0 (impl_ManOk.l0 kq ab (ab.length : Int) xq2 ae ac ad ab = some r) ∧ Aside0 (kq ≤ kj7) ∧ Aside0 (w'.heap[aH]? = some (.cells #[.int .i64 ae, .int .i64 ac, .int .i64 ad, (.slice aj ab.length ak)] 26 (0, 0))) ∧ Aside0 (Below w.heap.size w w'))
     case atStart => exact ⟨(0), TF, H', ⟨Nat.le_refl _⟩, ⟨TK⟩, ⟨TB⟩⟩
     case round =>
      clear H';try clear cq1
      try clear cq6
      try clear a7
      try clear aW
      try clear ba
      try clear aQ
      try clear aA
      try clear ay
      try clear aB
      try clear ax
      try clear aO
      try clear a6
      try clear a9
      try clear bc
      try clear ao
      try clear aC
      try clear aD
      try clear au
      obtain ⟨xq2, rfl, HA, HKq1, aa, HB⟩ := hrel;cases gk with
      | zero => exact absurd HA.out (by simp [impl_ManOk.l0])
      | succ k2 =>
       have H := HA.out;clear HA;simp only [impl_ManOk.l0] at H
       by_cases cq7 : xq2 < (ab.length : Int)
       ·rw [if_pos cq7] at H;have cq8 : decide (xq2 < (ab.length : Int)) = true := decide_eq_true cq7;clear cq7;replace H := ifN H;obtain ⟨cq9, H⟩ := H;have cq10 : decide (0 ≤ xq2) = true := decide_eq_true cq9;clear cq9;replace H := ifN H;obtain ⟨cq11, H⟩ := H;have cq12 : decide (xq2 < (ab.length : Int)) = true := decide_eq_true cq11;clear cq11;replace H := bE H;obtain ⟨⟨tq1, tq2⟩, Aq2, H⟩ := H;dsimp only at H;replace H := bE H;obtain ⟨⟨tq3, tq4⟩, Aq3, H⟩ := H;dsimp only at H;have pq2 : 0 ≤ (xq2 : Int) := DT;have qq1 : xq2 < (ab.length : Int) := DT;obtain ⟨adq1, eq1, aK, aJ⟩ := at_T75 ah.out xq2 pq2 qq1;cases eq1;replace aK := (HB.out.cell (World.block_lt_of_cell? w _ aK)).trans aK;replace aJ := (HB.out.cell (World.block_lt_of_cell? w _ aJ)).trans aJ;replace pq2 := eq_true pq2;replace qq1 := eq_true qq1;go_wp2_with (first | ((with_reducible refine gate_dst (N := 4) rfl ?_); (try (refine gate_guard (by rfl) ?_; dsimp only)); refine gBx 4 #[.int .i64 0, .int .i64 0] 75 ?_; intro aE hg wq3 hbox hb; have BKq2 := aM (hbox); have GWq2 := gW HB hg; have GEq2 := gW HB hg; obtain ⟨NBq1, NBq2⟩ := nB aa hg; replace aa := mB aa hb; replace HB := bS HB hb; clear hb hbox hg; obtain ⟨hnbq1, hncq1⟩ := oB NBq2; obtain ⟨hczq21, hczq22⟩ := cz2 BKq2.out; obtain ⟨hfzq21, hfzq22⟩ := fz2 BKq2.out) | (go_at_call 74; (with_reducible refine (impl_BytesOf.calls Aq2.out).mono ?_); rintro e wq4 ⟨vq3, rfl, hoq1, hb⟩; have HOq1 := aM (Kd.R_lower hoq1 (below_size TB)); replace aa := mB aa hb; replace BKq2 := aM (blk_below (g := aE) (o := .cells #[.int .i64 ((rd_T75 ab xq2).f0), .int .i64 ((rd_T75 ab xq2).f1)] 75 (0, 0)) (blk_put (blk_put (cs := #[.int .i64 0, .int .i64 0]) (TZ BKq2) 0 _ rfl) 1 _ rfl) hb); replace HB := bS HB hb; clear hoq1 hb; obtain ⟨hczq23, hczq24, hczq25, hczq26⟩ := cz4 aa.out; obtain ⟨hfzq23, hfzq24, hfzq25, hfzq26⟩ := fz4 aa.out) | ((with_reducible refine gate_callee (f := 75) rfl ?_); (with_reducible refine gate_dst (N := 54) rfl ?_); generalize hG_ : wpList _ _ _ _ _ _ = G_))
        repeat (go_quiet (first | ((with_reducible refine gate_dst (N := 4) rfl ?_); (try (refine gate_guard (by rfl) ?_; dsimp only)); refine gBx 4 #[.int .i64 0, .int .i64 0] 75 ?_; intro aE hg wq3 hbox hb; have BKq2 := aM (hbox); have GWq2 := gW HB hg; have GEq2 := gW HB hg; obtain ⟨NBq1, NBq2⟩ := nB aa hg; replace aa := mB aa hb; replace HB := bS HB hb; clear hb hbox hg; obtain ⟨hnbq1, hncq1⟩ := oB NBq2; obtain ⟨hczq21, hczq22⟩ := cz2 BKq2.out; obtain ⟨hfzq21, hfzq22⟩ := fz2 BKq2.out) | (go_at_call 74; (with_reducible refine (impl_BytesOf.calls Aq2.out).mono ?_); rintro e wq4 ⟨vq3, rfl, hoq1, hb⟩; have HOq1 := aM (Kd.R_lower hoq1 (below_size TB)); replace aa := mB aa hb; replace BKq2 := aM (blk_below (g := aE) (o := .cells #[.int .i64 ((rd_T75 ab xq2).f0), .int .i64 ((rd_T75 ab xq2).f1)] 75 (0, 0)) (blk_put (blk_put (cs := #[.int .i64 0, .int .i64 0]) (TZ BKq2) 0 _ rfl) 1 _ rfl) hb); replace HB := bS HB hb; clear hoq1 hb; obtain ⟨hczq23, hczq24, hczq25, hczq26⟩ := cz4 aa.out; obtain ⟨hfzq23, hfzq24, hfzq25, hfzq26⟩ := fz4 aa.out) | ((with_reducible refine gate_callee (f := 75) rfl ?_); (with_reducible refine gate_dst (N := 54) rfl ?_); generalize hG_ : wpList _ _ _ _ _ _ = G_)); try go_wp2_with (first | ((with_reducible refine gate_dst (N := 4) rfl ?_); (try (refine gate_guard (by rfl) ?_; dsimp only)); refine gBx 4 #[.int .i64 0, .int .i64 0] 75 ?_; intro aE hg wq3 hbox hb; have BKq2 := aM (hbox); have GWq2 := gW HB hg; have GEq2 := gW HB hg; obtain ⟨NBq1, NBq2⟩ := nB aa hg; replace aa := mB aa hb; replace HB := bS HB hb; clear hb hbox hg; obtain ⟨hnbq1, hncq1⟩ := oB NBq2; obtain ⟨hczq21, hczq22⟩ := cz2 BKq2.out; obtain ⟨hfzq21, hfzq22⟩ := fz2 BKq2.out) | (go_at_call 74; (with_reducible refine (impl_BytesOf.calls Aq2.out).mono ?_); rintro e wq4 ⟨vq3, rfl, hoq1, hb⟩; have HOq1 := aM (Kd.R_lower hoq1 (below_size TB)); replace aa := mB aa hb; replace BKq2 := aM (blk_below (g := aE) (o := .cells #[.int .i64 ((rd_T75 ab xq2).f0), .int .i64 ((rd_T75 ab xq2).f1)] 75 (0, 0)) (blk_put (blk_put (cs := #[.int .i64 0, .int .i64 0]) (TZ BKq2) 0 _ rfl) 1 _ rfl) hb); replace HB := bS HB hb; clear hoq1 hb; obtain ⟨hczq23, hczq24, hczq25, hczq26⟩ := cz4 aa.out; obtain ⟨hfzq23, hfzq24, hfzq25, hfzq26⟩ := fz4 aa.out) | ((with_reducible refine gate_callee (f := 75) rfl ?_); (with_reducible refine gate_dst (N := 54) rfl ?_); generalize hG_ : wpList _ _ _ _ _ _ = G_)))
        subst hG_
        by_cases aF : tq2 = true
        ·subst aF;replace H := ifT H
         by_cases ai : (tq1.length : Int) = tq4
         ·rw [if_pos ai] at H;have cq15 : ((tq1.length : Int) == tq4) = true := beq_iff_eq.mpr ai;have cq16 : ((tq1.length : Int) != tq4) = false := bne_eq_false_iff_eq.mpr ai;clear ai;replace H := bE H;obtain ⟨af, Aq4, H⟩ := H
          by_cases ag : af = ((rd_T75 ab xq2).f0)
          ·rw [if_pos ag] at H;have cq18 : (af == ((rd_T75 ab xq2).f0)) = true := beq_iff_eq.mpr ag;have cq19 : (af != ((rd_T75 ab xq2).f0)) = false := bne_eq_false_iff_eq.mpr ag;clear ag;have H' := aM H;clear H;go_wp2_with (first | (go_at_call 75; (with_reducible refine (impl_SpanOf.calls Aq3.out).mono ?_); rintro e wq5 ⟨rfl, hb⟩; replace HOq1 := mR HOq1 hb; replace aa := mB aa hb; replace BKq2 := mB BKq2 hb; replace HB := bS HB hb; clear hb; obtain ⟨Aoq1, coq1, eoq1⟩ := Kd.R_slice HOq1.out; subst eoq1) | (go_at_call 29; (with_reducible refine (impl_WeakOf.calls ?side1 ?side2 Aq4.out).mono ?_); (case side1 => exact Zq12_1); (case side2 => exact (Kd.R_reads' HOq1.out).2.1); rintro e w' ⟨rfl, ⟨nd, rfl⟩⟩; (try first | exact ⟨rfl, _, World.drewN_drewN _ _ _⟩ | exact ⟨rfl, _, Eq.trans (World.drewN_drewN _ _ _) (congrArg (World.drewN _) (Nat.add_assoc _ _ _))⟩); obtain ⟨hnbq2, hncq2⟩ := oB NBq2; obtain ⟨hczq27, hczq28⟩ := cz2 BKq2.out; obtain ⟨hfzq27, hfzq28⟩ := fz2 BKq2.out))
           repeat (go_quiet (first | (go_at_call 75; (with_reducible refine (impl_SpanOf.calls Aq3.out).mono ?_); rintro e wq5 ⟨rfl, hb⟩; replace HOq1 := mR HOq1 hb; replace aa := mB aa hb; replace BKq2 := mB BKq2 hb; replace HB := bS HB hb; clear hb; obtain ⟨Aoq1, coq1, eoq1⟩ := Kd.R_slice HOq1.out; subst eoq1) | (go_at_call 29; (with_reducible refine (impl_WeakOf.calls ?side1 ?side2 Aq4.out).mono ?_); (case side1 => exact Zq12_1); (case side2 => exact (Kd.R_reads' HOq1.out).2.1); rintro e w' ⟨rfl, ⟨nd, rfl⟩⟩; (try first | exact ⟨rfl, _, World.drewN_drewN _ _ _⟩ | exact ⟨rfl, _, Eq.trans (World.drewN_drewN _ _ _) (congrArg (World.drewN _) (Nat.add_assoc _ _ _))⟩); obtain ⟨hnbq2, hncq2⟩ := oB NBq2; obtain ⟨hczq27, hczq28⟩ := cz2 BKq2.out; obtain ⟨hfzq27, hfzq28⟩ := fz2 BKq2.out)); try go_wp2_with (first | (go_at_call 75; (with_reducible refine (impl_SpanOf.calls Aq3.out).mono ?_); rintro e wq5 ⟨rfl, hb⟩; replace HOq1 := mR HOq1 hb; replace aa := mB aa hb; replace BKq2 := mB BKq2 hb; replace HB := bS HB hb; clear hb; obtain ⟨Aoq1, coq1, eoq1⟩ := Kd.R_slice HOq1.out; subst eoq1) | (go_at_call 29; (with_reducible refine (impl_WeakOf.calls ?side1 ?side2 Aq4.out).mono ?_); (case side1 => exact Zq12_1); (case side2 => exact (Kd.R_reads' HOq1.out).2.1); rintro e w' ⟨rfl, ⟨nd, rfl⟩⟩; (try first | exact ⟨rfl, _, World.drewN_drewN _ _ _⟩ | exact ⟨rfl, _, Eq.trans (World.drewN_drewN _ _ _) (congrArg (World.drewN _) (Nat.add_assoc _ _ _))⟩); obtain ⟨hnbq2, hncq2⟩ := oB NBq2; obtain ⟨hczq27, hczq28⟩ := cz2 BKq2.out; obtain ⟨hfzq27, hfzq28⟩ := fz2 BKq2.out)))
           go_roundg k2
           case measure => have := HJq1.out; have := HKq1.out; omega
           case rel => exact ⟨(wrap64 (xq2 + 1)), TF, H', ⟨by have := HJq1.out; have := HKq1.out; omega⟩, ⟨TK⟩, ⟨TB⟩⟩
          ·rw [if_neg ag] at H;have cq18 : (af == ((rd_T75 ab xq2).f0)) = false := beq_eq_false_iff_ne.mpr ag;have cq19 : (af != ((rd_T75 ab xq2).f0)) = true := bne_iff_ne.mpr ag;obtain rfl := oI H;go_wp2_with (first | (go_at_call 75; (with_reducible refine (impl_SpanOf.calls Aq3.out).mono ?_); rintro e wq5 ⟨rfl, hb⟩; replace HOq1 := mR HOq1 hb; replace aa := mB aa hb; replace BKq2 := mB BKq2 hb; replace HB := bS HB hb; clear hb; obtain ⟨Aoq1, coq1, eoq1⟩ := Kd.R_slice HOq1.out; subst eoq1) | (go_at_call 29; (with_reducible refine (impl_WeakOf.calls ?side1 ?side2 Aq4.out).mono ?_); (case side1 => exact Zq12_1); (case side2 => exact (Kd.R_reads' HOq1.out).2.1); rintro e w' ⟨rfl, ⟨nd, rfl⟩⟩; (try first | exact ⟨rfl, _, World.drewN_drewN _ _ _⟩ | exact ⟨rfl, _, Eq.trans (World.drewN_drewN _ _ _) (congrArg (World.drewN _) (Nat.add_assoc _ _ _))⟩); obtain ⟨hnbq2, hncq2⟩ := oB NBq2; obtain ⟨hczq27, hczq28⟩ := cz2 BKq2.out; obtain ⟨hfzq27, hfzq28⟩ := fz2 BKq2.out))
           repeat (go_quiet (first | (go_at_call 75; (with_reducible refine (impl_SpanOf.calls Aq3.out).mono ?_); rintro e wq5 ⟨rfl, hb⟩; replace HOq1 := mR HOq1 hb; replace aa := mB aa hb; replace BKq2 := mB BKq2 hb; replace HB := bS HB hb; clear hb; obtain ⟨Aoq1, coq1, eoq1⟩ := Kd.R_slice HOq1.out; subst eoq1) | (go_at_call 29; (with_reducible refine (impl_WeakOf.calls ?side1 ?side2 Aq4.out).mono ?_); (case side1 => exact Zq12_1); (case side2 => exact (Kd.R_reads' HOq1.out).2.1); rintro e w' ⟨rfl, ⟨nd, rfl⟩⟩; (try first | exact ⟨rfl, _, World.drewN_drewN _ _ _⟩ | exact ⟨rfl, _, Eq.trans (World.drewN_drewN _ _ _) (congrArg (World.drewN _) (Nat.add_assoc _ _ _))⟩); obtain ⟨hnbq2, hncq2⟩ := oB NBq2; obtain ⟨hczq27, hczq28⟩ := cz2 BKq2.out; obtain ⟨hfzq27, hfzq28⟩ := fz2 BKq2.out)); try go_wp2_with (first | (go_at_call 75; (with_reducible refine (impl_SpanOf.calls Aq3.out).mono ?_); rintro e wq5 ⟨rfl, hb⟩; replace HOq1 := mR HOq1 hb; replace aa := mB aa hb; replace BKq2 := mB BKq2 hb; replace HB := bS HB hb; clear hb; obtain ⟨Aoq1, coq1, eoq1⟩ := Kd.R_slice HOq1.out; subst eoq1) | (go_at_call 29; (with_reducible refine (impl_WeakOf.calls ?side1 ?side2 Aq4.out).mono ?_); (case side1 => exact Zq12_1); (case side2 => exact (Kd.R_reads' HOq1.out).2.1); rintro e w' ⟨rfl, ⟨nd, rfl⟩⟩; (try first | exact ⟨rfl, _, World.drewN_drewN _ _ _⟩ | exact ⟨rfl, _, Eq.trans (World.drewN_drewN _ _ _) (congrArg (World.drewN _) (Nat.add_assoc _ _ _))⟩); obtain ⟨hnbq2, hncq2⟩ := oB NBq2; obtain ⟨hczq27, hczq28⟩ := cz2 BKq2.out; obtain ⟨hfzq27, hfzq28⟩ := fz2 BKq2.out)))
           go_ret
           exact ⟨TE, TB⟩
         ·rw [if_neg ai] at H;have cq15 : ((tq1.length : Int) == tq4) = false := beq_eq_false_iff_ne.mpr ai;have cq16 : ((tq1.length : Int) != tq4) = true := bne_iff_ne.mpr ai;obtain rfl := oI H;go_wp2_with (first | (go_at_call 75; (with_reducible refine (impl_SpanOf.calls Aq3.out).mono ?_); rintro e wq5 ⟨rfl, hb⟩; replace HOq1 := mR HOq1 hb; replace aa := mB aa hb; replace BKq2 := mB BKq2 hb; replace HB := bS HB hb; clear hb; obtain ⟨Aoq1, coq1, eoq1⟩ := Kd.R_slice HOq1.out; subst eoq1))
          repeat (go_quiet (first | (go_at_call 75; (with_reducible refine (impl_SpanOf.calls Aq3.out).mono ?_); rintro e wq5 ⟨rfl, hb⟩; replace HOq1 := mR HOq1 hb; replace aa := mB aa hb; replace BKq2 := mB BKq2 hb; replace HB := bS HB hb; clear hb; obtain ⟨Aoq1, coq1, eoq1⟩ := Kd.R_slice HOq1.out; subst eoq1)); try go_wp2_with (first | (go_at_call 75; (with_reducible refine (impl_SpanOf.calls Aq3.out).mono ?_); rintro e wq5 ⟨rfl, hb⟩; replace HOq1 := mR HOq1 hb; replace aa := mB aa hb; replace BKq2 := mB BKq2 hb; replace HB := bS HB hb; clear hb; obtain ⟨Aoq1, coq1, eoq1⟩ := Kd.R_slice HOq1.out; subst eoq1)))
          go_ret
          exact ⟨TE, TB⟩
        ·replace aF := bF aF;subst aF;replace H := ifF H;obtain rfl := oI H;go_wp2_with (first | (go_at_call 75; (with_reducible refine (impl_SpanOf.calls Aq3.out).mono ?_); rintro e wq5 ⟨rfl, hb⟩; replace HOq1 := mR HOq1 hb; replace aa := mB aa hb; replace BKq2 := mB BKq2 hb; replace HB := bS HB hb; clear hb))
         repeat (go_quiet (first | (go_at_call 75; (with_reducible refine (impl_SpanOf.calls Aq3.out).mono ?_); rintro e wq5 ⟨rfl, hb⟩; replace HOq1 := mR HOq1 hb; replace aa := mB aa hb; replace BKq2 := mB BKq2 hb; replace HB := bS HB hb; clear hb)); try go_wp2_with (first | (go_at_call 75; (with_reducible refine (impl_SpanOf.calls Aq3.out).mono ?_); rintro e wq5 ⟨rfl, hb⟩; replace HOq1 := mR HOq1 hb; replace aa := mB aa hb; replace BKq2 := mB BKq2 hb; replace HB := bS HB hb; clear hb)))
         go_ret
         exact ⟨TE, TB⟩
       ·rw [if_neg cq7] at H;have cq8 : decide (xq2 < (ab.length : Int)) = false := decide_eq_false cq7;clear cq7;obtain rfl := oI H;go_wp2
        repeat (go_quiet (fail); try go_wp2)
        go_ret
        exact ⟨TE, TB⟩
end Go.Proofs.YtanpaipapcjpoaaGreatDoor.Q
