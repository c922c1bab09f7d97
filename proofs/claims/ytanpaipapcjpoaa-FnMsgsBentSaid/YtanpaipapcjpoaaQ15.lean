/- Functions of the program as plain Lean functions, and that a call of each comes to what its function tells. Written by a program of this seat. -/
import Derived.Test.YtanpaipapcjpoaaQ0
import Derived.Test.YtanpaipapcjpoaaQ13
import Derived.Test.YtanpaipapcjpoaaQ14
namespace Go.Proofs.Ytanpaipapcjpoaa.Q
open Go.RowKit Go.Proofs.YtanpaipapcjpoaaW.PrintWords Go.Proofs.YtanpaipapcjpoaaW.PrintLast Go.Proofs.YtanpaipapcjpoaaW.PrintMore
attribute [local go_sem] min2_int min_two
set_option linter.unusedVariables false
set_option linter.unusedSimpArgs false

theorem Zq15_0 {p : Prop} (h : p := by repeat (first | exact (Kd.C_below ak.out TB) | (with_reducible refine Kd.C_alloc ?_ _) | (with_reducible refine Kd.C_drewN ?_ _) | (with_reducible refine Kd.C_drew ?_))) : p := h
theorem Zq15_1 {p : Prop} (h : p := by have X_ := (Kd.R_reads' HO303.out).2.2; exact TC) : p := h
mutual
def impl_ManOk.j0 : Nat → Bool → Int → Int → Int → List (S83) → Option (Bool)
  | 0, _, _, _, _, _ => none
  | k + 1, x33, x294000, x294001, x294002, x294003 => if x33 = true then (some false) else (impl_ManOk.l0 k x294003 (x294003.length : Int) 0 x294000 x294001 x294002 x294003)
def impl_ManOk.l0 : Nat → List (S83) → Int → Int → Int → Int → Int → List (S83) → Option (Bool)
  | 0, _, _, _, _, _, _, _ => none
  | k + 1, x35, x36, x37, x294000, x294001, x294002, x294003 => if x37 < x36 then (if 0 ≤ x37 then (if x37 < (x35.length : Int) then ((impl_BytesOf.f k ((rd_T83 x35 x37).f1)).bind fun bt300 => ((impl_SpanOf.f x294001 x294002 x37).bind fun bt304 => (if bt300.2 = true then (if (bt300.1.length : Int) = bt304.2 then ((impl_WeakOf.f k bt300.1).bind fun t306 => (if t306 = ((rd_T83 x35 x37).f0) then (impl_ManOk.l0 k x35 x36 (wrap64 (x37 + 1)) x294000 x294001 x294002 x294003) else (some false))) else (some false)) else (some false)))) else (none)) else (none)) else (some true)
end
def impl_ManOk.f (k : Nat) (a0_0 : Int) (a0_1 : Int) (a0_2 : Int) (l0_3 : List (S83)) : Option (Bool) := (impl_isZeroMan.f a0_0 a0_1 a0_2 l0_3).bind fun t294 => (if t294 = true then (some true) else ((impl_within.f a0_0 1 1000000).bind fun t295 => (if t295 = true then ((impl_SizeOk.f a0_1 a0_2).bind fun t296 => (if t296 = true then ((impl_Blocks.f a0_1 a0_2).bind fun t297 => (impl_ManOk.j0 k ((l0_3.length : Int) != t297) a0_0 a0_1 a0_2 l0_3)) else (impl_ManOk.j0 k true a0_0 a0_1 a0_2 l0_3))) else (impl_ManOk.j0 k true a0_0 a0_1 a0_2 l0_3))))
theorem impl_ManOk.mono_l : ∀ k, (∀ y0 y1 y2 y3 y4, LeO (impl_ManOk.j0 k y0 y1 y2 y3 y4) (impl_ManOk.j0 (k + 1) y0 y1 y2 y3 y4)) ∧ (∀ y0 y1 y2 y3 y4 y5 y6, LeO (impl_ManOk.l0 k y0 y1 y2 y3 y4 y5 y6) (impl_ManOk.l0 (k + 1) y0 y1 y2 y3 y4 y5 y6))
  | 0 => ⟨fun _ _ _ _ _ r h => by simp [impl_ManOk.j0] at h, fun _ _ _ _ _ _ _ r h => by simp [impl_ManOk.l0] at h⟩
  | k + 1 => by
    have m0_ := @impl_BytesOf.mono
    have m1_ := @impl_WeakOf.mono
    obtain ⟨ih0, ih1⟩ := impl_ManOk.mono_l k
    refine ⟨?_, ?_⟩
    · intro y0 y1 y2 y3 y4
      unfold impl_ManOk.j0
      exact LM
    · intro y0 y1 y2 y3 y4 y5 y6
      unfold impl_ManOk.l0
      exact LM
theorem impl_ManOk.mono : ∀ a0 a1 a2 a3 k, LeO (impl_ManOk.f k a0 a1 a2 a3) (impl_ManOk.f (k + 1) a0 a1 a2 a3) := by
  intro a0 a1 a2 a3 k;have m0_ := @impl_BytesOf.mono;have m1_ := @impl_WeakOf.mono;obtain ⟨ih0, ih1⟩ := impl_ManOk.mono_l k;unfold impl_ManOk.f;exact LM
set_option maxHeartbeats 40000000 in
set_option maxRecDepth 100000 in
theorem impl_ManOk.calls (k : Nat) (af : Int) (ad : Int) (ae : Int) (am : Option Addr) (an : Nat) (ac : List (S83)) (r : Bool) (w : World) (bb : Kd.C k83 w am ac.length ac) (ba : ac.length ≤ an) (h : impl_ManOk.f k af ad ae ac = some r) :
  Calls Try.prog 36 #[.agg #[.int .i64 af, .int .i64 ad, .int .i64 ae, .slice am ac.length an]] w fun e w' => e = .returned (.bool r) ∧ Below w.heap.size w w' := by
 have hu25 := Try.underlying25;have hu83 := Try.underlying83;have ak := aM bb;have al := aM ba;clear bb ba;have HB := aM (Below.refl w.heap.size w);have H := h;clear h;unfold impl_ManOk.f at H;replace H := bE H;obtain ⟨t294, A2, H⟩ := H;go_enter Try.func36, Try.ntmps36;go_wp2_with (first | ((with_reducible refine gate_dst (N := 1) rfl ?_); (try (refine gate_guard (by rfl) ?_; dsimp only)); refine gBx 1 #[.int .i64 af, .int .i64 ad, .int .i64 ae, .slice am ac.length an] 25 ?_; intro aC hg w4 hbox hb; have aa := aM (hbox); have GW293 := gW HB hg; have GE293 := gW HB hg; replace HB := bS HB hb; clear hb hbox hg; obtain ⟨au, aq, ar, aw⟩ := cz4 aa.out; obtain ⟨ax, av, ap, ay⟩ := fz4 aa.out) | ((with_reducible refine gate_callee (f := 73) rfl ?_); (with_reducible refine gate_dst (N := 10) rfl ?_); generalize hG_ : wpList _ _ _ _ _ _ = G_))
 repeat (go_quiet (first | ((with_reducible refine gate_dst (N := 1) rfl ?_); (try (refine gate_guard (by rfl) ?_; dsimp only)); refine gBx 1 #[.int .i64 af, .int .i64 ad, .int .i64 ae, .slice am ac.length an] 25 ?_; intro aC hg w4 hbox hb; have aa := aM (hbox); have GW293 := gW HB hg; have GE293 := gW HB hg; replace HB := bS HB hb; clear hb hbox hg; obtain ⟨au, aq, ar, aw⟩ := cz4 aa.out; obtain ⟨ax, av, ap, ay⟩ := fz4 aa.out) | ((with_reducible refine gate_callee (f := 73) rfl ?_); (with_reducible refine gate_dst (N := 10) rfl ?_); generalize hG_ : wpList _ _ _ _ _ _ = G_)); try go_wp2_with (first | ((with_reducible refine gate_dst (N := 1) rfl ?_); (try (refine gate_guard (by rfl) ?_; dsimp only)); refine gBx 1 #[.int .i64 af, .int .i64 ad, .int .i64 ae, .slice am ac.length an] 25 ?_; intro aC hg w4 hbox hb; have aa := aM (hbox); have GW293 := gW HB hg; have GE293 := gW HB hg; replace HB := bS HB hb; clear hb hbox hg; obtain ⟨au, aq, ar, aw⟩ := cz4 aa.out; obtain ⟨ax, av, ap, ay⟩ := fz4 aa.out) | ((with_reducible refine gate_callee (f := 73) rfl ?_); (with_reducible refine gate_dst (N := 10) rfl ?_); generalize hG_ : wpList _ _ _ _ _ _ = G_)))
 subst hG_
 by_cases c6 : t294 = true
 ·subst c6;replace H := ifT H;obtain rfl := Option.some.inj H;go_wp2_with (first | (go_at_call 73; (with_reducible refine (impl_isZeroMan.calls af ad ae _ _ ac true _ ?side1 ?side2 A2.out).mono ?_); (case side1 => exact Zq15_0); (case side2 => exact al.out); rintro e w7 ⟨rfl, hb⟩; replace aa := mB aa hb; replace HB := bS HB hb; clear hb))
  repeat (go_quiet (first | (go_at_call 73; (with_reducible refine (impl_isZeroMan.calls af ad ae _ _ ac true _ ?side1 ?side2 A2.out).mono ?_); (case side1 => exact Zq15_0); (case side2 => exact al.out); rintro e w7 ⟨rfl, hb⟩; replace aa := mB aa hb; replace HB := bS HB hb; clear hb)); try go_wp2_with (first | (go_at_call 73; (with_reducible refine (impl_isZeroMan.calls af ad ae _ _ ac true _ ?side1 ?side2 A2.out).mono ?_); (case side1 => exact Zq15_0); (case side2 => exact al.out); rintro e w7 ⟨rfl, hb⟩; replace aa := mB aa hb; replace HB := bS HB hb; clear hb)))
  go_ret
  exact ⟨TE, TB⟩
 ·replace c6 := Bool.eq_false_iff.mpr c6;subst c6;replace H := ifF H;have HC8 := aM H;clear H;go_upto_region 3 with (first | (go_at_call 73; (with_reducible refine (impl_isZeroMan.calls af ad ae _ _ ac false _ ?side1 ?side2 A2.out).mono ?_); (case side1 => exact Zq15_0); (case side2 => exact al.out); rintro e w9 ⟨rfl, hb⟩; replace aa := mB aa hb; replace HB := bS HB hb; clear hb))
  repeat (go_quiet (first | (go_at_call 73; (with_reducible refine (impl_isZeroMan.calls af ad ae _ _ ac false _ ?side1 ?side2 A2.out).mono ?_); (case side1 => exact Zq15_0); (case side2 => exact al.out); rintro e w9 ⟨rfl, hb⟩; replace aa := mB aa hb; replace HB := bS HB hb; clear hb)); go_upto_region 3 with (first | (go_at_call 73; (with_reducible refine (impl_isZeroMan.calls af ad ae _ _ ac false _ ?side1 ?side2 A2.out).mono ?_); (case side1 => exact Zq15_0); (case side2 => exact al.out); rintro e w9 ⟨rfl, hb⟩; replace aa := mB aa hb; replace HB := bS HB hb; clear hb)))
  (try simp only [NP])
  go_cut [33] (fun v33 wc => ∃ (kq : Nat) (aB : Bool), v33 = .bool aB ∧ Aside0 (impl_ManOk.j0 kq aB af ad ae ac = some r) ∧ Aside0 (kq ≤ k) ∧ Aside0 (wc.heap[aC]? = some (.cells #[.int .i64 af, .int .i64 ad, .int .i64 ae, (.slice am ac.length an)] 25 (0, 0))) ∧ Aside0 (Below w.heap.size w wc))
  case first =>
   have H := HC8.out;clear HC8;replace H := bE H;obtain ⟨t295, A10, H⟩ := H
   by_cases c11 : t295 = true
   ·subst c11;replace H := ifT H;replace H := bE H;obtain ⟨t296, A12, H⟩ := H
    by_cases c13 : t296 = true
    ·subst c13;replace H := ifT H;replace H := bE H;obtain ⟨a6, A14, H⟩ := H;have H' := aM H;clear H;obtain ⟨aY, aH, aS, aP⟩ := cz4 aa.out;obtain ⟨aU, aD, aN, a5⟩ := fz4 aa.out;go_wp2_with (first | (go_at_call 40; (with_reducible refine (impl_within.calls af 1 1000000 true _ A10.out).mono ?_); rintro e w' ⟨rfl, ⟨nd, rfl⟩⟩; (try first | exact ⟨rfl, _, World.drewN_drewN _ _ _⟩ | exact ⟨rfl, _, Eq.trans (World.drewN_drewN _ _ _) (congrArg (World.drewN _) (Nat.add_assoc _ _ _))⟩)) | (go_at_call 74; (with_reducible refine (impl_SizeOk.calls ad ae true _ A12.out).mono ?_); rintro e w' ⟨rfl, ⟨nd, rfl⟩⟩; (try first | exact ⟨rfl, _, World.drewN_drewN _ _ _⟩ | exact ⟨rfl, _, Eq.trans (World.drewN_drewN _ _ _) (congrArg (World.drewN _) (Nat.add_assoc _ _ _))⟩)) | (go_at_call 75; (with_reducible refine (impl_Blocks.calls ad ae a6 _ A14.out).mono ?_); rintro e w' ⟨rfl, ⟨nd, rfl⟩⟩; (try first | exact ⟨rfl, _, World.drewN_drewN _ _ _⟩ | exact ⟨rfl, _, Eq.trans (World.drewN_drewN _ _ _) (congrArg (World.drewN _) (Nat.add_assoc _ _ _))⟩)))
     repeat (go_quiet (first | (go_at_call 40; (with_reducible refine (impl_within.calls af 1 1000000 true _ A10.out).mono ?_); rintro e w' ⟨rfl, ⟨nd, rfl⟩⟩; (try first | exact ⟨rfl, _, World.drewN_drewN _ _ _⟩ | exact ⟨rfl, _, Eq.trans (World.drewN_drewN _ _ _) (congrArg (World.drewN _) (Nat.add_assoc _ _ _))⟩)) | (go_at_call 74; (with_reducible refine (impl_SizeOk.calls ad ae true _ A12.out).mono ?_); rintro e w' ⟨rfl, ⟨nd, rfl⟩⟩; (try first | exact ⟨rfl, _, World.drewN_drewN _ _ _⟩ | exact ⟨rfl, _, Eq.trans (World.drewN_drewN _ _ _) (congrArg (World.drewN _) (Nat.add_assoc _ _ _))⟩)) | (go_at_call 75; (with_reducible refine (impl_Blocks.calls ad ae a6 _ A14.out).mono ?_); rintro e w' ⟨rfl, ⟨nd, rfl⟩⟩; (try first | exact ⟨rfl, _, World.drewN_drewN _ _ _⟩ | exact ⟨rfl, _, Eq.trans (World.drewN_drewN _ _ _) (congrArg (World.drewN _) (Nat.add_assoc _ _ _))⟩))); try go_wp2_with (first | (go_at_call 40; (with_reducible refine (impl_within.calls af 1 1000000 true _ A10.out).mono ?_); rintro e w' ⟨rfl, ⟨nd, rfl⟩⟩; (try first | exact ⟨rfl, _, World.drewN_drewN _ _ _⟩ | exact ⟨rfl, _, Eq.trans (World.drewN_drewN _ _ _) (congrArg (World.drewN _) (Nat.add_assoc _ _ _))⟩)) | (go_at_call 74; (with_reducible refine (impl_SizeOk.calls ad ae true _ A12.out).mono ?_); rintro e w' ⟨rfl, ⟨nd, rfl⟩⟩; (try first | exact ⟨rfl, _, World.drewN_drewN _ _ _⟩ | exact ⟨rfl, _, Eq.trans (World.drewN_drewN _ _ _) (congrArg (World.drewN _) (Nat.add_assoc _ _ _))⟩)) | (go_at_call 75; (with_reducible refine (impl_Blocks.calls ad ae a6 _ A14.out).mono ?_); rintro e w' ⟨rfl, ⟨nd, rfl⟩⟩; (try first | exact ⟨rfl, _, World.drewN_drewN _ _ _⟩ | exact ⟨rfl, _, Eq.trans (World.drewN_drewN _ _ _) (congrArg (World.drewN _) (Nat.add_assoc _ _ _))⟩))))
     go_meet
     case rel => exact ⟨_, (((ac.length : Int) != a6)), TF, H', ⟨by first | omega | exact Nat.le_refl _⟩, ⟨TK⟩, ⟨TB⟩⟩
    ·replace c13 := Bool.eq_false_iff.mpr c13;subst c13;replace H := ifF H;have H' := aM H;clear H;obtain ⟨aW, aV, a4, aO⟩ := cz4 aa.out;obtain ⟨aT, aR, aL, aZ⟩ := fz4 aa.out;go_wp2_with (first | (go_at_call 40; (with_reducible refine (impl_within.calls af 1 1000000 true _ A10.out).mono ?_); rintro e w' ⟨rfl, ⟨nd, rfl⟩⟩; (try first | exact ⟨rfl, _, World.drewN_drewN _ _ _⟩ | exact ⟨rfl, _, Eq.trans (World.drewN_drewN _ _ _) (congrArg (World.drewN _) (Nat.add_assoc _ _ _))⟩)) | (go_at_call 74; (with_reducible refine (impl_SizeOk.calls ad ae false _ A12.out).mono ?_); rintro e w' ⟨rfl, ⟨nd, rfl⟩⟩; (try first | exact ⟨rfl, _, World.drewN_drewN _ _ _⟩ | exact ⟨rfl, _, Eq.trans (World.drewN_drewN _ _ _) (congrArg (World.drewN _) (Nat.add_assoc _ _ _))⟩)))
     repeat (go_quiet (first | (go_at_call 40; (with_reducible refine (impl_within.calls af 1 1000000 true _ A10.out).mono ?_); rintro e w' ⟨rfl, ⟨nd, rfl⟩⟩; (try first | exact ⟨rfl, _, World.drewN_drewN _ _ _⟩ | exact ⟨rfl, _, Eq.trans (World.drewN_drewN _ _ _) (congrArg (World.drewN _) (Nat.add_assoc _ _ _))⟩)) | (go_at_call 74; (with_reducible refine (impl_SizeOk.calls ad ae false _ A12.out).mono ?_); rintro e w' ⟨rfl, ⟨nd, rfl⟩⟩; (try first | exact ⟨rfl, _, World.drewN_drewN _ _ _⟩ | exact ⟨rfl, _, Eq.trans (World.drewN_drewN _ _ _) (congrArg (World.drewN _) (Nat.add_assoc _ _ _))⟩))); try go_wp2_with (first | (go_at_call 40; (with_reducible refine (impl_within.calls af 1 1000000 true _ A10.out).mono ?_); rintro e w' ⟨rfl, ⟨nd, rfl⟩⟩; (try first | exact ⟨rfl, _, World.drewN_drewN _ _ _⟩ | exact ⟨rfl, _, Eq.trans (World.drewN_drewN _ _ _) (congrArg (World.drewN _) (Nat.add_assoc _ _ _))⟩)) | (go_at_call 74; (with_reducible refine (impl_SizeOk.calls ad ae false _ A12.out).mono ?_); rintro e w' ⟨rfl, ⟨nd, rfl⟩⟩; (try first | exact ⟨rfl, _, World.drewN_drewN _ _ _⟩ | exact ⟨rfl, _, Eq.trans (World.drewN_drewN _ _ _) (congrArg (World.drewN _) (Nat.add_assoc _ _ _))⟩))))
     go_meet
     case rel => exact ⟨_, (true), TF, H', ⟨by first | omega | exact Nat.le_refl _⟩, ⟨TK⟩, ⟨TB⟩⟩
   ·replace c11 := Bool.eq_false_iff.mpr c11;subst c11;replace H := ifF H;have H' := aM H;clear H;obtain ⟨aQ, aI, aG, aK⟩ := cz4 aa.out;obtain ⟨aE, aF, aX, aJ⟩ := fz4 aa.out;go_wp2_with (first | (go_at_call 40; (with_reducible refine (impl_within.calls af 1 1000000 false _ A10.out).mono ?_); rintro e w' ⟨rfl, ⟨nd, rfl⟩⟩; (try first | exact ⟨rfl, _, World.drewN_drewN _ _ _⟩ | exact ⟨rfl, _, Eq.trans (World.drewN_drewN _ _ _) (congrArg (World.drewN _) (Nat.add_assoc _ _ _))⟩)))
    repeat (go_quiet (first | (go_at_call 40; (with_reducible refine (impl_within.calls af 1 1000000 false _ A10.out).mono ?_); rintro e w' ⟨rfl, ⟨nd, rfl⟩⟩; (try first | exact ⟨rfl, _, World.drewN_drewN _ _ _⟩ | exact ⟨rfl, _, Eq.trans (World.drewN_drewN _ _ _) (congrArg (World.drewN _) (Nat.add_assoc _ _ _))⟩))); try go_wp2_with (first | (go_at_call 40; (with_reducible refine (impl_within.calls af 1 1000000 false _ A10.out).mono ?_); rintro e w' ⟨rfl, ⟨nd, rfl⟩⟩; (try first | exact ⟨rfl, _, World.drewN_drewN _ _ _⟩ | exact ⟨rfl, _, Eq.trans (World.drewN_drewN _ _ _) (congrArg (World.drewN _) (Nat.add_assoc _ _ _))⟩))))
    go_meet
    case rel => exact ⟨_, (true), TF, H', ⟨by first | omega | exact Nat.le_refl _⟩, ⟨TK⟩, ⟨TB⟩⟩
  case rest =>
   clear HC8;try clear c1
   try clear p2
   try clear c3
   try clear c6
   try clear c11
   try clear c13
   try clear aY
   try clear aH
   try clear aS
   try clear aP
   try clear aW
   try clear aV
   try clear a4
   try clear aO
   try clear aQ
   try clear aI
   try clear aG
   try clear aK
   try clear au
   try clear aq
   try clear ar
   try clear aw
   try clear aU
   try clear aD
   try clear aN
   try clear a5
   try clear aT
   try clear aR
   try clear aL
   try clear aZ
   try clear aE
   try clear aF
   try clear aX
   try clear aJ
   try clear ax
   try clear av
   try clear ap
   try clear ay
   obtain ⟨kq, aB, rfl, HA, HJ7, aa, HB⟩ := hcut;cases kq with
   | zero => exact absurd HA.out (by simp [impl_ManOk.j0])
   | succ kj7 =>
    have H := HA.out;clear HA;simp only [impl_ManOk.j0] at H
    by_cases c18 : aB = true
    ·subst c18;replace H := ifT H;obtain rfl := Option.some.inj H;go_wp2
     repeat (go_quiet (fail); try go_wp2)
     go_ret
     exact ⟨TE, TB⟩
    ·replace c18 := Bool.eq_false_iff.mpr c18;subst c18;replace H := ifF H;have H' := aM H;clear H;obtain ⟨bf, bg, bh, bc⟩ := cz4 aa.out;obtain ⟨bj, be, bi, bd⟩ := fz4 aa.out;go_wp2
     repeat (go_quiet (fail); try go_wp2)
     go_loopg [37] kj7 (fun kq v37 w' => ∃ (ab : Int), v37 = .int .i64 ab ∧ Aside0 (impl_ManOk.l0 kq ac (ac.length : Int) ab af ad ae ac = some r) ∧ Aside0 (kq ≤ kj7) ∧ Aside0 (w'.heap[aC]? = some (.cells #[.int .i64 af, .int .i64 ad, .int .i64 ae, (.slice am ac.length an)] 25 (0, 0))) ∧ Aside0 (Below w.heap.size w w'))
     case atStart => exact ⟨(0), TF, H', ⟨Nat.le_refl _⟩, ⟨TK⟩, ⟨TB⟩⟩
     case round =>
      clear H';try clear c1
      try clear p2
      try clear c3
      try clear c6
      try clear c11
      try clear c13
      try clear c18
      try clear aY
      try clear aH
      try clear aS
      try clear aP
      try clear aW
      try clear aV
      try clear a4
      try clear aO
      try clear aQ
      try clear aI
      try clear aG
      try clear aK
      try clear bf
      try clear bg
      try clear bh
      try clear bc
      try clear au
      try clear aq
      try clear ar
      try clear aw
      try clear aU
      try clear aD
      try clear aN
      try clear a5
      try clear aT
      try clear aR
      try clear aL
      try clear aZ
      try clear aE
      try clear aF
      try clear aX
      try clear aJ
      try clear bj
      try clear be
      try clear bi
      try clear bd
      try clear ax
      try clear av
      try clear ap
      try clear ay
      try clear p2
      obtain ⟨ab, rfl, HA, HK2, aa, HB⟩ := hrel;cases gk with
      | zero => exact absurd HA.out (by simp [impl_ManOk.l0])
      | succ k2 =>
       have H := HA.out;clear HA;simp only [impl_ManOk.l0] at H
       by_cases c20 : ab < (ac.length : Int)
       ·rw [if_pos c20] at H;have c20b0 : decide (ab < (ac.length : Int)) = true := decide_eq_true c20;clear c20;replace H := ifN H;obtain ⟨c21, H⟩ := H;have c21b0 : decide (0 ≤ ab) = true := decide_eq_true c21;clear c21;replace H := ifN H;obtain ⟨c22, H⟩ := H;have c22b0 : decide (ab < (ac.length : Int)) = true := decide_eq_true c22;clear c22;replace H := bE H;obtain ⟨⟨ah, a7⟩, A23, H⟩ := H;dsimp only at H;replace H := bE H;obtain ⟨⟨ai, ag⟩, A24, H⟩ := H;dsimp only at H;have a9 : 0 ≤ (ab : Int) := DT;have a8 : ab < (ac.length : Int) := DT;obtain ⟨ad298, e298, aA, az⟩ := at_T83 ak.out ab a9 a8;cases e298;replace aA := (HB.out.cell (World.block_lt_of_cell? w _ aA)).trans aA;replace az := (HB.out.cell (World.block_lt_of_cell? w _ az)).trans az;replace a9 := eq_true a9;replace a8 := eq_true a8;go_wp2_with (first | ((with_reducible refine gate_dst (N := 4) rfl ?_); (try (refine gate_guard (by rfl) ?_; dsimp only)); refine gBx 4 #[.int .i64 0, .int .i64 0] 83 ?_; intro ao hg w26 hbox hb; have BK299 := aM (hbox); have GW299 := gW HB hg; have GE299 := gW HB hg; obtain ⟨NB293_299, NB299_293⟩ := nB aa hg; replace aa := mB aa hb; replace HB := bS HB hb; clear hb hbox hg; obtain ⟨hnb27, hnc27⟩ := oB NB299_293; obtain ⟨hcz28_0, hcz28_1⟩ := cz2 BK299.out; obtain ⟨hfz28_0, hfz28_1⟩ := fz2 BK299.out) | (go_at_call 76; (with_reducible refine (impl_BytesOf.calls k2 ((rd_T83 ac ab).f1) ah a7 _ A23.out).mono ?_); rintro e w29 ⟨v302, rfl, ho0, hb⟩; have HO303 := aM (Kd.R_lower ho0 (below_size TB)); replace aa := mB aa hb; replace BK299 := aM (blk_below (g := ao) (o := .cells #[.int .i64 ((rd_T83 ac ab).f0), .int .i64 ((rd_T83 ac ab).f1)] 83 (0, 0)) (blk_put (blk_put (cs := #[.int .i64 0, .int .i64 0]) (TZ BK299) 0 _ rfl) 1 _ rfl) hb); replace HB := bS HB hb; clear ho0 hb; obtain ⟨hcz30_0, hcz30_1, hcz30_2, hcz30_3⟩ := cz4 aa.out; obtain ⟨hfz30_0, hfz30_1, hfz30_2, hfz30_3⟩ := fz4 aa.out) | ((with_reducible refine gate_callee (f := 77) rfl ?_); (with_reducible refine gate_dst (N := 54) rfl ?_); generalize hG_ : wpList _ _ _ _ _ _ = G_))
        repeat (go_quiet (first | ((with_reducible refine gate_dst (N := 4) rfl ?_); (try (refine gate_guard (by rfl) ?_; dsimp only)); refine gBx 4 #[.int .i64 0, .int .i64 0] 83 ?_; intro ao hg w26 hbox hb; have BK299 := aM (hbox); have GW299 := gW HB hg; have GE299 := gW HB hg; obtain ⟨NB293_299, NB299_293⟩ := nB aa hg; replace aa := mB aa hb; replace HB := bS HB hb; clear hb hbox hg; obtain ⟨hnb27, hnc27⟩ := oB NB299_293; obtain ⟨hcz28_0, hcz28_1⟩ := cz2 BK299.out; obtain ⟨hfz28_0, hfz28_1⟩ := fz2 BK299.out) | (go_at_call 76; (with_reducible refine (impl_BytesOf.calls k2 ((rd_T83 ac ab).f1) ah a7 _ A23.out).mono ?_); rintro e w29 ⟨v302, rfl, ho0, hb⟩; have HO303 := aM (Kd.R_lower ho0 (below_size TB)); replace aa := mB aa hb; replace BK299 := aM (blk_below (g := ao) (o := .cells #[.int .i64 ((rd_T83 ac ab).f0), .int .i64 ((rd_T83 ac ab).f1)] 83 (0, 0)) (blk_put (blk_put (cs := #[.int .i64 0, .int .i64 0]) (TZ BK299) 0 _ rfl) 1 _ rfl) hb); replace HB := bS HB hb; clear ho0 hb; obtain ⟨hcz30_0, hcz30_1, hcz30_2, hcz30_3⟩ := cz4 aa.out; obtain ⟨hfz30_0, hfz30_1, hfz30_2, hfz30_3⟩ := fz4 aa.out) | ((with_reducible refine gate_callee (f := 77) rfl ?_); (with_reducible refine gate_dst (N := 54) rfl ?_); generalize hG_ : wpList _ _ _ _ _ _ = G_)); try go_wp2_with (first | ((with_reducible refine gate_dst (N := 4) rfl ?_); (try (refine gate_guard (by rfl) ?_; dsimp only)); refine gBx 4 #[.int .i64 0, .int .i64 0] 83 ?_; intro ao hg w26 hbox hb; have BK299 := aM (hbox); have GW299 := gW HB hg; have GE299 := gW HB hg; obtain ⟨NB293_299, NB299_293⟩ := nB aa hg; replace aa := mB aa hb; replace HB := bS HB hb; clear hb hbox hg; obtain ⟨hnb27, hnc27⟩ := oB NB299_293; obtain ⟨hcz28_0, hcz28_1⟩ := cz2 BK299.out; obtain ⟨hfz28_0, hfz28_1⟩ := fz2 BK299.out) | (go_at_call 76; (with_reducible refine (impl_BytesOf.calls k2 ((rd_T83 ac ab).f1) ah a7 _ A23.out).mono ?_); rintro e w29 ⟨v302, rfl, ho0, hb⟩; have HO303 := aM (Kd.R_lower ho0 (below_size TB)); replace aa := mB aa hb; replace BK299 := aM (blk_below (g := ao) (o := .cells #[.int .i64 ((rd_T83 ac ab).f0), .int .i64 ((rd_T83 ac ab).f1)] 83 (0, 0)) (blk_put (blk_put (cs := #[.int .i64 0, .int .i64 0]) (TZ BK299) 0 _ rfl) 1 _ rfl) hb); replace HB := bS HB hb; clear ho0 hb; obtain ⟨hcz30_0, hcz30_1, hcz30_2, hcz30_3⟩ := cz4 aa.out; obtain ⟨hfz30_0, hfz30_1, hfz30_2, hfz30_3⟩ := fz4 aa.out) | ((with_reducible refine gate_callee (f := 77) rfl ?_); (with_reducible refine gate_dst (N := 54) rfl ?_); generalize hG_ : wpList _ _ _ _ _ _ = G_)))
        subst hG_
        by_cases c31 : a7 = true
        ·subst c31;replace H := ifT H
         by_cases c32 : (ah.length : Int) = ag
         ·rw [if_pos c32] at H;have c32b0 : ((ah.length : Int) == ag) = true := beq_iff_eq.mpr c32;have c32b1 : ((ah.length : Int) != ag) = false := bne_eq_false_iff_eq.mpr c32;clear c32;replace H := bE H;obtain ⟨aj, A33, H⟩ := H
          by_cases c34 : aj = ((rd_T83 ac ab).f0)
          ·rw [if_pos c34] at H;have c34b0 : (aj == ((rd_T83 ac ab).f0)) = true := beq_iff_eq.mpr c34;have c34b1 : (aj != ((rd_T83 ac ab).f0)) = false := bne_eq_false_iff_eq.mpr c34;clear c34;have H' := aM H;clear H;go_wp2_with (first | (go_at_call 77; (with_reducible refine (impl_SpanOf.calls ad ae ab ai ag _ A24.out).mono ?_); rintro e w35 ⟨rfl, hb⟩; replace HO303 := mR HO303 hb; replace aa := mB aa hb; replace BK299 := mB BK299 hb; replace HB := bS HB hb; clear hb; obtain ⟨Ao36, co36, eo36⟩ := Kd.R_slice HO303.out; subst eo36) | (go_at_call 46; (with_reducible refine (impl_WeakOf.calls k2 _ _ ah aj _ ?side1 ?side2 A33.out).mono ?_); (case side1 => exact Zq15_1); (case side2 => exact (Kd.R_reads' HO303.out).2.1); rintro e w' ⟨rfl, ⟨nd, rfl⟩⟩; (try first | exact ⟨rfl, _, World.drewN_drewN _ _ _⟩ | exact ⟨rfl, _, Eq.trans (World.drewN_drewN _ _ _) (congrArg (World.drewN _) (Nat.add_assoc _ _ _))⟩); obtain ⟨hnb37, hnc37⟩ := oB NB299_293; obtain ⟨hcz38_0, hcz38_1⟩ := cz2 BK299.out; obtain ⟨hfz38_0, hfz38_1⟩ := fz2 BK299.out))
           repeat (go_quiet (first | (go_at_call 77; (with_reducible refine (impl_SpanOf.calls ad ae ab ai ag _ A24.out).mono ?_); rintro e w35 ⟨rfl, hb⟩; replace HO303 := mR HO303 hb; replace aa := mB aa hb; replace BK299 := mB BK299 hb; replace HB := bS HB hb; clear hb; obtain ⟨Ao36, co36, eo36⟩ := Kd.R_slice HO303.out; subst eo36) | (go_at_call 46; (with_reducible refine (impl_WeakOf.calls k2 _ _ ah aj _ ?side1 ?side2 A33.out).mono ?_); (case side1 => exact Zq15_1); (case side2 => exact (Kd.R_reads' HO303.out).2.1); rintro e w' ⟨rfl, ⟨nd, rfl⟩⟩; (try first | exact ⟨rfl, _, World.drewN_drewN _ _ _⟩ | exact ⟨rfl, _, Eq.trans (World.drewN_drewN _ _ _) (congrArg (World.drewN _) (Nat.add_assoc _ _ _))⟩); obtain ⟨hnb37, hnc37⟩ := oB NB299_293; obtain ⟨hcz38_0, hcz38_1⟩ := cz2 BK299.out; obtain ⟨hfz38_0, hfz38_1⟩ := fz2 BK299.out)); try go_wp2_with (first | (go_at_call 77; (with_reducible refine (impl_SpanOf.calls ad ae ab ai ag _ A24.out).mono ?_); rintro e w35 ⟨rfl, hb⟩; replace HO303 := mR HO303 hb; replace aa := mB aa hb; replace BK299 := mB BK299 hb; replace HB := bS HB hb; clear hb; obtain ⟨Ao36, co36, eo36⟩ := Kd.R_slice HO303.out; subst eo36) | (go_at_call 46; (with_reducible refine (impl_WeakOf.calls k2 _ _ ah aj _ ?side1 ?side2 A33.out).mono ?_); (case side1 => exact Zq15_1); (case side2 => exact (Kd.R_reads' HO303.out).2.1); rintro e w' ⟨rfl, ⟨nd, rfl⟩⟩; (try first | exact ⟨rfl, _, World.drewN_drewN _ _ _⟩ | exact ⟨rfl, _, Eq.trans (World.drewN_drewN _ _ _) (congrArg (World.drewN _) (Nat.add_assoc _ _ _))⟩); obtain ⟨hnb37, hnc37⟩ := oB NB299_293; obtain ⟨hcz38_0, hcz38_1⟩ := cz2 BK299.out; obtain ⟨hfz38_0, hfz38_1⟩ := fz2 BK299.out)))
           go_roundg k2
           case measure => have := HJ7.out; have := HK2.out; omega
           case rel => exact ⟨(wrap64 (ab + 1)), TF, H', ⟨by have := HJ7.out; have := HK2.out; omega⟩, ⟨TK⟩, ⟨TB⟩⟩
          ·rw [if_neg c34] at H;have c34b0 : (aj == ((rd_T83 ac ab).f0)) = false := beq_eq_false_iff_ne.mpr c34;have c34b1 : (aj != ((rd_T83 ac ab).f0)) = true := bne_iff_ne.mpr c34;obtain rfl := Option.some.inj H;go_wp2_with (first | (go_at_call 77; (with_reducible refine (impl_SpanOf.calls ad ae ab ai ag _ A24.out).mono ?_); rintro e w39 ⟨rfl, hb⟩; replace HO303 := mR HO303 hb; replace aa := mB aa hb; replace BK299 := mB BK299 hb; replace HB := bS HB hb; clear hb; obtain ⟨Ao40, co40, eo40⟩ := Kd.R_slice HO303.out; subst eo40) | (go_at_call 46; (with_reducible refine (impl_WeakOf.calls k2 _ _ ah aj _ ?side1 ?side2 A33.out).mono ?_); (case side1 => exact Zq15_1); (case side2 => exact (Kd.R_reads' HO303.out).2.1); rintro e w' ⟨rfl, ⟨nd, rfl⟩⟩; (try first | exact ⟨rfl, _, World.drewN_drewN _ _ _⟩ | exact ⟨rfl, _, Eq.trans (World.drewN_drewN _ _ _) (congrArg (World.drewN _) (Nat.add_assoc _ _ _))⟩); obtain ⟨hnb41, hnc41⟩ := oB NB299_293; obtain ⟨hcz42_0, hcz42_1⟩ := cz2 BK299.out; obtain ⟨hfz42_0, hfz42_1⟩ := fz2 BK299.out))
           repeat (go_quiet (first | (go_at_call 77; (with_reducible refine (impl_SpanOf.calls ad ae ab ai ag _ A24.out).mono ?_); rintro e w39 ⟨rfl, hb⟩; replace HO303 := mR HO303 hb; replace aa := mB aa hb; replace BK299 := mB BK299 hb; replace HB := bS HB hb; clear hb; obtain ⟨Ao40, co40, eo40⟩ := Kd.R_slice HO303.out; subst eo40) | (go_at_call 46; (with_reducible refine (impl_WeakOf.calls k2 _ _ ah aj _ ?side1 ?side2 A33.out).mono ?_); (case side1 => exact Zq15_1); (case side2 => exact (Kd.R_reads' HO303.out).2.1); rintro e w' ⟨rfl, ⟨nd, rfl⟩⟩; (try first | exact ⟨rfl, _, World.drewN_drewN _ _ _⟩ | exact ⟨rfl, _, Eq.trans (World.drewN_drewN _ _ _) (congrArg (World.drewN _) (Nat.add_assoc _ _ _))⟩); obtain ⟨hnb41, hnc41⟩ := oB NB299_293; obtain ⟨hcz42_0, hcz42_1⟩ := cz2 BK299.out; obtain ⟨hfz42_0, hfz42_1⟩ := fz2 BK299.out)); try go_wp2_with (first | (go_at_call 77; (with_reducible refine (impl_SpanOf.calls ad ae ab ai ag _ A24.out).mono ?_); rintro e w39 ⟨rfl, hb⟩; replace HO303 := mR HO303 hb; replace aa := mB aa hb; replace BK299 := mB BK299 hb; replace HB := bS HB hb; clear hb; obtain ⟨Ao40, co40, eo40⟩ := Kd.R_slice HO303.out; subst eo40) | (go_at_call 46; (with_reducible refine (impl_WeakOf.calls k2 _ _ ah aj _ ?side1 ?side2 A33.out).mono ?_); (case side1 => exact Zq15_1); (case side2 => exact (Kd.R_reads' HO303.out).2.1); rintro e w' ⟨rfl, ⟨nd, rfl⟩⟩; (try first | exact ⟨rfl, _, World.drewN_drewN _ _ _⟩ | exact ⟨rfl, _, Eq.trans (World.drewN_drewN _ _ _) (congrArg (World.drewN _) (Nat.add_assoc _ _ _))⟩); obtain ⟨hnb41, hnc41⟩ := oB NB299_293; obtain ⟨hcz42_0, hcz42_1⟩ := cz2 BK299.out; obtain ⟨hfz42_0, hfz42_1⟩ := fz2 BK299.out)))
           go_ret
           exact ⟨TE, TB⟩
         ·rw [if_neg c32] at H;have c32b0 : ((ah.length : Int) == ag) = false := beq_eq_false_iff_ne.mpr c32;have c32b1 : ((ah.length : Int) != ag) = true := bne_iff_ne.mpr c32;obtain rfl := Option.some.inj H;go_wp2_with (first | (go_at_call 77; (with_reducible refine (impl_SpanOf.calls ad ae ab ai ag _ A24.out).mono ?_); rintro e w43 ⟨rfl, hb⟩; replace HO303 := mR HO303 hb; replace aa := mB aa hb; replace BK299 := mB BK299 hb; replace HB := bS HB hb; clear hb; obtain ⟨Ao44, co44, eo44⟩ := Kd.R_slice HO303.out; subst eo44))
          repeat (go_quiet (first | (go_at_call 77; (with_reducible refine (impl_SpanOf.calls ad ae ab ai ag _ A24.out).mono ?_); rintro e w43 ⟨rfl, hb⟩; replace HO303 := mR HO303 hb; replace aa := mB aa hb; replace BK299 := mB BK299 hb; replace HB := bS HB hb; clear hb; obtain ⟨Ao44, co44, eo44⟩ := Kd.R_slice HO303.out; subst eo44)); try go_wp2_with (first | (go_at_call 77; (with_reducible refine (impl_SpanOf.calls ad ae ab ai ag _ A24.out).mono ?_); rintro e w43 ⟨rfl, hb⟩; replace HO303 := mR HO303 hb; replace aa := mB aa hb; replace BK299 := mB BK299 hb; replace HB := bS HB hb; clear hb; obtain ⟨Ao44, co44, eo44⟩ := Kd.R_slice HO303.out; subst eo44)))
          go_ret
          exact ⟨TE, TB⟩
        ·replace c31 := Bool.eq_false_iff.mpr c31;subst c31;replace H := ifF H;obtain rfl := Option.some.inj H;go_wp2_with (first | (go_at_call 77; (with_reducible refine (impl_SpanOf.calls ad ae ab ai ag _ A24.out).mono ?_); rintro e w45 ⟨rfl, hb⟩; replace HO303 := mR HO303 hb; replace aa := mB aa hb; replace BK299 := mB BK299 hb; replace HB := bS HB hb; clear hb))
         repeat (go_quiet (first | (go_at_call 77; (with_reducible refine (impl_SpanOf.calls ad ae ab ai ag _ A24.out).mono ?_); rintro e w45 ⟨rfl, hb⟩; replace HO303 := mR HO303 hb; replace aa := mB aa hb; replace BK299 := mB BK299 hb; replace HB := bS HB hb; clear hb)); try go_wp2_with (first | (go_at_call 77; (with_reducible refine (impl_SpanOf.calls ad ae ab ai ag _ A24.out).mono ?_); rintro e w45 ⟨rfl, hb⟩; replace HO303 := mR HO303 hb; replace aa := mB aa hb; replace BK299 := mB BK299 hb; replace HB := bS HB hb; clear hb)))
         go_ret
         exact ⟨TE, TB⟩
       ·rw [if_neg c20] at H;have c20b0 : decide (ab < (ac.length : Int)) = false := decide_eq_false c20;clear c20;obtain rfl := Option.some.inj H;go_wp2
        repeat (go_quiet (fail); try go_wp2)
        go_ret
        exact ⟨TE, TB⟩

end Go.Proofs.Ytanpaipapcjpoaa.Q
