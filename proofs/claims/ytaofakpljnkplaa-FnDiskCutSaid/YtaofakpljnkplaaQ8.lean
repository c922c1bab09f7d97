/- Functions of the program as plain Lean functions, and that a call of each comes to what its function tells. Written by a program of this seat. -/
import Derived.Test.YtaofakpljnkplaaQ0
import Derived.Test.YtaofakpljnkplaaQ4
import Derived.Test.YtaofakpljnkplaaQ6
import Derived.Test.YtaofakpljnkplaaQ7
namespace Go.Proofs.Ytaofakpljnkplaa.Q
open Go.RowKit Go.Proofs.YtaofakpljnkplaaW.PrintWords Go.Proofs.YtaofakpljnkplaaW.PrintLast Go.Proofs.YtaofakpljnkplaaW.PrintMore
attribute [local go_sem] min2_int min_two
set_option linter.unusedVariables false
set_option linter.unusedSimpArgs false

theorem Zq8_0 {p : Prop} (h : p := by repeat (first | exact (Kd.C_below ai.out TB) | (with_reducible refine Kd.C_alloc ?_ _) | (with_reducible refine Kd.C_drewN ?_ _) | (with_reducible refine Kd.C_drew ?_))) : p := h
theorem Zq8_1 {p : Prop} (h : p := by have X_ := (Kd.R_reads' HOq1.out).2.2; exact TC) : p := h
mutual
def impl_ManOk.j0 : Nat → Bool → Int → Int → Int → List (S71) → Option (Bool)
  | 0, _, _, _, _, _ => none
  | k + 1, x33, x209000, x209001, x209002, x209003 => if x33 = true then (some false) else (impl_ManOk.l0 k x209003 (x209003.length : Int) 0 x209000 x209001 x209002 x209003)
def impl_ManOk.l0 : Nat → List (S71) → Int → Int → Int → Int → Int → List (S71) → Option (Bool)
  | 0, _, _, _, _, _, _, _ => none
  | k + 1, x35, x36, x37, x209000, x209001, x209002, x209003 => if x37 < x36 then (if 0 ≤ x37 then (if x37 < (x35.length : Int) then ((impl_BytesOf.f k ((rd_T71 x35 x37).f1)).bind fun bt215 => ((impl_SpanOf.f x209001 x209002 x37).bind fun bt219 => (if bt215.2 = true then (if (bt215.1.length : Int) = bt219.2 then ((impl_WeakOf.f k bt215.1).bind fun t221 => (if t221 = ((rd_T71 x35 x37).f0) then (impl_ManOk.l0 k x35 x36 (wrap64 (x37 + 1)) x209000 x209001 x209002 x209003) else (some false))) else (some false)) else (some false)))) else (none)) else (none)) else (some true)
end
def impl_ManOk.f (k : Nat) (a0_0 : Int) (a0_1 : Int) (a0_2 : Int) (l0_3 : List (S71)) : Option (Bool) := (impl_isZeroMan.f a0_0 a0_1 a0_2 l0_3).bind fun t209 => (if t209 = true then (some true) else ((impl_within.f a0_0 1 1000000).bind fun t210 => (if t210 = true then ((impl_SizeOk.f a0_1 a0_2).bind fun t211 => (if t211 = true then ((impl_Blocks.f a0_1 a0_2).bind fun t212 => (impl_ManOk.j0 k ((l0_3.length : Int) != t212) a0_0 a0_1 a0_2 l0_3)) else (impl_ManOk.j0 k true a0_0 a0_1 a0_2 l0_3))) else (impl_ManOk.j0 k true a0_0 a0_1 a0_2 l0_3))))
theorem impl_ManOk.mono_l : ∀ k, (∀ y0 y1 y2 y3 y4, LeO (impl_ManOk.j0 k y0 y1 y2 y3 y4) (impl_ManOk.j0 (k + 1) y0 y1 y2 y3 y4)) ∧ (∀ y0 y1 y2 y3 y4 y5 y6, LeO (impl_ManOk.l0 k y0 y1 y2 y3 y4 y5 y6) (impl_ManOk.l0 (k + 1) y0 y1 y2 y3 y4 y5 y6))
  | 0 => ⟨fun _ _ _ _ _ r h => by simp [impl_ManOk.j0] at h, fun _ _ _ _ _ _ _ r h => by simp [impl_ManOk.l0] at h⟩
  | k + 1 => by
    have m0_ := @impl_BytesOf.mono
    have m1_ := @impl_WeakOf.mono
    obtain ⟨ih0, ih1⟩ := impl_ManOk.mono_l k
    refine ⟨?_, ?_⟩
    · intro y0 y1 y2 y3 y4
      unfold impl_ManOk.j0
      exact LM
    · intro y0 y1 y2 y3 y4 y5 y6
      unfold impl_ManOk.l0
      exact LM
theorem impl_ManOk.mono : ∀ a0 a1 a2 a3 k, LeO (impl_ManOk.f k a0 a1 a2 a3) (impl_ManOk.f (k + 1) a0 a1 a2 a3) := by
  intro a0 a1 a2 a3 k;have m0_ := @impl_BytesOf.mono;have m1_ := @impl_WeakOf.mono;obtain ⟨ih0, ih1⟩ := impl_ManOk.mono_l k;unfold impl_ManOk.f;exact LM
set_option maxHeartbeats 40000000 in
set_option maxRecDepth 100000 in
theorem impl_ManOk.calls {k : Nat} {ae : Int} {ad : Int} {ac : Int} {ak : Option Addr} {aj : Nat} {ab : List (S71)} {r : Bool} {w : World} (aN : Kd.C k71 w ak ab.length ab) (aL : ab.length ≤ aj) (h : impl_ManOk.f k ae ad ac ab = some r) :
  Calls Try.prog 34 #[.agg #[.int .i64 ae, .int .i64 ad, .int .i64 ac, .slice ak ab.length aj]] w fun e w' => e = .returned (.bool r) ∧ Below w.heap.size w w' := by
 have huq1 := Try.underlying28;have huq2 := Try.underlying71;have ai := aM aN;have al := aM aL;clear aN aL;have HB := aM (Below.refl w.heap.size w);have H := h;clear h;unfold impl_ManOk.f at H;replace H := bE H;obtain ⟨t209, Aq1, H⟩ := H;go_enter Try.func34, Try.ntmps34;go_wp2_with (first | ((with_reducible refine gate_dst (N := 1) rfl ?_); (try (refine gate_guard (by rfl) ?_; dsimp only)); refine gBx 1 #[.int .i64 ae, .int .i64 ad, .int .i64 ac, .slice ak ab.length aj] 28 ?_; intro aH hg wq1 hbox hb; have aa := aM (hbox); have GWq1 := gW HB hg; have GEq1 := gW HB hg; replace HB := bS HB hb; clear hb hbox hg; obtain ⟨aA, ay, an, ap⟩ := cz4 aa.out; obtain ⟨am, av, au, ao⟩ := fz4 aa.out) | ((with_reducible refine gate_callee (f := 61) rfl ?_); (with_reducible refine gate_dst (N := 10) rfl ?_); generalize hG_ : wpList _ _ _ _ _ _ = G_))
 repeat (go_quiet (first | ((with_reducible refine gate_dst (N := 1) rfl ?_); (try (refine gate_guard (by rfl) ?_; dsimp only)); refine gBx 1 #[.int .i64 ae, .int .i64 ad, .int .i64 ac, .slice ak ab.length aj] 28 ?_; intro aH hg wq1 hbox hb; have aa := aM (hbox); have GWq1 := gW HB hg; have GEq1 := gW HB hg; replace HB := bS HB hb; clear hb hbox hg; obtain ⟨aA, ay, an, ap⟩ := cz4 aa.out; obtain ⟨am, av, au, ao⟩ := fz4 aa.out) | ((with_reducible refine gate_callee (f := 61) rfl ?_); (with_reducible refine gate_dst (N := 10) rfl ?_); generalize hG_ : wpList _ _ _ _ _ _ = G_)); try go_wp2_with (first | ((with_reducible refine gate_dst (N := 1) rfl ?_); (try (refine gate_guard (by rfl) ?_; dsimp only)); refine gBx 1 #[.int .i64 ae, .int .i64 ad, .int .i64 ac, .slice ak ab.length aj] 28 ?_; intro aH hg wq1 hbox hb; have aa := aM (hbox); have GWq1 := gW HB hg; have GEq1 := gW HB hg; replace HB := bS HB hb; clear hb hbox hg; obtain ⟨aA, ay, an, ap⟩ := cz4 aa.out; obtain ⟨am, av, au, ao⟩ := fz4 aa.out) | ((with_reducible refine gate_callee (f := 61) rfl ?_); (with_reducible refine gate_dst (N := 10) rfl ?_); generalize hG_ : wpList _ _ _ _ _ _ = G_)))
 subst hG_
 by_cases cq1 : t209 = true
 ·subst cq1;replace H := ifT H;obtain rfl := o_I H;go_wp2_with (first | (go_at_call 61; (with_reducible refine (impl_isZeroMan.calls ?side1 ?side2 Aq1.out).mono ?_); (case side1 => exact Zq8_0); (case side2 => exact al.out); rintro e wq2 ⟨rfl, hb⟩; replace aa := mB aa hb; replace HB := bS HB hb; clear hb))
  repeat (go_quiet (first | (go_at_call 61; (with_reducible refine (impl_isZeroMan.calls ?side1 ?side2 Aq1.out).mono ?_); (case side1 => exact Zq8_0); (case side2 => exact al.out); rintro e wq2 ⟨rfl, hb⟩; replace aa := mB aa hb; replace HB := bS HB hb; clear hb)); try go_wp2_with (first | (go_at_call 61; (with_reducible refine (impl_isZeroMan.calls ?side1 ?side2 Aq1.out).mono ?_); (case side1 => exact Zq8_0); (case side2 => exact al.out); rintro e wq2 ⟨rfl, hb⟩; replace aa := mB aa hb; replace HB := bS HB hb; clear hb)))
  go_ret
  exact ⟨TE, TB⟩
 ·replace cq1 := b_F cq1;subst cq1;replace H := ifF H;have aJ := aM H;clear H;go_upto_region 3 with (first | (go_at_call 61; (with_reducible refine (impl_isZeroMan.calls ?side1 ?side2 Aq1.out).mono ?_); (case side1 => exact Zq8_0); (case side2 => exact al.out); rintro e wq2 ⟨rfl, hb⟩; replace aa := mB aa hb; replace HB := bS HB hb; clear hb))
  repeat (go_quiet (first | (go_at_call 61; (with_reducible refine (impl_isZeroMan.calls ?side1 ?side2 Aq1.out).mono ?_); (case side1 => exact Zq8_0); (case side2 => exact al.out); rintro e wq2 ⟨rfl, hb⟩; replace aa := mB aa hb; replace HB := bS HB hb; clear hb)); go_upto_region 3 with (first | (go_at_call 61; (with_reducible refine (impl_isZeroMan.calls ?side1 ?side2 Aq1.out).mono ?_); (case side1 => exact Zq8_0); (case side2 => exact al.out); rintro e wq2 ⟨rfl, hb⟩; replace aa := mB aa hb; replace HB := bS HB hb; clear hb)))
  (try simp only [NP])
  go_cut [33] (fun vq1 wc => ∃ (kq : Nat) (xq1 : Bool), vq1 = .bool xq1 ∧ Aside0 (impl_ManOk.j0 kq xq1 ae ad ac ab = some r) ∧ Aside0 (kq ≤ k) ∧ Aside0 (wc.heap[aH]? = some (.cells #[.int .i64 ae, .int .i64 ad, .int .i64 ac, (.slice ak ab.length aj)] 28 (0, 0))) ∧ Aside0 (Below w.heap.size w wc))
  case first =>
   have H := aJ.out;clear aJ;replace H := bE H;obtain ⟨t210, Aq2, H⟩ := H
   by_cases cq2 : t210 = true
   ·subst cq2;replace H := ifT H;replace H := bE H;obtain ⟨t211, Aq3, H⟩ := H
    by_cases cq3 : t211 = true
    ·subst cq3;replace H := ifT H;replace H := bE H;obtain ⟨aG, Aq4, H⟩ := H;have H' := aM H;clear H;obtain ⟨ar, aB, az, aC⟩ := cz4 aa.out;obtain ⟨aw, aD, ax, aq⟩ := fz4 aa.out;go_wp2_with (first | (go_at_call 31; (with_reducible refine (impl_within.calls Aq2.out).mono ?_); rintro e w' ⟨rfl, ⟨nd, rfl⟩⟩; (try first | exact ⟨rfl, _, World.drewN_drewN _ _ _⟩ | exact ⟨rfl, _, Eq.trans (World.drewN_drewN _ _ _) (congrArg (World.drewN _) (Nat.add_assoc _ _ _))⟩)) | (go_at_call 32; (with_reducible refine (impl_SizeOk.calls Aq3.out).mono ?_); rintro e w' ⟨rfl, ⟨nd, rfl⟩⟩; (try first | exact ⟨rfl, _, World.drewN_drewN _ _ _⟩ | exact ⟨rfl, _, Eq.trans (World.drewN_drewN _ _ _) (congrArg (World.drewN _) (Nat.add_assoc _ _ _))⟩)) | (go_at_call 10; (with_reducible refine (impl_Blocks.calls Aq4.out).mono ?_); rintro e w' ⟨rfl, ⟨nd, rfl⟩⟩; (try first | exact ⟨rfl, _, World.drewN_drewN _ _ _⟩ | exact ⟨rfl, _, Eq.trans (World.drewN_drewN _ _ _) (congrArg (World.drewN _) (Nat.add_assoc _ _ _))⟩)))
     repeat (go_quiet (first | (go_at_call 31; (with_reducible refine (impl_within.calls Aq2.out).mono ?_); rintro e w' ⟨rfl, ⟨nd, rfl⟩⟩; (try first | exact ⟨rfl, _, World.drewN_drewN _ _ _⟩ | exact ⟨rfl, _, Eq.trans (World.drewN_drewN _ _ _) (congrArg (World.drewN _) (Nat.add_assoc _ _ _))⟩)) | (go_at_call 32; (with_reducible refine (impl_SizeOk.calls Aq3.out).mono ?_); rintro e w' ⟨rfl, ⟨nd, rfl⟩⟩; (try first | exact ⟨rfl, _, World.drewN_drewN _ _ _⟩ | exact ⟨rfl, _, Eq.trans (World.drewN_drewN _ _ _) (congrArg (World.drewN _) (Nat.add_assoc _ _ _))⟩)) | (go_at_call 10; (with_reducible refine (impl_Blocks.calls Aq4.out).mono ?_); rintro e w' ⟨rfl, ⟨nd, rfl⟩⟩; (try first | exact ⟨rfl, _, World.drewN_drewN _ _ _⟩ | exact ⟨rfl, _, Eq.trans (World.drewN_drewN _ _ _) (congrArg (World.drewN _) (Nat.add_assoc _ _ _))⟩))); try go_wp2_with (first | (go_at_call 31; (with_reducible refine (impl_within.calls Aq2.out).mono ?_); rintro e w' ⟨rfl, ⟨nd, rfl⟩⟩; (try first | exact ⟨rfl, _, World.drewN_drewN _ _ _⟩ | exact ⟨rfl, _, Eq.trans (World.drewN_drewN _ _ _) (congrArg (World.drewN _) (Nat.add_assoc _ _ _))⟩)) | (go_at_call 32; (with_reducible refine (impl_SizeOk.calls Aq3.out).mono ?_); rintro e w' ⟨rfl, ⟨nd, rfl⟩⟩; (try first | exact ⟨rfl, _, World.drewN_drewN _ _ _⟩ | exact ⟨rfl, _, Eq.trans (World.drewN_drewN _ _ _) (congrArg (World.drewN _) (Nat.add_assoc _ _ _))⟩)) | (go_at_call 10; (with_reducible refine (impl_Blocks.calls Aq4.out).mono ?_); rintro e w' ⟨rfl, ⟨nd, rfl⟩⟩; (try first | exact ⟨rfl, _, World.drewN_drewN _ _ _⟩ | exact ⟨rfl, _, Eq.trans (World.drewN_drewN _ _ _) (congrArg (World.drewN _) (Nat.add_assoc _ _ _))⟩))))
     go_meet
     case rel => exact ⟨_, (((ab.length : Int) != aG)), TF, H', ⟨by first | omega | exact Nat.le_refl _⟩, ⟨TK⟩, ⟨TB⟩⟩
    ·replace cq3 := b_F cq3;subst cq3;replace H := ifF H;have H' := aM H;clear H;obtain ⟨ar, aB, az, aC⟩ := cz4 aa.out;obtain ⟨aw, aD, ax, aq⟩ := fz4 aa.out;go_wp2_with (first | (go_at_call 31; (with_reducible refine (impl_within.calls Aq2.out).mono ?_); rintro e w' ⟨rfl, ⟨nd, rfl⟩⟩; (try first | exact ⟨rfl, _, World.drewN_drewN _ _ _⟩ | exact ⟨rfl, _, Eq.trans (World.drewN_drewN _ _ _) (congrArg (World.drewN _) (Nat.add_assoc _ _ _))⟩)) | (go_at_call 32; (with_reducible refine (impl_SizeOk.calls Aq3.out).mono ?_); rintro e w' ⟨rfl, ⟨nd, rfl⟩⟩; (try first | exact ⟨rfl, _, World.drewN_drewN _ _ _⟩ | exact ⟨rfl, _, Eq.trans (World.drewN_drewN _ _ _) (congrArg (World.drewN _) (Nat.add_assoc _ _ _))⟩)))
     repeat (go_quiet (first | (go_at_call 31; (with_reducible refine (impl_within.calls Aq2.out).mono ?_); rintro e w' ⟨rfl, ⟨nd, rfl⟩⟩; (try first | exact ⟨rfl, _, World.drewN_drewN _ _ _⟩ | exact ⟨rfl, _, Eq.trans (World.drewN_drewN _ _ _) (congrArg (World.drewN _) (Nat.add_assoc _ _ _))⟩)) | (go_at_call 32; (with_reducible refine (impl_SizeOk.calls Aq3.out).mono ?_); rintro e w' ⟨rfl, ⟨nd, rfl⟩⟩; (try first | exact ⟨rfl, _, World.drewN_drewN _ _ _⟩ | exact ⟨rfl, _, Eq.trans (World.drewN_drewN _ _ _) (congrArg (World.drewN _) (Nat.add_assoc _ _ _))⟩))); try go_wp2_with (first | (go_at_call 31; (with_reducible refine (impl_within.calls Aq2.out).mono ?_); rintro e w' ⟨rfl, ⟨nd, rfl⟩⟩; (try first | exact ⟨rfl, _, World.drewN_drewN _ _ _⟩ | exact ⟨rfl, _, Eq.trans (World.drewN_drewN _ _ _) (congrArg (World.drewN _) (Nat.add_assoc _ _ _))⟩)) | (go_at_call 32; (with_reducible refine (impl_SizeOk.calls Aq3.out).mono ?_); rintro e w' ⟨rfl, ⟨nd, rfl⟩⟩; (try first | exact ⟨rfl, _, World.drewN_drewN _ _ _⟩ | exact ⟨rfl, _, Eq.trans (World.drewN_drewN _ _ _) (congrArg (World.drewN _) (Nat.add_assoc _ _ _))⟩))))
     go_meet
     case rel => exact ⟨_, (true), TF, H', ⟨by first | omega | exact Nat.le_refl _⟩, ⟨TK⟩, ⟨TB⟩⟩
   ·replace cq2 := b_F cq2;subst cq2;replace H := ifF H;have H' := aM H;clear H;obtain ⟨ar, aB, az, aC⟩ := cz4 aa.out;obtain ⟨aw, aD, ax, aq⟩ := fz4 aa.out;go_wp2_with (first | (go_at_call 31; (with_reducible refine (impl_within.calls Aq2.out).mono ?_); rintro e w' ⟨rfl, ⟨nd, rfl⟩⟩; (try first | exact ⟨rfl, _, World.drewN_drewN _ _ _⟩ | exact ⟨rfl, _, Eq.trans (World.drewN_drewN _ _ _) (congrArg (World.drewN _) (Nat.add_assoc _ _ _))⟩)))
    repeat (go_quiet (first | (go_at_call 31; (with_reducible refine (impl_within.calls Aq2.out).mono ?_); rintro e w' ⟨rfl, ⟨nd, rfl⟩⟩; (try first | exact ⟨rfl, _, World.drewN_drewN _ _ _⟩ | exact ⟨rfl, _, Eq.trans (World.drewN_drewN _ _ _) (congrArg (World.drewN _) (Nat.add_assoc _ _ _))⟩))); try go_wp2_with (first | (go_at_call 31; (with_reducible refine (impl_within.calls Aq2.out).mono ?_); rintro e w' ⟨rfl, ⟨nd, rfl⟩⟩; (try first | exact ⟨rfl, _, World.drewN_drewN _ _ _⟩ | exact ⟨rfl, _, Eq.trans (World.drewN_drewN _ _ _) (congrArg (World.drewN _) (Nat.add_assoc _ _ _))⟩))))
    go_meet
    case rel => exact ⟨_, (true), TF, H', ⟨by first | omega | exact Nat.le_refl _⟩, ⟨TK⟩, ⟨TB⟩⟩
  case rest =>
   clear aJ;try clear cq1
   try clear aA
   try clear ay
   try clear an
   try clear ap
   try clear am
   try clear av
   try clear au
   try clear ao
   obtain ⟨kq, xq1, rfl, HA, HJq1, aa, HB⟩ := hcut;cases kq with
   | zero => exact absurd HA.out (by simp [impl_ManOk.j0])
   | succ kj7 =>
    have H := HA.out;clear HA;simp only [impl_ManOk.j0] at H
    by_cases cq6 : xq1 = true
    ·subst cq6;replace H := ifT H;obtain rfl := o_I H;go_wp2
     repeat (go_quiet (fail); try go_wp2)
     go_ret
     exact ⟨TE, TB⟩
    ·replace cq6 := b_F cq6;subst cq6;replace H := ifF H;have H' := aM H;clear H;obtain ⟨aX, aQ, aW, a7⟩ := cz4 aa.out;obtain ⟨aP, a4, a6, a5⟩ := fz4 aa.out;go_wp2
     repeat (go_quiet (fail); try go_wp2)
     go_loopg [37] kj7 (fun kq vq2 w' => ∃ (xq2 : Int), vq2 = .int .i64 xq2 ∧ Aside0 (impl_ManOk.l0 kq ab (ab.length : Int) xq2 ae ad ac ab = some r) ∧ Aside0 (kq ≤ kj7) ∧ Aside0 (w'.heap[aH]? = some (.cells #[.int .i64 ae, .int .i64 ad, .int .i64 ac, (.slice ak ab.length aj)] 28 (0, 0))) ∧ Aside0 (Below w.heap.size w w'))
     case atStart => exact ⟨(0), TF, H', ⟨Nat.le_refl _⟩, ⟨TK⟩, ⟨TB⟩⟩
     case round =>
      clear H';try clear cq1
      try clear cq6
      try clear aX
      try clear aQ
      try clear aW
      try clear a7
      try clear aA
      try clear ay
      try clear an
      try clear ap
      try clear aP
      try clear a4
      try clear a6
      try clear a5
      try clear am
      try clear av
      try clear au
      try clear ao
      obtain ⟨xq2, rfl, HA, HKq1, aa, HB⟩ := hrel;cases gk with
      | zero => exact absurd HA.out (by simp [impl_ManOk.l0])
      | succ k2 =>
       have H := HA.out;clear HA;simp only [impl_ManOk.l0] at H
       by_cases cq7 : xq2 < (ab.length : Int)
       ·rw [if_pos cq7] at H;have cq8 : decide (xq2 < (ab.length : Int)) = true := decide_eq_true cq7;clear cq7;replace H := ifN H;obtain ⟨cq9, H⟩ := H;have cq10 : decide (0 ≤ xq2) = true := decide_eq_true cq9;clear cq9;replace H := ifN H;obtain ⟨cq11, H⟩ := H;have cq12 : decide (xq2 < (ab.length : Int)) = true := decide_eq_true cq11;clear cq11;replace H := bE H;obtain ⟨⟨tq1, tq2⟩, Aq2, H⟩ := H;dsimp only at H;replace H := bE H;obtain ⟨⟨tq3, tq4⟩, Aq3, H⟩ := H;dsimp only at H;have pq2 : 0 ≤ (xq2 : Int) := DT;have qq1 : xq2 < (ab.length : Int) := DT;obtain ⟨adq1, eq1, aK, aI⟩ := at_T71 ai.out xq2 pq2 qq1;cases eq1;replace aK := (HB.out.cell (World.block_lt_of_cell? w _ aK)).trans aK;replace aI := (HB.out.cell (World.block_lt_of_cell? w _ aI)).trans aI;replace pq2 := eq_true pq2;replace qq1 := eq_true qq1;go_wp2_with (first | ((with_reducible refine gate_dst (N := 4) rfl ?_); (try (refine gate_guard (by rfl) ?_; dsimp only)); refine gBx 4 #[.int .i64 0, .int .i64 0] 71 ?_; intro aE hg wq3 hbox hb; have BKq2 := aM (hbox); have GWq2 := gW HB hg; have GEq2 := gW HB hg; obtain ⟨NBq1, NBq2⟩ := nB aa hg; replace aa := mB aa hb; replace HB := bS HB hb; clear hb hbox hg; obtain ⟨hnbq1, hncq1⟩ := oB NBq2; obtain ⟨hczq21, hczq22⟩ := cz2 BKq2.out; obtain ⟨hfzq21, hfzq22⟩ := fz2 BKq2.out) | (go_at_call 62; (with_reducible refine (impl_BytesOf.calls Aq2.out).mono ?_); rintro e wq4 ⟨vq3, rfl, hoq1, hb⟩; have HOq1 := aM (Kd.R_lower hoq1 (below_size TB)); replace aa := mB aa hb; replace BKq2 := aM (blk_below (g := aE) (o := .cells #[.int .i64 ((rd_T71 ab xq2).f0), .int .i64 ((rd_T71 ab xq2).f1)] 71 (0, 0)) (blk_put (blk_put (cs := #[.int .i64 0, .int .i64 0]) (TZ BKq2) 0 _ rfl) 1 _ rfl) hb); replace HB := bS HB hb; clear hoq1 hb; obtain ⟨hczq23, hczq24, hczq25, hczq26⟩ := cz4 aa.out; obtain ⟨hfzq23, hfzq24, hfzq25, hfzq26⟩ := fz4 aa.out) | ((with_reducible refine gate_callee (f := 36) rfl ?_); (with_reducible refine gate_dst (N := 54) rfl ?_); generalize hG_ : wpList _ _ _ _ _ _ = G_))
        repeat (go_quiet (first | ((with_reducible refine gate_dst (N := 4) rfl ?_); (try (refine gate_guard (by rfl) ?_; dsimp only)); refine gBx 4 #[.int .i64 0, .int .i64 0] 71 ?_; intro aE hg wq3 hbox hb; have BKq2 := aM (hbox); have GWq2 := gW HB hg; have GEq2 := gW HB hg; obtain ⟨NBq1, NBq2⟩ := nB aa hg; replace aa := mB aa hb; replace HB := bS HB hb; clear hb hbox hg; obtain ⟨hnbq1, hncq1⟩ := oB NBq2; obtain ⟨hczq21, hczq22⟩ := cz2 BKq2.out; obtain ⟨hfzq21, hfzq22⟩ := fz2 BKq2.out) | (go_at_call 62; (with_reducible refine (impl_BytesOf.calls Aq2.out).mono ?_); rintro e wq4 ⟨vq3, rfl, hoq1, hb⟩; have HOq1 := aM (Kd.R_lower hoq1 (below_size TB)); replace aa := mB aa hb; replace BKq2 := aM (blk_below (g := aE) (o := .cells #[.int .i64 ((rd_T71 ab xq2).f0), .int .i64 ((rd_T71 ab xq2).f1)] 71 (0, 0)) (blk_put (blk_put (cs := #[.int .i64 0, .int .i64 0]) (TZ BKq2) 0 _ rfl) 1 _ rfl) hb); replace HB := bS HB hb; clear hoq1 hb; obtain ⟨hczq23, hczq24, hczq25, hczq26⟩ := cz4 aa.out; obtain ⟨hfzq23, hfzq24, hfzq25, hfzq26⟩ := fz4 aa.out) | ((with_reducible refine gate_callee (f := 36) rfl ?_); (with_reducible refine gate_dst (N := 54) rfl ?_); generalize hG_ : wpList _ _ _ _ _ _ = G_)); try go_wp2_with (first | ((with_reducible refine gate_dst (N := 4) rfl ?_); (try (refine gate_guard (by rfl) ?_; dsimp only)); refine gBx 4 #[.int .i64 0, .int .i64 0] 71 ?_; intro aE hg wq3 hbox hb; have BKq2 := aM (hbox); have GWq2 := gW HB hg; have GEq2 := gW HB hg; obtain ⟨NBq1, NBq2⟩ := nB aa hg; replace aa := mB aa hb; replace HB := bS HB hb; clear hb hbox hg; obtain ⟨hnbq1, hncq1⟩ := oB NBq2; obtain ⟨hczq21, hczq22⟩ := cz2 BKq2.out; obtain ⟨hfzq21, hfzq22⟩ := fz2 BKq2.out) | (go_at_call 62; (with_reducible refine (impl_BytesOf.calls Aq2.out).mono ?_); rintro e wq4 ⟨vq3, rfl, hoq1, hb⟩; have HOq1 := aM (Kd.R_lower hoq1 (below_size TB)); replace aa := mB aa hb; replace BKq2 := aM (blk_below (g := aE) (o := .cells #[.int .i64 ((rd_T71 ab xq2).f0), .int .i64 ((rd_T71 ab xq2).f1)] 71 (0, 0)) (blk_put (blk_put (cs := #[.int .i64 0, .int .i64 0]) (TZ BKq2) 0 _ rfl) 1 _ rfl) hb); replace HB := bS HB hb; clear hoq1 hb; obtain ⟨hczq23, hczq24, hczq25, hczq26⟩ := cz4 aa.out; obtain ⟨hfzq23, hfzq24, hfzq25, hfzq26⟩ := fz4 aa.out) | ((with_reducible refine gate_callee (f := 36) rfl ?_); (with_reducible refine gate_dst (N := 54) rfl ?_); generalize hG_ : wpList _ _ _ _ _ _ = G_)))
        subst hG_
        by_cases aF : tq2 = true
        ·subst aF;replace H := ifT H
         by_cases ah : (tq1.length : Int) = tq4
         ·rw [if_pos ah] at H;have cq15 : ((tq1.length : Int) == tq4) = true := beq_iff_eq.mpr ah;have cq16 : ((tq1.length : Int) != tq4) = false := bne_eq_false_iff_eq.mpr ah;clear ah;replace H := bE H;obtain ⟨af, Aq4, H⟩ := H
          by_cases ag : af = ((rd_T71 ab xq2).f0)
          ·rw [if_pos ag] at H;have cq18 : (af == ((rd_T71 ab xq2).f0)) = true := beq_iff_eq.mpr ag;have cq19 : (af != ((rd_T71 ab xq2).f0)) = false := bne_eq_false_iff_eq.mpr ag;clear ag;have H' := aM H;clear H;go_wp2_with (first | (go_at_call 36; (with_reducible refine (impl_SpanOf.calls Aq3.out).mono ?_); rintro e wq5 ⟨rfl, hb⟩; replace HOq1 := mR HOq1 hb; replace aa := mB aa hb; replace BKq2 := mB BKq2 hb; replace HB := bS HB hb; clear hb; obtain ⟨Aoq1, coq1, eoq1⟩ := Kd.R_slice HOq1.out; subst eoq1) | (go_at_call 63; (with_reducible refine (impl_WeakOf.calls ?side1 ?side2 Aq4.out).mono ?_); (case side1 => exact Zq8_1); (case side2 => exact (Kd.R_reads' HOq1.out).2.1); rintro e w' ⟨rfl, ⟨nd, rfl⟩⟩; (try first | exact ⟨rfl, _, World.drewN_drewN _ _ _⟩ | exact ⟨rfl, _, Eq.trans (World.drewN_drewN _ _ _) (congrArg (World.drewN _) (Nat.add_assoc _ _ _))⟩); obtain ⟨hnbq2, hncq2⟩ := oB NBq2; obtain ⟨hczq27, hczq28⟩ := cz2 BKq2.out; obtain ⟨hfzq27, hfzq28⟩ := fz2 BKq2.out))
           repeat (go_quiet (first | (go_at_call 36; (with_reducible refine (impl_SpanOf.calls Aq3.out).mono ?_); rintro e wq5 ⟨rfl, hb⟩; replace HOq1 := mR HOq1 hb; replace aa := mB aa hb; replace BKq2 := mB BKq2 hb; replace HB := bS HB hb; clear hb; obtain ⟨Aoq1, coq1, eoq1⟩ := Kd.R_slice HOq1.out; subst eoq1) | (go_at_call 63; (with_reducible refine (impl_WeakOf.calls ?side1 ?side2 Aq4.out).mono ?_); (case side1 => exact Zq8_1); (case side2 => exact (Kd.R_reads' HOq1.out).2.1); rintro e w' ⟨rfl, ⟨nd, rfl⟩⟩; (try first | exact ⟨rfl, _, World.drewN_drewN _ _ _⟩ | exact ⟨rfl, _, Eq.trans (World.drewN_drewN _ _ _) (congrArg (World.drewN _) (Nat.add_assoc _ _ _))⟩); obtain ⟨hnbq2, hncq2⟩ := oB NBq2; obtain ⟨hczq27, hczq28⟩ := cz2 BKq2.out; obtain ⟨hfzq27, hfzq28⟩ := fz2 BKq2.out)); try go_wp2_with (first | (go_at_call 36; (with_reducible refine (impl_SpanOf.calls Aq3.out).mono ?_); rintro e wq5 ⟨rfl, hb⟩; replace HOq1 := mR HOq1 hb; replace aa := mB aa hb; replace BKq2 := mB BKq2 hb; replace HB := bS HB hb; clear hb; obtain ⟨Aoq1, coq1, eoq1⟩ := Kd.R_slice HOq1.out; subst eoq1) | (go_at_call 63; (with_reducible refine (impl_WeakOf.calls ?side1 ?side2 Aq4.out).mono ?_); (case side1 => exact Zq8_1); (case side2 => exact (Kd.R_reads' HOq1.out).2.1); rintro e w' ⟨rfl, ⟨nd, rfl⟩⟩; (try first | exact ⟨rfl, _, World.drewN_drewN _ _ _⟩ | exact ⟨rfl, _, Eq.trans (World.drewN_drewN _ _ _) (congrArg (World.drewN _) (Nat.add_assoc _ _ _))⟩); obtain ⟨hnbq2, hncq2⟩ := oB NBq2; obtain ⟨hczq27, hczq28⟩ := cz2 BKq2.out; obtain ⟨hfzq27, hfzq28⟩ := fz2 BKq2.out)))
           go_roundg k2
           case measure => have := HJq1.out; have := HKq1.out; omega
           case rel => exact ⟨(wrap64 (xq2 + 1)), TF, H', ⟨by have := HJq1.out; have := HKq1.out; omega⟩, ⟨TK⟩, ⟨TB⟩⟩
          ·rw [if_neg ag] at H;have cq18 : (af == ((rd_T71 ab xq2).f0)) = false := beq_eq_false_iff_ne.mpr ag;have cq19 : (af != ((rd_T71 ab xq2).f0)) = true := bne_iff_ne.mpr ag;obtain rfl := o_I H;go_wp2_with (first | (go_at_call 36; (with_reducible refine (impl_SpanOf.calls Aq3.out).mono ?_); rintro e wq5 ⟨rfl, hb⟩; replace HOq1 := mR HOq1 hb; replace aa := mB aa hb; replace BKq2 := mB BKq2 hb; replace HB := bS HB hb; clear hb; obtain ⟨Aoq1, coq1, eoq1⟩ := Kd.R_slice HOq1.out; subst eoq1) | (go_at_call 63; (with_reducible refine (impl_WeakOf.calls ?side1 ?side2 Aq4.out).mono ?_); (case side1 => exact Zq8_1); (case side2 => exact (Kd.R_reads' HOq1.out).2.1); rintro e w' ⟨rfl, ⟨nd, rfl⟩⟩; (try first | exact ⟨rfl, _, World.drewN_drewN _ _ _⟩ | exact ⟨rfl, _, Eq.trans (World.drewN_drewN _ _ _) (congrArg (World.drewN _) (Nat.add_assoc _ _ _))⟩); obtain ⟨hnbq2, hncq2⟩ := oB NBq2; obtain ⟨hczq27, hczq28⟩ := cz2 BKq2.out; obtain ⟨hfzq27, hfzq28⟩ := fz2 BKq2.out))
           repeat (go_quiet (first | (go_at_call 36; (with_reducible refine (impl_SpanOf.calls Aq3.out).mono ?_); rintro e wq5 ⟨rfl, hb⟩; replace HOq1 := mR HOq1 hb; replace aa := mB aa hb; replace BKq2 := mB BKq2 hb; replace HB := bS HB hb; clear hb; obtain ⟨Aoq1, coq1, eoq1⟩ := Kd.R_slice HOq1.out; subst eoq1) | (go_at_call 63; (with_reducible refine (impl_WeakOf.calls ?side1 ?side2 Aq4.out).mono ?_); (case side1 => exact Zq8_1); (case side2 => exact (Kd.R_reads' HOq1.out).2.1); rintro e w' ⟨rfl, ⟨nd, rfl⟩⟩; (try first | exact ⟨rfl, _, World.drewN_drewN _ _ _⟩ | exact ⟨rfl, _, Eq.trans (World.drewN_drewN _ _ _) (congrArg (World.drewN _) (Nat.add_assoc _ _ _))⟩); obtain ⟨hnbq2, hncq2⟩ := oB NBq2; obtain ⟨hczq27, hczq28⟩ := cz2 BKq2.out; obtain ⟨hfzq27, hfzq28⟩ := fz2 BKq2.out)); try go_wp2_with (first | (go_at_call 36; (with_reducible refine (impl_SpanOf.calls Aq3.out).mono ?_); rintro e wq5 ⟨rfl, hb⟩; replace HOq1 := mR HOq1 hb; replace aa := mB aa hb; replace BKq2 := mB BKq2 hb; replace HB := bS HB hb; clear hb; obtain ⟨Aoq1, coq1, eoq1⟩ := Kd.R_slice HOq1.out; subst eoq1) | (go_at_call 63; (with_reducible refine (impl_WeakOf.calls ?side1 ?side2 Aq4.out).mono ?_); (case side1 => exact Zq8_1); (case side2 => exact (Kd.R_reads' HOq1.out).2.1); rintro e w' ⟨rfl, ⟨nd, rfl⟩⟩; (try first | exact ⟨rfl, _, World.drewN_drewN _ _ _⟩ | exact ⟨rfl, _, Eq.trans (World.drewN_drewN _ _ _) (congrArg (World.drewN _) (Nat.add_assoc _ _ _))⟩); obtain ⟨hnbq2, hncq2⟩ := oB NBq2; obtain ⟨hczq27, hczq28⟩ := cz2 BKq2.out; obtain ⟨hfzq27, hfzq28⟩ := fz2 BKq2.out)))
           go_ret
           exact ⟨TE, TB⟩
         ·rw [if_neg ah] at H;have cq15 : ((tq1.length : Int) == tq4) = false := beq_eq_false_iff_ne.mpr ah;have cq16 : ((tq1.length : Int) != tq4) = true := bne_iff_ne.mpr ah;obtain rfl := o_I H;go_wp2_with (first | (go_at_call 36; (with_reducible refine (impl_SpanOf.calls Aq3.out).mono ?_); rintro e wq5 ⟨rfl, hb⟩; replace HOq1 := mR HOq1 hb; replace aa := mB aa hb; replace BKq2 := mB BKq2 hb; replace HB := bS HB hb; clear hb; obtain ⟨Aoq1, coq1, eoq1⟩ := Kd.R_slice HOq1.out; subst eoq1))
          repeat (go_quiet (first | (go_at_call 36; (with_reducible refine (impl_SpanOf.calls Aq3.out).mono ?_); rintro e wq5 ⟨rfl, hb⟩; replace HOq1 := mR HOq1 hb; replace aa := mB aa hb; replace BKq2 := mB BKq2 hb; replace HB := bS HB hb; clear hb; obtain ⟨Aoq1, coq1, eoq1⟩ := Kd.R_slice HOq1.out; subst eoq1)); try go_wp2_with (first | (go_at_call 36; (with_reducible refine (impl_SpanOf.calls Aq3.out).mono ?_); rintro e wq5 ⟨rfl, hb⟩; replace HOq1 := mR HOq1 hb; replace aa := mB aa hb; replace BKq2 := mB BKq2 hb; replace HB := bS HB hb; clear hb; obtain ⟨Aoq1, coq1, eoq1⟩ := Kd.R_slice HOq1.out; subst eoq1)))
          go_ret
          exact ⟨TE, TB⟩
        ·replace aF := b_F aF;subst aF;replace H := ifF H;obtain rfl := o_I H;go_wp2_with (first | (go_at_call 36; (with_reducible refine (impl_SpanOf.calls Aq3.out).mono ?_); rintro e wq5 ⟨rfl, hb⟩; replace HOq1 := mR HOq1 hb; replace aa := mB aa hb; replace BKq2 := mB BKq2 hb; replace HB := bS HB hb; clear hb))
         repeat (go_quiet (first | (go_at_call 36; (with_reducible refine (impl_SpanOf.calls Aq3.out).mono ?_); rintro e wq5 ⟨rfl, hb⟩; replace HOq1 := mR HOq1 hb; replace aa := mB aa hb; replace BKq2 := mB BKq2 hb; replace HB := bS HB hb; clear hb)); try go_wp2_with (first | (go_at_call 36; (with_reducible refine (impl_SpanOf.calls Aq3.out).mono ?_); rintro e wq5 ⟨rfl, hb⟩; replace HOq1 := mR HOq1 hb; replace aa := mB aa hb; replace BKq2 := mB BKq2 hb; replace HB := bS HB hb; clear hb)))
         go_ret
         exact ⟨TE, TB⟩
       ·rw [if_neg cq7] at H;have cq8 : decide (xq2 < (ab.length : Int)) = false := decide_eq_false cq7;clear cq7;obtain rfl := o_I H;go_wp2
        repeat (go_quiet (fail); try go_wp2)
        go_ret
        exact ⟨TE, TB⟩

end Go.Proofs.Ytaofakpljnkplaa.Q
