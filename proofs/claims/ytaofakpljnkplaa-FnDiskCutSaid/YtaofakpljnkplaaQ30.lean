/- Functions of the program as plain Lean functions, and that a call of each comes to what its function tells. Written by a program of this seat. -/
import Derived.Test.YtaofakpljnkplaaQ0
import Derived.Test.YtaofakpljnkplaaQ4
import Derived.Test.YtaofakpljnkplaaQ6
import Derived.Test.YtaofakpljnkplaaQ8
import Derived.Test.YtaofakpljnkplaaQ9
import Derived.Test.YtaofakpljnkplaaQ11
import Derived.Test.YtaofakpljnkplaaQ29
namespace Go.Proofs.Ytaofakpljnkplaa.Q
open Go.RowKit Go.Proofs.YtaofakpljnkplaaW.PrintWords Go.Proofs.YtaofakpljnkplaaW.PrintLast Go.Proofs.YtaofakpljnkplaaW.PrintMore
attribute [local go_sem] min2_int min_two
set_option linter.unusedVariables false
set_option linter.unusedSimpArgs false

theorem Zq30_0 {p : Prop} (h : p := by repeat (first | exact (Kd.C_below aE.out TB) | (with_reducible refine Kd.C_alloc ?_ _) | (with_reducible refine Kd.C_drewN ?_ _) | (with_reducible refine Kd.C_drew ?_))) : p := h
theorem Zq30_1 {p : Prop} (h : p := by repeat (first | exact (Kd.C_below ar.out TB) | (with_reducible refine Kd.C_alloc ?_ _) | (with_reducible refine Kd.C_drewN ?_ _) | (with_reducible refine Kd.C_drew ?_))) : p := h
def impl_BuildFrom.l0 : Nat → List Int → Int → Int → Int → Int → Int → List (S71) → Int → List Int → Option (Int × List Int)
  | 0, _, _, _, _, _, _, _, _, _ => none
  | k + 1, x1, x18, x19, x766000, x766001, x766002, x766003, x772000, x772001 => if x19 < x18 then ((impl_SpanOf.f x766001 x766002 x19).bind fun bt773 => ((impl_PlaceOf.f k x1 x766000 x766001 x766002 x766003 x19).bind fun t775 => (if t775 ≥ 0 then (if 0 ≤ t775 then (if t775 ≤ (wrap64 (t775 + bt773.2)) then (if (wrap64 (t775 + bt773.2)) ≤ (x1.length : Int) then ((some ((0 : Int), (0 : Int))).bind fun bt777 => ((impl_Build_put.f x772000 x772001 x766001 x766002 x19 ((x1.take ((wrap64 (t775 + bt773.2)) : Int).toNat).drop (t775 : Int).toNat)).bind fun bt779 => (impl_BuildFrom.l0 k x1 x18 (wrap64 (x19 + 1)) x766000 x766001 x766002 x766003 bt779.1 bt779.2))) else (none)) else (none)) else (none)) else (impl_BuildFrom.l0 k x1 x18 (wrap64 (x19 + 1)) x766000 x766001 x766002 x766003 x772000 x772001)))) else (some (x772000, x772001))
def impl_BuildFrom.f (k : Nat) (a0_0 : Int) (a0_1 : Int) (a0_2 : Int) (l0_3 : List (S71)) (l1 : List Int) : Option (Int × List Int) := (impl_BuildNew.f k a0_0 a0_1 a0_2 l0_3).bind fun bt767 => ((impl_ManOk.f k a0_0 a0_1 a0_2 l0_3).bind fun t772 => (if t772 = true then (impl_BuildFrom.l0 k l1 (l0_3.length : Int) 0 a0_0 a0_1 a0_2 l0_3 bt767.1 bt767.2) else (some (bt767.1, bt767.2))))
theorem impl_BuildFrom.mono_l : ∀ k, (∀ y0 y1 y2 y3 y4 y5 y6 y7 y8, LeO (impl_BuildFrom.l0 k y0 y1 y2 y3 y4 y5 y6 y7 y8) (impl_BuildFrom.l0 (k + 1) y0 y1 y2 y3 y4 y5 y6 y7 y8))
  | 0 => fun _ _ _ _ _ _ _ _ _ r h => by simp [impl_BuildFrom.l0] at h
  | k + 1 => by
    have m0_ := @impl_BuildNew.mono
    have m1_ := @impl_ManOk.mono
    have m2_ := @impl_PlaceOf.mono
    have m3_ := @impl_SumOf.mono
    have ih0 := impl_BuildFrom.mono_l k
    · intro y0 y1 y2 y3 y4 y5 y6 y7 y8
      unfold impl_BuildFrom.l0
      exact LM
theorem impl_BuildFrom.mono : ∀ a0 a1 a2 a3 a4 k, LeO (impl_BuildFrom.f k a0 a1 a2 a3 a4) (impl_BuildFrom.f (k + 1) a0 a1 a2 a3 a4) := by
  intro a0 a1 a2 a3 a4 k;have m0_ := @impl_BuildNew.mono;have m1_ := @impl_ManOk.mono;have m2_ := @impl_PlaceOf.mono;have m3_ := @impl_SumOf.mono;have ih0 := impl_BuildFrom.mono_l k;unfold impl_BuildFrom.f;exact LM
set_option maxHeartbeats 40000000 in
set_option maxRecDepth 100000 in
theorem impl_BuildFrom.calls {k : Nat} {ai : Int} {af : Int} {ag : Int} {ak : Option Addr} {aj : Nat} {ad : List (S71)} {A1 : Option Addr} {c1 : Nat} {l1 : List Int} {r1 : Int} {r2 : List Int} {w : World} (aJ : Kd.C k71 w ak ad.length ad) (aH : ad.length ≤ aj) (hr1 : Kd.C (Kd.int .u8) w A1 l1.length l1) (hc1 : l1.length ≤ c1) (h : impl_BuildFrom.f k ai af ag ad l1 = some (r1, r2)) :
  Calls Try.prog 19 #[.agg #[.int .i64 ai, .int .i64 af, .int .i64 ag, .slice ak ad.length aj], .slice A1 l1.length c1] w fun e w' => ∃ v1_ : Value, e = .returned (.agg #[.int .i64 r1, v1_]) ∧ Kd.R (Kd.int .u8) 5 w' w.heap.size (fun _ => True) v1_ r2 ∧ Below w.heap.size w w' := by
 have huq1 := Try.underlying28;have huq2 := Try.underlying31;have ar := aM aJ;have ap := aM aH;clear aJ aH;have aE := aM hr1;have aD := aM hc1;clear hr1 hc1;have HB := aM (Below.refl w.heap.size w);have H := h;clear h;unfold impl_BuildFrom.f at H;replace H := bE H;obtain ⟨⟨tq1, tq2⟩, Aq1, H⟩ := H;dsimp only at H;replace H := bE H;obtain ⟨t772, Aq2, H⟩ := H;go_enter Try.func19, Try.ntmps19;go_wp2_with (first | ((with_reducible refine gate_dst (N := 2) rfl ?_); refine gBx 2 #[.int .i64 ai, .int .i64 af, .int .i64 ag, .slice ak ad.length aj] 28 ?_; intro gbq1 hg wq1 hbox hb; have aa := aM (hbox); have GWq1 := gW HB hg; have GEq1 := gW HB hg; replace HB := bS HB hb; clear hb hbox hg) | ((with_reducible refine gate_dst (N := 4) rfl ?_); refine gBx 4 #[.int .i64 0, .slice none 0 0] 31 ?_; intro gbq2 hg wq2 hbox hb; have ab := aM (hbox); have GWq2 := gW HB hg; have GEq2 := gW HB hg; obtain ⟨NBq1, NBq2⟩ := nB aa hg; replace aa := mB aa hb; replace HB := bS HB hb; clear hb hbox hg; obtain ⟨hnbq1, hncq1⟩ := oB NBq1; obtain ⟨hczq1, hczq2, hczq3, hczq4⟩ := cz4 aa.out; obtain ⟨hfzq1, hfzq2, hfzq3, hfzq4⟩ := fz4 aa.out) | ((with_reducible refine gate_callee (f := 9) rfl ?_); refine gL (some 11) Try.func9 #[.agg #[.int .i64 ai, .int .i64 af, .int .i64 ag, .slice ak ad.length aj]] ?_; (with_reducible refine (impl_BuildNew.calls ?side1 ?side2 Aq1.out).mono ?_); (case side1 => have X_ := (Kd.C_below ar.out HB.out); exact TC); (case side2 => exact ap.out); rintro e wq3 ⟨vq1, rfl, hoq1, hb⟩; refine ⟨_, rfl, ?_⟩; have HOq1 := aM (Kd.R_lower hoq1 (below_size TB)); replace aa := mB aa hb; replace ab := mB ab hb; replace HB := bS HB hb; clear hoq1 hb) | ((with_reducible refine gate_dst (N := 5) rfl ?_); refine gBx 5 #[.int .i64 0, .slice none 0 0] 31 ?_; intro gbq3 hg wq4 hbox hb; have ac := aM (hbox); have GWq3 := gW HB hg; have GEq3 := gW HB hg; obtain ⟨NBq3, NBq4⟩ := nB aa hg; obtain ⟨NBq5, NBq6⟩ := nB ab hg; replace HOq1 := mR HOq1 hb; replace aa := mB aa hb; replace ab := mB ab hb; replace HB := bS HB hb; clear hb hbox hg; obtain ⟨hnbq2, hncq2⟩ := oB NBq4; obtain ⟨hnbq3, hncq3⟩ := oB NBq6; obtain ⟨hczq5, hczq6⟩ := cz2 ac.out; obtain ⟨hfzq5, hfzq6⟩ := fz2 ac.out; obtain ⟨Aoq1, coq1, eoq1⟩ := Kd.R_slice HOq1.out; subst eoq1; obtain ⟨hczq7, hczq8, hczq9, aN⟩ := cz4 aa.out; obtain ⟨hfzq7, hfzq8, hfzq9, aW⟩ := fz4 aa.out) | ((with_reducible refine gate_callee (f := 34) rfl ?_); (with_reducible refine gate_dst (N := 13) rfl ?_); generalize hG_ : wpList _ _ _ _ _ _ = G_))
 subst hG_
 by_cases cq1 : t772 = true
 ·subst cq1;replace H := ifT H;have H' := aM H;clear H;go_wp2_with (first | ((with_reducible refine gate_callee (f := 34) rfl ?_); refine gL (some 13) Try.func34 #[.agg #[.int .i64 ai, .int .i64 af, .int .i64 ag, .slice ak ad.length aj]] ?_; (with_reducible refine (impl_ManOk.calls ?side1 ?side2 Aq2.out).mono ?_); (case side1 => exact Kd.C_below ar.out TB); (case side2 => exact ap.out); rintro e wq5 ⟨rfl, hb⟩; refine ⟨_, rfl, ?_⟩; replace HOq1 := aM (Kd.R_below (TY HOq1 ac) hb); replace aa := mB aa hb; replace ab := mB ab hb; replace ac := aM (blk_below (g := gbq3) (o := .cells #[.int .i64 tq1, .slice Aoq1 tq2.length coq1] 31 (0, 0)) (blk_put (blk_put (cs := #[.int .i64 0, .slice none 0 0]) (TZ ac) 0 _ rfl) 1 _ rfl) hb); replace HB := bS HB hb; clear hb; obtain ⟨hnbq4, hncq4⟩ := oB NBq1; obtain ⟨hnbq5, hncq5⟩ := oB NBq3; obtain ⟨aC, aB, av, aA⟩ := cz4 aa.out; obtain ⟨ay, aw, az, ax⟩ := fz4 aa.out))
  go_loopg [19] k (fun kq vq2 w' => ∃ (xq1 : Int) (xq2 : Int) (xq3 : List Int) (uq1 : Value), vq2 = .int .i64 xq1 ∧ Aside0 (impl_BuildFrom.l0 kq l1 (ad.length : Int) xq1 ai af ag ad xq2 xq3 = some (r1, r2)) ∧ Aside0 (kq ≤ k) ∧ Aside0 (Kd.R (Kd.int .u8) 5 w' w.heap.size (fun _ => True) uq1 xq3) ∧ Aside0 (w'.heap[gbq1]? = some (.cells #[.int .i64 ai, .int .i64 af, .int .i64 ag, (.slice ak ad.length aj)] 28 (0, 0))) ∧ Aside0 (w'.heap[gbq2]? = some (.cells #[.int .i64 0, (.slice none 0 0)] 31 (0, 0))) ∧ Aside0 (w'.heap[gbq3]? = some (.cells #[.int .i64 xq2, uq1] 31 (0, 0))) ∧ Aside0 (Below w.heap.size w w'))
  case atStart => exact ⟨(0), (tq1), (tq2), (.slice Aoq1 tq2.length coq1), TF, H', ⟨Nat.le_refl _⟩, ⟨by have X_ := HOq1.out; exact TR⟩, ⟨TK⟩, ⟨TK⟩, ⟨TK⟩, ⟨TB⟩⟩
  case round =>
   clear H';try clear c1
   try clear cq1
   try clear hczq5
   try clear hczq6
   try clear hczq7
   try clear hczq8
   try clear hczq9
   try clear aN
   try clear aC
   try clear aB
   try clear av
   try clear aA
   try clear hczq1
   try clear hczq2
   try clear hczq3
   try clear hczq4
   try clear hfzq5
   try clear hfzq6
   try clear hfzq7
   try clear hfzq8
   try clear hfzq9
   try clear aW
   try clear ay
   try clear aw
   try clear az
   try clear ax
   try clear hfzq1
   try clear hfzq2
   try clear hfzq3
   try clear hfzq4
   obtain ⟨xq1, xq2, xq3, uq1, rfl, HA, au, ah, aa, ab, ac, HB⟩ := hrel;cases gk with
   | zero => exact absurd HA.out (by simp [impl_BuildFrom.l0])
   | succ k1 =>
    have H := HA.out;clear HA;simp only [impl_BuildFrom.l0] at H
    by_cases an : xq1 < (ad.length : Int)
    ·rw [if_pos an] at H;have cq11 : decide (xq1 < (ad.length : Int)) = true := decide_eq_true an;clear an;replace H := bE H;obtain ⟨⟨tq3, tq4⟩, Aq3, H⟩ := H;dsimp only at H;replace H := bE H;obtain ⟨ae, Aq4, H⟩ := H;obtain ⟨aL, aI⟩ := oB NBq1;obtain ⟨hnbq7, hncq7⟩ := oB NBq3;obtain ⟨aP, aR, aV, aT⟩ := cz4 aa.out;obtain ⟨aU, aS, aO, aQ⟩ := fz4 aa.out;go_wp2_with (first | ((with_reducible refine gate_callee (f := 36) rfl ?_); refine gL (some 28) Try.func36 #[.int .i64 af, .int .i64 ag, .int .i64 xq1] ?_; (with_reducible refine (impl_SpanOf.calls Aq3.out).mono ?_); rintro e wq6 ⟨rfl, hb⟩; refine ⟨_, rfl, ?_⟩; replace ah := mR ah hb; replace aa := mB aa hb; replace ab := mB ab hb; replace ac := mB ac hb; replace HB := bS HB hb; clear hb; obtain ⟨hczq19, hczq20, hczq21, hczq22⟩ := cz4 aa.out; obtain ⟨hfzq19, hfzq20, hfzq21, hfzq22⟩ := fz4 aa.out) | ((with_reducible refine gate_callee (f := 50) rfl ?_); (with_reducible refine gate_dst (N := 34) rfl ?_); generalize hG_ : wpList _ _ _ _ _ _ = G_))
     subst hG_
     by_cases ao : ae ≥ 0
     ·rw [if_pos ao] at H;have cq13 : decide (0 ≤ ae) = true := decide_eq_true ao;clear ao;replace H := ifN H;obtain ⟨aF, H⟩ := H;have cq15 := eq_true aF;have cq16 : decide (0 ≤ ae) = true := decide_eq_true aF;clear aF;replace H := ifN H;obtain ⟨cq17, H⟩ := H;have cq18 := eq_true cq17;have cq19 : decide (ae ≤ (wrap64 (ae + tq4))) = true := decide_eq_true cq17;replace H := ifN H;obtain ⟨cq20, H⟩ := H;have cq21 := eq_true cq20;have cq22 : decide ((wrap64 (ae + tq4)) ≤ (l1.length : Int)) = true := decide_eq_true cq20;replace H := bE H;obtain ⟨⟨tq5, tq6⟩, Aq5, H⟩ := H;replace H := bE H;obtain ⟨⟨tq7, tq8⟩, Aq6, H⟩ := H;dsimp only at H;have H' := aM H;clear H;try go_wp2_with (first | ((with_reducible refine gate_callee (f := 50) rfl ?_); refine gL (some 34) Try.func50 #[.slice A1 l1.length c1, .agg #[.int .i64 ai, .int .i64 af, .int .i64 ag, .slice ak ad.length aj], .int .i64 xq1] ?_; (with_reducible refine (impl_PlaceOf.calls ?side1 ?side2 ?side3 ?side4 Aq4.out).mono ?_); (case side1 => exact Zq30_0); (case side2 => exact aD.out); (case side3 => exact Zq30_1); (case side4 => exact ap.out); rintro e wq7 ⟨rfl, hb⟩; refine ⟨_, rfl, ?_⟩; replace ah := mR ah hb; replace aa := mB aa hb; replace ab := mB ab hb; replace ac := mB ac hb; replace HB := bS HB hb; clear hb))
      replace ah := rD ah;replace aa := bD aa;replace ab := bD ab;replace ac := bD ac;replace HB := aM (below_drew1 HB.out);obtain ⟨iq1, hiq1, _, aK, _⟩ := info_parts info5;obtain ⟨Aq7, hcutq1, hAq1, hCq1⟩ := print_mid_of (P := Try.prog) (Value.int .u8) 0 22 5 .i64 .i64 Try.underlying22 hiq1 aK A1 c1 l1 ae (wrap64 (ae + tq4)) DT (by first | omega | exact DT) DT aD.out;have HRq3 := aM (Kd.C_of_reads (h1 := fun _ => rfl) (hAq1 _ (Kd.reads_of_C aE.out)));have HCq3 := aM hCq1;clear hAq1 hCq1 hiq1 aK;refine st_ (n := 9) (ds := []) (Array.replicate 9 false) (hK4 aa.out) (by kernel_rfl) rfl rfl (fun hHeld => ?_);generalize wq7.drew = wq8 at ah aa ab ac HB HRq3 hHeld ⊢;refine ppq 1 38 ?_;refine ppq 2 39 ?_;refine ppq 3 40 ?_;refine ppq 4 41 ?_;refine ppq 5 42 ?_;refine ppq 6 43 ?_;refine ppq 7 44 ?_;refine ptq 0 37 ?_;obtain ⟨al, am, aG⟩ := Kd.R_slice ah.out;subst aG;refine poq 8 45 (fun K hK => ?_);refine goes_ Try.func42 (by kernel_rfl) rfl #[.pointer (some ⟨gbq3, 0, none⟩), .agg #[.int .i64 ai, .int .i64 af, .int .i64 ag, .slice ak ad.length aj], .int .i64 xq1, .slice Aq7 ((l1.take ((wrap64 (ae + tq4)) : Int).toNat).drop (ae : Int).toNat).length (c1 - ae.toNat)] (by rfl) rfl rfl (by (try simp only [List.map_toArray, List.map_cons, List.map_nil]); first | done | (rw [show ((l1.take ((wrap64 (ae + tq4)) : Int).toNat).drop (ae : Int).toNat).length = ((wrap64 (ae + tq4)).toNat - ae.toNat) from (by rw [List.length_drop, List.length_take]; have h_ : ((wrap64 (ae + tq4)) : Int) ≤ (l1.length : Int) := DT; omega)] <;> rfl) | rfl | (simp only [List.length_drop, List.length_take]; rfl)) ?_;with_reducible refine (impl_Build_put.calls al am (fun _ => True) w _ ?p1 ?p2 ?p3 ?p4 ?p5 Aq6.out).mono ?_
      (case p1 => exact TB);(case p2 => exact GWq3.out);(case p3 => have X_ := ac.out; exact TX);(case p4 => exact Kd.R_mono (TRf ah) (fun _ _ => trivial));(case p5 => have X_ := (Kd.C_below HRq3.out HB.out); exact TC);rintro e wq9 ⟨rfl, hl_, hG_, hO_, hb_, hk_⟩;refine ⟨_, rfl, ?_⟩;obtain ⟨wv_, hvq1, hvq2, aq⟩ := virt_ (.int .i64 xq2) (.slice al xq3.length am) hG_;replace aa := aM (blk_kept (by have X_ := aa.out; exact TX) hk_ (fun q_ => Or.elim q_ (fun e_ => NBq3.out e_) (fun e_ => Kd.R_ne ah.out (by have X_ := aa.out; exact TX) (by decide) e_)));replace ab := aM (blk_kept (by have X_ := ab.out; exact TX) hk_ (fun q_ => Or.elim q_ (fun e_ => NBq5.out e_) (fun e_ => Kd.R_ne ah.out (by have X_ := ab.out; exact TX) (by decide) e_)));have HOq3 := aM (Kd.R_mono (ok' := fun _ => True) (Kd.R_move (Kd.R_types hO_ hG_ (by decide)) (fun k_ q_ => aq.2.2 k_ q_.2)) (fun _ _ => trivial));clear ah;replace ac := aM hG_;refine hK.out _ _ (cz4 aa.out) (fun hHeld => ?_);clear hK K;refine nR ?_;refine done_ (by kernel_rfl) ?_;clear hHeld;replace aa := aM ((aq.2.2 _ NBq3.out).trans aa.out);replace ab := aM ((aq.2.2 _ NBq5.out).trans ab.out);replace ac := aM hvq2;replace HB := aM (aq.below hb_ GWq3.out);clear hl_ hG_ hO_ hb_ hk_ hvq2 aq;subst hvq1;obtain ⟨hczq23, hczq24⟩ := cz2 ac.out;obtain ⟨hfzq23, hfzq24⟩ := fz2 ac.out;try go_wp2
      go_roundg k1
      case measure => have := au.out; omega
      case rel => exact ⟨(wrap64 (xq1 + 1)), (tq7), (tq8), (.slice al tq8.length am), TF, H', ⟨by have := au.out; omega⟩, ⟨by (with_reducible repeat (first | apply Kd.R_alloc | apply Kd.R_drewN | apply Kd.R_drew)); exact Kd.R_mono (RK1 (Kd.R_types HOq3.out ac.out (by decide))) (fun _ hk => trivial)⟩, ⟨(TZ aa)⟩, ⟨(TZ ab)⟩, ⟨(blk_put (blk_put (cs := #[.int .i64 xq2, .slice al xq3.length am]) (TZ ac) 0 _ rfl) 1 _ rfl)⟩, ⟨TB⟩⟩
     ·rw [if_neg ao] at H;have cq13 : decide (0 ≤ ae) = false := decide_eq_false ao;clear ao;have H' := aM H;clear H;go_wp2_with (first | ((with_reducible refine gate_callee (f := 50) rfl ?_); refine gL (some 34) Try.func50 #[.slice A1 l1.length c1, .agg #[.int .i64 ai, .int .i64 af, .int .i64 ag, .slice ak ad.length aj], .int .i64 xq1] ?_; (with_reducible refine (impl_PlaceOf.calls ?side1 ?side2 ?side3 ?side4 Aq4.out).mono ?_); (case side1 => exact Zq30_0); (case side2 => exact aD.out); (case side3 => exact Zq30_1); (case side4 => exact ap.out); rintro e wq7 ⟨rfl, hb⟩; refine ⟨_, rfl, ?_⟩; replace ah := mR ah hb; replace aa := mB aa hb; replace ab := mB ab hb; replace ac := mB ac hb; replace HB := bS HB hb; clear hb))
      go_roundg k1
      case measure => have := au.out; omega
      case rel => exact ⟨(wrap64 (xq1 + 1)), (xq2), (xq3), (uq1), TF, H', ⟨by have := au.out; omega⟩, ⟨by have X_ := ah.out; exact TR⟩, ⟨TK⟩, ⟨TK⟩, ⟨TK⟩, ⟨TB⟩⟩
    ·rw [if_neg an] at H;have cq11 : decide (xq1 < (ad.length : Int)) = false := decide_eq_false an;clear an;simp only [Option.some.injEq, Prod.mk.injEq] at H;obtain ⟨rfl, rfl⟩ := H;obtain ⟨aL, aI⟩ := oB NBq4;obtain ⟨hnbq7, hncq7⟩ := oB NBq6;obtain ⟨aP, aR⟩ := cz2 ac.out;obtain ⟨aU, aS⟩ := fz2 ac.out;obtain ⟨hnbq8, hncq8⟩ := oB NBq2;obtain ⟨aV, aT⟩ := cz2 ab.out;obtain ⟨aO, aQ⟩ := fz2 ab.out;obtain ⟨al, am, aG⟩ := Kd.R_slice ah.out;subst aG;go_wp2
     refine bodyPost_ret (results_cell_row rfl _ _ gbq2 31 #[.int .i64 xq2, .slice al xq3.length am] (0, 0) _ rfl (blk_put (blk_put (cs := #[.int .i64 0, .slice none 0 0]) (TZ ab) 0 _ rfl) 1 _ rfl) Try.underlying31 rfl (by kernel_rfl)) rfl ?_;exact ⟨_, TE, by (with_reducible repeat (first | apply Kd.R_alloc | apply Kd.R_drewN | apply Kd.R_drew)); exact Kd.R_mono (RK1 (Kd.R_types ah.out ab.out (by decide))) (fun _ hk => trivial), TB⟩
 ·replace cq1 := b_F cq1;subst cq1;replace H := ifF H;simp only [Option.some.injEq, Prod.mk.injEq] at H;obtain ⟨rfl, rfl⟩ := H;go_wp2_with (first | ((with_reducible refine gate_callee (f := 34) rfl ?_); refine gL (some 13) Try.func34 #[.agg #[.int .i64 ai, .int .i64 af, .int .i64 ag, .slice ak ad.length aj]] ?_; (with_reducible refine (impl_ManOk.calls ?side1 ?side2 Aq2.out).mono ?_); (case side1 => exact Kd.C_below ar.out TB); (case side2 => exact ap.out); rintro e wq5 ⟨rfl, hb⟩; refine ⟨_, rfl, ?_⟩; replace HOq1 := aM (Kd.R_below (TY HOq1 ac) hb); replace aa := mB aa hb; replace ab := mB ab hb; replace ac := aM (blk_below (g := gbq3) (o := .cells #[.int .i64 tq1, .slice Aoq1 tq2.length coq1] 31 (0, 0)) (blk_put (blk_put (cs := #[.int .i64 0, .slice none 0 0]) (TZ ac) 0 _ rfl) 1 _ rfl) hb); replace HB := bS HB hb; clear hb; obtain ⟨hnbq4, hncq4⟩ := oB NBq4; obtain ⟨hnbq5, hncq5⟩ := oB NBq6; obtain ⟨aC, aB⟩ := cz2 ac.out; obtain ⟨ay, aw⟩ := fz2 ac.out; obtain ⟨aL, aI⟩ := oB NBq2; obtain ⟨av, aA⟩ := cz2 ab.out; obtain ⟨az, ax⟩ := fz2 ab.out))
  refine bodyPost_ret (results_cell_row rfl _ _ gbq2 31 #[.int .i64 tq1, .slice Aoq1 tq2.length coq1] (0, 0) _ rfl (blk_put (blk_put (cs := #[.int .i64 0, .slice none 0 0]) (TZ ab) 0 _ rfl) 1 _ rfl) Try.underlying31 rfl (by kernel_rfl)) rfl ?_;exact ⟨_, TE, by (with_reducible repeat (first | apply Kd.R_alloc | apply Kd.R_drewN | apply Kd.R_drew)); exact Kd.R_mono (RK1 (Kd.R_types HOq1.out ab.out (by decide))) (fun _ hk => trivial), TB⟩

end Go.Proofs.Ytaofakpljnkplaa.Q
