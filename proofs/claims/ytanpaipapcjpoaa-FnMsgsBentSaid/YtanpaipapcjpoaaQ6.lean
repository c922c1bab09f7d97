/- Functions of the program as plain Lean functions, and that a call of each comes to what its function tells. Written by a program of this seat. -/
import Derived.Test.YtanpaipapcjpoaaQ0
import Derived.Test.YtanpaipapcjpoaaQ2
import Derived.Test.YtanpaipapcjpoaaQ3
import Derived.Test.YtanpaipapcjpoaaQ4
import Derived.Test.YtanpaipapcjpoaaQ5
namespace Go.Proofs.Ytanpaipapcjpoaa.Q
open Go.RowKit Go.Proofs.YtanpaipapcjpoaaW.PrintWords Go.Proofs.YtanpaipapcjpoaaW.PrintLast Go.Proofs.YtanpaipapcjpoaaW.PrintMore
attribute [local go_sem] min2_int min_two
set_option linter.unusedVariables false
set_option linter.unusedSimpArgs false

mutual
def spec_GetMan.j0 : Nat → List Int → Int → Int → Int → Int → Bool → Int → Int → Int → Option (Int × Int × Int × (List (S83)) × Int × Bool)
  | 0, _, _, _, _, _, _, _, _, _ => none
  | k + 1, x0, x8, x11, x14, x15, x56, x148000, x148001, x148002 => if x56 = true then (some (x148000, x148001, x148002, ([] : List (S83)), 0, false)) else (spec_GetMan.l0 k x0 x8 x11 x14 x15 0 x148000 x148001 x148002 x8 x11 x14 ([] : List (S83)))
def spec_GetMan.l0 : Nat → List Int → Int → Int → Int → Int → Int → Int → Int → Int → Int → Int → Int → List (S83) → Option (Int × Int × Int × (List (S83)) × Int × Bool)
  | 0, _, _, _, _, _, _, _, _, _, _, _, _, _ => none
  | k + 1, x0, x8, x11, x14, x15, x18, x148000, x148001, x148002, x158000, x158001, x158002, x158003 => (spec_Blocks.f x11 x14).bind fun t158 => (if x18 < t158 then (spec_GetMan.j2 k x0 x8 x11 x14 x15 x18 (decide (x8 > 0)) x148000 x148001 x148002 x158000 x158001 x158002 x158003) else (spec_GetMan.j2 k x0 x8 x11 x14 x15 x18 false x148000 x148001 x148002 x158000 x158001 x158002 x158003))
def spec_GetMan.j2 : Nat → List Int → Int → Int → Int → Int → Int → Bool → Int → Int → Int → Int → Int → Int → List (S83) → Option (Int × Int × Int × (List (S83)) × Int × Bool)
  | 0, _, _, _, _, _, _, _, _, _, _, _, _, _, _ => none
  | k + 1, x0, x8, x11, x14, x15, x18, x70, x148000, x148001, x148002, x158000, x158001, x158002, x158003 => if x70 = true then ((spec_l6GetSum.f k x0 x15).bind fun bt160 => (if bt160.2.2 = true then ((spec_BytesOf.f k bt160.1).bind fun bt163 => ((spec_SumOf.f k bt163.1).bind fun bt167 => (if x158003.length < 8796093022208 then (spec_GetMan.l0 k x0 x8 x11 x14 bt160.2.1 (wrap64 (x18 + 1)) x148000 x148001 x148002 x158000 x158001 x158002 (x158003 ++ [(⟨bt167.1, bt160.1⟩ : S83)])) else (none)))) else (some (x148000, x148001, x148002, ([] : List (S83)), 0, false)))) else ((spec_ManOk.f k x158000 x158001 x158002 x158003).bind fun t159 => (if t159 = true then (some (x158000, x158001, x158002, x158003, x15, true)) else (some (x148000, x148001, x148002, ([] : List (S83)), 0, false))))
end
def spec_GetMan.f (k : Nat) (l0 : List Int) (a1 : Int) : Option (Int × Int × Int × (List (S83)) × Int × Bool) := (spec_GetVar.f k l0 a1).bind fun bt148 => ((spec_GetVar.f k l0 bt148.2.1).bind fun bt151 => ((spec_GetVar.f k l0 bt151.2.1).bind fun bt154 => (if bt148.2.2 = true then (if bt151.2.2 = true then (spec_GetMan.j0 k l0 bt148.1 bt151.1 bt154.1 bt154.2.1 (!bt154.2.2) 0 0 0) else (spec_GetMan.j0 k l0 bt148.1 bt151.1 bt154.1 bt154.2.1 true 0 0 0)) else (spec_GetMan.j0 k l0 bt148.1 bt151.1 bt154.1 bt154.2.1 true 0 0 0))))
theorem spec_GetMan.mono_l : ∀ k, (∀ y0 y1 y2 y3 y4 y5 y6 y7 y8, LeO (spec_GetMan.j0 k y0 y1 y2 y3 y4 y5 y6 y7 y8) (spec_GetMan.j0 (k + 1) y0 y1 y2 y3 y4 y5 y6 y7 y8)) ∧ (∀ y0 y1 y2 y3 y4 y5 y6 y7 y8 y9 y10 y11 y12, LeO (spec_GetMan.l0 k y0 y1 y2 y3 y4 y5 y6 y7 y8 y9 y10 y11 y12) (spec_GetMan.l0 (k + 1) y0 y1 y2 y3 y4 y5 y6 y7 y8 y9 y10 y11 y12)) ∧ (∀ y0 y1 y2 y3 y4 y5 y6 y7 y8 y9 y10 y11 y12 y13, LeO (spec_GetMan.j2 k y0 y1 y2 y3 y4 y5 y6 y7 y8 y9 y10 y11 y12 y13) (spec_GetMan.j2 (k + 1) y0 y1 y2 y3 y4 y5 y6 y7 y8 y9 y10 y11 y12 y13))
  | 0 => ⟨fun _ _ _ _ _ _ _ _ _ r h => by simp [spec_GetMan.j0] at h, fun _ _ _ _ _ _ _ _ _ _ _ _ _ r h => by simp [spec_GetMan.l0] at h, fun _ _ _ _ _ _ _ _ _ _ _ _ _ _ r h => by simp [spec_GetMan.j2] at h⟩
  | k + 1 => by
    have m0_ := @spec_BytesOf.mono
    have m1_ := @spec_GetVar.mono
    have m2_ := @spec_ManOk.mono
    have m3_ := @spec_SumOf.mono
    have m4_ := @spec_l6GetSum.mono
    obtain ⟨ih0, ih1, ih2⟩ := spec_GetMan.mono_l k
    refine ⟨?_, ?_, ?_⟩
    · intro y0 y1 y2 y3 y4 y5 y6 y7 y8
      unfold spec_GetMan.j0
      exact LM
    · intro y0 y1 y2 y3 y4 y5 y6 y7 y8 y9 y10 y11 y12
      unfold spec_GetMan.l0
      exact LM
    · intro y0 y1 y2 y3 y4 y5 y6 y7 y8 y9 y10 y11 y12 y13
      unfold spec_GetMan.j2
      exact LM
theorem spec_GetMan.mono : ∀ a0 a1 k, LeO (spec_GetMan.f k a0 a1) (spec_GetMan.f (k + 1) a0 a1) := by
  intro a0 a1 k;have m0_ := @spec_BytesOf.mono;have m1_ := @spec_GetVar.mono;have m2_ := @spec_ManOk.mono;have m3_ := @spec_SumOf.mono;have m4_ := @spec_l6GetSum.mono;obtain ⟨ih0, ih1, ih2⟩ := spec_GetMan.mono_l k;unfold spec_GetMan.f;exact LM
set_option maxHeartbeats 40000000 in
set_option maxRecDepth 100000 in
theorem spec_GetMan.calls (k : Nat) (A0 : Option Addr) (c0 : Nat) (l0 : List Int) (a1 : Int) (r1 : Int) (r2 : Int) (r3 : Int) (r4 : List (S83)) (r5 : Int) (r6 : Bool) (w : World) (hr0 : Kd.C (Kd.int .u8) w A0 l0.length l0) (hc0 : l0.length ≤ c0) (h : spec_GetMan.f k l0 a1 = some (r1, r2, r3, r4, r5, r6)) :
  Calls Try.prog 47 #[.slice A0 l0.length c0, .int .i64 a1] w fun e w' => ∃ v3_ : Value, e = .returned (.tuple #[.agg #[.int .i64 r1, .int .i64 r2, .int .i64 r3, v3_], .int .i64 r5, .bool r6]) ∧ Kd.R k83 83 w' w.heap.size (fun _ => True) v3_ r4 ∧ Below w.heap.size w w' := by
 have hu25 := Try.underlying25;have hu83 := Try.underlying83;have HR0 := aM hr0;have HC0 := aM hc0;clear hr0 hc0;have HB := aM (Below.refl w.heap.size w);have H := h;clear h;unfold spec_GetMan.f at H;replace H := bE H;obtain ⟨⟨al, bk, t150⟩, A3, H⟩ := H;dsimp only at H;replace H := bE H;obtain ⟨⟨aj, bj, t153⟩, A4, H⟩ := H;dsimp only at H;replace H := bE H;obtain ⟨⟨ak, bh, t156⟩, A5, H⟩ := H;dsimp only at H;have HC6 := aM H;clear H;go_enter Try.func47, Try.ntmps47;go_upto_region 5 with (first | ((with_reducible refine gate_dst (N := 4) rfl ?_); refine gBx 4 #[.int .i64 0, .int .i64 0, .int .i64 0, .slice none 0 0] 25 ?_; intro am hg w7 hbox hb; have ab := aM (hbox); have GW146 := gW HB hg; have GE146 := gW HB hg; replace HB := bS HB hb; clear hb hbox hg) | ((with_reducible refine gate_dst (N := 7) rfl ?_); refine gBx 7 #[.int .i64 0, .int .i64 0, .int .i64 0, .slice none 0 0] 25 ?_; intro gb147 hg w8 hbox hb; have ac := aM (hbox); have GW147 := gW HB hg; have GE147 := gW HB hg; obtain ⟨NB146_147, NB147_146⟩ := nB ab hg; replace ab := mB ab hb; replace HB := bS HB hb; clear hb hbox hg; obtain ⟨hnb9, hnc9⟩ := oB NB147_146; obtain ⟨aD, az, aE, aA⟩ := cz4 ac.out; obtain ⟨ax, ay, aG, aC⟩ := fz4 ac.out) | ((with_reducible refine gate_callee (f := 20) rfl ?_); refine gL (some 29) Try.func20 #[.slice A0 l0.length c0, .int .i64 a1] ?_; (with_reducible refine (spec_GetVar.calls k _ _ l0 a1 al bk t150 _ ?side1 ?side2 A3.out).mono ?_); (case side1 => exact Kd.C_below HR0.out TB); (case side2 => exact HC0.out); rintro e w' ⟨rfl, ⟨nd, rfl⟩⟩; refine ⟨_, rfl, ?_⟩) | ((with_reducible refine gate_callee (f := 20) rfl ?_); refine gL (some 36) Try.func20 #[.slice A0 l0.length c0, .int .i64 bk] ?_; (with_reducible refine (spec_GetVar.calls k _ _ l0 bk aj bj t153 _ ?side1 ?side2 A4.out).mono ?_); (case side1 => exact Kd.C_below HR0.out TB); (case side2 => exact HC0.out); rintro e w' ⟨rfl, ⟨nd, rfl⟩⟩; refine ⟨_, rfl, ?_⟩) | ((with_reducible refine gate_callee (f := 20) rfl ?_); refine gL (some 43) Try.func20 #[.slice A0 l0.length c0, .int .i64 bj] ?_; (with_reducible refine (spec_GetVar.calls k _ _ l0 bj ak bh t156 _ ?side1 ?side2 A5.out).mono ?_); (case side1 => exact Kd.C_below HR0.out TB); (case side2 => exact HC0.out); rintro e w' ⟨rfl, ⟨nd, rfl⟩⟩; refine ⟨_, rfl, ?_⟩))
 (try simp only [NP])
 go_cut [56] (fun v56 wc => ∃ (kq : Nat) (aH : Bool), v56 = .bool aH ∧ Aside0 (spec_GetMan.j0 kq l0 al aj ak bh aH 0 0 0 = some (r1, r2, r3, r4, r5, r6)) ∧ Aside0 (kq ≤ k) ∧ Aside0 (wc.heap[am]? = some (.cells #[.int .i64 0, .int .i64 0, .int .i64 0, (.slice none 0 0)] 25 (0, 0))) ∧ Aside0 (wc.heap[gb147]? = some (.cells #[.int .i64 0, .int .i64 0, .int .i64 0, (.slice none 0 0)] 25 (0, 0))) ∧ Aside0 (Below w.heap.size w wc))
 case first =>
  have H := HC6.out;clear HC6
  by_cases c11 : t150 = true
  ·subst c11;replace H := ifT H
   by_cases c12 : t153 = true
   ·subst c12;replace H := ifT H;have H' := aM H;clear H;go_wp2
    go_meet
    case rel => exact ⟨_, (!t156), TF, H', ⟨by first | omega | exact Nat.le_refl _⟩, ⟨(TZ ab)⟩, ⟨(blk_put (blk_put (blk_put (blk_put (cs := #[.int .i64 0, .int .i64 0, .int .i64 0, .slice none 0 0]) (TZ ac) 0 _ rfl) 1 _ rfl) 2 _ rfl) 3 _ rfl)⟩, ⟨TB⟩⟩
   ·replace c12 := Bool.eq_false_iff.mpr c12;subst c12;replace H := ifF H;have H' := aM H;clear H;go_wp2
    go_meet
    case rel => exact ⟨_, (true), TF, H', ⟨by first | omega | exact Nat.le_refl _⟩, ⟨(TZ ab)⟩, ⟨(blk_put (blk_put (blk_put (blk_put (cs := #[.int .i64 0, .int .i64 0, .int .i64 0, .slice none 0 0]) (TZ ac) 0 _ rfl) 1 _ rfl) 2 _ rfl) 3 _ rfl)⟩, ⟨TB⟩⟩
  ·replace c11 := Bool.eq_false_iff.mpr c11;subst c11;replace H := ifF H;have H' := aM H;clear H;go_wp2
   go_meet
   case rel => exact ⟨_, (true), TF, H', ⟨by first | omega | exact Nat.le_refl _⟩, ⟨(TZ ab)⟩, ⟨(blk_put (blk_put (blk_put (blk_put (cs := #[.int .i64 0, .int .i64 0, .int .i64 0, .slice none 0 0]) (TZ ac) 0 _ rfl) 1 _ rfl) 2 _ rfl) 3 _ rfl)⟩, ⟨TB⟩⟩
 case rest =>
  clear HC6;try clear c1
  try clear c2
  try clear p2
  try clear c4
  try clear c9
  try clear c11
  try clear c12
  try clear aD
  try clear az
  try clear aE
  try clear aA
  try clear ax
  try clear ay
  try clear aG
  try clear aC
  obtain ⟨kq, aH, rfl, HA, HJ5, ab, ac, HB⟩ := hcut;cases kq with
  | zero => exact absurd HA.out (by simp [spec_GetMan.j0])
  | succ kj5 =>
   have H := HA.out;clear HA;simp only [spec_GetMan.j0] at H
   by_cases c13 : aH = true
   ·subst c13;replace H := ifT H;simp only [Option.some.injEq, Prod.mk.injEq] at H;obtain ⟨rfl, rfl, rfl, rfl, rfl, rfl⟩ := H;obtain ⟨hnb14, hnc14⟩ := oB NB147_146;obtain ⟨ba, aR, a2, aY⟩ := cz4 ac.out;obtain ⟨a5, aK, aW, be⟩ := fz4 ac.out;obtain ⟨a8, a7, bc, aX⟩ := cz4 ab.out;obtain ⟨a4, aZ, aV, bb⟩ := fz4 ab.out;go_wp2
    refine bodyPost_ret (results_ctt rfl _ _ am 25 #[.int .i64 0, .int .i64 0, .int .i64 0, .slice none 0 0] (0, 0) _ rfl (blk_put (blk_put (blk_put (blk_put (cs := #[.int .i64 0, .int .i64 0, .int .i64 0, .slice none 0 0]) (TZ ab) 0 _ rfl) 1 _ rfl) 2 _ rfl) 3 _ rfl) Try.underlying25 rfl (by kernel_rfl)) rfl ?_;exact ⟨_, TE, by first | exact Kd.R_nil _ _ _ _ _ | exact Kd.N_nil _ _ _ _ _ | exact Kd.V_nil _ _ _ _ _ | exact Kd.Q_nil _ _ _ _ _ | exact Kd.S_nil _ _ _ _ _, TB⟩
   ·replace c13 := Bool.eq_false_iff.mpr c13;subst c13;replace H := ifF H;have H' := aM H;clear H;go_wp2_with (first | ((with_reducible refine gate_dst (N := 17) rfl ?_); refine gBx 17 #[.int .i64 0, .int .i64 0, .int .i64 0, .slice none 0 0] 25 ?_; intro au hg w17 hbox hb; have ad := aM (hbox); have GW157 := gW HB hg; have GE157 := gW HB hg; obtain ⟨NB146_157, NB157_146⟩ := nB ab hg; obtain ⟨NB147_157, NB157_147⟩ := nB ac hg; replace ab := mB ab hb; replace ac := mB ac hb; replace HB := bS HB hb; clear hb hbox hg; obtain ⟨hnb18, hnc18⟩ := oB NB157_146; obtain ⟨hnb19, hnc19⟩ := oB NB157_147; obtain ⟨a6, aU, aN, aT⟩ := cz4 ad.out; obtain ⟨aQ, a9, a3, bd⟩ := fz4 ad.out))
    go_loopg [15, 18] kj5 (fun kq v15 v18 w' => ∃ (ap : Int) (aq : Int) (ah : Int) (ag : Int) (af : Int) (ae : List (S83)) (ai : Value), v15 = .int .i64 ap ∧ v18 = .int .i64 aq ∧ Aside0 (spec_GetMan.l0 kq l0 al aj ak ap aq 0 0 0 al aj ak ae = some (r1, r2, r3, r4, r5, r6)) ∧ Aside0 (kq ≤ kj5) ∧ Aside0 (Kd.R k83 83 w' w.heap.size (fun _ => True) ai ae) ∧ Aside0 (w'.heap[am]? = some (.cells #[.int .i64 ah, .int .i64 ag, .int .i64 af, (.slice none 0 0)] 25 (0, 0))) ∧ Aside0 (w'.heap[gb147]? = some (.cells #[.int .i64 0, .int .i64 0, .int .i64 0, (.slice none 0 0)] 25 (0, 0))) ∧ Aside0 (w'.heap[au]? = some (.cells #[.int .i64 al, .int .i64 aj, .int .i64 ak, ai] 25 (0, 0))) ∧ Aside0 (Below w.heap.size w w'))
    case atStart => exact ⟨(bh), (0), (0), (0), (0), (([] : List (S83))), (.slice none 0 0), TF, TF, H', ⟨Nat.le_refl _⟩, ⟨by first | exact Kd.R_nil _ _ _ _ _ | exact Kd.N_nil _ _ _ _ _ | exact Kd.V_nil _ _ _ _ _ | exact Kd.Q_nil _ _ _ _ _ | exact Kd.S_nil _ _ _ _ _⟩, ⟨(TZ ab)⟩, ⟨(TZ ac)⟩, ⟨(blk_put (blk_put (blk_put (blk_put (cs := #[.int .i64 0, .int .i64 0, .int .i64 0, .slice none 0 0]) (TZ ad) 0 _ rfl) 1 _ rfl) 2 _ rfl) 3 _ rfl)⟩, ⟨TB⟩⟩
    case round =>
     clear H';try clear c1
     try clear c2
     try clear p2
     try clear c4
     try clear c9
     try clear c11
     try clear c12
     try clear c13
     try clear c14
     try clear c18
     try clear c19
     try clear c20
     try clear aD
     try clear az
     try clear aE
     try clear aA
     try clear ba
     try clear aR
     try clear a2
     try clear aY
     try clear a8
     try clear a7
     try clear bc
     try clear aX
     try clear a6
     try clear aU
     try clear aN
     try clear aT
     try clear ax
     try clear ay
     try clear aG
     try clear aC
     try clear a5
     try clear aK
     try clear aW
     try clear be
     try clear a4
     try clear aZ
     try clear aV
     try clear bb
     try clear aQ
     try clear a9
     try clear a3
     try clear bd
     try clear p2
     obtain ⟨ap, aq, ah, ag, af, ae, ai, rfl, rfl, HA, HK2, aa, ab, ac, ad, HB⟩ := hrel;cases gk with
     | zero => exact absurd HA.out (by simp [spec_GetMan.l0])
     | succ k2 =>
      have H := HA.out;clear HA;simp only [spec_GetMan.l0] at H;have bg := aM H;clear H;go_upto_region 9 with (fail)
      go_cut [70] (fun v70 wc => ∃ (kq : Nat) (av : Bool), v70 = .bool av ∧ Aside0 (spec_GetMan.j2 kq l0 al aj ak ap aq av 0 0 0 al aj ak ae = some (r1, r2, r3, r4, r5, r6)) ∧ Aside0 (kq ≤ k2) ∧ Aside0 (Kd.R k83 83 wc w.heap.size (fun _ => True) ai ae) ∧ Aside0 (wc.heap[am]? = some (.cells #[.int .i64 ah, .int .i64 ag, .int .i64 af, (.slice none 0 0)] 25 (0, 0))) ∧ Aside0 (wc.heap[gb147]? = some (.cells #[.int .i64 0, .int .i64 0, .int .i64 0, (.slice none 0 0)] 25 (0, 0))) ∧ Aside0 (wc.heap[au]? = some (.cells #[.int .i64 al, .int .i64 aj, .int .i64 ak, ai] 25 (0, 0))) ∧ Aside0 (Below w.heap.size w wc))
      case first =>
       have H := bg.out;clear bg;replace H := bE H;obtain ⟨aJ, A22, H⟩ := H
       by_cases c23 : aq < aJ
       ·rw [if_pos c23] at H;have ar : decide (aq < aJ) = true := decide_eq_true c23;clear c23;(first | rw [ar] | (simp only [i64_w, i32_w]; rw [ar]) | skip);have H' := aM H;clear H;go_wp2_with (first | ((with_reducible refine gate_callee (f := 81) rfl ?_); refine gL (some 65) Try.func81 #[.int .i64 aj, .int .i64 ak] ?_; (with_reducible refine (spec_Blocks.calls aj ak aJ _ A22.out).mono ?_); rintro e w' ⟨rfl, ⟨nd, rfl⟩⟩; refine ⟨_, rfl, ?_⟩))
        go_meet
        case rel => exact ⟨_, (decide (al > 0)), TF, H', ⟨by have := HJ5.out; have := HK2.out; first | omega | exact Nat.le_refl _⟩, ⟨by have X_ := aa.out; exact TR⟩, ⟨TK⟩, ⟨TK⟩, ⟨TK⟩, ⟨TB⟩⟩
       ·rw [if_neg c23] at H;have ar : decide (aq < aJ) = false := decide_eq_false c23;clear c23;(first | rw [ar] | (simp only [i64_w, i32_w]; rw [ar]) | skip);have H' := aM H;clear H;go_wp2_with (first | ((with_reducible refine gate_callee (f := 81) rfl ?_); refine gL (some 65) Try.func81 #[.int .i64 aj, .int .i64 ak] ?_; (with_reducible refine (spec_Blocks.calls aj ak aJ _ A22.out).mono ?_); rintro e w' ⟨rfl, ⟨nd, rfl⟩⟩; refine ⟨_, rfl, ?_⟩))
        go_meet
        case rel => exact ⟨_, (false), TF, H', ⟨by have := HJ5.out; have := HK2.out; first | omega | exact Nat.le_refl _⟩, ⟨by have X_ := aa.out; exact TR⟩, ⟨TK⟩, ⟨TK⟩, ⟨TK⟩, ⟨TB⟩⟩
      case rest =>
       clear bg;try clear c1
       try clear c2
       try clear p2
       try clear c4
       try clear c8
       try clear c9
       try clear c11
       try clear c12
       try clear c13
       try clear c14
       try clear c18
       try clear c19
       try clear c20
       try clear c23
       try clear ar
       try clear aD
       try clear az
       try clear aE
       try clear aA
       try clear ba
       try clear aR
       try clear a2
       try clear aY
       try clear a8
       try clear a7
       try clear bc
       try clear aX
       try clear a6
       try clear aU
       try clear aN
       try clear aT
       try clear ax
       try clear ay
       try clear aG
       try clear aC
       try clear a5
       try clear aK
       try clear aW
       try clear be
       try clear a4
       try clear aZ
       try clear aV
       try clear bb
       try clear aQ
       try clear a9
       try clear a3
       try clear bd
       try clear p2
       obtain ⟨kq, av, rfl, HA, HJ20, aa, ab, ac, ad, HB⟩ := hcut;cases kq with
       | zero => exact absurd HA.out (by simp [spec_GetMan.j2])
       | succ kj20 =>
        have H := HA.out;clear HA;simp only [spec_GetMan.j2] at H
        by_cases c24 : av = true
        ·subst c24;replace H := ifT H;replace H := bE H;obtain ⟨⟨ao, bi, t162⟩, A25, H⟩ := H;dsimp only at H
         by_cases c26 : t162 = true
         ·subst c26;replace H := ifT H;replace H := bE H;obtain ⟨⟨aI, t164⟩, A27, H⟩ := H;dsimp only at H;replace H := bE H;obtain ⟨⟨an, aw⟩, A28, H⟩ := H;dsimp only at H;replace H := ifN H;obtain ⟨c29, H⟩ := H;have LMc29 := aM c29;clear c29;obtain ⟨y170, bf⟩ : ∃ y_ : List (S83), y_ = (ae ++ [(⟨an, ao⟩ : S83)]) := ⟨_, rfl⟩;rw [← bf] at H;have Ny170 := aM bf;clear bf;have H' := aM H;clear H;go_wp2_with (first | ((with_reducible refine gate_callee (f := 82) rfl ?_); refine gL (some 76) Try.func82 #[.slice A0 l0.length c0, .int .i64 ap] ?_; (with_reducible refine (spec_l6GetSum.calls kj20 _ _ l0 ap ao bi true _ ?side1 ?side2 A25.out).mono ?_); (case side1 => have X_ := (Kd.C_below HR0.out HB.out); exact TC); (case side2 => exact HC0.out); rintro e w' ⟨rfl, ⟨nd, rfl⟩⟩; refine ⟨_, rfl, ?_⟩; (try (rw [drewN_self wc]; generalize hq_ : World.drewN wc _ = wc; have n0_ : Aside0 (Kd.R k83 83 wc w.heap.size (fun _ => True) ai ae) := ⟨by rw [← hq_]; exact (TRf aa)⟩; have n1_ : Aside0 (wc.heap[am]? = some (.cells #[.int .i64 ah, .int .i64 ag, .int .i64 af, .slice none 0 0] 25 (0, 0))) := ⟨by rw [← hq_]; exact TK⟩; have n2_ : Aside0 (wc.heap[gb147]? = some (.cells #[.int .i64 0, .int .i64 0, .int .i64 0, .slice none 0 0] 25 (0, 0))) := ⟨by rw [← hq_]; exact TK⟩; have n3_ : Aside0 (wc.heap[au]? = some (.cells #[.int .i64 al, .int .i64 aj, .int .i64 ak, ai] 25 (0, 0))) := ⟨by rw [← hq_]; exact TK⟩; have n4_ : Aside0 (Below w.heap.size w wc) := ⟨by rw [← hq_]; exact TB⟩; clear aa ab ac ad HB hq_; have aa := n0_; have ab := n1_; have ac := n2_; have ad := n3_; have HB := n4_; clear n0_ n1_ n2_ n3_ n4_))) | ((with_reducible refine gate_callee (f := 83) rfl ?_); refine gL (some 85) Try.func83 #[.int .i64 ao] ?_; (with_reducible refine (spec_BytesOf.calls kj20 ao aI t164 _ A27.out).mono ?_); rintro e w30 ⟨v165, rfl, ho0, hb⟩; refine ⟨_, rfl, ?_⟩; have HO166 := aM (Kd.R_lower ho0 (below_size TB)); replace aa := mR aa hb; replace ab := mB ab hb; replace ac := mB ac hb; replace ad := mB ad hb; replace HB := bS HB hb; clear ho0 hb; obtain ⟨Ao31, co31, eo31⟩ := Kd.R_slice HO166.out; subst eo31) | ((with_reducible refine gate_callee (f := 84) rfl ?_); refine gL (some 89) Try.func84 #[.slice Ao31 aI.length co31] ?_; (with_reducible refine (spec_SumOf.calls kj20 _ _ aI an aw _ ?side1 ?side2 A28.out).mono ?_); (case side1 => have X_ := (Kd.R_reads' HO166.out).2.2; exact TC); (case side2 => exact (Kd.R_reads' HO166.out).2.1); rintro e w32 ⟨rfl, hb⟩; refine ⟨_, rfl, ?_⟩; replace aa := mR aa hb; replace HO166 := mR HO166 hb; replace ab := mB ab hb; replace ac := mB ac hb; replace ad := mB ad hb; replace HB := bS HB hb; clear hb) | ((with_reducible refine gate_dst (N := 24) rfl ?_); refine gBx 24 #[.int .i64 0, .int .i64 0] 83 ?_; intro gb169 hg w33 hbox hb; have BK169 := aM (hbox); have GW169 := gW HB hg; have GE169 := gW HB hg; obtain ⟨NB146_169, NB169_146⟩ := nB ab hg; obtain ⟨NB147_169, NB169_147⟩ := nB ac hg; obtain ⟨NB157_169, NB169_157⟩ := nB ad hg; replace aa := aM (Kd.R_below (Kd.R_elderB (TRf aa) gb169 (Nat.le_of_eq hg.symm)) hb); replace HO166 := mR HO166 hb; replace ab := mB ab hb; replace ac := mB ac hb; replace ad := mB ad hb; replace HB := bS HB hb; clear hb hbox hg; obtain ⟨hnb34, hnc34⟩ := oB NB169_146; obtain ⟨hnb35, hnc35⟩ := oB NB169_147; obtain ⟨hnb36, hnc36⟩ := oB NB169_157; obtain ⟨hcz37_0, hcz37_1⟩ := cz2 BK169.out; obtain ⟨hfz37_0, hfz37_1⟩ := fz2 BK169.out) | ((with_reducible refine gate_store (t := 83) (p := 24) rfl ?_); refine store_event (t := 83) (p := 24) (v := ?vo_w38) (w1 := ((w33.setCell ⟨gb169, 0, none⟩ (.int .i64 an)).setCell ⟨gb169, 1, none⟩ (.int .i64 aw))) ?hg ?ho ?hn ?hr ?_; (case ho => rfl); (case hg => rfl); (case hn => rfl); (case hr => first | (go_simp; done) | (go_simp; rfl)); intro w38 hw; have n0_ : Aside0 (Kd.R k83 83 w38 w.heap.size (fun k_ => k_ ≠ gb169) ai ae) := ⟨(by rw [hw]; exact (by (with_reducible repeat (first | apply Kd.R_alloc | apply Kd.R_drewN | apply Kd.R_drew)); exact Kd.R_mono (Kd.R_far (p := ⟨gb169, 1, none⟩) (Kd.R_far (p := ⟨gb169, 0, none⟩) (Kd.R_mono aa.out (fun k_ hk => (⟨hk, hk.2⟩ : _ ∧ k_ ≠ gb169))) (fun _ hk => hk.2) (.int .i64 an)) (fun _ hk => hk.2) (.int .i64 aw)) (fun _ hk => hk.1.2)))⟩; have n1_ : Aside0 (Kd.R (Kd.int .u8) 5 w38 w.heap.size (fun _ => True) (.slice Ao31 aI.length co31) aI) := ⟨(by rw [hw]; exact (by (with_reducible repeat (first | apply Kd.R_alloc | apply Kd.R_drewN | apply Kd.R_drew)); exact Kd.R_mono (RK1 (Kd.R_types HO166.out BK169.out (by decide))) (fun _ hk => trivial)))⟩; have n2_ : Aside0 (w38.heap[am]? = some (.cells #[.int .i64 ah, .int .i64 ag, .int .i64 af, .slice none 0 0] 25 (0, 0))) := ⟨(by rw [hw]; exact (TZ ab))⟩; have n3_ : Aside0 (w38.heap[gb147]? = some (.cells #[.int .i64 0, .int .i64 0, .int .i64 0, .slice none 0 0] 25 (0, 0))) := ⟨(by rw [hw]; exact (TZ ac))⟩; have n4_ : Aside0 (w38.heap[au]? = some (.cells #[.int .i64 al, .int .i64 aj, .int .i64 ak, ai] 25 (0, 0))) := ⟨(by rw [hw]; exact (TZ ad))⟩; have n5_ : Aside0 (w38.heap[gb169]? = some (.cells #[.int .i64 an, .int .i64 aw] 83 (0, 0))) := ⟨(by rw [hw]; exact (blk_put (blk_put (cs := #[.int .i64 0, .int .i64 0]) (TZ BK169) 0 _ rfl) 1 _ rfl))⟩; have n6_ : Aside0 (Below w.heap.size w w38) := ⟨(by rw [hw]; exact TB)⟩; clear hw; clear aa; clear HO166; clear ab; clear ac; clear ad; clear BK169; clear HB; have aa := n0_; have HO166 := n1_; have ab := n2_; have ac := n3_; have ad := n4_; have BK169 := n5_; have HB := n6_; clear n0_ n1_ n2_ n3_ n4_ n5_ n6_; obtain ⟨hcz39_0, hcz39_1⟩ := cz2 BK169.out; obtain ⟨hfz39_0, hfz39_1⟩ := fz2 BK169.out; obtain ⟨hnb40, hnc40⟩ := oB NB157_146; obtain ⟨hnb41, hnc41⟩ := oB NB157_147; obtain ⟨hcz42_0, hcz42_1, hcz42_2, hcz42_3⟩ := cz4 ad.out; obtain ⟨hfz42_0, hfz42_1, hfz42_2, hfz42_3⟩ := fz4 ad.out) | ((with_reducible refine gate_builtin (b := .append) (xs := #[.tmp 93, .tmp 95]) rfl ?_); at_builtin; refine Kd.R_append k83 (w0 := w) w.heap.size rfl (.tmp 93) (.tmp 95) 23 83 (.agg #[(.int .i64 0), (.int .i64 0)]) 16 rfl Try.underlying23 info83 rfl (by decide) (by omega) ai ae (⟨an, ao⟩ : S83) [.int .i64 an, .int .i64 ao] (fun k_ => k_ ≠ gb169) (fun _ => False) rfl (by first | (go_simp; done) | (go_simp; rfl)) ?aP (fun _ hk => hk.elim) ?aF ?aO ?aB ?aS ?aL ?_; (case aP => exact k83_mkM _ _ _ (⟨an, ao⟩ : S83)); (case aB => exact TB); (case aF => exact (fun k_ hk => Kd.freshB (g := gb169) (o := .cells #[.int .i64 an, .int .i64 ao] 83 (0, 0)) (blk_put (cs := #[.int .i64 an, .int .i64 aw]) (TZ BK169) 1 _ rfl) k_ hk)); (case aO => exact (by (with_reducible repeat (first | apply Kd.R_alloc | apply Kd.R_drewN | apply Kd.R_drew)); exact Kd.R_mono (Kd.R_far (p := ⟨gb169, 1, none⟩) (Kd.R_mono aa.out (fun k_ hk => (⟨hk, hk⟩ : _ ∧ k_ ≠ gb169))) (fun _ hk => hk.2) (.int .i64 ao)) (fun _ hk => hk.1))); (case aS => exact (below_size TB)); (case aL => have := LMc29.out; omega); intro v171 w43 ho hb hg hat; rw [← Ny170.out] at ho; have HO172 := aM (ho); replace ab := aM (blk_grown (g := am) (o := .cells #[.int .i64 ah, .int .i64 ag, .int .i64 af, .slice none 0 0] 25 (0, 0)) (TZ ab) hg (Kd.R_ne aa.out ab.out (by decide))); replace ac := aM (blk_grown (g := gb147) (o := .cells #[.int .i64 0, .int .i64 0, .int .i64 0, .slice none 0 0] 25 (0, 0)) (TZ ac) hg (Kd.R_ne aa.out ac.out (by decide))); replace ad := aM (blk_grown (g := au) (o := .cells #[.int .i64 al, .int .i64 aj, .int .i64 ak, ai] 25 (0, 0)) (TZ ad) hg (Kd.R_ne aa.out ad.out (by decide))); replace HO166 := aM (Kd.R_over' (TY HO166 BK169) (Kd.R_typed (by (with_reducible repeat (first | apply Kd.R_alloc | apply Kd.R_drewN | apply Kd.R_drew)); exact (R_off (Kd.R_mono aa.out (fun k_ hk => (⟨hk, hk⟩ : _ ∧ k_ ≠ gb169))) TO))) (by decide) hg); replace BK169 := aM (blk_grown (g := gb169) (o := .cells #[.int .i64 an, .int .i64 ao] 83 (0, 0)) (blk_put (cs := #[.int .i64 an, .int .i64 aw]) (TZ BK169) 1 _ rfl) hg (Kd.R_away aa.out (fun _ hk => hk))); replace HB := aM (hb); clear aa; clear ho hb hg hat; obtain ⟨Ao44, co44, eo44⟩ := Kd.R_slice HO172.out; subst eo44; obtain ⟨hcz45_0, hcz45_1, hcz45_2, hcz45_3⟩ := cz4 ad.out; obtain ⟨hfz45_0, hfz45_1, hfz45_2, hfz45_3⟩ := fz4 ad.out))
          go_roundg kj20
          case measure => have := HJ5.out; have := HK2.out; have := HJ20.out; omega
          case rel => exact ⟨(bi), (wrap64 (aq + 1)), (ah), (ag), (af), (y170), (.slice Ao44 y170.length co44), TF, TF, H', ⟨by have := HJ5.out; have := HK2.out; have := HJ20.out; omega⟩, ⟨by (with_reducible repeat (first | apply Kd.R_alloc | apply Kd.R_drewN | apply Kd.R_drew)); exact Kd.R_mono (RK1 (Kd.R_types HO172.out ad.out (by decide))) (fun _ hk => trivial)⟩, ⟨(TZ ab)⟩, ⟨(TZ ac)⟩, ⟨(blk_put (cs := #[.int .i64 al, .int .i64 aj, .int .i64 ak, ai]) (TZ ad) 3 _ rfl)⟩, ⟨TB⟩⟩
         ·replace c26 := Bool.eq_false_iff.mpr c26;subst c26;replace H := ifF H;simp only [Option.some.injEq, Prod.mk.injEq] at H;obtain ⟨rfl, rfl, rfl, rfl, rfl, rfl⟩ := H;go_wp2_with (first | ((with_reducible refine gate_callee (f := 82) rfl ?_); refine gL (some 76) Try.func82 #[.slice A0 l0.length c0, .int .i64 ap] ?_; (with_reducible refine (spec_l6GetSum.calls kj20 _ _ l0 ap ao bi false _ ?side1 ?side2 A25.out).mono ?_); (case side1 => have X_ := (Kd.C_below HR0.out HB.out); exact TC); (case side2 => exact HC0.out); rintro e w' ⟨rfl, ⟨nd, rfl⟩⟩; refine ⟨_, rfl, ?_⟩; (try (rw [drewN_self wc]; generalize hq_ : World.drewN wc _ = wc; have n0_ : Aside0 (Kd.R k83 83 wc w.heap.size (fun _ => True) ai ae) := ⟨by rw [← hq_]; exact (TRf aa)⟩; have n1_ : Aside0 (wc.heap[am]? = some (.cells #[.int .i64 ah, .int .i64 ag, .int .i64 af, .slice none 0 0] 25 (0, 0))) := ⟨by rw [← hq_]; exact TK⟩; have n2_ : Aside0 (wc.heap[gb147]? = some (.cells #[.int .i64 0, .int .i64 0, .int .i64 0, .slice none 0 0] 25 (0, 0))) := ⟨by rw [← hq_]; exact TK⟩; have n3_ : Aside0 (wc.heap[au]? = some (.cells #[.int .i64 al, .int .i64 aj, .int .i64 ak, ai] 25 (0, 0))) := ⟨by rw [← hq_]; exact TK⟩; have n4_ : Aside0 (Below w.heap.size w wc) := ⟨by rw [← hq_]; exact TB⟩; clear aa ab ac ad HB hq_; have aa := n0_; have ab := n1_; have ac := n2_; have ad := n3_; have HB := n4_; clear n0_ n1_ n2_ n3_ n4_)); obtain ⟨hnb46, hnc46⟩ := oB NB147_146; obtain ⟨hnb47, hnc47⟩ := oB NB147_157; obtain ⟨hcz48_0, hcz48_1, hcz48_2, hcz48_3⟩ := cz4 ac.out; obtain ⟨hfz48_0, hfz48_1, hfz48_2, hfz48_3⟩ := fz4 ac.out; obtain ⟨hnb49, hnc49⟩ := oB NB146_157; obtain ⟨hcz50_0, hcz50_1, hcz50_2, hcz50_3⟩ := cz4 ab.out; obtain ⟨hfz50_0, hfz50_1, hfz50_2, hfz50_3⟩ := fz4 ab.out))
          refine bodyPost_ret (results_ctt rfl _ _ am 25 #[.int .i64 0, .int .i64 0, .int .i64 0, .slice none 0 0] (0, 0) _ rfl (blk_put (blk_put (blk_put (blk_put (cs := #[.int .i64 ah, .int .i64 ag, .int .i64 af, .slice none 0 0]) (TZ ab) 0 _ rfl) 1 _ rfl) 2 _ rfl) 3 _ rfl) Try.underlying25 rfl (by kernel_rfl)) rfl ?_;exact ⟨_, TE, by first | exact Kd.R_nil _ _ _ _ _ | exact Kd.N_nil _ _ _ _ _ | exact Kd.V_nil _ _ _ _ _ | exact Kd.Q_nil _ _ _ _ _ | exact Kd.S_nil _ _ _ _ _, TB⟩
        ·replace c24 := Bool.eq_false_iff.mpr c24;subst c24;replace H := ifF H;replace H := bE H;obtain ⟨t159, A51, H⟩ := H
         by_cases c52 : t159 = true
         ·subst c52;replace H := ifT H;simp only [Option.some.injEq, Prod.mk.injEq] at H;obtain ⟨rfl, rfl, rfl, rfl, rfl, rfl⟩ := H;obtain ⟨hnb53, hnc53⟩ := oB NB157_146;obtain ⟨hnb54, hnc54⟩ := oB NB157_147;obtain ⟨hcz55_0, hcz55_1, hcz55_2, hcz55_3⟩ := cz4 ad.out;obtain ⟨hfz55_0, hfz55_1, hfz55_2, hfz55_3⟩ := fz4 ad.out;obtain ⟨Ao56, co56, eo56⟩ := Kd.R_slice aa.out;subst eo56;go_wp2_with (first | ((with_reducible refine gate_callee (f := 50) rfl ?_); refine gL (some 100) Try.func50 #[.agg #[.int .i64 al, .int .i64 aj, .int .i64 ak, .slice Ao56 ae.length co56]] ?_; (with_reducible refine (spec_ManOk.calls kj20 al aj ak _ _ ae true _ ?side1 ?side2 A51.out).mono ?_); (case side1 => have X_ := (Kd.R_reads' aa.out).2.2; exact TC); (case side2 => exact (Kd.R_reads' aa.out).2.1); rintro e w57 ⟨rfl, hb⟩; refine ⟨_, rfl, ?_⟩; replace aa := mR aa hb; replace ab := mB ab hb; replace ac := mB ac hb; replace ad := mB ad hb; replace HB := bS HB hb; clear hb; obtain ⟨hcz58_0, hcz58_1, hcz58_2, hcz58_3⟩ := cz4 ad.out; obtain ⟨hfz58_0, hfz58_1, hfz58_2, hfz58_3⟩ := fz4 ad.out; obtain ⟨hnb59, hnc59⟩ := oB NB146_147; obtain ⟨hcz60_0, hcz60_1, hcz60_2, hcz60_3⟩ := cz4 ab.out; obtain ⟨hfz60_0, hfz60_1, hfz60_2, hfz60_3⟩ := fz4 ab.out))
          refine bodyPost_ret (results_ctt rfl _ _ am 25 #[.int .i64 al, .int .i64 aj, .int .i64 ak, .slice Ao56 ae.length co56] (0, 0) _ rfl (blk_put (blk_put (blk_put (blk_put (cs := #[.int .i64 ah, .int .i64 ag, .int .i64 af, .slice none 0 0]) (TZ ab) 0 _ rfl) 1 _ rfl) 2 _ rfl) 3 _ rfl) Try.underlying25 rfl (by kernel_rfl)) rfl ?_;exact ⟨_, TE, by (with_reducible repeat (first | apply Kd.R_alloc | apply Kd.R_drewN | apply Kd.R_drew)); exact Kd.R_mono (RK1 (Kd.R_types aa.out ab.out (by decide))) (fun _ hk => trivial), TB⟩
         ·replace c52 := Bool.eq_false_iff.mpr c52;subst c52;replace H := ifF H;simp only [Option.some.injEq, Prod.mk.injEq] at H;obtain ⟨rfl, rfl, rfl, rfl, rfl, rfl⟩ := H;obtain ⟨hnb61, hnc61⟩ := oB NB157_146;obtain ⟨hnb62, hnc62⟩ := oB NB157_147;obtain ⟨hcz63_0, hcz63_1, hcz63_2, hcz63_3⟩ := cz4 ad.out;obtain ⟨hfz63_0, hfz63_1, hfz63_2, hfz63_3⟩ := fz4 ad.out;obtain ⟨Ao64, co64, eo64⟩ := Kd.R_slice aa.out;subst eo64;go_wp2_with (first | ((with_reducible refine gate_callee (f := 50) rfl ?_); refine gL (some 100) Try.func50 #[.agg #[.int .i64 al, .int .i64 aj, .int .i64 ak, .slice Ao64 ae.length co64]] ?_; (with_reducible refine (spec_ManOk.calls kj20 al aj ak _ _ ae false _ ?side1 ?side2 A51.out).mono ?_); (case side1 => have X_ := (Kd.R_reads' aa.out).2.2; exact TC); (case side2 => exact (Kd.R_reads' aa.out).2.1); rintro e w65 ⟨rfl, hb⟩; refine ⟨_, rfl, ?_⟩; replace aa := mR aa hb; replace ab := mB ab hb; replace ac := mB ac hb; replace ad := mB ad hb; replace HB := bS HB hb; clear hb; obtain ⟨hnb66, hnc66⟩ := oB NB147_146; obtain ⟨hcz67_0, hcz67_1, hcz67_2, hcz67_3⟩ := cz4 ac.out; obtain ⟨hfz67_0, hfz67_1, hfz67_2, hfz67_3⟩ := fz4 ac.out; obtain ⟨hcz68_0, hcz68_1, hcz68_2, hcz68_3⟩ := cz4 ab.out; obtain ⟨hfz68_0, hfz68_1, hfz68_2, hfz68_3⟩ := fz4 ab.out))
          refine bodyPost_ret (results_ctt rfl _ _ am 25 #[.int .i64 0, .int .i64 0, .int .i64 0, .slice none 0 0] (0, 0) _ rfl (blk_put (blk_put (blk_put (blk_put (cs := #[.int .i64 ah, .int .i64 ag, .int .i64 af, .slice none 0 0]) (TZ ab) 0 _ rfl) 1 _ rfl) 2 _ rfl) 3 _ rfl) Try.underlying25 rfl (by kernel_rfl)) rfl ?_;exact ⟨_, TE, by first | exact Kd.R_nil _ _ _ _ _ | exact Kd.N_nil _ _ _ _ _ | exact Kd.V_nil _ _ _ _ _ | exact Kd.Q_nil _ _ _ _ _ | exact Kd.S_nil _ _ _ _ _, TB⟩

end Go.Proofs.Ytanpaipapcjpoaa.Q
