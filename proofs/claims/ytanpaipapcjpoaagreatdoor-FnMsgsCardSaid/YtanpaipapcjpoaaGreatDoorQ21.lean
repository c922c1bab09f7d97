/- Functions of the program as plain Lean functions, and that a call of each comes to what its function tells. Written by a program of this seat. -/
import Derived.Test.YtanpaipapcjpoaaGreatDoorQ0
import Derived.Test.YtanpaipapcjpoaaGreatDoorQ4
import Derived.Test.YtanpaipapcjpoaaGreatDoorQ18
import Derived.Test.YtanpaipapcjpoaaGreatDoorQ20
set_option maxHeartbeats 40000000
set_option maxRecDepth 100000
namespace Go.Proofs.YtanpaipapcjpoaaGreatDoor.Q
open Go.RowKit Go.Proofs.YtanpaipapcjpoaaGreatDoorW.PrintWords Go.Proofs.YtanpaipapcjpoaaGreatDoorW.PrintLast Go.Proofs.YtanpaipapcjpoaaGreatDoorW.PrintMore
attribute [local go_sem] min2_int min_two
set_option linter.unusedVariables false
set_option linter.unusedSimpArgs false
def spec_SetOk.f (a0 : Int) : Option (Bool) := (spec_l1In.f a0 0 1099511627775).bind fun t686 => (some t686)
theorem spec_SetOk.calls {a0 : Int} {r : Bool} {w : World} (h : spec_SetOk.f a0 = some r) :
    Calls Tryz.prog 52 #[.int .i64 a0] w fun e w' => e = .returned (.bool r) ∧ Drawn0 w w' := by
  have H := h
  clear h
  unfold spec_SetOk.f at H
  replace H := bE H
  obtain ⟨t686, A2, H⟩ := H
  obtain rfl := oI H
  go_enter Tryz.func52, Tryz.ntmps52
  go_wp2_with (first | ((with_reducible refine gate_callee (f := 51) rfl ?_); refine gL (some 4) Tryz.func51 #[.int .i64 a0, .int .i64 0, .int .i64 1099511627775] ?_; (with_reducible refine (spec_l1In.calls A2.out).mono ?_); rintro e w' ⟨rfl, ⟨nd, rfl⟩⟩; refine ⟨_, rfl, ?_⟩))
  go_ret
  exact ⟨by first | rfl | (simp; done) | (simp [*]; done), TD⟩
def spec_MsgOk.j0 : Nat → Bool → Bool → Int → Int → Int → Int → Int → List (S75) → Int → Int → Int → List Int → Option (Bool)
  | 0, _, _, _, _, _, _, _, _, _, _, _, _ => none
  | k + 1, x3, x4, x688000, x688001, x688002, x688003, x688004, x688005, x688006, x688007, x688008, x688009 => if x688000 = 1 then (if x688001 = 0 then (if x688002 = 0 then (some false) else ((spec_ManOk.f k x688002 x688003 x688004 x688005).bind fun t689 => (if t689 = true then (some x4) else (some false)))) else (some false)) else (if x688000 = 2 then ((spec_l1In.f x688001 0 1000000).bind fun t690 => (if t690 = true then (if x3 = true then ((spec_SetOk.f x688006).bind fun t691 => (if t691 = true then ((spec_SetOk.f x688007).bind fun t692 => (if t692 = true then (if x688008 = 0 then (some ((x688009.length : Int) == 0)) else (some false)) else (some false))) else (some false))) else (some false)) else (some false))) else (if x688000 = 3 then ((spec_l1In.f x688001 1 1000000).bind fun t693 => (if t693 = true then (if x3 = true then (if x688006 = 0 then (if x688007 = 0 then ((spec_l1In.f x688008 0 39).bind fun t694 => (if t694 = true then ((spec_l1In.f (x688009.length : Int) 1 6).bind fun t695 => (some t695)) else (some false))) else (some false)) else (some false)) else (some false)) else (some false))) else (if x688000 = 4 then ((spec_l1In.f x688001 0 1000000).bind fun t696 => (if t696 = true then (if x3 = true then (some x4) else (some false)) else (some false))) else (some false))))
def spec_MsgOk.f (k : Nat) (a0_0 : Int) (a0_1 : Int) (a0_2 : Int) (a0_3 : Int) (a0_4 : Int) (l0_5 : List (S75)) (a0_6 : Int) (a0_7 : Int) (a0_8 : Int) (l0_9 : List Int) : Option (Bool) := (spec_SameMan.f k a0_2 a0_3 a0_4 l0_5 0 0 0 ([] : List (S75))).bind fun t688 => (if a0_6 = 0 then (if a0_7 = 0 then (if a0_8 = 0 then (spec_MsgOk.j0 k t688 ((l0_9.length : Int) == 0) a0_0 a0_1 a0_2 a0_3 a0_4 l0_5 a0_6 a0_7 a0_8 l0_9) else (spec_MsgOk.j0 k t688 false a0_0 a0_1 a0_2 a0_3 a0_4 l0_5 a0_6 a0_7 a0_8 l0_9)) else (spec_MsgOk.j0 k t688 false a0_0 a0_1 a0_2 a0_3 a0_4 l0_5 a0_6 a0_7 a0_8 l0_9)) else (spec_MsgOk.j0 k t688 false a0_0 a0_1 a0_2 a0_3 a0_4 l0_5 a0_6 a0_7 a0_8 l0_9))
theorem spec_MsgOk.mono_l : ∀ k, (∀ y0 y1 y2 y3 y4 y5 y6 y7 y8 y9 y10 y11, LeO (spec_MsgOk.j0 k y0 y1 y2 y3 y4 y5 y6 y7 y8 y9 y10 y11) (spec_MsgOk.j0 (k + 1) y0 y1 y2 y3 y4 y5 y6 y7 y8 y9 y10 y11))
  | 0 => fun _ _ _ _ _ _ _ _ _ _ _ _ r h => by simp [spec_MsgOk.j0] at h
  | k + 1 => by
    have m0_ := @spec_ManOk.mono
    have m1_ := @spec_SameMan.mono
    have ih0 := spec_MsgOk.mono_l k
    · intro y0 y1 y2 y3 y4 y5 y6 y7 y8 y9 y10 y11
      unfold spec_MsgOk.j0
      exact LM
theorem spec_MsgOk.mono : ∀ a0 a1 a2 a3 a4 a5 a6 a7 a8 a9 k, LeO (spec_MsgOk.f k a0 a1 a2 a3 a4 a5 a6 a7 a8 a9) (spec_MsgOk.f (k + 1) a0 a1 a2 a3 a4 a5 a6 a7 a8 a9) := by
  intro a0 a1 a2 a3 a4 a5 a6 a7 a8 a9 k;have m0_ := @spec_ManOk.mono;have m1_ := @spec_SameMan.mono;have ih0 := spec_MsgOk.mono_l k;unfold spec_MsgOk.f;exact LM
theorem Yq21_3 {p : Prop} (h : p := by
 obtain rfl := oI H;obtain ⟨ap, ax, aj, ak, aw, ad, au, aq, ay, ae⟩ := cz10 aa.out;obtain ⟨ar, ah, al, af, ao, am, an, ag, ai, av⟩ := fz10 aa.out;go_wp2
 go_ret
 exact ⟨TE, TB⟩) : p := h
theorem Yq21_2 {p : Prop} (h : p := by
 have H' := aM H;clear H;obtain ⟨ba, aS, aX, be, aU, bb, bf, aT, bk, bc⟩ := cz10 aa.out;obtain ⟨bi, bd, bj, bg, aY, aZ, bh, aV, aW, bl⟩ := fz10 aa.out;go_wp2
 go_meet
 case rel => exact ⟨_, (false), TF, H', ⟨by first | omega | exact Nat.le_refl _⟩, ⟨TK⟩, ⟨TB⟩⟩) : p := h
theorem Yq21_1 {p : Prop} (h : p := by
 obtain rfl := oI H;obtain ⟨ap, ax, aj, ak, aw, ad, au, aq, ay, ae⟩ := cz10 aa.out;obtain ⟨ar, ah, al, af, ao, am, an, ag, ai, av⟩ := fz10 aa.out;go_wp2_with (first | ((with_reducible refine gate_callee (f := 51) rfl ?_); refine gL (some 53) Tryz.func51 #[.int .i64 ab, .int .i64 0, .int .i64 1000000] ?_; (with_reducible refine (spec_l1In.calls Aq1.out).mono ?_); rintro e w' ⟨rfl, ⟨nd, rfl⟩⟩; refine ⟨_, rfl, ?_⟩) | (go_at_call 52; (with_reducible refine (spec_SetOk.calls Aq2.out).mono ?_); rintro e w' ⟨rfl, ⟨nd, rfl⟩⟩) | (go_at_call 52; (with_reducible refine (spec_SetOk.calls Aq3.out).mono ?_); rintro e w' ⟨rfl, ⟨nd, rfl⟩⟩))
 go_ret
 exact ⟨TE, TB⟩) : p := h
theorem Yq21_0 {p : Prop} (h : p := by
 obtain rfl := oI H;obtain ⟨ap, ax, aj, ak, aw, ad, au, aq, ay, ae⟩ := cz10 aa.out;obtain ⟨ar, ah, al, af, ao, am, an, ag, ai, av⟩ := fz10 aa.out;go_wp2_with (first | ((with_reducible refine gate_callee (f := 51) rfl ?_); refine gL (some 82) Tryz.func51 #[.int .i64 ab, .int .i64 1, .int .i64 1000000] ?_; (with_reducible refine (spec_l1In.calls Aq1.out).mono ?_); rintro e w' ⟨rfl, ⟨nd, rfl⟩⟩; refine ⟨_, rfl, ?_⟩))
 go_ret
 exact ⟨TE, TB⟩) : p := h
theorem spec_MsgOk.calls {k : Nat} {ac : Int} {ab : Int} {aG : Int} {aL : Int} {aK : Int} {bo : Option Addr} {bp : Nat} {aH : List (S75)} {aB : Int} {aC : Int} {aD : Int} {br : Option Addr} {bq : Nat} {aJ : List Int} {r : Bool} {w : World} (bC : Kd.C k75 w bo aH.length aH) (bB : aH.length ≤ bp) (bA : Kd.C (Kd.int .u8) w br aJ.length aJ) (bz : aJ.length ≤ bq) (h : spec_MsgOk.f k ac ab aG aL aK aH aB aC aD aJ = some r) :
  Calls Tryz.prog 15 #[.agg #[.int .i64 ac, .int .i64 ab, .int .i64 aG, .int .i64 aL, .int .i64 aK, .slice bo aH.length bp, .int .i64 aB, .int .i64 aC, .int .i64 aD, .slice br aJ.length bq]] w fun e w' => e = .returned (.bool r) ∧ Below w.heap.size w w' := by
 have huq1 := Tryz.underlying28;have huq2 := Tryz.underlying26;have bu := aM bC;have bx := aM bB;clear bC bB;have HRq2 := aM bA;have HCq2 := aM bz;clear bA bz;have HB := aM (Below.refl w.heap.size w);have H := h;clear h;unfold spec_MsgOk.f at H;replace H := bE H;obtain ⟨bn, A2, H⟩ := H;have bv := aM H;clear H;go_enter Tryz.func15, Tryz.ntmps15;go_upto_region 2 with (first | ((with_reducible refine gate_dst (N := 1) rfl ?_); (try (refine gate_guard (by rfl) ?_; dsimp only)); refine gBx 1 #[.int .i64 ac, .int .i64 ab, .int .i64 aG, .int .i64 aL, .int .i64 aK, .slice bo aH.length bp, .int .i64 aB, .int .i64 aC, .int .i64 aD, .slice br aJ.length bq] 28 ?_; intro gbq1 hg wq1 hbox hb; have aa := aM (hbox); have GWq1 := gW HB hg; have GEq1 := gW HB hg; replace HB := bS HB hb; clear hb hbox hg; obtain ⟨hczq1, hczq2, hczq3, hczq4, hczq5, hczq6, hczq7, hczq8, hczq9, bF⟩ := cz10 aa.out; obtain ⟨hfzq1, hfzq2, hfzq3, hfzq4, hfzq5, hfzq6, hfzq7, hfzq8, hfzq9, bD⟩ := fz10 aa.out) | ((with_reducible refine gate_callee (f := 49) rfl ?_); refine gL (some 8) Tryz.func49 #[.agg #[.int .i64 aG, .int .i64 aL, .int .i64 aK, .slice bo aH.length bp], .agg #[.int .i64 0, .int .i64 0, .int .i64 0, .slice none 0 0]] ?_; (refine (spec_SameMan.calls ?side1 ?side2 ?side3 ?side4 A2.out).mono ?_); (case side1 => have X_ := (Kd.C_below bu.out HB.out); exact TC); (case side2 => exact bx.out); (case side3 => exact Kd.C_nil _ _); (case side4 => exact Nat.le_refl _); rintro e wq2 ⟨rfl, hb⟩; refine ⟨_, rfl, ?_⟩; replace aa := mB aa hb; replace HB := bS HB hb; clear hb))
 (try simp only [NP])
 go_cut [4] (fun vq1 wc => ∃ (kq : Nat) (xq1 : Bool), vq1 = .bool xq1 ∧ Aside0 (spec_MsgOk.j0 kq bn xq1 ac ab aG aL aK aH aB aC aD aJ = some r) ∧ Aside0 (kq ≤ k) ∧ Aside0 (wc.heap[gbq1]? = some (.cells #[.int .i64 ac, .int .i64 ab, .int .i64 aG, .int .i64 aL, .int .i64 aK, (.slice bo aH.length bp), .int .i64 aB, .int .i64 aC, .int .i64 aD, (.slice br aJ.length bq)] 28 (0, 0))) ∧ Aside0 (Below w.heap.size w wc))
 case first =>
  have H := bv.out;clear bv
  by_cases cq1 : aB = 0
  ·rw [if_pos cq1] at H;have cq2 : (aB == 0) = true := beq_iff_eq.mpr cq1;have cq3 : (aB != 0) = false := bne_eq_false_iff_eq.mpr cq1;clear cq1;(first | rw [cq2] | (simp only [i64_w, i32_w]; rw [cq2]) | skip)
   by_cases cq4 : aC = 0
   ·rw [if_pos cq4] at H;have cq5 : (aC == 0) = true := beq_iff_eq.mpr cq4;have cq6 : (aC != 0) = false := bne_eq_false_iff_eq.mpr cq4;clear cq4
    by_cases cq7 : aD = 0
    ·rw [if_pos cq7] at H;have cq8 : (aD == 0) = true := beq_iff_eq.mpr cq7;have cq9 : (aD != 0) = false := bne_eq_false_iff_eq.mpr cq7;clear cq7;have H' := aM H;clear H;obtain ⟨ba, aS, aX, be, aU, bb, bf, aT, bk, bc⟩ := cz10 aa.out;obtain ⟨bi, bd, bj, bg, aY, aZ, bh, aV, aW, bl⟩ := fz10 aa.out;go_wp2
     go_meet
     case rel => exact ⟨_, (((aJ.length : Int) == 0)), TF, H', ⟨by first | omega | exact Nat.le_refl _⟩, ⟨TK⟩, ⟨TB⟩⟩
    ·rw [if_neg cq7] at H;have cq8 : (aD == 0) = false := beq_eq_false_iff_ne.mpr cq7;have cq9 : (aD != 0) = true := bne_iff_ne.mpr cq7;exact Yq21_2
   ·rw [if_neg cq4] at H;have cq5 : (aC == 0) = false := beq_eq_false_iff_ne.mpr cq4;have cq6 : (aC != 0) = true := bne_iff_ne.mpr cq4;exact Yq21_2
  ·rw [if_neg cq1] at H;have cq2 : (aB == 0) = false := beq_eq_false_iff_ne.mpr cq1;have cq3 : (aB != 0) = true := bne_iff_ne.mpr cq1;(first | rw [cq2] | (simp only [i64_w, i32_w]; rw [cq2]) | skip);exact Yq21_2
 case rest =>
  clear bv;try clear hczq1
  try clear hczq2
  try clear hczq3
  try clear hczq4
  try clear hczq5
  try clear hczq6
  try clear hczq7
  try clear hczq8
  try clear hczq9
  try clear bF
  try clear hfzq1
  try clear hfzq2
  try clear hfzq3
  try clear hfzq4
  try clear hfzq5
  try clear hfzq6
  try clear hfzq7
  try clear hfzq8
  try clear hfzq9
  try clear bD
  obtain ⟨kq, xq1, rfl, HA, HJq1, aa, HB⟩ := hcut;cases kq with
  | zero => exact absurd HA.out (by simp [spec_MsgOk.j0])
  | succ kj2 =>
   have H := HA.out;clear HA;simp only [spec_MsgOk.j0] at H
   by_cases aR : ac = 1
   ·rw [if_pos aR] at H;have cq13 : (ac == 1) = true := beq_iff_eq.mpr aR;have cq14 : (ac != 1) = false := bne_eq_false_iff_eq.mpr aR;clear aR
    by_cases aE : ab = 0
    ·rw [if_pos aE] at H;have bw : (ab == 0) = true := beq_iff_eq.mpr aE;have bt : (ab != 0) = false := bne_eq_false_iff_eq.mpr aE;clear aE
     by_cases aA : aG = 0
     ·rw [if_pos aA] at H;have aP : (aG == 0) = true := beq_iff_eq.mpr aA;have aO : (aG != 0) = false := bne_eq_false_iff_eq.mpr aA;clear aA;exact Yq21_3
     ·rw [if_neg aA] at H;have aP : (aG == 0) = false := beq_eq_false_iff_ne.mpr aA;have aO : (aG != 0) = true := bne_iff_ne.mpr aA;replace H := bE H;obtain ⟨t689, Aq1, H⟩ := H;obtain ⟨ap, ax, aj, ak, aw, ad, au, aq, ay, ae⟩ := cz10 aa.out;obtain ⟨ar, ah, al, af, ao, am, an, ag, ai, av⟩ := fz10 aa.out
      by_cases az : t689 = true
      ·subst az;replace H := ifT H;obtain rfl := oI H;go_wp2_with (first | (go_at_call 50; (with_reducible refine (spec_ManOk.calls ?side1 ?side2 Aq1.out).mono ?_); (case side1 => have X_ := (Kd.C_below bu.out HB.out); exact TC); (case side2 => exact bx.out); rintro e wq3 ⟨rfl, hb⟩; replace aa := mB aa hb; replace HB := bS HB hb; clear hb))
       go_ret
       exact ⟨TE, TB⟩
      ·replace az := bF az;subst az;replace H := ifF H;obtain rfl := oI H;go_wp2_with (first | (go_at_call 50; (with_reducible refine (spec_ManOk.calls ?side1 ?side2 Aq1.out).mono ?_); (case side1 => have X_ := (Kd.C_below bu.out HB.out); exact TC); (case side2 => exact bx.out); rintro e wq3 ⟨rfl, hb⟩; replace aa := mB aa hb; replace HB := bS HB hb; clear hb))
       go_ret
       exact ⟨TE, TB⟩
    ·rw [if_neg aE] at H;have bw : (ab == 0) = false := beq_eq_false_iff_ne.mpr aE;have bt : (ab != 0) = true := bne_iff_ne.mpr aE;exact Yq21_3
   ·rw [if_neg aR] at H;have cq13 : (ac == 1) = false := beq_eq_false_iff_ne.mpr aR;have cq14 : (ac != 1) = true := bne_iff_ne.mpr aR
    by_cases aE : ac = 2
    ·rw [if_pos aE] at H;have bw : (ac == 2) = true := beq_iff_eq.mpr aE;have bt : (ac != 2) = false := bne_eq_false_iff_eq.mpr aE;clear aE;replace H := bE H;obtain ⟨t690, Aq1, H⟩ := H
     by_cases aA : t690 = true
     ·subst aA;replace H := ifT H
      by_cases aP : bn = true
      ·subst aP;replace H := ifT H;replace H := bE H;obtain ⟨t691, Aq2, H⟩ := H
       by_cases aO : t691 = true
       ·subst aO;replace H := ifT H;replace H := bE H;obtain ⟨t692, Aq3, H⟩ := H
        by_cases az : t692 = true
        ·subst az;replace H := ifT H
         by_cases aF : aD = 0
         ·rw [if_pos aF] at H;have aI : (aD == 0) = true := beq_iff_eq.mpr aF;have aN : (aD != 0) = false := bne_eq_false_iff_eq.mpr aF;clear aF;exact Yq21_1
         ·rw [if_neg aF] at H;have aI : (aD == 0) = false := beq_eq_false_iff_ne.mpr aF;have aN : (aD != 0) = true := bne_iff_ne.mpr aF;exact Yq21_1
        ·replace az := bF az;subst az;replace H := ifF H;obtain rfl := oI H;obtain ⟨ap, ax, aj, ak, aw, ad, au, aq, ay, ae⟩ := cz10 aa.out;obtain ⟨ar, ah, al, af, ao, am, an, ag, ai, av⟩ := fz10 aa.out;go_wp2_with (first | ((with_reducible refine gate_callee (f := 51) rfl ?_); refine gL (some 53) Tryz.func51 #[.int .i64 ab, .int .i64 0, .int .i64 1000000] ?_; (with_reducible refine (spec_l1In.calls Aq1.out).mono ?_); rintro e w' ⟨rfl, ⟨nd, rfl⟩⟩; refine ⟨_, rfl, ?_⟩) | (go_at_call 52; (with_reducible refine (spec_SetOk.calls Aq2.out).mono ?_); rintro e w' ⟨rfl, ⟨nd, rfl⟩⟩) | (go_at_call 52; (with_reducible refine (spec_SetOk.calls Aq3.out).mono ?_); rintro e w' ⟨rfl, ⟨nd, rfl⟩⟩))
         go_ret
         exact ⟨TE, TB⟩
       ·replace aO := bF aO;subst aO;replace H := ifF H;obtain rfl := oI H;obtain ⟨ap, ax, aj, ak, aw, ad, au, aq, ay, ae⟩ := cz10 aa.out;obtain ⟨ar, ah, al, af, ao, am, an, ag, ai, av⟩ := fz10 aa.out;go_wp2_with (first | ((with_reducible refine gate_callee (f := 51) rfl ?_); refine gL (some 53) Tryz.func51 #[.int .i64 ab, .int .i64 0, .int .i64 1000000] ?_; (with_reducible refine (spec_l1In.calls Aq1.out).mono ?_); rintro e w' ⟨rfl, ⟨nd, rfl⟩⟩; refine ⟨_, rfl, ?_⟩) | (go_at_call 52; (with_reducible refine (spec_SetOk.calls Aq2.out).mono ?_); rintro e w' ⟨rfl, ⟨nd, rfl⟩⟩))
        go_ret
        exact ⟨TE, TB⟩
      ·replace aP := bF aP;subst aP;replace H := ifF H;obtain rfl := oI H;obtain ⟨ap, ax, aj, ak, aw, ad, au, aq, ay, ae⟩ := cz10 aa.out;obtain ⟨ar, ah, al, af, ao, am, an, ag, ai, av⟩ := fz10 aa.out;go_wp2_with (first | ((with_reducible refine gate_callee (f := 51) rfl ?_); refine gL (some 53) Tryz.func51 #[.int .i64 ab, .int .i64 0, .int .i64 1000000] ?_; (with_reducible refine (spec_l1In.calls Aq1.out).mono ?_); rintro e w' ⟨rfl, ⟨nd, rfl⟩⟩; refine ⟨_, rfl, ?_⟩))
       go_ret
       exact ⟨TE, TB⟩
     ·replace aA := bF aA;subst aA;replace H := ifF H;obtain rfl := oI H;obtain ⟨ap, ax, aj, ak, aw, ad, au, aq, ay, ae⟩ := cz10 aa.out;obtain ⟨ar, ah, al, af, ao, am, an, ag, ai, av⟩ := fz10 aa.out;go_wp2_with (first | ((with_reducible refine gate_callee (f := 51) rfl ?_); refine gL (some 53) Tryz.func51 #[.int .i64 ab, .int .i64 0, .int .i64 1000000] ?_; (with_reducible refine (spec_l1In.calls Aq1.out).mono ?_); rintro e w' ⟨rfl, ⟨nd, rfl⟩⟩; refine ⟨_, rfl, ?_⟩))
      go_ret
      exact ⟨TE, TB⟩
    ·rw [if_neg aE] at H;have bw : (ac == 2) = false := beq_eq_false_iff_ne.mpr aE;have bt : (ac != 2) = true := bne_iff_ne.mpr aE
     by_cases aA : ac = 3
     ·rw [if_pos aA] at H;have aP : (ac == 3) = true := beq_iff_eq.mpr aA;have aO : (ac != 3) = false := bne_eq_false_iff_eq.mpr aA;clear aA;replace H := bE H;obtain ⟨t693, Aq1, H⟩ := H
      by_cases az : t693 = true
      ·subst az;replace H := ifT H
       by_cases aF : bn = true
       ·subst aF;replace H := ifT H
        by_cases aI : aB = 0
        ·rw [if_pos aI] at H;have aN : (aB == 0) = true := beq_iff_eq.mpr aI;have bm : (aB != 0) = false := bne_eq_false_iff_eq.mpr aI;clear aI
         by_cases aQ : aC = 0
         ·rw [if_pos aQ] at H;have cq27 : (aC == 0) = true := beq_iff_eq.mpr aQ;have cq28 : (aC != 0) = false := bne_eq_false_iff_eq.mpr aQ;clear aQ;replace H := bE H;obtain ⟨t694, Aq2, H⟩ := H;obtain ⟨ap, ax, aj, ak, aw, ad, au, aq, ay, ae⟩ := cz10 aa.out;obtain ⟨ar, ah, al, af, ao, am, an, ag, ai, av⟩ := fz10 aa.out
          by_cases bs : t694 = true
          ·subst bs;replace H := ifT H;replace H := bE H;obtain ⟨t695, Aq3, H⟩ := H;obtain rfl := oI H;go_wp2_with (first | ((with_reducible refine gate_callee (f := 51) rfl ?_); refine gL (some 82) Tryz.func51 #[.int .i64 ab, .int .i64 1, .int .i64 1000000] ?_; (with_reducible refine (spec_l1In.calls Aq1.out).mono ?_); rintro e w' ⟨rfl, ⟨nd, rfl⟩⟩; refine ⟨_, rfl, ?_⟩) | (go_at_call 51; (with_reducible refine (spec_l1In.calls Aq2.out).mono ?_); rintro e w' ⟨rfl, ⟨nd, rfl⟩⟩) | (go_at_call 51; (with_reducible refine (spec_l1In.calls Aq3.out).mono ?_); rintro e w' ⟨rfl, ⟨nd, rfl⟩⟩))
           go_ret
           exact ⟨TE, TB⟩
          ·replace bs := bF bs;subst bs;replace H := ifF H;obtain rfl := oI H;go_wp2_with (first | ((with_reducible refine gate_callee (f := 51) rfl ?_); refine gL (some 82) Tryz.func51 #[.int .i64 ab, .int .i64 1, .int .i64 1000000] ?_; (with_reducible refine (spec_l1In.calls Aq1.out).mono ?_); rintro e w' ⟨rfl, ⟨nd, rfl⟩⟩; refine ⟨_, rfl, ?_⟩) | (go_at_call 51; (with_reducible refine (spec_l1In.calls Aq2.out).mono ?_); rintro e w' ⟨rfl, ⟨nd, rfl⟩⟩))
           go_ret
           exact ⟨TE, TB⟩
         ·rw [if_neg aQ] at H;have cq27 : (aC == 0) = false := beq_eq_false_iff_ne.mpr aQ;have cq28 : (aC != 0) = true := bne_iff_ne.mpr aQ;exact Yq21_0
        ·rw [if_neg aI] at H;have aN : (aB == 0) = false := beq_eq_false_iff_ne.mpr aI;have bm : (aB != 0) = true := bne_iff_ne.mpr aI;exact Yq21_0
       ·replace aF := bF aF;subst aF;replace H := ifF H;exact Yq21_0
      ·replace az := bF az;subst az;replace H := ifF H;obtain rfl := oI H;obtain ⟨ap, ax, aj, ak, aw, ad, au, aq, ay, ae⟩ := cz10 aa.out;obtain ⟨ar, ah, al, af, ao, am, an, ag, ai, av⟩ := fz10 aa.out;go_wp2_with (first | ((with_reducible refine gate_callee (f := 51) rfl ?_); refine gL (some 82) Tryz.func51 #[.int .i64 ab, .int .i64 1, .int .i64 1000000] ?_; (with_reducible refine (spec_l1In.calls Aq1.out).mono ?_); rintro e w' ⟨rfl, ⟨nd, rfl⟩⟩; refine ⟨_, rfl, ?_⟩))
       go_ret
       exact ⟨TE, TB⟩
     ·rw [if_neg aA] at H;have aP : (ac == 3) = false := beq_eq_false_iff_ne.mpr aA;have aO : (ac != 3) = true := bne_iff_ne.mpr aA
      by_cases az : ac = 4
      ·rw [if_pos az] at H;have aF : (ac == 4) = true := beq_iff_eq.mpr az;have aI : (ac != 4) = false := bne_eq_false_iff_eq.mpr az;clear az;replace H := bE H;obtain ⟨t696, Aq1, H⟩ := H
       by_cases aN : t696 = true
       ·subst aN;replace H := ifT H;obtain ⟨ap, ax, aj, ak, aw, ad, au, aq, ay, ae⟩ := cz10 aa.out;obtain ⟨ar, ah, al, af, ao, am, an, ag, ai, av⟩ := fz10 aa.out
        by_cases bm : bn = true
        ·subst bm;replace H := ifT H;obtain rfl := oI H;go_wp2_with (first | (go_at_call 51; (with_reducible refine (spec_l1In.calls Aq1.out).mono ?_); rintro e w' ⟨rfl, ⟨nd, rfl⟩⟩))
         go_ret
         exact ⟨TE, TB⟩
        ·replace bm := bF bm;subst bm;replace H := ifF H;obtain rfl := oI H;go_wp2_with (first | (go_at_call 51; (with_reducible refine (spec_l1In.calls Aq1.out).mono ?_); rintro e w' ⟨rfl, ⟨nd, rfl⟩⟩))
         go_ret
         exact ⟨TE, TB⟩
       ·replace aN := bF aN;subst aN;replace H := ifF H;obtain rfl := oI H;obtain ⟨ap, ax, aj, ak, aw, ad, au, aq, ay, ae⟩ := cz10 aa.out;obtain ⟨ar, ah, al, af, ao, am, an, ag, ai, av⟩ := fz10 aa.out;go_wp2_with (first | (go_at_call 51; (with_reducible refine (spec_l1In.calls Aq1.out).mono ?_); rintro e w' ⟨rfl, ⟨nd, rfl⟩⟩))
        go_ret
        exact ⟨TE, TB⟩
      ·rw [if_neg az] at H;have aF : (ac == 4) = false := beq_eq_false_iff_ne.mpr az;have aI : (ac != 4) = true := bne_iff_ne.mpr az;exact Yq21_3
end Go.Proofs.YtanpaipapcjpoaaGreatDoor.Q
