/- Functions of the program as plain Lean functions, and that a call of each comes to what its function tells. Written by a program of this seat. -/
import Derived.Test.YtlghklbjmmijpaaQ0
import Derived.Test.YtlghklbjmmijpaaQ3
import Derived.Test.YtlghklbjmmijpaaQ11
namespace Go.Proofs.Ytlghklbjmmijpaa.Q
open Go.RowKit Go.Proofs.YtlghklbjmmijpaaW.PrintWords Go.Proofs.YtlghklbjmmijpaaW.PrintLast Go.Proofs.YtlghklbjmmijpaaW.PrintMore
attribute [local go_sem] max2_int min2_int max_two min_two max_three min_three max_four min_four   -- for this text's walks alone
set_option linter.unusedVariables false
set_option linter.unusedSimpArgs false

/-! ### spec_AllFalls: function 40 -/
def spec_AllFalls.l0 : Nat → List (S33) → Int → Int → List Int → List Int → Int → Int → Int → List (S110) → Option ((List (S33)))
  | 0, _, _, _, _, _, _, _, _, _ => none
  | k + 1, x3, x4, x5, x202000, x202001, x202002, x202003, x202004, x202005 => if 0 ≤ x4 then (if x5 < (shl .i64 1 x4) then ((spec_Fall.f k x202000 x202001 x202002 x202003 x202004 x202005 x5).bind fun bt206 => (if x3.length < 1466015503701 then (spec_AllFalls.l0 k (x3 ++ [(⟨bt206.1, bt206.2.1, (⟨bt206.2.2.1, bt206.2.2.2.1, bt206.2.2.2.2.1⟩ : S30), bt206.2.2.2.2.2⟩ : S33)]) x4 (wrap64 (x5 + 1)) x202000 x202001 x202002 x202003 x202004 x202005) else (none))) else (some x3)) else (none)
def spec_AllFalls.f (k : Nat) (l0_0 : List Int) (l0_1 : List Int) (a0_2 : Int) (a0_3 : Int) (a0_4 : Int) (l0_5 : List (S110)) : Option ((List (S33))) := (spec_Least.f (l0_5.length : Int) 6).bind fun t205 => (spec_AllFalls.l0 k (([] : List (S33))) t205 0 l0_0 l0_1 a0_2 a0_3 a0_4 l0_5)
theorem spec_AllFalls.mono_l : ∀ k, (∀ y0 y1 y2 y3 y4 y5 y6 y7 y8, LeO (spec_AllFalls.l0 k y0 y1 y2 y3 y4 y5 y6 y7 y8) (spec_AllFalls.l0 (k + 1) y0 y1 y2 y3 y4 y5 y6 y7 y8))
  | 0 => fun _ _ _ _ _ _ _ _ _ r h => by simp [spec_AllFalls.l0] at h
  | k + 1 => by
    have m0_ := @spec_Fall.mono
    have ih0 := spec_AllFalls.mono_l k
    · intro y0 y1 y2 y3 y4 y5 y6 y7 y8
      unfold spec_AllFalls.l0
      exact LM
theorem spec_AllFalls.mono : ∀ a0 a1 a2 a3 a4 a5 k, LeO (spec_AllFalls.f k a0 a1 a2 a3 a4 a5) (spec_AllFalls.f (k + 1) a0 a1 a2 a3 a4 a5) := by
  intro a0 a1 a2 a3 a4 a5 k
  have m0_ := @spec_Fall.mono
  have ih0 := spec_AllFalls.mono_l k
  unfold spec_AllFalls.f
  exact LM
set_option maxHeartbeats 40000000 in
set_option maxRecDepth 100000 in
theorem spec_AllFalls.calls (k : Nat) (ao : Option Addr) (aw : Nat) (af : List Int) (ap : Option Addr) (au : Nat) (ag : List Int) (ak : Int) (ah : Int) (aj : Int) (ar : Option Addr) (aq : Nat) (ad : List (S110)) (r : List (S33)) (w : World) (aK : Kd.C (Kd.int .u8) w ao af.length af) (aI : af.length ≤ aw) (aH : Kd.C (Kd.int .u8) w ap ag.length ag) (aQ : ag.length ≤ au) (aG : Kd.C k110 w ar ad.length ad) (aR : ad.length ≤ aq) (h : spec_AllFalls.f k af ag ak ah aj ad = some r) :
  Calls Try.prog 40 #[.agg #[.slice ao af.length aw, .slice ap ag.length au, .int .i64 ak, .int .i64 ah, .int .i64 aj, .slice ar ad.length aq]] w fun e w' => ∃ v0_ : Value, e = .returned (v0_) ∧ Kd.R k33 33 w' w.heap.size (fun _ => True) v0_ r ∧ Below w.heap.size w w' := by
 have hu33 := Try.underlying33
 have HR0_0 := aM aK
 have HC0_0 := aM aI
 clear aK aI
 have HR0_1 := aM aH
 have HC0_1 := aM aQ
 clear aH aQ
 have HR0_5 := aM aG
 have HC0_5 := aM aR
 clear aG aR
 have HB := aM (Below.refl w.heap.size w)
 have H := h
 clear h
 unfold spec_AllFalls.f at H
 obtain ⟨y202, aD⟩ : ∃ y_ : List (S33), y_ = (([] : List (S33))) := ⟨_, rfl⟩
 rw [← aD] at H
 have aJ := aM aD
 clear aD
 replace H := bE H
 obtain ⟨ax, A2, H⟩ := H
 have H' := aM H
 clear H
 go_enter Try.func40, Try.ntmps40
 go_wp2_with (first | ((with_reducible refine gate_dst (N := 1) rfl ?_); refine gBx 1 #[.slice ao af.length aw, .slice ap ag.length au, .int .i64 ak, .int .i64 ah, .int .i64 aj, .slice ar ad.length aq] 33 ?_; intro ab hg w3 hbox hb; have ae := aM (hbox); have GW201 := aM ((by rw [hg]; exact (below_size TB) : w.heap.size ≤ ab)); have GE201 := aM ((by rw [hg]; exact (below_size TB) : w.heap.size ≤ ab)); replace HB := aM (below_step TB hb); clear hb hbox hg) | ((with_reducible refine gate_dst (N := 7) rfl ?_); refine Kd.R_lit k33 _ 33 ?hg (N := 7) ?hd (xs := ([] : List (S33))) (inner := []) (ok := fun _ => True) (okp := fun _ => True) ?hr ?hp (fun _ hk => hk) trivial (Below.refl _ _) (Nat.le_refl _) (by simp) ?_; (case hd => rfl); (case hg => rfl); (case hr => first | (go_simp; done) | (go_simp; rfl)); (case hp => exact (Reps.none _ _)); intro v203 w4 ho5 hb hg_ hnew_; clear hg_ hnew_; (first | rw [← aJ.out] at ho5 | (simp only [Int.reduceToNat] at ho5; rw [← aJ.out] at ho5)); have HO204 := aM (Kd.R_lower (Kd.R_newB ho5 (g := ab) (o := .cells #[.slice ao af.length aw, .slice ap ag.length au, .int .i64 ak, .int .i64 ah, .int .i64 aj, .slice ar ad.length aq] 33 (0, 0)) TK) (below_size TB)); replace ae := aM (blk_below (g := ab) (o := .cells #[.slice ao af.length aw, .slice ap ag.length au, .int .i64 ak, .int .i64 ah, .int .i64 aj, .slice ar ad.length aq] 33 (0, 0)) TK hb); replace HB := aM (below_step TB hb); clear hb ho5; obtain ⟨a9, aU, aZ, a7, aY, ba⟩ := cz6 ae.out; obtain ⟨aT, a8, aW, a6, aX, aV⟩ := fz6 ae.out) | ((with_reducible refine gate_callee (f := 93) rfl ?_); refine gL (some 11) Try.func93 #[.int .i64 (ad.length : Int), .int .i64 6] ?_; (with_reducible refine (spec_Least.calls (ad.length : Int) 6 ax _ A2.out).mono ?_); rintro e w' ⟨rfl, ⟨nd, rfl⟩⟩; refine ⟨_, rfl, ?_⟩))
 go_loopg [3, 5] k (fun kq v3 v5 w' => ∃ (az : List (S33)) (ay : Int), v5 = .int .i64 ay ∧ Aside0 (spec_AllFalls.l0 kq az ax ay af ag ak ah aj ad = some r) ∧ Aside0 (kq ≤ k) ∧ Aside0 (Kd.R k33 33 w' w.heap.size (fun k_ => k_ ≠ ab) v3 az) ∧ Aside0 (w'.heap[ab]? = some (.cells #[(.slice ao af.length aw), (.slice ap ag.length au), .int .i64 ak, .int .i64 ah, .int .i64 aj, (.slice ar ad.length aq)] 33 (0, 0))) ∧ Aside0 (Below w.heap.size w w'))
 case atStart => exact ⟨(y202), (0), (by first | rfl | (simp; done) | (simp [*]; done)), H', ⟨Nat.le_refl _⟩, ⟨by (with_reducible repeat (first | apply Kd.R_alloc | apply Kd.R_drewN | apply Kd.R_drew)); exact Kd.R_mono HO204.out (fun _ hk => hk.2)⟩, ⟨TK⟩, ⟨TB⟩⟩
 case round =>
  clear H'
  try clear p2
  try clear c4
  try clear a9
  try clear aU
  try clear aZ
  try clear a7
  try clear aY
  try clear ba
  try clear aT
  try clear a8
  try clear aW
  try clear a6
  try clear aX
  try clear aV
  obtain ⟨az, ay, rfl, HA, HK1, am, ae, HB⟩ := hrel
  cases gk with
  | zero => exact absurd HA.out (by simp [spec_AllFalls.l0])
  | succ k1 =>
   have H := HA.out
   clear HA
   simp only [spec_AllFalls.l0] at H
   replace H := ifN H
   obtain ⟨c7, H⟩ := H
   have c7b0 := eq_true c7
   have c7b1 : decide (0 ≤ ax) = true := decide_eq_true c7
   clear c7
   obtain ⟨ji8, aA⟩ : ∃ j_ : Int, (shl .i64 1 ax) = j_ := ⟨_, rfl⟩
   (first | rw [aA] at H | simp only [aA] at H | skip)
   have aE : (IntKind.i64.wrap (1 * 2 ^ min ax.toNat 64)) = ji8 := aA
   have aN : ax ≤ 64 → (IntKind.i64.wrap (1 * 2 ^ ax.toNat)) = ji8 := shl_small aA
   have hji8u : (IntKind.i64.wrap (2 ^ min ax.toNat 64)) = ji8 := by have h_ := aE; rw [Int.one_mul] at h_; exact h_
   have hji8v : ax ≤ 64 → (IntKind.i64.wrap (2 ^ ax.toNat)) = ji8 := fun hle_ => by have h_ := aN hle_; rw [Int.one_mul] at h_; exact h_
   have hji8y : (wrap64 (1 * 2 ^ min ax.toNat 64)) = ji8 := (i64_w _).symm.trans aE
   have hji8x : ax ≤ 64 → (wrap64 (1 * 2 ^ ax.toNat)) = ji8 := fun h_ => (i64_w _).symm.trans (aN h_)
   by_cases c9 : ay < (ji8)
   ·rw [if_pos c9] at H
    have c9b0 : decide (ay < (ji8)) = true := decide_eq_true c9
    clear c9
    replace H := bE H
    obtain ⟨⟨aa, ac, al, an, av, ai⟩, A10, H⟩ := H
    dsimp only at H
    replace H := ifN H
    obtain ⟨c11, H⟩ := H
    have LMc11 := aM c11
    clear c11
    obtain ⟨y219, aC⟩ : ∃ y_ : List (S33), y_ = (az ++ [(⟨aa, ac, (⟨al, an, av⟩ : S30), ai⟩ : S33)]) := ⟨_, rfl⟩
    rw [← aC] at H
    have Ny219 := aM aC
    clear aC
    have H' := aM H
    clear H
    obtain ⟨hcz12_0, hcz12_1, hcz12_2, hcz12_3, hcz12_4, hcz12_5⟩ := cz6 ae.out
    obtain ⟨hfz12_0, hfz12_1, hfz12_2, hfz12_3, hfz12_4, hfz12_5⟩ := fz6 ae.out
    go_wp2_with (first | ((with_reducible refine gate_callee (f := 94) rfl ?_); refine gL (some 20) Try.func94 #[.agg #[.slice ao af.length aw, .slice ap ag.length au, .int .i64 ak, .int .i64 ah, .int .i64 aj, .slice ar ad.length aq], .int .i64 ay] ?_; (with_reducible refine (spec_Fall.calls k1 _ _ af _ _ ag ak ah aj _ _ ad ay aa ac al an av ai _ ?side1 ?side2 ?side3 ?side4 ?side5 ?side6 A10.out).mono ?_); (case side1 => have X_ := (Kd.C_below HR0_0.out HB.out); exact TC); (case side2 => exact HC0_0.out); (case side3 => have X_ := (Kd.C_below HR0_1.out HB.out); exact TC); (case side4 => exact HC0_1.out); (case side5 => have X_ := (Kd.C_below HR0_5.out HB.out); exact TC); (case side6 => exact HC0_5.out); rintro e w13 ⟨v207, v210, v216, rfl, ho0, ho1, ho2, hb⟩; refine ⟨_, rfl, ?_⟩; have HO208 := aM (Kd.R_lower ho0 (below_size TB)); have HO211 := aM (Kd.R_lower ho1 (below_size TB)); have HO217 := aM (Kd.S_lower ho2 (below_size TB)); replace am := aM (Kd.R_mono (Kd.R_told (Kd.R_told (Kd.R_told (Kd.R_old (by have X_ := am.out; exact TR) hb) (Kd.R_base ho0)) (Kd.R_base ho1)) (Kd.S_base ho2)) (fun _ h_ => h_.1)); replace ae := aM (blk_below (g := ab) (o := .cells #[.slice ao af.length aw, .slice ap ag.length au, .int .i64 ak, .int .i64 ah, .int .i64 aj, .slice ar ad.length aq] 33 (0, 0)) TK hb); replace HB := aM (below_step TB hb); clear ho0 ho1 ho2 hb) | ((with_reducible refine gate_dst (N := 6) rfl ?_); refine gBx 6 #[.slice none 0 0, .slice none 0 0, .int .i64 0, .int .i64 0, .int .i64 0, .slice none 0 0] 33 ?_; intro gb218 hg w14 hbox hb; have BK218 := aM (hbox); have GW218 := aM ((by rw [hg]; exact (below_size TB) : w.heap.size ≤ gb218)); have GE218 := aM ((by rw [hg]; exact (below_size TB) : w.heap.size ≤ gb218)); have NB201_218 := aM ((by rw [hg]; exact Nat.ne_of_lt (blk_lt (g := ab) (o := .cells #[.slice ao af.length aw, .slice ap ag.length au, .int .i64 ak, .int .i64 ah, .int .i64 aj, .slice ar ad.length aq] 33 (0, 0)) TK) : ab ≠ gb218)); have NB218_201 := aM ((by rw [hg]; exact Nat.ne_of_gt (blk_lt (g := ab) (o := .cells #[.slice ao af.length aw, .slice ap ag.length au, .int .i64 ak, .int .i64 ah, .int .i64 aj, .slice ar ad.length aq] 33 (0, 0)) TK) : gb218 ≠ ab)); replace am := aM (Kd.R_below (Kd.R_elderB (by have X_ := am.out; exact TR) gb218 (Nat.le_of_eq hg.symm)) hb); replace HO208 := aM (Kd.R_below (by have X_ := HO208.out; exact TR) hb); replace HO211 := aM (Kd.R_below (by have X_ := HO211.out; exact TR) hb); replace HO217 := aM (Kd.S_below (by have X_ := HO217.out; exact TS) hb); replace ae := aM (blk_below (g := ab) (o := .cells #[.slice ao af.length aw, .slice ap ag.length au, .int .i64 ak, .int .i64 ah, .int .i64 aj, .slice ar ad.length aq] 33 (0, 0)) TK hb); replace HB := aM (below_step TB hb); clear hb hbox hg; obtain ⟨Ao15, co15, eo15⟩ := Kd.R_slice HO208.out; subst eo15; have hnb16 := NB218_201.out; have hnc16 := NB201_218.out; obtain ⟨hcz17_0, hcz17_1, hcz17_2, hcz17_3, hcz17_4, hcz17_5⟩ := cz6 BK218.out; obtain ⟨hfz17_0, hfz17_1, hfz17_2, hfz17_3, hfz17_4, hfz17_5⟩ := fz6 BK218.out; obtain ⟨Ao18, co18, eo18⟩ := Kd.R_slice HO211.out; subst eo18; obtain ⟨Ao19, co19, eo19⟩ := Kd.S_slice HO217.out; subst eo19) | ((with_reducible refine gate_store (t := 33) (p := 6) rfl ?_); refine store_event (t := 33) (p := 6) (v := ?vo_w20) (w1 := ((((((w14.setCell ⟨gb218, 0, none⟩ (.slice Ao15 aa.length co15)).setCell ⟨gb218, 1, none⟩ (.slice Ao18 ac.length co18)).setCell ⟨gb218, 2, none⟩ (.int .i64 al)).setCell ⟨gb218, 3, none⟩ (.int .i64 an)).setCell ⟨gb218, 4, none⟩ (.int .i64 av)).setCell ⟨gb218, 5, none⟩ (.slice Ao19 ai.length co19))) ?hg ?ho ?hn ?hr ?_; (case ho => rfl); (case hg => rfl); (case hn => rfl); (case hr => first | (go_simp; done) | (go_simp; rfl)); intro w20 hw; have n0_ : Aside0 (Kd.R k33 33 w20 w.heap.size (fun k_ => some k_ ≠ (.slice Ao15 aa.length co15 : Value).ownBlock ∧ some k_ ≠ (.slice Ao18 ac.length co18 : Value).ownBlock ∧ some k_ ≠ (.slice Ao19 ai.length co19 : Value).ownBlock ∧ k_ ≠ ab ∧ k_ ≠ gb218) u3 az) := ⟨(by rw [hw]; exact (by (with_reducible repeat (first | apply Kd.R_alloc | apply Kd.R_drewN | apply Kd.R_drew)); exact Kd.R_mono (Kd.R_far (p := ⟨gb218, 5, none⟩) (Kd.R_far (p := ⟨gb218, 4, none⟩) (Kd.R_far (p := ⟨gb218, 3, none⟩) (Kd.R_far (p := ⟨gb218, 2, none⟩) (Kd.R_far (p := ⟨gb218, 1, none⟩) (Kd.R_far (p := ⟨gb218, 0, none⟩) (Kd.R_mono am.out (fun k_ hk => (⟨hk, hk.2⟩ : _ ∧ k_ ≠ gb218))) (fun _ hk => hk.2) (.slice Ao15 aa.length co15)) (fun _ hk => hk.2) (.slice Ao18 ac.length co18)) (fun _ hk => hk.2) (.int .i64 al)) (fun _ hk => hk.2) (.int .i64 an)) (fun _ hk => hk.2) (.int .i64 av)) (fun _ hk => hk.2) (.slice Ao19 ai.length co19)) (fun _ hk => ⟨hk.1.1.1.1.2, ⟨hk.1.1.1.2, ⟨hk.1.1.2, ⟨hk.1.1.1.1.1, hk.1.2⟩⟩⟩⟩)))⟩; have n1_ : Aside0 (Kd.R (Kd.int .u8) 5 w20 w.heap.size (fun k_ => some k_ ≠ (.slice Ao18 ac.length co18 : Value).ownBlock) (.slice Ao15 aa.length co15) aa) := ⟨(by rw [hw]; exact (by (with_reducible repeat (first | apply Kd.R_alloc | apply Kd.R_drewN | apply Kd.R_drew)); exact Kd.R_mono (Kd.R_far (p := ⟨gb218, 5, none⟩) (Kd.R_far (p := ⟨gb218, 4, none⟩) (Kd.R_far (p := ⟨gb218, 3, none⟩) (Kd.R_far (p := ⟨gb218, 2, none⟩) (Kd.R_far (p := ⟨gb218, 1, none⟩) (Kd.R_far (p := ⟨gb218, 0, none⟩) (Kd.R_types HO208.out BK218.out (by decide)) (fun _ hk => hk.2) (.slice Ao15 aa.length co15)) (fun _ hk => hk.2) (.slice Ao18 ac.length co18)) (fun _ hk => hk.2) (.int .i64 al)) (fun _ hk => hk.2) (.int .i64 an)) (fun _ hk => hk.2) (.int .i64 av)) (fun _ hk => hk.2) (.slice Ao19 ai.length co19)) (fun _ hk => hk.1)))⟩; have n2_ : Aside0 (Kd.R (Kd.int .u8) 5 w20 w.heap.size (fun k_ => some k_ ≠ (.slice Ao15 aa.length co15 : Value).ownBlock) (.slice Ao18 ac.length co18) ac) := ⟨(by rw [hw]; exact (by (with_reducible repeat (first | apply Kd.R_alloc | apply Kd.R_drewN | apply Kd.R_drew)); exact Kd.R_mono (Kd.R_far (p := ⟨gb218, 5, none⟩) (Kd.R_far (p := ⟨gb218, 4, none⟩) (Kd.R_far (p := ⟨gb218, 3, none⟩) (Kd.R_far (p := ⟨gb218, 2, none⟩) (Kd.R_far (p := ⟨gb218, 1, none⟩) (Kd.R_far (p := ⟨gb218, 0, none⟩) (Kd.R_types HO211.out BK218.out (by decide)) (fun _ hk => hk.2) (.slice Ao15 aa.length co15)) (fun _ hk => hk.2) (.slice Ao18 ac.length co18)) (fun _ hk => hk.2) (.int .i64 al)) (fun _ hk => hk.2) (.int .i64 an)) (fun _ hk => hk.2) (.int .i64 av)) (fun _ hk => hk.2) (.slice Ao19 ai.length co19)) (fun _ hk => hk.1)))⟩; have n3_ : Aside0 (Kd.S k110 110 w20 w.heap.size (fun k_ => some k_ ≠ (.slice Ao15 aa.length co15 : Value).ownBlock ∧ some k_ ≠ (.slice Ao18 ac.length co18 : Value).ownBlock) (.slice Ao19 ai.length co19) ai) := ⟨(by rw [hw]; exact (by (with_reducible repeat (first | apply Kd.S_alloc | apply Kd.S_drewN | apply Kd.S_drew)); exact Kd.S_mono (Kd.S_far (p := ⟨gb218, 5, none⟩) (Kd.S_far (p := ⟨gb218, 4, none⟩) (Kd.S_far (p := ⟨gb218, 3, none⟩) (Kd.S_far (p := ⟨gb218, 2, none⟩) (Kd.S_far (p := ⟨gb218, 1, none⟩) (Kd.S_far (p := ⟨gb218, 0, none⟩) (Kd.S_types HO217.out BK218.out (by decide)) (fun _ hk => hk.2) (.slice Ao15 aa.length co15)) (fun _ hk => hk.2) (.slice Ao18 ac.length co18)) (fun _ hk => hk.2) (.int .i64 al)) (fun _ hk => hk.2) (.int .i64 an)) (fun _ hk => hk.2) (.int .i64 av)) (fun _ hk => hk.2) (.slice Ao19 ai.length co19)) (fun _ hk => ⟨hk.1.1, hk.1.2⟩)))⟩; have n4_ : Aside0 (w20.heap[ab]? = some (.cells #[.slice ao af.length aw, .slice ap ag.length au, .int .i64 ak, .int .i64 ah, .int .i64 aj, .slice ar ad.length aq] 33 (0, 0))) := ⟨(by rw [hw]; exact (by (with_reducible repeat (first | refine blk_drewN ?_ _ | refine blk_drew ?_ | refine blk_alloc ?_ _)); refine blk_far ?_ NB201_218.out _; (with_reducible repeat (first | refine blk_drewN ?_ _ | refine blk_drew ?_ | refine blk_alloc ?_ _)); refine blk_far ?_ NB201_218.out _; (with_reducible repeat (first | refine blk_drewN ?_ _ | refine blk_drew ?_ | refine blk_alloc ?_ _)); refine blk_far ?_ NB201_218.out _; (with_reducible repeat (first | refine blk_drewN ?_ _ | refine blk_drew ?_ | refine blk_alloc ?_ _)); refine blk_far ?_ NB201_218.out _; (with_reducible repeat (first | refine blk_drewN ?_ _ | refine blk_drew ?_ | refine blk_alloc ?_ _)); refine blk_far ?_ NB201_218.out _; (with_reducible repeat (first | refine blk_drewN ?_ _ | refine blk_drew ?_ | refine blk_alloc ?_ _)); refine blk_far ?_ NB201_218.out _; (with_reducible repeat (first | refine blk_drewN ?_ _ | refine blk_drew ?_ | refine blk_alloc ?_ _)); exact ae.out))⟩; have n5_ : Aside0 (w20.heap[gb218]? = some (.cells #[.slice Ao15 aa.length co15, .slice Ao18 ac.length co18, .int .i64 al, .int .i64 an, .int .i64 av, .slice Ao19 ai.length co19] 33 (0, 0))) := ⟨(by rw [hw]; exact (by (with_reducible repeat (first | refine blk_drewN ?_ _ | refine blk_drew ?_ | refine blk_alloc ?_ _)); refine blk_put (cs := #[.slice Ao15 aa.length co15, .slice Ao18 ac.length co18, .int .i64 al, .int .i64 an, .int .i64 av, .slice none 0 0]) ?_ 5 _ rfl; (with_reducible repeat (first | refine blk_drewN ?_ _ | refine blk_drew ?_ | refine blk_alloc ?_ _)); refine blk_put (cs := #[.slice Ao15 aa.length co15, .slice Ao18 ac.length co18, .int .i64 al, .int .i64 an, .int .i64 0, .slice none 0 0]) ?_ 4 _ rfl; (with_reducible repeat (first | refine blk_drewN ?_ _ | refine blk_drew ?_ | refine blk_alloc ?_ _)); refine blk_put (cs := #[.slice Ao15 aa.length co15, .slice Ao18 ac.length co18, .int .i64 al, .int .i64 0, .int .i64 0, .slice none 0 0]) ?_ 3 _ rfl; (with_reducible repeat (first | refine blk_drewN ?_ _ | refine blk_drew ?_ | refine blk_alloc ?_ _)); refine blk_put (cs := #[.slice Ao15 aa.length co15, .slice Ao18 ac.length co18, .int .i64 0, .int .i64 0, .int .i64 0, .slice none 0 0]) ?_ 2 _ rfl; (with_reducible repeat (first | refine blk_drewN ?_ _ | refine blk_drew ?_ | refine blk_alloc ?_ _)); refine blk_put (cs := #[.slice Ao15 aa.length co15, .slice none 0 0, .int .i64 0, .int .i64 0, .int .i64 0, .slice none 0 0]) ?_ 1 _ rfl; (with_reducible repeat (first | refine blk_drewN ?_ _ | refine blk_drew ?_ | refine blk_alloc ?_ _)); refine blk_put (cs := #[.slice none 0 0, .slice none 0 0, .int .i64 0, .int .i64 0, .int .i64 0, .slice none 0 0]) ?_ 0 _ rfl; (with_reducible repeat (first | refine blk_drewN ?_ _ | refine blk_drew ?_ | refine blk_alloc ?_ _)); exact BK218.out))⟩; have n6_ : Aside0 (Below w.heap.size w w20) := ⟨(by rw [hw]; exact TB)⟩; clear hw; clear am; clear HO208; clear HO211; clear HO217; clear ae; clear BK218; clear HB; have am := n0_; have HO208 := n1_; have HO211 := n2_; have HO217 := n3_; have ae := n4_; have BK218 := n5_; have HB := n6_; clear n0_ n1_ n2_ n3_ n4_ n5_ n6_; obtain ⟨hcz21_0, hcz21_1, hcz21_2, hcz21_3, hcz21_4, hcz21_5⟩ := cz6 BK218.out; obtain ⟨hfz21_0, hfz21_1, hfz21_2, hfz21_3, hfz21_4, hfz21_5⟩ := fz6 BK218.out) | ((with_reducible refine gate_builtin (b := .append) (xs := #[.tmp 21, .tmp 23]) rfl ?_); at_builtin; refine Kd.R_append k33 (w0 := w) w.heap.size rfl (.tmp 21) (.tmp 23) 70 33 (.agg #[(.slice none 0 0), (.slice none 0 0), (.int .i64 0), (.int .i64 0), (.int .i64 0), (.slice none 0 0)]) 96 rfl Try.underlying70 info33 rfl (by decide) (by omega) u3 az (⟨aa, ac, (⟨al, an, av⟩ : S30), ai⟩ : S33) [.slice Ao15 aa.length co15, .slice Ao18 ac.length co18, .int .i64 al, .int .i64 an, .int .i64 av, .slice Ao19 ai.length co19] (fun k_ => k_ ≠ ab ∧ k_ ≠ gb218) (fun k_ => ((fun k_ => k_ ≠ ab ∧ k_ ≠ gb218)) k_ ∧ some k_ ≠ (u3 : Value).ownBlock) rfl rfl ?aP (fun _ hk => hk) ?aF ?aO ?aB ?aS ?aL ?_; (case aP => exact k33_mkM _ _ _ (⟨aa, ac, (⟨al, an, av⟩ : S30), ai⟩ : S33) (Kd.R_mono (Kd.R_types (Kd.R_types (Kd.R_apart' (HO208.out) (Kd.R_typed am.out) (by decide)) ae.out (by decide)) BK218.out (by decide)) (fun k_ hk => ⟨⟨hk.1.2, hk.2⟩, hk.1.1.2⟩)) (Kd.R_mono (Kd.R_types (Kd.R_types (Kd.R_apart' (HO211.out) (Kd.R_typed am.out) (by decide)) ae.out (by decide)) BK218.out (by decide)) (fun k_ hk => ⟨⟨hk.1.2, hk.2⟩, hk.1.1.2⟩)) (Kd.R_mono (Kd.R_types (Kd.R_types (Kd.R_apart' ((Kd.S_R HO217.out)) (Kd.R_typed am.out) (by decide)) ae.out (by decide)) BK218.out (by decide)) (fun k_ hk => ⟨⟨hk.1.2, hk.2⟩, hk.1.1.2⟩))); (case aB => exact TB); (case aF => exact (fun k_ hk => ⟨Kd.freshB (g := ab) (o := .cells #[.slice ao af.length aw, .slice ap ag.length au, .int .i64 ak, .int .i64 ah, .int .i64 aj, .slice ar ad.length aq] 33 (0, 0)) TK k_ hk, Kd.freshB (g := gb218) (o := .cells #[.slice Ao15 aa.length co15, .slice Ao18 ac.length co18, .int .i64 al, .int .i64 an, .int .i64 av, .slice Ao19 ai.length co19] 33 (0, 0)) TK k_ hk⟩)); (case aO => exact (by (with_reducible repeat (first | apply Kd.R_alloc | apply Kd.R_drewN | apply Kd.R_drew)); exact Kd.R_mono am.out (fun _ hk => ⟨hk.2.2.2.1, hk.2.2.2.2⟩))); (case aS => exact (below_size TB)); (case aL => have := LMc11.out; omega); intro v220 w22 ho hb hg hat; rw [← Ny219.out] at ho; have HO221 := aM (ho); replace ae := aM (blk_grown (g := ab) (o := .cells #[.slice ao af.length aw, .slice ap ag.length au, .int .i64 ak, .int .i64 ah, .int .i64 aj, .slice ar ad.length aq] 33 (0, 0)) TK hg (Kd.R_away am.out (fun _ hk => hk.2.2.2.1))); replace BK218 := aM (blk_grown (g := gb218) (o := .cells #[.slice Ao15 aa.length co15, .slice Ao18 ac.length co18, .int .i64 al, .int .i64 an, .int .i64 av, .slice Ao19 ai.length co19] 33 (0, 0)) TK hg (Kd.R_away am.out (fun _ hk => hk.2.2.2.2))); replace HB := aM (hb); clear am; clear HO208; clear HO211; clear HO217; clear ho hb hg hat))
    go_roundg k1
    case measure => have := HK1.out; omega
    case rel => exact ⟨(y219), (wrap64 (ay + 1)), (by first | rfl | (simp; done) | (simp [*]; done)), H', ⟨by have := HK1.out; omega⟩, ⟨by (with_reducible repeat (first | apply Kd.R_alloc | apply Kd.R_drewN | apply Kd.R_drew)); exact Kd.R_mono HO221.out (fun _ hk => hk.1)⟩, ⟨TK⟩, ⟨TB⟩⟩
   ·rw [if_neg c9] at H
    have c9b0 : decide (ay < (ji8)) = false := decide_eq_false c9
    clear c9
    obtain rfl := Option.some.inj H
    go_wp2
    go_ret
    exact ⟨_, by first | rfl | (simp [errW_none, errW_some] <;> rfl) | (simp only [← aA]; first | rfl | (simp [errW_none, errW_some] <;> rfl)) | (simp [*, errW_none, errW_some] <;> rfl), by (with_reducible repeat (first | apply Kd.R_alloc | apply Kd.R_drewN | apply Kd.R_drew)); exact Kd.R_mono am.out (fun _ hk => trivial), TB⟩

end Go.Proofs.Ytlghklbjmmijpaa.Q
