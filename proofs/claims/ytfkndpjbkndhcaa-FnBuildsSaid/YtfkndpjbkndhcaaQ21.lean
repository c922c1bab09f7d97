/- Functions of the program as plain Lean functions, and that a call of each comes to what its function tells. Written by a program of this seat. -/
import Derived.Test.YtfkndpjbkndhcaaQ0
import Derived.Test.YtfkndpjbkndhcaaQ3
import Derived.Test.YtfkndpjbkndhcaaQ5
import Derived.Test.YtfkndpjbkndhcaaQ8
import Derived.Test.YtfkndpjbkndhcaaQ9
import Derived.Test.YtfkndpjbkndhcaaQ18
namespace Go.Proofs.Ytfkndpjbkndhcaa.Q
open Go.RowKit Go.Proofs.YtfkndpjbkndhcaaW.PrintWords Go.Proofs.YtfkndpjbkndhcaaW.PrintLast Go.Proofs.YtfkndpjbkndhcaaW.PrintMore
attribute [local go_sem] max2_int min2_int max_two min_two max_three min_three max_four min_four   -- for this text's walks alone
set_option linter.unusedVariables false
set_option linter.unusedSimpArgs false

/-! ### impl_BuildFrom: function 22 -/
def impl_BuildFrom.l0 : Nat → List Int → Int → Int → Int → Int → Int → List (S48) → Int → List Int → Option (Int × List Int)
  | 0, _, _, _, _, _, _, _, _, _ => none
  | k + 1, x1, x18, x19, x480000, x480001, x480002, x480003, x486000, x486001 => if x19 < x18 then ((impl_SpanOf.f x480001 x480002 x19).bind fun bt487 => ((impl_PlaceOf.f k x1 x480000 x480001 x480002 x480003 x19).bind fun t489 => (if t489 ≥ 0 then (if 0 ≤ t489 then (if t489 ≤ (wrap64 (t489 + bt487.2)) then (if (wrap64 (t489 + bt487.2)) ≤ (x1.length : Int) then ((some ((0 : Int), (0 : Int))).bind fun bt491 => ((impl_Build_put.f x486000 x486001 x480001 x480002 x19 ((x1.take ((wrap64 (t489 + bt487.2)) : Int).toNat).drop (t489 : Int).toNat)).bind fun bt493 => (impl_BuildFrom.l0 k x1 x18 (wrap64 (x19 + 1)) x480000 x480001 x480002 x480003 bt493.1 bt493.2))) else (none)) else (none)) else (none)) else (impl_BuildFrom.l0 k x1 x18 (wrap64 (x19 + 1)) x480000 x480001 x480002 x480003 x486000 x486001)))) else (some (x486000, x486001))
def impl_BuildFrom.f (k : Nat) (a0_0 : Int) (a0_1 : Int) (a0_2 : Int) (l0_3 : List (S48)) (l1 : List Int) : Option (Int × List Int) := (impl_BuildNew.f k a0_0 a0_1 a0_2 l0_3).bind fun bt481 => ((impl_ManOk.f k a0_0 a0_1 a0_2 l0_3).bind fun t486 => (if t486 = true then (impl_BuildFrom.l0 k l1 (l0_3.length : Int) 0 a0_0 a0_1 a0_2 l0_3 bt481.1 bt481.2) else (some (bt481.1, bt481.2))))
theorem impl_BuildFrom.mono_l : ∀ k, (∀ y0 y1 y2 y3 y4 y5 y6 y7 y8, LeO (impl_BuildFrom.l0 k y0 y1 y2 y3 y4 y5 y6 y7 y8) (impl_BuildFrom.l0 (k + 1) y0 y1 y2 y3 y4 y5 y6 y7 y8))
  | 0 => fun _ _ _ _ _ _ _ _ _ r h => by simp [impl_BuildFrom.l0] at h
  | k + 1 => by
    have m0_ := @impl_BuildNew.mono
    have m1_ := @impl_ManOk.mono
    have m2_ := @impl_PlaceOf.mono
    have m3_ := @impl_SumOf.mono
    have ih0 := impl_BuildFrom.mono_l k
    · intro y0 y1 y2 y3 y4 y5 y6 y7 y8
      unfold impl_BuildFrom.l0
      exact LM
theorem impl_BuildFrom.mono : ∀ a0 a1 a2 a3 a4 k, LeO (impl_BuildFrom.f k a0 a1 a2 a3 a4) (impl_BuildFrom.f (k + 1) a0 a1 a2 a3 a4) := by
  intro a0 a1 a2 a3 a4 k
  have m0_ := @impl_BuildNew.mono
  have m1_ := @impl_ManOk.mono
  have m2_ := @impl_PlaceOf.mono
  have m3_ := @impl_SumOf.mono
  have ih0 := impl_BuildFrom.mono_l k
  unfold impl_BuildFrom.f
  exact LM
set_option maxHeartbeats 40000000 in
set_option maxRecDepth 100000 in
theorem impl_BuildFrom.calls (k : Nat) (al : Int) (ah : Int) (ai : Int) (ao : Option Addr) (an : Nat) (ae : List (S48)) (A1 : Option Addr) (c1 : Nat) (l1 : List Int) (r1 : Int) (r2 : List Int) (w : World) (aG : Kd.C k48 w ao ae.length ae) (aF : ae.length ≤ an) (hr1 : Kd.C (Kd.int .u8) w A1 l1.length l1) (hc1 : l1.length ≤ c1) (h : impl_BuildFrom.f k al ah ai ae l1 = some (r1, r2)) :
  Calls Try.prog 22 #[.agg #[.int .i64 al, .int .i64 ah, .int .i64 ai, .slice ao ae.length an], .slice A1 l1.length c1] w fun e w' => ∃ v1_ : Value, e = .returned (.agg #[.int .i64 r1, v1_]) ∧ Kd.R (Kd.int .u8) 5 w' w.heap.size (fun _ => True) v1_ r2 ∧ Below w.heap.size w w' := by
 have hu28 := Try.underlying28
 have hu31 := Try.underlying31
 have av := aM aG
 have aw := aM aF
 clear aG aF
 have HR1 := aM hr1
 have HC1 := aM hc1
 clear hr1 hc1
 have HB := aM (Below.refl w.heap.size w)
 have H := h
 clear h
 unfold impl_BuildFrom.f at H
 replace H := bE H
 obtain ⟨⟨ap, au⟩, A3, H⟩ := H
 dsimp only at H
 replace H := bE H
 obtain ⟨t486, A4, H⟩ := H
 go_enter Try.func22, Try.ntmps22
 go_wp2_with (first | ((with_reducible refine gate_dst (N := 2) rfl ?_); refine gBx 2 #[.int .i64 al, .int .i64 ah, .int .i64 ai, .slice ao ae.length an] 28 ?_; intro am hg w6 hbox hb; have aa := aM (hbox); have GW479 := aM ((by rw [hg]; exact (below_size TB) : w.heap.size ≤ am)); have GE479 := aM ((by rw [hg]; exact (below_size TB) : w.heap.size ≤ am)); replace HB := aM (below_step TB hb); clear hb hbox hg) | ((with_reducible refine gate_dst (N := 4) rfl ?_); refine gBx 4 #[.int .i64 0, .slice none 0 0] 31 ?_; intro gb480 hg w7 hbox hb; have ab := aM (hbox); have GW480 := aM ((by rw [hg]; exact (below_size TB) : w.heap.size ≤ gb480)); have GE480 := aM ((by rw [hg]; exact (below_size TB) : w.heap.size ≤ gb480)); have NB479_480 := aM ((by rw [hg]; exact Nat.ne_of_lt (blk_lt (by have X_ := aa.out; exact TX)) : am ≠ gb480)); have NB480_479 := aM ((by rw [hg]; exact Nat.ne_of_gt (blk_lt (by have X_ := aa.out; exact TX)) : gb480 ≠ am)); replace aa := aM (blk_below (by have X_ := aa.out; exact TX) hb); replace HB := aM (below_step TB hb); clear hb hbox hg; have hnb8 := NB479_480.out; have hnc8 := NB480_479.out; obtain ⟨a8, bc, ba, bd⟩ := cz4 aa.out; obtain ⟨be, bb, a7, a9⟩ := fz4 aa.out) | ((with_reducible refine gate_callee (f := 11) rfl ?_); refine gL (some 11) Try.func11 #[.agg #[.int .i64 al, .int .i64 ah, .int .i64 ai, .slice ao ae.length an]] ?_; (with_reducible refine (impl_BuildNew.calls k al ah ai _ _ ae ap au _ ?side1 ?side2 A3.out).mono ?_); (case side1 => have X_ := (Kd.C_below av.out HB.out); exact TC); (case side2 => exact aw.out); rintro e w10 ⟨v483, rfl, ho0, hb⟩; refine ⟨_, rfl, ?_⟩; have HO484 := aM (Kd.R_lower ho0 (below_size TB)); replace aa := aM (blk_below (by have X_ := aa.out; exact TX) hb); replace ab := aM (blk_below (by have X_ := ab.out; exact TX) hb); replace HB := aM (below_step TB hb); clear ho0 hb) | ((with_reducible refine gate_dst (N := 5) rfl ?_); refine gBx 5 #[.int .i64 0, .slice none 0 0] 31 ?_; intro gb485 hg w11 hbox hb; have ad := aM (hbox); have GW485 := aM ((by rw [hg]; exact (below_size TB) : w.heap.size ≤ gb485)); have GE485 := aM ((by rw [hg]; exact (below_size TB) : w.heap.size ≤ gb485)); have NB479_485 := aM ((by rw [hg]; exact Nat.ne_of_lt (blk_lt (by have X_ := aa.out; exact TX)) : am ≠ gb485)); have NB485_479 := aM ((by rw [hg]; exact Nat.ne_of_gt (blk_lt (by have X_ := aa.out; exact TX)) : gb485 ≠ am)); have NB480_485 := aM ((by rw [hg]; exact Nat.ne_of_lt (blk_lt (by have X_ := ab.out; exact TX)) : gb480 ≠ gb485)); have NB485_480 := aM ((by rw [hg]; exact Nat.ne_of_gt (blk_lt (by have X_ := ab.out; exact TX)) : gb485 ≠ gb480)); replace HO484 := aM (Kd.R_below (by have X_ := HO484.out; exact TR) hb); replace aa := aM (blk_below (by have X_ := aa.out; exact TX) hb); replace ab := aM (blk_below (by have X_ := ab.out; exact TX) hb); replace HB := aM (below_step TB hb); clear hb hbox hg; have hnb12 := NB485_479.out; have hnc12 := NB479_485.out; have hnb13 := NB485_480.out; have hnc13 := NB480_485.out; obtain ⟨aJ, aQ⟩ := cz2 ad.out; obtain ⟨aW, aO⟩ := fz2 ad.out; obtain ⟨Ao15, co15, eo15⟩ := Kd.R_slice HO484.out; subst eo15; obtain ⟨aP, aT, aV, aR⟩ := cz4 aa.out; obtain ⟨aI, aN, aZ, aS⟩ := fz4 aa.out) | ((with_reducible refine gate_callee (f := 64) rfl ?_); (with_reducible refine gate_dst (N := 13) rfl ?_); generalize hG_ : wpList _ _ _ _ _ _ = G_))
 subst hG_
 by_cases c17 : t486 = true
 ·subst c17
  replace H := ifT H
  have H' := aM H
  clear H
  go_wp2_with (first | ((with_reducible refine gate_callee (f := 64) rfl ?_); refine gL (some 13) Try.func64 #[.agg #[.int .i64 al, .int .i64 ah, .int .i64 ai, .slice ao ae.length an]] ?_; (with_reducible refine (impl_ManOk.calls k al ah ai _ _ ae true _ ?side1 ?side2 A4.out).mono ?_); (case side1 => exact Kd.C_below av.out TB); (case side2 => exact aw.out); rintro e w18 ⟨rfl, hb⟩; refine ⟨_, rfl, ?_⟩; replace HO484 := aM (Kd.R_below (by (with_reducible repeat (first | apply Kd.R_alloc | apply Kd.R_drewN | apply Kd.R_drew)); exact (R_off (Kd.R_types HO484.out ad.out (by decide)) TO)) hb); replace aa := aM (blk_below (g := am) (o := .cells #[.int .i64 al, .int .i64 ah, .int .i64 ai, .slice ao ae.length an] 28 (0, 0)) (by (with_reducible repeat (first | refine blk_drewN ?_ _ | refine blk_drew ?_ | refine blk_alloc ?_ _)); refine blk_far ?_ NB479_485.out _; (with_reducible repeat (first | refine blk_drewN ?_ _ | refine blk_drew ?_ | refine blk_alloc ?_ _)); refine blk_far ?_ NB479_485.out _; (with_reducible repeat (first | refine blk_drewN ?_ _ | refine blk_drew ?_ | refine blk_alloc ?_ _)); exact aa.out) hb); replace ab := aM (blk_below (g := gb480) (o := .cells #[.int .i64 0, .slice none 0 0] 31 (0, 0)) (by (with_reducible repeat (first | refine blk_drewN ?_ _ | refine blk_drew ?_ | refine blk_alloc ?_ _)); refine blk_far ?_ NB480_485.out _; (with_reducible repeat (first | refine blk_drewN ?_ _ | refine blk_drew ?_ | refine blk_alloc ?_ _)); refine blk_far ?_ NB480_485.out _; (with_reducible repeat (first | refine blk_drewN ?_ _ | refine blk_drew ?_ | refine blk_alloc ?_ _)); exact ab.out) hb); replace ad := aM (blk_below (g := gb485) (o := .cells #[.int .i64 ap, .slice Ao15 au.length co15] 31 (0, 0)) (by (with_reducible repeat (first | refine blk_drewN ?_ _ | refine blk_drew ?_ | refine blk_alloc ?_ _)); refine blk_put (cs := #[.int .i64 ap, .slice none 0 0]) ?_ 1 _ rfl; (with_reducible repeat (first | refine blk_drewN ?_ _ | refine blk_drew ?_ | refine blk_alloc ?_ _)); refine blk_put (cs := #[.int .i64 0, .slice none 0 0]) ?_ 0 _ rfl; (with_reducible repeat (first | refine blk_drewN ?_ _ | refine blk_drew ?_ | refine blk_alloc ?_ _)); exact ad.out) hb); replace HB := aM (below_step TB hb); clear hb; have hnb19 := NB479_480.out; have hnc19 := NB480_479.out; have hnb20 := NB479_485.out; have hnc20 := NB485_479.out; obtain ⟨aU, aY, aL, a6⟩ := cz4 aa.out; obtain ⟨aH, a5, aX, aK⟩ := fz4 aa.out))
  go_loopg [19] k (fun kq v19 w' => ∃ (ak : Int) (af : Int) (ag : List Int) (ar : Value), v19 = .int .i64 ak ∧ Aside0 (impl_BuildFrom.l0 kq l1 (ae.length : Int) ak al ah ai ae af ag = some (r1, r2)) ∧ Aside0 (kq ≤ k) ∧ Aside0 (Kd.R (Kd.int .u8) 5 w' w.heap.size (fun _ => True) ar ag) ∧ Aside0 (w'.heap[am]? = some (.cells #[.int .i64 al, .int .i64 ah, .int .i64 ai, (.slice ao ae.length an)] 28 (0, 0))) ∧ Aside0 (w'.heap[gb480]? = some (.cells #[.int .i64 0, (.slice none 0 0)] 31 (0, 0))) ∧ Aside0 (w'.heap[gb485]? = some (.cells #[.int .i64 af, ar] 31 (0, 0))) ∧ Aside0 (Below w.heap.size w w'))
  case atStart => exact ⟨(0), (ap), (au), (.slice Ao15 au.length co15), (by first | rfl | (simp; done) | (simp [*]; done)), H', ⟨Nat.le_refl _⟩, ⟨by have X_ := HO484.out; exact TR⟩, ⟨TK⟩, ⟨TK⟩, ⟨TK⟩, ⟨TB⟩⟩
  case round =>
   clear H'
   try clear c1
   try clear c2
   try clear p2
   try clear c6
   try clear c8
   try clear c11
   try clear c12
   try clear c13
   try clear c17
   try clear c19
   try clear c20
   try clear aJ
   try clear aQ
   try clear aP
   try clear aT
   try clear aV
   try clear aR
   try clear aU
   try clear aY
   try clear aL
   try clear a6
   try clear a8
   try clear bc
   try clear ba
   try clear bd
   try clear aW
   try clear aO
   try clear aI
   try clear aN
   try clear aZ
   try clear aS
   try clear aH
   try clear a5
   try clear aX
   try clear aK
   try clear be
   try clear bb
   try clear a7
   try clear a9
   obtain ⟨ak, af, ag, ar, rfl, HA, HK1, ac, aa, ab, ad, HB⟩ := hrel
   cases gk with
   | zero => exact absurd HA.out (by simp [impl_BuildFrom.l0])
   | succ k1 =>
    have H := HA.out
    clear HA
    simp only [impl_BuildFrom.l0] at H
    by_cases c22 : ak < (ae.length : Int)
    ·rw [if_pos c22] at H
     have c22b0 : decide (ak < (ae.length : Int)) = true := decide_eq_true c22
     clear c22
     replace H := bE H
     obtain ⟨⟨t487, aq⟩, A23, H⟩ := H
     dsimp only at H
     replace H := bE H
     obtain ⟨aj, A24, H⟩ := H
     have hnb25 := NB479_480.out
     have hnc25 := NB480_479.out
     have hnb26 := NB479_485.out
     have hnc26 := NB485_479.out
     obtain ⟨hcz27_0, hcz27_1, hcz27_2, hcz27_3⟩ := cz4 aa.out
     obtain ⟨hfz27_0, hfz27_1, hfz27_2, hfz27_3⟩ := fz4 aa.out
     go_wp2_with (first | ((with_reducible refine gate_callee (f := 66) rfl ?_); refine gL (some 28) Try.func66 #[.int .i64 ah, .int .i64 ai, .int .i64 ak] ?_; (with_reducible refine (impl_SpanOf.calls ah ai ak t487 aq _ A23.out).mono ?_); rintro e w28 ⟨rfl, hb⟩; refine ⟨_, rfl, ?_⟩; replace ac := aM (Kd.R_below (by have X_ := ac.out; exact TR) hb); replace aa := aM (blk_below (by have X_ := aa.out; exact TX) hb); replace ab := aM (blk_below (by have X_ := ab.out; exact TX) hb); replace ad := aM (blk_below (by have X_ := ad.out; exact TX) hb); replace HB := aM (below_step TB hb); clear hb; obtain ⟨hcz29_0, hcz29_1, hcz29_2, hcz29_3⟩ := cz4 aa.out; obtain ⟨hfz29_0, hfz29_1, hfz29_2, hfz29_3⟩ := fz4 aa.out) | ((with_reducible refine gate_callee (f := 33) rfl ?_); (with_reducible refine gate_dst (N := 34) rfl ?_); generalize hG_ : wpList _ _ _ _ _ _ = G_))
     subst hG_
     by_cases c30 : aj ≥ 0
     ·rw [if_pos c30] at H
      have c30b0 : decide (0 ≤ aj) = true := decide_eq_true c30
      clear c30
      replace H := ifN H
      obtain ⟨c31, H⟩ := H
      have c31b0 := eq_true c31
      have c31b1 : decide (0 ≤ aj) = true := decide_eq_true c31
      clear c31
      replace H := ifN H
      obtain ⟨c32, H⟩ := H
      have c32b0 := eq_true c32
      have c32b1 : decide (aj ≤ (wrap64 (aj + aq))) = true := decide_eq_true c32
      replace H := ifN H
      obtain ⟨c33, H⟩ := H
      have c33b0 := eq_true c33
      have c33b1 : decide ((wrap64 (aj + aq)) ≤ (l1.length : Int)) = true := decide_eq_true c33
      replace H := bE H
      obtain ⟨⟨t491, t492⟩, A34, H⟩ := H
      replace H := bE H
      obtain ⟨⟨aA, aB⟩, A35, H⟩ := H
      dsimp only at H
      have H' := aM H
      clear H
      try go_wp2_with (first | ((with_reducible refine gate_callee (f := 33) rfl ?_); refine gL (some 34) Try.func33 #[.slice A1 l1.length c1, .agg #[.int .i64 al, .int .i64 ah, .int .i64 ai, .slice ao ae.length an], .int .i64 ak] ?_; (with_reducible refine (impl_PlaceOf.calls k1 _ _ l1 al ah ai _ _ ae ak aj _ ?side1 ?side2 ?side3 ?side4 A24.out).mono ?_); (case side1 => repeat (first | exact (Kd.C_below HR1.out TB) | (with_reducible refine Kd.C_alloc ?_ _) | (with_reducible refine Kd.C_drewN ?_ _) | (with_reducible refine Kd.C_drew ?_))); (case side2 => exact HC1.out); (case side3 => repeat (first | exact (Kd.C_below av.out TB) | (with_reducible refine Kd.C_alloc ?_ _) | (with_reducible refine Kd.C_drewN ?_ _) | (with_reducible refine Kd.C_drew ?_))); (case side4 => exact aw.out); rintro e w36 ⟨rfl, hb⟩; refine ⟨_, rfl, ?_⟩; replace ac := aM (Kd.R_below (by have X_ := ac.out; exact TR) hb); replace aa := aM (blk_below (by have X_ := aa.out; exact TX) hb); replace ab := aM (blk_below (by have X_ := ab.out; exact TX) hb); replace ad := aM (blk_below (by have X_ := ad.out; exact TX) hb); replace HB := aM (below_step TB hb); clear hb))
      replace ac := aM (Kd.R_drew ac.out)
      replace aa := aM (blk_drew aa.out)
      replace ab := aM (blk_drew ab.out)
      replace ad := aM (blk_drew ad.out)
      replace HB := aM (below_drew1 HB.out)
      obtain ⟨i038, aD, _, aE, _⟩ := info_parts info5
      obtain ⟨A38, hcut38, hA38, hC38⟩ := print_mid_of (P := Try.prog) (Value.int .u8) 0 22 5 .i64 .i64 Try.underlying22 aD aE A1 c1 l1 aj (wrap64 (aj + aq)) DT (by first | omega | exact DT) DT HC1.out
      have aC := aM (Kd.C_of_reads (h1 := fun _ => rfl) (hA38 _ (Kd.reads_of_C HR1.out)))
      have HC490 := aM hC38
      clear hA38 hC38 aD aE
      refine start_ (n := 9) (S := fun w' => w'.cell? ⟨am, 0, none⟩ = some (.int .i64 al) ∧ w'.cell? ⟨am, 1, none⟩ = some (.int .i64 ah) ∧ w'.cell? ⟨am, 2, none⟩ = some (.int .i64 ai) ∧ w'.cell? ⟨am, 3, none⟩ = some (.slice ao ae.length an)) (ds := []) (Array.replicate 9 false) (by kernel_rfl) rfl rfl (cz4 aa.out) (fun hHeld => ?_)
      generalize w36.drew = w37 at ac aa ab ad HB aC hHeld ⊢
      refine pP 1 (some 38) ?_
      refine pP 2 (some 39) ?_
      refine pP 3 (some 40) ?_
      refine pP 4 (some 41) ?_
      refine pP 5 (some 42) ?_
      refine pP 6 (some 43) ?_
      refine pP 7 (some 44) ?_
      refine pT 0 (some 37) ?_
      obtain ⟨ay, ax, eo43⟩ := Kd.R_slice ac.out
      subst eo43
      refine pO 8 (some 45) (fun K hK => ?_)
      refine goes_ Try.func69 (by kernel_rfl) rfl #[.pointer (some ⟨gb485, 0, none⟩), .agg #[.int .i64 al, .int .i64 ah, .int .i64 ai, .slice ao ae.length an], .int .i64 ak, .slice A38 ((l1.take ((wrap64 (aj + aq)) : Int).toNat).drop (aj : Int).toNat).length (c1 - aj.toNat)] (by rfl) rfl rfl (by (try simp only [List.map_toArray, List.map_cons, List.map_nil]); first | done | (rw [show ((l1.take ((wrap64 (aj + aq)) : Int).toNat).drop (aj : Int).toNat).length = ((wrap64 (aj + aq)).toNat - aj.toNat) from (by rw [List.length_drop, List.length_take]; have h_ : ((wrap64 (aj + aq)) : Int) ≤ (l1.length : Int) := DT; omega)] <;> rfl) | rfl | (simp only [List.length_drop, List.length_take]; rfl)) ?_
      with_reducible refine (impl_Build_put.calls gb485 ay ax _ _ _ _ _ _ _ _ _ _ _ _ _ _ (fun _ => True) w _ ?p1 ?p2 ?p3 ?p4 ?p5 A35.out).mono ?_
      (case p1 => exact TB)
      (case p2 => exact GW485.out)
      (case p3 => have X_ := ad.out; exact TX)
      (case p4 => exact Kd.R_mono (by have X_ := ac.out; exact TR) (fun _ _ => trivial))
      (case p5 => have X_ := (Kd.C_below aC.out HB.out); exact TC)
      rintro e w44 ⟨rfl, hl_, hG_, hO_, hb_, hk_⟩
      refine ⟨_, rfl, ?_⟩
      obtain ⟨wv_, hv1_, hv2_, az⟩ := virt_ (.int .i64 af) (.slice ay ag.length ax) hG_
      replace aa := aM (blk_kept (by have X_ := aa.out; exact TX) hk_ (fun q_ => Or.elim q_ (fun e_ => NB479_485.out e_) (fun e_ => Kd.R_ne ac.out (by have X_ := aa.out; exact TX) (by decide) e_)))
      replace ab := aM (blk_kept (by have X_ := ab.out; exact TX) hk_ (fun q_ => Or.elim q_ (fun e_ => NB480_485.out e_) (fun e_ => Kd.R_ne ac.out (by have X_ := ab.out; exact TX) (by decide) e_)))
      have HO496 := aM (Kd.R_mono (ok' := fun _ => True) (Kd.R_move (Kd.R_types hO_ hG_ (by decide)) (fun k_ q_ => az.2.2 k_ q_.2)) (fun _ _ => trivial))
      clear ac
      replace ad := aM hG_
      refine hK.out _ _ (cz4 aa.out) (fun hHeld => ?_)
      clear hK K
      refine nR ?_
      refine done_ (by kernel_rfl) ?_
      clear hHeld
      replace aa := aM ((az.2.2 _ NB479_485.out).trans aa.out)
      replace ab := aM ((az.2.2 _ NB480_485.out).trans ab.out)
      replace ad := aM hv2_
      replace HB := aM (az.below hb_ GW485.out)
      clear hl_ hG_ hO_ hb_ hk_ hv2_ az
      subst hv1_
      obtain ⟨hcz45_0, hcz45_1⟩ := cz2 ad.out
      obtain ⟨hfz45_0, hfz45_1⟩ := fz2 ad.out
      try go_wp2
      go_roundg k1
      case measure => have := HK1.out; omega
      case rel => exact ⟨(wrap64 (ak + 1)), (aA), (aB), (.slice ay aB.length ax), (by first | rfl | (simp; done) | (simp [*]; done)), H', ⟨by have := HK1.out; omega⟩, ⟨by (with_reducible repeat (first | apply Kd.R_alloc | apply Kd.R_drewN | apply Kd.R_drew)); exact Kd.R_mono (Kd.R_far (p := ⟨gb485, 1, none⟩) (Kd.R_far (p := ⟨gb485, 0, none⟩) (Kd.R_types HO496.out ad.out (by decide)) (fun _ hk => hk.2) (.int .i64 aA)) (fun _ hk => hk.2) (.slice ay aB.length ax)) (fun _ hk => trivial)⟩, ⟨by (with_reducible repeat (first | refine blk_drewN ?_ _ | refine blk_drew ?_ | refine blk_alloc ?_ _)); refine blk_far ?_ NB479_485.out _; (with_reducible repeat (first | refine blk_drewN ?_ _ | refine blk_drew ?_ | refine blk_alloc ?_ _)); refine blk_far ?_ NB479_485.out _; (with_reducible repeat (first | refine blk_drewN ?_ _ | refine blk_drew ?_ | refine blk_alloc ?_ _)); exact aa.out⟩, ⟨by (with_reducible repeat (first | refine blk_drewN ?_ _ | refine blk_drew ?_ | refine blk_alloc ?_ _)); refine blk_far ?_ NB480_485.out _; (with_reducible repeat (first | refine blk_drewN ?_ _ | refine blk_drew ?_ | refine blk_alloc ?_ _)); refine blk_far ?_ NB480_485.out _; (with_reducible repeat (first | refine blk_drewN ?_ _ | refine blk_drew ?_ | refine blk_alloc ?_ _)); exact ab.out⟩, ⟨by (with_reducible repeat (first | refine blk_drewN ?_ _ | refine blk_drew ?_ | refine blk_alloc ?_ _)); refine blk_put (cs := #[.int .i64 aA, .slice ay ag.length ax]) ?_ 1 _ rfl; (with_reducible repeat (first | refine blk_drewN ?_ _ | refine blk_drew ?_ | refine blk_alloc ?_ _)); refine blk_put (cs := #[.int .i64 af, .slice ay ag.length ax]) ?_ 0 _ rfl; (with_reducible repeat (first | refine blk_drewN ?_ _ | refine blk_drew ?_ | refine blk_alloc ?_ _)); exact ad.out⟩, ⟨TB⟩⟩
     ·rw [if_neg c30] at H
      have c30b0 : decide (0 ≤ aj) = false := decide_eq_false c30
      clear c30
      have H' := aM H
      clear H
      go_wp2_with (first | ((with_reducible refine gate_callee (f := 33) rfl ?_); refine gL (some 34) Try.func33 #[.slice A1 l1.length c1, .agg #[.int .i64 al, .int .i64 ah, .int .i64 ai, .slice ao ae.length an], .int .i64 ak] ?_; (with_reducible refine (impl_PlaceOf.calls k1 _ _ l1 al ah ai _ _ ae ak aj _ ?side1 ?side2 ?side3 ?side4 A24.out).mono ?_); (case side1 => repeat (first | exact (Kd.C_below HR1.out TB) | (with_reducible refine Kd.C_alloc ?_ _) | (with_reducible refine Kd.C_drewN ?_ _) | (with_reducible refine Kd.C_drew ?_))); (case side2 => exact HC1.out); (case side3 => repeat (first | exact (Kd.C_below av.out TB) | (with_reducible refine Kd.C_alloc ?_ _) | (with_reducible refine Kd.C_drewN ?_ _) | (with_reducible refine Kd.C_drew ?_))); (case side4 => exact aw.out); rintro e w47 ⟨rfl, hb⟩; refine ⟨_, rfl, ?_⟩; replace ac := aM (Kd.R_below (by have X_ := ac.out; exact TR) hb); replace aa := aM (blk_below (by have X_ := aa.out; exact TX) hb); replace ab := aM (blk_below (by have X_ := ab.out; exact TX) hb); replace ad := aM (blk_below (by have X_ := ad.out; exact TX) hb); replace HB := aM (below_step TB hb); clear hb))
      go_roundg k1
      case measure => have := HK1.out; omega
      case rel => exact ⟨(wrap64 (ak + 1)), (af), (ag), (ar), (by first | rfl | (simp; done) | (simp [*]; done)), H', ⟨by have := HK1.out; omega⟩, ⟨by have X_ := ac.out; exact TR⟩, ⟨TK⟩, ⟨TK⟩, ⟨TK⟩, ⟨TB⟩⟩
    ·rw [if_neg c22] at H
     have c22b0 : decide (ak < (ae.length : Int)) = false := decide_eq_false c22
     clear c22
     simp only [Option.some.injEq, Prod.mk.injEq] at H
     obtain ⟨rfl, rfl⟩ := H
     have hnb48 := NB485_479.out
     have hnc48 := NB479_485.out
     have hnb49 := NB485_480.out
     have hnc49 := NB480_485.out
     obtain ⟨hcz50_0, hcz50_1⟩ := cz2 ad.out
     obtain ⟨hfz50_0, hfz50_1⟩ := fz2 ad.out
     have hnb51 := NB480_479.out
     have hnc51 := NB479_480.out
     obtain ⟨hcz52_0, hcz52_1⟩ := cz2 ab.out
     obtain ⟨hfz52_0, hfz52_1⟩ := fz2 ab.out
     obtain ⟨Ao53, co53, eo53⟩ := Kd.R_slice ac.out
     subst eo53
     go_wp2
     refine bodyPost_ret (results_cell_row rfl _ _ gb480 31 #[.int .i64 af, .slice Ao53 ag.length co53] (0, 0) _ rfl (by (with_reducible repeat (first | refine blk_drewN ?_ _ | refine blk_drew ?_ | refine blk_alloc ?_ _)); refine blk_put (cs := #[.int .i64 af, .slice none 0 0]) ?_ 1 _ rfl; (with_reducible repeat (first | refine blk_drewN ?_ _ | refine blk_drew ?_ | refine blk_alloc ?_ _)); refine blk_put (cs := #[.int .i64 0, .slice none 0 0]) ?_ 0 _ rfl; (with_reducible repeat (first | refine blk_drewN ?_ _ | refine blk_drew ?_ | refine blk_alloc ?_ _)); exact ab.out) Try.underlying31 rfl (by kernel_rfl)) rfl ?_
     exact ⟨_, by first | rfl | (simp [errW_none, errW_some] <;> rfl) | (simp [*, errW_none, errW_some] <;> rfl), by (with_reducible repeat (first | apply Kd.R_alloc | apply Kd.R_drewN | apply Kd.R_drew)); exact Kd.R_mono (Kd.R_far (p := ⟨gb480, 1, none⟩) (Kd.R_far (p := ⟨gb480, 0, none⟩) (Kd.R_types ac.out ab.out (by decide)) (fun _ hk => hk.2) (.int .i64 af)) (fun _ hk => hk.2) (.slice Ao53 ag.length co53)) (fun _ hk => trivial), TB⟩
 ·replace c17 := Bool.eq_false_iff.mpr c17
  subst c17
  replace H := ifF H
  simp only [Option.some.injEq, Prod.mk.injEq] at H
  obtain ⟨rfl, rfl⟩ := H
  go_wp2_with (first | ((with_reducible refine gate_callee (f := 64) rfl ?_); refine gL (some 13) Try.func64 #[.agg #[.int .i64 al, .int .i64 ah, .int .i64 ai, .slice ao ae.length an]] ?_; (with_reducible refine (impl_ManOk.calls k al ah ai _ _ ae false _ ?side1 ?side2 A4.out).mono ?_); (case side1 => exact Kd.C_below av.out TB); (case side2 => exact aw.out); rintro e w54 ⟨rfl, hb⟩; refine ⟨_, rfl, ?_⟩; replace HO484 := aM (Kd.R_below (by (with_reducible repeat (first | apply Kd.R_alloc | apply Kd.R_drewN | apply Kd.R_drew)); exact (R_off (Kd.R_types HO484.out ad.out (by decide)) TO)) hb); replace aa := aM (blk_below (g := am) (o := .cells #[.int .i64 al, .int .i64 ah, .int .i64 ai, .slice ao ae.length an] 28 (0, 0)) (by (with_reducible repeat (first | refine blk_drewN ?_ _ | refine blk_drew ?_ | refine blk_alloc ?_ _)); refine blk_far ?_ NB479_485.out _; (with_reducible repeat (first | refine blk_drewN ?_ _ | refine blk_drew ?_ | refine blk_alloc ?_ _)); refine blk_far ?_ NB479_485.out _; (with_reducible repeat (first | refine blk_drewN ?_ _ | refine blk_drew ?_ | refine blk_alloc ?_ _)); exact aa.out) hb); replace ab := aM (blk_below (g := gb480) (o := .cells #[.int .i64 0, .slice none 0 0] 31 (0, 0)) (by (with_reducible repeat (first | refine blk_drewN ?_ _ | refine blk_drew ?_ | refine blk_alloc ?_ _)); refine blk_far ?_ NB480_485.out _; (with_reducible repeat (first | refine blk_drewN ?_ _ | refine blk_drew ?_ | refine blk_alloc ?_ _)); refine blk_far ?_ NB480_485.out _; (with_reducible repeat (first | refine blk_drewN ?_ _ | refine blk_drew ?_ | refine blk_alloc ?_ _)); exact ab.out) hb); replace ad := aM (blk_below (g := gb485) (o := .cells #[.int .i64 ap, .slice Ao15 au.length co15] 31 (0, 0)) (by (with_reducible repeat (first | refine blk_drewN ?_ _ | refine blk_drew ?_ | refine blk_alloc ?_ _)); refine blk_put (cs := #[.int .i64 ap, .slice none 0 0]) ?_ 1 _ rfl; (with_reducible repeat (first | refine blk_drewN ?_ _ | refine blk_drew ?_ | refine blk_alloc ?_ _)); refine blk_put (cs := #[.int .i64 0, .slice none 0 0]) ?_ 0 _ rfl; (with_reducible repeat (first | refine blk_drewN ?_ _ | refine blk_drew ?_ | refine blk_alloc ?_ _)); exact ad.out) hb); replace HB := aM (below_step TB hb); clear hb; have hnb55 := NB485_479.out; have hnc55 := NB479_485.out; have hnb56 := NB485_480.out; have hnc56 := NB480_485.out; obtain ⟨hcz57_0, hcz57_1⟩ := cz2 ad.out; obtain ⟨hfz57_0, hfz57_1⟩ := fz2 ad.out; have hnb58 := NB480_479.out; have hnc58 := NB479_480.out; obtain ⟨hcz59_0, hcz59_1⟩ := cz2 ab.out; obtain ⟨hfz59_0, hfz59_1⟩ := fz2 ab.out))
  refine bodyPost_ret (results_cell_row rfl _ _ gb480 31 #[.int .i64 ap, .slice Ao15 au.length co15] (0, 0) _ rfl (by (with_reducible repeat (first | refine blk_drewN ?_ _ | refine blk_drew ?_ | refine blk_alloc ?_ _)); refine blk_put (cs := #[.int .i64 ap, .slice none 0 0]) ?_ 1 _ rfl; (with_reducible repeat (first | refine blk_drewN ?_ _ | refine blk_drew ?_ | refine blk_alloc ?_ _)); refine blk_put (cs := #[.int .i64 0, .slice none 0 0]) ?_ 0 _ rfl; (with_reducible repeat (first | refine blk_drewN ?_ _ | refine blk_drew ?_ | refine blk_alloc ?_ _)); exact ab.out) Try.underlying31 rfl (by kernel_rfl)) rfl ?_
  exact ⟨_, by first | rfl | (simp [errW_none, errW_some] <;> rfl) | (simp [*, errW_none, errW_some] <;> rfl), by (with_reducible repeat (first | apply Kd.R_alloc | apply Kd.R_drewN | apply Kd.R_drew)); exact Kd.R_mono (Kd.R_far (p := ⟨gb480, 1, none⟩) (Kd.R_far (p := ⟨gb480, 0, none⟩) (Kd.R_types HO484.out ab.out (by decide)) (fun _ hk => hk.2) (.int .i64 ap)) (fun _ hk => hk.2) (.slice Ao15 au.length co15)) (fun _ hk => trivial), TB⟩

end Go.Proofs.Ytfkndpjbkndhcaa.Q
