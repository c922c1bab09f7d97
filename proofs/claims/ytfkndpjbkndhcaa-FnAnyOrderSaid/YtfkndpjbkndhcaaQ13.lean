/- Functions of the program as plain Lean functions, and that a call of each comes to what its function tells. Written by a program of this seat. -/
import Derived.Test.YtfkndpjbkndhcaaQ0
import Derived.Test.YtfkndpjbkndhcaaQ1
import Derived.Test.YtfkndpjbkndhcaaQ3
import Derived.Test.YtfkndpjbkndhcaaQ5
import Derived.Test.YtfkndpjbkndhcaaQ9
import Derived.Test.YtfkndpjbkndhcaaQ12
namespace Go.Proofs.Ytfkndpjbkndhcaa.Q
open Go.RowKit Go.Proofs.YtfkndpjbkndhcaaW.PrintWords Go.Proofs.YtfkndpjbkndhcaaW.PrintLast Go.Proofs.YtfkndpjbkndhcaaW.PrintMore
attribute [local go_sem] max2_int min2_int max_two min_two max_three min_three max_four min_four   -- for this text's walks alone
set_option linter.unusedVariables false
set_option linter.unusedSimpArgs false

attribute [local go_sem high] eqA48
/-! ### impl_PutPiece: function 14 -/
def impl_PutPiece.f (k : Nat) (a0_0 : Int) (a0_1 : Int) (a0_2 : Int) (l0_3 : List (S48)) (a1_0 : Int) (l1_1 : List Int) (a2 : Int) (l3 : List Int) : Option (Int × List Int × Bool) := (impl_copyBuild.f a1_0 l1_1).bind fun bt272 => ((impl_BuildOk.f k a0_0 a0_1 a0_2 l0_3 a1_0 l1_1).bind fun t277 => (if t277 = true then ((impl_within.f a2 0 (wrap64 ((l0_3.length : Int) - 1))).bind fun t278 => (if t278 = true then ((impl_InSet.f a1_0 a2).bind fun t279 => (if t279 = true then (some (bt272.1, bt272.2, false)) else ((impl_SumOf.f k l3).bind fun bt280 => (if 0 ≤ a2 then (if a2 < (l0_3.length : Int) then (if (!(bt280.1 == ((rd_T48 l0_3 a2).f0)) || (!(bt280.2 == ((rd_T48 l0_3 a2).f1)))) = true then (some (bt272.1, bt272.2, false)) else ((impl_Build_put.f bt272.1 bt272.2 a0_1 a0_2 a2 l3).bind fun bt283 => (some (bt283.1, bt283.2, true)))) else (none)) else (none))))) else (some (bt272.1, bt272.2, false)))) else (some (bt272.1, bt272.2, false))))
theorem impl_PutPiece.mono : ∀ a0 a1 a2 a3 a4 a5 a6 a7 k, LeO (impl_PutPiece.f k a0 a1 a2 a3 a4 a5 a6 a7) (impl_PutPiece.f (k + 1) a0 a1 a2 a3 a4 a5 a6 a7) := by
  intro a0 a1 a2 a3 a4 a5 a6 a7 k
  have m0_ := @impl_BuildOk.mono
  have m1_ := @impl_SumOf.mono
  unfold impl_PutPiece.f
  exact LM
def impl_PutPiece.T2 : Bool × List (List Nat × List Nat) := (true, [([], []), ([], []), ([0, 1], [0, 1]), ([2], [2]), ([3, 2], [3]), ([4], [4]), ([4], [4]), ([6, 4], [4, 6]), ([7, 4], [4, 7]), ([8, 4], [4, 8]), ([5, 9, 4, 4], [4, 5, 9]), ([10, 4], [4, 10]), ([4, 11], [4, 11]), ([12, 10], [12]), ([13], [13]), ([14, 13], [13, 14]), ([13], [13]), ([15, 16, 13, 13], [13, 15, 16]), ([13, 17], [13, 17]), ([18, 17], [18]), ([19], [19]), ([20, 19, 19], [19, 20]), ([19], [19]), ([22, 19], [19, 22]), ([19], [19]), ([23, 24, 19], [19, 23, 24]), ([25, 19], [19, 25]), ([21, 26, 19], [19, 21, 26]), ([19, 27], [19, 27])])
def impl_PutPiece.B2 : List Nat := [0, 0, 3, 7, 15, 31, 31, 95, 223, 479, 1023, 2047, 4095, 8191, 16383, 32767, 16383, 131071, 262143, 524287, 1048575, 2097151, 1048575, 5242879, 1048575, 30408703, 63963135, 134217727, 268435455]
theorem impl_PutPiece.tab2 : rtab .any (opsOf Try.f14 2) = impl_PutPiece.T2 := by kernel_rfl
theorem impl_PutPiece.bits2 : waitsOk impl_PutPiece.T2.2 impl_PutPiece.B2 = true := by kernel_rfl
set_option maxHeartbeats 40000000 in
set_option maxRecDepth 100000 in
theorem impl_PutPiece.calls (k : Nat) (an : Int) (al : Int) (am : Int) (ar : Option Addr) (aq : Nat) (ag : List (S48)) (aj : Int) (ap : Option Addr) (ao : Nat) (ak : List Int) (a2 : Int) (A3 : Option Addr) (c3 : Nat) (l3 : List Int) (r1 : Int) (r2 : List Int) (r3 : Bool) (w : World) (aO : Kd.C k48 w ar ag.length ag) (aN : ag.length ≤ aq) (aL : Kd.C (Kd.int .u8) w ap ak.length ak) (aP : ak.length ≤ ao) (hr3 : Kd.C (Kd.int .u8) w A3 l3.length l3) (hc3 : l3.length ≤ c3) (h : impl_PutPiece.f k an al am ag aj ak a2 l3 = some (r1, r2, r3)) :
  Calls Try.prog 14 #[.agg #[.int .i64 an, .int .i64 al, .int .i64 am, .slice ar ag.length aq], .agg #[.int .i64 aj, .slice ap ak.length ao], .int .i64 a2, .slice A3 l3.length c3] w fun e w' => ∃ v1_ : Value, e = .returned (.tuple #[.agg #[.int .i64 r1, v1_], .bool r3]) ∧ Kd.R (Kd.int .u8) 5 w' w.heap.size (fun _ => True) v1_ r2 ∧ Below w.heap.size w w' := by
 have hu28 := Try.underlying28
 have hu31 := Try.underlying31
 have hu48 := Try.underlying48
 have aB := aM aO
 have aE := aM aN
 clear aO aN
 have aA := aM aL
 have az := aM aP
 clear aL aP
 have HR3 := aM hr3
 have HC3 := aM hc3
 clear hr3 hc3
 have HB := aM (Below.refl w.heap.size w)
 have H := h
 clear h
 unfold impl_PutPiece.f at H
 replace H := bE H
 obtain ⟨⟨ai, ah⟩, A5, H⟩ := H
 dsimp only at H
 replace H := bE H
 obtain ⟨t277, A6, H⟩ := H
 go_enter Try.func14, Try.ntmps14
 go_wp2_with (first | ((with_reducible refine gate_dst (N := 4) rfl ?_); (try (refine gate_guard (by rfl) ?_; dsimp only)); refine gBx 4 #[.int .i64 an, .int .i64 al, .int .i64 am, .slice ar ag.length aq] 28 ?_; intro af hg w8 hbox hb; have aa := aM (hbox); have GW269 := aM ((by rw [hg]; exact (below_size TB) : w.heap.size ≤ af)); have GE269 := aM ((by rw [hg]; exact (below_size TB) : w.heap.size ≤ af)); replace HB := aM (below_step TB hb); clear hb hbox hg) | ((with_reducible refine gate_dst (N := 5) rfl ?_); (try (refine gate_guard (by rfl) ?_; dsimp only)); refine gBx 5 #[.int .i64 aj, .slice ap ak.length ao] 31 ?_; intro gb270 hg w9 hbox hb; have ab := aM (hbox); have GW270 := aM ((by rw [hg]; exact (below_size TB) : w.heap.size ≤ gb270)); have GE270 := aM ((by rw [hg]; exact (below_size TB) : w.heap.size ≤ gb270)); have NB269_270 := aM ((by rw [hg]; exact Nat.ne_of_lt (blk_lt (g := af) (o := .cells #[.int .i64 an, .int .i64 al, .int .i64 am, .slice ar ag.length aq] 28 (0, 0)) TK) : af ≠ gb270)); have NB270_269 := aM ((by rw [hg]; exact Nat.ne_of_gt (blk_lt (g := af) (o := .cells #[.int .i64 an, .int .i64 al, .int .i64 am, .slice ar ag.length aq] 28 (0, 0)) TK) : gb270 ≠ af)); replace aa := aM (blk_below (g := af) (o := .cells #[.int .i64 an, .int .i64 al, .int .i64 am, .slice ar ag.length aq] 28 (0, 0)) TK hb); replace HB := aM (below_step TB hb); clear hb hbox hg) | ((with_reducible refine gate_dst (N := 8) rfl ?_); (try (refine gate_guard (by rfl) ?_; dsimp only)); refine gBx 8 #[.int .i64 0, .slice none 0 0] 31 ?_; intro gb271 hg w10 hbox hb; have ae := aM (hbox); have GW271 := aM ((by rw [hg]; exact (below_size TB) : w.heap.size ≤ gb271)); have GE271 := aM ((by rw [hg]; exact (below_size TB) : w.heap.size ≤ gb271)); have NB269_271 := aM ((by rw [hg]; exact Nat.ne_of_lt (blk_lt (g := af) (o := .cells #[.int .i64 an, .int .i64 al, .int .i64 am, .slice ar ag.length aq] 28 (0, 0)) TK) : af ≠ gb271)); have NB271_269 := aM ((by rw [hg]; exact Nat.ne_of_gt (blk_lt (g := af) (o := .cells #[.int .i64 an, .int .i64 al, .int .i64 am, .slice ar ag.length aq] 28 (0, 0)) TK) : gb271 ≠ af)); have NB270_271 := aM ((by rw [hg]; exact Nat.ne_of_lt (blk_lt (g := gb270) (o := .cells #[.int .i64 aj, .slice ap ak.length ao] 31 (0, 0)) TK) : gb270 ≠ gb271)); have NB271_270 := aM ((by rw [hg]; exact Nat.ne_of_gt (blk_lt (g := gb270) (o := .cells #[.int .i64 aj, .slice ap ak.length ao] 31 (0, 0)) TK) : gb271 ≠ gb270)); replace aa := aM (blk_below (g := af) (o := .cells #[.int .i64 an, .int .i64 al, .int .i64 am, .slice ar ag.length aq] 28 (0, 0)) TK hb); replace ab := aM (blk_below (g := gb270) (o := .cells #[.int .i64 aj, .slice ap ak.length ao] 31 (0, 0)) TK hb); replace HB := aM (below_step TB hb); clear hb hbox hg; have hnb11 := NB270_269.out; have hnc11 := NB269_270.out; have hnb12 := NB270_271.out; have hnc12 := NB271_270.out; obtain ⟨hcz13_0, hcz13_1⟩ := cz2 ab.out; obtain ⟨hfz13_0, hfz13_1⟩ := fz2 ab.out) | ((with_reducible refine gate_callee (f := 68) rfl ?_); (with_reducible refine gate_dst (N := 12) rfl ?_); generalize hG_ : wpList _ _ _ _ _ _ = G_))
 subst hG_
 by_cases c14 : t277 = true
 ·subst c14
  replace H := ifT H
  replace H := bE H
  obtain ⟨t278, A15, H⟩ := H
  by_cases c16 : t278 = true
  ·subst c16
   replace H := ifT H
   replace H := bE H
   obtain ⟨t279, A17, H⟩ := H
   by_cases c18 : t279 = true
   ·subst c18
    replace H := ifT H
    simp only [Option.some.injEq, Prod.mk.injEq] at H
    obtain ⟨rfl, rfl, rfl⟩ := H
    try go_wp2_with (first | ((with_reducible refine gate_callee (f := 68) rfl ?_); refine gL (some 12) Try.func68 #[.agg #[.int .i64 aj, .slice ap ak.length ao]] ?_; (with_reducible refine (impl_copyBuild.calls aj _ _ ak ai ah _ ?side1 ?side2 A5.out).mono ?_); (case side1 => repeat (first | exact (Kd.C_below aA.out TB) | (with_reducible refine Kd.C_alloc ?_ _) | (with_reducible refine Kd.C_drewN ?_ _) | (with_reducible refine Kd.C_drew ?_))); (case side2 => exact az.out); rintro e w19 ⟨aH, rfl, ho0, hb⟩; refine ⟨_, rfl, ?_⟩; have ac := aM (Kd.R_lower ho0 (below_size TB)); replace aa := aM (blk_below (g := af) (o := .cells #[.int .i64 an, .int .i64 al, .int .i64 am, .slice ar ag.length aq] 28 (0, 0)) TK hb); replace ab := aM (blk_below (g := gb270) (o := .cells #[.int .i64 aj, .slice ap ak.length ao] 31 (0, 0)) TK hb); replace ae := aM (blk_below (g := gb271) (o := .cells #[.int .i64 0, .slice none 0 0] 31 (0, 0)) TK hb); replace HB := aM (below_step TB hb); clear ho0 hb) | ((with_reducible refine gate_dst (N := 10) rfl ?_); (try (refine gate_guard (by rfl) ?_; dsimp only)); refine gBx 10 #[.int .i64 0, .slice none 0 0] 31 ?_; intro gb276 hg w20 hbox hb; have ad := aM (hbox); have GW276 := aM ((by rw [hg]; exact (below_size TB) : w.heap.size ≤ gb276)); have GE276 := aM ((by rw [hg]; exact (below_size TB) : w.heap.size ≤ gb276)); have NB269_276 := aM ((by rw [hg]; exact Nat.ne_of_lt (blk_lt (g := af) (o := .cells #[.int .i64 an, .int .i64 al, .int .i64 am, .slice ar ag.length aq] 28 (0, 0)) TK) : af ≠ gb276)); have NB276_269 := aM ((by rw [hg]; exact Nat.ne_of_gt (blk_lt (g := af) (o := .cells #[.int .i64 an, .int .i64 al, .int .i64 am, .slice ar ag.length aq] 28 (0, 0)) TK) : gb276 ≠ af)); have NB270_276 := aM ((by rw [hg]; exact Nat.ne_of_lt (blk_lt (g := gb270) (o := .cells #[.int .i64 aj, .slice ap ak.length ao] 31 (0, 0)) TK) : gb270 ≠ gb276)); have NB276_270 := aM ((by rw [hg]; exact Nat.ne_of_gt (blk_lt (g := gb270) (o := .cells #[.int .i64 aj, .slice ap ak.length ao] 31 (0, 0)) TK) : gb276 ≠ gb270)); have NB271_276 := aM ((by rw [hg]; exact Nat.ne_of_lt (blk_lt (g := gb271) (o := .cells #[.int .i64 0, .slice none 0 0] 31 (0, 0)) TK) : gb271 ≠ gb276)); have NB276_271 := aM ((by rw [hg]; exact Nat.ne_of_gt (blk_lt (g := gb271) (o := .cells #[.int .i64 0, .slice none 0 0] 31 (0, 0)) TK) : gb276 ≠ gb271)); replace ac := aM (Kd.R_below (by have X_ := ac.out; exact TR) hb); replace aa := aM (blk_below (g := af) (o := .cells #[.int .i64 an, .int .i64 al, .int .i64 am, .slice ar ag.length aq] 28 (0, 0)) TK hb); replace ab := aM (blk_below (g := gb270) (o := .cells #[.int .i64 aj, .slice ap ak.length ao] 31 (0, 0)) TK hb); replace ae := aM (blk_below (g := gb271) (o := .cells #[.int .i64 0, .slice none 0 0] 31 (0, 0)) TK hb); replace HB := aM (below_step TB hb); clear hb hbox hg; have hnb21 := NB276_269.out; have hnc21 := NB269_276.out; have hnb22 := NB276_270.out; have hnc22 := NB270_276.out; have hnb23 := NB276_271.out; have hnc23 := NB271_276.out; obtain ⟨hcz24_0, hcz24_1⟩ := cz2 ad.out; obtain ⟨hfz24_0, hfz24_1⟩ := fz2 ad.out; obtain ⟨Ao25, co25, eo25⟩ := Kd.R_slice ac.out; subst eo25))
    have n0_ : Aside0 (Kd.R (Kd.int .u8) 5 ((w20.setCell ⟨gb276, 0, none⟩ (.int .i64 ai)).setCell ⟨gb276, 1, none⟩ (.slice Ao25 ah.length co25)) w.heap.size (fun _ => True) (.slice Ao25 ah.length co25) ah) := ⟨by (with_reducible repeat (first | apply Kd.R_alloc | apply Kd.R_drewN | apply Kd.R_drew)); exact Kd.R_mono (Kd.R_far (p := ⟨gb276, 1, none⟩) (Kd.R_far (p := ⟨gb276, 0, none⟩) (Kd.R_types ac.out ad.out (by decide)) (fun _ hk => hk.2) (.int .i64 ai)) (fun _ hk => hk.2) (.slice Ao25 ah.length co25)) (fun _ hk => trivial)⟩
    have n1_ : Aside0 (((w20.setCell ⟨gb276, 0, none⟩ (.int .i64 ai)).setCell ⟨gb276, 1, none⟩ (.slice Ao25 ah.length co25)).heap[af]? = some (.cells #[.int .i64 an, .int .i64 al, .int .i64 am, .slice ar ag.length aq] 28 (0, 0))) := ⟨by (with_reducible repeat (first | refine blk_drewN ?_ _ | refine blk_drew ?_ | refine blk_alloc ?_ _)); refine blk_far ?_ NB269_276.out _; (with_reducible repeat (first | refine blk_drewN ?_ _ | refine blk_drew ?_ | refine blk_alloc ?_ _)); refine blk_far ?_ NB269_276.out _; (with_reducible repeat (first | refine blk_drewN ?_ _ | refine blk_drew ?_ | refine blk_alloc ?_ _)); exact aa.out⟩
    have n2_ : Aside0 (((w20.setCell ⟨gb276, 0, none⟩ (.int .i64 ai)).setCell ⟨gb276, 1, none⟩ (.slice Ao25 ah.length co25)).heap[gb270]? = some (.cells #[.int .i64 aj, .slice ap ak.length ao] 31 (0, 0))) := ⟨by (with_reducible repeat (first | refine blk_drewN ?_ _ | refine blk_drew ?_ | refine blk_alloc ?_ _)); refine blk_far ?_ NB270_276.out _; (with_reducible repeat (first | refine blk_drewN ?_ _ | refine blk_drew ?_ | refine blk_alloc ?_ _)); refine blk_far ?_ NB270_276.out _; (with_reducible repeat (first | refine blk_drewN ?_ _ | refine blk_drew ?_ | refine blk_alloc ?_ _)); exact ab.out⟩
    have n3_ : Aside0 (((w20.setCell ⟨gb276, 0, none⟩ (.int .i64 ai)).setCell ⟨gb276, 1, none⟩ (.slice Ao25 ah.length co25)).heap[gb271]? = some (.cells #[.int .i64 0, .slice none 0 0] 31 (0, 0))) := ⟨by (with_reducible repeat (first | refine blk_drewN ?_ _ | refine blk_drew ?_ | refine blk_alloc ?_ _)); refine blk_far ?_ NB271_276.out _; (with_reducible repeat (first | refine blk_drewN ?_ _ | refine blk_drew ?_ | refine blk_alloc ?_ _)); refine blk_far ?_ NB271_276.out _; (with_reducible repeat (first | refine blk_drewN ?_ _ | refine blk_drew ?_ | refine blk_alloc ?_ _)); exact ae.out⟩
    have n4_ : Aside0 (((w20.setCell ⟨gb276, 0, none⟩ (.int .i64 ai)).setCell ⟨gb276, 1, none⟩ (.slice Ao25 ah.length co25)).heap[gb276]? = some (.cells #[.int .i64 ai, .slice Ao25 ah.length co25] 31 (0, 0))) := ⟨by (with_reducible repeat (first | refine blk_drewN ?_ _ | refine blk_drew ?_ | refine blk_alloc ?_ _)); refine blk_put (cs := #[.int .i64 ai, .slice none 0 0]) ?_ 1 _ rfl; (with_reducible repeat (first | refine blk_drewN ?_ _ | refine blk_drew ?_ | refine blk_alloc ?_ _)); refine blk_put (cs := #[.int .i64 0, .slice none 0 0]) ?_ 0 _ rfl; (with_reducible repeat (first | refine blk_drewN ?_ _ | refine blk_drew ?_ | refine blk_alloc ?_ _)); exact ad.out⟩
    have n5_ : Aside0 (Below w.heap.size w ((w20.setCell ⟨gb276, 0, none⟩ (.int .i64 ai)).setCell ⟨gb276, 1, none⟩ (.slice Ao25 ah.length co25))) := ⟨TB⟩
    (try clear ac)
    (try clear aa)
    (try clear ab)
    (try clear ae)
    (try clear ad)
    (try clear HB)
    generalize ((w20.setCell ⟨gb276, 0, none⟩ (.int .i64 ai)).setCell ⟨gb276, 1, none⟩ (.slice Ao25 ah.length co25)) = w26 at n0_ n1_ n2_ n3_ n4_ n5_ ⊢
    have ac := n0_
    have aa := n1_
    have ab := n2_
    have ae := n3_
    have ad := n4_
    have HB := n5_
    clear n0_ n1_ n2_ n3_ n4_ n5_
    replace ac := aM (Kd.R_drew ac.out)
    replace aa := aM (blk_drew aa.out)
    replace ab := aM (blk_drew ab.out)
    replace ae := aM (blk_drew ae.out)
    replace ad := aM (blk_drew ad.out)
    replace HB := aM (below_drew1 HB.out)
    refine start_ (n := 29) (S := fun w' => w'.cell? ⟨af, 0, none⟩ = some (.int .i64 an) ∧ w'.cell? ⟨af, 1, none⟩ = some (.int .i64 al) ∧ w'.cell? ⟨af, 2, none⟩ = some (.int .i64 am) ∧ w'.cell? ⟨af, 3, none⟩ = some (.slice ar ag.length aq) ∧ w'.cell? ⟨gb270, 0, none⟩ = some (.int .i64 aj) ∧ w'.cell? ⟨gb270, 1, none⟩ = some (.slice ap ak.length ao)) (ds := []) (Array.replicate 29 false) (by kernel_rfl) rfl rfl ⟨(blk_cell aa.out 0).trans rfl, (blk_cell aa.out 1).trans rfl, (blk_cell aa.out 2).trans rfl, (blk_cell aa.out 3).trans rfl, (blk_cell ab.out 0).trans rfl, (blk_cell ab.out 1).trans rfl⟩ (fun hHeld => ?_); refine with_tabW impl_PutPiece.tab2 impl_PutPiece.bits2 (fun HT_ HW_ => ?_)
    generalize w26.drew = w27 at ac aa ab ae ad HB ac hHeld ⊢
    refine pT 0 (some 13) ?_
    refine pT 1 (some 14) ?_
    refine pO 2 (some 15) (fun K hK => ?_)
    refine gG Try.func42 #[.agg #[.int .i64 an, .int .i64 al, .int .i64 am, .slice ar ag.length aq], .agg #[.int .i64 aj, .slice ap ak.length ao]] ?_
    with_reducible refine (impl_BuildOk.calls k an al am _ _ ag aj _ _ ak true _ ?side1 ?side2 ?side3 ?side4 A6.out).mono ?_
    (case side1 => have X_ := (Kd.C_below aB.out HB.out); exact TC)
    (case side2 => exact aE.out)
    (case side3 => have X_ := (Kd.C_below aA.out HB.out); exact TC)
    (case side4 => exact az.out)
    rintro e w28 ⟨rfl, hb⟩
    refine ⟨_, rfl, ?_⟩
    have n0_ := aM (Kd.R_below (by have X_ := ac.out; exact TR) hb)
    have n1_ := aM (blk_below (g := af) (o := .cells #[.int .i64 an, .int .i64 al, .int .i64 am, .slice ar ag.length aq] 28 (0, 0)) TK hb)
    have n2_ := aM (blk_below (g := gb270) (o := .cells #[.int .i64 aj, .slice ap ak.length ao] 31 (0, 0)) TK hb)
    have n3_ := aM (blk_below (g := gb271) (o := .cells #[.int .i64 0, .slice none 0 0] 31 (0, 0)) TK hb)
    have n4_ := aM (blk_below (g := gb276) (o := .cells #[.int .i64 ai, .slice Ao25 ah.length co25] 31 (0, 0)) TK hb)
    have n5_ := aM (below_step TB hb)
    clear ac
    clear aa
    clear ab
    clear ae
    clear ad
    clear HB
    have ac := n0_
    have aa := n1_
    have ab := n2_
    have ae := n3_
    have ad := n4_
    have HB := n5_
    clear n0_ n1_ n2_ n3_ n4_ n5_
    (try clear hb)
    (try clear hb2)
    (try clear hk)
    (try clear hi)
    refine hK.out _ _ ⟨(blk_cell aa.out 0).trans rfl, (blk_cell aa.out 1).trans rfl, (blk_cell aa.out 2).trans rfl, (blk_cell aa.out 3).trans rfl, (blk_cell ab.out 0).trans rfl, (blk_cell ab.out 1).trans rfl⟩ (fun hHeld => ?_)
    clear hK K
    refine nR ?_
    refine pP 3 (some 16) ?_
    refine pP 4 (some 17) ?_
    refine pP 5 (some 18) ?_
    refine pP 6 (some 19) ?_
    refine pT 7 (some 20) ?_
    refine pP 8 (some 21) ?_
    refine pP 9 (some 22) ?_
    refine pO 10 (some 23) (fun K hK => ?_)
    refine gG Try.func61 #[.int .i64 a2, .int .i64 0, .int .i64 (wrap64 ((ag.length : Int) - 1))] ?_
    with_reducible refine (impl_within.calls a2 0 (wrap64 ((ag.length : Int) - 1)) true _ A15.out).mono ?_
    rintro e w' ⟨rfl, ⟨nd, rfl⟩⟩
    refine ⟨_, rfl, ?_⟩
    refine hK.out _ _ ⟨(blk_cell aa.out 0).trans rfl, (blk_cell aa.out 1).trans rfl, (blk_cell aa.out 2).trans rfl, (blk_cell aa.out 3).trans rfl, (blk_cell ab.out 0).trans rfl, (blk_cell ab.out 1).trans rfl⟩ (fun hHeld => ?_)
    clear hK K
    refine nR ?_
    refine pP 11 (some 24) ?_
    refine pP 12 (some 25) ?_
    refine pP 13 (some 26) ?_
    refine pP 14 (some 27) ?_
    refine pP 16 (some 29) ?_
    refine pT 15 (some 28) ?_
    refine pO 17 (some 30) (fun K hK => ?_)
    refine gG Try.func37 #[.int .i64 aj, .int .i64 a2] ?_
    with_reducible refine (impl_InSet.calls aj a2 true _ A17.out).mono ?_
    rintro e w' ⟨rfl, ⟨nd, rfl⟩⟩
    refine ⟨_, rfl, ?_⟩
    refine hK.out _ _ ⟨(blk_cell aa.out 0).trans rfl, (blk_cell aa.out 1).trans rfl, (blk_cell aa.out 2).trans rfl, (blk_cell aa.out 3).trans rfl, (blk_cell ab.out 0).trans rfl, (blk_cell ab.out 1).trans rfl⟩ (fun hHeld => ?_)
    clear hK K
    refine nR ?_
    refine pP 18 (some 31) ?_
    refine pP 19 (some 32) ?_
    refine pX 20 (some 33) ?_
    refine pX 21 (some 34) ?_
    refine pX 22 (some 35) ?_
    refine pX 23 (some 36) ?_
    refine pX 24 (some 37) ?_
    refine pX 25 (some 38) ?_
    refine pX 26 (some 39) ?_
    refine pX 27 (some 40) ?_
    refine pP 28 (some 41) ?_
    refine done_ (done_of HT_.out (by kernel_rfl)) ?_
    obtain ⟨hcz29_0, hcz29_1⟩ := cz2 ad.out
    obtain ⟨hfz29_0, hfz29_1⟩ := fz2 ad.out
    have hnb30 := NB271_269.out
    have hnc30 := NB269_271.out
    have hnb31 := NB271_270.out
    have hnc31 := NB270_271.out
    obtain ⟨hcz32_0, hcz32_1⟩ := cz2 ae.out
    obtain ⟨hfz32_0, hfz32_1⟩ := fz2 ae.out
    try go_wp2
    refine bodyPost_ret (results_ct rfl _ _ gb271 31 #[.int .i64 ai, .slice Ao25 ah.length co25] (0, 0) _ rfl (by (with_reducible repeat (first | refine blk_drewN ?_ _ | refine blk_drew ?_ | refine blk_alloc ?_ _)); refine blk_put (cs := #[.int .i64 ai, .slice none 0 0]) ?_ 1 _ rfl; (with_reducible repeat (first | refine blk_drewN ?_ _ | refine blk_drew ?_ | refine blk_alloc ?_ _)); refine blk_put (cs := #[.int .i64 0, .slice none 0 0]) ?_ 0 _ rfl; (with_reducible repeat (first | refine blk_drewN ?_ _ | refine blk_drew ?_ | refine blk_alloc ?_ _)); exact ae.out) Try.underlying31 rfl (by kernel_rfl)) rfl ?_
    exact ⟨_, by first | rfl | (simp [errW_none, errW_some] <;> rfl) | (simp [*, errW_none, errW_some] <;> rfl), by (with_reducible repeat (first | apply Kd.R_alloc | apply Kd.R_drewN | apply Kd.R_drew)); exact Kd.R_mono (Kd.R_far (p := ⟨gb271, 1, none⟩) (Kd.R_far (p := ⟨gb271, 0, none⟩) (Kd.R_types ac.out ae.out (by decide)) (fun _ hk => hk.2) (.int .i64 ai)) (fun _ hk => hk.2) (.slice Ao25 ah.length co25)) (fun _ hk => trivial), TB⟩
   ·replace c18 := Bool.eq_false_iff.mpr c18
    subst c18
    replace H := ifF H
    replace H := bE H
    obtain ⟨⟨aF, aG⟩, A33, H⟩ := H
    dsimp only at H
    replace H := ifN H
    obtain ⟨c34, H⟩ := H
    have c34b0 : decide (0 ≤ a2) = true := decide_eq_true c34
    clear c34
    replace H := ifN H
    obtain ⟨c35, H⟩ := H
    have c35b0 : decide (a2 < (ag.length : Int)) = true := decide_eq_true c35
    clear c35
    by_cases c36 : (!(aF == ((rd_T48 ag a2).f0)) || (!(aG == ((rd_T48 ag a2).f1)))) = true
    ·rw [if_pos c36] at H
     have c36b0 : (!(aF == ((rd_T48 ag a2).f0)) || (!(aG == ((rd_T48 ag a2).f1)))) = true := c36
     clear c36
     simp only [Option.some.injEq, Prod.mk.injEq] at H
     obtain ⟨rfl, rfl, rfl⟩ := H
     try go_wp2_with (first | ((with_reducible refine gate_callee (f := 68) rfl ?_); refine gL (some 12) Try.func68 #[.agg #[.int .i64 aj, .slice ap ak.length ao]] ?_; (with_reducible refine (impl_copyBuild.calls aj _ _ ak ai ah _ ?side1 ?side2 A5.out).mono ?_); (case side1 => repeat (first | exact (Kd.C_below aA.out TB) | (with_reducible refine Kd.C_alloc ?_ _) | (with_reducible refine Kd.C_drewN ?_ _) | (with_reducible refine Kd.C_drew ?_))); (case side2 => exact az.out); rintro e w37 ⟨aH, rfl, ho0, hb⟩; refine ⟨_, rfl, ?_⟩; have ac := aM (Kd.R_lower ho0 (below_size TB)); replace aa := aM (blk_below (g := af) (o := .cells #[.int .i64 an, .int .i64 al, .int .i64 am, .slice ar ag.length aq] 28 (0, 0)) TK hb); replace ab := aM (blk_below (g := gb270) (o := .cells #[.int .i64 aj, .slice ap ak.length ao] 31 (0, 0)) TK hb); replace ae := aM (blk_below (g := gb271) (o := .cells #[.int .i64 0, .slice none 0 0] 31 (0, 0)) TK hb); replace HB := aM (below_step TB hb); clear ho0 hb) | ((with_reducible refine gate_dst (N := 10) rfl ?_); (try (refine gate_guard (by rfl) ?_; dsimp only)); refine gBx 10 #[.int .i64 0, .slice none 0 0] 31 ?_; intro gb276 hg w38 hbox hb; have ad := aM (hbox); have GW276 := aM ((by rw [hg]; exact (below_size TB) : w.heap.size ≤ gb276)); have GE276 := aM ((by rw [hg]; exact (below_size TB) : w.heap.size ≤ gb276)); have NB269_276 := aM ((by rw [hg]; exact Nat.ne_of_lt (blk_lt (g := af) (o := .cells #[.int .i64 an, .int .i64 al, .int .i64 am, .slice ar ag.length aq] 28 (0, 0)) TK) : af ≠ gb276)); have NB276_269 := aM ((by rw [hg]; exact Nat.ne_of_gt (blk_lt (g := af) (o := .cells #[.int .i64 an, .int .i64 al, .int .i64 am, .slice ar ag.length aq] 28 (0, 0)) TK) : gb276 ≠ af)); have NB270_276 := aM ((by rw [hg]; exact Nat.ne_of_lt (blk_lt (g := gb270) (o := .cells #[.int .i64 aj, .slice ap ak.length ao] 31 (0, 0)) TK) : gb270 ≠ gb276)); have NB276_270 := aM ((by rw [hg]; exact Nat.ne_of_gt (blk_lt (g := gb270) (o := .cells #[.int .i64 aj, .slice ap ak.length ao] 31 (0, 0)) TK) : gb276 ≠ gb270)); have NB271_276 := aM ((by rw [hg]; exact Nat.ne_of_lt (blk_lt (g := gb271) (o := .cells #[.int .i64 0, .slice none 0 0] 31 (0, 0)) TK) : gb271 ≠ gb276)); have NB276_271 := aM ((by rw [hg]; exact Nat.ne_of_gt (blk_lt (g := gb271) (o := .cells #[.int .i64 0, .slice none 0 0] 31 (0, 0)) TK) : gb276 ≠ gb271)); replace ac := aM (Kd.R_below (by have X_ := ac.out; exact TR) hb); replace aa := aM (blk_below (g := af) (o := .cells #[.int .i64 an, .int .i64 al, .int .i64 am, .slice ar ag.length aq] 28 (0, 0)) TK hb); replace ab := aM (blk_below (g := gb270) (o := .cells #[.int .i64 aj, .slice ap ak.length ao] 31 (0, 0)) TK hb); replace ae := aM (blk_below (g := gb271) (o := .cells #[.int .i64 0, .slice none 0 0] 31 (0, 0)) TK hb); replace HB := aM (below_step TB hb); clear hb hbox hg; have hnb39 := NB276_269.out; have hnc39 := NB269_276.out; have hnb40 := NB276_270.out; have hnc40 := NB270_276.out; have hnb41 := NB276_271.out; have hnc41 := NB271_276.out; obtain ⟨hcz42_0, hcz42_1⟩ := cz2 ad.out; obtain ⟨hfz42_0, hfz42_1⟩ := fz2 ad.out; obtain ⟨Ao43, co43, eo43⟩ := Kd.R_slice ac.out; subst eo43))
     have n0_ : Aside0 (Kd.R (Kd.int .u8) 5 ((w38.setCell ⟨gb276, 0, none⟩ (.int .i64 ai)).setCell ⟨gb276, 1, none⟩ (.slice Ao43 ah.length co43)) w.heap.size (fun _ => True) (.slice Ao43 ah.length co43) ah) := ⟨by (with_reducible repeat (first | apply Kd.R_alloc | apply Kd.R_drewN | apply Kd.R_drew)); exact Kd.R_mono (Kd.R_far (p := ⟨gb276, 1, none⟩) (Kd.R_far (p := ⟨gb276, 0, none⟩) (Kd.R_types ac.out ad.out (by decide)) (fun _ hk => hk.2) (.int .i64 ai)) (fun _ hk => hk.2) (.slice Ao43 ah.length co43)) (fun _ hk => trivial)⟩
     have n1_ : Aside0 (((w38.setCell ⟨gb276, 0, none⟩ (.int .i64 ai)).setCell ⟨gb276, 1, none⟩ (.slice Ao43 ah.length co43)).heap[af]? = some (.cells #[.int .i64 an, .int .i64 al, .int .i64 am, .slice ar ag.length aq] 28 (0, 0))) := ⟨by (with_reducible repeat (first | refine blk_drewN ?_ _ | refine blk_drew ?_ | refine blk_alloc ?_ _)); refine blk_far ?_ NB269_276.out _; (with_reducible repeat (first | refine blk_drewN ?_ _ | refine blk_drew ?_ | refine blk_alloc ?_ _)); refine blk_far ?_ NB269_276.out _; (with_reducible repeat (first | refine blk_drewN ?_ _ | refine blk_drew ?_ | refine blk_alloc ?_ _)); exact aa.out⟩
     have n2_ : Aside0 (((w38.setCell ⟨gb276, 0, none⟩ (.int .i64 ai)).setCell ⟨gb276, 1, none⟩ (.slice Ao43 ah.length co43)).heap[gb270]? = some (.cells #[.int .i64 aj, .slice ap ak.length ao] 31 (0, 0))) := ⟨by (with_reducible repeat (first | refine blk_drewN ?_ _ | refine blk_drew ?_ | refine blk_alloc ?_ _)); refine blk_far ?_ NB270_276.out _; (with_reducible repeat (first | refine blk_drewN ?_ _ | refine blk_drew ?_ | refine blk_alloc ?_ _)); refine blk_far ?_ NB270_276.out _; (with_reducible repeat (first | refine blk_drewN ?_ _ | refine blk_drew ?_ | refine blk_alloc ?_ _)); exact ab.out⟩
     have n3_ : Aside0 (((w38.setCell ⟨gb276, 0, none⟩ (.int .i64 ai)).setCell ⟨gb276, 1, none⟩ (.slice Ao43 ah.length co43)).heap[gb271]? = some (.cells #[.int .i64 0, .slice none 0 0] 31 (0, 0))) := ⟨by (with_reducible repeat (first | refine blk_drewN ?_ _ | refine blk_drew ?_ | refine blk_alloc ?_ _)); refine blk_far ?_ NB271_276.out _; (with_reducible repeat (first | refine blk_drewN ?_ _ | refine blk_drew ?_ | refine blk_alloc ?_ _)); refine blk_far ?_ NB271_276.out _; (with_reducible repeat (first | refine blk_drewN ?_ _ | refine blk_drew ?_ | refine blk_alloc ?_ _)); exact ae.out⟩
     have n4_ : Aside0 (((w38.setCell ⟨gb276, 0, none⟩ (.int .i64 ai)).setCell ⟨gb276, 1, none⟩ (.slice Ao43 ah.length co43)).heap[gb276]? = some (.cells #[.int .i64 ai, .slice Ao43 ah.length co43] 31 (0, 0))) := ⟨by (with_reducible repeat (first | refine blk_drewN ?_ _ | refine blk_drew ?_ | refine blk_alloc ?_ _)); refine blk_put (cs := #[.int .i64 ai, .slice none 0 0]) ?_ 1 _ rfl; (with_reducible repeat (first | refine blk_drewN ?_ _ | refine blk_drew ?_ | refine blk_alloc ?_ _)); refine blk_put (cs := #[.int .i64 0, .slice none 0 0]) ?_ 0 _ rfl; (with_reducible repeat (first | refine blk_drewN ?_ _ | refine blk_drew ?_ | refine blk_alloc ?_ _)); exact ad.out⟩
     have n5_ : Aside0 (Below w.heap.size w ((w38.setCell ⟨gb276, 0, none⟩ (.int .i64 ai)).setCell ⟨gb276, 1, none⟩ (.slice Ao43 ah.length co43))) := ⟨TB⟩
     (try clear ac)
     (try clear aa)
     (try clear ab)
     (try clear ae)
     (try clear ad)
     (try clear HB)
     generalize ((w38.setCell ⟨gb276, 0, none⟩ (.int .i64 ai)).setCell ⟨gb276, 1, none⟩ (.slice Ao43 ah.length co43)) = w44 at n0_ n1_ n2_ n3_ n4_ n5_ ⊢
     have ac := n0_
     have aa := n1_
     have ab := n2_
     have ae := n3_
     have ad := n4_
     have HB := n5_
     clear n0_ n1_ n2_ n3_ n4_ n5_
     replace ac := aM (Kd.R_drew ac.out)
     replace aa := aM (blk_drew aa.out)
     replace ab := aM (blk_drew ab.out)
     replace ae := aM (blk_drew ae.out)
     replace ad := aM (blk_drew ad.out)
     replace HB := aM (below_drew1 HB.out)
     have aD : 0 ≤ (a2 : Int) := DT
     have aC : a2 < (ag.length : Int) := DT
     obtain ⟨ay, aK, ax, aw⟩ := at_T48 aB.out a2 aD aC
     have au := aw
     have av := ax
     cases aK
     replace ax := (HB.out.cell (World.block_lt_of_cell? w _ ax)).trans ax
     replace aw := (HB.out.cell (World.block_lt_of_cell? w _ aw)).trans aw
     replace aD := eq_true aD
     replace aC := eq_true aC
     refine start_ (n := 29) (S := fun w' => w'.cell? ⟨af, 0, none⟩ = some (.int .i64 an) ∧ w'.cell? ⟨af, 1, none⟩ = some (.int .i64 al) ∧ w'.cell? ⟨af, 2, none⟩ = some (.int .i64 am) ∧ w'.cell? ⟨af, 3, none⟩ = some (.slice (some ay) ag.length aq) ∧ w'.cell? ⟨gb270, 0, none⟩ = some (.int .i64 aj) ∧ w'.cell? ⟨gb270, 1, none⟩ = some (.slice ap ak.length ao) ∧ w'.cell? (ay.add ((a2).toNat * 2)) = some (.int .i64 ((rd_T48 ag a2).f0)) ∧ w'.cell? ⟨(ay.add ((a2).toNat * 2)).block, (ay.add ((a2).toNat * 2)).off + 1, none⟩ = some (.int .i64 ((rd_T48 ag a2).f1))) (ds := []) (Array.replicate 29 false) (by kernel_rfl) rfl rfl ⟨(blk_cell aa.out 0).trans rfl, (blk_cell aa.out 1).trans rfl, (blk_cell aa.out 2).trans rfl, (blk_cell aa.out 3).trans rfl, (blk_cell ab.out 0).trans rfl, (blk_cell ab.out 1).trans rfl, ((HB.out.cell (World.block_lt_of_cell? w _ av)).trans av), ((HB.out.cell (World.block_lt_of_cell? w _ au)).trans au)⟩ (fun hHeld => ?_); refine with_tabW impl_PutPiece.tab2 impl_PutPiece.bits2 (fun HT_ HW_ => ?_)
     generalize w44.drew = w45 at ac aa ab ae ad HB ac ax aw hHeld ⊢
     refine pT 0 (some 13) ?_
     refine pT 1 (some 14) ?_
     refine pO 2 (some 15) (fun K hK => ?_)
     refine gG Try.func42 #[.agg #[.int .i64 an, .int .i64 al, .int .i64 am, .slice (some ay) ag.length aq], .agg #[.int .i64 aj, .slice ap ak.length ao]] ?_
     with_reducible refine (impl_BuildOk.calls k an al am _ _ ag aj _ _ ak true _ ?side1 ?side2 ?side3 ?side4 A6.out).mono ?_
     (case side1 => have X_ := (Kd.C_below aB.out HB.out); exact TC)
     (case side2 => exact aE.out)
     (case side3 => have X_ := (Kd.C_below aA.out HB.out); exact TC)
     (case side4 => exact az.out)
     rintro e w46 ⟨rfl, hb⟩
     refine ⟨_, rfl, ?_⟩
     have n0_ := aM (Kd.R_below (by have X_ := ac.out; exact TR) hb)
     have n1_ := aM (blk_below (g := af) (o := .cells #[.int .i64 an, .int .i64 al, .int .i64 am, .slice (some ay) ag.length aq] 28 (0, 0)) TK hb)
     have n2_ := aM (blk_below (g := gb270) (o := .cells #[.int .i64 aj, .slice ap ak.length ao] 31 (0, 0)) TK hb)
     have n3_ := aM (blk_below (g := gb271) (o := .cells #[.int .i64 0, .slice none 0 0] 31 (0, 0)) TK hb)
     have n4_ := aM (blk_below (g := gb276) (o := .cells #[.int .i64 ai, .slice Ao43 ah.length co43] 31 (0, 0)) TK hb)
     have n5_ := aM (below_step TB hb)
     clear ac
     clear aa
     clear ab
     clear ae
     clear ad
     clear HB
     have ac := n0_
     have aa := n1_
     have ab := n2_
     have ae := n3_
     have ad := n4_
     have HB := n5_
     clear n0_ n1_ n2_ n3_ n4_ n5_
     (try clear hb)
     (try clear hb2)
     (try clear hk)
     (try clear hi)
     refine hK.out _ _ ⟨(blk_cell aa.out 0).trans rfl, (blk_cell aa.out 1).trans rfl, (blk_cell aa.out 2).trans rfl, (blk_cell aa.out 3).trans rfl, (blk_cell ab.out 0).trans rfl, (blk_cell ab.out 1).trans rfl, ((HB.out.cell (World.block_lt_of_cell? w _ av)).trans av), ((HB.out.cell (World.block_lt_of_cell? w _ au)).trans au)⟩ (fun hHeld => ?_)
     clear hK K
     refine nR ?_
     refine pP 3 (some 16) ?_
     refine pP 4 (some 17) ?_
     refine pP 5 (some 18) ?_
     refine pP 6 (some 19) ?_
     refine pT 7 (some 20) ?_
     refine pP 8 (some 21) ?_
     refine pP 9 (some 22) ?_
     refine pO 10 (some 23) (fun K hK => ?_)
     refine gG Try.func61 #[.int .i64 a2, .int .i64 0, .int .i64 (wrap64 ((ag.length : Int) - 1))] ?_
     with_reducible refine (impl_within.calls a2 0 (wrap64 ((ag.length : Int) - 1)) true _ A15.out).mono ?_
     rintro e w' ⟨rfl, ⟨nd, rfl⟩⟩
     refine ⟨_, rfl, ?_⟩
     refine hK.out _ _ ⟨(blk_cell aa.out 0).trans rfl, (blk_cell aa.out 1).trans rfl, (blk_cell aa.out 2).trans rfl, (blk_cell aa.out 3).trans rfl, (blk_cell ab.out 0).trans rfl, (blk_cell ab.out 1).trans rfl, ((HB.out.cell (World.block_lt_of_cell? w _ av)).trans av), ((HB.out.cell (World.block_lt_of_cell? w _ au)).trans au)⟩ (fun hHeld => ?_)
     clear hK K
     refine nR ?_
     refine pP 11 (some 24) ?_
     refine pP 12 (some 25) ?_
     refine pP 13 (some 26) ?_
     refine pP 14 (some 27) ?_
     refine pP 16 (some 29) ?_
     refine pT 15 (some 28) ?_
     refine pO 17 (some 30) (fun K hK => ?_)
     refine gG Try.func37 #[.int .i64 aj, .int .i64 a2] ?_
     with_reducible refine (impl_InSet.calls aj a2 false _ A17.out).mono ?_
     rintro e w' ⟨rfl, ⟨nd, rfl⟩⟩
     refine ⟨_, rfl, ?_⟩
     refine hK.out _ _ ⟨(blk_cell aa.out 0).trans rfl, (blk_cell aa.out 1).trans rfl, (blk_cell aa.out 2).trans rfl, (blk_cell aa.out 3).trans rfl, (blk_cell ab.out 0).trans rfl, (blk_cell ab.out 1).trans rfl, ((HB.out.cell (World.block_lt_of_cell? w _ av)).trans av), ((HB.out.cell (World.block_lt_of_cell? w _ au)).trans au)⟩ (fun hHeld => ?_)
     clear hK K
     refine nR ?_
     refine pP 18 (some 31) ?_
     refine pP 19 (some 32) ?_
     refine pP 20 (some 33) ?_
     refine pP 22 (some 35) ?_
     refine pP 24 (some 37) ?_
     refine pT 23 (some 36) ?_
     refine pP 25 (some 38) ?_
     refine pT 26 (some 39) ?_
     refine pO 21 (some 34) (fun K hK => ?_)
     refine gG Try.func57 #[.slice A3 l3.length c3] ?_
     with_reducible refine (impl_SumOf.calls k _ _ l3 aF aG _ ?side1 ?side2 A33.out).mono ?_
     (case side1 => repeat (first | exact (Kd.C_below HR3.out TB) | (with_reducible refine Kd.C_alloc ?_ _) | (with_reducible refine Kd.C_drewN ?_ _) | (with_reducible refine Kd.C_drew ?_)))
     (case side2 => exact HC3.out)
     rintro e w47 ⟨rfl, hb⟩
     refine ⟨_, rfl, ?_⟩
     have n0_ := aM (Kd.R_below (by have X_ := ac.out; exact TR) hb)
     have n1_ := aM (blk_below (g := af) (o := .cells #[.int .i64 an, .int .i64 al, .int .i64 am, .slice (some ay) ag.length aq] 28 (0, 0)) TK hb)
     have n2_ := aM (blk_below (g := gb270) (o := .cells #[.int .i64 aj, .slice ap ak.length ao] 31 (0, 0)) TK hb)
     have n3_ := aM (blk_below (g := gb271) (o := .cells #[.int .i64 0, .slice none 0 0] 31 (0, 0)) TK hb)
     have n4_ := aM (blk_below (g := gb276) (o := .cells #[.int .i64 ai, .slice Ao43 ah.length co43] 31 (0, 0)) TK hb)
     have n5_ := aM (below_step TB hb)
     clear ac
     clear aa
     clear ab
     clear ae
     clear ad
     clear HB
     have ac := n0_
     have aa := n1_
     have ab := n2_
     have ae := n3_
     have ad := n4_
     have HB := n5_
     clear n0_ n1_ n2_ n3_ n4_ n5_
     (try clear hb)
     (try clear hb2)
     (try clear hk)
     (try clear hi)
     refine hK.out _ _ ⟨(blk_cell aa.out 0).trans rfl, (blk_cell aa.out 1).trans rfl, (blk_cell aa.out 2).trans rfl, (blk_cell aa.out 3).trans rfl, (blk_cell ab.out 0).trans rfl, (blk_cell ab.out 1).trans rfl, ((HB.out.cell (World.block_lt_of_cell? w _ av)).trans av), ((HB.out.cell (World.block_lt_of_cell? w _ au)).trans au)⟩ (fun hHeld => ?_)
     clear hK K
     refine nR ?_
     refine pP 27 (some 40) ?_
     refine pP 28 (some 41) ?_
     refine done_ (done_of HT_.out (by kernel_rfl)) ?_
     obtain ⟨hcz48_0, hcz48_1⟩ := cz2 ad.out
     obtain ⟨hfz48_0, hfz48_1⟩ := fz2 ad.out
     have hnb49 := NB271_269.out
     have hnc49 := NB269_271.out
     have hnb50 := NB271_270.out
     have hnc50 := NB270_271.out
     obtain ⟨hcz51_0, hcz51_1⟩ := cz2 ae.out
     obtain ⟨hfz51_0, hfz51_1⟩ := fz2 ae.out
     try go_wp2
     refine bodyPost_ret (results_ct rfl _ _ gb271 31 #[.int .i64 ai, .slice Ao43 ah.length co43] (0, 0) _ rfl (by (with_reducible repeat (first | refine blk_drewN ?_ _ | refine blk_drew ?_ | refine blk_alloc ?_ _)); refine blk_put (cs := #[.int .i64 ai, .slice none 0 0]) ?_ 1 _ rfl; (with_reducible repeat (first | refine blk_drewN ?_ _ | refine blk_drew ?_ | refine blk_alloc ?_ _)); refine blk_put (cs := #[.int .i64 0, .slice none 0 0]) ?_ 0 _ rfl; (with_reducible repeat (first | refine blk_drewN ?_ _ | refine blk_drew ?_ | refine blk_alloc ?_ _)); exact ae.out) Try.underlying31 rfl (by kernel_rfl)) rfl ?_
     exact ⟨_, by first | rfl | (simp [errW_none, errW_some] <;> rfl) | (simp [*, errW_none, errW_some] <;> rfl), by (with_reducible repeat (first | apply Kd.R_alloc | apply Kd.R_drewN | apply Kd.R_drew)); exact Kd.R_mono (Kd.R_far (p := ⟨gb271, 1, none⟩) (Kd.R_far (p := ⟨gb271, 0, none⟩) (Kd.R_types ac.out ae.out (by decide)) (fun _ hk => hk.2) (.int .i64 ai)) (fun _ hk => hk.2) (.slice Ao43 ah.length co43)) (fun _ hk => trivial), TB⟩
    ·rw [if_neg c36] at H
     have c36b0 : (!(aF == ((rd_T48 ag a2).f0)) || (!(aG == ((rd_T48 ag a2).f1)))) = false := by simpa using c36
     clear c36
     replace H := bE H
     obtain ⟨⟨aI, aJ⟩, A52, H⟩ := H
     dsimp only at H
     simp only [Option.some.injEq, Prod.mk.injEq] at H
     obtain ⟨rfl, rfl, rfl⟩ := H
     try go_wp2_with (first | ((with_reducible refine gate_callee (f := 68) rfl ?_); refine gL (some 12) Try.func68 #[.agg #[.int .i64 aj, .slice ap ak.length ao]] ?_; (with_reducible refine (impl_copyBuild.calls aj _ _ ak ai ah _ ?side1 ?side2 A5.out).mono ?_); (case side1 => repeat (first | exact (Kd.C_below aA.out TB) | (with_reducible refine Kd.C_alloc ?_ _) | (with_reducible refine Kd.C_drewN ?_ _) | (with_reducible refine Kd.C_drew ?_))); (case side2 => exact az.out); rintro e w53 ⟨aH, rfl, ho0, hb⟩; refine ⟨_, rfl, ?_⟩; have ac := aM (Kd.R_lower ho0 (below_size TB)); replace aa := aM (blk_below (g := af) (o := .cells #[.int .i64 an, .int .i64 al, .int .i64 am, .slice ar ag.length aq] 28 (0, 0)) TK hb); replace ab := aM (blk_below (g := gb270) (o := .cells #[.int .i64 aj, .slice ap ak.length ao] 31 (0, 0)) TK hb); replace ae := aM (blk_below (g := gb271) (o := .cells #[.int .i64 0, .slice none 0 0] 31 (0, 0)) TK hb); replace HB := aM (below_step TB hb); clear ho0 hb) | ((with_reducible refine gate_dst (N := 10) rfl ?_); (try (refine gate_guard (by rfl) ?_; dsimp only)); refine gBx 10 #[.int .i64 0, .slice none 0 0] 31 ?_; intro gb276 hg w54 hbox hb; have ad := aM (hbox); have GW276 := aM ((by rw [hg]; exact (below_size TB) : w.heap.size ≤ gb276)); have GE276 := aM ((by rw [hg]; exact (below_size TB) : w.heap.size ≤ gb276)); have NB269_276 := aM ((by rw [hg]; exact Nat.ne_of_lt (blk_lt (g := af) (o := .cells #[.int .i64 an, .int .i64 al, .int .i64 am, .slice ar ag.length aq] 28 (0, 0)) TK) : af ≠ gb276)); have NB276_269 := aM ((by rw [hg]; exact Nat.ne_of_gt (blk_lt (g := af) (o := .cells #[.int .i64 an, .int .i64 al, .int .i64 am, .slice ar ag.length aq] 28 (0, 0)) TK) : gb276 ≠ af)); have NB270_276 := aM ((by rw [hg]; exact Nat.ne_of_lt (blk_lt (g := gb270) (o := .cells #[.int .i64 aj, .slice ap ak.length ao] 31 (0, 0)) TK) : gb270 ≠ gb276)); have NB276_270 := aM ((by rw [hg]; exact Nat.ne_of_gt (blk_lt (g := gb270) (o := .cells #[.int .i64 aj, .slice ap ak.length ao] 31 (0, 0)) TK) : gb276 ≠ gb270)); have NB271_276 := aM ((by rw [hg]; exact Nat.ne_of_lt (blk_lt (g := gb271) (o := .cells #[.int .i64 0, .slice none 0 0] 31 (0, 0)) TK) : gb271 ≠ gb276)); have NB276_271 := aM ((by rw [hg]; exact Nat.ne_of_gt (blk_lt (g := gb271) (o := .cells #[.int .i64 0, .slice none 0 0] 31 (0, 0)) TK) : gb276 ≠ gb271)); replace ac := aM (Kd.R_below (by have X_ := ac.out; exact TR) hb); replace aa := aM (blk_below (g := af) (o := .cells #[.int .i64 an, .int .i64 al, .int .i64 am, .slice ar ag.length aq] 28 (0, 0)) TK hb); replace ab := aM (blk_below (g := gb270) (o := .cells #[.int .i64 aj, .slice ap ak.length ao] 31 (0, 0)) TK hb); replace ae := aM (blk_below (g := gb271) (o := .cells #[.int .i64 0, .slice none 0 0] 31 (0, 0)) TK hb); replace HB := aM (below_step TB hb); clear hb hbox hg; have hnb55 := NB276_269.out; have hnc55 := NB269_276.out; have hnb56 := NB276_270.out; have hnc56 := NB270_276.out; have hnb57 := NB276_271.out; have hnc57 := NB271_276.out; obtain ⟨hcz58_0, hcz58_1⟩ := cz2 ad.out; obtain ⟨hfz58_0, hfz58_1⟩ := fz2 ad.out; obtain ⟨Ao59, co59, eo59⟩ := Kd.R_slice ac.out; subst eo59))
     have n0_ : Aside0 (Kd.R (Kd.int .u8) 5 ((w54.setCell ⟨gb276, 0, none⟩ (.int .i64 ai)).setCell ⟨gb276, 1, none⟩ (.slice Ao59 ah.length co59)) w.heap.size (fun _ => True) (.slice Ao59 ah.length co59) ah) := ⟨by (with_reducible repeat (first | apply Kd.R_alloc | apply Kd.R_drewN | apply Kd.R_drew)); exact Kd.R_mono (Kd.R_far (p := ⟨gb276, 1, none⟩) (Kd.R_far (p := ⟨gb276, 0, none⟩) (Kd.R_types ac.out ad.out (by decide)) (fun _ hk => hk.2) (.int .i64 ai)) (fun _ hk => hk.2) (.slice Ao59 ah.length co59)) (fun _ hk => trivial)⟩
     have n1_ : Aside0 (((w54.setCell ⟨gb276, 0, none⟩ (.int .i64 ai)).setCell ⟨gb276, 1, none⟩ (.slice Ao59 ah.length co59)).heap[af]? = some (.cells #[.int .i64 an, .int .i64 al, .int .i64 am, .slice ar ag.length aq] 28 (0, 0))) := ⟨by (with_reducible repeat (first | refine blk_drewN ?_ _ | refine blk_drew ?_ | refine blk_alloc ?_ _)); refine blk_far ?_ NB269_276.out _; (with_reducible repeat (first | refine blk_drewN ?_ _ | refine blk_drew ?_ | refine blk_alloc ?_ _)); refine blk_far ?_ NB269_276.out _; (with_reducible repeat (first | refine blk_drewN ?_ _ | refine blk_drew ?_ | refine blk_alloc ?_ _)); exact aa.out⟩
     have n2_ : Aside0 (((w54.setCell ⟨gb276, 0, none⟩ (.int .i64 ai)).setCell ⟨gb276, 1, none⟩ (.slice Ao59 ah.length co59)).heap[gb270]? = some (.cells #[.int .i64 aj, .slice ap ak.length ao] 31 (0, 0))) := ⟨by (with_reducible repeat (first | refine blk_drewN ?_ _ | refine blk_drew ?_ | refine blk_alloc ?_ _)); refine blk_far ?_ NB270_276.out _; (with_reducible repeat (first | refine blk_drewN ?_ _ | refine blk_drew ?_ | refine blk_alloc ?_ _)); refine blk_far ?_ NB270_276.out _; (with_reducible repeat (first | refine blk_drewN ?_ _ | refine blk_drew ?_ | refine blk_alloc ?_ _)); exact ab.out⟩
     have n3_ : Aside0 (((w54.setCell ⟨gb276, 0, none⟩ (.int .i64 ai)).setCell ⟨gb276, 1, none⟩ (.slice Ao59 ah.length co59)).heap[gb271]? = some (.cells #[.int .i64 0, .slice none 0 0] 31 (0, 0))) := ⟨by (with_reducible repeat (first | refine blk_drewN ?_ _ | refine blk_drew ?_ | refine blk_alloc ?_ _)); refine blk_far ?_ NB271_276.out _; (with_reducible repeat (first | refine blk_drewN ?_ _ | refine blk_drew ?_ | refine blk_alloc ?_ _)); refine blk_far ?_ NB271_276.out _; (with_reducible repeat (first | refine blk_drewN ?_ _ | refine blk_drew ?_ | refine blk_alloc ?_ _)); exact ae.out⟩
     have n4_ : Aside0 (((w54.setCell ⟨gb276, 0, none⟩ (.int .i64 ai)).setCell ⟨gb276, 1, none⟩ (.slice Ao59 ah.length co59)).heap[gb276]? = some (.cells #[.int .i64 ai, .slice Ao59 ah.length co59] 31 (0, 0))) := ⟨by (with_reducible repeat (first | refine blk_drewN ?_ _ | refine blk_drew ?_ | refine blk_alloc ?_ _)); refine blk_put (cs := #[.int .i64 ai, .slice none 0 0]) ?_ 1 _ rfl; (with_reducible repeat (first | refine blk_drewN ?_ _ | refine blk_drew ?_ | refine blk_alloc ?_ _)); refine blk_put (cs := #[.int .i64 0, .slice none 0 0]) ?_ 0 _ rfl; (with_reducible repeat (first | refine blk_drewN ?_ _ | refine blk_drew ?_ | refine blk_alloc ?_ _)); exact ad.out⟩
     have n5_ : Aside0 (Below w.heap.size w ((w54.setCell ⟨gb276, 0, none⟩ (.int .i64 ai)).setCell ⟨gb276, 1, none⟩ (.slice Ao59 ah.length co59))) := ⟨TB⟩
     (try clear ac)
     (try clear aa)
     (try clear ab)
     (try clear ae)
     (try clear ad)
     (try clear HB)
     generalize ((w54.setCell ⟨gb276, 0, none⟩ (.int .i64 ai)).setCell ⟨gb276, 1, none⟩ (.slice Ao59 ah.length co59)) = w60 at n0_ n1_ n2_ n3_ n4_ n5_ ⊢
     have ac := n0_
     have aa := n1_
     have ab := n2_
     have ae := n3_
     have ad := n4_
     have HB := n5_
     clear n0_ n1_ n2_ n3_ n4_ n5_
     replace ac := aM (Kd.R_drew ac.out)
     replace aa := aM (blk_drew aa.out)
     replace ab := aM (blk_drew ab.out)
     replace ae := aM (blk_drew ae.out)
     replace ad := aM (blk_drew ad.out)
     replace HB := aM (below_drew1 HB.out)
     have aD : 0 ≤ (a2 : Int) := DT
     have aC : a2 < (ag.length : Int) := DT
     obtain ⟨ay, aK, ax, aw⟩ := at_T48 aB.out a2 aD aC
     have au := aw
     have av := ax
     cases aK
     replace ax := (HB.out.cell (World.block_lt_of_cell? w _ ax)).trans ax
     replace aw := (HB.out.cell (World.block_lt_of_cell? w _ aw)).trans aw
     replace aD := eq_true aD
     replace aC := eq_true aC
     refine start_ (n := 29) (S := fun w' => w'.cell? ⟨af, 0, none⟩ = some (.int .i64 an) ∧ w'.cell? ⟨af, 1, none⟩ = some (.int .i64 al) ∧ w'.cell? ⟨af, 2, none⟩ = some (.int .i64 am) ∧ w'.cell? ⟨af, 3, none⟩ = some (.slice (some ay) ag.length aq) ∧ w'.cell? ⟨gb270, 0, none⟩ = some (.int .i64 aj) ∧ w'.cell? ⟨gb270, 1, none⟩ = some (.slice ap ak.length ao) ∧ w'.cell? (ay.add ((a2).toNat * 2)) = some (.int .i64 ((rd_T48 ag a2).f0)) ∧ w'.cell? ⟨(ay.add ((a2).toNat * 2)).block, (ay.add ((a2).toNat * 2)).off + 1, none⟩ = some (.int .i64 ((rd_T48 ag a2).f1))) (ds := []) (Array.replicate 29 false) (by kernel_rfl) rfl rfl ⟨(blk_cell aa.out 0).trans rfl, (blk_cell aa.out 1).trans rfl, (blk_cell aa.out 2).trans rfl, (blk_cell aa.out 3).trans rfl, (blk_cell ab.out 0).trans rfl, (blk_cell ab.out 1).trans rfl, ((HB.out.cell (World.block_lt_of_cell? w _ av)).trans av), ((HB.out.cell (World.block_lt_of_cell? w _ au)).trans au)⟩ (fun hHeld => ?_); refine with_tabW impl_PutPiece.tab2 impl_PutPiece.bits2 (fun HT_ HW_ => ?_)
     generalize w60.drew = w61 at ac aa ab ae ad HB ac ax aw hHeld ⊢
     refine pT 0 (some 13) ?_
     refine pT 1 (some 14) ?_
     refine pO 2 (some 15) (fun K hK => ?_)
     refine gG Try.func42 #[.agg #[.int .i64 an, .int .i64 al, .int .i64 am, .slice (some ay) ag.length aq], .agg #[.int .i64 aj, .slice ap ak.length ao]] ?_
     with_reducible refine (impl_BuildOk.calls k an al am _ _ ag aj _ _ ak true _ ?side1 ?side2 ?side3 ?side4 A6.out).mono ?_
     (case side1 => have X_ := (Kd.C_below aB.out HB.out); exact TC)
     (case side2 => exact aE.out)
     (case side3 => have X_ := (Kd.C_below aA.out HB.out); exact TC)
     (case side4 => exact az.out)
     rintro e w62 ⟨rfl, hb⟩
     refine ⟨_, rfl, ?_⟩
     have n0_ := aM (Kd.R_below (by have X_ := ac.out; exact TR) hb)
     have n1_ := aM (blk_below (g := af) (o := .cells #[.int .i64 an, .int .i64 al, .int .i64 am, .slice (some ay) ag.length aq] 28 (0, 0)) TK hb)
     have n2_ := aM (blk_below (g := gb270) (o := .cells #[.int .i64 aj, .slice ap ak.length ao] 31 (0, 0)) TK hb)
     have n3_ := aM (blk_below (g := gb271) (o := .cells #[.int .i64 0, .slice none 0 0] 31 (0, 0)) TK hb)
     have n4_ := aM (blk_below (g := gb276) (o := .cells #[.int .i64 ai, .slice Ao59 ah.length co59] 31 (0, 0)) TK hb)
     have n5_ := aM (below_step TB hb)
     clear ac
     clear aa
     clear ab
     clear ae
     clear ad
     clear HB
     have ac := n0_
     have aa := n1_
     have ab := n2_
     have ae := n3_
     have ad := n4_
     have HB := n5_
     clear n0_ n1_ n2_ n3_ n4_ n5_
     (try clear hb)
     (try clear hb2)
     (try clear hk)
     (try clear hi)
     refine hK.out _ _ ⟨(blk_cell aa.out 0).trans rfl, (blk_cell aa.out 1).trans rfl, (blk_cell aa.out 2).trans rfl, (blk_cell aa.out 3).trans rfl, (blk_cell ab.out 0).trans rfl, (blk_cell ab.out 1).trans rfl, ((HB.out.cell (World.block_lt_of_cell? w _ av)).trans av), ((HB.out.cell (World.block_lt_of_cell? w _ au)).trans au)⟩ (fun hHeld => ?_)
     clear hK K
     refine nR ?_
     refine pP 3 (some 16) ?_
     refine pP 4 (some 17) ?_
     refine pP 5 (some 18) ?_
     refine pP 6 (some 19) ?_
     refine pT 7 (some 20) ?_
     refine pP 8 (some 21) ?_
     refine pP 9 (some 22) ?_
     refine pO 10 (some 23) (fun K hK => ?_)
     refine gG Try.func61 #[.int .i64 a2, .int .i64 0, .int .i64 (wrap64 ((ag.length : Int) - 1))] ?_
     with_reducible refine (impl_within.calls a2 0 (wrap64 ((ag.length : Int) - 1)) true _ A15.out).mono ?_
     rintro e w' ⟨rfl, ⟨nd, rfl⟩⟩
     refine ⟨_, rfl, ?_⟩
     refine hK.out _ _ ⟨(blk_cell aa.out 0).trans rfl, (blk_cell aa.out 1).trans rfl, (blk_cell aa.out 2).trans rfl, (blk_cell aa.out 3).trans rfl, (blk_cell ab.out 0).trans rfl, (blk_cell ab.out 1).trans rfl, ((HB.out.cell (World.block_lt_of_cell? w _ av)).trans av), ((HB.out.cell (World.block_lt_of_cell? w _ au)).trans au)⟩ (fun hHeld => ?_)
     clear hK K
     refine nR ?_
     refine pP 11 (some 24) ?_
     refine pP 12 (some 25) ?_
     refine pP 13 (some 26) ?_
     refine pP 14 (some 27) ?_
     refine pP 16 (some 29) ?_
     refine pT 15 (some 28) ?_
     refine pO 17 (some 30) (fun K hK => ?_)
     refine gG Try.func37 #[.int .i64 aj, .int .i64 a2] ?_
     with_reducible refine (impl_InSet.calls aj a2 false _ A17.out).mono ?_
     rintro e w' ⟨rfl, ⟨nd, rfl⟩⟩
     refine ⟨_, rfl, ?_⟩
     refine hK.out _ _ ⟨(blk_cell aa.out 0).trans rfl, (blk_cell aa.out 1).trans rfl, (blk_cell aa.out 2).trans rfl, (blk_cell aa.out 3).trans rfl, (blk_cell ab.out 0).trans rfl, (blk_cell ab.out 1).trans rfl, ((HB.out.cell (World.block_lt_of_cell? w _ av)).trans av), ((HB.out.cell (World.block_lt_of_cell? w _ au)).trans au)⟩ (fun hHeld => ?_)
     clear hK K
     refine nR ?_
     refine pP 18 (some 31) ?_
     refine pP 19 (some 32) ?_
     refine pP 20 (some 33) ?_
     refine pP 22 (some 35) ?_
     refine pP 24 (some 37) ?_
     refine pT 23 (some 36) ?_
     refine pP 25 (some 38) ?_
     refine pT 26 (some 39) ?_
     refine pO 21 (some 34) (fun K hK => ?_)
     refine gG Try.func57 #[.slice A3 l3.length c3] ?_
     with_reducible refine (impl_SumOf.calls k _ _ l3 aF aG _ ?side1 ?side2 A33.out).mono ?_
     (case side1 => repeat (first | exact (Kd.C_below HR3.out TB) | (with_reducible refine Kd.C_alloc ?_ _) | (with_reducible refine Kd.C_drewN ?_ _) | (with_reducible refine Kd.C_drew ?_)))
     (case side2 => exact HC3.out)
     rintro e w63 ⟨rfl, hb⟩
     refine ⟨_, rfl, ?_⟩
     have n0_ := aM (Kd.R_below (by have X_ := ac.out; exact TR) hb)
     have n1_ := aM (blk_below (g := af) (o := .cells #[.int .i64 an, .int .i64 al, .int .i64 am, .slice (some ay) ag.length aq] 28 (0, 0)) TK hb)
     have n2_ := aM (blk_below (g := gb270) (o := .cells #[.int .i64 aj, .slice ap ak.length ao] 31 (0, 0)) TK hb)
     have n3_ := aM (blk_below (g := gb271) (o := .cells #[.int .i64 0, .slice none 0 0] 31 (0, 0)) TK hb)
     have n4_ := aM (blk_below (g := gb276) (o := .cells #[.int .i64 ai, .slice Ao59 ah.length co59] 31 (0, 0)) TK hb)
     have n5_ := aM (below_step TB hb)
     clear ac
     clear aa
     clear ab
     clear ae
     clear ad
     clear HB
     have ac := n0_
     have aa := n1_
     have ab := n2_
     have ae := n3_
     have ad := n4_
     have HB := n5_
     clear n0_ n1_ n2_ n3_ n4_ n5_
     (try clear hb)
     (try clear hb2)
     (try clear hk)
     (try clear hi)
     refine hK.out _ _ ⟨(blk_cell aa.out 0).trans rfl, (blk_cell aa.out 1).trans rfl, (blk_cell aa.out 2).trans rfl, (blk_cell aa.out 3).trans rfl, (blk_cell ab.out 0).trans rfl, (blk_cell ab.out 1).trans rfl, ((HB.out.cell (World.block_lt_of_cell? w _ av)).trans av), ((HB.out.cell (World.block_lt_of_cell? w _ au)).trans au)⟩ (fun hHeld => ?_)
     clear hK K
     refine nR ?_
     refine pP 27 (some 40) ?_
     refine pP 28 (some 41) ?_
     refine done_ (done_of HT_.out (by kernel_rfl)) ?_
     have hnb64 := NB269_270.out
     have hnc64 := NB270_269.out
     have hnb65 := NB269_271.out
     have hnc65 := NB271_269.out
     obtain ⟨hcz66_0, hcz66_1, hcz66_2, hcz66_3⟩ := cz4 aa.out
     obtain ⟨hfz66_0, hfz66_1, hfz66_2, hfz66_3⟩ := fz4 aa.out
     obtain ⟨hcz67_0, hcz67_1⟩ := cz2 ad.out
     obtain ⟨hfz67_0, hfz67_1⟩ := fz2 ad.out
     try go_wp2_with (first | (go_at_call 69; (with_reducible refine (impl_Build_put.calls gb276 Ao59 co59 _ _ _ _ _ _ _ _ _ _ _ _ _ _ (fun _ => True) w _ ?p1 ?p2 ?p3 ?p4 ?p5 A52.out).mono ?_); (case p1 => exact TB); (case p2 => exact GW276.out); (case p3 => have X_ := ad.out; exact TX); (case p4 => exact Kd.R_mono (by have X_ := ac.out; exact TR) (fun _ _ => trivial)); (case p5 => exact Kd.C_below HR3.out TB); rintro e w68 ⟨rfl, hl_, hG_, hO_, hb_, hk_⟩; obtain ⟨wv_, hv1_, hv2_, hv3_⟩ := virt_ (.int .i64 ai) (.slice Ao59 ah.length co59) hG_; have hk2_ := hk_.then_ hv3_.kept (fun k_ e_ => .inl (.inl e_)); have HO286 := aM (Kd.R_mono (ok' := fun _ => True) (Kd.R_move (Kd.R_types hO_ hG_ (by decide)) (fun k_ q_ => hv3_.2.2 k_ q_.2)) (fun _ _ => trivial)); replace aa := aM (blk_kept (by have X_ := aa.out; exact TX) hk2_ (fun q_ => Or.elim q_ (fun e_ => NB269_276.out e_) (fun e_ => Kd.R_ne ac.out (by have X_ := aa.out; exact TX) (by decide) e_))); replace ab := aM (blk_kept (by have X_ := ab.out; exact TX) hk2_ (fun q_ => Or.elim q_ (fun e_ => NB270_276.out e_) (fun e_ => Kd.R_ne ac.out (by have X_ := ab.out; exact TX) (by decide) e_))); replace ae := aM (blk_kept (by have X_ := ae.out; exact TX) hk2_ (fun q_ => Or.elim q_ (fun e_ => NB271_276.out e_) (fun e_ => Kd.R_ne ac.out (by have X_ := ae.out; exact TX) (by decide) e_))); replace ad := aM hv2_; replace HB := aM (hv3_.below hb_ GW276.out); clear hl_ hG_ hO_ hb_ hk_ hk2_ hv2_ hv3_; subst hv1_; obtain ⟨hcz69_0, hcz69_1⟩ := cz2 ad.out; obtain ⟨hfz69_0, hfz69_1⟩ := fz2 ad.out; have hnb71 := NB271_270.out; have hnc71 := NB270_271.out; obtain ⟨hcz72_0, hcz72_1⟩ := cz2 ae.out; obtain ⟨hfz72_0, hfz72_1⟩ := fz2 ae.out))
     refine bodyPost_ret (results_ct rfl _ _ gb271 31 #[.int .i64 aI, .slice Ao59 aJ.length co59] (0, 0) _ rfl (by (with_reducible repeat (first | refine blk_drewN ?_ _ | refine blk_drew ?_ | refine blk_alloc ?_ _)); refine blk_put (cs := #[.int .i64 aI, .slice none 0 0]) ?_ 1 _ rfl; (with_reducible repeat (first | refine blk_drewN ?_ _ | refine blk_drew ?_ | refine blk_alloc ?_ _)); refine blk_put (cs := #[.int .i64 0, .slice none 0 0]) ?_ 0 _ rfl; (with_reducible repeat (first | refine blk_drewN ?_ _ | refine blk_drew ?_ | refine blk_alloc ?_ _)); refine blk_far ?_ NB271_276.out _; (with_reducible repeat (first | refine blk_drewN ?_ _ | refine blk_drew ?_ | refine blk_alloc ?_ _)); refine blk_far ?_ NB271_276.out _; (with_reducible repeat (first | refine blk_drewN ?_ _ | refine blk_drew ?_ | refine blk_alloc ?_ _)); exact ae.out) Try.underlying31 rfl (by kernel_rfl)) rfl ?_
     exact ⟨_, by first | rfl | (simp [errW_none, errW_some] <;> rfl) | (simp [*, errW_none, errW_some] <;> rfl), by (with_reducible repeat (first | apply Kd.R_alloc | apply Kd.R_drewN | apply Kd.R_drew)); exact Kd.R_mono (Kd.R_far (p := ⟨gb271, 1, none⟩) (Kd.R_far (p := ⟨gb271, 0, none⟩) (Kd.R_far (p := ⟨gb276, 1, none⟩) (Kd.R_far (p := ⟨gb276, 0, none⟩) (Kd.R_types (Kd.R_types HO286.out ad.out (by decide)) ae.out (by decide)) (fun _ hk => hk.1.2) (.int .i64 aI)) (fun _ hk => hk.1.2) (.slice Ao59 aJ.length co59)) (fun _ hk => hk.2) (.int .i64 aI)) (fun _ hk => hk.2) (.slice Ao59 aJ.length co59)) (fun _ hk => trivial), TB⟩
  ·replace c16 := Bool.eq_false_iff.mpr c16
   subst c16
   replace H := ifF H
   simp only [Option.some.injEq, Prod.mk.injEq] at H
   obtain ⟨rfl, rfl, rfl⟩ := H
   try go_wp2_with (first | ((with_reducible refine gate_callee (f := 68) rfl ?_); refine gL (some 12) Try.func68 #[.agg #[.int .i64 aj, .slice ap ak.length ao]] ?_; (with_reducible refine (impl_copyBuild.calls aj _ _ ak ai ah _ ?side1 ?side2 A5.out).mono ?_); (case side1 => repeat (first | exact (Kd.C_below aA.out TB) | (with_reducible refine Kd.C_alloc ?_ _) | (with_reducible refine Kd.C_drewN ?_ _) | (with_reducible refine Kd.C_drew ?_))); (case side2 => exact az.out); rintro e w73 ⟨aH, rfl, ho0, hb⟩; refine ⟨_, rfl, ?_⟩; have ac := aM (Kd.R_lower ho0 (below_size TB)); replace aa := aM (blk_below (g := af) (o := .cells #[.int .i64 an, .int .i64 al, .int .i64 am, .slice ar ag.length aq] 28 (0, 0)) TK hb); replace ab := aM (blk_below (g := gb270) (o := .cells #[.int .i64 aj, .slice ap ak.length ao] 31 (0, 0)) TK hb); replace ae := aM (blk_below (g := gb271) (o := .cells #[.int .i64 0, .slice none 0 0] 31 (0, 0)) TK hb); replace HB := aM (below_step TB hb); clear ho0 hb) | ((with_reducible refine gate_dst (N := 10) rfl ?_); (try (refine gate_guard (by rfl) ?_; dsimp only)); refine gBx 10 #[.int .i64 0, .slice none 0 0] 31 ?_; intro gb276 hg w74 hbox hb; have ad := aM (hbox); have GW276 := aM ((by rw [hg]; exact (below_size TB) : w.heap.size ≤ gb276)); have GE276 := aM ((by rw [hg]; exact (below_size TB) : w.heap.size ≤ gb276)); have NB269_276 := aM ((by rw [hg]; exact Nat.ne_of_lt (blk_lt (g := af) (o := .cells #[.int .i64 an, .int .i64 al, .int .i64 am, .slice ar ag.length aq] 28 (0, 0)) TK) : af ≠ gb276)); have NB276_269 := aM ((by rw [hg]; exact Nat.ne_of_gt (blk_lt (g := af) (o := .cells #[.int .i64 an, .int .i64 al, .int .i64 am, .slice ar ag.length aq] 28 (0, 0)) TK) : gb276 ≠ af)); have NB270_276 := aM ((by rw [hg]; exact Nat.ne_of_lt (blk_lt (g := gb270) (o := .cells #[.int .i64 aj, .slice ap ak.length ao] 31 (0, 0)) TK) : gb270 ≠ gb276)); have NB276_270 := aM ((by rw [hg]; exact Nat.ne_of_gt (blk_lt (g := gb270) (o := .cells #[.int .i64 aj, .slice ap ak.length ao] 31 (0, 0)) TK) : gb276 ≠ gb270)); have NB271_276 := aM ((by rw [hg]; exact Nat.ne_of_lt (blk_lt (g := gb271) (o := .cells #[.int .i64 0, .slice none 0 0] 31 (0, 0)) TK) : gb271 ≠ gb276)); have NB276_271 := aM ((by rw [hg]; exact Nat.ne_of_gt (blk_lt (g := gb271) (o := .cells #[.int .i64 0, .slice none 0 0] 31 (0, 0)) TK) : gb276 ≠ gb271)); replace ac := aM (Kd.R_below (by have X_ := ac.out; exact TR) hb); replace aa := aM (blk_below (g := af) (o := .cells #[.int .i64 an, .int .i64 al, .int .i64 am, .slice ar ag.length aq] 28 (0, 0)) TK hb); replace ab := aM (blk_below (g := gb270) (o := .cells #[.int .i64 aj, .slice ap ak.length ao] 31 (0, 0)) TK hb); replace ae := aM (blk_below (g := gb271) (o := .cells #[.int .i64 0, .slice none 0 0] 31 (0, 0)) TK hb); replace HB := aM (below_step TB hb); clear hb hbox hg; have hnb75 := NB276_269.out; have hnc75 := NB269_276.out; have hnb76 := NB276_270.out; have hnc76 := NB270_276.out; have hnb77 := NB276_271.out; have hnc77 := NB271_276.out; obtain ⟨hcz78_0, hcz78_1⟩ := cz2 ad.out; obtain ⟨hfz78_0, hfz78_1⟩ := fz2 ad.out; obtain ⟨Ao79, co79, eo79⟩ := Kd.R_slice ac.out; subst eo79))
   have n0_ : Aside0 (Kd.R (Kd.int .u8) 5 ((w74.setCell ⟨gb276, 0, none⟩ (.int .i64 ai)).setCell ⟨gb276, 1, none⟩ (.slice Ao79 ah.length co79)) w.heap.size (fun _ => True) (.slice Ao79 ah.length co79) ah) := ⟨by (with_reducible repeat (first | apply Kd.R_alloc | apply Kd.R_drewN | apply Kd.R_drew)); exact Kd.R_mono (Kd.R_far (p := ⟨gb276, 1, none⟩) (Kd.R_far (p := ⟨gb276, 0, none⟩) (Kd.R_types ac.out ad.out (by decide)) (fun _ hk => hk.2) (.int .i64 ai)) (fun _ hk => hk.2) (.slice Ao79 ah.length co79)) (fun _ hk => trivial)⟩
   have n1_ : Aside0 (((w74.setCell ⟨gb276, 0, none⟩ (.int .i64 ai)).setCell ⟨gb276, 1, none⟩ (.slice Ao79 ah.length co79)).heap[af]? = some (.cells #[.int .i64 an, .int .i64 al, .int .i64 am, .slice ar ag.length aq] 28 (0, 0))) := ⟨by (with_reducible repeat (first | refine blk_drewN ?_ _ | refine blk_drew ?_ | refine blk_alloc ?_ _)); refine blk_far ?_ NB269_276.out _; (with_reducible repeat (first | refine blk_drewN ?_ _ | refine blk_drew ?_ | refine blk_alloc ?_ _)); refine blk_far ?_ NB269_276.out _; (with_reducible repeat (first | refine blk_drewN ?_ _ | refine blk_drew ?_ | refine blk_alloc ?_ _)); exact aa.out⟩
   have n2_ : Aside0 (((w74.setCell ⟨gb276, 0, none⟩ (.int .i64 ai)).setCell ⟨gb276, 1, none⟩ (.slice Ao79 ah.length co79)).heap[gb270]? = some (.cells #[.int .i64 aj, .slice ap ak.length ao] 31 (0, 0))) := ⟨by (with_reducible repeat (first | refine blk_drewN ?_ _ | refine blk_drew ?_ | refine blk_alloc ?_ _)); refine blk_far ?_ NB270_276.out _; (with_reducible repeat (first | refine blk_drewN ?_ _ | refine blk_drew ?_ | refine blk_alloc ?_ _)); refine blk_far ?_ NB270_276.out _; (with_reducible repeat (first | refine blk_drewN ?_ _ | refine blk_drew ?_ | refine blk_alloc ?_ _)); exact ab.out⟩
   have n3_ : Aside0 (((w74.setCell ⟨gb276, 0, none⟩ (.int .i64 ai)).setCell ⟨gb276, 1, none⟩ (.slice Ao79 ah.length co79)).heap[gb271]? = some (.cells #[.int .i64 0, .slice none 0 0] 31 (0, 0))) := ⟨by (with_reducible repeat (first | refine blk_drewN ?_ _ | refine blk_drew ?_ | refine blk_alloc ?_ _)); refine blk_far ?_ NB271_276.out _; (with_reducible repeat (first | refine blk_drewN ?_ _ | refine blk_drew ?_ | refine blk_alloc ?_ _)); refine blk_far ?_ NB271_276.out _; (with_reducible repeat (first | refine blk_drewN ?_ _ | refine blk_drew ?_ | refine blk_alloc ?_ _)); exact ae.out⟩
   have n4_ : Aside0 (((w74.setCell ⟨gb276, 0, none⟩ (.int .i64 ai)).setCell ⟨gb276, 1, none⟩ (.slice Ao79 ah.length co79)).heap[gb276]? = some (.cells #[.int .i64 ai, .slice Ao79 ah.length co79] 31 (0, 0))) := ⟨by (with_reducible repeat (first | refine blk_drewN ?_ _ | refine blk_drew ?_ | refine blk_alloc ?_ _)); refine blk_put (cs := #[.int .i64 ai, .slice none 0 0]) ?_ 1 _ rfl; (with_reducible repeat (first | refine blk_drewN ?_ _ | refine blk_drew ?_ | refine blk_alloc ?_ _)); refine blk_put (cs := #[.int .i64 0, .slice none 0 0]) ?_ 0 _ rfl; (with_reducible repeat (first | refine blk_drewN ?_ _ | refine blk_drew ?_ | refine blk_alloc ?_ _)); exact ad.out⟩
   have n5_ : Aside0 (Below w.heap.size w ((w74.setCell ⟨gb276, 0, none⟩ (.int .i64 ai)).setCell ⟨gb276, 1, none⟩ (.slice Ao79 ah.length co79))) := ⟨TB⟩
   (try clear ac)
   (try clear aa)
   (try clear ab)
   (try clear ae)
   (try clear ad)
   (try clear HB)
   generalize ((w74.setCell ⟨gb276, 0, none⟩ (.int .i64 ai)).setCell ⟨gb276, 1, none⟩ (.slice Ao79 ah.length co79)) = w80 at n0_ n1_ n2_ n3_ n4_ n5_ ⊢
   have ac := n0_
   have aa := n1_
   have ab := n2_
   have ae := n3_
   have ad := n4_
   have HB := n5_
   clear n0_ n1_ n2_ n3_ n4_ n5_
   replace ac := aM (Kd.R_drew ac.out)
   replace aa := aM (blk_drew aa.out)
   replace ab := aM (blk_drew ab.out)
   replace ae := aM (blk_drew ae.out)
   replace ad := aM (blk_drew ad.out)
   replace HB := aM (below_drew1 HB.out)
   refine start_ (n := 29) (S := fun w' => w'.cell? ⟨af, 0, none⟩ = some (.int .i64 an) ∧ w'.cell? ⟨af, 1, none⟩ = some (.int .i64 al) ∧ w'.cell? ⟨af, 2, none⟩ = some (.int .i64 am) ∧ w'.cell? ⟨af, 3, none⟩ = some (.slice ar ag.length aq) ∧ w'.cell? ⟨gb270, 0, none⟩ = some (.int .i64 aj) ∧ w'.cell? ⟨gb270, 1, none⟩ = some (.slice ap ak.length ao)) (ds := []) (Array.replicate 29 false) (by kernel_rfl) rfl rfl ⟨(blk_cell aa.out 0).trans rfl, (blk_cell aa.out 1).trans rfl, (blk_cell aa.out 2).trans rfl, (blk_cell aa.out 3).trans rfl, (blk_cell ab.out 0).trans rfl, (blk_cell ab.out 1).trans rfl⟩ (fun hHeld => ?_); refine with_tabW impl_PutPiece.tab2 impl_PutPiece.bits2 (fun HT_ HW_ => ?_)
   generalize w80.drew = w81 at ac aa ab ae ad HB ac hHeld ⊢
   refine pT 0 (some 13) ?_
   refine pT 1 (some 14) ?_
   refine pO 2 (some 15) (fun K hK => ?_)
   refine gG Try.func42 #[.agg #[.int .i64 an, .int .i64 al, .int .i64 am, .slice ar ag.length aq], .agg #[.int .i64 aj, .slice ap ak.length ao]] ?_
   with_reducible refine (impl_BuildOk.calls k an al am _ _ ag aj _ _ ak true _ ?side1 ?side2 ?side3 ?side4 A6.out).mono ?_
   (case side1 => have X_ := (Kd.C_below aB.out HB.out); exact TC)
   (case side2 => exact aE.out)
   (case side3 => have X_ := (Kd.C_below aA.out HB.out); exact TC)
   (case side4 => exact az.out)
   rintro e w82 ⟨rfl, hb⟩
   refine ⟨_, rfl, ?_⟩
   have n0_ := aM (Kd.R_below (by have X_ := ac.out; exact TR) hb)
   have n1_ := aM (blk_below (g := af) (o := .cells #[.int .i64 an, .int .i64 al, .int .i64 am, .slice ar ag.length aq] 28 (0, 0)) TK hb)
   have n2_ := aM (blk_below (g := gb270) (o := .cells #[.int .i64 aj, .slice ap ak.length ao] 31 (0, 0)) TK hb)
   have n3_ := aM (blk_below (g := gb271) (o := .cells #[.int .i64 0, .slice none 0 0] 31 (0, 0)) TK hb)
   have n4_ := aM (blk_below (g := gb276) (o := .cells #[.int .i64 ai, .slice Ao79 ah.length co79] 31 (0, 0)) TK hb)
   have n5_ := aM (below_step TB hb)
   clear ac
   clear aa
   clear ab
   clear ae
   clear ad
   clear HB
   have ac := n0_
   have aa := n1_
   have ab := n2_
   have ae := n3_
   have ad := n4_
   have HB := n5_
   clear n0_ n1_ n2_ n3_ n4_ n5_
   (try clear hb)
   (try clear hb2)
   (try clear hk)
   (try clear hi)
   refine hK.out _ _ ⟨(blk_cell aa.out 0).trans rfl, (blk_cell aa.out 1).trans rfl, (blk_cell aa.out 2).trans rfl, (blk_cell aa.out 3).trans rfl, (blk_cell ab.out 0).trans rfl, (blk_cell ab.out 1).trans rfl⟩ (fun hHeld => ?_)
   clear hK K
   refine nR ?_
   refine pP 3 (some 16) ?_
   refine pP 4 (some 17) ?_
   refine pP 5 (some 18) ?_
   refine pP 6 (some 19) ?_
   refine pT 7 (some 20) ?_
   refine pP 8 (some 21) ?_
   refine pP 9 (some 22) ?_
   refine pO 10 (some 23) (fun K hK => ?_)
   refine gG Try.func61 #[.int .i64 a2, .int .i64 0, .int .i64 (wrap64 ((ag.length : Int) - 1))] ?_
   with_reducible refine (impl_within.calls a2 0 (wrap64 ((ag.length : Int) - 1)) false _ A15.out).mono ?_
   rintro e w' ⟨rfl, ⟨nd, rfl⟩⟩
   refine ⟨_, rfl, ?_⟩
   refine hK.out _ _ ⟨(blk_cell aa.out 0).trans rfl, (blk_cell aa.out 1).trans rfl, (blk_cell aa.out 2).trans rfl, (blk_cell aa.out 3).trans rfl, (blk_cell ab.out 0).trans rfl, (blk_cell ab.out 1).trans rfl⟩ (fun hHeld => ?_)
   clear hK K
   refine nR ?_
   refine pP 11 (some 24) ?_
   refine pP 12 (some 25) ?_
   refine pP 13 (some 26) ?_
   refine pX 14 (some 27) ?_
   refine pX 15 (some 28) ?_
   refine pX 16 (some 29) ?_
   refine pX 17 (some 30) ?_
   refine pP 18 (some 31) ?_
   refine pP 19 (some 32) ?_
   refine pX 20 (some 33) ?_
   refine pX 21 (some 34) ?_
   refine pX 22 (some 35) ?_
   refine pX 23 (some 36) ?_
   refine pX 24 (some 37) ?_
   refine pX 25 (some 38) ?_
   refine pX 26 (some 39) ?_
   refine pX 27 (some 40) ?_
   refine pP 28 (some 41) ?_
   refine done_ (done_of HT_.out (by kernel_rfl)) ?_
   obtain ⟨hcz83_0, hcz83_1⟩ := cz2 ad.out
   obtain ⟨hfz83_0, hfz83_1⟩ := fz2 ad.out
   have hnb84 := NB271_269.out
   have hnc84 := NB269_271.out
   have hnb85 := NB271_270.out
   have hnc85 := NB270_271.out
   obtain ⟨hcz86_0, hcz86_1⟩ := cz2 ae.out
   obtain ⟨hfz86_0, hfz86_1⟩ := fz2 ae.out
   try go_wp2
   refine bodyPost_ret (results_ct rfl _ _ gb271 31 #[.int .i64 ai, .slice Ao79 ah.length co79] (0, 0) _ rfl (by (with_reducible repeat (first | refine blk_drewN ?_ _ | refine blk_drew ?_ | refine blk_alloc ?_ _)); refine blk_put (cs := #[.int .i64 ai, .slice none 0 0]) ?_ 1 _ rfl; (with_reducible repeat (first | refine blk_drewN ?_ _ | refine blk_drew ?_ | refine blk_alloc ?_ _)); refine blk_put (cs := #[.int .i64 0, .slice none 0 0]) ?_ 0 _ rfl; (with_reducible repeat (first | refine blk_drewN ?_ _ | refine blk_drew ?_ | refine blk_alloc ?_ _)); exact ae.out) Try.underlying31 rfl (by kernel_rfl)) rfl ?_
   exact ⟨_, by first | rfl | (simp [errW_none, errW_some] <;> rfl) | (simp [*, errW_none, errW_some] <;> rfl), by (with_reducible repeat (first | apply Kd.R_alloc | apply Kd.R_drewN | apply Kd.R_drew)); exact Kd.R_mono (Kd.R_far (p := ⟨gb271, 1, none⟩) (Kd.R_far (p := ⟨gb271, 0, none⟩) (Kd.R_types ac.out ae.out (by decide)) (fun _ hk => hk.2) (.int .i64 ai)) (fun _ hk => hk.2) (.slice Ao79 ah.length co79)) (fun _ hk => trivial), TB⟩
 ·replace c14 := Bool.eq_false_iff.mpr c14
  subst c14
  replace H := ifF H
  simp only [Option.some.injEq, Prod.mk.injEq] at H
  obtain ⟨rfl, rfl, rfl⟩ := H
  try go_wp2_with (first | ((with_reducible refine gate_callee (f := 68) rfl ?_); refine gL (some 12) Try.func68 #[.agg #[.int .i64 aj, .slice ap ak.length ao]] ?_; (with_reducible refine (impl_copyBuild.calls aj _ _ ak ai ah _ ?side1 ?side2 A5.out).mono ?_); (case side1 => repeat (first | exact (Kd.C_below aA.out TB) | (with_reducible refine Kd.C_alloc ?_ _) | (with_reducible refine Kd.C_drewN ?_ _) | (with_reducible refine Kd.C_drew ?_))); (case side2 => exact az.out); rintro e w87 ⟨aH, rfl, ho0, hb⟩; refine ⟨_, rfl, ?_⟩; have ac := aM (Kd.R_lower ho0 (below_size TB)); replace aa := aM (blk_below (g := af) (o := .cells #[.int .i64 an, .int .i64 al, .int .i64 am, .slice ar ag.length aq] 28 (0, 0)) TK hb); replace ab := aM (blk_below (g := gb270) (o := .cells #[.int .i64 aj, .slice ap ak.length ao] 31 (0, 0)) TK hb); replace ae := aM (blk_below (g := gb271) (o := .cells #[.int .i64 0, .slice none 0 0] 31 (0, 0)) TK hb); replace HB := aM (below_step TB hb); clear ho0 hb) | ((with_reducible refine gate_dst (N := 10) rfl ?_); (try (refine gate_guard (by rfl) ?_; dsimp only)); refine gBx 10 #[.int .i64 0, .slice none 0 0] 31 ?_; intro gb276 hg w88 hbox hb; have ad := aM (hbox); have GW276 := aM ((by rw [hg]; exact (below_size TB) : w.heap.size ≤ gb276)); have GE276 := aM ((by rw [hg]; exact (below_size TB) : w.heap.size ≤ gb276)); have NB269_276 := aM ((by rw [hg]; exact Nat.ne_of_lt (blk_lt (g := af) (o := .cells #[.int .i64 an, .int .i64 al, .int .i64 am, .slice ar ag.length aq] 28 (0, 0)) TK) : af ≠ gb276)); have NB276_269 := aM ((by rw [hg]; exact Nat.ne_of_gt (blk_lt (g := af) (o := .cells #[.int .i64 an, .int .i64 al, .int .i64 am, .slice ar ag.length aq] 28 (0, 0)) TK) : gb276 ≠ af)); have NB270_276 := aM ((by rw [hg]; exact Nat.ne_of_lt (blk_lt (g := gb270) (o := .cells #[.int .i64 aj, .slice ap ak.length ao] 31 (0, 0)) TK) : gb270 ≠ gb276)); have NB276_270 := aM ((by rw [hg]; exact Nat.ne_of_gt (blk_lt (g := gb270) (o := .cells #[.int .i64 aj, .slice ap ak.length ao] 31 (0, 0)) TK) : gb276 ≠ gb270)); have NB271_276 := aM ((by rw [hg]; exact Nat.ne_of_lt (blk_lt (g := gb271) (o := .cells #[.int .i64 0, .slice none 0 0] 31 (0, 0)) TK) : gb271 ≠ gb276)); have NB276_271 := aM ((by rw [hg]; exact Nat.ne_of_gt (blk_lt (g := gb271) (o := .cells #[.int .i64 0, .slice none 0 0] 31 (0, 0)) TK) : gb276 ≠ gb271)); replace ac := aM (Kd.R_below (by have X_ := ac.out; exact TR) hb); replace aa := aM (blk_below (g := af) (o := .cells #[.int .i64 an, .int .i64 al, .int .i64 am, .slice ar ag.length aq] 28 (0, 0)) TK hb); replace ab := aM (blk_below (g := gb270) (o := .cells #[.int .i64 aj, .slice ap ak.length ao] 31 (0, 0)) TK hb); replace ae := aM (blk_below (g := gb271) (o := .cells #[.int .i64 0, .slice none 0 0] 31 (0, 0)) TK hb); replace HB := aM (below_step TB hb); clear hb hbox hg; have hnb89 := NB276_269.out; have hnc89 := NB269_276.out; have hnb90 := NB276_270.out; have hnc90 := NB270_276.out; have hnb91 := NB276_271.out; have hnc91 := NB271_276.out; obtain ⟨hcz92_0, hcz92_1⟩ := cz2 ad.out; obtain ⟨hfz92_0, hfz92_1⟩ := fz2 ad.out; obtain ⟨Ao93, co93, eo93⟩ := Kd.R_slice ac.out; subst eo93))
  have n0_ : Aside0 (Kd.R (Kd.int .u8) 5 ((w88.setCell ⟨gb276, 0, none⟩ (.int .i64 ai)).setCell ⟨gb276, 1, none⟩ (.slice Ao93 ah.length co93)) w.heap.size (fun _ => True) (.slice Ao93 ah.length co93) ah) := ⟨by (with_reducible repeat (first | apply Kd.R_alloc | apply Kd.R_drewN | apply Kd.R_drew)); exact Kd.R_mono (Kd.R_far (p := ⟨gb276, 1, none⟩) (Kd.R_far (p := ⟨gb276, 0, none⟩) (Kd.R_types ac.out ad.out (by decide)) (fun _ hk => hk.2) (.int .i64 ai)) (fun _ hk => hk.2) (.slice Ao93 ah.length co93)) (fun _ hk => trivial)⟩
  have n1_ : Aside0 (((w88.setCell ⟨gb276, 0, none⟩ (.int .i64 ai)).setCell ⟨gb276, 1, none⟩ (.slice Ao93 ah.length co93)).heap[af]? = some (.cells #[.int .i64 an, .int .i64 al, .int .i64 am, .slice ar ag.length aq] 28 (0, 0))) := ⟨by (with_reducible repeat (first | refine blk_drewN ?_ _ | refine blk_drew ?_ | refine blk_alloc ?_ _)); refine blk_far ?_ NB269_276.out _; (with_reducible repeat (first | refine blk_drewN ?_ _ | refine blk_drew ?_ | refine blk_alloc ?_ _)); refine blk_far ?_ NB269_276.out _; (with_reducible repeat (first | refine blk_drewN ?_ _ | refine blk_drew ?_ | refine blk_alloc ?_ _)); exact aa.out⟩
  have n2_ : Aside0 (((w88.setCell ⟨gb276, 0, none⟩ (.int .i64 ai)).setCell ⟨gb276, 1, none⟩ (.slice Ao93 ah.length co93)).heap[gb270]? = some (.cells #[.int .i64 aj, .slice ap ak.length ao] 31 (0, 0))) := ⟨by (with_reducible repeat (first | refine blk_drewN ?_ _ | refine blk_drew ?_ | refine blk_alloc ?_ _)); refine blk_far ?_ NB270_276.out _; (with_reducible repeat (first | refine blk_drewN ?_ _ | refine blk_drew ?_ | refine blk_alloc ?_ _)); refine blk_far ?_ NB270_276.out _; (with_reducible repeat (first | refine blk_drewN ?_ _ | refine blk_drew ?_ | refine blk_alloc ?_ _)); exact ab.out⟩
  have n3_ : Aside0 (((w88.setCell ⟨gb276, 0, none⟩ (.int .i64 ai)).setCell ⟨gb276, 1, none⟩ (.slice Ao93 ah.length co93)).heap[gb271]? = some (.cells #[.int .i64 0, .slice none 0 0] 31 (0, 0))) := ⟨by (with_reducible repeat (first | refine blk_drewN ?_ _ | refine blk_drew ?_ | refine blk_alloc ?_ _)); refine blk_far ?_ NB271_276.out _; (with_reducible repeat (first | refine blk_drewN ?_ _ | refine blk_drew ?_ | refine blk_alloc ?_ _)); refine blk_far ?_ NB271_276.out _; (with_reducible repeat (first | refine blk_drewN ?_ _ | refine blk_drew ?_ | refine blk_alloc ?_ _)); exact ae.out⟩
  have n4_ : Aside0 (((w88.setCell ⟨gb276, 0, none⟩ (.int .i64 ai)).setCell ⟨gb276, 1, none⟩ (.slice Ao93 ah.length co93)).heap[gb276]? = some (.cells #[.int .i64 ai, .slice Ao93 ah.length co93] 31 (0, 0))) := ⟨by (with_reducible repeat (first | refine blk_drewN ?_ _ | refine blk_drew ?_ | refine blk_alloc ?_ _)); refine blk_put (cs := #[.int .i64 ai, .slice none 0 0]) ?_ 1 _ rfl; (with_reducible repeat (first | refine blk_drewN ?_ _ | refine blk_drew ?_ | refine blk_alloc ?_ _)); refine blk_put (cs := #[.int .i64 0, .slice none 0 0]) ?_ 0 _ rfl; (with_reducible repeat (first | refine blk_drewN ?_ _ | refine blk_drew ?_ | refine blk_alloc ?_ _)); exact ad.out⟩
  have n5_ : Aside0 (Below w.heap.size w ((w88.setCell ⟨gb276, 0, none⟩ (.int .i64 ai)).setCell ⟨gb276, 1, none⟩ (.slice Ao93 ah.length co93))) := ⟨TB⟩
  (try clear ac)
  (try clear aa)
  (try clear ab)
  (try clear ae)
  (try clear ad)
  (try clear HB)
  generalize ((w88.setCell ⟨gb276, 0, none⟩ (.int .i64 ai)).setCell ⟨gb276, 1, none⟩ (.slice Ao93 ah.length co93)) = w94 at n0_ n1_ n2_ n3_ n4_ n5_ ⊢
  have ac := n0_
  have aa := n1_
  have ab := n2_
  have ae := n3_
  have ad := n4_
  have HB := n5_
  clear n0_ n1_ n2_ n3_ n4_ n5_
  replace ac := aM (Kd.R_drew ac.out)
  replace aa := aM (blk_drew aa.out)
  replace ab := aM (blk_drew ab.out)
  replace ae := aM (blk_drew ae.out)
  replace ad := aM (blk_drew ad.out)
  replace HB := aM (below_drew1 HB.out)
  refine start_ (n := 29) (S := fun w' => w'.cell? ⟨af, 0, none⟩ = some (.int .i64 an) ∧ w'.cell? ⟨af, 1, none⟩ = some (.int .i64 al) ∧ w'.cell? ⟨af, 2, none⟩ = some (.int .i64 am) ∧ w'.cell? ⟨af, 3, none⟩ = some (.slice ar ag.length aq) ∧ w'.cell? ⟨gb270, 0, none⟩ = some (.int .i64 aj) ∧ w'.cell? ⟨gb270, 1, none⟩ = some (.slice ap ak.length ao)) (ds := []) (Array.replicate 29 false) (by kernel_rfl) rfl rfl ⟨(blk_cell aa.out 0).trans rfl, (blk_cell aa.out 1).trans rfl, (blk_cell aa.out 2).trans rfl, (blk_cell aa.out 3).trans rfl, (blk_cell ab.out 0).trans rfl, (blk_cell ab.out 1).trans rfl⟩ (fun hHeld => ?_); refine with_tabW impl_PutPiece.tab2 impl_PutPiece.bits2 (fun HT_ HW_ => ?_)
  generalize w94.drew = w95 at ac aa ab ae ad HB ac hHeld ⊢
  refine pT 0 (some 13) ?_
  refine pT 1 (some 14) ?_
  refine pO 2 (some 15) (fun K hK => ?_)
  refine gG Try.func42 #[.agg #[.int .i64 an, .int .i64 al, .int .i64 am, .slice ar ag.length aq], .agg #[.int .i64 aj, .slice ap ak.length ao]] ?_
  with_reducible refine (impl_BuildOk.calls k an al am _ _ ag aj _ _ ak false _ ?side1 ?side2 ?side3 ?side4 A6.out).mono ?_
  (case side1 => have X_ := (Kd.C_below aB.out HB.out); exact TC)
  (case side2 => exact aE.out)
  (case side3 => have X_ := (Kd.C_below aA.out HB.out); exact TC)
  (case side4 => exact az.out)
  rintro e w96 ⟨rfl, hb⟩
  refine ⟨_, rfl, ?_⟩
  have n0_ := aM (Kd.R_below (by have X_ := ac.out; exact TR) hb)
  have n1_ := aM (blk_below (g := af) (o := .cells #[.int .i64 an, .int .i64 al, .int .i64 am, .slice ar ag.length aq] 28 (0, 0)) TK hb)
  have n2_ := aM (blk_below (g := gb270) (o := .cells #[.int .i64 aj, .slice ap ak.length ao] 31 (0, 0)) TK hb)
  have n3_ := aM (blk_below (g := gb271) (o := .cells #[.int .i64 0, .slice none 0 0] 31 (0, 0)) TK hb)
  have n4_ := aM (blk_below (g := gb276) (o := .cells #[.int .i64 ai, .slice Ao93 ah.length co93] 31 (0, 0)) TK hb)
  have n5_ := aM (below_step TB hb)
  clear ac
  clear aa
  clear ab
  clear ae
  clear ad
  clear HB
  have ac := n0_
  have aa := n1_
  have ab := n2_
  have ae := n3_
  have ad := n4_
  have HB := n5_
  clear n0_ n1_ n2_ n3_ n4_ n5_
  (try clear hb)
  (try clear hb2)
  (try clear hk)
  (try clear hi)
  refine hK.out _ _ ⟨(blk_cell aa.out 0).trans rfl, (blk_cell aa.out 1).trans rfl, (blk_cell aa.out 2).trans rfl, (blk_cell aa.out 3).trans rfl, (blk_cell ab.out 0).trans rfl, (blk_cell ab.out 1).trans rfl⟩ (fun hHeld => ?_)
  clear hK K
  refine nR ?_
  refine pP 3 (some 16) ?_
  refine pP 4 (some 17) ?_
  refine pX 5 (some 18) ?_
  refine pX 6 (some 19) ?_
  refine pX 7 (some 20) ?_
  refine pX 8 (some 21) ?_
  refine pX 9 (some 22) ?_
  refine pX 10 (some 23) ?_
  refine pX 11 (some 24) ?_
  refine pP 12 (some 25) ?_
  refine pP 13 (some 26) ?_
  refine pX 14 (some 27) ?_
  refine pX 15 (some 28) ?_
  refine pX 16 (some 29) ?_
  refine pX 17 (some 30) ?_
  refine pP 18 (some 31) ?_
  refine pP 19 (some 32) ?_
  refine pX 20 (some 33) ?_
  refine pX 21 (some 34) ?_
  refine pX 22 (some 35) ?_
  refine pX 23 (some 36) ?_
  refine pX 24 (some 37) ?_
  refine pX 25 (some 38) ?_
  refine pX 26 (some 39) ?_
  refine pX 27 (some 40) ?_
  refine pP 28 (some 41) ?_
  refine done_ (done_of HT_.out (by kernel_rfl)) ?_
  obtain ⟨hcz97_0, hcz97_1⟩ := cz2 ad.out
  obtain ⟨hfz97_0, hfz97_1⟩ := fz2 ad.out
  have hnb98 := NB271_269.out
  have hnc98 := NB269_271.out
  have hnb99 := NB271_270.out
  have hnc99 := NB270_271.out
  obtain ⟨hcz100_0, hcz100_1⟩ := cz2 ae.out
  obtain ⟨hfz100_0, hfz100_1⟩ := fz2 ae.out
  try go_wp2
  refine bodyPost_ret (results_ct rfl _ _ gb271 31 #[.int .i64 ai, .slice Ao93 ah.length co93] (0, 0) _ rfl (by (with_reducible repeat (first | refine blk_drewN ?_ _ | refine blk_drew ?_ | refine blk_alloc ?_ _)); refine blk_put (cs := #[.int .i64 ai, .slice none 0 0]) ?_ 1 _ rfl; (with_reducible repeat (first | refine blk_drewN ?_ _ | refine blk_drew ?_ | refine blk_alloc ?_ _)); refine blk_put (cs := #[.int .i64 0, .slice none 0 0]) ?_ 0 _ rfl; (with_reducible repeat (first | refine blk_drewN ?_ _ | refine blk_drew ?_ | refine blk_alloc ?_ _)); exact ae.out) Try.underlying31 rfl (by kernel_rfl)) rfl ?_
  exact ⟨_, by first | rfl | (simp [errW_none, errW_some] <;> rfl) | (simp [*, errW_none, errW_some] <;> rfl), by (with_reducible repeat (first | apply Kd.R_alloc | apply Kd.R_drewN | apply Kd.R_drew)); exact Kd.R_mono (Kd.R_far (p := ⟨gb271, 1, none⟩) (Kd.R_far (p := ⟨gb271, 0, none⟩) (Kd.R_types ac.out ae.out (by decide)) (fun _ hk => hk.2) (.int .i64 ai)) (fun _ hk => hk.2) (.slice Ao93 ah.length co93)) (fun _ hk => trivial), TB⟩

end Go.Proofs.Ytfkndpjbkndhcaa.Q
