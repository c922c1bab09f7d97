/- Functions of the program as plain Lean functions, and that a call of each comes to what its function tells. -/
import Derived.Test.YtfkndpjbkndhcaaQ11
import Derived.Test.YtfkndpjbkndhcaaQ33
import Derived.Test.YtfkndpjbkndhcaaQ46
import Derived.Test.YtfkndpjbkndhcaaQ51
import Derived.Test.YtfkndpjbkndhcaaQ40
set_option maxHeartbeats 40000000
set_option maxRecDepth 100000
namespace Go.Proofs.Ytfkndpjbkndhcaa.Q
open Go.RowKit Go.Proofs.YtfkndpjbkndhcaaW.PrintWords Go.Proofs.YtfkndpjbkndhcaaW.PrintLast Go.Proofs.YtfkndpjbkndhcaaW.PrintMore
attribute [local go_sem] min2_int min_two
set_option linter.unusedVariables false
set_option linter.unusedSimpArgs false
theorem Zq52_0 {p : Prop} (h : p := by (with_reducible repeat (first | refine blk_drewN ?_ _ | refine blk_drew ?_ | refine blk_alloc ?_ _)); refine blk_far ?_ NB1260_1261.out _; (with_reducible repeat (first | refine blk_drewN ?_ _ | refine blk_drew ?_ | refine blk_alloc ?_ _)); refine blk_far ?_ NB1260_1261.out _; (with_reducible repeat (first | refine blk_drewN ?_ _ | refine blk_drew ?_ | refine blk_alloc ?_ _)); refine blk_put (cs := #[.int .i64 ai, .int .i64 aj, .int .i64 am, .slice none 0 0]) ?_ 3 _ rfl; (with_reducible repeat (first | refine blk_drewN ?_ _ | refine blk_drew ?_ | refine blk_alloc ?_ _)); refine blk_put (cs := #[.int .i64 ai, .int .i64 aj, .int .i64 0, .slice none 0 0]) ?_ 2 _ rfl; (with_reducible repeat (first | refine blk_drewN ?_ _ | refine blk_drew ?_ | refine blk_alloc ?_ _)); refine blk_put (cs := #[.int .i64 ai, .int .i64 0, .int .i64 0, .slice none 0 0]) ?_ 1 _ rfl; (with_reducible repeat (first | refine blk_drewN ?_ _ | refine blk_drew ?_ | refine blk_alloc ?_ _)); refine blk_put (cs := #[.int .i64 0, .int .i64 0, .int .i64 0, .slice none 0 0]) ?_ 0 _ rfl; (with_reducible repeat (first | refine blk_drewN ?_ _ | refine blk_drew ?_ | refine blk_alloc ?_ _)); exact ad.out) : p := h
theorem Zq52_1 {p : Prop} (h : p := by (with_reducible repeat (first | refine blk_drewN ?_ _ | refine blk_drew ?_ | refine blk_alloc ?_ _)); refine blk_far ?_ NB1239_1240.out _; (with_reducible repeat (first | refine blk_drewN ?_ _ | refine blk_drew ?_ | refine blk_alloc ?_ _)); refine blk_far ?_ NB1239_1240.out _; (with_reducible repeat (first | refine blk_drewN ?_ _ | refine blk_drew ?_ | refine blk_alloc ?_ _)); refine blk_put (cs := #[.int .i64 ai, .int .i64 aj, .int .i64 am, .slice none 0 0]) ?_ 3 _ rfl; (with_reducible repeat (first | refine blk_drewN ?_ _ | refine blk_drew ?_ | refine blk_alloc ?_ _)); refine blk_put (cs := #[.int .i64 ai, .int .i64 aj, .int .i64 0, .slice none 0 0]) ?_ 2 _ rfl; (with_reducible repeat (first | refine blk_drewN ?_ _ | refine blk_drew ?_ | refine blk_alloc ?_ _)); refine blk_put (cs := #[.int .i64 ai, .int .i64 0, .int .i64 0, .slice none 0 0]) ?_ 1 _ rfl; (with_reducible repeat (first | refine blk_drewN ?_ _ | refine blk_drew ?_ | refine blk_alloc ?_ _)); refine blk_put (cs := #[.int .i64 0, .int .i64 0, .int .i64 0, .slice none 0 0]) ?_ 0 _ rfl; (with_reducible repeat (first | refine blk_drewN ?_ _ | refine blk_drew ?_ | refine blk_alloc ?_ _)); exact aa.out) : p := h
theorem Zq52_2 {p : Prop} (h : p := by (with_reducible repeat (first | apply Kd.R_alloc | apply Kd.R_drewN | apply Kd.R_drew)); exact (Kd.R_mono (Kd.R_mono (RK2 (Kd.R_types (Kd.R_types af.out ad.out (by decide)) ae.out (by decide))) (fun _ h_ => h_.1)) (fun _ h_ => h_.1))) : p := h
theorem Zq52_3 {p : Prop} (h : p := by (with_reducible repeat (first | apply Kd.R_alloc | apply Kd.R_drewN | apply Kd.R_drew)); exact (Kd.R_mono (Kd.R_mono (RK2 (Kd.R_types (Kd.R_types ah.out ad.out (by decide)) ae.out (by decide))) (fun _ h_ => h_.1)) (fun _ h_ => h_.1))) : p := h
theorem Zq52_4 {p : Prop} (h : p := by (with_reducible repeat (first | apply Kd.R_alloc | apply Kd.R_drewN | apply Kd.R_drew)); exact (Kd.R_mono (Kd.R_mono (RK2 (Kd.R_types (Kd.R_types ag.out ad.out (by decide)) ae.out (by decide))) (fun _ h_ => h_.1)) (fun _ h_ => h_.1))) : p := h
def spec_DrawWhole.f (k : Nat) (l0 : List Int) : Option (Int × Int × Int × (List (S48)) × Int × List Int) := (spec_l1New.f k l0).bind fun bt1241 => ((spec_l8Any.f k bt1241.1 bt1241.2.1 bt1241.2.2).bind fun bt1245 => ((spec_l1Once.f bt1241.1 bt1245.2.2.2.2.2.2.2.1 bt1245.2.2.2.2.2.2.2.2 2).bind fun bt1262 => (if bt1262.1 = true then ((spec_BuildFrom.f k bt1245.1 bt1245.2.1 bt1245.2.2.1 bt1245.2.2.2.1 bt1245.2.2.2.2.2.2.1).bind fun bt1265 => (some (bt1245.1, bt1245.2.1, bt1245.2.2.1, bt1245.2.2.2.1, bt1265.1, bt1265.2))) else (some (bt1245.1, bt1245.2.1, bt1245.2.2.1, bt1245.2.2.2.1, bt1245.2.2.2.2.1, bt1245.2.2.2.2.2.1)))))
theorem spec_DrawWhole.mono : ∀ a0 k, LeO (spec_DrawWhole.f k a0) (spec_DrawWhole.f (k + 1) a0) := by
  intro a0 k;have m0_ := @spec_BuildFrom.mono;have m1_ := @spec_l1New.mono;have m2_ := @spec_l8Any.mono;unfold spec_DrawWhole.f;exact LM
theorem spec_DrawWhole.calls (k : Nat) (A0 : Option Addr) (c0 : Nat) (l0 : List Int) (r1 : Int) (r2 : Int) (r3 : Int) (r4 : List (S48)) (r5 : Int) (r6 : List Int) (w : World) (hr0 : Kd.C (Kd.int .u8) w A0 l0.length l0) (hc0 : l0.length ≤ c0) (h : spec_DrawWhole.f k l0 = some (r1, r2, r3, r4, r5, r6)) :
  Calls Try.prog 47 #[.slice A0 l0.length c0] w fun e w' => ∃ v3_ v5_ : Value, e = .returned (.tuple #[.agg #[.int .i64 r1, .int .i64 r2, .int .i64 r3, v3_], .agg #[.int .i64 r5, v5_]]) ∧ Kd.R k48 48 w' w.heap.size (fun _ => True) v3_ r4 ∧ Kd.R (Kd.int .u8) 5 w' w.heap.size (fun _ => True) v5_ r6 ∧ Below w.heap.size w w' := by
 have hu28 := Try.underlying28;have hu31 := Try.underlying31;have HR0 := aM hr0;have HC0 := aM hc0;clear hr0 hc0;have HB := aM (Below.refl w.heap.size w);have H := h;clear h;unfold spec_DrawWhole.f at H;replace H := bE H;obtain ⟨⟨al, ax, az⟩, A2, H⟩ := H;dsimp only at H;replace H := bE H;obtain ⟨⟨ai, aj, am, ap, ar, aq, au, an, ao⟩, A3, H⟩ := H;dsimp only at H;replace H := bE H;obtain ⟨⟨t1262, aA, aB⟩, A4, H⟩ := H;dsimp only at H;go_enter Try.func47, Try.ntmps47;go_wp2_with (first | ((with_reducible refine gate_dst (N := 2) rfl ?_); refine gBx 2 #[.int .i64 0, .int .i64 0, .int .i64 0, .slice none 0 0] 28 ?_; intro ak hg w6 hbox hb; have aa := aM (hbox); have GW1239 := gW HB hg; have GE1239 := gW HB hg; replace HB := bS HB hb; clear hb hbox hg) | ((with_reducible refine gate_dst (N := 3) rfl ?_); refine gBx 3 #[.int .i64 0, .slice none 0 0] 31 ?_; intro gb1240 hg w7 hbox hb; have ac := aM (hbox); have GW1240 := gW HB hg; have GE1240 := gW HB hg; obtain ⟨NB1239_1240, NB1240_1239⟩ := nB aa hg; replace aa := mB aa hb; replace HB := bS HB hb; clear hb hbox hg) | ((with_reducible refine gate_callee (f := 58) rfl ?_); refine gL (some 9) Try.func58 #[.slice A0 l0.length c0] ?_; (with_reducible refine (spec_l1New.calls k _ _ l0 al ax az w _ ?side1 ?side2 ?side3 A2.out).mono ?_); (case side1 => exact TB); (case side2 => exact HR0.out); (case side3 => exact HC0.out); rintro e w8 ⟨g1244, rfl, hi, hb, hb2⟩; refine ⟨_, rfl, ?_⟩; have ab := aM (hi); have NB1244_1239 := aM (IsS108.ne_blk hi (blk_below (by have X_ := aa.out; exact TX) hb2) (by decide)); have NB1239_1244 := aM (Ne.symm (IsS108.ne_blk hi (blk_below (by have X_ := aa.out; exact TX) hb2) (by decide))); have NB1244_1240 := aM (IsS108.ne_blk hi (blk_below (by have X_ := ac.out; exact TX) hb2) (by decide)); have NB1240_1244 := aM (Ne.symm (IsS108.ne_blk hi (blk_below (by have X_ := ac.out; exact TX) hb2) (by decide))); replace aa := aM (blk_below (by have X_ := aa.out; exact TX) hb2); replace ac := aM (blk_below (by have X_ := ac.out; exact TX) hb2); replace HB := aM (hb); clear hi hb hb2) | ((with_reducible refine gate_callee (f := 95) rfl ?_); refine gL (some 12) Try.func95 #[.pointer (some ⟨g1244, 0, none⟩)] ?_; (with_reducible refine (spec_l8Any.calls k g1244 al ax az ai aj am ap ar aq au an ao w _ ?side1 ?side2 A3.out).mono ?_); (case side1 => exact TI108 ab); (case side2 => exact TG108 HB ab); rintro e w9 ⟨v1249, v1253, v1256, rfl, ho0, ho1, ho2, hi, hb, hk⟩; refine ⟨_, rfl, ?_⟩; have af := aM (Kd.R_lower ho0 (below_size (TG108 HB ab))); have ah := aM (Kd.R_lower ho1 (below_size (TG108 HB ab))); have ag := aM (Kd.R_lower ho2 (below_size (TG108 HB ab))); replace aa := aM (KeepBut.blk hk (g' := ak) (o := .cells #[.int .i64 0, .int .i64 0, .int .i64 0, .slice none 0 0] 28 (0, 0)) TK NB1239_1244.out (by simp)); replace ac := aM (KeepBut.blk hk (g' := gb1240) (o := .cells #[.int .i64 0, .slice none 0 0] 31 (0, 0)) TK NB1240_1244.out (by simp)); replace HB := aM (hb); replace ab := aM (hi); (try clear hb); (try clear hb2); (try clear hk); (try clear hi); (try clear ho0); (try clear ho1); (try clear ho2)) | ((with_reducible refine gate_dst (N := 5) rfl ?_); refine gBx 5 #[.int .i64 0, .int .i64 0, .int .i64 0, .slice none 0 0] 28 ?_; intro gb1260 hg w10 hbox hb; have ad := aM (hbox); have GW1260 := aM ((by rw [hg]; exact (below_size (TG108 HB ab)) : w.heap.size ≤ gb1260)); have GE1260 := aM ((by rw [hg]; exact (below_size (TG108 HB ab)) : w.heap.size ≤ gb1260)); obtain ⟨NB1239_1260, NB1260_1239⟩ := nB aa hg; obtain ⟨NB1240_1260, NB1260_1240⟩ := nB ac hg; have NB1244_1260 := aM ((by rw [hg]; exact Nat.ne_of_lt (IsS108.lt (show IsS108 w _ g1244 al an ao from TI108 ab)) : g1244 ≠ gb1260)); have NB1260_1244 := aM ((by rw [hg]; exact Nat.ne_of_gt (IsS108.lt (show IsS108 w _ g1244 al an ao from TI108 ab)) : gb1260 ≠ g1244)); replace af := mR af hb; replace ah := mR ah hb; replace ag := mR ag hb; replace aa := mB aa hb; replace ac := mB ac hb; replace HB := aM (below_step (TG108 HB ab) hb); replace ab := aM (IsS108.below (TI108 ab) hb); clear hb hbox hg) | ((with_reducible refine gate_dst (N := 6) rfl ?_); refine gBx 6 #[.int .i64 0, .slice none 0 0] 31 ?_; intro gb1261 hg w11 hbox hb; have ae := aM (hbox); have GW1261 := aM ((by rw [hg]; exact (below_size (TG108 HB ab)) : w.heap.size ≤ gb1261)); have GE1261 := aM ((by rw [hg]; exact (below_size (TG108 HB ab)) : w.heap.size ≤ gb1261)); obtain ⟨NB1239_1261, NB1261_1239⟩ := nB aa hg; obtain ⟨NB1240_1261, NB1261_1240⟩ := nB ac hg; obtain ⟨NB1260_1261, NB1261_1260⟩ := nB ad hg; have NB1244_1261 := aM ((by rw [hg]; exact Nat.ne_of_lt (IsS108.lt (show IsS108 w _ g1244 al an ao from TI108 ab)) : g1244 ≠ gb1261)); have NB1261_1244 := aM ((by rw [hg]; exact Nat.ne_of_gt (IsS108.lt (show IsS108 w _ g1244 al an ao from TI108 ab)) : gb1261 ≠ g1244)); replace af := mR af hb; replace ah := mR ah hb; replace ag := mR ag hb; replace aa := mB aa hb; replace ac := mB ac hb; replace ad := mB ad hb; replace HB := aM (below_step (TG108 HB ab) hb); replace ab := aM (IsS108.below (TI108 ab) hb); clear hb hbox hg; obtain ⟨hnb12, hnc12⟩ := oB NB1260_1239; obtain ⟨hnb13, hnc13⟩ := oB NB1260_1240; obtain ⟨hnb14, hnc14⟩ := oB NB1260_1261; obtain ⟨hnb15, hnc15⟩ := oB NB1260_1244; obtain ⟨hcz16_0, hcz16_1, hcz16_2, hcz16_3⟩ := cz4 ad.out; obtain ⟨hfz16_0, hfz16_1, hfz16_2, hfz16_3⟩ := fz4 ad.out; obtain ⟨Ao17, co17, eo17⟩ := Kd.R_slice af.out; subst eo17; obtain ⟨hnb18, hnc18⟩ := oB NB1261_1239; obtain ⟨hnb19, hnc19⟩ := oB NB1261_1240; obtain ⟨hnb20, hnc20⟩ := oB NB1261_1244; obtain ⟨hcz21_0, hcz21_1⟩ := cz2 ae.out; obtain ⟨hfz21_0, hfz21_1⟩ := fz2 ae.out; obtain ⟨Ao22, co22, eo22⟩ := Kd.R_slice ah.out; subst eo22) | ((with_reducible refine gate_callee (f := 75) rfl ?_); (with_reducible refine gate_dst (N := 17) rfl ?_); generalize hG_ : wpList _ _ _ _ _ _ = G_))
 subst hG_
 by_cases c23 : t1262 = true
 ·subst c23;replace H := ifT H;replace H := bE H;obtain ⟨⟨aw, ay⟩, A24, H⟩ := H;dsimp only at H;simp only [Option.some.injEq, Prod.mk.injEq] at H;obtain ⟨rfl, rfl, rfl, rfl, rfl, rfl⟩ := H;try go_wp2_with (first | ((with_reducible refine gate_callee (f := 75) rfl ?_); refine gL (some 17) Try.func75 #[.pointer (some ⟨g1244, 0, none⟩), .int .i64 2] ?_; (with_reducible refine (spec_l1Once.calls g1244 al an ao 2 true aA aB w _ ?side1 ?side2 A4.out).mono ?_); (case side1 => exact TI108 ab); (case side2 => exact TG108 HB ab); rintro e w25 ⟨rfl, hi, hb, hk⟩; refine ⟨_, rfl, ?_⟩; replace aa := aM (KeepBut.blk hk (g' := ak) (o := .cells #[.int .i64 0, .int .i64 0, .int .i64 0, .slice none 0 0] 28 (0, 0)) (TZ aa) NB1239_1244.out (by simp)); replace ac := aM (KeepBut.blk hk (g' := gb1240) (o := .cells #[.int .i64 0, .slice none 0 0] 31 (0, 0)) (TZ ac) NB1240_1244.out (by simp)); replace af := aM (Kd.R_mono (Kd.R_keep (IsS108.apart (show IsS108 w _ g1244 al an ao from TI108 ab) (by exact Zq52_2) (by decide)) hk (fun _ h => h.2)) (fun _ h => h.1)); replace ah := aM (Kd.R_mono (Kd.R_keep (IsS108.apart (show IsS108 w _ g1244 al an ao from TI108 ab) (by exact Zq52_3) (by decide)) hk (fun _ h => h.2)) (fun _ h => h.1)); replace ag := aM (Kd.R_mono (Kd.R_keep (IsS108.apart (show IsS108 w _ g1244 al an ao from TI108 ab) (by exact Zq52_4) (by decide)) hk (fun _ h => h.2)) (fun _ h => h.1)); replace ad := aM (KeepBut.blk hk (g' := gb1260) (o := .cells #[.int .i64 ai, .int .i64 aj, .int .i64 am, .slice Ao17 ap.length co17] 28 (0, 0)) (by exact Zq52_0) NB1260_1244.out (by simp)); replace ae := aM (KeepBut.blk hk (g' := gb1261) (o := .cells #[.int .i64 ar, .slice Ao22 aq.length co22] 31 (0, 0)) (blk_put (blk_put (cs := #[.int .i64 0, .slice none 0 0]) (TZ ae) 0 _ rfl) 1 _ rfl) NB1261_1244.out (by simp)); replace HB := aM (hb); replace ab := aM (hi); (try clear hb); (try clear hb2); (try clear hk); (try clear hi)))
  replace af := rD af;replace ah := rD ah;replace ag := rD ag;replace aa := bD aa;replace ac := bD ac;replace ad := bD ad;replace ae := bD ae;replace ab := aM (IsS108.drew ab.out);replace HB := aM (below_drew1 HB.out);obtain ⟨Ao27, co27, eo27⟩ := Kd.R_slice ag.out;(first | subst eo27 | (injection eo27 with f1_ f2_ f3_; have f4_ := f1_.symm; have f5_ := f3_.symm; clear f1_ f2_ f3_; subst f4_; subst f5_));refine start_ (n := 6) (S := fun w' => w'.cell? ⟨gb1260, 0, none⟩ = some (.int .i64 ai) ∧ w'.cell? ⟨gb1260, 1, none⟩ = some (.int .i64 aj) ∧ w'.cell? ⟨gb1260, 2, none⟩ = some (.int .i64 am) ∧ w'.cell? ⟨gb1260, 3, none⟩ = some (.slice Ao17 ap.length co17)) (ds := []) (Array.replicate 6 false) (by kernel_rfl) rfl rfl (cz4 ad.out) (fun hHeld => ?_);generalize w25.drew = w26 at af ah ag aa ac ad ae ab HB hHeld ⊢;refine pP 2 (some 20) ?_;refine pT 0 (some 18) ?_;refine pT 1 (some 19) ?_;refine pO 3 (some 21) (fun K hK => ?_);refine gG Try.func43 #[.agg #[.int .i64 ai, .int .i64 aj, .int .i64 am, .slice Ao17 ap.length co17], .slice Ao27 au.length co27] ?_;with_reducible refine (spec_BuildFrom.calls k ai aj am _ _ ap _ _ au aw ay _ ?side1 ?side2 ?side3 ?side4 A24.out).mono ?_
  (case side1 => have X_ := (Kd.R_reads' af.out).2.2; exact TC);(case side2 => exact (Kd.R_reads' af.out).2.1);(case side3 => have X_ := (Kd.R_reads' ag.out).2.2; exact TC);(case side4 => exact (Kd.R_reads' ag.out).2.1);rintro e w28 ⟨v1267, rfl, ho0, hb⟩;refine ⟨_, rfl, ?_⟩;have n0_ := mR af hb;have n1_ := aM (Kd.R_elder' (TRf ah) (Kd.R_base ho0) hb);have n2_ := aM (Kd.R_elder' (TRf ag) (Kd.R_base ho0) hb);have n3_ := aM (Kd.R_lower (Kd.R_new' (Kd.R_new' ho0 (Kd.R_lt (TRf ah))) (Kd.R_lt (TRf ag))) (below_size (TG108 HB ab)));have n4_ := mB aa hb;have n5_ := mB ac hb;have n6_ := aM (IsS108.below (TI108 ab) hb);have n7_ := mB ad hb;have n8_ := mB ae hb;have n9_ := aM (below_step (TG108 HB ab) hb);clear af;clear ah;clear ag;clear aa;clear ac;clear ab;clear ad;clear ae;clear HB;have af := n0_;have ah := n1_;have ag := n2_;have av := n3_;have aa := n4_;have ac := n5_;have ab := n6_;have ad := n7_;have ae := n8_;have HB := n9_;clear n0_ n1_ n2_ n3_ n4_ n5_ n6_ n7_ n8_ n9_;(try clear hb);(try clear hb2);(try clear hk);(try clear hi);(try clear ho0);obtain ⟨Ao34, co34, eo34⟩ := Kd.R_slice av.out;(first | subst eo34 | (injection eo34 with f1_ f2_ f3_; have f4_ := f1_.symm; have f5_ := f3_.symm; clear f1_ f2_ f3_; subst f4_; subst f5_));refine hK.out _ _ (cz4 ad.out) (fun hHeld => ?_);clear hK K;refine nR ?_;refine pO 4 none (fun K hK => ?_);have hs29 : w28.cell? ⟨ak, 0, none⟩ = some (.int .i64 0) := bC aa 0;have hfs29 := blk_frozen aa.out 0;have hms29_1 := NB1239_1240.out;have hms29_2 := NB1239_1260.out;have hms29_3 := NB1239_1261.out;have hs30 : w28.cell? ⟨ak, 1, none⟩ = some (.int .i64 0) := bC aa 1;have hfs30 := blk_frozen aa.out 1;have hms30_1 := NB1239_1240.out;have hms30_2 := NB1239_1260.out;have hms30_3 := NB1239_1261.out;have hs31 : w28.cell? ⟨ak, 2, none⟩ = some (.int .i64 0) := bC aa 2;have hfs31 := blk_frozen aa.out 2;have hms31_1 := NB1239_1240.out;have hms31_2 := NB1239_1260.out;have hms31_3 := NB1239_1261.out;have hs32 : w28.cell? ⟨ak, 3, none⟩ = some (.slice none 0 0) := bC aa 3;have hfs32 := blk_frozen aa.out 3;have hms32_1 := NB1239_1240.out;have hms32_2 := NB1239_1260.out;have hms32_3 := NB1239_1261.out;refine skip_ (w1 := ?_) (by rfl) rfl ?_ ?_;rotate_left
  ·go_simp;rfl
  refine hK.out _ _ ⟨(cf hHeld.1), (cf hHeld.2.1), (cf hHeld.2.2.1), (cf hHeld.2.2.2)⟩ (fun hHeld => ?_);clear hK K;refine pO 5 none (fun K hK => ?_);have hs33 : w28.cell? ⟨gb1240, 0, none⟩ = some (.int .i64 0) := bC ac 0;have hfs33 := blk_frozen ac.out 0;have hms33_0 := NB1240_1239.out;have hms33_2 := NB1240_1260.out;have hms33_3 := NB1240_1261.out;have hs35 : w28.cell? ⟨gb1240, 1, none⟩ = some (.slice none 0 0) := bC ac 1;have hfs35 := blk_frozen ac.out 1;have hms35_0 := NB1240_1239.out;have hms35_2 := NB1240_1260.out;have hms35_3 := NB1240_1261.out;refine skip_ (w1 := ?_) (by rfl) rfl ?_ ?_;rotate_left
  ·go_simp;rfl
  refine hK.out _ _ ⟨(cf hHeld.1), (cf hHeld.2.1), (cf hHeld.2.2.1), (cf hHeld.2.2.2)⟩ (fun hHeld => ?_);clear hK K;refine done_ (by kernel_rfl) ?_;try go_wp2
  refine bodyPost_ret (results_cc rfl _ _ ak gb1240 28 31 #[.int .i64 ai, .int .i64 aj, .int .i64 am, .slice Ao17 ap.length co17] #[.int .i64 aw, .slice Ao34 ay.length co34] (0, 0) (0, 0) _ _ rfl (by exact Zq52_1) Try.underlying28 rfl (by kernel_rfl) rfl (blk_put (blk_put (cs := #[.int .i64 0, .slice none 0 0]) (TZ ac) 0 _ rfl) 1 _ rfl) Try.underlying31 rfl (by kernel_rfl)) rfl ?_;exact ⟨_, _, TE, by (with_reducible repeat (first | apply Kd.R_alloc | apply Kd.R_drewN | apply Kd.R_drew)); exact Kd.R_mono (RK2 (Kd.R_types (Kd.R_types af.out aa.out (by decide)) ac.out (by decide))) (fun _ hk => trivial), by (with_reducible repeat (first | apply Kd.R_alloc | apply Kd.R_drewN | apply Kd.R_drew)); exact Kd.R_mono (RK2 (Kd.R_types (Kd.R_types av.out aa.out (by decide)) ac.out (by decide))) (fun _ hk => trivial), TG108 HB ab⟩
 ·replace c23 := Bool.eq_false_iff.mpr c23;subst c23;replace H := ifF H;simp only [Option.some.injEq, Prod.mk.injEq] at H;obtain ⟨rfl, rfl, rfl, rfl, rfl, rfl⟩ := H;try go_wp2_with (first | ((with_reducible refine gate_callee (f := 75) rfl ?_); refine gL (some 17) Try.func75 #[.pointer (some ⟨g1244, 0, none⟩), .int .i64 2] ?_; (with_reducible refine (spec_l1Once.calls g1244 al an ao 2 false aA aB w _ ?side1 ?side2 A4.out).mono ?_); (case side1 => exact TI108 ab); (case side2 => exact TG108 HB ab); rintro e w36 ⟨rfl, hi, hb, hk⟩; refine ⟨_, rfl, ?_⟩; replace aa := aM (KeepBut.blk hk (g' := ak) (o := .cells #[.int .i64 0, .int .i64 0, .int .i64 0, .slice none 0 0] 28 (0, 0)) (TZ aa) NB1239_1244.out (by simp)); replace ac := aM (KeepBut.blk hk (g' := gb1240) (o := .cells #[.int .i64 0, .slice none 0 0] 31 (0, 0)) (TZ ac) NB1240_1244.out (by simp)); replace af := aM (Kd.R_mono (Kd.R_keep (IsS108.apart (show IsS108 w _ g1244 al an ao from TI108 ab) (by exact Zq52_2) (by decide)) hk (fun _ h => h.2)) (fun _ h => h.1)); replace ah := aM (Kd.R_mono (Kd.R_keep (IsS108.apart (show IsS108 w _ g1244 al an ao from TI108 ab) (by exact Zq52_3) (by decide)) hk (fun _ h => h.2)) (fun _ h => h.1)); replace ag := aM (Kd.R_mono (Kd.R_keep (IsS108.apart (show IsS108 w _ g1244 al an ao from TI108 ab) (by exact Zq52_4) (by decide)) hk (fun _ h => h.2)) (fun _ h => h.1)); replace ad := aM (KeepBut.blk hk (g' := gb1260) (o := .cells #[.int .i64 ai, .int .i64 aj, .int .i64 am, .slice Ao17 ap.length co17] 28 (0, 0)) (by exact Zq52_0) NB1260_1244.out (by simp)); replace ae := aM (KeepBut.blk hk (g' := gb1261) (o := .cells #[.int .i64 ar, .slice Ao22 aq.length co22] 31 (0, 0)) (blk_put (blk_put (cs := #[.int .i64 0, .slice none 0 0]) (TZ ae) 0 _ rfl) 1 _ rfl) NB1261_1244.out (by simp)); replace HB := aM (hb); replace ab := aM (hi); (try clear hb); (try clear hb2); (try clear hk); (try clear hi)))
  replace af := rD af;replace ah := rD ah;replace ag := rD ag;replace aa := bD aa;replace ac := bD ac;replace ad := bD ad;replace ae := bD ae;replace ab := aM (IsS108.drew ab.out);replace HB := aM (below_drew1 HB.out);refine start_ (n := 4) (S := fun w' => w'.cell? ⟨gb1260, 0, none⟩ = some (.int .i64 ai) ∧ w'.cell? ⟨gb1260, 1, none⟩ = some (.int .i64 aj) ∧ w'.cell? ⟨gb1260, 2, none⟩ = some (.int .i64 am) ∧ w'.cell? ⟨gb1260, 3, none⟩ = some (.slice Ao17 ap.length co17) ∧ w'.cell? ⟨gb1261, 0, none⟩ = some (.int .i64 ar) ∧ w'.cell? ⟨gb1261, 1, none⟩ = some (.slice Ao22 aq.length co22)) (ds := []) (Array.replicate 4 false) (by kernel_rfl) rfl rfl ⟨bC ad 0, bC ad 1, bC ad 2, bC ad 3, bC ae 0, bC ae 1⟩ (fun hHeld => ?_);generalize w36.drew = w37 at af ah ag aa ac ad ae ab HB hHeld ⊢;refine pT 0 (some 22) ?_;refine pT 1 (some 23) ?_;refine pO 2 none (fun K hK => ?_);have hs38 : w37.cell? ⟨ak, 0, none⟩ = some (.int .i64 0) := bC aa 0;have hfs38 := blk_frozen aa.out 0;have hms38_1 := NB1239_1240.out;have hms38_2 := NB1239_1260.out;have hms38_3 := NB1239_1261.out;have hs39 : w37.cell? ⟨ak, 1, none⟩ = some (.int .i64 0) := bC aa 1;have hfs39 := blk_frozen aa.out 1;have hms39_1 := NB1239_1240.out;have hms39_2 := NB1239_1260.out;have hms39_3 := NB1239_1261.out;have hs40 : w37.cell? ⟨ak, 2, none⟩ = some (.int .i64 0) := bC aa 2;have hfs40 := blk_frozen aa.out 2;have hms40_1 := NB1239_1240.out;have hms40_2 := NB1239_1260.out;have hms40_3 := NB1239_1261.out;have hs41 : w37.cell? ⟨ak, 3, none⟩ = some (.slice none 0 0) := bC aa 3;have hfs41 := blk_frozen aa.out 3;have hms41_1 := NB1239_1240.out;have hms41_2 := NB1239_1260.out;have hms41_3 := NB1239_1261.out;refine skip_ (w1 := ?_) (by rfl) rfl ?_ ?_;rotate_left
  ·go_simp;rfl
  refine hK.out _ _ ⟨(cf hHeld.1), (cf hHeld.2.1), (cf hHeld.2.2.1), (cf hHeld.2.2.2.1), (cf hHeld.2.2.2.2.1), (cf hHeld.2.2.2.2.2)⟩ (fun hHeld => ?_);clear hK K;refine pO 3 none (fun K hK => ?_);have hs42 : w37.cell? ⟨gb1240, 0, none⟩ = some (.int .i64 0) := bC ac 0;have hfs42 := blk_frozen ac.out 0;have hms42_0 := NB1240_1239.out;have hms42_2 := NB1240_1260.out;have hms42_3 := NB1240_1261.out;have hs43 : w37.cell? ⟨gb1240, 1, none⟩ = some (.slice none 0 0) := bC ac 1;have hfs43 := blk_frozen ac.out 1;have hms43_0 := NB1240_1239.out;have hms43_2 := NB1240_1260.out;have hms43_3 := NB1240_1261.out;refine skip_ (w1 := ?_) (by rfl) rfl ?_ ?_;rotate_left
  ·go_simp;rfl
  refine hK.out _ _ ⟨(cf hHeld.1), (cf hHeld.2.1), (cf hHeld.2.2.1), (cf hHeld.2.2.2.1), (cf hHeld.2.2.2.2.1), (cf hHeld.2.2.2.2.2)⟩ (fun hHeld => ?_);clear hK K;refine done_ (by kernel_rfl) ?_;try go_wp2
  refine bodyPost_ret (results_cc rfl _ _ ak gb1240 28 31 #[.int .i64 ai, .int .i64 aj, .int .i64 am, .slice Ao17 ap.length co17] #[.int .i64 ar, .slice Ao22 aq.length co22] (0, 0) (0, 0) _ _ rfl (by exact Zq52_1) Try.underlying28 rfl (by kernel_rfl) rfl (blk_put (blk_put (cs := #[.int .i64 0, .slice none 0 0]) (TZ ac) 0 _ rfl) 1 _ rfl) Try.underlying31 rfl (by kernel_rfl)) rfl ?_;exact ⟨_, _, TE, by (with_reducible repeat (first | apply Kd.R_alloc | apply Kd.R_drewN | apply Kd.R_drew)); exact Kd.R_mono (RK2 (Kd.R_types (Kd.R_types af.out aa.out (by decide)) ac.out (by decide))) (fun _ hk => trivial), by (with_reducible repeat (first | apply Kd.R_alloc | apply Kd.R_drewN | apply Kd.R_drew)); exact Kd.R_mono (RK2 (Kd.R_types (Kd.R_types ah.out aa.out (by decide)) ac.out (by decide))) (fun _ hk => trivial), TG108 HB ab⟩
def spec_DrawPieceAt.f (k : Nat) (l0 : List Int) : Option (Int × Int × Int × (List (S48)) × Int × List Int × Int) := (spec_l1New.f k l0).bind fun bt1271 => ((spec_l8Any.f k bt1271.1 bt1271.2.1 bt1271.2.2).bind fun bt1275 => ((spec_l1Below.f bt1271.1 bt1275.2.2.2.2.2.2.2.1 bt1275.2.2.2.2.2.2.2.2 (wrap64 ((bt1275.2.2.2.1.length : Int) + 2))).bind fun bt1292 => (some (bt1275.1, bt1275.2.1, bt1275.2.2.1, bt1275.2.2.2.1, bt1275.2.2.2.2.1, bt1275.2.2.2.2.2.1, wrap64 (bt1292.1 - 1)))))
theorem spec_DrawPieceAt.mono : ∀ a0 k, LeO (spec_DrawPieceAt.f k a0) (spec_DrawPieceAt.f (k + 1) a0) := by
  intro a0 k;have m0_ := @spec_l1New.mono;have m1_ := @spec_l8Any.mono;unfold spec_DrawPieceAt.f;exact LM
def spec_DrawPieceAt.T3 : Bool × List (List Nat × List Nat) := (true, [([], []), ([], []), ([], []), ([], []), ([3], [3]), ([4], [4]), ([5], [5]), ([2, 6], [2, 6]), ([7], [7]), ([0, 7, 0], [0]), ([1, 9, 0, 1, 9], [1]), ([8, 10, 0, 1, 2, 3, 4, 5, 6, 7, 8, 9, 10], [8])])
def spec_DrawPieceAt.B3 : List Nat := [0, 0, 0, 0, 8, 24, 56, 124, 252, 253, 767, 2047]
theorem spec_DrawPieceAt.tab3 : rtab .any (opsOf Try.f48 3) = spec_DrawPieceAt.T3 := by kernel_rfl
theorem spec_DrawPieceAt.bits3 : waitsOk spec_DrawPieceAt.T3.2 spec_DrawPieceAt.B3 = true := by kernel_rfl
theorem spec_DrawPieceAt.calls (k : Nat) (A0 : Option Addr) (c0 : Nat) (l0 : List Int) (r1 : Int) (r2 : Int) (r3 : Int) (r4 : List (S48)) (r5 : Int) (r6 : List Int) (r7 : Int) (w : World) (hr0 : Kd.C (Kd.int .u8) w A0 l0.length l0) (hc0 : l0.length ≤ c0) (h : spec_DrawPieceAt.f k l0 = some (r1, r2, r3, r4, r5, r6, r7)) :
  Calls Try.prog 48 #[.slice A0 l0.length c0] w fun e w' => ∃ v3_ v5_ : Value, e = .returned (.tuple #[.agg #[.int .i64 r1, .int .i64 r2, .int .i64 r3, v3_], .agg #[.int .i64 r5, v5_], .int .i64 r7]) ∧ Kd.R k48 48 w' w.heap.size (fun _ => True) v3_ r4 ∧ Kd.R (Kd.int .u8) 5 w' w.heap.size (fun _ => True) v5_ r6 ∧ Below w.heap.size w w' := by
 have hu28 := Try.underlying28;have hu31 := Try.underlying31;have HR0 := aM hr0;have HC0 := aM hc0;clear hr0 hc0;have HB := aM (Below.refl w.heap.size w);have H := h;clear h;unfold spec_DrawPieceAt.f at H;replace H := bE H;obtain ⟨⟨ak, au, av⟩, A2, H⟩ := H;dsimp only at H;replace H := bE H;obtain ⟨⟨aj, ao, aq, an, ar, ap, aw, am, al⟩, A3, H⟩ := H;dsimp only at H;replace H := bE H;obtain ⟨⟨t1292, t1293, t1294⟩, A4, H⟩ := H;dsimp only at H;simp only [Option.some.injEq, Prod.mk.injEq] at H;obtain ⟨rfl, rfl, rfl, rfl, rfl, rfl, rfl⟩ := H;go_enter Try.func48, Try.ntmps48;try go_wp2_with (first | ((with_reducible refine gate_dst (N := 2) rfl ?_); refine gBx 2 #[.int .i64 0, .int .i64 0, .int .i64 0, .slice none 0 0] 28 ?_; intro ai hg w5 hbox hb; have ab := aM (hbox); have GW1269 := gW HB hg; have GE1269 := gW HB hg; replace HB := bS HB hb; clear hb hbox hg) | ((with_reducible refine gate_dst (N := 3) rfl ?_); refine gBx 3 #[.int .i64 0, .slice none 0 0] 31 ?_; intro gb1270 hg w6 hbox hb; have ad := aM (hbox); have GW1270 := gW HB hg; have GE1270 := gW HB hg; obtain ⟨NB1269_1270, NB1270_1269⟩ := nB ab hg; replace ab := mB ab hb; replace HB := bS HB hb; clear hb hbox hg) | ((with_reducible refine gate_callee (f := 58) rfl ?_); refine gL (some 10) Try.func58 #[.slice A0 l0.length c0] ?_; (with_reducible refine (spec_l1New.calls k _ _ l0 ak au av w _ ?side1 ?side2 ?side3 A2.out).mono ?_); (case side1 => exact TB); (case side2 => exact HR0.out); (case side3 => exact HC0.out); rintro e w7 ⟨g1274, rfl, hi, hb, hb2⟩; refine ⟨_, rfl, ?_⟩; have aa := aM (hi); have NB1274_1269 := aM (IsS108.ne_blk hi (blk_below (g := ai) (o := .cells #[.int .i64 0, .int .i64 0, .int .i64 0, .slice none 0 0] 28 (0, 0)) TK hb2) (by decide)); have NB1269_1274 := aM (Ne.symm (IsS108.ne_blk hi (blk_below (g := ai) (o := .cells #[.int .i64 0, .int .i64 0, .int .i64 0, .slice none 0 0] 28 (0, 0)) TK hb2) (by decide))); have NB1274_1270 := aM (IsS108.ne_blk hi (blk_below (g := gb1270) (o := .cells #[.int .i64 0, .slice none 0 0] 31 (0, 0)) TK hb2) (by decide)); have NB1270_1274 := aM (Ne.symm (IsS108.ne_blk hi (blk_below (g := gb1270) (o := .cells #[.int .i64 0, .slice none 0 0] 31 (0, 0)) TK hb2) (by decide))); replace ab := aM (blk_below (g := ai) (o := .cells #[.int .i64 0, .int .i64 0, .int .i64 0, .slice none 0 0] 28 (0, 0)) TK hb2); replace ad := aM (blk_below (g := gb1270) (o := .cells #[.int .i64 0, .slice none 0 0] 31 (0, 0)) TK hb2); replace HB := aM (hb); clear hi hb hb2) | ((with_reducible refine gate_callee (f := 95) rfl ?_); refine gL (some 13) Try.func95 #[.pointer (some ⟨g1274, 0, none⟩)] ?_; (with_reducible refine (spec_l8Any.calls k g1274 ak au av aj ao aq an ar ap aw am al w _ ?side1 ?side2 A3.out).mono ?_); (case side1 => exact TI108 aa); (case side2 => exact TG108 HB aa); rintro e w8 ⟨v1279, v1283, ax, rfl, ho0, ho1, ho2, hi, hb, hk⟩; refine ⟨_, rfl, ?_⟩; have ag := aM (Kd.R_lower ho0 (below_size (TG108 HB aa))); have af := aM (Kd.R_lower ho1 (below_size (TG108 HB aa))); have ah := aM (Kd.R_lower ho2 (below_size (TG108 HB aa))); replace ab := aM (KeepBut.blk hk (g' := ai) (o := .cells #[.int .i64 0, .int .i64 0, .int .i64 0, .slice none 0 0] 28 (0, 0)) TK NB1269_1274.out (by simp)); replace ad := aM (KeepBut.blk hk (g' := gb1270) (o := .cells #[.int .i64 0, .slice none 0 0] 31 (0, 0)) TK NB1270_1274.out (by simp)); replace HB := aM (hb); replace aa := aM (hi); (try clear hb); (try clear hb2); (try clear hk); (try clear hi); (try clear ho0); (try clear ho1); (try clear ho2)) | ((with_reducible refine gate_dst (N := 6) rfl ?_); refine gBx 6 #[.int .i64 0, .int .i64 0, .int .i64 0, .slice none 0 0] 28 ?_; intro gb1290 hg w9 hbox hb; have ac := aM (hbox); have GW1290 := aM ((by rw [hg]; exact (below_size (TG108 HB aa)) : w.heap.size ≤ gb1290)); have GE1290 := aM ((by rw [hg]; exact (below_size (TG108 HB aa)) : w.heap.size ≤ gb1290)); obtain ⟨NB1269_1290, NB1290_1269⟩ := nB ab hg; obtain ⟨NB1270_1290, NB1290_1270⟩ := nB ad hg; have NB1274_1290 := aM ((by rw [hg]; exact Nat.ne_of_lt (IsS108.lt (show IsS108 w _ g1274 ak am al from TI108 aa)) : g1274 ≠ gb1290)); have NB1290_1274 := aM ((by rw [hg]; exact Nat.ne_of_gt (IsS108.lt (show IsS108 w _ g1274 ak am al from TI108 aa)) : gb1290 ≠ g1274)); replace ag := mR ag hb; replace af := mR af hb; replace ah := mR ah hb; replace ab := mB ab hb; replace ad := mB ad hb; replace HB := aM (below_step (TG108 HB aa) hb); replace aa := aM (IsS108.below (TI108 aa) hb); clear hb hbox hg) | ((with_reducible refine gate_dst (N := 7) rfl ?_); refine gBx 7 #[.int .i64 0, .slice none 0 0] 31 ?_; intro gb1291 hg w10 hbox hb; have ae := aM (hbox); have GW1291 := aM ((by rw [hg]; exact (below_size (TG108 HB aa)) : w.heap.size ≤ gb1291)); have GE1291 := aM ((by rw [hg]; exact (below_size (TG108 HB aa)) : w.heap.size ≤ gb1291)); obtain ⟨NB1269_1291, NB1291_1269⟩ := nB ab hg; obtain ⟨NB1270_1291, NB1291_1270⟩ := nB ad hg; obtain ⟨NB1290_1291, NB1291_1290⟩ := nB ac hg; have NB1274_1291 := aM ((by rw [hg]; exact Nat.ne_of_lt (IsS108.lt (show IsS108 w _ g1274 ak am al from TI108 aa)) : g1274 ≠ gb1291)); have NB1291_1274 := aM ((by rw [hg]; exact Nat.ne_of_gt (IsS108.lt (show IsS108 w _ g1274 ak am al from TI108 aa)) : gb1291 ≠ g1274)); replace ag := mR ag hb; replace af := mR af hb; replace ah := mR ah hb; replace ab := mB ab hb; replace ad := mB ad hb; replace ac := mB ac hb; replace HB := aM (below_step (TG108 HB aa) hb); replace aa := aM (IsS108.below (TI108 aa) hb); clear hb hbox hg; obtain ⟨hnb11, hnc11⟩ := oB NB1290_1269; obtain ⟨hnb12, hnc12⟩ := oB NB1290_1270; obtain ⟨hnb13, hnc13⟩ := oB NB1290_1291; obtain ⟨hnb14, hnc14⟩ := oB NB1290_1274; obtain ⟨hcz15_0, hcz15_1, hcz15_2, hcz15_3⟩ := cz4 ac.out; obtain ⟨hfz15_0, hfz15_1, hfz15_2, hfz15_3⟩ := fz4 ac.out; obtain ⟨Ao16, co16, eo16⟩ := Kd.R_slice ag.out; subst eo16; obtain ⟨hnb17, hnc17⟩ := oB NB1291_1269; obtain ⟨hnb18, hnc18⟩ := oB NB1291_1270; obtain ⟨hnb19, hnc19⟩ := oB NB1291_1274; obtain ⟨hcz20_0, hcz20_1⟩ := cz2 ae.out; obtain ⟨hfz20_0, hfz20_1⟩ := fz2 ae.out; obtain ⟨Ao21, co21, eo21⟩ := Kd.R_slice af.out; subst eo21))
 generalize hX_ : (((((w10.setCell ⟨gb1290, 0, none⟩ (.int .i64 aj)).setCell ⟨gb1290, 1, none⟩ (.int .i64 ao)).setCell ⟨gb1290, 2, none⟩ (.int .i64 aq)).setCell ⟨gb1290, 3, none⟩ (.slice Ao16 an.length co16)).setCell ⟨gb1291, 0, none⟩ (.int .i64 ar)).setCell ⟨gb1291, 1, none⟩ (.slice Ao21 ap.length co21) = w22;replace ag : Aside0 (Kd.R k48 48 w22 w.heap.size (fun _ => True) (.slice Ao16 an.length co16) an) := ⟨by rw [← hX_]; (with_reducible repeat (first | apply Kd.R_alloc | apply Kd.R_drewN | apply Kd.R_drew)); exact Kd.R_mono (RK2 (Kd.R_types (Kd.R_types ag.out ac.out (by decide)) ae.out (by decide))) (fun _ hk => trivial)⟩;replace af : Aside0 (Kd.R (Kd.int .u8) 5 w22 w.heap.size (fun k_ => some k_ ≠ (ax : Value).ownBlock) (.slice Ao21 ap.length co21) ap) := ⟨by rw [← hX_]; (with_reducible repeat (first | apply Kd.R_alloc | apply Kd.R_drewN | apply Kd.R_drew)); exact Kd.R_mono (RK2 (Kd.R_types (Kd.R_types af.out ac.out (by decide)) ae.out (by decide))) (fun _ hk => hk.1.1)⟩;replace ah : Aside0 (Kd.R (Kd.int .u8) 5 w22 w.heap.size (fun k_ => some k_ ≠ (.slice Ao21 ap.length co21 : Value).ownBlock) ax aw) := ⟨by rw [← hX_]; (with_reducible repeat (first | apply Kd.R_alloc | apply Kd.R_drewN | apply Kd.R_drew)); exact Kd.R_mono (RK2 (Kd.R_types (Kd.R_types ah.out ac.out (by decide)) ae.out (by decide))) (fun _ hk => hk.1.1)⟩;replace ab : Aside0 (w22.heap[ai]? = some (.cells #[.int .i64 0, .int .i64 0, .int .i64 0, .slice none 0 0] 28 (0, 0))) := ⟨by rw [← hX_]; exact (TZ ab)⟩;replace ad : Aside0 (w22.heap[gb1270]? = some (.cells #[.int .i64 0, .slice none 0 0] 31 (0, 0))) := ⟨by rw [← hX_]; exact (TZ ad)⟩;replace ac : Aside0 (w22.heap[gb1290]? = some (.cells #[.int .i64 aj, .int .i64 ao, .int .i64 aq, .slice Ao16 an.length co16] 28 (0, 0))) := ⟨by rw [← hX_]; (with_reducible repeat (first | refine blk_drewN ?_ _ | refine blk_drew ?_ | refine blk_alloc ?_ _)); refine blk_far ?_ NB1290_1291.out _; (with_reducible repeat (first | refine blk_drewN ?_ _ | refine blk_drew ?_ | refine blk_alloc ?_ _)); refine blk_far ?_ NB1290_1291.out _; (with_reducible repeat (first | refine blk_drewN ?_ _ | refine blk_drew ?_ | refine blk_alloc ?_ _)); refine blk_put (cs := #[.int .i64 aj, .int .i64 ao, .int .i64 aq, .slice none 0 0]) ?_ 3 _ rfl; (with_reducible repeat (first | refine blk_drewN ?_ _ | refine blk_drew ?_ | refine blk_alloc ?_ _)); refine blk_put (cs := #[.int .i64 aj, .int .i64 ao, .int .i64 0, .slice none 0 0]) ?_ 2 _ rfl; (with_reducible repeat (first | refine blk_drewN ?_ _ | refine blk_drew ?_ | refine blk_alloc ?_ _)); refine blk_put (cs := #[.int .i64 aj, .int .i64 0, .int .i64 0, .slice none 0 0]) ?_ 1 _ rfl; (with_reducible repeat (first | refine blk_drewN ?_ _ | refine blk_drew ?_ | refine blk_alloc ?_ _)); refine blk_put (cs := #[.int .i64 0, .int .i64 0, .int .i64 0, .slice none 0 0]) ?_ 0 _ rfl; (with_reducible repeat (first | refine blk_drewN ?_ _ | refine blk_drew ?_ | refine blk_alloc ?_ _)); exact ac.out⟩;replace ae : Aside0 (w22.heap[gb1291]? = some (.cells #[.int .i64 ar, .slice Ao21 ap.length co21] 31 (0, 0))) := ⟨by rw [← hX_]; exact (blk_put (blk_put (cs := #[.int .i64 0, .slice none 0 0]) (TZ ae) 0 _ rfl) 1 _ rfl)⟩;replace aa : Aside0 (IsS108 w w22 g1274 ak am al) := ⟨by rw [← hX_]; exact TI108 aa⟩;replace HB : Aside0 (Below w.heap.size w w22) := ⟨by rw [← hX_]; exact TG108 HB aa⟩;clear hX_;replace ag := rD ag;replace af := rD af;replace ah := rD ah;replace ab := bD ab;replace ad := bD ad;replace ac := bD ac;replace ae := bD ae;replace aa := aM (IsS108.drew aa.out);replace HB := aM (below_drew1 HB.out);refine start_ (n := 12) (S := fun w' => w'.cell? ⟨gb1290, 0, none⟩ = some (.int .i64 aj) ∧ w'.cell? ⟨gb1290, 1, none⟩ = some (.int .i64 ao) ∧ w'.cell? ⟨gb1290, 2, none⟩ = some (.int .i64 aq) ∧ w'.cell? ⟨gb1290, 3, none⟩ = some (.slice Ao16 an.length co16) ∧ w'.cell? ⟨gb1291, 0, none⟩ = some (.int .i64 ar) ∧ w'.cell? ⟨gb1291, 1, none⟩ = some (.slice Ao21 ap.length co21)) (ds := []) (Array.replicate 12 false) (by kernel_rfl) rfl rfl ⟨bC ac 0, bC ac 1, bC ac 2, bC ac 3, bC ae 0, bC ae 1⟩ (fun hHeld => ?_); refine with_tabW spec_DrawPieceAt.tab3 spec_DrawPieceAt.bits3 (fun HT_ HW_ => ?_);generalize w22.drew = w23 at ag af ah ab ad ac ae aa HB ag af ah hHeld ⊢;refine pP 2 (some 19) ?_;refine pP 3 (some 20) ?_;refine pT 0 (some 17) ?_;refine pT 1 (some 18) ?_;refine pT 4 (some 21) ?_;refine pP 5 (some 22) ?_;refine pP 6 (some 23) ?_;refine pO 7 (some 24) (fun K hK => ?_);refine gG Try.func60 #[.pointer (some ⟨g1274, 0, none⟩), .int .i64 (wrap64 ((an.length : Int) + 2))] ?_;with_reducible refine (spec_l1Below.calls g1274 ak am al (wrap64 ((an.length : Int) + 2)) t1292 t1293 t1294 w _ ?side1 ?side2 A4.out).mono ?_
 (case side1 => exact TI108 aa);(case side2 => exact TG108 HB aa);rintro e w24 ⟨rfl, hi, hb, hk⟩;refine ⟨_, rfl, ?_⟩;have n0_ := aM (KeepBut.blk hk (g' := ai) (o := .cells #[.int .i64 0, .int .i64 0, .int .i64 0, .slice none 0 0] 28 (0, 0)) TK NB1269_1274.out (by simp));have n1_ := aM (KeepBut.blk hk (g' := gb1270) (o := .cells #[.int .i64 0, .slice none 0 0] 31 (0, 0)) TK NB1270_1274.out (by simp));have n2_ := aM (Kd.R_mono (Kd.R_keep (IsS108.apart (show IsS108 w _ g1274 ak am al from TI108 aa) (TRf ag) (by decide)) hk (fun _ h => h.2)) (fun _ h => h.1));have n3_ := aM (Kd.R_mono (Kd.R_keep (IsS108.apart (show IsS108 w _ g1274 ak am al from TI108 aa) (TRf af) (by decide)) hk (fun _ h => h.2)) (fun _ h => h.1));have n4_ := aM (Kd.R_mono (Kd.R_keep (IsS108.apart (show IsS108 w _ g1274 ak am al from TI108 aa) (TRf ah) (by decide)) hk (fun _ h => h.2)) (fun _ h => h.1));have n5_ := aM (KeepBut.blk hk (g' := gb1290) (o := .cells #[.int .i64 aj, .int .i64 ao, .int .i64 aq, .slice Ao16 an.length co16] 28 (0, 0)) TK NB1290_1274.out (by simp));have n6_ := aM (KeepBut.blk hk (g' := gb1291) (o := .cells #[.int .i64 ar, .slice Ao21 ap.length co21] 31 (0, 0)) TK NB1291_1274.out (by simp));have n7_ := aM (hb);have n8_ := aM (hi);clear ab;clear ad;clear ag;clear af;clear ah;clear ac;clear ae;clear HB;clear aa;have ab := n0_;have ad := n1_;have ag := n2_;have af := n3_;have ah := n4_;have ac := n5_;have ae := n6_;have HB := n7_;have aa := n8_;clear n0_ n1_ n2_ n3_ n4_ n5_ n6_ n7_ n8_;(try clear hb);(try clear hb2);(try clear hk);(try clear hi);refine hK.out _ _ ⟨bC ac 0, bC ac 1, bC ac 2, bC ac 3, bC ae 0, bC ae 1⟩ (fun hHeld => ?_);clear hK K;refine nR ?_;refine pP 8 (some 25) ?_;refine pO 9 none (fun K hK => ?_);have hs25 : w24.cell? ⟨ai, 0, none⟩ = some (.int .i64 0) := bC ab 0;have hfs25 := blk_frozen ab.out 0;have hms25_1 := NB1269_1270.out;have hms25_2 := NB1269_1290.out;have hms25_3 := NB1269_1291.out;have hs26 : w24.cell? ⟨ai, 1, none⟩ = some (.int .i64 0) := bC ab 1;have hfs26 := blk_frozen ab.out 1;have hms26_1 := NB1269_1270.out;have hms26_2 := NB1269_1290.out;have hms26_3 := NB1269_1291.out;have hs27 : w24.cell? ⟨ai, 2, none⟩ = some (.int .i64 0) := bC ab 2;have hfs27 := blk_frozen ab.out 2;have hms27_1 := NB1269_1270.out;have hms27_2 := NB1269_1290.out;have hms27_3 := NB1269_1291.out;have hs28 : w24.cell? ⟨ai, 3, none⟩ = some (.slice none 0 0) := bC ab 3;have hfs28 := blk_frozen ab.out 3;have hms28_1 := NB1269_1270.out;have hms28_2 := NB1269_1290.out;have hms28_3 := NB1269_1291.out;refine skip_ (w1 := ?_) (by rfl) rfl ?_ ?_;rotate_left
 ·go_simp;rfl
 refine hK.out _ _ ⟨(cf hHeld.1), (cf hHeld.2.1), (cf hHeld.2.2.1), (cf hHeld.2.2.2.1), (cf hHeld.2.2.2.2.1), (cf hHeld.2.2.2.2.2)⟩ (fun hHeld => ?_);clear hK K;refine pO 10 none (fun K hK => ?_);have hs29 : w24.cell? ⟨gb1270, 0, none⟩ = some (.int .i64 0) := bC ad 0;have hfs29 := blk_frozen ad.out 0;have hms29_0 := NB1270_1269.out;have hms29_2 := NB1270_1290.out;have hms29_3 := NB1270_1291.out;have hs30 : w24.cell? ⟨gb1270, 1, none⟩ = some (.slice none 0 0) := bC ad 1;have hfs30 := blk_frozen ad.out 1;have hms30_0 := NB1270_1269.out;have hms30_2 := NB1270_1290.out;have hms30_3 := NB1270_1291.out;refine skip_ (w1 := ?_) (by rfl) rfl ?_ ?_;rotate_left
 ·go_simp;rfl
 refine hK.out _ _ ⟨(cf hHeld.1), (cf hHeld.2.1), (cf hHeld.2.2.1), (cf hHeld.2.2.2.1), (cf hHeld.2.2.2.2.1), (cf hHeld.2.2.2.2.2)⟩ (fun hHeld => ?_);clear hK K;refine pP 11 (some 4) ?_;refine done_ (done_of HT_.out (by kernel_rfl)) ?_;try go_wp2
 refine bodyPost_ret (results_list (rs := [.cell 2 28, .cell 3 31, .tmp 4]) rfl (by simp) (.cell ai 28 #[.int .i64 aj, .int .i64 ao, .int .i64 aq, .slice Ao16 an.length co16] (0, 0) _ rfl (by (with_reducible repeat (first | refine blk_drewN ?_ _ | refine blk_drew ?_ | refine blk_alloc ?_ _)); refine blk_far ?_ NB1269_1270.out _; (with_reducible repeat (first | refine blk_drewN ?_ _ | refine blk_drew ?_ | refine blk_alloc ?_ _)); refine blk_far ?_ NB1269_1270.out _; (with_reducible repeat (first | refine blk_drewN ?_ _ | refine blk_drew ?_ | refine blk_alloc ?_ _)); refine blk_put (cs := #[.int .i64 aj, .int .i64 ao, .int .i64 aq, .slice none 0 0]) ?_ 3 _ rfl; (with_reducible repeat (first | refine blk_drewN ?_ _ | refine blk_drew ?_ | refine blk_alloc ?_ _)); refine blk_put (cs := #[.int .i64 aj, .int .i64 ao, .int .i64 0, .slice none 0 0]) ?_ 2 _ rfl; (with_reducible repeat (first | refine blk_drewN ?_ _ | refine blk_drew ?_ | refine blk_alloc ?_ _)); refine blk_put (cs := #[.int .i64 aj, .int .i64 0, .int .i64 0, .slice none 0 0]) ?_ 1 _ rfl; (with_reducible repeat (first | refine blk_drewN ?_ _ | refine blk_drew ?_ | refine blk_alloc ?_ _)); refine blk_put (cs := #[.int .i64 0, .int .i64 0, .int .i64 0, .slice none 0 0]) ?_ 0 _ rfl; (with_reducible repeat (first | refine blk_drewN ?_ _ | refine blk_drew ?_ | refine blk_alloc ?_ _)); exact ab.out) Try.underlying28 rfl (by kernel_rfl) (.cell gb1270 31 #[.int .i64 ar, .slice Ao21 ap.length co21] (0, 0) _ rfl (blk_put (blk_put (cs := #[.int .i64 0, .slice none 0 0]) (TZ ad) 0 _ rfl) 1 _ rfl) Try.underlying31 rfl (by kernel_rfl) (.tmp .nil)))) rfl ?_;exact ⟨_, _, TE, by (with_reducible repeat (first | apply Kd.R_alloc | apply Kd.R_drewN | apply Kd.R_drew)); exact Kd.R_mono (RK2 (Kd.R_types (Kd.R_types ag.out ab.out (by decide)) ad.out (by decide))) (fun _ hk => trivial), by (with_reducible repeat (first | apply Kd.R_alloc | apply Kd.R_drewN | apply Kd.R_drew)); exact Kd.R_mono (RK2 (Kd.R_types (Kd.R_types af.out ab.out (by decide)) ad.out (by decide))) (fun _ hk => trivial), TG108 HB aa⟩
def spec_PieceAt.f (k : Nat) (a0_0 : Int) (a0_1 : Int) (a0_2 : Int) (l0_3 : List (S48)) (a1_0 : Int) (l1_1 : List Int) (a2 : Int) : Option (List Int × Bool) := (spec_BuildOk.f k a0_0 a0_1 a0_2 l0_3 a1_0 l1_1).bind fun t1297 => (if t1297 = true then ((spec_InSet.f a1_0 a2).bind fun t1298 => (if t1298 = true then ((spec_SpanOf.f a0_1 a0_2 a2).bind fun bt1299 => ((some (([] : List Int) : List Int)).bind fun y1301 => (if 0 ≤ bt1299.1 then (if bt1299.1 ≤ (wrap64 (bt1299.1 + bt1299.2)) then (if (wrap64 (bt1299.1 + bt1299.2)) ≤ (l1_1.length : Int) then (if y1301.length + ((l1_1.take ((wrap64 (bt1299.1 + bt1299.2)) : Int).toNat).drop (bt1299.1 : Int).toNat).length < 140737488355328 then (some ((y1301 ++ ((l1_1.take ((wrap64 (bt1299.1 + bt1299.2)) : Int).toNat).drop (bt1299.1 : Int).toNat)), true)) else (none)) else (none)) else (none)) else (none)))) else (some ((([] : List Int)), false)))) else (some ((([] : List Int)), false)))
theorem spec_PieceAt.mono : ∀ a0 a1 a2 a3 a4 a5 a6 k, LeO (spec_PieceAt.f k a0 a1 a2 a3 a4 a5 a6) (spec_PieceAt.f (k + 1) a0 a1 a2 a3 a4 a5 a6) := by
  intro a0 a1 a2 a3 a4 a5 a6 k;have m0_ := @spec_BuildOk.mono;unfold spec_PieceAt.f;exact LM
theorem spec_PieceAt.calls (k : Nat) (a0_0 : Int) (a0_1 : Int) (a0_2 : Int) (A0_3 : Option Addr) (c0_3 : Nat) (l0_3 : List (S48)) (a1_0 : Int) (A1_1 : Option Addr) (c1_1 : Nat) (l1_1 : List Int) (a2 : Int) (r1 : List Int) (r2 : Bool) (w : World) (hr0_3 : Kd.C k48 w A0_3 l0_3.length l0_3) (hc0_3 : l0_3.length ≤ c0_3) (hr1_1 : Kd.C (Kd.int .u8) w A1_1 l1_1.length l1_1) (hc1_1 : l1_1.length ≤ c1_1) (h : spec_PieceAt.f k a0_0 a0_1 a0_2 l0_3 a1_0 l1_1 a2 = some (r1, r2)) :
    Calls Try.prog 49 #[.agg #[.int .i64 a0_0, .int .i64 a0_1, .int .i64 a0_2, .slice A0_3 l0_3.length c0_3], .agg #[.int .i64 a1_0, .slice A1_1 l1_1.length c1_1], .int .i64 a2] w fun e w' => ∃ v0_ : Value, e = .returned (.tuple #[v0_, .bool r2]) ∧ Kd.R (Kd.int .u8) 5 w' w.heap.size (fun _ => True) v0_ r1 ∧ Below w.heap.size w w' := by
  have hu28 := Try.underlying28
  have hu31 := Try.underlying31
  have HR0_3 := aM hr0_3
  have HC0_3 := aM hc0_3
  clear hr0_3 hc0_3
  have HR1_1 := aM hr1_1
  have HC1_1 := aM hc1_1
  clear hr1_1 hc1_1
  have HB := aM (Below.refl w.heap.size w)
  have H := h
  clear h
  unfold spec_PieceAt.f at H
  replace H := bE H
  obtain ⟨t1297, A4, H⟩ := H
  go_enter Try.func49, Try.ntmps49
  go_wp2_with (first | ((with_reducible refine gate_dst (N := 3) rfl ?_); refine gBx 3 #[.int .i64 a0_0, .int .i64 a0_1, .int .i64 a0_2, .slice A0_3 l0_3.length c0_3] 28 ?_; intro gb1295 hg w6 hbox hb; have BK1295 := aM (hbox); have GW1295 := gW HB hg; have GE1295 := gW HB hg; replace HB := bS HB hb; clear hb hbox hg) | ((with_reducible refine gate_dst (N := 4) rfl ?_); refine gBx 4 #[.int .i64 a1_0, .slice A1_1 l1_1.length c1_1] 31 ?_; intro gb1296 hg w7 hbox hb; have BK1296 := aM (hbox); have GW1296 := gW HB hg; have GE1296 := gW HB hg; obtain ⟨NB1295_1296, NB1296_1295⟩ := nB BK1295 hg; replace BK1295 := mB BK1295 hb; replace HB := bS HB hb; clear hb hbox hg; obtain ⟨hnb8, hnc8⟩ := oB NB1295_1296; obtain ⟨hcz9_0, hcz9_1, hcz9_2, hcz9_3⟩ := cz4 BK1295.out; obtain ⟨hfz9_0, hfz9_1, hfz9_2, hfz9_3⟩ := fz4 BK1295.out; obtain ⟨hcz10_0, hcz10_1⟩ := cz2 BK1296.out; obtain ⟨hfz10_0, hfz10_1⟩ := fz2 BK1296.out) | ((with_reducible refine gate_callee (f := 52) rfl ?_); refine gL (some 12) Try.func52 #[.agg #[.int .i64 a0_0, .int .i64 a0_1, .int .i64 a0_2, .slice A0_3 l0_3.length c0_3], .agg #[.int .i64 a1_0, .slice A1_1 l1_1.length c1_1]] ?_; (with_reducible refine (spec_BuildOk.calls k a0_0 a0_1 a0_2 _ _ l0_3 a1_0 _ _ l1_1 t1297 _ ?side1 ?side2 ?side3 ?side4 A4.out).mono ?_); (case side1 => have X_ := (Kd.C_below HR0_3.out HB.out); exact TC); (case side2 => exact HC0_3.out); (case side3 => have X_ := (Kd.C_below HR1_1.out HB.out); exact TC); (case side4 => exact HC1_1.out); rintro e w11 ⟨rfl, hb⟩; refine ⟨_, rfl, ?_⟩; replace BK1295 := mB BK1295 hb; replace BK1296 := mB BK1296 hb; replace HB := bS HB hb; clear hb) | ((with_reducible refine gate_dst (N := 13) rfl ?_); generalize hG_ : wpList _ _ _ _ _ _ = G_))
  subst hG_
  by_cases c12 : t1297 = true
  · subst c12
    replace H := ifT H
    replace H := bE H
    obtain ⟨t1298, A13, H⟩ := H
    by_cases c14 : t1298 = true
    · subst c14
      replace H := ifT H
      replace H := bE H
      obtain ⟨⟨t1299, t1300⟩, A15, H⟩ := H
      dsimp only at H
      obtain ⟨y1301, hy1301⟩ : ∃ y_ : List Int, y_ = (([] : List Int)) := ⟨_, rfl⟩
      replace H := someE H hy1301
      have Ny1301 := aM hy1301
      clear hy1301
      replace H := ifN H
      obtain ⟨c16, H⟩ := H
      have c16b0 := eq_true c16
      have c16b1 : decide (0 ≤ t1299) = true := decide_eq_true c16
      clear c16
      replace H := ifN H
      obtain ⟨c17, H⟩ := H
      have c17b0 := eq_true c17
      have c17b1 : decide (t1299 ≤ (wrap64 (t1299 + t1300))) = true := decide_eq_true c17
      replace H := ifN H
      obtain ⟨c18, H⟩ := H
      have c18b0 := eq_true c18
      have c18b1 : decide ((wrap64 (t1299 + t1300)) ≤ (l1_1.length : Int)) = true := decide_eq_true c18
      replace H := ifN H
      obtain ⟨c19, H⟩ := H
      have LMc19 := aM c19
      clear c19
      obtain ⟨y1305, hy1305⟩ : ∃ y_ : List Int, y_ = (y1301 ++ ((l1_1.take ((wrap64 (t1299 + t1300)) : Int).toNat).drop (t1299 : Int).toNat)) := ⟨_, rfl⟩
      rw [← hy1305] at H
      have Ny1305 := aM hy1305
      clear hy1305
      simp only [Option.some.injEq, Prod.mk.injEq] at H
      obtain ⟨rfl, rfl⟩ := H
      obtain ⟨hnb20, hnc20⟩ := oB NB1296_1295
      obtain ⟨hcz21_0, hcz21_1⟩ := cz2 BK1296.out
      obtain ⟨hfz21_0, hfz21_1⟩ := fz2 BK1296.out
      go_wp2_with (first | (go_at_call 98; (with_reducible refine (spec_InSet.calls a1_0 a2 true _ A13.out).mono ?_); rintro e w' ⟨rfl, ⟨nd, rfl⟩⟩; obtain ⟨hcz22_0, hcz22_1, hcz22_2, hcz22_3⟩ := cz4 BK1295.out; obtain ⟨hfz22_0, hfz22_1, hfz22_2, hfz22_3⟩ := fz4 BK1295.out) | ((with_reducible refine gate_callee (f := 76) rfl ?_); refine gL (some 28) Try.func76 #[.int .i64 a0_1, .int .i64 a0_2, .int .i64 a2] ?_; (with_reducible refine (spec_SpanOf.calls a0_1 a0_2 a2 t1299 t1300 _ A15.out).mono ?_); rintro e w' ⟨rfl, ⟨nd, rfl⟩⟩; refine ⟨_, rfl, ?_⟩) | ((with_reducible refine gate_dst (N := 31) rfl ?_); refine Kd.R_lit (Kd.int .u8) _ 5 ?hg (N := 31) ?hd (xs := ([] : List Int)) (inner := []) (ok := fun _ => True) (okp := fun _ => True) ?hr ?hp (fun _ hk => hk) trivial (Below.refl _ _) (Nat.le_refl _) (by simp) ?_; (case hd => rfl); (case hg => rfl); (case hr => first | (go_simp; done) | (go_simp; rfl)); (case hp => exact (Reps.none _ _)); intro v1302 w23 ho24 hb hg_ hnew_; clear hg_ hnew_; (first | rw [← Ny1301.out] at ho24 | (simp only [Int.reduceToNat] at ho24; rw [← Ny1301.out] at ho24)); have HO1303 := aM (Kd.R_lower ho24 (below_size TB)); replace BK1295 := mB BK1295 hb; replace BK1296 := mB BK1296 hb; replace HB := bS HB hb; clear hb ho24; obtain ⟨hcz25_0, hcz25_1⟩ := cz2 BK1296.out; obtain ⟨hfz25_0, hfz25_1⟩ := fz2 BK1296.out; obtain ⟨i026, hi026, _, hsz26, _⟩ := info_parts info5; obtain ⟨A26, hcut26, hA26, hC26⟩ := print_mid_of (P := Try.prog) (Value.int .u8) 0 22 5 .i64 .i64 Try.underlying22 hi026 hsz26 A1_1 c1_1 l1_1 t1299 (wrap64 (t1299 + t1300)) DT (by first | omega | exact DT) DT HC1_1.out; have HR1304 := aM (Kd.C_of_reads (h1 := fun _ => rfl) (hA26 _ (Kd.reads_of_C HR1_1.out))); have HC1304 := aM hC26; clear hA26 hC26 hi026 hsz26) | ((with_reducible refine gate_builtin (b := .append) (xs := #[.tmp 31, .tmp 38]) rfl ?_); at_builtin; refine Kd.R_append_rows (Kd.int .u8) (w0 := w) w.heap.size rfl (.tmp 31) (.tmp 38) 22 5 (.int .u8 0) 1 rfl Try.underlying22 info5 rfl (by decide) (by omega) v1302 y1301 ((l1_1.take ((wrap64 (t1299 + t1300)) : Int).toNat).drop (t1299 : Int).toNat) _ _ _ (fun _ => True) (fun _ => False) rfl rfl ?aO ?aR (fun _ _ h => h) (fun _ h => h.elim) ?aF ?aB ?aS ?aL ?_; (case aR => first | ((conv => arg 5; rw [← show ((l1_1.take ((wrap64 (t1299 + t1300)) : Int).toNat).drop (t1299 : Int).toNat).length = ((wrap64 (t1299 + t1300)).toNat - t1299.toNat) from (by rw [List.length_drop, List.length_take]; have h_ : ((wrap64 (t1299 + t1300)) : Int) ≤ (l1_1.length : Int) := DT; omega)]); repeat (first | exact (Kd.C_below HR1304.out HB.out) | (with_reducible refine Kd.C_alloc ?_ _) | (with_reducible refine Kd.C_drewN ?_ _) | (with_reducible refine Kd.C_drew ?_))) | (repeat (first | exact (Kd.C_below HR1304.out HB.out) | (with_reducible refine Kd.C_alloc ?_ _) | (with_reducible refine Kd.C_drewN ?_ _) | (with_reducible refine Kd.C_drew ?_)))); (case aB => exact TB); (case aF => exact (fun _ _ => trivial)); (case aO => exact (TRf HO1303)); (case aS => exact (below_size TB)); (case aL => have := LMc19.out; have hlx_ := (show ((l1_1.take ((wrap64 (t1299 + t1300)) : Int).toNat).drop (t1299 : Int).toNat).length = ((wrap64 (t1299 + t1300)).toNat - t1299.toNat) from (by rw [List.length_drop, List.length_take]; have h_ : ((wrap64 (t1299 + t1300)) : Int) ≤ (l1_1.length : Int) := DT; omega)); omega); intro v1306 w27 ho hb hg hat; rw [← Ny1305.out] at ho; have HO1307 := aM (ho); replace BK1295 := aM (blk_grown (g := gb1295) (o := .cells #[.int .i64 a0_0, .int .i64 a0_1, .int .i64 a0_2, .slice A0_3 l0_3.length c0_3] 28 (0, 0)) TK hg (Kd.R_ne HO1303.out BK1295.out (by decide))); replace BK1296 := aM (blk_grown (g := gb1296) (o := .cells #[.int .i64 a1_0, .slice A1_1 l1_1.length c1_1] 31 (0, 0)) TK hg (Kd.R_ne HO1303.out BK1296.out (by decide))); replace HB := aM (hb); clear HO1303; clear ho hb hg hat))
      go_ret2
      exact ⟨_, TE, by have X_ := HO1307.out; exact TR, TB⟩
    · replace c14 := Bool.eq_false_iff.mpr c14
      subst c14
      replace H := ifF H
      obtain ⟨y1308, hy1308⟩ : ∃ y_ : List Int, y_ = (([] : List Int)) := ⟨_, rfl⟩
      rw [← hy1308] at H
      have Ny1308 := aM hy1308
      clear hy1308
      simp only [Option.some.injEq, Prod.mk.injEq] at H
      obtain ⟨rfl, rfl⟩ := H
      obtain ⟨hnb28, hnc28⟩ := oB NB1296_1295
      obtain ⟨hcz29_0, hcz29_1⟩ := cz2 BK1296.out
      obtain ⟨hfz29_0, hfz29_1⟩ := fz2 BK1296.out
      go_wp2_with (first | (go_at_call 98; (with_reducible refine (spec_InSet.calls a1_0 a2 false _ A13.out).mono ?_); rintro e w' ⟨rfl, ⟨nd, rfl⟩⟩) | ((with_reducible refine gate_dst (N := 21) rfl ?_); refine Kd.R_lit (Kd.int .u8) _ 5 ?hg (N := 21) ?hd (xs := ([] : List Int)) (inner := []) (ok := fun _ => True) (okp := fun _ => True) ?hr ?hp (fun _ hk => hk) trivial (Below.refl _ _) (Nat.le_refl _) (by simp) ?_; (case hd => rfl); (case hg => rfl); (case hr => first | (go_simp; done) | (go_simp; rfl)); (case hp => exact (Reps.none _ _)); intro v1309 w30 ho31 hb hg_ hnew_; clear hg_ hnew_; (first | rw [← Ny1308.out] at ho31 | (simp only [Int.reduceToNat] at ho31; rw [← Ny1308.out] at ho31)); have HO1310 := aM (Kd.R_lower ho31 (below_size TB)); replace BK1295 := mB BK1295 hb; replace BK1296 := mB BK1296 hb; replace HB := bS HB hb; clear hb ho31))
      go_ret2
      exact ⟨_, TE, by have X_ := HO1310.out; exact TR, TB⟩
  · replace c12 := Bool.eq_false_iff.mpr c12
    subst c12
    replace H := ifF H
    obtain ⟨y1311, hy1311⟩ : ∃ y_ : List Int, y_ = (([] : List Int)) := ⟨_, rfl⟩
    rw [← hy1311] at H
    have Ny1311 := aM hy1311
    clear hy1311
    simp only [Option.some.injEq, Prod.mk.injEq] at H
    obtain ⟨rfl, rfl⟩ := H
    go_wp2_with (first | ((with_reducible refine gate_dst (N := 21) rfl ?_); refine Kd.R_lit (Kd.int .u8) _ 5 ?hg (N := 21) ?hd (xs := ([] : List Int)) (inner := []) (ok := fun _ => True) (okp := fun _ => True) ?hr ?hp (fun _ hk => hk) trivial (Below.refl _ _) (Nat.le_refl _) (by simp) ?_; (case hd => rfl); (case hg => rfl); (case hr => first | (go_simp; done) | (go_simp; rfl)); (case hp => exact (Reps.none _ _)); intro v1312 w32 ho33 hb hg_ hnew_; clear hg_ hnew_; (first | rw [← Ny1311.out] at ho33 | (simp only [Int.reduceToNat] at ho33; rw [← Ny1311.out] at ho33)); have HO1313 := aM (Kd.R_lower ho33 (below_size TB)); replace BK1295 := mB BK1295 hb; replace BK1296 := mB BK1296 hb; replace HB := bS HB hb; clear hb ho33))
    go_ret2
    exact ⟨_, TE, by have X_ := HO1313.out; exact TR, TB⟩
def spec_DrawBuildNew.f (k : Nat) (l0 : List Int) : Option (Int × Int × Int × (List (S48))) := (spec_l1New.f k l0).bind fun bt1315 => ((spec_l6Any.f k bt1315.1 bt1315.2.1 bt1315.2.2).bind fun bt1319 => (some (bt1319.1, bt1319.2.1, bt1319.2.2.1, bt1319.2.2.2.1)))
theorem spec_DrawBuildNew.mono : ∀ a0 k, LeO (spec_DrawBuildNew.f k a0) (spec_DrawBuildNew.f (k + 1) a0) := by
  intro a0 k;have m0_ := @spec_l1New.mono;have m1_ := @spec_l6Any.mono;unfold spec_DrawBuildNew.f;exact LM
theorem spec_DrawBuildNew.calls (k : Nat) (A0 : Option Addr) (c0 : Nat) (l0 : List Int) (r1 : Int) (r2 : Int) (r3 : Int) (r4 : List (S48)) (w : World) (hr0 : Kd.C (Kd.int .u8) w A0 l0.length l0) (hc0 : l0.length ≤ c0) (h : spec_DrawBuildNew.f k l0 = some (r1, r2, r3, r4)) :
    Calls Try.prog 50 #[.slice A0 l0.length c0] w fun e w' => ∃ v3_ : Value, e = .returned (.agg #[.int .i64 r1, .int .i64 r2, .int .i64 r3, v3_]) ∧ Kd.R k48 48 w' w.heap.size (fun _ => True) v3_ r4 ∧ Below w.heap.size w w' := by
  have hu28 := Try.underlying28
  have HR0 := aM hr0
  have HC0 := aM hc0
  clear hr0 hc0
  have HB := aM (Below.refl w.heap.size w)
  have H := h
  clear h
  unfold spec_DrawBuildNew.f at H
  replace H := bE H
  obtain ⟨⟨t1315, t1316, t1317⟩, A2, H⟩ := H
  dsimp only at H
  replace H := bE H
  obtain ⟨⟨t1319, t1320, t1321, t1322, t1325, t1326⟩, A3, H⟩ := H
  dsimp only at H
  simp only [Option.some.injEq, Prod.mk.injEq] at H
  obtain ⟨rfl, rfl, rfl, rfl⟩ := H
  go_enter Try.func50, Try.ntmps50
  go_wp2_with (first | ((with_reducible refine gate_dst (N := 2) rfl ?_); refine gBx 2 #[.int .i64 0, .int .i64 0, .int .i64 0, .slice none 0 0] 28 ?_; intro gb1314 hg w4 hbox hb; have BK1314 := aM (hbox); have GW1314 := gW HB hg; have GE1314 := gW HB hg; replace HB := bS HB hb; clear hb hbox hg) | ((with_reducible refine gate_callee (f := 58) rfl ?_); refine gL (some 5) Try.func58 #[.slice A0 l0.length c0] ?_; (with_reducible refine (spec_l1New.calls k _ _ l0 t1315 t1316 t1317 w _ ?side1 ?side2 ?side3 A2.out).mono ?_); (case side1 => exact TB); (case side2 => exact HR0.out); (case side3 => exact HC0.out); rintro e w5 ⟨g1318, rfl, hi, hb, hb2⟩; refine ⟨_, rfl, ?_⟩; have HI1318 := aM (hi); have NB1318_1314 := aM (IsS108.ne_blk hi (blk_below (by have X_ := BK1314.out; exact TX) hb2) (by decide)); have NB1314_1318 := aM (Ne.symm (IsS108.ne_blk hi (blk_below (by have X_ := BK1314.out; exact TX) hb2) (by decide))); replace BK1314 := aM (blk_below (by have X_ := BK1314.out; exact TX) hb2); replace HB := aM (hb); clear hi hb hb2) | ((with_reducible refine gate_callee (f := 99) rfl ?_); refine gL (some 7) Try.func99 #[.pointer (some ⟨g1318, 0, none⟩)] ?_; (with_reducible refine (spec_l6Any.calls k g1318 t1315 t1316 t1317 t1319 t1320 t1321 t1322 t1325 t1326 w _ ?side1 ?side2 A3.out).mono ?_); (case side1 => exact TI108 HI1318); (case side2 => exact TG108 HB HI1318); rintro e w6 ⟨v1323, rfl, ho0, hi, hb, hk⟩; refine ⟨_, rfl, ?_⟩; have HO1324 := aM (Kd.R_lower ho0 (below_size (TG108 HB HI1318))); replace BK1314 := aM (KeepBut.blk hk (g' := gb1314) (o := .cells #[.int .i64 0, .int .i64 0, .int .i64 0, .slice none 0 0] 28 (0, 0)) TK NB1314_1318.out (by simp)); replace HB := aM (hb); replace HI1318 := aM (hi); (try clear hb); (try clear hb2); (try clear hk); (try clear hi); (try clear ho0); obtain ⟨hnb7, hnc7⟩ := oB NB1314_1318; obtain ⟨hcz8_0, hcz8_1, hcz8_2, hcz8_3⟩ := cz4 BK1314.out; obtain ⟨hfz8_0, hfz8_1, hfz8_2, hfz8_3⟩ := fz4 BK1314.out; obtain ⟨Ao9, co9, eo9⟩ := Kd.R_slice HO1324.out; subst eo9))
  refine bodyPost_ret (results_cell_row rfl _ _ gb1314 28 #[.int .i64 t1319, .int .i64 t1320, .int .i64 t1321, .slice Ao9 t1322.length co9] (0, 0) _ rfl (blk_put (blk_put (blk_put (blk_put (cs := #[.int .i64 0, .int .i64 0, .int .i64 0, .slice none 0 0]) (TZ BK1314) 0 _ rfl) 1 _ rfl) 2 _ rfl) 3 _ rfl) Try.underlying28 rfl (by kernel_rfl)) rfl ?_
  exact ⟨_, TE, by (with_reducible repeat (first | apply Kd.R_alloc | apply Kd.R_drewN | apply Kd.R_drew)); exact Kd.R_mono (RK1 (Kd.R_types HO1324.out BK1314.out (by decide))) (fun _ hk => trivial), TG108 HB HI1318⟩
def spec_Missing.f (a0_0 : Int) (a0_1 : Int) (a0_2 : Int) (l0_3 : List (S48)) (a1_0 : Int) (l1_1 : List Int) : Option (Int) := (spec_AllParts.f a0_0 a0_1 a0_2 l0_3).bind fun t1329 => ((spec_Without.f t1329 a1_0).bind fun t1330 => (some t1330))
theorem spec_Missing.calls (a0_0 : Int) (a0_1 : Int) (a0_2 : Int) (A0_3 : Option Addr) (c0_3 : Nat) (l0_3 : List (S48)) (a1_0 : Int) (A1_1 : Option Addr) (c1_1 : Nat) (l1_1 : List Int) (r : Int) (w : World) (hr0_3 : Kd.C k48 w A0_3 l0_3.length l0_3) (hc0_3 : l0_3.length ≤ c0_3) (hr1_1 : Kd.C (Kd.int .u8) w A1_1 l1_1.length l1_1) (hc1_1 : l1_1.length ≤ c1_1) (h : spec_Missing.f a0_0 a0_1 a0_2 l0_3 a1_0 l1_1 = some r) :
    Calls Try.prog 54 #[.agg #[.int .i64 a0_0, .int .i64 a0_1, .int .i64 a0_2, .slice A0_3 l0_3.length c0_3], .agg #[.int .i64 a1_0, .slice A1_1 l1_1.length c1_1]] w fun e w' => e = .returned (.int .i64 r) ∧ Below w.heap.size w w' := by
  have hu28 := Try.underlying28
  have hu31 := Try.underlying31
  have HR0_3 := aM hr0_3
  have HC0_3 := aM hc0_3
  clear hr0_3 hc0_3
  have HR1_1 := aM hr1_1
  have HC1_1 := aM hc1_1
  clear hr1_1 hc1_1
  have HB := aM (Below.refl w.heap.size w)
  have H := h
  clear h
  unfold spec_Missing.f at H
  replace H := bE H
  obtain ⟨t1329, A3, H⟩ := H
  replace H := bE H
  obtain ⟨t1330, A4, H⟩ := H
  obtain rfl := Option.some.inj H
  go_enter Try.func54, Try.ntmps54
  try go_wp2_with (first | ((with_reducible refine gate_dst (N := 2) rfl ?_); refine gBx 2 #[.int .i64 a0_0, .int .i64 a0_1, .int .i64 a0_2, .slice A0_3 l0_3.length c0_3] 28 ?_; intro gb1327 hg w5 hbox hb; have BK1327 := aM (hbox); have GW1327 := gW HB hg; have GE1327 := gW HB hg; replace HB := bS HB hb; clear hb hbox hg) | ((with_reducible refine gate_dst (N := 3) rfl ?_); refine gBx 3 #[.int .i64 a1_0, .slice A1_1 l1_1.length c1_1] 31 ?_; intro gb1328 hg w6 hbox hb; have BK1328 := aM (hbox); have GW1328 := gW HB hg; have GE1328 := gW HB hg; obtain ⟨NB1327_1328, NB1328_1327⟩ := nB BK1327 hg; replace BK1327 := mB BK1327 hb; replace HB := bS HB hb; clear hb hbox hg))
  replace BK1327 := bD BK1327
  replace BK1328 := bD BK1328
  replace HB := aM (below_drew1 HB.out)
  refine start_ (n := 6) (S := fun w' => w'.cell? ⟨gb1327, 0, none⟩ = some (.int .i64 a0_0) ∧ w'.cell? ⟨gb1327, 1, none⟩ = some (.int .i64 a0_1) ∧ w'.cell? ⟨gb1327, 2, none⟩ = some (.int .i64 a0_2) ∧ w'.cell? ⟨gb1327, 3, none⟩ = some (.slice A0_3 l0_3.length c0_3) ∧ w'.cell? ⟨gb1328, 0, none⟩ = some (.int .i64 a1_0) ∧ w'.cell? ⟨gb1328, 1, none⟩ = some (.slice A1_1 l1_1.length c1_1)) (ds := []) (Array.replicate 6 false) (by kernel_rfl) rfl rfl ⟨bC BK1327 0, bC BK1327 1, bC BK1327 2, bC BK1327 3, bC BK1328 0, bC BK1328 1⟩ (fun hHeld => ?_)
  generalize w6.drew = w7 at BK1327 BK1328 HB hHeld ⊢
  refine pP 2 (some 7) ?_
  refine pT 0 (some 5) ?_
  refine pT 3 (some 8) ?_
  refine pO 1 (some 6) (fun K hK => ?_)
  refine gG Try.func101 #[.agg #[.int .i64 a0_0, .int .i64 a0_1, .int .i64 a0_2, .slice A0_3 l0_3.length c0_3]] ?_
  with_reducible refine (spec_AllParts.calls a0_0 a0_1 a0_2 _ _ l0_3 t1329 _ ?side1 ?side2 A3.out).mono ?_
  (case side1 => have X_ := (Kd.C_below HR0_3.out HB.out); exact TC)
  (case side2 => exact HC0_3.out)
  rintro e w8 ⟨rfl, hb⟩
  refine ⟨_, rfl, ?_⟩
  replace BK1327 := mB BK1327 hb
  replace BK1328 := mB BK1328 hb
  replace HB := bS HB hb
  (try clear hb)
  (try clear hb2)
  (try clear hk)
  (try clear hi)
  refine hK.out _ _ ⟨bC BK1327 0, bC BK1327 1, bC BK1327 2, bC BK1327 3, bC BK1328 0, bC BK1328 1⟩ (fun hHeld => ?_)
  clear hK K
  refine nR ?_
  refine pO 4 (some 9) (fun K hK => ?_)
  refine gG Try.func83 #[.int .i64 t1329, .int .i64 a1_0] ?_
  with_reducible refine (spec_Without.calls t1329 a1_0 t1330 _ A4.out).mono ?_
  rintro e w' ⟨rfl, ⟨nd, rfl⟩⟩
  refine ⟨_, rfl, ?_⟩
  refine hK.out _ _ ⟨bC BK1327 0, bC BK1327 1, bC BK1327 2, bC BK1327 3, bC BK1328 0, bC BK1328 1⟩ (fun hHeld => ?_)
  clear hK K
  refine nR ?_
  refine pP 5 (some 4) ?_
  refine done_ (by kernel_rfl) ?_
  try go_wp2
  go_ret
  exact ⟨TE, TB⟩
def spec_Whole.f (k : Nat) (a0_0 : Int) (a0_1 : Int) (a0_2 : Int) (l0_3 : List (S48)) (a1_0 : Int) (l1_1 : List Int) : Option (Bool) := if a0_0 = 0 then (some false) else ((spec_BuildOk.f k a0_0 a0_1 a0_2 l0_3 a1_0 l1_1).bind fun t1333 => (if t1333 = true then ((spec_Missing.f a0_0 a0_1 a0_2 l0_3 a1_0 l1_1).bind fun t1334 => (some (t1334 == 0))) else (some false)))
theorem spec_Whole.mono : ∀ a0 a1 a2 a3 a4 a5 k, LeO (spec_Whole.f k a0 a1 a2 a3 a4 a5) (spec_Whole.f (k + 1) a0 a1 a2 a3 a4 a5) := by
  intro a0 a1 a2 a3 a4 a5 k;have m0_ := @spec_BuildOk.mono;unfold spec_Whole.f;exact LM
theorem spec_Whole.calls (k : Nat) (aa : Int) (ae : Int) (af : Int) (ai : Option Addr) (ag : Nat) (ab : List (S48)) (ad : Int) (ah : Option Addr) (aj : Nat) (ac : List Int) (r : Bool) (w : World) (au : Kd.C k48 w ai ab.length ab) (ap : ab.length ≤ ag) (ar : Kd.C (Kd.int .u8) w ah ac.length ac) (aq : ac.length ≤ aj) (h : spec_Whole.f k aa ae af ab ad ac = some r) :
  Calls Try.prog 51 #[.agg #[.int .i64 aa, .int .i64 ae, .int .i64 af, .slice ai ab.length ag], .agg #[.int .i64 ad, .slice ah ac.length aj]] w fun e w' => e = .returned (.bool r) ∧ Below w.heap.size w w' := by
 have hu28 := Try.underlying28;have hu31 := Try.underlying31;have ak := aM au;have al := aM ap;clear au ap;have an := aM ar;have am := aM aq;clear ar aq;have HB := aM (Below.refl w.heap.size w);have H := h;clear h;unfold spec_Whole.f at H
 by_cases c3 : aa = 0
 ·rw [if_pos c3] at H;have c3b0 : (aa == 0) = true := beq_iff_eq.mpr c3;have c3b1 : (aa != 0) = false := bne_eq_false_iff_eq.mpr c3;clear c3;obtain rfl := Option.some.inj H;go_enter Try.func51, Try.ntmps51;go_wp2_with (first | ((with_reducible refine gate_dst (N := 2) rfl ?_); refine gBx 2 #[.int .i64 aa, .int .i64 ae, .int .i64 af, .slice ai ab.length ag] 28 ?_; intro ao hg w4 hbox hb; have BK1331 := aM (hbox); have GW1331 := gW HB hg; have GE1331 := gW HB hg; replace HB := bS HB hb; clear hb hbox hg) | ((with_reducible refine gate_dst (N := 3) rfl ?_); refine gBx 3 #[.int .i64 ad, .slice ah ac.length aj] 31 ?_; intro gb1332 hg w5 hbox hb; have BK1332 := aM (hbox); have GW1332 := gW HB hg; have GE1332 := gW HB hg; obtain ⟨NB1331_1332, NB1332_1331⟩ := nB BK1331 hg; replace BK1331 := mB BK1331 hb; replace HB := bS HB hb; clear hb hbox hg; obtain ⟨hnb6, hnc6⟩ := oB NB1331_1332; obtain ⟨hcz7_0, hcz7_1, hcz7_2, hcz7_3⟩ := cz4 BK1331.out; obtain ⟨hfz7_0, hfz7_1, hfz7_2, hfz7_3⟩ := fz4 BK1331.out))
  go_ret
  exact ⟨TE, TB⟩
 ·rw [if_neg c3] at H;have c3b0 : (aa == 0) = false := beq_eq_false_iff_ne.mpr c3;have c3b1 : (aa != 0) = true := bne_iff_ne.mpr c3;replace H := bE H;obtain ⟨t1333, A8, H⟩ := H
  by_cases c9 : t1333 = true
  ·subst c9;replace H := ifT H;replace H := bE H;obtain ⟨t1334, A10, H⟩ := H;obtain rfl := Option.some.inj H;go_enter Try.func51, Try.ntmps51;go_wp2_with (first | ((with_reducible refine gate_dst (N := 2) rfl ?_); refine gBx 2 #[.int .i64 aa, .int .i64 ae, .int .i64 af, .slice ai ab.length ag] 28 ?_; intro ao hg w11 hbox hb; have BK1331 := aM (hbox); have GW1331 := gW HB hg; have GE1331 := gW HB hg; replace HB := bS HB hb; clear hb hbox hg) | ((with_reducible refine gate_dst (N := 3) rfl ?_); refine gBx 3 #[.int .i64 ad, .slice ah ac.length aj] 31 ?_; intro gb1332 hg w12 hbox hb; have BK1332 := aM (hbox); have GW1332 := gW HB hg; have GE1332 := gW HB hg; obtain ⟨NB1331_1332, NB1332_1331⟩ := nB BK1331 hg; replace BK1331 := mB BK1331 hb; replace HB := bS HB hb; clear hb hbox hg; obtain ⟨hnb13, hnc13⟩ := oB NB1331_1332; obtain ⟨hcz14_0, hcz14_1, hcz14_2, hcz14_3⟩ := cz4 BK1331.out; obtain ⟨hfz14_0, hfz14_1, hfz14_2, hfz14_3⟩ := fz4 BK1331.out; obtain ⟨hcz15_0, hcz15_1⟩ := cz2 BK1332.out; obtain ⟨hfz15_0, hfz15_1⟩ := fz2 BK1332.out) | (go_at_call 52; (with_reducible refine (spec_BuildOk.calls k aa ae af _ _ ab ad _ _ ac true _ ?side1 ?side2 ?side3 ?side4 A8.out).mono ?_); (case side1 => have X_ := (Kd.C_below ak.out HB.out); exact TC); (case side2 => exact al.out); (case side3 => have X_ := (Kd.C_below an.out HB.out); exact TC); (case side4 => exact am.out); rintro e w16 ⟨rfl, hb⟩; replace BK1331 := mB BK1331 hb; replace BK1332 := mB BK1332 hb; replace HB := bS HB hb; clear hb; obtain ⟨hcz17_0, hcz17_1, hcz17_2, hcz17_3⟩ := cz4 BK1331.out; obtain ⟨hfz17_0, hfz17_1, hfz17_2, hfz17_3⟩ := fz4 BK1331.out; obtain ⟨hcz18_0, hcz18_1⟩ := cz2 BK1332.out; obtain ⟨hfz18_0, hfz18_1⟩ := fz2 BK1332.out) | (go_at_call 54; (with_reducible refine (spec_Missing.calls aa ae af _ _ ab ad _ _ ac t1334 _ ?side1 ?side2 ?side3 ?side4 A10.out).mono ?_); (case side1 => have X_ := (Kd.C_below ak.out HB.out); exact TC); (case side2 => exact al.out); (case side3 => have X_ := (Kd.C_below an.out HB.out); exact TC); (case side4 => exact am.out); rintro e w19 ⟨rfl, hb⟩; replace BK1331 := mB BK1331 hb; replace BK1332 := mB BK1332 hb; replace HB := bS HB hb; clear hb))
   go_ret
   exact ⟨TE, TB⟩
  ·replace c9 := Bool.eq_false_iff.mpr c9;subst c9;replace H := ifF H;obtain rfl := Option.some.inj H;go_enter Try.func51, Try.ntmps51;go_wp2_with (first | ((with_reducible refine gate_dst (N := 2) rfl ?_); refine gBx 2 #[.int .i64 aa, .int .i64 ae, .int .i64 af, .slice ai ab.length ag] 28 ?_; intro ao hg w20 hbox hb; have BK1331 := aM (hbox); have GW1331 := gW HB hg; have GE1331 := gW HB hg; replace HB := bS HB hb; clear hb hbox hg) | ((with_reducible refine gate_dst (N := 3) rfl ?_); refine gBx 3 #[.int .i64 ad, .slice ah ac.length aj] 31 ?_; intro gb1332 hg w21 hbox hb; have BK1332 := aM (hbox); have GW1332 := gW HB hg; have GE1332 := gW HB hg; obtain ⟨NB1331_1332, NB1332_1331⟩ := nB BK1331 hg; replace BK1331 := mB BK1331 hb; replace HB := bS HB hb; clear hb hbox hg; obtain ⟨hnb22, hnc22⟩ := oB NB1331_1332; obtain ⟨hcz23_0, hcz23_1, hcz23_2, hcz23_3⟩ := cz4 BK1331.out; obtain ⟨hfz23_0, hfz23_1, hfz23_2, hfz23_3⟩ := fz4 BK1331.out; obtain ⟨hcz24_0, hcz24_1⟩ := cz2 BK1332.out; obtain ⟨hfz24_0, hfz24_1⟩ := fz2 BK1332.out) | (go_at_call 52; (with_reducible refine (spec_BuildOk.calls k aa ae af _ _ ab ad _ _ ac false _ ?side1 ?side2 ?side3 ?side4 A8.out).mono ?_); (case side1 => have X_ := (Kd.C_below ak.out HB.out); exact TC); (case side2 => exact al.out); (case side3 => have X_ := (Kd.C_below an.out HB.out); exact TC); (case side4 => exact am.out); rintro e w25 ⟨rfl, hb⟩; replace BK1331 := mB BK1331 hb; replace BK1332 := mB BK1332 hb; replace HB := bS HB hb; clear hb))
   go_ret
   exact ⟨TE, TB⟩
attribute [local go_sem] min2_int min_two
attribute [local go_sem high] eqA48
def impl_Sum.l0 : Nat → List (S48) → List (S48) → Int → Int → Option (Bool)
  | 0, _, _, _, _ => none
  | k + 1, x0, x1, x12, x13 => if x13 < x12 then (if 0 ≤ x13 then (if x13 < (x0.length : Int) then (if x13 < (x1.length : Int) then (if (!(((rd_T48 x0 x13).f0) == ((rd_T48 x1 x13).f0)) || (!(((rd_T48 x0 x13).f1) == ((rd_T48 x1 x13).f1)))) = true then (some false) else (impl_Sum.l0 k x0 x1 x12 (wrap64 (x13 + 1)))) else (none)) else (none)) else (none)) else (some true)
def impl_Sum.f (k : Nat) (l0 : List (S48)) (l1 : List (S48)) : Option (Bool) := if (l0.length : Int) = (l1.length : Int) then (impl_Sum.l0 k l0 l1 (l0.length : Int) 0) else (some false)
theorem impl_Sum.mono_l : ∀ k, (∀ y0 y1 y2 y3, LeO (impl_Sum.l0 k y0 y1 y2 y3) (impl_Sum.l0 (k + 1) y0 y1 y2 y3))
  | 0 => fun _ _ _ _ r h => by simp [impl_Sum.l0] at h
  | k + 1 => by
    have ih0 := impl_Sum.mono_l k
    · intro y0 y1 y2 y3
      unfold impl_Sum.l0
      exact LM
theorem impl_Sum.mono : ∀ a0 a1 k, LeO (impl_Sum.f k a0 a1) (impl_Sum.f (k + 1) a0 a1) := by
  intro a0 a1 k;have ih0 := impl_Sum.mono_l k;unfold impl_Sum.f;exact LM
theorem impl_Sum.calls (k : Nat) (A0 : Option Addr) (c0 : Nat) (l0 : List (S48)) (A1 : Option Addr) (c1 : Nat) (l1 : List (S48)) (r : Bool) (w : World) (hr0 : Kd.C k48 w A0 l0.length l0) (hc0 : l0.length ≤ c0) (hr1 : Kd.C k48 w A1 l1.length l1) (hc1 : l1.length ≤ c1) (h : impl_Sum.f k l0 l1 = some r) :
    Calls Try.prog 103 #[.slice A0 l0.length c0, .slice A1 l1.length c1] w fun e w' => e = .returned (.bool r) ∧ Drawn0 w w' := by
  have hu48 := Try.underlying48
  have HR0 := aM hr0
  have HC0 := aM hc0
  clear hr0 hc0
  have HR1 := aM hr1
  have HC1 := aM hc1
  clear hr1 hc1
  have H := h
  clear h
  unfold impl_Sum.f at H
  by_cases c3 : (l0.length : Int) = (l1.length : Int)
  · rw [if_pos c3] at H
    have c3b0 : ((l0.length : Int) == (l1.length : Int)) = true := beq_iff_eq.mpr c3
    have c3b1 : ((l0.length : Int) != (l1.length : Int)) = false := bne_eq_false_iff_eq.mpr c3
    have c3b2 : (l0.length == l1.length) = true := by first | simpa using c3 | (simp at c3 ⊢; omega)
    clear c3
    have H' := aM H
    clear H
    go_enter Try.func103, Try.ntmps103
    go_wp2
    repeat (go_quiet (fail); try go_wp2)
    go_loopg [13] k (fun kq v13 w' => ∃ (x13_1 : Int), v13 = .int .i64 x13_1 ∧ Aside0 (impl_Sum.l0 kq l0 l1 (l0.length : Int) x13_1 = some r) ∧ Aside0 (kq ≤ k) ∧ Drawn0 w w')
    case atStart => exact ⟨(0), TF, H', ⟨Nat.le_refl _⟩, TD⟩
    case round =>
      clear H'
      try clear c1
      try clear p2
      try clear c3
      try clear c3b0
      try clear c3b1
      try clear c3b2
      obtain ⟨x13_1, rfl, HA, HK1, ⟨m1, rfl⟩⟩ := hrel
      cases gk with
      | zero => exact absurd HA.out (by simp [impl_Sum.l0])
      | succ k1 =>
        have H := HA.out
        clear HA
        simp only [impl_Sum.l0] at H
        by_cases c4 : x13_1 < (l0.length : Int)
        · rw [if_pos c4] at H
          have c4b0 : decide (x13_1 < (l0.length : Int)) = true := decide_eq_true c4
          clear c4
          replace H := ifN H
          obtain ⟨c5, H⟩ := H
          have c5b0 : decide (0 ≤ x13_1) = true := decide_eq_true c5
          clear c5
          replace H := ifN H
          obtain ⟨c6, H⟩ := H
          have c6b0 : decide (x13_1 < (l0.length : Int)) = true := decide_eq_true c6
          clear c6
          replace H := ifN H
          obtain ⟨c7, H⟩ := H
          have c7b0 : decide (x13_1 < (l1.length : Int)) = true := decide_eq_true c7
          clear c7
          by_cases c8 : (!(((rd_T48 l0 x13_1).f0) == ((rd_T48 l1 x13_1).f0)) || (!(((rd_T48 l0 x13_1).f1) == ((rd_T48 l1 x13_1).f1)))) = true
          · rw [if_pos c8] at H
            have c8b0 : (!(((rd_T48 l0 x13_1).f0) == ((rd_T48 l1 x13_1).f0)) || (!(((rd_T48 l0 x13_1).f1) == ((rd_T48 l1 x13_1).f1)))) = true := c8
            clear c8
            obtain rfl := Option.some.inj H
            have p1335 : 0 ≤ (x13_1 : Int) := DT
            have q1335 : x13_1 < (l0.length : Int) := DT
            obtain ⟨ad1335, e1335, hx1335_0, hx1335_1⟩ := at_T48 HR0.out x13_1 p1335 q1335
            cases e1335
            replace p1335 := eq_true p1335
            replace q1335 := eq_true q1335
            have p1336 : 0 ≤ (x13_1 : Int) := DT
            have q1336 : x13_1 < (l1.length : Int) := DT
            obtain ⟨ad1336, e1336, hx1336_0, hx1336_1⟩ := at_T48 HR1.out x13_1 p1336 q1336
            cases e1336
            replace p1336 := eq_true p1336
            replace q1336 := eq_true q1336
            go_wp2
            repeat (go_quiet (fail); try go_wp2)
            go_ret
            exact ⟨by first | rfl | (simp; done) | (simp [*]; done), TD⟩
          · rw [if_neg c8] at H
            have c8b0 : (!(((rd_T48 l0 x13_1).f0) == ((rd_T48 l1 x13_1).f0)) || (!(((rd_T48 l0 x13_1).f1) == ((rd_T48 l1 x13_1).f1)))) = false := by simpa using c8
            clear c8
            have H' := aM H
            clear H
            have p1335 : 0 ≤ (x13_1 : Int) := DT
            have q1335 : x13_1 < (l0.length : Int) := DT
            obtain ⟨ad1335, e1335, hx1335_0, hx1335_1⟩ := at_T48 HR0.out x13_1 p1335 q1335
            cases e1335
            replace p1335 := eq_true p1335
            replace q1335 := eq_true q1335
            have p1336 : 0 ≤ (x13_1 : Int) := DT
            have q1336 : x13_1 < (l1.length : Int) := DT
            obtain ⟨ad1336, e1336, hx1336_0, hx1336_1⟩ := at_T48 HR1.out x13_1 p1336 q1336
            cases e1336
            replace p1336 := eq_true p1336
            replace q1336 := eq_true q1336
            go_wp2
            repeat (go_quiet (fail); try go_wp2)
            go_roundg k1
            case measure => have := HK1.out; omega
            case rel => exact ⟨(wrap64 (x13_1 + 1)), TF, H', ⟨by have := HK1.out; omega⟩, TD⟩
        · rw [if_neg c4] at H
          have c4b0 : decide (x13_1 < (l0.length : Int)) = false := decide_eq_false c4
          clear c4
          obtain rfl := Option.some.inj H
          go_wp2
          repeat (go_quiet (fail); try go_wp2)
          go_ret
          exact ⟨by first | rfl | (simp; done) | (simp [*]; done), TD⟩
  · rw [if_neg c3] at H
    have c3b0 : ((l0.length : Int) == (l1.length : Int)) = false := beq_eq_false_iff_ne.mpr c3
    have c3b1 : ((l0.length : Int) != (l1.length : Int)) = true := bne_iff_ne.mpr c3
    have c3b2 : (l0.length == l1.length) = false := by first | simpa using c3 | (simp at c3 ⊢; omega)
    obtain rfl := Option.some.inj H
    go_enter Try.func103, Try.ntmps103
    go_wp2
    repeat (go_quiet (fail); try go_wp2)
    go_ret
    exact ⟨by first | rfl | (simp; done) | (simp [*]; done), TD⟩
def impl_Tells.f (k : Nat) (a0_0 : Int) (a0_1 : Int) (a0_2 : Int) (l0_3 : List (S48)) (l1 : List Int) : Option (Bool) := if (l1.length : Int) = a0_2 then ((impl_SumsOf.f k l1 a0_1).bind fun t1338 => ((impl_Sum.f k t1338 l0_3).bind fun t1341 => (some t1341))) else (some false)
theorem impl_Tells.mono : ∀ a0 a1 a2 a3 a4 k, LeO (impl_Tells.f k a0 a1 a2 a3 a4) (impl_Tells.f (k + 1) a0 a1 a2 a3 a4) := by
  intro a0 a1 a2 a3 a4 k;have m0_ := @impl_Sum.mono;have m1_ := @impl_SumsOf.mono;unfold impl_Tells.f;exact LM
def impl_Tells.T1 : Bool × List (List Nat × List Nat) := (true, [([], []), ([0], [0]), ([], []), ([2], [2]), ([1, 3], [1, 3]), ([4], [4]), ([5], [5]), ([5], [5]), ([7, 5], [5, 7]), ([6, 8, 5, 5], [5, 6, 8]), ([5], [5]), ([10, 5], [5, 10]), ([9, 11, 9, 5], [5, 9, 11]), ([5, 12], [5, 12]), ([13, 12, 0, 1, 2, 3, 4, 5, 6, 7, 8, 9, 10, 11, 12, 13], [13])])
def impl_Tells.B1 : List Nat := [0, 1, 0, 4, 15, 31, 63, 63, 191, 511, 63, 1087, 4095, 8191, 16383]
theorem impl_Tells.tab1 : rtab .any (opsOf Try.f55 1) = impl_Tells.T1 := by kernel_rfl
theorem impl_Tells.bits1 : waitsOk impl_Tells.T1.2 impl_Tells.B1 = true := by kernel_rfl
theorem impl_Tells.calls (k : Nat) (a0_0 : Int) (a0_1 : Int) (a0_2 : Int) (A0_3 : Option Addr) (c0_3 : Nat) (l0_3 : List (S48)) (A1 : Option Addr) (c1 : Nat) (l1 : List Int) (r : Bool) (w : World) (hr0_3 : Kd.C k48 w A0_3 l0_3.length l0_3) (hc0_3 : l0_3.length ≤ c0_3) (hr1 : Kd.C (Kd.int .u8) w A1 l1.length l1) (hc1 : l1.length ≤ c1) (h : impl_Tells.f k a0_0 a0_1 a0_2 l0_3 l1 = some r) :
    Calls Try.prog 55 #[.agg #[.int .i64 a0_0, .int .i64 a0_1, .int .i64 a0_2, .slice A0_3 l0_3.length c0_3], .slice A1 l1.length c1] w fun e w' => e = .returned (.bool r) ∧ Below w.heap.size w w' := by
  have hu28 := Try.underlying28
  have HR0_3 := aM hr0_3
  have HC0_3 := aM hc0_3
  clear hr0_3 hc0_3
  have HR1 := aM hr1
  have HC1 := aM hc1
  clear hr1 hc1
  have HB := aM (Below.refl w.heap.size w)
  have H := h
  clear h
  unfold impl_Tells.f at H
  by_cases c3 : (l1.length : Int) = a0_2
  · rw [if_pos c3] at H
    have c3b0 : ((l1.length : Int) == a0_2) = true := beq_iff_eq.mpr c3
    have c3b1 : ((l1.length : Int) != a0_2) = false := bne_eq_false_iff_eq.mpr c3
    clear c3
    replace H := bE H
    obtain ⟨t1338, A4, H⟩ := H
    replace H := bE H
    obtain ⟨t1341, A5, H⟩ := H
    obtain rfl := Option.some.inj H
    go_enter Try.func55, Try.ntmps55
    try go_wp2_with (first | ((with_reducible refine gate_dst (N := 2) rfl ?_); refine gBx 2 #[.int .i64 a0_0, .int .i64 a0_1, .int .i64 a0_2, .slice A0_3 l0_3.length c0_3] 28 ?_; intro gb1337 hg w6 hbox hb; have BK1337 := aM (hbox); have GW1337 := gW HB hg; have GE1337 := gW HB hg; replace HB := bS HB hb; clear hb hbox hg))
    replace BK1337 := bD BK1337
    replace HB := aM (below_drew1 HB.out)
    refine start_ (n := 15) (S := fun w' => w'.cell? ⟨gb1337, 0, none⟩ = some (.int .i64 a0_0) ∧ w'.cell? ⟨gb1337, 1, none⟩ = some (.int .i64 a0_1) ∧ w'.cell? ⟨gb1337, 2, none⟩ = some (.int .i64 a0_2) ∧ w'.cell? ⟨gb1337, 3, none⟩ = some (.slice A0_3 l0_3.length c0_3)) (ds := []) (Array.replicate 15 false) (by kernel_rfl) rfl rfl (cz4 BK1337.out) (fun hHeld => ?_); refine with_tabW impl_Tells.tab1 impl_Tells.bits1 (fun HT_ HW_ => ?_)
    generalize w6.drew = w7 at BK1337 HB hHeld ⊢
    refine pP 0 (some 5) ?_
    refine pP 1 (some 6) ?_
    refine pP 2 (some 7) ?_
    refine pT 3 (some 8) ?_
    refine pP 4 (some 9) ?_
    refine pP 5 (some 10) ?_
    refine pP 6 (some 11) ?_
    refine pP 7 (some 12) ?_
    refine pP 10 (some 15) ?_
    refine pT 8 (some 13) ?_
    refine pT 11 (some 16) ?_
    refine pO 9 (some 14) (fun K hK => ?_)
    refine gG Try.func63 #[.slice A1 l1.length c1, .int .i64 a0_1] ?_
    with_reducible refine (impl_SumsOf.calls k _ _ l1 a0_1 t1338 _ ?side1 ?side2 A4.out).mono ?_
    (case side1 => have X_ := (Kd.C_below HR1.out HB.out); exact TC)
    (case side2 => exact HC1.out)
    rintro e w8 ⟨v1339, rfl, ho0, hb⟩
    refine ⟨_, rfl, ?_⟩
    replace HO1340 := aM (Kd.R_lower ho0 (below_size TB))
    replace BK1337 := mB BK1337 hb
    replace HB := bS HB hb
    (try clear hb)
    (try clear hb2)
    (try clear hk)
    (try clear hi)
    (try clear ho0)
    obtain ⟨Ao9, co9, eo9⟩ := Kd.R_slice HO1340.out
    (first | subst eo9 | (injection eo9 with f1_ f2_ f3_; have f4_ := f1_.symm; have f5_ := f3_.symm; clear f1_ f2_ f3_; subst f4_; subst f5_))
    refine hK.out _ _ (cz4 BK1337.out) (fun hHeld => ?_)
    clear hK K
    refine nR ?_
    refine pO 12 (some 17) (fun K hK => ?_)
    refine gG Try.func103 #[.slice Ao9 t1338.length co9, .slice A0_3 l0_3.length c0_3] ?_
    with_reducible refine (impl_Sum.calls k _ _ t1338 _ _ l0_3 t1341 _ ?side1 ?side2 ?side3 ?side4 A5.out).mono ?_
    (case side1 => have X_ := (Kd.R_reads' HO1340.out).2.2; exact TC)
    (case side2 => exact (Kd.R_reads' HO1340.out).2.1)
    (case side3 => have X_ := (Kd.C_below HR0_3.out HB.out); exact TC)
    (case side4 => exact HC0_3.out)
    rintro e w' ⟨rfl, ⟨nd, rfl⟩⟩
    refine ⟨_, rfl, ?_⟩
    refine hK.out _ _ (cz4 BK1337.out) (fun hHeld => ?_)
    clear hK K
    refine nR ?_
    refine pP 13 (some 18) ?_
    refine pP 14 (some 4) ?_
    refine done_ (done_of HT_.out (by kernel_rfl)) ?_
    try go_wp2
    go_ret
    exact ⟨TE, TB⟩
  · rw [if_neg c3] at H
    have c3b0 : ((l1.length : Int) == a0_2) = false := beq_eq_false_iff_ne.mpr c3
    have c3b1 : ((l1.length : Int) != a0_2) = true := bne_iff_ne.mpr c3
    obtain rfl := Option.some.inj H
    go_enter Try.func55, Try.ntmps55
    try go_wp2_with (first | ((with_reducible refine gate_dst (N := 2) rfl ?_); refine gBx 2 #[.int .i64 a0_0, .int .i64 a0_1, .int .i64 a0_2, .slice A0_3 l0_3.length c0_3] 28 ?_; intro gb1337 hg w10 hbox hb; have BK1337 := aM (hbox); have GW1337 := gW HB hg; have GE1337 := gW HB hg; replace HB := bS HB hb; clear hb hbox hg))
    replace BK1337 := bD BK1337
    replace HB := aM (below_drew1 HB.out)
    refine start_ (n := 15) (S := fun w' => w'.cell? ⟨gb1337, 0, none⟩ = some (.int .i64 a0_0) ∧ w'.cell? ⟨gb1337, 1, none⟩ = some (.int .i64 a0_1) ∧ w'.cell? ⟨gb1337, 2, none⟩ = some (.int .i64 a0_2) ∧ w'.cell? ⟨gb1337, 3, none⟩ = some (.slice A0_3 l0_3.length c0_3)) (ds := []) (Array.replicate 15 false) (by kernel_rfl) rfl rfl (cz4 BK1337.out) (fun hHeld => ?_); refine with_tabW impl_Tells.tab1 impl_Tells.bits1 (fun HT_ HW_ => ?_)
    generalize w10.drew = w11 at BK1337 HB hHeld ⊢
    refine pP 0 (some 5) ?_
    refine pP 1 (some 6) ?_
    refine pP 2 (some 7) ?_
    refine pT 3 (some 8) ?_
    refine pP 4 (some 9) ?_
    refine pP 5 (some 10) ?_
    refine pX 6 (some 11) ?_
    refine pX 7 (some 12) ?_
    refine pX 8 (some 13) ?_
    refine pX 9 (some 14) ?_
    refine pX 10 (some 15) ?_
    refine pX 11 (some 16) ?_
    refine pX 12 (some 17) ?_
    refine pP 13 (some 18) ?_
    refine pP 14 (some 4) ?_
    refine done_ (done_of HT_.out (by kernel_rfl)) ?_
    try go_wp2
    go_ret
    exact ⟨TE, TB⟩
def bits_OnesCount64.f (a0 : Int) : Option (Int) := some (Go.bits .and .i64 (wrap64 (IntKind.u64.wrap ((IntKind.u64.wrap ((IntKind.u64.wrap ((Go.bits .and .u64 (IntKind.u64.wrap (((IntKind.u64.wrap ((Go.bits .and .u64 ((IntKind.u64.wrap ((Go.bits .and .u64 (a0 / 2) 6148914691236517205) + (Go.bits .and .u64 a0 6148914691236517205))) / 4) 3689348814741910323) + (Go.bits .and .u64 (IntKind.u64.wrap ((Go.bits .and .u64 (a0 / 2) 6148914691236517205) + (Go.bits .and .u64 a0 6148914691236517205))) 3689348814741910323))) / 16) + (IntKind.u64.wrap ((Go.bits .and .u64 ((IntKind.u64.wrap ((Go.bits .and .u64 (a0 / 2) 6148914691236517205) + (Go.bits .and .u64 a0 6148914691236517205))) / 4) 3689348814741910323) + (Go.bits .and .u64 (IntKind.u64.wrap ((Go.bits .and .u64 (a0 / 2) 6148914691236517205) + (Go.bits .and .u64 a0 6148914691236517205))) 3689348814741910323))))) 1085102592571150095) + ((Go.bits .and .u64 (IntKind.u64.wrap (((IntKind.u64.wrap ((Go.bits .and .u64 ((IntKind.u64.wrap ((Go.bits .and .u64 (a0 / 2) 6148914691236517205) + (Go.bits .and .u64 a0 6148914691236517205))) / 4) 3689348814741910323) + (Go.bits .and .u64 (IntKind.u64.wrap ((Go.bits .and .u64 (a0 / 2) 6148914691236517205) + (Go.bits .and .u64 a0 6148914691236517205))) 3689348814741910323))) / 16) + (IntKind.u64.wrap ((Go.bits .and .u64 ((IntKind.u64.wrap ((Go.bits .and .u64 (a0 / 2) 6148914691236517205) + (Go.bits .and .u64 a0 6148914691236517205))) / 4) 3689348814741910323) + (Go.bits .and .u64 (IntKind.u64.wrap ((Go.bits .and .u64 (a0 / 2) 6148914691236517205) + (Go.bits .and .u64 a0 6148914691236517205))) 3689348814741910323))))) 1085102592571150095) / 256))) + ((IntKind.u64.wrap ((Go.bits .and .u64 (IntKind.u64.wrap (((IntKind.u64.wrap ((Go.bits .and .u64 ((IntKind.u64.wrap ((Go.bits .and .u64 (a0 / 2) 6148914691236517205) + (Go.bits .and .u64 a0 6148914691236517205))) / 4) 3689348814741910323) + (Go.bits .and .u64 (IntKind.u64.wrap ((Go.bits .and .u64 (a0 / 2) 6148914691236517205) + (Go.bits .and .u64 a0 6148914691236517205))) 3689348814741910323))) / 16) + (IntKind.u64.wrap ((Go.bits .and .u64 ((IntKind.u64.wrap ((Go.bits .and .u64 (a0 / 2) 6148914691236517205) + (Go.bits .and .u64 a0 6148914691236517205))) / 4) 3689348814741910323) + (Go.bits .and .u64 (IntKind.u64.wrap ((Go.bits .and .u64 (a0 / 2) 6148914691236517205) + (Go.bits .and .u64 a0 6148914691236517205))) 3689348814741910323))))) 1085102592571150095) + ((Go.bits .and .u64 (IntKind.u64.wrap (((IntKind.u64.wrap ((Go.bits .and .u64 ((IntKind.u64.wrap ((Go.bits .and .u64 (a0 / 2) 6148914691236517205) + (Go.bits .and .u64 a0 6148914691236517205))) / 4) 3689348814741910323) + (Go.bits .and .u64 (IntKind.u64.wrap ((Go.bits .and .u64 (a0 / 2) 6148914691236517205) + (Go.bits .and .u64 a0 6148914691236517205))) 3689348814741910323))) / 16) + (IntKind.u64.wrap ((Go.bits .and .u64 ((IntKind.u64.wrap ((Go.bits .and .u64 (a0 / 2) 6148914691236517205) + (Go.bits .and .u64 a0 6148914691236517205))) / 4) 3689348814741910323) + (Go.bits .and .u64 (IntKind.u64.wrap ((Go.bits .and .u64 (a0 / 2) 6148914691236517205) + (Go.bits .and .u64 a0 6148914691236517205))) 3689348814741910323))))) 1085102592571150095) / 256))) / 65536))) + ((IntKind.u64.wrap ((IntKind.u64.wrap ((Go.bits .and .u64 (IntKind.u64.wrap (((IntKind.u64.wrap ((Go.bits .and .u64 ((IntKind.u64.wrap ((Go.bits .and .u64 (a0 / 2) 6148914691236517205) + (Go.bits .and .u64 a0 6148914691236517205))) / 4) 3689348814741910323) + (Go.bits .and .u64 (IntKind.u64.wrap ((Go.bits .and .u64 (a0 / 2) 6148914691236517205) + (Go.bits .and .u64 a0 6148914691236517205))) 3689348814741910323))) / 16) + (IntKind.u64.wrap ((Go.bits .and .u64 ((IntKind.u64.wrap ((Go.bits .and .u64 (a0 / 2) 6148914691236517205) + (Go.bits .and .u64 a0 6148914691236517205))) / 4) 3689348814741910323) + (Go.bits .and .u64 (IntKind.u64.wrap ((Go.bits .and .u64 (a0 / 2) 6148914691236517205) + (Go.bits .and .u64 a0 6148914691236517205))) 3689348814741910323))))) 1085102592571150095) + ((Go.bits .and .u64 (IntKind.u64.wrap (((IntKind.u64.wrap ((Go.bits .and .u64 ((IntKind.u64.wrap ((Go.bits .and .u64 (a0 / 2) 6148914691236517205) + (Go.bits .and .u64 a0 6148914691236517205))) / 4) 3689348814741910323) + (Go.bits .and .u64 (IntKind.u64.wrap ((Go.bits .and .u64 (a0 / 2) 6148914691236517205) + (Go.bits .and .u64 a0 6148914691236517205))) 3689348814741910323))) / 16) + (IntKind.u64.wrap ((Go.bits .and .u64 ((IntKind.u64.wrap ((Go.bits .and .u64 (a0 / 2) 6148914691236517205) + (Go.bits .and .u64 a0 6148914691236517205))) / 4) 3689348814741910323) + (Go.bits .and .u64 (IntKind.u64.wrap ((Go.bits .and .u64 (a0 / 2) 6148914691236517205) + (Go.bits .and .u64 a0 6148914691236517205))) 3689348814741910323))))) 1085102592571150095) / 256))) + ((IntKind.u64.wrap ((Go.bits .and .u64 (IntKind.u64.wrap (((IntKind.u64.wrap ((Go.bits .and .u64 ((IntKind.u64.wrap ((Go.bits .and .u64 (a0 / 2) 6148914691236517205) + (Go.bits .and .u64 a0 6148914691236517205))) / 4) 3689348814741910323) + (Go.bits .and .u64 (IntKind.u64.wrap ((Go.bits .and .u64 (a0 / 2) 6148914691236517205) + (Go.bits .and .u64 a0 6148914691236517205))) 3689348814741910323))) / 16) + (IntKind.u64.wrap ((Go.bits .and .u64 ((IntKind.u64.wrap ((Go.bits .and .u64 (a0 / 2) 6148914691236517205) + (Go.bits .and .u64 a0 6148914691236517205))) / 4) 3689348814741910323) + (Go.bits .and .u64 (IntKind.u64.wrap ((Go.bits .and .u64 (a0 / 2) 6148914691236517205) + (Go.bits .and .u64 a0 6148914691236517205))) 3689348814741910323))))) 1085102592571150095) + ((Go.bits .and .u64 (IntKind.u64.wrap (((IntKind.u64.wrap ((Go.bits .and .u64 ((IntKind.u64.wrap ((Go.bits .and .u64 (a0 / 2) 6148914691236517205) + (Go.bits .and .u64 a0 6148914691236517205))) / 4) 3689348814741910323) + (Go.bits .and .u64 (IntKind.u64.wrap ((Go.bits .and .u64 (a0 / 2) 6148914691236517205) + (Go.bits .and .u64 a0 6148914691236517205))) 3689348814741910323))) / 16) + (IntKind.u64.wrap ((Go.bits .and .u64 ((IntKind.u64.wrap ((Go.bits .and .u64 (a0 / 2) 6148914691236517205) + (Go.bits .and .u64 a0 6148914691236517205))) / 4) 3689348814741910323) + (Go.bits .and .u64 (IntKind.u64.wrap ((Go.bits .and .u64 (a0 / 2) 6148914691236517205) + (Go.bits .and .u64 a0 6148914691236517205))) 3689348814741910323))))) 1085102592571150095) / 256))) / 65536))) / 4294967296)))) 127)
theorem bits_OnesCount64.calls (a0 : Int) (r : Int) (w : World) (h : bits_OnesCount64.f a0 = some r) :
    Calls Try.prog 104 #[.int .u64 a0] w fun e w' => e = .returned (.int .i64 r) ∧ Drawn0 w w' := by
  have H := h
  clear h
  unfold bits_OnesCount64.f at H
  obtain rfl := Option.some.inj H
  go_enter Try.func104, Try.ntmps104
  go_wp2
  go_ret
  exact ⟨by first | rfl | (simp; done) | (simp [*]; done), TD⟩
def impl_CountSet.f (a0 : Int) : Option (Int) := (impl_SetOk.f a0).bind fun t1342 => (if t1342 = true then ((bits_OnesCount64.f (IntKind.u64.wrap (a0))).bind fun t1343 => (some t1343)) else (some 0))
theorem impl_CountSet.calls (a0 : Int) (r : Int) (w : World) (h : impl_CountSet.f a0 = some r) :
  Calls Try.prog 56 #[.int .i64 a0] w fun e w' => e = .returned (.int .i64 r) ∧ Drawn0 w w' := by
 have H := h;clear h;unfold impl_CountSet.f at H;replace H := bE H;obtain ⟨t1342, A2, H⟩ := H
 by_cases c3 : t1342 = true
 ·subst c3;replace H := ifT H;replace H := bE H;obtain ⟨t1343, A4, H⟩ := H;obtain rfl := Option.some.inj H;go_enter Try.func56, Try.ntmps56;go_wp2_with (first | ((with_reducible refine gate_callee (f := 72) rfl ?_); refine gL (some 4) Try.func72 #[.int .i64 a0] ?_; (with_reducible refine (impl_SetOk.calls a0 true _ A2.out).mono ?_); rintro e w' ⟨rfl, ⟨nd, rfl⟩⟩; refine ⟨_, rfl, ?_⟩) | ((with_reducible refine gate_callee (f := 104) rfl ?_); refine gL (some 8) Try.func104 #[.int .u64 (IntKind.u64.wrap (a0))] ?_; (with_reducible refine (bits_OnesCount64.calls (IntKind.u64.wrap (a0)) t1343 _ A4.out).mono ?_); rintro e w' ⟨rfl, ⟨nd, rfl⟩⟩; refine ⟨_, rfl, ?_⟩))
  go_ret
  exact ⟨by first | rfl | (simp; done) | (simp [*]; done), TD⟩
 ·replace c3 := Bool.eq_false_iff.mpr c3;subst c3;replace H := ifF H;obtain rfl := Option.some.inj H;go_enter Try.func56, Try.ntmps56;go_wp2_with (first | ((with_reducible refine gate_callee (f := 72) rfl ?_); refine gL (some 4) Try.func72 #[.int .i64 a0] ?_; (with_reducible refine (impl_SetOk.calls a0 false _ A2.out).mono ?_); rintro e w' ⟨rfl, ⟨nd, rfl⟩⟩; refine ⟨_, rfl, ?_⟩))
  go_ret
  exact ⟨by first | rfl | (simp; done) | (simp [*]; done), TD⟩
end Go.Proofs.Ytfkndpjbkndhcaa.Q
