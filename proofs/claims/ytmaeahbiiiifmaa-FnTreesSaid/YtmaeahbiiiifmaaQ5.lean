/- Functions of the program as plain Lean functions, and that a call of each comes to what its function tells. Written by a program of this seat. -/
import Derived.Test.YtmaeahbiiiifmaaQ0
import Derived.Test.YtmaeahbiiiifmaaQ1
import Derived.Test.YtmaeahbiiiifmaaQ4
namespace Go.Proofs.Ytmaeahbiiiifmaa.Q
open Go.RowKit Go.Proofs.YtmaeahbiiiifmaaW.PrintWords Go.Proofs.YtmaeahbiiiifmaaW.PrintLast Go.Proofs.YtmaeahbiiiifmaaW.PrintMore
attribute [local go_sem] max2_int min2_int max_two min_two max_three min_three max_four min_four   -- for this text's walks alone
set_option linter.unusedVariables false
set_option linter.unusedSimpArgs false

/-! ### spec_l13Pair: function 25 -/
def spec_l13Pair.f (k : Nat) (l0 : List Int) : Option (List Int × Int) := (spec_l1New.f k l0).bind fun bt178 => ((spec_l13Any.f k bt178.1 bt178.2.1 bt178.2.2).bind fun bt182 => ((spec_l1Below.f bt178.1 bt182.2.1 bt182.2.2 9).bind fun bt188 => (some (bt182.1, wrap64 (bt188.1 - 1)))))
theorem spec_l13Pair.mono : ∀ a0 k, LeO (spec_l13Pair.f k a0) (spec_l13Pair.f (k + 1) a0) := by
  intro a0 k
  have m0_ := @spec_l13Any.mono
  have m1_ := @spec_l1New.mono
  unfold spec_l13Pair.f
  exact LM
set_option maxHeartbeats 40000000 in
set_option maxRecDepth 100000 in
theorem spec_l13Pair.calls (k : Nat) (A0 : Option Addr) (c0 : Nat) (l0 : List Int) (r1 : List Int) (r2 : Int) (w : World) (hr0 : Kd.C (Kd.int .u8) w A0 l0.length l0) (hc0 : l0.length ≤ c0) (h : spec_l13Pair.f k l0 = some (r1, r2)) :
    Calls Try.prog 25 #[.slice A0 l0.length c0] w fun e w' => ∃ v0_ : Value, e = .returned (.tuple #[.agg #[v0_], .int .i64 r2]) ∧ Kd.R (Kd.int .i64) 3 w' w.heap.size (fun _ => True) v0_ r1 ∧ Below w.heap.size w w' := by
  have hu26 := Try.underlying26
  have HR0 := aM hr0
  have HC0 := aM hc0
  clear hr0 hc0
  have HB := aM (Below.refl w.heap.size w)
  have H := h
  clear h
  unfold spec_l13Pair.f at H
  replace H := bE H
  obtain ⟨⟨t178, t179, t180⟩, A2, H⟩ := H
  dsimp only at H
  replace H := bE H
  obtain ⟨⟨t182, t185, t186⟩, A3, H⟩ := H
  dsimp only at H
  replace H := bE H
  obtain ⟨⟨t188, t189, t190⟩, A4, H⟩ := H
  dsimp only at H
  simp only [Option.some.injEq, Prod.mk.injEq] at H
  obtain ⟨rfl, rfl⟩ := H
  go_enter Try.func25, Try.ntmps25
  try go_wp2_with (first | ((with_reducible refine gate_dst (N := 2) rfl ?_); refine gBx 2 #[.slice none 0 0] 26 ?_; intro gb177 hg w5 hbox hb; have BK177 := aM (hbox); have GW177 := aM ((by rw [hg]; exact (below_size TB) : w.heap.size ≤ gb177)); have GE177 := aM ((by rw [hg]; exact (below_size TB) : w.heap.size ≤ gb177)); replace HB := aM (below_step TB hb); clear hb hbox hg) | ((with_reducible refine gate_callee (f := 23) rfl ?_); refine gL (some 7) Try.func23 #[.slice A0 l0.length c0] ?_; (with_reducible refine (spec_l1New.calls k _ _ l0 t178 t179 t180 w _ ?side1 ?side2 ?side3 A2.out).mono ?_); (case side1 => repeat (first | (with_reducible first | exact HB.out | apply below_alloc | apply pw_below_drewN | apply below_drew1 | refine below_set ?_ GE177.out) | exact HB.out)); (case side2 => exact HR0.out); (case side3 => exact HC0.out); rintro e w6 ⟨g181, rfl, hi, hb, hb2⟩; refine ⟨_, rfl, ?_⟩; have HI181 := aM (hi); have NB181_177 := aM (IsS47.ne_blk hi (blk_below (g := gb177) (o := .cells #[.slice none 0 0] 26 (0, 0)) TK hb2) (by decide)); have NB177_181 := aM (Ne.symm (IsS47.ne_blk hi (blk_below (g := gb177) (o := .cells #[.slice none 0 0] 26 (0, 0)) TK hb2) (by decide))); replace BK177 := aM (blk_below (g := gb177) (o := .cells #[.slice none 0 0] 26 (0, 0)) TK hb2); replace HB := aM (hb); clear hi hb hb2) | ((with_reducible refine gate_callee (f := 26) rfl ?_); refine gL (some 9) Try.func26 #[.pointer (some ⟨g181, 0, none⟩)] ?_; (with_reducible refine (spec_l13Any.calls k g181 t178 t179 t180 t182 t185 t186 w _ ?side1 ?side2 A3.out).mono ?_); (case side1 => repeat (first | (with_reducible first | exact HI181.out | apply IsS47.alloc | apply IsS47.drewN | apply IsS47.drew | apply IsS47.set_1 | apply IsS47.set_2 | refine IsS47.far ?_ NB181_177.out _) | exact HI181.out)); (case side2 => repeat (first | (with_reducible first | exact HB.out | apply below_alloc | apply pw_below_drewN | apply below_drew1 | refine below_set ?_ (IsS47.ge HI181.out) | refine below_set ?_ GE177.out) | exact HB.out)); rintro e w7 ⟨v183, rfl, ho0, hi, hb, hk⟩; refine ⟨_, rfl, ?_⟩; have HO184 := aM (Kd.R_lower ho0 (below_size (by repeat (first | (with_reducible first | exact HB.out | apply below_alloc | apply pw_below_drewN | apply below_drew1 | refine below_set ?_ (IsS47.ge HI181.out) | refine below_set ?_ GE177.out) | exact HB.out)))); replace BK177 := aM (KeepBut.blk hk (g' := gb177) (o := .cells #[.slice none 0 0] 26 (0, 0)) TK NB177_181.out (by simp)); replace HB := aM (hb); replace HI181 := aM (hi); (try clear hb); (try clear hb2); (try clear hk); (try clear hi); (try clear ho0)) | ((with_reducible refine gate_dst (N := 5) rfl ?_); refine gBx 5 #[.slice none 0 0] 26 ?_; intro gb187 hg w8 hbox hb; have BK187 := aM (hbox); have GW187 := aM ((by rw [hg]; exact (below_size (by repeat (first | (with_reducible first | exact HB.out | apply below_alloc | apply pw_below_drewN | apply below_drew1 | refine below_set ?_ (IsS47.ge HI181.out) | refine below_set ?_ GE177.out) | exact HB.out))) : w.heap.size ≤ gb187)); have GE187 := aM ((by rw [hg]; exact (below_size (by repeat (first | (with_reducible first | exact HB.out | apply below_alloc | apply pw_below_drewN | apply below_drew1 | refine below_set ?_ (IsS47.ge HI181.out) | refine below_set ?_ GE177.out) | exact HB.out))) : w.heap.size ≤ gb187)); have NB177_187 := aM ((by rw [hg]; exact Nat.ne_of_lt (blk_lt (g := gb177) (o := .cells #[.slice none 0 0] 26 (0, 0)) TK) : gb177 ≠ gb187)); have NB187_177 := aM ((by rw [hg]; exact Nat.ne_of_gt (blk_lt (g := gb177) (o := .cells #[.slice none 0 0] 26 (0, 0)) TK) : gb187 ≠ gb177)); have NB181_187 := aM ((by rw [hg]; exact Nat.ne_of_lt (IsS47.lt (show IsS47 w _ g181 t178 t185 t186 from by repeat (first | (with_reducible first | exact HI181.out | apply IsS47.alloc | apply IsS47.drewN | apply IsS47.drew | apply IsS47.set_1 | apply IsS47.set_2 | refine IsS47.far ?_ NB181_177.out _) | exact HI181.out))) : g181 ≠ gb187)); have NB187_181 := aM ((by rw [hg]; exact Nat.ne_of_gt (IsS47.lt (show IsS47 w _ g181 t178 t185 t186 from by repeat (first | (with_reducible first | exact HI181.out | apply IsS47.alloc | apply IsS47.drewN | apply IsS47.drew | apply IsS47.set_1 | apply IsS47.set_2 | refine IsS47.far ?_ NB181_177.out _) | exact HI181.out))) : gb187 ≠ g181)); replace HO184 := aM (Kd.R_below (by have X_ := HO184.out; exact TR) hb); replace BK177 := aM (blk_below (g := gb177) (o := .cells #[.slice none 0 0] 26 (0, 0)) TK hb); replace HB := aM (below_step (by repeat (first | (with_reducible first | exact HB.out | apply below_alloc | apply pw_below_drewN | apply below_drew1 | refine below_set ?_ (IsS47.ge HI181.out) | refine below_set ?_ GE177.out) | exact HB.out)) hb); replace HI181 := aM (IsS47.below (by repeat (first | (with_reducible first | exact HI181.out | apply IsS47.alloc | apply IsS47.drewN | apply IsS47.drew | apply IsS47.set_1 | apply IsS47.set_2 | refine IsS47.far ?_ NB181_177.out _) | exact HI181.out)) hb); clear hb hbox hg; obtain ⟨Ao9, co9, eo9⟩ := Kd.R_slice HO184.out; subst eo9; have hnb10 := NB187_177.out; have hnc10 := NB177_187.out; have hnb11 := NB187_181.out; have hnc11 := NB181_187.out; have hcz12_0 : w8.cell? ⟨gb187, 0, none⟩ = some (.slice none 0 0) := (blk_cell BK187.out 0).trans rfl; have hfz12_0 := blk_frozen BK187.out 0))
  have n0_ : Aside0 (Kd.R (Kd.int .i64) 3 (w8.setCell ⟨gb187, 0, none⟩ (.slice Ao9 t182.length co9)) w.heap.size (fun _ => True) (.slice Ao9 t182.length co9) t182) := ⟨by (with_reducible repeat (first | apply Kd.R_alloc | apply Kd.R_drewN | apply Kd.R_drew)); exact Kd.R_mono (Kd.R_far (p := ⟨gb187, 0, none⟩) (Kd.R_types HO184.out BK187.out (by decide)) (fun _ hk => hk.2) (.slice Ao9 t182.length co9)) (fun _ hk => trivial)⟩
  have n1_ : Aside0 ((w8.setCell ⟨gb187, 0, none⟩ (.slice Ao9 t182.length co9)).heap[gb177]? = some (.cells #[.slice none 0 0] 26 (0, 0))) := ⟨by (with_reducible repeat (first | refine blk_drewN ?_ _ | refine blk_drew ?_ | refine blk_alloc ?_ _)); refine blk_far ?_ NB177_187.out _; (with_reducible repeat (first | refine blk_drewN ?_ _ | refine blk_drew ?_ | refine blk_alloc ?_ _)); exact BK177.out⟩
  have n2_ : Aside0 ((w8.setCell ⟨gb187, 0, none⟩ (.slice Ao9 t182.length co9)).heap[gb187]? = some (.cells #[.slice Ao9 t182.length co9] 26 (0, 0))) := ⟨by (with_reducible repeat (first | refine blk_drewN ?_ _ | refine blk_drew ?_ | refine blk_alloc ?_ _)); refine blk_put (cs := #[.slice none 0 0]) ?_ 0 _ rfl; (with_reducible repeat (first | refine blk_drewN ?_ _ | refine blk_drew ?_ | refine blk_alloc ?_ _)); exact BK187.out⟩
  have n3_ : Aside0 (IsS47 w (w8.setCell ⟨gb187, 0, none⟩ (.slice Ao9 t182.length co9)) g181 t178 t185 t186) := ⟨by repeat (first | (with_reducible first | exact HI181.out | apply IsS47.alloc | apply IsS47.drewN | apply IsS47.drew | apply IsS47.set_1 | apply IsS47.set_2 | refine IsS47.far ?_ NB181_177.out _ | refine IsS47.far ?_ NB181_187.out _) | exact HI181.out)⟩
  have n4_ : Aside0 (Below w.heap.size w (w8.setCell ⟨gb187, 0, none⟩ (.slice Ao9 t182.length co9))) := ⟨by repeat (first | (with_reducible first | exact HB.out | apply below_alloc | apply pw_below_drewN | apply below_drew1 | refine below_set ?_ (IsS47.ge HI181.out) | refine below_set ?_ GE177.out | refine below_set ?_ GE187.out) | exact HB.out)⟩
  (try clear HO184)
  (try clear BK177)
  (try clear BK187)
  (try clear HI181)
  (try clear HB)
  generalize (w8.setCell ⟨gb187, 0, none⟩ (.slice Ao9 t182.length co9)) = w13 at n0_ n1_ n2_ n3_ n4_ ⊢
  have HO184 := n0_
  have BK177 := n1_
  have BK187 := n2_
  have HI181 := n3_
  have HB := n4_
  clear n0_ n1_ n2_ n3_ n4_
  replace HO184 := aM (Kd.R_drew HO184.out)
  replace BK177 := aM (blk_drew BK177.out)
  replace BK187 := aM (blk_drew BK187.out)
  replace HI181 := aM (IsS47.drew HI181.out)
  replace HB := aM (below_drew1 HB.out)
  refine start_ (n := 6) (S := fun w' => w'.cell? ⟨gb187, 0, none⟩ = some (.slice Ao9 t182.length co9)) (ds := []) (Array.replicate 6 false) (by kernel_rfl) rfl rfl ((blk_cell BK187.out 0).trans rfl) (fun hHeld => ?_)
  generalize w13.drew = w14 at HO184 BK177 BK187 HI181 HB HO184 hHeld ⊢
  refine pP 1 (some 11) ?_
  refine pT 0 (some 10) ?_
  refine pO 2 (some 12) (fun K hK => ?_)
  refine gG Try.func27 #[.pointer (some ⟨g181, 0, none⟩), .int .i64 9] ?_
  with_reducible refine (spec_l1Below.calls g181 t178 t185 t186 9 t188 t189 t190 w _ ?side1 ?side2 A4.out).mono ?_
  (case side1 => repeat (first | (with_reducible first | exact HI181.out | apply IsS47.alloc | apply IsS47.drewN | apply IsS47.drew | apply IsS47.set_1 | apply IsS47.set_2 | refine IsS47.far ?_ NB181_177.out _ | refine IsS47.far ?_ NB181_187.out _) | exact HI181.out))
  (case side2 => repeat (first | (with_reducible first | exact HB.out | apply below_alloc | apply pw_below_drewN | apply below_drew1 | refine below_set ?_ (IsS47.ge HI181.out) | refine below_set ?_ GE177.out | refine below_set ?_ GE187.out) | exact HB.out))
  rintro e w15 ⟨rfl, hi, hb, hk⟩
  refine ⟨_, rfl, ?_⟩
  have n0_ := aM (KeepBut.blk hk (g' := gb177) (o := .cells #[.slice none 0 0] 26 (0, 0)) TK NB177_181.out (by simp))
  have n1_ := aM (Kd.R_mono (Kd.R_keep (IsS47.apart (show IsS47 w _ g181 t178 t185 t186 from by repeat (first | (with_reducible first | exact HI181.out | apply IsS47.alloc | apply IsS47.drewN | apply IsS47.drew | apply IsS47.set_1 | apply IsS47.set_2 | refine IsS47.far ?_ NB181_177.out _ | refine IsS47.far ?_ NB181_187.out _) | exact HI181.out)) (by have X_ := HO184.out; exact TR) (by decide)) hk (fun _ h => h.2)) (fun _ h => h.1))
  have n2_ := aM (KeepBut.blk hk (g' := gb187) (o := .cells #[.slice Ao9 t182.length co9] 26 (0, 0)) TK NB187_181.out (by simp))
  have n3_ := aM (hb)
  have n4_ := aM (hi)
  clear BK177
  clear HO184
  clear BK187
  clear HB
  clear HI181
  have BK177 := n0_
  have HO184 := n1_
  have BK187 := n2_
  have HB := n3_
  have HI181 := n4_
  clear n0_ n1_ n2_ n3_ n4_
  (try clear hb)
  (try clear hb2)
  (try clear hk)
  (try clear hi)
  refine hK.out _ _ ((blk_cell BK187.out 0).trans rfl) (fun hHeld => ?_)
  clear hK K
  refine nR ?_
  refine pP 3 (some 13) ?_
  refine pO 4 none (fun K hK => ?_)
  have hs16 : w15.cell? ⟨gb177, 0, none⟩ = some (.slice none 0 0) := (blk_cell BK177.out 0).trans rfl
  have hfs16 := blk_frozen BK177.out 0
  have hns16_1 := NB187_177.out
  have hms16_1 := NB177_187.out
  refine skip_ (w1 := ?_) (by rfl) rfl ?_ ?_
  rotate_left
  · go_simp
    rfl
  refine hK.out _ _ (((cell_far (p := ⟨gb177, _, none⟩) NB187_177.out _).trans (hHeld))) (fun hHeld => ?_)
  clear hK K
  refine pP 5 (some 3) ?_
  refine done_ (by kernel_rfl) ?_
  try go_wp2
  refine bodyPost_ret (results_ct rfl _ _ gb177 26 #[.slice Ao9 t182.length co9] (0, 0) _ rfl (by (with_reducible repeat (first | refine blk_drewN ?_ _ | refine blk_drew ?_ | refine blk_alloc ?_ _)); refine blk_put (cs := #[.slice none 0 0]) ?_ 0 _ rfl; (with_reducible repeat (first | refine blk_drewN ?_ _ | refine blk_drew ?_ | refine blk_alloc ?_ _)); exact BK177.out) Try.underlying26 rfl (by kernel_rfl)) rfl ?_
  exact ⟨_, by first | rfl | (simp [errW_none, errW_some] <;> rfl) | (simp [*, errW_none, errW_some] <;> rfl), by (with_reducible repeat (first | apply Kd.R_alloc | apply Kd.R_drewN | apply Kd.R_drew)); exact Kd.R_mono (Kd.R_far (p := ⟨gb177, 0, none⟩) (Kd.R_types HO184.out BK177.out (by decide)) (fun _ hk => hk.2) (.slice Ao9 t182.length co9)) (fun _ hk => trivial), by repeat (first | (with_reducible first | exact HB.out | apply below_alloc | apply pw_below_drewN | apply below_drew1 | refine below_set ?_ (IsS47.ge HI181.out) | refine below_set ?_ GE177.out | refine below_set ?_ GE187.out) | exact HB.out)⟩

/-! ### spec_DrawPathUp: function 6 -/
def spec_DrawPathUp.f (k : Nat) (l0 : List Int) : Option (List Int × Int) := (spec_l13Pair.f k l0).bind fun bt192 => (some (bt192.1, bt192.2))
theorem spec_DrawPathUp.mono : ∀ a0 k, LeO (spec_DrawPathUp.f k a0) (spec_DrawPathUp.f (k + 1) a0) := by
  intro a0 k
  have m0_ := @spec_l13Pair.mono
  unfold spec_DrawPathUp.f
  exact LM
set_option maxHeartbeats 40000000 in
set_option maxRecDepth 100000 in
theorem spec_DrawPathUp.calls (k : Nat) (A0 : Option Addr) (c0 : Nat) (l0 : List Int) (r1 : List Int) (r2 : Int) (w : World) (hr0 : Kd.C (Kd.int .u8) w A0 l0.length l0) (hc0 : l0.length ≤ c0) (h : spec_DrawPathUp.f k l0 = some (r1, r2)) :
    Calls Try.prog 6 #[.slice A0 l0.length c0] w fun e w' => ∃ v0_ : Value, e = .returned (.tuple #[.agg #[v0_], .int .i64 r2]) ∧ Kd.R (Kd.int .i64) 3 w' w.heap.size (fun _ => True) v0_ r1 ∧ Below w.heap.size w w' := by
  have hu26 := Try.underlying26
  have HR0 := aM hr0
  have HC0 := aM hc0
  clear hr0 hc0
  have HB := aM (Below.refl w.heap.size w)
  have H := h
  clear h
  unfold spec_DrawPathUp.f at H
  replace H := bE H
  obtain ⟨⟨t192, t195⟩, A2, H⟩ := H
  dsimp only at H
  simp only [Option.some.injEq, Prod.mk.injEq] at H
  obtain ⟨rfl, rfl⟩ := H
  go_enter Try.func6, Try.ntmps6
  go_wp2_with (first | ((with_reducible refine gate_dst (N := 2) rfl ?_); refine gBx 2 #[.slice none 0 0] 26 ?_; intro gb191 hg w3 hbox hb; have BK191 := aM (hbox); have GW191 := aM ((by rw [hg]; exact (below_size TB) : w.heap.size ≤ gb191)); have GE191 := aM ((by rw [hg]; exact (below_size TB) : w.heap.size ≤ gb191)); replace HB := aM (below_step TB hb); clear hb hbox hg) | ((with_reducible refine gate_callee (f := 25) rfl ?_); refine gL (some 5) Try.func25 #[.slice A0 l0.length c0] ?_; (with_reducible refine (spec_l13Pair.calls k _ _ l0 t192 t195 _ ?side1 ?side2 A2.out).mono ?_); (case side1 => have X_ := (Kd.C_below HR0.out HB.out); exact TC); (case side2 => exact HC0.out); rintro e w4 ⟨v193, rfl, ho0, hb⟩; refine ⟨_, rfl, ?_⟩; have HO194 := aM (Kd.R_lower ho0 (below_size TB)); replace BK191 := aM (blk_below (by have X_ := BK191.out; exact TX) hb); replace HB := aM (below_step TB hb); clear ho0 hb; obtain ⟨Ao5, co5, eo5⟩ := Kd.R_slice HO194.out; subst eo5; have hcz6_0 : w4.cell? ⟨gb191, 0, none⟩ = some (.slice none 0 0) := (blk_cell BK191.out 0).trans rfl; have hfz6_0 := blk_frozen BK191.out 0))
  refine bodyPost_ret (results_ct rfl _ _ gb191 26 #[.slice Ao5 t192.length co5] (0, 0) _ rfl (by (with_reducible repeat (first | refine blk_drewN ?_ _ | refine blk_drew ?_ | refine blk_alloc ?_ _)); refine blk_put (cs := #[.slice none 0 0]) ?_ 0 _ rfl; (with_reducible repeat (first | refine blk_drewN ?_ _ | refine blk_drew ?_ | refine blk_alloc ?_ _)); exact BK191.out) Try.underlying26 rfl (by kernel_rfl)) rfl ?_
  exact ⟨_, by first | rfl | (simp [errW_none, errW_some] <;> rfl) | (simp [*, errW_none, errW_some] <;> rfl), by (with_reducible repeat (first | apply Kd.R_alloc | apply Kd.R_drewN | apply Kd.R_drew)); exact Kd.R_mono (Kd.R_far (p := ⟨gb191, 0, none⟩) (Kd.R_types HO194.out BK191.out (by decide)) (fun _ hk => hk.2) (.slice Ao5 t192.length co5)) (fun _ hk => trivial), TB⟩

/-! ### spec_DrawTreeOk: function 7 -/
def spec_DrawTreeOk.f (k : Nat) (l0 : List Int) : Option (List Int) := (spec_l1New.f k l0).bind fun bt197 => ((spec_l13Any.f k bt197.1 bt197.2.1 bt197.2.2).bind fun bt201 => (some bt201.1))
theorem spec_DrawTreeOk.mono : ∀ a0 k, LeO (spec_DrawTreeOk.f k a0) (spec_DrawTreeOk.f (k + 1) a0) := by
  intro a0 k
  have m0_ := @spec_l13Any.mono
  have m1_ := @spec_l1New.mono
  unfold spec_DrawTreeOk.f
  exact LM
set_option maxHeartbeats 40000000 in
set_option maxRecDepth 100000 in
theorem spec_DrawTreeOk.calls (k : Nat) (A0 : Option Addr) (c0 : Nat) (l0 : List Int) (r : List Int) (w : World) (hr0 : Kd.C (Kd.int .u8) w A0 l0.length l0) (hc0 : l0.length ≤ c0) (h : spec_DrawTreeOk.f k l0 = some r) :
    Calls Try.prog 7 #[.slice A0 l0.length c0] w fun e w' => ∃ v0_ : Value, e = .returned (.agg #[v0_]) ∧ Kd.R (Kd.int .i64) 3 w' w.heap.size (fun _ => True) v0_ r ∧ Below w.heap.size w w' := by
  have hu26 := Try.underlying26
  have HR0 := aM hr0
  have HC0 := aM hc0
  clear hr0 hc0
  have HB := aM (Below.refl w.heap.size w)
  have H := h
  clear h
  unfold spec_DrawTreeOk.f at H
  replace H := bE H
  obtain ⟨⟨t197, t198, t199⟩, A2, H⟩ := H
  dsimp only at H
  replace H := bE H
  obtain ⟨⟨t201, t204, t205⟩, A3, H⟩ := H
  dsimp only at H
  obtain rfl := Option.some.inj H
  go_enter Try.func7, Try.ntmps7
  go_wp2_with (first | ((with_reducible refine gate_dst (N := 2) rfl ?_); refine gBx 2 #[.slice none 0 0] 26 ?_; intro gb196 hg w4 hbox hb; have BK196 := aM (hbox); have GW196 := aM ((by rw [hg]; exact (below_size TB) : w.heap.size ≤ gb196)); have GE196 := aM ((by rw [hg]; exact (below_size TB) : w.heap.size ≤ gb196)); replace HB := aM (below_step TB hb); clear hb hbox hg) | ((with_reducible refine gate_callee (f := 23) rfl ?_); refine gL (some 5) Try.func23 #[.slice A0 l0.length c0] ?_; (with_reducible refine (spec_l1New.calls k _ _ l0 t197 t198 t199 w _ ?side1 ?side2 ?side3 A2.out).mono ?_); (case side1 => repeat (first | (with_reducible first | exact HB.out | apply below_alloc | apply pw_below_drewN | apply below_drew1 | refine below_set ?_ GE196.out) | exact HB.out)); (case side2 => exact HR0.out); (case side3 => exact HC0.out); rintro e w5 ⟨g200, rfl, hi, hb, hb2⟩; refine ⟨_, rfl, ?_⟩; have HI200 := aM (hi); have NB200_196 := aM (IsS47.ne_blk hi (blk_below (by have X_ := BK196.out; exact TX) hb2) (by decide)); have NB196_200 := aM (Ne.symm (IsS47.ne_blk hi (blk_below (by have X_ := BK196.out; exact TX) hb2) (by decide))); replace BK196 := aM (blk_below (by have X_ := BK196.out; exact TX) hb2); replace HB := aM (hb); clear hi hb hb2) | ((with_reducible refine gate_callee (f := 26) rfl ?_); refine gL (some 7) Try.func26 #[.pointer (some ⟨g200, 0, none⟩)] ?_; (with_reducible refine (spec_l13Any.calls k g200 t197 t198 t199 t201 t204 t205 w _ ?side1 ?side2 A3.out).mono ?_); (case side1 => repeat (first | (with_reducible first | exact HI200.out | apply IsS47.alloc | apply IsS47.drewN | apply IsS47.drew | apply IsS47.set_1 | apply IsS47.set_2 | refine IsS47.far ?_ NB200_196.out _) | exact HI200.out)); (case side2 => repeat (first | (with_reducible first | exact HB.out | apply below_alloc | apply pw_below_drewN | apply below_drew1 | refine below_set ?_ (IsS47.ge HI200.out) | refine below_set ?_ GE196.out) | exact HB.out)); rintro e w6 ⟨v202, rfl, ho0, hi, hb, hk⟩; refine ⟨_, rfl, ?_⟩; have HO203 := aM (Kd.R_lower ho0 (below_size (by repeat (first | (with_reducible first | exact HB.out | apply below_alloc | apply pw_below_drewN | apply below_drew1 | refine below_set ?_ (IsS47.ge HI200.out) | refine below_set ?_ GE196.out) | exact HB.out)))); replace BK196 := aM (KeepBut.blk hk (g' := gb196) (o := .cells #[.slice none 0 0] 26 (0, 0)) TK NB196_200.out (by simp)); replace HB := aM (hb); replace HI200 := aM (hi); (try clear hb); (try clear hb2); (try clear hk); (try clear hi); (try clear ho0); obtain ⟨Ao7, co7, eo7⟩ := Kd.R_slice HO203.out; subst eo7; have hnb8 := NB196_200.out; have hnc8 := NB200_196.out; have hcz9_0 : w6.cell? ⟨gb196, 0, none⟩ = some (.slice none 0 0) := (blk_cell BK196.out 0).trans rfl; have hfz9_0 := blk_frozen BK196.out 0))
  refine bodyPost_ret (results_cell_row rfl _ _ gb196 26 #[.slice Ao7 t201.length co7] (0, 0) _ rfl (by (with_reducible repeat (first | refine blk_drewN ?_ _ | refine blk_drew ?_ | refine blk_alloc ?_ _)); refine blk_put (cs := #[.slice none 0 0]) ?_ 0 _ rfl; (with_reducible repeat (first | refine blk_drewN ?_ _ | refine blk_drew ?_ | refine blk_alloc ?_ _)); exact BK196.out) Try.underlying26 rfl (by kernel_rfl)) rfl ?_
  exact ⟨_, by first | rfl | (simp [errW_none, errW_some] <;> rfl) | (simp [*, errW_none, errW_some] <;> rfl), by (with_reducible repeat (first | apply Kd.R_alloc | apply Kd.R_drewN | apply Kd.R_drew)); exact Kd.R_mono (Kd.R_far (p := ⟨gb196, 0, none⟩) (Kd.R_types HO203.out BK196.out (by decide)) (fun _ hk => hk.2) (.slice Ao7 t201.length co7)) (fun _ hk => trivial), by repeat (first | (with_reducible first | exact HB.out | apply below_alloc | apply pw_below_drewN | apply below_drew1 | refine below_set ?_ (IsS47.ge HI200.out) | refine below_set ?_ GE196.out) | exact HB.out)⟩

/-! ### spec_DrawAncestor: function 8 -/
def spec_DrawAncestor.f (k : Nat) (l0 : List Int) : Option (List Int × Int × Int) := (spec_l1New.f k l0).bind fun bt207 => ((spec_l13Any.f k bt207.1 bt207.2.1 bt207.2.2).bind fun bt211 => ((spec_l1Below.f bt207.1 bt211.2.1 bt211.2.2 8).bind fun bt217 => ((spec_l1Below.f bt207.1 bt217.2.1 bt217.2.2 8).bind fun bt220 => (some (bt211.1, wrap64 (bt220.1 - 1), wrap64 (bt217.1 - 1))))))
theorem spec_DrawAncestor.mono : ∀ a0 k, LeO (spec_DrawAncestor.f k a0) (spec_DrawAncestor.f (k + 1) a0) := by
  intro a0 k
  have m0_ := @spec_l13Any.mono
  have m1_ := @spec_l1New.mono
  unfold spec_DrawAncestor.f
  exact LM
def spec_DrawAncestor.T4 : Bool × List (List Nat × List Nat) := (true, [([], []), ([], []), ([1], [1]), ([2], [2]), ([], []), ([0, 2, 0], [0]), ([3, 5, 0, 1, 2, 3, 5], [3]), ([4, 6, 0, 1, 2, 3, 4, 5, 6], [4])])
def spec_DrawAncestor.B4 : List Nat := [0, 0, 2, 6, 0, 7, 47, 127]
theorem spec_DrawAncestor.tab4 : rtab .any (opsOf Try.f8 4) = spec_DrawAncestor.T4 := by kernel_rfl
theorem spec_DrawAncestor.bits4 : waitsOk spec_DrawAncestor.T4.2 spec_DrawAncestor.B4 = true := by kernel_rfl
set_option maxHeartbeats 40000000 in
set_option maxRecDepth 100000 in
theorem spec_DrawAncestor.calls (k : Nat) (A0 : Option Addr) (c0 : Nat) (l0 : List Int) (r1 : List Int) (r2 : Int) (r3 : Int) (w : World) (hr0 : Kd.C (Kd.int .u8) w A0 l0.length l0) (hc0 : l0.length ≤ c0) (h : spec_DrawAncestor.f k l0 = some (r1, r2, r3)) :
    Calls Try.prog 8 #[.slice A0 l0.length c0] w fun e w' => ∃ v0_ : Value, e = .returned (.tuple #[.agg #[v0_], .int .i64 r2, .int .i64 r3]) ∧ Kd.R (Kd.int .i64) 3 w' w.heap.size (fun _ => True) v0_ r1 ∧ Below w.heap.size w w' := by
  have hu26 := Try.underlying26
  have HR0 := aM hr0
  have HC0 := aM hc0
  clear hr0 hc0
  have HB := aM (Below.refl w.heap.size w)
  have H := h
  clear h
  unfold spec_DrawAncestor.f at H
  replace H := bE H
  obtain ⟨⟨t207, t208, t209⟩, A2, H⟩ := H
  dsimp only at H
  replace H := bE H
  obtain ⟨⟨t211, t214, t215⟩, A3, H⟩ := H
  dsimp only at H
  replace H := bE H
  obtain ⟨⟨t217, t218, t219⟩, A4, H⟩ := H
  dsimp only at H
  replace H := bE H
  obtain ⟨⟨t220, t221, t222⟩, A5, H⟩ := H
  dsimp only at H
  simp only [Option.some.injEq, Prod.mk.injEq] at H
  obtain ⟨rfl, rfl, rfl⟩ := H
  go_enter Try.func8, Try.ntmps8
  try go_wp2_with (first | ((with_reducible refine gate_dst (N := 2) rfl ?_); refine gBx 2 #[.slice none 0 0] 26 ?_; intro gb206 hg w6 hbox hb; have BK206 := aM (hbox); have GW206 := aM ((by rw [hg]; exact (below_size TB) : w.heap.size ≤ gb206)); have GE206 := aM ((by rw [hg]; exact (below_size TB) : w.heap.size ≤ gb206)); replace HB := aM (below_step TB hb); clear hb hbox hg) | ((with_reducible refine gate_callee (f := 23) rfl ?_); refine gL (some 9) Try.func23 #[.slice A0 l0.length c0] ?_; (with_reducible refine (spec_l1New.calls k _ _ l0 t207 t208 t209 w _ ?side1 ?side2 ?side3 A2.out).mono ?_); (case side1 => repeat (first | (with_reducible first | exact HB.out | apply below_alloc | apply pw_below_drewN | apply below_drew1 | refine below_set ?_ GE206.out) | exact HB.out)); (case side2 => exact HR0.out); (case side3 => exact HC0.out); rintro e w7 ⟨g210, rfl, hi, hb, hb2⟩; refine ⟨_, rfl, ?_⟩; have HI210 := aM (hi); have NB210_206 := aM (IsS47.ne_blk hi (blk_below (by have X_ := BK206.out; exact TX) hb2) (by decide)); have NB206_210 := aM (Ne.symm (IsS47.ne_blk hi (blk_below (by have X_ := BK206.out; exact TX) hb2) (by decide))); replace BK206 := aM (blk_below (by have X_ := BK206.out; exact TX) hb2); replace HB := aM (hb); clear hi hb hb2) | ((with_reducible refine gate_callee (f := 26) rfl ?_); refine gL (some 11) Try.func26 #[.pointer (some ⟨g210, 0, none⟩)] ?_; (with_reducible refine (spec_l13Any.calls k g210 t207 t208 t209 t211 t214 t215 w _ ?side1 ?side2 A3.out).mono ?_); (case side1 => repeat (first | (with_reducible first | exact HI210.out | apply IsS47.alloc | apply IsS47.drewN | apply IsS47.drew | apply IsS47.set_1 | apply IsS47.set_2 | refine IsS47.far ?_ NB210_206.out _) | exact HI210.out)); (case side2 => repeat (first | (with_reducible first | exact HB.out | apply below_alloc | apply pw_below_drewN | apply below_drew1 | refine below_set ?_ (IsS47.ge HI210.out) | refine below_set ?_ GE206.out) | exact HB.out)); rintro e w8 ⟨v212, rfl, ho0, hi, hb, hk⟩; refine ⟨_, rfl, ?_⟩; have HO213 := aM (Kd.R_lower ho0 (below_size (by repeat (first | (with_reducible first | exact HB.out | apply below_alloc | apply pw_below_drewN | apply below_drew1 | refine below_set ?_ (IsS47.ge HI210.out) | refine below_set ?_ GE206.out) | exact HB.out)))); replace BK206 := aM (KeepBut.blk hk (g' := gb206) (o := .cells #[.slice none 0 0] 26 (0, 0)) TK NB206_210.out (by simp)); replace HB := aM (hb); replace HI210 := aM (hi); (try clear hb); (try clear hb2); (try clear hk); (try clear hi); (try clear ho0)) | ((with_reducible refine gate_dst (N := 6) rfl ?_); refine gBx 6 #[.slice none 0 0] 26 ?_; intro gb216 hg w9 hbox hb; have BK216 := aM (hbox); have GW216 := aM ((by rw [hg]; exact (below_size (by repeat (first | (with_reducible first | exact HB.out | apply below_alloc | apply pw_below_drewN | apply below_drew1 | refine below_set ?_ (IsS47.ge HI210.out) | refine below_set ?_ GE206.out) | exact HB.out))) : w.heap.size ≤ gb216)); have GE216 := aM ((by rw [hg]; exact (below_size (by repeat (first | (with_reducible first | exact HB.out | apply below_alloc | apply pw_below_drewN | apply below_drew1 | refine below_set ?_ (IsS47.ge HI210.out) | refine below_set ?_ GE206.out) | exact HB.out))) : w.heap.size ≤ gb216)); have NB206_216 := aM ((by rw [hg]; exact Nat.ne_of_lt (blk_lt (by have X_ := BK206.out; exact TX)) : gb206 ≠ gb216)); have NB216_206 := aM ((by rw [hg]; exact Nat.ne_of_gt (blk_lt (by have X_ := BK206.out; exact TX)) : gb216 ≠ gb206)); have NB210_216 := aM ((by rw [hg]; exact Nat.ne_of_lt (IsS47.lt (show IsS47 w _ g210 t207 t214 t215 from by repeat (first | (with_reducible first | exact HI210.out | apply IsS47.alloc | apply IsS47.drewN | apply IsS47.drew | apply IsS47.set_1 | apply IsS47.set_2 | refine IsS47.far ?_ NB210_206.out _) | exact HI210.out))) : g210 ≠ gb216)); have NB216_210 := aM ((by rw [hg]; exact Nat.ne_of_gt (IsS47.lt (show IsS47 w _ g210 t207 t214 t215 from by repeat (first | (with_reducible first | exact HI210.out | apply IsS47.alloc | apply IsS47.drewN | apply IsS47.drew | apply IsS47.set_1 | apply IsS47.set_2 | refine IsS47.far ?_ NB210_206.out _) | exact HI210.out))) : gb216 ≠ g210)); replace HO213 := aM (Kd.R_below (by have X_ := HO213.out; exact TR) hb); replace BK206 := aM (blk_below (by have X_ := BK206.out; exact TX) hb); replace HB := aM (below_step (by repeat (first | (with_reducible first | exact HB.out | apply below_alloc | apply pw_below_drewN | apply below_drew1 | refine below_set ?_ (IsS47.ge HI210.out) | refine below_set ?_ GE206.out) | exact HB.out)) hb); replace HI210 := aM (IsS47.below (by repeat (first | (with_reducible first | exact HI210.out | apply IsS47.alloc | apply IsS47.drewN | apply IsS47.drew | apply IsS47.set_1 | apply IsS47.set_2 | refine IsS47.far ?_ NB210_206.out _) | exact HI210.out)) hb); clear hb hbox hg; obtain ⟨Ao10, co10, eo10⟩ := Kd.R_slice HO213.out; subst eo10; have hnb11 := NB216_206.out; have hnc11 := NB206_216.out; have hnb12 := NB216_210.out; have hnc12 := NB210_216.out; have hcz13_0 : w9.cell? ⟨gb216, 0, none⟩ = some (.slice none 0 0) := (blk_cell BK216.out 0).trans rfl; have hfz13_0 := blk_frozen BK216.out 0) | ((with_reducible refine gate_callee (f := 27) rfl ?_); refine gL (some 13) Try.func27 #[.pointer (some ⟨g210, 0, none⟩), .int .i64 8] ?_; (with_reducible refine (spec_l1Below.calls g210 t207 t214 t215 8 t217 t218 t219 w _ ?side1 ?side2 A4.out).mono ?_); (case side1 => repeat (first | (with_reducible first | exact HI210.out | apply IsS47.alloc | apply IsS47.drewN | apply IsS47.drew | apply IsS47.set_1 | apply IsS47.set_2 | refine IsS47.far ?_ NB210_206.out _ | refine IsS47.far ?_ NB210_216.out _) | exact HI210.out)); (case side2 => repeat (first | (with_reducible first | exact HB.out | apply below_alloc | apply pw_below_drewN | apply below_drew1 | refine below_set ?_ (IsS47.ge HI210.out) | refine below_set ?_ GE206.out | refine below_set ?_ GE216.out) | exact HB.out)); rintro e w14 ⟨rfl, hi, hb, hk⟩; refine ⟨_, rfl, ?_⟩; replace BK206 := aM (KeepBut.blk hk (g' := gb206) (o := .cells #[.slice none 0 0] 26 (0, 0)) (by (with_reducible repeat (first | refine blk_drewN ?_ _ | refine blk_drew ?_ | refine blk_alloc ?_ _)); refine blk_far ?_ NB206_216.out _; (with_reducible repeat (first | refine blk_drewN ?_ _ | refine blk_drew ?_ | refine blk_alloc ?_ _)); exact BK206.out) NB206_210.out (by simp)); replace HO213 := aM (Kd.R_mono (Kd.R_keep (IsS47.apart (show IsS47 w _ g210 t207 t214 t215 from by repeat (first | (with_reducible first | exact HI210.out | apply IsS47.alloc | apply IsS47.drewN | apply IsS47.drew | apply IsS47.set_1 | apply IsS47.set_2 | refine IsS47.far ?_ NB210_206.out _ | refine IsS47.far ?_ NB210_216.out _) | exact HI210.out)) (by (with_reducible repeat (first | apply Kd.R_alloc | apply Kd.R_drewN | apply Kd.R_drew)); exact (R_off (Kd.R_types HO213.out BK216.out (by decide)) TO)) (by decide)) hk (fun _ h => h.2)) (fun _ h => h.1)); replace BK216 := aM (KeepBut.blk hk (g' := gb216) (o := .cells #[.slice Ao10 t211.length co10] 26 (0, 0)) (by (with_reducible repeat (first | refine blk_drewN ?_ _ | refine blk_drew ?_ | refine blk_alloc ?_ _)); refine blk_put (cs := #[.slice none 0 0]) ?_ 0 _ rfl; (with_reducible repeat (first | refine blk_drewN ?_ _ | refine blk_drew ?_ | refine blk_alloc ?_ _)); exact BK216.out) NB216_210.out (by simp)); replace HB := aM (hb); replace HI210 := aM (hi); (try clear hb); (try clear hb2); (try clear hk); (try clear hi)))
  replace HO213 := aM (Kd.R_drew HO213.out)
  replace BK206 := aM (blk_drew BK206.out)
  replace BK216 := aM (blk_drew BK216.out)
  replace HI210 := aM (IsS47.drew HI210.out)
  replace HB := aM (below_drew1 HB.out)
  refine start_ (n := 8) (S := fun w' => w'.cell? ⟨gb216, 0, none⟩ = some (.slice Ao10 t211.length co10)) (ds := []) (Array.replicate 8 false) (by kernel_rfl) rfl rfl ((blk_cell BK216.out 0).trans rfl) (fun hHeld => ?_); refine with_tabW spec_DrawAncestor.tab4 spec_DrawAncestor.bits4 (fun HT_ HW_ => ?_)
  generalize w14.drew = w15 at HO213 BK206 BK216 HI210 HB hHeld ⊢
  refine pP 1 (some 16) ?_
  refine pP 4 (some 19) ?_
  refine pT 0 (some 15) ?_
  refine pO 2 (some 17) (fun K hK => ?_)
  refine gG Try.func27 #[.pointer (some ⟨g210, 0, none⟩), .int .i64 8] ?_
  with_reducible refine (spec_l1Below.calls g210 t207 t218 t219 8 t220 t221 t222 w _ ?side1 ?side2 A5.out).mono ?_
  (case side1 => repeat (first | (with_reducible first | exact HI210.out | apply IsS47.alloc | apply IsS47.drewN | apply IsS47.drew | apply IsS47.set_1 | apply IsS47.set_2 | refine IsS47.far ?_ NB210_206.out _ | refine IsS47.far ?_ NB210_216.out _) | exact HI210.out))
  (case side2 => repeat (first | (with_reducible first | exact HB.out | apply below_alloc | apply pw_below_drewN | apply below_drew1 | refine below_set ?_ (IsS47.ge HI210.out) | refine below_set ?_ GE206.out | refine below_set ?_ GE216.out) | exact HB.out))
  rintro e w16 ⟨rfl, hi, hb, hk⟩
  refine ⟨_, rfl, ?_⟩
  have n0_ := aM (KeepBut.blk hk (g' := gb206) (o := .cells #[.slice none 0 0] 26 (0, 0)) TK NB206_210.out (by simp))
  have n1_ := aM (Kd.R_mono (Kd.R_keep (IsS47.apart (show IsS47 w _ g210 t207 t218 t219 from by repeat (first | (with_reducible first | exact HI210.out | apply IsS47.alloc | apply IsS47.drewN | apply IsS47.drew | apply IsS47.set_1 | apply IsS47.set_2 | refine IsS47.far ?_ NB210_206.out _ | refine IsS47.far ?_ NB210_216.out _) | exact HI210.out)) (by have X_ := HO213.out; exact TR) (by decide)) hk (fun _ h => h.2)) (fun _ h => h.1))
  have n2_ := aM (KeepBut.blk hk (g' := gb216) (o := .cells #[.slice Ao10 t211.length co10] 26 (0, 0)) TK NB216_210.out (by simp))
  have n3_ := aM (hb)
  have n4_ := aM (hi)
  clear BK206
  clear HO213
  clear BK216
  clear HB
  clear HI210
  have BK206 := n0_
  have HO213 := n1_
  have BK216 := n2_
  have HB := n3_
  have HI210 := n4_
  clear n0_ n1_ n2_ n3_ n4_
  (try clear hb)
  (try clear hb2)
  (try clear hk)
  (try clear hi)
  refine hK.out _ _ ((blk_cell BK216.out 0).trans rfl) (fun hHeld => ?_)
  clear hK K
  refine nR ?_
  refine pP 3 (some 18) ?_
  refine pO 5 none (fun K hK => ?_)
  have hs17 : w16.cell? ⟨gb206, 0, none⟩ = some (.slice none 0 0) := (blk_cell BK206.out 0).trans rfl
  have hfs17 := blk_frozen BK206.out 0
  have hns17_1 := NB216_206.out
  have hms17_1 := NB206_216.out
  refine skip_ (w1 := ?_) (by rfl) rfl ?_ ?_
  rotate_left
  · go_simp
    rfl
  refine hK.out _ _ (((cell_far (p := ⟨gb206, _, none⟩) NB216_206.out _).trans (hHeld))) (fun hHeld => ?_)
  clear hK K
  refine pP 6 (some 3) ?_
  refine pP 7 (some 4) ?_
  refine done_ (done_of HT_.out (by kernel_rfl)) ?_
  try go_wp2
  refine bodyPost_ret (results_ctt rfl _ _ gb206 26 #[.slice Ao10 t211.length co10] (0, 0) _ rfl (by (with_reducible repeat (first | refine blk_drewN ?_ _ | refine blk_drew ?_ | refine blk_alloc ?_ _)); refine blk_put (cs := #[.slice none 0 0]) ?_ 0 _ rfl; (with_reducible repeat (first | refine blk_drewN ?_ _ | refine blk_drew ?_ | refine blk_alloc ?_ _)); exact BK206.out) Try.underlying26 rfl (by kernel_rfl)) rfl ?_
  exact ⟨_, by first | rfl | (simp [errW_none, errW_some] <;> rfl) | (simp [*, errW_none, errW_some] <;> rfl), by (with_reducible repeat (first | apply Kd.R_alloc | apply Kd.R_drewN | apply Kd.R_drew)); exact Kd.R_mono (Kd.R_far (p := ⟨gb206, 0, none⟩) (Kd.R_types HO213.out BK206.out (by decide)) (fun _ hk => hk.2) (.slice Ao10 t211.length co10)) (fun _ hk => trivial), by repeat (first | (with_reducible first | exact HB.out | apply below_alloc | apply pw_below_drewN | apply below_drew1 | refine below_set ?_ (IsS47.ge HI210.out) | refine below_set ?_ GE206.out | refine below_set ?_ GE216.out) | exact HB.out)⟩

/-! ### impl_within: function 28 -/
def impl_within.f (a0 : Int) (a1 : Int) (a2 : Int) : Option (Bool) := if a0 ≥ a1 then (some (decide (a0 ≤ a2))) else (some false)
set_option maxHeartbeats 40000000 in
set_option maxRecDepth 100000 in
theorem impl_within.calls (a0 : Int) (a1 : Int) (a2 : Int) (r : Bool) (w : World) (h : impl_within.f a0 a1 a2 = some r) :
    Calls Try.prog 28 #[.int .i64 a0, .int .i64 a1, .int .i64 a2] w fun e w' => e = .returned (.bool r) ∧ Drawn0 w w' := by
  have H := h
  clear h
  unfold impl_within.f at H
  by_cases c4 : a0 ≥ a1
  · rw [if_pos c4] at H
    have c4b0 : decide (a1 ≤ a0) = true := decide_eq_true c4
    clear c4
    obtain rfl := Option.some.inj H
    go_enter Try.func28, Try.ntmps28
    go_wp2
    go_ret
    exact ⟨by first | rfl | (simp; done) | (simp [*]; done), TD⟩
  · rw [if_neg c4] at H
    have c4b0 : decide (a1 ≤ a0) = false := decide_eq_false c4
    clear c4
    obtain rfl := Option.some.inj H
    go_enter Try.func28, Try.ntmps28
    go_wp2
    go_ret
    exact ⟨by first | rfl | (simp; done) | (simp [*]; done), TD⟩

end Go.Proofs.Ytmaeahbiiiifmaa.Q
