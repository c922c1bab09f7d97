/- Functions of the program as plain Lean functions, and that a call of each comes to what its function tells. Written by a program of this seat. -/
import Derived.Test.YtfkndpjbkndhcaaQ0
import Derived.Test.YtfkndpjbkndhcaaQ2
import Derived.Test.YtfkndpjbkndhcaaQ17
import Derived.Test.YtfkndpjbkndhcaaQ26
namespace Go.Proofs.Ytfkndpjbkndhcaa.Q
open Go.RowKit Go.Proofs.YtfkndpjbkndhcaaW.PrintWords Go.Proofs.YtfkndpjbkndhcaaW.PrintLast Go.Proofs.YtfkndpjbkndhcaaW.PrintMore
attribute [local go_sem] max2_int min2_int max_two min_two max_three min_three max_four min_four   -- for this text's walks alone
set_option linter.unusedVariables false
set_option linter.unusedSimpArgs false

/-! ### spec_l7Pair: function 73 -/
theorem keep_below_ {B : Nat} {w0 we w w' : World} {g : Nat} (hE : Below we.heap.size we w) (h0 : Below B w0 we) (h1 : Below B w0 w') (hk : KeepBut w w' g none) (hg : we.heap.size ≤ g) : Below we.heap.size we w' :=
  ⟨h1.os.trans h0.os.symm, h1.tape.trans h0.tape.symm, h1.output.trans h0.output.symm, Nat.le_trans hE.size hk.1, fun k h => (hk.2 k (Nat.lt_of_lt_of_le h hE.size) (by omega) (by simp)).trans (hE.block k h)⟩
set_option maxHeartbeats 4000000 in
set_option maxRecDepth 100000 in
theorem spec_l7Pair.calls (k : Nat) (A0 : Option Addr) (c0 : Nat) (l0 : List Int) (t1 : List Int) (t2 t3 : Int) (m1 m2 m3 : Int) (ms : List S48) (mb : List Int) (i1 h1 : Int) (ol : List Int) (i2 h2 : Int) (w0 w : World) (hB : Below w0.heap.size w0 w) (hr0 : Kd.C (Kd.int .u8) w0 A0 l0.length l0) (hc0 : l0.length ≤ c0) (a1 : spec_l1New.f k l0 = some (t1, t2, t3)) (a2 : spec_l6Draw.f k t1 t2 t3 = some (m1, m2, m3, ms, mb, i1, h1)) (a3 : spec_l7Old.f k t1 i1 h1 mb = some (ol, i2, h2)) :
    Calls Try.prog 73 #[.slice A0 l0.length c0] w fun e w' => ∃ (g_ : Nat) (v0_ v1_ v2_ : Value), e = .returned (.tuple #[.pointer (some ⟨g_, 0, none⟩), v0_, .agg #[.int .i64 m1, .int .i64 m2, .int .i64 m3, v1_]]) ∧ IsS108 w0 w' g_ t1 i2 h2 ∧ Kd.R (Kd.int .u8) 5 w' w.heap.size (fun k_ => some k_ ≠ v2_.ownBlock) v0_ ol ∧ Kd.R k48 48 w' w.heap.size (fun _ => True) v1_ ms ∧ Kd.R (Kd.int .u8) 5 w' w.heap.size (fun k_ => some k_ ≠ v0_.ownBlock) v2_ mb ∧ Below w0.heap.size w0 w' ∧ Below w.heap.size w w' := by
  have hu28 := Try.underlying28
  have HB := aM hB
  have HB0 := aM hB
  have HE := aM (Below.refl w.heap.size w)
  have HR := aM hr0
  have HC := aM hc0
  have A1 := aM a1
  have A2 := aM a2
  have A3 := aM a3
  clear hB hr0 hc0 a1 a2 a3
  go_enter Try.func73, Try.ntmps73
  go_wp2_with (first | ((with_reducible refine gate_dst (N := 4) rfl ?_); refine gBx 4 #[.int .i64 0, .int .i64 0, .int .i64 0, .slice none 0 0] 28 ?_; intro g4 hg w2 hbox hb; have B4 := aM hbox; have G4 := aM (show w0.heap.size ≤ g4 by rw [hg]; exact HB.out.size); have E4 := aM (show w.heap.size ≤ g4 by rw [hg]; exact HE.out.size); replace HB := aM (below_step HB.out hb); replace HE := aM (below_step HE.out hb); clear hb hbox hg; (simp only [Act.put, List.setIfInBounds_toArray, List.set_cons_zero, List.set_cons_succ])) | ((with_reducible refine gate_callee (f := 58) rfl ?_); refine gL (some 10) Try.func58 #[.slice A0 l0.length c0] ?_; (with_reducible refine (spec_l1New.callsN k _ _ l0 t1 t2 t3 w0 _ HB.out HR.out HC.out A1.out).mono ?_); rintro e w8 ⟨gs, rfl, hi, hb, hb2, hn⟩; refine ⟨_, rfl, ?_⟩; replace B4 := aM (blk_below B4.out hb2); have NS4 := aM (show ¬ (gs = g4) from IsS108.ne_blk hi B4.out (by decide)); have ES := aM (Nat.le_trans HE.out.size hn); replace HE := aM (below_step HE.out hb2); have HI := aM hi; replace HB := aM hb; clear hi hb hb2 hn; (simp only [Act.put, List.setIfInBounds_toArray, List.set_cons_zero, List.set_cons_succ])) | ((with_reducible refine gate_callee (f := 110) rfl ?_); refine gL (some 13) Try.func110 #[.pointer (some ⟨gs, 0, none⟩)] ?_; (with_reducible refine (spec_l6Draw.calls k gs t1 t2 t3 m1 m2 m3 ms mb i1 h1 w0 _ HI.out HB.out A2.out).mono ?_); rintro e w9 ⟨v3, v4, rfl, ho0, ho1, hi, hb, hk⟩; refine ⟨_, rfl, ?_⟩; have HOs := aM (Kd.R_lower ho0 HE.out.size); have HOb := aM (Kd.R_lower ho1 HE.out.size); replace B4 := aM (KeepBut.blk hk B4.out (Ne.symm NS4.out) (by simp)); replace HE := aM (keep_below_ HE.out HB0.out hb hk ES.out); replace HB := aM hb; replace HI := aM hi; clear ho0 ho1 hi hb hk; obtain ⟨As, cs, es⟩ := Kd.R_slice HOs.out; subst es; obtain ⟨Ab, cb, eb⟩ := Kd.R_slice HOb.out; subst eb; (simp only [Act.put, List.setIfInBounds_toArray, List.set_cons_zero, List.set_cons_succ])) | ((with_reducible refine gate_dst (N := 6) rfl ?_); refine gBx 6 #[.int .i64 0, .int .i64 0, .int .i64 0, .slice none 0 0] 28 ?_; intro g6 hg w3 hbox hb; have B6 := aM hbox; have G6 := aM (show w0.heap.size ≤ g6 by rw [hg]; exact HB.out.size); have E6 := aM (show w.heap.size ≤ g6 by rw [hg]; exact HE.out.size); have N46 := aM (show g4 ≠ g6 from fun e => by have := (Array.getElem?_eq_some_iff.1 B4.out).1; omega); have NS6 := aM (show ¬ (gs = g6) from fun e => by have := IsS108.lt HI.out; omega); replace HB := aM (below_step HB.out hb); replace HE := aM (below_step HE.out hb); replace B4 := aM (blk_below B4.out hb); replace HI := aM (IsS108.below HI.out hb); replace HOs := aM (Kd.R_below HOs.out hb); replace HOb := aM (Kd.R_below HOb.out hb); clear hb hbox hg; (simp only [Act.put, List.setIfInBounds_toArray, List.set_cons_zero, List.set_cons_succ])) | ((with_reducible refine gate_store (t := 28) (p := 6) rfl ?_); refine gSt [.int .i64 m1, .int .i64 m2, .int .i64 m3, .slice As ms.length cs] #[.int .i64 m1, .int .i64 m2, .int .i64 m3, .slice As ms.length cs] B6.out ?_; intro w5 hw hbox; replace HB := aM (hw.below HB.out G6.out); replace HE := aM (hw.below HE.out E6.out); replace HI := aM (IsS108.kept HI.out hw.kept NS6.out); replace B4 := aM ((hw.2.2 g4 N46.out).trans B4.out); replace HOs := aM (Kd.R_mono (Kd.R_move (Kd.R_types HOs.out B6.out (by decide)) (fun k q => hw.2.2 k q.2)) (fun _ q => q.1)); replace HOb := aM (Kd.R_mono (Kd.R_move (Kd.R_types HOb.out B6.out (by decide)) (fun k q => hw.2.2 k q.2)) (fun _ q => q.1)); replace B6 := aM hbox; clear hw hbox) | ((with_reducible refine gate_callee (f := 70) rfl ?_); refine gL (some 18) Try.func70 #[.pointer (some ⟨gs, 0, none⟩), .slice Ab mb.length cb] ?_; (with_reducible refine (spec_l7Old.calls k gs t1 i1 h1 _ _ mb ol i2 h2 w0 _ HI.out HB.out (Kd.R_reads' HOb.out).2.2 (Kd.R_reads' HOb.out).2.1 (far_slice (IsS108.own_ne HI.out HOb.out (by decide))) A3.out).mono ?_); rintro e w11 ⟨v5, rfl, ho0, hi, hb, hk⟩; refine ⟨_, rfl, ?_⟩; have HOo := aM (Kd.R_mono (Kd.R_lower (Kd.R_new' ho0 (Kd.R_lt HOb.out)) HE.out.size) (fun _ q => q.2)); replace HOs := aM (Kd.R_mono (Kd.R_keep (IsS108.apart HI.out HOs.out (by decide)) hk (fun _ h => h.2)) (fun _ h => h.1)); replace HOb := aM (Kd.R_mono (Kd.R_told (Kd.R_oldK (IsS108.apart HI.out HOb.out (by decide)) hk) (Kd.R_base ho0)) (fun _ h_ => h_.1.2)); replace B4 := aM (KeepBut.blk hk B4.out (Ne.symm NS4.out) (by simp)); replace B6 := aM (KeepBut.blk hk B6.out (Ne.symm NS6.out) (by simp)); replace HE := aM (keep_below_ HE.out HB0.out hb hk ES.out); replace HB := aM hb; replace HI := aM hi; clear ho0 hi hb hk; (simp only [Act.put, List.setIfInBounds_toArray, List.set_cons_zero, List.set_cons_succ])))
  replace HB := aM (below_step HB.out (bd1 rfl))
  replace HE := aM (below_step HE.out (bd1 rfl))
  replace HI := aM (IsS108.below HI.out (bd1 rfl))
  replace B4 := aM (blk_below B4.out (bd1 rfl))
  replace B6 := aM (blk_below B6.out (bd1 rfl))
  replace HOs := aM (Kd.R_below HOs.out (bd1 rfl))
  replace HOb := aM (Kd.R_below HOb.out (bd1 rfl))
  replace HOo := aM (Kd.R_below HOo.out (bd1 rfl))
  refine start_ (n := 6) (S := fun w' => w'.cell? ⟨g6, 0, none⟩ = some (.int .i64 m1) ∧ w'.cell? ⟨g6, 1, none⟩ = some (.int .i64 m2) ∧ w'.cell? ⟨g6, 2, none⟩ = some (.int .i64 m3) ∧ w'.cell? ⟨g6, 3, none⟩ = some (.slice As ms.length cs)) (ds := [5]) (Array.replicate 6 false) (by kernel_rfl) rfl rfl ⟨(blk_cell B6.out 0).trans rfl, (blk_cell B6.out 1).trans rfl, (blk_cell B6.out 2).trans rfl, (blk_cell B6.out 3).trans rfl⟩ (fun hHeld => ?_)
  generalize hw_ : World.drew _ = w19 at HB HE HI B4 B6 HOs HOb HOo hHeld ⊢
  clear hw_
  refine pP 0 (some 19) ?_
  refine pP 1 (some 20) ?_
  refine pP 3 (some 2) ?_
  refine pP 4 (some 3) ?_
  refine pT 2 (some 21) ?_
  refine pL 5 none (fun K hK => ?_)
  refine gStS [.int .i64 m1, .int .i64 m2, .int .i64 m3, .slice As ms.length cs] #[.int .i64 m1, .int .i64 m2, .int .i64 m3, .slice As ms.length cs] B4.out ?_
  intro w20 hw hbox
  replace HB := aM (hw.below HB.out G4.out)
  replace HE := aM (hw.below HE.out E4.out)
  replace HI := aM (IsS108.kept HI.out hw.kept NS4.out)
  replace HOs := aM (Kd.R_mono (Kd.R_move (Kd.R_types HOs.out B4.out (by decide)) (fun k q => hw.2.2 k q.2)) (fun _ q => q.1))
  replace HOb := aM (Kd.R_mono (Kd.R_move (Kd.R_types HOb.out B4.out (by decide)) (fun k q => hw.2.2 k q.2)) (fun _ q => q.1))
  replace HOo := aM (Kd.R_mono (Kd.R_move (Kd.R_types HOo.out B4.out (by decide)) (fun k q => hw.2.2 k q.2)) (fun _ q => q.1))
  replace B4 := aM hbox
  clear hw hbox
  refine hK.out _ _ ?_
  clear hK K
  refine done_ (by kernel_rfl) ?_
  try go_wp2
  refine bodyPost_ret (results_list (rs := [.tmp 2, .tmp 3, .cell 4 28]) rfl (by simp) (.tmp (.tmp (.cell g4 28 #[.int .i64 m1, .int .i64 m2, .int .i64 m3, .slice As ms.length cs] (0, 0) _ rfl B4.out Try.underlying28 rfl (by kernel_rfl) .nil)))) rfl ?_
  exact ⟨gs, _, _, _, rfl, HI.out, HOo.out, Kd.R_mono HOs.out (fun _ _ => trivial), HOb.out, HB.out, HE.out⟩

end Go.Proofs.Ytfkndpjbkndhcaa.Q
