/- Functions of the program as plain Lean functions, and that a call of each comes to what its function tells. Written by a program of this seat. -/
import Derived.Test.YtnoplippaiblcaaQ0
import Derived.Test.YtnoplippaiblcaaQ11
namespace Go.Proofs.Ytnoplippaiblcaa.Q
open Go.RowKit Go.Proofs.YtnoplippaiblcaaW.PrintWords Go.Proofs.YtnoplippaiblcaaW.PrintLast Go.Proofs.YtnoplippaiblcaaW.PrintMore
attribute [local go_sem] max2_int min2_int max_two min_two max_three min_three max_four min_four   -- for this text's walks alone
set_option linter.unusedVariables false
set_option linter.unusedSimpArgs false

/-! ### impl_Build_put: function 72 -/
theorem set_back {W : World} {g : Nat} {t : TypeId} {a b a' b' : Value} (h : W.heap[g]? = some (.cells #[a', b'] t (0, 0))) : (((W.setCell ⟨g, 0, none⟩ a).setCell ⟨g, 1, none⟩ b).setCell ⟨g, 0, none⟩ a').setCell ⟨g, 1, none⟩ b' = W := by
  have e : ((((W.setCell ⟨g, 0, none⟩ a).setCell ⟨g, 1, none⟩ b).setCell ⟨g, 0, none⟩ a').setCell ⟨g, 1, none⟩ b').heap = W.heap := by
    refine Array.ext_getElem? (fun k => ?_)
    simp only [World.setCell, Array.getElem?_modify]
    by_cases hk : g = k
    · subst hk
      simp [h]
    · simp [hk]
  have key : ∀ X : World, X.heap = W.heap → X = { W with heap := X.heap } → X = W := fun X h1 h2 => by rw [h2, h1]
  exact key _ e rfl
/-- A struct of two cells as it was, ahead of its being written. -/
theorem virt_ {W : World} {g : Nat} {t : TypeId} {a' b' : Value} (a b : Value) (h : W.heap[g]? = some (.cells #[a', b'] t (0, 0))) : ∃ w1 : World, (w1.setCell ⟨g, 0, none⟩ a').setCell ⟨g, 1, none⟩ b' = W ∧ w1.heap[g]? = some (.cells #[a, b] t (0, 0)) ∧ Wr g W w1 :=
  ⟨(W.setCell ⟨g, 0, none⟩ a).setCell ⟨g, 1, none⟩ b, set_back h, blk_put (cs := #[a, b']) (blk_put (cs := #[a', b']) h 0 a rfl) 1 b rfl, Wr.set W g 0 [a, b]⟩
set_option maxHeartbeats 4000000 in
set_option maxRecDepth 100000 in
/-- A block is the very cut. -/
theorem impl_Build_block.at (hv : Int) (A : Option Addr) (c : Nat) (l : List Int) (m0 m1 m2 : Int) (A3 : Option Addr) (c3 : Nat) (l3 : List S72) (i : Int) (t n : Int) (w : World) (hc : l.length ≤ c) (h : impl_SpanOf.f m1 m2 i = some (t, n)) (h0 : 0 ≤ t) (h1 : t ≤ wrap64 (t + n)) (h2 : wrap64 (t + n) ≤ (l.length : Int)) :
    Calls Try.prog 62 #[.agg #[.int .i64 hv, .slice A l.length c], .agg #[.int .i64 m0, .int .i64 m1, .int .i64 m2, .slice A3 l3.length c3], .int .i64 i] w fun e w' => e = .returned (.slice (if c = t.toNat then A else A.map (fun x => x.add t.toNat)) ((wrap64 (t + n)).toNat - t.toNat) (c - t.toNat)) ∧ Below w.heap.size w w' := by
  have HB := aM (Below.refl w.heap.size w)
  have H := aM h
  have H0 := aM h0
  have H1 := aM h1
  have H2 := aM h2
  have HC := aM hc
  clear h h0 h1 h2 hc
  obtain ⟨Ax, hAx⟩ : ∃ Ax, Ax = (if c = t.toNat then A else A.map (fun x => x.add t.toNat)) := ⟨_, rfl⟩
  rw [← hAx]
  have HX := aM (show Ax = (if c = t.toNat then A else A.map (fun x => x.add (t.toNat * 1))) by rw [hAx]; simp only [Nat.mul_one])
  clear hAx
  go_enter Try.func62, Try.ntmps62
  go_wp2_with (first | ((with_reducible refine gate_dst (N := 3) rfl ?_); refine gBx 3 #[.int .i64 hv, .slice A l.length c] 35 ?_; intro g3 hg w2 hbox hb; have B3 := aM hbox; replace HB := aM (below_step HB.out hb); clear hb hbox hg; (simp only [Act.put, List.setIfInBounds_toArray, List.set_cons_zero, List.set_cons_succ])) | ((with_reducible refine gate_dst (N := 4) rfl ?_); refine gBx 4 #[.int .i64 m0, .int .i64 m1, .int .i64 m2, .slice A3 l3.length c3] 33 ?_; intro g4 hg w3 hbox hb; have B4 := aM hbox; replace B3 := aM (blk_below B3.out hb); replace HB := aM (below_step HB.out hb); clear hb hbox hg; obtain ⟨hcz0, hcz1, hcz2, hcz3⟩ := cz4 B4.out; (simp only [Act.put, List.setIfInBounds_toArray, List.set_cons_zero, List.set_cons_succ])) | ((with_reducible refine gate_callee (f := 56) rfl ?_); refine gL (some 15) Try.func56 #[.int .i64 m1, .int .i64 m2, .int .i64 i] ?_; (with_reducible refine (impl_SpanOf.calls m1 m2 i t n _ H.out).mono ?_); rintro e w12 ⟨rfl, hb⟩; refine ⟨_, rfl, ?_⟩; replace B3 := aM (blk_below B3.out hb); replace HB := aM (below_step HB.out hb); clear hb; obtain ⟨hcy0, hcy1⟩ := cz2 B3.out; obtain ⟨i0, hi0, hcutz⟩ := info_parts info5; have hcut := cut_mid (P := Try.prog) 25 5 .i64 .i64 Try.underlying25 hi0 1 hcutz.2.1 A l.length c t (wrap64 (t + n)) H0.out H1.out H2.out HC.out; rw [← HX.out] at hcut; (simp only [Act.put, List.setIfInBounds_toArray, List.set_cons_zero, List.set_cons_succ])))
  go_ret
  exact ⟨rfl, HB.out⟩
def impl_Build_put.f (hv : Int) (l : List Int) (m1 m2 : Int) (i : Int) (b : List Int) : Option (Int × List Int) := (impl_SpanOf.f m1 m2 i).bind fun q => (if 0 ≤ q.1 then (if q.1 ≤ wrap64 (q.1 + q.2) then (if wrap64 (q.1 + q.2) ≤ (l.length : Int) then (if (b.length : Int) ≤ wrap64 (q.1 + q.2) - q.1 then (if 0 ≤ i then some (Go.bits .or .i64 hv (shl .i64 1 i), l.take q.1.toNat ++ b ++ l.drop (q.1.toNat + b.length)) else none) else none) else none) else none) else none)
set_option maxHeartbeats 4000000 in
set_option maxRecDepth 100000 in
theorem impl_Build_put.calls (g : Nat) (A : Option Addr) (c : Nat) (hv : Int) (l : List Int) (m0 m1 m2 : Int) (A3 : Option Addr) (c3 : Nat) (l3 : List S72) (i : Int) (Ab : Option Addr) (cb : Nat) (lb : List Int) (r1 : Int) (r2 : List Int) (ok : Nat → Prop) (w0 w : World) (hB : Below w0.heap.size w0 w) (hg : w0.heap.size ≤ g)
    (hG : w.heap[g]? = some (.cells #[.int .i64 hv, .slice A l.length c] 35 (0, 0))) (hD : Kd.R (Kd.int .u8) 5 w w0.heap.size ok (.slice A l.length c) l) (hr : Kd.C (Kd.int .u8) w Ab lb.length lb) (h : impl_Build_put.f hv l m1 m2 i lb = some (r1, r2)) :
    Calls Try.prog 72 #[.pointer (some ⟨g, 0, none⟩), .agg #[.int .i64 m0, .int .i64 m1, .int .i64 m2, .slice A3 l3.length c3], .int .i64 i, .slice Ab lb.length cb] w fun e w' => e = .returned (.tuple #[]) ∧ r2.length = l.length ∧ w'.heap[g]? = some (.cells #[.int .i64 r1, .slice A r2.length c] 35 (0, 0)) ∧ Kd.R (Kd.int .u8) 5 w' w0.heap.size ok (.slice A r2.length c) r2 ∧ Below w0.heap.size w0 w' ∧ Kept w w' (fun k => k = g ∨ some k = (Value.slice A l.length c).ownBlock) := by
  have hu35 := Try.underlying35
  have hu33 := Try.underlying33
  unfold impl_Build_put.f at h
  obtain ⟨⟨t, n⟩, A1, h⟩ := bE h
  dsimp only at A1 h
  obtain ⟨q0, h⟩ := ifN h
  obtain ⟨q1, h⟩ := ifN h
  obtain ⟨q2, h⟩ := ifN h
  obtain ⟨q3, h⟩ := ifN h
  obtain ⟨q4, h⟩ := ifN h
  obtain ⟨e1, e2⟩ : Go.bits .or .i64 hv (shl .i64 1 i) = r1 ∧ l.take t.toNat ++ lb ++ l.drop (t.toNat + lb.length) = r2 := by simpa using h
  clear h
  have hl : r2.length = l.length := by
    rw [← e2, List.length_append, List.length_append, List.length_take, List.length_drop]
    omega
  have HL := aM hl
  have Q0 := aM q0
  have Q1 := aM q1
  have Q2 := aM q2
  have Q3 := aM q3
  have E2 := aM e2
  have HR := aM hr
  have HG := aM hG
  have HD := aM hD
  have HB := aM hB
  have HW := aM hg
  have HK := aM (Kept.refl w (fun k => k = g ∨ some k = (Value.slice A l.length c).ownBlock))
  clear hl q0 q1 q2 q3 e2 hr hG hD hB hg
  have c5b1 : decide (0 ≤ i) = true := decide_eq_true q4
  obtain ⟨ji8, hji8⟩ : ∃ j_ : Int, (shl .i64 1 i) = j_ := ⟨_, rfl⟩
  rw [hji8] at e1
  have hji8_ : (IntKind.i64.wrap (1 * 2 ^ min i.toNat 64)) = ji8 := hji8
  have hji8z : i ≤ 64 → (IntKind.i64.wrap (1 * 2 ^ i.toNat)) = ji8 := shl_small hji8
  have hji8u : (IntKind.i64.wrap (2 ^ min i.toNat 64)) = ji8 := by have h_ := hji8_; rw [Int.one_mul] at h_; exact h_
  have hji8v : i ≤ 64 → (IntKind.i64.wrap (2 ^ i.toNat)) = ji8 := fun hle_ => by have h_ := hji8z hle_; rw [Int.one_mul] at h_; exact h_
  have hji8y : (wrap64 (1 * 2 ^ min i.toNat 64)) = ji8 := (i64_w _).symm.trans hji8_
  have hji8x : i ≤ 64 → (wrap64 (1 * 2 ^ i.toNat)) = ji8 := fun h_ => (i64_w _).symm.trans (hji8z h_)
  subst e1
  go_enter Try.func72, Try.ntmps72
  go_upto_region 1 with (first | ((with_reducible refine gate_dst (N := 5) rfl ?_); refine gBx 5 #[.int .i64 m0, .int .i64 m1, .int .i64 m2, .slice A3 l3.length c3] 33 ?_; intro g5 hg w2 hbox hb; have B5 := aM hbox; have N5 := aM (show g ≠ g5 from fun e => by have := (Array.getElem?_eq_some_iff.1 HG.out).1; omega); replace HB := aM (below_step HB.out hb); replace HG := aM (blk_below HG.out hb); replace HD := aM (Kd.R_below HD.out hb); replace HR := aM (Kd.C_below HR.out hb); replace HK := aM (HK.out.below hb); clear hb hbox hg))
  (try (simp only [Act.put, List.setIfInBounds_toArray, List.set_cons_zero, List.set_cons_succ]))
  replace HB := aM (below_step HB.out (bd1 rfl))
  replace HG := aM (blk_below HG.out (bd1 rfl))
  replace B5 := aM (blk_below B5.out (bd1 rfl))
  replace HD := aM (Kd.R_below HD.out (bd1 rfl))
  replace HR := aM (Kd.C_below HR.out (bd1 rfl))
  replace HK := aM (HK.out.below (bd1 rfl))
  refine start_ (n := 8) (S := fun w' => w'.cell? ⟨g, 0, none⟩ = some (.int .i64 hv) ∧ w'.cell? ⟨g, 1, none⟩ = some (.slice A l.length c) ∧ w'.cell? ⟨g5, 0, none⟩ = some (.int .i64 m0) ∧ w'.cell? ⟨g5, 1, none⟩ = some (.int .i64 m1) ∧ w'.cell? ⟨g5, 2, none⟩ = some (.int .i64 m2) ∧ w'.cell? ⟨g5, 3, none⟩ = some (.slice A3 l3.length c3)) (ds := []) (Array.replicate 8 false) (by kernel_rfl) rfl rfl ⟨(blk_cell HG.out 0).trans rfl, (blk_cell HG.out 1).trans rfl, (blk_cell B5.out 0).trans rfl, (blk_cell B5.out 1).trans rfl, (blk_cell B5.out 2).trans rfl, (blk_cell B5.out 3).trans rfl⟩ (fun hHeld => ?_)
  generalize hw4 : World.drew _ = w4 at HB HG B5 HD HR HK hHeld ⊢
  clear hw4
  refine pP 0 (some 8) ?_
  refine pP 1 (some 9) ?_
  refine pP 4 (some 12) ?_
  refine pP 6 (some 14) ?_
  refine pT 2 (some 10) ?_
  refine pT 3 (some 11) ?_
  refine pO 5 (some 13) (fun K hK => ?_)
  refine gG Try.func62 #[.agg #[.int .i64 hv, .slice A l.length c], .agg #[.int .i64 m0, .int .i64 m1, .int .i64 m2, .slice A3 l3.length c3], .int .i64 i] ?_
  refine (impl_Build_block.at hv A c l m0 m1 m2 A3 c3 l3 i t n _ (Kd.R_reads' HD.out).2.1 A1.out Q0.out Q1.out Q2.out).mono ?_
  rintro e w5 ⟨rfl, hb⟩
  refine ⟨_, rfl, ?_⟩
  generalize hAx : (if c = t.toNat then A else A.map (fun x => x.add t.toNat)) = Ax
  have HX := aM hAx
  clear hAx
  replace HB := aM (below_step HB.out hb)
  replace HG := aM (blk_below HG.out hb)
  replace B5 := aM (blk_below B5.out hb)
  replace HD := aM (Kd.R_below HD.out hb)
  replace HR := aM (Kd.C_below HR.out hb)
  replace HK := aM (HK.out.below hb)
  clear hb
  refine hK.out _ _ ⟨(blk_cell HG.out 0).trans rfl, (blk_cell HG.out 1).trans rfl, (blk_cell B5.out 0).trans rfl, (blk_cell B5.out 1).trans rfl, (blk_cell B5.out 2).trans rfl, (blk_cell B5.out 3).trans rfl⟩ (fun hHeld => ?_)
  clear hK K
  refine nR ?_
  refine pO 7 (some 15) (fun K hK => ?_)
  refine gCp2 (h1 := fun _ => rfl) (0 : Int) (.tmp 13) (.tmp 14) 25 5 Try.underlying25 (by kernel_rfl) HD.out HR.out (k := t.toNat) (n2 := (wrap64 (t + n)).toNat - t.toNat) (by have := Q0.out; have := Q1.out; have := Q2.out; have := Q3.out; omega) (by have := Q0.out; have := Q1.out; have := Q2.out; have := Q3.out; omega) ?_ (by rw [HX.out]; rfl) rfl
  intro w6 hrw hz hsz hkeep
  rw [E2.out] at hrw
  have hne := Kd.R_ne HD.out HG.out (by decide)
  have hn5 := Kd.R_ne HD.out B5.out (by decide)
  replace HG := aM ((hkeep g hne).trans HG.out)
  replace B5 := aM ((hkeep g5 hn5).trans B5.out)
  replace HB := aM (show Below w0.heap.size w0 w6 from ⟨hz.1.trans HB.out.os, hz.2.1.trans HB.out.tape, hz.2.2.trans HB.out.output, by rw [hsz]; exact HB.out.size, fun j hj => (hkeep j (fun e => by have := Kd.R_base HD.out j e.symm; omega)).trans (HB.out.block j hj)⟩)
  replace HK := aM (show Kept w w6 (fun k => k = g ∨ some k = (Value.slice A l.length c).ownBlock) from ⟨by rw [hsz]; exact HK.out.1, fun j hj hn => (hkeep j (fun e => hn (.inr e))).trans (HK.out.2 j hj hn)⟩)
  replace HD := aM hrw
  clear hrw hz hsz hkeep hne hn5 HR
  refine hK.out _ _ ⟨(blk_cell HG.out 0).trans rfl, (blk_cell HG.out 1).trans rfl, (blk_cell B5.out 0).trans rfl, (blk_cell B5.out 1).trans rfl, (blk_cell B5.out 2).trans rfl, (blk_cell B5.out 3).trans rfl⟩ (fun hHeld => ?_)
  clear hK K
  refine nR ?_
  refine done_ (by kernel_rfl) ?_
  go_wp2
  replace HB := aM (below_step HB.out (bd1 rfl))
  replace HG := aM (blk_below HG.out (bd1 rfl))
  replace HD := aM (Kd.R_below HD.out (bd1 rfl))
  replace HK := aM (HK.out.below (bd1 rfl))
  refine start_ (n := 10) (S := fun w' => w'.cell? ⟨g, 0, none⟩ = some (.int .i64 hv)) (ds := [9]) (Array.replicate 10 false) (by kernel_rfl) rfl rfl ((blk_cell HG.out 0).trans rfl) (fun hHeld => ?_)
  generalize hw7 : World.drew _ = w7 at HB HG HD HK hHeld ⊢
  clear hw7
  refine pP 0 (some 16) ?_
  refine pP 1 (some 17) ?_
  refine pP 2 (some 18) ?_
  refine pP 4 (some 20) ?_
  refine pP 5 (some 21) ?_
  refine pT 3 (some 19) ?_
  refine pP 6 (some 22) ?_
  refine pP 7 (some 23) ?_
  refine pP 8 (some 24) ?_
  refine pL 9 none (fun K hK => ?_)
  refine gStS [.int .i64 (Go.bits .or .i64 hv ji8)] #[.int .i64 (Go.bits .or .i64 hv ji8), .slice A l.length c] HG.out ?_
  intro w8 hw hbox
  replace HD := aM (Kd.R_mono (Kd.R_move (Kd.R_types HD.out HG.out (by decide)) (fun k q => hw.2.2 k q.2)) (fun _ q => q.1))
  replace HB := aM (hw.below HB.out HW.out)
  replace HK := aM (HK.out.then_ hw.kept (fun k e => .inl (.inl e)))
  replace HG := aM hbox
  clear hw hbox
  refine hK.out _ _ ?_
  clear hK K
  refine done_ (by kernel_rfl) ?_
  go_end0
  simp only [HL.out]
  exact ⟨by first | rfl | trivial, by first | rfl | trivial, HG.out, HD.out, HB.out, HK.out⟩

end Go.Proofs.Ytnoplippaiblcaa.Q
