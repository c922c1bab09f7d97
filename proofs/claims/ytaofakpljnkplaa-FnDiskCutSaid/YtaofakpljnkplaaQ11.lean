/- Functions of the program as plain Lean functions, and that a call of each comes to what its function tells. Written by a program of this seat. -/
import Derived.Test.YtaofakpljnkplaaQ0
import Derived.Test.YtaofakpljnkplaaQ4
import Derived.Test.YtaofakpljnkplaaQ9
import Derived.Test.YtaofakpljnkplaaQ10
namespace Go.Proofs.Ytaofakpljnkplaa.Q
open Go.RowKit Go.Proofs.YtaofakpljnkplaaW.PrintWords Go.Proofs.YtaofakpljnkplaaW.PrintLast Go.Proofs.YtaofakpljnkplaaW.PrintMore
attribute [local go_sem] min2_int min_two
set_option linter.unusedVariables false
set_option linter.unusedSimpArgs false

theorem set_back {W : World} {g : Nat} {t : TypeId} {a b a' b' : Value} (h : W.heap[g]? = some (.cells #[a', b'] t (0, 0))) : (((W.setCell ⟨g, 0, none⟩ a).setCell ⟨g, 1, none⟩ b).setCell ⟨g, 0, none⟩ a').setCell ⟨g, 1, none⟩ b' = W := by
  have e : ((((W.setCell ⟨g, 0, none⟩ a).setCell ⟨g, 1, none⟩ b).setCell ⟨g, 0, none⟩ a').setCell ⟨g, 1, none⟩ b').heap = W.heap := by
    refine Array.ext_getElem? (fun k => ?_);simp only [World.setCell, Array.getElem?_modify]
    by_cases hk : g = k
    · subst hk;simp [h]
    · simp [hk]
  have key : ∀ X : World, X.heap = W.heap → X = { W with heap := X.heap } → X = W := fun X h1 h2 => by rw [h2, h1]
  exact key _ e rfl
/-- A struct of two cells as it was, ahead of its being written. -/
theorem virt_ {W : World} {g : Nat} {t : TypeId} {a' b' : Value} (a b : Value) (h : W.heap[g]? = some (.cells #[a', b'] t (0, 0))) : ∃ w1 : World, (w1.setCell ⟨g, 0, none⟩ a').setCell ⟨g, 1, none⟩ b' = W ∧ w1.heap[g]? = some (.cells #[a, b] t (0, 0)) ∧ Wr g W w1 :=
  ⟨(W.setCell ⟨g, 0, none⟩ a).setCell ⟨g, 1, none⟩ b, set_back h, blk_put (cs := #[a, b']) (blk_put (cs := #[a', b']) h 0 a rfl) 1 b rfl, Wr.set W g 0 [a, b]⟩
set_option maxHeartbeats 4000000 in
set_option maxRecDepth 100000 in
/-- A block is the very cut. -/
theorem impl_Build_block.at (hv : Int) (A : Option Addr) (c : Nat) (l : List Int) (m0 m1 m2 : Int) (A3 : Option Addr) (c3 : Nat) (l3 : List S71) (i : Int) (t n : Int) (w : World) (hc : l.length ≤ c) (h : impl_SpanOf.f m1 m2 i = some (t, n)) (h0 : 0 ≤ t) (h1 : t ≤ wrap64 (t + n)) (h2 : wrap64 (t + n) ≤ (l.length : Int)) :
    Calls Try.prog 66 #[.agg #[.int .i64 hv, .slice A l.length c], .agg #[.int .i64 m0, .int .i64 m1, .int .i64 m2, .slice A3 l3.length c3], .int .i64 i] w fun e w' => e = .returned (.slice (if c = t.toNat then A else A.map (fun x => x.add t.toNat)) ((wrap64 (t + n)).toNat - t.toNat) (c - t.toNat)) ∧ Below w.heap.size w w' := by
  have HB := aM (Below.refl w.heap.size w)
  have H := aM h
  have H0 := aM h0
  have H1 := aM h1
  have H2 := aM h2
  have HC := aM hc
  clear h h0 h1 h2 hc
  obtain ⟨Ax, hAx⟩ : ∃ Ax, Ax = (if c = t.toNat then A else A.map (fun x => x.add t.toNat)) := ⟨_, rfl⟩
  rw [← hAx]
  have HX := aM (show Ax = (if c = t.toNat then A else A.map (fun x => x.add (t.toNat * 1))) by rw [hAx]; simp only [Nat.mul_one])
  clear hAx
  go_enter Try.func66, Try.ntmps66
  go_wp2_with (first | ((with_reducible refine gate_dst (N := 3) rfl ?_); refine gBx 3 #[.int .i64 hv, .slice A l.length c] 31 ?_; intro g3 hg w2 hbox hb; have B3 := aM hbox; replace HB := aM (below_step HB.out hb); clear hb hbox hg; (simp only [Act.put, List.setIfInBounds_toArray, List.set_cons_zero, List.set_cons_succ])) | ((with_reducible refine gate_dst (N := 4) rfl ?_); refine gBx 4 #[.int .i64 m0, .int .i64 m1, .int .i64 m2, .slice A3 l3.length c3] 28 ?_; intro g4 hg w3 hbox hb; have B4 := aM hbox; replace B3 := aM (blk_below B3.out hb); replace HB := aM (below_step HB.out hb); clear hb hbox hg; obtain ⟨hcz0, hcz1, hcz2, hcz3⟩ := cz4 B4.out; (simp only [Act.put, List.setIfInBounds_toArray, List.set_cons_zero, List.set_cons_succ])) | ((with_reducible refine gate_callee (f := 36) rfl ?_); refine gL (some 15) Try.func36 #[.int .i64 m1, .int .i64 m2, .int .i64 i] ?_; (with_reducible refine (impl_SpanOf.calls H.out).mono ?_); rintro e w12 ⟨rfl, hb⟩; refine ⟨_, rfl, ?_⟩; replace B3 := aM (blk_below B3.out hb); replace HB := aM (below_step HB.out hb); clear hb; obtain ⟨hcy0, hcy1⟩ := cz2 B3.out; obtain ⟨i0, hi0, hcutz⟩ := info_parts info5; have hcut := cut_mid (P := Try.prog) 22 5 .i64 .i64 Try.underlying22 hi0 1 hcutz.2.1 A l.length c t (wrap64 (t + n)) H0.out H1.out H2.out HC.out; rw [← HX.out] at hcut; (simp only [Act.put, List.setIfInBounds_toArray, List.set_cons_zero, List.set_cons_succ])))
  go_ret
  exact ⟨rfl, HB.out⟩
def impl_Build_put.f (hv : Int) (l : List Int) (m1 m2 : Int) (i : Int) (b : List Int) : Option (Int × List Int) := (impl_SpanOf.f m1 m2 i).bind fun q => (if 0 ≤ q.1 then (if q.1 ≤ wrap64 (q.1 + q.2) then (if wrap64 (q.1 + q.2) ≤ (l.length : Int) then (if (b.length : Int) ≤ wrap64 (q.1 + q.2) - q.1 then (if 0 ≤ i then some (Go.bits .or .i64 hv (shl .i64 1 i), l.take q.1.toNat ++ b ++ l.drop (q.1.toNat + b.length)) else none) else none) else none) else none) else none)
set_option maxHeartbeats 4000000 in
set_option maxRecDepth 100000 in
theorem impl_Build_put.calls {g : Nat} (A : Option Addr) (c : Nat) {hv : Int} {l : List Int} {m0 m1 m2 : Int} {A3 : Option Addr} {c3 : Nat} {l3 : List S71} {i : Int} {Ab : Option Addr} {cb : Nat} {lb : List Int} {r1 : Int} {r2 : List Int} (ok : Nat → Prop) (w0 w : World) (hB : Below w0.heap.size w0 w) (hg : w0.heap.size ≤ g)
    (hG : w.heap[g]? = some (.cells #[.int .i64 hv, .slice A l.length c] 31 (0, 0))) (hD : Kd.R (Kd.int .u8) 5 w w0.heap.size ok (.slice A l.length c) l) (hr : Kd.C (Kd.int .u8) w Ab lb.length lb) (h : impl_Build_put.f hv l m1 m2 i lb = some (r1, r2)) :
    Calls Try.prog 42 #[.pointer (some ⟨g, 0, none⟩), .agg #[.int .i64 m0, .int .i64 m1, .int .i64 m2, .slice A3 l3.length c3], .int .i64 i, .slice Ab lb.length cb] w fun e w' => e = .returned (.tuple #[]) ∧ r2.length = l.length ∧ w'.heap[g]? = some (.cells #[.int .i64 r1, .slice A r2.length c] 31 (0, 0)) ∧ Kd.R (Kd.int .u8) 5 w' w0.heap.size ok (.slice A r2.length c) r2 ∧ Below w0.heap.size w0 w' ∧ Kept w w' (fun k => k = g ∨ some k = (Value.slice A l.length c).ownBlock) := by
  have hu31 := Try.underlying31
  have hu28 := Try.underlying28
  unfold impl_Build_put.f at h
  obtain ⟨⟨t, n⟩, A1, h⟩ := bE h
  dsimp only at A1 h
  obtain ⟨q0, h⟩ := ifN h
  obtain ⟨q1, h⟩ := ifN h
  obtain ⟨q2, h⟩ := ifN h
  obtain ⟨q3, h⟩ := ifN h
  obtain ⟨q4, h⟩ := ifN h
  obtain ⟨e1, e2⟩ : Go.bits .or .i64 hv (shl .i64 1 i) = r1 ∧ l.take t.toNat ++ lb ++ l.drop (t.toNat + lb.length) = r2 := by simpa using h
  clear h
  have hl : r2.length = l.length := by
    rw [← e2, List.length_append, List.length_append, List.length_take, List.length_drop];omega
  have HL := aM hl;have Q0 := aM q0;have Q1 := aM q1;have Q2 := aM q2;have Q3 := aM q3;have E2 := aM e2;have HR := aM hr;have HG := aM hG;have HD := aM hD;have HB := aM hB;have HW := aM hg;have HK := aM (Kept.refl w (fun k => k = g ∨ some k = (Value.slice A l.length c).ownBlock));clear hl q0 q1 q2 q3 e2 hr hG hD hB hg;have c5b1 : decide (0 ≤ i) = true := decide_eq_true q4;obtain ⟨ji8, hji8⟩ : ∃ j_ : Int, (shl .i64 1 i) = j_ := ⟨_, rfl⟩;rw [hji8] at e1;have hji8_ : (IntKind.i64.wrap (1 * 2 ^ min i.toNat 64)) = ji8 := hji8;have hji8z : i ≤ 64 → (IntKind.i64.wrap (1 * 2 ^ i.toNat)) = ji8 := shl_small hji8;have hji8u : (IntKind.i64.wrap (2 ^ min i.toNat 64)) = ji8 := by have h_ := hji8_; rw [Int.one_mul] at h_; exact h_
  have hji8v : i ≤ 64 → (IntKind.i64.wrap (2 ^ i.toNat)) = ji8 := fun hle_ => by have h_ := hji8z hle_; rw [Int.one_mul] at h_; exact h_
  have hji8y : (wrap64 (1 * 2 ^ min i.toNat 64)) = ji8 := (i64_w _).symm.trans hji8_;have hji8x : i ≤ 64 → (wrap64 (1 * 2 ^ i.toNat)) = ji8 := fun h_ => (i64_w _).symm.trans (hji8z h_)
  subst e1;go_enter Try.func42, Try.ntmps42;go_upto_region 1 with (first | ((with_reducible refine gate_dst (N := 5) rfl ?_); refine gBx 5 #[.int .i64 m0, .int .i64 m1, .int .i64 m2, .slice A3 l3.length c3] 28 ?_; intro g5 hg w2 hbox hb; have B5 := aM hbox; have N5 := aM (show g ≠ g5 from fun e => by have := (Array.getElem?_eq_some_iff.1 HG.out).1; omega); replace HB := aM (below_step HB.out hb); replace HG := aM (blk_below HG.out hb); replace HD := aM (Kd.R_below HD.out hb); replace HR := aM (Kd.C_below HR.out hb); replace HK := aM (HK.out.below hb); clear hb hbox hg))
  (try (simp only [Act.put, List.setIfInBounds_toArray, List.set_cons_zero, List.set_cons_succ]));replace HB := aM (below_step HB.out (bd1 rfl));replace HG := aM (blk_below HG.out (bd1 rfl));replace B5 := aM (blk_below B5.out (bd1 rfl));replace HD := aM (Kd.R_below HD.out (bd1 rfl));replace HR := aM (Kd.C_below HR.out (bd1 rfl));replace HK := aM (HK.out.below (bd1 rfl));refine st_ (n := 8) (ds := []) (Array.replicate 8 false) (hJ2 HG.out (hK4 B5.out)) (by kernel_rfl) rfl rfl (fun hHeld => ?_);generalize hw4 : World.drew _ = w4 at HB HG B5 HD HR HK hHeld ⊢;clear hw4;refine ppq 0 8 ?_;refine ppq 1 9 ?_;refine ppq 4 12 ?_;refine ppq 6 14 ?_;refine ptq 2 10 ?_;refine ptq 3 11 ?_;refine poq 5 13 (fun K hK => ?_);refine gG Try.func66 #[.agg #[.int .i64 hv, .slice A l.length c], .agg #[.int .i64 m0, .int .i64 m1, .int .i64 m2, .slice A3 l3.length c3], .int .i64 i] ?_;refine (impl_Build_block.at hv A c l m0 m1 m2 A3 c3 l3 i t n _ (Kd.R_reads' HD.out).2.1 A1.out Q0.out Q1.out Q2.out).mono ?_;rintro e w5 ⟨rfl, hb⟩;refine ⟨_, rfl, ?_⟩;generalize hAx : (if c = t.toNat then A else A.map (fun x => x.add t.toNat)) = Ax;have HX := aM hAx;clear hAx;replace HB := aM (below_step HB.out hb);replace HG := aM (blk_below HG.out hb);replace B5 := aM (blk_below B5.out hb);replace HD := aM (Kd.R_below HD.out hb);replace HR := aM (Kd.C_below HR.out hb);replace HK := aM (HK.out.below hb);clear hb;refine hK.out _ _ (cJ2 HG.out (cK4 B5.out)) (fun hHeld => ?_);clear hK K;refine nR ?_;refine poq 7 15 (fun K hK => ?_);refine gCp2 (h1 := fun _ => rfl) (0 : Int) (.tmp 13) (.tmp 14) 22 5 Try.underlying22 (by kernel_rfl) HD.out HR.out (k := t.toNat) (n2 := (wrap64 (t + n)).toNat - t.toNat) (by have := Q0.out; have := Q1.out; have := Q2.out; have := Q3.out; omega) (by have := Q0.out; have := Q1.out; have := Q2.out; have := Q3.out; omega) ?_ (by rw [HX.out]; rfl) rfl;intro w6 hrw hz hsz hkeep;rw [E2.out] at hrw;have hne := Kd.R_ne HD.out HG.out (by decide);have hn5 := Kd.R_ne HD.out B5.out (by decide);replace HG := aM ((hkeep g hne).trans HG.out);replace B5 := aM ((hkeep g5 hn5).trans B5.out);replace HB := aM (show Below w0.heap.size w0 w6 from ⟨hz.1.trans HB.out.os, hz.2.1.trans HB.out.tape, hz.2.2.trans HB.out.output, by rw [hsz]; exact HB.out.size, fun j hj => (hkeep j (fun e => by have := Kd.R_base HD.out j e.symm; omega)).trans (HB.out.block j hj)⟩);replace HK := aM (show Kept w w6 (fun k => k = g ∨ some k = (Value.slice A l.length c).ownBlock) from ⟨by rw [hsz]; exact HK.out.1, fun j hj hn => (hkeep j (fun e => hn (.inr e))).trans (HK.out.2 j hj hn)⟩);replace HD := aM hrw;clear hrw hz hsz hkeep hne hn5 HR;refine hK.out _ _ (cJ2 HG.out (cK4 B5.out)) (fun hHeld => ?_);clear hK K;refine nR ?_;refine done_ (by kernel_rfl) ?_;go_wp2
  replace HB := aM (below_step HB.out (bd1 rfl));replace HG := aM (blk_below HG.out (bd1 rfl));replace HD := aM (Kd.R_below HD.out (bd1 rfl));replace HK := aM (HK.out.below (bd1 rfl));refine start_ (n := 10) (S := fun w' => w'.cell? ⟨g, 0, none⟩ = some (.int .i64 hv)) (ds := [9]) (Array.replicate 10 false) (by kernel_rfl) rfl rfl ((blk_cell HG.out 0).trans rfl) (fun hHeld => ?_);generalize hw7 : World.drew _ = w7 at HB HG HD HK hHeld ⊢;clear hw7;refine ppq 0 16 ?_;refine ppq 1 17 ?_;refine ppq 2 18 ?_;refine ppq 4 20 ?_;refine ppq 5 21 ?_;refine ptq 3 19 ?_;refine ppq 6 22 ?_;refine ppq 7 23 ?_;refine ppq 8 24 ?_;refine pL 9 none (fun K hK => ?_);refine gStS [.int .i64 (Go.bits .or .i64 hv ji8)] #[.int .i64 (Go.bits .or .i64 hv ji8), .slice A l.length c] HG.out ?_;intro w8 hw hbox;replace HD := aM (Kd.R_mono (Kd.R_move (Kd.R_types HD.out HG.out (by decide)) (fun k q => hw.2.2 k q.2)) (fun _ q => q.1));replace HB := aM (hw.below HB.out HW.out);replace HK := aM (HK.out.then_ hw.kept (fun k e => .inl (.inl e)));replace HG := aM hbox;clear hw hbox;refine hK.out _ _ ?_;clear hK K;refine done_ (by kernel_rfl) ?_;go_end0
  simp only [HL.out];exact ⟨by first | rfl | trivial, by first | rfl | trivial, HG.out, HD.out, HB.out, HK.out⟩

def impl_Without.f (a0 : Int) (a1 : Int) : Option (Int) := (impl_SetOk.f a0).bind fun t292 => (if t292 = true then ((impl_SetOk.f a1).bind fun t293 => (if t293 = true then (some (Go.bits .andNot .i64 a0 a1)) else (some 0))) else (some 0))
set_option maxHeartbeats 40000000 in
set_option maxRecDepth 100000 in
theorem impl_Without.calls {a0 : Int} {a1 : Int} {r : Int} {w : World} (h : impl_Without.f a0 a1 = some r) :
    Calls Try.prog 70 #[.int .i64 a0, .int .i64 a1] w fun e w' => e = .returned (.int .i64 r) ∧ Drawn0 w w' := by
  have H := h
  clear h
  unfold impl_Without.f at H
  replace H := bE H
  obtain ⟨t292, A3, H⟩ := H
  by_cases c4 : t292 = true
  · subst c4
    replace H := ifT H
    replace H := bE H
    obtain ⟨t293, A5, H⟩ := H
    by_cases c6 : t293 = true
    · subst c6
      replace H := ifT H
      obtain rfl := o_I H
      go_enter Try.func70, Try.ntmps70
      go_wp2_with (first | ((with_reducible refine gate_callee (f := 64) rfl ?_); refine gL (some 6) Try.func64 #[.int .i64 a0] ?_; (with_reducible refine (impl_SetOk.calls A3.out).mono ?_); rintro e w' ⟨rfl, ⟨nd, rfl⟩⟩; refine ⟨_, rfl, ?_⟩) | (go_at_call 64; (with_reducible refine (impl_SetOk.calls A5.out).mono ?_); rintro e w' ⟨rfl, ⟨nd, rfl⟩⟩))
      go_ret
      exact ⟨by first | rfl | (simp; done) | (simp [*]; done), TD⟩
    · replace c6 := b_F c6
      subst c6
      replace H := ifF H
      obtain rfl := o_I H
      go_enter Try.func70, Try.ntmps70
      go_wp2_with (first | ((with_reducible refine gate_callee (f := 64) rfl ?_); refine gL (some 6) Try.func64 #[.int .i64 a0] ?_; (with_reducible refine (impl_SetOk.calls A3.out).mono ?_); rintro e w' ⟨rfl, ⟨nd, rfl⟩⟩; refine ⟨_, rfl, ?_⟩) | (go_at_call 64; (with_reducible refine (impl_SetOk.calls A5.out).mono ?_); rintro e w' ⟨rfl, ⟨nd, rfl⟩⟩))
      go_ret
      exact ⟨by first | rfl | (simp; done) | (simp [*]; done), TD⟩
  · replace c4 := b_F c4
    subst c4
    replace H := ifF H
    obtain rfl := o_I H
    go_enter Try.func70, Try.ntmps70
    go_wp2_with (first | ((with_reducible refine gate_callee (f := 64) rfl ?_); refine gL (some 6) Try.func64 #[.int .i64 a0] ?_; (with_reducible refine (impl_SetOk.calls A3.out).mono ?_); rintro e w' ⟨rfl, ⟨nd, rfl⟩⟩; refine ⟨_, rfl, ?_⟩))
    go_ret
    exact ⟨by first | rfl | (simp; done) | (simp [*]; done), TD⟩

def impl_Missing.f (a0_0 : Int) (a0_1 : Int) (a0_2 : Int) (l0_3 : List (S71)) (a1_0 : Int) (l1_1 : List Int) : Option (Int) := (impl_AllParts.f a0_0 a0_1 a0_2 l0_3).bind fun t296 => ((impl_Without.f t296 a1_0).bind fun t297 => (some t297))
set_option maxHeartbeats 40000000 in
set_option maxRecDepth 100000 in
theorem impl_Missing.calls {a0_0 : Int} {a0_1 : Int} {a0_2 : Int} {A0_3 : Option Addr} {c0_3 : Nat} {l0_3 : List (S71)} {a1_0 : Int} {A1_1 : Option Addr} {c1_1 : Nat} {l1_1 : List Int} {r : Int} {w : World} (hr0_3 : Kd.C k71 w A0_3 l0_3.length l0_3) (hc0_3 : l0_3.length ≤ c0_3) (hr1_1 : Kd.C (Kd.int .u8) w A1_1 l1_1.length l1_1) (hc1_1 : l1_1.length ≤ c1_1) (h : impl_Missing.f a0_0 a0_1 a0_2 l0_3 a1_0 l1_1 = some r) :
    Calls Try.prog 43 #[.agg #[.int .i64 a0_0, .int .i64 a0_1, .int .i64 a0_2, .slice A0_3 l0_3.length c0_3], .agg #[.int .i64 a1_0, .slice A1_1 l1_1.length c1_1]] w fun e w' => e = .returned (.int .i64 r) ∧ Below w.heap.size w w' := by
  have hu28 := Try.underlying28
  have hu31 := Try.underlying31
  have HR0_3 := aM hr0_3
  have HC0_3 := aM hc0_3
  clear hr0_3 hc0_3
  have HR1_1 := aM hr1_1
  have HC1_1 := aM hc1_1
  clear hr1_1 hc1_1
  have HB := aM (Below.refl w.heap.size w)
  have H := h
  clear h
  unfold impl_Missing.f at H
  replace H := bE H
  obtain ⟨t296, A3, H⟩ := H
  replace H := bE H
  obtain ⟨t297, A4, H⟩ := H
  obtain rfl := o_I H
  go_enter Try.func43, Try.ntmps43
  try go_wp2_with (first | ((with_reducible refine gate_dst (N := 2) rfl ?_); refine gBx 2 #[.int .i64 a0_0, .int .i64 a0_1, .int .i64 a0_2, .slice A0_3 l0_3.length c0_3] 28 ?_; intro gb294 hg w5 hbox hb; have BK294 := aM (hbox); have GW294 := gW HB hg; have GE294 := gW HB hg; replace HB := bS HB hb; clear hb hbox hg) | ((with_reducible refine gate_dst (N := 3) rfl ?_); refine gBx 3 #[.int .i64 a1_0, .slice A1_1 l1_1.length c1_1] 31 ?_; intro gb295 hg w6 hbox hb; have BK295 := aM (hbox); have GW295 := gW HB hg; have GE295 := gW HB hg; obtain ⟨NB294_295, NB295_294⟩ := nB BK294 hg; replace BK294 := mB BK294 hb; replace HB := bS HB hb; clear hb hbox hg))
  replace BK294 := bD BK294
  replace BK295 := bD BK295
  replace HB := aM (below_drew1 HB.out)
  refine st_ (n := 6) (ds := []) (Array.replicate 6 false) (hJ4 BK294.out (hK2 BK295.out)) (by kernel_rfl) rfl rfl (fun hHeld => ?_)
  generalize w6.drew = w7 at BK294 BK295 HB hHeld ⊢
  refine ppq 2 7 ?_
  refine ptq 0 5 ?_
  refine ptq 3 8 ?_
  refine poq 1 6 (fun K hK => ?_)
  refine gG Try.func65 #[.agg #[.int .i64 a0_0, .int .i64 a0_1, .int .i64 a0_2, .slice A0_3 l0_3.length c0_3]] ?_
  with_reducible refine (impl_AllParts.calls ?side1 ?side2 A3.out).mono ?_
  (case side1 => have X_ := (Kd.C_below HR0_3.out HB.out); exact TC)
  (case side2 => exact HC0_3.out)
  rintro e w8 ⟨rfl, hb⟩
  refine ⟨_, rfl, ?_⟩
  replace BK294 := mB BK294 hb
  replace BK295 := mB BK295 hb
  replace HB := bS HB hb
  (try clear hb)
  (try clear hb2)
  (try clear hk)
  (try clear hi)
  refine hK.out _ _ (cJ4 BK294.out (cK2 BK295.out)) (fun hHeld => ?_)
  clear hK K
  refine nR ?_
  refine poq 4 9 (fun K hK => ?_)
  refine gG Try.func70 #[.int .i64 t296, .int .i64 a1_0] ?_
  with_reducible refine (impl_Without.calls A4.out).mono ?_
  rintro e w' ⟨rfl, ⟨nd, rfl⟩⟩
  refine ⟨_, rfl, ?_⟩
  refine hK.out _ _ (cJ4 BK294.out (cK2 BK295.out)) (fun hHeld => ?_)
  clear hK K
  refine nR ?_
  refine ppq 5 4 ?_
  refine done_ (by kernel_rfl) ?_
  try go_wp2
  go_ret
  exact ⟨TE, TB⟩

def impl_Whole.f (k : Nat) (a0_0 : Int) (a0_1 : Int) (a0_2 : Int) (l0_3 : List (S71)) (a1_0 : Int) (l1_1 : List Int) : Option (Bool) := if a0_0 = 0 then (some false) else ((impl_BuildOk.f k a0_0 a0_1 a0_2 l0_3 a1_0 l1_1).bind fun t300 => (if t300 = true then ((impl_Missing.f a0_0 a0_1 a0_2 l0_3 a1_0 l1_1).bind fun t301 => (some (t301 == 0))) else (some false)))
theorem impl_Whole.mono : ∀ a0 a1 a2 a3 a4 a5 k, LeO (impl_Whole.f k a0 a1 a2 a3 a4 a5) (impl_Whole.f (k + 1) a0 a1 a2 a3 a4 a5) := by
  intro a0 a1 a2 a3 a4 a5 k;have m0_ := @impl_BuildOk.mono;unfold impl_Whole.f;exact LM
set_option maxHeartbeats 40000000 in
set_option maxRecDepth 100000 in
theorem impl_Whole.calls {k : Nat} {aa : Int} {af : Int} {ae : Int} {aj : Option Addr} {ai : Nat} {ab : List (S71)} {ad : Int} {ag : Option Addr} {ah : Nat} {ac : List Int} {r : Bool} {w : World} (ar : Kd.C k71 w aj ab.length ab) (aq : ab.length ≤ ai) (ap : Kd.C (Kd.int .u8) w ag ac.length ac) (ao : ac.length ≤ ah) (h : impl_Whole.f k aa af ae ab ad ac = some r) :
  Calls Try.prog 14 #[.agg #[.int .i64 aa, .int .i64 af, .int .i64 ae, .slice aj ab.length ai], .agg #[.int .i64 ad, .slice ag ac.length ah]] w fun e w' => e = .returned (.bool r) ∧ Below w.heap.size w w' := by
 have hu28 := Try.underlying28;have hu31 := Try.underlying31;have an := aM ar;have am := aM aq;clear ar aq;have ak := aM ap;have al := aM ao;clear ap ao;have HB := aM (Below.refl w.heap.size w);have H := h;clear h;unfold impl_Whole.f at H
 by_cases c3 : aa = 0
 ·rw [if_pos c3] at H;have cq1 : (aa == 0) = true := beq_iff_eq.mpr c3;have cq2 : (aa != 0) = false := bne_eq_false_iff_eq.mpr c3;clear c3;obtain rfl := o_I H;go_enter Try.func14, Try.ntmps14;go_wp2_with (first | ((with_reducible refine gate_dst (N := 2) rfl ?_); refine gBx 2 #[.int .i64 aa, .int .i64 af, .int .i64 ae, .slice aj ab.length ai] 28 ?_; intro gbq1 hg w4 hbox hb; have BKq1 := aM (hbox); have GWq1 := gW HB hg; have GEq1 := gW HB hg; replace HB := bS HB hb; clear hb hbox hg) | ((with_reducible refine gate_dst (N := 3) rfl ?_); refine gBx 3 #[.int .i64 ad, .slice ag ac.length ah] 31 ?_; intro gbq2 hg w5 hbox hb; have BKq2 := aM (hbox); have GWq2 := gW HB hg; have GEq2 := gW HB hg; obtain ⟨NBq1, NBq2⟩ := nB BKq1 hg; replace BKq1 := mB BKq1 hb; replace HB := bS HB hb; clear hb hbox hg; obtain ⟨hnbq1, hncq1⟩ := oB NBq1; obtain ⟨hczq1, hczq2, hczq3, hczq4⟩ := cz4 BKq1.out; obtain ⟨hfzq1, hfzq2, hfzq3, hfzq4⟩ := fz4 BKq1.out))
  go_ret
  exact ⟨TE, TB⟩
 ·rw [if_neg c3] at H;have cq1 : (aa == 0) = false := beq_eq_false_iff_ne.mpr c3;have cq2 : (aa != 0) = true := bne_iff_ne.mpr c3;replace H := bE H;obtain ⟨t300, Aq1, H⟩ := H
  by_cases cq3 : t300 = true
  ·subst cq3;replace H := ifT H;replace H := bE H;obtain ⟨t301, Aq2, H⟩ := H;obtain rfl := o_I H;go_enter Try.func14, Try.ntmps14;go_wp2_with (first | ((with_reducible refine gate_dst (N := 2) rfl ?_); refine gBx 2 #[.int .i64 aa, .int .i64 af, .int .i64 ae, .slice aj ab.length ai] 28 ?_; intro gbq1 hg wq1 hbox hb; have BKq1 := aM (hbox); have GWq1 := gW HB hg; have GEq1 := gW HB hg; replace HB := bS HB hb; clear hb hbox hg) | ((with_reducible refine gate_dst (N := 3) rfl ?_); refine gBx 3 #[.int .i64 ad, .slice ag ac.length ah] 31 ?_; intro gbq2 hg w12 hbox hb; have BKq2 := aM (hbox); have GWq2 := gW HB hg; have GEq2 := gW HB hg; obtain ⟨NBq1, NBq2⟩ := nB BKq1 hg; replace BKq1 := mB BKq1 hb; replace HB := bS HB hb; clear hb hbox hg; obtain ⟨hnbq1, hncq1⟩ := oB NBq1; obtain ⟨hczq1, hczq2, hczq3, hczq4⟩ := cz4 BKq1.out; obtain ⟨hfzq1, hfzq2, hfzq3, hfzq4⟩ := fz4 BKq1.out; obtain ⟨hczq5, hczq6⟩ := cz2 BKq2.out; obtain ⟨hfzq5, hfzq6⟩ := fz2 BKq2.out) | (go_at_call 39; (with_reducible refine (impl_BuildOk.calls ?side1 ?side2 ?side3 ?side4 Aq1.out).mono ?_); (case side1 => have X_ := (Kd.C_below an.out HB.out); exact TC); (case side2 => exact am.out); (case side3 => have X_ := (Kd.C_below ak.out HB.out); exact TC); (case side4 => exact al.out); rintro e wq2 ⟨rfl, hb⟩; replace BKq1 := mB BKq1 hb; replace BKq2 := mB BKq2 hb; replace HB := bS HB hb; clear hb; obtain ⟨hczq7, hczq8, hczq9, hczq10⟩ := cz4 BKq1.out; obtain ⟨hfzq7, hfzq8, hfzq9, hfzq10⟩ := fz4 BKq1.out; obtain ⟨hczq11, hczq12⟩ := cz2 BKq2.out; obtain ⟨hfzq11, hfzq12⟩ := fz2 BKq2.out) | (go_at_call 43; (with_reducible refine (impl_Missing.calls ?side1 ?side2 ?side3 ?side4 Aq2.out).mono ?_); (case side1 => have X_ := (Kd.C_below an.out HB.out); exact TC); (case side2 => exact am.out); (case side3 => have X_ := (Kd.C_below ak.out HB.out); exact TC); (case side4 => exact al.out); rintro e wq3 ⟨rfl, hb⟩; replace BKq1 := mB BKq1 hb; replace BKq2 := mB BKq2 hb; replace HB := bS HB hb; clear hb))
   go_ret
   exact ⟨TE, TB⟩
  ·replace cq3 := b_F cq3;subst cq3;replace H := ifF H;obtain rfl := o_I H;go_enter Try.func14, Try.ntmps14;go_wp2_with (first | ((with_reducible refine gate_dst (N := 2) rfl ?_); refine gBx 2 #[.int .i64 aa, .int .i64 af, .int .i64 ae, .slice aj ab.length ai] 28 ?_; intro gbq1 hg wq1 hbox hb; have BKq1 := aM (hbox); have GWq1 := gW HB hg; have GEq1 := gW HB hg; replace HB := bS HB hb; clear hb hbox hg) | ((with_reducible refine gate_dst (N := 3) rfl ?_); refine gBx 3 #[.int .i64 ad, .slice ag ac.length ah] 31 ?_; intro gbq2 hg wq2 hbox hb; have BKq2 := aM (hbox); have GWq2 := gW HB hg; have GEq2 := gW HB hg; obtain ⟨NBq1, NBq2⟩ := nB BKq1 hg; replace BKq1 := mB BKq1 hb; replace HB := bS HB hb; clear hb hbox hg; obtain ⟨hnbq1, hncq1⟩ := oB NBq1; obtain ⟨hczq1, hczq2, hczq3, hczq4⟩ := cz4 BKq1.out; obtain ⟨hfzq1, hfzq2, hfzq3, hfzq4⟩ := fz4 BKq1.out; obtain ⟨hczq5, hczq6⟩ := cz2 BKq2.out; obtain ⟨hfzq5, hfzq6⟩ := fz2 BKq2.out) | (go_at_call 39; (with_reducible refine (impl_BuildOk.calls ?side1 ?side2 ?side3 ?side4 Aq1.out).mono ?_); (case side1 => have X_ := (Kd.C_below an.out HB.out); exact TC); (case side2 => exact am.out); (case side3 => have X_ := (Kd.C_below ak.out HB.out); exact TC); (case side4 => exact al.out); rintro e wq3 ⟨rfl, hb⟩; replace BKq1 := mB BKq1 hb; replace BKq2 := mB BKq2 hb; replace HB := bS HB hb; clear hb))
   go_ret
   exact ⟨TE, TB⟩

end Go.Proofs.Ytaofakpljnkplaa.Q
