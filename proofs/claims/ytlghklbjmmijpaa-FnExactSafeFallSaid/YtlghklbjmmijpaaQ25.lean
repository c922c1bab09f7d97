/- Functions of the program as plain Lean functions, and that a call of each comes to what its function tells. Written by a program of this seat. -/
import Derived.Test.YtlghklbjmmijpaaQ0
import Derived.Test.YtlghklbjmmijpaaQ5
import Derived.Test.YtlghklbjmmijpaaQ20
import Derived.Test.YtlghklbjmmijpaaQ24
namespace Go.Proofs.Ytlghklbjmmijpaa.Q
open Go.RowKit Go.Proofs.YtlghklbjmmijpaaW.PrintWords Go.Proofs.YtlghklbjmmijpaaW.PrintLast Go.Proofs.YtlghklbjmmijpaaW.PrintMore
attribute [local go_sem] max2_int min2_int max_two min_two max_three min_three max_four min_four   -- for this text's walks alone
set_option linter.unusedVariables false
set_option linter.unusedSimpArgs false

/-! ### impl_Disk_96: function 96 -/
def idxDisk.f : Nat → (Nat → S33 → Option Bool) → List S33 → Int → Option Int
  | 0, _, _, _ => none
  | k + 1, p, x, i => if i < (x.length : Int) then (if 0 ≤ i then ((p k (rd_T33 x i)).bind fun t => (if t = true then (some i) else (idxDisk.f k p x (wrap64 (i + 1))))) else none) else (some (-1))
theorem idxDisk.mono (p : Nat → S33 → Option Bool) (hp : ∀ k x, LeO (p k x) (p (k + 1) x)) : ∀ k, (∀ x i, LeO (idxDisk.f k p x i) (idxDisk.f (k + 1) p x i))
  | 0 => fun _ _ r h => by simp [idxDisk.f] at h
  | k + 1 => by
    have ih0 := idxDisk.mono p hp k
    intro x i
    unfold idxDisk.f
    exact LM
set_option maxHeartbeats 4000000 in
set_option maxRecDepth 100000 in
theorem idxDisk.calls (k : Nat) (p : Nat → S33 → Option Bool) (F : FuncId) (fn : Func) (cap : Array Value) (A : Option Addr) (c : Nat) (l : List S33) (r : Int) (w : World) (hr : Kd.C k33 w A l.length l) (hc : l.length ≤ c) (hf : Try.prog.funcs[F]? = some fn) (hname : (fn.name == "runtime.NumGoroutine") = false) (hb : fn.body.isSome = true)
    (hkeep : ∀ (k : Nat) (x : S33) (t : Bool) (A0 A1 A5 : Option Addr) (c0 c1 c5 : Nat) (w' : World), Below w.heap.size w w' → Kd.C (Kd.int .u8) w' A0 x.f0.length x.f0 → x.f0.length ≤ c0 → Kd.C (Kd.int .u8) w' A1 x.f1.length x.f1 → x.f1.length ≤ c1 → Kd.C k110 w' A5 x.f3.length x.f3 → x.f3.length ≤ c5 → p k x = some t → Calls Try.prog F (#[.agg #[.slice A0 x.f0.length c0, .slice A1 x.f1.length c1, .int .i64 x.f2.f0, .int .i64 x.f2.f1, .int .i64 x.f2.f2, .slice A5 x.f3.length c5]] ++ cap) w' fun e w'' => e = .returned (.bool t) ∧ Below w'.heap.size w' w'')
    (h : idxDisk.f k p l 0 = some r) :
    Calls Try.prog 96 #[.slice A l.length c, .func (.func F) #[] cap] w fun e w' => e = .returned (.int .i64 r) ∧ Below w.heap.size w w' := by
  have hu33 := Try.underlying33
  have HR := aM (And.intro hr hc)
  have HB := aM (Below.refl w.heap.size w)
  have HN := aM hname
  have HF := aM hf
  have HY := aM hb
  have HC := aM hkeep
  have H1 := aM h
  clear hr hc hname hf hb hkeep h
  go_enter Try.func96, Try.ntmps96
  go_wp2
  go_loopg [8] k (fun kq v8 w' => ∃ (i : Int), v8 = .int .i64 i ∧ Aside0 (idxDisk.f kq p l i = some r) ∧ Aside0 (kq ≤ k) ∧ Aside0 (Below w.heap.size w w'))
  case atStart => exact ⟨0, rfl, H1, ⟨Nat.le_refl _⟩, HB⟩
  case round =>
    clear H1 HB
    obtain ⟨i, rfl, HA, HK1, HB⟩ := hrel
    cases gk with
    | zero => exact absurd HA.out (by simp [idxDisk.f])
    | succ k1 =>
      have H := HA.out
      clear HA
      simp only [idxDisk.f] at H
      by_cases c3 : i < (l.length : Int)
      · rw [if_pos c3] at H
        have c3b : decide (i < (l.length : Int)) = true := decide_eq_true c3
        replace H := ifN H
        obtain ⟨c4, H⟩ := H
        replace H := bE H
        obtain ⟨t, A5', H⟩ := H
        obtain ⟨ad, A0, c0, A1, c1, A5, c5, e0, hx0, hx1, hx2, hx3, hx4, hx5, hl0, hi0, hl1, hi1, hl5, hi5⟩ := at_T33 HR.out.1 i c4 c3
        cases e0
        replace hx0 := (HB.out.cell (World.block_lt_of_cell? w _ hx0)).trans hx0
        replace hx1 := (HB.out.cell (World.block_lt_of_cell? w _ hx1)).trans hx1
        replace hx2 := (HB.out.cell (World.block_lt_of_cell? w _ hx2)).trans hx2
        replace hx3 := (HB.out.cell (World.block_lt_of_cell? w _ hx3)).trans hx3
        replace hx4 := (HB.out.cell (World.block_lt_of_cell? w _ hx4)).trans hx4
        replace hx5 := (HB.out.cell (World.block_lt_of_cell? w _ hx5)).trans hx5
        have p0 : (0 ≤ i) = True := eq_true c4
        have q0 : (i < (l.length : Int)) = True := eq_true c3
        have c4b : decide (0 ≤ i) = true := decide_eq_true c4
        clear c3 c4
        cases t with
        | true =>
          rw [if_pos rfl] at H
          obtain rfl := Option.some.inj H
          clear H
          go_wp2_with (first | ((with_reducible refine gate_dst (N := 16) rfl ?_); refine gLv (some 16) 11 cap HF.out HN.out HY.out #[.agg #[.slice A0 (rd_T33 l i).f0.length c0, .slice A1 (rd_T33 l i).f1.length c1, .int .i64 (rd_T33 l i).f2.f0, .int .i64 (rd_T33 l i).f2.f1, .int .i64 (rd_T33 l i).f2.f2, .slice A5 (rd_T33 l i).f3.length c5]] ?_; refine (HC.out _ (rd_T33 l i) true _ _ _ _ _ _ _ HB.out (Kd.C_below hi0 HB.out) hl0 (Kd.C_below hi1 HB.out) hl1 (Kd.C_below hi5 HB.out) hl5 A5'.out).mono ?_; rintro e_ w8 ⟨rfl, hb⟩; refine ⟨_, rfl, ?_⟩; replace HB := aM (below_step HB.out hb); clear hb hx0 hx1 hx2 hx3 hx4 hx5; (simp only [Act.put, List.setIfInBounds_toArray, List.set_cons_zero, List.set_cons_succ])))
          go_ret
          exact ⟨rfl, HB.out⟩
        | false =>
          rw [if_neg (by decide)] at H
          have H' := aM H
          clear H
          go_wp2_with (first | ((with_reducible refine gate_dst (N := 16) rfl ?_); refine gLv (some 16) 11 cap HF.out HN.out HY.out #[.agg #[.slice A0 (rd_T33 l i).f0.length c0, .slice A1 (rd_T33 l i).f1.length c1, .int .i64 (rd_T33 l i).f2.f0, .int .i64 (rd_T33 l i).f2.f1, .int .i64 (rd_T33 l i).f2.f2, .slice A5 (rd_T33 l i).f3.length c5]] ?_; refine (HC.out _ (rd_T33 l i) false _ _ _ _ _ _ _ HB.out (Kd.C_below hi0 HB.out) hl0 (Kd.C_below hi1 HB.out) hl1 (Kd.C_below hi5 HB.out) hl5 A5'.out).mono ?_; rintro e_ w8 ⟨rfl, hb⟩; refine ⟨_, rfl, ?_⟩; replace HB := aM (below_step HB.out hb); clear hb hx0 hx1 hx2 hx3 hx4 hx5; (simp only [Act.put, List.setIfInBounds_toArray, List.set_cons_zero, List.set_cons_succ])))
          go_roundg k1
          case measure => have := HK1.out; omega
          case rel => exact ⟨_, rfl, H', ⟨by have := HK1.out; omega⟩, HB⟩
      · rw [if_neg c3] at H
        have c3b : decide (i < (l.length : Int)) = false := decide_eq_false c3
        clear c3
        obtain rfl := Option.some.inj H
        clear H
        go_wp2
        go_ret
        exact ⟨rfl, HB.out⟩

/-! ### impl_Disk_44: function 44 -/
def anyDisk.f (k : Nat) (p : Nat → S33 → Option Bool) (x : List S33) : Option Bool := (idxDisk.f k p x 0).bind fun t => some (decide (t ≥ 0))
theorem anyDisk.mono (p : Nat → S33 → Option Bool) (hp : ∀ k x, LeO (p k x) (p (k + 1) x)) : ∀ x k, LeO (anyDisk.f k p x) (anyDisk.f (k + 1) p x) := by
  intro x k
  have ih0 := idxDisk.mono p hp k
  unfold anyDisk.f
  exact LM
set_option maxHeartbeats 4000000 in
set_option maxRecDepth 100000 in
theorem anyDisk.calls (k : Nat) (p : Nat → S33 → Option Bool) (F : FuncId) (fn : Func) (cap : Array Value) (A : Option Addr) (c : Nat) (l : List S33) (r : Bool) (w : World) (hr : Kd.C k33 w A l.length l) (hc : l.length ≤ c) (hf : Try.prog.funcs[F]? = some fn) (hname : (fn.name == "runtime.NumGoroutine") = false) (hb : fn.body.isSome = true)
    (hkeep : ∀ (k : Nat) (x : S33) (t : Bool) (A0 A1 A5 : Option Addr) (c0 c1 c5 : Nat) (w' : World), Below w.heap.size w w' → Kd.C (Kd.int .u8) w' A0 x.f0.length x.f0 → x.f0.length ≤ c0 → Kd.C (Kd.int .u8) w' A1 x.f1.length x.f1 → x.f1.length ≤ c1 → Kd.C k110 w' A5 x.f3.length x.f3 → x.f3.length ≤ c5 → p k x = some t → Calls Try.prog F (#[.agg #[.slice A0 x.f0.length c0, .slice A1 x.f1.length c1, .int .i64 x.f2.f0, .int .i64 x.f2.f1, .int .i64 x.f2.f2, .slice A5 x.f3.length c5]] ++ cap) w' fun e w'' => e = .returned (.bool t) ∧ Below w'.heap.size w' w'')
    (h : anyDisk.f k p l = some r) :
    Calls Try.prog 44 #[.slice A l.length c, .func (.func F) #[] cap] w fun e w' => e = .returned (.bool r) ∧ Below w.heap.size w w' := by
  have H := h
  clear h
  unfold anyDisk.f at H
  replace H := bE H
  obtain ⟨t, A3, H⟩ := H
  obtain rfl := Option.some.inj H
  clear H
  go_enter Try.func44, Try.ntmps44
  go_wp2_with (first | ((with_reducible refine gate_callee (f := 96) rfl ?_); refine gL (some 7) Try.func96 #[.slice A l.length c, .func (.func F) #[] cap] ?_; refine (idxDisk.calls k p F fn cap A c l t _ hr hc hf hname hb hkeep A3.out).mono ?_; rintro e w' ⟨rfl, hb'⟩; refine ⟨_, rfl, ?_⟩; have HB := aM hb'; clear hb'))
  go_ret
  exact ⟨rfl, HB.out⟩

/-! ### impl_Fall_1: function 83 -/
theorem impl_Fall_1.calls (g : Nat) (a1 a0 : Int) (r : Bool) (w : World) (hb : w.heap[g]? = some (.cells #[.int .i64 a1] 3 (0, 0))) (h : impl_InSet.f a1 a0 = some r) :
    Calls Try.prog 83 #[.int .i64 a0, .pointer (some ⟨g, 0, none⟩)] w fun e w' => e = .returned (.bool r) ∧ Drawn0 w w' := by
  have H := aM h
  have hc : w.cell? ⟨g, 0, none⟩ = some (.int .i64 a1) := (blk_cell hb 0).trans rfl
  clear h hb
  go_enter Try.func83, Try.ntmps83
  go_wp2_with (first | ((with_reducible refine gate_callee (f := 84) rfl ?_); refine gL (some 6) Try.func84 #[.int .i64 a1, .int .i64 a0] ?_; refine (impl_InSet.calls a1 a0 r _ H.out).mono ?_; rintro e w' ⟨rfl, hd⟩; refine ⟨_, rfl, ?_⟩; have HD := aM hd; clear hd))
  go_ret
  exact ⟨rfl, HD.out⟩

/-! ### impl_Fall: function 29 -/
def impl_Fall.f (k : Nat) (l0_0 : List Int) (l0_1 : List Int) (a0_2 : Int) (a0_3 : Int) (a0_4 : Int) (l0_5 : List S110) (a1 : Int) : Option (List Int × List Int × Int × Int × Int × List S110) := impl_Disk_settled.f k (fun _ i => impl_InSet.f a1 i) l0_0 l0_1 a0_2 a0_3 a0_4 l0_5
theorem impl_Fall.mono : ∀ y0 y1 y2 y3 y4 y5 y6 k, LeO (impl_Fall.f k y0 y1 y2 y3 y4 y5 y6) (impl_Fall.f (k + 1) y0 y1 y2 y3 y4 y5 y6) := by
  intro y0 y1 y2 y3 y4 y5 y6 k
  exact impl_Disk_settled.mono (fun _ i => impl_InSet.f y6 i) (fun _ _ _ h => h) y0 y1 y2 y3 y4 y5 k
set_option maxHeartbeats 4000000 in
set_option maxRecDepth 100000 in
theorem impl_Fall.calls (k : Nat) (A0_0 : Option Addr) (c0_0 : Nat) (l0_0 : List Int) (A0_1 : Option Addr) (c0_1 : Nat) (l0_1 : List Int) (a0_2 : Int) (a0_3 : Int) (a0_4 : Int) (A0_5 : Option Addr) (c0_5 : Nat) (l0_5 : List (S110)) (a1 : Int) (r1 : List Int) (r2 : List Int) (r3 : Int) (r4 : Int) (r5 : Int) (r6 : List (S110)) (w : World) (hr0_0 : Kd.C (Kd.int .u8) w A0_0 l0_0.length l0_0) (hc0_0 : l0_0.length ≤ c0_0) (hr0_1 : Kd.C (Kd.int .u8) w A0_1 l0_1.length l0_1) (hc0_1 : l0_1.length ≤ c0_1) (hr0_5 : Kd.C k110 w A0_5 l0_5.length l0_5) (hc0_5 : l0_5.length ≤ c0_5) (h : impl_Fall.f k l0_0 l0_1 a0_2 a0_3 a0_4 l0_5 a1 = some (r1, r2, r3, r4, r5, r6)) :
    Calls Try.prog 29 #[.agg #[.slice A0_0 l0_0.length c0_0, .slice A0_1 l0_1.length c0_1, .int .i64 a0_2, .int .i64 a0_3, .int .i64 a0_4, .slice A0_5 l0_5.length c0_5], .int .i64 a1] w fun e w' => ∃ v0_ v1_ v5_ : Value, e = .returned (.agg #[v0_, v1_, .int .i64 r3, .int .i64 r4, .int .i64 r5, v5_]) ∧ Kd.R (Kd.int .u8) 5 w' w.heap.size (fun k_ => some k_ ≠ (v1_ : Value).ownBlock) v0_ r1 ∧ Kd.R (Kd.int .u8) 5 w' w.heap.size (fun k_ => some k_ ≠ (v0_ : Value).ownBlock) v1_ r2 ∧ Kd.S k110 110 w' w.heap.size (fun k_ => some k_ ≠ (v0_ : Value).ownBlock ∧ some k_ ≠ (v1_ : Value).ownBlock) v5_ r6 ∧ Below w.heap.size w w' := by
  have hu33 := Try.underlying33
  have HR0 := aM (And.intro hr0_0 hc0_0)
  have HR1 := aM (And.intro hr0_1 hc0_1)
  have HR5 := aM (And.intro hr0_5 hc0_5)
  have HB := aM (Below.refl w.heap.size w)
  have H1 := aM (show impl_Disk_settled.f k (fun _ i => impl_InSet.f a1 i) l0_0 l0_1 a0_2 a0_3 a0_4 l0_5 = some (r1, r2, r3, r4, r5, r6) from h)
  clear hr0_0 hc0_0 hr0_1 hc0_1 hr0_5 hc0_5 h
  go_enter Try.func29, Try.ntmps29
  go_wp2_with (first | ((with_reducible refine gate_dst (N := 2) rfl ?_); refine gBx 2 #[.slice A0_0 l0_0.length c0_0, .slice A0_1 l0_1.length c0_1, .int .i64 a0_2, .int .i64 a0_3, .int .i64 a0_4, .slice A0_5 l0_5.length c0_5] 33 ?_; intro g2 hg w2 hbox hb; have B2 := aM hbox; replace HB := aM (below_step HB.out hb); clear hb hbox hg; (simp only [Act.put, List.setIfInBounds_toArray, List.set_cons_zero, List.set_cons_succ])) | ((with_reducible refine gate_dst (N := 3) rfl ?_); refine gBx 3 #[.int .i64 a1] 3 ?_; intro g3 hg w2 hbox hb; have B3 := aM hbox; replace B2 := aM (blk_below B2.out hb); replace HB := aM (below_step HB.out hb); clear hb hbox hg; (simp only [Act.put, List.setIfInBounds_toArray, List.set_cons_zero, List.set_cons_succ])) | ((with_reducible refine gate_dst (N := 4) rfl ?_); refine gBx 4 #[.slice none 0 0, .slice none 0 0, .int .i64 0, .int .i64 0, .int .i64 0, .slice none 0 0] 33 ?_; intro g4 hg w2 hbox hb; have B4 := aM hbox; have HG4 := aM (show w.heap.size ≤ g4 by rw [hg]; exact HB.out.size); replace B2 := aM (blk_below B2.out hb); replace B3 := aM (blk_below B3.out hb); replace HB := aM (below_step HB.out hb); clear hb hbox hg; (simp only [Act.put, List.setIfInBounds_toArray, List.set_cons_zero, List.set_cons_succ])) | ((with_reducible refine gate_dst (N := 5) rfl ?_); refine gLd 5 B2.out ?_; (simp only [Act.put, List.setIfInBounds_toArray, List.set_cons_zero, List.set_cons_succ])) | ((with_reducible refine gate_callee (f := 66) rfl ?_); refine gL (some 7) Try.func66 #[.agg #[.slice A0_0 l0_0.length c0_0, .slice A0_1 l0_1.length c0_1, .int .i64 a0_2, .int .i64 a0_3, .int .i64 a0_4, .slice A0_5 l0_5.length c0_5], .func (.func 83) #[] #[.pointer (some ⟨g3, 0, none⟩)]] ?_; refine (impl_Disk_settled.calls k (fun _ i => impl_InSet.f a1 i) 83 Try.f83 #[.pointer (some ⟨g3, 0, none⟩)] _ _ l0_0 _ _ l0_1 a0_2 a0_3 a0_4 _ _ l0_5 r1 r2 r3 r4 r5 r6 _ (Kd.C_below HR0.out.1 HB.out) HR0.out.2 (Kd.C_below HR1.out.1 HB.out) HR1.out.2 (Kd.C_below HR5.out.1 HB.out) HR5.out.2 Try.func83 (by kernel_rfl) rfl (fun _ i t w' hb' ht => calls_of_args (by rfl) ((impl_Fall_1.calls g3 a1 i t w' (blk_below B3.out hb') ht).mono (fun e w2 q => ⟨q.1, q.2.below⟩))) H1.out).mono ?_; rintro e w5 ⟨vA, vB, vP, rfl, ho1, ho2, ho3, hb⟩; refine ⟨_, rfl, ?_⟩; have HD := aM (show Dsk w5 w.heap.size vA vB vP r1 r2 r6 from ⟨Kd.R_lower ho1 HB.out.size, Kd.R_lower ho2 HB.out.size, Kd.S_lower ho3 HB.out.size⟩); replace B4 := aM (blk_below B4.out hb); replace HB := aM (below_step HB.out hb); clear ho1 ho2 ho3 hb; obtain ⟨A1', c1', h1'⟩ := Kd.R_slice HD.out.1; subst h1'; obtain ⟨A2', c2', h2'⟩ := Kd.R_slice HD.out.2.1; subst h2'; obtain ⟨A3', c3', h3'⟩ := Kd.S_slice HD.out.2.2; subst h3'; (simp only [Act.put, List.setIfInBounds_toArray, List.set_cons_zero, List.set_cons_succ])) | ((with_reducible refine gate_store (t := 33) (p := 4) rfl ?_); refine gSt [.slice A1' r1.length c1', .slice A2' r2.length c2', .int .i64 r3, .int .i64 r4, .int .i64 r5, .slice A3' r6.length c3'] #[.slice A1' r1.length c1', .slice A2' r2.length c2', .int .i64 r3, .int .i64 r4, .int .i64 r5, .slice A3' r6.length c3'] B4.out ?_; intro w10 hw hbox; replace HD := aM (HD.out.off B4.out hw); replace B4 := aM hbox; replace HB := aM (hw.below HB.out HG4.out); clear hw hbox))
  refine bodyPost_ret (results_cell_row rfl _ _ g4 33 _ (0, 0) _ rfl B4.out hu33 rfl (by kernel_rfl)) rfl ?_
  exact ⟨_, _, _, rfl, HD.out.1, HD.out.2.1, HD.out.2.2, HB.out⟩

/-! ### impl_AllFalls: function 45 -/
def impl_AllFalls.l0 : Nat → List (S33) → Int → Int → List Int → List Int → Int → Int → Int → List (S110) → Option ((List (S33)))
  | 0, _, _, _, _, _, _, _, _, _ => none
  | k + 1, x3, x10, x11, x369000, x369001, x369002, x369003, x369004, x369005 => if x11 < x10 then ((impl_Fall.f k x369000 x369001 x369002 x369003 x369004 x369005 x11).bind fun bt372 => (if x3.length < 1466015503701 then (impl_AllFalls.l0 k (x3 ++ [(⟨bt372.1, bt372.2.1, (⟨bt372.2.2.1, bt372.2.2.2.1, bt372.2.2.2.2.1⟩ : S30), bt372.2.2.2.2.2⟩ : S33)]) x10 (wrap64 (x11 + 1)) x369000 x369001 x369002 x369003 x369004 x369005) else (none))) else (some x3)
def impl_AllFalls.f (k : Nat) (l0_0 : List Int) (l0_1 : List Int) (a0_2 : Int) (a0_3 : Int) (a0_4 : Int) (l0_5 : List (S110)) : Option ((List (S33))) := impl_AllFalls.l0 k (([] : List (S33))) (wrap64 (2 ^ (mn 6 (l0_5.length : Int)).toNat)) 0 l0_0 l0_1 a0_2 a0_3 a0_4 l0_5
theorem impl_AllFalls.mono_l : ∀ k, (∀ y0 y1 y2 y3 y4 y5 y6 y7 y8, LeO (impl_AllFalls.l0 k y0 y1 y2 y3 y4 y5 y6 y7 y8) (impl_AllFalls.l0 (k + 1) y0 y1 y2 y3 y4 y5 y6 y7 y8))
  | 0 => fun _ _ _ _ _ _ _ _ _ r h => by simp [impl_AllFalls.l0] at h
  | k + 1 => by
    have m0_ := @impl_Fall.mono
    have ih0 := impl_AllFalls.mono_l k
    · intro y0 y1 y2 y3 y4 y5 y6 y7 y8
      unfold impl_AllFalls.l0
      exact LM
theorem impl_AllFalls.mono : ∀ a0 a1 a2 a3 a4 a5 k, LeO (impl_AllFalls.f k a0 a1 a2 a3 a4 a5) (impl_AllFalls.f (k + 1) a0 a1 a2 a3 a4 a5) := by
  intro a0 a1 a2 a3 a4 a5 k
  have m0_ := @impl_Fall.mono
  have ih0 := impl_AllFalls.mono_l k
  unfold impl_AllFalls.f
  exact LM
set_option maxHeartbeats 40000000 in
set_option maxRecDepth 100000 in
theorem impl_AllFalls.calls (k : Nat) (A0_0 : Option Addr) (c0_0 : Nat) (l0_0 : List Int) (A0_1 : Option Addr) (c0_1 : Nat) (l0_1 : List Int) (a0_2 : Int) (a0_3 : Int) (a0_4 : Int) (A0_5 : Option Addr) (c0_5 : Nat) (l0_5 : List (S110)) (r : List (S33)) (w : World) (hr0_0 : Kd.C (Kd.int .u8) w A0_0 l0_0.length l0_0) (hc0_0 : l0_0.length ≤ c0_0) (hr0_1 : Kd.C (Kd.int .u8) w A0_1 l0_1.length l0_1) (hc0_1 : l0_1.length ≤ c0_1) (hr0_5 : Kd.C k110 w A0_5 l0_5.length l0_5) (hc0_5 : l0_5.length ≤ c0_5) (h : impl_AllFalls.f k l0_0 l0_1 a0_2 a0_3 a0_4 l0_5 = some r) :
    Calls Try.prog 45 #[.agg #[.slice A0_0 l0_0.length c0_0, .slice A0_1 l0_1.length c0_1, .int .i64 a0_2, .int .i64 a0_3, .int .i64 a0_4, .slice A0_5 l0_5.length c0_5]] w fun e w' => ∃ v0_ : Value, e = .returned (v0_) ∧ Kd.R k33 33 w' w.heap.size (fun _ => True) v0_ r ∧ Below w.heap.size w w' := by
  have hu33 := Try.underlying33
  have HR0_0 := aM hr0_0
  have HC0_0 := aM hc0_0
  clear hr0_0 hc0_0
  have HR0_1 := aM hr0_1
  have HC0_1 := aM hc0_1
  clear hr0_1 hc0_1
  have HR0_5 := aM hr0_5
  have HC0_5 := aM hc0_5
  clear hr0_5 hc0_5
  have HB := aM (Below.refl w.heap.size w)
  have H := h
  clear h
  unfold impl_AllFalls.f at H
  obtain ⟨y369, hy369⟩ : ∃ y_ : List (S33), y_ = (([] : List (S33))) := ⟨_, rfl⟩
  rw [← hy369] at H
  have Ny369 := aM hy369
  clear hy369
  obtain ⟨ji2, hji2⟩ : ∃ j_ : Int, (mn 6 (l0_5.length : Int)) = j_ := ⟨_, rfl⟩
  (first | rw [hji2] at H | simp only [hji2] at H | skip)
  (try (have hji2h : ji2 ≤ 6 := by (rw [← hji2]; unfold mn; (repeat' split) <;> omega)))
  (try (have hji2g : ji2 ≤ 64 := by omega))
  (try (have hji2l : 0 ≤ ji2 := by (rw [← hji2]; unfold mn; (repeat' split) <;> omega)))
  (try (have hji2m : 0 ≤ ji2 := by omega))
  have hji2_ : (if (l0_5.length : Int) < 6 then (l0_5.length : Int) else 6) = ji2 := hji2
  have H' := aM H
  clear H
  go_enter Try.func45, Try.ntmps45
  go_wp2_with (first | ((with_reducible refine gate_dst (N := 1) rfl ?_); refine gBx 1 #[.slice A0_0 l0_0.length c0_0, .slice A0_1 l0_1.length c0_1, .int .i64 a0_2, .int .i64 a0_3, .int .i64 a0_4, .slice A0_5 l0_5.length c0_5] 33 ?_; intro gb368 hg w3 hbox hb; have BK368 := aM (hbox); have GW368 := aM ((by rw [hg]; exact (below_size TB) : w.heap.size ≤ gb368)); have GE368 := aM ((by rw [hg]; exact (below_size TB) : w.heap.size ≤ gb368)); replace HB := aM (below_step TB hb); clear hb hbox hg) | ((with_reducible refine gate_dst (N := 5) rfl ?_); refine Kd.R_lit k33 _ 33 ?hg (N := 5) ?hd (xs := ([] : List (S33))) (inner := []) (ok := fun _ => True) (okp := fun _ => True) ?hr ?hp (fun _ hk => hk) trivial (Below.refl _ _) (Nat.le_refl _) (by simp) ?_; (case hd => rfl); (case hg => rfl); (case hr => first | (go_simp; done) | (go_simp; rfl)); (case hp => exact (Reps.none _ _)); intro v370 w4 ho5 hb hg_ hnew_; clear hg_ hnew_; (first | rw [← Ny369.out] at ho5 | (simp only [Int.reduceToNat] at ho5; rw [← Ny369.out] at ho5)); have HO371 := aM (Kd.R_lower (Kd.R_newB ho5 (g := gb368) (o := .cells #[.slice A0_0 l0_0.length c0_0, .slice A0_1 l0_1.length c0_1, .int .i64 a0_2, .int .i64 a0_3, .int .i64 a0_4, .slice A0_5 l0_5.length c0_5] 33 (0, 0)) TK) (below_size TB)); replace BK368 := aM (blk_below (by have X_ := BK368.out; exact TX) hb); replace HB := aM (below_step TB hb); clear hb ho5; obtain ⟨hcz6_0, hcz6_1, hcz6_2, hcz6_3, hcz6_4, hcz6_5⟩ := cz6 BK368.out; obtain ⟨hfz6_0, hfz6_1, hfz6_2, hfz6_3, hfz6_4, hfz6_5⟩ := fz6 BK368.out))
  go_loopg [3, 11] k (fun kq v3 v11 w' => ∃ (x3_1 : List (S33)) (x11_1 : Int), v11 = .int .i64 x11_1 ∧ Aside0 (impl_AllFalls.l0 kq x3_1 (wrap64 (2 ^ (ji2).toNat)) x11_1 l0_0 l0_1 a0_2 a0_3 a0_4 l0_5 = some r) ∧ Aside0 (kq ≤ k) ∧ Aside0 (Kd.R k33 33 w' w.heap.size (fun k_ => k_ ≠ gb368) v3 x3_1) ∧ Aside0 (w'.heap[gb368]? = some (.cells #[(.slice A0_0 l0_0.length c0_0), (.slice A0_1 l0_1.length c0_1), .int .i64 a0_2, .int .i64 a0_3, .int .i64 a0_4, (.slice A0_5 l0_5.length c0_5)] 33 (0, 0))) ∧ Aside0 (Below w.heap.size w w'))
  case atStart => exact ⟨(y369), (0), (by first | rfl | (simp; done) | (simp [*]; done)), H', ⟨Nat.le_refl _⟩, ⟨by (with_reducible repeat (first | apply Kd.R_alloc | apply Kd.R_drewN | apply Kd.R_drew)); exact Kd.R_mono HO371.out (fun _ hk => hk.2)⟩, ⟨TK⟩, ⟨TB⟩⟩
  case round =>
    clear H'
    try clear p2
    try clear c4
    try clear p6
    try clear hcz6_0
    try clear hcz6_1
    try clear hcz6_2
    try clear hcz6_3
    try clear hcz6_4
    try clear hcz6_5
    try clear hfz6_0
    try clear hfz6_1
    try clear hfz6_2
    try clear hfz6_3
    try clear hfz6_4
    try clear hfz6_5
    obtain ⟨x3_1, x11_1, rfl, HA, HK1, HO_3, BK368, HB⟩ := hrel
    cases gk with
    | zero => exact absurd HA.out (by simp [impl_AllFalls.l0])
    | succ k1 =>
      have H := HA.out
      clear HA
      simp only [impl_AllFalls.l0] at H
      by_cases c7 : x11_1 < (wrap64 (2 ^ (ji2).toNat))
      · rw [if_pos c7] at H
        have c7b0 : decide (x11_1 < (wrap64 (2 ^ (ji2).toNat))) = true := decide_eq_true c7
        clear c7
        replace H := bE H
        obtain ⟨⟨t372, t375, t378, t379, t380, t381⟩, A8, H⟩ := H
        dsimp only at H
        replace H := ifN H
        obtain ⟨c9, H⟩ := H
        have LMc9 := aM c9
        clear c9
        obtain ⟨y384, hy384⟩ : ∃ y_ : List (S33), y_ = (x3_1 ++ [(⟨t372, t375, (⟨t378, t379, t380⟩ : S30), t381⟩ : S33)]) := ⟨_, rfl⟩
        rw [← hy384] at H
        have Ny384 := aM hy384
        clear hy384
        have H' := aM H
        clear H
        obtain ⟨hcz10_0, hcz10_1, hcz10_2, hcz10_3, hcz10_4, hcz10_5⟩ := cz6 BK368.out
        obtain ⟨hfz10_0, hfz10_1, hfz10_2, hfz10_3, hfz10_4, hfz10_5⟩ := fz6 BK368.out
        go_wp2_with (first | ((with_reducible refine gate_callee (f := 29) rfl ?_); refine gL (some 17) Try.func29 #[.agg #[.slice A0_0 l0_0.length c0_0, .slice A0_1 l0_1.length c0_1, .int .i64 a0_2, .int .i64 a0_3, .int .i64 a0_4, .slice A0_5 l0_5.length c0_5], .int .i64 x11_1] ?_; (with_reducible refine (impl_Fall.calls k1 _ _ l0_0 _ _ l0_1 a0_2 a0_3 a0_4 _ _ l0_5 x11_1 t372 t375 t378 t379 t380 t381 _ ?side1 ?side2 ?side3 ?side4 ?side5 ?side6 A8.out).mono ?_); (case side1 => have X_ := (Kd.C_below HR0_0.out HB.out); exact TC); (case side2 => exact HC0_0.out); (case side3 => have X_ := (Kd.C_below HR0_1.out HB.out); exact TC); (case side4 => exact HC0_1.out); (case side5 => have X_ := (Kd.C_below HR0_5.out HB.out); exact TC); (case side6 => exact HC0_5.out); rintro e w11 ⟨v373, v376, v382, rfl, ho0, ho1, ho2, hb⟩; refine ⟨_, rfl, ?_⟩; have HO374 := aM (Kd.R_lower ho0 (below_size TB)); have HO377 := aM (Kd.R_lower ho1 (below_size TB)); have HO383 := aM (Kd.S_lower ho2 (below_size TB)); replace HO_3 := aM (Kd.R_mono (Kd.R_told (Kd.R_told (Kd.R_told (Kd.R_old (by have X_ := HO_3.out; exact TR) hb) (Kd.R_base ho0)) (Kd.R_base ho1)) (Kd.S_base ho2)) (fun _ h_ => h_.1)); replace BK368 := aM (blk_below (by have X_ := BK368.out; exact TX) hb); replace HB := aM (below_step TB hb); clear ho0 ho1 ho2 hb; obtain ⟨Ao13, co13, eo13⟩ := Kd.R_slice HO374.out; subst eo13; obtain ⟨Ao14, co14, eo14⟩ := Kd.R_slice HO377.out; subst eo14; obtain ⟨Ao15, co15, eo15⟩ := Kd.S_slice HO383.out; subst eo15) | ((with_reducible refine gate_builtin (b := .append) (xs := #[.tmp 14, .tmp 18]) rfl ?_); at_builtin; refine Kd.R_append k33 (w0 := w) w.heap.size rfl (.tmp 14) (.tmp 18) 70 33 (.agg #[(.slice none 0 0), (.slice none 0 0), (.int .i64 0), (.int .i64 0), (.int .i64 0), (.slice none 0 0)]) 96 rfl Try.underlying70 info33 rfl (by decide) (by omega) u3 x3_1 (⟨t372, t375, (⟨t378, t379, t380⟩ : S30), t381⟩ : S33) [.slice Ao13 t372.length co13, .slice Ao14 t375.length co14, .int .i64 t378, .int .i64 t379, .int .i64 t380, .slice Ao15 t381.length co15] (fun k_ => k_ ≠ gb368) (fun k_ => ((fun k_ => k_ ≠ gb368)) k_ ∧ some k_ ≠ (u3 : Value).ownBlock) rfl rfl ?aP (fun _ hk => hk) ?aF ?aO ?aB ?aS ?aL ?_; (case aP => exact k33_mkM _ _ _ (⟨t372, t375, (⟨t378, t379, t380⟩ : S30), t381⟩ : S33) (Kd.R_mono (Kd.R_types (Kd.R_apart' (HO374.out) (Kd.R_typed HO_3.out) (by decide)) BK368.out (by decide)) (fun k_ hk => ⟨hk.2, hk.1.2⟩)) (Kd.R_mono (Kd.R_types (Kd.R_apart' (HO377.out) (Kd.R_typed HO_3.out) (by decide)) BK368.out (by decide)) (fun k_ hk => ⟨hk.2, hk.1.2⟩)) (Kd.R_mono (Kd.R_types (Kd.R_apart' ((Kd.S_R HO383.out)) (Kd.R_typed HO_3.out) (by decide)) BK368.out (by decide)) (fun k_ hk => ⟨hk.2, hk.1.2⟩))); (case aB => exact TB); (case aF => exact (fun k_ hk => Kd.freshB (g := gb368) (o := .cells #[.slice A0_0 l0_0.length c0_0, .slice A0_1 l0_1.length c0_1, .int .i64 a0_2, .int .i64 a0_3, .int .i64 a0_4, .slice A0_5 l0_5.length c0_5] 33 (0, 0)) TK k_ hk)); (case aO => exact (by (with_reducible repeat (first | apply Kd.R_alloc | apply Kd.R_drewN | apply Kd.R_drew)); exact Kd.R_mono HO_3.out (fun _ hk => hk.1.1.1))); (case aS => exact (below_size TB)); (case aL => have := LMc9.out; omega); intro v385 w12 ho hb hg hat; rw [← Ny384.out] at ho; have HO386 := aM (ho); replace BK368 := aM (blk_grown (g := gb368) (o := .cells #[.slice A0_0 l0_0.length c0_0, .slice A0_1 l0_1.length c0_1, .int .i64 a0_2, .int .i64 a0_3, .int .i64 a0_4, .slice A0_5 l0_5.length c0_5] 33 (0, 0)) TK hg (Kd.R_away HO_3.out (fun _ hk => hk.1.1.1))); replace HB := aM (hb); clear HO_3; clear HO374; clear HO377; clear HO383; clear ho hb hg hat))
        go_roundg k1
        case measure => have := HK1.out; omega
        case rel => exact ⟨(y384), (wrap64 (x11_1 + 1)), (by first | rfl | (simp; done) | (simp [*]; done)), H', ⟨by have := HK1.out; omega⟩, ⟨by have X_ := HO386.out; exact TR⟩, ⟨TK⟩, ⟨TB⟩⟩
      · rw [if_neg c7] at H
        have c7b0 : decide (x11_1 < (wrap64 (2 ^ (ji2).toNat))) = false := decide_eq_false c7
        clear c7
        obtain rfl := Option.some.inj H
        go_wp2
        go_ret
        exact ⟨_, by first | rfl | (simp [errW_none, errW_some] <;> rfl) | (simp only [← hji2]; first | rfl | (simp [errW_none, errW_some] <;> rfl)) | (simp [*, errW_none, errW_some] <;> rfl), by (with_reducible repeat (first | apply Kd.R_alloc | apply Kd.R_drewN | apply Kd.R_drew)); exact Kd.R_mono HO_3.out (fun _ hk => trivial), TB⟩

/-! ### impl_SafeFall_1: function 46 -/
def impl_SafeFall_1.f (k : Nat) (x : S33) (l1 : List Int) (a2 : Int) (l3 : List Int) : Option Bool := (impl_HoldsAny.f k x.f0 x.f1 x.f2.f0 x.f2.f1 x.f2.f2 x.f3 l1 a2 l3).bind fun t => some (!t)
theorem impl_SafeFall_1.mono : ∀ x l1 a2 l3 k, LeO (impl_SafeFall_1.f k x l1 a2 l3) (impl_SafeFall_1.f (k + 1) x l1 a2 l3) := by
  intro x l1 a2 l3 k
  have m0_ := @impl_HoldsAny.mono
  unfold impl_SafeFall_1.f
  exact LM
set_option maxHeartbeats 4000000 in
set_option maxRecDepth 100000 in
theorem impl_SafeFall_1.calls (k : Nat) (g1 g2 g3 : Nat) (x : S33) (A0 A1 A5 : Option Addr) (c0 c1 c5 : Nat) (B1 : Option Addr) (d1 : Nat) (l1 : List Int) (a2 : Int) (B3 : Option Addr) (d3 : Nat) (l3 : List Int) (r : Bool) (w : World) (hx0 : Kd.C (Kd.int .u8) w A0 x.f0.length x.f0) (hl0 : x.f0.length ≤ c0) (hx1 : Kd.C (Kd.int .u8) w A1 x.f1.length x.f1) (hl1 : x.f1.length ≤ c1) (hx5 : Kd.C k110 w A5 x.f3.length x.f3) (hl5 : x.f3.length ≤ c5) (hr1 : Kd.C (Kd.int .u8) w B1 l1.length l1) (hd1 : l1.length ≤ d1) (hr3 : Kd.C (Kd.int .u8) w B3 l3.length l3) (hd3 : l3.length ≤ d3) (hb1 : w.heap[g1]? = some (.cells #[.slice B1 l1.length d1] 22 (0, 0))) (hb2 : w.heap[g2]? = some (.cells #[.int .i64 a2] 3 (0, 0))) (hb3 : w.heap[g3]? = some (.cells #[.slice B3 l3.length d3] 22 (0, 0))) (h : impl_SafeFall_1.f k x l1 a2 l3 = some r) :
  Calls Try.prog 46 (#[.agg #[.slice A0 x.f0.length c0, .slice A1 x.f1.length c1, .int .i64 x.f2.f0, .int .i64 x.f2.f1, .int .i64 x.f2.f2, .slice A5 x.f3.length c5]] ++ #[.pointer (some ⟨g1, 0, none⟩), .pointer (some ⟨g2, 0, none⟩), .pointer (some ⟨g3, 0, none⟩)]) w fun e w' => e = .returned (.bool r) ∧ Below w.heap.size w w' := by
 have hu33 := Try.underlying33
 have HB := aM (Below.refl w.heap.size w)
 have H := h
 clear h
 unfold impl_SafeFall_1.f at H
 replace H := bE H
 obtain ⟨t, A3, H⟩ := H
 obtain rfl := Option.some.inj H
 clear H
 refine calls_of_args (args' := #[.agg #[.slice A0 x.f0.length c0, .slice A1 x.f1.length c1, .int .i64 x.f2.f0, .int .i64 x.f2.f1, .int .i64 x.f2.f2, .slice A5 x.f3.length c5], .pointer (some ⟨g1, 0, none⟩), .pointer (some ⟨g2, 0, none⟩), .pointer (some ⟨g3, 0, none⟩)]) (by rfl) ?_
 go_enter Try.func46, Try.ntmps46
 go_wp2_with (first | ((with_reducible refine gate_dst (N := 4) rfl ?_); refine gBx 4 #[.slice A0 x.f0.length c0, .slice A1 x.f1.length c1, .int .i64 x.f2.f0, .int .i64 x.f2.f1, .int .i64 x.f2.f2, .slice A5 x.f3.length c5] 33 ?_; intro g4 hg w2 hbox hb; have B4 := aM hbox; replace HB := aM (below_step HB.out hb); have hc1 : w2.cell? ⟨g1, 0, none⟩ = some (.slice B1 l1.length d1) := (blk_cell (blk_below hb1 hb) 0).trans rfl; have hc2 : w2.cell? ⟨g2, 0, none⟩ = some (.int .i64 a2) := (blk_cell (blk_below hb2 hb) 0).trans rfl; have hc3 : w2.cell? ⟨g3, 0, none⟩ = some (.slice B3 l3.length d3) := (blk_cell (blk_below hb3 hb) 0).trans rfl; clear hb hbox hg; (simp only [Act.put, List.setIfInBounds_toArray, List.set_cons_zero, List.set_cons_succ])) | ((with_reducible refine gate_dst (N := 6) rfl ?_); refine gLd 6 B4.out ?_; (simp only [Act.put, List.setIfInBounds_toArray, List.set_cons_zero, List.set_cons_succ])) | ((with_reducible refine gate_callee (f := 31) rfl ?_); refine gL (some 10) Try.func31 #[.agg #[.slice A0 x.f0.length c0, .slice A1 x.f1.length c1, .int .i64 x.f2.f0, .int .i64 x.f2.f1, .int .i64 x.f2.f2, .slice A5 x.f3.length c5], .slice B1 l1.length d1, .int .i64 a2, .slice B3 l3.length d3] ?_; refine (impl_HoldsAny.calls k _ _ x.f0 _ _ x.f1 x.f2.f0 x.f2.f1 x.f2.f2 _ _ x.f3 _ _ l1 a2 _ _ l3 t _ (Kd.C_below hx0 HB.out) hl0 (Kd.C_below hx1 HB.out) hl1 (Kd.C_below hx5 HB.out) hl5 (Kd.C_below hr1 HB.out) hd1 (Kd.C_below hr3 HB.out) hd3 A3.out).mono ?_; rintro e_ w8 ⟨rfl, hb⟩; refine ⟨_, rfl, ?_⟩; replace HB := aM (below_step HB.out hb); clear hb; (simp only [Act.put, List.setIfInBounds_toArray, List.set_cons_zero, List.set_cons_succ])))
 go_ret
 exact ⟨rfl, HB.out⟩

end Go.Proofs.Ytlghklbjmmijpaa.Q
