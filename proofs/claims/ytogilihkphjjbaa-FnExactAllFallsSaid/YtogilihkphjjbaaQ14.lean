/- Functions of the program as plain Lean functions, and that a call of each comes to what its function tells. Written by a program of this seat. -/
import Derived.Test.YtogilihkphjjbaaQ0
import Derived.Test.YtogilihkphjjbaaQ1
import Derived.Test.YtogilihkphjjbaaQ9
namespace Go.Proofs.Ytogilihkphjjbaa.Q
open Go.RowKit Go.Proofs.YtogilihkphjjbaaW.PrintWords Go.Proofs.YtogilihkphjjbaaW.PrintLast Go.Proofs.YtogilihkphjjbaaW.PrintMore
attribute [local go_sem] max2_int min2_int max_two min_two max_three min_three max_four min_four   -- for this text's walks alone
set_option linter.unusedVariables false
set_option linter.unusedSimpArgs false

attribute [local go_sem high] eqA30
/-! ### impl_Disk_slot: function 70 -/
def impl_Disk_slot.f (a1 : Int) (o : Nat) : Option Unit := if (a1 = 0 ∧ o = 0) ∨ (¬ a1 = 0 ∧ o = 1) then some () else none
theorem impl_Disk_slot.calls (g : Nat) (a1 : Int) {o : Nat} (w : World) (h : impl_Disk_slot.f a1 o = some ()) :
    Calls Try.prog 70 #[.pointer (some ⟨g, 0, none⟩), .int .i64 a1] w fun e w' => e = .returned (.pointer (some ⟨g, o, none⟩)) ∧ Drawn0 w w' := by
  have h := (ifN h).1
  rcases h with ⟨hn, rfl⟩ | ⟨hn, rfl⟩
  · have hn0 : (a1 == 0) = true := beq_iff_eq.mpr hn
    clear hn
    go_enter Try.func70, Try.ntmps70
    go_wp2
    go_ret
    exact ⟨rfl, TD⟩
  · have hn0 : (a1 == 0) = false := beq_eq_false_iff_ne.mpr hn
    clear hn
    go_enter Try.func70, Try.ntmps70
    go_wp2
    go_ret
    exact ⟨rfl, TD⟩
/-- A disk's three rows, apart. -/
def Dsk (w : World) (base : Nat) (vA vB vP : Value) (lA lB : List Int) (lP : List S55) : Prop :=
  Kd.R (Kd.int .u8) 5 w base (fun k => some k ≠ vB.ownBlock) vA lA ∧ Kd.R (Kd.int .u8) 5 w base (fun k => some k ≠ vA.ownBlock) vB lB ∧ Kd.S k55 55 w base (fun k => some k ≠ vA.ownBlock ∧ some k ≠ vB.ownBlock) vP lP
section
variable {w w1 : World} {base : Nat} {vA vB vP v1 : Value} {lA lB l1 : List Int} {lP : List S55}
theorem Dsk.below (h : Dsk w base vA vB vP lA lB lP) (hb : Below w.heap.size w w1) : Dsk w1 base vA vB vP lA lB lP := ⟨Kd.R_below h.1 hb, Kd.R_below h.2.1 hb, Kd.S_below h.2.2 hb⟩
theorem Dsk.swap (h : Dsk w base vA vB vP lA lB lP) : Dsk w base vB vA vP lB lA lP := ⟨h.2.1, h.1, Kd.S_mono h.2.2 (fun _ q => ⟨q.2, q.1⟩)⟩
/-- Behind an append to the first row. -/
theorem Dsk.app (h : Dsk w base vA vB vP lA lB lP) (hg : w.grownBy w1 vA.ownBlock) (hat : v1.ownBlock = vA.ownBlock ∨ ∃ b, v1.ownBlock = some b ∧ w.heap.size ≤ b) (ho : Kd.R (Kd.int .u8) 5 w1 base (fun k => some k ≠ vB.ownBlock) v1 l1) : Dsk w1 base v1 vB vP l1 lB lP :=
  ⟨ho, Kd.R_mono (Kd.R_after (ok := fun _ => True) (Kd.R_mono h.2.1 (fun _ q => ⟨trivial, q⟩)) hg hat) (fun _ q => q.2), Kd.S_mono (Kd.S_after (ok := fun k => some k ≠ vB.ownBlock) (Kd.S_mono h.2.2 (fun _ q => ⟨q.2, q.1⟩)) hg hat) (fun _ q => ⟨q.2, q.1⟩)⟩
theorem Dsk.app' (h : Dsk w base vA vB vP lA lB lP) (hg : w.grownBy w1 vB.ownBlock) (hat : v1.ownBlock = vB.ownBlock ∨ ∃ b, v1.ownBlock = some b ∧ w.heap.size ≤ b) (ho : Kd.R (Kd.int .u8) 5 w1 base (fun k => some k ≠ vA.ownBlock) v1 l1) : Dsk w1 base vA v1 vP lA l1 lP := (h.swap.app hg hat ho).swap
/-- The first row has been written in place. -/
theorem Dsk.wr (h : Dsk w base vA vB vP lA lB lP) (hk : ∀ k, some k ≠ vA.ownBlock → w1.heap[k]? = w.heap[k]?) (ho : Kd.R (Kd.int .u8) 5 w1 base (fun k => some k ≠ vB.ownBlock) vA l1) : Dsk w1 base vA vB vP l1 lB lP :=
  ⟨ho, Kd.R_move h.2.1 hk, Kd.S_move h.2.2 (fun k q => hk k q.1)⟩
theorem Dsk.wr' (h : Dsk w base vA vB vP lA lB lP) (hk : ∀ k, some k ≠ vB.ownBlock → w1.heap[k]? = w.heap[k]?) (ho : Kd.R (Kd.int .u8) 5 w1 base (fun k => some k ≠ vA.ownBlock) vB l1) : Dsk w1 base vA vB vP lA l1 lP := (h.swap.wr hk ho).swap
/-- What isn't one of its rows has been written. -/
theorem Dsk.off {g : Nat} {cs : Array Value} (h : Dsk w base vA vB vP lA lB lP) (hb : w.heap[g]? = some (.cells cs 33 (0, 0))) (hw : Wr g w w1) : Dsk w1 base vA vB vP lA lB lP :=
  ⟨Kd.R_mono (Kd.R_move (Kd.R_types h.1 hb (by decide)) (fun k q => hw.2.2 k q.2)) (fun _ q => q.1), Kd.R_mono (Kd.R_move (Kd.R_types h.2.1 hb (by decide)) (fun k q => hw.2.2 k q.2)) (fun _ q => q.1), Kd.S_mono (Kd.S_move (Kd.S_types h.2.2 hb (by decide)) (fun k q => hw.2.2 k q.2)) (fun _ q => q.1)⟩
theorem own_then {v v2 v0 : Value} {w0' w2 : World} {n : Nat} (h : v.ownBlock = v0.ownBlock ∨ ∃ b, v.ownBlock = some b ∧ n ≤ b) (hn : n ≤ w2.heap.size) (hat : v2.ownBlock = v.ownBlock ∨ ∃ b, v2.ownBlock = some b ∧ w0'.heap.size ≤ b) (hg : w0'.grownBy w2 v.ownBlock) (hn' : n ≤ w0'.heap.size) : v2.ownBlock = v0.ownBlock ∨ ∃ b, v2.ownBlock = some b ∧ n ≤ b := by
  rcases hat with q | ⟨b, q, l⟩
  · rw [q]; exact h
  · exact .inr ⟨b, q, by omega⟩
end
/-- The same, all of whose blocks are I. -/
def DskI (w : World) (base : Nat) (I : Nat → Prop) (vA vB vP : Value) (lA lB : List Int) (lP : List S55) : Prop :=
  Kd.R (Kd.int .u8) 5 w base (fun k => I k ∧ some k ≠ vB.ownBlock) vA lA ∧ Kd.R (Kd.int .u8) 5 w base (fun k => I k ∧ some k ≠ vA.ownBlock) vB lB ∧ Kd.S k55 55 w base (fun k => I k ∧ some k ≠ vA.ownBlock ∧ some k ≠ vB.ownBlock) vP lP
section
variable {w w1 : World} {base : Nat} {I : Nat → Prop} {vA vB vP v1 : Value} {lA lB l1 : List Int} {lP : List S55} {L : List Itm}
theorem DskI.move (h : DskI w base I vA vB vP lA lB lP) (hk : ∀ k, I k → w1.heap[k]? = w.heap[k]?) : DskI w1 base I vA vB vP lA lB lP :=
  ⟨Kd.R_move h.1 (fun k q => hk k q.1), Kd.R_move h.2.1 (fun k q => hk k q.1), Kd.S_move h.2.2 (fun k q => hk k q.1)⟩
def iDisk (base a b : Nat) (vA vB vP : Value) (lA lB : List Int) (lP : List S55) : Itm where
  a := a
  b := b
  P := fun w => DskI w base (fun k => a ≤ k ∧ k < b) vA vB vP lA lB lP
  st := fun hk h => DskI.move h (fun k q => hk k q.1 q.2)
theorem Sep.disk (h : Sep base w L) (hb : Below w.heap.size w w1) (hB : base ≤ w.heap.size) (h1 : Kd.R (Kd.int .u8) 5 w1 w.heap.size (fun k => some k ≠ vB.ownBlock) vA lA) (h2 : Kd.R (Kd.int .u8) 5 w1 w.heap.size (fun k => some k ≠ vA.ownBlock) vB lB)
    (h3 : Kd.S k55 55 w1 w.heap.size (fun k => some k ≠ vA.ownBlock ∧ some k ≠ vB.ownBlock) vP lP) : Sep base w1 (iDisk base w.heap.size w1.heap.size vA vB vP lA lB lP :: L) :=
  h.add hb hB (iDisk base w.heap.size w1.heap.size vA vB vP lA lB lP) (Nat.le_refl _) hb.size (Nat.le_refl _)
    ⟨Kd.R_lower (Kd.R_mono (Kd.R_bound h1) (fun k q => ⟨⟨q.2.1, q.2.2.1⟩, q.1⟩)) hB, Kd.R_lower (Kd.R_mono (Kd.R_bound h2) (fun k q => ⟨⟨q.2.1, q.2.2.1⟩, q.1⟩)) hB, Kd.S_lower (Kd.S_mono (Kd.S_bound h3) (fun k q => ⟨⟨q.2.1, q.2.2.1⟩, q.1⟩)) hB⟩
/-- A flat row over what leaves its block. -/
theorem R_kept1 {α : Type} {d : Kd α} {e : Nat} {ok S : Nat → Prop} {v : Value} {xs : List α} (hE : d.E = []) (h : d.R e w base ok v xs) (hk : Kept w w1 S) (hn : ∀ k, v.ownBlock = some k → ¬ S k) : d.R e w1 base ok v xs :=
  Kd.R_mono (Kd.R_kept (Kd.R_tight2 hE h) hk (fun k q => hn k q.1.symm)) (fun _ q => q.2)
end
section
variable {base x y cA cB cP : Nat} {AA AB AP : Option Addr} {lA lB : List Int} {lP : List S55} {W : World} {vA vB vP : Value}
theorem diskC0 (h : (iDisk base x y (.slice AA lA.length cA) vB vP lA lB lP).P W) : (Kd.int .u8).C W AA lA.length lA := (Kd.R_reads' h.1).2.2
theorem diskL0 (h : (iDisk base x y (.slice AA lA.length cA) vB vP lA lB lP).P W) : lA.length ≤ cA := (Kd.R_reads' h.1).2.1
theorem diskC1 (h : (iDisk base x y vA (.slice AB lB.length cB) vP lA lB lP).P W) : (Kd.int .u8).C W AB lB.length lB := (Kd.R_reads' h.2.1).2.2
theorem diskL1 (h : (iDisk base x y vA (.slice AB lB.length cB) vP lA lB lP).P W) : lB.length ≤ cB := (Kd.R_reads' h.2.1).2.1
theorem diskC2 (h : (iDisk base x y vA vB (.slice AP lP.length cP) lA lB lP).P W) : k55.C W AP lP.length lP := (Kd.S_reads' h.2.2).2.2
theorem diskL2 (h : (iDisk base x y vA vB (.slice AP lP.length cP) lA lB lP).P W) : lP.length ≤ cP := (Kd.S_reads' h.2.2).2.1
end

/-! ### spec_l9Record: function 66 -/
def spec_l9Record.f (a0_0 : Int) (a0_1 : Int) (a0_2 : Int) : Option (Bool) := (spec_l1In.f a0_0 0 1000000).bind fun t303 => (if t303 = true then ((spec_l1In.f a0_1 0 1).bind fun t304 => (if t304 = true then ((spec_l1In.f a0_2 0 240).bind fun t305 => (some t305)) else (some false))) else (some false))
set_option maxHeartbeats 40000000 in
set_option maxRecDepth 100000 in
theorem spec_l9Record.calls (a0_0 : Int) (a0_1 : Int) (a0_2 : Int) (r : Bool) (w : World) (h : spec_l9Record.f a0_0 a0_1 a0_2 = some r) :
    Calls Try.prog 66 #[.agg #[.int .i64 a0_0, .int .i64 a0_1, .int .i64 a0_2]] w fun e w' => e = .returned (.bool r) ∧ Below w.heap.size w w' := by
  have hu30 := Try.underlying30
  have HB := aM (Below.refl w.heap.size w)
  have H := h
  clear h
  unfold spec_l9Record.f at H
  replace H := bE H
  obtain ⟨t303, A2, H⟩ := H
  go_enter Try.func66, Try.ntmps66
  go_wp2_with (first | ((with_reducible refine gate_dst (N := 1) rfl ?_); refine gBx 1 #[.int .i64 a0_0, .int .i64 a0_1, .int .i64 a0_2] 30 ?_; intro gb302 hg w4 hbox hb; have BK302 := aM (hbox); have GW302 := aM ((by rw [hg]; exact (below_size TB) : w.heap.size ≤ gb302)); have GE302 := aM ((by rw [hg]; exact (below_size TB) : w.heap.size ≤ gb302)); replace HB := aM (below_step TB hb); clear hb hbox hg; obtain ⟨hcz5_0, hcz5_1, hcz5_2⟩ := cz3 BK302.out; obtain ⟨hfz5_0, hfz5_1, hfz5_2⟩ := fz3 BK302.out) | ((with_reducible refine gate_callee (f := 61) rfl ?_); (with_reducible refine gate_dst (N := 5) rfl ?_); generalize hG_ : wpList _ _ _ _ _ _ = G_))
  subst hG_
  by_cases c6 : t303 = true
  · subst c6
    replace H := ifT H
    replace H := bE H
    obtain ⟨t304, A7, H⟩ := H
    by_cases c8 : t304 = true
    · subst c8
      replace H := ifT H
      replace H := bE H
      obtain ⟨t305, A9, H⟩ := H
      obtain rfl := Option.some.inj H
      go_wp2_with (first | ((with_reducible refine gate_callee (f := 61) rfl ?_); refine gL (some 5) Try.func61 #[.int .i64 a0_0, .int .i64 0, .int .i64 1000000] ?_; (with_reducible refine (spec_l1In.calls a0_0 0 1000000 true _ A2.out).mono ?_); rintro e w' ⟨rfl, ⟨nd, rfl⟩⟩; refine ⟨_, rfl, ?_⟩; obtain ⟨hcz10_0, hcz10_1, hcz10_2⟩ := cz3 BK302.out; obtain ⟨hfz10_0, hfz10_1, hfz10_2⟩ := fz3 BK302.out) | (go_at_call 61; (with_reducible refine (spec_l1In.calls a0_1 0 1 true _ A7.out).mono ?_); rintro e w' ⟨rfl, ⟨nd, rfl⟩⟩) | (go_at_call 61; (with_reducible refine (spec_l1In.calls a0_2 0 240 t305 _ A9.out).mono ?_); rintro e w' ⟨rfl, ⟨nd, rfl⟩⟩))
      go_ret
      exact ⟨by first | rfl | (simp [errW_none, errW_some] <;> rfl) | (simp [*, errW_none, errW_some] <;> rfl), TB⟩
    · replace c8 := Bool.eq_false_iff.mpr c8
      subst c8
      replace H := ifF H
      obtain rfl := Option.some.inj H
      go_wp2_with (first | ((with_reducible refine gate_callee (f := 61) rfl ?_); refine gL (some 5) Try.func61 #[.int .i64 a0_0, .int .i64 0, .int .i64 1000000] ?_; (with_reducible refine (spec_l1In.calls a0_0 0 1000000 true _ A2.out).mono ?_); rintro e w' ⟨rfl, ⟨nd, rfl⟩⟩; refine ⟨_, rfl, ?_⟩; obtain ⟨hcz11_0, hcz11_1, hcz11_2⟩ := cz3 BK302.out; obtain ⟨hfz11_0, hfz11_1, hfz11_2⟩ := fz3 BK302.out) | (go_at_call 61; (with_reducible refine (spec_l1In.calls a0_1 0 1 false _ A7.out).mono ?_); rintro e w' ⟨rfl, ⟨nd, rfl⟩⟩))
      go_ret
      exact ⟨by first | rfl | (simp [errW_none, errW_some] <;> rfl) | (simp [*, errW_none, errW_some] <;> rfl), TB⟩
  · replace c6 := Bool.eq_false_iff.mpr c6
    subst c6
    replace H := ifF H
    obtain rfl := Option.some.inj H
    go_wp2_with (first | ((with_reducible refine gate_callee (f := 61) rfl ?_); refine gL (some 5) Try.func61 #[.int .i64 a0_0, .int .i64 0, .int .i64 1000000] ?_; (with_reducible refine (spec_l1In.calls a0_0 0 1000000 false _ A2.out).mono ?_); rintro e w' ⟨rfl, ⟨nd, rfl⟩⟩; refine ⟨_, rfl, ?_⟩))
    go_ret
    exact ⟨by first | rfl | (simp [errW_none, errW_some] <;> rfl) | (simp [*, errW_none, errW_some] <;> rfl), TB⟩

/-! ### spec_l9Put: function 68 -/
def spec_l9Put.f (a0_0 : Int) (a0_1 : Int) (l0_2 : List Int) (a0_3 : Int) (a0_4 : Int) (a0_5 : Int) : Option (Bool) := if a0_0 = 2 then (if a0_1 = 0 then (if (l0_2.length : Int) = 0 then ((spec_l9Record.f a0_3 a0_4 a0_5).bind fun t308 => (some t308)) else (some false)) else (some false)) else ((spec_l1In.f a0_0 0 1).bind fun t309 => (if t309 = true then ((spec_l1In.f a0_1 0 240).bind fun t310 => (if t310 = true then (if (l0_2.length : Int) ≤ (wrap64 (240 - a0_1)) then (some (a0_3 == 0 && (a0_4 == 0 && (a0_5 == 0)))) else (some false)) else (some false))) else (some false)))
set_option maxHeartbeats 40000000 in
set_option maxRecDepth 100000 in
theorem spec_l9Put.calls (a0_0 : Int) (a0_1 : Int) (A0_2 : Option Addr) (c0_2 : Nat) (l0_2 : List Int) (a0_3 : Int) (a0_4 : Int) (a0_5 : Int) (r : Bool) (w : World) (hr0_2 : Kd.C (Kd.int .u8) w A0_2 l0_2.length l0_2) (hc0_2 : l0_2.length ≤ c0_2) (h : spec_l9Put.f a0_0 a0_1 l0_2 a0_3 a0_4 a0_5 = some r) :
    Calls Try.prog 68 #[.agg #[.int .i64 a0_0, .int .i64 a0_1, .slice A0_2 l0_2.length c0_2, .int .i64 a0_3, .int .i64 a0_4, .int .i64 a0_5]] w fun e w' => e = .returned (.bool r) ∧ Below w.heap.size w w' := by
  have hu55 := Try.underlying55
  have hu30 := Try.underlying30
  have HR0_2 := aM hr0_2
  have HC0_2 := aM hc0_2
  clear hr0_2 hc0_2
  have HB := aM (Below.refl w.heap.size w)
  have H := h
  clear h
  unfold spec_l9Put.f at H
  by_cases c2 : a0_0 = 2
  · rw [if_pos c2] at H
    have c2b0 : (a0_0 == 2) = true := beq_iff_eq.mpr c2
    have c2b1 : (a0_0 != 2) = false := bne_eq_false_iff_eq.mpr c2
    clear c2
    by_cases c3 : a0_1 = 0
    · rw [if_pos c3] at H
      have c3b0 : (a0_1 == 0) = true := beq_iff_eq.mpr c3
      have c3b1 : (a0_1 != 0) = false := bne_eq_false_iff_eq.mpr c3
      clear c3
      by_cases c4 : (l0_2.length : Int) = 0
      · rw [if_pos c4] at H
        have c4b0 : ((l0_2.length : Int) == 0) = true := beq_iff_eq.mpr c4
        have c4b1 : ((l0_2.length : Int) != 0) = false := bne_eq_false_iff_eq.mpr c4
        clear c4
        replace H := bE H
        obtain ⟨t308, A5, H⟩ := H
        obtain rfl := Option.some.inj H
        go_enter Try.func68, Try.ntmps68
        go_wp2_with (first | ((with_reducible refine gate_dst (N := 1) rfl ?_); (try (refine gate_guard (by rfl) ?_; dsimp only)); refine gBx 1 #[.int .i64 a0_0, .int .i64 a0_1, .slice A0_2 l0_2.length c0_2, .int .i64 a0_3, .int .i64 a0_4, .int .i64 a0_5] 55 ?_; intro gb306 hg w6 hbox hb; have BK306 := aM (hbox); have GW306 := aM ((by rw [hg]; exact (below_size TB) : w.heap.size ≤ gb306)); have GE306 := aM ((by rw [hg]; exact (below_size TB) : w.heap.size ≤ gb306)); replace HB := aM (below_step TB hb); clear hb hbox hg) | ((with_reducible refine gate_dst (N := 3) rfl ?_); (try (refine gate_guard (by rfl) ?_; dsimp only)); refine gBx 3 #[.int .i64 0, .int .i64 0, .int .i64 0] 30 ?_; intro gb307 hg w7 hbox hb; have BK307 := aM (hbox); have GW307 := aM ((by rw [hg]; exact (below_size TB) : w.heap.size ≤ gb307)); have GE307 := aM ((by rw [hg]; exact (below_size TB) : w.heap.size ≤ gb307)); have NB306_307 := aM ((by rw [hg]; exact Nat.ne_of_lt (blk_lt (by have X_ := BK306.out; exact TX)) : gb306 ≠ gb307)); have NB307_306 := aM ((by rw [hg]; exact Nat.ne_of_gt (blk_lt (by have X_ := BK306.out; exact TX)) : gb307 ≠ gb306)); replace BK306 := aM (blk_below (by have X_ := BK306.out; exact TX) hb); replace HB := aM (below_step TB hb); clear hb hbox hg; have hnb8 := NB307_306.out; have hnc8 := NB306_307.out; obtain ⟨hcz9_0, hcz9_1, hcz9_2⟩ := cz3 BK307.out; obtain ⟨hfz9_0, hfz9_1, hfz9_2⟩ := fz3 BK307.out; obtain ⟨hcz10_0, hcz10_1, hcz10_2, hcz10_3, hcz10_4, hcz10_5⟩ := cz6 BK306.out; obtain ⟨hfz10_0, hfz10_1, hfz10_2, hfz10_3, hfz10_4, hfz10_5⟩ := fz6 BK306.out) | (go_at_call 66; (with_reducible refine (spec_l9Record.calls a0_3 a0_4 a0_5 t308 _ A5.out).mono ?_); rintro e w11 ⟨rfl, hb⟩; replace BK306 := aM (blk_below (g := gb306) (o := .cells #[.int .i64 a0_0, .int .i64 a0_1, .slice A0_2 l0_2.length c0_2, .int .i64 a0_3, .int .i64 a0_4, .int .i64 a0_5] 55 (0, 0)) (by (with_reducible repeat (first | refine blk_drewN ?_ _ | refine blk_drew ?_ | refine blk_alloc ?_ _)); refine blk_far ?_ NB306_307.out _; (with_reducible repeat (first | refine blk_drewN ?_ _ | refine blk_drew ?_ | refine blk_alloc ?_ _)); refine blk_far ?_ NB306_307.out _; (with_reducible repeat (first | refine blk_drewN ?_ _ | refine blk_drew ?_ | refine blk_alloc ?_ _)); refine blk_far ?_ NB306_307.out _; (with_reducible repeat (first | refine blk_drewN ?_ _ | refine blk_drew ?_ | refine blk_alloc ?_ _)); exact BK306.out) hb); replace BK307 := aM (blk_below (g := gb307) (o := .cells #[.int .i64 0, .int .i64 0, .int .i64 0] 30 (0, 0)) (by (with_reducible repeat (first | refine blk_drewN ?_ _ | refine blk_drew ?_ | refine blk_alloc ?_ _)); refine blk_put (cs := #[.int .i64 0, .int .i64 0, .int .i64 0]) ?_ 2 _ rfl; (with_reducible repeat (first | refine blk_drewN ?_ _ | refine blk_drew ?_ | refine blk_alloc ?_ _)); refine blk_put (cs := #[.int .i64 0, .int .i64 0, .int .i64 0]) ?_ 1 _ rfl; (with_reducible repeat (first | refine blk_drewN ?_ _ | refine blk_drew ?_ | refine blk_alloc ?_ _)); refine blk_put (cs := #[.int .i64 0, .int .i64 0, .int .i64 0]) ?_ 0 _ rfl; (with_reducible repeat (first | refine blk_drewN ?_ _ | refine blk_drew ?_ | refine blk_alloc ?_ _)); exact BK307.out) hb); replace HB := aM (below_step TB hb); clear hb))
        go_ret
        exact ⟨by first | rfl | (simp [errW_none, errW_some] <;> rfl) | (simp [*, errW_none, errW_some] <;> rfl), TB⟩
      · rw [if_neg c4] at H
        have c4b0 : ((l0_2.length : Int) == 0) = false := beq_eq_false_iff_ne.mpr c4
        have c4b1 : ((l0_2.length : Int) != 0) = true := bne_iff_ne.mpr c4
        have c4b2 : ¬ (l0_2 = []) := fun h_ => c4 (by rw [h_]; rfl)
        obtain rfl := Option.some.inj H
        go_enter Try.func68, Try.ntmps68
        go_wp2_with (first | ((with_reducible refine gate_dst (N := 1) rfl ?_); (try (refine gate_guard (by rfl) ?_; dsimp only)); refine gBx 1 #[.int .i64 a0_0, .int .i64 a0_1, .slice A0_2 l0_2.length c0_2, .int .i64 a0_3, .int .i64 a0_4, .int .i64 a0_5] 55 ?_; intro gb306 hg w12 hbox hb; have BK306 := aM (hbox); have GW306 := aM ((by rw [hg]; exact (below_size TB) : w.heap.size ≤ gb306)); have GE306 := aM ((by rw [hg]; exact (below_size TB) : w.heap.size ≤ gb306)); replace HB := aM (below_step TB hb); clear hb hbox hg) | ((with_reducible refine gate_dst (N := 3) rfl ?_); (try (refine gate_guard (by rfl) ?_; dsimp only)); refine gBx 3 #[.int .i64 0, .int .i64 0, .int .i64 0] 30 ?_; intro gb307 hg w13 hbox hb; have BK307 := aM (hbox); have GW307 := aM ((by rw [hg]; exact (below_size TB) : w.heap.size ≤ gb307)); have GE307 := aM ((by rw [hg]; exact (below_size TB) : w.heap.size ≤ gb307)); have NB306_307 := aM ((by rw [hg]; exact Nat.ne_of_lt (blk_lt (by have X_ := BK306.out; exact TX)) : gb306 ≠ gb307)); have NB307_306 := aM ((by rw [hg]; exact Nat.ne_of_gt (blk_lt (by have X_ := BK306.out; exact TX)) : gb307 ≠ gb306)); replace BK306 := aM (blk_below (by have X_ := BK306.out; exact TX) hb); replace HB := aM (below_step TB hb); clear hb hbox hg; have hnb14 := NB307_306.out; have hnc14 := NB306_307.out; obtain ⟨hcz15_0, hcz15_1, hcz15_2⟩ := cz3 BK307.out; obtain ⟨hfz15_0, hfz15_1, hfz15_2⟩ := fz3 BK307.out; obtain ⟨hcz16_0, hcz16_1, hcz16_2, hcz16_3, hcz16_4, hcz16_5⟩ := cz6 BK306.out; obtain ⟨hfz16_0, hfz16_1, hfz16_2, hfz16_3, hfz16_4, hfz16_5⟩ := fz6 BK306.out))
        go_ret
        exact ⟨by first | rfl | (simp [errW_none, errW_some] <;> rfl) | (simp [*, errW_none, errW_some] <;> rfl), TB⟩
    · rw [if_neg c3] at H
      have c3b0 : (a0_1 == 0) = false := beq_eq_false_iff_ne.mpr c3
      have c3b1 : (a0_1 != 0) = true := bne_iff_ne.mpr c3
      obtain rfl := Option.some.inj H
      go_enter Try.func68, Try.ntmps68
      go_wp2_with (first | ((with_reducible refine gate_dst (N := 1) rfl ?_); (try (refine gate_guard (by rfl) ?_; dsimp only)); refine gBx 1 #[.int .i64 a0_0, .int .i64 a0_1, .slice A0_2 l0_2.length c0_2, .int .i64 a0_3, .int .i64 a0_4, .int .i64 a0_5] 55 ?_; intro gb306 hg w17 hbox hb; have BK306 := aM (hbox); have GW306 := aM ((by rw [hg]; exact (below_size TB) : w.heap.size ≤ gb306)); have GE306 := aM ((by rw [hg]; exact (below_size TB) : w.heap.size ≤ gb306)); replace HB := aM (below_step TB hb); clear hb hbox hg) | ((with_reducible refine gate_dst (N := 3) rfl ?_); (try (refine gate_guard (by rfl) ?_; dsimp only)); refine gBx 3 #[.int .i64 0, .int .i64 0, .int .i64 0] 30 ?_; intro gb307 hg w18 hbox hb; have BK307 := aM (hbox); have GW307 := aM ((by rw [hg]; exact (below_size TB) : w.heap.size ≤ gb307)); have GE307 := aM ((by rw [hg]; exact (below_size TB) : w.heap.size ≤ gb307)); have NB306_307 := aM ((by rw [hg]; exact Nat.ne_of_lt (blk_lt (by have X_ := BK306.out; exact TX)) : gb306 ≠ gb307)); have NB307_306 := aM ((by rw [hg]; exact Nat.ne_of_gt (blk_lt (by have X_ := BK306.out; exact TX)) : gb307 ≠ gb306)); replace BK306 := aM (blk_below (by have X_ := BK306.out; exact TX) hb); replace HB := aM (below_step TB hb); clear hb hbox hg; have hnb19 := NB307_306.out; have hnc19 := NB306_307.out; obtain ⟨hcz20_0, hcz20_1, hcz20_2⟩ := cz3 BK307.out; obtain ⟨hfz20_0, hfz20_1, hfz20_2⟩ := fz3 BK307.out; obtain ⟨hcz21_0, hcz21_1, hcz21_2, hcz21_3, hcz21_4, hcz21_5⟩ := cz6 BK306.out; obtain ⟨hfz21_0, hfz21_1, hfz21_2, hfz21_3, hfz21_4, hfz21_5⟩ := fz6 BK306.out))
      go_ret
      exact ⟨by first | rfl | (simp [errW_none, errW_some] <;> rfl) | (simp [*, errW_none, errW_some] <;> rfl), TB⟩
  · rw [if_neg c2] at H
    have c2b0 : (a0_0 == 2) = false := beq_eq_false_iff_ne.mpr c2
    have c2b1 : (a0_0 != 2) = true := bne_iff_ne.mpr c2
    replace H := bE H
    obtain ⟨t309, A22, H⟩ := H
    go_enter Try.func68, Try.ntmps68
    go_wp2_with (first | ((with_reducible refine gate_dst (N := 1) rfl ?_); (try (refine gate_guard (by rfl) ?_; dsimp only)); refine gBx 1 #[.int .i64 a0_0, .int .i64 a0_1, .slice A0_2 l0_2.length c0_2, .int .i64 a0_3, .int .i64 a0_4, .int .i64 a0_5] 55 ?_; intro gb306 hg w24 hbox hb; have BK306 := aM (hbox); have GW306 := aM ((by rw [hg]; exact (below_size TB) : w.heap.size ≤ gb306)); have GE306 := aM ((by rw [hg]; exact (below_size TB) : w.heap.size ≤ gb306)); replace HB := aM (below_step TB hb); clear hb hbox hg) | ((with_reducible refine gate_dst (N := 3) rfl ?_); (try (refine gate_guard (by rfl) ?_; dsimp only)); refine gBx 3 #[.int .i64 0, .int .i64 0, .int .i64 0] 30 ?_; intro gb307 hg w25 hbox hb; have BK307 := aM (hbox); have GW307 := aM ((by rw [hg]; exact (below_size TB) : w.heap.size ≤ gb307)); have GE307 := aM ((by rw [hg]; exact (below_size TB) : w.heap.size ≤ gb307)); have NB306_307 := aM ((by rw [hg]; exact Nat.ne_of_lt (blk_lt (by have X_ := BK306.out; exact TX)) : gb306 ≠ gb307)); have NB307_306 := aM ((by rw [hg]; exact Nat.ne_of_gt (blk_lt (by have X_ := BK306.out; exact TX)) : gb307 ≠ gb306)); replace BK306 := aM (blk_below (by have X_ := BK306.out; exact TX) hb); replace HB := aM (below_step TB hb); clear hb hbox hg; have hnb26 := NB307_306.out; have hnc26 := NB306_307.out; obtain ⟨hcz27_0, hcz27_1, hcz27_2⟩ := cz3 BK307.out; obtain ⟨hfz27_0, hfz27_1, hfz27_2⟩ := fz3 BK307.out; obtain ⟨hcz28_0, hcz28_1, hcz28_2, hcz28_3, hcz28_4, hcz28_5⟩ := cz6 BK306.out; obtain ⟨hfz28_0, hfz28_1, hfz28_2, hfz28_3, hfz28_4, hfz28_5⟩ := fz6 BK306.out) | ((with_reducible refine gate_callee (f := 61) rfl ?_); (with_reducible refine gate_dst (N := 24) rfl ?_); generalize hG_ : wpList _ _ _ _ _ _ = G_))
    subst hG_
    by_cases c29 : t309 = true
    · subst c29
      replace H := ifT H
      replace H := bE H
      obtain ⟨t310, A30, H⟩ := H
      by_cases c31 : t310 = true
      · subst c31
        replace H := ifT H
        by_cases c32 : (l0_2.length : Int) ≤ (wrap64 (240 - a0_1))
        · rw [if_pos c32] at H
          have c32b0 : decide ((l0_2.length : Int) ≤ (wrap64 (240 - a0_1))) = true := decide_eq_true c32
          clear c32
          obtain rfl := Option.some.inj H
          go_wp2_with (first | ((with_reducible refine gate_callee (f := 61) rfl ?_); refine gL (some 24) Try.func61 #[.int .i64 a0_0, .int .i64 0, .int .i64 1] ?_; (with_reducible refine (spec_l1In.calls a0_0 0 1 true _ A22.out).mono ?_); rintro e w' ⟨rfl, ⟨nd, rfl⟩⟩; refine ⟨_, rfl, ?_⟩; have hnb33 := NB306_307.out; have hnc33 := NB307_306.out; obtain ⟨hcz34_0, hcz34_1, hcz34_2, hcz34_3, hcz34_4, hcz34_5⟩ := cz6 BK306.out; obtain ⟨hfz34_0, hfz34_1, hfz34_2, hfz34_3, hfz34_4, hfz34_5⟩ := fz6 BK306.out) | (go_at_call 61; (with_reducible refine (spec_l1In.calls a0_1 0 240 true _ A30.out).mono ?_); rintro e w' ⟨rfl, ⟨nd, rfl⟩⟩; obtain ⟨hcz35_0, hcz35_1, hcz35_2⟩ := cz3 BK307.out; obtain ⟨hfz35_0, hfz35_1, hfz35_2⟩ := fz3 BK307.out))
          go_ret
          exact ⟨by first | rfl | (simp [errW_none, errW_some] <;> rfl) | (simp [*, errW_none, errW_some] <;> rfl), TB⟩
        · rw [if_neg c32] at H
          have c32b0 : decide ((l0_2.length : Int) ≤ (wrap64 (240 - a0_1))) = false := decide_eq_false c32
          clear c32
          obtain rfl := Option.some.inj H
          go_wp2_with (first | ((with_reducible refine gate_callee (f := 61) rfl ?_); refine gL (some 24) Try.func61 #[.int .i64 a0_0, .int .i64 0, .int .i64 1] ?_; (with_reducible refine (spec_l1In.calls a0_0 0 1 true _ A22.out).mono ?_); rintro e w' ⟨rfl, ⟨nd, rfl⟩⟩; refine ⟨_, rfl, ?_⟩; have hnb36 := NB306_307.out; have hnc36 := NB307_306.out; obtain ⟨hcz37_0, hcz37_1, hcz37_2, hcz37_3, hcz37_4, hcz37_5⟩ := cz6 BK306.out; obtain ⟨hfz37_0, hfz37_1, hfz37_2, hfz37_3, hfz37_4, hfz37_5⟩ := fz6 BK306.out) | (go_at_call 61; (with_reducible refine (spec_l1In.calls a0_1 0 240 true _ A30.out).mono ?_); rintro e w' ⟨rfl, ⟨nd, rfl⟩⟩))
          go_ret
          exact ⟨by first | rfl | (simp [errW_none, errW_some] <;> rfl) | (simp [*, errW_none, errW_some] <;> rfl), TB⟩
      · replace c31 := Bool.eq_false_iff.mpr c31
        subst c31
        replace H := ifF H
        obtain rfl := Option.some.inj H
        go_wp2_with (first | ((with_reducible refine gate_callee (f := 61) rfl ?_); refine gL (some 24) Try.func61 #[.int .i64 a0_0, .int .i64 0, .int .i64 1] ?_; (with_reducible refine (spec_l1In.calls a0_0 0 1 true _ A22.out).mono ?_); rintro e w' ⟨rfl, ⟨nd, rfl⟩⟩; refine ⟨_, rfl, ?_⟩; have hnb38 := NB306_307.out; have hnc38 := NB307_306.out; obtain ⟨hcz39_0, hcz39_1, hcz39_2, hcz39_3, hcz39_4, hcz39_5⟩ := cz6 BK306.out; obtain ⟨hfz39_0, hfz39_1, hfz39_2, hfz39_3, hfz39_4, hfz39_5⟩ := fz6 BK306.out) | (go_at_call 61; (with_reducible refine (spec_l1In.calls a0_1 0 240 false _ A30.out).mono ?_); rintro e w' ⟨rfl, ⟨nd, rfl⟩⟩))
        go_ret
        exact ⟨by first | rfl | (simp [errW_none, errW_some] <;> rfl) | (simp [*, errW_none, errW_some] <;> rfl), TB⟩
    · replace c29 := Bool.eq_false_iff.mpr c29
      subst c29
      replace H := ifF H
      obtain rfl := Option.some.inj H
      go_wp2_with (first | ((with_reducible refine gate_callee (f := 61) rfl ?_); refine gL (some 24) Try.func61 #[.int .i64 a0_0, .int .i64 0, .int .i64 1] ?_; (with_reducible refine (spec_l1In.calls a0_0 0 1 false _ A22.out).mono ?_); rintro e w' ⟨rfl, ⟨nd, rfl⟩⟩; refine ⟨_, rfl, ?_⟩))
      go_ret
      exact ⟨by first | rfl | (simp [errW_none, errW_some] <;> rfl) | (simp [*, errW_none, errW_some] <;> rfl), TB⟩

/-! ### impl_isSlot: function 82 -/
def impl_isSlot.f (a0 : Int) : Option (Bool) := if a0 = 0 then (some true) else (some (a0 == 1))
set_option maxHeartbeats 40000000 in
set_option maxRecDepth 100000 in
theorem impl_isSlot.calls (a0 : Int) (r : Bool) (w : World) (h : impl_isSlot.f a0 = some r) :
    Calls Try.prog 82 #[.int .i64 a0] w fun e w' => e = .returned (.bool r) ∧ Drawn0 w w' := by
  have H := h
  clear h
  unfold impl_isSlot.f at H
  by_cases c2 : a0 = 0
  · rw [if_pos c2] at H
    have c2b0 : (a0 == 0) = true := beq_iff_eq.mpr c2
    have c2b1 : (a0 != 0) = false := bne_eq_false_iff_eq.mpr c2
    clear c2
    obtain rfl := Option.some.inj H
    go_enter Try.func82, Try.ntmps82
    go_wp2
    go_ret
    exact ⟨by first | rfl | (simp; done) | (simp [*]; done), TD⟩
  · rw [if_neg c2] at H
    have c2b0 : (a0 == 0) = false := beq_eq_false_iff_ne.mpr c2
    have c2b1 : (a0 != 0) = true := bne_iff_ne.mpr c2
    obtain rfl := Option.some.inj H
    go_enter Try.func82, Try.ntmps82
    go_wp2
    go_ret
    exact ⟨by first | rfl | (simp; done) | (simp [*]; done), TD⟩

/-! ### impl_isRecord: function 69 -/
def impl_isRecord.f (a0_0 : Int) (a0_1 : Int) (a0_2 : Int) : Option (Bool) := (impl_isGen.f a0_0).bind fun t316 => (if t316 = true then ((impl_isSlot.f a0_1).bind fun t317 => (if t317 = true then ((impl_within.f a0_2 0 240).bind fun t318 => (some t318)) else (some false))) else (some false))
set_option maxHeartbeats 40000000 in
set_option maxRecDepth 100000 in
theorem impl_isRecord.calls (aa : Int) (ab : Int) (ac : Int) (r : Bool) (w : World) (h : impl_isRecord.f aa ab ac = some r) :
  Calls Try.prog 69 #[.agg #[.int .i64 aa, .int .i64 ab, .int .i64 ac]] w fun e w' => e = .returned (.bool r) ∧ Below w.heap.size w w' := by
 have hu30 := Try.underlying30
 have HB := aM (Below.refl w.heap.size w)
 have H := h
 clear h
 unfold impl_isRecord.f at H
 replace H := bE H
 obtain ⟨t316, A2, H⟩ := H
 go_enter Try.func69, Try.ntmps69
 go_wp2_with (first | ((with_reducible refine gate_dst (N := 1) rfl ?_); refine gBx 1 #[.int .i64 aa, .int .i64 ab, .int .i64 ac] 30 ?_; intro ad hg w4 hbox hb; have BK315 := aM (hbox); have GW315 := aM ((by rw [hg]; exact (below_size TB) : w.heap.size ≤ ad)); have GE315 := aM ((by rw [hg]; exact (below_size TB) : w.heap.size ≤ ad)); replace HB := aM (below_step TB hb); clear hb hbox hg; obtain ⟨hcz5_0, hcz5_1, hcz5_2⟩ := cz3 BK315.out; obtain ⟨hfz5_0, hfz5_1, hfz5_2⟩ := fz3 BK315.out) | ((with_reducible refine gate_callee (f := 62) rfl ?_); (with_reducible refine gate_dst (N := 5) rfl ?_); generalize hG_ : wpList _ _ _ _ _ _ = G_))
 subst hG_
 by_cases c6 : t316 = true
 ·subst c6
  replace H := ifT H
  replace H := bE H
  obtain ⟨t317, A7, H⟩ := H
  by_cases c8 : t317 = true
  ·subst c8
   replace H := ifT H
   replace H := bE H
   obtain ⟨t318, A9, H⟩ := H
   obtain rfl := Option.some.inj H
   go_wp2_with (first | ((with_reducible refine gate_callee (f := 62) rfl ?_); refine gL (some 5) Try.func62 #[.int .i64 aa] ?_; (with_reducible refine (impl_isGen.calls aa true _ A2.out).mono ?_); rintro e w' ⟨rfl, ⟨nd, rfl⟩⟩; refine ⟨_, rfl, ?_⟩; obtain ⟨hcz10_0, hcz10_1, hcz10_2⟩ := cz3 BK315.out; obtain ⟨hfz10_0, hfz10_1, hfz10_2⟩ := fz3 BK315.out) | (go_at_call 82; (with_reducible refine (impl_isSlot.calls ab true _ A7.out).mono ?_); rintro e w' ⟨rfl, ⟨nd, rfl⟩⟩) | (go_at_call 89; (with_reducible refine (impl_within.calls ac 0 240 t318 _ A9.out).mono ?_); rintro e w' ⟨rfl, ⟨nd, rfl⟩⟩))
   go_ret
   exact ⟨by first | rfl | (simp [errW_none, errW_some] <;> rfl) | (simp [*, errW_none, errW_some] <;> rfl), TB⟩
  ·replace c8 := Bool.eq_false_iff.mpr c8
   subst c8
   replace H := ifF H
   obtain rfl := Option.some.inj H
   go_wp2_with (first | ((with_reducible refine gate_callee (f := 62) rfl ?_); refine gL (some 5) Try.func62 #[.int .i64 aa] ?_; (with_reducible refine (impl_isGen.calls aa true _ A2.out).mono ?_); rintro e w' ⟨rfl, ⟨nd, rfl⟩⟩; refine ⟨_, rfl, ?_⟩; obtain ⟨hcz11_0, hcz11_1, hcz11_2⟩ := cz3 BK315.out; obtain ⟨hfz11_0, hfz11_1, hfz11_2⟩ := fz3 BK315.out) | (go_at_call 82; (with_reducible refine (impl_isSlot.calls ab false _ A7.out).mono ?_); rintro e w' ⟨rfl, ⟨nd, rfl⟩⟩))
   go_ret
   exact ⟨by first | rfl | (simp [errW_none, errW_some] <;> rfl) | (simp [*, errW_none, errW_some] <;> rfl), TB⟩
 ·replace c6 := Bool.eq_false_iff.mpr c6
  subst c6
  replace H := ifF H
  obtain rfl := Option.some.inj H
  go_wp2_with (first | ((with_reducible refine gate_callee (f := 62) rfl ?_); refine gL (some 5) Try.func62 #[.int .i64 aa] ?_; (with_reducible refine (impl_isGen.calls aa false _ A2.out).mono ?_); rintro e w' ⟨rfl, ⟨nd, rfl⟩⟩; refine ⟨_, rfl, ?_⟩))
  go_ret
  exact ⟨by first | rfl | (simp [errW_none, errW_some] <;> rfl) | (simp [*, errW_none, errW_some] <;> rfl), TB⟩

end Go.Proofs.Ytogilihkphjjbaa.Q
