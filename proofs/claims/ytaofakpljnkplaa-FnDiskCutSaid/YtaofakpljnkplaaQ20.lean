/- Functions of the program as plain Lean functions, and that a call of each comes to what its function tells. Written by a program of this seat. -/
import Derived.Test.YtaofakpljnkplaaQ0
import Derived.Test.YtaofakpljnkplaaQ1
import Derived.Test.YtaofakpljnkplaaQ4
import Derived.Test.YtaofakpljnkplaaQ18
namespace Go.Proofs.Ytaofakpljnkplaa.Q
open Go.RowKit Go.Proofs.YtaofakpljnkplaaW.PrintWords Go.Proofs.YtaofakpljnkplaaW.PrintLast Go.Proofs.YtaofakpljnkplaaW.PrintMore
attribute [local go_sem] min2_int min_two
set_option linter.unusedVariables false
set_option linter.unusedSimpArgs false

attribute [local go_sem high] eqA44
def impl_Sure_1.f (a0 : Int) : Option (Bool) := some true
set_option maxHeartbeats 40000000 in
set_option maxRecDepth 100000 in
theorem impl_Sure_1.calls {a0 : Int} {r : Bool} {w : World} (h : impl_Sure_1.f a0 = some r) :
    Calls Try.prog 52 #[.int .i64 a0] w fun e w' => e = .returned (.bool r) ∧ Drawn0 w w' := by
  have H := h
  clear h
  unfold impl_Sure_1.f at H
  obtain rfl := o_I H
  go_enter Try.func52, Try.ntmps52
  go_wp2
  go_ret
  exact ⟨by first | rfl | (simp; done) | (simp [*]; done), TD⟩

def impl_isSlot.f (a0 : Int) : Option (Bool) := if a0 = 0 then (some true) else (some (a0 == 1))
set_option maxHeartbeats 40000000 in
set_option maxRecDepth 100000 in
theorem impl_isSlot.calls {a0 : Int} {r : Bool} {w : World} (h : impl_isSlot.f a0 = some r) :
    Calls Try.prog 91 #[.int .i64 a0] w fun e w' => e = .returned (.bool r) ∧ Drawn0 w w' := by
  have H := h
  clear h
  unfold impl_isSlot.f at H
  by_cases c2 : a0 = 0
  · rw [if_pos c2] at H
    have c2b0 : (a0 == 0) = true := beq_iff_eq.mpr c2
    have c2b1 : (a0 != 0) = false := bne_eq_false_iff_eq.mpr c2
    clear c2
    obtain rfl := o_I H
    go_enter Try.func91, Try.ntmps91
    go_wp2
    go_ret
    exact ⟨by first | rfl | (simp; done) | (simp [*]; done), TD⟩
  · rw [if_neg c2] at H
    have c2b0 : (a0 == 0) = false := beq_eq_false_iff_ne.mpr c2
    have c2b1 : (a0 != 0) = true := bne_iff_ne.mpr c2
    obtain rfl := o_I H
    go_enter Try.func91, Try.ntmps91
    go_wp2
    go_ret
    exact ⟨by first | rfl | (simp; done) | (simp [*]; done), TD⟩

def impl_isRecord.f (a0_0 : Int) (a0_1 : Int) (a0_2 : Int) : Option (Bool) := (impl_isGen.f a0_0).bind fun t486 => (if t486 = true then ((impl_isSlot.f a0_1).bind fun t487 => (if t487 = true then ((impl_within.f a0_2 0 240).bind fun t488 => (some t488)) else (some false))) else (some false))
set_option maxHeartbeats 40000000 in
set_option maxRecDepth 100000 in
theorem impl_isRecord.calls {a0_0 : Int} {a0_1 : Int} {a0_2 : Int} {r : Bool} {w : World} (h : impl_isRecord.f a0_0 a0_1 a0_2 = some r) :
    Calls Try.prog 86 #[.agg #[.int .i64 a0_0, .int .i64 a0_1, .int .i64 a0_2]] w fun e w' => e = .returned (.bool r) ∧ Below w.heap.size w w' := by
  have hu44 := Try.underlying44
  have HB := aM (Below.refl w.heap.size w)
  have H := h
  clear h
  unfold impl_isRecord.f at H
  replace H := bE H
  obtain ⟨t486, A2, H⟩ := H
  go_enter Try.func86, Try.ntmps86
  go_wp2_with (first | ((with_reducible refine gate_dst (N := 1) rfl ?_); refine gBx 1 #[.int .i64 a0_0, .int .i64 a0_1, .int .i64 a0_2] 44 ?_; intro gb485 hg w4 hbox hb; have BK485 := aM (hbox); have GW485 := gW HB hg; have GE485 := gW HB hg; replace HB := bS HB hb; clear hb hbox hg; obtain ⟨hcz5_0, hcz5_1, hcz5_2⟩ := cz3 BK485.out; obtain ⟨hfz5_0, hfz5_1, hfz5_2⟩ := fz3 BK485.out) | ((with_reducible refine gate_callee (f := 45) rfl ?_); (with_reducible refine gate_dst (N := 5) rfl ?_); generalize hG_ : wpList _ _ _ _ _ _ = G_))
  subst hG_
  by_cases c6 : t486 = true
  · subst c6
    replace H := ifT H
    replace H := bE H
    obtain ⟨t487, A7, H⟩ := H
    by_cases c8 : t487 = true
    · subst c8
      replace H := ifT H
      replace H := bE H
      obtain ⟨t488, A9, H⟩ := H
      obtain rfl := o_I H
      go_wp2_with (first | ((with_reducible refine gate_callee (f := 45) rfl ?_); refine gL (some 5) Try.func45 #[.int .i64 a0_0] ?_; (with_reducible refine (impl_isGen.calls A2.out).mono ?_); rintro e w' ⟨rfl, ⟨nd, rfl⟩⟩; refine ⟨_, rfl, ?_⟩; obtain ⟨hcz10_0, hcz10_1, hcz10_2⟩ := cz3 BK485.out; obtain ⟨hfz10_0, hfz10_1, hfz10_2⟩ := fz3 BK485.out) | (go_at_call 91; (with_reducible refine (impl_isSlot.calls A7.out).mono ?_); rintro e w' ⟨rfl, ⟨nd, rfl⟩⟩) | (go_at_call 31; (with_reducible refine (impl_within.calls A9.out).mono ?_); rintro e w' ⟨rfl, ⟨nd, rfl⟩⟩))
      go_ret
      exact ⟨TE, TB⟩
    · replace c8 := b_F c8
      subst c8
      replace H := ifF H
      obtain rfl := o_I H
      go_wp2_with (first | ((with_reducible refine gate_callee (f := 45) rfl ?_); refine gL (some 5) Try.func45 #[.int .i64 a0_0] ?_; (with_reducible refine (impl_isGen.calls A2.out).mono ?_); rintro e w' ⟨rfl, ⟨nd, rfl⟩⟩; refine ⟨_, rfl, ?_⟩; obtain ⟨hcz11_0, hcz11_1, hcz11_2⟩ := cz3 BK485.out; obtain ⟨hfz11_0, hfz11_1, hfz11_2⟩ := fz3 BK485.out) | (go_at_call 91; (with_reducible refine (impl_isSlot.calls A7.out).mono ?_); rintro e w' ⟨rfl, ⟨nd, rfl⟩⟩))
      go_ret
      exact ⟨TE, TB⟩
  · replace c6 := b_F c6
    subst c6
    replace H := ifF H
    obtain rfl := o_I H
    go_wp2_with (first | ((with_reducible refine gate_callee (f := 45) rfl ?_); refine gL (some 5) Try.func45 #[.int .i64 a0_0] ?_; (with_reducible refine (impl_isGen.calls A2.out).mono ?_); rintro e w' ⟨rfl, ⟨nd, rfl⟩⟩; refine ⟨_, rfl, ?_⟩))
    go_ret
    exact ⟨TE, TB⟩

def impl_Disk_slot.f (a1 : Int) (o : Nat) : Option Unit := if (a1 = 0 ∧ o = 0) ∨ (¬ a1 = 0 ∧ o = 1) then some () else none
theorem impl_Disk_slot.calls {g : Nat} {a1 : Int} {o : Nat} (w : World) (h : impl_Disk_slot.f a1 o = some ()) :
    Calls Try.prog 87 #[.pointer (some ⟨g, 0, none⟩), .int .i64 a1] w fun e w' => e = .returned (.pointer (some ⟨g, o, none⟩)) ∧ Drawn0 w w' := by
  have h := (ifN h).1
  rcases h with ⟨hn, rfl⟩ | ⟨hn, rfl⟩
  · have hn0 : (a1 == 0) = true := beq_iff_eq.mpr hn
    clear hn
    go_enter Try.func87, Try.ntmps87
    go_wp2
    go_ret
    exact ⟨rfl, TD⟩
  · have hn0 : (a1 == 0) = false := beq_eq_false_iff_ne.mpr hn
    clear hn
    go_enter Try.func87, Try.ntmps87
    go_wp2
    go_ret
    exact ⟨rfl, TD⟩
/-- A disk's three rows, apart. -/
def Dsk (w : World) (base : Nat) (vA vB vP : Value) (lA lB : List Int) (lP : List S104) : Prop :=
  Kd.R (Kd.int .u8) 5 w base (fun k => some k ≠ vB.ownBlock) vA lA ∧ Kd.R (Kd.int .u8) 5 w base (fun k => some k ≠ vA.ownBlock) vB lB ∧ Kd.S k104 104 w base (fun k => some k ≠ vA.ownBlock ∧ some k ≠ vB.ownBlock) vP lP
section
variable {w w1 : World} {base : Nat} {vA vB vP v1 : Value} {lA lB l1 : List Int} {lP : List S104}
theorem Dsk.below (h : Dsk w base vA vB vP lA lB lP) (hb : Below w.heap.size w w1) : Dsk w1 base vA vB vP lA lB lP := ⟨Kd.R_below h.1 hb, Kd.R_below h.2.1 hb, Kd.S_below h.2.2 hb⟩
theorem Dsk.swap (h : Dsk w base vA vB vP lA lB lP) : Dsk w base vB vA vP lB lA lP := ⟨h.2.1, h.1, Kd.S_mono h.2.2 (fun _ q => ⟨q.2, q.1⟩)⟩
/-- Behind an append to the first row. -/
theorem Dsk.app (h : Dsk w base vA vB vP lA lB lP) (hg : w.grownBy w1 vA.ownBlock) (hat : v1.ownBlock = vA.ownBlock ∨ ∃ b, v1.ownBlock = some b ∧ w.heap.size ≤ b) (ho : Kd.R (Kd.int .u8) 5 w1 base (fun k => some k ≠ vB.ownBlock) v1 l1) : Dsk w1 base v1 vB vP l1 lB lP :=
  ⟨ho, Kd.R_mono (Kd.R_after (ok := fun _ => True) (Kd.R_mono h.2.1 (fun _ q => ⟨trivial, q⟩)) hg hat) (fun _ q => q.2), Kd.S_mono (Kd.S_after (ok := fun k => some k ≠ vB.ownBlock) (Kd.S_mono h.2.2 (fun _ q => ⟨q.2, q.1⟩)) hg hat) (fun _ q => ⟨q.2, q.1⟩)⟩
theorem Dsk.app' (h : Dsk w base vA vB vP lA lB lP) (hg : w.grownBy w1 vB.ownBlock) (hat : v1.ownBlock = vB.ownBlock ∨ ∃ b, v1.ownBlock = some b ∧ w.heap.size ≤ b) (ho : Kd.R (Kd.int .u8) 5 w1 base (fun k => some k ≠ vA.ownBlock) v1 l1) : Dsk w1 base vA v1 vP lA l1 lP := (h.swap.app hg hat ho).swap
/-- The first row has been written in place. -/
theorem Dsk.wr (h : Dsk w base vA vB vP lA lB lP) (hk : ∀ k, some k ≠ vA.ownBlock → w1.heap[k]? = w.heap[k]?) (ho : Kd.R (Kd.int .u8) 5 w1 base (fun k => some k ≠ vB.ownBlock) vA l1) : Dsk w1 base vA vB vP l1 lB lP :=
  ⟨ho, Kd.R_move h.2.1 hk, Kd.S_move h.2.2 (fun k q => hk k q.1)⟩
theorem Dsk.wr' (h : Dsk w base vA vB vP lA lB lP) (hk : ∀ k, some k ≠ vB.ownBlock → w1.heap[k]? = w.heap[k]?) (ho : Kd.R (Kd.int .u8) 5 w1 base (fun k => some k ≠ vA.ownBlock) vB l1) : Dsk w1 base vA vB vP lA l1 lP := (h.swap.wr hk ho).swap
/-- What isn't one of its rows has been written. -/
theorem Dsk.off {g : Nat} {cs : Array Value} (h : Dsk w base vA vB vP lA lB lP) (hb : w.heap[g]? = some (.cells cs 47 (0, 0))) (hw : Wr g w w1) : Dsk w1 base vA vB vP lA lB lP :=
  ⟨Kd.R_mono (Kd.R_move (Kd.R_types h.1 hb (by decide)) (fun k q => hw.2.2 k q.2)) (fun _ q => q.1), Kd.R_mono (Kd.R_move (Kd.R_types h.2.1 hb (by decide)) (fun k q => hw.2.2 k q.2)) (fun _ q => q.1), Kd.S_mono (Kd.S_move (Kd.S_types h.2.2 hb (by decide)) (fun k q => hw.2.2 k q.2)) (fun _ q => q.1)⟩
theorem own_then {v v2 v0 : Value} {w0' w2 : World} {n : Nat} (h : v.ownBlock = v0.ownBlock ∨ ∃ b, v.ownBlock = some b ∧ n ≤ b) (hn : n ≤ w2.heap.size) (hat : v2.ownBlock = v.ownBlock ∨ ∃ b, v2.ownBlock = some b ∧ w0'.heap.size ≤ b) (hg : w0'.grownBy w2 v.ownBlock) (hn' : n ≤ w0'.heap.size) : v2.ownBlock = v0.ownBlock ∨ ∃ b, v2.ownBlock = some b ∧ n ≤ b := by
  rcases hat with q | ⟨b, q, l⟩
  · rw [q]; exact h
  · exact .inr ⟨b, q, by omega⟩
end
/-- The same, all of whose blocks are I. -/
def DskI (w : World) (base : Nat) (I : Nat → Prop) (vA vB vP : Value) (lA lB : List Int) (lP : List S104) : Prop :=
  Kd.R (Kd.int .u8) 5 w base (fun k => I k ∧ some k ≠ vB.ownBlock) vA lA ∧ Kd.R (Kd.int .u8) 5 w base (fun k => I k ∧ some k ≠ vA.ownBlock) vB lB ∧ Kd.S k104 104 w base (fun k => I k ∧ some k ≠ vA.ownBlock ∧ some k ≠ vB.ownBlock) vP lP
section
variable {w w1 : World} {base : Nat} {I : Nat → Prop} {vA vB vP v1 : Value} {lA lB l1 : List Int} {lP : List S104} {L : List Itm}
theorem DskI.move (h : DskI w base I vA vB vP lA lB lP) (hk : ∀ k, I k → w1.heap[k]? = w.heap[k]?) : DskI w1 base I vA vB vP lA lB lP :=
  ⟨Kd.R_move h.1 (fun k q => hk k q.1), Kd.R_move h.2.1 (fun k q => hk k q.1), Kd.S_move h.2.2 (fun k q => hk k q.1)⟩
def iDisk (base a b : Nat) (vA vB vP : Value) (lA lB : List Int) (lP : List S104) : Itm where
  a := a
  b := b
  P := fun w => DskI w base (fun k => a ≤ k ∧ k < b) vA vB vP lA lB lP
  st := fun hk h => DskI.move h (fun k q => hk k q.1 q.2)
theorem Sep.disk (h : Sep base w L) (hb : Below w.heap.size w w1) (hB : base ≤ w.heap.size) (h1 : Kd.R (Kd.int .u8) 5 w1 w.heap.size (fun k => some k ≠ vB.ownBlock) vA lA) (h2 : Kd.R (Kd.int .u8) 5 w1 w.heap.size (fun k => some k ≠ vA.ownBlock) vB lB)
    (h3 : Kd.S k104 104 w1 w.heap.size (fun k => some k ≠ vA.ownBlock ∧ some k ≠ vB.ownBlock) vP lP) : Sep base w1 (iDisk base w.heap.size w1.heap.size vA vB vP lA lB lP :: L) :=
  h.add hb hB (iDisk base w.heap.size w1.heap.size vA vB vP lA lB lP) (Nat.le_refl _) hb.size (Nat.le_refl _)
    ⟨Kd.R_lower (Kd.R_mono (Kd.R_bound h1) (fun k q => ⟨⟨q.2.1, q.2.2.1⟩, q.1⟩)) hB, Kd.R_lower (Kd.R_mono (Kd.R_bound h2) (fun k q => ⟨⟨q.2.1, q.2.2.1⟩, q.1⟩)) hB, Kd.S_lower (Kd.S_mono (Kd.S_bound h3) (fun k q => ⟨⟨q.2.1, q.2.2.1⟩, q.1⟩)) hB⟩
/-- A flat row over what leaves its block. -/
theorem R_kept1 {α : Type} {d : Kd α} {e : Nat} {ok S : Nat → Prop} {v : Value} {xs : List α} (hE : d.E = []) (h : d.R e w base ok v xs) (hk : Kept w w1 S) (hn : ∀ k, v.ownBlock = some k → ¬ S k) : d.R e w1 base ok v xs :=
  Kd.R_mono (Kd.R_kept (Kd.R_tight2 hE h) hk (fun k q => hn k q.1.symm)) (fun _ q => q.2)
end
section
variable {base x y cA cB cP : Nat} {AA AB AP : Option Addr} {lA lB : List Int} {lP : List S104} {W : World} {vA vB vP : Value}
theorem diskC0 (h : (iDisk base x y (.slice AA lA.length cA) vB vP lA lB lP).P W) : (Kd.int .u8).C W AA lA.length lA := (Kd.R_reads' h.1).2.2
theorem diskL0 (h : (iDisk base x y (.slice AA lA.length cA) vB vP lA lB lP).P W) : lA.length ≤ cA := (Kd.R_reads' h.1).2.1
theorem diskC1 (h : (iDisk base x y vA (.slice AB lB.length cB) vP lA lB lP).P W) : (Kd.int .u8).C W AB lB.length lB := (Kd.R_reads' h.2.1).2.2
theorem diskL1 (h : (iDisk base x y vA (.slice AB lB.length cB) vP lA lB lP).P W) : lB.length ≤ cB := (Kd.R_reads' h.2.1).2.1
theorem diskC2 (h : (iDisk base x y vA vB (.slice AP lP.length cP) lA lB lP).P W) : k104.C W AP lP.length lP := (Kd.S_reads' h.2.2).2.2
theorem diskL2 (h : (iDisk base x y vA vB (.slice AP lP.length cP) lA lB lP).P W) : lP.length ≤ cP := (Kd.S_reads' h.2.2).2.1
end

def impl_isPut.f (a0_0 : Int) (a0_1 : Int) (l0_2 : List Int) (a0_3 : Int) (a0_4 : Int) (a0_5 : Int) : Option (Bool) := if a0_0 = 2 then (if a0_1 = 0 then (if (l0_2.length : Int) = 0 then ((impl_isRecord.f a0_3 a0_4 a0_5).bind fun t490 => (some t490)) else (some false)) else (some false)) else ((impl_isSlot.f a0_0).bind fun t491 => (if t491 = true then (if (a0_3 == 0 && (a0_4 == 0 && (a0_5 == 0))) = true then ((impl_within.f a0_1 0 (wrap64 (240 - (l0_2.length : Int)))).bind fun t492 => (some t492)) else (some false)) else (some false)))
set_option maxHeartbeats 40000000 in
set_option maxRecDepth 100000 in
theorem impl_isPut.calls {a0_0 : Int} {a0_1 : Int} {A0_2 : Option Addr} {c0_2 : Nat} {l0_2 : List Int} {a0_3 : Int} {a0_4 : Int} {a0_5 : Int} {r : Bool} {w : World} (hr0_2 : Kd.C (Kd.int .u8) w A0_2 l0_2.length l0_2) (hc0_2 : l0_2.length ≤ c0_2) (h : impl_isPut.f a0_0 a0_1 l0_2 a0_3 a0_4 a0_5 = some r) :
    Calls Try.prog 90 #[.agg #[.int .i64 a0_0, .int .i64 a0_1, .slice A0_2 l0_2.length c0_2, .int .i64 a0_3, .int .i64 a0_4, .int .i64 a0_5]] w fun e w' => e = .returned (.bool r) ∧ Below w.heap.size w w' := by
  have hu104 := Try.underlying104
  have hu44 := Try.underlying44
  have HR0_2 := aM hr0_2
  have HC0_2 := aM hc0_2
  clear hr0_2 hc0_2
  have HB := aM (Below.refl w.heap.size w)
  have H := h
  clear h
  unfold impl_isPut.f at H
  by_cases c2 : a0_0 = 2
  · rw [if_pos c2] at H
    have c2b0 : (a0_0 == 2) = true := beq_iff_eq.mpr c2
    have c2b1 : (a0_0 != 2) = false := bne_eq_false_iff_eq.mpr c2
    clear c2
    by_cases c3 : a0_1 = 0
    · rw [if_pos c3] at H
      have c3b0 : (a0_1 == 0) = true := beq_iff_eq.mpr c3
      have c3b1 : (a0_1 != 0) = false := bne_eq_false_iff_eq.mpr c3
      clear c3
      by_cases c4 : (l0_2.length : Int) = 0
      · rw [if_pos c4] at H
        have c4b0 : ((l0_2.length : Int) == 0) = true := beq_iff_eq.mpr c4
        have c4b1 : ((l0_2.length : Int) != 0) = false := bne_eq_false_iff_eq.mpr c4
        clear c4
        replace H := bE H
        obtain ⟨t490, A5, H⟩ := H
        obtain rfl := o_I H
        go_enter Try.func90, Try.ntmps90
        go_wp2_with (first | ((with_reducible refine gate_dst (N := 1) rfl ?_); (try (refine gate_guard (by rfl) ?_; dsimp only)); refine gBx 1 #[.int .i64 a0_0, .int .i64 a0_1, .slice A0_2 l0_2.length c0_2, .int .i64 a0_3, .int .i64 a0_4, .int .i64 a0_5] 104 ?_; intro gb489 hg w6 hbox hb; have BK489 := aM (hbox); have GW489 := gW HB hg; have GE489 := gW HB hg; replace HB := bS HB hb; clear hb hbox hg; obtain ⟨hcz7_0, hcz7_1, hcz7_2, hcz7_3, hcz7_4, hcz7_5⟩ := cz6 BK489.out; obtain ⟨hfz7_0, hfz7_1, hfz7_2, hfz7_3, hfz7_4, hfz7_5⟩ := fz6 BK489.out) | (go_at_call 86; (with_reducible refine (impl_isRecord.calls A5.out).mono ?_); rintro e w8 ⟨rfl, hb⟩; replace BK489 := mB BK489 hb; replace HB := bS HB hb; clear hb))
        go_ret
        exact ⟨TE, TB⟩
      · rw [if_neg c4] at H
        have c4b0 : ((l0_2.length : Int) == 0) = false := beq_eq_false_iff_ne.mpr c4
        have c4b1 : ((l0_2.length : Int) != 0) = true := bne_iff_ne.mpr c4
        have c4b2 : ¬ (l0_2 = []) := fun h_ => c4 (by rw [h_]; rfl)
        obtain rfl := o_I H
        go_enter Try.func90, Try.ntmps90
        go_wp2_with (first | ((with_reducible refine gate_dst (N := 1) rfl ?_); (try (refine gate_guard (by rfl) ?_; dsimp only)); refine gBx 1 #[.int .i64 a0_0, .int .i64 a0_1, .slice A0_2 l0_2.length c0_2, .int .i64 a0_3, .int .i64 a0_4, .int .i64 a0_5] 104 ?_; intro gb489 hg w9 hbox hb; have BK489 := aM (hbox); have GW489 := gW HB hg; have GE489 := gW HB hg; replace HB := bS HB hb; clear hb hbox hg; obtain ⟨hcz10_0, hcz10_1, hcz10_2, hcz10_3, hcz10_4, hcz10_5⟩ := cz6 BK489.out; obtain ⟨hfz10_0, hfz10_1, hfz10_2, hfz10_3, hfz10_4, hfz10_5⟩ := fz6 BK489.out))
        go_ret
        exact ⟨TE, TB⟩
    · rw [if_neg c3] at H
      have c3b0 : (a0_1 == 0) = false := beq_eq_false_iff_ne.mpr c3
      have c3b1 : (a0_1 != 0) = true := bne_iff_ne.mpr c3
      obtain rfl := o_I H
      go_enter Try.func90, Try.ntmps90
      go_wp2_with (first | ((with_reducible refine gate_dst (N := 1) rfl ?_); (try (refine gate_guard (by rfl) ?_; dsimp only)); refine gBx 1 #[.int .i64 a0_0, .int .i64 a0_1, .slice A0_2 l0_2.length c0_2, .int .i64 a0_3, .int .i64 a0_4, .int .i64 a0_5] 104 ?_; intro gb489 hg w11 hbox hb; have BK489 := aM (hbox); have GW489 := gW HB hg; have GE489 := gW HB hg; replace HB := bS HB hb; clear hb hbox hg; obtain ⟨hcz12_0, hcz12_1, hcz12_2, hcz12_3, hcz12_4, hcz12_5⟩ := cz6 BK489.out; obtain ⟨hfz12_0, hfz12_1, hfz12_2, hfz12_3, hfz12_4, hfz12_5⟩ := fz6 BK489.out))
      go_ret
      exact ⟨TE, TB⟩
  · rw [if_neg c2] at H
    have c2b0 : (a0_0 == 2) = false := beq_eq_false_iff_ne.mpr c2
    have c2b1 : (a0_0 != 2) = true := bne_iff_ne.mpr c2
    replace H := bE H
    obtain ⟨t491, A13, H⟩ := H
    go_enter Try.func90, Try.ntmps90
    go_wp2_with (first | ((with_reducible refine gate_dst (N := 1) rfl ?_); (try (refine gate_guard (by rfl) ?_; dsimp only)); refine gBx 1 #[.int .i64 a0_0, .int .i64 a0_1, .slice A0_2 l0_2.length c0_2, .int .i64 a0_3, .int .i64 a0_4, .int .i64 a0_5] 104 ?_; intro gb489 hg w15 hbox hb; have BK489 := aM (hbox); have GW489 := gW HB hg; have GE489 := gW HB hg; replace HB := bS HB hb; clear hb hbox hg; obtain ⟨hcz16_0, hcz16_1, hcz16_2, hcz16_3, hcz16_4, hcz16_5⟩ := cz6 BK489.out; obtain ⟨hfz16_0, hfz16_1, hfz16_2, hfz16_3, hfz16_4, hfz16_5⟩ := fz6 BK489.out) | ((with_reducible refine gate_callee (f := 91) rfl ?_); (with_reducible refine gate_dst (N := 22) rfl ?_); generalize hG_ : wpList _ _ _ _ _ _ = G_))
    subst hG_
    by_cases c17 : t491 = true
    · subst c17
      replace H := ifT H
      by_cases c18 : (a0_3 == 0 && (a0_4 == 0 && (a0_5 == 0))) = true
      · rw [if_pos c18] at H
        have c18b0 : (a0_3 == 0 && (a0_4 == 0 && (a0_5 == 0))) = true := c18
        (try (have c18b1 : decide (a0_3 = 0 && (a0_4 == 0 && (a0_5 == 0))) = true := by simpa using c18))
        (try (have c18b2 : (a0_3 == 0 && (a0_4 == 0 && (a0_5 == 0))) = true := by simpa using c18))
        clear c18
        replace H := bE H
        obtain ⟨t492, A19, H⟩ := H
        obtain rfl := o_I H
        go_wp2_with (first | ((with_reducible refine gate_callee (f := 91) rfl ?_); refine gL (some 22) Try.func91 #[.int .i64 a0_0] ?_; (with_reducible refine (impl_isSlot.calls A13.out).mono ?_); rintro e w' ⟨rfl, ⟨nd, rfl⟩⟩; refine ⟨_, rfl, ?_⟩; obtain ⟨hcz20_0, hcz20_1, hcz20_2, hcz20_3, hcz20_4, hcz20_5⟩ := cz6 BK489.out; obtain ⟨hfz20_0, hfz20_1, hfz20_2, hfz20_3, hfz20_4, hfz20_5⟩ := fz6 BK489.out) | (go_at_call 31; (with_reducible refine (impl_within.calls A19.out).mono ?_); rintro e w' ⟨rfl, ⟨nd, rfl⟩⟩))
        go_ret
        exact ⟨TE, TB⟩
      · rw [if_neg c18] at H
        have c18b0 : (a0_3 == 0 && (a0_4 == 0 && (a0_5 == 0))) = false := by simpa using c18
        (try (have c18b1 : decide (a0_3 = 0 && (a0_4 == 0 && (a0_5 == 0))) = false := by simpa using c18))
        (try (have c18b2 : (a0_3 == 0 && (a0_4 == 0 && (a0_5 == 0))) = false := by simpa using c18))
        (try (have c18b3 : ¬ (a0_3 = 0 && (a0_4 == 0 && (a0_5 == 0))) := by simpa using c18))
        clear c18
        obtain rfl := o_I H
        go_wp2_with (first | ((with_reducible refine gate_callee (f := 91) rfl ?_); refine gL (some 22) Try.func91 #[.int .i64 a0_0] ?_; (with_reducible refine (impl_isSlot.calls A13.out).mono ?_); rintro e w' ⟨rfl, ⟨nd, rfl⟩⟩; refine ⟨_, rfl, ?_⟩; obtain ⟨hcz21_0, hcz21_1, hcz21_2, hcz21_3, hcz21_4, hcz21_5⟩ := cz6 BK489.out; obtain ⟨hfz21_0, hfz21_1, hfz21_2, hfz21_3, hfz21_4, hfz21_5⟩ := fz6 BK489.out))
        go_ret
        exact ⟨TE, TB⟩
    · replace c17 := b_F c17
      subst c17
      replace H := ifF H
      obtain rfl := o_I H
      go_wp2_with (first | ((with_reducible refine gate_callee (f := 91) rfl ?_); refine gL (some 22) Try.func91 #[.int .i64 a0_0] ?_; (with_reducible refine (impl_isSlot.calls A13.out).mono ?_); rintro e w' ⟨rfl, ⟨nd, rfl⟩⟩; refine ⟨_, rfl, ?_⟩))
      go_ret
      exact ⟨TE, TB⟩

def impl_DiskOk_1.f (a0_0 : Int) (a0_1 : Int) (l0_2 : List Int) (a0_3 : Int) (a0_4 : Int) (a0_5 : Int) : Option (Bool) := (impl_isPut.f a0_0 a0_1 l0_2 a0_3 a0_4 a0_5).bind fun t494 => (some (!t494))
set_option maxHeartbeats 40000000 in
set_option maxRecDepth 100000 in
theorem impl_DiskOk_1.calls {a0_0 : Int} {a0_1 : Int} {A0_2 : Option Addr} {c0_2 : Nat} {l0_2 : List Int} {a0_3 : Int} {a0_4 : Int} {a0_5 : Int} {r : Bool} {w : World} (hr0_2 : Kd.C (Kd.int .u8) w A0_2 l0_2.length l0_2) (hc0_2 : l0_2.length ≤ c0_2) (h : impl_DiskOk_1.f a0_0 a0_1 l0_2 a0_3 a0_4 a0_5 = some r) :
    Calls Try.prog 89 #[.agg #[.int .i64 a0_0, .int .i64 a0_1, .slice A0_2 l0_2.length c0_2, .int .i64 a0_3, .int .i64 a0_4, .int .i64 a0_5]] w fun e w' => e = .returned (.bool r) ∧ Below w.heap.size w w' := by
  have hu104 := Try.underlying104
  have HR0_2 := aM hr0_2
  have HC0_2 := aM hc0_2
  clear hr0_2 hc0_2
  have HB := aM (Below.refl w.heap.size w)
  have H := h
  clear h
  unfold impl_DiskOk_1.f at H
  replace H := bE H
  obtain ⟨t494, A2, H⟩ := H
  obtain rfl := o_I H
  go_enter Try.func89, Try.ntmps89
  go_wp2_with (first | ((with_reducible refine gate_dst (N := 1) rfl ?_); refine gBx 1 #[.int .i64 a0_0, .int .i64 a0_1, .slice A0_2 l0_2.length c0_2, .int .i64 a0_3, .int .i64 a0_4, .int .i64 a0_5] 104 ?_; intro gb493 hg w3 hbox hb; have BK493 := aM (hbox); have GW493 := gW HB hg; have GE493 := gW HB hg; replace HB := bS HB hb; clear hb hbox hg; obtain ⟨hcz4_0, hcz4_1, hcz4_2, hcz4_3, hcz4_4, hcz4_5⟩ := cz6 BK493.out; obtain ⟨hfz4_0, hfz4_1, hfz4_2, hfz4_3, hfz4_4, hfz4_5⟩ := fz6 BK493.out) | ((with_reducible refine gate_callee (f := 90) rfl ?_); refine gL (some 4) Try.func90 #[.agg #[.int .i64 a0_0, .int .i64 a0_1, .slice A0_2 l0_2.length c0_2, .int .i64 a0_3, .int .i64 a0_4, .int .i64 a0_5]] ?_; (with_reducible refine (impl_isPut.calls ?side1 ?side2 A2.out).mono ?_); (case side1 => have X_ := (Kd.C_below HR0_2.out HB.out); exact TC); (case side2 => exact HC0_2.out); rintro e w5 ⟨rfl, hb⟩; refine ⟨_, rfl, ?_⟩; replace BK493 := mB BK493 hb; replace HB := bS HB hb; clear hb))
  go_ret
  exact ⟨TE, TB⟩

def impl_Put_94.l0 : Nat → List (S104) → Int → Int → Option (Int)
  | 0, _, _, _ => none
  | k + 1, x0, x7, x8 => if x8 < x7 then (if 0 ≤ x8 then (if x8 < (x0.length : Int) then ((impl_DiskOk_1.f ((rd_T104 x0 x8).f0) ((rd_T104 x0 x8).f1) ((rd_T104 x0 x8).f2) ((rd_T104 x0 x8).f3.f0) ((rd_T104 x0 x8).f3.f1) ((rd_T104 x0 x8).f3.f2)).bind fun t496 => (if t496 = true then (some x8) else (impl_Put_94.l0 k x0 x7 (wrap64 (x8 + 1))))) else (none)) else (none)) else (some (-1))
def impl_Put_94.f (k : Nat) (l0 : List (S104))  : Option (Int) := impl_Put_94.l0 k l0 (l0.length : Int) 0
theorem impl_Put_94.mono_l : ∀ k, (∀ y0 y1 y2, LeO (impl_Put_94.l0 k y0 y1 y2) (impl_Put_94.l0 (k + 1) y0 y1 y2))
  | 0 => fun _ _ _ r h => by simp [impl_Put_94.l0] at h
  | k + 1 => by
    have ih0 := impl_Put_94.mono_l k
    · intro y0 y1 y2
      unfold impl_Put_94.l0
      exact LM
theorem impl_Put_94.mono : ∀ a0 k, LeO (impl_Put_94.f k a0) (impl_Put_94.f (k + 1) a0) := by
  intro a0 k;have ih0 := impl_Put_94.mono_l k;unfold impl_Put_94.f;exact LM
set_option maxHeartbeats 40000000 in
set_option maxRecDepth 100000 in
theorem impl_Put_94.calls {k : Nat} {A0 : Option Addr} {c0 : Nat} {l0 : List (S104)}  {r : Int} {w : World} (hr0 : Kd.C k104 w A0 l0.length l0) (hc0 : l0.length ≤ c0) (h : impl_Put_94.f k l0 = some r) :
    Calls Try.prog 94 #[.slice A0 l0.length c0, .func (.func 89) #[] #[]] w fun e w' => e = .returned (.int .i64 r) ∧ Below w.heap.size w w' := by
  have hu104 := Try.underlying104
  have HR0 := aM hr0
  have HC0 := aM hc0
  clear hr0 hc0
  have HB := aM (Below.refl w.heap.size w)
  have H := h
  clear h
  unfold impl_Put_94.f at H
  have H' := aM H
  clear H
  go_enter Try.func94, Try.ntmps94
  go_wp2
  go_loopg [8] k (fun kq v8 w' => ∃ (x8_1 : Int), v8 = .int .i64 x8_1 ∧ Aside0 (impl_Put_94.l0 kq l0 (l0.length : Int) x8_1 = some r) ∧ Aside0 (kq ≤ k) ∧ Aside0 (Below w.heap.size w w'))
  case atStart => exact ⟨(0), TF, H', ⟨Nat.le_refl _⟩, ⟨TB⟩⟩
  case round =>
    clear H'
    try clear p2
    obtain ⟨x8_1, rfl, HA, HK1, HB⟩ := hrel
    cases gk with
    | zero => exact absurd HA.out (by simp [impl_Put_94.l0])
    | succ k1 =>
      have H := HA.out
      clear HA
      simp only [impl_Put_94.l0] at H
      by_cases c3 : x8_1 < (l0.length : Int)
      · rw [if_pos c3] at H
        have c3b0 : decide (x8_1 < (l0.length : Int)) = true := decide_eq_true c3
        clear c3
        replace H := ifN H
        obtain ⟨c4, H⟩ := H
        have c4b0 : decide (0 ≤ x8_1) = true := decide_eq_true c4
        clear c4
        replace H := ifN H
        obtain ⟨c5, H⟩ := H
        have c5b0 : decide (x8_1 < (l0.length : Int)) = true := decide_eq_true c5
        clear c5
        replace H := bE H
        obtain ⟨t496, A6, H⟩ := H
        have p495 : 0 ≤ (x8_1 : Int) := DT
        have q495 : x8_1 < (l0.length : Int) := DT
        obtain ⟨ad495, A495_2, c495_2, e495, hx495_0, hx495_1, hx495_2, hx495_3, hx495_4, hx495_5, hl495_2, hi495_2⟩ := at_T104 HR0.out x8_1 p495 q495
        cases e495
        replace hx495_0 := (HB.out.cell (World.block_lt_of_cell? w _ hx495_0)).trans hx495_0
        replace hx495_1 := (HB.out.cell (World.block_lt_of_cell? w _ hx495_1)).trans hx495_1
        replace hx495_2 := (HB.out.cell (World.block_lt_of_cell? w _ hx495_2)).trans hx495_2
        replace hx495_3 := (HB.out.cell (World.block_lt_of_cell? w _ hx495_3)).trans hx495_3
        replace hx495_4 := (HB.out.cell (World.block_lt_of_cell? w _ hx495_4)).trans hx495_4
        replace hx495_5 := (HB.out.cell (World.block_lt_of_cell? w _ hx495_5)).trans hx495_5
        have HR495_2 := aM hi495_2
        have HC495_2 := aM hl495_2
        clear hi495_2 hl495_2
        replace p495 := eq_true p495
        replace q495 := eq_true q495
        go_wp2_with (first | fail)
        (with_reducible refine (impl_DiskOk_1.calls ?side1 ?side2 A6.out).mono ?_)
        (case side1 => have X_ := (Kd.C_below HR495_2.out HB.out); exact TC)
        (case side2 => exact HC495_2.out)
        rintro e w8 ⟨rfl, hb⟩
        (try dsimp only)
        replace HB := bS HB hb
        clear hb
        by_cases c7 : t496 = true
        · subst c7
          replace H := ifT H
          obtain rfl := o_I H
          go_wp2_with (first | fail)
          go_ret
          exact ⟨TE, TB⟩
        · replace c7 := b_F c7
          subst c7
          replace H := ifF H
          have H' := aM H
          clear H
          go_wp2_with (first | fail)
          go_roundg k1
          case measure => have := HK1.out; omega
          case rel => exact ⟨(wrap64 (x8_1 + 1)), TF, H', ⟨by have := HK1.out; omega⟩, ⟨TB⟩⟩
      · rw [if_neg c3] at H
        have c3b0 : decide (x8_1 < (l0.length : Int)) = false := decide_eq_false c3
        clear c3
        obtain rfl := o_I H
        go_wp2
        go_ret
        exact ⟨TE, TB⟩

def impl_Put_88.f (k : Nat) (l0 : List (S104))  : Option (Bool) := (impl_Put_94.f k l0).bind fun t497 => (some (decide (t497 ≥ 0)))
theorem impl_Put_88.mono : ∀ a0 k, LeO (impl_Put_88.f k a0) (impl_Put_88.f (k + 1) a0) := by
  intro a0 k;have m0_ := @impl_Put_94.mono;unfold impl_Put_88.f;exact LM
set_option maxHeartbeats 40000000 in
set_option maxRecDepth 100000 in
theorem impl_Put_88.calls {k : Nat} {A0 : Option Addr} {c0 : Nat} {l0 : List (S104)}  {r : Bool} {w : World} (hr0 : Kd.C k104 w A0 l0.length l0) (hc0 : l0.length ≤ c0) (h : impl_Put_88.f k l0 = some r) :
  Calls Try.prog 88 #[.slice A0 l0.length c0, .func (.func 89) #[] #[]] w fun e w' => e = .returned (.bool r) ∧ Below w.heap.size w w' := by
 have HR0 := aM hr0;have HC0 := aM hc0;clear hr0 hc0;have HB := aM (Below.refl w.heap.size w);have H := h;clear h;unfold impl_Put_88.f at H;replace H := bE H;obtain ⟨t497, Aq1, H⟩ := H;obtain rfl := o_I H;go_enter Try.func88, Try.ntmps88;go_wp2_with (first | ((with_reducible refine gate_callee (f := 94) rfl ?_); refine gL (some 7) Try.func94 #[.slice A0 l0.length c0, .func (.func 89) #[] #[]] ?_; (with_reducible refine (impl_Put_94.calls ?side1 ?side2 Aq1.out).mono ?_); (case side1 => have X_ := HR0.out; exact TC); (case side2 => exact HC0.out); rintro e w4 ⟨rfl, hb⟩; refine ⟨_, rfl, ?_⟩; replace HB := bS HB hb; clear hb))
 go_ret
 exact ⟨TE, TB⟩

end Go.Proofs.Ytaofakpljnkplaa.Q
