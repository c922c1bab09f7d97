/- Functions of the program as plain Lean functions, and that a call of each comes to what its function tells. Written by a program of this seat. -/
import Derived.Test.YtogilihkphjjbaaQ0
import Derived.Test.YtogilihkphjjbaaQ7
import Derived.Test.YtogilihkphjjbaaQ14
import Derived.Test.YtogilihkphjjbaaQ55
import Derived.Test.YtogilihkphjjbaaQ57
namespace Go.Proofs.Ytogilihkphjjbaa.Q
open Go.RowKit Go.Proofs.YtogilihkphjjbaaW.PrintWords Go.Proofs.YtogilihkphjjbaaW.PrintLast Go.Proofs.YtogilihkphjjbaaW.PrintMore
attribute [local go_sem] max2_int min2_int max_two min_two max_three min_three max_four min_four   -- for this text's walks alone
set_option linter.unusedVariables false
set_option linter.unusedSimpArgs false

/-! ### impl_AllFalls: function 52 -/
def impl_AllFalls.l0 : Nat → List S33 → Int → Int → List Int → List Int → Int → Int → Int → List S55 → Option (List S33)
  | 0, _, _, _, _, _, _, _, _, _ => none
  | k + 1, x, n, i, a, b, c, d, e, l => if i < n then ((impl_Fall.f k a b c d e l i).bind fun z => (if x.length < 1466015503701 then (impl_AllFalls.l0 k (x ++ [(⟨z.1, z.2.1, (⟨z.2.2.1, z.2.2.2.1, z.2.2.2.2.1⟩ : S30), z.2.2.2.2.2⟩ : S33)]) n (wrap64 (i + 1)) a b c d e l) else (none))) else (some x)
def impl_AllFalls.f (k : Nat) (l0_0 : List Int) (l0_1 : List Int) (a0_2 : Int) (a0_3 : Int) (a0_4 : Int) (l0_5 : List S55) : Option (List S33) := impl_AllFalls.l0 k [] (wrap64 (2 ^ (mn 6 (l0_5.length : Int)).toNat)) 0 l0_0 l0_1 a0_2 a0_3 a0_4 l0_5
theorem impl_AllFalls.mono_l : ∀ k, (∀ y0 y1 y2 y3 y4 y5 y6 y7 y8, LeO (impl_AllFalls.l0 k y0 y1 y2 y3 y4 y5 y6 y7 y8) (impl_AllFalls.l0 (k + 1) y0 y1 y2 y3 y4 y5 y6 y7 y8))
  | 0 => fun _ _ _ _ _ _ _ _ _ r h => by simp [impl_AllFalls.l0] at h
  | k + 1 => by
    have m0_ := @impl_Fall.mono
    have ih0 := impl_AllFalls.mono_l k
    intro y0 y1 y2 y3 y4 y5 y6 y7 y8
    unfold impl_AllFalls.l0
    exact LM
theorem impl_AllFalls.mono : ∀ a0 a1 a2 a3 a4 a5 k, LeO (impl_AllFalls.f k a0 a1 a2 a3 a4 a5) (impl_AllFalls.f (k + 1) a0 a1 a2 a3 a4 a5) := by
  intro a0 a1 a2 a3 a4 a5 k
  have ih0 := impl_AllFalls.mono_l k
  exact ih0 _ _ _ _ _ _ _ _ _
theorem falls_at {W w' : World} {base g1 : Nat} {o : Obj} {v3 vA vB vP : Value} {xs : List S33} {lA lB : List Int} {lP : List S55} (ho1 : Kd.R (Kd.int .u8) 5 w' W.heap.size (fun k => some k ≠ vB.ownBlock) vA lA) (ho2 : Kd.R (Kd.int .u8) 5 w' W.heap.size (fun k => some k ≠ vA.ownBlock) vB lB) (ho3 : Kd.S k55 55 w' W.heap.size (fun k => some k ≠ vA.ownBlock ∧ some k ≠ vB.ownBlock) vP lP) (hb : Below W.heap.size W w')
    (HO : Kd.S kD 33 W base (fun k => k ≠ g1) v3 xs) (hB1 : W.heap[g1]? = some o) (hB : base ≤ W.heap.size) : ∃ N0, DskI w' base (fun k => N0 ≤ k) vA vB vP lA lB lP ∧ Kd.S kD 33 w' base (fun k => k ≠ g1 ∧ ¬ N0 ≤ k) v3 xs ∧ (∀ k, v3.ownBlock = some k → k < N0) ∧ g1 < N0 :=
  ⟨W.heap.size, ⟨Kd.R_lower (Kd.R_mono (Kd.R_bound ho1) (fun k q => ⟨q.2.1, q.1⟩)) hB, Kd.R_lower (Kd.R_mono (Kd.R_bound ho2) (fun k q => ⟨q.2.1, q.1⟩)) hB, Kd.S_lower (Kd.S_mono (Kd.S_bound ho3) (fun k q => ⟨q.2.1, q.1⟩)) hB⟩, Kd.S_mono (Kd.S_below (Kd.S_bound HO) hb) (fun k q => ⟨q.1, by have := q.2.2.1; omega⟩), Kd.S_lt HO, blk_lt hB1⟩
set_option maxHeartbeats 4000000 in
set_option maxRecDepth 100000 in
theorem impl_AllFalls.calls (k : Nat) (A0_0 : Option Addr) (c0_0 : Nat) (l0_0 : List Int) (A0_1 : Option Addr) (c0_1 : Nat) (l0_1 : List Int) (a0_2 : Int) (a0_3 : Int) (a0_4 : Int) (A0_5 : Option Addr) (c0_5 : Nat) (l0_5 : List (S55)) (r : List S33) (w : World) (hr0_0 : Kd.C (Kd.int .u8) w A0_0 l0_0.length l0_0) (hc0_0 : l0_0.length ≤ c0_0) (hr0_1 : Kd.C (Kd.int .u8) w A0_1 l0_1.length l0_1) (hc0_1 : l0_1.length ≤ c0_1) (hr0_5 : Kd.C k55 w A0_5 l0_5.length l0_5) (hc0_5 : l0_5.length ≤ c0_5) (h : impl_AllFalls.f k l0_0 l0_1 a0_2 a0_3 a0_4 l0_5 = some r) :
    Calls Try.prog 52 #[.agg #[.slice A0_0 l0_0.length c0_0, .slice A0_1 l0_1.length c0_1, .int .i64 a0_2, .int .i64 a0_3, .int .i64 a0_4, .slice A0_5 l0_5.length c0_5]] w fun e w' => ∃ v0_ : Value, e = .returned v0_ ∧ Kd.S kD 33 w' w.heap.size (fun _ => True) v0_ r ∧ Below w.heap.size w w' := by
  have hu33 := Try.underlying33
  have HR0 := aM (And.intro hr0_0 hc0_0)
  have HR1 := aM (And.intro hr0_1 hc0_1)
  have HR5 := aM (And.intro hr0_5 hc0_5)
  have HB := aM (Below.refl w.heap.size w)
  clear hr0_0 hc0_0 hr0_1 hc0_1 hr0_5 hc0_5
  unfold impl_AllFalls.f at h
  obtain ⟨ji, hji⟩ : ∃ j_ : Int, (mn 6 (l0_5.length : Int)) = j_ := ⟨_, rfl⟩
  rw [hji] at h
  have hjh : ji ≤ 6 := by (rw [← hji]; unfold mn; (repeat' split) <;> omega)
  have hjg : ji ≤ 64 := by omega
  have hjl : 0 ≤ ji := by (rw [← hji]; unfold mn; (repeat' split) <;> omega)
  have hji_ : (if (l0_5.length : Int) < 6 then (l0_5.length : Int) else 6) = ji := hji
  have H1 := aM h
  clear h
  go_enter Try.func52, Try.ntmps52
  go_wp2_with (first | ((with_reducible refine gate_dst (N := 1) rfl ?_); refine gBx 1 #[.slice A0_0 l0_0.length c0_0, .slice A0_1 l0_1.length c0_1, .int .i64 a0_2, .int .i64 a0_3, .int .i64 a0_4, .slice A0_5 l0_5.length c0_5] 33 ?_; intro g1 hg w2 hbox hb; have B1 := aM hbox; replace HB := aM (below_step HB.out hb); clear hb hbox hg; (simp only [Act.put, List.setIfInBounds_toArray, List.set_cons_zero, List.set_cons_succ])) | ((with_reducible refine gate_dst (N := 5) rfl ?_); refine Kd.S_lit kD _ 33 ?hg (N := 5) ?hd (xs := ([] : List S33)) (inner := []) (ok := fun _ => True) (okp := fun _ => True) ?hr ?hp (fun _ hk => hk) trivial (Below.refl _ _) (Nat.le_refl _) (by simp) ?_; (case hd => rfl); (case hg => rfl); (case hr => first | (go_simp; done) | (go_simp; rfl)); (case hp => exact (Reps.none _ _)); intro v3 w4 ho hb hg_ hnew_; have HO := aM (show Kd.S kD 33 _ w.heap.size (fun k => k ≠ g1) v3 [] from Kd.S_lower (Kd.S_mono (Kd.S_newB ho B1.out) (fun _ q => q.2)) HB.out.size); replace B1 := aM (blk_below B1.out hb); replace HB := aM (below_step HB.out hb); clear ho hb hg_ hnew_; (simp only [Act.put, List.setIfInBounds_toArray, List.set_cons_zero, List.set_cons_succ]); obtain ⟨hcz0, hcz1, hcz2, hcz3, hcz4, hcz5⟩ := cz6 B1.out))
  clear hcz0 hcz1 hcz2 hcz3 hcz4 hcz5
  go_loopg [3, 11] k (fun kq v3 v11 w' => ∃ (x : List S33) (i : Int), v11 = .int .i64 i ∧ Aside0 (impl_AllFalls.l0 kq x (wrap64 (2 ^ ji.toNat)) i l0_0 l0_1 a0_2 a0_3 a0_4 l0_5 = some r) ∧ Aside0 (kq ≤ k) ∧ Aside0 (Kd.S kD 33 w' w.heap.size (fun k => k ≠ g1) v3 x) ∧ Aside0 (w'.heap[g1]? = some (.cells #[.slice A0_0 l0_0.length c0_0, .slice A0_1 l0_1.length c0_1, .int .i64 a0_2, .int .i64 a0_3, .int .i64 a0_4, .slice A0_5 l0_5.length c0_5] 33 (0, 0))) ∧ Aside0 (Below w.heap.size w w'))
  case atStart => exact ⟨[], 0, rfl, H1, ⟨Nat.le_refl _⟩, HO, B1, HB⟩
  case round =>
    clear H1 HO B1 HB
    obtain ⟨x, i, rfl, HA, HK1, HO, B1, HB⟩ := hrel
    cases gk with
    | zero => exact absurd HA.out (by simp [impl_AllFalls.l0])
    | succ k1 =>
      have H := HA.out
      clear HA
      simp only [impl_AllFalls.l0] at H
      by_cases c3 : i < wrap64 (2 ^ ji.toNat)
      · rw [if_pos c3] at H
        have c3b : decide (i < wrap64 (2 ^ ji.toNat)) = true := decide_eq_true c3
        clear c3
        replace H := bE H
        obtain ⟨⟨f1, f2, f3, f4, f5, f6⟩, A5, H⟩ := H
        dsimp only at A5 H
        replace H := ifN H
        obtain ⟨cx, H⟩ := H
        have LX := aM cx
        have H' := aM H
        clear H cx
        go_wp2_with (first | ((with_reducible refine gate_dst (N := 15) rfl ?_); refine gLd 15 B1.out ?_; (simp only [Act.put, List.setIfInBounds_toArray, List.set_cons_zero, List.set_cons_succ])) | ((with_reducible refine gate_callee (f := 50) rfl ?_); refine gL (some 17) Try.func50 #[.agg #[.slice A0_0 l0_0.length c0_0, .slice A0_1 l0_1.length c0_1, .int .i64 a0_2, .int .i64 a0_3, .int .i64 a0_4, .slice A0_5 l0_5.length c0_5], .int .i64 i] ?_; refine (impl_Fall.calls k1 _ _ l0_0 _ _ l0_1 a0_2 a0_3 a0_4 _ _ l0_5 i f1 f2 f3 f4 f5 f6 _ (Kd.C_below HR0.out.1 HB.out) HR0.out.2 (Kd.C_below HR1.out.1 HB.out) HR1.out.2 (Kd.C_below HR5.out.1 HB.out) HR5.out.2 A5.out).mono ?_; rintro e_ w5 ⟨vA, vB, vP, rfl, ho1, ho2, ho3, hb⟩; refine ⟨_, rfl, ?_⟩; obtain ⟨N0, hM, hQ, hV, hZ⟩ := falls_at ho1 ho2 ho3 hb HO.out B1.out HB.out.size; obtain ⟨A7, c7, h1'⟩ := Kd.R_slice ho1; subst h1'; obtain ⟨A8, c8, h2'⟩ := Kd.R_slice ho2; subst h2'; obtain ⟨A9, c9, h3'⟩ := Kd.S_slice ho3; subst h3'; have HM := aM (show kD.M _ w.heap.size (fun k => N0 ≤ k) (⟨f1, f2, (⟨f3, f4, f5⟩ : S30), f6⟩ : S33) [.slice A7 f1.length c7, .slice A8 f2.length c8, .int .i64 f3, .int .i64 f4, .int .i64 f5, .slice A9 f6.length c9] from ⟨_, _, _, rfl, hM⟩); have HQ := aM hQ; have HV := aM hV; have HZ := aM hZ; replace B1 := aM (blk_below B1.out hb); replace HB := aM (below_step HB.out hb); clear ho1 ho2 ho3 hb HO hM hQ hV hZ; (simp only [Act.put, List.setIfInBounds_toArray, List.set_cons_zero, List.set_cons_succ])) | ((with_reducible refine gate_builtin (b := .append) (xs := #[.tmp 14, .tmp 18]) rfl ?_); at_builtin; refine Kd.S_append kD (w0 := w) w.heap.size rfl (.tmp 14) (.tmp 18) 69 33 (.agg #[(.slice none 0 0), (.slice none 0 0), (.int .i64 0), (.int .i64 0), (.int .i64 0), (.slice none 0 0)]) 96 rfl Try.underlying69 info33 rfl (by decide) (by omega) u3 x (⟨f1, f2, (⟨f3, f4, f5⟩ : S30), f6⟩ : S33) [.slice A7 f1.length c7, .slice A8 f2.length c8, .int .i64 f3, .int .i64 f4, .int .i64 f5, .slice A9 f6.length c9] (fun k => k ≠ g1) (fun k => N0 ≤ k) rfl rfl HM.out (fun k q => ⟨by have := HZ.out; omega, fun e => by have := HV.out k e.symm; omega⟩) (fun k q => Kd.freshB B1.out k q) HQ.out HB.out HB.out.size (by have := LX.out; omega) ?_; intro v1 w8 ho hb hg hat; replace B1 := aM (blk_grown B1.out hg (Kd.S_away HQ.out (fun k q => q.1))); have HO := aM ho; replace HB := aM hb; clear ho hb hg hat HQ HM HV HZ; (simp only [Act.put, List.setIfInBounds_toArray, List.set_cons_zero, List.set_cons_succ])))
        go_roundg k1
        case measure => have := HK1.out; omega
        case rel => exact ⟨_, _, rfl, H', ⟨by have := HK1.out; omega⟩, HO, B1, HB⟩
      · rw [if_neg c3] at H
        have c3b : decide (i < wrap64 (2 ^ ji.toNat)) = false := decide_eq_false c3
        clear c3
        obtain rfl := Option.some.inj H
        clear H
        go_wp2
        go_ret
        exact ⟨_, rfl, Kd.S_mono HO.out (fun _ _ => trivial), HB.out⟩

/-! ### laws_eqDiskS: function 53 -/
def laws_eqDiskS.l0 : Nat → List (S33) → List (S33) → Int → Option (Bool)
  | 0, _, _, _ => none
  | k + 1, x0, x1, x5 => if x5 < (x0.length : Int) then (if 0 ≤ x5 then (if x5 < (x1.length : Int) then ((laws_eqDisk.f k ((rd_T33 x0 x5).f0) ((rd_T33 x0 x5).f1) ((rd_T33 x0 x5).f2.f0) ((rd_T33 x0 x5).f2.f1) ((rd_T33 x0 x5).f2.f2) ((rd_T33 x0 x5).f3) ((rd_T33 x1 x5).f0) ((rd_T33 x1 x5).f1) ((rd_T33 x1 x5).f2.f0) ((rd_T33 x1 x5).f2.f1) ((rd_T33 x1 x5).f2.f2) ((rd_T33 x1 x5).f3)).bind fun t869 => (if t869 = true then (laws_eqDiskS.l0 k x0 x1 (wrap64 (x5 + 1))) else (some false))) else (none)) else (none)) else (some true)
def laws_eqDiskS.f (k : Nat) (l0 : List (S33)) (l1 : List (S33)) : Option (Bool) := if (l0.length : Int) = (l1.length : Int) then (laws_eqDiskS.l0 k l0 l1 0) else (some false)
theorem laws_eqDiskS.mono_l : ∀ k, (∀ y0 y1 y2, LeO (laws_eqDiskS.l0 k y0 y1 y2) (laws_eqDiskS.l0 (k + 1) y0 y1 y2))
  | 0 => fun _ _ _ r h => by simp [laws_eqDiskS.l0] at h
  | k + 1 => by
    have m0_ := @laws_eqDisk.mono
    have ih0 := laws_eqDiskS.mono_l k
    · intro y0 y1 y2
      unfold laws_eqDiskS.l0
      exact LM
theorem laws_eqDiskS.mono : ∀ a0 a1 k, LeO (laws_eqDiskS.f k a0 a1) (laws_eqDiskS.f (k + 1) a0 a1) := by
  intro a0 a1 k
  have m0_ := @laws_eqDisk.mono
  have ih0 := laws_eqDiskS.mono_l k
  unfold laws_eqDiskS.f
  exact LM
def laws_eqDiskS.T6 : Bool × List (List Nat × List Nat) := (true, [([], []), ([], []), ([0, 1], [0, 1]), ([2], [2]), ([], []), ([], []), ([4, 5], [4, 5]), ([6], [6]), ([3, 7], [3, 7]), ([8], [8])])
def laws_eqDiskS.B6 : List Nat := [0, 0, 3, 7, 0, 0, 48, 112, 255, 511]
theorem laws_eqDiskS.tab6 : rtab .any (opsOf Try.f53 6) = laws_eqDiskS.T6 := by kernel_rfl
theorem laws_eqDiskS.bits6 : waitsOk laws_eqDiskS.T6.2 laws_eqDiskS.B6 = true := by kernel_rfl
set_option maxHeartbeats 40000000 in
set_option maxRecDepth 100000 in
theorem laws_eqDiskS.calls (k : Nat) (A0 : Option Addr) (c0 : Nat) (l0 : List (S33)) (A1 : Option Addr) (c1 : Nat) (l1 : List (S33)) (r : Bool) (w : World) (hr0 : Kd.C k33 w A0 l0.length l0) (hc0 : l0.length ≤ c0) (hr1 : Kd.C k33 w A1 l1.length l1) (hc1 : l1.length ≤ c1) (h : laws_eqDiskS.f k l0 l1 = some r) :
  Calls Try.prog 53 #[.slice A0 l0.length c0, .slice A1 l1.length c1] w fun e w' => e = .returned (.bool r) ∧ Below w.heap.size w w' := by
 have hu33 := Try.underlying33
 have HR0 := aM hr0
 have HC0 := aM hc0
 clear hr0 hc0
 have HR1 := aM hr1
 have HC1 := aM hc1
 clear hr1 hc1
 have HB := aM (Below.refl w.heap.size w)
 have H := h
 clear h
 unfold laws_eqDiskS.f at H
 by_cases c3 : (l0.length : Int) = (l1.length : Int)
 ·rw [if_pos c3] at H
  have c3b0 : ((l0.length : Int) == (l1.length : Int)) = true := beq_iff_eq.mpr c3
  have c3b1 : ((l0.length : Int) != (l1.length : Int)) = false := bne_eq_false_iff_eq.mpr c3
  have c3b2 : (l0.length == l1.length) = true := by first | simpa using c3 | (simp at c3 ⊢; omega)
  clear c3
  have H' := aM H
  clear H
  go_enter Try.func53, Try.ntmps53
  go_wp2
  go_loopg [5] k (fun kq v5 w' => ∃ (aa : Int), v5 = .int .i64 aa ∧ Aside0 (laws_eqDiskS.l0 kq l0 l1 aa = some r) ∧ Aside0 (kq ≤ k) ∧ Aside0 (Below w.heap.size w w'))
  case atStart => exact ⟨(0), (by first | rfl | (simp; done) | (simp [*]; done)), H', ⟨Nat.le_refl _⟩, ⟨TB⟩⟩
  case round =>
   clear H'
   try clear c1
   try clear p2
   try clear c3
   try clear c3b0
   try clear c3b1
   try clear c3b2
   obtain ⟨aa, rfl, HA, HK1, HB⟩ := hrel
   cases gk with
   | zero => exact absurd HA.out (by simp [laws_eqDiskS.l0])
   | succ k1 =>
    have H := HA.out
    clear HA
    simp only [laws_eqDiskS.l0] at H
    by_cases c4 : aa < (l0.length : Int)
    ·rw [if_pos c4] at H
     have c4b0 : decide (aa < (l0.length : Int)) = true := decide_eq_true c4
     clear c4
     replace H := ifN H
     obtain ⟨c5, H⟩ := H
     have c5b0 : decide (0 ≤ aa) = true := decide_eq_true c5
     clear c5
     replace H := ifN H
     obtain ⟨c6, H⟩ := H
     have c6b0 : decide (aa < (l1.length : Int)) = true := decide_eq_true c6
     clear c6
     replace H := bE H
     obtain ⟨t869, A7, H⟩ := H
     by_cases c8 : t869 = true
     ·subst c8
      replace H := ifT H
      have H' := aM H
      clear H
      try go_wp2
      replace HB := aM (below_drew1 HB.out)
      have be : 0 ≤ (aa : Int) := DT
      have bg : aa < (l0.length : Int) := DT
      obtain ⟨ac, bd, aX, bc, a8, aW, a6, bp, af, an, ai, ao, ak, am, aN, aS, aR, aU, aJ, aL⟩ := at_T33 HR0.out aa be bg
      have ar := am
      have aq := ak
      have az := ao
      have au := ai
      have aw := an
      have aB := af
      cases bp
      replace af := (HB.out.cell (World.block_lt_of_cell? w _ af)).trans af
      replace an := (HB.out.cell (World.block_lt_of_cell? w _ an)).trans an
      replace ai := (HB.out.cell (World.block_lt_of_cell? w _ ai)).trans ai
      replace ao := (HB.out.cell (World.block_lt_of_cell? w _ ao)).trans ao
      replace ak := (HB.out.cell (World.block_lt_of_cell? w _ ak)).trans ak
      replace am := (HB.out.cell (World.block_lt_of_cell? w _ am)).trans am
      have aO := aM aS
      have bm := aM aN
      clear aS aN
      have aG := aM aU
      have bk := aM aR
      clear aU aR
      have aD := aM aL
      have bn := aM aJ
      clear aL aJ
      replace be := eq_true be
      replace bg := eq_true bg
      have bf : 0 ≤ (aa : Int) := DT
      have bh : aa < (l1.length : Int) := DT
      obtain ⟨ab, bb, a9, aY, ba, aZ, a7, bo, al, ah, ae, ad, aj, ag, aE, aT, aI, aP, aQ, aV⟩ := at_T33 HR1.out aa bf bh
      have ap := ag
      have aA := aj
      have aC := ad
      have ax := ae
      have ay := ah
      have av := al
      cases bo
      replace al := (HB.out.cell (World.block_lt_of_cell? w _ al)).trans al
      replace ah := (HB.out.cell (World.block_lt_of_cell? w _ ah)).trans ah
      replace ae := (HB.out.cell (World.block_lt_of_cell? w _ ae)).trans ae
      replace ad := (HB.out.cell (World.block_lt_of_cell? w _ ad)).trans ad
      replace aj := (HB.out.cell (World.block_lt_of_cell? w _ aj)).trans aj
      replace ag := (HB.out.cell (World.block_lt_of_cell? w _ ag)).trans ag
      have aF := aM aT
      have bl := aM aE
      clear aT aE
      have aH := aM aP
      have bi := aM aI
      clear aP aI
      have aK := aM aV
      have bj := aM aQ
      clear aV aQ
      replace bf := eq_true bf
      replace bh := eq_true bh
      refine start_ (n := 10) (S := fun w' => w'.cell? (ac.add ((aa).toNat * 6)) = some (.slice bd ((rd_T33 l0 aa).f0).length aX) ∧ w'.cell? ⟨(ac.add ((aa).toNat * 6)).block, (ac.add ((aa).toNat * 6)).off + 1, none⟩ = some (.slice bc ((rd_T33 l0 aa).f1).length a8) ∧ w'.cell? ⟨(ac.add ((aa).toNat * 6)).block, (ac.add ((aa).toNat * 6)).off + 2, none⟩ = some (.int .i64 ((rd_T33 l0 aa).f2.f0)) ∧ w'.cell? ⟨(ac.add ((aa).toNat * 6)).block, (ac.add ((aa).toNat * 6)).off + 3, none⟩ = some (.int .i64 ((rd_T33 l0 aa).f2.f1)) ∧ w'.cell? ⟨(ac.add ((aa).toNat * 6)).block, (ac.add ((aa).toNat * 6)).off + 4, none⟩ = some (.int .i64 ((rd_T33 l0 aa).f2.f2)) ∧ w'.cell? ⟨(ac.add ((aa).toNat * 6)).block, (ac.add ((aa).toNat * 6)).off + 5, none⟩ = some (.slice aW ((rd_T33 l0 aa).f3).length a6) ∧ w'.cell? (ab.add ((aa).toNat * 6)) = some (.slice bb ((rd_T33 l1 aa).f0).length a9) ∧ w'.cell? ⟨(ab.add ((aa).toNat * 6)).block, (ab.add ((aa).toNat * 6)).off + 1, none⟩ = some (.slice aY ((rd_T33 l1 aa).f1).length ba) ∧ w'.cell? ⟨(ab.add ((aa).toNat * 6)).block, (ab.add ((aa).toNat * 6)).off + 2, none⟩ = some (.int .i64 ((rd_T33 l1 aa).f2.f0)) ∧ w'.cell? ⟨(ab.add ((aa).toNat * 6)).block, (ab.add ((aa).toNat * 6)).off + 3, none⟩ = some (.int .i64 ((rd_T33 l1 aa).f2.f1)) ∧ w'.cell? ⟨(ab.add ((aa).toNat * 6)).block, (ab.add ((aa).toNat * 6)).off + 4, none⟩ = some (.int .i64 ((rd_T33 l1 aa).f2.f2)) ∧ w'.cell? ⟨(ab.add ((aa).toNat * 6)).block, (ab.add ((aa).toNat * 6)).off + 5, none⟩ = some (.slice aZ ((rd_T33 l1 aa).f3).length a7)) (ds := []) (Array.replicate 10 false) (by kernel_rfl) rfl rfl ⟨((HB.out.cell (World.block_lt_of_cell? w _ aB)).trans aB), ((HB.out.cell (World.block_lt_of_cell? w _ aw)).trans aw), ((HB.out.cell (World.block_lt_of_cell? w _ au)).trans au), ((HB.out.cell (World.block_lt_of_cell? w _ az)).trans az), ((HB.out.cell (World.block_lt_of_cell? w _ aq)).trans aq), ((HB.out.cell (World.block_lt_of_cell? w _ ar)).trans ar), ((HB.out.cell (World.block_lt_of_cell? w _ av)).trans av), ((HB.out.cell (World.block_lt_of_cell? w _ ay)).trans ay), ((HB.out.cell (World.block_lt_of_cell? w _ ax)).trans ax), ((HB.out.cell (World.block_lt_of_cell? w _ aC)).trans aC), ((HB.out.cell (World.block_lt_of_cell? w _ aA)).trans aA), ((HB.out.cell (World.block_lt_of_cell? w _ ap)).trans ap)⟩ (fun hHeld => ?_); refine with_tabW laws_eqDiskS.tab6 laws_eqDiskS.bits6 (fun HT_ HW_ => ?_)
      generalize wr.drew = w9 at HB aO aG aD aF aH aK af an ai ao ak am al ah ae ad aj ag hHeld ⊢
      refine pP 0 (some 17) ?_
      refine pP 1 (some 18) ?_
      refine pP 2 (some 19) ?_
      refine pP 4 (some 21) ?_
      refine pP 5 (some 22) ?_
      refine pP 6 (some 23) ?_
      refine pT 3 (some 20) ?_
      refine pT 7 (some 24) ?_
      refine pO 8 (some 25) (fun K hK => ?_)
      refine gG Try.func19 #[.agg #[.slice bd ((rd_T33 l0 aa).f0).length aX, .slice bc ((rd_T33 l0 aa).f1).length a8, .int .i64 ((rd_T33 l0 aa).f2.f0), .int .i64 ((rd_T33 l0 aa).f2.f1), .int .i64 ((rd_T33 l0 aa).f2.f2), .slice aW ((rd_T33 l0 aa).f3).length a6], .agg #[.slice bb ((rd_T33 l1 aa).f0).length a9, .slice aY ((rd_T33 l1 aa).f1).length ba, .int .i64 ((rd_T33 l1 aa).f2.f0), .int .i64 ((rd_T33 l1 aa).f2.f1), .int .i64 ((rd_T33 l1 aa).f2.f2), .slice aZ ((rd_T33 l1 aa).f3).length a7]] ?_
      with_reducible refine (laws_eqDisk.calls k1 _ _ ((rd_T33 l0 aa).f0) _ _ ((rd_T33 l0 aa).f1) ((rd_T33 l0 aa).f2.f0) ((rd_T33 l0 aa).f2.f1) ((rd_T33 l0 aa).f2.f2) _ _ ((rd_T33 l0 aa).f3) _ _ ((rd_T33 l1 aa).f0) _ _ ((rd_T33 l1 aa).f1) ((rd_T33 l1 aa).f2.f0) ((rd_T33 l1 aa).f2.f1) ((rd_T33 l1 aa).f2.f2) _ _ ((rd_T33 l1 aa).f3) true _ ?side1 ?side2 ?side3 ?side4 ?side5 ?side6 ?side7 ?side8 ?side9 ?side10 ?side11 ?side12 A7.out).mono ?_
      (case side1 => have X_ := (Kd.C_below aO.out HB.out); exact TC)
      (case side2 => exact bm.out)
      (case side3 => have X_ := (Kd.C_below aG.out HB.out); exact TC)
      (case side4 => exact bk.out)
      (case side5 => have X_ := (Kd.C_below aD.out HB.out); exact TC)
      (case side6 => exact bn.out)
      (case side7 => have X_ := (Kd.C_below aF.out HB.out); exact TC)
      (case side8 => exact bl.out)
      (case side9 => have X_ := (Kd.C_below aH.out HB.out); exact TC)
      (case side10 => exact bi.out)
      (case side11 => have X_ := (Kd.C_below aK.out HB.out); exact TC)
      (case side12 => exact bj.out)
      rintro e w10 ⟨rfl, hb⟩
      refine ⟨_, rfl, ?_⟩
      have n0_ := aM (below_step TB hb)
      clear HB
      have HB := n0_
      clear n0_
      (try clear hb)
      (try clear hb2)
      (try clear hk)
      (try clear hi)
      refine hK.out _ _ ⟨((HB.out.cell (World.block_lt_of_cell? w _ aB)).trans aB), ((HB.out.cell (World.block_lt_of_cell? w _ aw)).trans aw), ((HB.out.cell (World.block_lt_of_cell? w _ au)).trans au), ((HB.out.cell (World.block_lt_of_cell? w _ az)).trans az), ((HB.out.cell (World.block_lt_of_cell? w _ aq)).trans aq), ((HB.out.cell (World.block_lt_of_cell? w _ ar)).trans ar), ((HB.out.cell (World.block_lt_of_cell? w _ av)).trans av), ((HB.out.cell (World.block_lt_of_cell? w _ ay)).trans ay), ((HB.out.cell (World.block_lt_of_cell? w _ ax)).trans ax), ((HB.out.cell (World.block_lt_of_cell? w _ aC)).trans aC), ((HB.out.cell (World.block_lt_of_cell? w _ aA)).trans aA), ((HB.out.cell (World.block_lt_of_cell? w _ ap)).trans ap)⟩ (fun hHeld => ?_)
      clear hK K
      refine nR ?_
      refine pP 9 (some 26) ?_
      refine done_ (done_of HT_.out (by kernel_rfl)) ?_
      try go_wp2
      go_roundg k1
      case measure => have := HK1.out; omega
      case rel => exact ⟨(wrap64 (aa + 1)), (by first | rfl | (simp; done) | (simp [*]; done)), H', ⟨by have := HK1.out; omega⟩, ⟨TB⟩⟩
     ·replace c8 := Bool.eq_false_iff.mpr c8
      subst c8
      replace H := ifF H
      obtain rfl := Option.some.inj H
      try go_wp2
      replace HB := aM (below_drew1 HB.out)
      have be : 0 ≤ (aa : Int) := DT
      have bg : aa < (l0.length : Int) := DT
      obtain ⟨ac, bd, aX, bc, a8, aW, a6, bp, af, an, ai, ao, ak, am, aN, aS, aR, aU, aJ, aL⟩ := at_T33 HR0.out aa be bg
      have ar := am
      have aq := ak
      have az := ao
      have au := ai
      have aw := an
      have aB := af
      cases bp
      replace af := (HB.out.cell (World.block_lt_of_cell? w _ af)).trans af
      replace an := (HB.out.cell (World.block_lt_of_cell? w _ an)).trans an
      replace ai := (HB.out.cell (World.block_lt_of_cell? w _ ai)).trans ai
      replace ao := (HB.out.cell (World.block_lt_of_cell? w _ ao)).trans ao
      replace ak := (HB.out.cell (World.block_lt_of_cell? w _ ak)).trans ak
      replace am := (HB.out.cell (World.block_lt_of_cell? w _ am)).trans am
      have aO := aM aS
      have bm := aM aN
      clear aS aN
      have aG := aM aU
      have bk := aM aR
      clear aU aR
      have aD := aM aL
      have bn := aM aJ
      clear aL aJ
      replace be := eq_true be
      replace bg := eq_true bg
      have bf : 0 ≤ (aa : Int) := DT
      have bh : aa < (l1.length : Int) := DT
      obtain ⟨ab, bb, a9, aY, ba, aZ, a7, bo, al, ah, ae, ad, aj, ag, aE, aT, aI, aP, aQ, aV⟩ := at_T33 HR1.out aa bf bh
      have ap := ag
      have aA := aj
      have aC := ad
      have ax := ae
      have ay := ah
      have av := al
      cases bo
      replace al := (HB.out.cell (World.block_lt_of_cell? w _ al)).trans al
      replace ah := (HB.out.cell (World.block_lt_of_cell? w _ ah)).trans ah
      replace ae := (HB.out.cell (World.block_lt_of_cell? w _ ae)).trans ae
      replace ad := (HB.out.cell (World.block_lt_of_cell? w _ ad)).trans ad
      replace aj := (HB.out.cell (World.block_lt_of_cell? w _ aj)).trans aj
      replace ag := (HB.out.cell (World.block_lt_of_cell? w _ ag)).trans ag
      have aF := aM aT
      have bl := aM aE
      clear aT aE
      have aH := aM aP
      have bi := aM aI
      clear aP aI
      have aK := aM aV
      have bj := aM aQ
      clear aV aQ
      replace bf := eq_true bf
      replace bh := eq_true bh
      refine start_ (n := 10) (S := fun w' => w'.cell? (ac.add ((aa).toNat * 6)) = some (.slice bd ((rd_T33 l0 aa).f0).length aX) ∧ w'.cell? ⟨(ac.add ((aa).toNat * 6)).block, (ac.add ((aa).toNat * 6)).off + 1, none⟩ = some (.slice bc ((rd_T33 l0 aa).f1).length a8) ∧ w'.cell? ⟨(ac.add ((aa).toNat * 6)).block, (ac.add ((aa).toNat * 6)).off + 2, none⟩ = some (.int .i64 ((rd_T33 l0 aa).f2.f0)) ∧ w'.cell? ⟨(ac.add ((aa).toNat * 6)).block, (ac.add ((aa).toNat * 6)).off + 3, none⟩ = some (.int .i64 ((rd_T33 l0 aa).f2.f1)) ∧ w'.cell? ⟨(ac.add ((aa).toNat * 6)).block, (ac.add ((aa).toNat * 6)).off + 4, none⟩ = some (.int .i64 ((rd_T33 l0 aa).f2.f2)) ∧ w'.cell? ⟨(ac.add ((aa).toNat * 6)).block, (ac.add ((aa).toNat * 6)).off + 5, none⟩ = some (.slice aW ((rd_T33 l0 aa).f3).length a6) ∧ w'.cell? (ab.add ((aa).toNat * 6)) = some (.slice bb ((rd_T33 l1 aa).f0).length a9) ∧ w'.cell? ⟨(ab.add ((aa).toNat * 6)).block, (ab.add ((aa).toNat * 6)).off + 1, none⟩ = some (.slice aY ((rd_T33 l1 aa).f1).length ba) ∧ w'.cell? ⟨(ab.add ((aa).toNat * 6)).block, (ab.add ((aa).toNat * 6)).off + 2, none⟩ = some (.int .i64 ((rd_T33 l1 aa).f2.f0)) ∧ w'.cell? ⟨(ab.add ((aa).toNat * 6)).block, (ab.add ((aa).toNat * 6)).off + 3, none⟩ = some (.int .i64 ((rd_T33 l1 aa).f2.f1)) ∧ w'.cell? ⟨(ab.add ((aa).toNat * 6)).block, (ab.add ((aa).toNat * 6)).off + 4, none⟩ = some (.int .i64 ((rd_T33 l1 aa).f2.f2)) ∧ w'.cell? ⟨(ab.add ((aa).toNat * 6)).block, (ab.add ((aa).toNat * 6)).off + 5, none⟩ = some (.slice aZ ((rd_T33 l1 aa).f3).length a7)) (ds := []) (Array.replicate 10 false) (by kernel_rfl) rfl rfl ⟨((HB.out.cell (World.block_lt_of_cell? w _ aB)).trans aB), ((HB.out.cell (World.block_lt_of_cell? w _ aw)).trans aw), ((HB.out.cell (World.block_lt_of_cell? w _ au)).trans au), ((HB.out.cell (World.block_lt_of_cell? w _ az)).trans az), ((HB.out.cell (World.block_lt_of_cell? w _ aq)).trans aq), ((HB.out.cell (World.block_lt_of_cell? w _ ar)).trans ar), ((HB.out.cell (World.block_lt_of_cell? w _ av)).trans av), ((HB.out.cell (World.block_lt_of_cell? w _ ay)).trans ay), ((HB.out.cell (World.block_lt_of_cell? w _ ax)).trans ax), ((HB.out.cell (World.block_lt_of_cell? w _ aC)).trans aC), ((HB.out.cell (World.block_lt_of_cell? w _ aA)).trans aA), ((HB.out.cell (World.block_lt_of_cell? w _ ap)).trans ap)⟩ (fun hHeld => ?_); refine with_tabW laws_eqDiskS.tab6 laws_eqDiskS.bits6 (fun HT_ HW_ => ?_)
      generalize wr.drew = w11 at HB aO aG aD aF aH aK af an ai ao ak am al ah ae ad aj ag hHeld ⊢
      refine pP 0 (some 17) ?_
      refine pP 1 (some 18) ?_
      refine pP 2 (some 19) ?_
      refine pP 4 (some 21) ?_
      refine pP 5 (some 22) ?_
      refine pP 6 (some 23) ?_
      refine pT 3 (some 20) ?_
      refine pT 7 (some 24) ?_
      refine pO 8 (some 25) (fun K hK => ?_)
      refine gG Try.func19 #[.agg #[.slice bd ((rd_T33 l0 aa).f0).length aX, .slice bc ((rd_T33 l0 aa).f1).length a8, .int .i64 ((rd_T33 l0 aa).f2.f0), .int .i64 ((rd_T33 l0 aa).f2.f1), .int .i64 ((rd_T33 l0 aa).f2.f2), .slice aW ((rd_T33 l0 aa).f3).length a6], .agg #[.slice bb ((rd_T33 l1 aa).f0).length a9, .slice aY ((rd_T33 l1 aa).f1).length ba, .int .i64 ((rd_T33 l1 aa).f2.f0), .int .i64 ((rd_T33 l1 aa).f2.f1), .int .i64 ((rd_T33 l1 aa).f2.f2), .slice aZ ((rd_T33 l1 aa).f3).length a7]] ?_
      with_reducible refine (laws_eqDisk.calls k1 _ _ ((rd_T33 l0 aa).f0) _ _ ((rd_T33 l0 aa).f1) ((rd_T33 l0 aa).f2.f0) ((rd_T33 l0 aa).f2.f1) ((rd_T33 l0 aa).f2.f2) _ _ ((rd_T33 l0 aa).f3) _ _ ((rd_T33 l1 aa).f0) _ _ ((rd_T33 l1 aa).f1) ((rd_T33 l1 aa).f2.f0) ((rd_T33 l1 aa).f2.f1) ((rd_T33 l1 aa).f2.f2) _ _ ((rd_T33 l1 aa).f3) false _ ?side1 ?side2 ?side3 ?side4 ?side5 ?side6 ?side7 ?side8 ?side9 ?side10 ?side11 ?side12 A7.out).mono ?_
      (case side1 => have X_ := (Kd.C_below aO.out HB.out); exact TC)
      (case side2 => exact bm.out)
      (case side3 => have X_ := (Kd.C_below aG.out HB.out); exact TC)
      (case side4 => exact bk.out)
      (case side5 => have X_ := (Kd.C_below aD.out HB.out); exact TC)
      (case side6 => exact bn.out)
      (case side7 => have X_ := (Kd.C_below aF.out HB.out); exact TC)
      (case side8 => exact bl.out)
      (case side9 => have X_ := (Kd.C_below aH.out HB.out); exact TC)
      (case side10 => exact bi.out)
      (case side11 => have X_ := (Kd.C_below aK.out HB.out); exact TC)
      (case side12 => exact bj.out)
      rintro e w12 ⟨rfl, hb⟩
      refine ⟨_, rfl, ?_⟩
      have n0_ := aM (below_step TB hb)
      clear HB
      have HB := n0_
      clear n0_
      (try clear hb)
      (try clear hb2)
      (try clear hk)
      (try clear hi)
      refine hK.out _ _ ⟨((HB.out.cell (World.block_lt_of_cell? w _ aB)).trans aB), ((HB.out.cell (World.block_lt_of_cell? w _ aw)).trans aw), ((HB.out.cell (World.block_lt_of_cell? w _ au)).trans au), ((HB.out.cell (World.block_lt_of_cell? w _ az)).trans az), ((HB.out.cell (World.block_lt_of_cell? w _ aq)).trans aq), ((HB.out.cell (World.block_lt_of_cell? w _ ar)).trans ar), ((HB.out.cell (World.block_lt_of_cell? w _ av)).trans av), ((HB.out.cell (World.block_lt_of_cell? w _ ay)).trans ay), ((HB.out.cell (World.block_lt_of_cell? w _ ax)).trans ax), ((HB.out.cell (World.block_lt_of_cell? w _ aC)).trans aC), ((HB.out.cell (World.block_lt_of_cell? w _ aA)).trans aA), ((HB.out.cell (World.block_lt_of_cell? w _ ap)).trans ap)⟩ (fun hHeld => ?_)
      clear hK K
      refine nR ?_
      refine pP 9 (some 26) ?_
      refine done_ (done_of HT_.out (by kernel_rfl)) ?_
      try go_wp2
      go_ret
      exact ⟨by first | rfl | (simp [errW_none, errW_some] <;> rfl) | (simp [*, errW_none, errW_some] <;> rfl), TB⟩
    ·rw [if_neg c4] at H
     have c4b0 : decide (aa < (l0.length : Int)) = false := decide_eq_false c4
     clear c4
     obtain rfl := Option.some.inj H
     go_wp2
     go_ret
     exact ⟨by first | rfl | (simp [errW_none, errW_some] <;> rfl) | (simp [*, errW_none, errW_some] <;> rfl), TB⟩
 ·rw [if_neg c3] at H
  have c3b0 : ((l0.length : Int) == (l1.length : Int)) = false := beq_eq_false_iff_ne.mpr c3
  have c3b1 : ((l0.length : Int) != (l1.length : Int)) = true := bne_iff_ne.mpr c3
  have c3b2 : (l0.length == l1.length) = false := by first | simpa using c3 | (simp at c3 ⊢; omega)
  obtain rfl := Option.some.inj H
  go_enter Try.func53, Try.ntmps53
  go_wp2
  go_ret
  exact ⟨by first | rfl | (simp [errW_none, errW_some] <;> rfl) | (simp [*, errW_none, errW_some] <;> rfl), TB⟩

end Go.Proofs.Ytogilihkphjjbaa.Q
