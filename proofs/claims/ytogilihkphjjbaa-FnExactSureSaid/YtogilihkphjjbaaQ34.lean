/- Functions of the program as plain Lean functions, and that a call of each comes to what its function tells. Written by a program of this seat. -/
import Derived.Test.YtogilihkphjjbaaQ0
import Derived.Test.YtogilihkphjjbaaQ33
namespace Go.Proofs.Ytogilihkphjjbaa.Q
open Go.RowKit Go.Proofs.YtogilihkphjjbaaW.PrintWords Go.Proofs.YtogilihkphjjbaaW.PrintLast Go.Proofs.YtogilihkphjjbaaW.PrintMore
attribute [local go_sem] max2_int min2_int max_two min_two max_three min_three max_four min_four   -- for this text's walks alone
set_option linter.unusedVariables false
set_option linter.unusedSimpArgs false

/-! ### spec_l9Copy: function 76 -/
def spec_l9Copy.l0 : Nat → Int → List Int → List Int → Int → Int → Int → List (S55) → List Int → List Int → Int → Int → Int → List (S55) → Option (List Int × List Int × Int × Int × Int × (List (S55)))
  | 0, _, _, _, _, _, _, _, _, _, _, _, _, _ => none
  | k + 1, x4, x543000, x543001, x543002, x543003, x543004, x543005, x560000, x560001, x560002, x560003, x560004, x560005 => if x4 < (x543005.length : Int) then (if 0 ≤ x4 then ((spec_l9CopyPut.f ((rd_T55 x543005 x4).f0) ((rd_T55 x543005 x4).f1) ((rd_T55 x543005 x4).f2) ((rd_T55 x543005 x4).f3.f0) ((rd_T55 x543005 x4).f3.f1) ((rd_T55 x543005 x4).f3.f2)).bind fun bt561 => (if x560005.length < 2199023255552 then (spec_l9Copy.l0 k (wrap64 (x4 + 1)) x543000 x543001 x543002 x543003 x543004 x543005 x560000 x560001 x560002 x560003 x560004 (x560005 ++ [(⟨bt561.1, bt561.2.1, bt561.2.2.1, (⟨bt561.2.2.2.1, bt561.2.2.2.2.1, bt561.2.2.2.2.2⟩ : S30)⟩ : S55)])) else (none))) else (none)) else (some (x560000, x560001, x560002, x560003, x560004, x560005))
def spec_l9Copy.f (k : Nat) (l0_0 : List Int) (l0_1 : List Int) (a0_2 : Int) (a0_3 : Int) (a0_4 : Int) (l0_5 : List (S55)) : Option (List Int × List Int × Int × Int × Int × (List (S55))) := (some (([] : List Int) : List Int)).bind fun y544 => (if y544.length + l0_0.length < 140737488355328 then ((some (([] : List Int) : List Int)).bind fun y550 => (if y550.length + l0_1.length < 140737488355328 then (spec_l9Copy.l0 k 0 l0_0 l0_1 a0_2 a0_3 a0_4 l0_5 (y544 ++ l0_0) (y550 ++ l0_1) a0_2 a0_3 a0_4 (([] : List (S55)))) else (none))) else (none))
theorem spec_l9Copy.mono_l : ∀ k, (∀ y0 y1 y2 y3 y4 y5 y6 y7 y8 y9 y10 y11 y12, LeO (spec_l9Copy.l0 k y0 y1 y2 y3 y4 y5 y6 y7 y8 y9 y10 y11 y12) (spec_l9Copy.l0 (k + 1) y0 y1 y2 y3 y4 y5 y6 y7 y8 y9 y10 y11 y12))
  | 0 => fun _ _ _ _ _ _ _ _ _ _ _ _ _ r h => by simp [spec_l9Copy.l0] at h
  | k + 1 => by
    have ih0 := spec_l9Copy.mono_l k
    · intro y0 y1 y2 y3 y4 y5 y6 y7 y8 y9 y10 y11 y12
      unfold spec_l9Copy.l0
      exact LM
theorem spec_l9Copy.mono : ∀ a0 a1 a2 a3 a4 a5 k, LeO (spec_l9Copy.f k a0 a1 a2 a3 a4 a5) (spec_l9Copy.f (k + 1) a0 a1 a2 a3 a4 a5) := by
  intro a0 a1 a2 a3 a4 a5 k
  have ih0 := spec_l9Copy.mono_l k
  unfold spec_l9Copy.f
  exact LM
def spec_l9Copy.T1 : Bool × List (List Nat × List Nat) := (true, [([], []), ([], []), ([1], [1]), ([0, 2], [0, 2]), ([], []), ([], []), ([5], [5]), ([4, 6, 3], [4, 6]), ([], []), ([8], [8]), ([], []), ([3, 7, 9, 10], [3, 7, 9, 10]), ([], []), ([12, 11, 7, 0, 1, 2, 3, 4, 5, 6, 7, 8, 9, 10, 11, 12], [11, 12])])
def spec_l9Copy.B1 : List Nat := [0, 0, 2, 7, 0, 0, 32, 127, 0, 256, 0, 2047, 0, 8191]
theorem spec_l9Copy.tab1 : rtab .any (opsOf Try.f76 1) = spec_l9Copy.T1 := by kernel_rfl
theorem spec_l9Copy.bits1 : waitsOk spec_l9Copy.T1.2 spec_l9Copy.B1 = true := by kernel_rfl
theorem spec_l9Copy.nM {P : Program} {md : Region.Mode} {ops : Array Oper} {Q : Exit → Act → World → Prop} {S : World → Prop} {ds : List Nat} {n : Nat} {l : Array Bool} {a a' : Act} {w : World} (h : wpAnyLast P md ops Q S ds n l a' w) (e : a = a' := by first | (simp only [putAll, Act.put, List.setIfInBounds_toArray, List.set_cons_zero, List.set_cons_succ]; done) | (simp only [putAll, Act.put, List.setIfInBounds_toArray, List.set_cons_zero, List.set_cons_succ]; rfl)) : wpAnyLast P md ops Q S ds n l a w := norm_ e h
set_option maxHeartbeats 40000000 in
set_option maxRecDepth 100000 in
theorem spec_l9Copy.calls (k : Nat) (am : Option Addr) (al : Nat) (aj : List Int) (ao : Option Addr) (ap : Nat) (ak : List Int) (af : Int) (ag : Int) (ah : Int) (aq : Option Addr) (an : Nat) (ai : List (S55)) (r1 : List Int) (r2 : List Int) (r3 : Int) (r4 : Int) (r5 : Int) (r6 : List (S55)) (w : World) (cD : Kd.C (Kd.int .u8) w am aj.length aj) (cI : aj.length ≤ al) (cG : Kd.C (Kd.int .u8) w ao ak.length ak) (cC : ak.length ≤ ap) (cE : Kd.C k55 w aq ai.length ai) (cF : ai.length ≤ an) (h : spec_l9Copy.f k aj ak af ag ah ai = some (r1, r2, r3, r4, r5, r6)) :
  Calls Try.prog 76 #[.agg #[.slice am aj.length al, .slice ao ak.length ap, .int .i64 af, .int .i64 ag, .int .i64 ah, .slice aq ai.length an]] w fun e w' => ∃ v0_ v1_ v5_ : Value, e = .returned (.agg #[v0_, v1_, .int .i64 r3, .int .i64 r4, .int .i64 r5, v5_]) ∧ Kd.R (Kd.int .u8) 5 w' w.heap.size (fun k_ => some k_ ≠ (v1_ : Value).ownBlock) v0_ r1 ∧ Kd.R (Kd.int .u8) 5 w' w.heap.size (fun k_ => some k_ ≠ (v0_ : Value).ownBlock) v1_ r2 ∧ Kd.S k55 55 w' w.heap.size (fun k_ => some k_ ≠ (v0_ : Value).ownBlock ∧ some k_ ≠ (v1_ : Value).ownBlock) v5_ r6 ∧ Below w.heap.size w w' := by
 have hu33 := Try.underlying33
 have hu30 := Try.underlying30
 have hu55 := Try.underlying55
 have bC := aM cD
 have HC0_0 := aM cI
 clear cD cI
 have b5 := aM cG
 have HC0_1 := aM cC
 clear cG cC
 have HR0_5 := aM cE
 have HC0_5 := aM cF
 clear cE cF
 have HB := aM (Below.refl w.heap.size w)
 have H := h
 clear h
 unfold spec_l9Copy.f at H
 obtain ⟨bi, cm⟩ : ∃ y_ : List Int, y_ = (([] : List Int)) := ⟨_, rfl⟩
 replace H := someE H cm
 have bm := aM cm
 clear cm
 replace H := ifN H
 obtain ⟨c2, H⟩ := H
 have bM := aM c2
 clear c2
 obtain ⟨aJ, cl⟩ : ∃ y_ : List Int, y_ = (bi ++ aj) := ⟨_, rfl⟩
 rw [← cl] at H
 have bB := aM cl
 clear cl
 obtain ⟨be, cq⟩ : ∃ y_ : List Int, y_ = (([] : List Int)) := ⟨_, rfl⟩
 replace H := someE H cq
 have bd := aM cq
 clear cq
 replace H := ifN H
 obtain ⟨c3, H⟩ := H
 have cj := aM c3
 clear c3
 obtain ⟨aN, ck⟩ : ∃ y_ : List Int, y_ = (be ++ ak) := ⟨_, rfl⟩
 rw [← ck] at H
 have b4 := aM ck
 clear ck
 obtain ⟨aV, cn⟩ : ∃ y_ : List (S55), y_ = (([] : List (S55))) := ⟨_, rfl⟩
 rw [← cn] at H
 have aY := aM cn
 clear cn
 have H' := aM H
 clear H
 go_enter Try.func76, Try.ntmps76
 try go_wp2_with (first | ((with_reducible refine gate_dst (N := 1) rfl ?_); refine gBx 1 #[.slice am aj.length al, .slice ao ak.length ap, .int .i64 af, .int .i64 ag, .int .i64 ah, .slice aq ai.length an] 33 ?_; intro aa hg w4 hbox hb; have ac := aM (hbox); have GW542 := aM ((by rw [hg]; exact (below_size TB) : w.heap.size ≤ aa)); have GE542 := aM ((by rw [hg]; exact (below_size TB) : w.heap.size ≤ aa)); replace HB := aM (below_step TB hb); clear hb hbox hg) | ((with_reducible refine gate_dst (N := 2) rfl ?_); refine gBx 2 #[.slice none 0 0, .slice none 0 0, .int .i64 0, .int .i64 0, .int .i64 0, .slice none 0 0] 33 ?_; intro gb543 hg w5 hbox hb; have ae := aM (hbox); have GW543 := aM ((by rw [hg]; exact (below_size TB) : w.heap.size ≤ gb543)); have GE543 := aM ((by rw [hg]; exact (below_size TB) : w.heap.size ≤ gb543)); have NB542_543 := aM ((by rw [hg]; exact Nat.ne_of_lt (blk_lt (g := aa) (o := .cells #[.slice am aj.length al, .slice ao ak.length ap, .int .i64 af, .int .i64 ag, .int .i64 ah, .slice aq ai.length an] 33 (0, 0)) TK) : aa ≠ gb543)); have NB543_542 := aM ((by rw [hg]; exact Nat.ne_of_gt (blk_lt (g := aa) (o := .cells #[.slice am aj.length al, .slice ao ak.length ap, .int .i64 af, .int .i64 ag, .int .i64 ah, .slice aq ai.length an] 33 (0, 0)) TK) : gb543 ≠ aa)); replace ac := aM (blk_below (g := aa) (o := .cells #[.slice am aj.length al, .slice ao ak.length ap, .int .i64 af, .int .i64 ag, .int .i64 ah, .slice aq ai.length an] 33 (0, 0)) TK hb); replace HB := aM (below_step TB hb); clear hb hbox hg))
 replace ac := aM (blk_drew ac.out)
 replace ae := aM (blk_drew ae.out)
 replace HB := aM (below_drew1 HB.out)
 refine start_ (n := 14) (S := fun w' => w'.cell? ⟨aa, 0, none⟩ = some (.slice am aj.length al) ∧ w'.cell? ⟨aa, 1, none⟩ = some (.slice ao ak.length ap) ∧ w'.cell? ⟨aa, 2, none⟩ = some (.int .i64 af) ∧ w'.cell? ⟨aa, 3, none⟩ = some (.int .i64 ag) ∧ w'.cell? ⟨aa, 4, none⟩ = some (.int .i64 ah) ∧ w'.cell? ⟨aa, 5, none⟩ = some (.slice aq ai.length an)) (ds := []) #[false, false, false, false, false, false, false, false, false, false, false, false, false, false] (by kernel_rfl) rfl rfl (cz6 ac.out) (fun hHeld => ?_); refine with_tabW spec_l9Copy.tab1 spec_l9Copy.bits1 (fun HT_ HW_ => ?_)
 generalize w5.drew = w6 at ac ae HB hHeld ⊢
 refine pPe 1 (some 7) #[false, true, false, false, false, false, false, false, false, false, false, false, false, false] ?_
 refine pPe 5 (some 11) #[false, true, false, false, false, true, false, false, false, false, false, false, false, false] ?_
 refine pPe 8 (some 14) #[false, true, false, false, false, true, false, false, true, false, false, false, false, false] ?_
 refine pTe 2 (some 8) #[false, true, true, false, false, true, false, false, true, false, false, false, false, false] ?_
 refine pTe 6 (some 12) #[false, true, true, false, false, true, true, false, true, false, false, false, false, false] ?_
 refine pTe 9 (some 15) #[false, true, true, false, false, true, true, false, true, true, false, false, false, false] ?_
 refine join_ (σ := Value × Value × Value × Value × Value × Nat) 1 #[true, true, true, true, true, true, true, true, true, true, true, true, true, false] (fun s_ => [(6, s_.1), (9, s_.2.1), (10, s_.2.2.1), (13, s_.2.2.2.1), (16, s_.2.2.2.2.1), (3, .pointer (some ⟨s_.2.2.2.2.2, 0, none⟩)), (17, .agg #[s_.2.1, s_.2.2.2.1, .int .i64 af, .int .i64 ag, .int .i64 ah, s_.2.2.2.2.1])]) (fun s_ w' => (w'.cell? ⟨aa, 0, none⟩ = some (.slice am aj.length al) ∧ w'.cell? ⟨aa, 1, none⟩ = some (.slice ao ak.length ap) ∧ w'.cell? ⟨aa, 2, none⟩ = some (.int .i64 af) ∧ w'.cell? ⟨aa, 3, none⟩ = some (.int .i64 ag) ∧ w'.cell? ⟨aa, 4, none⟩ = some (.int .i64 ah) ∧ w'.cell? ⟨aa, 5, none⟩ = some (.slice aq ai.length an)) ∧ (Kd.R (Kd.int .u8) 5 w' w.heap.size (fun k_ => some k_ ≠ (s_.2.2.2.1 : Value).ownBlock) s_.2.1 aJ) ∧ (Kd.R (Kd.int .u8) 5 w' w.heap.size (fun k_ => some k_ ≠ (s_.2.1 : Value).ownBlock) s_.2.2.2.1 aN) ∧ (Kd.S k55 55 w' w.heap.size (fun k_ => some k_ ≠ (s_.2.1 : Value).ownBlock ∧ some k_ ≠ (s_.2.2.2.1 : Value).ownBlock) s_.2.2.2.2.1 aV) ∧ (w'.heap[aa]? = some (.cells #[.slice am aj.length al, .slice ao ak.length ap, .int .i64 af, .int .i64 ag, .int .i64 ah, .slice aq ai.length an] 33 (0, 0))) ∧ (w'.heap[gb543]? = some (.cells #[.slice none 0 0, .slice none 0 0, .int .i64 0, .int .i64 0, .int .i64 0, .slice none 0 0] 33 (0, 0))) ∧ (w'.heap[s_.2.2.2.2.2]? = some (.cells #[.slice none 0 0, .slice none 0 0, .int .i64 0, .int .i64 0, .int .i64 0, .slice none 0 0] 33 (0, 0))) ∧ (w.heap.size ≤ s_.2.2.2.2.2) ∧ (w.heap.size ≤ s_.2.2.2.2.2) ∧ (aa ≠ s_.2.2.2.2.2) ∧ (s_.2.2.2.2.2 ≠ aa) ∧ (gb543 ≠ s_.2.2.2.2.2) ∧ (s_.2.2.2.2.2 ≠ gb543) ∧ (Below w.heap.size w w')) ?_ ?_
 rotate_left
 ·intro bu
  refine join_ (σ := Value × Value × Value × Value × Value) 2 #[true, true, true, true, true, true, true, true, true, true, true, true, false, false] (fun s_ => [(6, s_.1), (9, s_.2.1), (10, s_.2.2.1), (13, s_.2.2.2.1), (16, s_.2.2.2.2), (17, .agg #[s_.2.1, s_.2.2.2.1, .int .i64 af, .int .i64 ag, .int .i64 ah, s_.2.2.2.2])]) (fun s_ w' => (w'.cell? ⟨aa, 0, none⟩ = some (.slice am aj.length al) ∧ w'.cell? ⟨aa, 1, none⟩ = some (.slice ao ak.length ap) ∧ w'.cell? ⟨aa, 2, none⟩ = some (.int .i64 af) ∧ w'.cell? ⟨aa, 3, none⟩ = some (.int .i64 ag) ∧ w'.cell? ⟨aa, 4, none⟩ = some (.int .i64 ah) ∧ w'.cell? ⟨aa, 5, none⟩ = some (.slice aq ai.length an)) ∧ (Kd.R (Kd.int .u8) 5 w' w.heap.size (fun k_ => some k_ ≠ (s_.2.2.2.1 : Value).ownBlock) s_.2.1 aJ) ∧ (Kd.R (Kd.int .u8) 5 w' w.heap.size (fun k_ => some k_ ≠ (s_.2.1 : Value).ownBlock) s_.2.2.2.1 aN) ∧ (Kd.S k55 55 w' w.heap.size (fun k_ => some k_ ≠ (s_.2.1 : Value).ownBlock ∧ some k_ ≠ (s_.2.2.2.1 : Value).ownBlock) s_.2.2.2.2 aV) ∧ (w'.heap[aa]? = some (.cells #[.slice am aj.length al, .slice ao ak.length ap, .int .i64 af, .int .i64 ag, .int .i64 ah, .slice aq ai.length an] 33 (0, 0))) ∧ (w'.heap[gb543]? = some (.cells #[.slice none 0 0, .slice none 0 0, .int .i64 0, .int .i64 0, .int .i64 0, .slice none 0 0] 33 (0, 0))) ∧ (Below w.heap.size w w')) ?_ ?_
  rotate_left
  ·intro bO
   refine join_ (σ := Value × Value × Value × Value × Nat) 3 #[true, true, true, true, true, true, true, true, true, true, false, false, true, false] (fun s_ => [(6, s_.1), (9, s_.2.1), (10, s_.2.2.1), (13, s_.2.2.2.1), (3, .pointer (some ⟨s_.2.2.2.2, 0, none⟩))]) (fun s_ w' => (w'.cell? ⟨aa, 0, none⟩ = some (.slice am aj.length al) ∧ w'.cell? ⟨aa, 1, none⟩ = some (.slice ao ak.length ap) ∧ w'.cell? ⟨aa, 2, none⟩ = some (.int .i64 af) ∧ w'.cell? ⟨aa, 3, none⟩ = some (.int .i64 ag) ∧ w'.cell? ⟨aa, 4, none⟩ = some (.int .i64 ah) ∧ w'.cell? ⟨aa, 5, none⟩ = some (.slice aq ai.length an)) ∧ (Kd.R (Kd.int .u8) 5 w' w.heap.size (fun k_ => some k_ ≠ (s_.2.2.2.1 : Value).ownBlock) s_.2.1 aJ) ∧ (Kd.R (Kd.int .u8) 5 w' w.heap.size (fun k_ => some k_ ≠ (s_.2.1 : Value).ownBlock) s_.2.2.2.1 aN) ∧ (w'.heap[aa]? = some (.cells #[.slice am aj.length al, .slice ao ak.length ap, .int .i64 af, .int .i64 ag, .int .i64 ah, .slice aq ai.length an] 33 (0, 0))) ∧ (w'.heap[gb543]? = some (.cells #[.slice none 0 0, .slice none 0 0, .int .i64 0, .int .i64 0, .int .i64 0, .slice none 0 0] 33 (0, 0))) ∧ (w'.heap[s_.2.2.2.2]? = some (.cells #[.slice none 0 0, .slice none 0 0, .int .i64 0, .int .i64 0, .int .i64 0, .slice none 0 0] 33 (0, 0))) ∧ (w.heap.size ≤ s_.2.2.2.2) ∧ (w.heap.size ≤ s_.2.2.2.2) ∧ (aa ≠ s_.2.2.2.2) ∧ (s_.2.2.2.2 ≠ aa) ∧ (gb543 ≠ s_.2.2.2.2) ∧ (s_.2.2.2.2 ≠ gb543) ∧ (Below w.heap.size w w')) ?_ ?_
   rotate_left
   ·intro bL
    refine join_ (σ := Value × Value × Value × Value × Nat) 3 #[true, true, true, true, true, true, true, false, true, true, true, false, true, false] (fun s_ => [(6, s_.1), (9, s_.2.1), (10, s_.2.2.1), (16, s_.2.2.2.1), (3, .pointer (some ⟨s_.2.2.2.2, 0, none⟩))]) (fun s_ w' => (w'.cell? ⟨aa, 0, none⟩ = some (.slice am aj.length al) ∧ w'.cell? ⟨aa, 1, none⟩ = some (.slice ao ak.length ap) ∧ w'.cell? ⟨aa, 2, none⟩ = some (.int .i64 af) ∧ w'.cell? ⟨aa, 3, none⟩ = some (.int .i64 ag) ∧ w'.cell? ⟨aa, 4, none⟩ = some (.int .i64 ah) ∧ w'.cell? ⟨aa, 5, none⟩ = some (.slice aq ai.length an)) ∧ (Kd.R (Kd.int .u8) 5 w' w.heap.size (fun k_ => some k_ ≠ (s_.2.2.1 : Value).ownBlock) s_.2.1 aJ) ∧ (Kd.R (Kd.int .u8) 5 w' w.heap.size (fun k_ => some k_ ≠ (s_.2.1 : Value).ownBlock) s_.2.2.1 be) ∧ (Kd.S k55 55 w' w.heap.size (fun k_ => some k_ ≠ (s_.2.1 : Value).ownBlock ∧ some k_ ≠ (s_.2.2.1 : Value).ownBlock) s_.2.2.2.1 aV) ∧ (w'.heap[aa]? = some (.cells #[.slice am aj.length al, .slice ao ak.length ap, .int .i64 af, .int .i64 ag, .int .i64 ah, .slice aq ai.length an] 33 (0, 0))) ∧ (w'.heap[gb543]? = some (.cells #[.slice none 0 0, .slice none 0 0, .int .i64 0, .int .i64 0, .int .i64 0, .slice none 0 0] 33 (0, 0))) ∧ (w'.heap[s_.2.2.2.2]? = some (.cells #[.slice none 0 0, .slice none 0 0, .int .i64 0, .int .i64 0, .int .i64 0, .slice none 0 0] 33 (0, 0))) ∧ (w.heap.size ≤ s_.2.2.2.2) ∧ (w.heap.size ≤ s_.2.2.2.2) ∧ (aa ≠ s_.2.2.2.2) ∧ (s_.2.2.2.2 ≠ aa) ∧ (gb543 ≠ s_.2.2.2.2) ∧ (s_.2.2.2.2 ≠ gb543) ∧ (Below w.heap.size w w')) ?_ ?_
    rotate_left
    ·intro bs
     refine join_ (σ := Value × Value × Value × Value) 4 #[true, true, true, true, true, true, true, true, true, true, false, false, false, false] (fun s_ => [(6, s_.1), (9, s_.2.1), (10, s_.2.2.1), (13, s_.2.2.2)]) (fun s_ w' => (w'.cell? ⟨aa, 0, none⟩ = some (.slice am aj.length al) ∧ w'.cell? ⟨aa, 1, none⟩ = some (.slice ao ak.length ap) ∧ w'.cell? ⟨aa, 2, none⟩ = some (.int .i64 af) ∧ w'.cell? ⟨aa, 3, none⟩ = some (.int .i64 ag) ∧ w'.cell? ⟨aa, 4, none⟩ = some (.int .i64 ah) ∧ w'.cell? ⟨aa, 5, none⟩ = some (.slice aq ai.length an)) ∧ (Kd.R (Kd.int .u8) 5 w' w.heap.size (fun k_ => some k_ ≠ (s_.2.2.2 : Value).ownBlock) s_.2.1 aJ) ∧ (Kd.R (Kd.int .u8) 5 w' w.heap.size (fun k_ => some k_ ≠ (s_.2.1 : Value).ownBlock) s_.2.2.2 aN) ∧ (w'.heap[aa]? = some (.cells #[.slice am aj.length al, .slice ao ak.length ap, .int .i64 af, .int .i64 ag, .int .i64 ah, .slice aq ai.length an] 33 (0, 0))) ∧ (w'.heap[gb543]? = some (.cells #[.slice none 0 0, .slice none 0 0, .int .i64 0, .int .i64 0, .int .i64 0, .slice none 0 0] 33 (0, 0))) ∧ (Below w.heap.size w w')) ?_ ?_
     rotate_left
     ·intro cw
      refine join_ (σ := Value × Value × Value × Value) 4 #[true, true, true, true, true, true, true, false, true, true, true, false, false, false] (fun s_ => [(6, s_.1), (9, s_.2.1), (10, s_.2.2.1), (16, s_.2.2.2)]) (fun s_ w' => (w'.cell? ⟨aa, 0, none⟩ = some (.slice am aj.length al) ∧ w'.cell? ⟨aa, 1, none⟩ = some (.slice ao ak.length ap) ∧ w'.cell? ⟨aa, 2, none⟩ = some (.int .i64 af) ∧ w'.cell? ⟨aa, 3, none⟩ = some (.int .i64 ag) ∧ w'.cell? ⟨aa, 4, none⟩ = some (.int .i64 ah) ∧ w'.cell? ⟨aa, 5, none⟩ = some (.slice aq ai.length an)) ∧ (Kd.R (Kd.int .u8) 5 w' w.heap.size (fun k_ => some k_ ≠ (s_.2.2.1 : Value).ownBlock) s_.2.1 aJ) ∧ (Kd.R (Kd.int .u8) 5 w' w.heap.size (fun k_ => some k_ ≠ (s_.2.1 : Value).ownBlock) s_.2.2.1 be) ∧ (Kd.S k55 55 w' w.heap.size (fun k_ => some k_ ≠ (s_.2.1 : Value).ownBlock ∧ some k_ ≠ (s_.2.2.1 : Value).ownBlock) s_.2.2.2 aV) ∧ (w'.heap[aa]? = some (.cells #[.slice am aj.length al, .slice ao ak.length ap, .int .i64 af, .int .i64 ag, .int .i64 ah, .slice aq ai.length an] 33 (0, 0))) ∧ (w'.heap[gb543]? = some (.cells #[.slice none 0 0, .slice none 0 0, .int .i64 0, .int .i64 0, .int .i64 0, .slice none 0 0] 33 (0, 0))) ∧ (Below w.heap.size w w')) ?_ ?_
      rotate_left
      ·intro bF
       refine join_ (σ := Value × Value × Value × Nat) 4 #[true, true, true, true, true, true, true, false, true, true, false, false, true, false] (fun s_ => [(6, s_.1), (9, s_.2.1), (10, s_.2.2.1), (3, .pointer (some ⟨s_.2.2.2, 0, none⟩))]) (fun s_ w' => (w'.cell? ⟨aa, 0, none⟩ = some (.slice am aj.length al) ∧ w'.cell? ⟨aa, 1, none⟩ = some (.slice ao ak.length ap) ∧ w'.cell? ⟨aa, 2, none⟩ = some (.int .i64 af) ∧ w'.cell? ⟨aa, 3, none⟩ = some (.int .i64 ag) ∧ w'.cell? ⟨aa, 4, none⟩ = some (.int .i64 ah) ∧ w'.cell? ⟨aa, 5, none⟩ = some (.slice aq ai.length an)) ∧ (Kd.R (Kd.int .u8) 5 w' w.heap.size (fun k_ => some k_ ≠ (s_.2.2.1 : Value).ownBlock) s_.2.1 aJ) ∧ (Kd.R (Kd.int .u8) 5 w' w.heap.size (fun k_ => some k_ ≠ (s_.2.1 : Value).ownBlock) s_.2.2.1 be) ∧ (w'.heap[aa]? = some (.cells #[.slice am aj.length al, .slice ao ak.length ap, .int .i64 af, .int .i64 ag, .int .i64 ah, .slice aq ai.length an] 33 (0, 0))) ∧ (w'.heap[gb543]? = some (.cells #[.slice none 0 0, .slice none 0 0, .int .i64 0, .int .i64 0, .int .i64 0, .slice none 0 0] 33 (0, 0))) ∧ (w'.heap[s_.2.2.2]? = some (.cells #[.slice none 0 0, .slice none 0 0, .int .i64 0, .int .i64 0, .int .i64 0, .slice none 0 0] 33 (0, 0))) ∧ (w.heap.size ≤ s_.2.2.2) ∧ (w.heap.size ≤ s_.2.2.2) ∧ (aa ≠ s_.2.2.2) ∧ (s_.2.2.2 ≠ aa) ∧ (gb543 ≠ s_.2.2.2) ∧ (s_.2.2.2 ≠ gb543) ∧ (Below w.heap.size w w')) ?_ ?_
       rotate_left
       ·intro bG
        refine join_ (σ := Value × Value × Value × Nat) 4 #[true, true, true, true, false, true, true, false, true, true, true, false, true, false] (fun s_ => [(6, s_.1), (9, s_.2.1), (16, s_.2.2.1), (3, .pointer (some ⟨s_.2.2.2, 0, none⟩))]) (fun s_ w' => (w'.cell? ⟨aa, 0, none⟩ = some (.slice am aj.length al) ∧ w'.cell? ⟨aa, 1, none⟩ = some (.slice ao ak.length ap) ∧ w'.cell? ⟨aa, 2, none⟩ = some (.int .i64 af) ∧ w'.cell? ⟨aa, 3, none⟩ = some (.int .i64 ag) ∧ w'.cell? ⟨aa, 4, none⟩ = some (.int .i64 ah) ∧ w'.cell? ⟨aa, 5, none⟩ = some (.slice aq ai.length an)) ∧ (Kd.R (Kd.int .u8) 5 w' w.heap.size (fun _ => True) s_.2.1 aJ) ∧ (Kd.S k55 55 w' w.heap.size (fun k_ => some k_ ≠ (s_.2.1 : Value).ownBlock) s_.2.2.1 aV) ∧ (w'.heap[aa]? = some (.cells #[.slice am aj.length al, .slice ao ak.length ap, .int .i64 af, .int .i64 ag, .int .i64 ah, .slice aq ai.length an] 33 (0, 0))) ∧ (w'.heap[gb543]? = some (.cells #[.slice none 0 0, .slice none 0 0, .int .i64 0, .int .i64 0, .int .i64 0, .slice none 0 0] 33 (0, 0))) ∧ (w'.heap[s_.2.2.2]? = some (.cells #[.slice none 0 0, .slice none 0 0, .int .i64 0, .int .i64 0, .int .i64 0, .slice none 0 0] 33 (0, 0))) ∧ (w.heap.size ≤ s_.2.2.2) ∧ (w.heap.size ≤ s_.2.2.2) ∧ (aa ≠ s_.2.2.2) ∧ (s_.2.2.2 ≠ aa) ∧ (gb543 ≠ s_.2.2.2) ∧ (s_.2.2.2 ≠ gb543) ∧ (Below w.heap.size w w')) ?_ ?_
        rotate_left
        ·intro bD
         refine join_ (σ := Value × Value × Value × Nat) 4 #[true, true, true, false, true, true, true, false, true, true, true, false, true, false] (fun s_ => [(6, s_.1), (10, s_.2.1), (16, s_.2.2.1), (3, .pointer (some ⟨s_.2.2.2, 0, none⟩))]) (fun s_ w' => (w'.cell? ⟨aa, 0, none⟩ = some (.slice am aj.length al) ∧ w'.cell? ⟨aa, 1, none⟩ = some (.slice ao ak.length ap) ∧ w'.cell? ⟨aa, 2, none⟩ = some (.int .i64 af) ∧ w'.cell? ⟨aa, 3, none⟩ = some (.int .i64 ag) ∧ w'.cell? ⟨aa, 4, none⟩ = some (.int .i64 ah) ∧ w'.cell? ⟨aa, 5, none⟩ = some (.slice aq ai.length an)) ∧ (Kd.R (Kd.int .u8) 5 w' w.heap.size (fun k_ => some k_ ≠ (s_.2.1 : Value).ownBlock) s_.1 bi) ∧ (Kd.R (Kd.int .u8) 5 w' w.heap.size (fun k_ => some k_ ≠ (s_.1 : Value).ownBlock) s_.2.1 be) ∧ (Kd.S k55 55 w' w.heap.size (fun k_ => some k_ ≠ (s_.1 : Value).ownBlock ∧ some k_ ≠ (s_.2.1 : Value).ownBlock) s_.2.2.1 aV) ∧ (w'.heap[aa]? = some (.cells #[.slice am aj.length al, .slice ao ak.length ap, .int .i64 af, .int .i64 ag, .int .i64 ah, .slice aq ai.length an] 33 (0, 0))) ∧ (w'.heap[gb543]? = some (.cells #[.slice none 0 0, .slice none 0 0, .int .i64 0, .int .i64 0, .int .i64 0, .slice none 0 0] 33 (0, 0))) ∧ (w'.heap[s_.2.2.2]? = some (.cells #[.slice none 0 0, .slice none 0 0, .int .i64 0, .int .i64 0, .int .i64 0, .slice none 0 0] 33 (0, 0))) ∧ (w.heap.size ≤ s_.2.2.2) ∧ (w.heap.size ≤ s_.2.2.2) ∧ (aa ≠ s_.2.2.2) ∧ (s_.2.2.2 ≠ aa) ∧ (gb543 ≠ s_.2.2.2) ∧ (s_.2.2.2 ≠ gb543) ∧ (Below w.heap.size w w')) ?_ ?_
         rotate_left
         ·intro bx
          refine join_ (σ := Value × Value × Value) 5 #[true, true, true, true, true, true, true, false, true, true, false, false, false, false] (fun s_ => [(6, s_.1), (9, s_.2.1), (10, s_.2.2)]) (fun s_ w' => (w'.cell? ⟨aa, 0, none⟩ = some (.slice am aj.length al) ∧ w'.cell? ⟨aa, 1, none⟩ = some (.slice ao ak.length ap) ∧ w'.cell? ⟨aa, 2, none⟩ = some (.int .i64 af) ∧ w'.cell? ⟨aa, 3, none⟩ = some (.int .i64 ag) ∧ w'.cell? ⟨aa, 4, none⟩ = some (.int .i64 ah) ∧ w'.cell? ⟨aa, 5, none⟩ = some (.slice aq ai.length an)) ∧ (Kd.R (Kd.int .u8) 5 w' w.heap.size (fun k_ => some k_ ≠ (s_.2.2 : Value).ownBlock) s_.2.1 aJ) ∧ (Kd.R (Kd.int .u8) 5 w' w.heap.size (fun k_ => some k_ ≠ (s_.2.1 : Value).ownBlock) s_.2.2 be) ∧ (w'.heap[aa]? = some (.cells #[.slice am aj.length al, .slice ao ak.length ap, .int .i64 af, .int .i64 ag, .int .i64 ah, .slice aq ai.length an] 33 (0, 0))) ∧ (w'.heap[gb543]? = some (.cells #[.slice none 0 0, .slice none 0 0, .int .i64 0, .int .i64 0, .int .i64 0, .slice none 0 0] 33 (0, 0))) ∧ (Below w.heap.size w w')) ?_ ?_
          rotate_left
          ·intro cg
           refine join_ (σ := Value × Value × Value) 5 #[true, true, true, true, false, true, true, false, true, true, true, false, false, false] (fun s_ => [(6, s_.1), (9, s_.2.1), (16, s_.2.2)]) (fun s_ w' => (w'.cell? ⟨aa, 0, none⟩ = some (.slice am aj.length al) ∧ w'.cell? ⟨aa, 1, none⟩ = some (.slice ao ak.length ap) ∧ w'.cell? ⟨aa, 2, none⟩ = some (.int .i64 af) ∧ w'.cell? ⟨aa, 3, none⟩ = some (.int .i64 ag) ∧ w'.cell? ⟨aa, 4, none⟩ = some (.int .i64 ah) ∧ w'.cell? ⟨aa, 5, none⟩ = some (.slice aq ai.length an)) ∧ (Kd.R (Kd.int .u8) 5 w' w.heap.size (fun _ => True) s_.2.1 aJ) ∧ (Kd.S k55 55 w' w.heap.size (fun k_ => some k_ ≠ (s_.2.1 : Value).ownBlock) s_.2.2 aV) ∧ (w'.heap[aa]? = some (.cells #[.slice am aj.length al, .slice ao ak.length ap, .int .i64 af, .int .i64 ag, .int .i64 ah, .slice aq ai.length an] 33 (0, 0))) ∧ (w'.heap[gb543]? = some (.cells #[.slice none 0 0, .slice none 0 0, .int .i64 0, .int .i64 0, .int .i64 0, .slice none 0 0] 33 (0, 0))) ∧ (Below w.heap.size w w')) ?_ ?_
           rotate_left
           ·intro b7
            refine join_ (σ := Value × Value × Nat) 5 #[true, true, true, true, false, true, true, false, true, true, false, false, true, false] (fun s_ => [(6, s_.1), (9, s_.2.1), (3, .pointer (some ⟨s_.2.2, 0, none⟩))]) (fun s_ w' => (w'.cell? ⟨aa, 0, none⟩ = some (.slice am aj.length al) ∧ w'.cell? ⟨aa, 1, none⟩ = some (.slice ao ak.length ap) ∧ w'.cell? ⟨aa, 2, none⟩ = some (.int .i64 af) ∧ w'.cell? ⟨aa, 3, none⟩ = some (.int .i64 ag) ∧ w'.cell? ⟨aa, 4, none⟩ = some (.int .i64 ah) ∧ w'.cell? ⟨aa, 5, none⟩ = some (.slice aq ai.length an)) ∧ (Kd.R (Kd.int .u8) 5 w' w.heap.size (fun _ => True) s_.2.1 aJ) ∧ (w'.heap[aa]? = some (.cells #[.slice am aj.length al, .slice ao ak.length ap, .int .i64 af, .int .i64 ag, .int .i64 ah, .slice aq ai.length an] 33 (0, 0))) ∧ (w'.heap[gb543]? = some (.cells #[.slice none 0 0, .slice none 0 0, .int .i64 0, .int .i64 0, .int .i64 0, .slice none 0 0] 33 (0, 0))) ∧ (w'.heap[s_.2.2]? = some (.cells #[.slice none 0 0, .slice none 0 0, .int .i64 0, .int .i64 0, .int .i64 0, .slice none 0 0] 33 (0, 0))) ∧ (w.heap.size ≤ s_.2.2) ∧ (w.heap.size ≤ s_.2.2) ∧ (aa ≠ s_.2.2) ∧ (s_.2.2 ≠ aa) ∧ (gb543 ≠ s_.2.2) ∧ (s_.2.2 ≠ gb543) ∧ (Below w.heap.size w w')) ?_ ?_
            rotate_left
            ·intro cb
             refine join_ (σ := Value × Value × Value) 5 #[true, true, true, false, true, true, true, false, true, true, true, false, false, false] (fun s_ => [(6, s_.1), (10, s_.2.1), (16, s_.2.2)]) (fun s_ w' => (w'.cell? ⟨aa, 0, none⟩ = some (.slice am aj.length al) ∧ w'.cell? ⟨aa, 1, none⟩ = some (.slice ao ak.length ap) ∧ w'.cell? ⟨aa, 2, none⟩ = some (.int .i64 af) ∧ w'.cell? ⟨aa, 3, none⟩ = some (.int .i64 ag) ∧ w'.cell? ⟨aa, 4, none⟩ = some (.int .i64 ah) ∧ w'.cell? ⟨aa, 5, none⟩ = some (.slice aq ai.length an)) ∧ (Kd.R (Kd.int .u8) 5 w' w.heap.size (fun k_ => some k_ ≠ (s_.2.1 : Value).ownBlock) s_.1 bi) ∧ (Kd.R (Kd.int .u8) 5 w' w.heap.size (fun k_ => some k_ ≠ (s_.1 : Value).ownBlock) s_.2.1 be) ∧ (Kd.S k55 55 w' w.heap.size (fun k_ => some k_ ≠ (s_.1 : Value).ownBlock ∧ some k_ ≠ (s_.2.1 : Value).ownBlock) s_.2.2 aV) ∧ (w'.heap[aa]? = some (.cells #[.slice am aj.length al, .slice ao ak.length ap, .int .i64 af, .int .i64 ag, .int .i64 ah, .slice aq ai.length an] 33 (0, 0))) ∧ (w'.heap[gb543]? = some (.cells #[.slice none 0 0, .slice none 0 0, .int .i64 0, .int .i64 0, .int .i64 0, .slice none 0 0] 33 (0, 0))) ∧ (Below w.heap.size w w')) ?_ ?_
             rotate_left
             ·intro bR
              refine join_ (σ := Value × Value × Nat) 5 #[true, true, true, false, true, true, true, false, true, true, false, false, true, false] (fun s_ => [(6, s_.1), (10, s_.2.1), (3, .pointer (some ⟨s_.2.2, 0, none⟩))]) (fun s_ w' => (w'.cell? ⟨aa, 0, none⟩ = some (.slice am aj.length al) ∧ w'.cell? ⟨aa, 1, none⟩ = some (.slice ao ak.length ap) ∧ w'.cell? ⟨aa, 2, none⟩ = some (.int .i64 af) ∧ w'.cell? ⟨aa, 3, none⟩ = some (.int .i64 ag) ∧ w'.cell? ⟨aa, 4, none⟩ = some (.int .i64 ah) ∧ w'.cell? ⟨aa, 5, none⟩ = some (.slice aq ai.length an)) ∧ (Kd.R (Kd.int .u8) 5 w' w.heap.size (fun k_ => some k_ ≠ (s_.2.1 : Value).ownBlock) s_.1 bi) ∧ (Kd.R (Kd.int .u8) 5 w' w.heap.size (fun k_ => some k_ ≠ (s_.1 : Value).ownBlock) s_.2.1 be) ∧ (w'.heap[aa]? = some (.cells #[.slice am aj.length al, .slice ao ak.length ap, .int .i64 af, .int .i64 ag, .int .i64 ah, .slice aq ai.length an] 33 (0, 0))) ∧ (w'.heap[gb543]? = some (.cells #[.slice none 0 0, .slice none 0 0, .int .i64 0, .int .i64 0, .int .i64 0, .slice none 0 0] 33 (0, 0))) ∧ (w'.heap[s_.2.2]? = some (.cells #[.slice none 0 0, .slice none 0 0, .int .i64 0, .int .i64 0, .int .i64 0, .slice none 0 0] 33 (0, 0))) ∧ (w.heap.size ≤ s_.2.2) ∧ (w.heap.size ≤ s_.2.2) ∧ (aa ≠ s_.2.2) ∧ (s_.2.2 ≠ aa) ∧ (gb543 ≠ s_.2.2) ∧ (s_.2.2 ≠ gb543) ∧ (Below w.heap.size w w')) ?_ ?_
              rotate_left
              ·intro bT
               refine join_ (σ := Value × Value × Nat) 5 #[true, true, true, false, false, true, true, false, true, true, true, false, true, false] (fun s_ => [(6, s_.1), (16, s_.2.1), (3, .pointer (some ⟨s_.2.2, 0, none⟩))]) (fun s_ w' => (w'.cell? ⟨aa, 0, none⟩ = some (.slice am aj.length al) ∧ w'.cell? ⟨aa, 1, none⟩ = some (.slice ao ak.length ap) ∧ w'.cell? ⟨aa, 2, none⟩ = some (.int .i64 af) ∧ w'.cell? ⟨aa, 3, none⟩ = some (.int .i64 ag) ∧ w'.cell? ⟨aa, 4, none⟩ = some (.int .i64 ah) ∧ w'.cell? ⟨aa, 5, none⟩ = some (.slice aq ai.length an)) ∧ (Kd.R (Kd.int .u8) 5 w' w.heap.size (fun _ => True) s_.1 bi) ∧ (Kd.S k55 55 w' w.heap.size (fun k_ => some k_ ≠ (s_.1 : Value).ownBlock) s_.2.1 aV) ∧ (w'.heap[aa]? = some (.cells #[.slice am aj.length al, .slice ao ak.length ap, .int .i64 af, .int .i64 ag, .int .i64 ah, .slice aq ai.length an] 33 (0, 0))) ∧ (w'.heap[gb543]? = some (.cells #[.slice none 0 0, .slice none 0 0, .int .i64 0, .int .i64 0, .int .i64 0, .slice none 0 0] 33 (0, 0))) ∧ (w'.heap[s_.2.2]? = some (.cells #[.slice none 0 0, .slice none 0 0, .int .i64 0, .int .i64 0, .int .i64 0, .slice none 0 0] 33 (0, 0))) ∧ (w.heap.size ≤ s_.2.2) ∧ (w.heap.size ≤ s_.2.2) ∧ (aa ≠ s_.2.2) ∧ (s_.2.2 ≠ aa) ∧ (gb543 ≠ s_.2.2) ∧ (s_.2.2 ≠ gb543) ∧ (Below w.heap.size w w')) ?_ ?_
               rotate_left
               ·intro bH
                refine join_ (σ := Value × Value × Nat) 5 #[false, true, true, false, true, true, true, false, true, true, true, false, true, false] (fun s_ => [(10, s_.1), (16, s_.2.1), (3, .pointer (some ⟨s_.2.2, 0, none⟩))]) (fun s_ w' => (w'.cell? ⟨aa, 0, none⟩ = some (.slice am aj.length al) ∧ w'.cell? ⟨aa, 1, none⟩ = some (.slice ao ak.length ap) ∧ w'.cell? ⟨aa, 2, none⟩ = some (.int .i64 af) ∧ w'.cell? ⟨aa, 3, none⟩ = some (.int .i64 ag) ∧ w'.cell? ⟨aa, 4, none⟩ = some (.int .i64 ah) ∧ w'.cell? ⟨aa, 5, none⟩ = some (.slice aq ai.length an)) ∧ (Kd.R (Kd.int .u8) 5 w' w.heap.size (fun _ => True) s_.1 be) ∧ (Kd.S k55 55 w' w.heap.size (fun k_ => some k_ ≠ (s_.1 : Value).ownBlock) s_.2.1 aV) ∧ (w'.heap[aa]? = some (.cells #[.slice am aj.length al, .slice ao ak.length ap, .int .i64 af, .int .i64 ag, .int .i64 ah, .slice aq ai.length an] 33 (0, 0))) ∧ (w'.heap[gb543]? = some (.cells #[.slice none 0 0, .slice none 0 0, .int .i64 0, .int .i64 0, .int .i64 0, .slice none 0 0] 33 (0, 0))) ∧ (w'.heap[s_.2.2]? = some (.cells #[.slice none 0 0, .slice none 0 0, .int .i64 0, .int .i64 0, .int .i64 0, .slice none 0 0] 33 (0, 0))) ∧ (w.heap.size ≤ s_.2.2) ∧ (w.heap.size ≤ s_.2.2) ∧ (aa ≠ s_.2.2) ∧ (s_.2.2 ≠ aa) ∧ (gb543 ≠ s_.2.2) ∧ (s_.2.2 ≠ gb543) ∧ (Below w.heap.size w w')) ?_ ?_
                rotate_left
                ·intro bK
                 refine join_ (σ := Value × Value) 6 #[true, true, true, true, false, true, true, false, true, true, false, false, false, false] (fun s_ => [(6, s_.1), (9, s_.2)]) (fun s_ w' => (w'.cell? ⟨aa, 0, none⟩ = some (.slice am aj.length al) ∧ w'.cell? ⟨aa, 1, none⟩ = some (.slice ao ak.length ap) ∧ w'.cell? ⟨aa, 2, none⟩ = some (.int .i64 af) ∧ w'.cell? ⟨aa, 3, none⟩ = some (.int .i64 ag) ∧ w'.cell? ⟨aa, 4, none⟩ = some (.int .i64 ah) ∧ w'.cell? ⟨aa, 5, none⟩ = some (.slice aq ai.length an)) ∧ (Kd.R (Kd.int .u8) 5 w' w.heap.size (fun _ => True) s_.2 aJ) ∧ (w'.heap[aa]? = some (.cells #[.slice am aj.length al, .slice ao ak.length ap, .int .i64 af, .int .i64 ag, .int .i64 ah, .slice aq ai.length an] 33 (0, 0))) ∧ (w'.heap[gb543]? = some (.cells #[.slice none 0 0, .slice none 0 0, .int .i64 0, .int .i64 0, .int .i64 0, .slice none 0 0] 33 (0, 0))) ∧ (Below w.heap.size w w')) ?_ ?_
                 rotate_left
                 ·intro hJ0_3
                  refine join_ (σ := Value × Value) 6 #[true, true, true, false, true, true, true, false, true, true, false, false, false, false] (fun s_ => [(6, s_.1), (10, s_.2)]) (fun s_ w' => (w'.cell? ⟨aa, 0, none⟩ = some (.slice am aj.length al) ∧ w'.cell? ⟨aa, 1, none⟩ = some (.slice ao ak.length ap) ∧ w'.cell? ⟨aa, 2, none⟩ = some (.int .i64 af) ∧ w'.cell? ⟨aa, 3, none⟩ = some (.int .i64 ag) ∧ w'.cell? ⟨aa, 4, none⟩ = some (.int .i64 ah) ∧ w'.cell? ⟨aa, 5, none⟩ = some (.slice aq ai.length an)) ∧ (Kd.R (Kd.int .u8) 5 w' w.heap.size (fun k_ => some k_ ≠ (s_.2 : Value).ownBlock) s_.1 bi) ∧ (Kd.R (Kd.int .u8) 5 w' w.heap.size (fun k_ => some k_ ≠ (s_.1 : Value).ownBlock) s_.2 be) ∧ (w'.heap[aa]? = some (.cells #[.slice am aj.length al, .slice ao ak.length ap, .int .i64 af, .int .i64 ag, .int .i64 ah, .slice aq ai.length an] 33 (0, 0))) ∧ (w'.heap[gb543]? = some (.cells #[.slice none 0 0, .slice none 0 0, .int .i64 0, .int .i64 0, .int .i64 0, .slice none 0 0] 33 (0, 0))) ∧ (Below w.heap.size w w')) ?_ ?_
                  rotate_left
                  ·intro cH
                   refine join_ (σ := Value × Value) 6 #[true, true, true, false, false, true, true, false, true, true, true, false, false, false] (fun s_ => [(6, s_.1), (16, s_.2)]) (fun s_ w' => (w'.cell? ⟨aa, 0, none⟩ = some (.slice am aj.length al) ∧ w'.cell? ⟨aa, 1, none⟩ = some (.slice ao ak.length ap) ∧ w'.cell? ⟨aa, 2, none⟩ = some (.int .i64 af) ∧ w'.cell? ⟨aa, 3, none⟩ = some (.int .i64 ag) ∧ w'.cell? ⟨aa, 4, none⟩ = some (.int .i64 ah) ∧ w'.cell? ⟨aa, 5, none⟩ = some (.slice aq ai.length an)) ∧ (Kd.R (Kd.int .u8) 5 w' w.heap.size (fun _ => True) s_.1 bi) ∧ (Kd.S k55 55 w' w.heap.size (fun k_ => some k_ ≠ (s_.1 : Value).ownBlock) s_.2 aV) ∧ (w'.heap[aa]? = some (.cells #[.slice am aj.length al, .slice ao ak.length ap, .int .i64 af, .int .i64 ag, .int .i64 ah, .slice aq ai.length an] 33 (0, 0))) ∧ (w'.heap[gb543]? = some (.cells #[.slice none 0 0, .slice none 0 0, .int .i64 0, .int .i64 0, .int .i64 0, .slice none 0 0] 33 (0, 0))) ∧ (Below w.heap.size w w')) ?_ ?_
                   rotate_left
                   ·intro cx
                    refine join_ (σ := Value × Nat) 6 #[true, true, true, false, false, true, true, false, true, true, false, false, true, false] (fun s_ => [(6, s_.1), (3, .pointer (some ⟨s_.2, 0, none⟩))]) (fun s_ w' => (w'.cell? ⟨aa, 0, none⟩ = some (.slice am aj.length al) ∧ w'.cell? ⟨aa, 1, none⟩ = some (.slice ao ak.length ap) ∧ w'.cell? ⟨aa, 2, none⟩ = some (.int .i64 af) ∧ w'.cell? ⟨aa, 3, none⟩ = some (.int .i64 ag) ∧ w'.cell? ⟨aa, 4, none⟩ = some (.int .i64 ah) ∧ w'.cell? ⟨aa, 5, none⟩ = some (.slice aq ai.length an)) ∧ (Kd.R (Kd.int .u8) 5 w' w.heap.size (fun _ => True) s_.1 bi) ∧ (w'.heap[aa]? = some (.cells #[.slice am aj.length al, .slice ao ak.length ap, .int .i64 af, .int .i64 ag, .int .i64 ah, .slice aq ai.length an] 33 (0, 0))) ∧ (w'.heap[gb543]? = some (.cells #[.slice none 0 0, .slice none 0 0, .int .i64 0, .int .i64 0, .int .i64 0, .slice none 0 0] 33 (0, 0))) ∧ (w'.heap[s_.2]? = some (.cells #[.slice none 0 0, .slice none 0 0, .int .i64 0, .int .i64 0, .int .i64 0, .slice none 0 0] 33 (0, 0))) ∧ (w.heap.size ≤ s_.2) ∧ (w.heap.size ≤ s_.2) ∧ (aa ≠ s_.2) ∧ (s_.2 ≠ aa) ∧ (gb543 ≠ s_.2) ∧ (s_.2 ≠ gb543) ∧ (Below w.heap.size w w')) ?_ ?_
                    rotate_left
                    ·intro ct
                     refine join_ (σ := Value × Value) 6 #[false, true, true, false, true, true, true, false, true, true, true, false, false, false] (fun s_ => [(10, s_.1), (16, s_.2)]) (fun s_ w' => (w'.cell? ⟨aa, 0, none⟩ = some (.slice am aj.length al) ∧ w'.cell? ⟨aa, 1, none⟩ = some (.slice ao ak.length ap) ∧ w'.cell? ⟨aa, 2, none⟩ = some (.int .i64 af) ∧ w'.cell? ⟨aa, 3, none⟩ = some (.int .i64 ag) ∧ w'.cell? ⟨aa, 4, none⟩ = some (.int .i64 ah) ∧ w'.cell? ⟨aa, 5, none⟩ = some (.slice aq ai.length an)) ∧ (Kd.R (Kd.int .u8) 5 w' w.heap.size (fun _ => True) s_.1 be) ∧ (Kd.S k55 55 w' w.heap.size (fun k_ => some k_ ≠ (s_.1 : Value).ownBlock) s_.2 aV) ∧ (w'.heap[aa]? = some (.cells #[.slice am aj.length al, .slice ao ak.length ap, .int .i64 af, .int .i64 ag, .int .i64 ah, .slice aq ai.length an] 33 (0, 0))) ∧ (w'.heap[gb543]? = some (.cells #[.slice none 0 0, .slice none 0 0, .int .i64 0, .int .i64 0, .int .i64 0, .slice none 0 0] 33 (0, 0))) ∧ (Below w.heap.size w w')) ?_ ?_
                     rotate_left
                     ·intro cv
                      refine join_ (σ := Value × Nat) 6 #[false, true, true, false, true, true, true, false, true, true, false, false, true, false] (fun s_ => [(10, s_.1), (3, .pointer (some ⟨s_.2, 0, none⟩))]) (fun s_ w' => (w'.cell? ⟨aa, 0, none⟩ = some (.slice am aj.length al) ∧ w'.cell? ⟨aa, 1, none⟩ = some (.slice ao ak.length ap) ∧ w'.cell? ⟨aa, 2, none⟩ = some (.int .i64 af) ∧ w'.cell? ⟨aa, 3, none⟩ = some (.int .i64 ag) ∧ w'.cell? ⟨aa, 4, none⟩ = some (.int .i64 ah) ∧ w'.cell? ⟨aa, 5, none⟩ = some (.slice aq ai.length an)) ∧ (Kd.R (Kd.int .u8) 5 w' w.heap.size (fun _ => True) s_.1 be) ∧ (w'.heap[aa]? = some (.cells #[.slice am aj.length al, .slice ao ak.length ap, .int .i64 af, .int .i64 ag, .int .i64 ah, .slice aq ai.length an] 33 (0, 0))) ∧ (w'.heap[gb543]? = some (.cells #[.slice none 0 0, .slice none 0 0, .int .i64 0, .int .i64 0, .int .i64 0, .slice none 0 0] 33 (0, 0))) ∧ (w'.heap[s_.2]? = some (.cells #[.slice none 0 0, .slice none 0 0, .int .i64 0, .int .i64 0, .int .i64 0, .slice none 0 0] 33 (0, 0))) ∧ (w.heap.size ≤ s_.2) ∧ (w.heap.size ≤ s_.2) ∧ (aa ≠ s_.2) ∧ (s_.2 ≠ aa) ∧ (gb543 ≠ s_.2) ∧ (s_.2 ≠ gb543) ∧ (Below w.heap.size w w')) ?_ ?_
                      rotate_left
                      ·intro cu
                       refine join_ (σ := Value × Nat) 6 #[false, true, true, false, false, true, true, false, true, true, true, false, true, false] (fun s_ => [(16, s_.1), (3, .pointer (some ⟨s_.2, 0, none⟩))]) (fun s_ w' => (w'.cell? ⟨aa, 0, none⟩ = some (.slice am aj.length al) ∧ w'.cell? ⟨aa, 1, none⟩ = some (.slice ao ak.length ap) ∧ w'.cell? ⟨aa, 2, none⟩ = some (.int .i64 af) ∧ w'.cell? ⟨aa, 3, none⟩ = some (.int .i64 ag) ∧ w'.cell? ⟨aa, 4, none⟩ = some (.int .i64 ah) ∧ w'.cell? ⟨aa, 5, none⟩ = some (.slice aq ai.length an)) ∧ (Kd.S k55 55 w' w.heap.size (fun _ => True) s_.1 aV) ∧ (w'.heap[aa]? = some (.cells #[.slice am aj.length al, .slice ao ak.length ap, .int .i64 af, .int .i64 ag, .int .i64 ah, .slice aq ai.length an] 33 (0, 0))) ∧ (w'.heap[gb543]? = some (.cells #[.slice none 0 0, .slice none 0 0, .int .i64 0, .int .i64 0, .int .i64 0, .slice none 0 0] 33 (0, 0))) ∧ (w'.heap[s_.2]? = some (.cells #[.slice none 0 0, .slice none 0 0, .int .i64 0, .int .i64 0, .int .i64 0, .slice none 0 0] 33 (0, 0))) ∧ (w.heap.size ≤ s_.2) ∧ (w.heap.size ≤ s_.2) ∧ (aa ≠ s_.2) ∧ (s_.2 ≠ aa) ∧ (gb543 ≠ s_.2) ∧ (s_.2 ≠ gb543) ∧ (Below w.heap.size w w')) ?_ ?_
                       rotate_left
                       ·intro ch
                        refine join_ (σ := Value) 7 #[true, true, true, false, false, true, true, false, true, true, false, false, false, false] (fun s_ => [(6, s_)]) (fun s_ w' => (w'.cell? ⟨aa, 0, none⟩ = some (.slice am aj.length al) ∧ w'.cell? ⟨aa, 1, none⟩ = some (.slice ao ak.length ap) ∧ w'.cell? ⟨aa, 2, none⟩ = some (.int .i64 af) ∧ w'.cell? ⟨aa, 3, none⟩ = some (.int .i64 ag) ∧ w'.cell? ⟨aa, 4, none⟩ = some (.int .i64 ah) ∧ w'.cell? ⟨aa, 5, none⟩ = some (.slice aq ai.length an)) ∧ (Kd.R (Kd.int .u8) 5 w' w.heap.size (fun _ => True) s_ bi) ∧ (w'.heap[aa]? = some (.cells #[.slice am aj.length al, .slice ao ak.length ap, .int .i64 af, .int .i64 ag, .int .i64 ah, .slice aq ai.length an] 33 (0, 0))) ∧ (w'.heap[gb543]? = some (.cells #[.slice none 0 0, .slice none 0 0, .int .i64 0, .int .i64 0, .int .i64 0, .slice none 0 0] 33 (0, 0))) ∧ (Below w.heap.size w w')) ?_ ?_
                        rotate_left
                        ·intro hJ0
                         refine join_ (σ := Value) 7 #[false, true, true, false, true, true, true, false, true, true, false, false, false, false] (fun s_ => [(10, s_)]) (fun s_ w' => (w'.cell? ⟨aa, 0, none⟩ = some (.slice am aj.length al) ∧ w'.cell? ⟨aa, 1, none⟩ = some (.slice ao ak.length ap) ∧ w'.cell? ⟨aa, 2, none⟩ = some (.int .i64 af) ∧ w'.cell? ⟨aa, 3, none⟩ = some (.int .i64 ag) ∧ w'.cell? ⟨aa, 4, none⟩ = some (.int .i64 ah) ∧ w'.cell? ⟨aa, 5, none⟩ = some (.slice aq ai.length an)) ∧ (Kd.R (Kd.int .u8) 5 w' w.heap.size (fun _ => True) s_ be) ∧ (w'.heap[aa]? = some (.cells #[.slice am aj.length al, .slice ao ak.length ap, .int .i64 af, .int .i64 ag, .int .i64 ah, .slice aq ai.length an] 33 (0, 0))) ∧ (w'.heap[gb543]? = some (.cells #[.slice none 0 0, .slice none 0 0, .int .i64 0, .int .i64 0, .int .i64 0, .slice none 0 0] 33 (0, 0))) ∧ (Below w.heap.size w w')) ?_ ?_
                         rotate_left
                         ·intro hJ4
                          refine join_ (σ := Value) 7 #[false, true, true, false, false, true, true, false, true, true, true, false, false, false] (fun s_ => [(16, s_)]) (fun s_ w' => (w'.cell? ⟨aa, 0, none⟩ = some (.slice am aj.length al) ∧ w'.cell? ⟨aa, 1, none⟩ = some (.slice ao ak.length ap) ∧ w'.cell? ⟨aa, 2, none⟩ = some (.int .i64 af) ∧ w'.cell? ⟨aa, 3, none⟩ = some (.int .i64 ag) ∧ w'.cell? ⟨aa, 4, none⟩ = some (.int .i64 ah) ∧ w'.cell? ⟨aa, 5, none⟩ = some (.slice aq ai.length an)) ∧ (Kd.S k55 55 w' w.heap.size (fun _ => True) s_ aV) ∧ (w'.heap[aa]? = some (.cells #[.slice am aj.length al, .slice ao ak.length ap, .int .i64 af, .int .i64 ag, .int .i64 ah, .slice aq ai.length an] 33 (0, 0))) ∧ (w'.heap[gb543]? = some (.cells #[.slice none 0 0, .slice none 0 0, .int .i64 0, .int .i64 0, .int .i64 0, .slice none 0 0] 33 (0, 0))) ∧ (Below w.heap.size w w')) ?_ ?_
                          rotate_left
                          ·intro hJ10
                           refine join_ (σ := Nat) 7 #[false, true, true, false, false, true, true, false, true, true, false, false, true, false] (fun s_ => [(3, .pointer (some ⟨s_, 0, none⟩))]) (fun s_ w' => (w'.cell? ⟨aa, 0, none⟩ = some (.slice am aj.length al) ∧ w'.cell? ⟨aa, 1, none⟩ = some (.slice ao ak.length ap) ∧ w'.cell? ⟨aa, 2, none⟩ = some (.int .i64 af) ∧ w'.cell? ⟨aa, 3, none⟩ = some (.int .i64 ag) ∧ w'.cell? ⟨aa, 4, none⟩ = some (.int .i64 ah) ∧ w'.cell? ⟨aa, 5, none⟩ = some (.slice aq ai.length an)) ∧ (w'.heap[aa]? = some (.cells #[.slice am aj.length al, .slice ao ak.length ap, .int .i64 af, .int .i64 ag, .int .i64 ah, .slice aq ai.length an] 33 (0, 0))) ∧ (w'.heap[gb543]? = some (.cells #[.slice none 0 0, .slice none 0 0, .int .i64 0, .int .i64 0, .int .i64 0, .slice none 0 0] 33 (0, 0))) ∧ (w'.heap[s_]? = some (.cells #[.slice none 0 0, .slice none 0 0, .int .i64 0, .int .i64 0, .int .i64 0, .slice none 0 0] 33 (0, 0))) ∧ (w.heap.size ≤ s_) ∧ (w.heap.size ≤ s_) ∧ (aa ≠ s_) ∧ (s_ ≠ aa) ∧ (gb543 ≠ s_) ∧ (s_ ≠ gb543) ∧ (Below w.heap.size w w')) ?_ ?_
                           rotate_left
                           ·intro hJ12
                            refine four_ (i := 0) (j := 4) (k := 10) (m := 12) (Ni := some 6) (Nj := some 10) (Nk := some 16) (Nm := some 3) #[true, true, true, false, false, true, true, false, true, true, false, false, false, false] #[false, true, true, false, true, true, true, false, true, true, false, false, false, false] #[false, true, true, false, false, true, true, false, true, true, true, false, false, false] #[false, true, true, false, false, true, true, false, true, true, false, false, true, false] rfl rfl rfl rfl rfl rfl rfl rfl (four_of HT_.out (by kernel_rfl)) (by decide) (by decide) (by decide) (by decide) (fun K hK => ?_) (fun K hK => ?_) (fun K hK => ?_) (fun K hK => ?_)
                            ·skip
                             refine Kd.R_lit_step (Kd.int .u8) _ 5 ?hg (N := 6) ?hd (xs := ([] : List Int)) (inner := []) (ok := fun _ => True) (okp := fun _ => True) ?hr ?hp (fun _ hk => hk) trivial (Below.refl _ _) (Nat.le_refl _) (by simp) ?_; (case hd => rfl); (case hg => rfl); (case hr => first | (go_simp; done) | (go_simp; rfl)); (case hp => exact (Reps.none _ _))
                             intro aD w7 ho8 hb hg_ hnew_
                             clear hg_ hnew_
                             (first | rw [← bm.out] at ho8 | (simp only [Int.reduceToNat] at ho8; rw [← bm.out] at ho8))
                             have n0_ := aM (Kd.R_lower ho8 (below_size TB))
                             have n1_ := aM (blk_below (g := aa) (o := .cells #[.slice am aj.length al, .slice ao ak.length ap, .int .i64 af, .int .i64 ag, .int .i64 ah, .slice aq ai.length an] 33 (0, 0)) TK hb)
                             have n2_ := aM (blk_below (g := gb543) (o := .cells #[.slice none 0 0, .slice none 0 0, .int .i64 0, .int .i64 0, .int .i64 0, .slice none 0 0] 33 (0, 0)) TK hb)
                             have n3_ := aM (below_step TB hb)
                             clear ac
                             clear ae
                             clear HB
                             have az := n0_
                             have ac := n1_
                             have ae := n2_
                             have HB := n3_
                             clear n0_ n1_ n2_ n3_
                             clear hb ho8
                             refine hK.out _ _ (cz6 ac.out) (fun hHeld => ?_)
                             clear hK K
                             refine nR ?_
                             exact spec_l9Copy.nM (hJ0 (aD) _ ⟨hHeld, (by have X_ := az.out; exact TR), TK, TK, TB⟩)
                            ·skip
                             refine Kd.R_lit_step (Kd.int .u8) _ 5 ?hg (N := 10) ?hd (xs := ([] : List Int)) (inner := []) (ok := fun _ => True) (okp := fun _ => True) ?hr ?hp (fun _ hk => hk) trivial (Below.refl _ _) (Nat.le_refl _) (by simp) ?_; (case hd => rfl); (case hg => rfl); (case hr => first | (go_simp; done) | (go_simp; rfl)); (case hp => exact (Reps.none _ _))
                             intro aC w7 ho8 hb hg_ hnew_
                             clear hg_ hnew_
                             (first | rw [← bd.out] at ho8 | (simp only [Int.reduceToNat] at ho8; rw [← bd.out] at ho8))
                             have n0_ := aM (Kd.R_lower ho8 (below_size TB))
                             have n1_ := aM (blk_below (g := aa) (o := .cells #[.slice am aj.length al, .slice ao ak.length ap, .int .i64 af, .int .i64 ag, .int .i64 ah, .slice aq ai.length an] 33 (0, 0)) TK hb)
                             have n2_ := aM (blk_below (g := gb543) (o := .cells #[.slice none 0 0, .slice none 0 0, .int .i64 0, .int .i64 0, .int .i64 0, .slice none 0 0] 33 (0, 0)) TK hb)
                             have n3_ := aM (below_step TB hb)
                             clear ac
                             clear ae
                             clear HB
                             have ar := n0_
                             have ac := n1_
                             have ae := n2_
                             have HB := n3_
                             clear n0_ n1_ n2_ n3_
                             clear hb ho8
                             refine hK.out _ _ (cz6 ac.out) (fun hHeld => ?_)
                             clear hK K
                             refine nR ?_
                             exact spec_l9Copy.nM (hJ4 (aC) _ ⟨hHeld, (by have X_ := ar.out; exact TR), TK, TK, TB⟩)
                            ·skip
                             refine Kd.S_lit_step k55 _ 55 ?hg (N := 16) ?hd (xs := ([] : List (S55))) (inner := []) (ok := fun _ => True) (okp := fun _ => True) ?hr ?hp (fun _ hk => hk) trivial (Below.refl _ _) (Nat.le_refl _) (by simp) ?_; (case hd => rfl); (case hg => rfl); (case hr => first | (go_simp; done) | (go_simp; rfl)); (case hp => exact (Reps.none _ _))
                             intro aI w7 ho8 hb hg_ hnew_
                             clear hg_ hnew_
                             (first | rw [← aY.out] at ho8 | (simp only [Int.reduceToNat] at ho8; rw [← aY.out] at ho8))
                             have n0_ := aM (Kd.S_lower ho8 (below_size TB))
                             have n1_ := aM (blk_below (g := aa) (o := .cells #[.slice am aj.length al, .slice ao ak.length ap, .int .i64 af, .int .i64 ag, .int .i64 ah, .slice aq ai.length an] 33 (0, 0)) TK hb)
                             have n2_ := aM (blk_below (g := gb543) (o := .cells #[.slice none 0 0, .slice none 0 0, .int .i64 0, .int .i64 0, .int .i64 0, .slice none 0 0] 33 (0, 0)) TK hb)
                             have n3_ := aM (below_step TB hb)
                             clear ac
                             clear ae
                             clear HB
                             have av := n0_
                             have ac := n1_
                             have ae := n2_
                             have HB := n3_
                             clear n0_ n1_ n2_ n3_
                             clear hb ho8
                             refine hK.out _ _ (cz6 ac.out) (fun hHeld => ?_)
                             clear hK K
                             refine nR ?_
                             exact spec_l9Copy.nM (hJ10 (aI) _ ⟨hHeld, (by have X_ := av.out; exact TS), TK, TK, TB⟩)
                            ·skip
                             refine box_step ?hg (N := 3) ?hd (cs := #[.slice none 0 0, .slice none 0 0, .int .i64 0, .int .i64 0, .int .i64 0, .slice none 0 0]) (t := 33) ?hr ?_; (case hd => rfl); (case hg => rfl); (case hr => first | (go_simp; done) | (go_simp; rfl))
                             intro ab hg w7 hbox hb
                             have n0_ := aM (blk_below (g := aa) (o := .cells #[.slice am aj.length al, .slice ao ak.length ap, .int .i64 af, .int .i64 ag, .int .i64 ah, .slice aq ai.length an] 33 (0, 0)) TK hb)
                             have n1_ := aM (blk_below (g := gb543) (o := .cells #[.slice none 0 0, .slice none 0 0, .int .i64 0, .int .i64 0, .int .i64 0, .slice none 0 0] 33 (0, 0)) TK hb)
                             have n2_ := aM (below_step TB hb)
                             have n3_ := aM (hbox)
                             have n4_ := aM ((by rw [hg]; exact (below_size TB) : w.heap.size ≤ ab))
                             have n5_ := aM ((by rw [hg]; exact (below_size TB) : w.heap.size ≤ ab))
                             have n6_ := aM ((by rw [hg]; exact Nat.ne_of_lt (blk_lt (g := aa) (o := .cells #[.slice am aj.length al, .slice ao ak.length ap, .int .i64 af, .int .i64 ag, .int .i64 ah, .slice aq ai.length an] 33 (0, 0)) TK) : aa ≠ ab))
                             have n7_ := aM ((by rw [hg]; exact Nat.ne_of_gt (blk_lt (g := aa) (o := .cells #[.slice am aj.length al, .slice ao ak.length ap, .int .i64 af, .int .i64 ag, .int .i64 ah, .slice aq ai.length an] 33 (0, 0)) TK) : ab ≠ aa))
                             have n8_ := aM ((by rw [hg]; exact Nat.ne_of_lt (blk_lt (g := gb543) (o := .cells #[.slice none 0 0, .slice none 0 0, .int .i64 0, .int .i64 0, .int .i64 0, .slice none 0 0] 33 (0, 0)) TK) : gb543 ≠ ab))
                             have n9_ := aM ((by rw [hg]; exact Nat.ne_of_gt (blk_lt (g := gb543) (o := .cells #[.slice none 0 0, .slice none 0 0, .int .i64 0, .int .i64 0, .int .i64 0, .slice none 0 0] 33 (0, 0)) TK) : ab ≠ gb543))
                             clear ac
                             clear ae
                             clear HB
                             have ac := n0_
                             have ae := n1_
                             have HB := n2_
                             have aA := n3_
                             have aE := n4_
                             have aG := n5_
                             have ad := n6_
                             have ax := n7_
                             have au := n8_
                             have aw := n9_
                             clear n0_ n1_ n2_ n3_ n4_ n5_ n6_ n7_ n8_ n9_
                             clear hb hbox hg
                             refine hK.out _ _ (cz6 ac.out) (fun hHeld => ?_)
                             clear hK K
                             refine nR ?_
                             exact spec_l9Copy.nM (hJ12 (ab) _ ⟨hHeld, TK, TK, TK, aE.out, aG.out, ad.out, ax.out, au.out, aw.out, TB⟩)
                           ·skip
                            rintro ab w8 ⟨hS_, h0_, h1_, h2_, h3_, h4_, h5_, h6_, h7_, h8_, h9_⟩
                            clear ac ae HB
                            have ac : Aside0 (w8.heap[aa]? = some (.cells #[.slice am aj.length al, .slice ao ak.length ap, .int .i64 af, .int .i64 ag, .int .i64 ah, .slice aq ai.length an] 33 (0, 0))) := ⟨h0_⟩
                            have ae : Aside0 (w8.heap[gb543]? = some (.cells #[.slice none 0 0, .slice none 0 0, .int .i64 0, .int .i64 0, .int .i64 0, .slice none 0 0] 33 (0, 0))) := ⟨h1_⟩
                            have aA : Aside0 (w8.heap[ab]? = some (.cells #[.slice none 0 0, .slice none 0 0, .int .i64 0, .int .i64 0, .int .i64 0, .slice none 0 0] 33 (0, 0))) := ⟨h2_⟩
                            have aE : Aside0 (w.heap.size ≤ ab) := ⟨h3_⟩
                            have aG : Aside0 (w.heap.size ≤ ab) := ⟨h4_⟩
                            have ad : Aside0 (aa ≠ ab) := ⟨h5_⟩
                            have ax : Aside0 (ab ≠ aa) := ⟨h6_⟩
                            have au : Aside0 (gb543 ≠ ab) := ⟨h7_⟩
                            have aw : Aside0 (ab ≠ gb543) := ⟨h8_⟩
                            have HB : Aside0 (Below w.heap.size w w8) := ⟨h9_⟩
                            clear h0_ h1_ h2_ h3_ h4_ h5_ h6_ h7_ h8_ h9_
                            have hHeld : w8.cell? ⟨aa, 0, none⟩ = some (.slice am aj.length al) ∧ w8.cell? ⟨aa, 1, none⟩ = some (.slice ao ak.length ap) ∧ w8.cell? ⟨aa, 2, none⟩ = some (.int .i64 af) ∧ w8.cell? ⟨aa, 3, none⟩ = some (.int .i64 ag) ∧ w8.cell? ⟨aa, 4, none⟩ = some (.int .i64 ah) ∧ w8.cell? ⟨aa, 5, none⟩ = some (.slice aq ai.length an) := hS_
                            refine norm_ (a' := ?_) ?_ ?_
                            rotate_left
                            ·simp only [putAll, Act.put, List.setIfInBounds_toArray, List.set_cons_zero, List.set_cons_succ]
                             rfl
                            refine three_ (i := 0) (j := 4) (k := 10) (Ni := some 6) (Nj := some 10) (Nk := some 16) #[true, true, true, false, false, true, true, false, true, true, false, false, true, false] #[false, true, true, false, true, true, true, false, true, true, false, false, true, false] #[false, true, true, false, false, true, true, false, true, true, true, false, true, false] rfl rfl rfl rfl rfl rfl (three_of HT_.out (by kernel_rfl)) (by decide) (by decide) (by decide) (fun K hK => ?_) (fun K hK => ?_) (fun K hK => ?_)
                            ·skip
                             refine Kd.R_lit_step (Kd.int .u8) _ 5 ?hg (N := 6) ?hd (xs := ([] : List Int)) (inner := []) (ok := fun _ => True) (okp := fun _ => True) ?hr ?hp (fun _ hk => hk) trivial (Below.refl _ _) (Nat.le_refl _) (by simp) ?_; (case hd => rfl); (case hg => rfl); (case hr => first | (go_simp; done) | (go_simp; rfl)); (case hp => exact (Reps.none _ _))
                             intro aD w9 br hb hg_ hnew_
                             clear hg_ hnew_
                             (first | rw [← bm.out] at br | (simp only [Int.reduceToNat] at br; rw [← bm.out] at br))
                             have n0_ := aM (Kd.R_lower br (below_size TB))
                             have n1_ := aM (blk_below (g := aa) (o := .cells #[.slice am aj.length al, .slice ao ak.length ap, .int .i64 af, .int .i64 ag, .int .i64 ah, .slice aq ai.length an] 33 (0, 0)) TK hb)
                             have n2_ := aM (blk_below (g := gb543) (o := .cells #[.slice none 0 0, .slice none 0 0, .int .i64 0, .int .i64 0, .int .i64 0, .slice none 0 0] 33 (0, 0)) TK hb)
                             have n3_ := aM (blk_below (g := ab) (o := .cells #[.slice none 0 0, .slice none 0 0, .int .i64 0, .int .i64 0, .int .i64 0, .slice none 0 0] 33 (0, 0)) TK hb)
                             have n4_ := aM (below_step TB hb)
                             clear ac
                             clear ae
                             clear aA
                             clear HB
                             have az := n0_
                             have ac := n1_
                             have ae := n2_
                             have aA := n3_
                             have HB := n4_
                             clear n0_ n1_ n2_ n3_ n4_
                             clear hb br
                             refine hK.out _ _ (cz6 ac.out) (fun hHeld => ?_)
                             clear hK K
                             refine nR ?_
                             exact spec_l9Copy.nM (ct (aD, ab) _ ⟨hHeld, (by have X_ := az.out; exact TR), TK, TK, TK, aE.out, aG.out, ad.out, ax.out, au.out, aw.out, TB⟩)
                            ·skip
                             refine Kd.R_lit_step (Kd.int .u8) _ 5 ?hg (N := 10) ?hd (xs := ([] : List Int)) (inner := []) (ok := fun _ => True) (okp := fun _ => True) ?hr ?hp (fun _ hk => hk) trivial (Below.refl _ _) (Nat.le_refl _) (by simp) ?_; (case hd => rfl); (case hg => rfl); (case hr => first | (go_simp; done) | (go_simp; rfl)); (case hp => exact (Reps.none _ _))
                             intro aC w9 br hb hg_ hnew_
                             clear hg_ hnew_
                             (first | rw [← bd.out] at br | (simp only [Int.reduceToNat] at br; rw [← bd.out] at br))
                             have n0_ := aM (Kd.R_lower br (below_size TB))
                             have n1_ := aM (blk_below (g := aa) (o := .cells #[.slice am aj.length al, .slice ao ak.length ap, .int .i64 af, .int .i64 ag, .int .i64 ah, .slice aq ai.length an] 33 (0, 0)) TK hb)
                             have n2_ := aM (blk_below (g := gb543) (o := .cells #[.slice none 0 0, .slice none 0 0, .int .i64 0, .int .i64 0, .int .i64 0, .slice none 0 0] 33 (0, 0)) TK hb)
                             have n3_ := aM (blk_below (g := ab) (o := .cells #[.slice none 0 0, .slice none 0 0, .int .i64 0, .int .i64 0, .int .i64 0, .slice none 0 0] 33 (0, 0)) TK hb)
                             have n4_ := aM (below_step TB hb)
                             clear ac
                             clear ae
                             clear aA
                             clear HB
                             have ar := n0_
                             have ac := n1_
                             have ae := n2_
                             have aA := n3_
                             have HB := n4_
                             clear n0_ n1_ n2_ n3_ n4_
                             clear hb br
                             refine hK.out _ _ (cz6 ac.out) (fun hHeld => ?_)
                             clear hK K
                             refine nR ?_
                             exact spec_l9Copy.nM (cu (aC, ab) _ ⟨hHeld, (by have X_ := ar.out; exact TR), TK, TK, TK, aE.out, aG.out, ad.out, ax.out, au.out, aw.out, TB⟩)
                            ·skip
                             refine Kd.S_lit_step k55 _ 55 ?hg (N := 16) ?hd (xs := ([] : List (S55))) (inner := []) (ok := fun _ => True) (okp := fun _ => True) ?hr ?hp (fun _ hk => hk) trivial (Below.refl _ _) (Nat.le_refl _) (by simp) ?_; (case hd => rfl); (case hg => rfl); (case hr => first | (go_simp; done) | (go_simp; rfl)); (case hp => exact (Reps.none _ _))
                             intro aI w9 br hb hg_ hnew_
                             clear hg_ hnew_
                             (first | rw [← aY.out] at br | (simp only [Int.reduceToNat] at br; rw [← aY.out] at br))
                             have n0_ := aM (Kd.S_lower br (below_size TB))
                             have n1_ := aM (blk_below (g := aa) (o := .cells #[.slice am aj.length al, .slice ao ak.length ap, .int .i64 af, .int .i64 ag, .int .i64 ah, .slice aq ai.length an] 33 (0, 0)) TK hb)
                             have n2_ := aM (blk_below (g := gb543) (o := .cells #[.slice none 0 0, .slice none 0 0, .int .i64 0, .int .i64 0, .int .i64 0, .slice none 0 0] 33 (0, 0)) TK hb)
                             have n3_ := aM (blk_below (g := ab) (o := .cells #[.slice none 0 0, .slice none 0 0, .int .i64 0, .int .i64 0, .int .i64 0, .slice none 0 0] 33 (0, 0)) TK hb)
                             have n4_ := aM (below_step TB hb)
                             clear ac
                             clear ae
                             clear aA
                             clear HB
                             have av := n0_
                             have ac := n1_
                             have ae := n2_
                             have aA := n3_
                             have HB := n4_
                             clear n0_ n1_ n2_ n3_ n4_
                             clear hb br
                             refine hK.out _ _ (cz6 ac.out) (fun hHeld => ?_)
                             clear hK K
                             refine nR ?_
                             exact spec_l9Copy.nM (ch (aI, ab) _ ⟨hHeld, (by have X_ := av.out; exact TS), TK, TK, TK, aE.out, aG.out, ad.out, ax.out, au.out, aw.out, TB⟩)
                          ·skip
                           rintro aI w9 ⟨hS_, h0_, h1_, h2_, h3_⟩
                           clear ac ae HB
                           have av : Aside0 (Kd.S k55 55 w9 w.heap.size (fun _ => True) aI aV) := ⟨h0_⟩
                           have ac : Aside0 (w9.heap[aa]? = some (.cells #[.slice am aj.length al, .slice ao ak.length ap, .int .i64 af, .int .i64 ag, .int .i64 ah, .slice aq ai.length an] 33 (0, 0))) := ⟨h1_⟩
                           have ae : Aside0 (w9.heap[gb543]? = some (.cells #[.slice none 0 0, .slice none 0 0, .int .i64 0, .int .i64 0, .int .i64 0, .slice none 0 0] 33 (0, 0))) := ⟨h2_⟩
                           have HB : Aside0 (Below w.heap.size w w9) := ⟨h3_⟩
                           clear h0_ h1_ h2_ h3_
                           have hHeld : w9.cell? ⟨aa, 0, none⟩ = some (.slice am aj.length al) ∧ w9.cell? ⟨aa, 1, none⟩ = some (.slice ao ak.length ap) ∧ w9.cell? ⟨aa, 2, none⟩ = some (.int .i64 af) ∧ w9.cell? ⟨aa, 3, none⟩ = some (.int .i64 ag) ∧ w9.cell? ⟨aa, 4, none⟩ = some (.int .i64 ah) ∧ w9.cell? ⟨aa, 5, none⟩ = some (.slice aq ai.length an) := hS_
                           refine norm_ (a' := ?_) ?_ ?_
                           rotate_left
                           ·simp only [putAll, Act.put, List.setIfInBounds_toArray, List.set_cons_zero, List.set_cons_succ]
                            rfl
                           refine three_ (i := 0) (j := 4) (k := 12) (Ni := some 6) (Nj := some 10) (Nk := some 3) #[true, true, true, false, false, true, true, false, true, true, true, false, false, false] #[false, true, true, false, true, true, true, false, true, true, true, false, false, false] #[false, true, true, false, false, true, true, false, true, true, true, false, true, false] rfl rfl rfl rfl rfl rfl (three_of HT_.out (by kernel_rfl)) (by decide) (by decide) (by decide) (fun K hK => ?_) (fun K hK => ?_) (fun K hK => ?_)
                           ·skip
                            refine Kd.R_lit_step (Kd.int .u8) _ 5 ?hg (N := 6) ?hd (xs := ([] : List Int)) (inner := []) (ok := fun _ => True) (okp := fun _ => True) ?hr ?hp (fun _ hk => hk) trivial (Below.refl _ _) (Nat.le_refl _) (by simp) ?_; (case hd => rfl); (case hg => rfl); (case hr => first | (go_simp; done) | (go_simp; rfl)); (case hp => exact (Reps.none _ _))
                            intro aD w10 aU hb hg_ hnew_
                            clear hg_ hnew_
                            (first | rw [← bm.out] at aU | (simp only [Int.reduceToNat] at aU; rw [← bm.out] at aU))
                            have n0_ := aM (Kd.S_elder' (by have X_ := av.out; exact TS) (Kd.R_base aU) hb)
                            have n1_ := aM (Kd.R_lower aU (below_size TB))
                            have n2_ := aM (blk_below (g := aa) (o := .cells #[.slice am aj.length al, .slice ao ak.length ap, .int .i64 af, .int .i64 ag, .int .i64 ah, .slice aq ai.length an] 33 (0, 0)) TK hb)
                            have n3_ := aM (blk_below (g := gb543) (o := .cells #[.slice none 0 0, .slice none 0 0, .int .i64 0, .int .i64 0, .int .i64 0, .slice none 0 0] 33 (0, 0)) TK hb)
                            have n4_ := aM (below_step TB hb)
                            clear av
                            clear ac
                            clear ae
                            clear HB
                            have av := n0_
                            have az := n1_
                            have ac := n2_
                            have ae := n3_
                            have HB := n4_
                            clear n0_ n1_ n2_ n3_ n4_
                            clear hb aU
                            refine hK.out _ _ (cz6 ac.out) (fun hHeld => ?_)
                            clear hK K
                            refine nR ?_
                            exact spec_l9Copy.nM (cx (aD, aI) _ ⟨hHeld, (by have X_ := az.out; exact TR), (by (with_reducible repeat (first | apply Kd.S_alloc | apply Kd.S_drewN | apply Kd.S_drew)); exact Kd.S_mono av.out (fun _ hk => hk.2)), TK, TK, TB⟩)
                           ·skip
                            refine Kd.R_lit_step (Kd.int .u8) _ 5 ?hg (N := 10) ?hd (xs := ([] : List Int)) (inner := []) (ok := fun _ => True) (okp := fun _ => True) ?hr ?hp (fun _ hk => hk) trivial (Below.refl _ _) (Nat.le_refl _) (by simp) ?_; (case hd => rfl); (case hg => rfl); (case hr => first | (go_simp; done) | (go_simp; rfl)); (case hp => exact (Reps.none _ _))
                            intro aC w10 aU hb hg_ hnew_
                            clear hg_ hnew_
                            (first | rw [← bd.out] at aU | (simp only [Int.reduceToNat] at aU; rw [← bd.out] at aU))
                            have n0_ := aM (Kd.S_elder' (by have X_ := av.out; exact TS) (Kd.R_base aU) hb)
                            have n1_ := aM (Kd.R_lower aU (below_size TB))
                            have n2_ := aM (blk_below (g := aa) (o := .cells #[.slice am aj.length al, .slice ao ak.length ap, .int .i64 af, .int .i64 ag, .int .i64 ah, .slice aq ai.length an] 33 (0, 0)) TK hb)
                            have n3_ := aM (blk_below (g := gb543) (o := .cells #[.slice none 0 0, .slice none 0 0, .int .i64 0, .int .i64 0, .int .i64 0, .slice none 0 0] 33 (0, 0)) TK hb)
                            have n4_ := aM (below_step TB hb)
                            clear av
                            clear ac
                            clear ae
                            clear HB
                            have av := n0_
                            have ar := n1_
                            have ac := n2_
                            have ae := n3_
                            have HB := n4_
                            clear n0_ n1_ n2_ n3_ n4_
                            clear hb aU
                            refine hK.out _ _ (cz6 ac.out) (fun hHeld => ?_)
                            clear hK K
                            refine nR ?_
                            exact spec_l9Copy.nM (cv (aC, aI) _ ⟨hHeld, (by have X_ := ar.out; exact TR), (by (with_reducible repeat (first | apply Kd.S_alloc | apply Kd.S_drewN | apply Kd.S_drew)); exact Kd.S_mono av.out (fun _ hk => hk.2)), TK, TK, TB⟩)
                           ·skip
                            refine box_step ?hg (N := 3) ?hd (cs := #[.slice none 0 0, .slice none 0 0, .int .i64 0, .int .i64 0, .int .i64 0, .slice none 0 0]) (t := 33) ?hr ?_; (case hd => rfl); (case hg => rfl); (case hr => first | (go_simp; done) | (go_simp; rfl))
                            intro ab hg w10 hbox hb
                            have n0_ := aM (Kd.S_below (by have X_ := av.out; exact TS) hb)
                            have n1_ := aM (blk_below (g := aa) (o := .cells #[.slice am aj.length al, .slice ao ak.length ap, .int .i64 af, .int .i64 ag, .int .i64 ah, .slice aq ai.length an] 33 (0, 0)) TK hb)
                            have n2_ := aM (blk_below (g := gb543) (o := .cells #[.slice none 0 0, .slice none 0 0, .int .i64 0, .int .i64 0, .int .i64 0, .slice none 0 0] 33 (0, 0)) TK hb)
                            have n3_ := aM (below_step TB hb)
                            have n4_ := aM (hbox)
                            have n5_ := aM ((by rw [hg]; exact (below_size TB) : w.heap.size ≤ ab))
                            have n6_ := aM ((by rw [hg]; exact (below_size TB) : w.heap.size ≤ ab))
                            have n7_ := aM ((by rw [hg]; exact Nat.ne_of_lt (blk_lt (g := aa) (o := .cells #[.slice am aj.length al, .slice ao ak.length ap, .int .i64 af, .int .i64 ag, .int .i64 ah, .slice aq ai.length an] 33 (0, 0)) TK) : aa ≠ ab))
                            have n8_ := aM ((by rw [hg]; exact Nat.ne_of_gt (blk_lt (g := aa) (o := .cells #[.slice am aj.length al, .slice ao ak.length ap, .int .i64 af, .int .i64 ag, .int .i64 ah, .slice aq ai.length an] 33 (0, 0)) TK) : ab ≠ aa))
                            have n9_ := aM ((by rw [hg]; exact Nat.ne_of_lt (blk_lt (g := gb543) (o := .cells #[.slice none 0 0, .slice none 0 0, .int .i64 0, .int .i64 0, .int .i64 0, .slice none 0 0] 33 (0, 0)) TK) : gb543 ≠ ab))
                            have aX := aM ((by rw [hg]; exact Nat.ne_of_gt (blk_lt (g := gb543) (o := .cells #[.slice none 0 0, .slice none 0 0, .int .i64 0, .int .i64 0, .int .i64 0, .slice none 0 0] 33 (0, 0)) TK) : ab ≠ gb543))
                            clear av
                            clear ac
                            clear ae
                            clear HB
                            have av := n0_
                            have ac := n1_
                            have ae := n2_
                            have HB := n3_
                            have aA := n4_
                            have aE := n5_
                            have aG := n6_
                            have ad := n7_
                            have ax := n8_
                            have au := n9_
                            have aw := aX
                            clear n0_ n1_ n2_ n3_ n4_ n5_ n6_ n7_ n8_ n9_ aX
                            clear hb hbox hg
                            refine hK.out _ _ (cz6 ac.out) (fun hHeld => ?_)
                            clear hK K
                            refine nR ?_
                            exact spec_l9Copy.nM (ch (aI, ab) _ ⟨hHeld, (by have X_ := av.out; exact TS), TK, TK, TK, aE.out, aG.out, ad.out, ax.out, au.out, aw.out, TB⟩)
                         ·skip
                          rintro aC w9 ⟨hS_, h0_, h1_, h2_, h3_⟩
                          clear ac ae HB
                          have ar : Aside0 (Kd.R (Kd.int .u8) 5 w9 w.heap.size (fun _ => True) aC be) := ⟨h0_⟩
                          have ac : Aside0 (w9.heap[aa]? = some (.cells #[.slice am aj.length al, .slice ao ak.length ap, .int .i64 af, .int .i64 ag, .int .i64 ah, .slice aq ai.length an] 33 (0, 0))) := ⟨h1_⟩
                          have ae : Aside0 (w9.heap[gb543]? = some (.cells #[.slice none 0 0, .slice none 0 0, .int .i64 0, .int .i64 0, .int .i64 0, .slice none 0 0] 33 (0, 0))) := ⟨h2_⟩
                          have HB : Aside0 (Below w.heap.size w w9) := ⟨h3_⟩
                          clear h0_ h1_ h2_ h3_
                          have hHeld : w9.cell? ⟨aa, 0, none⟩ = some (.slice am aj.length al) ∧ w9.cell? ⟨aa, 1, none⟩ = some (.slice ao ak.length ap) ∧ w9.cell? ⟨aa, 2, none⟩ = some (.int .i64 af) ∧ w9.cell? ⟨aa, 3, none⟩ = some (.int .i64 ag) ∧ w9.cell? ⟨aa, 4, none⟩ = some (.int .i64 ah) ∧ w9.cell? ⟨aa, 5, none⟩ = some (.slice aq ai.length an) := hS_
                          refine norm_ (a' := ?_) ?_ ?_
                          rotate_left
                          ·simp only [putAll, Act.put, List.setIfInBounds_toArray, List.set_cons_zero, List.set_cons_succ]
                           rfl
                          refine three_ (i := 0) (j := 10) (k := 12) (Ni := some 6) (Nj := some 16) (Nk := some 3) #[true, true, true, false, true, true, true, false, true, true, false, false, false, false] #[false, true, true, false, true, true, true, false, true, true, true, false, false, false] #[false, true, true, false, true, true, true, false, true, true, false, false, true, false] rfl rfl rfl rfl rfl rfl (three_of HT_.out (by kernel_rfl)) (by decide) (by decide) (by decide) (fun K hK => ?_) (fun K hK => ?_) (fun K hK => ?_)
                          ·skip
                           refine Kd.R_lit_step (Kd.int .u8) _ 5 ?hg (N := 6) ?hd (xs := ([] : List Int)) (inner := []) (ok := fun _ => True) (okp := fun _ => True) ?hr ?hp (fun _ hk => hk) trivial (Below.refl _ _) (Nat.le_refl _) (by simp) ?_; (case hd => rfl); (case hg => rfl); (case hr => first | (go_simp; done) | (go_simp; rfl)); (case hp => exact (Reps.none _ _))
                           intro aD w10 aU hb hg_ hnew_
                           clear hg_ hnew_
                           (first | rw [← bm.out] at aU | (simp only [Int.reduceToNat] at aU; rw [← bm.out] at aU))
                           have n0_ := aM (Kd.R_elder' (by have X_ := ar.out; exact TR) (Kd.R_base aU) hb)
                           have n1_ := aM (Kd.R_lower (Kd.R_new' aU (Kd.R_lt (by have X_ := ar.out; exact TR))) (below_size TB))
                           have n2_ := aM (blk_below (g := aa) (o := .cells #[.slice am aj.length al, .slice ao ak.length ap, .int .i64 af, .int .i64 ag, .int .i64 ah, .slice aq ai.length an] 33 (0, 0)) TK hb)
                           have n3_ := aM (blk_below (g := gb543) (o := .cells #[.slice none 0 0, .slice none 0 0, .int .i64 0, .int .i64 0, .int .i64 0, .slice none 0 0] 33 (0, 0)) TK hb)
                           have n4_ := aM (below_step TB hb)
                           clear ar
                           clear ac
                           clear ae
                           clear HB
                           have ar := n0_
                           have az := n1_
                           have ac := n2_
                           have ae := n3_
                           have HB := n4_
                           clear n0_ n1_ n2_ n3_ n4_
                           clear hb aU
                           refine hK.out _ _ (cz6 ac.out) (fun hHeld => ?_)
                           clear hK K
                           refine nR ?_
                           exact spec_l9Copy.nM (cH (aD, aC) _ ⟨hHeld, (by (with_reducible repeat (first | apply Kd.R_alloc | apply Kd.R_drewN | apply Kd.R_drew)); exact Kd.R_mono az.out (fun _ hk => hk.2)), (by (with_reducible repeat (first | apply Kd.R_alloc | apply Kd.R_drewN | apply Kd.R_drew)); exact Kd.R_mono ar.out (fun _ hk => hk.2)), TK, TK, TB⟩)
                          ·skip
                           refine Kd.S_lit_step k55 _ 55 ?hg (N := 16) ?hd (xs := ([] : List (S55))) (inner := []) (ok := fun _ => True) (okp := fun _ => True) ?hr ?hp (fun _ hk => hk) trivial (Below.refl _ _) (Nat.le_refl _) (by simp) ?_; (case hd => rfl); (case hg => rfl); (case hr => first | (go_simp; done) | (go_simp; rfl)); (case hp => exact (Reps.none _ _))
                           intro aI w10 aU hb hg_ hnew_
                           clear hg_ hnew_
                           (first | rw [← aY.out] at aU | (simp only [Int.reduceToNat] at aU; rw [← aY.out] at aU))
                           have n0_ := aM (Kd.R_below (by have X_ := ar.out; exact TR) hb)
                           have n1_ := aM (Kd.S_lower (Kd.S_new' aU (Kd.R_lt (by have X_ := ar.out; exact TR))) (below_size TB))
                           have n2_ := aM (blk_below (g := aa) (o := .cells #[.slice am aj.length al, .slice ao ak.length ap, .int .i64 af, .int .i64 ag, .int .i64 ah, .slice aq ai.length an] 33 (0, 0)) TK hb)
                           have n3_ := aM (blk_below (g := gb543) (o := .cells #[.slice none 0 0, .slice none 0 0, .int .i64 0, .int .i64 0, .int .i64 0, .slice none 0 0] 33 (0, 0)) TK hb)
                           have n4_ := aM (below_step TB hb)
                           clear ar
                           clear ac
                           clear ae
                           clear HB
                           have ar := n0_
                           have av := n1_
                           have ac := n2_
                           have ae := n3_
                           have HB := n4_
                           clear n0_ n1_ n2_ n3_ n4_
                           clear hb aU
                           refine hK.out _ _ (cz6 ac.out) (fun hHeld => ?_)
                           clear hK K
                           refine nR ?_
                           exact spec_l9Copy.nM (cv (aC, aI) _ ⟨hHeld, (by have X_ := ar.out; exact TR), (by (with_reducible repeat (first | apply Kd.S_alloc | apply Kd.S_drewN | apply Kd.S_drew)); exact Kd.S_mono av.out (fun _ hk => hk.2)), TK, TK, TB⟩)
                          ·skip
                           refine box_step ?hg (N := 3) ?hd (cs := #[.slice none 0 0, .slice none 0 0, .int .i64 0, .int .i64 0, .int .i64 0, .slice none 0 0]) (t := 33) ?hr ?_; (case hd => rfl); (case hg => rfl); (case hr => first | (go_simp; done) | (go_simp; rfl))
                           intro ab hg w10 hbox hb
                           have n0_ := aM (Kd.R_below (by have X_ := ar.out; exact TR) hb)
                           have n1_ := aM (blk_below (g := aa) (o := .cells #[.slice am aj.length al, .slice ao ak.length ap, .int .i64 af, .int .i64 ag, .int .i64 ah, .slice aq ai.length an] 33 (0, 0)) TK hb)
                           have n2_ := aM (blk_below (g := gb543) (o := .cells #[.slice none 0 0, .slice none 0 0, .int .i64 0, .int .i64 0, .int .i64 0, .slice none 0 0] 33 (0, 0)) TK hb)
                           have n3_ := aM (below_step TB hb)
                           have n4_ := aM (hbox)
                           have n5_ := aM ((by rw [hg]; exact (below_size TB) : w.heap.size ≤ ab))
                           have n6_ := aM ((by rw [hg]; exact (below_size TB) : w.heap.size ≤ ab))
                           have n7_ := aM ((by rw [hg]; exact Nat.ne_of_lt (blk_lt (g := aa) (o := .cells #[.slice am aj.length al, .slice ao ak.length ap, .int .i64 af, .int .i64 ag, .int .i64 ah, .slice aq ai.length an] 33 (0, 0)) TK) : aa ≠ ab))
                           have n8_ := aM ((by rw [hg]; exact Nat.ne_of_gt (blk_lt (g := aa) (o := .cells #[.slice am aj.length al, .slice ao ak.length ap, .int .i64 af, .int .i64 ag, .int .i64 ah, .slice aq ai.length an] 33 (0, 0)) TK) : ab ≠ aa))
                           have n9_ := aM ((by rw [hg]; exact Nat.ne_of_lt (blk_lt (g := gb543) (o := .cells #[.slice none 0 0, .slice none 0 0, .int .i64 0, .int .i64 0, .int .i64 0, .slice none 0 0] 33 (0, 0)) TK) : gb543 ≠ ab))
                           have aX := aM ((by rw [hg]; exact Nat.ne_of_gt (blk_lt (g := gb543) (o := .cells #[.slice none 0 0, .slice none 0 0, .int .i64 0, .int .i64 0, .int .i64 0, .slice none 0 0] 33 (0, 0)) TK) : ab ≠ gb543))
                           clear ar
                           clear ac
                           clear ae
                           clear HB
                           have ar := n0_
                           have ac := n1_
                           have ae := n2_
                           have HB := n3_
                           have aA := n4_
                           have aE := n5_
                           have aG := n6_
                           have ad := n7_
                           have ax := n8_
                           have au := n9_
                           have aw := aX
                           clear n0_ n1_ n2_ n3_ n4_ n5_ n6_ n7_ n8_ n9_ aX
                           clear hb hbox hg
                           refine hK.out _ _ (cz6 ac.out) (fun hHeld => ?_)
                           clear hK K
                           refine nR ?_
                           exact spec_l9Copy.nM (cu (aC, ab) _ ⟨hHeld, (by have X_ := ar.out; exact TR), TK, TK, TK, aE.out, aG.out, ad.out, ax.out, au.out, aw.out, TB⟩)
                        ·skip
                         rintro aD w9 ⟨hS_, h0_, h1_, h2_, h3_⟩
                         clear ac ae HB
                         have az : Aside0 (Kd.R (Kd.int .u8) 5 w9 w.heap.size (fun _ => True) aD bi) := ⟨h0_⟩
                         have ac : Aside0 (w9.heap[aa]? = some (.cells #[.slice am aj.length al, .slice ao ak.length ap, .int .i64 af, .int .i64 ag, .int .i64 ah, .slice aq ai.length an] 33 (0, 0))) := ⟨h1_⟩
                         have ae : Aside0 (w9.heap[gb543]? = some (.cells #[.slice none 0 0, .slice none 0 0, .int .i64 0, .int .i64 0, .int .i64 0, .slice none 0 0] 33 (0, 0))) := ⟨h2_⟩
                         have HB : Aside0 (Below w.heap.size w w9) := ⟨h3_⟩
                         clear h0_ h1_ h2_ h3_
                         have hHeld : w9.cell? ⟨aa, 0, none⟩ = some (.slice am aj.length al) ∧ w9.cell? ⟨aa, 1, none⟩ = some (.slice ao ak.length ap) ∧ w9.cell? ⟨aa, 2, none⟩ = some (.int .i64 af) ∧ w9.cell? ⟨aa, 3, none⟩ = some (.int .i64 ag) ∧ w9.cell? ⟨aa, 4, none⟩ = some (.int .i64 ah) ∧ w9.cell? ⟨aa, 5, none⟩ = some (.slice aq ai.length an) := hS_
                         refine norm_ (a' := ?_) ?_ ?_
                         rotate_left
                         ·simp only [putAll, Act.put, List.setIfInBounds_toArray, List.set_cons_zero, List.set_cons_succ]
                          rfl
                         refine four_ (i := 3) (j := 4) (k := 10) (m := 12) (Ni := some 9) (Nj := some 10) (Nk := some 16) (Nm := some 3) #[true, true, true, true, false, true, true, false, true, true, false, false, false, false] #[true, true, true, false, true, true, true, false, true, true, false, false, false, false] #[true, true, true, false, false, true, true, false, true, true, true, false, false, false] #[true, true, true, false, false, true, true, false, true, true, false, false, true, false] rfl rfl rfl rfl rfl rfl rfl rfl (four_of HT_.out (by kernel_rfl)) (by decide) (by decide) (by decide) (by decide) (fun K hK => ?_) (fun K hK => ?_) (fun K hK => ?_) (fun K hK => ?_)
                         ·skip
                          refine Kd.R_append_rows_step (Kd.int .u8) (w0 := w) w.heap.size (by rfl) (.tmp 6) (.tmp 8) 22 5 (.int .u8 0) 1 rfl Try.underlying22 info5 rfl (by decide) (by omega) aD bi aj _ _ _ (fun _ => True) (fun _ => False) rfl rfl ?aO ?aR (fun _ _ h => h) (fun _ h => h.elim) ?aF ?aB ?aS ?aL ?_
                          (case aR => repeat (first | exact (Kd.C_below bC.out HB.out) | (with_reducible refine Kd.C_alloc ?_ _) | (with_reducible refine Kd.C_drewN ?_ _) | (with_reducible refine Kd.C_drew ?_)))
                          (case aB => exact TB)
                          (case aF => exact (fun _ _ => trivial))
                          (case aO => exact (by have X_ := az.out; exact TR))
                          (case aS => exact (below_size TB))
                          (case aL => have := bM.out; omega)
                          intro aH w10 ho hb hg hat
                          rw [← bB.out] at ho
                          have n0_ := aM (blk_grown (g := aa) (o := .cells #[.slice am aj.length al, .slice ao ak.length ap, .int .i64 af, .int .i64 ag, .int .i64 ah, .slice aq ai.length an] 33 (0, 0)) TK hg (Kd.R_ne az.out ac.out (by decide)))
                          have n1_ := aM (blk_grown (g := gb543) (o := .cells #[.slice none 0 0, .slice none 0 0, .int .i64 0, .int .i64 0, .int .i64 0, .slice none 0 0] 33 (0, 0)) TK hg (Kd.R_ne az.out ae.out (by decide)))
                          have n2_ := aM (hb)
                          have n3_ := aM (ho)
                          clear ac
                          clear ae
                          clear HB
                          clear az
                          have ac := n0_
                          have ae := n1_
                          have HB := n2_
                          have ay := n3_
                          clear n0_ n1_ n2_ n3_
                          clear ho hb hg hat
                          refine hK.out _ _ (cz6 ac.out) (fun hHeld => ?_)
                          clear hK K
                          refine nR ?_
                          exact spec_l9Copy.nM (hJ0_3 (aD, aH) _ ⟨hHeld, (by have X_ := ay.out; exact TR), TK, TK, TB⟩)
                         ·skip
                          refine Kd.R_lit_step (Kd.int .u8) _ 5 ?hg (N := 10) ?hd (xs := ([] : List Int)) (inner := []) (ok := fun _ => True) (okp := fun _ => True) ?hr ?hp (fun _ hk => hk) trivial (Below.refl _ _) (Nat.le_refl _) (by simp) ?_; (case hd => rfl); (case hg => rfl); (case hr => first | (go_simp; done) | (go_simp; rfl)); (case hp => exact (Reps.none _ _))
                          intro aC w10 aU hb hg_ hnew_
                          clear hg_ hnew_
                          (first | rw [← bd.out] at aU | (simp only [Int.reduceToNat] at aU; rw [← bd.out] at aU))
                          have n0_ := aM (Kd.R_elder' (by have X_ := az.out; exact TR) (Kd.R_base aU) hb)
                          have n1_ := aM (Kd.R_lower (Kd.R_new' aU (Kd.R_lt (by have X_ := az.out; exact TR))) (below_size TB))
                          have n2_ := aM (blk_below (g := aa) (o := .cells #[.slice am aj.length al, .slice ao ak.length ap, .int .i64 af, .int .i64 ag, .int .i64 ah, .slice aq ai.length an] 33 (0, 0)) TK hb)
                          have n3_ := aM (blk_below (g := gb543) (o := .cells #[.slice none 0 0, .slice none 0 0, .int .i64 0, .int .i64 0, .int .i64 0, .slice none 0 0] 33 (0, 0)) TK hb)
                          have n4_ := aM (below_step TB hb)
                          clear az
                          clear ac
                          clear ae
                          clear HB
                          have az := n0_
                          have ar := n1_
                          have ac := n2_
                          have ae := n3_
                          have HB := n4_
                          clear n0_ n1_ n2_ n3_ n4_
                          clear hb aU
                          refine hK.out _ _ (cz6 ac.out) (fun hHeld => ?_)
                          clear hK K
                          refine nR ?_
                          exact spec_l9Copy.nM (cH (aD, aC) _ ⟨hHeld, (by (with_reducible repeat (first | apply Kd.R_alloc | apply Kd.R_drewN | apply Kd.R_drew)); exact Kd.R_mono az.out (fun _ hk => hk.2)), (by (with_reducible repeat (first | apply Kd.R_alloc | apply Kd.R_drewN | apply Kd.R_drew)); exact Kd.R_mono ar.out (fun _ hk => hk.2)), TK, TK, TB⟩)
                         ·skip
                          refine Kd.S_lit_step k55 _ 55 ?hg (N := 16) ?hd (xs := ([] : List (S55))) (inner := []) (ok := fun _ => True) (okp := fun _ => True) ?hr ?hp (fun _ hk => hk) trivial (Below.refl _ _) (Nat.le_refl _) (by simp) ?_; (case hd => rfl); (case hg => rfl); (case hr => first | (go_simp; done) | (go_simp; rfl)); (case hp => exact (Reps.none _ _))
                          intro aI w10 aU hb hg_ hnew_
                          clear hg_ hnew_
                          (first | rw [← aY.out] at aU | (simp only [Int.reduceToNat] at aU; rw [← aY.out] at aU))
                          have n0_ := aM (Kd.R_below (by have X_ := az.out; exact TR) hb)
                          have n1_ := aM (Kd.S_lower (Kd.S_new' aU (Kd.R_lt (by have X_ := az.out; exact TR))) (below_size TB))
                          have n2_ := aM (blk_below (g := aa) (o := .cells #[.slice am aj.length al, .slice ao ak.length ap, .int .i64 af, .int .i64 ag, .int .i64 ah, .slice aq ai.length an] 33 (0, 0)) TK hb)
                          have n3_ := aM (blk_below (g := gb543) (o := .cells #[.slice none 0 0, .slice none 0 0, .int .i64 0, .int .i64 0, .int .i64 0, .slice none 0 0] 33 (0, 0)) TK hb)
                          have n4_ := aM (below_step TB hb)
                          clear az
                          clear ac
                          clear ae
                          clear HB
                          have az := n0_
                          have av := n1_
                          have ac := n2_
                          have ae := n3_
                          have HB := n4_
                          clear n0_ n1_ n2_ n3_ n4_
                          clear hb aU
                          refine hK.out _ _ (cz6 ac.out) (fun hHeld => ?_)
                          clear hK K
                          refine nR ?_
                          exact spec_l9Copy.nM (cx (aD, aI) _ ⟨hHeld, (by have X_ := az.out; exact TR), (by (with_reducible repeat (first | apply Kd.S_alloc | apply Kd.S_drewN | apply Kd.S_drew)); exact Kd.S_mono av.out (fun _ hk => hk.2)), TK, TK, TB⟩)
                         ·skip
                          refine box_step ?hg (N := 3) ?hd (cs := #[.slice none 0 0, .slice none 0 0, .int .i64 0, .int .i64 0, .int .i64 0, .slice none 0 0]) (t := 33) ?hr ?_; (case hd => rfl); (case hg => rfl); (case hr => first | (go_simp; done) | (go_simp; rfl))
                          intro ab hg w10 hbox hb
                          have n0_ := aM (Kd.R_below (by have X_ := az.out; exact TR) hb)
                          have n1_ := aM (blk_below (g := aa) (o := .cells #[.slice am aj.length al, .slice ao ak.length ap, .int .i64 af, .int .i64 ag, .int .i64 ah, .slice aq ai.length an] 33 (0, 0)) TK hb)
                          have n2_ := aM (blk_below (g := gb543) (o := .cells #[.slice none 0 0, .slice none 0 0, .int .i64 0, .int .i64 0, .int .i64 0, .slice none 0 0] 33 (0, 0)) TK hb)
                          have n3_ := aM (below_step TB hb)
                          have n4_ := aM (hbox)
                          have n5_ := aM ((by rw [hg]; exact (below_size TB) : w.heap.size ≤ ab))
                          have n6_ := aM ((by rw [hg]; exact (below_size TB) : w.heap.size ≤ ab))
                          have n7_ := aM ((by rw [hg]; exact Nat.ne_of_lt (blk_lt (g := aa) (o := .cells #[.slice am aj.length al, .slice ao ak.length ap, .int .i64 af, .int .i64 ag, .int .i64 ah, .slice aq ai.length an] 33 (0, 0)) TK) : aa ≠ ab))
                          have n8_ := aM ((by rw [hg]; exact Nat.ne_of_gt (blk_lt (g := aa) (o := .cells #[.slice am aj.length al, .slice ao ak.length ap, .int .i64 af, .int .i64 ag, .int .i64 ah, .slice aq ai.length an] 33 (0, 0)) TK) : ab ≠ aa))
                          have n9_ := aM ((by rw [hg]; exact Nat.ne_of_lt (blk_lt (g := gb543) (o := .cells #[.slice none 0 0, .slice none 0 0, .int .i64 0, .int .i64 0, .int .i64 0, .slice none 0 0] 33 (0, 0)) TK) : gb543 ≠ ab))
                          have aX := aM ((by rw [hg]; exact Nat.ne_of_gt (blk_lt (g := gb543) (o := .cells #[.slice none 0 0, .slice none 0 0, .int .i64 0, .int .i64 0, .int .i64 0, .slice none 0 0] 33 (0, 0)) TK) : ab ≠ gb543))
                          clear az
                          clear ac
                          clear ae
                          clear HB
                          have az := n0_
                          have ac := n1_
                          have ae := n2_
                          have HB := n3_
                          have aA := n4_
                          have aE := n5_
                          have aG := n6_
                          have ad := n7_
                          have ax := n8_
                          have au := n9_
                          have aw := aX
                          clear n0_ n1_ n2_ n3_ n4_ n5_ n6_ n7_ n8_ n9_ aX
                          clear hb hbox hg
                          refine hK.out _ _ (cz6 ac.out) (fun hHeld => ?_)
                          clear hK K
                          refine nR ?_
                          exact spec_l9Copy.nM (ct (aD, ab) _ ⟨hHeld, (by have X_ := az.out; exact TR), TK, TK, TK, aE.out, aG.out, ad.out, ax.out, au.out, aw.out, TB⟩)
                       ·skip
                        rintro ⟨aI, ab⟩ w10 ⟨hS_, h0_, h1_, h2_, h3_, h4_, h5_, h6_, h7_, h8_, h9_, aW⟩
                        clear ac ae HB
                        have av : Aside0 (Kd.S k55 55 w10 w.heap.size (fun _ => True) aI aV) := ⟨h0_⟩
                        have ac : Aside0 (w10.heap[aa]? = some (.cells #[.slice am aj.length al, .slice ao ak.length ap, .int .i64 af, .int .i64 ag, .int .i64 ah, .slice aq ai.length an] 33 (0, 0))) := ⟨h1_⟩
                        have ae : Aside0 (w10.heap[gb543]? = some (.cells #[.slice none 0 0, .slice none 0 0, .int .i64 0, .int .i64 0, .int .i64 0, .slice none 0 0] 33 (0, 0))) := ⟨h2_⟩
                        have aA : Aside0 (w10.heap[ab]? = some (.cells #[.slice none 0 0, .slice none 0 0, .int .i64 0, .int .i64 0, .int .i64 0, .slice none 0 0] 33 (0, 0))) := ⟨h3_⟩
                        have aE : Aside0 (w.heap.size ≤ ab) := ⟨h4_⟩
                        have aG : Aside0 (w.heap.size ≤ ab) := ⟨h5_⟩
                        have ad : Aside0 (aa ≠ ab) := ⟨h6_⟩
                        have ax : Aside0 (ab ≠ aa) := ⟨h7_⟩
                        have au : Aside0 (gb543 ≠ ab) := ⟨h8_⟩
                        have aw : Aside0 (ab ≠ gb543) := ⟨h9_⟩
                        have HB : Aside0 (Below w.heap.size w w10) := ⟨aW⟩
                        clear h0_ h1_ h2_ h3_ h4_ h5_ h6_ h7_ h8_ h9_ aW
                        have hHeld : w10.cell? ⟨aa, 0, none⟩ = some (.slice am aj.length al) ∧ w10.cell? ⟨aa, 1, none⟩ = some (.slice ao ak.length ap) ∧ w10.cell? ⟨aa, 2, none⟩ = some (.int .i64 af) ∧ w10.cell? ⟨aa, 3, none⟩ = some (.int .i64 ag) ∧ w10.cell? ⟨aa, 4, none⟩ = some (.int .i64 ah) ∧ w10.cell? ⟨aa, 5, none⟩ = some (.slice aq ai.length an) := hS_
                        refine norm_ (a' := ?_) ?_ ?_
                        rotate_left
                        ·simp only [putAll, Act.put, List.setIfInBounds_toArray, List.set_cons_zero, List.set_cons_succ]
                         rfl
                        refine two_ (i := 0) (j := 4) (Ni := some 6) (Nj := some 10) #[true, true, true, false, false, true, true, false, true, true, true, false, true, false] #[false, true, true, false, true, true, true, false, true, true, true, false, true, false] rfl rfl rfl rfl (two_of HT_.out (by kernel_rfl)) (by decide) (by decide) (fun K hK => ?_) (fun K hK => ?_)
                        ·skip
                         refine Kd.R_lit_step (Kd.int .u8) _ 5 ?hg (N := 6) ?hd (xs := ([] : List Int)) (inner := []) (ok := fun _ => True) (okp := fun _ => True) ?hr ?hp (fun _ hk => hk) trivial (Below.refl _ _) (Nat.le_refl _) (by simp) ?_; (case hd => rfl); (case hg => rfl); (case hr => first | (go_simp; done) | (go_simp; rfl)); (case hp => exact (Reps.none _ _))
                         intro aD w11 aK hb hg_ hnew_
                         clear hg_ hnew_
                         (first | rw [← bm.out] at aK | (simp only [Int.reduceToNat] at aK; rw [← bm.out] at aK))
                         have n0_ := aM (Kd.S_elder' (by have X_ := av.out; exact TS) (Kd.R_base aK) hb)
                         have n1_ := aM (Kd.R_lower aK (below_size TB))
                         have n2_ := aM (blk_below (g := aa) (o := .cells #[.slice am aj.length al, .slice ao ak.length ap, .int .i64 af, .int .i64 ag, .int .i64 ah, .slice aq ai.length an] 33 (0, 0)) TK hb)
                         have n3_ := aM (blk_below (g := gb543) (o := .cells #[.slice none 0 0, .slice none 0 0, .int .i64 0, .int .i64 0, .int .i64 0, .slice none 0 0] 33 (0, 0)) TK hb)
                         have n4_ := aM (blk_below (g := ab) (o := .cells #[.slice none 0 0, .slice none 0 0, .int .i64 0, .int .i64 0, .int .i64 0, .slice none 0 0] 33 (0, 0)) TK hb)
                         have n5_ := aM (below_step TB hb)
                         clear av
                         clear ac
                         clear ae
                         clear aA
                         clear HB
                         have av := n0_
                         have az := n1_
                         have ac := n2_
                         have ae := n3_
                         have aA := n4_
                         have HB := n5_
                         clear n0_ n1_ n2_ n3_ n4_ n5_
                         clear hb aK
                         refine hK.out _ _ (cz6 ac.out) (fun hHeld => ?_)
                         clear hK K
                         refine nR ?_
                         exact spec_l9Copy.nM (bH (aD, aI, ab) _ ⟨hHeld, (by have X_ := az.out; exact TR), (by (with_reducible repeat (first | apply Kd.S_alloc | apply Kd.S_drewN | apply Kd.S_drew)); exact Kd.S_mono av.out (fun _ hk => hk.2)), TK, TK, TK, aE.out, aG.out, ad.out, ax.out, au.out, aw.out, TB⟩)
                        ·skip
                         refine Kd.R_lit_step (Kd.int .u8) _ 5 ?hg (N := 10) ?hd (xs := ([] : List Int)) (inner := []) (ok := fun _ => True) (okp := fun _ => True) ?hr ?hp (fun _ hk => hk) trivial (Below.refl _ _) (Nat.le_refl _) (by simp) ?_; (case hd => rfl); (case hg => rfl); (case hr => first | (go_simp; done) | (go_simp; rfl)); (case hp => exact (Reps.none _ _))
                         intro aC w11 aK hb hg_ hnew_
                         clear hg_ hnew_
                         (first | rw [← bd.out] at aK | (simp only [Int.reduceToNat] at aK; rw [← bd.out] at aK))
                         have n0_ := aM (Kd.S_elder' (by have X_ := av.out; exact TS) (Kd.R_base aK) hb)
                         have n1_ := aM (Kd.R_lower aK (below_size TB))
                         have n2_ := aM (blk_below (g := aa) (o := .cells #[.slice am aj.length al, .slice ao ak.length ap, .int .i64 af, .int .i64 ag, .int .i64 ah, .slice aq ai.length an] 33 (0, 0)) TK hb)
                         have n3_ := aM (blk_below (g := gb543) (o := .cells #[.slice none 0 0, .slice none 0 0, .int .i64 0, .int .i64 0, .int .i64 0, .slice none 0 0] 33 (0, 0)) TK hb)
                         have n4_ := aM (blk_below (g := ab) (o := .cells #[.slice none 0 0, .slice none 0 0, .int .i64 0, .int .i64 0, .int .i64 0, .slice none 0 0] 33 (0, 0)) TK hb)
                         have n5_ := aM (below_step TB hb)
                         clear av
                         clear ac
                         clear ae
                         clear aA
                         clear HB
                         have av := n0_
                         have ar := n1_
                         have ac := n2_
                         have ae := n3_
                         have aA := n4_
                         have HB := n5_
                         clear n0_ n1_ n2_ n3_ n4_ n5_
                         clear hb aK
                         refine hK.out _ _ (cz6 ac.out) (fun hHeld => ?_)
                         clear hK K
                         refine nR ?_
                         exact spec_l9Copy.nM (bK (aC, aI, ab) _ ⟨hHeld, (by have X_ := ar.out; exact TR), (by (with_reducible repeat (first | apply Kd.S_alloc | apply Kd.S_drewN | apply Kd.S_drew)); exact Kd.S_mono av.out (fun _ hk => hk.2)), TK, TK, TK, aE.out, aG.out, ad.out, ax.out, au.out, aw.out, TB⟩)
                      ·skip
                       rintro ⟨aC, ab⟩ w10 ⟨hS_, h0_, h1_, h2_, h3_, h4_, h5_, h6_, h7_, h8_, h9_, aW⟩
                       clear ac ae HB
                       have ar : Aside0 (Kd.R (Kd.int .u8) 5 w10 w.heap.size (fun _ => True) aC be) := ⟨h0_⟩
                       have ac : Aside0 (w10.heap[aa]? = some (.cells #[.slice am aj.length al, .slice ao ak.length ap, .int .i64 af, .int .i64 ag, .int .i64 ah, .slice aq ai.length an] 33 (0, 0))) := ⟨h1_⟩
                       have ae : Aside0 (w10.heap[gb543]? = some (.cells #[.slice none 0 0, .slice none 0 0, .int .i64 0, .int .i64 0, .int .i64 0, .slice none 0 0] 33 (0, 0))) := ⟨h2_⟩
                       have aA : Aside0 (w10.heap[ab]? = some (.cells #[.slice none 0 0, .slice none 0 0, .int .i64 0, .int .i64 0, .int .i64 0, .slice none 0 0] 33 (0, 0))) := ⟨h3_⟩
                       have aE : Aside0 (w.heap.size ≤ ab) := ⟨h4_⟩
                       have aG : Aside0 (w.heap.size ≤ ab) := ⟨h5_⟩
                       have ad : Aside0 (aa ≠ ab) := ⟨h6_⟩
                       have ax : Aside0 (ab ≠ aa) := ⟨h7_⟩
                       have au : Aside0 (gb543 ≠ ab) := ⟨h8_⟩
                       have aw : Aside0 (ab ≠ gb543) := ⟨h9_⟩
                       have HB : Aside0 (Below w.heap.size w w10) := ⟨aW⟩
                       clear h0_ h1_ h2_ h3_ h4_ h5_ h6_ h7_ h8_ h9_ aW
                       have hHeld : w10.cell? ⟨aa, 0, none⟩ = some (.slice am aj.length al) ∧ w10.cell? ⟨aa, 1, none⟩ = some (.slice ao ak.length ap) ∧ w10.cell? ⟨aa, 2, none⟩ = some (.int .i64 af) ∧ w10.cell? ⟨aa, 3, none⟩ = some (.int .i64 ag) ∧ w10.cell? ⟨aa, 4, none⟩ = some (.int .i64 ah) ∧ w10.cell? ⟨aa, 5, none⟩ = some (.slice aq ai.length an) := hS_
                       refine norm_ (a' := ?_) ?_ ?_
                       rotate_left
                       ·simp only [putAll, Act.put, List.setIfInBounds_toArray, List.set_cons_zero, List.set_cons_succ]
                        rfl
                       refine two_ (i := 0) (j := 10) (Ni := some 6) (Nj := some 16) #[true, true, true, false, true, true, true, false, true, true, false, false, true, false] #[false, true, true, false, true, true, true, false, true, true, true, false, true, false] rfl rfl rfl rfl (two_of HT_.out (by kernel_rfl)) (by decide) (by decide) (fun K hK => ?_) (fun K hK => ?_)
                       ·skip
                        refine Kd.R_lit_step (Kd.int .u8) _ 5 ?hg (N := 6) ?hd (xs := ([] : List Int)) (inner := []) (ok := fun _ => True) (okp := fun _ => True) ?hr ?hp (fun _ hk => hk) trivial (Below.refl _ _) (Nat.le_refl _) (by simp) ?_; (case hd => rfl); (case hg => rfl); (case hr => first | (go_simp; done) | (go_simp; rfl)); (case hp => exact (Reps.none _ _))
                        intro aD w11 aK hb hg_ hnew_
                        clear hg_ hnew_
                        (first | rw [← bm.out] at aK | (simp only [Int.reduceToNat] at aK; rw [← bm.out] at aK))
                        have n0_ := aM (Kd.R_elder' (by have X_ := ar.out; exact TR) (Kd.R_base aK) hb)
                        have n1_ := aM (Kd.R_lower (Kd.R_new' aK (Kd.R_lt (by have X_ := ar.out; exact TR))) (below_size TB))
                        have n2_ := aM (blk_below (g := aa) (o := .cells #[.slice am aj.length al, .slice ao ak.length ap, .int .i64 af, .int .i64 ag, .int .i64 ah, .slice aq ai.length an] 33 (0, 0)) TK hb)
                        have n3_ := aM (blk_below (g := gb543) (o := .cells #[.slice none 0 0, .slice none 0 0, .int .i64 0, .int .i64 0, .int .i64 0, .slice none 0 0] 33 (0, 0)) TK hb)
                        have n4_ := aM (blk_below (g := ab) (o := .cells #[.slice none 0 0, .slice none 0 0, .int .i64 0, .int .i64 0, .int .i64 0, .slice none 0 0] 33 (0, 0)) TK hb)
                        have n5_ := aM (below_step TB hb)
                        clear ar
                        clear ac
                        clear ae
                        clear aA
                        clear HB
                        have ar := n0_
                        have az := n1_
                        have ac := n2_
                        have ae := n3_
                        have aA := n4_
                        have HB := n5_
                        clear n0_ n1_ n2_ n3_ n4_ n5_
                        clear hb aK
                        refine hK.out _ _ (cz6 ac.out) (fun hHeld => ?_)
                        clear hK K
                        refine nR ?_
                        exact spec_l9Copy.nM (bT (aD, aC, ab) _ ⟨hHeld, (by (with_reducible repeat (first | apply Kd.R_alloc | apply Kd.R_drewN | apply Kd.R_drew)); exact Kd.R_mono az.out (fun _ hk => hk.2)), (by (with_reducible repeat (first | apply Kd.R_alloc | apply Kd.R_drewN | apply Kd.R_drew)); exact Kd.R_mono ar.out (fun _ hk => hk.2)), TK, TK, TK, aE.out, aG.out, ad.out, ax.out, au.out, aw.out, TB⟩)
                       ·skip
                        refine Kd.S_lit_step k55 _ 55 ?hg (N := 16) ?hd (xs := ([] : List (S55))) (inner := []) (ok := fun _ => True) (okp := fun _ => True) ?hr ?hp (fun _ hk => hk) trivial (Below.refl _ _) (Nat.le_refl _) (by simp) ?_; (case hd => rfl); (case hg => rfl); (case hr => first | (go_simp; done) | (go_simp; rfl)); (case hp => exact (Reps.none _ _))
                        intro aI w11 aK hb hg_ hnew_
                        clear hg_ hnew_
                        (first | rw [← aY.out] at aK | (simp only [Int.reduceToNat] at aK; rw [← aY.out] at aK))
                        have n0_ := aM (Kd.R_below (by have X_ := ar.out; exact TR) hb)
                        have n1_ := aM (Kd.S_lower (Kd.S_new' aK (Kd.R_lt (by have X_ := ar.out; exact TR))) (below_size TB))
                        have n2_ := aM (blk_below (g := aa) (o := .cells #[.slice am aj.length al, .slice ao ak.length ap, .int .i64 af, .int .i64 ag, .int .i64 ah, .slice aq ai.length an] 33 (0, 0)) TK hb)
                        have n3_ := aM (blk_below (g := gb543) (o := .cells #[.slice none 0 0, .slice none 0 0, .int .i64 0, .int .i64 0, .int .i64 0, .slice none 0 0] 33 (0, 0)) TK hb)
                        have n4_ := aM (blk_below (g := ab) (o := .cells #[.slice none 0 0, .slice none 0 0, .int .i64 0, .int .i64 0, .int .i64 0, .slice none 0 0] 33 (0, 0)) TK hb)
                        have n5_ := aM (below_step TB hb)
                        clear ar
                        clear ac
                        clear ae
                        clear aA
                        clear HB
                        have ar := n0_
                        have av := n1_
                        have ac := n2_
                        have ae := n3_
                        have aA := n4_
                        have HB := n5_
                        clear n0_ n1_ n2_ n3_ n4_ n5_
                        clear hb aK
                        refine hK.out _ _ (cz6 ac.out) (fun hHeld => ?_)
                        clear hK K
                        refine nR ?_
                        exact spec_l9Copy.nM (bK (aC, aI, ab) _ ⟨hHeld, (by have X_ := ar.out; exact TR), (by (with_reducible repeat (first | apply Kd.S_alloc | apply Kd.S_drewN | apply Kd.S_drew)); exact Kd.S_mono av.out (fun _ hk => hk.2)), TK, TK, TK, aE.out, aG.out, ad.out, ax.out, au.out, aw.out, TB⟩)
                     ·skip
                      rintro ⟨aC, aI⟩ w11 ⟨hS_, h0_, h1_, h2_, h3_, h4_⟩
                      clear ac ae HB
                      have ar : Aside0 (Kd.R (Kd.int .u8) 5 w11 w.heap.size (fun _ => True) aC be) := ⟨h0_⟩
                      have av : Aside0 (Kd.S k55 55 w11 w.heap.size (fun k_ => some k_ ≠ (aC : Value).ownBlock) aI aV) := ⟨h1_⟩
                      have ac : Aside0 (w11.heap[aa]? = some (.cells #[.slice am aj.length al, .slice ao ak.length ap, .int .i64 af, .int .i64 ag, .int .i64 ah, .slice aq ai.length an] 33 (0, 0))) := ⟨h2_⟩
                      have ae : Aside0 (w11.heap[gb543]? = some (.cells #[.slice none 0 0, .slice none 0 0, .int .i64 0, .int .i64 0, .int .i64 0, .slice none 0 0] 33 (0, 0))) := ⟨h3_⟩
                      have HB : Aside0 (Below w.heap.size w w11) := ⟨h4_⟩
                      clear h0_ h1_ h2_ h3_ h4_
                      have hHeld : w11.cell? ⟨aa, 0, none⟩ = some (.slice am aj.length al) ∧ w11.cell? ⟨aa, 1, none⟩ = some (.slice ao ak.length ap) ∧ w11.cell? ⟨aa, 2, none⟩ = some (.int .i64 af) ∧ w11.cell? ⟨aa, 3, none⟩ = some (.int .i64 ag) ∧ w11.cell? ⟨aa, 4, none⟩ = some (.int .i64 ah) ∧ w11.cell? ⟨aa, 5, none⟩ = some (.slice aq ai.length an) := hS_
                      refine norm_ (a' := ?_) ?_ ?_
                      rotate_left
                      ·simp only [putAll, Act.put, List.setIfInBounds_toArray, List.set_cons_zero, List.set_cons_succ]
                       rfl
                      refine two_ (i := 0) (j := 12) (Ni := some 6) (Nj := some 3) #[true, true, true, false, true, true, true, false, true, true, true, false, false, false] #[false, true, true, false, true, true, true, false, true, true, true, false, true, false] rfl rfl rfl rfl (two_of HT_.out (by kernel_rfl)) (by decide) (by decide) (fun K hK => ?_) (fun K hK => ?_)
                      ·skip
                       refine Kd.R_lit_step (Kd.int .u8) _ 5 ?hg (N := 6) ?hd (xs := ([] : List Int)) (inner := []) (ok := fun _ => True) (okp := fun _ => True) ?hr ?hp (fun _ hk => hk) trivial (Below.refl _ _) (Nat.le_refl _) (by simp) ?_; (case hd => rfl); (case hg => rfl); (case hr => first | (go_simp; done) | (go_simp; rfl)); (case hp => exact (Reps.none _ _))
                       intro aD w12 ba hb hg_ hnew_
                       clear hg_ hnew_
                       (first | rw [← bm.out] at ba | (simp only [Int.reduceToNat] at ba; rw [← bm.out] at ba))
                       have n0_ := aM (Kd.R_elder' (by have X_ := ar.out; exact TR) (Kd.R_base ba) hb)
                       have n1_ := aM (Kd.S_elder' (by have X_ := av.out; exact TS) (Kd.R_base ba) hb)
                       have n2_ := aM (Kd.R_lower (Kd.R_new' ba (Kd.R_lt (by have X_ := ar.out; exact TR))) (below_size TB))
                       have n3_ := aM (blk_below (g := aa) (o := .cells #[.slice am aj.length al, .slice ao ak.length ap, .int .i64 af, .int .i64 ag, .int .i64 ah, .slice aq ai.length an] 33 (0, 0)) TK hb)
                       have n4_ := aM (blk_below (g := gb543) (o := .cells #[.slice none 0 0, .slice none 0 0, .int .i64 0, .int .i64 0, .int .i64 0, .slice none 0 0] 33 (0, 0)) TK hb)
                       have n5_ := aM (below_step TB hb)
                       clear ar
                       clear av
                       clear ac
                       clear ae
                       clear HB
                       have ar := n0_
                       have av := n1_
                       have az := n2_
                       have ac := n3_
                       have ae := n4_
                       have HB := n5_
                       clear n0_ n1_ n2_ n3_ n4_ n5_
                       clear hb ba
                       refine hK.out _ _ (cz6 ac.out) (fun hHeld => ?_)
                       clear hK K
                       refine nR ?_
                       exact spec_l9Copy.nM (bR (aD, aC, aI) _ ⟨hHeld, (by (with_reducible repeat (first | apply Kd.R_alloc | apply Kd.R_drewN | apply Kd.R_drew)); exact Kd.R_mono az.out (fun _ hk => hk.2)), (by (with_reducible repeat (first | apply Kd.R_alloc | apply Kd.R_drewN | apply Kd.R_drew)); exact Kd.R_mono ar.out (fun _ hk => hk.2)), (by (with_reducible repeat (first | apply Kd.S_alloc | apply Kd.S_drewN | apply Kd.S_drew)); exact Kd.S_mono av.out (fun _ hk => ⟨hk.2, hk.1⟩)), TK, TK, TB⟩)
                      ·skip
                       refine box_step ?hg (N := 3) ?hd (cs := #[.slice none 0 0, .slice none 0 0, .int .i64 0, .int .i64 0, .int .i64 0, .slice none 0 0]) (t := 33) ?hr ?_; (case hd => rfl); (case hg => rfl); (case hr => first | (go_simp; done) | (go_simp; rfl))
                       intro ab hg w12 hbox hb
                       have n0_ := aM (Kd.R_below (by have X_ := ar.out; exact TR) hb)
                       have n1_ := aM (Kd.S_below (by have X_ := av.out; exact TS) hb)
                       have n2_ := aM (blk_below (g := aa) (o := .cells #[.slice am aj.length al, .slice ao ak.length ap, .int .i64 af, .int .i64 ag, .int .i64 ah, .slice aq ai.length an] 33 (0, 0)) TK hb)
                       have n3_ := aM (blk_below (g := gb543) (o := .cells #[.slice none 0 0, .slice none 0 0, .int .i64 0, .int .i64 0, .int .i64 0, .slice none 0 0] 33 (0, 0)) TK hb)
                       have n4_ := aM (below_step TB hb)
                       have n5_ := aM (hbox)
                       have n6_ := aM ((by rw [hg]; exact (below_size TB) : w.heap.size ≤ ab))
                       have n7_ := aM ((by rw [hg]; exact (below_size TB) : w.heap.size ≤ ab))
                       have n8_ := aM ((by rw [hg]; exact Nat.ne_of_lt (blk_lt (g := aa) (o := .cells #[.slice am aj.length al, .slice ao ak.length ap, .int .i64 af, .int .i64 ag, .int .i64 ah, .slice aq ai.length an] 33 (0, 0)) TK) : aa ≠ ab))
                       have n9_ := aM ((by rw [hg]; exact Nat.ne_of_gt (blk_lt (g := aa) (o := .cells #[.slice am aj.length al, .slice ao ak.length ap, .int .i64 af, .int .i64 ag, .int .i64 ah, .slice aq ai.length an] 33 (0, 0)) TK) : ab ≠ aa))
                       have aX := aM ((by rw [hg]; exact Nat.ne_of_lt (blk_lt (g := gb543) (o := .cells #[.slice none 0 0, .slice none 0 0, .int .i64 0, .int .i64 0, .int .i64 0, .slice none 0 0] 33 (0, 0)) TK) : gb543 ≠ ab))
                       have bf := aM ((by rw [hg]; exact Nat.ne_of_gt (blk_lt (g := gb543) (o := .cells #[.slice none 0 0, .slice none 0 0, .int .i64 0, .int .i64 0, .int .i64 0, .slice none 0 0] 33 (0, 0)) TK) : ab ≠ gb543))
                       clear ar
                       clear av
                       clear ac
                       clear ae
                       clear HB
                       have ar := n0_
                       have av := n1_
                       have ac := n2_
                       have ae := n3_
                       have HB := n4_
                       have aA := n5_
                       have aE := n6_
                       have aG := n7_
                       have ad := n8_
                       have ax := n9_
                       have au := aX
                       have aw := bf
                       clear n0_ n1_ n2_ n3_ n4_ n5_ n6_ n7_ n8_ n9_ aX bf
                       clear hb hbox hg
                       refine hK.out _ _ (cz6 ac.out) (fun hHeld => ?_)
                       clear hK K
                       refine nR ?_
                       exact spec_l9Copy.nM (bK (aC, aI, ab) _ ⟨hHeld, (by have X_ := ar.out; exact TR), (by have X_ := av.out; exact TS), TK, TK, TK, aE.out, aG.out, ad.out, ax.out, au.out, aw.out, TB⟩)
                    ·skip
                     rintro ⟨aD, ab⟩ w10 ⟨hS_, h0_, h1_, h2_, h3_, h4_, h5_, h6_, h7_, h8_, h9_, aW⟩
                     clear ac ae HB
                     have az : Aside0 (Kd.R (Kd.int .u8) 5 w10 w.heap.size (fun _ => True) aD bi) := ⟨h0_⟩
                     have ac : Aside0 (w10.heap[aa]? = some (.cells #[.slice am aj.length al, .slice ao ak.length ap, .int .i64 af, .int .i64 ag, .int .i64 ah, .slice aq ai.length an] 33 (0, 0))) := ⟨h1_⟩
                     have ae : Aside0 (w10.heap[gb543]? = some (.cells #[.slice none 0 0, .slice none 0 0, .int .i64 0, .int .i64 0, .int .i64 0, .slice none 0 0] 33 (0, 0))) := ⟨h2_⟩
                     have aA : Aside0 (w10.heap[ab]? = some (.cells #[.slice none 0 0, .slice none 0 0, .int .i64 0, .int .i64 0, .int .i64 0, .slice none 0 0] 33 (0, 0))) := ⟨h3_⟩
                     have aE : Aside0 (w.heap.size ≤ ab) := ⟨h4_⟩
                     have aG : Aside0 (w.heap.size ≤ ab) := ⟨h5_⟩
                     have ad : Aside0 (aa ≠ ab) := ⟨h6_⟩
                     have ax : Aside0 (ab ≠ aa) := ⟨h7_⟩
                     have au : Aside0 (gb543 ≠ ab) := ⟨h8_⟩
                     have aw : Aside0 (ab ≠ gb543) := ⟨h9_⟩
                     have HB : Aside0 (Below w.heap.size w w10) := ⟨aW⟩
                     clear h0_ h1_ h2_ h3_ h4_ h5_ h6_ h7_ h8_ h9_ aW
                     have hHeld : w10.cell? ⟨aa, 0, none⟩ = some (.slice am aj.length al) ∧ w10.cell? ⟨aa, 1, none⟩ = some (.slice ao ak.length ap) ∧ w10.cell? ⟨aa, 2, none⟩ = some (.int .i64 af) ∧ w10.cell? ⟨aa, 3, none⟩ = some (.int .i64 ag) ∧ w10.cell? ⟨aa, 4, none⟩ = some (.int .i64 ah) ∧ w10.cell? ⟨aa, 5, none⟩ = some (.slice aq ai.length an) := hS_
                     refine norm_ (a' := ?_) ?_ ?_
                     rotate_left
                     ·simp only [putAll, Act.put, List.setIfInBounds_toArray, List.set_cons_zero, List.set_cons_succ]
                      rfl
                     refine three_ (i := 3) (j := 4) (k := 10) (Ni := some 9) (Nj := some 10) (Nk := some 16) #[true, true, true, true, false, true, true, false, true, true, false, false, true, false] #[true, true, true, false, true, true, true, false, true, true, false, false, true, false] #[true, true, true, false, false, true, true, false, true, true, true, false, true, false] rfl rfl rfl rfl rfl rfl (three_of HT_.out (by kernel_rfl)) (by decide) (by decide) (by decide) (fun K hK => ?_) (fun K hK => ?_) (fun K hK => ?_)
                     ·skip
                      refine Kd.R_append_rows_step (Kd.int .u8) (w0 := w) w.heap.size (by rfl) (.tmp 6) (.tmp 8) 22 5 (.int .u8 0) 1 rfl Try.underlying22 info5 rfl (by decide) (by omega) aD bi aj _ _ _ (fun _ => True) (fun _ => False) rfl rfl ?aO ?aR (fun _ _ h => h) (fun _ h => h.elim) ?aF ?aB ?aS ?aL ?_
                      (case aR => repeat (first | exact (Kd.C_below bC.out HB.out) | (with_reducible refine Kd.C_alloc ?_ _) | (with_reducible refine Kd.C_drewN ?_ _) | (with_reducible refine Kd.C_drew ?_)))
                      (case aB => exact TB)
                      (case aF => exact (fun _ _ => trivial))
                      (case aO => exact (by have X_ := az.out; exact TR))
                      (case aS => exact (below_size TB))
                      (case aL => have := bM.out; omega)
                      intro aH w11 ho hb hg hat
                      rw [← bB.out] at ho
                      have n0_ := aM (blk_grown (g := aa) (o := .cells #[.slice am aj.length al, .slice ao ak.length ap, .int .i64 af, .int .i64 ag, .int .i64 ah, .slice aq ai.length an] 33 (0, 0)) TK hg (Kd.R_ne az.out ac.out (by decide)))
                      have n1_ := aM (blk_grown (g := gb543) (o := .cells #[.slice none 0 0, .slice none 0 0, .int .i64 0, .int .i64 0, .int .i64 0, .slice none 0 0] 33 (0, 0)) TK hg (Kd.R_ne az.out ae.out (by decide)))
                      have n2_ := aM (blk_grown (g := ab) (o := .cells #[.slice none 0 0, .slice none 0 0, .int .i64 0, .int .i64 0, .int .i64 0, .slice none 0 0] 33 (0, 0)) TK hg (Kd.R_ne az.out aA.out (by decide)))
                      have n3_ := aM (hb)
                      have n4_ := aM (ho)
                      clear ac
                      clear ae
                      clear aA
                      clear HB
                      clear az
                      have ac := n0_
                      have ae := n1_
                      have aA := n2_
                      have HB := n3_
                      have ay := n4_
                      clear n0_ n1_ n2_ n3_ n4_
                      clear ho hb hg hat
                      refine hK.out _ _ (cz6 ac.out) (fun hHeld => ?_)
                      clear hK K
                      refine nR ?_
                      exact spec_l9Copy.nM (cb (aD, aH, ab) _ ⟨hHeld, (by have X_ := ay.out; exact TR), TK, TK, TK, aE.out, aG.out, ad.out, ax.out, au.out, aw.out, TB⟩)
                     ·skip
                      refine Kd.R_lit_step (Kd.int .u8) _ 5 ?hg (N := 10) ?hd (xs := ([] : List Int)) (inner := []) (ok := fun _ => True) (okp := fun _ => True) ?hr ?hp (fun _ hk => hk) trivial (Below.refl _ _) (Nat.le_refl _) (by simp) ?_; (case hd => rfl); (case hg => rfl); (case hr => first | (go_simp; done) | (go_simp; rfl)); (case hp => exact (Reps.none _ _))
                      intro aC w11 aK hb hg_ hnew_
                      clear hg_ hnew_
                      (first | rw [← bd.out] at aK | (simp only [Int.reduceToNat] at aK; rw [← bd.out] at aK))
                      have n0_ := aM (Kd.R_elder' (by have X_ := az.out; exact TR) (Kd.R_base aK) hb)
                      have n1_ := aM (Kd.R_lower (Kd.R_new' aK (Kd.R_lt (by have X_ := az.out; exact TR))) (below_size TB))
                      have n2_ := aM (blk_below (g := aa) (o := .cells #[.slice am aj.length al, .slice ao ak.length ap, .int .i64 af, .int .i64 ag, .int .i64 ah, .slice aq ai.length an] 33 (0, 0)) TK hb)
                      have n3_ := aM (blk_below (g := gb543) (o := .cells #[.slice none 0 0, .slice none 0 0, .int .i64 0, .int .i64 0, .int .i64 0, .slice none 0 0] 33 (0, 0)) TK hb)
                      have n4_ := aM (blk_below (g := ab) (o := .cells #[.slice none 0 0, .slice none 0 0, .int .i64 0, .int .i64 0, .int .i64 0, .slice none 0 0] 33 (0, 0)) TK hb)
                      have n5_ := aM (below_step TB hb)
                      clear az
                      clear ac
                      clear ae
                      clear aA
                      clear HB
                      have az := n0_
                      have ar := n1_
                      have ac := n2_
                      have ae := n3_
                      have aA := n4_
                      have HB := n5_
                      clear n0_ n1_ n2_ n3_ n4_ n5_
                      clear hb aK
                      refine hK.out _ _ (cz6 ac.out) (fun hHeld => ?_)
                      clear hK K
                      refine nR ?_
                      exact spec_l9Copy.nM (bT (aD, aC, ab) _ ⟨hHeld, (by (with_reducible repeat (first | apply Kd.R_alloc | apply Kd.R_drewN | apply Kd.R_drew)); exact Kd.R_mono az.out (fun _ hk => hk.2)), (by (with_reducible repeat (first | apply Kd.R_alloc | apply Kd.R_drewN | apply Kd.R_drew)); exact Kd.R_mono ar.out (fun _ hk => hk.2)), TK, TK, TK, aE.out, aG.out, ad.out, ax.out, au.out, aw.out, TB⟩)
                     ·skip
                      refine Kd.S_lit_step k55 _ 55 ?hg (N := 16) ?hd (xs := ([] : List (S55))) (inner := []) (ok := fun _ => True) (okp := fun _ => True) ?hr ?hp (fun _ hk => hk) trivial (Below.refl _ _) (Nat.le_refl _) (by simp) ?_; (case hd => rfl); (case hg => rfl); (case hr => first | (go_simp; done) | (go_simp; rfl)); (case hp => exact (Reps.none _ _))
                      intro aI w11 aK hb hg_ hnew_
                      clear hg_ hnew_
                      (first | rw [← aY.out] at aK | (simp only [Int.reduceToNat] at aK; rw [← aY.out] at aK))
                      have n0_ := aM (Kd.R_below (by have X_ := az.out; exact TR) hb)
                      have n1_ := aM (Kd.S_lower (Kd.S_new' aK (Kd.R_lt (by have X_ := az.out; exact TR))) (below_size TB))
                      have n2_ := aM (blk_below (g := aa) (o := .cells #[.slice am aj.length al, .slice ao ak.length ap, .int .i64 af, .int .i64 ag, .int .i64 ah, .slice aq ai.length an] 33 (0, 0)) TK hb)
                      have n3_ := aM (blk_below (g := gb543) (o := .cells #[.slice none 0 0, .slice none 0 0, .int .i64 0, .int .i64 0, .int .i64 0, .slice none 0 0] 33 (0, 0)) TK hb)
                      have n4_ := aM (blk_below (g := ab) (o := .cells #[.slice none 0 0, .slice none 0 0, .int .i64 0, .int .i64 0, .int .i64 0, .slice none 0 0] 33 (0, 0)) TK hb)
                      have n5_ := aM (below_step TB hb)
                      clear az
                      clear ac
                      clear ae
                      clear aA
                      clear HB
                      have az := n0_
                      have av := n1_
                      have ac := n2_
                      have ae := n3_
                      have aA := n4_
                      have HB := n5_
                      clear n0_ n1_ n2_ n3_ n4_ n5_
                      clear hb aK
                      refine hK.out _ _ (cz6 ac.out) (fun hHeld => ?_)
                      clear hK K
                      refine nR ?_
                      exact spec_l9Copy.nM (bH (aD, aI, ab) _ ⟨hHeld, (by have X_ := az.out; exact TR), (by (with_reducible repeat (first | apply Kd.S_alloc | apply Kd.S_drewN | apply Kd.S_drew)); exact Kd.S_mono av.out (fun _ hk => hk.2)), TK, TK, TK, aE.out, aG.out, ad.out, ax.out, au.out, aw.out, TB⟩)
                   ·skip
                    rintro ⟨aD, aI⟩ w11 ⟨hS_, h0_, h1_, h2_, h3_, h4_⟩
                    clear ac ae HB
                    have az : Aside0 (Kd.R (Kd.int .u8) 5 w11 w.heap.size (fun _ => True) aD bi) := ⟨h0_⟩
                    have av : Aside0 (Kd.S k55 55 w11 w.heap.size (fun k_ => some k_ ≠ (aD : Value).ownBlock) aI aV) := ⟨h1_⟩
                    have ac : Aside0 (w11.heap[aa]? = some (.cells #[.slice am aj.length al, .slice ao ak.length ap, .int .i64 af, .int .i64 ag, .int .i64 ah, .slice aq ai.length an] 33 (0, 0))) := ⟨h2_⟩
                    have ae : Aside0 (w11.heap[gb543]? = some (.cells #[.slice none 0 0, .slice none 0 0, .int .i64 0, .int .i64 0, .int .i64 0, .slice none 0 0] 33 (0, 0))) := ⟨h3_⟩
                    have HB : Aside0 (Below w.heap.size w w11) := ⟨h4_⟩
                    clear h0_ h1_ h2_ h3_ h4_
                    have hHeld : w11.cell? ⟨aa, 0, none⟩ = some (.slice am aj.length al) ∧ w11.cell? ⟨aa, 1, none⟩ = some (.slice ao ak.length ap) ∧ w11.cell? ⟨aa, 2, none⟩ = some (.int .i64 af) ∧ w11.cell? ⟨aa, 3, none⟩ = some (.int .i64 ag) ∧ w11.cell? ⟨aa, 4, none⟩ = some (.int .i64 ah) ∧ w11.cell? ⟨aa, 5, none⟩ = some (.slice aq ai.length an) := hS_
                    refine norm_ (a' := ?_) ?_ ?_
                    rotate_left
                    ·simp only [putAll, Act.put, List.setIfInBounds_toArray, List.set_cons_zero, List.set_cons_succ]
                     rfl
                    refine three_ (i := 3) (j := 4) (k := 12) (Ni := some 9) (Nj := some 10) (Nk := some 3) #[true, true, true, true, false, true, true, false, true, true, true, false, false, false] #[true, true, true, false, true, true, true, false, true, true, true, false, false, false] #[true, true, true, false, false, true, true, false, true, true, true, false, true, false] rfl rfl rfl rfl rfl rfl (three_of HT_.out (by kernel_rfl)) (by decide) (by decide) (by decide) (fun K hK => ?_) (fun K hK => ?_) (fun K hK => ?_)
                    ·skip
                     refine Kd.R_append_rows_step (Kd.int .u8) (w0 := w) w.heap.size (by rfl) (.tmp 6) (.tmp 8) 22 5 (.int .u8 0) 1 rfl Try.underlying22 info5 rfl (by decide) (by omega) aD bi aj _ _ _ (fun _ => True) (fun _ => False) rfl rfl ?aO ?aR (fun _ _ h => h) (fun _ h => h.elim) ?aF ?aB ?aS ?aL ?_
                     (case aR => repeat (first | exact (Kd.C_below bC.out HB.out) | (with_reducible refine Kd.C_alloc ?_ _) | (with_reducible refine Kd.C_drewN ?_ _) | (with_reducible refine Kd.C_drew ?_)))
                     (case aB => exact TB)
                     (case aF => exact (fun _ _ => trivial))
                     (case aO => exact (by have X_ := az.out; exact TR))
                     (case aS => exact (below_size TB))
                     (case aL => have := bM.out; omega)
                     intro aH w12 ho hb hg hat
                     rw [← bB.out] at ho
                     have n0_ := aM (blk_grown (g := aa) (o := .cells #[.slice am aj.length al, .slice ao ak.length ap, .int .i64 af, .int .i64 ag, .int .i64 ah, .slice aq ai.length an] 33 (0, 0)) TK hg (Kd.R_ne az.out ac.out (by decide)))
                     have n1_ := aM (blk_grown (g := gb543) (o := .cells #[.slice none 0 0, .slice none 0 0, .int .i64 0, .int .i64 0, .int .i64 0, .slice none 0 0] 33 (0, 0)) TK hg (Kd.R_ne az.out ae.out (by decide)))
                     have n2_ := aM (Kd.S_after (ok := (fun _ => True)) (by (with_reducible repeat (first | apply Kd.S_alloc | apply Kd.S_drewN | apply Kd.S_drew)); exact Kd.S_mono av.out (fun _ hk => ⟨trivial, hk⟩)) hg hat)
                     have n3_ := aM (hb)
                     have n4_ := aM (ho)
                     clear ac
                     clear ae
                     clear av
                     clear HB
                     clear az
                     have ac := n0_
                     have ae := n1_
                     have av := n2_
                     have HB := n3_
                     have ay := n4_
                     clear n0_ n1_ n2_ n3_ n4_
                     clear ho hb hg hat
                     refine hK.out _ _ (cz6 ac.out) (fun hHeld => ?_)
                     clear hK K
                     refine nR ?_
                     exact spec_l9Copy.nM (b7 (aD, aH, aI) _ ⟨hHeld, (by have X_ := ay.out; exact TR), (by (with_reducible repeat (first | apply Kd.S_alloc | apply Kd.S_drewN | apply Kd.S_drew)); exact Kd.S_mono av.out (fun _ hk => hk.2)), TK, TK, TB⟩)
                    ·skip
                     refine Kd.R_lit_step (Kd.int .u8) _ 5 ?hg (N := 10) ?hd (xs := ([] : List Int)) (inner := []) (ok := fun _ => True) (okp := fun _ => True) ?hr ?hp (fun _ hk => hk) trivial (Below.refl _ _) (Nat.le_refl _) (by simp) ?_; (case hd => rfl); (case hg => rfl); (case hr => first | (go_simp; done) | (go_simp; rfl)); (case hp => exact (Reps.none _ _))
                     intro aC w12 ba hb hg_ hnew_
                     clear hg_ hnew_
                     (first | rw [← bd.out] at ba | (simp only [Int.reduceToNat] at ba; rw [← bd.out] at ba))
                     have n0_ := aM (Kd.R_elder' (by have X_ := az.out; exact TR) (Kd.R_base ba) hb)
                     have n1_ := aM (Kd.S_elder' (by have X_ := av.out; exact TS) (Kd.R_base ba) hb)
                     have n2_ := aM (Kd.R_lower (Kd.R_new' ba (Kd.R_lt (by have X_ := az.out; exact TR))) (below_size TB))
                     have n3_ := aM (blk_below (g := aa) (o := .cells #[.slice am aj.length al, .slice ao ak.length ap, .int .i64 af, .int .i64 ag, .int .i64 ah, .slice aq ai.length an] 33 (0, 0)) TK hb)
                     have n4_ := aM (blk_below (g := gb543) (o := .cells #[.slice none 0 0, .slice none 0 0, .int .i64 0, .int .i64 0, .int .i64 0, .slice none 0 0] 33 (0, 0)) TK hb)
                     have n5_ := aM (below_step TB hb)
                     clear az
                     clear av
                     clear ac
                     clear ae
                     clear HB
                     have az := n0_
                     have av := n1_
                     have ar := n2_
                     have ac := n3_
                     have ae := n4_
                     have HB := n5_
                     clear n0_ n1_ n2_ n3_ n4_ n5_
                     clear hb ba
                     refine hK.out _ _ (cz6 ac.out) (fun hHeld => ?_)
                     clear hK K
                     refine nR ?_
                     exact spec_l9Copy.nM (bR (aD, aC, aI) _ ⟨hHeld, (by (with_reducible repeat (first | apply Kd.R_alloc | apply Kd.R_drewN | apply Kd.R_drew)); exact Kd.R_mono az.out (fun _ hk => hk.2)), (by (with_reducible repeat (first | apply Kd.R_alloc | apply Kd.R_drewN | apply Kd.R_drew)); exact Kd.R_mono ar.out (fun _ hk => hk.2)), (by have X_ := av.out; exact TS), TK, TK, TB⟩)
                    ·skip
                     refine box_step ?hg (N := 3) ?hd (cs := #[.slice none 0 0, .slice none 0 0, .int .i64 0, .int .i64 0, .int .i64 0, .slice none 0 0]) (t := 33) ?hr ?_; (case hd => rfl); (case hg => rfl); (case hr => first | (go_simp; done) | (go_simp; rfl))
                     intro ab hg w12 hbox hb
                     have n0_ := aM (Kd.R_below (by have X_ := az.out; exact TR) hb)
                     have n1_ := aM (Kd.S_below (by have X_ := av.out; exact TS) hb)
                     have n2_ := aM (blk_below (g := aa) (o := .cells #[.slice am aj.length al, .slice ao ak.length ap, .int .i64 af, .int .i64 ag, .int .i64 ah, .slice aq ai.length an] 33 (0, 0)) TK hb)
                     have n3_ := aM (blk_below (g := gb543) (o := .cells #[.slice none 0 0, .slice none 0 0, .int .i64 0, .int .i64 0, .int .i64 0, .slice none 0 0] 33 (0, 0)) TK hb)
                     have n4_ := aM (below_step TB hb)
                     have n5_ := aM (hbox)
                     have n6_ := aM ((by rw [hg]; exact (below_size TB) : w.heap.size ≤ ab))
                     have n7_ := aM ((by rw [hg]; exact (below_size TB) : w.heap.size ≤ ab))
                     have n8_ := aM ((by rw [hg]; exact Nat.ne_of_lt (blk_lt (g := aa) (o := .cells #[.slice am aj.length al, .slice ao ak.length ap, .int .i64 af, .int .i64 ag, .int .i64 ah, .slice aq ai.length an] 33 (0, 0)) TK) : aa ≠ ab))
                     have n9_ := aM ((by rw [hg]; exact Nat.ne_of_gt (blk_lt (g := aa) (o := .cells #[.slice am aj.length al, .slice ao ak.length ap, .int .i64 af, .int .i64 ag, .int .i64 ah, .slice aq ai.length an] 33 (0, 0)) TK) : ab ≠ aa))
                     have aX := aM ((by rw [hg]; exact Nat.ne_of_lt (blk_lt (g := gb543) (o := .cells #[.slice none 0 0, .slice none 0 0, .int .i64 0, .int .i64 0, .int .i64 0, .slice none 0 0] 33 (0, 0)) TK) : gb543 ≠ ab))
                     have bf := aM ((by rw [hg]; exact Nat.ne_of_gt (blk_lt (g := gb543) (o := .cells #[.slice none 0 0, .slice none 0 0, .int .i64 0, .int .i64 0, .int .i64 0, .slice none 0 0] 33 (0, 0)) TK) : ab ≠ gb543))
                     clear az
                     clear av
                     clear ac
                     clear ae
                     clear HB
                     have az := n0_
                     have av := n1_
                     have ac := n2_
                     have ae := n3_
                     have HB := n4_
                     have aA := n5_
                     have aE := n6_
                     have aG := n7_
                     have ad := n8_
                     have ax := n9_
                     have au := aX
                     have aw := bf
                     clear n0_ n1_ n2_ n3_ n4_ n5_ n6_ n7_ n8_ n9_ aX bf
                     clear hb hbox hg
                     refine hK.out _ _ (cz6 ac.out) (fun hHeld => ?_)
                     clear hK K
                     refine nR ?_
                     exact spec_l9Copy.nM (bH (aD, aI, ab) _ ⟨hHeld, (by have X_ := az.out; exact TR), (by have X_ := av.out; exact TS), TK, TK, TK, aE.out, aG.out, ad.out, ax.out, au.out, aw.out, TB⟩)
                  ·skip
                   rintro ⟨aD, aC⟩ w11 ⟨hS_, h0_, h1_, h2_, h3_, h4_⟩
                   clear ac ae HB
                   have az : Aside0 (Kd.R (Kd.int .u8) 5 w11 w.heap.size (fun k_ => some k_ ≠ (aC : Value).ownBlock) aD bi) := ⟨h0_⟩
                   have ar : Aside0 (Kd.R (Kd.int .u8) 5 w11 w.heap.size (fun k_ => some k_ ≠ (aD : Value).ownBlock) aC be) := ⟨h1_⟩
                   have ac : Aside0 (w11.heap[aa]? = some (.cells #[.slice am aj.length al, .slice ao ak.length ap, .int .i64 af, .int .i64 ag, .int .i64 ah, .slice aq ai.length an] 33 (0, 0))) := ⟨h2_⟩
                   have ae : Aside0 (w11.heap[gb543]? = some (.cells #[.slice none 0 0, .slice none 0 0, .int .i64 0, .int .i64 0, .int .i64 0, .slice none 0 0] 33 (0, 0))) := ⟨h3_⟩
                   have HB : Aside0 (Below w.heap.size w w11) := ⟨h4_⟩
                   clear h0_ h1_ h2_ h3_ h4_
                   have hHeld : w11.cell? ⟨aa, 0, none⟩ = some (.slice am aj.length al) ∧ w11.cell? ⟨aa, 1, none⟩ = some (.slice ao ak.length ap) ∧ w11.cell? ⟨aa, 2, none⟩ = some (.int .i64 af) ∧ w11.cell? ⟨aa, 3, none⟩ = some (.int .i64 ag) ∧ w11.cell? ⟨aa, 4, none⟩ = some (.int .i64 ah) ∧ w11.cell? ⟨aa, 5, none⟩ = some (.slice aq ai.length an) := hS_
                   refine norm_ (a' := ?_) ?_ ?_
                   rotate_left
                   ·simp only [putAll, Act.put, List.setIfInBounds_toArray, List.set_cons_zero, List.set_cons_succ]
                    rfl
                   refine three_ (i := 3) (j := 10) (k := 12) (Ni := some 9) (Nj := some 16) (Nk := some 3) #[true, true, true, true, true, true, true, false, true, true, false, false, false, false] #[true, true, true, false, true, true, true, false, true, true, true, false, false, false] #[true, true, true, false, true, true, true, false, true, true, false, false, true, false] rfl rfl rfl rfl rfl rfl (three_of HT_.out (by kernel_rfl)) (by decide) (by decide) (by decide) (fun K hK => ?_) (fun K hK => ?_) (fun K hK => ?_)
                   ·skip
                    refine Kd.R_append_rows_step (Kd.int .u8) (w0 := w) w.heap.size (by rfl) (.tmp 6) (.tmp 8) 22 5 (.int .u8 0) 1 rfl Try.underlying22 info5 rfl (by decide) (by omega) aD bi aj _ _ _ (fun k_ => some k_ ≠ (aC : Value).ownBlock) (fun _ => False) rfl rfl ?aO ?aR (fun _ _ h => h) (fun _ h => h.elim) ?aF ?aB ?aS ?aL ?_
                    (case aR => repeat (first | exact (Kd.C_below bC.out HB.out) | (with_reducible refine Kd.C_alloc ?_ _) | (with_reducible refine Kd.C_drewN ?_ _) | (with_reducible refine Kd.C_drew ?_)))
                    (case aB => exact TB)
                    (case aF => exact (fun k_ hk => Kd.fresh' (Kd.R_lt (by have X_ := ar.out; exact TR)) k_ hk))
                    (case aO => exact (by have X_ := az.out; exact TR))
                    (case aS => exact (below_size TB))
                    (case aL => have := bM.out; omega)
                    intro aH w12 ho hb hg hat
                    rw [← bB.out] at ho
                    have n0_ := aM (blk_grown (g := aa) (o := .cells #[.slice am aj.length al, .slice ao ak.length ap, .int .i64 af, .int .i64 ag, .int .i64 ah, .slice aq ai.length an] 33 (0, 0)) TK hg (Kd.R_ne az.out ac.out (by decide)))
                    have n1_ := aM (blk_grown (g := gb543) (o := .cells #[.slice none 0 0, .slice none 0 0, .int .i64 0, .int .i64 0, .int .i64 0, .slice none 0 0] 33 (0, 0)) TK hg (Kd.R_ne az.out ae.out (by decide)))
                    have n2_ := aM (Kd.R_after (ok := (fun _ => True)) (by (with_reducible repeat (first | apply Kd.R_alloc | apply Kd.R_drewN | apply Kd.R_drew)); exact Kd.R_mono ar.out (fun _ hk => ⟨trivial, hk⟩)) hg hat)
                    have n3_ := aM (hb)
                    have n4_ := aM (ho)
                    clear ac
                    clear ae
                    clear ar
                    clear HB
                    clear az
                    have ac := n0_
                    have ae := n1_
                    have ar := n2_
                    have HB := n3_
                    have ay := n4_
                    clear n0_ n1_ n2_ n3_ n4_
                    clear ho hb hg hat
                    refine hK.out _ _ (cz6 ac.out) (fun hHeld => ?_)
                    clear hK K
                    refine nR ?_
                    exact spec_l9Copy.nM (cg (aD, aH, aC) _ ⟨hHeld, (by have X_ := ay.out; exact TR), (by (with_reducible repeat (first | apply Kd.R_alloc | apply Kd.R_drewN | apply Kd.R_drew)); exact Kd.R_mono ar.out (fun _ hk => hk.2)), TK, TK, TB⟩)
                   ·skip
                    refine Kd.S_lit_step k55 _ 55 ?hg (N := 16) ?hd (xs := ([] : List (S55))) (inner := []) (ok := fun _ => True) (okp := fun _ => True) ?hr ?hp (fun _ hk => hk) trivial (Below.refl _ _) (Nat.le_refl _) (by simp) ?_; (case hd => rfl); (case hg => rfl); (case hr => first | (go_simp; done) | (go_simp; rfl)); (case hp => exact (Reps.none _ _))
                    intro aI w12 ba hb hg_ hnew_
                    clear hg_ hnew_
                    (first | rw [← aY.out] at ba | (simp only [Int.reduceToNat] at ba; rw [← aY.out] at ba))
                    have n0_ := aM (Kd.R_below (by have X_ := az.out; exact TR) hb)
                    have n1_ := aM (Kd.R_below (by have X_ := ar.out; exact TR) hb)
                    have n2_ := aM (Kd.S_lower (Kd.S_new' (Kd.S_new' ba (Kd.R_lt (by have X_ := az.out; exact TR))) (Kd.R_lt (by have X_ := ar.out; exact TR))) (below_size TB))
                    have n3_ := aM (blk_below (g := aa) (o := .cells #[.slice am aj.length al, .slice ao ak.length ap, .int .i64 af, .int .i64 ag, .int .i64 ah, .slice aq ai.length an] 33 (0, 0)) TK hb)
                    have n4_ := aM (blk_below (g := gb543) (o := .cells #[.slice none 0 0, .slice none 0 0, .int .i64 0, .int .i64 0, .int .i64 0, .slice none 0 0] 33 (0, 0)) TK hb)
                    have n5_ := aM (below_step TB hb)
                    clear az
                    clear ar
                    clear ac
                    clear ae
                    clear HB
                    have az := n0_
                    have ar := n1_
                    have av := n2_
                    have ac := n3_
                    have ae := n4_
                    have HB := n5_
                    clear n0_ n1_ n2_ n3_ n4_ n5_
                    clear hb ba
                    refine hK.out _ _ (cz6 ac.out) (fun hHeld => ?_)
                    clear hK K
                    refine nR ?_
                    exact spec_l9Copy.nM (bR (aD, aC, aI) _ ⟨hHeld, (by have X_ := az.out; exact TR), (by have X_ := ar.out; exact TR), (by (with_reducible repeat (first | apply Kd.S_alloc | apply Kd.S_drewN | apply Kd.S_drew)); exact Kd.S_mono av.out (fun _ hk => ⟨hk.1.2, hk.2⟩)), TK, TK, TB⟩)
                   ·skip
                    refine box_step ?hg (N := 3) ?hd (cs := #[.slice none 0 0, .slice none 0 0, .int .i64 0, .int .i64 0, .int .i64 0, .slice none 0 0]) (t := 33) ?hr ?_; (case hd => rfl); (case hg => rfl); (case hr => first | (go_simp; done) | (go_simp; rfl))
                    intro ab hg w12 hbox hb
                    have n0_ := aM (Kd.R_below (by have X_ := az.out; exact TR) hb)
                    have n1_ := aM (Kd.R_below (by have X_ := ar.out; exact TR) hb)
                    have n2_ := aM (blk_below (g := aa) (o := .cells #[.slice am aj.length al, .slice ao ak.length ap, .int .i64 af, .int .i64 ag, .int .i64 ah, .slice aq ai.length an] 33 (0, 0)) TK hb)
                    have n3_ := aM (blk_below (g := gb543) (o := .cells #[.slice none 0 0, .slice none 0 0, .int .i64 0, .int .i64 0, .int .i64 0, .slice none 0 0] 33 (0, 0)) TK hb)
                    have n4_ := aM (below_step TB hb)
                    have n5_ := aM (hbox)
                    have n6_ := aM ((by rw [hg]; exact (below_size TB) : w.heap.size ≤ ab))
                    have n7_ := aM ((by rw [hg]; exact (below_size TB) : w.heap.size ≤ ab))
                    have n8_ := aM ((by rw [hg]; exact Nat.ne_of_lt (blk_lt (g := aa) (o := .cells #[.slice am aj.length al, .slice ao ak.length ap, .int .i64 af, .int .i64 ag, .int .i64 ah, .slice aq ai.length an] 33 (0, 0)) TK) : aa ≠ ab))
                    have n9_ := aM ((by rw [hg]; exact Nat.ne_of_gt (blk_lt (g := aa) (o := .cells #[.slice am aj.length al, .slice ao ak.length ap, .int .i64 af, .int .i64 ag, .int .i64 ah, .slice aq ai.length an] 33 (0, 0)) TK) : ab ≠ aa))
                    have aX := aM ((by rw [hg]; exact Nat.ne_of_lt (blk_lt (g := gb543) (o := .cells #[.slice none 0 0, .slice none 0 0, .int .i64 0, .int .i64 0, .int .i64 0, .slice none 0 0] 33 (0, 0)) TK) : gb543 ≠ ab))
                    have bf := aM ((by rw [hg]; exact Nat.ne_of_gt (blk_lt (g := gb543) (o := .cells #[.slice none 0 0, .slice none 0 0, .int .i64 0, .int .i64 0, .int .i64 0, .slice none 0 0] 33 (0, 0)) TK) : ab ≠ gb543))
                    clear az
                    clear ar
                    clear ac
                    clear ae
                    clear HB
                    have az := n0_
                    have ar := n1_
                    have ac := n2_
                    have ae := n3_
                    have HB := n4_
                    have aA := n5_
                    have aE := n6_
                    have aG := n7_
                    have ad := n8_
                    have ax := n9_
                    have au := aX
                    have aw := bf
                    clear n0_ n1_ n2_ n3_ n4_ n5_ n6_ n7_ n8_ n9_ aX bf
                    clear hb hbox hg
                    refine hK.out _ _ (cz6 ac.out) (fun hHeld => ?_)
                    clear hK K
                    refine nR ?_
                    exact spec_l9Copy.nM (bT (aD, aC, ab) _ ⟨hHeld, (by have X_ := az.out; exact TR), (by have X_ := ar.out; exact TR), TK, TK, TK, aE.out, aG.out, ad.out, ax.out, au.out, aw.out, TB⟩)
                 ·skip
                  rintro ⟨aD, aH⟩ w10 ⟨hS_, h0_, h1_, h2_, h3_⟩
                  clear ac ae HB
                  have ay : Aside0 (Kd.R (Kd.int .u8) 5 w10 w.heap.size (fun _ => True) aH aJ) := ⟨h0_⟩
                  have ac : Aside0 (w10.heap[aa]? = some (.cells #[.slice am aj.length al, .slice ao ak.length ap, .int .i64 af, .int .i64 ag, .int .i64 ah, .slice aq ai.length an] 33 (0, 0))) := ⟨h1_⟩
                  have ae : Aside0 (w10.heap[gb543]? = some (.cells #[.slice none 0 0, .slice none 0 0, .int .i64 0, .int .i64 0, .int .i64 0, .slice none 0 0] 33 (0, 0))) := ⟨h2_⟩
                  have HB : Aside0 (Below w.heap.size w w10) := ⟨h3_⟩
                  clear h0_ h1_ h2_ h3_
                  have hHeld : w10.cell? ⟨aa, 0, none⟩ = some (.slice am aj.length al) ∧ w10.cell? ⟨aa, 1, none⟩ = some (.slice ao ak.length ap) ∧ w10.cell? ⟨aa, 2, none⟩ = some (.int .i64 af) ∧ w10.cell? ⟨aa, 3, none⟩ = some (.int .i64 ag) ∧ w10.cell? ⟨aa, 4, none⟩ = some (.int .i64 ah) ∧ w10.cell? ⟨aa, 5, none⟩ = some (.slice aq ai.length an) := hS_
                  refine norm_ (a' := ?_) ?_ ?_
                  rotate_left
                  ·simp only [putAll, Act.put, List.setIfInBounds_toArray, List.set_cons_zero, List.set_cons_succ]
                   rfl
                  refine three_ (i := 4) (j := 10) (k := 12) (Ni := some 10) (Nj := some 16) (Nk := some 3) #[true, true, true, true, true, true, true, false, true, true, false, false, false, false] #[true, true, true, true, false, true, true, false, true, true, true, false, false, false] #[true, true, true, true, false, true, true, false, true, true, false, false, true, false] rfl rfl rfl rfl rfl rfl (three_of HT_.out (by kernel_rfl)) (by decide) (by decide) (by decide) (fun K hK => ?_) (fun K hK => ?_) (fun K hK => ?_)
                  ·skip
                   refine Kd.R_lit_step (Kd.int .u8) _ 5 ?hg (N := 10) ?hd (xs := ([] : List Int)) (inner := []) (ok := fun _ => True) (okp := fun _ => True) ?hr ?hp (fun _ hk => hk) trivial (Below.refl _ _) (Nat.le_refl _) (by simp) ?_; (case hd => rfl); (case hg => rfl); (case hr => first | (go_simp; done) | (go_simp; rfl)); (case hp => exact (Reps.none _ _))
                   intro aC w11 aK hb hg_ hnew_
                   clear hg_ hnew_
                   (first | rw [← bd.out] at aK | (simp only [Int.reduceToNat] at aK; rw [← bd.out] at aK))
                   have n0_ := aM (Kd.R_elder' (by have X_ := ay.out; exact TR) (Kd.R_base aK) hb)
                   have n1_ := aM (Kd.R_lower (Kd.R_new' aK (Kd.R_lt (by have X_ := ay.out; exact TR))) (below_size TB))
                   have n2_ := aM (blk_below (g := aa) (o := .cells #[.slice am aj.length al, .slice ao ak.length ap, .int .i64 af, .int .i64 ag, .int .i64 ah, .slice aq ai.length an] 33 (0, 0)) TK hb)
                   have n3_ := aM (blk_below (g := gb543) (o := .cells #[.slice none 0 0, .slice none 0 0, .int .i64 0, .int .i64 0, .int .i64 0, .slice none 0 0] 33 (0, 0)) TK hb)
                   have n4_ := aM (below_step TB hb)
                   clear ay
                   clear ac
                   clear ae
                   clear HB
                   have ay := n0_
                   have ar := n1_
                   have ac := n2_
                   have ae := n3_
                   have HB := n4_
                   clear n0_ n1_ n2_ n3_ n4_
                   clear hb aK
                   refine hK.out _ _ (cz6 ac.out) (fun hHeld => ?_)
                   clear hK K
                   refine nR ?_
                   exact spec_l9Copy.nM (cg (aD, aH, aC) _ ⟨hHeld, (by (with_reducible repeat (first | apply Kd.R_alloc | apply Kd.R_drewN | apply Kd.R_drew)); exact Kd.R_mono ay.out (fun _ hk => hk.2)), (by (with_reducible repeat (first | apply Kd.R_alloc | apply Kd.R_drewN | apply Kd.R_drew)); exact Kd.R_mono ar.out (fun _ hk => hk.2)), TK, TK, TB⟩)
                  ·skip
                   refine Kd.S_lit_step k55 _ 55 ?hg (N := 16) ?hd (xs := ([] : List (S55))) (inner := []) (ok := fun _ => True) (okp := fun _ => True) ?hr ?hp (fun _ hk => hk) trivial (Below.refl _ _) (Nat.le_refl _) (by simp) ?_; (case hd => rfl); (case hg => rfl); (case hr => first | (go_simp; done) | (go_simp; rfl)); (case hp => exact (Reps.none _ _))
                   intro aI w11 aK hb hg_ hnew_
                   clear hg_ hnew_
                   (first | rw [← aY.out] at aK | (simp only [Int.reduceToNat] at aK; rw [← aY.out] at aK))
                   have n0_ := aM (Kd.R_below (by have X_ := ay.out; exact TR) hb)
                   have n1_ := aM (Kd.S_lower (Kd.S_new' aK (Kd.R_lt (by have X_ := ay.out; exact TR))) (below_size TB))
                   have n2_ := aM (blk_below (g := aa) (o := .cells #[.slice am aj.length al, .slice ao ak.length ap, .int .i64 af, .int .i64 ag, .int .i64 ah, .slice aq ai.length an] 33 (0, 0)) TK hb)
                   have n3_ := aM (blk_below (g := gb543) (o := .cells #[.slice none 0 0, .slice none 0 0, .int .i64 0, .int .i64 0, .int .i64 0, .slice none 0 0] 33 (0, 0)) TK hb)
                   have n4_ := aM (below_step TB hb)
                   clear ay
                   clear ac
                   clear ae
                   clear HB
                   have ay := n0_
                   have av := n1_
                   have ac := n2_
                   have ae := n3_
                   have HB := n4_
                   clear n0_ n1_ n2_ n3_ n4_
                   clear hb aK
                   refine hK.out _ _ (cz6 ac.out) (fun hHeld => ?_)
                   clear hK K
                   refine nR ?_
                   exact spec_l9Copy.nM (b7 (aD, aH, aI) _ ⟨hHeld, (by have X_ := ay.out; exact TR), (by (with_reducible repeat (first | apply Kd.S_alloc | apply Kd.S_drewN | apply Kd.S_drew)); exact Kd.S_mono av.out (fun _ hk => hk.2)), TK, TK, TB⟩)
                  ·skip
                   refine box_step ?hg (N := 3) ?hd (cs := #[.slice none 0 0, .slice none 0 0, .int .i64 0, .int .i64 0, .int .i64 0, .slice none 0 0]) (t := 33) ?hr ?_; (case hd => rfl); (case hg => rfl); (case hr => first | (go_simp; done) | (go_simp; rfl))
                   intro ab hg w11 hbox hb
                   have n0_ := aM (Kd.R_below (by have X_ := ay.out; exact TR) hb)
                   have n1_ := aM (blk_below (g := aa) (o := .cells #[.slice am aj.length al, .slice ao ak.length ap, .int .i64 af, .int .i64 ag, .int .i64 ah, .slice aq ai.length an] 33 (0, 0)) TK hb)
                   have n2_ := aM (blk_below (g := gb543) (o := .cells #[.slice none 0 0, .slice none 0 0, .int .i64 0, .int .i64 0, .int .i64 0, .slice none 0 0] 33 (0, 0)) TK hb)
                   have n3_ := aM (below_step TB hb)
                   have n4_ := aM (hbox)
                   have n5_ := aM ((by rw [hg]; exact (below_size TB) : w.heap.size ≤ ab))
                   have n6_ := aM ((by rw [hg]; exact (below_size TB) : w.heap.size ≤ ab))
                   have n7_ := aM ((by rw [hg]; exact Nat.ne_of_lt (blk_lt (g := aa) (o := .cells #[.slice am aj.length al, .slice ao ak.length ap, .int .i64 af, .int .i64 ag, .int .i64 ah, .slice aq ai.length an] 33 (0, 0)) TK) : aa ≠ ab))
                   have n8_ := aM ((by rw [hg]; exact Nat.ne_of_gt (blk_lt (g := aa) (o := .cells #[.slice am aj.length al, .slice ao ak.length ap, .int .i64 af, .int .i64 ag, .int .i64 ah, .slice aq ai.length an] 33 (0, 0)) TK) : ab ≠ aa))
                   have n9_ := aM ((by rw [hg]; exact Nat.ne_of_lt (blk_lt (g := gb543) (o := .cells #[.slice none 0 0, .slice none 0 0, .int .i64 0, .int .i64 0, .int .i64 0, .slice none 0 0] 33 (0, 0)) TK) : gb543 ≠ ab))
                   have aX := aM ((by rw [hg]; exact Nat.ne_of_gt (blk_lt (g := gb543) (o := .cells #[.slice none 0 0, .slice none 0 0, .int .i64 0, .int .i64 0, .int .i64 0, .slice none 0 0] 33 (0, 0)) TK) : ab ≠ gb543))
                   clear ay
                   clear ac
                   clear ae
                   clear HB
                   have ay := n0_
                   have ac := n1_
                   have ae := n2_
                   have HB := n3_
                   have aA := n4_
                   have aE := n5_
                   have aG := n6_
                   have ad := n7_
                   have ax := n8_
                   have au := n9_
                   have aw := aX
                   clear n0_ n1_ n2_ n3_ n4_ n5_ n6_ n7_ n8_ n9_ aX
                   clear hb hbox hg
                   refine hK.out _ _ (cz6 ac.out) (fun hHeld => ?_)
                   clear hK K
                   refine nR ?_
                   exact spec_l9Copy.nM (cb (aD, aH, ab) _ ⟨hHeld, (by have X_ := ay.out; exact TR), TK, TK, TK, aE.out, aG.out, ad.out, ax.out, au.out, aw.out, TB⟩)
                ·skip
                 rintro ⟨aC, aI, ab⟩ w12 ⟨hS_, h0_, h1_, h2_, h3_, h4_, h5_, h6_, h7_, h8_, h9_, aW, bg⟩
                 clear ac ae HB
                 have ar : Aside0 (Kd.R (Kd.int .u8) 5 w12 w.heap.size (fun _ => True) aC be) := ⟨h0_⟩
                 have av : Aside0 (Kd.S k55 55 w12 w.heap.size (fun k_ => some k_ ≠ (aC : Value).ownBlock) aI aV) := ⟨h1_⟩
                 have ac : Aside0 (w12.heap[aa]? = some (.cells #[.slice am aj.length al, .slice ao ak.length ap, .int .i64 af, .int .i64 ag, .int .i64 ah, .slice aq ai.length an] 33 (0, 0))) := ⟨h2_⟩
                 have ae : Aside0 (w12.heap[gb543]? = some (.cells #[.slice none 0 0, .slice none 0 0, .int .i64 0, .int .i64 0, .int .i64 0, .slice none 0 0] 33 (0, 0))) := ⟨h3_⟩
                 have aA : Aside0 (w12.heap[ab]? = some (.cells #[.slice none 0 0, .slice none 0 0, .int .i64 0, .int .i64 0, .int .i64 0, .slice none 0 0] 33 (0, 0))) := ⟨h4_⟩
                 have aE : Aside0 (w.heap.size ≤ ab) := ⟨h5_⟩
                 have aG : Aside0 (w.heap.size ≤ ab) := ⟨h6_⟩
                 have ad : Aside0 (aa ≠ ab) := ⟨h7_⟩
                 have ax : Aside0 (ab ≠ aa) := ⟨h8_⟩
                 have au : Aside0 (gb543 ≠ ab) := ⟨h9_⟩
                 have aw : Aside0 (ab ≠ gb543) := ⟨aW⟩
                 have HB : Aside0 (Below w.heap.size w w12) := ⟨bg⟩
                 clear h0_ h1_ h2_ h3_ h4_ h5_ h6_ h7_ h8_ h9_ aW bg
                 have hHeld : w12.cell? ⟨aa, 0, none⟩ = some (.slice am aj.length al) ∧ w12.cell? ⟨aa, 1, none⟩ = some (.slice ao ak.length ap) ∧ w12.cell? ⟨aa, 2, none⟩ = some (.int .i64 af) ∧ w12.cell? ⟨aa, 3, none⟩ = some (.int .i64 ag) ∧ w12.cell? ⟨aa, 4, none⟩ = some (.int .i64 ah) ∧ w12.cell? ⟨aa, 5, none⟩ = some (.slice aq ai.length an) := hS_
                 refine norm_ (a' := ?_) ?_ ?_
                 rotate_left
                 ·simp only [putAll, Act.put, List.setIfInBounds_toArray, List.set_cons_zero, List.set_cons_succ]
                  rfl
                 refine pOe 0 (some 6) #[true, true, true, false, true, true, true, false, true, true, true, false, true, false] (fun K hK => ?_)
                 refine Kd.R_lit_step (Kd.int .u8) _ 5 ?hg (N := 6) ?hd (xs := ([] : List Int)) (inner := []) (ok := fun _ => True) (okp := fun _ => True) ?hr ?hp (fun _ hk => hk) trivial (Below.refl _ _) (Nat.le_refl _) (by simp) ?_; (case hd => rfl); (case hg => rfl); (case hr => first | (go_simp; done) | (go_simp; rfl)); (case hp => exact (Reps.none _ _))
                 intro aD w13 aZ hb hg_ hnew_
                 clear hg_ hnew_
                 (first | rw [← bm.out] at aZ | (simp only [Int.reduceToNat] at aZ; rw [← bm.out] at aZ))
                 have n0_ := aM (Kd.R_elder' (by have X_ := ar.out; exact TR) (Kd.R_base aZ) hb)
                 have n1_ := aM (Kd.S_elder' (by have X_ := av.out; exact TS) (Kd.R_base aZ) hb)
                 have n2_ := aM (Kd.R_lower (Kd.R_new' aZ (Kd.R_lt (by have X_ := ar.out; exact TR))) (below_size TB))
                 have n3_ := aM (blk_below (g := aa) (o := .cells #[.slice am aj.length al, .slice ao ak.length ap, .int .i64 af, .int .i64 ag, .int .i64 ah, .slice aq ai.length an] 33 (0, 0)) TK hb)
                 have n4_ := aM (blk_below (g := gb543) (o := .cells #[.slice none 0 0, .slice none 0 0, .int .i64 0, .int .i64 0, .int .i64 0, .slice none 0 0] 33 (0, 0)) TK hb)
                 have n5_ := aM (blk_below (g := ab) (o := .cells #[.slice none 0 0, .slice none 0 0, .int .i64 0, .int .i64 0, .int .i64 0, .slice none 0 0] 33 (0, 0)) TK hb)
                 have n6_ := aM (below_step TB hb)
                 clear ar
                 clear av
                 clear ac
                 clear ae
                 clear aA
                 clear HB
                 have ar := n0_
                 have av := n1_
                 have az := n2_
                 have ac := n3_
                 have ae := n4_
                 have aA := n5_
                 have HB := n6_
                 clear n0_ n1_ n2_ n3_ n4_ n5_ n6_
                 clear hb aZ
                 refine hK.out _ _ (cz6 ac.out) (fun hHeld => ?_)
                 clear hK K
                 refine nR ?_
                 exact spec_l9Copy.nM (bx (aD, aC, aI, ab) _ ⟨hHeld, (by (with_reducible repeat (first | apply Kd.R_alloc | apply Kd.R_drewN | apply Kd.R_drew)); exact Kd.R_mono az.out (fun _ hk => hk.2)), (by (with_reducible repeat (first | apply Kd.R_alloc | apply Kd.R_drewN | apply Kd.R_drew)); exact Kd.R_mono ar.out (fun _ hk => hk.2)), (by (with_reducible repeat (first | apply Kd.S_alloc | apply Kd.S_drewN | apply Kd.S_drew)); exact Kd.S_mono av.out (fun _ hk => ⟨hk.2, hk.1⟩)), TK, TK, TK, aE.out, aG.out, ad.out, ax.out, au.out, aw.out, TB⟩)
               ·skip
                rintro ⟨aD, aI, ab⟩ w12 ⟨hS_, h0_, h1_, h2_, h3_, h4_, h5_, h6_, h7_, h8_, h9_, aW, bg⟩
                clear ac ae HB
                have az : Aside0 (Kd.R (Kd.int .u8) 5 w12 w.heap.size (fun _ => True) aD bi) := ⟨h0_⟩
                have av : Aside0 (Kd.S k55 55 w12 w.heap.size (fun k_ => some k_ ≠ (aD : Value).ownBlock) aI aV) := ⟨h1_⟩
                have ac : Aside0 (w12.heap[aa]? = some (.cells #[.slice am aj.length al, .slice ao ak.length ap, .int .i64 af, .int .i64 ag, .int .i64 ah, .slice aq ai.length an] 33 (0, 0))) := ⟨h2_⟩
                have ae : Aside0 (w12.heap[gb543]? = some (.cells #[.slice none 0 0, .slice none 0 0, .int .i64 0, .int .i64 0, .int .i64 0, .slice none 0 0] 33 (0, 0))) := ⟨h3_⟩
                have aA : Aside0 (w12.heap[ab]? = some (.cells #[.slice none 0 0, .slice none 0 0, .int .i64 0, .int .i64 0, .int .i64 0, .slice none 0 0] 33 (0, 0))) := ⟨h4_⟩
                have aE : Aside0 (w.heap.size ≤ ab) := ⟨h5_⟩
                have aG : Aside0 (w.heap.size ≤ ab) := ⟨h6_⟩
                have ad : Aside0 (aa ≠ ab) := ⟨h7_⟩
                have ax : Aside0 (ab ≠ aa) := ⟨h8_⟩
                have au : Aside0 (gb543 ≠ ab) := ⟨h9_⟩
                have aw : Aside0 (ab ≠ gb543) := ⟨aW⟩
                have HB : Aside0 (Below w.heap.size w w12) := ⟨bg⟩
                clear h0_ h1_ h2_ h3_ h4_ h5_ h6_ h7_ h8_ h9_ aW bg
                have hHeld : w12.cell? ⟨aa, 0, none⟩ = some (.slice am aj.length al) ∧ w12.cell? ⟨aa, 1, none⟩ = some (.slice ao ak.length ap) ∧ w12.cell? ⟨aa, 2, none⟩ = some (.int .i64 af) ∧ w12.cell? ⟨aa, 3, none⟩ = some (.int .i64 ag) ∧ w12.cell? ⟨aa, 4, none⟩ = some (.int .i64 ah) ∧ w12.cell? ⟨aa, 5, none⟩ = some (.slice aq ai.length an) := hS_
                refine norm_ (a' := ?_) ?_ ?_
                rotate_left
                ·simp only [putAll, Act.put, List.setIfInBounds_toArray, List.set_cons_zero, List.set_cons_succ]
                 rfl
                refine two_ (i := 3) (j := 4) (Ni := some 9) (Nj := some 10) #[true, true, true, true, false, true, true, false, true, true, true, false, true, false] #[true, true, true, false, true, true, true, false, true, true, true, false, true, false] rfl rfl rfl rfl (two_of HT_.out (by kernel_rfl)) (by decide) (by decide) (fun K hK => ?_) (fun K hK => ?_)
                ·skip
                 refine Kd.R_append_rows_step (Kd.int .u8) (w0 := w) w.heap.size (by rfl) (.tmp 6) (.tmp 8) 22 5 (.int .u8 0) 1 rfl Try.underlying22 info5 rfl (by decide) (by omega) aD bi aj _ _ _ (fun _ => True) (fun _ => False) rfl rfl ?aO ?aR (fun _ _ h => h) (fun _ h => h.elim) ?aF ?aB ?aS ?aL ?_
                 (case aR => repeat (first | exact (Kd.C_below bC.out HB.out) | (with_reducible refine Kd.C_alloc ?_ _) | (with_reducible refine Kd.C_drewN ?_ _) | (with_reducible refine Kd.C_drew ?_)))
                 (case aB => exact TB)
                 (case aF => exact (fun _ _ => trivial))
                 (case aO => exact (by have X_ := az.out; exact TR))
                 (case aS => exact (below_size TB))
                 (case aL => have := bM.out; omega)
                 intro aH w13 ho hb hg hat
                 rw [← bB.out] at ho
                 have n0_ := aM (blk_grown (g := aa) (o := .cells #[.slice am aj.length al, .slice ao ak.length ap, .int .i64 af, .int .i64 ag, .int .i64 ah, .slice aq ai.length an] 33 (0, 0)) TK hg (Kd.R_ne az.out ac.out (by decide)))
                 have n1_ := aM (blk_grown (g := gb543) (o := .cells #[.slice none 0 0, .slice none 0 0, .int .i64 0, .int .i64 0, .int .i64 0, .slice none 0 0] 33 (0, 0)) TK hg (Kd.R_ne az.out ae.out (by decide)))
                 have n2_ := aM (Kd.S_after (ok := (fun _ => True)) (by (with_reducible repeat (first | apply Kd.S_alloc | apply Kd.S_drewN | apply Kd.S_drew)); exact Kd.S_mono av.out (fun _ hk => ⟨trivial, hk⟩)) hg hat)
                 have n3_ := aM (blk_grown (g := ab) (o := .cells #[.slice none 0 0, .slice none 0 0, .int .i64 0, .int .i64 0, .int .i64 0, .slice none 0 0] 33 (0, 0)) TK hg (Kd.R_ne az.out aA.out (by decide)))
                 have n4_ := aM (hb)
                 have n5_ := aM (ho)
                 clear ac
                 clear ae
                 clear av
                 clear aA
                 clear HB
                 clear az
                 have ac := n0_
                 have ae := n1_
                 have av := n2_
                 have aA := n3_
                 have HB := n4_
                 have ay := n5_
                 clear n0_ n1_ n2_ n3_ n4_ n5_
                 clear ho hb hg hat
                 refine hK.out _ _ (cz6 ac.out) (fun hHeld => ?_)
                 clear hK K
                 refine nR ?_
                 exact spec_l9Copy.nM (bD (aD, aH, aI, ab) _ ⟨hHeld, (by have X_ := ay.out; exact TR), (by (with_reducible repeat (first | apply Kd.S_alloc | apply Kd.S_drewN | apply Kd.S_drew)); exact Kd.S_mono av.out (fun _ hk => hk.2)), TK, TK, TK, aE.out, aG.out, ad.out, ax.out, au.out, aw.out, TB⟩)
                ·skip
                 refine Kd.R_lit_step (Kd.int .u8) _ 5 ?hg (N := 10) ?hd (xs := ([] : List Int)) (inner := []) (ok := fun _ => True) (okp := fun _ => True) ?hr ?hp (fun _ hk => hk) trivial (Below.refl _ _) (Nat.le_refl _) (by simp) ?_; (case hd => rfl); (case hg => rfl); (case hr => first | (go_simp; done) | (go_simp; rfl)); (case hp => exact (Reps.none _ _))
                 intro aC w13 aZ hb hg_ hnew_
                 clear hg_ hnew_
                 (first | rw [← bd.out] at aZ | (simp only [Int.reduceToNat] at aZ; rw [← bd.out] at aZ))
                 have n0_ := aM (Kd.R_elder' (by have X_ := az.out; exact TR) (Kd.R_base aZ) hb)
                 have n1_ := aM (Kd.S_elder' (by have X_ := av.out; exact TS) (Kd.R_base aZ) hb)
                 have n2_ := aM (Kd.R_lower (Kd.R_new' aZ (Kd.R_lt (by have X_ := az.out; exact TR))) (below_size TB))
                 have n3_ := aM (blk_below (g := aa) (o := .cells #[.slice am aj.length al, .slice ao ak.length ap, .int .i64 af, .int .i64 ag, .int .i64 ah, .slice aq ai.length an] 33 (0, 0)) TK hb)
                 have n4_ := aM (blk_below (g := gb543) (o := .cells #[.slice none 0 0, .slice none 0 0, .int .i64 0, .int .i64 0, .int .i64 0, .slice none 0 0] 33 (0, 0)) TK hb)
                 have n5_ := aM (blk_below (g := ab) (o := .cells #[.slice none 0 0, .slice none 0 0, .int .i64 0, .int .i64 0, .int .i64 0, .slice none 0 0] 33 (0, 0)) TK hb)
                 have n6_ := aM (below_step TB hb)
                 clear az
                 clear av
                 clear ac
                 clear ae
                 clear aA
                 clear HB
                 have az := n0_
                 have av := n1_
                 have ar := n2_
                 have ac := n3_
                 have ae := n4_
                 have aA := n5_
                 have HB := n6_
                 clear n0_ n1_ n2_ n3_ n4_ n5_ n6_
                 clear hb aZ
                 refine hK.out _ _ (cz6 ac.out) (fun hHeld => ?_)
                 clear hK K
                 refine nR ?_
                 exact spec_l9Copy.nM (bx (aD, aC, aI, ab) _ ⟨hHeld, (by (with_reducible repeat (first | apply Kd.R_alloc | apply Kd.R_drewN | apply Kd.R_drew)); exact Kd.R_mono az.out (fun _ hk => hk.2)), (by (with_reducible repeat (first | apply Kd.R_alloc | apply Kd.R_drewN | apply Kd.R_drew)); exact Kd.R_mono ar.out (fun _ hk => hk.2)), (by have X_ := av.out; exact TS), TK, TK, TK, aE.out, aG.out, ad.out, ax.out, au.out, aw.out, TB⟩)
              ·skip
               rintro ⟨aD, aC, ab⟩ w12 ⟨hS_, h0_, h1_, h2_, h3_, h4_, h5_, h6_, h7_, h8_, h9_, aW, bg⟩
               clear ac ae HB
               have az : Aside0 (Kd.R (Kd.int .u8) 5 w12 w.heap.size (fun k_ => some k_ ≠ (aC : Value).ownBlock) aD bi) := ⟨h0_⟩
               have ar : Aside0 (Kd.R (Kd.int .u8) 5 w12 w.heap.size (fun k_ => some k_ ≠ (aD : Value).ownBlock) aC be) := ⟨h1_⟩
               have ac : Aside0 (w12.heap[aa]? = some (.cells #[.slice am aj.length al, .slice ao ak.length ap, .int .i64 af, .int .i64 ag, .int .i64 ah, .slice aq ai.length an] 33 (0, 0))) := ⟨h2_⟩
               have ae : Aside0 (w12.heap[gb543]? = some (.cells #[.slice none 0 0, .slice none 0 0, .int .i64 0, .int .i64 0, .int .i64 0, .slice none 0 0] 33 (0, 0))) := ⟨h3_⟩
               have aA : Aside0 (w12.heap[ab]? = some (.cells #[.slice none 0 0, .slice none 0 0, .int .i64 0, .int .i64 0, .int .i64 0, .slice none 0 0] 33 (0, 0))) := ⟨h4_⟩
               have aE : Aside0 (w.heap.size ≤ ab) := ⟨h5_⟩
               have aG : Aside0 (w.heap.size ≤ ab) := ⟨h6_⟩
               have ad : Aside0 (aa ≠ ab) := ⟨h7_⟩
               have ax : Aside0 (ab ≠ aa) := ⟨h8_⟩
               have au : Aside0 (gb543 ≠ ab) := ⟨h9_⟩
               have aw : Aside0 (ab ≠ gb543) := ⟨aW⟩
               have HB : Aside0 (Below w.heap.size w w12) := ⟨bg⟩
               clear h0_ h1_ h2_ h3_ h4_ h5_ h6_ h7_ h8_ h9_ aW bg
               have hHeld : w12.cell? ⟨aa, 0, none⟩ = some (.slice am aj.length al) ∧ w12.cell? ⟨aa, 1, none⟩ = some (.slice ao ak.length ap) ∧ w12.cell? ⟨aa, 2, none⟩ = some (.int .i64 af) ∧ w12.cell? ⟨aa, 3, none⟩ = some (.int .i64 ag) ∧ w12.cell? ⟨aa, 4, none⟩ = some (.int .i64 ah) ∧ w12.cell? ⟨aa, 5, none⟩ = some (.slice aq ai.length an) := hS_
               refine norm_ (a' := ?_) ?_ ?_
               rotate_left
               ·simp only [putAll, Act.put, List.setIfInBounds_toArray, List.set_cons_zero, List.set_cons_succ]
                rfl
               refine two_ (i := 3) (j := 10) (Ni := some 9) (Nj := some 16) #[true, true, true, true, true, true, true, false, true, true, false, false, true, false] #[true, true, true, false, true, true, true, false, true, true, true, false, true, false] rfl rfl rfl rfl (two_of HT_.out (by kernel_rfl)) (by decide) (by decide) (fun K hK => ?_) (fun K hK => ?_)
               ·skip
                refine Kd.R_append_rows_step (Kd.int .u8) (w0 := w) w.heap.size (by rfl) (.tmp 6) (.tmp 8) 22 5 (.int .u8 0) 1 rfl Try.underlying22 info5 rfl (by decide) (by omega) aD bi aj _ _ _ (fun k_ => some k_ ≠ (aC : Value).ownBlock) (fun _ => False) rfl rfl ?aO ?aR (fun _ _ h => h) (fun _ h => h.elim) ?aF ?aB ?aS ?aL ?_
                (case aR => repeat (first | exact (Kd.C_below bC.out HB.out) | (with_reducible refine Kd.C_alloc ?_ _) | (with_reducible refine Kd.C_drewN ?_ _) | (with_reducible refine Kd.C_drew ?_)))
                (case aB => exact TB)
                (case aF => exact (fun k_ hk => Kd.fresh' (Kd.R_lt (by have X_ := ar.out; exact TR)) k_ hk))
                (case aO => exact (by have X_ := az.out; exact TR))
                (case aS => exact (below_size TB))
                (case aL => have := bM.out; omega)
                intro aH w13 ho hb hg hat
                rw [← bB.out] at ho
                have n0_ := aM (blk_grown (g := aa) (o := .cells #[.slice am aj.length al, .slice ao ak.length ap, .int .i64 af, .int .i64 ag, .int .i64 ah, .slice aq ai.length an] 33 (0, 0)) TK hg (Kd.R_ne az.out ac.out (by decide)))
                have n1_ := aM (blk_grown (g := gb543) (o := .cells #[.slice none 0 0, .slice none 0 0, .int .i64 0, .int .i64 0, .int .i64 0, .slice none 0 0] 33 (0, 0)) TK hg (Kd.R_ne az.out ae.out (by decide)))
                have n2_ := aM (Kd.R_after (ok := (fun _ => True)) (by (with_reducible repeat (first | apply Kd.R_alloc | apply Kd.R_drewN | apply Kd.R_drew)); exact Kd.R_mono ar.out (fun _ hk => ⟨trivial, hk⟩)) hg hat)
                have n3_ := aM (blk_grown (g := ab) (o := .cells #[.slice none 0 0, .slice none 0 0, .int .i64 0, .int .i64 0, .int .i64 0, .slice none 0 0] 33 (0, 0)) TK hg (Kd.R_ne az.out aA.out (by decide)))
                have n4_ := aM (hb)
                have n5_ := aM (ho)
                clear ac
                clear ae
                clear ar
                clear aA
                clear HB
                clear az
                have ac := n0_
                have ae := n1_
                have ar := n2_
                have aA := n3_
                have HB := n4_
                have ay := n5_
                clear n0_ n1_ n2_ n3_ n4_ n5_
                clear ho hb hg hat
                refine hK.out _ _ (cz6 ac.out) (fun hHeld => ?_)
                clear hK K
                refine nR ?_
                exact spec_l9Copy.nM (bG (aD, aH, aC, ab) _ ⟨hHeld, (by have X_ := ay.out; exact TR), (by (with_reducible repeat (first | apply Kd.R_alloc | apply Kd.R_drewN | apply Kd.R_drew)); exact Kd.R_mono ar.out (fun _ hk => hk.2)), TK, TK, TK, aE.out, aG.out, ad.out, ax.out, au.out, aw.out, TB⟩)
               ·skip
                refine Kd.S_lit_step k55 _ 55 ?hg (N := 16) ?hd (xs := ([] : List (S55))) (inner := []) (ok := fun _ => True) (okp := fun _ => True) ?hr ?hp (fun _ hk => hk) trivial (Below.refl _ _) (Nat.le_refl _) (by simp) ?_; (case hd => rfl); (case hg => rfl); (case hr => first | (go_simp; done) | (go_simp; rfl)); (case hp => exact (Reps.none _ _))
                intro aI w13 aZ hb hg_ hnew_
                clear hg_ hnew_
                (first | rw [← aY.out] at aZ | (simp only [Int.reduceToNat] at aZ; rw [← aY.out] at aZ))
                have n0_ := aM (Kd.R_below (by have X_ := az.out; exact TR) hb)
                have n1_ := aM (Kd.R_below (by have X_ := ar.out; exact TR) hb)
                have n2_ := aM (Kd.S_lower (Kd.S_new' (Kd.S_new' aZ (Kd.R_lt (by have X_ := az.out; exact TR))) (Kd.R_lt (by have X_ := ar.out; exact TR))) (below_size TB))
                have n3_ := aM (blk_below (g := aa) (o := .cells #[.slice am aj.length al, .slice ao ak.length ap, .int .i64 af, .int .i64 ag, .int .i64 ah, .slice aq ai.length an] 33 (0, 0)) TK hb)
                have n4_ := aM (blk_below (g := gb543) (o := .cells #[.slice none 0 0, .slice none 0 0, .int .i64 0, .int .i64 0, .int .i64 0, .slice none 0 0] 33 (0, 0)) TK hb)
                have n5_ := aM (blk_below (g := ab) (o := .cells #[.slice none 0 0, .slice none 0 0, .int .i64 0, .int .i64 0, .int .i64 0, .slice none 0 0] 33 (0, 0)) TK hb)
                have n6_ := aM (below_step TB hb)
                clear az
                clear ar
                clear ac
                clear ae
                clear aA
                clear HB
                have az := n0_
                have ar := n1_
                have av := n2_
                have ac := n3_
                have ae := n4_
                have aA := n5_
                have HB := n6_
                clear n0_ n1_ n2_ n3_ n4_ n5_ n6_
                clear hb aZ
                refine hK.out _ _ (cz6 ac.out) (fun hHeld => ?_)
                clear hK K
                refine nR ?_
                exact spec_l9Copy.nM (bx (aD, aC, aI, ab) _ ⟨hHeld, (by have X_ := az.out; exact TR), (by have X_ := ar.out; exact TR), (by (with_reducible repeat (first | apply Kd.S_alloc | apply Kd.S_drewN | apply Kd.S_drew)); exact Kd.S_mono av.out (fun _ hk => ⟨hk.1.2, hk.2⟩)), TK, TK, TK, aE.out, aG.out, ad.out, ax.out, au.out, aw.out, TB⟩)
             ·skip
              rintro ⟨aD, aC, aI⟩ w13 ⟨hS_, h0_, h1_, h2_, h3_, h4_, h5_⟩
              clear ac ae HB
              have az : Aside0 (Kd.R (Kd.int .u8) 5 w13 w.heap.size (fun k_ => some k_ ≠ (aC : Value).ownBlock) aD bi) := ⟨h0_⟩
              have ar : Aside0 (Kd.R (Kd.int .u8) 5 w13 w.heap.size (fun k_ => some k_ ≠ (aD : Value).ownBlock) aC be) := ⟨h1_⟩
              have av : Aside0 (Kd.S k55 55 w13 w.heap.size (fun k_ => some k_ ≠ (aD : Value).ownBlock ∧ some k_ ≠ (aC : Value).ownBlock) aI aV) := ⟨h2_⟩
              have ac : Aside0 (w13.heap[aa]? = some (.cells #[.slice am aj.length al, .slice ao ak.length ap, .int .i64 af, .int .i64 ag, .int .i64 ah, .slice aq ai.length an] 33 (0, 0))) := ⟨h3_⟩
              have ae : Aside0 (w13.heap[gb543]? = some (.cells #[.slice none 0 0, .slice none 0 0, .int .i64 0, .int .i64 0, .int .i64 0, .slice none 0 0] 33 (0, 0))) := ⟨h4_⟩
              have HB : Aside0 (Below w.heap.size w w13) := ⟨h5_⟩
              clear h0_ h1_ h2_ h3_ h4_ h5_
              have hHeld : w13.cell? ⟨aa, 0, none⟩ = some (.slice am aj.length al) ∧ w13.cell? ⟨aa, 1, none⟩ = some (.slice ao ak.length ap) ∧ w13.cell? ⟨aa, 2, none⟩ = some (.int .i64 af) ∧ w13.cell? ⟨aa, 3, none⟩ = some (.int .i64 ag) ∧ w13.cell? ⟨aa, 4, none⟩ = some (.int .i64 ah) ∧ w13.cell? ⟨aa, 5, none⟩ = some (.slice aq ai.length an) := hS_
              refine norm_ (a' := ?_) ?_ ?_
              rotate_left
              ·simp only [putAll, Act.put, List.setIfInBounds_toArray, List.set_cons_zero, List.set_cons_succ]
               rfl
              refine two_ (i := 3) (j := 12) (Ni := some 9) (Nj := some 3) #[true, true, true, true, true, true, true, false, true, true, true, false, false, false] #[true, true, true, false, true, true, true, false, true, true, true, false, true, false] rfl rfl rfl rfl (two_of HT_.out (by kernel_rfl)) (by decide) (by decide) (fun K hK => ?_) (fun K hK => ?_)
              ·skip
               refine Kd.R_append_rows_step (Kd.int .u8) (w0 := w) w.heap.size (by rfl) (.tmp 6) (.tmp 8) 22 5 (.int .u8 0) 1 rfl Try.underlying22 info5 rfl (by decide) (by omega) aD bi aj _ _ _ (fun k_ => some k_ ≠ (aC : Value).ownBlock) (fun _ => False) rfl rfl ?aO ?aR (fun _ _ h => h) (fun _ h => h.elim) ?aF ?aB ?aS ?aL ?_
               (case aR => repeat (first | exact (Kd.C_below bC.out HB.out) | (with_reducible refine Kd.C_alloc ?_ _) | (with_reducible refine Kd.C_drewN ?_ _) | (with_reducible refine Kd.C_drew ?_)))
               (case aB => exact TB)
               (case aF => exact (fun k_ hk => Kd.fresh' (Kd.R_lt (by have X_ := ar.out; exact TR)) k_ hk))
               (case aO => exact (by have X_ := az.out; exact TR))
               (case aS => exact (below_size TB))
               (case aL => have := bM.out; omega)
               intro aH w14 ho hb hg hat
               rw [← bB.out] at ho
               have n0_ := aM (blk_grown (g := aa) (o := .cells #[.slice am aj.length al, .slice ao ak.length ap, .int .i64 af, .int .i64 ag, .int .i64 ah, .slice aq ai.length an] 33 (0, 0)) TK hg (Kd.R_ne az.out ac.out (by decide)))
               have n1_ := aM (blk_grown (g := gb543) (o := .cells #[.slice none 0 0, .slice none 0 0, .int .i64 0, .int .i64 0, .int .i64 0, .slice none 0 0] 33 (0, 0)) TK hg (Kd.R_ne az.out ae.out (by decide)))
               have n2_ := aM (Kd.R_after (ok := (fun _ => True)) (by (with_reducible repeat (first | apply Kd.R_alloc | apply Kd.R_drewN | apply Kd.R_drew)); exact Kd.R_mono ar.out (fun _ hk => ⟨trivial, hk⟩)) hg hat)
               have n3_ := aM (Kd.S_after (ok := (fun k_ => some k_ ≠ (aC : Value).ownBlock)) (by (with_reducible repeat (first | apply Kd.S_alloc | apply Kd.S_drewN | apply Kd.S_drew)); exact Kd.S_mono av.out (fun _ hk => ⟨hk.2, hk.1⟩)) hg hat)
               have n4_ := aM (hb)
               have n5_ := aM (ho)
               clear ac
               clear ae
               clear ar
               clear av
               clear HB
               clear az
               have ac := n0_
               have ae := n1_
               have ar := n2_
               have av := n3_
               have HB := n4_
               have ay := n5_
               clear n0_ n1_ n2_ n3_ n4_ n5_
               clear ho hb hg hat
               refine hK.out _ _ (cz6 ac.out) (fun hHeld => ?_)
               clear hK K
               refine nR ?_
               exact spec_l9Copy.nM (bF (aD, aH, aC, aI) _ ⟨hHeld, (by have X_ := ay.out; exact TR), (by (with_reducible repeat (first | apply Kd.R_alloc | apply Kd.R_drewN | apply Kd.R_drew)); exact Kd.R_mono ar.out (fun _ hk => hk.2)), (by (with_reducible repeat (first | apply Kd.S_alloc | apply Kd.S_drewN | apply Kd.S_drew)); exact Kd.S_mono av.out (fun _ hk => ⟨hk.2, hk.1⟩)), TK, TK, TB⟩)
              ·skip
               refine box_step ?hg (N := 3) ?hd (cs := #[.slice none 0 0, .slice none 0 0, .int .i64 0, .int .i64 0, .int .i64 0, .slice none 0 0]) (t := 33) ?hr ?_; (case hd => rfl); (case hg => rfl); (case hr => first | (go_simp; done) | (go_simp; rfl))
               intro ab hg w14 hbox hb
               have n0_ := aM (Kd.R_below (by have X_ := az.out; exact TR) hb)
               have n1_ := aM (Kd.R_below (by have X_ := ar.out; exact TR) hb)
               have n2_ := aM (Kd.S_below (by have X_ := av.out; exact TS) hb)
               have n3_ := aM (blk_below (g := aa) (o := .cells #[.slice am aj.length al, .slice ao ak.length ap, .int .i64 af, .int .i64 ag, .int .i64 ah, .slice aq ai.length an] 33 (0, 0)) TK hb)
               have n4_ := aM (blk_below (g := gb543) (o := .cells #[.slice none 0 0, .slice none 0 0, .int .i64 0, .int .i64 0, .int .i64 0, .slice none 0 0] 33 (0, 0)) TK hb)
               have n5_ := aM (below_step TB hb)
               have n6_ := aM (hbox)
               have n7_ := aM ((by rw [hg]; exact (below_size TB) : w.heap.size ≤ ab))
               have n8_ := aM ((by rw [hg]; exact (below_size TB) : w.heap.size ≤ ab))
               have n9_ := aM ((by rw [hg]; exact Nat.ne_of_lt (blk_lt (g := aa) (o := .cells #[.slice am aj.length al, .slice ao ak.length ap, .int .i64 af, .int .i64 ag, .int .i64 ah, .slice aq ai.length an] 33 (0, 0)) TK) : aa ≠ ab))
               have aX := aM ((by rw [hg]; exact Nat.ne_of_gt (blk_lt (g := aa) (o := .cells #[.slice am aj.length al, .slice ao ak.length ap, .int .i64 af, .int .i64 ag, .int .i64 ah, .slice aq ai.length an] 33 (0, 0)) TK) : ab ≠ aa))
               have bf := aM ((by rw [hg]; exact Nat.ne_of_lt (blk_lt (g := gb543) (o := .cells #[.slice none 0 0, .slice none 0 0, .int .i64 0, .int .i64 0, .int .i64 0, .slice none 0 0] 33 (0, 0)) TK) : gb543 ≠ ab))
               have bN := aM ((by rw [hg]; exact Nat.ne_of_gt (blk_lt (g := gb543) (o := .cells #[.slice none 0 0, .slice none 0 0, .int .i64 0, .int .i64 0, .int .i64 0, .slice none 0 0] 33 (0, 0)) TK) : ab ≠ gb543))
               clear az
               clear ar
               clear av
               clear ac
               clear ae
               clear HB
               have az := n0_
               have ar := n1_
               have av := n2_
               have ac := n3_
               have ae := n4_
               have HB := n5_
               have aA := n6_
               have aE := n7_
               have aG := n8_
               have ad := n9_
               have ax := aX
               have au := bf
               have aw := bN
               clear n0_ n1_ n2_ n3_ n4_ n5_ n6_ n7_ n8_ n9_ aX bf bN
               clear hb hbox hg
               refine hK.out _ _ (cz6 ac.out) (fun hHeld => ?_)
               clear hK K
               refine nR ?_
               exact spec_l9Copy.nM (bx (aD, aC, aI, ab) _ ⟨hHeld, (by have X_ := az.out; exact TR), (by have X_ := ar.out; exact TR), (by have X_ := av.out; exact TS), TK, TK, TK, aE.out, aG.out, ad.out, ax.out, au.out, aw.out, TB⟩)
            ·skip
             rintro ⟨aD, aH, ab⟩ w11 ⟨hS_, h0_, h1_, h2_, h3_, h4_, h5_, h6_, h7_, h8_, h9_, aW⟩
             clear ac ae HB
             have ay : Aside0 (Kd.R (Kd.int .u8) 5 w11 w.heap.size (fun _ => True) aH aJ) := ⟨h0_⟩
             have ac : Aside0 (w11.heap[aa]? = some (.cells #[.slice am aj.length al, .slice ao ak.length ap, .int .i64 af, .int .i64 ag, .int .i64 ah, .slice aq ai.length an] 33 (0, 0))) := ⟨h1_⟩
             have ae : Aside0 (w11.heap[gb543]? = some (.cells #[.slice none 0 0, .slice none 0 0, .int .i64 0, .int .i64 0, .int .i64 0, .slice none 0 0] 33 (0, 0))) := ⟨h2_⟩
             have aA : Aside0 (w11.heap[ab]? = some (.cells #[.slice none 0 0, .slice none 0 0, .int .i64 0, .int .i64 0, .int .i64 0, .slice none 0 0] 33 (0, 0))) := ⟨h3_⟩
             have aE : Aside0 (w.heap.size ≤ ab) := ⟨h4_⟩
             have aG : Aside0 (w.heap.size ≤ ab) := ⟨h5_⟩
             have ad : Aside0 (aa ≠ ab) := ⟨h6_⟩
             have ax : Aside0 (ab ≠ aa) := ⟨h7_⟩
             have au : Aside0 (gb543 ≠ ab) := ⟨h8_⟩
             have aw : Aside0 (ab ≠ gb543) := ⟨h9_⟩
             have HB : Aside0 (Below w.heap.size w w11) := ⟨aW⟩
             clear h0_ h1_ h2_ h3_ h4_ h5_ h6_ h7_ h8_ h9_ aW
             have hHeld : w11.cell? ⟨aa, 0, none⟩ = some (.slice am aj.length al) ∧ w11.cell? ⟨aa, 1, none⟩ = some (.slice ao ak.length ap) ∧ w11.cell? ⟨aa, 2, none⟩ = some (.int .i64 af) ∧ w11.cell? ⟨aa, 3, none⟩ = some (.int .i64 ag) ∧ w11.cell? ⟨aa, 4, none⟩ = some (.int .i64 ah) ∧ w11.cell? ⟨aa, 5, none⟩ = some (.slice aq ai.length an) := hS_
             refine norm_ (a' := ?_) ?_ ?_
             rotate_left
             ·simp only [putAll, Act.put, List.setIfInBounds_toArray, List.set_cons_zero, List.set_cons_succ]
              rfl
             refine two_ (i := 4) (j := 10) (Ni := some 10) (Nj := some 16) #[true, true, true, true, true, true, true, false, true, true, false, false, true, false] #[true, true, true, true, false, true, true, false, true, true, true, false, true, false] rfl rfl rfl rfl (two_of HT_.out (by kernel_rfl)) (by decide) (by decide) (fun K hK => ?_) (fun K hK => ?_)
             ·skip
              refine Kd.R_lit_step (Kd.int .u8) _ 5 ?hg (N := 10) ?hd (xs := ([] : List Int)) (inner := []) (ok := fun _ => True) (okp := fun _ => True) ?hr ?hp (fun _ hk => hk) trivial (Below.refl _ _) (Nat.le_refl _) (by simp) ?_; (case hd => rfl); (case hg => rfl); (case hr => first | (go_simp; done) | (go_simp; rfl)); (case hp => exact (Reps.none _ _))
              intro aC w12 ba hb hg_ hnew_
              clear hg_ hnew_
              (first | rw [← bd.out] at ba | (simp only [Int.reduceToNat] at ba; rw [← bd.out] at ba))
              have n0_ := aM (Kd.R_elder' (by have X_ := ay.out; exact TR) (Kd.R_base ba) hb)
              have n1_ := aM (Kd.R_lower (Kd.R_new' ba (Kd.R_lt (by have X_ := ay.out; exact TR))) (below_size TB))
              have n2_ := aM (blk_below (g := aa) (o := .cells #[.slice am aj.length al, .slice ao ak.length ap, .int .i64 af, .int .i64 ag, .int .i64 ah, .slice aq ai.length an] 33 (0, 0)) TK hb)
              have n3_ := aM (blk_below (g := gb543) (o := .cells #[.slice none 0 0, .slice none 0 0, .int .i64 0, .int .i64 0, .int .i64 0, .slice none 0 0] 33 (0, 0)) TK hb)
              have n4_ := aM (blk_below (g := ab) (o := .cells #[.slice none 0 0, .slice none 0 0, .int .i64 0, .int .i64 0, .int .i64 0, .slice none 0 0] 33 (0, 0)) TK hb)
              have n5_ := aM (below_step TB hb)
              clear ay
              clear ac
              clear ae
              clear aA
              clear HB
              have ay := n0_
              have ar := n1_
              have ac := n2_
              have ae := n3_
              have aA := n4_
              have HB := n5_
              clear n0_ n1_ n2_ n3_ n4_ n5_
              clear hb ba
              refine hK.out _ _ (cz6 ac.out) (fun hHeld => ?_)
              clear hK K
              refine nR ?_
              exact spec_l9Copy.nM (bG (aD, aH, aC, ab) _ ⟨hHeld, (by (with_reducible repeat (first | apply Kd.R_alloc | apply Kd.R_drewN | apply Kd.R_drew)); exact Kd.R_mono ay.out (fun _ hk => hk.2)), (by (with_reducible repeat (first | apply Kd.R_alloc | apply Kd.R_drewN | apply Kd.R_drew)); exact Kd.R_mono ar.out (fun _ hk => hk.2)), TK, TK, TK, aE.out, aG.out, ad.out, ax.out, au.out, aw.out, TB⟩)
             ·skip
              refine Kd.S_lit_step k55 _ 55 ?hg (N := 16) ?hd (xs := ([] : List (S55))) (inner := []) (ok := fun _ => True) (okp := fun _ => True) ?hr ?hp (fun _ hk => hk) trivial (Below.refl _ _) (Nat.le_refl _) (by simp) ?_; (case hd => rfl); (case hg => rfl); (case hr => first | (go_simp; done) | (go_simp; rfl)); (case hp => exact (Reps.none _ _))
              intro aI w12 ba hb hg_ hnew_
              clear hg_ hnew_
              (first | rw [← aY.out] at ba | (simp only [Int.reduceToNat] at ba; rw [← aY.out] at ba))
              have n0_ := aM (Kd.R_below (by have X_ := ay.out; exact TR) hb)
              have n1_ := aM (Kd.S_lower (Kd.S_new' ba (Kd.R_lt (by have X_ := ay.out; exact TR))) (below_size TB))
              have n2_ := aM (blk_below (g := aa) (o := .cells #[.slice am aj.length al, .slice ao ak.length ap, .int .i64 af, .int .i64 ag, .int .i64 ah, .slice aq ai.length an] 33 (0, 0)) TK hb)
              have n3_ := aM (blk_below (g := gb543) (o := .cells #[.slice none 0 0, .slice none 0 0, .int .i64 0, .int .i64 0, .int .i64 0, .slice none 0 0] 33 (0, 0)) TK hb)
              have n4_ := aM (blk_below (g := ab) (o := .cells #[.slice none 0 0, .slice none 0 0, .int .i64 0, .int .i64 0, .int .i64 0, .slice none 0 0] 33 (0, 0)) TK hb)
              have n5_ := aM (below_step TB hb)
              clear ay
              clear ac
              clear ae
              clear aA
              clear HB
              have ay := n0_
              have av := n1_
              have ac := n2_
              have ae := n3_
              have aA := n4_
              have HB := n5_
              clear n0_ n1_ n2_ n3_ n4_ n5_
              clear hb ba
              refine hK.out _ _ (cz6 ac.out) (fun hHeld => ?_)
              clear hK K
              refine nR ?_
              exact spec_l9Copy.nM (bD (aD, aH, aI, ab) _ ⟨hHeld, (by have X_ := ay.out; exact TR), (by (with_reducible repeat (first | apply Kd.S_alloc | apply Kd.S_drewN | apply Kd.S_drew)); exact Kd.S_mono av.out (fun _ hk => hk.2)), TK, TK, TK, aE.out, aG.out, ad.out, ax.out, au.out, aw.out, TB⟩)
           ·skip
            rintro ⟨aD, aH, aI⟩ w12 ⟨hS_, h0_, h1_, h2_, h3_, h4_⟩
            clear ac ae HB
            have ay : Aside0 (Kd.R (Kd.int .u8) 5 w12 w.heap.size (fun _ => True) aH aJ) := ⟨h0_⟩
            have av : Aside0 (Kd.S k55 55 w12 w.heap.size (fun k_ => some k_ ≠ (aH : Value).ownBlock) aI aV) := ⟨h1_⟩
            have ac : Aside0 (w12.heap[aa]? = some (.cells #[.slice am aj.length al, .slice ao ak.length ap, .int .i64 af, .int .i64 ag, .int .i64 ah, .slice aq ai.length an] 33 (0, 0))) := ⟨h2_⟩
            have ae : Aside0 (w12.heap[gb543]? = some (.cells #[.slice none 0 0, .slice none 0 0, .int .i64 0, .int .i64 0, .int .i64 0, .slice none 0 0] 33 (0, 0))) := ⟨h3_⟩
            have HB : Aside0 (Below w.heap.size w w12) := ⟨h4_⟩
            clear h0_ h1_ h2_ h3_ h4_
            have hHeld : w12.cell? ⟨aa, 0, none⟩ = some (.slice am aj.length al) ∧ w12.cell? ⟨aa, 1, none⟩ = some (.slice ao ak.length ap) ∧ w12.cell? ⟨aa, 2, none⟩ = some (.int .i64 af) ∧ w12.cell? ⟨aa, 3, none⟩ = some (.int .i64 ag) ∧ w12.cell? ⟨aa, 4, none⟩ = some (.int .i64 ah) ∧ w12.cell? ⟨aa, 5, none⟩ = some (.slice aq ai.length an) := hS_
            refine norm_ (a' := ?_) ?_ ?_
            rotate_left
            ·simp only [putAll, Act.put, List.setIfInBounds_toArray, List.set_cons_zero, List.set_cons_succ]
             rfl
            refine two_ (i := 4) (j := 12) (Ni := some 10) (Nj := some 3) #[true, true, true, true, true, true, true, false, true, true, true, false, false, false] #[true, true, true, true, false, true, true, false, true, true, true, false, true, false] rfl rfl rfl rfl (two_of HT_.out (by kernel_rfl)) (by decide) (by decide) (fun K hK => ?_) (fun K hK => ?_)
            ·skip
             refine Kd.R_lit_step (Kd.int .u8) _ 5 ?hg (N := 10) ?hd (xs := ([] : List Int)) (inner := []) (ok := fun _ => True) (okp := fun _ => True) ?hr ?hp (fun _ hk => hk) trivial (Below.refl _ _) (Nat.le_refl _) (by simp) ?_; (case hd => rfl); (case hg => rfl); (case hr => first | (go_simp; done) | (go_simp; rfl)); (case hp => exact (Reps.none _ _))
             intro aC w13 aZ hb hg_ hnew_
             clear hg_ hnew_
             (first | rw [← bd.out] at aZ | (simp only [Int.reduceToNat] at aZ; rw [← bd.out] at aZ))
             have n0_ := aM (Kd.R_elder' (by have X_ := ay.out; exact TR) (Kd.R_base aZ) hb)
             have n1_ := aM (Kd.S_elder' (by have X_ := av.out; exact TS) (Kd.R_base aZ) hb)
             have n2_ := aM (Kd.R_lower (Kd.R_new' aZ (Kd.R_lt (by have X_ := ay.out; exact TR))) (below_size TB))
             have n3_ := aM (blk_below (g := aa) (o := .cells #[.slice am aj.length al, .slice ao ak.length ap, .int .i64 af, .int .i64 ag, .int .i64 ah, .slice aq ai.length an] 33 (0, 0)) TK hb)
             have n4_ := aM (blk_below (g := gb543) (o := .cells #[.slice none 0 0, .slice none 0 0, .int .i64 0, .int .i64 0, .int .i64 0, .slice none 0 0] 33 (0, 0)) TK hb)
             have n5_ := aM (below_step TB hb)
             clear ay
             clear av
             clear ac
             clear ae
             clear HB
             have ay := n0_
             have av := n1_
             have ar := n2_
             have ac := n3_
             have ae := n4_
             have HB := n5_
             clear n0_ n1_ n2_ n3_ n4_ n5_
             clear hb aZ
             refine hK.out _ _ (cz6 ac.out) (fun hHeld => ?_)
             clear hK K
             refine nR ?_
             exact spec_l9Copy.nM (bF (aD, aH, aC, aI) _ ⟨hHeld, (by (with_reducible repeat (first | apply Kd.R_alloc | apply Kd.R_drewN | apply Kd.R_drew)); exact Kd.R_mono ay.out (fun _ hk => hk.2)), (by (with_reducible repeat (first | apply Kd.R_alloc | apply Kd.R_drewN | apply Kd.R_drew)); exact Kd.R_mono ar.out (fun _ hk => hk.2)), (by have X_ := av.out; exact TS), TK, TK, TB⟩)
            ·skip
             refine box_step ?hg (N := 3) ?hd (cs := #[.slice none 0 0, .slice none 0 0, .int .i64 0, .int .i64 0, .int .i64 0, .slice none 0 0]) (t := 33) ?hr ?_; (case hd => rfl); (case hg => rfl); (case hr => first | (go_simp; done) | (go_simp; rfl))
             intro ab hg w13 hbox hb
             have n0_ := aM (Kd.R_below (by have X_ := ay.out; exact TR) hb)
             have n1_ := aM (Kd.S_below (by have X_ := av.out; exact TS) hb)
             have n2_ := aM (blk_below (g := aa) (o := .cells #[.slice am aj.length al, .slice ao ak.length ap, .int .i64 af, .int .i64 ag, .int .i64 ah, .slice aq ai.length an] 33 (0, 0)) TK hb)
             have n3_ := aM (blk_below (g := gb543) (o := .cells #[.slice none 0 0, .slice none 0 0, .int .i64 0, .int .i64 0, .int .i64 0, .slice none 0 0] 33 (0, 0)) TK hb)
             have n4_ := aM (below_step TB hb)
             have n5_ := aM (hbox)
             have n6_ := aM ((by rw [hg]; exact (below_size TB) : w.heap.size ≤ ab))
             have n7_ := aM ((by rw [hg]; exact (below_size TB) : w.heap.size ≤ ab))
             have n8_ := aM ((by rw [hg]; exact Nat.ne_of_lt (blk_lt (g := aa) (o := .cells #[.slice am aj.length al, .slice ao ak.length ap, .int .i64 af, .int .i64 ag, .int .i64 ah, .slice aq ai.length an] 33 (0, 0)) TK) : aa ≠ ab))
             have n9_ := aM ((by rw [hg]; exact Nat.ne_of_gt (blk_lt (g := aa) (o := .cells #[.slice am aj.length al, .slice ao ak.length ap, .int .i64 af, .int .i64 ag, .int .i64 ah, .slice aq ai.length an] 33 (0, 0)) TK) : ab ≠ aa))
             have aX := aM ((by rw [hg]; exact Nat.ne_of_lt (blk_lt (g := gb543) (o := .cells #[.slice none 0 0, .slice none 0 0, .int .i64 0, .int .i64 0, .int .i64 0, .slice none 0 0] 33 (0, 0)) TK) : gb543 ≠ ab))
             have bf := aM ((by rw [hg]; exact Nat.ne_of_gt (blk_lt (g := gb543) (o := .cells #[.slice none 0 0, .slice none 0 0, .int .i64 0, .int .i64 0, .int .i64 0, .slice none 0 0] 33 (0, 0)) TK) : ab ≠ gb543))
             clear ay
             clear av
             clear ac
             clear ae
             clear HB
             have ay := n0_
             have av := n1_
             have ac := n2_
             have ae := n3_
             have HB := n4_
             have aA := n5_
             have aE := n6_
             have aG := n7_
             have ad := n8_
             have ax := n9_
             have au := aX
             have aw := bf
             clear n0_ n1_ n2_ n3_ n4_ n5_ n6_ n7_ n8_ n9_ aX bf
             clear hb hbox hg
             refine hK.out _ _ (cz6 ac.out) (fun hHeld => ?_)
             clear hK K
             refine nR ?_
             exact spec_l9Copy.nM (bD (aD, aH, aI, ab) _ ⟨hHeld, (by have X_ := ay.out; exact TR), (by have X_ := av.out; exact TS), TK, TK, TK, aE.out, aG.out, ad.out, ax.out, au.out, aw.out, TB⟩)
          ·skip
           rintro ⟨aD, aH, aC⟩ w12 ⟨hS_, h0_, h1_, h2_, h3_, h4_⟩
           clear ac ae HB
           have ay : Aside0 (Kd.R (Kd.int .u8) 5 w12 w.heap.size (fun k_ => some k_ ≠ (aC : Value).ownBlock) aH aJ) := ⟨h0_⟩
           have ar : Aside0 (Kd.R (Kd.int .u8) 5 w12 w.heap.size (fun k_ => some k_ ≠ (aH : Value).ownBlock) aC be) := ⟨h1_⟩
           have ac : Aside0 (w12.heap[aa]? = some (.cells #[.slice am aj.length al, .slice ao ak.length ap, .int .i64 af, .int .i64 ag, .int .i64 ah, .slice aq ai.length an] 33 (0, 0))) := ⟨h2_⟩
           have ae : Aside0 (w12.heap[gb543]? = some (.cells #[.slice none 0 0, .slice none 0 0, .int .i64 0, .int .i64 0, .int .i64 0, .slice none 0 0] 33 (0, 0))) := ⟨h3_⟩
           have HB : Aside0 (Below w.heap.size w w12) := ⟨h4_⟩
           clear h0_ h1_ h2_ h3_ h4_
           have hHeld : w12.cell? ⟨aa, 0, none⟩ = some (.slice am aj.length al) ∧ w12.cell? ⟨aa, 1, none⟩ = some (.slice ao ak.length ap) ∧ w12.cell? ⟨aa, 2, none⟩ = some (.int .i64 af) ∧ w12.cell? ⟨aa, 3, none⟩ = some (.int .i64 ag) ∧ w12.cell? ⟨aa, 4, none⟩ = some (.int .i64 ah) ∧ w12.cell? ⟨aa, 5, none⟩ = some (.slice aq ai.length an) := hS_
           refine norm_ (a' := ?_) ?_ ?_
           rotate_left
           ·simp only [putAll, Act.put, List.setIfInBounds_toArray, List.set_cons_zero, List.set_cons_succ]
            rfl
           refine three_ (i := 7) (j := 10) (k := 12) (Ni := some 13) (Nj := some 16) (Nk := some 3) #[true, true, true, true, true, true, true, true, true, true, false, false, false, false] #[true, true, true, true, true, true, true, false, true, true, true, false, false, false] #[true, true, true, true, true, true, true, false, true, true, false, false, true, false] rfl rfl rfl rfl rfl rfl (three_of HT_.out (by kernel_rfl)) (by decide) (by decide) (by decide) (fun K hK => ?_) (fun K hK => ?_) (fun K hK => ?_)
           ·skip
            refine Kd.R_append_rows_step (Kd.int .u8) (w0 := w) w.heap.size (by rfl) (.tmp 10) (.tmp 12) 22 5 (.int .u8 0) 1 rfl Try.underlying22 info5 rfl (by decide) (by omega) aC be ak _ _ _ (fun k_ => some k_ ≠ (aH : Value).ownBlock) (fun _ => False) rfl rfl ?aO ?aR (fun _ _ h => h) (fun _ h => h.elim) ?aF ?aB ?aS ?aL ?_
            (case aR => repeat (first | exact (Kd.C_below b5.out HB.out) | (with_reducible refine Kd.C_alloc ?_ _) | (with_reducible refine Kd.C_drewN ?_ _) | (with_reducible refine Kd.C_drew ?_)))
            (case aB => exact TB)
            (case aF => exact (fun k_ hk => Kd.fresh' (Kd.R_lt (by have X_ := ay.out; exact TR)) k_ hk))
            (case aO => exact (by have X_ := ar.out; exact TR))
            (case aS => exact (below_size TB))
            (case aL => have := cj.out; omega)
            intro bn w13 ho hb hg hat
            rw [← b4.out] at ho
            have n0_ := aM (blk_grown (g := aa) (o := .cells #[.slice am aj.length al, .slice ao ak.length ap, .int .i64 af, .int .i64 ag, .int .i64 ah, .slice aq ai.length an] 33 (0, 0)) TK hg (Kd.R_ne ar.out ac.out (by decide)))
            have n1_ := aM (blk_grown (g := gb543) (o := .cells #[.slice none 0 0, .slice none 0 0, .int .i64 0, .int .i64 0, .int .i64 0, .slice none 0 0] 33 (0, 0)) TK hg (Kd.R_ne ar.out ae.out (by decide)))
            have n2_ := aM (Kd.R_after (ok := (fun _ => True)) (by (with_reducible repeat (first | apply Kd.R_alloc | apply Kd.R_drewN | apply Kd.R_drew)); exact Kd.R_mono ay.out (fun _ hk => ⟨trivial, hk⟩)) hg hat)
            have n3_ := aM (hb)
            have n4_ := aM (ho)
            clear ac
            clear ae
            clear ay
            clear HB
            clear ar
            have ac := n0_
            have ae := n1_
            have ay := n2_
            have HB := n3_
            have aQ := n4_
            clear n0_ n1_ n2_ n3_ n4_
            clear ho hb hg hat
            refine hK.out _ _ (cz6 ac.out) (fun hHeld => ?_)
            clear hK K
            refine nR ?_
            exact spec_l9Copy.nM (cw (aD, aH, aC, bn) _ ⟨hHeld, (by (with_reducible repeat (first | apply Kd.R_alloc | apply Kd.R_drewN | apply Kd.R_drew)); exact Kd.R_mono ay.out (fun _ hk => hk.2)), (by have X_ := aQ.out; exact TR), TK, TK, TB⟩)
           ·skip
            refine Kd.S_lit_step k55 _ 55 ?hg (N := 16) ?hd (xs := ([] : List (S55))) (inner := []) (ok := fun _ => True) (okp := fun _ => True) ?hr ?hp (fun _ hk => hk) trivial (Below.refl _ _) (Nat.le_refl _) (by simp) ?_; (case hd => rfl); (case hg => rfl); (case hr => first | (go_simp; done) | (go_simp; rfl)); (case hp => exact (Reps.none _ _))
            intro aI w13 aZ hb hg_ hnew_
            clear hg_ hnew_
            (first | rw [← aY.out] at aZ | (simp only [Int.reduceToNat] at aZ; rw [← aY.out] at aZ))
            have n0_ := aM (Kd.R_below (by have X_ := ay.out; exact TR) hb)
            have n1_ := aM (Kd.R_below (by have X_ := ar.out; exact TR) hb)
            have n2_ := aM (Kd.S_lower (Kd.S_new' (Kd.S_new' aZ (Kd.R_lt (by have X_ := ay.out; exact TR))) (Kd.R_lt (by have X_ := ar.out; exact TR))) (below_size TB))
            have n3_ := aM (blk_below (g := aa) (o := .cells #[.slice am aj.length al, .slice ao ak.length ap, .int .i64 af, .int .i64 ag, .int .i64 ah, .slice aq ai.length an] 33 (0, 0)) TK hb)
            have n4_ := aM (blk_below (g := gb543) (o := .cells #[.slice none 0 0, .slice none 0 0, .int .i64 0, .int .i64 0, .int .i64 0, .slice none 0 0] 33 (0, 0)) TK hb)
            have n5_ := aM (below_step TB hb)
            clear ay
            clear ar
            clear ac
            clear ae
            clear HB
            have ay := n0_
            have ar := n1_
            have av := n2_
            have ac := n3_
            have ae := n4_
            have HB := n5_
            clear n0_ n1_ n2_ n3_ n4_ n5_
            clear hb aZ
            refine hK.out _ _ (cz6 ac.out) (fun hHeld => ?_)
            clear hK K
            refine nR ?_
            exact spec_l9Copy.nM (bF (aD, aH, aC, aI) _ ⟨hHeld, (by have X_ := ay.out; exact TR), (by have X_ := ar.out; exact TR), (by (with_reducible repeat (first | apply Kd.S_alloc | apply Kd.S_drewN | apply Kd.S_drew)); exact Kd.S_mono av.out (fun _ hk => ⟨hk.1.2, hk.2⟩)), TK, TK, TB⟩)
           ·skip
            refine box_step ?hg (N := 3) ?hd (cs := #[.slice none 0 0, .slice none 0 0, .int .i64 0, .int .i64 0, .int .i64 0, .slice none 0 0]) (t := 33) ?hr ?_; (case hd => rfl); (case hg => rfl); (case hr => first | (go_simp; done) | (go_simp; rfl))
            intro ab hg w13 hbox hb
            have n0_ := aM (Kd.R_below (by have X_ := ay.out; exact TR) hb)
            have n1_ := aM (Kd.R_below (by have X_ := ar.out; exact TR) hb)
            have n2_ := aM (blk_below (g := aa) (o := .cells #[.slice am aj.length al, .slice ao ak.length ap, .int .i64 af, .int .i64 ag, .int .i64 ah, .slice aq ai.length an] 33 (0, 0)) TK hb)
            have n3_ := aM (blk_below (g := gb543) (o := .cells #[.slice none 0 0, .slice none 0 0, .int .i64 0, .int .i64 0, .int .i64 0, .slice none 0 0] 33 (0, 0)) TK hb)
            have n4_ := aM (below_step TB hb)
            have n5_ := aM (hbox)
            have n6_ := aM ((by rw [hg]; exact (below_size TB) : w.heap.size ≤ ab))
            have n7_ := aM ((by rw [hg]; exact (below_size TB) : w.heap.size ≤ ab))
            have n8_ := aM ((by rw [hg]; exact Nat.ne_of_lt (blk_lt (g := aa) (o := .cells #[.slice am aj.length al, .slice ao ak.length ap, .int .i64 af, .int .i64 ag, .int .i64 ah, .slice aq ai.length an] 33 (0, 0)) TK) : aa ≠ ab))
            have n9_ := aM ((by rw [hg]; exact Nat.ne_of_gt (blk_lt (g := aa) (o := .cells #[.slice am aj.length al, .slice ao ak.length ap, .int .i64 af, .int .i64 ag, .int .i64 ah, .slice aq ai.length an] 33 (0, 0)) TK) : ab ≠ aa))
            have aX := aM ((by rw [hg]; exact Nat.ne_of_lt (blk_lt (g := gb543) (o := .cells #[.slice none 0 0, .slice none 0 0, .int .i64 0, .int .i64 0, .int .i64 0, .slice none 0 0] 33 (0, 0)) TK) : gb543 ≠ ab))
            have bf := aM ((by rw [hg]; exact Nat.ne_of_gt (blk_lt (g := gb543) (o := .cells #[.slice none 0 0, .slice none 0 0, .int .i64 0, .int .i64 0, .int .i64 0, .slice none 0 0] 33 (0, 0)) TK) : ab ≠ gb543))
            clear ay
            clear ar
            clear ac
            clear ae
            clear HB
            have ay := n0_
            have ar := n1_
            have ac := n2_
            have ae := n3_
            have HB := n4_
            have aA := n5_
            have aE := n6_
            have aG := n7_
            have ad := n8_
            have ax := n9_
            have au := aX
            have aw := bf
            clear n0_ n1_ n2_ n3_ n4_ n5_ n6_ n7_ n8_ n9_ aX bf
            clear hb hbox hg
            refine hK.out _ _ (cz6 ac.out) (fun hHeld => ?_)
            clear hK K
            refine nR ?_
            exact spec_l9Copy.nM (bG (aD, aH, aC, ab) _ ⟨hHeld, (by have X_ := ay.out; exact TR), (by have X_ := ar.out; exact TR), TK, TK, TK, aE.out, aG.out, ad.out, ax.out, au.out, aw.out, TB⟩)
         ·skip
          rintro ⟨aD, aC, aI, ab⟩ w14 ⟨hS_, h0_, h1_, h2_, h3_, h4_, h5_, h6_, h7_, h8_, h9_, aW, bg, bJ⟩
          clear ac ae HB
          have az : Aside0 (Kd.R (Kd.int .u8) 5 w14 w.heap.size (fun k_ => some k_ ≠ (aC : Value).ownBlock) aD bi) := ⟨h0_⟩
          have ar : Aside0 (Kd.R (Kd.int .u8) 5 w14 w.heap.size (fun k_ => some k_ ≠ (aD : Value).ownBlock) aC be) := ⟨h1_⟩
          have av : Aside0 (Kd.S k55 55 w14 w.heap.size (fun k_ => some k_ ≠ (aD : Value).ownBlock ∧ some k_ ≠ (aC : Value).ownBlock) aI aV) := ⟨h2_⟩
          have ac : Aside0 (w14.heap[aa]? = some (.cells #[.slice am aj.length al, .slice ao ak.length ap, .int .i64 af, .int .i64 ag, .int .i64 ah, .slice aq ai.length an] 33 (0, 0))) := ⟨h3_⟩
          have ae : Aside0 (w14.heap[gb543]? = some (.cells #[.slice none 0 0, .slice none 0 0, .int .i64 0, .int .i64 0, .int .i64 0, .slice none 0 0] 33 (0, 0))) := ⟨h4_⟩
          have aA : Aside0 (w14.heap[ab]? = some (.cells #[.slice none 0 0, .slice none 0 0, .int .i64 0, .int .i64 0, .int .i64 0, .slice none 0 0] 33 (0, 0))) := ⟨h5_⟩
          have aE : Aside0 (w.heap.size ≤ ab) := ⟨h6_⟩
          have aG : Aside0 (w.heap.size ≤ ab) := ⟨h7_⟩
          have ad : Aside0 (aa ≠ ab) := ⟨h8_⟩
          have ax : Aside0 (ab ≠ aa) := ⟨h9_⟩
          have au : Aside0 (gb543 ≠ ab) := ⟨aW⟩
          have aw : Aside0 (ab ≠ gb543) := ⟨bg⟩
          have HB : Aside0 (Below w.heap.size w w14) := ⟨bJ⟩
          clear h0_ h1_ h2_ h3_ h4_ h5_ h6_ h7_ h8_ h9_ aW bg bJ
          have hHeld : w14.cell? ⟨aa, 0, none⟩ = some (.slice am aj.length al) ∧ w14.cell? ⟨aa, 1, none⟩ = some (.slice ao ak.length ap) ∧ w14.cell? ⟨aa, 2, none⟩ = some (.int .i64 af) ∧ w14.cell? ⟨aa, 3, none⟩ = some (.int .i64 ag) ∧ w14.cell? ⟨aa, 4, none⟩ = some (.int .i64 ah) ∧ w14.cell? ⟨aa, 5, none⟩ = some (.slice aq ai.length an) := hS_
          refine norm_ (a' := ?_) ?_ ?_
          rotate_left
          ·simp only [putAll, Act.put, List.setIfInBounds_toArray, List.set_cons_zero, List.set_cons_succ]
           rfl
          refine pOe 3 (some 9) #[true, true, true, true, true, true, true, false, true, true, true, false, true, false] (fun K hK => ?_)
          refine Kd.R_append_rows_step (Kd.int .u8) (w0 := w) w.heap.size (by rfl) (.tmp 6) (.tmp 8) 22 5 (.int .u8 0) 1 rfl Try.underlying22 info5 rfl (by decide) (by omega) aD bi aj _ _ _ (fun k_ => some k_ ≠ (aC : Value).ownBlock) (fun _ => False) rfl rfl ?aO ?aR (fun _ _ h => h) (fun _ h => h.elim) ?aF ?aB ?aS ?aL ?_
          (case aR => repeat (first | exact (Kd.C_below bC.out HB.out) | (with_reducible refine Kd.C_alloc ?_ _) | (with_reducible refine Kd.C_drewN ?_ _) | (with_reducible refine Kd.C_drew ?_)))
          (case aB => exact TB)
          (case aF => exact (fun k_ hk => Kd.fresh' (Kd.R_lt (by have X_ := ar.out; exact TR)) k_ hk))
          (case aO => exact (by have X_ := az.out; exact TR))
          (case aS => exact (below_size TB))
          (case aL => have := bM.out; omega)
          intro aH w15 ho hb hg hat
          rw [← bB.out] at ho
          have n0_ := aM (blk_grown (g := aa) (o := .cells #[.slice am aj.length al, .slice ao ak.length ap, .int .i64 af, .int .i64 ag, .int .i64 ah, .slice aq ai.length an] 33 (0, 0)) TK hg (Kd.R_ne az.out ac.out (by decide)))
          have n1_ := aM (blk_grown (g := gb543) (o := .cells #[.slice none 0 0, .slice none 0 0, .int .i64 0, .int .i64 0, .int .i64 0, .slice none 0 0] 33 (0, 0)) TK hg (Kd.R_ne az.out ae.out (by decide)))
          have n2_ := aM (Kd.R_after (ok := (fun _ => True)) (by (with_reducible repeat (first | apply Kd.R_alloc | apply Kd.R_drewN | apply Kd.R_drew)); exact Kd.R_mono ar.out (fun _ hk => ⟨trivial, hk⟩)) hg hat)
          have n3_ := aM (Kd.S_after (ok := (fun k_ => some k_ ≠ (aC : Value).ownBlock)) (by (with_reducible repeat (first | apply Kd.S_alloc | apply Kd.S_drewN | apply Kd.S_drew)); exact Kd.S_mono av.out (fun _ hk => ⟨hk.2, hk.1⟩)) hg hat)
          have n4_ := aM (blk_grown (g := ab) (o := .cells #[.slice none 0 0, .slice none 0 0, .int .i64 0, .int .i64 0, .int .i64 0, .slice none 0 0] 33 (0, 0)) TK hg (Kd.R_ne az.out aA.out (by decide)))
          have n5_ := aM (hb)
          have n6_ := aM (ho)
          clear ac
          clear ae
          clear ar
          clear av
          clear aA
          clear HB
          clear az
          have ac := n0_
          have ae := n1_
          have ar := n2_
          have av := n3_
          have aA := n4_
          have HB := n5_
          have ay := n6_
          clear n0_ n1_ n2_ n3_ n4_ n5_ n6_
          clear ho hb hg hat
          refine hK.out _ _ (cz6 ac.out) (fun hHeld => ?_)
          clear hK K
          refine nR ?_
          exact spec_l9Copy.nM (bs (aD, aH, aC, aI, ab) _ ⟨hHeld, (by have X_ := ay.out; exact TR), (by (with_reducible repeat (first | apply Kd.R_alloc | apply Kd.R_drewN | apply Kd.R_drew)); exact Kd.R_mono ar.out (fun _ hk => hk.2)), (by (with_reducible repeat (first | apply Kd.S_alloc | apply Kd.S_drewN | apply Kd.S_drew)); exact Kd.S_mono av.out (fun _ hk => ⟨hk.2, hk.1⟩)), TK, TK, TK, aE.out, aG.out, ad.out, ax.out, au.out, aw.out, TB⟩)
        ·skip
         rintro ⟨aD, aH, aI, ab⟩ w13 ⟨hS_, h0_, h1_, h2_, h3_, h4_, h5_, h6_, h7_, h8_, h9_, aW, bg⟩
         clear ac ae HB
         have ay : Aside0 (Kd.R (Kd.int .u8) 5 w13 w.heap.size (fun _ => True) aH aJ) := ⟨h0_⟩
         have av : Aside0 (Kd.S k55 55 w13 w.heap.size (fun k_ => some k_ ≠ (aH : Value).ownBlock) aI aV) := ⟨h1_⟩
         have ac : Aside0 (w13.heap[aa]? = some (.cells #[.slice am aj.length al, .slice ao ak.length ap, .int .i64 af, .int .i64 ag, .int .i64 ah, .slice aq ai.length an] 33 (0, 0))) := ⟨h2_⟩
         have ae : Aside0 (w13.heap[gb543]? = some (.cells #[.slice none 0 0, .slice none 0 0, .int .i64 0, .int .i64 0, .int .i64 0, .slice none 0 0] 33 (0, 0))) := ⟨h3_⟩
         have aA : Aside0 (w13.heap[ab]? = some (.cells #[.slice none 0 0, .slice none 0 0, .int .i64 0, .int .i64 0, .int .i64 0, .slice none 0 0] 33 (0, 0))) := ⟨h4_⟩
         have aE : Aside0 (w.heap.size ≤ ab) := ⟨h5_⟩
         have aG : Aside0 (w.heap.size ≤ ab) := ⟨h6_⟩
         have ad : Aside0 (aa ≠ ab) := ⟨h7_⟩
         have ax : Aside0 (ab ≠ aa) := ⟨h8_⟩
         have au : Aside0 (gb543 ≠ ab) := ⟨h9_⟩
         have aw : Aside0 (ab ≠ gb543) := ⟨aW⟩
         have HB : Aside0 (Below w.heap.size w w13) := ⟨bg⟩
         clear h0_ h1_ h2_ h3_ h4_ h5_ h6_ h7_ h8_ h9_ aW bg
         have hHeld : w13.cell? ⟨aa, 0, none⟩ = some (.slice am aj.length al) ∧ w13.cell? ⟨aa, 1, none⟩ = some (.slice ao ak.length ap) ∧ w13.cell? ⟨aa, 2, none⟩ = some (.int .i64 af) ∧ w13.cell? ⟨aa, 3, none⟩ = some (.int .i64 ag) ∧ w13.cell? ⟨aa, 4, none⟩ = some (.int .i64 ah) ∧ w13.cell? ⟨aa, 5, none⟩ = some (.slice aq ai.length an) := hS_
         refine norm_ (a' := ?_) ?_ ?_
         rotate_left
         ·simp only [putAll, Act.put, List.setIfInBounds_toArray, List.set_cons_zero, List.set_cons_succ]
          rfl
         refine pOe 4 (some 10) #[true, true, true, true, true, true, true, false, true, true, true, false, true, false] (fun K hK => ?_)
         refine Kd.R_lit_step (Kd.int .u8) _ 5 ?hg (N := 10) ?hd (xs := ([] : List Int)) (inner := []) (ok := fun _ => True) (okp := fun _ => True) ?hr ?hp (fun _ hk => hk) trivial (Below.refl _ _) (Nat.le_refl _) (by simp) ?_; (case hd => rfl); (case hg => rfl); (case hr => first | (go_simp; done) | (go_simp; rfl)); (case hp => exact (Reps.none _ _))
         intro aC w14 bo hb hg_ hnew_
         clear hg_ hnew_
         (first | rw [← bd.out] at bo | (simp only [Int.reduceToNat] at bo; rw [← bd.out] at bo))
         have n0_ := aM (Kd.R_elder' (by have X_ := ay.out; exact TR) (Kd.R_base bo) hb)
         have n1_ := aM (Kd.S_elder' (by have X_ := av.out; exact TS) (Kd.R_base bo) hb)
         have n2_ := aM (Kd.R_lower (Kd.R_new' bo (Kd.R_lt (by have X_ := ay.out; exact TR))) (below_size TB))
         have n3_ := aM (blk_below (g := aa) (o := .cells #[.slice am aj.length al, .slice ao ak.length ap, .int .i64 af, .int .i64 ag, .int .i64 ah, .slice aq ai.length an] 33 (0, 0)) TK hb)
         have n4_ := aM (blk_below (g := gb543) (o := .cells #[.slice none 0 0, .slice none 0 0, .int .i64 0, .int .i64 0, .int .i64 0, .slice none 0 0] 33 (0, 0)) TK hb)
         have n5_ := aM (blk_below (g := ab) (o := .cells #[.slice none 0 0, .slice none 0 0, .int .i64 0, .int .i64 0, .int .i64 0, .slice none 0 0] 33 (0, 0)) TK hb)
         have n6_ := aM (below_step TB hb)
         clear ay
         clear av
         clear ac
         clear ae
         clear aA
         clear HB
         have ay := n0_
         have av := n1_
         have ar := n2_
         have ac := n3_
         have ae := n4_
         have aA := n5_
         have HB := n6_
         clear n0_ n1_ n2_ n3_ n4_ n5_ n6_
         clear hb bo
         refine hK.out _ _ (cz6 ac.out) (fun hHeld => ?_)
         clear hK K
         refine nR ?_
         exact spec_l9Copy.nM (bs (aD, aH, aC, aI, ab) _ ⟨hHeld, (by (with_reducible repeat (first | apply Kd.R_alloc | apply Kd.R_drewN | apply Kd.R_drew)); exact Kd.R_mono ay.out (fun _ hk => hk.2)), (by (with_reducible repeat (first | apply Kd.R_alloc | apply Kd.R_drewN | apply Kd.R_drew)); exact Kd.R_mono ar.out (fun _ hk => hk.2)), (by have X_ := av.out; exact TS), TK, TK, TK, aE.out, aG.out, ad.out, ax.out, au.out, aw.out, TB⟩)
       ·skip
        rintro ⟨aD, aH, aC, ab⟩ w13 ⟨hS_, h0_, h1_, h2_, h3_, h4_, h5_, h6_, h7_, h8_, h9_, aW, bg⟩
        clear ac ae HB
        have ay : Aside0 (Kd.R (Kd.int .u8) 5 w13 w.heap.size (fun k_ => some k_ ≠ (aC : Value).ownBlock) aH aJ) := ⟨h0_⟩
        have ar : Aside0 (Kd.R (Kd.int .u8) 5 w13 w.heap.size (fun k_ => some k_ ≠ (aH : Value).ownBlock) aC be) := ⟨h1_⟩
        have ac : Aside0 (w13.heap[aa]? = some (.cells #[.slice am aj.length al, .slice ao ak.length ap, .int .i64 af, .int .i64 ag, .int .i64 ah, .slice aq ai.length an] 33 (0, 0))) := ⟨h2_⟩
        have ae : Aside0 (w13.heap[gb543]? = some (.cells #[.slice none 0 0, .slice none 0 0, .int .i64 0, .int .i64 0, .int .i64 0, .slice none 0 0] 33 (0, 0))) := ⟨h3_⟩
        have aA : Aside0 (w13.heap[ab]? = some (.cells #[.slice none 0 0, .slice none 0 0, .int .i64 0, .int .i64 0, .int .i64 0, .slice none 0 0] 33 (0, 0))) := ⟨h4_⟩
        have aE : Aside0 (w.heap.size ≤ ab) := ⟨h5_⟩
        have aG : Aside0 (w.heap.size ≤ ab) := ⟨h6_⟩
        have ad : Aside0 (aa ≠ ab) := ⟨h7_⟩
        have ax : Aside0 (ab ≠ aa) := ⟨h8_⟩
        have au : Aside0 (gb543 ≠ ab) := ⟨h9_⟩
        have aw : Aside0 (ab ≠ gb543) := ⟨aW⟩
        have HB : Aside0 (Below w.heap.size w w13) := ⟨bg⟩
        clear h0_ h1_ h2_ h3_ h4_ h5_ h6_ h7_ h8_ h9_ aW bg
        have hHeld : w13.cell? ⟨aa, 0, none⟩ = some (.slice am aj.length al) ∧ w13.cell? ⟨aa, 1, none⟩ = some (.slice ao ak.length ap) ∧ w13.cell? ⟨aa, 2, none⟩ = some (.int .i64 af) ∧ w13.cell? ⟨aa, 3, none⟩ = some (.int .i64 ag) ∧ w13.cell? ⟨aa, 4, none⟩ = some (.int .i64 ah) ∧ w13.cell? ⟨aa, 5, none⟩ = some (.slice aq ai.length an) := hS_
        refine norm_ (a' := ?_) ?_ ?_
        rotate_left
        ·simp only [putAll, Act.put, List.setIfInBounds_toArray, List.set_cons_zero, List.set_cons_succ]
         rfl
        refine two_ (i := 7) (j := 10) (Ni := some 13) (Nj := some 16) #[true, true, true, true, true, true, true, true, true, true, false, false, true, false] #[true, true, true, true, true, true, true, false, true, true, true, false, true, false] rfl rfl rfl rfl (two_of HT_.out (by kernel_rfl)) (by decide) (by decide) (fun K hK => ?_) (fun K hK => ?_)
        ·skip
         refine Kd.R_append_rows_step (Kd.int .u8) (w0 := w) w.heap.size (by rfl) (.tmp 10) (.tmp 12) 22 5 (.int .u8 0) 1 rfl Try.underlying22 info5 rfl (by decide) (by omega) aC be ak _ _ _ (fun k_ => some k_ ≠ (aH : Value).ownBlock) (fun _ => False) rfl rfl ?aO ?aR (fun _ _ h => h) (fun _ h => h.elim) ?aF ?aB ?aS ?aL ?_
         (case aR => repeat (first | exact (Kd.C_below b5.out HB.out) | (with_reducible refine Kd.C_alloc ?_ _) | (with_reducible refine Kd.C_drewN ?_ _) | (with_reducible refine Kd.C_drew ?_)))
         (case aB => exact TB)
         (case aF => exact (fun k_ hk => Kd.fresh' (Kd.R_lt (by have X_ := ay.out; exact TR)) k_ hk))
         (case aO => exact (by have X_ := ar.out; exact TR))
         (case aS => exact (below_size TB))
         (case aL => have := cj.out; omega)
         intro bn w14 ho hb hg hat
         rw [← b4.out] at ho
         have n0_ := aM (blk_grown (g := aa) (o := .cells #[.slice am aj.length al, .slice ao ak.length ap, .int .i64 af, .int .i64 ag, .int .i64 ah, .slice aq ai.length an] 33 (0, 0)) TK hg (Kd.R_ne ar.out ac.out (by decide)))
         have n1_ := aM (blk_grown (g := gb543) (o := .cells #[.slice none 0 0, .slice none 0 0, .int .i64 0, .int .i64 0, .int .i64 0, .slice none 0 0] 33 (0, 0)) TK hg (Kd.R_ne ar.out ae.out (by decide)))
         have n2_ := aM (Kd.R_after (ok := (fun _ => True)) (by (with_reducible repeat (first | apply Kd.R_alloc | apply Kd.R_drewN | apply Kd.R_drew)); exact Kd.R_mono ay.out (fun _ hk => ⟨trivial, hk⟩)) hg hat)
         have n3_ := aM (blk_grown (g := ab) (o := .cells #[.slice none 0 0, .slice none 0 0, .int .i64 0, .int .i64 0, .int .i64 0, .slice none 0 0] 33 (0, 0)) TK hg (Kd.R_ne ar.out aA.out (by decide)))
         have n4_ := aM (hb)
         have n5_ := aM (ho)
         clear ac
         clear ae
         clear ay
         clear aA
         clear HB
         clear ar
         have ac := n0_
         have ae := n1_
         have ay := n2_
         have aA := n3_
         have HB := n4_
         have aQ := n5_
         clear n0_ n1_ n2_ n3_ n4_ n5_
         clear ho hb hg hat
         refine hK.out _ _ (cz6 ac.out) (fun hHeld => ?_)
         clear hK K
         refine nR ?_
         exact spec_l9Copy.nM (bL (aD, aH, aC, bn, ab) _ ⟨hHeld, (by (with_reducible repeat (first | apply Kd.R_alloc | apply Kd.R_drewN | apply Kd.R_drew)); exact Kd.R_mono ay.out (fun _ hk => hk.2)), (by have X_ := aQ.out; exact TR), TK, TK, TK, aE.out, aG.out, ad.out, ax.out, au.out, aw.out, TB⟩)
        ·skip
         refine Kd.S_lit_step k55 _ 55 ?hg (N := 16) ?hd (xs := ([] : List (S55))) (inner := []) (ok := fun _ => True) (okp := fun _ => True) ?hr ?hp (fun _ hk => hk) trivial (Below.refl _ _) (Nat.le_refl _) (by simp) ?_; (case hd => rfl); (case hg => rfl); (case hr => first | (go_simp; done) | (go_simp; rfl)); (case hp => exact (Reps.none _ _))
         intro aI w14 bo hb hg_ hnew_
         clear hg_ hnew_
         (first | rw [← aY.out] at bo | (simp only [Int.reduceToNat] at bo; rw [← aY.out] at bo))
         have n0_ := aM (Kd.R_below (by have X_ := ay.out; exact TR) hb)
         have n1_ := aM (Kd.R_below (by have X_ := ar.out; exact TR) hb)
         have n2_ := aM (Kd.S_lower (Kd.S_new' (Kd.S_new' bo (Kd.R_lt (by have X_ := ay.out; exact TR))) (Kd.R_lt (by have X_ := ar.out; exact TR))) (below_size TB))
         have n3_ := aM (blk_below (g := aa) (o := .cells #[.slice am aj.length al, .slice ao ak.length ap, .int .i64 af, .int .i64 ag, .int .i64 ah, .slice aq ai.length an] 33 (0, 0)) TK hb)
         have n4_ := aM (blk_below (g := gb543) (o := .cells #[.slice none 0 0, .slice none 0 0, .int .i64 0, .int .i64 0, .int .i64 0, .slice none 0 0] 33 (0, 0)) TK hb)
         have n5_ := aM (blk_below (g := ab) (o := .cells #[.slice none 0 0, .slice none 0 0, .int .i64 0, .int .i64 0, .int .i64 0, .slice none 0 0] 33 (0, 0)) TK hb)
         have n6_ := aM (below_step TB hb)
         clear ay
         clear ar
         clear ac
         clear ae
         clear aA
         clear HB
         have ay := n0_
         have ar := n1_
         have av := n2_
         have ac := n3_
         have ae := n4_
         have aA := n5_
         have HB := n6_
         clear n0_ n1_ n2_ n3_ n4_ n5_ n6_
         clear hb bo
         refine hK.out _ _ (cz6 ac.out) (fun hHeld => ?_)
         clear hK K
         refine nR ?_
         exact spec_l9Copy.nM (bs (aD, aH, aC, aI, ab) _ ⟨hHeld, (by have X_ := ay.out; exact TR), (by have X_ := ar.out; exact TR), (by (with_reducible repeat (first | apply Kd.S_alloc | apply Kd.S_drewN | apply Kd.S_drew)); exact Kd.S_mono av.out (fun _ hk => ⟨hk.1.2, hk.2⟩)), TK, TK, TK, aE.out, aG.out, ad.out, ax.out, au.out, aw.out, TB⟩)
      ·skip
       rintro ⟨aD, aH, aC, aI⟩ w14 ⟨hS_, h0_, h1_, h2_, h3_, h4_, h5_⟩
       clear ac ae HB
       have ay : Aside0 (Kd.R (Kd.int .u8) 5 w14 w.heap.size (fun k_ => some k_ ≠ (aC : Value).ownBlock) aH aJ) := ⟨h0_⟩
       have ar : Aside0 (Kd.R (Kd.int .u8) 5 w14 w.heap.size (fun k_ => some k_ ≠ (aH : Value).ownBlock) aC be) := ⟨h1_⟩
       have av : Aside0 (Kd.S k55 55 w14 w.heap.size (fun k_ => some k_ ≠ (aH : Value).ownBlock ∧ some k_ ≠ (aC : Value).ownBlock) aI aV) := ⟨h2_⟩
       have ac : Aside0 (w14.heap[aa]? = some (.cells #[.slice am aj.length al, .slice ao ak.length ap, .int .i64 af, .int .i64 ag, .int .i64 ah, .slice aq ai.length an] 33 (0, 0))) := ⟨h3_⟩
       have ae : Aside0 (w14.heap[gb543]? = some (.cells #[.slice none 0 0, .slice none 0 0, .int .i64 0, .int .i64 0, .int .i64 0, .slice none 0 0] 33 (0, 0))) := ⟨h4_⟩
       have HB : Aside0 (Below w.heap.size w w14) := ⟨h5_⟩
       clear h0_ h1_ h2_ h3_ h4_ h5_
       have hHeld : w14.cell? ⟨aa, 0, none⟩ = some (.slice am aj.length al) ∧ w14.cell? ⟨aa, 1, none⟩ = some (.slice ao ak.length ap) ∧ w14.cell? ⟨aa, 2, none⟩ = some (.int .i64 af) ∧ w14.cell? ⟨aa, 3, none⟩ = some (.int .i64 ag) ∧ w14.cell? ⟨aa, 4, none⟩ = some (.int .i64 ah) ∧ w14.cell? ⟨aa, 5, none⟩ = some (.slice aq ai.length an) := hS_
       refine norm_ (a' := ?_) ?_ ?_
       rotate_left
       ·simp only [putAll, Act.put, List.setIfInBounds_toArray, List.set_cons_zero, List.set_cons_succ]
        rfl
       refine two_ (i := 7) (j := 12) (Ni := some 13) (Nj := some 3) #[true, true, true, true, true, true, true, true, true, true, true, false, false, false] #[true, true, true, true, true, true, true, false, true, true, true, false, true, false] rfl rfl rfl rfl (two_of HT_.out (by kernel_rfl)) (by decide) (by decide) (fun K hK => ?_) (fun K hK => ?_)
       ·skip
        refine Kd.R_append_rows_step (Kd.int .u8) (w0 := w) w.heap.size (by rfl) (.tmp 10) (.tmp 12) 22 5 (.int .u8 0) 1 rfl Try.underlying22 info5 rfl (by decide) (by omega) aC be ak _ _ _ (fun k_ => some k_ ≠ (aH : Value).ownBlock) (fun _ => False) rfl rfl ?aO ?aR (fun _ _ h => h) (fun _ h => h.elim) ?aF ?aB ?aS ?aL ?_
        (case aR => repeat (first | exact (Kd.C_below b5.out HB.out) | (with_reducible refine Kd.C_alloc ?_ _) | (with_reducible refine Kd.C_drewN ?_ _) | (with_reducible refine Kd.C_drew ?_)))
        (case aB => exact TB)
        (case aF => exact (fun k_ hk => Kd.fresh' (Kd.R_lt (by have X_ := ay.out; exact TR)) k_ hk))
        (case aO => exact (by have X_ := ar.out; exact TR))
        (case aS => exact (below_size TB))
        (case aL => have := cj.out; omega)
        intro bn w15 ho hb hg hat
        rw [← b4.out] at ho
        have n0_ := aM (blk_grown (g := aa) (o := .cells #[.slice am aj.length al, .slice ao ak.length ap, .int .i64 af, .int .i64 ag, .int .i64 ah, .slice aq ai.length an] 33 (0, 0)) TK hg (Kd.R_ne ar.out ac.out (by decide)))
        have n1_ := aM (blk_grown (g := gb543) (o := .cells #[.slice none 0 0, .slice none 0 0, .int .i64 0, .int .i64 0, .int .i64 0, .slice none 0 0] 33 (0, 0)) TK hg (Kd.R_ne ar.out ae.out (by decide)))
        have n2_ := aM (Kd.R_after (ok := (fun _ => True)) (by (with_reducible repeat (first | apply Kd.R_alloc | apply Kd.R_drewN | apply Kd.R_drew)); exact Kd.R_mono ay.out (fun _ hk => ⟨trivial, hk⟩)) hg hat)
        have n3_ := aM (Kd.S_after (ok := (fun k_ => some k_ ≠ (aH : Value).ownBlock)) (by have X_ := av.out; exact TS) hg hat)
        have n4_ := aM (hb)
        have n5_ := aM (ho)
        clear ac
        clear ae
        clear ay
        clear av
        clear HB
        clear ar
        have ac := n0_
        have ae := n1_
        have ay := n2_
        have av := n3_
        have HB := n4_
        have aQ := n5_
        clear n0_ n1_ n2_ n3_ n4_ n5_
        clear ho hb hg hat
        obtain ⟨cy, cB, cc⟩ := Kd.S_slice av.out
        (first | subst cc | (injection cc with f1_ f2_ f3_; have f4_ := f1_.symm; have f5_ := f3_.symm; clear f1_ f2_ f3_; subst f4_; subst f5_))
        obtain ⟨bS, bQ, bz⟩ := Kd.R_slice aQ.out
        (first | subst bz | (injection bz with f1_ f2_ f3_; have f4_ := f1_.symm; have f5_ := f3_.symm; clear f1_ f2_ f3_; subst f4_; subst f5_))
        obtain ⟨bV, bU, bA⟩ := Kd.R_slice ay.out
        (first | subst bA | (injection bA with f1_ f2_ f3_; have f4_ := f1_.symm; have f5_ := f3_.symm; clear f1_ f2_ f3_; subst f4_; subst f5_))
        refine hK.out _ _ (cz6 ac.out) (fun hHeld => ?_)
        clear hK K
        refine nR ?_
        refine pPe 11 (some 17) #[true, true, true, true, true, true, true, true, true, true, true, true, false, false] ?_
        exact spec_l9Copy.nM (bO (aD, .slice bV aJ.length bU, aC, .slice bS aN.length bQ, .slice cy aV.length cB) _ ⟨hHeld, (by (with_reducible repeat (first | apply Kd.R_alloc | apply Kd.R_drewN | apply Kd.R_drew)); exact Kd.R_mono ay.out (fun _ hk => hk.2)), (by have X_ := aQ.out; exact TR), (by have X_ := av.out; exact TS), TK, TK, TB⟩)
       ·skip
        refine box_step ?hg (N := 3) ?hd (cs := #[.slice none 0 0, .slice none 0 0, .int .i64 0, .int .i64 0, .int .i64 0, .slice none 0 0]) (t := 33) ?hr ?_; (case hd => rfl); (case hg => rfl); (case hr => first | (go_simp; done) | (go_simp; rfl))
        intro ab hg w15 hbox hb
        have n0_ := aM (Kd.R_below (by have X_ := ay.out; exact TR) hb)
        have n1_ := aM (Kd.R_below (by have X_ := ar.out; exact TR) hb)
        have n2_ := aM (Kd.S_below (by have X_ := av.out; exact TS) hb)
        have n3_ := aM (blk_below (g := aa) (o := .cells #[.slice am aj.length al, .slice ao ak.length ap, .int .i64 af, .int .i64 ag, .int .i64 ah, .slice aq ai.length an] 33 (0, 0)) TK hb)
        have n4_ := aM (blk_below (g := gb543) (o := .cells #[.slice none 0 0, .slice none 0 0, .int .i64 0, .int .i64 0, .int .i64 0, .slice none 0 0] 33 (0, 0)) TK hb)
        have n5_ := aM (below_step TB hb)
        have n6_ := aM (hbox)
        have n7_ := aM ((by rw [hg]; exact (below_size TB) : w.heap.size ≤ ab))
        have n8_ := aM ((by rw [hg]; exact (below_size TB) : w.heap.size ≤ ab))
        have n9_ := aM ((by rw [hg]; exact Nat.ne_of_lt (blk_lt (g := aa) (o := .cells #[.slice am aj.length al, .slice ao ak.length ap, .int .i64 af, .int .i64 ag, .int .i64 ah, .slice aq ai.length an] 33 (0, 0)) TK) : aa ≠ ab))
        have aX := aM ((by rw [hg]; exact Nat.ne_of_gt (blk_lt (g := aa) (o := .cells #[.slice am aj.length al, .slice ao ak.length ap, .int .i64 af, .int .i64 ag, .int .i64 ah, .slice aq ai.length an] 33 (0, 0)) TK) : ab ≠ aa))
        have bf := aM ((by rw [hg]; exact Nat.ne_of_lt (blk_lt (g := gb543) (o := .cells #[.slice none 0 0, .slice none 0 0, .int .i64 0, .int .i64 0, .int .i64 0, .slice none 0 0] 33 (0, 0)) TK) : gb543 ≠ ab))
        have bN := aM ((by rw [hg]; exact Nat.ne_of_gt (blk_lt (g := gb543) (o := .cells #[.slice none 0 0, .slice none 0 0, .int .i64 0, .int .i64 0, .int .i64 0, .slice none 0 0] 33 (0, 0)) TK) : ab ≠ gb543))
        clear ay
        clear ar
        clear av
        clear ac
        clear ae
        clear HB
        have ay := n0_
        have ar := n1_
        have av := n2_
        have ac := n3_
        have ae := n4_
        have HB := n5_
        have aA := n6_
        have aE := n7_
        have aG := n8_
        have ad := n9_
        have ax := aX
        have au := bf
        have aw := bN
        clear n0_ n1_ n2_ n3_ n4_ n5_ n6_ n7_ n8_ n9_ aX bf bN
        clear hb hbox hg
        refine hK.out _ _ (cz6 ac.out) (fun hHeld => ?_)
        clear hK K
        refine nR ?_
        exact spec_l9Copy.nM (bs (aD, aH, aC, aI, ab) _ ⟨hHeld, (by have X_ := ay.out; exact TR), (by have X_ := ar.out; exact TR), (by have X_ := av.out; exact TS), TK, TK, TK, aE.out, aG.out, ad.out, ax.out, au.out, aw.out, TB⟩)
     ·skip
      rintro ⟨aD, aH, aC, bn⟩ w13 ⟨hS_, h0_, h1_, h2_, h3_, h4_⟩
      clear ac ae HB
      have ay : Aside0 (Kd.R (Kd.int .u8) 5 w13 w.heap.size (fun k_ => some k_ ≠ (bn : Value).ownBlock) aH aJ) := ⟨h0_⟩
      have aQ : Aside0 (Kd.R (Kd.int .u8) 5 w13 w.heap.size (fun k_ => some k_ ≠ (aH : Value).ownBlock) bn aN) := ⟨h1_⟩
      have ac : Aside0 (w13.heap[aa]? = some (.cells #[.slice am aj.length al, .slice ao ak.length ap, .int .i64 af, .int .i64 ag, .int .i64 ah, .slice aq ai.length an] 33 (0, 0))) := ⟨h2_⟩
      have ae : Aside0 (w13.heap[gb543]? = some (.cells #[.slice none 0 0, .slice none 0 0, .int .i64 0, .int .i64 0, .int .i64 0, .slice none 0 0] 33 (0, 0))) := ⟨h3_⟩
      have HB : Aside0 (Below w.heap.size w w13) := ⟨h4_⟩
      clear h0_ h1_ h2_ h3_ h4_
      have hHeld : w13.cell? ⟨aa, 0, none⟩ = some (.slice am aj.length al) ∧ w13.cell? ⟨aa, 1, none⟩ = some (.slice ao ak.length ap) ∧ w13.cell? ⟨aa, 2, none⟩ = some (.int .i64 af) ∧ w13.cell? ⟨aa, 3, none⟩ = some (.int .i64 ag) ∧ w13.cell? ⟨aa, 4, none⟩ = some (.int .i64 ah) ∧ w13.cell? ⟨aa, 5, none⟩ = some (.slice aq ai.length an) := hS_
      refine norm_ (a' := ?_) ?_ ?_
      rotate_left
      ·simp only [putAll, Act.put, List.setIfInBounds_toArray, List.set_cons_zero, List.set_cons_succ]
       rfl
      refine two_ (i := 10) (j := 12) (Ni := some 16) (Nj := some 3) #[true, true, true, true, true, true, true, true, true, true, true, false, false, false] #[true, true, true, true, true, true, true, true, true, true, false, false, true, false] rfl rfl rfl rfl (two_of HT_.out (by kernel_rfl)) (by decide) (by decide) (fun K hK => ?_) (fun K hK => ?_)
      ·skip
       refine Kd.S_lit_step k55 _ 55 ?hg (N := 16) ?hd (xs := ([] : List (S55))) (inner := []) (ok := fun _ => True) (okp := fun _ => True) ?hr ?hp (fun _ hk => hk) trivial (Below.refl _ _) (Nat.le_refl _) (by simp) ?_; (case hd => rfl); (case hg => rfl); (case hr => first | (go_simp; done) | (go_simp; rfl)); (case hp => exact (Reps.none _ _))
       intro aI w14 bo hb hg_ hnew_
       clear hg_ hnew_
       (first | rw [← aY.out] at bo | (simp only [Int.reduceToNat] at bo; rw [← aY.out] at bo))
       have n0_ := aM (Kd.R_below (by have X_ := ay.out; exact TR) hb)
       have n1_ := aM (Kd.R_below (by have X_ := aQ.out; exact TR) hb)
       have n2_ := aM (Kd.S_lower (Kd.S_new' (Kd.S_new' bo (Kd.R_lt (by have X_ := ay.out; exact TR))) (Kd.R_lt (by have X_ := aQ.out; exact TR))) (below_size TB))
       have n3_ := aM (blk_below (g := aa) (o := .cells #[.slice am aj.length al, .slice ao ak.length ap, .int .i64 af, .int .i64 ag, .int .i64 ah, .slice aq ai.length an] 33 (0, 0)) TK hb)
       have n4_ := aM (blk_below (g := gb543) (o := .cells #[.slice none 0 0, .slice none 0 0, .int .i64 0, .int .i64 0, .int .i64 0, .slice none 0 0] 33 (0, 0)) TK hb)
       have n5_ := aM (below_step TB hb)
       clear ay
       clear aQ
       clear ac
       clear ae
       clear HB
       have ay := n0_
       have aQ := n1_
       have av := n2_
       have ac := n3_
       have ae := n4_
       have HB := n5_
       clear n0_ n1_ n2_ n3_ n4_ n5_
       clear hb bo
       obtain ⟨cy, cB, cc⟩ := Kd.S_slice av.out
       (first | subst cc | (injection cc with f1_ f2_ f3_; have f4_ := f1_.symm; have f5_ := f3_.symm; clear f1_ f2_ f3_; subst f4_; subst f5_))
       obtain ⟨bS, bQ, bz⟩ := Kd.R_slice aQ.out
       (first | subst bz | (injection bz with f1_ f2_ f3_; have f4_ := f1_.symm; have f5_ := f3_.symm; clear f1_ f2_ f3_; subst f4_; subst f5_))
       obtain ⟨bV, bU, bA⟩ := Kd.R_slice ay.out
       (first | subst bA | (injection bA with f1_ f2_ f3_; have f4_ := f1_.symm; have f5_ := f3_.symm; clear f1_ f2_ f3_; subst f4_; subst f5_))
       refine hK.out _ _ (cz6 ac.out) (fun hHeld => ?_)
       clear hK K
       refine nR ?_
       refine pPe 11 (some 17) #[true, true, true, true, true, true, true, true, true, true, true, true, false, false] ?_
       exact spec_l9Copy.nM (bO (aD, .slice bV aJ.length bU, aC, .slice bS aN.length bQ, .slice cy aV.length cB) _ ⟨hHeld, (by have X_ := ay.out; exact TR), (by have X_ := aQ.out; exact TR), (by (with_reducible repeat (first | apply Kd.S_alloc | apply Kd.S_drewN | apply Kd.S_drew)); exact Kd.S_mono av.out (fun _ hk => ⟨hk.1.2, hk.2⟩)), TK, TK, TB⟩)
      ·skip
       refine box_step ?hg (N := 3) ?hd (cs := #[.slice none 0 0, .slice none 0 0, .int .i64 0, .int .i64 0, .int .i64 0, .slice none 0 0]) (t := 33) ?hr ?_; (case hd => rfl); (case hg => rfl); (case hr => first | (go_simp; done) | (go_simp; rfl))
       intro ab hg w14 hbox hb
       have n0_ := aM (Kd.R_below (by have X_ := ay.out; exact TR) hb)
       have n1_ := aM (Kd.R_below (by have X_ := aQ.out; exact TR) hb)
       have n2_ := aM (blk_below (g := aa) (o := .cells #[.slice am aj.length al, .slice ao ak.length ap, .int .i64 af, .int .i64 ag, .int .i64 ah, .slice aq ai.length an] 33 (0, 0)) TK hb)
       have n3_ := aM (blk_below (g := gb543) (o := .cells #[.slice none 0 0, .slice none 0 0, .int .i64 0, .int .i64 0, .int .i64 0, .slice none 0 0] 33 (0, 0)) TK hb)
       have n4_ := aM (below_step TB hb)
       have n5_ := aM (hbox)
       have n6_ := aM ((by rw [hg]; exact (below_size TB) : w.heap.size ≤ ab))
       have n7_ := aM ((by rw [hg]; exact (below_size TB) : w.heap.size ≤ ab))
       have n8_ := aM ((by rw [hg]; exact Nat.ne_of_lt (blk_lt (g := aa) (o := .cells #[.slice am aj.length al, .slice ao ak.length ap, .int .i64 af, .int .i64 ag, .int .i64 ah, .slice aq ai.length an] 33 (0, 0)) TK) : aa ≠ ab))
       have n9_ := aM ((by rw [hg]; exact Nat.ne_of_gt (blk_lt (g := aa) (o := .cells #[.slice am aj.length al, .slice ao ak.length ap, .int .i64 af, .int .i64 ag, .int .i64 ah, .slice aq ai.length an] 33 (0, 0)) TK) : ab ≠ aa))
       have aX := aM ((by rw [hg]; exact Nat.ne_of_lt (blk_lt (g := gb543) (o := .cells #[.slice none 0 0, .slice none 0 0, .int .i64 0, .int .i64 0, .int .i64 0, .slice none 0 0] 33 (0, 0)) TK) : gb543 ≠ ab))
       have bf := aM ((by rw [hg]; exact Nat.ne_of_gt (blk_lt (g := gb543) (o := .cells #[.slice none 0 0, .slice none 0 0, .int .i64 0, .int .i64 0, .int .i64 0, .slice none 0 0] 33 (0, 0)) TK) : ab ≠ gb543))
       clear ay
       clear aQ
       clear ac
       clear ae
       clear HB
       have ay := n0_
       have aQ := n1_
       have ac := n2_
       have ae := n3_
       have HB := n4_
       have aA := n5_
       have aE := n6_
       have aG := n7_
       have ad := n8_
       have ax := n9_
       have au := aX
       have aw := bf
       clear n0_ n1_ n2_ n3_ n4_ n5_ n6_ n7_ n8_ n9_ aX bf
       clear hb hbox hg
       refine hK.out _ _ (cz6 ac.out) (fun hHeld => ?_)
       clear hK K
       refine nR ?_
       exact spec_l9Copy.nM (bL (aD, aH, aC, bn, ab) _ ⟨hHeld, (by have X_ := ay.out; exact TR), (by have X_ := aQ.out; exact TR), TK, TK, TK, aE.out, aG.out, ad.out, ax.out, au.out, aw.out, TB⟩)
    ·skip
     rintro ⟨aD, aH, aC, aI, ab⟩ w15 ⟨hS_, h0_, h1_, h2_, h3_, h4_, h5_, h6_, h7_, h8_, h9_, aW, bg, bJ⟩
     clear ac ae HB
     have ay : Aside0 (Kd.R (Kd.int .u8) 5 w15 w.heap.size (fun k_ => some k_ ≠ (aC : Value).ownBlock) aH aJ) := ⟨h0_⟩
     have ar : Aside0 (Kd.R (Kd.int .u8) 5 w15 w.heap.size (fun k_ => some k_ ≠ (aH : Value).ownBlock) aC be) := ⟨h1_⟩
     have av : Aside0 (Kd.S k55 55 w15 w.heap.size (fun k_ => some k_ ≠ (aH : Value).ownBlock ∧ some k_ ≠ (aC : Value).ownBlock) aI aV) := ⟨h2_⟩
     have ac : Aside0 (w15.heap[aa]? = some (.cells #[.slice am aj.length al, .slice ao ak.length ap, .int .i64 af, .int .i64 ag, .int .i64 ah, .slice aq ai.length an] 33 (0, 0))) := ⟨h3_⟩
     have ae : Aside0 (w15.heap[gb543]? = some (.cells #[.slice none 0 0, .slice none 0 0, .int .i64 0, .int .i64 0, .int .i64 0, .slice none 0 0] 33 (0, 0))) := ⟨h4_⟩
     have aA : Aside0 (w15.heap[ab]? = some (.cells #[.slice none 0 0, .slice none 0 0, .int .i64 0, .int .i64 0, .int .i64 0, .slice none 0 0] 33 (0, 0))) := ⟨h5_⟩
     have aE : Aside0 (w.heap.size ≤ ab) := ⟨h6_⟩
     have aG : Aside0 (w.heap.size ≤ ab) := ⟨h7_⟩
     have ad : Aside0 (aa ≠ ab) := ⟨h8_⟩
     have ax : Aside0 (ab ≠ aa) := ⟨h9_⟩
     have au : Aside0 (gb543 ≠ ab) := ⟨aW⟩
     have aw : Aside0 (ab ≠ gb543) := ⟨bg⟩
     have HB : Aside0 (Below w.heap.size w w15) := ⟨bJ⟩
     clear h0_ h1_ h2_ h3_ h4_ h5_ h6_ h7_ h8_ h9_ aW bg bJ
     have hHeld : w15.cell? ⟨aa, 0, none⟩ = some (.slice am aj.length al) ∧ w15.cell? ⟨aa, 1, none⟩ = some (.slice ao ak.length ap) ∧ w15.cell? ⟨aa, 2, none⟩ = some (.int .i64 af) ∧ w15.cell? ⟨aa, 3, none⟩ = some (.int .i64 ag) ∧ w15.cell? ⟨aa, 4, none⟩ = some (.int .i64 ah) ∧ w15.cell? ⟨aa, 5, none⟩ = some (.slice aq ai.length an) := hS_
     refine norm_ (a' := ?_) ?_ ?_
     rotate_left
     ·simp only [putAll, Act.put, List.setIfInBounds_toArray, List.set_cons_zero, List.set_cons_succ]
      rfl
     refine pOe 7 (some 13) #[true, true, true, true, true, true, true, true, true, true, true, false, true, false] (fun K hK => ?_)
     refine Kd.R_append_rows_step (Kd.int .u8) (w0 := w) w.heap.size (by rfl) (.tmp 10) (.tmp 12) 22 5 (.int .u8 0) 1 rfl Try.underlying22 info5 rfl (by decide) (by omega) aC be ak _ _ _ (fun k_ => some k_ ≠ (aH : Value).ownBlock) (fun _ => False) rfl rfl ?aO ?aR (fun _ _ h => h) (fun _ h => h.elim) ?aF ?aB ?aS ?aL ?_
     (case aR => repeat (first | exact (Kd.C_below b5.out HB.out) | (with_reducible refine Kd.C_alloc ?_ _) | (with_reducible refine Kd.C_drewN ?_ _) | (with_reducible refine Kd.C_drew ?_)))
     (case aB => exact TB)
     (case aF => exact (fun k_ hk => Kd.fresh' (Kd.R_lt (by have X_ := ay.out; exact TR)) k_ hk))
     (case aO => exact (by have X_ := ar.out; exact TR))
     (case aS => exact (below_size TB))
     (case aL => have := cj.out; omega)
     intro bn w16 ho hb hg hat
     rw [← b4.out] at ho
     have n0_ := aM (blk_grown (g := aa) (o := .cells #[.slice am aj.length al, .slice ao ak.length ap, .int .i64 af, .int .i64 ag, .int .i64 ah, .slice aq ai.length an] 33 (0, 0)) TK hg (Kd.R_ne ar.out ac.out (by decide)))
     have n1_ := aM (blk_grown (g := gb543) (o := .cells #[.slice none 0 0, .slice none 0 0, .int .i64 0, .int .i64 0, .int .i64 0, .slice none 0 0] 33 (0, 0)) TK hg (Kd.R_ne ar.out ae.out (by decide)))
     have n2_ := aM (Kd.R_after (ok := (fun _ => True)) (by (with_reducible repeat (first | apply Kd.R_alloc | apply Kd.R_drewN | apply Kd.R_drew)); exact Kd.R_mono ay.out (fun _ hk => ⟨trivial, hk⟩)) hg hat)
     have n3_ := aM (Kd.S_after (ok := (fun k_ => some k_ ≠ (aH : Value).ownBlock)) (by have X_ := av.out; exact TS) hg hat)
     have n4_ := aM (blk_grown (g := ab) (o := .cells #[.slice none 0 0, .slice none 0 0, .int .i64 0, .int .i64 0, .int .i64 0, .slice none 0 0] 33 (0, 0)) TK hg (Kd.R_ne ar.out aA.out (by decide)))
     have n5_ := aM (hb)
     have n6_ := aM (ho)
     clear ac
     clear ae
     clear ay
     clear av
     clear aA
     clear HB
     clear ar
     have ac := n0_
     have ae := n1_
     have ay := n2_
     have av := n3_
     have aA := n4_
     have HB := n5_
     have aQ := n6_
     clear n0_ n1_ n2_ n3_ n4_ n5_ n6_
     clear ho hb hg hat
     obtain ⟨bS, bQ, bz⟩ := Kd.S_slice av.out
     (first | subst bz | (injection bz with f1_ f2_ f3_; have f4_ := f1_.symm; have f5_ := f3_.symm; clear f1_ f2_ f3_; subst f4_; subst f5_))
     obtain ⟨bV, bU, bA⟩ := Kd.R_slice aQ.out
     (first | subst bA | (injection bA with f1_ f2_ f3_; have f4_ := f1_.symm; have f5_ := f3_.symm; clear f1_ f2_ f3_; subst f4_; subst f5_))
     obtain ⟨b9, cd, bI⟩ := Kd.R_slice ay.out
     (first | subst bI | (injection bI with f1_ f2_ f3_; have f4_ := f1_.symm; have f5_ := f3_.symm; clear f1_ f2_ f3_; subst f4_; subst f5_))
     refine hK.out _ _ (cz6 ac.out) (fun hHeld => ?_)
     clear hK K
     refine nR ?_
     refine pPe 11 (some 17) #[true, true, true, true, true, true, true, true, true, true, true, true, true, false] ?_
     exact spec_l9Copy.nM (bu (aD, .slice b9 aJ.length cd, aC, .slice bV aN.length bU, .slice bS aV.length bQ, ab) _ ⟨hHeld, (by (with_reducible repeat (first | apply Kd.R_alloc | apply Kd.R_drewN | apply Kd.R_drew)); exact Kd.R_mono ay.out (fun _ hk => hk.2)), (by have X_ := aQ.out; exact TR), (by have X_ := av.out; exact TS), TK, TK, TK, aE.out, aG.out, ad.out, ax.out, au.out, aw.out, TB⟩)
   ·skip
    rintro ⟨aD, aH, aC, bn, ab⟩ w14 ⟨hS_, h0_, h1_, h2_, h3_, h4_, h5_, h6_, h7_, h8_, h9_, aW, bg⟩
    clear ac ae HB
    have ay : Aside0 (Kd.R (Kd.int .u8) 5 w14 w.heap.size (fun k_ => some k_ ≠ (bn : Value).ownBlock) aH aJ) := ⟨h0_⟩
    have aQ : Aside0 (Kd.R (Kd.int .u8) 5 w14 w.heap.size (fun k_ => some k_ ≠ (aH : Value).ownBlock) bn aN) := ⟨h1_⟩
    have ac : Aside0 (w14.heap[aa]? = some (.cells #[.slice am aj.length al, .slice ao ak.length ap, .int .i64 af, .int .i64 ag, .int .i64 ah, .slice aq ai.length an] 33 (0, 0))) := ⟨h2_⟩
    have ae : Aside0 (w14.heap[gb543]? = some (.cells #[.slice none 0 0, .slice none 0 0, .int .i64 0, .int .i64 0, .int .i64 0, .slice none 0 0] 33 (0, 0))) := ⟨h3_⟩
    have aA : Aside0 (w14.heap[ab]? = some (.cells #[.slice none 0 0, .slice none 0 0, .int .i64 0, .int .i64 0, .int .i64 0, .slice none 0 0] 33 (0, 0))) := ⟨h4_⟩
    have aE : Aside0 (w.heap.size ≤ ab) := ⟨h5_⟩
    have aG : Aside0 (w.heap.size ≤ ab) := ⟨h6_⟩
    have ad : Aside0 (aa ≠ ab) := ⟨h7_⟩
    have ax : Aside0 (ab ≠ aa) := ⟨h8_⟩
    have au : Aside0 (gb543 ≠ ab) := ⟨h9_⟩
    have aw : Aside0 (ab ≠ gb543) := ⟨aW⟩
    have HB : Aside0 (Below w.heap.size w w14) := ⟨bg⟩
    clear h0_ h1_ h2_ h3_ h4_ h5_ h6_ h7_ h8_ h9_ aW bg
    have hHeld : w14.cell? ⟨aa, 0, none⟩ = some (.slice am aj.length al) ∧ w14.cell? ⟨aa, 1, none⟩ = some (.slice ao ak.length ap) ∧ w14.cell? ⟨aa, 2, none⟩ = some (.int .i64 af) ∧ w14.cell? ⟨aa, 3, none⟩ = some (.int .i64 ag) ∧ w14.cell? ⟨aa, 4, none⟩ = some (.int .i64 ah) ∧ w14.cell? ⟨aa, 5, none⟩ = some (.slice aq ai.length an) := hS_
    refine norm_ (a' := ?_) ?_ ?_
    rotate_left
    ·simp only [putAll, Act.put, List.setIfInBounds_toArray, List.set_cons_zero, List.set_cons_succ]
     rfl
    refine pOe 10 (some 16) #[true, true, true, true, true, true, true, true, true, true, true, false, true, false] (fun K hK => ?_)
    refine Kd.S_lit_step k55 _ 55 ?hg (N := 16) ?hd (xs := ([] : List (S55))) (inner := []) (ok := fun _ => True) (okp := fun _ => True) ?hr ?hp (fun _ hk => hk) trivial (Below.refl _ _) (Nat.le_refl _) (by simp) ?_; (case hd => rfl); (case hg => rfl); (case hr => first | (go_simp; done) | (go_simp; rfl)); (case hp => exact (Reps.none _ _))
    intro aI w15 b8 hb hg_ hnew_
    clear hg_ hnew_
    (first | rw [← aY.out] at b8 | (simp only [Int.reduceToNat] at b8; rw [← aY.out] at b8))
    have n0_ := aM (Kd.R_below (by have X_ := ay.out; exact TR) hb)
    have n1_ := aM (Kd.R_below (by have X_ := aQ.out; exact TR) hb)
    have n2_ := aM (Kd.S_lower (Kd.S_new' (Kd.S_new' b8 (Kd.R_lt (by have X_ := ay.out; exact TR))) (Kd.R_lt (by have X_ := aQ.out; exact TR))) (below_size TB))
    have n3_ := aM (blk_below (g := aa) (o := .cells #[.slice am aj.length al, .slice ao ak.length ap, .int .i64 af, .int .i64 ag, .int .i64 ah, .slice aq ai.length an] 33 (0, 0)) TK hb)
    have n4_ := aM (blk_below (g := gb543) (o := .cells #[.slice none 0 0, .slice none 0 0, .int .i64 0, .int .i64 0, .int .i64 0, .slice none 0 0] 33 (0, 0)) TK hb)
    have n5_ := aM (blk_below (g := ab) (o := .cells #[.slice none 0 0, .slice none 0 0, .int .i64 0, .int .i64 0, .int .i64 0, .slice none 0 0] 33 (0, 0)) TK hb)
    have n6_ := aM (below_step TB hb)
    clear ay
    clear aQ
    clear ac
    clear ae
    clear aA
    clear HB
    have ay := n0_
    have aQ := n1_
    have av := n2_
    have ac := n3_
    have ae := n4_
    have aA := n5_
    have HB := n6_
    clear n0_ n1_ n2_ n3_ n4_ n5_ n6_
    clear hb b8
    obtain ⟨bS, bQ, bz⟩ := Kd.S_slice av.out
    (first | subst bz | (injection bz with f1_ f2_ f3_; have f4_ := f1_.symm; have f5_ := f3_.symm; clear f1_ f2_ f3_; subst f4_; subst f5_))
    obtain ⟨bV, bU, bA⟩ := Kd.R_slice aQ.out
    (first | subst bA | (injection bA with f1_ f2_ f3_; have f4_ := f1_.symm; have f5_ := f3_.symm; clear f1_ f2_ f3_; subst f4_; subst f5_))
    obtain ⟨b9, cd, bI⟩ := Kd.R_slice ay.out
    (first | subst bI | (injection bI with f1_ f2_ f3_; have f4_ := f1_.symm; have f5_ := f3_.symm; clear f1_ f2_ f3_; subst f4_; subst f5_))
    refine hK.out _ _ (cz6 ac.out) (fun hHeld => ?_)
    clear hK K
    refine nR ?_
    refine pPe 11 (some 17) #[true, true, true, true, true, true, true, true, true, true, true, true, true, false] ?_
    exact spec_l9Copy.nM (bu (aD, .slice b9 aJ.length cd, aC, .slice bV aN.length bU, .slice bS aV.length bQ, ab) _ ⟨hHeld, (by have X_ := ay.out; exact TR), (by have X_ := aQ.out; exact TR), (by (with_reducible repeat (first | apply Kd.S_alloc | apply Kd.S_drewN | apply Kd.S_drew)); exact Kd.S_mono av.out (fun _ hk => ⟨hk.1.2, hk.2⟩)), TK, TK, TK, aE.out, aG.out, ad.out, ax.out, au.out, aw.out, TB⟩)
  ·skip
   rintro ⟨aD, aH, aC, bn, aI⟩ w18 ⟨hS_, h0_, h1_, h2_, h3_, h4_, h5_⟩
   clear ac ae HB
   have ay : Aside0 (Kd.R (Kd.int .u8) 5 w18 w.heap.size (fun k_ => some k_ ≠ (bn : Value).ownBlock) aH aJ) := ⟨h0_⟩
   have aQ : Aside0 (Kd.R (Kd.int .u8) 5 w18 w.heap.size (fun k_ => some k_ ≠ (aH : Value).ownBlock) bn aN) := ⟨h1_⟩
   have av : Aside0 (Kd.S k55 55 w18 w.heap.size (fun k_ => some k_ ≠ (aH : Value).ownBlock ∧ some k_ ≠ (bn : Value).ownBlock) aI aV) := ⟨h2_⟩
   have ac : Aside0 (w18.heap[aa]? = some (.cells #[.slice am aj.length al, .slice ao ak.length ap, .int .i64 af, .int .i64 ag, .int .i64 ah, .slice aq ai.length an] 33 (0, 0))) := ⟨h3_⟩
   have ae : Aside0 (w18.heap[gb543]? = some (.cells #[.slice none 0 0, .slice none 0 0, .int .i64 0, .int .i64 0, .int .i64 0, .slice none 0 0] 33 (0, 0))) := ⟨h4_⟩
   have HB : Aside0 (Below w.heap.size w w18) := ⟨h5_⟩
   clear h0_ h1_ h2_ h3_ h4_ h5_
   have hHeld : w18.cell? ⟨aa, 0, none⟩ = some (.slice am aj.length al) ∧ w18.cell? ⟨aa, 1, none⟩ = some (.slice ao ak.length ap) ∧ w18.cell? ⟨aa, 2, none⟩ = some (.int .i64 af) ∧ w18.cell? ⟨aa, 3, none⟩ = some (.int .i64 ag) ∧ w18.cell? ⟨aa, 4, none⟩ = some (.int .i64 ah) ∧ w18.cell? ⟨aa, 5, none⟩ = some (.slice aq ai.length an) := hS_
   obtain ⟨b9, cd, bI⟩ := Kd.S_slice av.out
   (first | subst bI | (injection bI with f1_ f2_ f3_; have f4_ := f1_.symm; have f5_ := f3_.symm; clear f1_ f2_ f3_; subst f4_; subst f5_))
   obtain ⟨b1, bZ, b6⟩ := Kd.R_slice aQ.out
   (first | subst b6 | (injection b6 with f1_ f2_ f3_; have f4_ := f1_.symm; have f5_ := f3_.symm; clear f1_ f2_ f3_; subst f4_; subst f5_))
   obtain ⟨a8, a7, ce⟩ := Kd.R_slice ay.out
   (first | subst ce | (injection ce with f1_ f2_ f3_; have f4_ := f1_.symm; have f5_ := f3_.symm; clear f1_ f2_ f3_; subst f4_; subst f5_))
   refine norm_ (a' := ?_) ?_ ?_
   rotate_left
   ·simp only [putAll, Act.put, List.setIfInBounds_toArray, List.set_cons_zero, List.set_cons_succ]
    rfl
   refine pOe 12 (some 3) #[true, true, true, true, true, true, true, true, true, true, true, true, true, false] (fun K hK => ?_)
   refine box_step ?hg (N := 3) ?hd (cs := #[.slice none 0 0, .slice none 0 0, .int .i64 0, .int .i64 0, .int .i64 0, .slice none 0 0]) (t := 33) ?hr ?_; (case hd => rfl); (case hg => rfl); (case hr => first | (go_simp; done) | (go_simp; rfl))
   intro ab hg w22 hbox hb
   have n0_ := aM (Kd.R_below (by have X_ := ay.out; exact TR) hb)
   have n1_ := aM (Kd.R_below (by have X_ := aQ.out; exact TR) hb)
   have n2_ := aM (Kd.S_below (by have X_ := av.out; exact TS) hb)
   have n3_ := aM (blk_below (g := aa) (o := .cells #[.slice am aj.length al, .slice ao ak.length ap, .int .i64 af, .int .i64 ag, .int .i64 ah, .slice aq ai.length an] 33 (0, 0)) TK hb)
   have n4_ := aM (blk_below (g := gb543) (o := .cells #[.slice none 0 0, .slice none 0 0, .int .i64 0, .int .i64 0, .int .i64 0, .slice none 0 0] 33 (0, 0)) TK hb)
   have n5_ := aM (below_step TB hb)
   have n6_ := aM (hbox)
   have n7_ := aM ((by rw [hg]; exact (below_size TB) : w.heap.size ≤ ab))
   have n8_ := aM ((by rw [hg]; exact (below_size TB) : w.heap.size ≤ ab))
   have n9_ := aM ((by rw [hg]; exact Nat.ne_of_lt (blk_lt (g := aa) (o := .cells #[.slice am aj.length al, .slice ao ak.length ap, .int .i64 af, .int .i64 ag, .int .i64 ah, .slice aq ai.length an] 33 (0, 0)) TK) : aa ≠ ab))
   have aX := aM ((by rw [hg]; exact Nat.ne_of_gt (blk_lt (g := aa) (o := .cells #[.slice am aj.length al, .slice ao ak.length ap, .int .i64 af, .int .i64 ag, .int .i64 ah, .slice aq ai.length an] 33 (0, 0)) TK) : ab ≠ aa))
   have bf := aM ((by rw [hg]; exact Nat.ne_of_lt (blk_lt (g := gb543) (o := .cells #[.slice none 0 0, .slice none 0 0, .int .i64 0, .int .i64 0, .int .i64 0, .slice none 0 0] 33 (0, 0)) TK) : gb543 ≠ ab))
   have bN := aM ((by rw [hg]; exact Nat.ne_of_gt (blk_lt (g := gb543) (o := .cells #[.slice none 0 0, .slice none 0 0, .int .i64 0, .int .i64 0, .int .i64 0, .slice none 0 0] 33 (0, 0)) TK) : ab ≠ gb543))
   clear ay
   clear aQ
   clear av
   clear ac
   clear ae
   clear HB
   have ay := n0_
   have aQ := n1_
   have av := n2_
   have ac := n3_
   have ae := n4_
   have HB := n5_
   have aA := n6_
   have aE := n7_
   have aG := n8_
   have ad := n9_
   have ax := aX
   have au := bf
   have aw := bN
   clear n0_ n1_ n2_ n3_ n4_ n5_ n6_ n7_ n8_ n9_ aX bf bN
   clear hb hbox hg
   refine hK.out _ _ (cz6 ac.out) (fun hHeld => ?_)
   clear hK K
   refine nR ?_
   exact spec_l9Copy.nM (bu (aD, .slice a8 aJ.length a7, aC, .slice b1 aN.length bZ, .slice b9 aV.length cd, ab) _ ⟨hHeld, (by have X_ := ay.out; exact TR), (by have X_ := aQ.out; exact TR), (by have X_ := av.out; exact TS), TK, TK, TK, aE.out, aG.out, ad.out, ax.out, au.out, aw.out, TB⟩)
 rintro ⟨aD, aH, aC, bn, aI, ab⟩ w19 ⟨hS_, h0_, h1_, h2_, h3_, h4_, h5_, h6_, h7_, h8_, h9_, aW, bg, bJ⟩
 clear ac ae HB
 have ay : Aside0 (Kd.R (Kd.int .u8) 5 w19 w.heap.size (fun k_ => some k_ ≠ (bn : Value).ownBlock) aH aJ) := ⟨h0_⟩
 have aQ : Aside0 (Kd.R (Kd.int .u8) 5 w19 w.heap.size (fun k_ => some k_ ≠ (aH : Value).ownBlock) bn aN) := ⟨h1_⟩
 have av : Aside0 (Kd.S k55 55 w19 w.heap.size (fun k_ => some k_ ≠ (aH : Value).ownBlock ∧ some k_ ≠ (bn : Value).ownBlock) aI aV) := ⟨h2_⟩
 have ac : Aside0 (w19.heap[aa]? = some (.cells #[.slice am aj.length al, .slice ao ak.length ap, .int .i64 af, .int .i64 ag, .int .i64 ah, .slice aq ai.length an] 33 (0, 0))) := ⟨h3_⟩
 have ae : Aside0 (w19.heap[gb543]? = some (.cells #[.slice none 0 0, .slice none 0 0, .int .i64 0, .int .i64 0, .int .i64 0, .slice none 0 0] 33 (0, 0))) := ⟨h4_⟩
 have aA : Aside0 (w19.heap[ab]? = some (.cells #[.slice none 0 0, .slice none 0 0, .int .i64 0, .int .i64 0, .int .i64 0, .slice none 0 0] 33 (0, 0))) := ⟨h5_⟩
 have aE : Aside0 (w.heap.size ≤ ab) := ⟨h6_⟩
 have aG : Aside0 (w.heap.size ≤ ab) := ⟨h7_⟩
 have ad : Aside0 (aa ≠ ab) := ⟨h8_⟩
 have ax : Aside0 (ab ≠ aa) := ⟨h9_⟩
 have au : Aside0 (gb543 ≠ ab) := ⟨aW⟩
 have aw : Aside0 (ab ≠ gb543) := ⟨bg⟩
 have HB : Aside0 (Below w.heap.size w w19) := ⟨bJ⟩
 clear h0_ h1_ h2_ h3_ h4_ h5_ h6_ h7_ h8_ h9_ aW bg bJ
 have hHeld : w19.cell? ⟨aa, 0, none⟩ = some (.slice am aj.length al) ∧ w19.cell? ⟨aa, 1, none⟩ = some (.slice ao ak.length ap) ∧ w19.cell? ⟨aa, 2, none⟩ = some (.int .i64 af) ∧ w19.cell? ⟨aa, 3, none⟩ = some (.int .i64 ag) ∧ w19.cell? ⟨aa, 4, none⟩ = some (.int .i64 ah) ∧ w19.cell? ⟨aa, 5, none⟩ = some (.slice aq ai.length an) := hS_
 obtain ⟨b1, bZ, b6⟩ := Kd.S_slice av.out
 (first | subst b6 | (injection b6 with f1_ f2_ f3_; have f4_ := f1_.symm; have f5_ := f3_.symm; clear f1_ f2_ f3_; subst f4_; subst f5_))
 obtain ⟨a8, a7, ce⟩ := Kd.R_slice aQ.out
 (first | subst ce | (injection ce with f1_ f2_ f3_; have f4_ := f1_.symm; have f5_ := f3_.symm; clear f1_ f2_ f3_; subst f4_; subst f5_))
 obtain ⟨a6, a9, eo22⟩ := Kd.R_slice ay.out
 (first | subst eo22 | (injection eo22 with f1_ f2_ f3_; have f4_ := f1_.symm; have f5_ := f3_.symm; clear f1_ f2_ f3_; subst f4_; subst f5_))
 refine norm_ (a' := ?_) ?_ ?_
 rotate_left
 ·simp only [putAll, Act.put, List.setIfInBounds_toArray, List.set_cons_zero, List.set_cons_succ]
  rfl
 refine pOe 13 none #[true, true, true, true, true, true, true, true, true, true, true, true, true, true] (fun K hK => ?_)
 have hs23 : w19.cell? ⟨ab, 0, none⟩ = some (.slice none 0 0) := (blk_cell aA.out 0).trans rfl
 have hfs23 := blk_frozen aA.out 0
 have hns23_0 := ad.out
 have hns23_1 := au.out
 have hms23_0 := ax.out
 have hms23_1 := aw.out
 have hs24 : w19.cell? ⟨ab, 1, none⟩ = some (.slice none 0 0) := (blk_cell aA.out 1).trans rfl
 have hfs24 := blk_frozen aA.out 1
 have hns24_0 := ad.out
 have hns24_1 := au.out
 have hms24_0 := ax.out
 have hms24_1 := aw.out
 have hs25 : w19.cell? ⟨ab, 2, none⟩ = some (.int .i64 0) := (blk_cell aA.out 2).trans rfl
 have hfs25 := blk_frozen aA.out 2
 have hns25_0 := ad.out
 have hns25_1 := au.out
 have hms25_0 := ax.out
 have hms25_1 := aw.out
 have hs26 : w19.cell? ⟨ab, 3, none⟩ = some (.int .i64 0) := (blk_cell aA.out 3).trans rfl
 have hfs26 := blk_frozen aA.out 3
 have hns26_0 := ad.out
 have hns26_1 := au.out
 have hms26_0 := ax.out
 have hms26_1 := aw.out
 have hs27 : w19.cell? ⟨ab, 4, none⟩ = some (.int .i64 0) := (blk_cell aA.out 4).trans rfl
 have hfs27 := blk_frozen aA.out 4
 have hns27_0 := ad.out
 have hns27_1 := au.out
 have hms27_0 := ax.out
 have hms27_1 := aw.out
 have hs28 : w19.cell? ⟨ab, 5, none⟩ = some (.slice none 0 0) := (blk_cell aA.out 5).trans rfl
 have hfs28 := blk_frozen aA.out 5
 have hns28_0 := ad.out
 have hns28_1 := au.out
 have hms28_0 := ax.out
 have hms28_1 := aw.out
 refine skip_ (w1 := ?_) (by rfl) rfl ?_ ?_
 rotate_left
 ·go_simp
  rfl
 refine hK.out _ _ ⟨((cell_far (p := ⟨ab, _, none⟩) ad.out _).trans (((cell_far (p := ⟨ab, _, none⟩) ad.out _).trans (((cell_far (p := ⟨ab, _, none⟩) ad.out _).trans (((cell_far (p := ⟨ab, _, none⟩) ad.out _).trans (((cell_far (p := ⟨ab, _, none⟩) ad.out _).trans (((cell_far (p := ⟨ab, _, none⟩) ad.out _).trans (hHeld.1)))))))))))), ((cell_far (p := ⟨ab, _, none⟩) ad.out _).trans (((cell_far (p := ⟨ab, _, none⟩) ad.out _).trans (((cell_far (p := ⟨ab, _, none⟩) ad.out _).trans (((cell_far (p := ⟨ab, _, none⟩) ad.out _).trans (((cell_far (p := ⟨ab, _, none⟩) ad.out _).trans (((cell_far (p := ⟨ab, _, none⟩) ad.out _).trans (hHeld.2.1)))))))))))), ((cell_far (p := ⟨ab, _, none⟩) ad.out _).trans (((cell_far (p := ⟨ab, _, none⟩) ad.out _).trans (((cell_far (p := ⟨ab, _, none⟩) ad.out _).trans (((cell_far (p := ⟨ab, _, none⟩) ad.out _).trans (((cell_far (p := ⟨ab, _, none⟩) ad.out _).trans (((cell_far (p := ⟨ab, _, none⟩) ad.out _).trans (hHeld.2.2.1)))))))))))), ((cell_far (p := ⟨ab, _, none⟩) ad.out _).trans (((cell_far (p := ⟨ab, _, none⟩) ad.out _).trans (((cell_far (p := ⟨ab, _, none⟩) ad.out _).trans (((cell_far (p := ⟨ab, _, none⟩) ad.out _).trans (((cell_far (p := ⟨ab, _, none⟩) ad.out _).trans (((cell_far (p := ⟨ab, _, none⟩) ad.out _).trans (hHeld.2.2.2.1)))))))))))), ((cell_far (p := ⟨ab, _, none⟩) ad.out _).trans (((cell_far (p := ⟨ab, _, none⟩) ad.out _).trans (((cell_far (p := ⟨ab, _, none⟩) ad.out _).trans (((cell_far (p := ⟨ab, _, none⟩) ad.out _).trans (((cell_far (p := ⟨ab, _, none⟩) ad.out _).trans (((cell_far (p := ⟨ab, _, none⟩) ad.out _).trans (hHeld.2.2.2.2.1)))))))))))), ((cell_far (p := ⟨ab, _, none⟩) ad.out _).trans (((cell_far (p := ⟨ab, _, none⟩) ad.out _).trans (((cell_far (p := ⟨ab, _, none⟩) ad.out _).trans (((cell_far (p := ⟨ab, _, none⟩) ad.out _).trans (((cell_far (p := ⟨ab, _, none⟩) ad.out _).trans (((cell_far (p := ⟨ab, _, none⟩) ad.out _).trans (hHeld.2.2.2.2.2))))))))))))⟩ (fun hHeld => ?_)
 clear hK K
 refine done_ (done_of HT_.out (by kernel_rfl)) ?_
 try go_wp2
 go_loopg [4] k (fun kq v4 w' => ∃ (bk : Int) (bj : List (S55)) (bh : Value), v4 = .int .i64 bk ∧ Aside0 (spec_l9Copy.l0 kq bk aj ak af ag ah ai aJ aN af ag ah bj = some (r1, r2, r3, r4, r5, r6)) ∧ Aside0 (kq ≤ k) ∧ Aside0 (Kd.R (Kd.int .u8) 5 w' w.heap.size (fun k_ => some k_ ≠ ((.slice a8 aN.length a7) : Value).ownBlock) (.slice a6 aJ.length a9) aJ) ∧ Aside0 (Kd.R (Kd.int .u8) 5 w' w.heap.size (fun k_ => some k_ ≠ ((.slice a6 aJ.length a9) : Value).ownBlock) (.slice a8 aN.length a7) aN) ∧ Aside0 (Kd.S k55 55 w' w.heap.size (fun k_ => some k_ ≠ ((.slice a6 aJ.length a9) : Value).ownBlock ∧ some k_ ≠ ((.slice a8 aN.length a7) : Value).ownBlock) bh bj) ∧ Aside0 (w'.heap[aa]? = some (.cells #[(.slice am aj.length al), (.slice ao ak.length ap), .int .i64 af, .int .i64 ag, .int .i64 ah, (.slice aq ai.length an)] 33 (0, 0))) ∧ Aside0 (w'.heap[gb543]? = some (.cells #[(.slice none 0 0), (.slice none 0 0), .int .i64 0, .int .i64 0, .int .i64 0, (.slice none 0 0)] 33 (0, 0))) ∧ Aside0 (w'.heap[ab]? = some (.cells #[(.slice a6 aJ.length a9), (.slice a8 aN.length a7), .int .i64 af, .int .i64 ag, .int .i64 ah, bh] 33 (0, 0))) ∧ Aside0 (Below w.heap.size w w'))
 case atStart => exact ⟨(0), (aV), (.slice b1 aV.length bZ), (by first | rfl | (simp; done) | (simp [*]; done)), H', ⟨Nat.le_refl _⟩, ⟨by (with_reducible repeat (first | apply Kd.R_alloc | apply Kd.R_drewN | apply Kd.R_drew)); exact Kd.R_mono (Kd.R_far (p := ⟨ab, 5, none⟩) (Kd.R_far (p := ⟨ab, 4, none⟩) (Kd.R_far (p := ⟨ab, 3, none⟩) (Kd.R_far (p := ⟨ab, 2, none⟩) (Kd.R_far (p := ⟨ab, 1, none⟩) (Kd.R_far (p := ⟨ab, 0, none⟩) (Kd.R_types ay.out aA.out (by decide)) (fun _ hk => hk.2) (.slice a6 aJ.length a9)) (fun _ hk => hk.2) (.slice a8 aN.length a7)) (fun _ hk => hk.2) (.int .i64 af)) (fun _ hk => hk.2) (.int .i64 ag)) (fun _ hk => hk.2) (.int .i64 ah)) (fun _ hk => hk.2) (.slice b1 aV.length bZ)) (fun _ hk => hk.1)⟩, ⟨by (with_reducible repeat (first | apply Kd.R_alloc | apply Kd.R_drewN | apply Kd.R_drew)); exact Kd.R_mono (Kd.R_far (p := ⟨ab, 5, none⟩) (Kd.R_far (p := ⟨ab, 4, none⟩) (Kd.R_far (p := ⟨ab, 3, none⟩) (Kd.R_far (p := ⟨ab, 2, none⟩) (Kd.R_far (p := ⟨ab, 1, none⟩) (Kd.R_far (p := ⟨ab, 0, none⟩) (Kd.R_types aQ.out aA.out (by decide)) (fun _ hk => hk.2) (.slice a6 aJ.length a9)) (fun _ hk => hk.2) (.slice a8 aN.length a7)) (fun _ hk => hk.2) (.int .i64 af)) (fun _ hk => hk.2) (.int .i64 ag)) (fun _ hk => hk.2) (.int .i64 ah)) (fun _ hk => hk.2) (.slice b1 aV.length bZ)) (fun _ hk => hk.1)⟩, ⟨by (with_reducible repeat (first | apply Kd.S_alloc | apply Kd.S_drewN | apply Kd.S_drew)); exact Kd.S_mono (Kd.S_far (p := ⟨ab, 5, none⟩) (Kd.S_far (p := ⟨ab, 4, none⟩) (Kd.S_far (p := ⟨ab, 3, none⟩) (Kd.S_far (p := ⟨ab, 2, none⟩) (Kd.S_far (p := ⟨ab, 1, none⟩) (Kd.S_far (p := ⟨ab, 0, none⟩) (Kd.S_types av.out aA.out (by decide)) (fun _ hk => hk.2) (.slice a6 aJ.length a9)) (fun _ hk => hk.2) (.slice a8 aN.length a7)) (fun _ hk => hk.2) (.int .i64 af)) (fun _ hk => hk.2) (.int .i64 ag)) (fun _ hk => hk.2) (.int .i64 ah)) (fun _ hk => hk.2) (.slice b1 aV.length bZ)) (fun _ hk => ⟨hk.1.1, hk.1.2⟩)⟩, ⟨by (with_reducible repeat (first | refine blk_drewN ?_ _ | refine blk_drew ?_ | refine blk_alloc ?_ _)); refine blk_far ?_ ad.out _; (with_reducible repeat (first | refine blk_drewN ?_ _ | refine blk_drew ?_ | refine blk_alloc ?_ _)); refine blk_far ?_ ad.out _; (with_reducible repeat (first | refine blk_drewN ?_ _ | refine blk_drew ?_ | refine blk_alloc ?_ _)); refine blk_far ?_ ad.out _; (with_reducible repeat (first | refine blk_drewN ?_ _ | refine blk_drew ?_ | refine blk_alloc ?_ _)); refine blk_far ?_ ad.out _; (with_reducible repeat (first | refine blk_drewN ?_ _ | refine blk_drew ?_ | refine blk_alloc ?_ _)); refine blk_far ?_ ad.out _; (with_reducible repeat (first | refine blk_drewN ?_ _ | refine blk_drew ?_ | refine blk_alloc ?_ _)); refine blk_far ?_ ad.out _; (with_reducible repeat (first | refine blk_drewN ?_ _ | refine blk_drew ?_ | refine blk_alloc ?_ _)); exact ac.out⟩, ⟨by (with_reducible repeat (first | refine blk_drewN ?_ _ | refine blk_drew ?_ | refine blk_alloc ?_ _)); refine blk_far ?_ au.out _; (with_reducible repeat (first | refine blk_drewN ?_ _ | refine blk_drew ?_ | refine blk_alloc ?_ _)); refine blk_far ?_ au.out _; (with_reducible repeat (first | refine blk_drewN ?_ _ | refine blk_drew ?_ | refine blk_alloc ?_ _)); refine blk_far ?_ au.out _; (with_reducible repeat (first | refine blk_drewN ?_ _ | refine blk_drew ?_ | refine blk_alloc ?_ _)); refine blk_far ?_ au.out _; (with_reducible repeat (first | refine blk_drewN ?_ _ | refine blk_drew ?_ | refine blk_alloc ?_ _)); refine blk_far ?_ au.out _; (with_reducible repeat (first | refine blk_drewN ?_ _ | refine blk_drew ?_ | refine blk_alloc ?_ _)); refine blk_far ?_ au.out _; (with_reducible repeat (first | refine blk_drewN ?_ _ | refine blk_drew ?_ | refine blk_alloc ?_ _)); exact ae.out⟩, ⟨by (with_reducible repeat (first | refine blk_drewN ?_ _ | refine blk_drew ?_ | refine blk_alloc ?_ _)); refine blk_put (cs := #[.slice a6 aJ.length a9, .slice a8 aN.length a7, .int .i64 af, .int .i64 ag, .int .i64 ah, .slice none 0 0]) ?_ 5 _ rfl; (with_reducible repeat (first | refine blk_drewN ?_ _ | refine blk_drew ?_ | refine blk_alloc ?_ _)); refine blk_put (cs := #[.slice a6 aJ.length a9, .slice a8 aN.length a7, .int .i64 af, .int .i64 ag, .int .i64 0, .slice none 0 0]) ?_ 4 _ rfl; (with_reducible repeat (first | refine blk_drewN ?_ _ | refine blk_drew ?_ | refine blk_alloc ?_ _)); refine blk_put (cs := #[.slice a6 aJ.length a9, .slice a8 aN.length a7, .int .i64 af, .int .i64 0, .int .i64 0, .slice none 0 0]) ?_ 3 _ rfl; (with_reducible repeat (first | refine blk_drewN ?_ _ | refine blk_drew ?_ | refine blk_alloc ?_ _)); refine blk_put (cs := #[.slice a6 aJ.length a9, .slice a8 aN.length a7, .int .i64 0, .int .i64 0, .int .i64 0, .slice none 0 0]) ?_ 2 _ rfl; (with_reducible repeat (first | refine blk_drewN ?_ _ | refine blk_drew ?_ | refine blk_alloc ?_ _)); refine blk_put (cs := #[.slice a6 aJ.length a9, .slice none 0 0, .int .i64 0, .int .i64 0, .int .i64 0, .slice none 0 0]) ?_ 1 _ rfl; (with_reducible repeat (first | refine blk_drewN ?_ _ | refine blk_drew ?_ | refine blk_alloc ?_ _)); refine blk_put (cs := #[.slice none 0 0, .slice none 0 0, .int .i64 0, .int .i64 0, .int .i64 0, .slice none 0 0]) ?_ 0 _ rfl; (with_reducible repeat (first | refine blk_drewN ?_ _ | refine blk_drew ?_ | refine blk_alloc ?_ _)); exact aA.out⟩, ⟨TB⟩⟩
 case round =>
  clear H'
  try clear p2
  try clear c3
  obtain ⟨bk, bj, bh, rfl, HA, HK1, bc, bb, aT, ac, ae, aA, HB⟩ := hrel
  cases gk with
  | zero => exact absurd HA.out (by simp [spec_l9Copy.l0])
  | succ k1 =>
   have H := HA.out
   clear HA
   simp only [spec_l9Copy.l0] at H
   by_cases c29 : bk < (ai.length : Int)
   ·rw [if_pos c29] at H
    have c29b0 : decide (bk < (ai.length : Int)) = true := decide_eq_true c29
    clear c29
    replace H := ifN H
    obtain ⟨c30, H⟩ := H
    have c30b0 : decide (0 ≤ bk) = true := decide_eq_true c30
    clear c30
    replace H := bE H
    obtain ⟨⟨bp, bq, bl, bt, bv, bw⟩, A31, H⟩ := H
    dsimp only at H
    replace H := ifN H
    obtain ⟨c32, H⟩ := H
    have LMc32 := aM c32
    clear c32
    obtain ⟨ca, cr⟩ : ∃ y_ : List (S55), y_ = (bj ++ [(⟨bp, bq, bl, (⟨bt, bv, bw⟩ : S30)⟩ : S55)]) := ⟨_, rfl⟩
    rw [← cr] at H
    have Ny570 := aM cr
    clear cr
    have H' := aM H
    clear H
    have hnb33 := NB542_543.out
    have hnc33 := NB543_542.out
    have hnb34 := ad.out
    have hnc34 := ax.out
    obtain ⟨hcz35_0, hcz35_1, hcz35_2, hcz35_3, hcz35_4, hcz35_5⟩ := cz6 ac.out
    obtain ⟨hfz35_0, hfz35_1, hfz35_2, hfz35_3, hfz35_4, hfz35_5⟩ := fz6 ac.out
    have cA : 0 ≤ (bk : Int) := DT
    have cz : bk < (ai.length : Int) := DT
    obtain ⟨bP, cL, cM, e560, bY, b0, bW, b3, b2, bX, cf, ci⟩ := at_T55 HR0_5.out bk cA cz
    cases e560
    replace bY := (HB.out.cell (World.block_lt_of_cell? w _ bY)).trans bY
    replace b0 := (HB.out.cell (World.block_lt_of_cell? w _ b0)).trans b0
    replace bW := (HB.out.cell (World.block_lt_of_cell? w _ bW)).trans bW
    replace b3 := (HB.out.cell (World.block_lt_of_cell? w _ b3)).trans b3
    replace b2 := (HB.out.cell (World.block_lt_of_cell? w _ b2)).trans b2
    replace bX := (HB.out.cell (World.block_lt_of_cell? w _ bX)).trans bX
    have cK := aM ci
    have cJ := aM cf
    clear ci cf
    replace cA := eq_true cA
    replace cz := eq_true cz
    go_wp2_with (first | ((with_reducible refine gate_callee (f := 92) rfl ?_); refine gL (some 30) Try.func92 #[.agg #[.int .i64 ((rd_T55 ai bk).f0), .int .i64 ((rd_T55 ai bk).f1), .slice cL ((rd_T55 ai bk).f2).length cM, .int .i64 ((rd_T55 ai bk).f3.f0), .int .i64 ((rd_T55 ai bk).f3.f1), .int .i64 ((rd_T55 ai bk).f3.f2)]] ?_; (with_reducible refine (spec_l9CopyPut.calls ((rd_T55 ai bk).f0) ((rd_T55 ai bk).f1) _ _ ((rd_T55 ai bk).f2) ((rd_T55 ai bk).f3.f0) ((rd_T55 ai bk).f3.f1) ((rd_T55 ai bk).f3.f2) bp bq bl bt bv bw _ ?side1 ?side2 A31.out).mono ?_); (case side1 => have X_ := (Kd.C_below cK.out HB.out); exact TC); (case side2 => exact cJ.out); rintro e w36 ⟨v564, rfl, ho0, hb⟩; refine ⟨_, rfl, ?_⟩; have HO565 := aM (Kd.R_lower (Kd.R_new' (Kd.R_new' ho0 (Kd.R_lt (by have X_ := bc.out; exact TR))) (Kd.R_lt (by have X_ := bb.out; exact TR))) (below_size TB)); replace bc := aM (Kd.R_elder' (by have X_ := bc.out; exact TR) (Kd.R_base ho0) hb); replace bb := aM (Kd.R_elder' (by have X_ := bb.out; exact TR) (Kd.R_base ho0) hb); replace aT := aM (Kd.S_elder' (by have X_ := aT.out; exact TS) (Kd.R_base ho0) hb); replace ac := aM (blk_below (g := aa) (o := .cells #[.slice am aj.length al, .slice ao ak.length ap, .int .i64 af, .int .i64 ag, .int .i64 ah, .slice (some bP) ai.length an] 33 (0, 0)) TK hb); replace ae := aM (blk_below (g := gb543) (o := .cells #[.slice none 0 0, .slice none 0 0, .int .i64 0, .int .i64 0, .int .i64 0, .slice none 0 0] 33 (0, 0)) TK hb); replace aA := aM (blk_below (g := ab) (o := .cells #[.slice a6 aJ.length a9, .slice a8 aN.length a7, .int .i64 af, .int .i64 ag, .int .i64 ah, bh] 33 (0, 0)) TK hb); replace HB := aM (below_step TB hb); clear ho0 hb) | ((with_reducible refine gate_dst (N := 5) rfl ?_); refine gBx 5 #[.int .i64 0, .int .i64 0, .slice none 0 0, .int .i64 0, .int .i64 0, .int .i64 0] 55 ?_; intro gb569 hg w37 hbox hb; have BK569 := aM (hbox); have GW569 := aM ((by rw [hg]; exact (below_size TB) : w.heap.size ≤ gb569)); have GE569 := aM ((by rw [hg]; exact (below_size TB) : w.heap.size ≤ gb569)); have NB542_569 := aM ((by rw [hg]; exact Nat.ne_of_lt (blk_lt (g := aa) (o := .cells #[.slice am aj.length al, .slice ao ak.length ap, .int .i64 af, .int .i64 ag, .int .i64 ah, .slice (some bP) ai.length an] 33 (0, 0)) TK) : aa ≠ gb569)); have NB569_542 := aM ((by rw [hg]; exact Nat.ne_of_gt (blk_lt (g := aa) (o := .cells #[.slice am aj.length al, .slice ao ak.length ap, .int .i64 af, .int .i64 ag, .int .i64 ah, .slice (some bP) ai.length an] 33 (0, 0)) TK) : gb569 ≠ aa)); have NB543_569 := aM ((by rw [hg]; exact Nat.ne_of_lt (blk_lt (g := gb543) (o := .cells #[.slice none 0 0, .slice none 0 0, .int .i64 0, .int .i64 0, .int .i64 0, .slice none 0 0] 33 (0, 0)) TK) : gb543 ≠ gb569)); have NB569_543 := aM ((by rw [hg]; exact Nat.ne_of_gt (blk_lt (g := gb543) (o := .cells #[.slice none 0 0, .slice none 0 0, .int .i64 0, .int .i64 0, .int .i64 0, .slice none 0 0] 33 (0, 0)) TK) : gb569 ≠ gb543)); have NB559_569 := aM ((by rw [hg]; exact Nat.ne_of_lt (blk_lt (g := ab) (o := .cells #[.slice a6 aJ.length a9, .slice a8 aN.length a7, .int .i64 af, .int .i64 ag, .int .i64 ah, bh] 33 (0, 0)) TK) : ab ≠ gb569)); have NB569_559 := aM ((by rw [hg]; exact Nat.ne_of_gt (blk_lt (g := ab) (o := .cells #[.slice a6 aJ.length a9, .slice a8 aN.length a7, .int .i64 af, .int .i64 ag, .int .i64 ah, bh] 33 (0, 0)) TK) : gb569 ≠ ab)); replace bc := aM (Kd.R_below (by have X_ := bc.out; exact TR) hb); replace bb := aM (Kd.R_below (by have X_ := bb.out; exact TR) hb); replace aT := aM (Kd.S_below (Kd.S_elderB (by have X_ := aT.out; exact TS) gb569 (Nat.le_of_eq hg.symm)) hb); replace HO565 := aM (Kd.R_below (by have X_ := HO565.out; exact TR) hb); replace ac := aM (blk_below (g := aa) (o := .cells #[.slice am aj.length al, .slice ao ak.length ap, .int .i64 af, .int .i64 ag, .int .i64 ah, .slice (some bP) ai.length an] 33 (0, 0)) TK hb); replace ae := aM (blk_below (g := gb543) (o := .cells #[.slice none 0 0, .slice none 0 0, .int .i64 0, .int .i64 0, .int .i64 0, .slice none 0 0] 33 (0, 0)) TK hb); replace aA := aM (blk_below (g := ab) (o := .cells #[.slice a6 aJ.length a9, .slice a8 aN.length a7, .int .i64 af, .int .i64 ag, .int .i64 ah, bh] 33 (0, 0)) TK hb); replace HB := aM (below_step TB hb); clear hb hbox hg; have hnb38 := NB569_542.out; have hnc38 := NB542_569.out; have hnb39 := NB569_543.out; have hnc39 := NB543_569.out; have hnb40 := NB569_559.out; have hnc40 := NB559_569.out; obtain ⟨hcz41_0, hcz41_1, hcz41_2, hcz41_3, hcz41_4, hcz41_5⟩ := cz6 BK569.out; obtain ⟨hfz41_0, hfz41_1, hfz41_2, hfz41_3, hfz41_4, hfz41_5⟩ := fz6 BK569.out; obtain ⟨Ao42, co42, eo42⟩ := Kd.R_slice HO565.out; subst eo42) | ((with_reducible refine gate_store (t := 55) (p := 5) rfl ?_); refine store_event (t := 55) (p := 5) (v := ?vo_w43) (w1 := ((((((w37.setCell ⟨gb569, 0, none⟩ (.int .i64 bp)).setCell ⟨gb569, 1, none⟩ (.int .i64 bq)).setCell ⟨gb569, 2, none⟩ (.slice Ao42 bl.length co42)).setCell ⟨gb569, 3, none⟩ (.int .i64 bt)).setCell ⟨gb569, 4, none⟩ (.int .i64 bv)).setCell ⟨gb569, 5, none⟩ (.int .i64 bw))) ?hg ?ho ?hn ?hr ?_; (case ho => rfl); (case hg => rfl); (case hn => rfl); (case hr => first | (go_simp; done) | (go_simp; rfl)); intro w43 hw; have n0_ : Aside0 (Kd.R (Kd.int .u8) 5 w43 w.heap.size (fun k_ => some k_ ≠ (.slice a8 aN.length a7 : Value).ownBlock ∧ some k_ ≠ (.slice Ao42 bl.length co42 : Value).ownBlock) (.slice a6 aJ.length a9) aJ) := ⟨(by rw [hw]; exact (by (with_reducible repeat (first | apply Kd.R_alloc | apply Kd.R_drewN | apply Kd.R_drew)); exact Kd.R_mono (Kd.R_far (p := ⟨gb569, 5, none⟩) (Kd.R_far (p := ⟨gb569, 4, none⟩) (Kd.R_far (p := ⟨gb569, 3, none⟩) (Kd.R_far (p := ⟨gb569, 2, none⟩) (Kd.R_far (p := ⟨gb569, 1, none⟩) (Kd.R_far (p := ⟨gb569, 0, none⟩) (Kd.R_types bc.out BK569.out (by decide)) (fun _ hk => hk.2) (.int .i64 bp)) (fun _ hk => hk.2) (.int .i64 bq)) (fun _ hk => hk.2) (.slice Ao42 bl.length co42)) (fun _ hk => hk.2) (.int .i64 bt)) (fun _ hk => hk.2) (.int .i64 bv)) (fun _ hk => hk.2) (.int .i64 bw)) (fun _ hk => ⟨hk.1.1, hk.1.2⟩)))⟩; have n1_ : Aside0 (Kd.R (Kd.int .u8) 5 w43 w.heap.size (fun k_ => some k_ ≠ (.slice a6 aJ.length a9 : Value).ownBlock ∧ some k_ ≠ (.slice Ao42 bl.length co42 : Value).ownBlock) (.slice a8 aN.length a7) aN) := ⟨(by rw [hw]; exact (by (with_reducible repeat (first | apply Kd.R_alloc | apply Kd.R_drewN | apply Kd.R_drew)); exact Kd.R_mono (Kd.R_far (p := ⟨gb569, 5, none⟩) (Kd.R_far (p := ⟨gb569, 4, none⟩) (Kd.R_far (p := ⟨gb569, 3, none⟩) (Kd.R_far (p := ⟨gb569, 2, none⟩) (Kd.R_far (p := ⟨gb569, 1, none⟩) (Kd.R_far (p := ⟨gb569, 0, none⟩) (Kd.R_types bb.out BK569.out (by decide)) (fun _ hk => hk.2) (.int .i64 bp)) (fun _ hk => hk.2) (.int .i64 bq)) (fun _ hk => hk.2) (.slice Ao42 bl.length co42)) (fun _ hk => hk.2) (.int .i64 bt)) (fun _ hk => hk.2) (.int .i64 bv)) (fun _ hk => hk.2) (.int .i64 bw)) (fun _ hk => ⟨hk.1.1, hk.1.2⟩)))⟩; have n2_ : Aside0 (Kd.S k55 55 w43 w.heap.size (fun k_ => some k_ ≠ (.slice a6 aJ.length a9 : Value).ownBlock ∧ some k_ ≠ (.slice a8 aN.length a7 : Value).ownBlock ∧ some k_ ≠ (.slice Ao42 bl.length co42 : Value).ownBlock ∧ k_ ≠ gb569) bh bj) := ⟨(by rw [hw]; exact (by (with_reducible repeat (first | apply Kd.S_alloc | apply Kd.S_drewN | apply Kd.S_drew)); exact Kd.S_mono (Kd.S_far (p := ⟨gb569, 5, none⟩) (Kd.S_far (p := ⟨gb569, 4, none⟩) (Kd.S_far (p := ⟨gb569, 3, none⟩) (Kd.S_far (p := ⟨gb569, 2, none⟩) (Kd.S_far (p := ⟨gb569, 1, none⟩) (Kd.S_far (p := ⟨gb569, 0, none⟩) (Kd.S_mono aT.out (fun k_ hk => (⟨hk, hk.2⟩ : _ ∧ k_ ≠ gb569))) (fun _ hk => hk.2) (.int .i64 bp)) (fun _ hk => hk.2) (.int .i64 bq)) (fun _ hk => hk.2) (.slice Ao42 bl.length co42)) (fun _ hk => hk.2) (.int .i64 bt)) (fun _ hk => hk.2) (.int .i64 bv)) (fun _ hk => hk.2) (.int .i64 bw)) (fun _ hk => ⟨hk.1.1.1.1, ⟨hk.1.1.1.2, ⟨hk.1.1.2, hk.1.2⟩⟩⟩)))⟩; have n3_ : Aside0 (Kd.R (Kd.int .u8) 5 w43 w.heap.size (fun k_ => some k_ ≠ (.slice a6 aJ.length a9 : Value).ownBlock ∧ some k_ ≠ (.slice a8 aN.length a7 : Value).ownBlock) (.slice Ao42 bl.length co42) bl) := ⟨(by rw [hw]; exact (by (with_reducible repeat (first | apply Kd.R_alloc | apply Kd.R_drewN | apply Kd.R_drew)); exact Kd.R_mono (Kd.R_far (p := ⟨gb569, 5, none⟩) (Kd.R_far (p := ⟨gb569, 4, none⟩) (Kd.R_far (p := ⟨gb569, 3, none⟩) (Kd.R_far (p := ⟨gb569, 2, none⟩) (Kd.R_far (p := ⟨gb569, 1, none⟩) (Kd.R_far (p := ⟨gb569, 0, none⟩) (Kd.R_types HO565.out BK569.out (by decide)) (fun _ hk => hk.2) (.int .i64 bp)) (fun _ hk => hk.2) (.int .i64 bq)) (fun _ hk => hk.2) (.slice Ao42 bl.length co42)) (fun _ hk => hk.2) (.int .i64 bt)) (fun _ hk => hk.2) (.int .i64 bv)) (fun _ hk => hk.2) (.int .i64 bw)) (fun _ hk => ⟨hk.1.1.2, hk.1.2⟩)))⟩; have n4_ : Aside0 (w43.heap[aa]? = some (.cells #[.slice am aj.length al, .slice ao ak.length ap, .int .i64 af, .int .i64 ag, .int .i64 ah, .slice (some bP) ai.length an] 33 (0, 0))) := ⟨(by rw [hw]; exact (by (with_reducible repeat (first | refine blk_drewN ?_ _ | refine blk_drew ?_ | refine blk_alloc ?_ _)); refine blk_far ?_ NB542_569.out _; (with_reducible repeat (first | refine blk_drewN ?_ _ | refine blk_drew ?_ | refine blk_alloc ?_ _)); refine blk_far ?_ NB542_569.out _; (with_reducible repeat (first | refine blk_drewN ?_ _ | refine blk_drew ?_ | refine blk_alloc ?_ _)); refine blk_far ?_ NB542_569.out _; (with_reducible repeat (first | refine blk_drewN ?_ _ | refine blk_drew ?_ | refine blk_alloc ?_ _)); refine blk_far ?_ NB542_569.out _; (with_reducible repeat (first | refine blk_drewN ?_ _ | refine blk_drew ?_ | refine blk_alloc ?_ _)); refine blk_far ?_ NB542_569.out _; (with_reducible repeat (first | refine blk_drewN ?_ _ | refine blk_drew ?_ | refine blk_alloc ?_ _)); refine blk_far ?_ NB542_569.out _; (with_reducible repeat (first | refine blk_drewN ?_ _ | refine blk_drew ?_ | refine blk_alloc ?_ _)); exact ac.out))⟩; have n5_ : Aside0 (w43.heap[gb543]? = some (.cells #[.slice none 0 0, .slice none 0 0, .int .i64 0, .int .i64 0, .int .i64 0, .slice none 0 0] 33 (0, 0))) := ⟨(by rw [hw]; exact (by (with_reducible repeat (first | refine blk_drewN ?_ _ | refine blk_drew ?_ | refine blk_alloc ?_ _)); refine blk_far ?_ NB543_569.out _; (with_reducible repeat (first | refine blk_drewN ?_ _ | refine blk_drew ?_ | refine blk_alloc ?_ _)); refine blk_far ?_ NB543_569.out _; (with_reducible repeat (first | refine blk_drewN ?_ _ | refine blk_drew ?_ | refine blk_alloc ?_ _)); refine blk_far ?_ NB543_569.out _; (with_reducible repeat (first | refine blk_drewN ?_ _ | refine blk_drew ?_ | refine blk_alloc ?_ _)); refine blk_far ?_ NB543_569.out _; (with_reducible repeat (first | refine blk_drewN ?_ _ | refine blk_drew ?_ | refine blk_alloc ?_ _)); refine blk_far ?_ NB543_569.out _; (with_reducible repeat (first | refine blk_drewN ?_ _ | refine blk_drew ?_ | refine blk_alloc ?_ _)); refine blk_far ?_ NB543_569.out _; (with_reducible repeat (first | refine blk_drewN ?_ _ | refine blk_drew ?_ | refine blk_alloc ?_ _)); exact ae.out))⟩; have n6_ : Aside0 (w43.heap[ab]? = some (.cells #[.slice a6 aJ.length a9, .slice a8 aN.length a7, .int .i64 af, .int .i64 ag, .int .i64 ah, bh] 33 (0, 0))) := ⟨(by rw [hw]; exact (by (with_reducible repeat (first | refine blk_drewN ?_ _ | refine blk_drew ?_ | refine blk_alloc ?_ _)); refine blk_far ?_ NB559_569.out _; (with_reducible repeat (first | refine blk_drewN ?_ _ | refine blk_drew ?_ | refine blk_alloc ?_ _)); refine blk_far ?_ NB559_569.out _; (with_reducible repeat (first | refine blk_drewN ?_ _ | refine blk_drew ?_ | refine blk_alloc ?_ _)); refine blk_far ?_ NB559_569.out _; (with_reducible repeat (first | refine blk_drewN ?_ _ | refine blk_drew ?_ | refine blk_alloc ?_ _)); refine blk_far ?_ NB559_569.out _; (with_reducible repeat (first | refine blk_drewN ?_ _ | refine blk_drew ?_ | refine blk_alloc ?_ _)); refine blk_far ?_ NB559_569.out _; (with_reducible repeat (first | refine blk_drewN ?_ _ | refine blk_drew ?_ | refine blk_alloc ?_ _)); refine blk_far ?_ NB559_569.out _; (with_reducible repeat (first | refine blk_drewN ?_ _ | refine blk_drew ?_ | refine blk_alloc ?_ _)); exact aA.out))⟩; have n7_ : Aside0 (w43.heap[gb569]? = some (.cells #[.int .i64 bp, .int .i64 bq, .slice Ao42 bl.length co42, .int .i64 bt, .int .i64 bv, .int .i64 bw] 55 (0, 0))) := ⟨(by rw [hw]; exact (by (with_reducible repeat (first | refine blk_drewN ?_ _ | refine blk_drew ?_ | refine blk_alloc ?_ _)); refine blk_put (cs := #[.int .i64 bp, .int .i64 bq, .slice Ao42 bl.length co42, .int .i64 bt, .int .i64 bv, .int .i64 0]) ?_ 5 _ rfl; (with_reducible repeat (first | refine blk_drewN ?_ _ | refine blk_drew ?_ | refine blk_alloc ?_ _)); refine blk_put (cs := #[.int .i64 bp, .int .i64 bq, .slice Ao42 bl.length co42, .int .i64 bt, .int .i64 0, .int .i64 0]) ?_ 4 _ rfl; (with_reducible repeat (first | refine blk_drewN ?_ _ | refine blk_drew ?_ | refine blk_alloc ?_ _)); refine blk_put (cs := #[.int .i64 bp, .int .i64 bq, .slice Ao42 bl.length co42, .int .i64 0, .int .i64 0, .int .i64 0]) ?_ 3 _ rfl; (with_reducible repeat (first | refine blk_drewN ?_ _ | refine blk_drew ?_ | refine blk_alloc ?_ _)); refine blk_put (cs := #[.int .i64 bp, .int .i64 bq, .slice none 0 0, .int .i64 0, .int .i64 0, .int .i64 0]) ?_ 2 _ rfl; (with_reducible repeat (first | refine blk_drewN ?_ _ | refine blk_drew ?_ | refine blk_alloc ?_ _)); refine blk_put (cs := #[.int .i64 bp, .int .i64 0, .slice none 0 0, .int .i64 0, .int .i64 0, .int .i64 0]) ?_ 1 _ rfl; (with_reducible repeat (first | refine blk_drewN ?_ _ | refine blk_drew ?_ | refine blk_alloc ?_ _)); refine blk_put (cs := #[.int .i64 0, .int .i64 0, .slice none 0 0, .int .i64 0, .int .i64 0, .int .i64 0]) ?_ 0 _ rfl; (with_reducible repeat (first | refine blk_drewN ?_ _ | refine blk_drew ?_ | refine blk_alloc ?_ _)); exact BK569.out))⟩; have n8_ : Aside0 (Below w.heap.size w w43) := ⟨(by rw [hw]; exact TB)⟩; clear hw; clear bc; clear bb; clear aT; clear HO565; clear ac; clear ae; clear aA; clear BK569; clear HB; have bc := n0_; have bb := n1_; have aT := n2_; have HO565 := n3_; have ac := n4_; have ae := n5_; have aA := n6_; have BK569 := n7_; have HB := n8_; clear n0_ n1_ n2_ n3_ n4_ n5_ n6_ n7_ n8_; have hnb44 := aw.out; have hnc44 := au.out; obtain ⟨hcz45_0, hcz45_1, hcz45_2, hcz45_3, hcz45_4, hcz45_5⟩ := cz6 aA.out; obtain ⟨hfz45_0, hfz45_1, hfz45_2, hfz45_3, hfz45_4, hfz45_5⟩ := fz6 aA.out; obtain ⟨hcz46_0, hcz46_1, hcz46_2, hcz46_3, hcz46_4, hcz46_5⟩ := cz6 BK569.out; obtain ⟨hfz46_0, hfz46_1, hfz46_2, hfz46_3, hfz46_4, hfz46_5⟩ := fz6 BK569.out) | ((with_reducible refine gate_builtin (b := .append) (xs := #[.tmp 32, .tmp 34]) rfl ?_); at_builtin; refine Kd.S_append k55 (w0 := w) w.heap.size rfl (.tmp 32) (.tmp 34) 31 55 (.agg #[(.int .i64 0), (.int .i64 0), (.slice none 0 0), (.int .i64 0), (.int .i64 0), (.int .i64 0)]) 64 rfl Try.underlying31 info55 rfl (by decide) (by omega) bh bj (⟨bp, bq, bl, (⟨bt, bv, bw⟩ : S30)⟩ : S55) [.int .i64 bp, .int .i64 bq, .slice Ao42 bl.length co42, .int .i64 bt, .int .i64 bv, .int .i64 bw] (fun k_ => some k_ ≠ (.slice a6 aJ.length a9 : Value).ownBlock ∧ some k_ ≠ (.slice a8 aN.length a7 : Value).ownBlock ∧ k_ ≠ gb569) (fun k_ => some k_ = (.slice Ao42 bl.length co42 : Value).ownBlock) rfl rfl ?aP (fun k_ hk_ => ((Kd.R_mono (ok' := fun k_ => ((fun k_ => some k_ ≠ (.slice a6 aJ.length a9 : Value).ownBlock ∧ some k_ ≠ (.slice a8 aN.length a7 : Value).ownBlock ∧ k_ ≠ gb569)) k_ ∧ some k_ ≠ (bh : Value).ownBlock) (Kd.R_types (Kd.R_apart' (HO565.out) (Kd.S_typed aT.out) (by decide)) BK569.out (by decide)) (fun k_ hk => ⟨⟨hk.1.1.1, ⟨hk.1.1.2, hk.2⟩⟩, hk.1.2⟩))).1 k_ hk_.symm) ?aF ?aO ?aB ?aS ?aL ?_; (case aP => exact k55_mkM _ _ _ (⟨bp, bq, bl, (⟨bt, bv, bw⟩ : S30)⟩ : S55) (Kd.R_mono (Kd.R_tight rfl (Kd.R_mono (ok' := fun k_ => ((fun k_ => some k_ ≠ (.slice a6 aJ.length a9 : Value).ownBlock ∧ some k_ ≠ (.slice a8 aN.length a7 : Value).ownBlock ∧ k_ ≠ gb569)) k_ ∧ some k_ ≠ (bh : Value).ownBlock) (Kd.R_types (Kd.R_apart' (HO565.out) (Kd.S_typed aT.out) (by decide)) BK569.out (by decide)) (fun k_ hk => ⟨⟨hk.1.1.1, ⟨hk.1.1.2, hk.2⟩⟩, hk.1.2⟩))) (fun _ h_ => h_))); (case aB => exact TB); (case aF => exact (fun k_ hk => ⟨Kd.fresh' (Kd.R_lt (by have X_ := bc.out; exact TR)) k_ hk, Kd.fresh' (Kd.R_lt (by have X_ := bb.out; exact TR)) k_ hk, Kd.freshB (g := gb569) (o := .cells #[.int .i64 bp, .int .i64 bq, .slice Ao42 bl.length co42, .int .i64 bt, .int .i64 bv, .int .i64 bw] 55 (0, 0)) TK k_ hk⟩)); (case aO => exact (by (with_reducible repeat (first | apply Kd.S_alloc | apply Kd.S_drewN | apply Kd.S_drew)); exact Kd.S_mono aT.out (fun k_ hk => ⟨⟨hk.1, ⟨hk.2.1, hk.2.2.2⟩⟩, fun e_ => hk.2.2.1 e_⟩))); (case aS => exact (below_size TB)); (case aL => have := LMc32.out; omega); intro v571 w47 ho hb hg hat; rw [← Ny570.out] at ho; have HO572 := aM (ho); replace bc := aM (Kd.R_over' (by have X_ := bc.out; exact TR) (Kd.S_typed (by have X_ := aT.out; exact TS)) (by decide) hg); replace bb := aM (Kd.R_over' (by have X_ := bb.out; exact TR) (Kd.S_typed (by have X_ := aT.out; exact TS)) (by decide) hg); replace ac := aM (blk_grown (g := aa) (o := .cells #[.slice am aj.length al, .slice ao ak.length ap, .int .i64 af, .int .i64 ag, .int .i64 ah, .slice (some bP) ai.length an] 33 (0, 0)) TK hg (Kd.S_ne aT.out ac.out (by decide))); replace ae := aM (blk_grown (g := gb543) (o := .cells #[.slice none 0 0, .slice none 0 0, .int .i64 0, .int .i64 0, .int .i64 0, .slice none 0 0] 33 (0, 0)) TK hg (Kd.S_ne aT.out ae.out (by decide))); replace aA := aM (blk_grown (g := ab) (o := .cells #[.slice a6 aJ.length a9, .slice a8 aN.length a7, .int .i64 af, .int .i64 ag, .int .i64 ah, bh] 33 (0, 0)) TK hg (Kd.S_ne aT.out aA.out (by decide))); replace BK569 := aM (blk_grown (g := gb569) (o := .cells #[.int .i64 bp, .int .i64 bq, .slice Ao42 bl.length co42, .int .i64 bt, .int .i64 bv, .int .i64 bw] 55 (0, 0)) TK hg (Kd.S_away aT.out (fun _ hk => hk.2.2.2))); replace HB := aM (hb); clear aT; clear HO565; clear ho hb hg hat; obtain ⟨Ao48, co48, eo48⟩ := Kd.S_slice HO572.out; subst eo48; obtain ⟨hcz49_0, hcz49_1, hcz49_2, hcz49_3, hcz49_4, hcz49_5⟩ := cz6 aA.out; obtain ⟨hfz49_0, hfz49_1, hfz49_2, hfz49_3, hfz49_4, hfz49_5⟩ := fz6 aA.out))
    go_roundg k1
    case measure => have := HK1.out; omega
    case rel => exact ⟨(wrap64 (bk + 1)), (ca), (.slice Ao48 ca.length co48), (by first | rfl | (simp; done) | (simp [*]; done)), H', ⟨by have := HK1.out; omega⟩, ⟨by (with_reducible repeat (first | apply Kd.R_alloc | apply Kd.R_drewN | apply Kd.R_drew)); exact Kd.R_mono (Kd.R_far (p := ⟨ab, 5, none⟩) (Kd.R_types bc.out aA.out (by decide)) (fun _ hk => hk.2) (.slice Ao48 ca.length co48)) (fun _ hk => hk.1.1)⟩, ⟨by (with_reducible repeat (first | apply Kd.R_alloc | apply Kd.R_drewN | apply Kd.R_drew)); exact Kd.R_mono (Kd.R_far (p := ⟨ab, 5, none⟩) (Kd.R_types bb.out aA.out (by decide)) (fun _ hk => hk.2) (.slice Ao48 ca.length co48)) (fun _ hk => hk.1.1)⟩, ⟨by (with_reducible repeat (first | apply Kd.S_alloc | apply Kd.S_drewN | apply Kd.S_drew)); exact Kd.S_mono (Kd.S_far (p := ⟨ab, 5, none⟩) (Kd.S_types HO572.out aA.out (by decide)) (fun _ hk => hk.2) (.slice Ao48 ca.length co48)) (fun _ hk => ⟨hk.1.1, hk.1.2.1⟩)⟩, ⟨by (with_reducible repeat (first | refine blk_drewN ?_ _ | refine blk_drew ?_ | refine blk_alloc ?_ _)); refine blk_far ?_ ad.out _; (with_reducible repeat (first | refine blk_drewN ?_ _ | refine blk_drew ?_ | refine blk_alloc ?_ _)); exact ac.out⟩, ⟨by (with_reducible repeat (first | refine blk_drewN ?_ _ | refine blk_drew ?_ | refine blk_alloc ?_ _)); refine blk_far ?_ au.out _; (with_reducible repeat (first | refine blk_drewN ?_ _ | refine blk_drew ?_ | refine blk_alloc ?_ _)); exact ae.out⟩, ⟨by (with_reducible repeat (first | refine blk_drewN ?_ _ | refine blk_drew ?_ | refine blk_alloc ?_ _)); refine blk_put (cs := #[.slice a6 aJ.length a9, .slice a8 aN.length a7, .int .i64 af, .int .i64 ag, .int .i64 ah, bh]) ?_ 5 _ rfl; (with_reducible repeat (first | refine blk_drewN ?_ _ | refine blk_drew ?_ | refine blk_alloc ?_ _)); exact aA.out⟩, ⟨TB⟩⟩
   ·rw [if_neg c29] at H
    have c29b0 : decide (bk < (ai.length : Int)) = false := decide_eq_false c29
    clear c29
    simp only [Option.some.injEq, Prod.mk.injEq] at H
    obtain ⟨rfl, rfl, rfl, rfl, rfl, rfl⟩ := H
    have hnb50 := NB542_543.out
    have hnc50 := NB543_542.out
    have hnb51 := ad.out
    have hnc51 := ax.out
    obtain ⟨hcz52_0, hcz52_1, hcz52_2, hcz52_3, hcz52_4, hcz52_5⟩ := cz6 ac.out
    obtain ⟨hfz52_0, hfz52_1, hfz52_2, hfz52_3, hfz52_4, hfz52_5⟩ := fz6 ac.out
    have hnb53 := aw.out
    have hnc53 := au.out
    obtain ⟨hcz54_0, hcz54_1, hcz54_2, hcz54_3, hcz54_4, hcz54_5⟩ := cz6 aA.out
    obtain ⟨hfz54_0, hfz54_1, hfz54_2, hfz54_3, hfz54_4, hfz54_5⟩ := fz6 aA.out
    obtain ⟨hcz55_0, hcz55_1, hcz55_2, hcz55_3, hcz55_4, hcz55_5⟩ := cz6 ae.out
    obtain ⟨hfz55_0, hfz55_1, hfz55_2, hfz55_3, hfz55_4, hfz55_5⟩ := fz6 ae.out
    obtain ⟨cp, co, eo56⟩ := Kd.S_slice aT.out
    subst eo56
    go_wp2
    refine bodyPost_ret (results_cell_row rfl _ _ gb543 33 #[.slice a6 aJ.length a9, .slice a8 aN.length a7, .int .i64 af, .int .i64 ag, .int .i64 ah, .slice cp bj.length co] (0, 0) _ rfl (by (with_reducible repeat (first | refine blk_drewN ?_ _ | refine blk_drew ?_ | refine blk_alloc ?_ _)); refine blk_put (cs := #[.slice a6 aJ.length a9, .slice a8 aN.length a7, .int .i64 af, .int .i64 ag, .int .i64 ah, .slice none 0 0]) ?_ 5 _ rfl; (with_reducible repeat (first | refine blk_drewN ?_ _ | refine blk_drew ?_ | refine blk_alloc ?_ _)); refine blk_put (cs := #[.slice a6 aJ.length a9, .slice a8 aN.length a7, .int .i64 af, .int .i64 ag, .int .i64 0, .slice none 0 0]) ?_ 4 _ rfl; (with_reducible repeat (first | refine blk_drewN ?_ _ | refine blk_drew ?_ | refine blk_alloc ?_ _)); refine blk_put (cs := #[.slice a6 aJ.length a9, .slice a8 aN.length a7, .int .i64 af, .int .i64 0, .int .i64 0, .slice none 0 0]) ?_ 3 _ rfl; (with_reducible repeat (first | refine blk_drewN ?_ _ | refine blk_drew ?_ | refine blk_alloc ?_ _)); refine blk_put (cs := #[.slice a6 aJ.length a9, .slice a8 aN.length a7, .int .i64 0, .int .i64 0, .int .i64 0, .slice none 0 0]) ?_ 2 _ rfl; (with_reducible repeat (first | refine blk_drewN ?_ _ | refine blk_drew ?_ | refine blk_alloc ?_ _)); refine blk_put (cs := #[.slice a6 aJ.length a9, .slice none 0 0, .int .i64 0, .int .i64 0, .int .i64 0, .slice none 0 0]) ?_ 1 _ rfl; (with_reducible repeat (first | refine blk_drewN ?_ _ | refine blk_drew ?_ | refine blk_alloc ?_ _)); refine blk_put (cs := #[.slice none 0 0, .slice none 0 0, .int .i64 0, .int .i64 0, .int .i64 0, .slice none 0 0]) ?_ 0 _ rfl; (with_reducible repeat (first | refine blk_drewN ?_ _ | refine blk_drew ?_ | refine blk_alloc ?_ _)); exact ae.out) Try.underlying33 rfl (by kernel_rfl)) rfl ?_
    exact ⟨_, _, _, by first | rfl | (simp [errW_none, errW_some] <;> rfl) | (simp [*, errW_none, errW_some] <;> rfl), by (with_reducible repeat (first | apply Kd.R_alloc | apply Kd.R_drewN | apply Kd.R_drew)); exact Kd.R_mono (Kd.R_far (p := ⟨gb543, 5, none⟩) (Kd.R_far (p := ⟨gb543, 4, none⟩) (Kd.R_far (p := ⟨gb543, 3, none⟩) (Kd.R_far (p := ⟨gb543, 2, none⟩) (Kd.R_far (p := ⟨gb543, 1, none⟩) (Kd.R_far (p := ⟨gb543, 0, none⟩) (Kd.R_types bc.out ae.out (by decide)) (fun _ hk => hk.2) (.slice a6 aJ.length a9)) (fun _ hk => hk.2) (.slice a8 aN.length a7)) (fun _ hk => hk.2) (.int .i64 af)) (fun _ hk => hk.2) (.int .i64 ag)) (fun _ hk => hk.2) (.int .i64 ah)) (fun _ hk => hk.2) (.slice cp bj.length co)) (fun _ hk => hk.1), by (with_reducible repeat (first | apply Kd.R_alloc | apply Kd.R_drewN | apply Kd.R_drew)); exact Kd.R_mono (Kd.R_far (p := ⟨gb543, 5, none⟩) (Kd.R_far (p := ⟨gb543, 4, none⟩) (Kd.R_far (p := ⟨gb543, 3, none⟩) (Kd.R_far (p := ⟨gb543, 2, none⟩) (Kd.R_far (p := ⟨gb543, 1, none⟩) (Kd.R_far (p := ⟨gb543, 0, none⟩) (Kd.R_types bb.out ae.out (by decide)) (fun _ hk => hk.2) (.slice a6 aJ.length a9)) (fun _ hk => hk.2) (.slice a8 aN.length a7)) (fun _ hk => hk.2) (.int .i64 af)) (fun _ hk => hk.2) (.int .i64 ag)) (fun _ hk => hk.2) (.int .i64 ah)) (fun _ hk => hk.2) (.slice cp bj.length co)) (fun _ hk => hk.1), by (with_reducible repeat (first | apply Kd.S_alloc | apply Kd.S_drewN | apply Kd.S_drew)); exact Kd.S_mono (Kd.S_far (p := ⟨gb543, 5, none⟩) (Kd.S_far (p := ⟨gb543, 4, none⟩) (Kd.S_far (p := ⟨gb543, 3, none⟩) (Kd.S_far (p := ⟨gb543, 2, none⟩) (Kd.S_far (p := ⟨gb543, 1, none⟩) (Kd.S_far (p := ⟨gb543, 0, none⟩) (Kd.S_types aT.out ae.out (by decide)) (fun _ hk => hk.2) (.slice a6 aJ.length a9)) (fun _ hk => hk.2) (.slice a8 aN.length a7)) (fun _ hk => hk.2) (.int .i64 af)) (fun _ hk => hk.2) (.int .i64 ag)) (fun _ hk => hk.2) (.int .i64 ah)) (fun _ hk => hk.2) (.slice cp bj.length co)) (fun _ hk => ⟨hk.1.1, hk.1.2⟩), TB⟩

end Go.Proofs.Ytogilihkphjjbaa.Q
