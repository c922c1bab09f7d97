/- Functions of the program as plain Lean functions, and that a call of each comes to what its function tells. Written by a program of this seat. -/
import Derived.Test.YtaofakpljnkplaaQ0
import Derived.Test.YtaofakpljnkplaaQ20
import Derived.Test.YtaofakpljnkplaaQ32
import Derived.Test.YtaofakpljnkplaaQ33
import Derived.Test.YtaofakpljnkplaaQ35
namespace Go.Proofs.Ytaofakpljnkplaa.Q
open Go.RowKit Go.Proofs.YtaofakpljnkplaaW.PrintWords Go.Proofs.YtaofakpljnkplaaW.PrintLast Go.Proofs.YtaofakpljnkplaaW.PrintMore
attribute [local go_sem] min2_int min_two
set_option linter.unusedVariables false
set_option linter.unusedSimpArgs false

def impl_AllFalls.l0 : Nat → List S47 → Int → Int → List Int → List Int → Int → Int → Int → List S104 → Option (List S47)
  | 0, _, _, _, _, _, _, _, _, _ => none
  | k + 1, x, n, i, a, b, c, d, e, l => if i < n then ((impl_Fall.f k a b c d e l i).bind fun z => (if x.length < 1466015503701 then (impl_AllFalls.l0 k (x ++ [(⟨z.1, z.2.1, (⟨z.2.2.1, z.2.2.2.1, z.2.2.2.2.1⟩ : S44), z.2.2.2.2.2⟩ : S47)]) n (wrap64 (i + 1)) a b c d e l) else (none))) else (some x)
def impl_AllFalls.f (k : Nat) (l0_0 : List Int) (l0_1 : List Int) (a0_2 : Int) (a0_3 : Int) (a0_4 : Int) (l0_5 : List S104) : Option (List S47) := impl_AllFalls.l0 k [] (wrap64 (2 ^ (mn 6 (l0_5.length : Int)).toNat)) 0 l0_0 l0_1 a0_2 a0_3 a0_4 l0_5
theorem impl_AllFalls.mono_l : ∀ k, (∀ y0 y1 y2 y3 y4 y5 y6 y7 y8, LeO (impl_AllFalls.l0 k y0 y1 y2 y3 y4 y5 y6 y7 y8) (impl_AllFalls.l0 (k + 1) y0 y1 y2 y3 y4 y5 y6 y7 y8))
  | 0 => fun _ _ _ _ _ _ _ _ _ r h => by simp [impl_AllFalls.l0] at h
  | k + 1 => by
    have m0_ := @impl_Fall.mono
    have ih0 := impl_AllFalls.mono_l k
    intro y0 y1 y2 y3 y4 y5 y6 y7 y8
    unfold impl_AllFalls.l0
    exact LM
theorem impl_AllFalls.mono : ∀ a0 a1 a2 a3 a4 a5 k, LeO (impl_AllFalls.f k a0 a1 a2 a3 a4 a5) (impl_AllFalls.f (k + 1) a0 a1 a2 a3 a4 a5) := by
  intro a0 a1 a2 a3 a4 a5 k;have ih0 := impl_AllFalls.mono_l k;exact ih0 _ _ _ _ _ _ _ _ _
theorem info47 : (Try.prog.info? 47).map (fun i => (i.zero, i.size, i.bytes)) = some (some (.agg #[(.slice none 0 0), (.slice none 0 0), (.int .i64 0), (.int .i64 0), (.int .i64 0), (.slice none 0 0)]), 6, 96) := by kernel_rfl
def kD : Kd S47 where
  sz := 6
  E := 5 :: 104 :: k104.E
  K := k47.K
  M := fun w base ok x cs => ∃ vA vB vP, cs = [vA, vB, .int .i64 x.f2.f0, .int .i64 x.f2.f1, .int .i64 x.f2.f2, vP] ∧ DskI w base ok vA vB vP x.f0 x.f1 x.f3
  K_len := fun h => k47.K_len h
  K_one := fun h => k47.K_one h
  K_below := fun hb h => k47.K_below hb h
  K_of_M := by
    rintro w base ok x cs ⟨vA, vB, vP, rfl, h1, h2, h3⟩
    obtain ⟨A0, c0, rfl⟩ := Kd.R_slice h1
    obtain ⟨A1, c1, rfl⟩ := Kd.R_slice h2
    obtain ⟨A5, c5, rfl⟩ := Kd.S_slice h3
    exact k47_mk w x (Kd.R_reads' h1).2.1 (Kd.R_reads' h1).2.2 (Kd.R_reads' h2).2.1 (Kd.R_reads' h2).2.2 (Kd.S_reads' h3).2.1 (Kd.S_reads' h3).2.2
  M_mono := by
    rintro w base ok ok' x cs hk ⟨vA, vB, vP, rfl, h1, h2, h3⟩
    exact ⟨vA, vB, vP, rfl, Kd.R_mono h1 (fun k q => ⟨hk k q.1, q.2⟩), Kd.R_mono h2 (fun k q => ⟨hk k q.1, q.2⟩), Kd.S_mono h3 (fun k q => ⟨hk k q.1, q.2⟩)⟩
  M_bound := by
    rintro w base ok x cs ⟨vA, vB, vP, rfl, h1, h2, h3⟩
    refine ⟨vA, vB, vP, rfl, Kd.R_mono (Kd.R_bound h1) (fun k q => ⟨⟨q.1.1, q.2.1, q.2.2.1, ?_⟩, q.1.2⟩), Kd.R_mono (Kd.R_bound h2) (fun k q => ⟨⟨q.1.1, q.2.1, q.2.2.1, ?_⟩, q.1.2⟩), Kd.S_mono (Kd.S_bound h3) (fun k q => ⟨⟨q.1.1, q.2.1, q.2.2.1, ?_⟩, q.1.2⟩)⟩
    · obtain ⟨t, ht, cells, hc⟩ := q.2.2.2
      exact ⟨t, (by rcases List.mem_cons.1 ht with e | e; exact List.mem_cons.2 (.inl e); cases e), cells, hc⟩
    · obtain ⟨t, ht, cells, hc⟩ := q.2.2.2
      exact ⟨t, (by rcases List.mem_cons.1 ht with e | e; exact List.mem_cons.2 (.inl e); cases e), cells, hc⟩
    · obtain ⟨t, ht, cells, hc⟩ := q.2.2.2
      exact ⟨t, List.mem_cons.2 (.inr ht), cells, hc⟩
  M_move := by
    rintro w w1 base ok x cs hk ⟨vA, vB, vP, rfl, h⟩
    exact ⟨vA, vB, vP, rfl, DskI.move h hk⟩
  M_lower := by
    rintro w base base' ok x cs hb ⟨vA, vB, vP, rfl, h1, h2, h3⟩
    exact ⟨vA, vB, vP, rfl, Kd.R_lower h1 hb, Kd.R_lower h2 hb, Kd.S_lower h3 hb⟩
theorem falls_at {W w' : World} {base g1 : Nat} {o : Obj} {v3 vA vB vP : Value} {xs : List S47} {lA lB : List Int} {lP : List S104} (ho1 : Kd.R (Kd.int .u8) 5 w' W.heap.size (fun k => some k ≠ vB.ownBlock) vA lA) (ho2 : Kd.R (Kd.int .u8) 5 w' W.heap.size (fun k => some k ≠ vA.ownBlock) vB lB) (ho3 : Kd.S k104 104 w' W.heap.size (fun k => some k ≠ vA.ownBlock ∧ some k ≠ vB.ownBlock) vP lP) (hb : Below W.heap.size W w')
    (HO : Kd.S kD 47 W base (fun k => k ≠ g1) v3 xs) (hB1 : W.heap[g1]? = some o) (hB : base ≤ W.heap.size) : ∃ N0, DskI w' base (fun k => N0 ≤ k) vA vB vP lA lB lP ∧ Kd.S kD 47 w' base (fun k => k ≠ g1 ∧ ¬ N0 ≤ k) v3 xs ∧ (∀ k, v3.ownBlock = some k → k < N0) ∧ g1 < N0 :=
  ⟨W.heap.size, ⟨Kd.R_lower (Kd.R_mono (Kd.R_bound ho1) (fun k q => ⟨q.2.1, q.1⟩)) hB, Kd.R_lower (Kd.R_mono (Kd.R_bound ho2) (fun k q => ⟨q.2.1, q.1⟩)) hB, Kd.S_lower (Kd.S_mono (Kd.S_bound ho3) (fun k q => ⟨q.2.1, q.1⟩)) hB⟩, Kd.S_mono (Kd.S_below (Kd.S_bound HO) hb) (fun k q => ⟨q.1, by have := q.2.2.1; omega⟩), Kd.S_lt HO, blk_lt hB1⟩
set_option maxHeartbeats 4000000 in
set_option maxRecDepth 100000 in
theorem impl_AllFalls.calls {k : Nat} {A0_0 : Option Addr} {c0_0 : Nat} {l0_0 : List Int} {A0_1 : Option Addr} {c0_1 : Nat} {l0_1 : List Int} {a0_2 : Int} {a0_3 : Int} {a0_4 : Int} {A0_5 : Option Addr} {c0_5 : Nat} {l0_5 : List (S104)} {r : List S47} {w : World} (hr0_0 : Kd.C (Kd.int .u8) w A0_0 l0_0.length l0_0) (hc0_0 : l0_0.length ≤ c0_0) (hr0_1 : Kd.C (Kd.int .u8) w A0_1 l0_1.length l0_1) (hc0_1 : l0_1.length ≤ c0_1) (hr0_5 : Kd.C k104 w A0_5 l0_5.length l0_5) (hc0_5 : l0_5.length ≤ c0_5) (h : impl_AllFalls.f k l0_0 l0_1 a0_2 a0_3 a0_4 l0_5 = some r) :
    Calls Try.prog 57 #[.agg #[.slice A0_0 l0_0.length c0_0, .slice A0_1 l0_1.length c0_1, .int .i64 a0_2, .int .i64 a0_3, .int .i64 a0_4, .slice A0_5 l0_5.length c0_5]] w fun e w' => ∃ v0_ : Value, e = .returned v0_ ∧ Kd.S kD 47 w' w.heap.size (fun _ => True) v0_ r ∧ Below w.heap.size w w' := by
  have hu47 := Try.underlying47
  have HR0 := aM (And.intro hr0_0 hc0_0)
  have HR1 := aM (And.intro hr0_1 hc0_1)
  have HR5 := aM (And.intro hr0_5 hc0_5)
  have HB := aM (Below.refl w.heap.size w)
  clear hr0_0 hc0_0 hr0_1 hc0_1 hr0_5 hc0_5
  unfold impl_AllFalls.f at h
  obtain ⟨ji, hji⟩ : ∃ j_ : Int, (mn 6 (l0_5.length : Int)) = j_ := ⟨_, rfl⟩
  rw [hji] at h
  have hjh : ji ≤ 6 := by (rw [← hji]; unfold mn; (repeat' split) <;> omega)
  have hjg : ji ≤ 64 := by omega
  have hjl : 0 ≤ ji := by (rw [← hji]; unfold mn; (repeat' split) <;> omega)
  have hji_ : (if (l0_5.length : Int) < 6 then (l0_5.length : Int) else 6) = ji := hji
  have H1 := aM h
  clear h
  go_enter Try.func57, Try.ntmps57
  go_wp2_with (first | ((with_reducible refine gate_dst (N := 1) rfl ?_); refine gBx 1 #[.slice A0_0 l0_0.length c0_0, .slice A0_1 l0_1.length c0_1, .int .i64 a0_2, .int .i64 a0_3, .int .i64 a0_4, .slice A0_5 l0_5.length c0_5] 47 ?_; intro g1 hg w2 hbox hb; have B1 := aM hbox; replace HB := aM (below_step HB.out hb); clear hb hbox hg; (simp only [Act.put, List.setIfInBounds_toArray, List.set_cons_zero, List.set_cons_succ])) | ((with_reducible refine gate_dst (N := 5) rfl ?_); refine Kd.S_lit kD _ 47 ?hg (N := 5) ?hd (xs := ([] : List S47)) (inner := []) (ok := fun _ => True) (okp := fun _ => True) ?hr ?hp (fun _ hk => hk) trivial (Below.refl _ _) (Nat.le_refl _) (by simp) ?_; (case hd => rfl); (case hg => rfl); (case hr => first | (go_simp; done) | (go_simp; rfl)); (case hp => exact (Reps.none _ _)); intro v3 w4 ho hb hg_ hnew_; have HO := aM (show Kd.S kD 47 _ w.heap.size (fun k => k ≠ g1) v3 [] from Kd.S_lower (Kd.S_mono (Kd.S_newB ho B1.out) (fun _ q => q.2)) HB.out.size); replace B1 := aM (blk_below B1.out hb); replace HB := aM (below_step HB.out hb); clear ho hb hg_ hnew_; (simp only [Act.put, List.setIfInBounds_toArray, List.set_cons_zero, List.set_cons_succ]); obtain ⟨hcz0, hcz1, hcz2, hcz3, hcz4, hcz5⟩ := cz6 B1.out))
  clear hcz0 hcz1 hcz2 hcz3 hcz4 hcz5
  go_loopg [3, 11] k (fun kq v3 v11 w' => ∃ (x : List S47) (i : Int), v11 = .int .i64 i ∧ Aside0 (impl_AllFalls.l0 kq x (wrap64 (2 ^ ji.toNat)) i l0_0 l0_1 a0_2 a0_3 a0_4 l0_5 = some r) ∧ Aside0 (kq ≤ k) ∧ Aside0 (Kd.S kD 47 w' w.heap.size (fun k => k ≠ g1) v3 x) ∧ Aside0 (w'.heap[g1]? = some (.cells #[.slice A0_0 l0_0.length c0_0, .slice A0_1 l0_1.length c0_1, .int .i64 a0_2, .int .i64 a0_3, .int .i64 a0_4, .slice A0_5 l0_5.length c0_5] 47 (0, 0))) ∧ Aside0 (Below w.heap.size w w'))
  case atStart => exact ⟨[], 0, rfl, H1, ⟨Nat.le_refl _⟩, HO, B1, HB⟩
  case round =>
    clear H1 HO B1 HB
    obtain ⟨x, i, rfl, HA, HK1, HO, B1, HB⟩ := hrel
    cases gk with
    | zero => exact absurd HA.out (by simp [impl_AllFalls.l0])
    | succ k1 =>
      have H := HA.out
      clear HA
      simp only [impl_AllFalls.l0] at H
      by_cases c3 : i < wrap64 (2 ^ ji.toNat)
      · rw [if_pos c3] at H
        have c3b : decide (i < wrap64 (2 ^ ji.toNat)) = true := decide_eq_true c3
        clear c3
        replace H := bE H
        obtain ⟨⟨f1, f2, f3, f4, f5, f6⟩, A5, H⟩ := H
        dsimp only at A5 H
        replace H := ifN H
        obtain ⟨cx, H⟩ := H
        have LX := aM cx
        have H' := aM H
        clear H cx
        go_wp2_with (first | ((with_reducible refine gate_dst (N := 15) rfl ?_); refine gLd 15 B1.out ?_; (simp only [Act.put, List.setIfInBounds_toArray, List.set_cons_zero, List.set_cons_succ])) | ((with_reducible refine gate_callee (f := 22) rfl ?_); refine gL (some 17) Try.func22 #[.agg #[.slice A0_0 l0_0.length c0_0, .slice A0_1 l0_1.length c0_1, .int .i64 a0_2, .int .i64 a0_3, .int .i64 a0_4, .slice A0_5 l0_5.length c0_5], .int .i64 i] ?_; refine (impl_Fall.calls (Kd.C_below HR0.out.1 HB.out) HR0.out.2 (Kd.C_below HR1.out.1 HB.out) HR1.out.2 (Kd.C_below HR5.out.1 HB.out) HR5.out.2 A5.out).mono ?_; rintro e_ w5 ⟨vA, vB, vP, rfl, ho1, ho2, ho3, hb⟩; refine ⟨_, rfl, ?_⟩; obtain ⟨N0, hM, hQ, hV, hZ⟩ := falls_at ho1 ho2 ho3 hb HO.out B1.out HB.out.size; obtain ⟨A7, c7, h1'⟩ := Kd.R_slice ho1; subst h1'; obtain ⟨A8, c8, h2'⟩ := Kd.R_slice ho2; subst h2'; obtain ⟨A9, c9, h3'⟩ := Kd.S_slice ho3; subst h3'; have HM := aM (show kD.M _ w.heap.size (fun k => N0 ≤ k) (⟨f1, f2, (⟨f3, f4, f5⟩ : S44), f6⟩ : S47) [.slice A7 f1.length c7, .slice A8 f2.length c8, .int .i64 f3, .int .i64 f4, .int .i64 f5, .slice A9 f6.length c9] from ⟨_, _, _, rfl, hM⟩); have HQ := aM hQ; have HV := aM hV; have HZ := aM hZ; replace B1 := aM (blk_below B1.out hb); replace HB := aM (below_step HB.out hb); clear ho1 ho2 ho3 hb HO hM hQ hV hZ; (simp only [Act.put, List.setIfInBounds_toArray, List.set_cons_zero, List.set_cons_succ])) | ((with_reducible refine gate_builtin (b := .append) (xs := #[.tmp 14, .tmp 18]) rfl ?_); at_builtin; refine Kd.S_append kD (w0 := w) w.heap.size rfl (.tmp 14) (.tmp 18) 86 47 (.agg #[(.slice none 0 0), (.slice none 0 0), (.int .i64 0), (.int .i64 0), (.int .i64 0), (.slice none 0 0)]) 96 rfl Try.underlying86 info47 rfl (by decide) (by omega) u3 x (⟨f1, f2, (⟨f3, f4, f5⟩ : S44), f6⟩ : S47) [.slice A7 f1.length c7, .slice A8 f2.length c8, .int .i64 f3, .int .i64 f4, .int .i64 f5, .slice A9 f6.length c9] (fun k => k ≠ g1) (fun k => N0 ≤ k) rfl rfl HM.out (fun k q => ⟨by have := HZ.out; omega, fun e => by have := HV.out k e.symm; omega⟩) (fun k q => Kd.freshB B1.out k q) HQ.out HB.out HB.out.size (by have := LX.out; omega) ?_; intro v1 w8 ho hb hg hat; replace B1 := aM (blk_grown B1.out hg (Kd.S_away HQ.out (fun k q => q.1))); have HO := aM ho; replace HB := aM hb; clear ho hb hg hat HQ HM HV HZ; (simp only [Act.put, List.setIfInBounds_toArray, List.set_cons_zero, List.set_cons_succ])))
        go_roundg k1
        case measure => have := HK1.out; omega
        case rel => exact ⟨_, _, rfl, H', ⟨by have := HK1.out; omega⟩, HO, B1, HB⟩
      · rw [if_neg c3] at H
        have c3b : decide (i < wrap64 (2 ^ ji.toNat)) = false := decide_eq_false c3
        clear c3
        obtain rfl := o_I H
        clear H
        go_wp2
        go_ret
        exact ⟨_, rfl, Kd.S_mono HO.out (fun _ _ => trivial), HB.out⟩

def impl_SafeFall_1.f (k : Nat) (x : S47) (l1 : List Int) (a2 : Int) (l3 : List Int) : Option Bool := (impl_HoldsAny.f k x.f0 x.f1 x.f2.f0 x.f2.f1 x.f2.f2 x.f3 l1 a2 l3).bind fun t => some (!t)
theorem impl_SafeFall_1.mono : ∀ x l1 a2 l3 k, LeO (impl_SafeFall_1.f k x l1 a2 l3) (impl_SafeFall_1.f (k + 1) x l1 a2 l3) := by
  intro x l1 a2 l3 k;have m0_ := @impl_HoldsAny.mono;unfold impl_SafeFall_1.f;exact LM
set_option maxHeartbeats 4000000 in
set_option maxRecDepth 100000 in
theorem impl_SafeFall_1.calls (k : Nat) (g1 g2 g3 : Nat) (x : S47) (A0 A1 A5 : Option Addr) (c0 c1 c5 : Nat) (B1 : Option Addr) (d1 : Nat) (l1 : List Int) (a2 : Int) (B3 : Option Addr) (d3 : Nat) (l3 : List Int) (r : Bool) (w : World) (hx0 : Kd.C (Kd.int .u8) w A0 x.f0.length x.f0) (hl0 : x.f0.length ≤ c0) (hx1 : Kd.C (Kd.int .u8) w A1 x.f1.length x.f1) (hl1 : x.f1.length ≤ c1) (hx5 : Kd.C k104 w A5 x.f3.length x.f3) (hl5 : x.f3.length ≤ c5) (hr1 : Kd.C (Kd.int .u8) w B1 l1.length l1) (hd1 : l1.length ≤ d1) (hr3 : Kd.C (Kd.int .u8) w B3 l3.length l3) (hd3 : l3.length ≤ d3) (hb1 : w.heap[g1]? = some (.cells #[.slice B1 l1.length d1] 22 (0, 0))) (hb2 : w.heap[g2]? = some (.cells #[.int .i64 a2] 3 (0, 0))) (hb3 : w.heap[g3]? = some (.cells #[.slice B3 l3.length d3] 22 (0, 0))) (h : impl_SafeFall_1.f k x l1 a2 l3 = some r) :
    Calls Try.prog 58 (#[.agg #[.slice A0 x.f0.length c0, .slice A1 x.f1.length c1, .int .i64 x.f2.f0, .int .i64 x.f2.f1, .int .i64 x.f2.f2, .slice A5 x.f3.length c5]] ++ #[.pointer (some ⟨g1, 0, none⟩), .pointer (some ⟨g2, 0, none⟩), .pointer (some ⟨g3, 0, none⟩)]) w fun e w' => e = .returned (.bool r) ∧ Below w.heap.size w w' := by
  have hu47 := Try.underlying47
  have HB := aM (Below.refl w.heap.size w)
  have H := h
  clear h
  unfold impl_SafeFall_1.f at H
  replace H := bE H
  obtain ⟨t, A3, H⟩ := H
  obtain rfl := o_I H
  clear H
  refine calls_of_args (args' := #[.agg #[.slice A0 x.f0.length c0, .slice A1 x.f1.length c1, .int .i64 x.f2.f0, .int .i64 x.f2.f1, .int .i64 x.f2.f2, .slice A5 x.f3.length c5], .pointer (some ⟨g1, 0, none⟩), .pointer (some ⟨g2, 0, none⟩), .pointer (some ⟨g3, 0, none⟩)]) (by rfl) ?_
  go_enter Try.func58, Try.ntmps58
  go_wp2_with (first | ((with_reducible refine gate_dst (N := 4) rfl ?_); refine gBx 4 #[.slice A0 x.f0.length c0, .slice A1 x.f1.length c1, .int .i64 x.f2.f0, .int .i64 x.f2.f1, .int .i64 x.f2.f2, .slice A5 x.f3.length c5] 47 ?_; intro g4 hg w2 hbox hb; have B4 := aM hbox; replace HB := aM (below_step HB.out hb); have hc1 : w2.cell? ⟨g1, 0, none⟩ = some (.slice B1 l1.length d1) := (blk_cell (blk_below hb1 hb) 0).trans rfl; have hc2 : w2.cell? ⟨g2, 0, none⟩ = some (.int .i64 a2) := (blk_cell (blk_below hb2 hb) 0).trans rfl; have hc3 : w2.cell? ⟨g3, 0, none⟩ = some (.slice B3 l3.length d3) := (blk_cell (blk_below hb3 hb) 0).trans rfl; clear hb hbox hg; (simp only [Act.put, List.setIfInBounds_toArray, List.set_cons_zero, List.set_cons_succ])) | ((with_reducible refine gate_dst (N := 6) rfl ?_); refine gLd 6 B4.out ?_; (simp only [Act.put, List.setIfInBounds_toArray, List.set_cons_zero, List.set_cons_succ])) | ((with_reducible refine gate_callee (f := 24) rfl ?_); refine gL (some 10) Try.func24 #[.agg #[.slice A0 x.f0.length c0, .slice A1 x.f1.length c1, .int .i64 x.f2.f0, .int .i64 x.f2.f1, .int .i64 x.f2.f2, .slice A5 x.f3.length c5], .slice B1 l1.length d1, .int .i64 a2, .slice B3 l3.length d3] ?_; refine (impl_HoldsAny.calls (Kd.C_below hx0 HB.out) hl0 (Kd.C_below hx1 HB.out) hl1 (Kd.C_below hx5 HB.out) hl5 (Kd.C_below hr1 HB.out) hd1 (Kd.C_below hr3 HB.out) hd3 A3.out).mono ?_; rintro e_ w8 ⟨rfl, hb⟩; refine ⟨_, rfl, ?_⟩; replace HB := aM (below_step HB.out hb); clear hb; (simp only [Act.put, List.setIfInBounds_toArray, List.set_cons_zero, List.set_cons_succ])))
  go_ret
  exact ⟨rfl, HB.out⟩

def impl_SafeFall.f (k : Nat) (l0_0 : List Int) (l0_1 : List Int) (a0_2 : Int) (a0_3 : Int) (a0_4 : Int) (l0_5 : List S104) (l1 : List Int) (a2 : Int) (l3 : List Int) : Option Bool := (impl_HoldsAny.f k l0_0 l0_1 a0_2 a0_3 a0_4 l0_5 l1 a2 l3).bind fun t => (if t = true then ((impl_AllFalls.f k l0_0 l0_1 a0_2 a0_3 a0_4 l0_5).bind fun l => ((anyDisk.f k (fun k x => impl_SafeFall_1.f k x l1 a2 l3) l).bind fun u => some (!u))) else (some false))
theorem impl_SafeFall.mono : ∀ y0 y1 y2 y3 y4 y5 y6 y7 y8 k, LeO (impl_SafeFall.f k y0 y1 y2 y3 y4 y5 y6 y7 y8) (impl_SafeFall.f (k + 1) y0 y1 y2 y3 y4 y5 y6 y7 y8) := by
  intro y0 y1 y2 y3 y4 y5 l1 a2 l3 k;have m0_ := @impl_HoldsAny.mono;have m1_ := @impl_AllFalls.mono;have m2_ := anyDisk.mono (fun k x => impl_SafeFall_1.f k x l1 a2 l3) (fun k x => impl_SafeFall_1.mono x l1 a2 l3 k);unfold impl_SafeFall.f;exact LM
set_option maxHeartbeats 4000000 in
set_option maxRecDepth 100000 in
theorem impl_SafeFall.calls {k : Nat} {aj : Option Addr} {ai : Nat} {ab : List Int} {ah : Option Addr} {ak : Nat} {aa : List Int} {af : Int} {ae : Int} {ad : Int} {al : Option Addr} {ag : Nat} {ac : List (S104)} {A1 : Option Addr} {c1 : Nat} {l1 : List Int} {a2 : Int} {A3 : Option Addr} {c3 : Nat} {l3 : List Int} {r : Bool} {w : World} (av : Kd.C (Kd.int .u8) w aj ab.length ab) (au : ab.length ≤ ai) (aq : Kd.C (Kd.int .u8) w ah aa.length aa) (ap : aa.length ≤ ak) (ao : Kd.C k104 w al ac.length ac) (ar : ac.length ≤ ag) (hr1 : Kd.C (Kd.int .u8) w A1 l1.length l1) (hc1 : l1.length ≤ c1) (hr3 : Kd.C (Kd.int .u8) w A3 l3.length l3) (hc3 : l3.length ≤ c3) (h : impl_SafeFall.f k ab aa af ae ad ac l1 a2 l3 = some r) :
  Calls Try.prog 27 #[.agg #[.slice aj ab.length ai, .slice ah aa.length ak, .int .i64 af, .int .i64 ae, .int .i64 ad, .slice al ac.length ag], .slice A1 l1.length c1, .int .i64 a2, .slice A3 l3.length c3] w fun e w' => e = .returned (.bool r) ∧ Below w.heap.size w w' := by
 have hu47 := Try.underlying47;have HR0 := aM (And.intro av au);have HR1 := aM (And.intro aq ap);have HR5 := aM (And.intro ao ar);have an := aM (And.intro hr1 hc1);have am := aM (And.intro hr3 hc3);have HB := aM (Below.refl w.heap.size w);clear av au aq ap ao ar hr1 hc1 hr3 hc3;unfold impl_SafeFall.f at h;replace h := bE h; obtain ⟨t, Aq1', h⟩ := h;cases t with
 | false =>
  rw [if_neg (by decide)] at h;obtain rfl := Option.some.inj h;clear h;go_enter Try.func27, Try.ntmps27;go_wp2_with (first | ((with_reducible refine gate_dst (N := 4) rfl ?_); refine gBx 4 #[.slice aj ab.length ai, .slice ah aa.length ak, .int .i64 af, .int .i64 ae, .int .i64 ad, .slice al ac.length ag] 47 ?_; intro g4 hg w2 hbox hb; have B4 := aM hbox; replace HB := aM (below_step HB.out hb); clear hb hbox hg; (simp only [Act.put, List.setIfInBounds_toArray, List.set_cons_zero, List.set_cons_succ])) | ((with_reducible refine gate_dst (N := 5) rfl ?_); refine gBx 5 #[.slice A1 l1.length c1] 22 ?_; intro gq1 hg w2 hbox hb; have Bq1 := aM hbox; replace B4 := aM (blk_below B4.out hb); replace HB := aM (below_step HB.out hb); clear hb hbox hg; (simp only [Act.put, List.setIfInBounds_toArray, List.set_cons_zero, List.set_cons_succ])) | ((with_reducible refine gate_dst (N := 6) rfl ?_); refine gBx 6 #[.int .i64 a2] 3 ?_; intro gq2 hg w2 hbox hb; have Bq2 := aM hbox; replace B4 := aM (blk_below B4.out hb); replace Bq1 := aM (blk_below Bq1.out hb); replace HB := aM (below_step HB.out hb); clear hb hbox hg; (simp only [Act.put, List.setIfInBounds_toArray, List.set_cons_zero, List.set_cons_succ])) | ((with_reducible refine gate_dst (N := 7) rfl ?_); refine gBx 7 #[.slice A3 l3.length c3] 22 ?_; intro gq3 hg w2 hbox hb; have Bq3 := aM hbox; replace B4 := aM (blk_below B4.out hb); replace Bq1 := aM (blk_below Bq1.out hb); replace Bq2 := aM (blk_below Bq2.out hb); replace HB := aM (below_step HB.out hb); clear hb hbox hg; (simp only [Act.put, List.setIfInBounds_toArray, List.set_cons_zero, List.set_cons_succ]); have hcz5 : World.cell? _ ⟨gq1, 0, none⟩ = some (.slice A1 l1.length c1) := (blk_cell Bq1.out 0).trans rfl; have hczq1 : World.cell? _ ⟨gq2, 0, none⟩ = some (.int .i64 a2) := (blk_cell Bq2.out 0).trans rfl; have hczq2 : World.cell? _ ⟨gq3, 0, none⟩ = some (.slice A3 l3.length c3) := (blk_cell Bq3.out 0).trans rfl) | ((with_reducible refine gate_dst (N := 9) rfl ?_); refine gLd 9 B4.out ?_; (simp only [Act.put, List.setIfInBounds_toArray, List.set_cons_zero, List.set_cons_succ])) | ((with_reducible refine gate_callee (f := 24) rfl ?_); refine gL (some 13) Try.func24 #[.agg #[.slice aj ab.length ai, .slice ah aa.length ak, .int .i64 af, .int .i64 ae, .int .i64 ad, .slice al ac.length ag], .slice A1 l1.length c1, .int .i64 a2, .slice A3 l3.length c3] ?_; refine (impl_HoldsAny.calls (Kd.C_below HR0.out.1 HB.out) HR0.out.2 (Kd.C_below HR1.out.1 HB.out) HR1.out.2 (Kd.C_below HR5.out.1 HB.out) HR5.out.2 (Kd.C_below an.out.1 HB.out) an.out.2 (Kd.C_below am.out.1 HB.out) am.out.2 Aq1'.out).mono ?_; rintro e_ w8 ⟨rfl, hb⟩; refine ⟨_, rfl, ?_⟩; clear hcz5 hczq1 hczq2; replace B4 := aM (blk_below B4.out hb); replace Bq1 := aM (blk_below Bq1.out hb); replace Bq2 := aM (blk_below Bq2.out hb); replace Bq3 := aM (blk_below Bq3.out hb); replace HB := aM (below_step HB.out hb); clear hb; (simp only [Act.put, List.setIfInBounds_toArray, List.set_cons_zero, List.set_cons_succ])))
  go_ret
  exact ⟨rfl, HB.out⟩
 | true =>
  rw [if_pos rfl] at h;replace h := bE h; obtain ⟨l, Aq2', h⟩ := h;replace h := bE h; obtain ⟨u, Aq3', h⟩ := h;obtain rfl := Option.some.inj h;clear h;go_enter Try.func27, Try.ntmps27;go_wp2_with (first | ((with_reducible refine gate_dst (N := 4) rfl ?_); refine gBx 4 #[.slice aj ab.length ai, .slice ah aa.length ak, .int .i64 af, .int .i64 ae, .int .i64 ad, .slice al ac.length ag] 47 ?_; intro g4 hg w2 hbox hb; have B4 := aM hbox; replace HB := aM (below_step HB.out hb); clear hb hbox hg; (simp only [Act.put, List.setIfInBounds_toArray, List.set_cons_zero, List.set_cons_succ])) | ((with_reducible refine gate_dst (N := 5) rfl ?_); refine gBx 5 #[.slice A1 l1.length c1] 22 ?_; intro gq1 hg w2 hbox hb; have Bq1 := aM hbox; replace B4 := aM (blk_below B4.out hb); replace HB := aM (below_step HB.out hb); clear hb hbox hg; (simp only [Act.put, List.setIfInBounds_toArray, List.set_cons_zero, List.set_cons_succ])) | ((with_reducible refine gate_dst (N := 6) rfl ?_); refine gBx 6 #[.int .i64 a2] 3 ?_; intro gq2 hg w2 hbox hb; have Bq2 := aM hbox; replace B4 := aM (blk_below B4.out hb); replace Bq1 := aM (blk_below Bq1.out hb); replace HB := aM (below_step HB.out hb); clear hb hbox hg; (simp only [Act.put, List.setIfInBounds_toArray, List.set_cons_zero, List.set_cons_succ])) | ((with_reducible refine gate_dst (N := 7) rfl ?_); refine gBx 7 #[.slice A3 l3.length c3] 22 ?_; intro gq3 hg w2 hbox hb; have Bq3 := aM hbox; replace B4 := aM (blk_below B4.out hb); replace Bq1 := aM (blk_below Bq1.out hb); replace Bq2 := aM (blk_below Bq2.out hb); replace HB := aM (below_step HB.out hb); clear hb hbox hg; (simp only [Act.put, List.setIfInBounds_toArray, List.set_cons_zero, List.set_cons_succ]); have hcz5 : World.cell? _ ⟨gq1, 0, none⟩ = some (.slice A1 l1.length c1) := (blk_cell Bq1.out 0).trans rfl; have hczq1 : World.cell? _ ⟨gq2, 0, none⟩ = some (.int .i64 a2) := (blk_cell Bq2.out 0).trans rfl; have hczq2 : World.cell? _ ⟨gq3, 0, none⟩ = some (.slice A3 l3.length c3) := (blk_cell Bq3.out 0).trans rfl) | ((with_reducible refine gate_dst (N := 9) rfl ?_); refine gLd 9 B4.out ?_; (simp only [Act.put, List.setIfInBounds_toArray, List.set_cons_zero, List.set_cons_succ])) | ((with_reducible refine gate_callee (f := 24) rfl ?_); refine gL (some 13) Try.func24 #[.agg #[.slice aj ab.length ai, .slice ah aa.length ak, .int .i64 af, .int .i64 ae, .int .i64 ad, .slice al ac.length ag], .slice A1 l1.length c1, .int .i64 a2, .slice A3 l3.length c3] ?_; refine (impl_HoldsAny.calls (Kd.C_below HR0.out.1 HB.out) HR0.out.2 (Kd.C_below HR1.out.1 HB.out) HR1.out.2 (Kd.C_below HR5.out.1 HB.out) HR5.out.2 (Kd.C_below an.out.1 HB.out) an.out.2 (Kd.C_below am.out.1 HB.out) am.out.2 Aq1'.out).mono ?_; rintro e_ w8 ⟨rfl, hb⟩; refine ⟨_, rfl, ?_⟩; clear hcz5 hczq1 hczq2; replace B4 := aM (blk_below B4.out hb); replace Bq1 := aM (blk_below Bq1.out hb); replace Bq2 := aM (blk_below Bq2.out hb); replace Bq3 := aM (blk_below Bq3.out hb); replace HB := aM (below_step HB.out hb); clear hb; (simp only [Act.put, List.setIfInBounds_toArray, List.set_cons_zero, List.set_cons_succ])) | ((with_reducible refine gate_dst (N := 15) rfl ?_); refine gGd (by rfl) ?_; refine gLd 15 B4.out ?_; (simp only [Act.put, List.setIfInBounds_toArray, List.set_cons_zero, List.set_cons_succ])) | ((with_reducible refine gate_callee (f := 57) rfl ?_); refine gGd (by rfl) ?_; refine gL (some 16) Try.func57 #[.agg #[.slice aj ab.length ai, .slice ah aa.length ak, .int .i64 af, .int .i64 ae, .int .i64 ad, .slice al ac.length ag]] ?_; refine (impl_AllFalls.calls (Kd.C_below HR0.out.1 HB.out) HR0.out.2 (Kd.C_below HR1.out.1 HB.out) HR1.out.2 (Kd.C_below HR5.out.1 HB.out) HR5.out.2 Aq2'.out).mono ?_; rintro e_ wq1 ⟨v, rfl, ho, hb⟩; refine ⟨_, rfl, ?_⟩; replace Bq1 := aM (blk_below Bq1.out hb); replace Bq2 := aM (blk_below Bq2.out hb); replace Bq3 := aM (blk_below Bq3.out hb); replace HB := aM (below_step HB.out hb); obtain ⟨AL, cL, eL⟩ : ∃ A c, v = Value.slice A l.length c := (by first | exact Kd.R_slice ho | exact Kd.S_slice ho); subst eL; have HL := aM (show l.length ≤ cL ∧ Kd.C k47 _ AL l.length l from (by first | exact (Kd.R_reads' ho).2 | exact (Kd.S_reads' ho).2)); clear ho hb B4; (simp only [Act.put, List.setIfInBounds_toArray, List.set_cons_zero, List.set_cons_succ])) | ((with_reducible refine gate_callee (f := 56) rfl ?_); refine gGd (by rfl) ?_; refine gL (some 18) Try.func56 #[.slice AL l.length cL, .func (.func 58) #[] #[.pointer (some ⟨gq1, 0, none⟩), .pointer (some ⟨gq2, 0, none⟩), .pointer (some ⟨gq3, 0, none⟩)]] ?_; refine (anyDisk.calls (fun k x => impl_SafeFall_1.f k x l1 a2 l3) 58 Try.f58 #[.pointer (some ⟨gq1, 0, none⟩), .pointer (some ⟨gq2, 0, none⟩), .pointer (some ⟨gq3, 0, none⟩)] AL cL l u _ HL.out.2 HL.out.1 Try.func58 (by kernel_rfl) rfl (fun kq x t A0 Aq4 A5 c0 cq1 c5 w' hb' qq1 mq1 qq2 mq2 qq3 mq3 ht => (impl_SafeFall_1.calls kq gq1 gq2 gq3 x A0 Aq4 A5 c0 cq1 c5 A1 c1 l1 a2 A3 c3 l3 t w' qq1 mq1 qq2 mq2 qq3 mq3 (Kd.C_below (Kd.C_below an.out.1 HB.out) hb') an.out.2 (Kd.C_below (Kd.C_below am.out.1 HB.out) hb') am.out.2 (blk_below Bq1.out hb') (blk_below Bq2.out hb') (blk_below Bq3.out hb') ht)) Aq3'.out).mono ?_; rintro e_ wq2 ⟨rfl, hb⟩; refine ⟨_, rfl, ?_⟩; replace HB := aM (below_step HB.out hb); clear hb; (simp only [Act.put, List.setIfInBounds_toArray, List.set_cons_zero, List.set_cons_succ])))
  go_ret
  exact ⟨rfl, HB.out⟩

end Go.Proofs.Ytaofakpljnkplaa.Q
