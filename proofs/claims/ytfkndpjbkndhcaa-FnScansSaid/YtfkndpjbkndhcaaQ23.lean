/- Functions of the program as plain Lean functions, and that a call of each comes to what its function tells. Written by a program of this seat. -/
import Derived.Test.YtfkndpjbkndhcaaQ0
import Derived.Test.YtfkndpjbkndhcaaQ18
namespace Go.Proofs.Ytfkndpjbkndhcaa.Q
open Go.RowKit Go.Proofs.YtfkndpjbkndhcaaW.PrintWords Go.Proofs.YtfkndpjbkndhcaaW.PrintLast Go.Proofs.YtfkndpjbkndhcaaW.PrintMore
attribute [local go_sem] max2_int min2_int max_two min_two max_three min_three max_four min_four   -- for this text's walks alone
set_option linter.unusedVariables false
set_option linter.unusedSimpArgs false

/-! ### impl_Places: function 23 -/
def impl_Places.l0 : Nat → List Int → List Int → Int → Int → Int → Int → Int → List (S48) → Option (List Int)
  | 0, _, _, _, _, _, _, _, _ => none
  | k + 1, x0, x5, x10, x11, x542000, x542001, x542002, x542003 => if x11 < x10 then ((impl_PlaceOf.f k x0 x542000 x542001 x542002 x542003 x11).bind fun t545 => (if x5.length < 17592186044416 then (impl_Places.l0 k x0 (x5 ++ [t545]) x10 (wrap64 (x11 + 1)) x542000 x542001 x542002 x542003) else (none))) else (some x5)
def impl_Places.f (k : Nat) (l0 : List Int) (a1_0 : Int) (a1_1 : Int) (a1_2 : Int) (l1_3 : List (S48)) : Option (List Int) := impl_Places.l0 k l0 (([] : List Int)) (l1_3.length : Int) 0 a1_0 a1_1 a1_2 l1_3
theorem impl_Places.mono_l : ∀ k, (∀ y0 y1 y2 y3 y4 y5 y6 y7, LeO (impl_Places.l0 k y0 y1 y2 y3 y4 y5 y6 y7) (impl_Places.l0 (k + 1) y0 y1 y2 y3 y4 y5 y6 y7))
  | 0 => fun _ _ _ _ _ _ _ _ r h => by simp [impl_Places.l0] at h
  | k + 1 => by
    have m0_ := @impl_PlaceOf.mono
    have ih0 := impl_Places.mono_l k
    · intro y0 y1 y2 y3 y4 y5 y6 y7
      unfold impl_Places.l0
      exact LM
theorem impl_Places.mono : ∀ a0 a1 a2 a3 a4 k, LeO (impl_Places.f k a0 a1 a2 a3 a4) (impl_Places.f (k + 1) a0 a1 a2 a3 a4) := by
  intro a0 a1 a2 a3 a4 k
  have m0_ := @impl_PlaceOf.mono
  have ih0 := impl_Places.mono_l k
  unfold impl_Places.f
  exact LM
set_option maxHeartbeats 40000000 in
set_option maxRecDepth 100000 in
theorem impl_Places.calls (k : Nat) (A0 : Option Addr) (c0 : Nat) (l0 : List Int) (a1_0 : Int) (a1_1 : Int) (a1_2 : Int) (A1_3 : Option Addr) (c1_3 : Nat) (l1_3 : List (S48)) (r : List Int) (w : World) (hr0 : Kd.C (Kd.int .u8) w A0 l0.length l0) (hc0 : l0.length ≤ c0) (hr1_3 : Kd.C k48 w A1_3 l1_3.length l1_3) (hc1_3 : l1_3.length ≤ c1_3) (h : impl_Places.f k l0 a1_0 a1_1 a1_2 l1_3 = some r) :
    Calls Try.prog 23 #[.slice A0 l0.length c0, .agg #[.int .i64 a1_0, .int .i64 a1_1, .int .i64 a1_2, .slice A1_3 l1_3.length c1_3]] w fun e w' => ∃ v0_ : Value, e = .returned (v0_) ∧ Kd.R (Kd.int .i64) 3 w' w.heap.size (fun _ => True) v0_ r ∧ Below w.heap.size w w' := by
  have hu28 := Try.underlying28
  have HR0 := aM hr0
  have HC0 := aM hc0
  clear hr0 hc0
  have HR1_3 := aM hr1_3
  have HC1_3 := aM hc1_3
  clear hr1_3 hc1_3
  have HB := aM (Below.refl w.heap.size w)
  have H := h
  clear h
  unfold impl_Places.f at H
  obtain ⟨y542, hy542⟩ : ∃ y_ : List Int, y_ = (([] : List Int)) := ⟨_, rfl⟩
  rw [← hy542] at H
  have Ny542 := aM hy542
  clear hy542
  have H' := aM H
  clear H
  go_enter Try.func23, Try.ntmps23
  go_wp2_with (first | ((with_reducible refine gate_dst (N := 3) rfl ?_); refine gBx 3 #[.int .i64 a1_0, .int .i64 a1_1, .int .i64 a1_2, .slice A1_3 l1_3.length c1_3] 28 ?_; intro gb541 hg w3 hbox hb; have BK541 := aM (hbox); have GW541 := aM ((by rw [hg]; exact (below_size TB) : w.heap.size ≤ gb541)); have GE541 := aM ((by rw [hg]; exact (below_size TB) : w.heap.size ≤ gb541)); replace HB := aM (below_step TB hb); clear hb hbox hg) | ((with_reducible refine gate_dst (N := 7) rfl ?_); refine Kd.R_lit (Kd.int .i64) _ 3 ?hg (N := 7) ?hd (xs := ([] : List Int)) (inner := []) (ok := fun _ => True) (okp := fun _ => True) ?hr ?hp (fun _ hk => hk) trivial (Below.refl _ _) (Nat.le_refl _) (by simp) ?_; (case hd => rfl); (case hg => rfl); (case hr => first | (go_simp; done) | (go_simp; rfl)); (case hp => exact (Reps.none _ _)); intro v543 w4 ho5 hb hg_ hnew_; clear hg_ hnew_; (first | rw [← Ny542.out] at ho5 | (simp only [Int.reduceToNat] at ho5; rw [← Ny542.out] at ho5)); have HO544 := aM (Kd.R_lower ho5 (below_size TB)); replace BK541 := aM (blk_below (by have X_ := BK541.out; exact TX) hb); replace HB := aM (below_step TB hb); clear hb ho5; obtain ⟨hcz6_0, hcz6_1, hcz6_2, hcz6_3⟩ := cz4 BK541.out; obtain ⟨hfz6_0, hfz6_1, hfz6_2, hfz6_3⟩ := fz4 BK541.out))
  go_loopg [5, 11] k (fun kq v5 v11 w' => ∃ (x5_1 : List Int) (x11_1 : Int), v11 = .int .i64 x11_1 ∧ Aside0 (impl_Places.l0 kq l0 x5_1 (l1_3.length : Int) x11_1 a1_0 a1_1 a1_2 l1_3 = some r) ∧ Aside0 (kq ≤ k) ∧ Aside0 (Kd.R (Kd.int .i64) 3 w' w.heap.size (fun _ => True) v5 x5_1) ∧ Aside0 (w'.heap[gb541]? = some (.cells #[.int .i64 a1_0, .int .i64 a1_1, .int .i64 a1_2, (.slice A1_3 l1_3.length c1_3)] 28 (0, 0))) ∧ Aside0 (Below w.heap.size w w'))
  case atStart => exact ⟨(y542), (0), (by first | rfl | (simp; done) | (simp [*]; done)), H', ⟨Nat.le_refl _⟩, ⟨by have X_ := HO544.out; exact TR⟩, ⟨TK⟩, ⟨TB⟩⟩
  case round =>
    clear H'
    try clear c1
    try clear c2
    try clear p2
    try clear hcz6_0
    try clear hcz6_1
    try clear hcz6_2
    try clear hcz6_3
    try clear hfz6_0
    try clear hfz6_1
    try clear hfz6_2
    try clear hfz6_3
    obtain ⟨x5_1, x11_1, rfl, HA, HK1, HO_5, BK541, HB⟩ := hrel
    cases gk with
    | zero => exact absurd HA.out (by simp [impl_Places.l0])
    | succ k1 =>
      have H := HA.out
      clear HA
      simp only [impl_Places.l0] at H
      by_cases c7 : x11_1 < (l1_3.length : Int)
      · rw [if_pos c7] at H
        have c7b0 : decide (x11_1 < (l1_3.length : Int)) = true := decide_eq_true c7
        clear c7
        replace H := bE H
        obtain ⟨t545, A8, H⟩ := H
        replace H := ifN H
        obtain ⟨c9, H⟩ := H
        have LMc9 := aM c9
        clear c9
        obtain ⟨y546, hy546⟩ : ∃ y_ : List Int, y_ = (x5_1 ++ [t545]) := ⟨_, rfl⟩
        rw [← hy546] at H
        have Ny546 := aM hy546
        clear hy546
        have H' := aM H
        clear H
        obtain ⟨hcz10_0, hcz10_1, hcz10_2, hcz10_3⟩ := cz4 BK541.out
        obtain ⟨hfz10_0, hfz10_1, hfz10_2, hfz10_3⟩ := fz4 BK541.out
        go_wp2_with (first | ((with_reducible refine gate_callee (f := 33) rfl ?_); refine gL (some 18) Try.func33 #[.slice A0 l0.length c0, .agg #[.int .i64 a1_0, .int .i64 a1_1, .int .i64 a1_2, .slice A1_3 l1_3.length c1_3], .int .i64 x11_1] ?_; (with_reducible refine (impl_PlaceOf.calls k1 _ _ l0 a1_0 a1_1 a1_2 _ _ l1_3 x11_1 t545 _ ?side1 ?side2 ?side3 ?side4 A8.out).mono ?_); (case side1 => have X_ := (Kd.C_below HR0.out HB.out); exact TC); (case side2 => exact HC0.out); (case side3 => have X_ := (Kd.C_below HR1_3.out HB.out); exact TC); (case side4 => exact HC1_3.out); rintro e w11 ⟨rfl, hb⟩; refine ⟨_, rfl, ?_⟩; replace HO_5 := aM (Kd.R_below (by have X_ := HO_5.out; exact TR) hb); replace BK541 := aM (blk_below (by have X_ := BK541.out; exact TX) hb); replace HB := aM (below_step TB hb); clear hb) | ((with_reducible refine gate_builtin (b := .append) (xs := #[.tmp 14, .tmp 19]) rfl ?_); at_builtin; refine Kd.R_append (Kd.int .i64) (w0 := w) w.heap.size rfl (.tmp 14) (.tmp 19) 45 3 (.int .i64 0) 8 rfl Try.underlying45 info3 rfl (by decide) (by omega) u5 x5_1 t545 [.int .i64 t545] (fun _ => True) (fun _ => False) rfl rfl ?aP (fun _ hk => hk.elim) ?aF ?aO ?aB ?aS ?aL ?_; (case aP => exact rfl); (case aB => exact TB); (case aF => exact (fun _ _ => trivial)); (case aO => exact (by have X_ := HO_5.out; exact TR)); (case aS => exact (below_size TB)); (case aL => have := LMc9.out; omega); intro v547 w12 ho hb hg hat; rw [← Ny546.out] at ho; have HO548 := aM (ho); replace BK541 := aM (blk_grown (g := gb541) (o := .cells #[.int .i64 a1_0, .int .i64 a1_1, .int .i64 a1_2, .slice A1_3 l1_3.length c1_3] 28 (0, 0)) TK hg (Kd.R_ne HO_5.out BK541.out (by decide))); replace HB := aM (hb); clear HO_5; clear ho hb hg hat))
        go_roundg k1
        case measure => have := HK1.out; omega
        case rel => exact ⟨(y546), (wrap64 (x11_1 + 1)), (by first | rfl | (simp; done) | (simp [*]; done)), H', ⟨by have := HK1.out; omega⟩, ⟨by have X_ := HO548.out; exact TR⟩, ⟨TK⟩, ⟨TB⟩⟩
      · rw [if_neg c7] at H
        have c7b0 : decide (x11_1 < (l1_3.length : Int)) = false := decide_eq_false c7
        clear c7
        obtain rfl := Option.some.inj H
        go_wp2
        go_ret
        exact ⟨_, by first | rfl | (simp [errW_none, errW_some] <;> rfl) | (simp [*, errW_none, errW_some] <;> rfl), by have X_ := HO_5.out; exact TR, TB⟩

end Go.Proofs.Ytfkndpjbkndhcaa.Q
