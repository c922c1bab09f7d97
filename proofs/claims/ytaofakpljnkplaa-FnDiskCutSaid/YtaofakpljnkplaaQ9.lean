/- Functions of the program as plain Lean functions, and that a call of each comes to what its function tells. Written by a program of this seat. -/
import Derived.Test.YtaofakpljnkplaaQ0
import Derived.Test.YtaofakpljnkplaaQ4
import Derived.Test.YtaofakpljnkplaaQ8
namespace Go.Proofs.Ytaofakpljnkplaa.Q
open Go.RowKit Go.Proofs.YtaofakpljnkplaaW.PrintWords Go.Proofs.YtaofakpljnkplaaW.PrintLast Go.Proofs.YtaofakpljnkplaaW.PrintMore
attribute [local go_sem] min2_int min_two
set_option linter.unusedVariables false
set_option linter.unusedSimpArgs false

theorem Zq9_0 {p : Prop} (h : p := by (with_reducible repeat (first | apply Kd.V_alloc | apply Kd.V_drewN | apply Kd.V_drew)); exact HO0_1.out) : p := h
def impl_BuildNew.f (k : Nat) (a0_0 : Int) (a0_1 : Int) (a0_2 : Int) (l0_3 : List (S71)) : Option (Int × List Int) := (impl_ManOk.f k a0_0 a0_1 a0_2 l0_3).bind fun t224 => (if t224 = true then (if 0 ≤ a0_2 then (if (a0_2 : Int).toNat ≤ 281474976710656 then (some (0, (List.replicate (a0_2 : Int).toNat 0))) else (none)) else (none)) else (some (0, ([] : List Int))))
theorem impl_BuildNew.mono : ∀ a0 a1 a2 a3 k, LeO (impl_BuildNew.f k a0 a1 a2 a3) (impl_BuildNew.f (k + 1) a0 a1 a2 a3) := by
  intro a0 a1 a2 a3 k;have m0_ := @impl_ManOk.mono;unfold impl_BuildNew.f;exact LM
set_option maxHeartbeats 40000000 in
set_option maxRecDepth 100000 in
theorem impl_BuildNew.calls {k : Nat} {a0_0 : Int} {a0_1 : Int} {a0_2 : Int} {A0_3 : Option Addr} {c0_3 : Nat} {l0_3 : List (S71)} {r1 : Int} {r2 : List Int} {w : World} (hr0_3 : Kd.C k71 w A0_3 l0_3.length l0_3) (hc0_3 : l0_3.length ≤ c0_3) (h : impl_BuildNew.f k a0_0 a0_1 a0_2 l0_3 = some (r1, r2)) :
    Calls Try.prog 9 #[.agg #[.int .i64 a0_0, .int .i64 a0_1, .int .i64 a0_2, .slice A0_3 l0_3.length c0_3]] w fun e w' => ∃ v1_ : Value, e = .returned (.agg #[.int .i64 r1, v1_]) ∧ Kd.R (Kd.int .u8) 5 w' w.heap.size (fun _ => True) v1_ r2 ∧ Below w.heap.size w w' := by
  have hu28 := Try.underlying28
  have hu31 := Try.underlying31
  have HR0_3 := aM hr0_3
  have HC0_3 := aM hc0_3
  clear hr0_3 hc0_3
  have HB := aM (Below.refl w.heap.size w)
  have H := h
  clear h
  unfold impl_BuildNew.f at H
  replace H := bE H
  obtain ⟨t224, A2, H⟩ := H
  go_enter Try.func9, Try.ntmps9
  go_wp2_with (first | ((with_reducible refine gate_dst (N := 1) rfl ?_); refine gBx 1 #[.int .i64 a0_0, .int .i64 a0_1, .int .i64 a0_2, .slice A0_3 l0_3.length c0_3] 28 ?_; intro gb222 hg w4 hbox hb; have BK222 := aM (hbox); have GW222 := gW HB hg; have GE222 := gW HB hg; replace HB := bS HB hb; clear hb hbox hg) | ((with_reducible refine gate_dst (N := 2) rfl ?_); refine gBx 2 #[.int .i64 0, .slice none 0 0] 31 ?_; intro gb223 hg w5 hbox hb; have BK223 := aM (hbox); have GW223 := gW HB hg; have GE223 := gW HB hg; obtain ⟨NB222_223, NB223_222⟩ := nB BK222 hg; replace BK222 := mB BK222 hb; replace HB := bS HB hb; clear hb hbox hg; obtain ⟨hnb6, hnc6⟩ := oB NB222_223; obtain ⟨hcz7_0, hcz7_1, hcz7_2, hcz7_3⟩ := cz4 BK222.out; obtain ⟨hfz7_0, hfz7_1, hfz7_2, hfz7_3⟩ := fz4 BK222.out) | ((with_reducible refine gate_callee (f := 34) rfl ?_); refine gL (some 4) Try.func34 #[.agg #[.int .i64 a0_0, .int .i64 a0_1, .int .i64 a0_2, .slice A0_3 l0_3.length c0_3]] ?_; (with_reducible refine (impl_ManOk.calls ?side1 ?side2 A2.out).mono ?_); (case side1 => have X_ := (Kd.C_below HR0_3.out HB.out); exact TC); (case side2 => exact HC0_3.out); rintro e w8 ⟨rfl, hb⟩; refine ⟨_, rfl, ?_⟩; replace BK222 := mB BK222 hb; replace BK223 := mB BK223 hb; replace HB := bS HB hb; clear hb) | ((with_reducible refine gate_dst (N := 5) rfl ?_); generalize hG_ : wpList _ _ _ _ _ _ = G_))
  subst hG_
  by_cases c9 : t224 = true
  · subst c9
    replace H := ifT H
    replace H := ifN H
    obtain ⟨c10, H⟩ := H
    have c10b0 := eq_true c10
    have c10b1 : decide (0 ≤ a0_2) = true := decide_eq_true c10
    clear c10
    replace H := ifN H
    obtain ⟨c11, H⟩ := H
    have c11b0 := eq_true c11
    have c11b1 : decide ((a0_2 : Int).toNat ≤ 281474976710656) = true := decide_eq_true c11
    clear c11
    obtain ⟨y225, hy225⟩ : ∃ y_ : List Int, y_ = (List.replicate (a0_2 : Int).toNat 0) := ⟨_, rfl⟩
    rw [← hy225] at H
    have Ny225 := aM hy225
    clear hy225
    simp only [Option.some.injEq, Prod.mk.injEq] at H
    obtain ⟨rfl, rfl⟩ := H
    obtain ⟨hnb12, hnc12⟩ := oB NB222_223
    obtain ⟨hcz13_0, hcz13_1, hcz13_2, hcz13_3⟩ := cz4 BK222.out
    obtain ⟨hfz13_0, hfz13_1, hfz13_2, hfz13_3⟩ := fz4 BK222.out
    go_wp2_with (first | ((with_reducible refine gate_dst (N := 9) rfl ?_); refine Kd.R_make (Kd.int .u8) _ 5 rfl (N := 9) rfl 22 _ _ rfl a0_2 rfl rfl Try.underlying22 (.int .u8 0) 1 info5 rfl (by decide) (by omega) 0 (ok := fun _ => True) (okp := fun _ => True) rfl (fun _ hk => hk) trivial DT (Nat.le_trans (Nat.mul_le_mul_right _ (DT : a0_2.toNat ≤ 281474976710656)) (by omega)) (Below.refl _ _) (Nat.le_refl _) ?_; intro v226 w14 ho15 hb hg_ hnew_; clear hg_ hnew_; (first | rw [← Ny225.out] at ho15 | (simp only [Int.reduceToNat] at ho15; rw [← Ny225.out] at ho15)); have HO227 := aM (Kd.R_lower ho15 (below_size TB)); replace BK222 := mB BK222 hb; replace BK223 := mB BK223 hb; replace HB := bS HB hb; clear hb ho15; obtain ⟨Ao16, co16, eo16⟩ := Kd.R_slice HO227.out; subst eo16; obtain ⟨hcz17_0, hcz17_1⟩ := cz2 BK223.out; obtain ⟨hfz17_0, hfz17_1⟩ := fz2 BK223.out))
    refine bodyPost_ret (results_cell_row rfl _ _ gb223 31 #[.int .i64 0, .slice Ao16 y225.length co16] (0, 0) _ rfl (blk_put (blk_put (cs := #[.int .i64 0, .slice none 0 0]) (TZ BK223) 0 _ rfl) 1 _ rfl) Try.underlying31 rfl (by kernel_rfl)) rfl ?_
    exact ⟨_, TE, by (with_reducible repeat (first | apply Kd.R_alloc | apply Kd.R_drewN | apply Kd.R_drew)); exact Kd.R_mono (RK1 (Kd.R_types HO227.out BK223.out (by decide))) (fun _ hk => trivial), TB⟩
  · replace c9 := b_F c9
    subst c9
    replace H := ifF H
    simp only [Option.some.injEq, Prod.mk.injEq] at H
    obtain ⟨rfl, rfl⟩ := H
    obtain ⟨hnb18, hnc18⟩ := oB NB223_222
    obtain ⟨hcz19_0, hcz19_1⟩ := cz2 BK223.out
    obtain ⟨hfz19_0, hfz19_1⟩ := fz2 BK223.out
    go_wp2
    refine bodyPost_ret (results_cell_row rfl _ _ gb223 31 #[.int .i64 0, .slice none 0 0] (0, 0) _ rfl (blk_put (blk_put (cs := #[.int .i64 0, .slice none 0 0]) (TZ BK223) 0 _ rfl) 1 _ rfl) Try.underlying31 rfl (by kernel_rfl)) rfl ?_
    exact ⟨_, TE, by first | exact Kd.R_nil _ _ _ _ _ | exact Kd.N_nil _ _ _ _ _ | exact Kd.V_nil _ _ _ _ _ | exact Kd.Q_nil _ _ _ _ _ | exact Kd.S_nil _ _ _ _ _, TB⟩

def impl_copyBuild.f (a0_0 : Int) (l0_1 : List Int) : Option (Int × List Int) := (impl_cloned.f l0_1).bind fun t230 => (some (a0_0, t230))
set_option maxHeartbeats 40000000 in
set_option maxRecDepth 100000 in
theorem impl_copyBuild.calls {a0_0 : Int} {A0_1 : Option Addr} {c0_1 : Nat} {l0_1 : List Int} {r1 : Int} {r2 : List Int} {w : World} (hr0_1 : Kd.C (Kd.int .u8) w A0_1 l0_1.length l0_1) (hc0_1 : l0_1.length ≤ c0_1) (h : impl_copyBuild.f a0_0 l0_1 = some (r1, r2)) :
    Calls Try.prog 38 #[.agg #[.int .i64 a0_0, .slice A0_1 l0_1.length c0_1]] w fun e w' => ∃ v1_ : Value, e = .returned (.agg #[.int .i64 r1, v1_]) ∧ Kd.R (Kd.int .u8) 5 w' w.heap.size (fun _ => True) v1_ r2 ∧ Below w.heap.size w w' := by
  have hu31 := Try.underlying31
  have HR0_1 := aM hr0_1
  have HC0_1 := aM hc0_1
  clear hr0_1 hc0_1
  have HB := aM (Below.refl w.heap.size w)
  have H := h
  clear h
  unfold impl_copyBuild.f at H
  replace H := bE H
  obtain ⟨t230, A2, H⟩ := H
  simp only [Option.some.injEq, Prod.mk.injEq] at H
  obtain ⟨rfl, rfl⟩ := H
  go_enter Try.func38, Try.ntmps38
  try go_wp2_with (first | ((with_reducible refine gate_dst (N := 1) rfl ?_); refine gBx 1 #[.int .i64 a0_0, .slice A0_1 l0_1.length c0_1] 31 ?_; intro gb228 hg w3 hbox hb; have BK228 := aM (hbox); have GW228 := gW HB hg; have GE228 := gW HB hg; replace HB := bS HB hb; clear hb hbox hg) | ((with_reducible refine gate_dst (N := 2) rfl ?_); refine gBx 2 #[.int .i64 0, .slice none 0 0] 31 ?_; intro gb229 hg w4 hbox hb; have BK229 := aM (hbox); have GW229 := gW HB hg; have GE229 := gW HB hg; obtain ⟨NB228_229, NB229_228⟩ := nB BK228 hg; replace BK228 := mB BK228 hb; replace HB := bS HB hb; clear hb hbox hg))
  replace BK228 := bD BK228
  replace BK229 := bD BK229
  replace HB := aM (below_drew1 HB.out)
  refine st_ (n := 7) (ds := []) (Array.replicate 7 false) (hK2 BK228.out) (by kernel_rfl) rfl rfl (fun hHeld => ?_)
  generalize w4.drew = w5 at BK228 BK229 HB hHeld ⊢
  refine ppq 0 3 ?_
  refine ppq 2 5 ?_
  refine ptq 1 4 ?_
  refine ptq 3 6 ?_
  refine poq 4 7 (fun K hK => ?_)
  refine gG Try.func46 #[.slice A0_1 l0_1.length c0_1] ?_
  with_reducible refine (impl_cloned.calls ?side1 ?side2 A2.out).mono ?_
  (case side1 => have X_ := (Kd.C_below HR0_1.out HB.out); exact TC)
  (case side2 => exact HC0_1.out)
  rintro e w6 ⟨v231, rfl, ho0, hb⟩
  refine ⟨_, rfl, ?_⟩
  replace HO232 := aM (Kd.R_lower ho0 (below_size TB))
  replace BK228 := mB BK228 hb
  replace BK229 := mB BK229 hb
  replace HB := bS HB hb
  (try clear hb)
  (try clear hb2)
  (try clear hk)
  (try clear hi)
  (try clear ho0)
  obtain ⟨Ao7, co7, eo7⟩ := Kd.R_slice HO232.out
  (first | subst eo7 | (injection eo7 with f1_ f2_ f3_; have f4_ := f1_.symm; have f5_ := f3_.symm; clear f1_ f2_ f3_; subst f4_; subst f5_))
  refine hK.out _ _ (cz2 BK228.out) (fun hHeld => ?_)
  clear hK K
  refine nR ?_
  refine ppq 5 8 ?_
  refine pO 6 none (fun K hK => ?_)
  have hs8 : w6.cell? ⟨gb229, 0, none⟩ = some (.int .i64 0) := bC BK229 0
  have hfs8 := blk_frozen BK229.out 0
  have hms8_0 := NB229_228.out
  have hs9 : w6.cell? ⟨gb229, 1, none⟩ = some (.slice none 0 0) := bC BK229 1
  have hfs9 := blk_frozen BK229.out 1
  refine skip_ (w1 := ?_) (by rfl) rfl ?_ ?_
  rotate_left
  · go_simp
    rfl
  refine hK.out _ _ ⟨(cf hHeld.1), (cf hHeld.2)⟩ (fun hHeld => ?_)
  clear hK K
  refine done_ (by kernel_rfl) ?_
  try go_wp2
  refine bodyPost_ret (results_cell_row rfl _ _ gb229 31 #[.int .i64 a0_0, .slice Ao7 t230.length co7] (0, 0) _ rfl (blk_put (blk_put (cs := #[.int .i64 0, .slice none 0 0]) (TZ BK229) 0 _ rfl) 1 _ rfl) Try.underlying31 rfl (by kernel_rfl)) rfl ?_
  exact ⟨_, TE, by (with_reducible repeat (first | apply Kd.R_alloc | apply Kd.R_drewN | apply Kd.R_drew)); exact Kd.R_mono (RK1 (Kd.R_types HO232.out BK229.out (by decide))) (fun _ hk => trivial), TB⟩

def impl_SetOk.f (a0 : Int) : Option (Bool) := (impl_within.f a0 0 1099511627775).bind fun t233 => (some t233)
set_option maxHeartbeats 40000000 in
set_option maxRecDepth 100000 in
theorem impl_SetOk.calls {a0 : Int} {r : Bool} {w : World} (h : impl_SetOk.f a0 = some r) :
    Calls Try.prog 64 #[.int .i64 a0] w fun e w' => e = .returned (.bool r) ∧ Drawn0 w w' := by
  have H := h
  clear h
  unfold impl_SetOk.f at H
  replace H := bE H
  obtain ⟨t233, A2, H⟩ := H
  obtain rfl := o_I H
  go_enter Try.func64, Try.ntmps64
  go_wp2_with (first | ((with_reducible refine gate_callee (f := 31) rfl ?_); refine gL (some 4) Try.func31 #[.int .i64 a0, .int .i64 0, .int .i64 1099511627775] ?_; (with_reducible refine (impl_within.calls A2.out).mono ?_); rintro e w' ⟨rfl, ⟨nd, rfl⟩⟩; refine ⟨_, rfl, ?_⟩))
  go_ret
  exact ⟨by first | rfl | (simp; done) | (simp [*]; done), TD⟩

def impl_isPlace.f (a0 : Int) : Option (Bool) := (impl_within.f a0 0 39).bind fun t234 => (some t234)
set_option maxHeartbeats 40000000 in
set_option maxRecDepth 100000 in
theorem impl_isPlace.calls {a0 : Int} {r : Bool} {w : World} (h : impl_isPlace.f a0 = some r) :
    Calls Try.prog 69 #[.int .i64 a0] w fun e w' => e = .returned (.bool r) ∧ Drawn0 w w' := by
  have H := h
  clear h
  unfold impl_isPlace.f at H
  replace H := bE H
  obtain ⟨t234, A2, H⟩ := H
  obtain rfl := o_I H
  go_enter Try.func69, Try.ntmps69
  go_wp2_with (first | ((with_reducible refine gate_callee (f := 31) rfl ?_); refine gL (some 4) Try.func31 #[.int .i64 a0, .int .i64 0, .int .i64 39] ?_; (with_reducible refine (impl_within.calls A2.out).mono ?_); rintro e w' ⟨rfl, ⟨nd, rfl⟩⟩; refine ⟨_, rfl, ?_⟩))
  go_ret
  exact ⟨by first | rfl | (simp; done) | (simp [*]; done), TD⟩

def impl_InSet.f (a0 : Int) (a1 : Int) : Option (Bool) := (impl_SetOk.f a0).bind fun t235 => (if t235 = true then ((impl_isPlace.f a1).bind fun t236 => (if t236 = true then (if 0 ≤ a1 then (some ((Go.bits .and .i64 (shr .i64 a0 a1) 1) == 1)) else (none)) else (some false))) else (some false))
set_option maxHeartbeats 40000000 in
set_option maxRecDepth 100000 in
theorem impl_InSet.calls {a0 : Int} {a1 : Int} {r : Bool} {w : World} (h : impl_InSet.f a0 a1 = some r) :
    Calls Try.prog 40 #[.int .i64 a0, .int .i64 a1] w fun e w' => e = .returned (.bool r) ∧ Drawn0 w w' := by
  have H := h
  clear h
  unfold impl_InSet.f at H
  replace H := bE H
  obtain ⟨t235, A3, H⟩ := H
  by_cases c4 : t235 = true
  · subst c4
    replace H := ifT H
    replace H := bE H
    obtain ⟨t236, A5, H⟩ := H
    by_cases c6 : t236 = true
    · subst c6
      replace H := ifT H
      replace H := ifN H
      obtain ⟨c7, H⟩ := H
      have c7b0 := eq_true c7
      have c7b1 : decide (0 ≤ a1) = true := decide_eq_true c7
      clear c7
      obtain ⟨ji8, hji8⟩ : ∃ j_ : Int, (shr .i64 a0 a1) = j_ := ⟨_, rfl⟩
      (first | rw [hji8] at H | simp only [hji8] at H | skip)
      (try rw [hji8] at A3)
      (try rw [hji8] at A5)
      have hji8_ : (a0 / 2 ^ min a1.toNat 64) = ji8 := hji8
      have hji8z : a1 ≤ 64 → (a0 / 2 ^ a1.toNat) = ji8 := shr_small hji8
      obtain rfl := o_I H
      go_enter Try.func40, Try.ntmps40
      go_wp2_with (first | ((with_reducible refine gate_callee (f := 64) rfl ?_); refine gL (some 6) Try.func64 #[.int .i64 a0] ?_; (with_reducible refine (impl_SetOk.calls A3.out).mono ?_); rintro e w' ⟨rfl, ⟨nd, rfl⟩⟩; refine ⟨_, rfl, ?_⟩) | (go_at_call 69; (with_reducible refine (impl_isPlace.calls A5.out).mono ?_); rintro e w' ⟨rfl, ⟨nd, rfl⟩⟩))
      go_ret
      exact ⟨by first | rfl | (simp; done) | (simp only [← hji8] <;> (first | rfl | simp)) | (simp [*]; done), TD⟩
    · replace c6 := b_F c6
      subst c6
      replace H := ifF H
      obtain rfl := o_I H
      go_enter Try.func40, Try.ntmps40
      go_wp2_with (first | ((with_reducible refine gate_callee (f := 64) rfl ?_); refine gL (some 6) Try.func64 #[.int .i64 a0] ?_; (with_reducible refine (impl_SetOk.calls A3.out).mono ?_); rintro e w' ⟨rfl, ⟨nd, rfl⟩⟩; refine ⟨_, rfl, ?_⟩) | (go_at_call 69; (with_reducible refine (impl_isPlace.calls A5.out).mono ?_); rintro e w' ⟨rfl, ⟨nd, rfl⟩⟩))
      go_ret
      exact ⟨by first | rfl | (simp; done) | (simp [*]; done), TD⟩
  · replace c4 := b_F c4
    subst c4
    replace H := ifF H
    obtain rfl := o_I H
    go_enter Try.func40, Try.ntmps40
    go_wp2_with (first | ((with_reducible refine gate_callee (f := 64) rfl ?_); refine gL (some 6) Try.func64 #[.int .i64 a0] ?_; (with_reducible refine (impl_SetOk.calls A3.out).mono ?_); rintro e w' ⟨rfl, ⟨nd, rfl⟩⟩; refine ⟨_, rfl, ?_⟩))
    go_ret
    exact ⟨by first | rfl | (simp; done) | (simp [*]; done), TD⟩

def impl_FullSet.f (a0 : Int) : Option (Int) := (impl_within.f a0 0 40).bind fun t237 => (if t237 = true then (if 0 ≤ a0 then (some (wrap64 ((shl .i64 1 a0) - 1))) else (none)) else (some 0))
set_option maxHeartbeats 40000000 in
set_option maxRecDepth 100000 in
theorem impl_FullSet.calls {a0 : Int} {r : Int} {w : World} (h : impl_FullSet.f a0 = some r) :
    Calls Try.prog 84 #[.int .i64 a0] w fun e w' => e = .returned (.int .i64 r) ∧ Drawn0 w w' := by
  have H := h
  clear h
  unfold impl_FullSet.f at H
  replace H := bE H
  obtain ⟨t237, A2, H⟩ := H
  by_cases c3 : t237 = true
  · subst c3
    replace H := ifT H
    replace H := ifN H
    obtain ⟨c4, H⟩ := H
    have c4b0 := eq_true c4
    have c4b1 : decide (0 ≤ a0) = true := decide_eq_true c4
    clear c4
    obtain ⟨ji5, hji5⟩ : ∃ j_ : Int, (shl .i64 1 a0) = j_ := ⟨_, rfl⟩
    (first | rw [hji5] at H | simp only [hji5] at H | skip)
    (try rw [hji5] at A2)
    have hji5_ : (IntKind.i64.wrap (1 * 2 ^ min a0.toNat 64)) = ji5 := hji5
    have hji5z : a0 ≤ 64 → (IntKind.i64.wrap (1 * 2 ^ a0.toNat)) = ji5 := shl_small hji5
    have hji5u : (IntKind.i64.wrap (2 ^ min a0.toNat 64)) = ji5 := by have h_ := hji5_; rw [Int.one_mul] at h_; exact h_
    have hji5v : a0 ≤ 64 → (IntKind.i64.wrap (2 ^ a0.toNat)) = ji5 := fun hle_ => by have h_ := hji5z hle_; rw [Int.one_mul] at h_; exact h_
    have hji5y : (wrap64 (1 * 2 ^ min a0.toNat 64)) = ji5 := (i64_w _).symm.trans hji5_
    have hji5x : a0 ≤ 64 → (wrap64 (1 * 2 ^ a0.toNat)) = ji5 := fun h_ => (i64_w _).symm.trans (hji5z h_)
    obtain rfl := o_I H
    go_enter Try.func84, Try.ntmps84
    go_wp2_with (first | ((with_reducible refine gate_callee (f := 31) rfl ?_); refine gL (some 4) Try.func31 #[.int .i64 a0, .int .i64 0, .int .i64 40] ?_; (with_reducible refine (impl_within.calls A2.out).mono ?_); rintro e w' ⟨rfl, ⟨nd, rfl⟩⟩; refine ⟨_, rfl, ?_⟩))
    go_ret
    exact ⟨by first | rfl | (simp; done) | (simp only [← hji5] <;> (first | rfl | simp)) | (simp [*]; done), TD⟩
  · replace c3 := b_F c3
    subst c3
    replace H := ifF H
    obtain rfl := o_I H
    go_enter Try.func84, Try.ntmps84
    go_wp2_with (first | ((with_reducible refine gate_callee (f := 31) rfl ?_); refine gL (some 4) Try.func31 #[.int .i64 a0, .int .i64 0, .int .i64 40] ?_; (with_reducible refine (impl_within.calls A2.out).mono ?_); rintro e w' ⟨rfl, ⟨nd, rfl⟩⟩; refine ⟨_, rfl, ?_⟩))
    go_ret
    exact ⟨by first | rfl | (simp; done) | (simp [*]; done), TD⟩

def impl_AllParts.f (a0_0 : Int) (a0_1 : Int) (a0_2 : Int) (l0_3 : List (S71)) : Option (Int) := (impl_FullSet.f (l0_3.length : Int)).bind fun t239 => (some t239)
set_option maxHeartbeats 40000000 in
set_option maxRecDepth 100000 in
theorem impl_AllParts.calls {a0_0 : Int} {a0_1 : Int} {a0_2 : Int} {A0_3 : Option Addr} {c0_3 : Nat} {l0_3 : List (S71)} {r : Int} {w : World} (hr0_3 : Kd.C k71 w A0_3 l0_3.length l0_3) (hc0_3 : l0_3.length ≤ c0_3) (h : impl_AllParts.f a0_0 a0_1 a0_2 l0_3 = some r) :
    Calls Try.prog 65 #[.agg #[.int .i64 a0_0, .int .i64 a0_1, .int .i64 a0_2, .slice A0_3 l0_3.length c0_3]] w fun e w' => e = .returned (.int .i64 r) ∧ Below w.heap.size w w' := by
  have hu28 := Try.underlying28
  have HR0_3 := aM hr0_3
  have HC0_3 := aM hc0_3
  clear hr0_3 hc0_3
  have HB := aM (Below.refl w.heap.size w)
  have H := h
  clear h
  unfold impl_AllParts.f at H
  replace H := bE H
  obtain ⟨t239, A2, H⟩ := H
  obtain rfl := o_I H
  go_enter Try.func65, Try.ntmps65
  go_wp2_with (first | ((with_reducible refine gate_dst (N := 1) rfl ?_); refine gBx 1 #[.int .i64 a0_0, .int .i64 a0_1, .int .i64 a0_2, .slice A0_3 l0_3.length c0_3] 28 ?_; intro gb238 hg w3 hbox hb; have BK238 := aM (hbox); have GW238 := gW HB hg; have GE238 := gW HB hg; replace HB := bS HB hb; clear hb hbox hg; obtain ⟨hcz4_0, hcz4_1, hcz4_2, hcz4_3⟩ := cz4 BK238.out; obtain ⟨hfz4_0, hfz4_1, hfz4_2, hfz4_3⟩ := fz4 BK238.out) | ((with_reducible refine gate_callee (f := 84) rfl ?_); refine gL (some 6) Try.func84 #[.int .i64 (l0_3.length : Int)] ?_; (with_reducible refine (impl_FullSet.calls A2.out).mono ?_); rintro e w' ⟨rfl, ⟨nd, rfl⟩⟩; refine ⟨_, rfl, ?_⟩))
  go_ret
  exact ⟨TE, TB⟩

def impl_Build_block.f (a0_0 : Int) (l0_1 : List Int) (a1_0 : Int) (a1_1 : Int) (a1_2 : Int) (l1_3 : List (S71)) (a2 : Int) : Option (List Int) := (impl_SpanOf.f a1_1 a1_2 a2).bind fun bt242 => (if 0 ≤ bt242.1 then (if bt242.1 ≤ (wrap64 (bt242.1 + bt242.2)) then (if (wrap64 (bt242.1 + bt242.2)) ≤ (l0_1.length : Int) then (some ((l0_1.take ((wrap64 (bt242.1 + bt242.2)) : Int).toNat).drop (bt242.1 : Int).toNat)) else (none)) else (none)) else (none))
set_option maxHeartbeats 40000000 in
set_option maxRecDepth 100000 in
theorem impl_Build_block.calls {a0_0 : Int} (P0_1_ : Nat → Prop) (A0_1 : Option Addr) (c0_1 : Nat) (l0_1 : List Int) (a1_0 : Int) (a1_1 : Int) (a1_2 : Int) (A1_3 : Option Addr) (c1_3 : Nat) (l1_3 : List (S71)) (a2 : Int) (r : List Int) (w : World) (hs0_1 : Kd.V (Kd.int .u8) 5 w w.heap.size (fun k_ => P0_1_ k_) (.slice A0_1 l0_1.length c0_1) l0_1) (hr1_3 : Kd.C k71 w A1_3 l1_3.length l1_3) (hc1_3 : l1_3.length ≤ c1_3) (h : impl_Build_block.f a0_0 l0_1 a1_0 a1_1 a1_2 l1_3 a2 = some r) :
    Calls Try.prog 66 #[.agg #[.int .i64 a0_0, .slice A0_1 l0_1.length c0_1], .agg #[.int .i64 a1_0, .int .i64 a1_1, .int .i64 a1_2, .slice A1_3 l1_3.length c1_3], .int .i64 a2] w fun e w' => ∃ v0_ : Value, e = .returned (v0_) ∧ Kd.V (Kd.int .u8) 5 w' w.heap.size (fun k_ => (P0_1_ k_ ∨ w.heap.size ≤ k_)) v0_ r ∧ Below w.heap.size w w' := by
  have hu31 := Try.underlying31
  have hu28 := Try.underlying28
  have HO0_1 := aM (show Kd.V (Kd.int .u8) 5 w w.heap.size (fun k_ => (P0_1_ k_ ∨ w.heap.size ≤ k_)) (.slice A0_1 l0_1.length c0_1) l0_1 from Kd.V_mono hs0_1 (fun k_ hk => .inl hk))
  have HR1_3 := aM hr1_3
  have HC1_3 := aM hc1_3
  clear hr1_3 hc1_3
  have HB := aM (Below.refl w.heap.size w)
  have H := h
  clear h
  unfold impl_Build_block.f at H
  replace H := bE H
  obtain ⟨⟨t242, t243⟩, A4, H⟩ := H
  dsimp only at H
  replace H := ifN H
  obtain ⟨c5, H⟩ := H
  have c5b0 := eq_true c5
  have c5b1 : decide (0 ≤ t242) = true := decide_eq_true c5
  clear c5
  replace H := ifN H
  obtain ⟨c6, H⟩ := H
  have c6b0 := eq_true c6
  have c6b1 : decide (t242 ≤ (wrap64 (t242 + t243))) = true := decide_eq_true c6
  replace H := ifN H
  obtain ⟨c7, H⟩ := H
  have c7b0 := eq_true c7
  have c7b1 : decide ((wrap64 (t242 + t243)) ≤ (l0_1.length : Int)) = true := decide_eq_true c7
  obtain ⟨y244, hy244⟩ : ∃ y_ : List Int, y_ = ((l0_1.take ((wrap64 (t242 + t243)) : Int).toNat).drop (t242 : Int).toNat) := ⟨_, rfl⟩
  rw [← hy244] at H
  have Ny244 := aM hy244
  clear hy244
  obtain rfl := o_I H
  go_enter Try.func66, Try.ntmps66
  go_wp2_with (first | ((with_reducible refine gate_dst (N := 3) rfl ?_); refine gBx 3 #[.int .i64 a0_0, .slice A0_1 l0_1.length c0_1] 31 ?_; intro gb240 hg w8 hbox hb; have BK240 := aM (hbox); have GW240 := gW HB hg; have GE240 := gW HB hg; replace HO0_1 := aM (Kd.V_below (Kd.V_elderB (by exact Zq9_0) gb240 (Nat.le_of_eq hg.symm)) hb); replace HB := bS HB hb; clear hb hbox hg) | ((with_reducible refine gate_dst (N := 4) rfl ?_); refine gBx 4 #[.int .i64 a1_0, .int .i64 a1_1, .int .i64 a1_2, .slice A1_3 l1_3.length c1_3] 28 ?_; intro gb241 hg w9 hbox hb; have BK241 := aM (hbox); have GW241 := gW HB hg; have GE241 := gW HB hg; obtain ⟨NB240_241, NB241_240⟩ := nB BK240 hg; replace HO0_1 := aM (Kd.V_below (Kd.V_elderB (by exact Zq9_0) gb241 (Nat.le_of_eq hg.symm)) hb); replace BK240 := mB BK240 hb; replace HB := bS HB hb; clear hb hbox hg; obtain ⟨hnb10, hnc10⟩ := oB NB241_240; obtain ⟨hcz11_0, hcz11_1, hcz11_2, hcz11_3⟩ := cz4 BK241.out; obtain ⟨hfz11_0, hfz11_1, hfz11_2, hfz11_3⟩ := fz4 BK241.out) | ((with_reducible refine gate_callee (f := 36) rfl ?_); refine gL (some 15) Try.func36 #[.int .i64 a1_1, .int .i64 a1_2, .int .i64 a2] ?_; (with_reducible refine (impl_SpanOf.calls A4.out).mono ?_); rintro e w12 ⟨rfl, hb⟩; refine ⟨_, rfl, ?_⟩; replace HO0_1 := aM (Kd.V_below (by exact Zq9_0) hb); replace BK240 := mB BK240 hb; replace BK241 := mB BK241 hb; replace HB := bS HB hb; clear hb; obtain ⟨hcz13_0, hcz13_1⟩ := cz2 BK240.out; obtain ⟨hfz13_0, hfz13_1⟩ := fz2 BK240.out; have q14 : ((wrap64 (t242 + t243)) : Int) ≤ ((l0_1.length : Int) : Int) := DT; obtain ⟨i014, hi014, _, hsz14, _⟩ := info_parts info5; have hroom14 : l0_1.length ≤ c0_1 := (Kd.V_reads' HO0_1.out).2.1; have hC14 : Kd.F (Kd.int .u8) _ _ A0_1 l0_1.length l0_1 := (Kd.V_at (base := w.heap.size) HO0_1.out).2.2; have ql14 : (t242 : Int) ≤ ((wrap64 (t242 + t243)) : Int) := DT; have q014 : (0 : Int) ≤ (t242 : Int) := DT; have hcut14 := cut_mid (P := Try.prog) 22 5 .i64 .i64 Try.underlying22 hi014 1 hsz14 A0_1 l0_1.length c0_1 t242 (wrap64 (t242 + t243)) q014 ql14 q14 hroom14; have hr14 := Kd.F_mid (lo := (t242 : Int).toNat) (hi := ((wrap64 (t242 + t243)) : Int).toNat) (c := c0_1) hC14 (by omega) (by omega) hroom14; obtain ⟨A14, hA14⟩ : ∃ A1, A1 = (if c0_1 = (t242 : Int).toNat then A0_1 else (A0_1 : Option Addr).map (·.add ((t242 : Int).toNat * 1))) := ⟨_, rfl⟩; obtain ⟨c14, hc14⟩ : ∃ c1, c1 = c0_1 - (t242 : Int).toNat := ⟨_, rfl⟩; have hy14 : y244.length = ((wrap64 (t242 + t243)) : Int).toNat - (t242 : Int).toNat := (by rw [Ny244.out, List.length_drop, List.length_take] <;> omega); rw [show ((l0_1).take ((wrap64 (t242 + t243)) : Int).toNat).drop (t242 : Int).toNat = y244 from Ny244.out.symm] at hr14; replace hr14 : Kd.F (Kd.int .u8) _ _ A14 y244.length y244 := (by rw [hA14]; exact hr14); rw [← hy14, ← hA14, ← hc14] at hcut14; have HO248 := aM (show Kd.V (Kd.int .u8) 5 _ w.heap.size _ (.slice A14 y244.length c14) y244 from Kd.V_mk (by rw [hy14, hc14]; exact Nat.sub_le_sub_right (Nat.le_trans (by omega) hroom14) _) hr14); have HC248 := aM (show y244.length ≤ c14 from by rw [hy14, hc14]; exact Nat.sub_le_sub_right (Nat.le_trans (by omega) hroom14) _); clear hr14 hC14 hroom14 hi014 hsz14 hc14; have KY14 := aM hy14; have KA14 := aM hA14; clear hy14 hA14; replace q14 := eq_true q14))
  go_ret
  exact ⟨_, TE, by (with_reducible repeat (first | apply Kd.V_alloc | apply Kd.V_drewN | apply Kd.V_drew)); exact Kd.V_mono HO248.out (fun _ hk => hk.1.1), TB⟩

def impl_BuildOk_1.f (a0 : Int) : Option (Bool) := some (a0 != 0)
set_option maxHeartbeats 40000000 in
set_option maxRecDepth 100000 in
theorem impl_BuildOk_1.calls {a0 : Int} {r : Bool} {w : World} (h : impl_BuildOk_1.f a0 = some r) :
    Calls Try.prog 68 #[.int .u8 a0] w fun e w' => e = .returned (.bool r) ∧ Drawn0 w w' := by
  have H := h
  clear h
  unfold impl_BuildOk_1.f at H
  obtain rfl := o_I H
  go_enter Try.func68, Try.ntmps68
  go_wp2
  go_ret
  exact ⟨by first | rfl | (simp; done) | (simp [*]; done), TD⟩

def slices_IndexFunc_byte_byte.l0 : Nat → List Int → Int → Int → Option (Int)
  | 0, _, _, _ => none
  | k + 1, x0, x7, x8 => if x8 < x7 then (if 0 ≤ x8 then (if x8 < (x0.length : Int) then ((impl_BuildOk_1.f (rd x0 x8)).bind fun t250 => (if t250 = true then (some x8) else (slices_IndexFunc_byte_byte.l0 k x0 x7 (wrap64 (x8 + 1))))) else (none)) else (none)) else (some (-1))
def slices_IndexFunc_byte_byte.f (k : Nat) (l0 : List Int)  : Option (Int) := slices_IndexFunc_byte_byte.l0 k l0 (l0.length : Int) 0
theorem slices_IndexFunc_byte_byte.mono_l : ∀ k, (∀ y0 y1 y2, LeO (slices_IndexFunc_byte_byte.l0 k y0 y1 y2) (slices_IndexFunc_byte_byte.l0 (k + 1) y0 y1 y2))
  | 0 => fun _ _ _ r h => by simp [slices_IndexFunc_byte_byte.l0] at h
  | k + 1 => by
    have ih0 := slices_IndexFunc_byte_byte.mono_l k
    · intro y0 y1 y2
      unfold slices_IndexFunc_byte_byte.l0
      exact LM
theorem slices_IndexFunc_byte_byte.mono : ∀ a0 k, LeO (slices_IndexFunc_byte_byte.f k a0) (slices_IndexFunc_byte_byte.f (k + 1) a0) := by
  intro a0 k;have ih0 := slices_IndexFunc_byte_byte.mono_l k;unfold slices_IndexFunc_byte_byte.f;exact LM
set_option maxHeartbeats 40000000 in
set_option maxRecDepth 100000 in
theorem slices_IndexFunc_byte_byte.calls {k : Nat} {A0 : Option Addr} {c0 : Nat} {l0 : List Int}  {r : Int} {w : World} (hr0 : Kd.C (Kd.int .u8) w A0 l0.length l0) (hc0 : l0.length ≤ c0) (h : slices_IndexFunc_byte_byte.f k l0 = some r) :
    Calls Try.prog 85 #[.slice A0 l0.length c0, .func (.func 68) #[] #[]] w fun e w' => e = .returned (.int .i64 r) ∧ Drawn0 w w' := by
  have HR0 := aM hr0
  have HC0 := aM hc0
  clear hr0 hc0
  have H := h
  clear h
  unfold slices_IndexFunc_byte_byte.f at H
  have H' := aM H
  clear H
  go_enter Try.func85, Try.ntmps85
  go_wp2
  go_loopg [8] k (fun kq v8 w' => ∃ (x8_1 : Int), v8 = .int .i64 x8_1 ∧ Aside0 (slices_IndexFunc_byte_byte.l0 kq l0 (l0.length : Int) x8_1 = some r) ∧ Aside0 (kq ≤ k) ∧ Drawn0 w w')
  case atStart => exact ⟨(0), TF, H', ⟨Nat.le_refl _⟩, TD⟩
  case round =>
    clear H'
    try clear p2
    obtain ⟨x8_1, rfl, HA, HK1, ⟨m1, rfl⟩⟩ := hrel
    cases gk with
    | zero => exact absurd HA.out (by simp [slices_IndexFunc_byte_byte.l0])
    | succ k1 =>
      have H := HA.out
      clear HA
      simp only [slices_IndexFunc_byte_byte.l0] at H
      by_cases c3 : x8_1 < (l0.length : Int)
      · rw [if_pos c3] at H
        have c3b0 : decide (x8_1 < (l0.length : Int)) = true := decide_eq_true c3
        clear c3
        replace H := ifN H
        obtain ⟨c4, H⟩ := H
        have c4b0 : decide (0 ≤ x8_1) = true := decide_eq_true c4
        clear c4
        replace H := ifN H
        obtain ⟨c5, H⟩ := H
        have c5b0 : decide (x8_1 < (l0.length : Int)) = true := decide_eq_true c5
        clear c5
        replace H := bE H
        obtain ⟨t250, A6, H⟩ := H
        have p249 : 0 ≤ (x8_1 : Int) := DT
        have q249 : x8_1 < (l0.length : Int) := DT
        obtain ⟨ad249, e249, hx249_0⟩ := Kd.at_int HR0.out x8_1 p249 q249
        cases e249
        replace p249 := eq_true p249
        replace q249 := eq_true q249
        by_cases c7 : t250 = true
        · subst c7
          replace H := ifT H
          obtain rfl := o_I H
          go_wp2_with (first | (go_at_call 68; (with_reducible refine (impl_BuildOk_1.calls A6.out).mono ?_); rintro e w' ⟨rfl, ⟨nd, rfl⟩⟩))
          go_ret
          exact ⟨by first | rfl | (simp; done) | (simp [*]; done), TD⟩
        · replace c7 := b_F c7
          subst c7
          replace H := ifF H
          have H' := aM H
          clear H
          go_wp2_with (first | (go_at_call 68; (with_reducible refine (impl_BuildOk_1.calls A6.out).mono ?_); rintro e w' ⟨rfl, ⟨nd, rfl⟩⟩))
          go_roundg k1
          case measure => have := HK1.out; omega
          case rel => exact ⟨(wrap64 (x8_1 + 1)), TF, H', ⟨by have := HK1.out; omega⟩, TD⟩
      · rw [if_neg c3] at H
        have c3b0 : decide (x8_1 < (l0.length : Int)) = false := decide_eq_false c3
        clear c3
        obtain rfl := o_I H
        go_wp2
        go_ret
        exact ⟨by first | rfl | (simp; done) | (simp [*]; done), TD⟩

def slices_ContainsFunc_byte_byte.f (k : Nat) (l0 : List Int)  : Option (Bool) := (slices_IndexFunc_byte_byte.f k l0).bind fun t251 => (some (decide (t251 ≥ 0)))
theorem slices_ContainsFunc_byte_byte.mono : ∀ a0 k, LeO (slices_ContainsFunc_byte_byte.f k a0) (slices_ContainsFunc_byte_byte.f (k + 1) a0) := by
  intro a0 k;have m0_ := @slices_IndexFunc_byte_byte.mono;unfold slices_ContainsFunc_byte_byte.f;exact LM
set_option maxHeartbeats 40000000 in
set_option maxRecDepth 100000 in
theorem slices_ContainsFunc_byte_byte.calls {k : Nat} {A0 : Option Addr} {c0 : Nat} {l0 : List Int}  {r : Bool} {w : World} (hr0 : Kd.C (Kd.int .u8) w A0 l0.length l0) (hc0 : l0.length ≤ c0) (h : slices_ContainsFunc_byte_byte.f k l0 = some r) :
  Calls Try.prog 67 #[.slice A0 l0.length c0, .func (.func 68) #[] #[]] w fun e w' => e = .returned (.bool r) ∧ Drawn0 w w' := by
 have HR0 := aM hr0;have HC0 := aM hc0;clear hr0 hc0;have H := h;clear h;unfold slices_ContainsFunc_byte_byte.f at H;replace H := bE H;obtain ⟨t251, A3, H⟩ := H;obtain rfl := o_I H;go_enter Try.func67, Try.ntmps67;go_wp2_with (first | ((with_reducible refine gate_callee (f := 85) rfl ?_); refine gL (some 7) Try.func85 #[.slice A0 l0.length c0, .func (.func 68) #[] #[]] ?_; (with_reducible refine (slices_IndexFunc_byte_byte.calls ?side1 ?side2 A3.out).mono ?_); (case side1 => have X_ := HR0.out; exact TC); (case side2 => exact HC0.out); rintro e w' ⟨rfl, ⟨nd, rfl⟩⟩; refine ⟨_, rfl, ?_⟩))
 go_ret
 exact ⟨by first | rfl | (simp; done) | (simp [*]; done), TD⟩

end Go.Proofs.Ytaofakpljnkplaa.Q
