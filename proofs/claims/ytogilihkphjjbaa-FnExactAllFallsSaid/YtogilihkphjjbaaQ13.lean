/- Functions of the program as plain Lean functions, and that a call of each comes to what its function tells. Written by a program of this seat. -/
import Derived.Test.YtogilihkphjjbaaQ0
namespace Go.Proofs.Ytogilihkphjjbaa.Q
open Go.RowKit Go.Proofs.YtogilihkphjjbaaW.PrintWords Go.Proofs.YtogilihkphjjbaaW.PrintLast Go.Proofs.YtogilihkphjjbaaW.PrintMore
attribute [local go_sem] max2_int min2_int max_two min_two max_three min_three max_four min_four   -- for this text's walks alone
set_option linter.unusedVariables false
set_option linter.unusedSimpArgs false

/-! ### laws_markByteS: function 24 -/
def laws_markByteS.l0 : Nat → List Int → Int → Int → Option (Int × List Int)
  | 0, _, _, _ => none
  | k + 1, x0, x1, x5 => if x5 < (x0.length : Int) then (if 0 ≤ x5 then (laws_markByteS.l0 k (x0.set (x5 : Int).toNat ((x1) % 256)) (wrap64 (x1 + 1)) (wrap64 (x5 + 1))) else (none)) else (some (x1, x0))
def laws_markByteS.f (k : Nat) (l0 : List Int) (a1 : Int) : Option (Int × List Int) := laws_markByteS.l0 k l0 a1 0
theorem laws_markByteS.mono_l : ∀ k, (∀ y0 y1 y2, LeO (laws_markByteS.l0 k y0 y1 y2) (laws_markByteS.l0 (k + 1) y0 y1 y2))
  | 0 => fun _ _ _ r h => by simp [laws_markByteS.l0] at h
  | k + 1 => by
    have ih0 := laws_markByteS.mono_l k
    · intro y0 y1 y2
      unfold laws_markByteS.l0
      exact LM
theorem laws_markByteS.mono : ∀ a0 a1 k, LeO (laws_markByteS.f k a0 a1) (laws_markByteS.f (k + 1) a0 a1) := by
  intro a0 a1 k
  have ih0 := laws_markByteS.mono_l k
  unfold laws_markByteS.f
  exact LM
set_option maxHeartbeats 40000000 in
set_option maxRecDepth 100000 in
theorem laws_markByteS.calls (k : Nat) (P0_ : Nat → Prop) (u9000_ : Value) (l0 : List Int) (a1 : Int) (r1 : Int) (r2 : List Int) (w0 w : World) (hB : Below w0.heap.size w0 w) (ho0 : Kd.R (Kd.int .u8) 5 w w0.heap.size P0_ u9000_ l0) (h : laws_markByteS.f k l0 a1 = some (r1, r2)) :
    Calls Try.prog 24 #[u9000_, .int .i64 a1] w fun e w' => e = .returned (.int .i64 r1) ∧ Kd.R (Kd.int .u8) 5 w' w0.heap.size (fun k_ => (P0_ k_ ∨ w.heap.size ≤ k_)) u9000_ r2 ∧ Below w0.heap.size w0 w' ∧ Kept w w' (fun k_ => P0_ k_) := by
  have HO0 := aM (show Kd.R (Kd.int .u8) 5 w w0.heap.size (fun k_ => (P0_ k_ ∨ w.heap.size ≤ k_)) u9000_ l0 from Kd.R_mono ho0 (fun k_ hk => (.inl hk)))
  have HK := aM (Kept.refl w (fun k_ => P0_ k_))
  have HW0 := aM hB.size
  have HB := aM hB
  clear hB
  have H := h
  clear h
  unfold laws_markByteS.f at H
  have H' := aM H
  clear H
  go_enter Try.func24, Try.ntmps24
  go_wp2
  go_loopg [1, 5] k (fun kq v1 v5 w' => ∃ (x0_1 : List Int) (x1_1 : Int) (x5_1 : Int), v1 = .int .i64 x1_1 ∧ v5 = .int .i64 x5_1 ∧ Aside0 (laws_markByteS.l0 kq x0_1 x1_1 x5_1 = some (r1, r2)) ∧ Aside0 (kq ≤ k) ∧ Aside0 (Kd.R (Kd.int .u8) 5 w' w0.heap.size (fun k_ => (P0_ k_ ∨ w.heap.size ≤ k_)) u9000_ x0_1) ∧ Aside0 (Kept w w' (fun k_ => P0_ k_)) ∧ Aside0 (Below w0.heap.size w0 w'))
  case atStart => exact ⟨(l0), (a1), (0), (by first | rfl | (simp; done) | (simp [*]; done)), (by first | rfl | (simp; done) | (simp [*]; done)), H', ⟨Nat.le_refl _⟩, ⟨by have X_ := HO0.out; exact TR⟩, ⟨by repeat (first | (with_reducible first | exact HK.out | apply Kept.alloc | apply Kept.drewN | apply Kept.drew) | exact HK.out)⟩, ⟨TB⟩⟩
  case round =>
    clear H'
    try clear c2
    try clear p2
    obtain ⟨x0_1, x1_1, x5_1, rfl, rfl, HA, HK1, HO_0, HK, HB⟩ := hrel
    cases gk with
    | zero => exact absurd HA.out (by simp [laws_markByteS.l0])
    | succ k1 =>
      have H := HA.out
      clear HA
      simp only [laws_markByteS.l0] at H
      by_cases c3 : x5_1 < (x0_1.length : Int)
      · rw [if_pos c3] at H
        have c3b0 : decide (x5_1 < (x0_1.length : Int)) = true := decide_eq_true c3
        clear c3
        replace H := ifN H
        obtain ⟨c4, H⟩ := H
        have c4b0 : decide (0 ≤ x5_1) = true := decide_eq_true c4
        clear c4
        obtain ⟨y229, hy229⟩ : ∃ y_ : List Int, y_ = (x0_1.set (x5_1 : Int).toNat ((x1_1) % 256)) := ⟨_, rfl⟩
        rw [← hy229] at H
        have Ny229 := aM hy229
        clear hy229
        have H' := aM H
        clear H
        obtain ⟨Ao6, co6, eo6⟩ := Kd.R_slice HO_0.out
        subst eo6
        have p5 : 0 ≤ (x5_1 : Int) := DT
        have q5 : (x5_1 : Int) < ((x0_1.length : Int) : Int) := DT
        obtain ⟨go5, co5, eo5, gb5, gl5, cl5, HG5⟩ := Kd.R_form HO_0.out (by omega)
        (first | cases eo5 | (injection eo5 with ea_ en_ ec_; (first | subst ea_ | (injection ea_ with ea_; subst ea_)); subst ec_; clear en_))
        have GB5 := aM gb5
        have GG5 := aM HG5
        clear gb5 gl5 HG5
        have HMgo5 := aM (show (P0_ go5 ∨ w.heap.size ≤ go5) from (HO_0.out.1 _ rfl))
        obtain ⟨hx5_0, hf5_0⟩ := Kd.R_celln 0 HO_0.out (x5_1 : Int) p5 q5
        replace p5 := eq_true p5
        replace q5 := eq_true q5
        have HP7 := Kd.R_putg HO_0.out (x5_1 : Int) ((x1_1) % 256)
        go_wp2_with (first | ((with_reducible refine gate_store (t := 5) (p := 16) rfl ?_); refine store_event (t := 5) (p := 16) (v := ?vo_w8) (w1 := (wr.setCell ⟨go5, (x5_1 : Int).toNat, none⟩ (.int .u8 ((x1_1) % 256)))) ?hg ?ho ?hn ?hr ?_; (case ho => rfl); (case hg => rfl); (case hn => rfl); (case hr => first | (go_simp; done) | (go_simp; rfl)); intro w8 hw; have hg : wr.grownBy w8 (some go5) := (by rw [hw]; exact HP7.2); have hp_ : Kd.R (Kd.int .u8) 5 w8 w0.heap.size (fun k_ => (P0_ k_ ∨ w.heap.size ≤ k_)) (.slice (some ⟨go5, 0, none⟩) x0_1.length co6) y229 := (by rw [hw, Ny229.out]; exact HP7.1); clear HP7; replace HB := aM ((by rw [hw]; exact below_set (HB.out) GB5.out : Below w0.heap.size w0 w8)); replace HK := aM (Kept.of_grown (S := (fun k_ => P0_ k_)) hg (by repeat (first | (with_reducible first | exact HK.out | apply Kept.alloc | apply Kept.drewN | apply Kept.drew) | exact HK.out)) (fun k_ e_ => (HO_0.out.1 k_ e_))); replace HO_0 := aM (hp_); clear hg hw hp_))
        go_roundg k1
        case measure => have := HK1.out; omega
        case rel => exact ⟨(y229), (wrap64 (x1_1 + 1)), (wrap64 (x5_1 + 1)), (by first | rfl | (simp; done) | (simp [*]; done)), (by first | rfl | (simp; done) | (simp [*]; done)), H', ⟨by have := HK1.out; omega⟩, ⟨by have X_ := HO_0.out; exact TR⟩, ⟨by repeat (first | (with_reducible first | exact HK.out | apply Kept.alloc | apply Kept.drewN | apply Kept.drew) | exact HK.out)⟩, ⟨TB⟩⟩
      · rw [if_neg c3] at H
        have c3b0 : decide (x5_1 < (x0_1.length : Int)) = false := decide_eq_false c3
        clear c3
        simp only [Option.some.injEq, Prod.mk.injEq] at H
        obtain ⟨rfl, rfl⟩ := H
        obtain ⟨Ao9, co9, eo9⟩ := Kd.R_slice HO_0.out
        subst eo9
        go_wp2
        go_ret
        exact ⟨by first | rfl | (simp [errW_none, errW_some] <;> rfl) | (simp [*, errW_none, errW_some] <;> rfl), by have X_ := HO_0.out; exact TR, TB, by repeat (first | (with_reducible first | exact HK.out | apply Kept.alloc | apply Kept.drewN | apply Kept.drew) | exact HK.out)⟩

/-! ### laws_markPutS: function 64 -/
def laws_markPutS.l0 : Nat → List S55 → Int → Int → Option (Int × List S55)
  | 0, _, _, _ => none
  | k + 1, x0, x1, x5 => if x5 < (x0.length : Int) then (if 0 ≤ x5 then ((laws_markByteS.f k (rd_T55 x0 x5).f2 (wrap64 (wrap64 (x1 + 1) + 1))).bind fun b => (laws_markPutS.l0 k (x0.set x5.toNat (⟨x1, wrap64 (x1 + 1), b.2, ⟨b.1, wrap64 (b.1 + 1), wrap64 (wrap64 (b.1 + 1) + 1)⟩⟩ : S55)) (wrap64 (wrap64 (wrap64 (b.1 + 1) + 1) + 1)) (wrap64 (x5 + 1)))) else none) else (some (x1, x0))
def laws_markPutS.f (k : Nat) (l0 : List S55) (a1 : Int) : Option (Int × List S55) := laws_markPutS.l0 k l0 a1 0
theorem laws_markPutS.mono_l : ∀ k, (∀ y0 y1 y2, LeO (laws_markPutS.l0 k y0 y1 y2) (laws_markPutS.l0 (k + 1) y0 y1 y2))
  | 0 => fun _ _ _ r h => by simp [laws_markPutS.l0] at h
  | k + 1 => by
    have m0_ := @laws_markByteS.mono
    have ih0 := laws_markPutS.mono_l k
    intro y0 y1 y2
    unfold laws_markPutS.l0
    exact LM
theorem laws_markPutS.mono : ∀ a0 a1 k, LeO (laws_markPutS.f k a0 a1) (laws_markPutS.f (k + 1) a0 a1) := by
  intro a0 a1 k
  have ih0 := laws_markPutS.mono_l k
  exact ih0 _ _ _
set_option maxHeartbeats 4000000 in
set_option maxRecDepth 100000 in
theorem laws_markPutS.calls (k : Nat) (ok : Nat → Prop) (v : Value) (l0 : List S55) (a1 : Int) (r1 : Int) (r2 : List S55) (w0 w : World) (hB : Below w0.heap.size w0 w) (ho : Kd.S k55 55 w w0.heap.size ok v l0) (h : laws_markPutS.f k l0 a1 = some (r1, r2)) :
    Calls Try.prog 64 #[v, .int .i64 a1] w fun e w' => e = .returned (.int .i64 r1) ∧ Kd.S k55 55 w' w0.heap.size ok v r2 ∧ Below w0.heap.size w0 w' ∧ Kept w w' ok := by
  have HO := aM ho
  have HK := aM (Kept.refl w ok)
  have HB := aM hB
  have H' := aM (show laws_markPutS.l0 k l0 a1 0 = some (r1, r2) from h)
  clear ho hB h
  go_enter Try.func64, Try.ntmps64
  go_wp2
  go_loopg [1, 5] k (fun kq v1 v5 w' => ∃ (x0 : List S55) (x1 : Int) (x5 : Int), v1 = .int .i64 x1 ∧ v5 = .int .i64 x5 ∧ Aside0 (laws_markPutS.l0 kq x0 x1 x5 = some (r1, r2)) ∧ Aside0 (kq ≤ k) ∧ Aside0 (Kd.S k55 55 w' w0.heap.size ok v x0) ∧ Aside0 (Kept w w' ok) ∧ Aside0 (Below w0.heap.size w0 w'))
  case atStart => exact ⟨l0, a1, 0, rfl, rfl, H', ⟨Nat.le_refl _⟩, HO, HK, HB⟩
  case round =>
    clear H' HO HK HB
    obtain ⟨x0, x1, x5, rfl, rfl, HA, HK1, HO, HK, HB⟩ := hrel
    cases gk with
    | zero => exact absurd HA.out (by simp [laws_markPutS.l0])
    | succ k1 =>
      have H := HA.out
      clear HA
      simp only [laws_markPutS.l0] at H
      by_cases c3 : x5 < (x0.length : Int)
      · rw [if_pos c3] at H
        replace H := ifN H
        obtain ⟨c4, H⟩ := H
        replace H := bE H
        obtain ⟨⟨b1, b2⟩, A5, H⟩ := H
        dsimp only at A5 H
        have H' := aM H
        clear H
        obtain ⟨g, cap, rfl, hgb, hgl, hgc⟩ := Kd.S_form HO.out (by omega)
        obtain ⟨oki, c, hcl, hM, hcc, hcf, hoki, hH⟩ := Kd.S_elem HO.out z55 x5 c4 c3
        obtain ⟨v2, rfl, hv2⟩ := k55_openM hM
        have c3b : decide (x5 < (x0.length : Int)) = true := decide_eq_true c3
        have HV2 := aM hv2
        have HH := aM hH
        have HOK := aM hoki
        have HG := aM hgb
        have C3 := aM (And.intro c4 c3)
        have HOG := aM ((Kd.S_R HO.out).1 g rfl)
        clear hgc hgl hcl hM hcc hcf hv2 hoki hH HO
        go_wp2_with (first | ((with_reducible refine gate_store (t := 3) (p := 16) rfl ?_); refine gStH (d := k55) 0 [.int .i64 x1] [.int .i64 x1, .int .i64 (x0.getD x5.toNat z55).f1, v2, .int .i64 (x0.getD x5.toNat z55).f3.f0, .int .i64 (x0.getD x5.toNat z55).f3.f1, .int .i64 (x0.getD x5.toNat z55).f3.f2] HH.out C3.out.1 C3.out.2 ?_; intro w1 hw hh; replace HH := aM hh; replace HV2 := aM (Kd.R_move HV2.out (fun k q => hw.2.2 k (HOK.out k q).2)); replace HB := aM (hw.below HB.out HG.out); replace HK := aM (HK.out.then_ hw.kept (fun k e => .inl (e ▸ HOG.out))); clear hw hh)  | ((with_reducible refine gate_store (t := 3) (p := 23) rfl ?_); refine gStH (d := k55) 1 [.int .i64 (wrap64 (x1 + 1))] [.int .i64 x1, .int .i64 (wrap64 (x1 + 1)), v2, .int .i64 (x0.getD x5.toNat z55).f3.f0, .int .i64 (x0.getD x5.toNat z55).f3.f1, .int .i64 (x0.getD x5.toNat z55).f3.f2] HH.out C3.out.1 C3.out.2 ?_; intro w1 hw hh; replace HH := aM hh; replace HV2 := aM (Kd.R_move HV2.out (fun k q => hw.2.2 k (HOK.out k q).2)); replace HB := aM (hw.below HB.out HG.out); replace HK := aM (HK.out.then_ hw.kept (fun k e => .inl (e ▸ HOG.out))); clear hw hh)  | ((with_reducible refine gate_dst (N := 30) rfl ?_); have hc : World.cell? _ ⟨g, x5.toNat * 6 + 2, none⟩ = some v2 := H_cell HH.out C3.out.1 C3.out.2 2 rfl; refine gCl 30 v2 ?_; clear hc)  | ((with_reducible refine gate_callee (f := 24) rfl ?_); refine gL (some 32) Try.func24 #[v2, .int .i64 (wrap64 (wrap64 (x1 + 1) + 1))] ?_; refine (laws_markByteS.calls k1 oki v2 (x0.getD x5.toNat z55).f2 _ b1 b2 w0 _ HB.out HV2.out A5.out).mono ?_; rintro e w4 ⟨rfl, hv, hb, hk⟩; refine ⟨_, rfl, ?_⟩; replace HH := aM (Kd.H_kept HH.out hk (fun k _ q => q)); replace HK := aM (HK.out.then_ hk (fun k e => .inl (HOK.out k e).1)); replace HV2 := aM (Kd.R_reok (ok := oki) rfl hv (fun k e => HV2.out.1 k e)); replace HB := aM hb; clear hv hb hk)  | ((with_reducible refine gate_store (t := 3) (p := 38) rfl ?_); refine gStH (d := k55) 3 [.int .i64 b1] [.int .i64 x1, .int .i64 (wrap64 (x1 + 1)), v2, .int .i64 b1, .int .i64 (x0.getD x5.toNat z55).f3.f1, .int .i64 (x0.getD x5.toNat z55).f3.f2] HH.out C3.out.1 C3.out.2 ?_; intro w1 hw hh; replace HH := aM hh; replace HV2 := aM (Kd.R_move HV2.out (fun k q => hw.2.2 k (HOK.out k q).2)); replace HB := aM (hw.below HB.out HG.out); replace HK := aM (HK.out.then_ hw.kept (fun k e => .inl (e ▸ HOG.out))); clear hw hh)  | ((with_reducible refine gate_store (t := 3) (p := 46) rfl ?_); refine gStH (d := k55) 4 [.int .i64 (wrap64 (b1 + 1))] [.int .i64 x1, .int .i64 (wrap64 (x1 + 1)), v2, .int .i64 b1, .int .i64 (wrap64 (b1 + 1)), .int .i64 (x0.getD x5.toNat z55).f3.f2] HH.out C3.out.1 C3.out.2 ?_; intro w1 hw hh; replace HH := aM hh; replace HV2 := aM (Kd.R_move HV2.out (fun k q => hw.2.2 k (HOK.out k q).2)); replace HB := aM (hw.below HB.out HG.out); replace HK := aM (HK.out.then_ hw.kept (fun k e => .inl (e ▸ HOG.out))); clear hw hh)  | ((with_reducible refine gate_store (t := 3) (p := 54) rfl ?_); refine gStH (d := k55) 5 [.int .i64 (wrap64 (wrap64 (b1 + 1) + 1))] [.int .i64 x1, .int .i64 (wrap64 (x1 + 1)), v2, .int .i64 b1, .int .i64 (wrap64 (b1 + 1)), .int .i64 (wrap64 (wrap64 (b1 + 1) + 1))] HH.out C3.out.1 C3.out.2 ?_; intro w1 hw hh; replace HH := aM hh; replace HV2 := aM (Kd.R_move HV2.out (fun k q => hw.2.2 k (HOK.out k q).2)); replace HB := aM (hw.below HB.out HG.out); replace HK := aM (HK.out.then_ hw.kept (fun k e => .inl (e ▸ HOG.out))); clear hw hh))
        have hs := Kd.H_back HH.out (k55_mkM _ _ _ (⟨x1, wrap64 (x1 + 1), b2, ⟨b1, wrap64 (b1 + 1), wrap64 (wrap64 (b1 + 1) + 1)⟩⟩ : S55) HV2.out) (fun _ q => q)
        go_roundg k1
        case measure => have := HK1.out; omega
        case rel => exact ⟨_, _, _, rfl, rfl, H', ⟨by have := HK1.out; omega⟩, ⟨hs⟩, HK, HB⟩
      · rw [if_neg c3] at H
        have c3b : decide (x5 < (x0.length : Int)) = false := decide_eq_false c3
        clear c3
        simp only [Option.some.injEq, Prod.mk.injEq] at H
        obtain ⟨rfl, rfl⟩ := H
        obtain ⟨A, c, rfl⟩ := Kd.S_slice HO.out
        go_wp2
        go_ret
        exact ⟨rfl, HO.out, HB.out, HK.out⟩

end Go.Proofs.Ytogilihkphjjbaa.Q
