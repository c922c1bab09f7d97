/- Functions of the program as plain Lean functions, and that a call of each comes to what its function tells. Written by a program of this seat. -/
import Derived.Test.YtanpaipapcjpoaaGreatDoorQ0
import Derived.Test.YtanpaipapcjpoaaGreatDoorQ10
set_option maxHeartbeats 40000000
set_option maxRecDepth 100000
namespace Go.Proofs.YtanpaipapcjpoaaGreatDoor.Q
open Go.RowKit Go.Proofs.YtanpaipapcjpoaaGreatDoorW.PrintWords Go.Proofs.YtanpaipapcjpoaaGreatDoorW.PrintLast Go.Proofs.YtanpaipapcjpoaaGreatDoorW.PrintMore
attribute [local go_sem] min2_int min_two
set_option linter.unusedVariables false
set_option linter.unusedSimpArgs false
mutual
def impl_BytesOf.j1 : Nat → Int → Int → Option (List Int × Bool)
  | 0, _, _ => none
  | k + 1, x0, x4 => if x0 < 1 then (impl_BytesOf.j2 k x0 x4 true) else (if 0 ≤ (wrap64 (8 * x4)) then (impl_BytesOf.j2 k x0 x4 ((shr .i64 x0 (wrap64 (8 * x4))) != 1)) else (none))
def impl_BytesOf.j2 : Nat → Int → Int → Bool → Option (List Int × Bool)
  | 0, _, _, _ => none
  | k + 1, x0, x4, x26 => if x26 = true then (some (([] : List Int), false)) else (if 0 ≤ x4 then (if (x4 : Int).toNat ≤ 281474976710656 then ((some (List.replicate (x4 : Int).toNat 0 : List Int)).bind fun y441 => (impl_BytesOf.l1 k x0 x4 y441 (y441.length : Int) 0)) else (none)) else (none))
def impl_BytesOf.l1 : Nat → Int → Int → List Int → Int → Int → Option (List Int × Bool)
  | 0, _, _, _, _, _ => none
  | k + 1, x0, x4, x5, x30, x31 => if x31 < x30 then (if 0 ≤ (wrap64 (8 * (wrap64 ((wrap64 (x4 - 1)) - x31)))) then (if 0 ≤ x31 then (if x31 < (x5.length : Int) then (impl_BytesOf.l1 k x0 x4 (x5.set (x31 : Int).toNat ((shr .i64 x0 (wrap64 (8 * (wrap64 ((wrap64 (x4 - 1)) - x31))))) % 256)) x30 (wrap64 (x31 + 1))) else (none)) else (none)) else (none)) else (some (x5, true))
def impl_BytesOf.l0 : Nat → Int → Int → Option (List Int × Bool)
  | 0, _, _ => none
  | k + 1, x0, x4 => if x4 < 6 then (if 0 ≤ (wrap64 (8 * x4)) then (if (shr .i64 x0 (wrap64 (8 * x4))) > 1 then (impl_BytesOf.l0 k x0 (wrap64 (x4 + 1))) else (impl_BytesOf.j1 k x0 x4)) else (none)) else (impl_BytesOf.j1 k x0 x4)
end
def impl_BytesOf.f (k : Nat) (a0 : Int) : Option (List Int × Bool) := impl_BytesOf.l0 k a0 0
theorem impl_BytesOf.mono_l : ∀ k, (∀ y0 y1, LeO (impl_BytesOf.j1 k y0 y1) (impl_BytesOf.j1 (k + 1) y0 y1)) ∧ (∀ y0 y1 y2, LeO (impl_BytesOf.j2 k y0 y1 y2) (impl_BytesOf.j2 (k + 1) y0 y1 y2)) ∧ (∀ y0 y1 y2 y3 y4, LeO (impl_BytesOf.l1 k y0 y1 y2 y3 y4) (impl_BytesOf.l1 (k + 1) y0 y1 y2 y3 y4)) ∧ (∀ y0 y1, LeO (impl_BytesOf.l0 k y0 y1) (impl_BytesOf.l0 (k + 1) y0 y1))
  | 0 => ⟨fun _ _ r h => by simp [impl_BytesOf.j1] at h, fun _ _ _ r h => by simp [impl_BytesOf.j2] at h, fun _ _ _ _ _ r h => by simp [impl_BytesOf.l1] at h, fun _ _ r h => by simp [impl_BytesOf.l0] at h⟩
  | k + 1 => by
    obtain ⟨ih0, ih1, ih2, ih3⟩ := impl_BytesOf.mono_l k
    refine ⟨?_, ?_, ?_, ?_⟩
    · intro y0 y1
      unfold impl_BytesOf.j1
      exact LM
    · intro y0 y1 y2
      unfold impl_BytesOf.j2
      exact LM
    · intro y0 y1 y2 y3 y4
      unfold impl_BytesOf.l1
      exact LM
    · intro y0 y1
      unfold impl_BytesOf.l0
      exact LM
theorem impl_BytesOf.mono : ∀ a0 k, LeO (impl_BytesOf.f k a0) (impl_BytesOf.f (k + 1) a0) := by
  intro a0 k;obtain ⟨ih0, ih1, ih2, ih3⟩ := impl_BytesOf.mono_l k;unfold impl_BytesOf.f;exact LM
theorem impl_BytesOf.calls {k : Nat} {a0 : Int} {r1 : List Int} {r2 : Bool} {w : World} (h : impl_BytesOf.f k a0 = some (r1, r2)) :
    Calls Tryz.prog 74 #[.int .i64 a0] w fun e w' => ∃ v0_ : Value, e = .returned (.tuple #[v0_, .bool r2]) ∧ Kd.R (Kd.int .u8) 5 w' w.heap.size (fun _ => True) v0_ r1 ∧ Below w.heap.size w w' := by
  have HB := aM (Below.refl w.heap.size w)
  have H := h
  clear h
  unfold impl_BytesOf.f at H
  have HC2 := aM H
  clear H
  go_enter Tryz.func74, Tryz.ntmps74
  go_upto_block 0 with (fail)
  go_cut [4] (fun v4 wc => ∃ (kq : Nat) (x4_1 : Int), v4 = .int .i64 x4_1 ∧ Aside0 (impl_BytesOf.j1 kq a0 x4_1 = some (r1, r2)) ∧ Aside0 (kq ≤ k) ∧ Aside0 (Below w.heap.size w wc))
  case first =>
    have H := HC2.out
    clear HC2
    have H' := aM H
    clear H
    go_wp2
    go_loopg [4] k (fun kq v4 w' => ∃ (x4_1 : Int), v4 = .int .i64 x4_1 ∧ Aside0 (impl_BytesOf.l0 kq a0 x4_1 = some (r1, r2)) ∧ Aside0 (kq ≤ k) ∧ Aside0 (Below w.heap.size w w'))
    case atStart => exact ⟨(0), TF, H', ⟨Nat.le_refl _⟩, ⟨TB⟩⟩
    case round =>
      clear H'
      try clear p2
      obtain ⟨x4_1, rfl, HA, HK1, HB⟩ := hrel
      cases gk with
      | zero => exact absurd HA.out (by simp [impl_BytesOf.l0])
      | succ k1 =>
        have H := HA.out
        clear HA
        simp only [impl_BytesOf.l0] at H
        by_cases c3 : x4_1 < 6
        · rw [if_pos c3] at H
          have c3b0 : decide (x4_1 < 6) = true := decide_eq_true c3
          clear c3
          (first | rw [c3b0] | (simp only [i64_w, i32_w]; rw [c3b0]) | skip)
          obtain ⟨ji4, hji4⟩ : ∃ j_ : Int, (wrap64 (8 * x4_1)) = j_ := ⟨_, rfl⟩
          (first | rw [hji4] at H | simp only [hji4] at H | skip)
          have hji4w : (IntKind.i64.wrap (8 * x4_1)) = ji4 := (i64_w _).trans hji4
          replace H := ifN H
          obtain ⟨c5, H⟩ := H
          have c5b0 := eq_true c5
          have c5b1 : decide (0 ≤ (ji4)) = true := decide_eq_true c5
          clear c5
          obtain ⟨ji6, hji6⟩ : ∃ j_ : Int, (shr .i64 a0 (ji4)) = j_ := ⟨_, rfl⟩
          (first | rw [hji6] at H | simp only [hji6] at H | skip)
          have hji6_ : (a0 / 2 ^ min (ji4).toNat 64) = ji6 := hji6
          have hji6z : (ji4) ≤ 64 → (a0 / 2 ^ (ji4).toNat) = ji6 := shr_small hji6
          by_cases c7 : (ji6) > 1
          · rw [if_pos c7] at H
            have c7b0 : decide (1 < (ji6)) = true := decide_eq_true c7
            clear c7
            have H' := aM H
            clear H
            go_wp2
            go_roundg k1
            case measure => have := HK1.out; omega
            case rel => exact ⟨(wrap64 (x4_1 + 1)), TF, H', ⟨by have := HK1.out; omega⟩, ⟨TB⟩⟩
          · rw [if_neg c7] at H
            have c7b0 : decide (1 < (ji6)) = false := decide_eq_false c7
            clear c7
            have H' := aM H
            clear H
            go_wp2
            go_meet
            case rel => exact ⟨_, (x4_1), TF, H', ⟨by have := HK1.out; first | omega | exact Nat.le_refl _⟩, ⟨TB⟩⟩
        · rw [if_neg c3] at H
          have c3b0 : decide (x4_1 < 6) = false := decide_eq_false c3
          clear c3
          (first | rw [c3b0] | (simp only [i64_w, i32_w]; rw [c3b0]) | skip)
          have H' := aM H
          clear H
          go_wp2
          go_meet
          case rel => exact ⟨_, (x4_1), TF, H', ⟨by have := HK1.out; first | omega | exact Nat.le_refl _⟩, ⟨TB⟩⟩
  case rest =>
    clear HC2
    try clear p2
    try clear c3
    try clear c3b0
    try clear c5
    try clear c5b0
    try clear c5b1
    try clear p6
    try clear c7
    try clear c7b0
    try clear p2
    obtain ⟨kq, x4_1, rfl, HA, HJ1, HB⟩ := hcut
    cases kq with
    | zero => exact absurd HA.out (by simp [impl_BytesOf.j1])
    | succ kj1 =>
      have H := HA.out
      clear HA
      simp only [impl_BytesOf.j1] at H
      have HC8 := aM H
      clear H
      go_upto_region 4 with (fail)
      go_cut [26] (fun v26 wc => ∃ (kq : Nat) (x26_7 : Bool), v26 = .bool x26_7 ∧ Aside0 (impl_BytesOf.j2 kq a0 x4_1 x26_7 = some (r1, r2)) ∧ Aside0 (kq ≤ kj1) ∧ Aside0 (Below w.heap.size w wc))
      case first =>
        have H := HC8.out
        clear HC8
        by_cases c9 : a0 < 1
        · rw [if_pos c9] at H
          have c9b0 : decide (a0 < 1) = true := decide_eq_true c9
          clear c9
          (first | rw [c9b0] | (simp only [i64_w, i32_w]; rw [c9b0]) | skip)
          have H' := aM H
          clear H
          go_wp2
          go_meet
          case rel => exact ⟨_, (true), TF, H', ⟨by have := HJ1.out; first | omega | exact Nat.le_refl _⟩, ⟨TB⟩⟩
        · rw [if_neg c9] at H
          have c9b0 : decide (a0 < 1) = false := decide_eq_false c9
          clear c9
          (first | rw [c9b0] | (simp only [i64_w, i32_w]; rw [c9b0]) | skip)
          obtain ⟨ji10, hji10⟩ : ∃ j_ : Int, (wrap64 (8 * x4_1)) = j_ := ⟨_, rfl⟩
          (first | rw [hji10] at H | simp only [hji10] at H | skip)
          have hji10w : (IntKind.i64.wrap (8 * x4_1)) = ji10 := (i64_w _).trans hji10
          replace H := ifN H
          obtain ⟨c11, H⟩ := H
          have c11b0 := eq_true c11
          have c11b1 : decide (0 ≤ (ji10)) = true := decide_eq_true c11
          clear c11
          obtain ⟨ji12, hji12⟩ : ∃ j_ : Int, (shr .i64 a0 (ji10)) = j_ := ⟨_, rfl⟩
          (first | rw [hji12] at H | simp only [hji12] at H | skip)
          have hji12_ : (a0 / 2 ^ min (ji10).toNat 64) = ji12 := hji12
          have hji12z : (ji10) ≤ 64 → (a0 / 2 ^ (ji10).toNat) = ji12 := shr_small hji12
          have H' := aM H
          clear H
          go_wp2
          go_meet
          case rel => exact ⟨_, (((ji12) != 1)), (by first | rfl | (simp; done) | (simp only [← hji12] <;> (first | rfl | simp)) | (simp [*]; done)), H', ⟨by have := HJ1.out; first | omega | exact Nat.le_refl _⟩, ⟨TB⟩⟩
      case rest =>
        clear HC8
        try clear c1
        try clear p2
        try clear c3
        try clear c3b0
        try clear c5
        try clear c5b0
        try clear c5b1
        try clear p6
        try clear c7
        try clear c7b0
        try clear c9
        try clear c9b0
        try clear c11
        try clear c11b0
        try clear c11b1
        try clear p2
        try clear p6
        obtain ⟨kq, x26_7, rfl, HA, HJ7, HB⟩ := hcut
        cases kq with
        | zero => exact absurd HA.out (by simp [impl_BytesOf.j2])
        | succ kj7 =>
          have H := HA.out
          clear HA
          simp only [impl_BytesOf.j2] at H
          by_cases c13 : x26_7 = true
          · subst c13
            replace H := ifT H
            simp only [Option.some.injEq, Prod.mk.injEq] at H
            obtain ⟨rfl, rfl⟩ := H
            go_wp2
            go_ret2
            exact ⟨_, TE, by first | exact Kd.R_nil _ _ _ _ _ | exact Kd.N_nil _ _ _ _ _ | exact Kd.V_nil _ _ _ _ _ | exact Kd.Q_nil _ _ _ _ _ | exact Kd.S_nil _ _ _ _ _, TB⟩
          · replace c13 := bF c13
            subst c13
            replace H := ifF H
            replace H := ifN H
            obtain ⟨c14, H⟩ := H
            have c14b0 := eq_true c14
            have c14b1 : decide (0 ≤ x4_1) = true := decide_eq_true c14
            clear c14
            replace H := ifN H
            obtain ⟨c15, H⟩ := H
            have c15b0 := eq_true c15
            have c15b1 : decide ((x4_1 : Int).toNat ≤ 281474976710656) = true := decide_eq_true c15
            clear c15
            obtain ⟨y441, hy441⟩ : ∃ y_ : List Int, y_ = (List.replicate (x4_1 : Int).toNat 0) := ⟨_, rfl⟩
            replace H := someE H hy441
            have Ny441 := aM hy441
            clear hy441
            have H' := aM H
            clear H
            go_wp2_with (first | ((with_reducible refine gate_dst (N := 28) rfl ?_); refine Kd.R_make (Kd.int .u8) _ 5 rfl (N := 28) rfl 22 _ _ rfl x4_1 rfl rfl Tryz.underlying22 (.int .u8 0) 1 info5 rfl (by decide) (by omega) 0 (ok := fun _ => True) (okp := fun _ => True) rfl (fun _ hk => hk) trivial DT (Nat.le_trans (Nat.mul_le_mul_right _ (DT : x4_1.toNat ≤ 281474976710656)) (by omega)) (Below.refl _ _) (Nat.le_refl _) ?_; intro v442 w16 ho17 hb hg_ hnew_; clear hg_ hnew_; (first | rw [← Ny441.out] at ho17 | (simp only [Int.reduceToNat] at ho17; rw [← Ny441.out] at ho17)); have HO443 := aM (Kd.R_lower ho17 (below_size TB)); replace HB := bS HB hb; clear hb ho17; obtain ⟨Ao18, co18, eo18⟩ := Kd.R_slice HO443.out; subst eo18))
            go_loopg [31] kj7 (fun kq v31 w' => ∃ (x5_3 : List Int) (x31_3 : Int), v31 = .int .i64 x31_3 ∧ Aside0 (impl_BytesOf.l1 kq a0 x4_1 x5_3 (y441.length : Int) x31_3 = some (r1, r2)) ∧ Aside0 (kq ≤ kj7) ∧ Aside0 (Kd.R (Kd.int .u8) 5 w' w.heap.size (fun _ => True) (.slice Ao18 y441.length co18) x5_3) ∧ Aside0 (Below w.heap.size w w'))
            case atStart => exact ⟨(y441), (0), TF, H', ⟨Nat.le_refl _⟩, ⟨by have X_ := HO443.out; exact TR⟩, ⟨TB⟩⟩
            case round =>
              clear H'
              try clear c1
              try clear p2
              try clear c3
              try clear c3b0
              try clear c5
              try clear c5b0
              try clear c5b1
              try clear p6
              try clear c7
              try clear c7b0
              try clear c9
              try clear c9b0
              try clear c11
              try clear c11b0
              try clear c11b1
              try clear c13
              try clear c14
              try clear c14b0
              try clear c14b1
              try clear c15
              try clear c15b0
              try clear c15b1
              try clear p2
              try clear p6
              obtain ⟨x5_3, x31_3, rfl, HA, HK3, HO_5, HB⟩ := hrel
              have hl5_3 := (Kd.R_reads' HO_5.out).1
              rw [hl5_3] at HO_5
              (try simp only [hl5_3])
              cases gk with
              | zero => exact absurd HA.out (by simp [impl_BytesOf.l1])
              | succ k3 =>
                have H := HA.out
                clear HA
                simp only [impl_BytesOf.l1] at H
                by_cases c19 : x31_3 < (y441.length : Int)
                · rw [if_pos c19] at H
                  have c19b0 : decide (x31_3 < (y441.length : Int)) = true := decide_eq_true c19
                  clear c19
                  obtain ⟨ji20, hji20⟩ : ∃ j_ : Int, (wrap64 (8 * (wrap64 ((wrap64 (x4_1 - 1)) - x31_3)))) = j_ := ⟨_, rfl⟩
                  (first | rw [hji20] at H | simp only [hji20] at H | skip)
                  have hji20w : (IntKind.i64.wrap (8 * (wrap64 ((wrap64 (x4_1 - 1)) - x31_3)))) = ji20 := (i64_w _).trans hji20
                  replace H := ifN H
                  obtain ⟨c21, H⟩ := H
                  have c21b0 := eq_true c21
                  have c21b1 : decide (0 ≤ (ji20)) = true := decide_eq_true c21
                  clear c21
                  obtain ⟨ji22, hji22⟩ : ∃ j_ : Int, (shr .i64 a0 (ji20)) = j_ := ⟨_, rfl⟩
                  (first | rw [hji22] at H | simp only [hji22] at H | skip)
                  have hji22_ : (a0 / 2 ^ min (ji20).toNat 64) = ji22 := hji22
                  have hji22z : (ji20) ≤ 64 → (a0 / 2 ^ (ji20).toNat) = ji22 := shr_small hji22
                  replace H := ifN H
                  obtain ⟨c23, H⟩ := H
                  have c23b0 : decide (0 ≤ x31_3) = true := decide_eq_true c23
                  clear c23
                  replace H := ifN H
                  obtain ⟨c24, H⟩ := H
                  have c24b0 : decide (x31_3 < (x5_3.length : Int)) = true := decide_eq_true c24
                  clear c24
                  obtain ⟨y444, hy444⟩ : ∃ y_ : List Int, y_ = (x5_3.set (x31_3 : Int).toNat ((ji22) % 256)) := ⟨_, rfl⟩
                  rw [← hy444] at H
                  have Ny444 := aM hy444
                  clear hy444
                  have H' := aM H
                  clear H
                  have p25 : 0 ≤ (x31_3 : Int) := DT
                  have q25 : (x31_3 : Int) < ((x5_3.length : Int) : Int) := DT
                  obtain ⟨go25, co25, eo25, gb25, gl25, cl25, HG25⟩ := Kd.R_form HO_5.out (by omega)
                  (first | cases eo25 | (injection eo25 with ea_ en_ ec_; (first | subst ea_ | (injection ea_ with ea_; subst ea_)); subst ec_; clear en_))
                  have GB25 := aM gb25
                  have GG25 := aM HG25
                  clear gb25 gl25 HG25
                  obtain ⟨hx25_0, hf25_0⟩ := Kd.R_celln 0 HO_5.out (x31_3 : Int) p25 q25
                  replace p25 := eq_true p25
                  replace q25 := eq_true q25
                  have HP26 := Kd.R_putg HO_5.out (x31_3 : Int) ((ji22) % 256)
                  go_wp2_with (first | ((with_reducible refine gate_store (t := 5) (p := 44) rfl ?_); refine store_event (t := 5) (p := 44) (v := ?vo_w27) (w1 := (wr.setCell ⟨go25, (x31_3 : Int).toNat, none⟩ (.int .u8 ((ji22) % 256)))) ?hg ?ho ?hn ?hr ?_; (case ho => rfl); (case hg => rfl); (case hn => rfl); (case hr => first | (go_simp; done) | (go_simp; rfl)); intro w27 hw; have hg : wr.grownBy w27 (some go25) := (by rw [hw]; exact HP26.2); have hp_ : Kd.R (Kd.int .u8) 5 w27 w.heap.size (fun _ => True) (.slice (some ⟨go25, 0, none⟩) x5_3.length co18) y444 := (by rw [hw, Ny444.out]; exact HP26.1); clear HP26; replace HO_5 := aM (hp_); replace HB := aM ((by rw [hw]; exact below_set (HB.out) GB25.out : Below w.heap.size w w27)); clear hg hw hp_))
                  (try simp only [← hl5_3])
                  go_roundg k3
                  case measure => have := HJ1.out; have := HJ7.out; have := HK3.out; omega
                  case rel => exact ⟨(y444), (wrap64 (x31_3 + 1)), TF, H', ⟨by have := HJ1.out; have := HJ7.out; have := HK3.out; omega⟩, ⟨by (try simp only [hl5_3]); (with_reducible repeat (first | apply Kd.R_alloc | apply Kd.R_drewN | apply Kd.R_drew)); exact HO_5.out⟩, ⟨TB⟩⟩
                · rw [if_neg c19] at H
                  have c19b0 : decide (x31_3 < (y441.length : Int)) = false := decide_eq_false c19
                  (try rw [hl5_3] at c19b0)
                  clear c19
                  simp only [Option.some.injEq, Prod.mk.injEq] at H
                  obtain ⟨rfl, rfl⟩ := H
                  go_wp2
                  go_ret2
                  exact ⟨_, TE, by have X_ := HO_5.out; exact TR, TB⟩
def impl_SpanOf.f (a0 : Int) (a1 : Int) (a2 : Int) : Option (Int × Int) := (impl_Blocks.f a0 a1).bind fun t445 => ((impl_within.f a2 0 (wrap64 (t445 - 1))).bind fun t446 => (if t446 = true then (some (wrap64 (a2 * a0), mn a0 (wrap64 (a1 - (wrap64 (a2 * a0)))))) else (some (0, 0))))
theorem impl_SpanOf.calls {a0 : Int} {a1 : Int} {a2 : Int} {r1 : Int} {r2 : Int} {w : World} (h : impl_SpanOf.f a0 a1 a2 = some (r1, r2)) :
  Calls Tryz.prog 75 #[.int .i64 a0, .int .i64 a1, .int .i64 a2] w fun e w' => e = .returned (.tuple #[.int .i64 r1, .int .i64 r2]) ∧ Below w.heap.size w w' := by
 have HB := aM (Below.refl w.heap.size w);have H := h;clear h;unfold impl_SpanOf.f at H;replace H := bE H;obtain ⟨ab, Aq1, H⟩ := H;replace H := bE H;obtain ⟨t446, Aq2, H⟩ := H;go_enter Tryz.func75, Tryz.ntmps75;go_wp2_with (first | ((with_reducible refine gate_callee (f := 73) rfl ?_); refine gL (some 11) Tryz.func73 #[.int .i64 a0, .int .i64 a1] ?_; (with_reducible refine (impl_Blocks.calls Aq1.out).mono ?_); rintro e w' ⟨rfl, ⟨nd, rfl⟩⟩; refine ⟨_, rfl, ?_⟩) | ((with_reducible refine gate_callee (f := 47) rfl ?_); refine gL (some 13) Tryz.func47 #[.int .i64 a2, .int .i64 0, .int .i64 (wrap64 (ab - 1))] ?_; (with_reducible refine (impl_within.calls Aq2.out).mono ?_); rintro e w' ⟨rfl, ⟨nd, rfl⟩⟩; refine ⟨_, rfl, ?_⟩) | ((with_reducible refine gate_dst (N := 14) rfl ?_); generalize hG_ : wpList _ _ _ _ _ _ = G_))
 subst hG_
 by_cases c7 : t446 = true
 ·subst c7;replace H := ifT H;obtain ⟨jiq1, aa⟩ : ∃ j_ : Int, (mn a0 (wrap64 (a1 - (wrap64 (a2 * a0))))) = j_ := ⟨_, rfl⟩;(first | rw [aa] at H | simp only [aa] at H | skip);have hjiq2 : (if (wrap64 (a1 - (wrap64 (a2 * a0)))) < a0 then (wrap64 (a1 - (wrap64 (a2 * a0)))) else a0) = jiq1 := aa;simp only [Option.some.injEq, Prod.mk.injEq] at H;obtain ⟨rfl, rfl⟩ := H;go_wp2
  go_ret2
  exact ⟨by first | rfl | (simp [errW_none, errW_some] <;> rfl) | (simp only [← aa]; first | rfl | (simp [errW_none, errW_some] <;> rfl)) | (simp [*, errW_none, errW_some] <;> rfl), TB⟩
 ·replace c7 := bF c7;subst c7;replace H := ifF H;simp only [Option.some.injEq, Prod.mk.injEq] at H;obtain ⟨rfl, rfl⟩ := H;go_wp2
  go_ret2
  exact ⟨TE, TB⟩
end Go.Proofs.YtanpaipapcjpoaaGreatDoor.Q
