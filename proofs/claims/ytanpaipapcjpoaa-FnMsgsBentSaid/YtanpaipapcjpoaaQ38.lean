/- Functions of the program as plain Lean functions, and that a call of each comes to what its function tells. Written by a program of this seat. -/
import Derived.Test.YtanpaipapcjpoaaQ0
import Derived.Test.YtanpaipapcjpoaaQ1
import Derived.Test.YtanpaipapcjpoaaQ30
import Derived.Test.YtanpaipapcjpoaaQ31
import Derived.Test.YtanpaipapcjpoaaQ33
import Derived.Test.YtanpaipapcjpoaaQ37
namespace Go.Proofs.Ytanpaipapcjpoaa.Q
open Go.RowKit Go.Proofs.YtanpaipapcjpoaaW.PrintWords Go.Proofs.YtanpaipapcjpoaaW.PrintLast Go.Proofs.YtanpaipapcjpoaaW.PrintMore
attribute [local go_sem] min2_int min_two
set_option linter.unusedVariables false
set_option linter.unusedSimpArgs false

attribute [local go_sem high] eqA83
def spec_DrawGetMsg.f (k : Nat) (l0 : List Int) : Option (List Int) := (spec_l1New.f k l0).bind fun bt971 => ((spec_l12Draw.f k bt971.1 bt971.2.1 bt971.2.2).bind fun bt975 => ((spec_PutMsg.f k bt975.1 bt975.2.1 bt975.2.2.1 bt975.2.2.2.1 bt975.2.2.2.2.1 bt975.2.2.2.2.2.1 bt975.2.2.2.2.2.2.1 bt975.2.2.2.2.2.2.2.1 bt975.2.2.2.2.2.2.2.2.1 bt975.2.2.2.2.2.2.2.2.2.1).bind fun t991 => ((spec_l1Bent.f bt971.1 bt975.2.2.2.2.2.2.2.2.2.2.1 bt975.2.2.2.2.2.2.2.2.2.2.2 t991).bind fun bt994 => (some bt994.1))))
theorem spec_DrawGetMsg.mono : ∀ a0 k, LeO (spec_DrawGetMsg.f k a0) (spec_DrawGetMsg.f (k + 1) a0) := by
  intro a0 k;have m0_ := @spec_PutMsg.mono;have m1_ := @spec_l12Draw.mono;have m2_ := @spec_l1New.mono;unfold spec_DrawGetMsg.f;exact LM
set_option maxHeartbeats 40000000 in
set_option maxRecDepth 100000 in
theorem spec_DrawGetMsg.calls (k : Nat) (A0 : Option Addr) (c0 : Nat) (l0 : List Int) (r : List Int) (w : World) (hr0 : Kd.C (Kd.int .u8) w A0 l0.length l0) (hc0 : l0.length ≤ c0) (h : spec_DrawGetMsg.f k l0 = some r) :
    Calls Try.prog 14 #[.slice A0 l0.length c0] w fun e w' => ∃ v0_ : Value, e = .returned (v0_) ∧ Kd.R (Kd.int .u8) 5 w' w.heap.size (fun _ => True) v0_ r ∧ Below w.heap.size w w' := by
  have HR0 := aM hr0
  have HC0 := aM hc0
  clear hr0 hc0
  have HB := aM (Below.refl w.heap.size w)
  have H := h
  clear h
  unfold spec_DrawGetMsg.f at H
  replace H := bE H
  obtain ⟨⟨t971, t972, t973⟩, A2, H⟩ := H
  dsimp only at H
  replace H := bE H
  obtain ⟨⟨t975, t976, t977, t978, t979, t980, t983, t984, t985, t986, t989, t990⟩, A3, H⟩ := H
  dsimp only at H
  replace H := bE H
  obtain ⟨t991, A4, H⟩ := H
  replace H := bE H
  obtain ⟨⟨t994, t997, t998⟩, A5, H⟩ := H
  dsimp only at H
  obtain rfl := Option.some.inj H
  go_enter Try.func14, Try.ntmps14
  go_wp2_with (first | ((with_reducible refine gate_callee (f := 31) rfl ?_); refine gL (some 5) Try.func31 #[.slice A0 l0.length c0] ?_; (with_reducible refine (spec_l1New.calls k _ _ l0 t971 t972 t973 w _ ?side1 ?side2 ?side3 A2.out).mono ?_); (case side1 => exact TB); (case side2 => exact HR0.out); (case side3 => exact HC0.out); rintro e w6 ⟨g974, rfl, hi, hb, hb2⟩; refine ⟨_, rfl, ?_⟩; have HI974 := aM (hi); replace HB := aM (hb); clear hi hb hb2) | ((with_reducible refine gate_callee (f := 34) rfl ?_); refine gL (some 8) Try.func34 #[.pointer (some ⟨g974, 0, none⟩)] ?_; (with_reducible refine (spec_l12Draw.calls k g974 t971 t972 t973 t975 t976 t977 t978 t979 t980 t983 t984 t985 t986 t989 t990 w _ ?side1 ?side2 A3.out).mono ?_); (case side1 => exact TI69 HI974); (case side2 => exact TG69 HB HI974); rintro e w7 ⟨v981, v987, rfl, ho0, ho1, hi, hb, hk⟩; refine ⟨_, rfl, ?_⟩; have HO982 := aM (Kd.R_lower ho0 (below_size (TG69 HB HI974))); have HO988 := aM (Kd.R_lower ho1 (below_size (TG69 HB HI974))); replace HB := aM (hb); replace HI974 := aM (hi); (try clear hb); (try clear hb2); (try clear hk); (try clear hi); (try clear ho0); (try clear ho1); obtain ⟨Ao8, co8, eo8⟩ := Kd.R_slice HO982.out; subst eo8; obtain ⟨Ao9, co9, eo9⟩ := Kd.R_slice HO988.out; subst eo9) | ((with_reducible refine gate_callee (f := 33) rfl ?_); refine gL (some 9) Try.func33 #[.agg #[.int .i64 t975, .int .i64 t976, .int .i64 t977, .int .i64 t978, .int .i64 t979, .slice Ao8 t980.length co8, .int .i64 t983, .int .i64 t984, .int .i64 t985, .slice Ao9 t986.length co9]] ?_; (with_reducible refine (spec_PutMsg.calls k t975 t976 t977 t978 t979 _ _ t980 t983 t984 t985 _ _ t986 t991 _ ?side1 ?side2 ?side3 ?side4 A4.out).mono ?_); (case side1 => have X_ := (Kd.R_reads' HO982.out).2.2; exact TC); (case side2 => exact (Kd.R_reads' HO982.out).2.1); (case side3 => have X_ := (Kd.R_reads' HO988.out).2.2; exact TC); (case side4 => exact (Kd.R_reads' HO988.out).2.1); rintro e w10 ⟨v992, rfl, ho0, hb⟩; refine ⟨_, rfl, ?_⟩; have HO993 := aM (Kd.R_lower (Kd.R_new' ho0 (Kd.R_lt (TRf HO988))) (below_size (TG69 HB HI974))); replace HO982 := mR HO982 hb; replace HO988 := aM (Kd.R_elder' (TRf HO988) (Kd.R_base ho0) hb); replace HB := aM (below_step (TG69 HB HI974) hb); replace HI974 := aM (IsS69.below (TI69 HI974) hb); (try clear hb); (try clear hb2); (try clear hk); (try clear hi); (try clear ho0); obtain ⟨Ao11, co11, eo11⟩ := Kd.R_slice HO993.out; subst eo11) | ((with_reducible refine gate_callee (f := 32) rfl ?_); refine gL (some 10) Try.func32 #[.pointer (some ⟨g974, 0, none⟩), .slice Ao11 t991.length co11] ?_; (with_reducible refine (spec_l1Bent.calls g974 t971 t989 t990 _ _ t991 t994 t997 t998 w _ ?side1 ?side2 ?side3 ?side4 ?side5 A5.out).mono ?_); (case side1 => exact TI69 HI974); (case side2 => exact TG69 HB HI974); (case side3 => have X_ := (Kd.R_reads' HO993.out).2.2; exact TC); (case side4 => exact (Kd.R_reads' HO993.out).2.1); (case side5 => exact far_slice (IsS69.own_ne HI974.out HO993.out (by decide))); rintro e w12 ⟨v995, rfl, ho0, hi, hb, hk⟩; refine ⟨_, rfl, ?_⟩; have HO996 := aM (Kd.R_lower (Kd.R_new' (Kd.R_new' ho0 (Kd.R_lt (TRf HO988))) (Kd.R_lt (TRf HO993))) (below_size (TG69 HB HI974))); replace HO982 := aM (Kd.R_mono (Kd.R_keep (IsS69.apart (show IsS69 w _ g974 t971 t989 t990 from TI69 HI974) (TRf HO982) (by decide)) hk (fun _ h => h.2)) (fun _ h => h.1)); replace HO988 := aM (Kd.R_mono (Kd.R_told (Kd.R_oldK (IsS69.apart (show IsS69 w _ g974 t971 t989 t990 from TI69 HI974) (TRf HO988) (by decide)) hk) (Kd.R_base ho0)) (fun _ h_ => h_.1)); replace HO993 := aM (Kd.R_mono (Kd.R_told (Kd.R_oldK (IsS69.apart (show IsS69 w _ g974 t971 t989 t990 from TI69 HI974) (TRf HO993) (by decide)) hk) (Kd.R_base ho0)) (fun _ h_ => h_.1)); replace HB := aM (hb); replace HI974 := aM (hi); (try clear hb); (try clear hb2); (try clear hk); (try clear hi); (try clear ho0)))
  go_ret
  exact ⟨_, TE, by (with_reducible repeat (first | apply Kd.R_alloc | apply Kd.R_drewN | apply Kd.R_drew)); exact Kd.R_mono HO996.out (fun _ hk => trivial), TG69 HB HI974⟩

def laws_same.l0 : Nat → List Int → List Int → Int → Option (Bool)
  | 0, _, _, _ => none
  | k + 1, x0, x1, x5 => if x5 < (x0.length : Int) then (if 0 ≤ x5 then (if x5 < (x1.length : Int) then (if (rd x0 x5) = (rd x1 x5) then (laws_same.l0 k x0 x1 (wrap64 (x5 + 1))) else (some false)) else (none)) else (none)) else (some true)
def laws_same.f (k : Nat) (l0 : List Int) (l1 : List Int) : Option (Bool) := if (l0.length : Int) = (l1.length : Int) then (laws_same.l0 k l0 l1 0) else (some false)
theorem laws_same.mono_l : ∀ k, (∀ y0 y1 y2, LeO (laws_same.l0 k y0 y1 y2) (laws_same.l0 (k + 1) y0 y1 y2))
  | 0 => fun _ _ _ r h => by simp [laws_same.l0] at h
  | k + 1 => by
    have ih0 := laws_same.mono_l k
    · intro y0 y1 y2
      unfold laws_same.l0
      exact LM
theorem laws_same.mono : ∀ a0 a1 k, LeO (laws_same.f k a0 a1) (laws_same.f (k + 1) a0 a1) := by
  intro a0 a1 k;have ih0 := laws_same.mono_l k;unfold laws_same.f;exact LM
set_option maxHeartbeats 40000000 in
set_option maxRecDepth 100000 in
theorem laws_same.calls (k : Nat) (A0 : Option Addr) (c0 : Nat) (l0 : List Int) (A1 : Option Addr) (c1 : Nat) (l1 : List Int) (r : Bool) (w : World) (hr0 : Kd.C (Kd.int .u8) w A0 l0.length l0) (hc0 : l0.length ≤ c0) (hr1 : Kd.C (Kd.int .u8) w A1 l1.length l1) (hc1 : l1.length ≤ c1) (h : laws_same.f k l0 l1 = some r) :
    Calls Try.prog 18 #[.slice A0 l0.length c0, .slice A1 l1.length c1] w fun e w' => e = .returned (.bool r) ∧ Drawn0 w w' := by
  have HR0 := aM hr0
  have HC0 := aM hc0
  clear hr0 hc0
  have HR1 := aM hr1
  have HC1 := aM hc1
  clear hr1 hc1
  have H := h
  clear h
  unfold laws_same.f at H
  by_cases c3 : (l0.length : Int) = (l1.length : Int)
  · rw [if_pos c3] at H
    have c3b0 : ((l0.length : Int) == (l1.length : Int)) = true := beq_iff_eq.mpr c3
    have c3b1 : ((l0.length : Int) != (l1.length : Int)) = false := bne_eq_false_iff_eq.mpr c3
    have c3b2 : (l0.length == l1.length) = true := by first | simpa using c3 | (simp at c3 ⊢; omega)
    clear c3
    have H' := aM H
    clear H
    go_enter Try.func18, Try.ntmps18
    go_wp2
    repeat (go_quiet (fail); try go_wp2)
    go_loopg [5] k (fun kq v5 w' => ∃ (x5_1 : Int), v5 = .int .i64 x5_1 ∧ Aside0 (laws_same.l0 kq l0 l1 x5_1 = some r) ∧ Aside0 (kq ≤ k) ∧ Drawn0 w w')
    case atStart => exact ⟨(0), TF, H', ⟨Nat.le_refl _⟩, TD⟩
    case round =>
      clear H'
      try clear c1
      try clear p2
      try clear c3
      try clear c3b0
      try clear c3b1
      try clear c3b2
      obtain ⟨x5_1, rfl, HA, HK1, ⟨m1, rfl⟩⟩ := hrel
      cases gk with
      | zero => exact absurd HA.out (by simp [laws_same.l0])
      | succ k1 =>
        have H := HA.out
        clear HA
        simp only [laws_same.l0] at H
        by_cases c4 : x5_1 < (l0.length : Int)
        · rw [if_pos c4] at H
          have c4b0 : decide (x5_1 < (l0.length : Int)) = true := decide_eq_true c4
          clear c4
          replace H := ifN H
          obtain ⟨c5, H⟩ := H
          have c5b0 : decide (0 ≤ x5_1) = true := decide_eq_true c5
          clear c5
          replace H := ifN H
          obtain ⟨c6, H⟩ := H
          have c6b0 : decide (x5_1 < (l1.length : Int)) = true := decide_eq_true c6
          clear c6
          by_cases c7 : (rd l0 x5_1) = (rd l1 x5_1)
          · rw [if_pos c7] at H
            have c7b0 : ((rd l0 x5_1) == (rd l1 x5_1)) = true := beq_iff_eq.mpr c7
            have c7b1 : ((rd l0 x5_1) != (rd l1 x5_1)) = false := bne_eq_false_iff_eq.mpr c7
            clear c7
            have H' := aM H
            clear H
            have p999 : 0 ≤ (x5_1 : Int) := DT
            have q999 : x5_1 < (l0.length : Int) := DT
            obtain ⟨ad999, e999, hx999_0⟩ := Kd.at_int HR0.out x5_1 p999 q999
            cases e999
            replace p999 := eq_true p999
            replace q999 := eq_true q999
            have p1000 : 0 ≤ (x5_1 : Int) := DT
            have q1000 : x5_1 < (l1.length : Int) := DT
            obtain ⟨ad1000, e1000, hx1000_0⟩ := Kd.at_int HR1.out x5_1 p1000 q1000
            cases e1000
            replace p1000 := eq_true p1000
            replace q1000 := eq_true q1000
            go_wp2
            repeat (go_quiet (fail); try go_wp2)
            go_roundg k1
            case measure => have := HK1.out; omega
            case rel => exact ⟨(wrap64 (x5_1 + 1)), TF, H', ⟨by have := HK1.out; omega⟩, TD⟩
          · rw [if_neg c7] at H
            have c7b0 : ((rd l0 x5_1) == (rd l1 x5_1)) = false := beq_eq_false_iff_ne.mpr c7
            have c7b1 : ((rd l0 x5_1) != (rd l1 x5_1)) = true := bne_iff_ne.mpr c7
            obtain rfl := Option.some.inj H
            have p999 : 0 ≤ (x5_1 : Int) := DT
            have q999 : x5_1 < (l0.length : Int) := DT
            obtain ⟨ad999, e999, hx999_0⟩ := Kd.at_int HR0.out x5_1 p999 q999
            cases e999
            replace p999 := eq_true p999
            replace q999 := eq_true q999
            have p1000 : 0 ≤ (x5_1 : Int) := DT
            have q1000 : x5_1 < (l1.length : Int) := DT
            obtain ⟨ad1000, e1000, hx1000_0⟩ := Kd.at_int HR1.out x5_1 p1000 q1000
            cases e1000
            replace p1000 := eq_true p1000
            replace q1000 := eq_true q1000
            go_wp2
            repeat (go_quiet (fail); try go_wp2)
            go_ret
            exact ⟨by first | rfl | (simp; done) | (simp [*]; done), TD⟩
        · rw [if_neg c4] at H
          have c4b0 : decide (x5_1 < (l0.length : Int)) = false := decide_eq_false c4
          clear c4
          obtain rfl := Option.some.inj H
          go_wp2
          repeat (go_quiet (fail); try go_wp2)
          go_ret
          exact ⟨by first | rfl | (simp; done) | (simp [*]; done), TD⟩
  · rw [if_neg c3] at H
    have c3b0 : ((l0.length : Int) == (l1.length : Int)) = false := beq_eq_false_iff_ne.mpr c3
    have c3b1 : ((l0.length : Int) != (l1.length : Int)) = true := bne_iff_ne.mpr c3
    have c3b2 : (l0.length == l1.length) = false := by first | simpa using c3 | (simp at c3 ⊢; omega)
    obtain rfl := Option.some.inj H
    go_enter Try.func18, Try.ntmps18
    go_wp2
    repeat (go_quiet (fail); try go_wp2)
    go_ret
    exact ⟨by first | rfl | (simp; done) | (simp [*]; done), TD⟩

def laws_sameSums.l0 : Nat → List (S83) → List (S83) → Int → Option (Bool)
  | 0, _, _, _ => none
  | k + 1, x0, x1, x5 => if x5 < (x0.length : Int) then (if 0 ≤ x5 then (if x5 < (x1.length : Int) then (if (!(((rd_T83 x0 x5).f0) == ((rd_T83 x1 x5).f0)) || (!(((rd_T83 x0 x5).f1) == ((rd_T83 x1 x5).f1)))) = true then (some false) else (laws_sameSums.l0 k x0 x1 (wrap64 (x5 + 1)))) else (none)) else (none)) else (some true)
def laws_sameSums.f (k : Nat) (l0 : List (S83)) (l1 : List (S83)) : Option (Bool) := if (l0.length : Int) = (l1.length : Int) then (laws_sameSums.l0 k l0 l1 0) else (some false)
theorem laws_sameSums.mono_l : ∀ k, (∀ y0 y1 y2, LeO (laws_sameSums.l0 k y0 y1 y2) (laws_sameSums.l0 (k + 1) y0 y1 y2))
  | 0 => fun _ _ _ r h => by simp [laws_sameSums.l0] at h
  | k + 1 => by
    have ih0 := laws_sameSums.mono_l k
    · intro y0 y1 y2
      unfold laws_sameSums.l0
      exact LM
theorem laws_sameSums.mono : ∀ a0 a1 k, LeO (laws_sameSums.f k a0 a1) (laws_sameSums.f (k + 1) a0 a1) := by
  intro a0 a1 k;have ih0 := laws_sameSums.mono_l k;unfold laws_sameSums.f;exact LM
set_option maxHeartbeats 40000000 in
set_option maxRecDepth 100000 in
theorem laws_sameSums.calls (k : Nat) (A0 : Option Addr) (c0 : Nat) (l0 : List (S83)) (A1 : Option Addr) (c1 : Nat) (l1 : List (S83)) (r : Bool) (w : World) (hr0 : Kd.C k83 w A0 l0.length l0) (hc0 : l0.length ≤ c0) (hr1 : Kd.C k83 w A1 l1.length l1) (hc1 : l1.length ≤ c1) (h : laws_sameSums.f k l0 l1 = some r) :
    Calls Try.prog 72 #[.slice A0 l0.length c0, .slice A1 l1.length c1] w fun e w' => e = .returned (.bool r) ∧ Drawn0 w w' := by
  have hu83 := Try.underlying83
  have HR0 := aM hr0
  have HC0 := aM hc0
  clear hr0 hc0
  have HR1 := aM hr1
  have HC1 := aM hc1
  clear hr1 hc1
  have H := h
  clear h
  unfold laws_sameSums.f at H
  by_cases c3 : (l0.length : Int) = (l1.length : Int)
  · rw [if_pos c3] at H
    have c3b0 : ((l0.length : Int) == (l1.length : Int)) = true := beq_iff_eq.mpr c3
    have c3b1 : ((l0.length : Int) != (l1.length : Int)) = false := bne_eq_false_iff_eq.mpr c3
    have c3b2 : (l0.length == l1.length) = true := by first | simpa using c3 | (simp at c3 ⊢; omega)
    clear c3
    have H' := aM H
    clear H
    go_enter Try.func72, Try.ntmps72
    go_wp2
    repeat (go_quiet (fail); try go_wp2)
    go_loopg [5] k (fun kq v5 w' => ∃ (x5_1 : Int), v5 = .int .i64 x5_1 ∧ Aside0 (laws_sameSums.l0 kq l0 l1 x5_1 = some r) ∧ Aside0 (kq ≤ k) ∧ Drawn0 w w')
    case atStart => exact ⟨(0), TF, H', ⟨Nat.le_refl _⟩, TD⟩
    case round =>
      clear H'
      try clear c1
      try clear p2
      try clear c3
      try clear c3b0
      try clear c3b1
      try clear c3b2
      obtain ⟨x5_1, rfl, HA, HK1, ⟨m1, rfl⟩⟩ := hrel
      cases gk with
      | zero => exact absurd HA.out (by simp [laws_sameSums.l0])
      | succ k1 =>
        have H := HA.out
        clear HA
        simp only [laws_sameSums.l0] at H
        by_cases c4 : x5_1 < (l0.length : Int)
        · rw [if_pos c4] at H
          have c4b0 : decide (x5_1 < (l0.length : Int)) = true := decide_eq_true c4
          clear c4
          replace H := ifN H
          obtain ⟨c5, H⟩ := H
          have c5b0 : decide (0 ≤ x5_1) = true := decide_eq_true c5
          clear c5
          replace H := ifN H
          obtain ⟨c6, H⟩ := H
          have c6b0 : decide (x5_1 < (l1.length : Int)) = true := decide_eq_true c6
          clear c6
          by_cases c7 : (!(((rd_T83 l0 x5_1).f0) == ((rd_T83 l1 x5_1).f0)) || (!(((rd_T83 l0 x5_1).f1) == ((rd_T83 l1 x5_1).f1)))) = true
          · rw [if_pos c7] at H
            have c7b0 : (!(((rd_T83 l0 x5_1).f0) == ((rd_T83 l1 x5_1).f0)) || (!(((rd_T83 l0 x5_1).f1) == ((rd_T83 l1 x5_1).f1)))) = true := c7
            clear c7
            obtain rfl := Option.some.inj H
            have p1001 : 0 ≤ (x5_1 : Int) := DT
            have q1001 : x5_1 < (l0.length : Int) := DT
            obtain ⟨ad1001, e1001, hx1001_0, hx1001_1⟩ := at_T83 HR0.out x5_1 p1001 q1001
            cases e1001
            replace p1001 := eq_true p1001
            replace q1001 := eq_true q1001
            have p1002 : 0 ≤ (x5_1 : Int) := DT
            have q1002 : x5_1 < (l1.length : Int) := DT
            obtain ⟨ad1002, e1002, hx1002_0, hx1002_1⟩ := at_T83 HR1.out x5_1 p1002 q1002
            cases e1002
            replace p1002 := eq_true p1002
            replace q1002 := eq_true q1002
            go_wp2
            repeat (go_quiet (fail); try go_wp2)
            go_ret
            exact ⟨by first | rfl | (simp; done) | (simp [*]; done), TD⟩
          · rw [if_neg c7] at H
            have c7b0 : (!(((rd_T83 l0 x5_1).f0) == ((rd_T83 l1 x5_1).f0)) || (!(((rd_T83 l0 x5_1).f1) == ((rd_T83 l1 x5_1).f1)))) = false := by simpa using c7
            clear c7
            have H' := aM H
            clear H
            have p1001 : 0 ≤ (x5_1 : Int) := DT
            have q1001 : x5_1 < (l0.length : Int) := DT
            obtain ⟨ad1001, e1001, hx1001_0, hx1001_1⟩ := at_T83 HR0.out x5_1 p1001 q1001
            cases e1001
            replace p1001 := eq_true p1001
            replace q1001 := eq_true q1001
            have p1002 : 0 ≤ (x5_1 : Int) := DT
            have q1002 : x5_1 < (l1.length : Int) := DT
            obtain ⟨ad1002, e1002, hx1002_0, hx1002_1⟩ := at_T83 HR1.out x5_1 p1002 q1002
            cases e1002
            replace p1002 := eq_true p1002
            replace q1002 := eq_true q1002
            go_wp2
            repeat (go_quiet (fail); try go_wp2)
            go_roundg k1
            case measure => have := HK1.out; omega
            case rel => exact ⟨(wrap64 (x5_1 + 1)), TF, H', ⟨by have := HK1.out; omega⟩, TD⟩
        · rw [if_neg c4] at H
          have c4b0 : decide (x5_1 < (l0.length : Int)) = false := decide_eq_false c4
          clear c4
          obtain rfl := Option.some.inj H
          go_wp2
          repeat (go_quiet (fail); try go_wp2)
          go_ret
          exact ⟨by first | rfl | (simp; done) | (simp [*]; done), TD⟩
  · rw [if_neg c3] at H
    have c3b0 : ((l0.length : Int) == (l1.length : Int)) = false := beq_eq_false_iff_ne.mpr c3
    have c3b1 : ((l0.length : Int) != (l1.length : Int)) = true := bne_iff_ne.mpr c3
    have c3b2 : (l0.length == l1.length) = false := by first | simpa using c3 | (simp at c3 ⊢; omega)
    obtain rfl := Option.some.inj H
    go_enter Try.func72, Try.ntmps72
    go_wp2
    repeat (go_quiet (fail); try go_wp2)
    go_ret
    exact ⟨by first | rfl | (simp; done) | (simp [*]; done), TD⟩

def laws_sameMan.f (k : Nat) (a0_0 : Int) (a0_1 : Int) (a0_2 : Int) (l0_3 : List (S83)) (a1_0 : Int) (a1_1 : Int) (a1_2 : Int) (l1_3 : List (S83)) : Option (Bool) := if a0_0 = a1_0 then (if a0_1 = a1_1 then (if a0_2 = a1_2 then ((laws_sameSums.f k l0_3 l1_3).bind fun t1005 => (some t1005)) else (some false)) else (some false)) else (some false)
theorem laws_sameMan.mono : ∀ a0 a1 a2 a3 a4 a5 a6 a7 k, LeO (laws_sameMan.f k a0 a1 a2 a3 a4 a5 a6 a7) (laws_sameMan.f (k + 1) a0 a1 a2 a3 a4 a5 a6 a7) := by
  intro a0 a1 a2 a3 a4 a5 a6 a7 k;have m0_ := @laws_sameSums.mono;unfold laws_sameMan.f;exact LM
set_option maxHeartbeats 40000000 in
set_option maxRecDepth 100000 in
theorem laws_sameMan.calls (k : Nat) (ab : Int) (aa : Int) (ac : Int) (ai : Option Addr) (ak : Nat) (ag : List (S83)) (ae : Int) (ad : Int) (af : Int) (aj : Option Addr) (al : Nat) (ah : List (S83)) (r : Bool) (w : World) (ap : Kd.C k83 w ai ag.length ag) (aq : ag.length ≤ ak) (an : Kd.C k83 w aj ah.length ah) (ao : ah.length ≤ al) (h : laws_sameMan.f k ab aa ac ag ae ad af ah = some r) :
  Calls Try.prog 35 #[.agg #[.int .i64 ab, .int .i64 aa, .int .i64 ac, .slice ai ag.length ak], .agg #[.int .i64 ae, .int .i64 ad, .int .i64 af, .slice aj ah.length al]] w fun e w' => e = .returned (.bool r) ∧ Below w.heap.size w w' := by
 have hu25 := Try.underlying25;have HR0_3 := aM ap;have HC0_3 := aM aq;clear ap aq;have HR1_3 := aM an;have HC1_3 := aM ao;clear an ao;have HB := aM (Below.refl w.heap.size w);have H := h;clear h;unfold laws_sameMan.f at H
 by_cases c3 : ab = ae
 ·rw [if_pos c3] at H;have c3b0 : (ab == ae) = true := beq_iff_eq.mpr c3;have c3b1 : (ab != ae) = false := bne_eq_false_iff_eq.mpr c3;clear c3
  by_cases c4 : aa = ad
  ·rw [if_pos c4] at H;have c4b0 : (aa == ad) = true := beq_iff_eq.mpr c4;have c4b1 : (aa != ad) = false := bne_eq_false_iff_eq.mpr c4;clear c4
   by_cases c5 : ac = af
   ·rw [if_pos c5] at H;have c5b0 : (ac == af) = true := beq_iff_eq.mpr c5;have c5b1 : (ac != af) = false := bne_eq_false_iff_eq.mpr c5;clear c5;replace H := bE H;obtain ⟨t1005, A6, H⟩ := H;obtain rfl := Option.some.inj H;go_enter Try.func35, Try.ntmps35;go_wp2_with (first | ((with_reducible refine gate_dst (N := 2) rfl ?_); refine gBx 2 #[.int .i64 ab, .int .i64 aa, .int .i64 ac, .slice ai ag.length ak] 25 ?_; intro am hg w7 hbox hb; have BK1003 := aM (hbox); have GW1003 := gW HB hg; have GE1003 := gW HB hg; replace HB := bS HB hb; clear hb hbox hg) | ((with_reducible refine gate_dst (N := 3) rfl ?_); refine gBx 3 #[.int .i64 ae, .int .i64 ad, .int .i64 af, .slice aj ah.length al] 25 ?_; intro gb1004 hg w8 hbox hb; have BK1004 := aM (hbox); have GW1004 := gW HB hg; have GE1004 := gW HB hg; obtain ⟨NB1003_1004, NB1004_1003⟩ := nB BK1003 hg; replace BK1003 := mB BK1003 hb; replace HB := bS HB hb; clear hb hbox hg; obtain ⟨hnb9, hnc9⟩ := oB NB1003_1004; obtain ⟨hcz10_0, hcz10_1, hcz10_2, hcz10_3⟩ := cz4 BK1003.out; obtain ⟨hfz10_0, hfz10_1, hfz10_2, hfz10_3⟩ := fz4 BK1003.out; obtain ⟨hcz11_0, hcz11_1, hcz11_2, hcz11_3⟩ := cz4 BK1004.out; obtain ⟨hfz11_0, hfz11_1, hfz11_2, hfz11_3⟩ := fz4 BK1004.out) | (go_at_call 72; (with_reducible refine (laws_sameSums.calls k _ _ ag _ _ ah t1005 _ ?side1 ?side2 ?side3 ?side4 A6.out).mono ?_); (case side1 => have X_ := (Kd.C_below HR0_3.out HB.out); exact TC); (case side2 => exact HC0_3.out); (case side3 => have X_ := (Kd.C_below HR1_3.out HB.out); exact TC); (case side4 => exact HC1_3.out); rintro e w' ⟨rfl, ⟨nd, rfl⟩⟩))
    go_ret
    exact ⟨TE, TB⟩
   ·rw [if_neg c5] at H;have c5b0 : (ac == af) = false := beq_eq_false_iff_ne.mpr c5;have c5b1 : (ac != af) = true := bne_iff_ne.mpr c5;obtain rfl := Option.some.inj H;go_enter Try.func35, Try.ntmps35;go_wp2_with (first | ((with_reducible refine gate_dst (N := 2) rfl ?_); refine gBx 2 #[.int .i64 ab, .int .i64 aa, .int .i64 ac, .slice ai ag.length ak] 25 ?_; intro am hg w12 hbox hb; have BK1003 := aM (hbox); have GW1003 := gW HB hg; have GE1003 := gW HB hg; replace HB := bS HB hb; clear hb hbox hg) | ((with_reducible refine gate_dst (N := 3) rfl ?_); refine gBx 3 #[.int .i64 ae, .int .i64 ad, .int .i64 af, .slice aj ah.length al] 25 ?_; intro gb1004 hg w13 hbox hb; have BK1004 := aM (hbox); have GW1004 := gW HB hg; have GE1004 := gW HB hg; obtain ⟨NB1003_1004, NB1004_1003⟩ := nB BK1003 hg; replace BK1003 := mB BK1003 hb; replace HB := bS HB hb; clear hb hbox hg; obtain ⟨hnb14, hnc14⟩ := oB NB1003_1004; obtain ⟨hcz15_0, hcz15_1, hcz15_2, hcz15_3⟩ := cz4 BK1003.out; obtain ⟨hfz15_0, hfz15_1, hfz15_2, hfz15_3⟩ := fz4 BK1003.out; obtain ⟨hcz16_0, hcz16_1, hcz16_2, hcz16_3⟩ := cz4 BK1004.out; obtain ⟨hfz16_0, hfz16_1, hfz16_2, hfz16_3⟩ := fz4 BK1004.out))
    go_ret
    exact ⟨TE, TB⟩
  ·rw [if_neg c4] at H;have c4b0 : (aa == ad) = false := beq_eq_false_iff_ne.mpr c4;have c4b1 : (aa != ad) = true := bne_iff_ne.mpr c4;obtain rfl := Option.some.inj H;go_enter Try.func35, Try.ntmps35;go_wp2_with (first | ((with_reducible refine gate_dst (N := 2) rfl ?_); refine gBx 2 #[.int .i64 ab, .int .i64 aa, .int .i64 ac, .slice ai ag.length ak] 25 ?_; intro am hg w17 hbox hb; have BK1003 := aM (hbox); have GW1003 := gW HB hg; have GE1003 := gW HB hg; replace HB := bS HB hb; clear hb hbox hg) | ((with_reducible refine gate_dst (N := 3) rfl ?_); refine gBx 3 #[.int .i64 ae, .int .i64 ad, .int .i64 af, .slice aj ah.length al] 25 ?_; intro gb1004 hg w18 hbox hb; have BK1004 := aM (hbox); have GW1004 := gW HB hg; have GE1004 := gW HB hg; obtain ⟨NB1003_1004, NB1004_1003⟩ := nB BK1003 hg; replace BK1003 := mB BK1003 hb; replace HB := bS HB hb; clear hb hbox hg; obtain ⟨hnb19, hnc19⟩ := oB NB1003_1004; obtain ⟨hcz20_0, hcz20_1, hcz20_2, hcz20_3⟩ := cz4 BK1003.out; obtain ⟨hfz20_0, hfz20_1, hfz20_2, hfz20_3⟩ := fz4 BK1003.out; obtain ⟨hcz21_0, hcz21_1, hcz21_2, hcz21_3⟩ := cz4 BK1004.out; obtain ⟨hfz21_0, hfz21_1, hfz21_2, hfz21_3⟩ := fz4 BK1004.out))
   go_ret
   exact ⟨TE, TB⟩
 ·rw [if_neg c3] at H;have c3b0 : (ab == ae) = false := beq_eq_false_iff_ne.mpr c3;have c3b1 : (ab != ae) = true := bne_iff_ne.mpr c3;obtain rfl := Option.some.inj H;go_enter Try.func35, Try.ntmps35;go_wp2_with (first | ((with_reducible refine gate_dst (N := 2) rfl ?_); refine gBx 2 #[.int .i64 ab, .int .i64 aa, .int .i64 ac, .slice ai ag.length ak] 25 ?_; intro am hg w22 hbox hb; have BK1003 := aM (hbox); have GW1003 := gW HB hg; have GE1003 := gW HB hg; replace HB := bS HB hb; clear hb hbox hg) | ((with_reducible refine gate_dst (N := 3) rfl ?_); refine gBx 3 #[.int .i64 ae, .int .i64 ad, .int .i64 af, .slice aj ah.length al] 25 ?_; intro gb1004 hg w23 hbox hb; have BK1004 := aM (hbox); have GW1004 := gW HB hg; have GE1004 := gW HB hg; obtain ⟨NB1003_1004, NB1004_1003⟩ := nB BK1003 hg; replace BK1003 := mB BK1003 hb; replace HB := bS HB hb; clear hb hbox hg; obtain ⟨hnb24, hnc24⟩ := oB NB1003_1004; obtain ⟨hcz25_0, hcz25_1, hcz25_2, hcz25_3⟩ := cz4 BK1003.out; obtain ⟨hfz25_0, hfz25_1, hfz25_2, hfz25_3⟩ := fz4 BK1003.out; obtain ⟨hcz26_0, hcz26_1, hcz26_2, hcz26_3⟩ := cz4 BK1004.out; obtain ⟨hfz26_0, hfz26_1, hfz26_2, hfz26_3⟩ := fz4 BK1004.out))
  go_ret
  exact ⟨TE, TB⟩

end Go.Proofs.Ytanpaipapcjpoaa.Q
