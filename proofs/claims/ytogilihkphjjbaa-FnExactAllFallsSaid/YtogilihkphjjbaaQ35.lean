/- Functions of the program as plain Lean functions, and that a call of each comes to what its function tells. Written by a program of this seat. -/
import Derived.Test.YtogilihkphjjbaaQ0
namespace Go.Proofs.Ytogilihkphjjbaa.Q
open Go.RowKit Go.Proofs.YtogilihkphjjbaaW.PrintWords Go.Proofs.YtogilihkphjjbaaW.PrintLast Go.Proofs.YtogilihkphjjbaaW.PrintMore
attribute [local go_sem] max2_int min2_int max_two min_two max_three min_three max_four min_four   -- for this text's walks alone
set_option linter.unusedVariables false
set_option linter.unusedSimpArgs false

/-! ### spec_l9Lay: function 77 -/
mutual
def spec_l9Lay.l0 : Nat → Int → List Int → List Int → Option (List Int)
  | 0, _, _, _ => none
  | k + 1, x1, x2, x7 => if (x7.length : Int) < (wrap64 (x1 + (x2.length : Int))) then (if x7.length < 140737488355328 then (spec_l9Lay.l0 k x1 x2 (x7 ++ [0])) else (none)) else (spec_l9Lay.l1 k x1 x2 x7 0)
def spec_l9Lay.l1 : Nat → Int → List Int → List Int → Int → Option (List Int)
  | 0, _, _, _, _ => none
  | k + 1, x1, x2, x7, x8 => if x8 < (x2.length : Int) then (if 0 ≤ x8 then (if 0 ≤ (wrap64 (x1 + x8)) then (if (wrap64 (x1 + x8)) < (x7.length : Int) then (spec_l9Lay.l1 k x1 x2 (x7.set ((wrap64 (x1 + x8)) : Int).toNat (rd x2 x8)) (wrap64 (x8 + 1))) else (none)) else (none)) else (none)) else (some x7)
end
def spec_l9Lay.f (k : Nat) (l0 : List Int) (a1 : Int) (l2 : List Int) : Option (List Int) := (some (([] : List Int) : List Int)).bind fun y542 => (if y542.length + l0.length < 140737488355328 then (spec_l9Lay.l0 k a1 l2 (y542 ++ l0)) else (none))
theorem spec_l9Lay.mono_l : ∀ k, (∀ y0 y1 y2, LeO (spec_l9Lay.l0 k y0 y1 y2) (spec_l9Lay.l0 (k + 1) y0 y1 y2)) ∧ (∀ y0 y1 y2 y3, LeO (spec_l9Lay.l1 k y0 y1 y2 y3) (spec_l9Lay.l1 (k + 1) y0 y1 y2 y3))
  | 0 => ⟨fun _ _ _ r h => by simp [spec_l9Lay.l0] at h, fun _ _ _ _ r h => by simp [spec_l9Lay.l1] at h⟩
  | k + 1 => by
    obtain ⟨ih0, ih1⟩ := spec_l9Lay.mono_l k
    refine ⟨?_, ?_⟩
    · intro y0 y1 y2
      unfold spec_l9Lay.l0
      exact LM
    · intro y0 y1 y2 y3
      unfold spec_l9Lay.l1
      exact LM
theorem spec_l9Lay.mono : ∀ a0 a1 a2 k, LeO (spec_l9Lay.f k a0 a1 a2) (spec_l9Lay.f (k + 1) a0 a1 a2) := by
  intro a0 a1 a2 k
  obtain ⟨ih0, ih1⟩ := spec_l9Lay.mono_l k
  unfold spec_l9Lay.f
  exact LM
set_option maxHeartbeats 40000000 in
set_option maxRecDepth 100000 in
theorem spec_l9Lay.calls (k : Nat) (A0 : Option Addr) (c0 : Nat) (l0 : List Int) (a1 : Int) (A2 : Option Addr) (c2 : Nat) (l2 : List Int) (r : List Int) (w : World) (hr0 : Kd.C (Kd.int .u8) w A0 l0.length l0) (hc0 : l0.length ≤ c0) (hr2 : Kd.C (Kd.int .u8) w A2 l2.length l2) (hc2 : l2.length ≤ c2) (h : spec_l9Lay.f k l0 a1 l2 = some r) :
    Calls Try.prog 77 #[.slice A0 l0.length c0, .int .i64 a1, .slice A2 l2.length c2] w fun e w' => ∃ v0_ : Value, e = .returned (v0_) ∧ Kd.R (Kd.int .u8) 5 w' w.heap.size (fun _ => True) v0_ r ∧ Below w.heap.size w w' := by
  have HR0 := aM hr0
  have HC0 := aM hc0
  clear hr0 hc0
  have HR2 := aM hr2
  have HC2 := aM hc2
  clear hr2 hc2
  have HB := aM (Below.refl w.heap.size w)
  have H := h
  clear h
  unfold spec_l9Lay.f at H
  obtain ⟨y542, hy542⟩ : ∃ y_ : List Int, y_ = (([] : List Int)) := ⟨_, rfl⟩
  replace H := someE H hy542
  have Ny542 := aM hy542
  clear hy542
  replace H := ifN H
  obtain ⟨c4, H⟩ := H
  have LMc4 := aM c4
  clear c4
  obtain ⟨y545, hy545⟩ : ∃ y_ : List Int, y_ = (y542 ++ l0) := ⟨_, rfl⟩
  rw [← hy545] at H
  have Ny545 := aM hy545
  clear hy545
  have H' := aM H
  clear H
  go_enter Try.func77, Try.ntmps77
  go_wp2_with (first | ((with_reducible refine gate_dst (N := 9) rfl ?_); refine Kd.R_lit (Kd.int .u8) _ 5 ?hg (N := 9) ?hd (xs := ([] : List Int)) (inner := []) (ok := fun _ => True) (okp := fun _ => True) ?hr ?hp (fun _ hk => hk) trivial (Below.refl _ _) (Nat.le_refl _) (by simp) ?_; (case hd => rfl); (case hg => rfl); (case hr => first | (go_simp; done) | (go_simp; rfl)); (case hp => exact (Reps.none _ _)); intro v543 w5 ho6 hb hg_ hnew_; clear hg_ hnew_; (first | rw [← Ny542.out] at ho6 | (simp only [Int.reduceToNat] at ho6; rw [← Ny542.out] at ho6)); have HO544 := aM (Kd.R_lower ho6 (below_size TB)); replace HB := aM (below_step TB hb); clear hb ho6) | ((with_reducible refine gate_builtin (b := .append) (xs := #[.tmp 9, .tmp 10]) rfl ?_); at_builtin; refine Kd.R_append_rows (Kd.int .u8) (w0 := w) w.heap.size rfl (.tmp 9) (.tmp 10) 22 5 (.int .u8 0) 1 rfl Try.underlying22 info5 rfl (by decide) (by omega) v543 y542 l0 _ _ _ (fun _ => True) (fun _ => False) rfl rfl ?aO ?aR (fun _ _ h => h) (fun _ h => h.elim) ?aF ?aB ?aS ?aL ?_; (case aR => repeat (first | exact (Kd.C_below HR0.out HB.out) | (with_reducible refine Kd.C_alloc ?_ _) | (with_reducible refine Kd.C_drewN ?_ _) | (with_reducible refine Kd.C_drew ?_))); (case aB => exact TB); (case aF => exact (fun _ _ => trivial)); (case aO => exact (by have X_ := HO544.out; exact TR)); (case aS => exact (below_size TB)); (case aL => have := LMc4.out; omega); intro v546 w7 ho hb hg hat; rw [← Ny545.out] at ho; have HO547 := aM (ho); replace HB := aM (hb); clear HO544; clear ho hb hg hat))
  go_loopg [7] k (fun kq v7 w' => ∃ (x7_1 : List Int), Aside0 (spec_l9Lay.l0 kq a1 l2 x7_1 = some r) ∧ Aside0 (kq ≤ k) ∧ Aside0 (Kd.R (Kd.int .u8) 5 w' w.heap.size (fun _ => True) v7 x7_1) ∧ Aside0 (Below w.heap.size w w'))
  case atStart => exact ⟨(y545), H', ⟨Nat.le_refl _⟩, ⟨by have X_ := HO547.out; exact TR⟩, ⟨TB⟩⟩
  case round =>
    clear H'
    try clear c2
    try clear p2
    try clear c4
    try clear c7
    obtain ⟨x7_1, HA, HK1, HO_7, HB⟩ := hrel
    cases gk with
    | zero => exact absurd HA.out (by simp [spec_l9Lay.l0])
    | succ k1 =>
      have H := HA.out
      clear HA
      simp only [spec_l9Lay.l0] at H
      by_cases c8 : (x7_1.length : Int) < (wrap64 (a1 + (l2.length : Int)))
      · rw [if_pos c8] at H
        have c8b0 : decide ((x7_1.length : Int) < (wrap64 (a1 + (l2.length : Int)))) = true := decide_eq_true c8
        clear c8
        replace H := ifN H
        obtain ⟨c9, H⟩ := H
        have LMc9 := aM c9
        clear c9
        obtain ⟨y548, hy548⟩ : ∃ y_ : List Int, y_ = (x7_1 ++ [0]) := ⟨_, rfl⟩
        rw [← hy548] at H
        have Ny548 := aM hy548
        clear hy548
        have H' := aM H
        clear H
        obtain ⟨Ao10, co10, eo10⟩ := Kd.R_slice HO_7.out
        subst eo10
        go_wp2_with (first | ((with_reducible refine gate_builtin (b := .append) (xs := #[.tmp 19, .tmp 20]) rfl ?_); at_builtin; refine Kd.R_append (Kd.int .u8) (w0 := w) w.heap.size rfl (.tmp 19) (.tmp 20) 22 5 (.int .u8 0) 1 rfl Try.underlying22 info5 rfl (by decide) (by omega) (.slice Ao10 x7_1.length co10) x7_1 0 [.int .u8 0] (fun _ => True) (fun _ => False) rfl rfl ?aP (fun _ hk => hk.elim) ?aF ?aO ?aB ?aS ?aL ?_; (case aP => exact rfl); (case aB => exact TB); (case aF => exact (fun _ _ => trivial)); (case aO => exact (by have X_ := HO_7.out; exact TR)); (case aS => exact (below_size TB)); (case aL => have := LMc9.out; omega); intro v549 w11 ho hb hg hat; rw [← Ny548.out] at ho; have HO550 := aM (ho); replace HB := aM (hb); clear HO_7; clear ho hb hg hat))
        go_roundg k1
        case measure => have := HK1.out; omega
        case rel => exact ⟨(y548), H', ⟨by have := HK1.out; omega⟩, ⟨by have X_ := HO550.out; exact TR⟩, ⟨TB⟩⟩
      · rw [if_neg c8] at H
        have c8b0 : decide ((x7_1.length : Int) < (wrap64 (a1 + (l2.length : Int)))) = false := decide_eq_false c8
        clear c8
        have H' := aM H
        clear H
        obtain ⟨Ao12, co12, eo12⟩ := Kd.R_slice HO_7.out
        subst eo12
        go_wp2
        go_loopg [8] k1 (fun kq v8 w' => ∃ (x7_2 : List Int) (x8_2 : Int), v8 = .int .i64 x8_2 ∧ Aside0 (spec_l9Lay.l1 kq a1 l2 x7_2 x8_2 = some r) ∧ Aside0 (kq ≤ k1) ∧ Aside0 (Kd.R (Kd.int .u8) 5 w' w.heap.size (fun _ => True) (.slice Ao12 x7_1.length co12) x7_2) ∧ Aside0 (Below w.heap.size w w'))
        case atStart => exact ⟨(x7_1), (0), (by first | rfl | (simp; done) | (simp [*]; done)), H', ⟨Nat.le_refl _⟩, ⟨by have X_ := HO_7.out; exact TR⟩, ⟨TB⟩⟩
        case round =>
          clear H'
          try clear c2
          try clear p2
          try clear c4
          try clear p6
          try clear c7
          try clear c8
          try clear c8b0
          try clear c9
          try clear p2
          obtain ⟨x7_2, x8_2, rfl, HA, HK2, HO_7, HB⟩ := hrel
          have hl7_2 := (Kd.R_reads' HO_7.out).1
          rw [hl7_2] at HO_7
          (try simp only [hl7_2])
          cases gk with
          | zero => exact absurd HA.out (by simp [spec_l9Lay.l1])
          | succ k2 =>
            have H := HA.out
            clear HA
            simp only [spec_l9Lay.l1] at H
            by_cases c13 : x8_2 < (l2.length : Int)
            · rw [if_pos c13] at H
              have c13b0 : decide (x8_2 < (l2.length : Int)) = true := decide_eq_true c13
              clear c13
              replace H := ifN H
              obtain ⟨c14, H⟩ := H
              have c14b0 : decide (0 ≤ x8_2) = true := decide_eq_true c14
              clear c14
              obtain ⟨ji15, hji15⟩ : ∃ j_ : Int, (wrap64 (a1 + x8_2)) = j_ := ⟨_, rfl⟩
              (first | rw [hji15] at H | simp only [hji15] at H | skip)
              have hji15w : (IntKind.i64.wrap (a1 + x8_2)) = ji15 := (i64_w _).trans hji15
              replace H := ifN H
              obtain ⟨c16, H⟩ := H
              have c16b0 : decide (0 ≤ (ji15)) = true := decide_eq_true c16
              clear c16
              replace H := ifN H
              obtain ⟨c17, H⟩ := H
              have c17b0 : decide ((ji15) < (x7_2.length : Int)) = true := decide_eq_true c17
              clear c17
              obtain ⟨y552, hy552⟩ : ∃ y_ : List Int, y_ = (x7_2.set ((ji15) : Int).toNat (rd l2 x8_2)) := ⟨_, rfl⟩
              rw [← hy552] at H
              have Ny552 := aM hy552
              clear hy552
              have H' := aM H
              clear H
              have p551 : 0 ≤ (x8_2 : Int) := DT
              have q551 : x8_2 < (l2.length : Int) := DT
              obtain ⟨ad551, e551, hx551_0⟩ := Kd.at_int HR2.out x8_2 p551 q551
              cases e551
              replace hx551_0 := (HB.out.cell (World.block_lt_of_cell? w _ hx551_0)).trans hx551_0
              replace p551 := eq_true p551
              replace q551 := eq_true q551
              have p18 : 0 ≤ ((ji15) : Int) := DT
              have q18 : ((ji15) : Int) < ((x7_2.length : Int) : Int) := DT
              obtain ⟨go18, co18, eo18, gb18, gl18, cl18, HG18⟩ := Kd.R_form HO_7.out (by omega)
              (first | cases eo18 | (injection eo18 with ea_ en_ ec_; (first | subst ea_ | (injection ea_ with ea_; subst ea_)); subst ec_; clear en_))
              have GB18 := aM gb18
              have GG18 := aM HG18
              clear gb18 gl18 HG18
              obtain ⟨hx18_0, hf18_0⟩ := Kd.R_celln 0 HO_7.out ((ji15) : Int) p18 q18
              replace p18 := eq_true p18
              replace q18 := eq_true q18
              have HP19 := Kd.R_putg HO_7.out ((ji15) : Int) (rd l2 x8_2)
              go_wp2_with (first | ((with_reducible refine gate_store (t := 5) (p := 36) rfl ?_); refine store_event (t := 5) (p := 36) (v := ?vo_w20) (w1 := (wr.setCell ⟨go18, ((ji15) : Int).toNat, none⟩ (.int .u8 (rd l2 x8_2)))) ?hg ?ho ?hn ?hr ?_; (case ho => rfl); (case hg => rfl); (case hn => rfl); (case hr => first | (go_simp; done) | (go_simp; rfl)); intro w20 hw; have hg : wr.grownBy w20 (some go18) := (by rw [hw]; exact HP19.2); have hp_ : Kd.R (Kd.int .u8) 5 w20 w.heap.size (fun _ => True) (.slice (some ⟨go18, 0, none⟩) x7_2.length co12) y552 := (by rw [hw, Ny552.out]; exact HP19.1); clear HP19; replace HO_7 := aM (hp_); replace HB := aM ((by rw [hw]; exact below_set (HB.out) GB18.out : Below w.heap.size w w20)); clear hg hw hp_))
              (try simp only [← hl7_2])
              go_roundg k2
              case measure => have := HK1.out; have := HK2.out; omega
              case rel => exact ⟨(y552), (wrap64 (x8_2 + 1)), (by first | rfl | (simp; done) | (simp [*]; done)), H', ⟨by have := HK1.out; have := HK2.out; omega⟩, ⟨by (try simp only [hl7_2]); (with_reducible repeat (first | apply Kd.R_alloc | apply Kd.R_drewN | apply Kd.R_drew)); exact HO_7.out⟩, ⟨TB⟩⟩
            · rw [if_neg c13] at H
              have c13b0 : decide (x8_2 < (l2.length : Int)) = false := decide_eq_false c13
              (try rw [hl7_2] at c13b0)
              clear c13
              obtain rfl := Option.some.inj H
              go_wp2
              go_ret
              exact ⟨_, by first | rfl | (simp [errW_none, errW_some] <;> rfl) | (simp [*, errW_none, errW_some] <;> rfl), by have X_ := HO_7.out; exact TR, TB⟩

end Go.Proofs.Ytogilihkphjjbaa.Q
