/- Functions of the program as plain Lean functions, and that a call of each comes to what its function tells. Written by a program of this seat. -/
import Derived.Test.YtfkndpjbkndhcaaQ0
import Derived.Test.YtfkndpjbkndhcaaQ2
namespace Go.Proofs.Ytfkndpjbkndhcaa.Q
open Go.RowKit Go.Proofs.YtfkndpjbkndhcaaW.PrintWords Go.Proofs.YtfkndpjbkndhcaaW.PrintLast Go.Proofs.YtfkndpjbkndhcaaW.PrintMore
attribute [local go_sem] max2_int min2_int max_two min_two max_three min_three max_four min_four   -- for this text's walks alone
set_option linter.unusedVariables false
set_option linter.unusedSimpArgs false

/-! ### spec_l1Bent: function 109 -/
def spec_l1Bent.f (s0_0 : List Int) (s0_1 : Int) (s0_2 : Int) (l1 : List Int) : Option (List Int × Int × Int) := (some (([] : List Int) : List Int)).bind fun y349 => (if y349.length + l1.length < 140737488355328 then ((some (y349 ++ l1 : List Int)).bind fun y352 => ((spec_l1Below.f s0_0 s0_1 s0_2 6).bind fun bt355 => (if bt355.1 = 0 then (if (y352.length : Int) > 0 then ((spec_l1Below.f s0_0 bt355.2.1 bt355.2.2 (y352.length : Int)).bind fun bt358 => ((spec_l1Below.f s0_0 bt358.2.1 bt358.2.2 256).bind fun bt361 => (if 0 ≤ bt358.1 then (if bt358.1 < (y352.length : Int) then (some ((y352.set (bt358.1 : Int).toNat ((bt361.1) % 256)), bt361.2.1, bt361.2.2)) else (none)) else (none)))) else (some (y352, bt355.2.1, bt355.2.2))) else (if bt355.1 = 1 then ((spec_l1Below.f s0_0 bt355.2.1 bt355.2.2 (wrap64 ((y352.length : Int) + 1))).bind fun bt365 => (if 0 ≤ bt365.1 then (if bt365.1 ≤ (y352.length : Int) then (some ((y352.take (bt365.1 : Int).toNat), bt365.2.1, bt365.2.2)) else (none)) else (none))) else (if bt355.1 = 2 then ((spec_l1Int.f s0_0 bt355.2.1 bt355.2.2 (([0, 1, 128, 255] : List Int))).bind fun bt374 => (if y352.length < 140737488355328 then (some ((y352 ++ [(bt374.1) % 256]), bt374.2.1, bt374.2.2)) else (none))) else (if bt355.1 = 3 then (if (y352.length : Int) > 0 then ((spec_l1Below.f s0_0 bt355.2.1 bt355.2.2 (y352.length : Int)).bind fun bt380 => (if 0 ≤ bt380.1 then (if bt380.1 < (y352.length : Int) then ((spec_l1Below.f s0_0 bt380.2.1 bt380.2.2 8).bind fun bt384 => (if 0 ≤ bt384.1 then (some ((y352.set (bt380.1 : Int).toNat (Go.bits .xor .u8 (rd y352 bt380.1) (shl .u8 1 bt384.1))), bt384.2.1, bt384.2.2)) else (none))) else (none)) else (none))) else (some (y352, bt355.2.1, bt355.2.2))) else (some (y352, bt355.2.1, bt355.2.2)))))))) else (none))
def spec_l1Bent.T13 : Bool × List (List Nat × List Nat) := (true, [([], []), ([], []), ([], []), ([], []), ([2, 3], [2, 3]), ([4], [4]), ([], []), ([6], [6]), ([7], [7]), ([5, 8], [5, 8]), ([0, 1, 0, 1, 2, 3, 4, 5, 6, 7, 8, 9], [0, 1]), ([10, 9, 7, 0, 1, 2, 3, 4, 5, 6, 7, 8, 9], [9, 10])])
def spec_l1Bent.B13 : List Nat := [0, 0, 0, 0, 12, 28, 0, 64, 192, 508, 1023, 2047]
theorem spec_l1Bent.tab13 : rtab .any (opsOf Try.f109 13) = spec_l1Bent.T13 := by kernel_rfl
theorem spec_l1Bent.bits13 : waitsOk spec_l1Bent.T13.2 spec_l1Bent.B13 = true := by kernel_rfl
set_option maxHeartbeats 40000000 in
set_option maxRecDepth 100000 in
theorem spec_l1Bent.calls (g : Nat) (ac : List Int) (ah : Int) (ai : Int) (A1 : Option Addr) (c1 : Nat) (l1 : List Int) (r1 : List Int) (r2 : Int) (r3 : Int) (w0 w : World) (hI : IsS108 w0 w g ac ah ai) (hB : Below w0.heap.size w0 w) (hr1 : Kd.C (Kd.int .u8) w A1 l1.length l1) (hc1 : l1.length ≤ c1) (hf1 : ∀ ad, A1 = some ad → 0 < l1.length → ad.block ≠ g) (h : spec_l1Bent.f ac ah ai l1 = some (r1, r2, r3)) :
  Calls Try.prog 109 #[.pointer (some ⟨g, 0, none⟩), .slice A1 l1.length c1] w fun e w' => ∃ v0_ : Value, e = .returned (v0_) ∧ Kd.R (Kd.int .u8) 5 w' w.heap.size (fun _ => True) v0_ r1 ∧ IsS108 w0 w' g ac r2 r3 ∧ Below w0.heap.size w0 w' ∧ KeepBut w w' g none := by
 have HR1 := aM hr1
 have HC1 := aM hc1
 clear hr1 hc1
 have HI0 := aM hI
 have HK := aM (KeepBut.refl w g none)
 have HL := aM hB.size
 clear hI
 have HW0 := aM hB.size
 have HB := aM hB
 clear hB
 have H := h
 clear h
 unfold spec_l1Bent.f at H
 obtain ⟨y349, ax⟩ : ∃ y_ : List Int, y_ = (([] : List Int)) := ⟨_, rfl⟩
 replace H := someE H ax
 have aQ := aM ax
 clear ax
 replace H := ifN H
 obtain ⟨c3, H⟩ := H
 have LMc3 := aM c3
 clear c3
 obtain ⟨ab, aq⟩ : ∃ y_ : List Int, y_ = (y349 ++ l1) := ⟨_, rfl⟩
 replace H := someE H aq
 have Ny352 := aM aq
 clear aq
 replace H := bE H
 obtain ⟨⟨ae, ag, af⟩, A4, H⟩ := H
 dsimp only at H
 go_enter Try.func109, Try.ntmps109
 go_wp2_with (first | ((with_reducible refine gate_dst (N := 7) rfl ?_); refine Kd.R_lit (Kd.int .u8) _ 5 ?hg (N := 7) ?hd (xs := ([] : List Int)) (inner := []) (ok := fun _ => True) (okp := fun _ => True) ?hr ?hp (fun _ hk => hk) trivial (Below.refl _ _) (Nat.le_refl _) (by simp) ?_; (case hd => rfl); (case hg => rfl); (case hr => first | (go_simp; done) | (go_simp; rfl)); (case hp => exact (Reps.none _ _)); intro v350 w5 ho6 hb hg_ hnew_; clear hg_ hnew_; (first | rw [← aQ.out] at ho6 | (simp only [Int.reduceToNat] at ho6; rw [← aQ.out] at ho6)); have HO351 := aM (Kd.R_lower ho6 (keep_size (w := w) (g := g) (row := none) (by repeat (first | (with_reducible first | exact HK.out | apply KeepBut.set_ | apply keep_drewN | apply keep_drew | apply keep_alloc) | exact HK.out)))); replace HK := aM (KeepBut.trans (by repeat (first | (with_reducible first | exact HK.out | apply KeepBut.set_ | apply keep_drewN | apply keep_drew | apply keep_alloc) | exact HK.out)) (KeepBut.of_below hb g none) (.inl rfl)); replace HB := aM (below_step (by repeat (first | (with_reducible first | exact HB.out | apply below_alloc | apply pw_below_drewN | apply below_drew1 | refine below_set ?_ (IsS108.ge HI0.out)) | exact HB.out)) hb); replace HI0 := aM (IsS108.below (by repeat (first | (with_reducible first | exact HI0.out | apply IsS108.alloc | apply IsS108.drewN | apply IsS108.drew | apply IsS108.set_1 | apply IsS108.set_2) | exact HI0.out)) hb); clear hb ho6) | ((with_reducible refine gate_builtin (b := .append) (xs := #[.tmp 7, .tmp 8]) rfl ?_); at_builtin; refine Kd.R_append_rows (Kd.int .u8) w.heap.size rfl (.tmp 7) (.tmp 8) 22 5 (.int .u8 0) 1 rfl Try.underlying22 info5 rfl (by decide) (by omega) v350 y349 l1 _ _ _ (fun _ => True) (fun _ => False) rfl rfl ?aO ?aR (fun _ _ h => h) (fun _ h => h.elim) ?aF (Below.refl _ _) ?aS ?aL ?_; (case aR => exact Kd.C_keep 0 HR1.out (by repeat (first | (with_reducible first | exact HK.out | apply KeepBut.set_ | apply keep_drewN | apply keep_drew | apply keep_alloc) | exact HK.out)) hf1); (case aF => exact (fun _ _ => trivial)); (case aO => exact (by have X_ := HO351.out; exact TR)); (case aS => exact (keep_size (w := w) (g := g) (row := none) (by repeat (first | (with_reducible first | exact HK.out | apply KeepBut.set_ | apply keep_drewN | apply keep_drew | apply keep_alloc) | exact HK.out)))); (case aL => have := LMc3.out; omega); intro v353 w7 ho hb hg hat; rw [← Ny352.out] at ho; have aa := aM (ho); replace HB := aM (below_weaken (by repeat (first | (with_reducible first | exact HB.out | apply below_alloc | apply pw_below_drewN | apply below_drew1 | refine below_set ?_ (IsS108.ge HI0.out)) | exact HB.out)) HL.out hb); replace HI0 := aM (IsS108.grown (by repeat (first | (with_reducible first | exact HI0.out | apply IsS108.alloc | apply IsS108.drewN | apply IsS108.drew | apply IsS108.set_1 | apply IsS108.set_2) | exact HI0.out)) hg (IsS108.own_ne HI0.out HO351.out (by decide))); replace HK := aM (KeepBut.trans (by repeat (first | (with_reducible first | exact HK.out | apply KeepBut.set_ | apply keep_drewN | apply keep_drew | apply keep_alloc) | exact HK.out)) (KeepBut.of_grown hg g) (Kd.R_base2 HO351.out)); clear HO351; clear ho hb hg hat) | ((with_reducible refine gate_callee (f := 60) rfl ?_); (with_reducible refine gate_dst (N := 11) rfl ?_); generalize hG_ : wpList _ _ _ _ _ _ = G_))
 subst hG_
 by_cases c8 : ae = 0
 ·rw [if_pos c8] at H
  have c8b0 : (ae == 0) = true := beq_iff_eq.mpr c8
  have c8b1 : (ae != 0) = false := bne_eq_false_iff_eq.mpr c8
  clear c8
  by_cases c9 : (ab.length : Int) > 0
  ·rw [if_pos c9] at H
   have c9b0 : decide (0 < (ab.length : Int)) = true := decide_eq_true c9
   have c9b1 : decide (0 < ab.length) = true := decide_eq_true (by omega)
   clear c9
   replace H := bE H
   obtain ⟨⟨al, aD, aE⟩, A10, H⟩ := H
   dsimp only at H
   replace H := bE H
   obtain ⟨⟨av, t362, t363⟩, A11, H⟩ := H
   dsimp only at H
   replace H := ifN H
   obtain ⟨c12, H⟩ := H
   have c12b0 : decide (0 ≤ al) = true := decide_eq_true c12
   clear c12
   replace H := ifN H
   obtain ⟨c13, H⟩ := H
   have c13b0 : decide (al < (ab.length : Int)) = true := decide_eq_true c13
   clear c13
   obtain ⟨y364, au⟩ : ∃ y_ : List Int, y_ = (ab.set (al : Int).toNat ((av) % 256)) := ⟨_, rfl⟩
   rw [← au] at H
   have Ny364 := aM au
   clear au
   simp only [Option.some.injEq, Prod.mk.injEq] at H
   obtain ⟨rfl, rfl, rfl⟩ := H
   go_wp2_with (first | ((with_reducible refine gate_callee (f := 60) rfl ?_); refine gL (some 11) Try.func60 #[.pointer (some ⟨g, 0, none⟩), .int .i64 6] ?_; (with_reducible refine (spec_l1Below.calls g ac ah ai 6 ae ag af w0 _ ?side1 ?side2 A4.out).mono ?_); (case side1 => repeat (first | (with_reducible first | exact HI0.out | apply IsS108.alloc | apply IsS108.drewN | apply IsS108.drew | apply IsS108.set_1 | apply IsS108.set_2) | exact HI0.out)); (case side2 => repeat (first | (with_reducible first | exact HB.out | apply below_alloc | apply pw_below_drewN | apply below_drew1 | refine below_set ?_ (IsS108.ge HI0.out)) | exact HB.out)); rintro e w15 ⟨rfl, hi, hb, hk⟩; refine ⟨_, rfl, ?_⟩; replace aa := aM (Kd.R_mono (Kd.R_keep (IsS108.apart (show IsS108 w0 _ g ac ah ai from by repeat (first | (with_reducible first | exact HI0.out | apply IsS108.alloc | apply IsS108.drewN | apply IsS108.drew | apply IsS108.set_1 | apply IsS108.set_2) | exact HI0.out)) (by have X_ := aa.out; exact TR) (by decide)) hk (fun _ h => h.2)) (fun _ h => h.1)); replace HK := aM (KeepBut.trans (by repeat (first | (with_reducible first | exact HK.out | apply KeepBut.set_ | apply keep_drewN | apply keep_drew | apply keep_alloc) | exact HK.out)) hk (.inl rfl)); replace HB := aM (hb); replace HI0 := aM (hi); (try clear hb); (try clear hb2); (try clear hk); (try clear hi); obtain ⟨Ao16, co16, eo16⟩ := Kd.R_slice aa.out; subst eo16) | ((with_reducible refine gate_callee (f := 60) rfl ?_); refine gL (some 21) Try.func60 #[.pointer (some ⟨g, 0, none⟩), .int .i64 (ab.length : Int)] ?_; (with_reducible refine (spec_l1Below.calls g ac ag af (ab.length : Int) al aD aE w0 _ ?side1 ?side2 A10.out).mono ?_); (case side1 => repeat (first | (with_reducible first | exact HI0.out | apply IsS108.alloc | apply IsS108.drewN | apply IsS108.drew | apply IsS108.set_1 | apply IsS108.set_2) | exact HI0.out)); (case side2 => repeat (first | (with_reducible first | exact HB.out | apply below_alloc | apply pw_below_drewN | apply below_drew1 | refine below_set ?_ (IsS108.ge HI0.out)) | exact HB.out)); rintro e w17 ⟨rfl, hi, hb, hk⟩; refine ⟨_, rfl, ?_⟩; replace aa := aM (Kd.R_mono (Kd.R_keep (IsS108.apart (show IsS108 w0 _ g ac ag af from by repeat (first | (with_reducible first | exact HI0.out | apply IsS108.alloc | apply IsS108.drewN | apply IsS108.drew | apply IsS108.set_1 | apply IsS108.set_2) | exact HI0.out)) (by have X_ := aa.out; exact TR) (by decide)) hk (fun _ h => h.2)) (fun _ h => h.1)); replace HK := aM (KeepBut.trans (by repeat (first | (with_reducible first | exact HK.out | apply KeepBut.set_ | apply keep_drewN | apply keep_drew | apply keep_alloc) | exact HK.out)) hk (.inl rfl)); replace HB := aM (hb); replace HI0 := aM (hi); (try clear hb); (try clear hb2); (try clear hk); (try clear hi)) | ((with_reducible refine gate_callee (f := 60) rfl ?_); refine gL (some 23) Try.func60 #[.pointer (some ⟨g, 0, none⟩), .int .i64 256] ?_; (with_reducible refine (spec_l1Below.calls g ac aD aE 256 av t362 t363 w0 _ ?side1 ?side2 A11.out).mono ?_); (case side1 => repeat (first | (with_reducible first | exact HI0.out | apply IsS108.alloc | apply IsS108.drewN | apply IsS108.drew | apply IsS108.set_1 | apply IsS108.set_2) | exact HI0.out)); (case side2 => repeat (first | (with_reducible first | exact HB.out | apply below_alloc | apply pw_below_drewN | apply below_drew1 | refine below_set ?_ (IsS108.ge HI0.out)) | exact HB.out)); rintro e w18 ⟨rfl, hi, hb, hk⟩; refine ⟨_, rfl, ?_⟩; replace aa := aM (Kd.R_mono (Kd.R_keep (IsS108.apart (show IsS108 w0 _ g ac aD aE from by repeat (first | (with_reducible first | exact HI0.out | apply IsS108.alloc | apply IsS108.drewN | apply IsS108.drew | apply IsS108.set_1 | apply IsS108.set_2) | exact HI0.out)) (by have X_ := aa.out; exact TR) (by decide)) hk (fun _ h => h.2)) (fun _ h => h.1)); replace HK := aM (KeepBut.trans (by repeat (first | (with_reducible first | exact HK.out | apply KeepBut.set_ | apply keep_drewN | apply keep_drew | apply keep_alloc) | exact HK.out)) hk (.inl rfl)); replace HB := aM (hb); replace HI0 := aM (hi); (try clear hb); (try clear hb2); (try clear hk); (try clear hi); have p14 : 0 ≤ (al : Int) := DT; have q14 : (al : Int) < ((ab.length : Int) : Int) := DT; obtain ⟨go14, co14, eo14, gb14, gl14, cl14, HG14⟩ := Kd.R_form aa.out (by omega); (first | cases eo14 | (injection eo14 with ea_ en_ ec_; (first | subst ea_ | (injection ea_ with ea_; subst ea_)); subst ec_; clear en_)); have GB14 := aM gb14; have GG14 := aM HG14; clear gb14 gl14 HG14; obtain ⟨hx14_0, hf14_0⟩ := Kd.R_celln 0 aa.out (al : Int) p14 q14; replace p14 := eq_true p14; replace q14 := eq_true q14; obtain ⟨hy19_, hz19_⟩ := Kd.R_celln 0 aa.out (al : Int) DT DT; have HP19 := Kd.R_putg aa.out (al : Int) ((av) % 256)) | ((with_reducible refine gate_store (t := 5) (p := 25) rfl ?_); refine store_event (t := 5) (p := 25) (v := ?vo_w20) (w1 := (w18.setCell ⟨go14, (al : Int).toNat, none⟩ (.int .u8 ((av) % 256)))) ?hg ?ho ?hn ?hr ?_; (case ho => rfl); (case hg => rfl); (case hn => rfl); (case hr => first | (go_simp; done) | (go_simp; rfl)); intro w20 hw; have hg : w18.grownBy w20 (some go14) := (by rw [hw]; exact HP19.2); have hp_ : Kd.R (Kd.int .u8) 5 w20 w.heap.size (fun _ => True) (.slice (some ⟨go14, 0, none⟩) ab.length co16) y364 := (by rw [hw, Ny364.out]; exact HP19.1); clear HP19; replace HI0 := aM (IsS108.grown (by repeat (first | (with_reducible first | exact HI0.out | apply IsS108.alloc | apply IsS108.drewN | apply IsS108.drew | apply IsS108.set_1 | apply IsS108.set_2) | exact HI0.out)) hg (IsS108.own_ne HI0.out aa.out (by decide))); replace HB := aM ((by rw [hw]; exact below_set (HB.out) (Nat.le_trans HL.out GB14.out) : Below w0.heap.size w0 w20)); replace HK := aM (KeepBut.trans (by repeat (first | (with_reducible first | exact HK.out | apply KeepBut.set_ | apply keep_drewN | apply keep_drew | apply keep_alloc) | exact HK.out)) (KeepBut.of_grown hg g) (Kd.R_base2 aa.out)); replace aa := aM (hp_); clear hg hw hp_))
   go_ret
   exact ⟨_, by first | rfl | (simp [errW_none, errW_some] <;> rfl) | (simp [*, errW_none, errW_some] <;> rfl), by have X_ := aa.out; exact TR, by repeat (first | (with_reducible first | exact HI0.out | apply IsS108.alloc | apply IsS108.drewN | apply IsS108.drew | apply IsS108.set_1 | apply IsS108.set_2) | exact HI0.out), by repeat (first | (with_reducible first | exact HB.out | apply below_alloc | apply pw_below_drewN | apply below_drew1 | refine below_set ?_ (IsS108.ge HI0.out)) | exact HB.out), by repeat (first | (with_reducible first | exact HK.out | apply KeepBut.set_ | apply keep_drewN | apply keep_drew | apply keep_alloc) | exact HK.out)⟩
  ·rw [if_neg c9] at H
   have c9b0 : decide (0 < (ab.length : Int)) = false := decide_eq_false c9
   have c9b1 : decide (0 < ab.length) = false := decide_eq_false (by omega)
   clear c9
   simp only [Option.some.injEq, Prod.mk.injEq] at H
   obtain ⟨rfl, rfl, rfl⟩ := H
   go_wp2_with (first | ((with_reducible refine gate_callee (f := 60) rfl ?_); refine gL (some 11) Try.func60 #[.pointer (some ⟨g, 0, none⟩), .int .i64 6] ?_; (with_reducible refine (spec_l1Below.calls g ac ah ai 6 ae ag af w0 _ ?side1 ?side2 A4.out).mono ?_); (case side1 => repeat (first | (with_reducible first | exact HI0.out | apply IsS108.alloc | apply IsS108.drewN | apply IsS108.drew | apply IsS108.set_1 | apply IsS108.set_2) | exact HI0.out)); (case side2 => repeat (first | (with_reducible first | exact HB.out | apply below_alloc | apply pw_below_drewN | apply below_drew1 | refine below_set ?_ (IsS108.ge HI0.out)) | exact HB.out)); rintro e w21 ⟨rfl, hi, hb, hk⟩; refine ⟨_, rfl, ?_⟩; replace aa := aM (Kd.R_mono (Kd.R_keep (IsS108.apart (show IsS108 w0 _ g ac ah ai from by repeat (first | (with_reducible first | exact HI0.out | apply IsS108.alloc | apply IsS108.drewN | apply IsS108.drew | apply IsS108.set_1 | apply IsS108.set_2) | exact HI0.out)) (by have X_ := aa.out; exact TR) (by decide)) hk (fun _ h => h.2)) (fun _ h => h.1)); replace HK := aM (KeepBut.trans (by repeat (first | (with_reducible first | exact HK.out | apply KeepBut.set_ | apply keep_drewN | apply keep_drew | apply keep_alloc) | exact HK.out)) hk (.inl rfl)); replace HB := aM (hb); replace HI0 := aM (hi); (try clear hb); (try clear hb2); (try clear hk); (try clear hi); obtain ⟨Ao22, co22, eo22⟩ := Kd.R_slice aa.out; subst eo22))
   go_ret
   exact ⟨_, by first | rfl | (simp [errW_none, errW_some] <;> rfl) | (simp [*, errW_none, errW_some] <;> rfl), by have X_ := aa.out; exact TR, by repeat (first | (with_reducible first | exact HI0.out | apply IsS108.alloc | apply IsS108.drewN | apply IsS108.drew | apply IsS108.set_1 | apply IsS108.set_2) | exact HI0.out), by repeat (first | (with_reducible first | exact HB.out | apply below_alloc | apply pw_below_drewN | apply below_drew1 | refine below_set ?_ (IsS108.ge HI0.out)) | exact HB.out), by repeat (first | (with_reducible first | exact HK.out | apply KeepBut.set_ | apply keep_drewN | apply keep_drew | apply keep_alloc) | exact HK.out)⟩
 ·rw [if_neg c8] at H
  have c8b0 : (ae == 0) = false := beq_eq_false_iff_ne.mpr c8
  have c8b1 : (ae != 0) = true := bne_iff_ne.mpr c8
  by_cases c23 : ae = 1
  ·rw [if_pos c23] at H
   have c23b0 : (ae == 1) = true := beq_iff_eq.mpr c23
   have c23b1 : (ae != 1) = false := bne_eq_false_iff_eq.mpr c23
   clear c23
   replace H := bE H
   obtain ⟨⟨an, t366, t367⟩, A24, H⟩ := H
   dsimp only at H
   replace H := ifN H
   obtain ⟨c25, H⟩ := H
   have c25b0 := eq_true c25
   have c25b1 : decide (0 ≤ an) = true := decide_eq_true c25
   clear c25
   replace H := ifN H
   obtain ⟨c26, H⟩ := H
   have c26b0 := eq_true c26
   have c26b1 : decide (an ≤ (ab.length : Int)) = true := decide_eq_true c26
   clear c26
   obtain ⟨y368, aw⟩ : ∃ y_ : List Int, y_ = (ab.take (an : Int).toNat) := ⟨_, rfl⟩
   rw [← aw] at H
   have aN := aM aw
   clear aw
   simp only [Option.some.injEq, Prod.mk.injEq] at H
   obtain ⟨rfl, rfl, rfl⟩ := H
   go_wp2_with (first | ((with_reducible refine gate_callee (f := 60) rfl ?_); refine gL (some 11) Try.func60 #[.pointer (some ⟨g, 0, none⟩), .int .i64 6] ?_; (with_reducible refine (spec_l1Below.calls g ac ah ai 6 ae ag af w0 _ ?side1 ?side2 A4.out).mono ?_); (case side1 => repeat (first | (with_reducible first | exact HI0.out | apply IsS108.alloc | apply IsS108.drewN | apply IsS108.drew | apply IsS108.set_1 | apply IsS108.set_2) | exact HI0.out)); (case side2 => repeat (first | (with_reducible first | exact HB.out | apply below_alloc | apply pw_below_drewN | apply below_drew1 | refine below_set ?_ (IsS108.ge HI0.out)) | exact HB.out)); rintro e w27 ⟨rfl, hi, hb, hk⟩; refine ⟨_, rfl, ?_⟩; replace aa := aM (Kd.R_mono (Kd.R_keep (IsS108.apart (show IsS108 w0 _ g ac ah ai from by repeat (first | (with_reducible first | exact HI0.out | apply IsS108.alloc | apply IsS108.drewN | apply IsS108.drew | apply IsS108.set_1 | apply IsS108.set_2) | exact HI0.out)) (by have X_ := aa.out; exact TR) (by decide)) hk (fun _ h => h.2)) (fun _ h => h.1)); replace HK := aM (KeepBut.trans (by repeat (first | (with_reducible first | exact HK.out | apply KeepBut.set_ | apply keep_drewN | apply keep_drew | apply keep_alloc) | exact HK.out)) hk (.inl rfl)); replace HB := aM (hb); replace HI0 := aM (hi); (try clear hb); (try clear hb2); (try clear hk); (try clear hi); obtain ⟨Ao28, co28, eo28⟩ := Kd.R_slice aa.out; subst eo28) | ((with_reducible refine gate_callee (f := 60) rfl ?_); refine gL (some 33) Try.func60 #[.pointer (some ⟨g, 0, none⟩), .int .i64 (wrap64 ((ab.length : Int) + 1))] ?_; (with_reducible refine (spec_l1Below.calls g ac ag af (wrap64 ((ab.length : Int) + 1)) an t366 t367 w0 _ ?side1 ?side2 A24.out).mono ?_); (case side1 => repeat (first | (with_reducible first | exact HI0.out | apply IsS108.alloc | apply IsS108.drewN | apply IsS108.drew | apply IsS108.set_1 | apply IsS108.set_2) | exact HI0.out)); (case side2 => repeat (first | (with_reducible first | exact HB.out | apply below_alloc | apply pw_below_drewN | apply below_drew1 | refine below_set ?_ (IsS108.ge HI0.out)) | exact HB.out)); rintro e w29 ⟨rfl, hi, hb, hk⟩; refine ⟨_, rfl, ?_⟩; replace aa := aM (Kd.R_mono (Kd.R_keep (IsS108.apart (show IsS108 w0 _ g ac ag af from by repeat (first | (with_reducible first | exact HI0.out | apply IsS108.alloc | apply IsS108.drewN | apply IsS108.drew | apply IsS108.set_1 | apply IsS108.set_2) | exact HI0.out)) (by have X_ := aa.out; exact TR) (by decide)) hk (fun _ h => h.2)) (fun _ h => h.1)); replace HK := aM (KeepBut.trans (by repeat (first | (with_reducible first | exact HK.out | apply KeepBut.set_ | apply keep_drewN | apply keep_drew | apply keep_alloc) | exact HK.out)) hk (.inl rfl)); replace HB := aM (hb); replace HI0 := aM (hi); (try clear hb); (try clear hb2); (try clear hk); (try clear hi); have q30 : (an : Int) ≤ ((ab.length : Int) : Int) := DT; obtain ⟨i030, hi030, _, hsz30, _⟩ := info_parts info5; have hcut30 := cut_to (P := Try.prog) 22 5 .i64 Try.underlying22 hi030 Ao28 ab.length co28 an DT q30 (Kd.R_reads' aa.out).2.1; have hr30 := Kd.R_take (m := (an : Int).toNat) aa.out (by omega); have hy30 : y368.length = (an : Int).toNat := (by rw [aN.out, List.length_take]; omega); rw [← aN.out] at hr30; rw [← hy30] at hr30 hcut30; clear hy30 hi030 hsz30 aa; have HO370 := aM hr30; clear hr30; replace q30 := eq_true q30))
   go_ret
   exact ⟨_, by first | rfl | (simp [errW_none, errW_some] <;> rfl) | (simp [*, errW_none, errW_some] <;> rfl), by have X_ := HO370.out; exact TR, by repeat (first | (with_reducible first | exact HI0.out | apply IsS108.alloc | apply IsS108.drewN | apply IsS108.drew | apply IsS108.set_1 | apply IsS108.set_2) | exact HI0.out), by repeat (first | (with_reducible first | exact HB.out | apply below_alloc | apply pw_below_drewN | apply below_drew1 | refine below_set ?_ (IsS108.ge HI0.out)) | exact HB.out), by repeat (first | (with_reducible first | exact HK.out | apply KeepBut.set_ | apply keep_drewN | apply keep_drew | apply keep_alloc) | exact HK.out)⟩
  ·rw [if_neg c23] at H
   have c23b0 : (ae == 1) = false := beq_eq_false_iff_ne.mpr c23
   have c23b1 : (ae != 1) = true := bne_iff_ne.mpr c23
   by_cases c31 : ae = 2
   ·rw [if_pos c31] at H
    have c31b0 : (ae == 2) = true := beq_iff_eq.mpr c31
    have c31b1 : (ae != 2) = false := bne_eq_false_iff_eq.mpr c31
    clear c31
    obtain ⟨y371, ay⟩ : ∃ y_ : List Int, y_ = (([0, 1, 128, 255] : List Int)) := ⟨_, rfl⟩
    rw [← ay] at H
    have aK := aM ay
    clear ay
    replace H := bE H
    obtain ⟨⟨aA, t375, t376⟩, A32, H⟩ := H
    dsimp only at H
    replace H := ifN H
    obtain ⟨c33, H⟩ := H
    have LMc33 := aM c33
    clear c33
    obtain ⟨y377, az⟩ : ∃ y_ : List Int, y_ = (ab ++ [(aA) % 256]) := ⟨_, rfl⟩
    rw [← az] at H
    have Ny377 := aM az
    clear az
    simp only [Option.some.injEq, Prod.mk.injEq] at H
    obtain ⟨rfl, rfl, rfl⟩ := H
    go_wp2_with (first | ((with_reducible refine gate_callee (f := 60) rfl ?_); refine gL (some 11) Try.func60 #[.pointer (some ⟨g, 0, none⟩), .int .i64 6] ?_; (with_reducible refine (spec_l1Below.calls g ac ah ai 6 ae ag af w0 _ ?side1 ?side2 A4.out).mono ?_); (case side1 => repeat (first | (with_reducible first | exact HI0.out | apply IsS108.alloc | apply IsS108.drewN | apply IsS108.drew | apply IsS108.set_1 | apply IsS108.set_2) | exact HI0.out)); (case side2 => repeat (first | (with_reducible first | exact HB.out | apply below_alloc | apply pw_below_drewN | apply below_drew1 | refine below_set ?_ (IsS108.ge HI0.out)) | exact HB.out)); rintro e w34 ⟨rfl, hi, hb, hk⟩; refine ⟨_, rfl, ?_⟩; replace aa := aM (Kd.R_mono (Kd.R_keep (IsS108.apart (show IsS108 w0 _ g ac ah ai from by repeat (first | (with_reducible first | exact HI0.out | apply IsS108.alloc | apply IsS108.drewN | apply IsS108.drew | apply IsS108.set_1 | apply IsS108.set_2) | exact HI0.out)) (by have X_ := aa.out; exact TR) (by decide)) hk (fun _ h => h.2)) (fun _ h => h.1)); replace HK := aM (KeepBut.trans (by repeat (first | (with_reducible first | exact HK.out | apply KeepBut.set_ | apply keep_drewN | apply keep_drew | apply keep_alloc) | exact HK.out)) hk (.inl rfl)); replace HB := aM (hb); replace HI0 := aM (hi); (try clear hb); (try clear hb2); (try clear hk); (try clear hi)) | ((with_reducible refine gate_dst (N := 39) rfl ?_); refine Kd.R_lit (Kd.int .i64) _ 3 ?hg (N := 39) ?hd (xs := ([0, 1, 128, 255] : List Int)) (inner := [.int .i64 0, .int .i64 1, .int .i64 128, .int .i64 255]) (ok := fun _ => True) (okp := fun _ => True) ?hr ?hp (fun _ hk => hk) trivial (Below.refl _ _) (Nat.le_refl _) (by simp) ?_; (case hd => rfl); (case hg => rfl); (case hr => first | (go_simp; done) | (go_simp; rfl)); (case hp => exact (Reps.one (show Kd.M (Kd.int .i64) _ _ _ 0 [.int .i64 0] from rfl) (Reps.one (show Kd.M (Kd.int .i64) _ _ _ 1 [.int .i64 1] from rfl) (Reps.one (show Kd.M (Kd.int .i64) _ _ _ 128 [.int .i64 128] from rfl) (Reps.one (show Kd.M (Kd.int .i64) _ _ _ 255 [.int .i64 255] from rfl) (Reps.none _ _)))))); intro v372 w35 ho36 hb hg_ hnew_; clear hg_ hnew_; (first | rw [← aK.out] at ho36 | (simp only [Int.reduceToNat] at ho36; rw [← aK.out] at ho36)); have HO373 := aM (Kd.R_lower ho36 (keep_size (w := w) (g := g) (row := none) (by repeat (first | (with_reducible first | exact HK.out | apply KeepBut.set_ | apply keep_drewN | apply keep_drew | apply keep_alloc) | exact HK.out)))); replace aa := aM (Kd.R_below (by have X_ := aa.out; exact TR) hb); replace HK := aM (KeepBut.trans (by repeat (first | (with_reducible first | exact HK.out | apply KeepBut.set_ | apply keep_drewN | apply keep_drew | apply keep_alloc) | exact HK.out)) (KeepBut.of_below hb g none) (.inl rfl)); replace HB := aM (below_step (by repeat (first | (with_reducible first | exact HB.out | apply below_alloc | apply pw_below_drewN | apply below_drew1 | refine below_set ?_ (IsS108.ge HI0.out)) | exact HB.out)) hb); replace HI0 := aM (IsS108.below (by repeat (first | (with_reducible first | exact HI0.out | apply IsS108.alloc | apply IsS108.drewN | apply IsS108.drew | apply IsS108.set_1 | apply IsS108.set_2) | exact HI0.out)) hb); clear hb ho36; obtain ⟨Ao37, co37, eo37⟩ := Kd.R_slice HO373.out; subst eo37) | ((with_reducible refine gate_callee (f := 74) rfl ?_); refine gL (some 40) Try.func74 #[.pointer (some ⟨g, 0, none⟩), .slice Ao37 y371.length co37] ?_; (with_reducible refine (spec_l1Int.calls g ac ag af _ _ y371 aA t375 t376 w0 _ ?side1 ?side2 ?side3 ?side4 ?side5 A32.out).mono ?_); (case side1 => repeat (first | (with_reducible first | exact HI0.out | apply IsS108.alloc | apply IsS108.drewN | apply IsS108.drew | apply IsS108.set_1 | apply IsS108.set_2) | exact HI0.out)); (case side2 => repeat (first | (with_reducible first | exact HB.out | apply below_alloc | apply pw_below_drewN | apply below_drew1 | refine below_set ?_ (IsS108.ge HI0.out)) | exact HB.out)); (case side3 => have X_ := (Kd.R_reads' HO373.out).2.2; exact TC); (case side4 => exact (Kd.R_reads' HO373.out).2.1); (case side5 => exact far_slice (IsS108.own_ne HI0.out HO373.out (by decide))); rintro e w38 ⟨rfl, hi, hb, hk⟩; refine ⟨_, rfl, ?_⟩; replace aa := aM (Kd.R_mono (Kd.R_keep (IsS108.apart (show IsS108 w0 _ g ac ag af from by repeat (first | (with_reducible first | exact HI0.out | apply IsS108.alloc | apply IsS108.drewN | apply IsS108.drew | apply IsS108.set_1 | apply IsS108.set_2) | exact HI0.out)) (by have X_ := aa.out; exact TR) (by decide)) hk (fun _ h => h.2)) (fun _ h => h.1)); replace HO373 := aM (Kd.R_mono (Kd.R_keep (IsS108.apart (show IsS108 w0 _ g ac ag af from by repeat (first | (with_reducible first | exact HI0.out | apply IsS108.alloc | apply IsS108.drewN | apply IsS108.drew | apply IsS108.set_1 | apply IsS108.set_2) | exact HI0.out)) (by have X_ := HO373.out; exact TR) (by decide)) hk (fun _ h => h.2)) (fun _ h => h.1)); replace HK := aM (KeepBut.trans (by repeat (first | (with_reducible first | exact HK.out | apply KeepBut.set_ | apply keep_drewN | apply keep_drew | apply keep_alloc) | exact HK.out)) hk (.inl rfl)); replace HB := aM (hb); replace HI0 := aM (hi); (try clear hb); (try clear hb2); (try clear hk); (try clear hi)) | ((with_reducible refine gate_builtin (b := .append) (xs := #[.tmp 37, .tmp 42]) rfl ?_); at_builtin; refine Kd.R_append (Kd.int .u8) w.heap.size rfl (.tmp 37) (.tmp 42) 22 5 (.int .u8 0) 1 rfl Try.underlying22 info5 rfl (by decide) (by omega) v353 ab ((aA) % 256) [.int .u8 ((aA) % 256)] (fun _ => True) (fun _ => False) rfl rfl ?aP (fun _ hk => hk.elim) ?aF ?aO (Below.refl _ _) ?aS ?aL ?_; (case aP => exact rfl); (case aF => exact (fun _ _ => trivial)); (case aO => exact (by have X_ := aa.out; exact TR)); (case aS => exact (keep_size (w := w) (g := g) (row := none) (by repeat (first | (with_reducible first | exact HK.out | apply KeepBut.set_ | apply keep_drewN | apply keep_drew | apply keep_alloc) | exact HK.out)))); (case aL => have := LMc33.out; omega); intro v378 w39 ho hb hg hat; rw [← Ny377.out] at ho; have HO379 := aM (ho); replace HO373 := aM (Kd.R_over' (by have X_ := HO373.out; exact TR) (Kd.R_typed (by have X_ := aa.out; exact TR)) (by decide) hg); replace HB := aM (below_weaken (by repeat (first | (with_reducible first | exact HB.out | apply below_alloc | apply pw_below_drewN | apply below_drew1 | refine below_set ?_ (IsS108.ge HI0.out)) | exact HB.out)) HL.out hb); replace HI0 := aM (IsS108.grown (by repeat (first | (with_reducible first | exact HI0.out | apply IsS108.alloc | apply IsS108.drewN | apply IsS108.drew | apply IsS108.set_1 | apply IsS108.set_2) | exact HI0.out)) hg (IsS108.own_ne HI0.out aa.out (by decide))); replace HK := aM (KeepBut.trans (by repeat (first | (with_reducible first | exact HK.out | apply KeepBut.set_ | apply keep_drewN | apply keep_drew | apply keep_alloc) | exact HK.out)) (KeepBut.of_grown hg g) (Kd.R_base2 aa.out)); clear aa; clear ho hb hg hat))
    go_ret
    exact ⟨_, by first | rfl | (simp [errW_none, errW_some] <;> rfl) | (simp [*, errW_none, errW_some] <;> rfl), by have X_ := HO379.out; exact TR, by repeat (first | (with_reducible first | exact HI0.out | apply IsS108.alloc | apply IsS108.drewN | apply IsS108.drew | apply IsS108.set_1 | apply IsS108.set_2) | exact HI0.out), by repeat (first | (with_reducible first | exact HB.out | apply below_alloc | apply pw_below_drewN | apply below_drew1 | refine below_set ?_ (IsS108.ge HI0.out)) | exact HB.out), by repeat (first | (with_reducible first | exact HK.out | apply KeepBut.set_ | apply keep_drewN | apply keep_drew | apply keep_alloc) | exact HK.out)⟩
   ·rw [if_neg c31] at H
    have c31b0 : (ae == 2) = false := beq_eq_false_iff_ne.mpr c31
    have c31b1 : (ae != 2) = true := bne_iff_ne.mpr c31
    by_cases c40 : ae = 3
    ·rw [if_pos c40] at H
     have c40b0 : (ae == 3) = true := beq_iff_eq.mpr c40
     have c40b1 : (ae != 3) = false := bne_eq_false_iff_eq.mpr c40
     clear c40
     by_cases c41 : (ab.length : Int) > 0
     ·rw [if_pos c41] at H
      have c41b0 : decide (0 < (ab.length : Int)) = true := decide_eq_true c41
      have c41b1 : decide (0 < ab.length) = true := decide_eq_true (by omega)
      clear c41
      replace H := bE H
      obtain ⟨⟨aj, aC, aB⟩, A42, H⟩ := H
      dsimp only at H
      replace H := ifN H
      obtain ⟨c43, H⟩ := H
      have c43b0 : decide (0 ≤ aj) = true := decide_eq_true c43
      clear c43
      replace H := ifN H
      obtain ⟨c44, H⟩ := H
      have c44b0 : decide (aj < (ab.length : Int)) = true := decide_eq_true c44
      clear c44
      replace H := bE H
      obtain ⟨⟨am, t385, t386⟩, A45, H⟩ := H
      dsimp only at H
      replace H := ifN H
      obtain ⟨c46, H⟩ := H
      have c46b0 := eq_true c46
      have c46b1 : decide (0 ≤ am) = true := decide_eq_true c46
      clear c46
      obtain ⟨ao, ak⟩ : ∃ j_ : Int, (shl .u8 1 am) = j_ := ⟨_, rfl⟩
      (first | rw [ak] at H | simp only [ak] at H | skip)
      (try rw [ak] at A4)
      (try rw [ak] at A42)
      (try rw [ak] at A45)
      have aU : (IntKind.u8.wrap (1 * 2 ^ min am.toNat 8)) = ao := ak
      have aT : am ≤ 8 → (IntKind.u8.wrap (1 * 2 ^ am.toNat)) = ao := shl_small ak
      have hji47u : (IntKind.u8.wrap (2 ^ min am.toNat 8)) = ao := by have h_ := aU; rw [Int.one_mul] at h_; exact h_
      have hji47v : am ≤ 8 → (IntKind.u8.wrap (2 ^ am.toNat)) = ao := fun hle_ => by have h_ := aT hle_; rw [Int.one_mul] at h_; exact h_
      obtain ⟨y387, ar⟩ : ∃ y_ : List Int, y_ = (ab.set (aj : Int).toNat (Go.bits .xor .u8 (rd ab aj) (ao))) := ⟨_, rfl⟩
      rw [← ar] at H
      have Ny387 := aM ar
      clear ar
      simp only [Option.some.injEq, Prod.mk.injEq] at H
      obtain ⟨rfl, rfl, rfl⟩ := H
      try go_wp2_with (first | ((with_reducible refine gate_callee (f := 60) rfl ?_); refine gL (some 11) Try.func60 #[.pointer (some ⟨g, 0, none⟩), .int .i64 6] ?_; (with_reducible refine (spec_l1Below.calls g ac ah ai 6 ae ag af w0 _ ?side1 ?side2 A4.out).mono ?_); (case side1 => repeat (first | (with_reducible first | exact HI0.out | apply IsS108.alloc | apply IsS108.drewN | apply IsS108.drew | apply IsS108.set_1 | apply IsS108.set_2) | exact HI0.out)); (case side2 => repeat (first | (with_reducible first | exact HB.out | apply below_alloc | apply pw_below_drewN | apply below_drew1 | refine below_set ?_ (IsS108.ge HI0.out)) | exact HB.out)); rintro e w49 ⟨rfl, hi, hb, hk⟩; refine ⟨_, rfl, ?_⟩; replace aa := aM (Kd.R_mono (Kd.R_keep (IsS108.apart (show IsS108 w0 _ g ac ah ai from by repeat (first | (with_reducible first | exact HI0.out | apply IsS108.alloc | apply IsS108.drewN | apply IsS108.drew | apply IsS108.set_1 | apply IsS108.set_2) | exact HI0.out)) (by have X_ := aa.out; exact TR) (by decide)) hk (fun _ h => h.2)) (fun _ h => h.1)); replace HK := aM (KeepBut.trans (by repeat (first | (with_reducible first | exact HK.out | apply KeepBut.set_ | apply keep_drewN | apply keep_drew | apply keep_alloc) | exact HK.out)) hk (.inl rfl)); replace HB := aM (hb); replace HI0 := aM (hi); (try clear hb); (try clear hb2); (try clear hk); (try clear hi); obtain ⟨Ao50, co50, eo50⟩ := Kd.R_slice aa.out; subst eo50) | ((with_reducible refine gate_callee (f := 60) rfl ?_); refine gL (some 52) Try.func60 #[.pointer (some ⟨g, 0, none⟩), .int .i64 (ab.length : Int)] ?_; (with_reducible refine (spec_l1Below.calls g ac ag af (ab.length : Int) aj aC aB w0 _ ?side1 ?side2 A42.out).mono ?_); (case side1 => repeat (first | (with_reducible first | exact HI0.out | apply IsS108.alloc | apply IsS108.drewN | apply IsS108.drew | apply IsS108.set_1 | apply IsS108.set_2) | exact HI0.out)); (case side2 => repeat (first | (with_reducible first | exact HB.out | apply below_alloc | apply pw_below_drewN | apply below_drew1 | refine below_set ?_ (IsS108.ge HI0.out)) | exact HB.out)); rintro e w51 ⟨rfl, hi, hb, hk⟩; refine ⟨_, rfl, ?_⟩; replace aa := aM (Kd.R_mono (Kd.R_keep (IsS108.apart (show IsS108 w0 _ g ac ag af from by repeat (first | (with_reducible first | exact HI0.out | apply IsS108.alloc | apply IsS108.drewN | apply IsS108.drew | apply IsS108.set_1 | apply IsS108.set_2) | exact HI0.out)) (by have X_ := aa.out; exact TR) (by decide)) hk (fun _ h => h.2)) (fun _ h => h.1)); replace HK := aM (KeepBut.trans (by repeat (first | (with_reducible first | exact HK.out | apply KeepBut.set_ | apply keep_drewN | apply keep_drew | apply keep_alloc) | exact HK.out)) hk (.inl rfl)); replace HB := aM (hb); replace HI0 := aM (hi); (try clear hb); (try clear hb2); (try clear hk); (try clear hi)))
      replace aa := aM (Kd.R_drew aa.out)
      replace HI0 := aM (IsS108.drew HI0.out)
      replace HK := aM (keep_drew HK.out)
      replace HB := aM (below_drew1 HB.out)
      have aJ : 0 ≤ (aj : Int) := DT
      have aH : aj < (ab.length : Int) := DT
      obtain ⟨ad383, e383, ap⟩ := Kd.at_int (Kd.R_reads' aa.out).2.2 aj aJ aH
      cases e383
      replace aJ := eq_true aJ
      replace aH := eq_true aH
      refine start_ (n := 12) (S := fun w' => w'.cell? (ad383.add (aj).toNat) = some (.int .u8 (rd ab aj))) (ds := [11]) (Array.replicate 12 false) (by kernel_rfl) rfl rfl (ap) (fun hHeld => ?_); refine with_tabW spec_l1Bent.tab13 spec_l1Bent.bits13 (fun HT_ HW_ => ?_)
      generalize w51.drew = w52 at aa HI0 HK HB ap hHeld ⊢
      refine pP 0 (some 53) ?_
      refine pP 1 (some 54) ?_
      refine pP 2 (some 55) ?_
      refine pP 3 (some 56) ?_
      refine pP 4 (some 57) ?_
      refine pP 6 (some 59) ?_
      refine pT 5 (some 58) ?_
      refine pO 7 (some 60) (fun K hK => ?_)
      refine gG Try.func60 #[.pointer (some ⟨g, 0, none⟩), .int .i64 8] ?_
      with_reducible refine (spec_l1Below.calls g ac aC aB 8 am t385 t386 w0 _ ?side1 ?side2 A45.out).mono ?_
      (case side1 => repeat (first | (with_reducible first | exact HI0.out | apply IsS108.alloc | apply IsS108.drewN | apply IsS108.drew | apply IsS108.set_1 | apply IsS108.set_2) | exact HI0.out))
      (case side2 => repeat (first | (with_reducible first | exact HB.out | apply below_alloc | apply pw_below_drewN | apply below_drew1 | refine below_set ?_ (IsS108.ge HI0.out)) | exact HB.out))
      rintro e w53 ⟨rfl, hi, hb, hk⟩
      have HS0_ := keep_cell hk (hHeld) (by first | (rw [add_block]; exact Kd.own_blk (IsS108.own_ne HI0.out aa.out (by decide))) | (show (Addr.add _ _).block ≠ _; rw [add_block]; exact Kd.own_blk (IsS108.own_ne HI0.out aa.out (by decide))) | exact Kd.own_blk (IsS108.own_ne HI0.out aa.out (by decide)))
      refine ⟨_, rfl, ?_⟩
      have n0_ := aM (Kd.R_mono (Kd.R_keep (IsS108.apart (show IsS108 w0 _ g ac aC aB from by repeat (first | (with_reducible first | exact HI0.out | apply IsS108.alloc | apply IsS108.drewN | apply IsS108.drew | apply IsS108.set_1 | apply IsS108.set_2) | exact HI0.out)) (by have X_ := aa.out; exact TR) (by decide)) hk (fun _ h => h.2)) (fun _ h => h.1))
      have n1_ := aM (KeepBut.trans (by repeat (first | (with_reducible first | exact HK.out | apply KeepBut.set_ | apply keep_drewN | apply keep_drew | apply keep_alloc) | exact HK.out)) hk (.inl rfl))
      have n2_ := aM (hb)
      have n3_ := aM (hi)
      clear aa
      clear HK
      clear HB
      clear HI0
      have aa := n0_
      have HK := n1_
      have HB := n2_
      have HI0 := n3_
      clear n0_ n1_ n2_ n3_
      (try clear hb)
      (try clear hb2)
      (try clear hk)
      (try clear hi)
      have p48 : 0 ≤ (aj : Int) := DT
      have q48 : (aj : Int) < ((ab.length : Int) : Int) := DT
      obtain ⟨go48, co48, eo48, gb48, gl48, cl48, HG48⟩ := Kd.R_form aa.out (by omega)
      (first | cases eo48 | (injection eo48 with ea_ en_ ec_; (first | subst ea_ | (injection ea_ with ea_; subst ea_)); subst ec_; clear en_))
      have GB48 := aM gb48
      have GG48 := aM HG48
      clear gb48 gl48 HG48
      (first | simp only [add_plain] at ap | skip)
      obtain ⟨hx48_0, hf48_0⟩ := Kd.R_celln 0 aa.out (aj : Int) p48 q48
      replace p48 := eq_true p48
      replace q48 := eq_true q48
      have aI := aM (show g ≠ go48 from by have h_ := IsS108.own_ne HI0.out aa.out (by decide); intro e_; exact h_ (by rw [e_]; rfl))
      have aG := Kd.R_putn aa.out (aj : Int) (Go.bits .xor .u8 (rd ab aj) (ao))
      rw [← Ny387.out] at aG
      have HQ54 := aM aG
      clear aG
      refine hK.out _ _ (HS0_) (fun hHeld => ?_)
      clear hK K
      refine nR ?_
      refine pP 8 (some 61) ?_
      refine pP 9 (some 62) ?_
      refine pP 10 (some 63) ?_
      refine pL 11 none (fun K hK => ?_)
      refine skip_ (w1 := ?_) (by rfl) rfl ?_ ?_
      rotate_left
      ·go_simp
       rfl
      refine hK.out _ _ ?_
      clear hK K
      refine done_ (done_of HT_.out (by kernel_rfl)) ?_
      try go_wp2
      go_ret
      exact ⟨_, by first | rfl | (simp [errW_none, errW_some] <;> rfl) | (simp only [← ak]; first | rfl | (simp [errW_none, errW_some] <;> rfl)) | (simp [*, errW_none, errW_some] <;> rfl), by have X_ := HQ54.out; exact TR, by repeat (first | (with_reducible first | exact HI0.out | apply IsS108.alloc | apply IsS108.drewN | apply IsS108.drew | apply IsS108.set_1 | apply IsS108.set_2 | refine IsS108.far ?_ aI.out _) | exact HI0.out), by repeat (first | (with_reducible first | exact HB.out | apply below_alloc | apply pw_below_drewN | apply below_drew1 | refine below_set ?_ (Nat.le_trans HL.out GB48.out) | refine below_set ?_ (IsS108.ge HI0.out)) | exact HB.out), by repeat (first | (with_reducible first | exact HK.out | apply KeepBut.set_ | apply keep_drewN | apply keep_drew | apply keep_alloc | refine keep_far ?_ GB48.out _) | exact HK.out)⟩
     ·rw [if_neg c41] at H
      have c41b0 : decide (0 < (ab.length : Int)) = false := decide_eq_false c41
      have c41b1 : decide (0 < ab.length) = false := decide_eq_false (by omega)
      clear c41
      simp only [Option.some.injEq, Prod.mk.injEq] at H
      obtain ⟨rfl, rfl, rfl⟩ := H
      go_wp2_with (first | ((with_reducible refine gate_callee (f := 60) rfl ?_); refine gL (some 11) Try.func60 #[.pointer (some ⟨g, 0, none⟩), .int .i64 6] ?_; (with_reducible refine (spec_l1Below.calls g ac ah ai 6 ae ag af w0 _ ?side1 ?side2 A4.out).mono ?_); (case side1 => repeat (first | (with_reducible first | exact HI0.out | apply IsS108.alloc | apply IsS108.drewN | apply IsS108.drew | apply IsS108.set_1 | apply IsS108.set_2) | exact HI0.out)); (case side2 => repeat (first | (with_reducible first | exact HB.out | apply below_alloc | apply pw_below_drewN | apply below_drew1 | refine below_set ?_ (IsS108.ge HI0.out)) | exact HB.out)); rintro e w55 ⟨rfl, hi, hb, hk⟩; refine ⟨_, rfl, ?_⟩; replace aa := aM (Kd.R_mono (Kd.R_keep (IsS108.apart (show IsS108 w0 _ g ac ah ai from by repeat (first | (with_reducible first | exact HI0.out | apply IsS108.alloc | apply IsS108.drewN | apply IsS108.drew | apply IsS108.set_1 | apply IsS108.set_2) | exact HI0.out)) (by have X_ := aa.out; exact TR) (by decide)) hk (fun _ h => h.2)) (fun _ h => h.1)); replace HK := aM (KeepBut.trans (by repeat (first | (with_reducible first | exact HK.out | apply KeepBut.set_ | apply keep_drewN | apply keep_drew | apply keep_alloc) | exact HK.out)) hk (.inl rfl)); replace HB := aM (hb); replace HI0 := aM (hi); (try clear hb); (try clear hb2); (try clear hk); (try clear hi); obtain ⟨Ao56, co56, eo56⟩ := Kd.R_slice aa.out; subst eo56))
      go_ret
      exact ⟨_, by first | rfl | (simp [errW_none, errW_some] <;> rfl) | (simp [*, errW_none, errW_some] <;> rfl), by have X_ := aa.out; exact TR, by repeat (first | (with_reducible first | exact HI0.out | apply IsS108.alloc | apply IsS108.drewN | apply IsS108.drew | apply IsS108.set_1 | apply IsS108.set_2) | exact HI0.out), by repeat (first | (with_reducible first | exact HB.out | apply below_alloc | apply pw_below_drewN | apply below_drew1 | refine below_set ?_ (IsS108.ge HI0.out)) | exact HB.out), by repeat (first | (with_reducible first | exact HK.out | apply KeepBut.set_ | apply keep_drewN | apply keep_drew | apply keep_alloc) | exact HK.out)⟩
    ·rw [if_neg c40] at H
     have c40b0 : (ae == 3) = false := beq_eq_false_iff_ne.mpr c40
     have c40b1 : (ae != 3) = true := bne_iff_ne.mpr c40
     simp only [Option.some.injEq, Prod.mk.injEq] at H
     obtain ⟨rfl, rfl, rfl⟩ := H
     go_wp2_with (first | ((with_reducible refine gate_callee (f := 60) rfl ?_); refine gL (some 11) Try.func60 #[.pointer (some ⟨g, 0, none⟩), .int .i64 6] ?_; (with_reducible refine (spec_l1Below.calls g ac ah ai 6 ae ag af w0 _ ?side1 ?side2 A4.out).mono ?_); (case side1 => repeat (first | (with_reducible first | exact HI0.out | apply IsS108.alloc | apply IsS108.drewN | apply IsS108.drew | apply IsS108.set_1 | apply IsS108.set_2) | exact HI0.out)); (case side2 => repeat (first | (with_reducible first | exact HB.out | apply below_alloc | apply pw_below_drewN | apply below_drew1 | refine below_set ?_ (IsS108.ge HI0.out)) | exact HB.out)); rintro e w57 ⟨rfl, hi, hb, hk⟩; refine ⟨_, rfl, ?_⟩; replace aa := aM (Kd.R_mono (Kd.R_keep (IsS108.apart (show IsS108 w0 _ g ac ah ai from by repeat (first | (with_reducible first | exact HI0.out | apply IsS108.alloc | apply IsS108.drewN | apply IsS108.drew | apply IsS108.set_1 | apply IsS108.set_2) | exact HI0.out)) (by have X_ := aa.out; exact TR) (by decide)) hk (fun _ h => h.2)) (fun _ h => h.1)); replace HK := aM (KeepBut.trans (by repeat (first | (with_reducible first | exact HK.out | apply KeepBut.set_ | apply keep_drewN | apply keep_drew | apply keep_alloc) | exact HK.out)) hk (.inl rfl)); replace HB := aM (hb); replace HI0 := aM (hi); (try clear hb); (try clear hb2); (try clear hk); (try clear hi)))
     go_ret
     exact ⟨_, by first | rfl | (simp [errW_none, errW_some] <;> rfl) | (simp [*, errW_none, errW_some] <;> rfl), by have X_ := aa.out; exact TR, by repeat (first | (with_reducible first | exact HI0.out | apply IsS108.alloc | apply IsS108.drewN | apply IsS108.drew | apply IsS108.set_1 | apply IsS108.set_2) | exact HI0.out), by repeat (first | (with_reducible first | exact HB.out | apply below_alloc | apply pw_below_drewN | apply below_drew1 | refine below_set ?_ (IsS108.ge HI0.out)) | exact HB.out), by repeat (first | (with_reducible first | exact HK.out | apply KeepBut.set_ | apply keep_drewN | apply keep_drew | apply keep_alloc) | exact HK.out)⟩

end Go.Proofs.Ytfkndpjbkndhcaa.Q
