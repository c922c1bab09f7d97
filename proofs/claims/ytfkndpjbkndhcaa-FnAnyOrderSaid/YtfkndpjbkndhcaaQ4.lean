/- Functions of the program as plain Lean functions, and that a call of each comes to what its function tells. Written by a program of this seat. -/
import Derived.Test.YtfkndpjbkndhcaaQ0
import Derived.Test.YtfkndpjbkndhcaaQ2
import Derived.Test.YtfkndpjbkndhcaaQ3
namespace Go.Proofs.Ytfkndpjbkndhcaa.Q
open Go.RowKit Go.Proofs.YtfkndpjbkndhcaaW.PrintWords Go.Proofs.YtfkndpjbkndhcaaW.PrintLast Go.Proofs.YtfkndpjbkndhcaaW.PrintMore
attribute [local go_sem] max2_int min2_int max_two min_two max_three min_three max_four min_four   -- for this text's walks alone
set_option linter.unusedVariables false
set_option linter.unusedSimpArgs false

/-! ### spec_DrawImage: function 9 -/
def spec_DrawImage.f (k : Nat) (l0 : List Int) : Option (List Int × Int × Int) := (spec_l1New.f k l0).bind fun bt141 => ((spec_l6Image.f k bt141.1 bt141.2.1 bt141.2.2).bind fun bt145 => ((spec_l1Below.f bt141.1 bt145.2.1 bt145.2.2 9).bind fun bt150 => ((spec_l1Below.f bt141.1 bt150.2.1 bt150.2.2 5).bind fun bt153 => (some (bt145.1, wrap64 (1 + bt150.1), wrap64 (2 + bt153.1))))))
theorem spec_DrawImage.mono : ∀ a0 k, LeO (spec_DrawImage.f k a0) (spec_DrawImage.f (k + 1) a0) := by
  intro a0 k
  have m0_ := @spec_l1New.mono
  have m1_ := @spec_l6Image.mono
  unfold spec_DrawImage.f
  exact LM
set_option maxHeartbeats 40000000 in
set_option maxRecDepth 100000 in
theorem spec_DrawImage.calls (k : Nat) (A0 : Option Addr) (c0 : Nat) (l0 : List Int) (r1 : List Int) (r2 : Int) (r3 : Int) (w : World) (hr0 : Kd.C (Kd.int .u8) w A0 l0.length l0) (hc0 : l0.length ≤ c0) (h : spec_DrawImage.f k l0 = some (r1, r2, r3)) :
    Calls Try.prog 9 #[.slice A0 l0.length c0] w fun e w' => ∃ v0_ : Value, e = .returned (.tuple #[v0_, .int .i64 r2, .int .i64 r3]) ∧ Kd.R (Kd.int .u8) 5 w' w.heap.size (fun _ => True) v0_ r1 ∧ Below w.heap.size w w' := by
  have HR0 := aM hr0
  have HC0 := aM hc0
  clear hr0 hc0
  have HB := aM (Below.refl w.heap.size w)
  have H := h
  clear h
  unfold spec_DrawImage.f at H
  replace H := bE H
  obtain ⟨⟨t141, t142, t143⟩, A2, H⟩ := H
  dsimp only at H
  replace H := bE H
  obtain ⟨⟨t145, t148, t149⟩, A3, H⟩ := H
  dsimp only at H
  replace H := bE H
  obtain ⟨⟨t150, t151, t152⟩, A4, H⟩ := H
  dsimp only at H
  replace H := bE H
  obtain ⟨⟨t153, t154, t155⟩, A5, H⟩ := H
  dsimp only at H
  simp only [Option.some.injEq, Prod.mk.injEq] at H
  obtain ⟨rfl, rfl, rfl⟩ := H
  go_enter Try.func9, Try.ntmps9
  go_wp2_with (first | ((with_reducible refine gate_callee (f := 58) rfl ?_); refine gL (some 8) Try.func58 #[.slice A0 l0.length c0] ?_; (with_reducible refine (spec_l1New.calls k _ _ l0 t141 t142 t143 w _ ?side1 ?side2 ?side3 A2.out).mono ?_); (case side1 => repeat (first | (with_reducible first | exact HB.out | apply below_alloc | apply pw_below_drewN | apply below_drew1) | exact HB.out)); (case side2 => exact HR0.out); (case side3 => exact HC0.out); rintro e w6 ⟨g144, rfl, hi, hb, hb2⟩; refine ⟨_, rfl, ?_⟩; have HI144 := aM (hi); replace HB := aM (hb); clear hi hb hb2) | ((with_reducible refine gate_callee (f := 59) rfl ?_); refine gL (some 10) Try.func59 #[.pointer (some ⟨g144, 0, none⟩)] ?_; (with_reducible refine (spec_l6Image.calls k g144 t141 t142 t143 t145 t148 t149 w _ ?side1 ?side2 A3.out).mono ?_); (case side1 => repeat (first | (with_reducible first | exact HI144.out | apply IsS108.alloc | apply IsS108.drewN | apply IsS108.drew | apply IsS108.set_1 | apply IsS108.set_2) | exact HI144.out)); (case side2 => repeat (first | (with_reducible first | exact HB.out | apply below_alloc | apply pw_below_drewN | apply below_drew1 | refine below_set ?_ (IsS108.ge HI144.out)) | exact HB.out)); rintro e w7 ⟨v146, rfl, ho0, hi, hb, hk⟩; refine ⟨_, rfl, ?_⟩; have HO147 := aM (Kd.R_lower ho0 (below_size (by repeat (first | (with_reducible first | exact HB.out | apply below_alloc | apply pw_below_drewN | apply below_drew1 | refine below_set ?_ (IsS108.ge HI144.out)) | exact HB.out)))); replace HB := aM (hb); replace HI144 := aM (hi); (try clear hb); (try clear hb2); (try clear hk); (try clear hi); (try clear ho0)) | ((with_reducible refine gate_callee (f := 60) rfl ?_); refine gL (some 13) Try.func60 #[.pointer (some ⟨g144, 0, none⟩), .int .i64 9] ?_; (with_reducible refine (spec_l1Below.calls g144 t141 t148 t149 9 t150 t151 t152 w _ ?side1 ?side2 A4.out).mono ?_); (case side1 => repeat (first | (with_reducible first | exact HI144.out | apply IsS108.alloc | apply IsS108.drewN | apply IsS108.drew | apply IsS108.set_1 | apply IsS108.set_2) | exact HI144.out)); (case side2 => repeat (first | (with_reducible first | exact HB.out | apply below_alloc | apply pw_below_drewN | apply below_drew1 | refine below_set ?_ (IsS108.ge HI144.out)) | exact HB.out)); rintro e w8 ⟨rfl, hi, hb, hk⟩; refine ⟨_, rfl, ?_⟩; replace HO147 := aM (Kd.R_mono (Kd.R_keep (IsS108.apart (show IsS108 w _ g144 t141 t148 t149 from by repeat (first | (with_reducible first | exact HI144.out | apply IsS108.alloc | apply IsS108.drewN | apply IsS108.drew | apply IsS108.set_1 | apply IsS108.set_2) | exact HI144.out)) (by have X_ := HO147.out; exact TR) (by decide)) hk (fun _ h => h.2)) (fun _ h => h.1)); replace HB := aM (hb); replace HI144 := aM (hi); (try clear hb); (try clear hb2); (try clear hk); (try clear hi)) | ((with_reducible refine gate_callee (f := 60) rfl ?_); refine gL (some 16) Try.func60 #[.pointer (some ⟨g144, 0, none⟩), .int .i64 5] ?_; (with_reducible refine (spec_l1Below.calls g144 t141 t151 t152 5 t153 t154 t155 w _ ?side1 ?side2 A5.out).mono ?_); (case side1 => repeat (first | (with_reducible first | exact HI144.out | apply IsS108.alloc | apply IsS108.drewN | apply IsS108.drew | apply IsS108.set_1 | apply IsS108.set_2) | exact HI144.out)); (case side2 => repeat (first | (with_reducible first | exact HB.out | apply below_alloc | apply pw_below_drewN | apply below_drew1 | refine below_set ?_ (IsS108.ge HI144.out)) | exact HB.out)); rintro e w9 ⟨rfl, hi, hb, hk⟩; refine ⟨_, rfl, ?_⟩; replace HO147 := aM (Kd.R_mono (Kd.R_keep (IsS108.apart (show IsS108 w _ g144 t141 t151 t152 from by repeat (first | (with_reducible first | exact HI144.out | apply IsS108.alloc | apply IsS108.drewN | apply IsS108.drew | apply IsS108.set_1 | apply IsS108.set_2) | exact HI144.out)) (by have X_ := HO147.out; exact TR) (by decide)) hk (fun _ h => h.2)) (fun _ h => h.1)); replace HB := aM (hb); replace HI144 := aM (hi); (try clear hb); (try clear hb2); (try clear hk); (try clear hi)))
  go_ret3
  exact ⟨_, by first | rfl | (simp [errW_none, errW_some] <;> rfl) | (simp [*, errW_none, errW_some] <;> rfl), by have X_ := HO147.out; exact TR, by repeat (first | (with_reducible first | exact HB.out | apply below_alloc | apply pw_below_drewN | apply below_drew1 | refine below_set ?_ (IsS108.ge HI144.out)) | exact HB.out)⟩

end Go.Proofs.Ytfkndpjbkndhcaa.Q
