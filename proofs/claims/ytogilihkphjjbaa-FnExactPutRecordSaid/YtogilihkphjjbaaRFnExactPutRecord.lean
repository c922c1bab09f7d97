/- The statement of FnExactPutRecord over plain numbers and lists, and the row behind it. Written by a program of this seat. -/
import Derived.Test.YtogilihkphjjbaaRows
import Derived.Test.YtogilihkphjjbaaQ46
import Derived.Test.YtogilihkphjjbaaTyp
import Derived.Test.YtogilihkphjjbaaPureFnExactPutRecord
import Derived.WalkKit
import Derived.ProofKit
import Derived.OpenShut
import Derived.ShutString
import Derived.ChangeOld
import Derived.Below
import Derived.SizedLaws
namespace Go.Proofs.Ytogilihkphjjbaa.fnExactPutRecord
open Go.ChangeShapes Go.WideShapes Go.ChangeAt Go.RowKit Go.Proofs.Ytogilihkphjjbaa Go.Proofs.Ytogilihkphjjbaa.Q Go.Proofs.YtogilihkphjjbaaW.PrintWords
open Go.ChangeMaps (open_string shut_string)
set_option linter.unusedVariables false
theorem own : ownKnob Try.prog.godebug = none := by kernel_rfl
theorem laidOut : laidOutB Try.prog = true := by kernel_rfl
set_option maxRecDepth 100000 in
theorem lifted (os : Os) (started : os.Started) (H : Type) (enc : TypeId × Value → H) :
    ReturnsInHanded {} Try.checked os 10 .any (Rows.fnExactPutRecordSpec.pre6 enc Try.prog Try.f10 Rows.fnExactPutRecordRow.domain false) (Rows.fnExactPutRecordSpec.post enc Try.prog Try.f10 false true false false) := by
  refine returnsInHanded_of_change_sized (C := Try.checked) own started (by kernel_rfl) Try.func10
    (ChangeSpec.witness6 (enc := enc) (C := Try.checked) false ⟨#[], #[.agg #[.slice none 0 0, .slice none 0 0, .int .i64 0, .int .i64 0, .int .i64 0, .slice none 0 0], .agg #[.int .i64 0, .int .i64 0, .int .i64 0]], []⟩ 8 (by kernel_rfl) (by kernel_rfl) (by kernel_rfl) (by kernel_rfl)) ?_
  intro W base args ds gs before hval0 hW hcnd hsz0 _
  have hval : ∀ (j : Nat) t v, Try.f10.params[j]? = some t → args[j]? = some v → Value.okWide Try.prog W .any base t v := hval0
  have hW' := hW
  obtain ⟨p, q, hA0, hV, rfl, hfz, hnd⟩ := hW
  have hA : DataW.TrodAll enc Try.prog W 0 (fun _ => true) true Try.f10.params.toList args.toList ds p := hA0
  rw [Try.params10] at hA hval
  obtain ⟨v0, vs0, d0, ds0, p0, q0, hargs, rfl, rfl, h0, r0⟩ := trodAll_cons hA
  obtain ⟨v1, vs1, d1, ds1, p1, q1, rfl, rfl, rfl, h1, r1⟩ := trodAll_cons r0
  obtain ⟨rfl, rfl, rfl⟩ := trodAll_nil r1
  obtain rfl : args = #[v0, v1] := by cases args; simp_all
  obtain ⟨rfl, rfl⟩ := trodVars_none hV
  obtain ⟨cs0, rfl⟩ := Opn.okWide_agg Try.underlying27 (hval 0 27 v0 rfl rfl)
  have k0 := h0
  have lt0 : ∀ x ∈ p0, x.block < W.heap.size := by obtain ⟨m, hm⟩ := k0; exact DataW.trod_lt m _ _ _ hm
  obtain ⟨x0, hK0, g0⟩ : ∃ x, k27.K W x (Value.agg cs0).cells.toList ∧ good27 x := by obtain ⟨fuel, hf⟩ := h0; exact opens27 W H enc fuel _ _ hf
  obtain ⟨A0_0, c0_0, A0_1, c0_1, A0_5, c0_5, e0, hc0_0, hr0_0, hc0_1, hr0_1, hc0_5, hr0_5⟩ := k27_open hK0
  obtain rfl := Opn.arr_of_list e0
  obtain ⟨cs1, rfl⟩ := Opn.okWide_agg Try.underlying24 (hval 1 24 v1 rfl rfl)
  have k1 := h1
  have lt1 : ∀ x ∈ p1, x.block < W.heap.size := by obtain ⟨m, hm⟩ := k1; exact DataW.trod_lt m _ _ _ hm
  obtain ⟨x1, hK1, g1⟩ : ∃ x, k24.K W x (Value.agg cs1).cells.toList ∧ good24 x := by obtain ⟨fuel, hf⟩ := h1; exact opens24 W H enc fuel _ _ hf
  have e1 := k24_open hK1
  obtain rfl := Opn.arr_of_list e1
  clear hA0 hval0 hsz0
  obtain ⟨k, hp⟩ := Pure.FnExactPutRecord x0 x1 g0 g1
  refine (laws_FnExactPutRecord.calls k _ _ x0.f0 _ _ x0.f1 x0.f2.f0 x0.f2.f1 x0.f2.f2 _ _ x0.f3 x1.f0 x1.f1 x1.f2 true W hr0_0 hc0_0 hr0_1 hc0_1 hr0_5 hc0_5 hp).mono fun e W' ⟨he, bel0⟩ => ?_
  have bel : Below W.heap.size W W' := bel0
  subst he
  exact ⟨_, rfl, _, _, _, [], _, [], hW', trodAll_mk1 (shut_bool Try.underlying4 _), (trodAll_cons_mk (Below.trod laidOut (by kernel_rfl) (of_decide_eq_true (by kernel_rfl)) k0 bel lt0) (trodAll_cons_mk (Below.trod laidOut (by kernel_rfl) (of_decide_eq_true (by kernel_rfl)) k1 bel lt1) trodAll_mk0)), rfl, bel.frame _, fun h => by cases h⟩
theorem over : Rows.fnExactPutRecordRow.holds Try.pinned (OpenSpec.ofChange Rows.fnExactPutRecordSpec) :=
  OpenClaim.holds_of_wide 10 Try.f10 rfl rfl rfl rfl rfl rfl rfl ⟨rfl, rfl, rfl, rfl, rfl⟩ rfl rfl rfl rfl rfl (by kernel_rfl) Try.func10 (by kernel_rfl)
    (of_decide_eq_true (by kernel_rfl)) (by unfold Func.isWrapper; first | (rw [if_pos (by decide +kernel)]; kernel_rfl) | (rw [if_neg (by decide +kernel)]; exact ⟨rfl, rfl⟩))
    (fun os started H enc _ => lifted os started H enc)
theorem proved : Rows.FnExactPutRecordSaid := over
#print axioms proved
end Go.Proofs.Ytogilihkphjjbaa.fnExactPutRecord
namespace Go.Proofs.Ytogilihkphjjbaa
/-- The row, under a short name, for the claim. -/
theorem fnExactPutRecord_holds : Rows.FnExactPutRecordSaid := fnExactPutRecord.proved
end Go.Proofs.Ytogilihkphjjbaa
