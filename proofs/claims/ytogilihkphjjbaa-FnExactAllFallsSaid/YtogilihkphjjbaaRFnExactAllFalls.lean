/- The statement of FnExactAllFalls over plain numbers and lists, and the row behind it. Written by a program of this seat. -/
import Derived.Test.YtogilihkphjjbaaRows
import Derived.Test.YtogilihkphjjbaaQ60
import Derived.Test.YtogilihkphjjbaaTyp
import Derived.Test.YtogilihkphjjbaaPureFnExactAllFalls
import Derived.WalkKit
import Derived.ProofKit
import Derived.OpenShut
import Derived.ShutString
import Derived.ChangeOld
import Derived.Below
import Derived.SizedLaws
namespace Go.Proofs.Ytogilihkphjjbaa.fnExactAllFalls
open Go.ChangeShapes Go.WideShapes Go.ChangeAt Go.RowKit Go.Proofs.Ytogilihkphjjbaa Go.Proofs.Ytogilihkphjjbaa.Q Go.Proofs.YtogilihkphjjbaaW.PrintWords
open Go.ChangeMaps (open_string shut_string)
set_option linter.unusedVariables false
theorem own : ownKnob Try.prog.godebug = none := by kernel_rfl
theorem laidOut : laidOutB Try.prog = true := by kernel_rfl
set_option maxRecDepth 100000 in
theorem lifted (os : Os) (started : os.Started) (H : Type) (enc : TypeId × Value → H) :
    ReturnsInHanded {} Try.checked os 14 .any (Rows.fnExactAllFallsSpec.pre6 enc Try.prog Try.f14 Rows.fnExactAllFallsRow.domain false) (Rows.fnExactAllFallsSpec.post enc Try.prog Try.f14 false true false false) := by
  refine returnsInHanded_of_change_sized (C := Try.checked) own started (by kernel_rfl) Try.func14
    (ChangeSpec.witness6 (enc := enc) (C := Try.checked) false ⟨#[], #[.agg #[.slice none 0 0, .slice none 0 0, .int .i64 0, .int .i64 0, .int .i64 0, .slice none 0 0]], []⟩ 8 (by kernel_rfl) (by kernel_rfl) (by kernel_rfl) (by kernel_rfl)) ?_
  intro W base args ds gs before hval0 hW hcnd hsz0 _
  have hval : ∀ (j : Nat) t v, Try.f14.params[j]? = some t → args[j]? = some v → Value.okWide Try.prog W .any base t v := hval0
  have hW' := hW
  obtain ⟨p, q, hA0, hV, rfl, hfz, hnd⟩ := hW
  have hA : DataW.TrodAll enc Try.prog W 0 (fun _ => true) true Try.f14.params.toList args.toList ds p := hA0
  rw [Try.params14] at hA hval
  obtain ⟨v0, vs0, d0, ds0, p0, q0, hargs, rfl, rfl, h0, r0⟩ := trodAll_cons hA
  obtain ⟨rfl, rfl, rfl⟩ := trodAll_nil r0
  obtain rfl : args = #[v0] := by cases args; simp_all
  obtain ⟨rfl, rfl⟩ := trodVars_none hV
  obtain ⟨cs0, rfl⟩ := Opn.okWide_agg Try.underlying27 (hval 0 27 v0 rfl rfl)
  have k0 := h0
  have lt0 : ∀ x ∈ p0, x.block < W.heap.size := by obtain ⟨m, hm⟩ := k0; exact DataW.trod_lt m _ _ _ hm
  obtain ⟨x0, hK0, g0⟩ : ∃ x, k27.K W x (Value.agg cs0).cells.toList ∧ good27 x := by obtain ⟨fuel, hf⟩ := h0; exact opens27 W H enc fuel _ _ hf
  obtain ⟨A0_0, c0_0, A0_1, c0_1, A0_5, c0_5, e0, hc0_0, hr0_0, hc0_1, hr0_1, hc0_5, hr0_5⟩ := k27_open hK0
  obtain rfl := Opn.arr_of_list e0
  clear hA0 hval0 hsz0
  obtain ⟨k, hp⟩ := Pure.FnExactAllFalls x0 g0
  refine (laws_FnExactAllFalls.calls k _ _ x0.f0 _ _ x0.f1 x0.f2.f0 x0.f2.f1 x0.f2.f2 _ _ x0.f3 true W hr0_0 hc0_0 hr0_1 hc0_1 hr0_5 hc0_5 hp).mono fun e W' ⟨he, bel0⟩ => ?_
  have bel : Below W.heap.size W W' := bel0
  subst he
  exact ⟨_, rfl, _, _, _, [], _, [], hW', trodAll_mk1 (shut_bool Try.underlying4 _), (trodAll_cons_mk (Below.trod laidOut (by kernel_rfl) (of_decide_eq_true (by kernel_rfl)) k0 bel lt0) trodAll_mk0), rfl, bel.frame _, fun h => by cases h⟩
theorem over : Rows.fnExactAllFallsRow.holds Try.pinned (OpenSpec.ofChange Rows.fnExactAllFallsSpec) :=
  OpenClaim.holds_of_wide 14 Try.f14 rfl rfl rfl rfl rfl rfl rfl ⟨rfl, rfl, rfl, rfl, rfl⟩ rfl rfl rfl rfl rfl (by kernel_rfl) Try.func14 (by kernel_rfl)
    (of_decide_eq_true (by kernel_rfl)) (by unfold Func.isWrapper; first | (rw [if_pos (by decide +kernel)]; kernel_rfl) | (rw [if_neg (by decide +kernel)]; exact ⟨rfl, rfl⟩))
    (fun os started H enc _ => lifted os started H enc)
theorem proved : Rows.FnExactAllFallsSaid := over
#print axioms proved
end Go.Proofs.Ytogilihkphjjbaa.fnExactAllFalls
namespace Go.Proofs.Ytogilihkphjjbaa
/-- The row, under a short name, for the claim. -/
theorem fnExactAllFalls_holds : Rows.FnExactAllFallsSaid := fnExactAllFalls.proved
end Go.Proofs.Ytogilihkphjjbaa
