/- The statement of FnExactBuildFrom over plain numbers and lists, and the row behind it. Written by a program of this seat. -/
import Derived.Test.YtnoplippaiblcaaRows
import Derived.Test.YtnoplippaiblcaaQ52
import Derived.Test.YtnoplippaiblcaaTyp
import Derived.Test.YtnoplippaiblcaaPureFnExactBuildFrom
import Derived.WalkKit
import Derived.ProofKit
import Derived.OpenShut
import Derived.ShutString
import Derived.ChangeOld
import Derived.Below
import Derived.SizedLaws
namespace Go.Proofs.Ytnoplippaiblcaa.fnExactBuildFrom
open Go.ChangeShapes Go.WideShapes Go.ChangeAt Go.RowKit Go.Proofs.Ytnoplippaiblcaa Go.Proofs.Ytnoplippaiblcaa.Q Go.Proofs.YtnoplippaiblcaaW.PrintWords
open Go.ChangeMaps (open_string shut_string)
set_option linter.unusedVariables false
theorem own : ownKnob Try.prog.godebug = none := by kernel_rfl
theorem laidOut : laidOutB Try.prog = true := by kernel_rfl
set_option maxRecDepth 100000 in
theorem lifted (os : Os) (started : os.Started) (H : Type) (enc : TypeId × Value → H) :
    ReturnsInHanded {} Try.checked os 10 .any (Rows.fnExactBuildFromSpec.pre6 enc Try.prog Try.f10 Rows.fnExactBuildFromRow.domain false) (Rows.fnExactBuildFromSpec.post enc Try.prog Try.f10 false true false false) := by
  refine returnsInHanded_of_change_sized (C := Try.checked) own started (by kernel_rfl) Try.func10
    (ChangeSpec.witness6 (enc := enc) (C := Try.checked) false ⟨#[], #[.agg #[.int .i64 0, .int .i64 0, .int .i64 0, .slice none 0 0], .slice none 0 0], []⟩ 8 (by kernel_rfl) (by kernel_rfl) (by kernel_rfl) (by kernel_rfl)) ?_
  intro W base args ds gs before hval0 hW hcnd hsz0 _
  have hval : ∀ (j : Nat) t v, Try.f10.params[j]? = some t → args[j]? = some v → Value.okWide Try.prog W .any base t v := hval0
  have hW' := hW
  obtain ⟨p, q, hA0, hV, rfl, hfz, hnd⟩ := hW
  have hA : DataW.TrodAll enc Try.prog W 0 (fun _ => true) true Try.f10.params.toList args.toList ds p := hA0
  rw [Try.params10] at hA hval
  obtain ⟨v0, vs0, d0, ds0, p0, q0, hargs, rfl, rfl, h0, r0⟩ := trodAll_cons hA
  obtain ⟨v1, vs1, d1, ds1, p1, q1, rfl, rfl, rfl, h1, r1⟩ := trodAll_cons r0
  obtain ⟨rfl, rfl, rfl⟩ := trodAll_nil r1
  obtain rfl : args = #[v0, v1] := by cases args; simp_all
  obtain ⟨rfl, rfl⟩ := trodVars_none hV
  obtain ⟨cs0, rfl⟩ := Opn.okWide_agg Try.underlying24 (hval 0 24 v0 rfl rfl)
  have k0 := h0
  have lt0 : ∀ x ∈ p0, x.block < W.heap.size := by obtain ⟨m, hm⟩ := k0; exact DataW.trod_lt m _ _ _ hm
  obtain ⟨x0, hK0, g0⟩ : ∃ x, k24.K W x (Value.agg cs0).cells.toList ∧ good24 x := by obtain ⟨fuel, hf⟩ := h0; exact opens24 W H enc fuel _ _ hf
  obtain ⟨A0_3, c0_3, e0, hc0_3, hr0_3⟩ := k24_open hK0
  obtain rfl := Opn.arr_of_list e0
  obtain ⟨A1, n1, c1, rfl⟩ := okWide_slice Try.underlying25 (hval 1 25 v1 rfl rfl)
  have k1 := h1
  have lt1 : ∀ x ∈ p1, x.block < W.heap.size := by obtain ⟨m, hm⟩ := k1; exact DataW.trod_lt m _ _ _ hm
  obtain ⟨x1, hK1, g1⟩ : ∃ x, ((Kd.slice 5 (Kd.int .u8))).K W x [.slice A1 n1 c1] ∧ (Opn.Each (fun n : Int => (Lit.int .u8 n).wf = true)) x := by obtain ⟨fuel, hf⟩ := h1; exact (Opn.opens_slice Try.underlying25 (by kernel_rfl) (Opn.opens_int Try.underlying5)) H enc fuel _ _ hf
  obtain ⟨B1, e1, he1, hc1, hr1⟩ := Opn.slice_of_K hK1
  obtain ⟨rfl, rfl, rfl⟩ : A1 = B1 ∧ n1 = x1.length ∧ c1 = e1 := by simpa using he1
  clear hA0 hval0 hsz0
  obtain ⟨k, hp⟩ := Pure.FnExactBuildFrom x0 x1 g0 g1
  refine (laws_FnExactBuildFrom.calls k x0.f0 x0.f1 x0.f2 _ _ x0.f3 _ _ x1 true W hr0_3 hc0_3 hr1 hc1 hp).mono fun e W' ⟨he, bel0⟩ => ?_
  have bel : Below W.heap.size W W' := bel0
  subst he
  exact ⟨_, rfl, _, _, _, [], _, [], hW', trodAll_mk1 (shut_bool Try.underlying4 _), (trodAll_cons_mk (Below.trod laidOut (by kernel_rfl) (of_decide_eq_true (by kernel_rfl)) k0 bel lt0) (trodAll_cons_mk (Below.trod laidOut (by kernel_rfl) (of_decide_eq_true (by kernel_rfl)) k1 bel lt1) trodAll_mk0)), rfl, bel.frame _, fun h => by cases h⟩
theorem over : Rows.fnExactBuildFromRow.holds Try.pinned (OpenSpec.ofChange Rows.fnExactBuildFromSpec) :=
  OpenClaim.holds_of_wide 10 Try.f10 rfl rfl rfl rfl rfl rfl rfl ⟨rfl, rfl, rfl, rfl, rfl⟩ rfl rfl rfl rfl rfl (by kernel_rfl) Try.func10 (by kernel_rfl)
    (of_decide_eq_true (by kernel_rfl)) (by unfold Func.isWrapper; first | (rw [if_pos (by decide +kernel)]; kernel_rfl) | (rw [if_neg (by decide +kernel)]; exact ⟨rfl, rfl⟩))
    (fun os started H enc _ => lifted os started H enc)
theorem proved : Rows.FnExactBuildFromSaid := over
#print axioms proved
end Go.Proofs.Ytnoplippaiblcaa.fnExactBuildFrom
namespace Go.Proofs.Ytnoplippaiblcaa
/-- The row, under a short name, for the claim. -/
theorem fnExactBuildFrom_holds : Rows.FnExactBuildFromSaid := fnExactBuildFrom.proved
end Go.Proofs.Ytnoplippaiblcaa
