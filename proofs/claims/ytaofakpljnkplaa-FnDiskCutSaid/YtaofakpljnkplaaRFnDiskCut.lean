/- The statement of FnDiskCut over plain numbers and lists, and the row behind it. Written by a program of this seat. -/
import Derived.Test.YtaofakpljnkplaaRows
import Derived.Test.YtaofakpljnkplaaQ37
import Derived.Test.YtaofakpljnkplaaTyp
import Derived.Test.YtaofakpljnkplaaPureFnDiskCut
import Derived.WalkKit
import Derived.ProofKit
import Derived.OpenShut
import Derived.ShutString
import Derived.ChangeOld
import Derived.Below
import Derived.SizedLaws
namespace Go.Proofs.Ytaofakpljnkplaa.fnDiskCut
open Go.ChangeShapes Go.WideShapes Go.ChangeAt Go.RowKit Go.Proofs.Ytaofakpljnkplaa Go.Proofs.Ytaofakpljnkplaa.Q Go.Proofs.YtaofakpljnkplaaW.PrintWords
open Go.ChangeMaps (open_string shut_string)
set_option linter.unusedVariables false
theorem own : ownKnob Try.prog.godebug = none := by kernel_rfl
theorem laidOut : laidOutB Try.prog = true := by kernel_rfl
set_option maxRecDepth 100000 in
theorem lifted (os : Os) (started : os.Started) (H : Type) (enc : TypeId × Value → H) :
    ReturnsInHanded {} Try.checked os 5 .any (Rows.fnDiskCutSpec.pre6 enc Try.prog Try.f5 Rows.fnDiskCutRow.domain false) (Rows.fnDiskCutSpec.post enc Try.prog Try.f5 false true false false) := by
  refine returnsInHanded_of_change_sized (C := Try.checked) own started (by kernel_rfl) Try.func5
    (ChangeSpec.witness6 (enc := enc) (C := Try.checked) false ⟨#[], #[.slice none 0 0], []⟩ 8 (by kernel_rfl) (by kernel_rfl) (by kernel_rfl) (by kernel_rfl)) ?_
  intro W base args ds gs before hval0 hW hcnd hsz0 _
  have hval : ∀ (j : Nat) t v, Try.f5.params[j]? = some t → args[j]? = some v → Value.okWide Try.prog W .any base t v := hval0
  have hW' := hW
  obtain ⟨p, q, hA0, hV, rfl, hfz, hnd⟩ := hW
  have hA : DataW.TrodAll enc Try.prog W 0 (fun _ => true) true Try.f5.params.toList args.toList ds p := hA0
  rw [Try.params5] at hA hval
  obtain ⟨v0, vs0, d0, ds0, p0, q0, hargs, rfl, rfl, h0, r0⟩ := trodAll_cons hA
  obtain ⟨rfl, rfl, rfl⟩ := trodAll_nil r0
  obtain rfl : args = #[v0] := by cases args; simp_all
  obtain ⟨rfl, rfl⟩ := trodVars_none hV
  obtain ⟨A0, n0, c0, rfl⟩ := okWide_slice Try.underlying22 (hval 0 22 v0 rfl rfl)
  have k0 := h0
  have lt0 : ∀ x ∈ p0, x.block < W.heap.size := by obtain ⟨m, hm⟩ := k0; exact DataW.trod_lt m _ _ _ hm
  obtain ⟨x0, hK0, g0⟩ : ∃ x, ((Kd.slice 5 (Kd.int .u8))).K W x [.slice A0 n0 c0] ∧ (Opn.Each (fun n : Int => (Lit.int .u8 n).wf = true)) x := by obtain ⟨fuel, hf⟩ := h0; exact (Opn.opens_slice Try.underlying22 (by kernel_rfl) (Opn.opens_int Try.underlying5)) H enc fuel _ _ hf
  obtain ⟨B0, e0, he0, hc0, hr0⟩ := Opn.slice_of_K hK0
  obtain ⟨rfl, rfl, rfl⟩ : A0 = B0 ∧ n0 = x0.length ∧ c0 = e0 := by simpa using he0
  clear hA0 hval0 hsz0
  obtain ⟨k, hp⟩ := Pure.FnDiskCut x0 g0
  refine (laws_FnDiskCut.calls k _ _ x0 true W hr0 hc0 hp).mono fun e W' ⟨he, bel0⟩ => ?_
  have bel : Below W.heap.size W W' := bel0
  subst he
  exact ⟨_, rfl, _, _, _, [], _, [], hW', trodAll_mk1 (shut_bool Try.underlying4 _), (trodAll_cons_mk (Below.trod laidOut (by kernel_rfl) (of_decide_eq_true (by kernel_rfl)) k0 bel lt0) trodAll_mk0), rfl, bel.frame _, fun h => by cases h⟩
theorem over : Rows.fnDiskCutRow.holds Try.pinned (OpenSpec.ofChange Rows.fnDiskCutSpec) :=
  OpenClaim.holds_of_wide 5 Try.f5 rfl rfl rfl rfl rfl rfl rfl ⟨rfl, rfl, rfl, rfl, rfl⟩ rfl rfl rfl rfl rfl (by kernel_rfl) Try.func5 (by kernel_rfl)
    (of_decide_eq_true (by kernel_rfl)) (by unfold Func.isWrapper; first | (rw [if_pos (by decide +kernel)]; kernel_rfl) | (rw [if_neg (by decide +kernel)]; exact ⟨rfl, rfl⟩))
    (fun os started H enc _ => lifted os started H enc)
theorem proved : Rows.FnDiskCutSaid := over
#print axioms proved
end Go.Proofs.Ytaofakpljnkplaa.fnDiskCut
namespace Go.Proofs.Ytaofakpljnkplaa
/-- The row, under a short name, for the claim. -/
theorem fnDiskCut_holds : Rows.FnDiskCutSaid := fnDiskCut.proved
end Go.Proofs.Ytaofakpljnkplaa
