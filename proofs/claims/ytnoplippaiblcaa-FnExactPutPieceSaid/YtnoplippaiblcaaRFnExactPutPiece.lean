/- The statement of FnExactPutPiece over plain numbers and lists, and the row behind it. Written by a program of this seat. -/
import Derived.Test.YtnoplippaiblcaaRows
import Derived.Test.YtnoplippaiblcaaQ49
import Derived.Test.YtnoplippaiblcaaTyp
import Derived.Test.YtnoplippaiblcaaPureFnExactPutPiece
import Derived.WalkKit
import Derived.ProofKit
import Derived.OpenShut
import Derived.ShutString
import Derived.ChangeOld
import Derived.Below
import Derived.SizedLaws
namespace Go.Proofs.Ytnoplippaiblcaa.fnExactPutPiece
open Go.ChangeShapes Go.WideShapes Go.ChangeAt Go.RowKit Go.Proofs.Ytnoplippaiblcaa Go.Proofs.Ytnoplippaiblcaa.Q Go.Proofs.YtnoplippaiblcaaW.PrintWords
open Go.ChangeMaps (open_string shut_string)
set_option linter.unusedVariables false
theorem own : ownKnob Try.prog.godebug = none := by kernel_rfl
theorem laidOut : laidOutB Try.prog = true := by kernel_rfl
set_option maxRecDepth 100000 in
theorem lifted (os : Os) (started : os.Started) (H : Type) (enc : TypeId × Value → H) :
    ReturnsInHanded {} Try.checked os 9 .any (Rows.fnExactPutPieceSpec.pre6 enc Try.prog Try.f9 Rows.fnExactPutPieceRow.domain false) (Rows.fnExactPutPieceSpec.post enc Try.prog Try.f9 false true false false) := by
  refine returnsInHanded_of_change_sized (C := Try.checked) own started (by kernel_rfl) Try.func9
    (ChangeSpec.witness6 (enc := enc) (C := Try.checked) false ⟨#[], #[.agg #[.int .i64 0, .int .i64 0, .int .i64 0, .slice none 0 0], .agg #[.int .i64 0, .slice none 0 0], .int .i64 0, .slice none 0 0], []⟩ 8 (by kernel_rfl) (by kernel_rfl) (by kernel_rfl) (by kernel_rfl)) ?_
  intro W base args ds gs before hval0 hW hcnd hsz0 _
  have hval : ∀ (j : Nat) t v, Try.f9.params[j]? = some t → args[j]? = some v → Value.okWide Try.prog W .any base t v := hval0
  have hW' := hW
  obtain ⟨p, q, hA0, hV, rfl, hfz, hnd⟩ := hW
  have hA : DataW.TrodAll enc Try.prog W 0 (fun _ => true) true Try.f9.params.toList args.toList ds p := hA0
  rw [Try.params9] at hA hval
  obtain ⟨v0, vs0, d0, ds0, p0, q0, hargs, rfl, rfl, h0, r0⟩ := trodAll_cons hA
  obtain ⟨v1, vs1, d1, ds1, p1, q1, rfl, rfl, rfl, h1, r1⟩ := trodAll_cons r0
  obtain ⟨v2, vs2, d2, ds2, p2, q2, rfl, rfl, rfl, h2, r2⟩ := trodAll_cons r1
  obtain ⟨v3, vs3, d3, ds3, p3, q3, rfl, rfl, rfl, h3, r3⟩ := trodAll_cons r2
  obtain ⟨rfl, rfl, rfl⟩ := trodAll_nil r3
  obtain rfl : args = #[v0, v1, v2, v3] := by cases args; simp_all
  obtain ⟨rfl, rfl⟩ := trodVars_none hV
  obtain ⟨cs0, rfl⟩ := Opn.okWide_agg Try.underlying24 (hval 0 24 v0 rfl rfl)
  have k0 := h0
  have lt0 : ∀ x ∈ p0, x.block < W.heap.size := by obtain ⟨m, hm⟩ := k0; exact DataW.trod_lt m _ _ _ hm
  obtain ⟨x0, hK0, g0⟩ : ∃ x, k24.K W x (Value.agg cs0).cells.toList ∧ good24 x := by obtain ⟨fuel, hf⟩ := h0; exact opens24 W H enc fuel _ _ hf
  obtain ⟨A0_3, c0_3, e0, hc0_3, hr0_3⟩ := k24_open hK0
  obtain rfl := Opn.arr_of_list e0
  obtain ⟨cs1, rfl⟩ := Opn.okWide_agg Try.underlying27 (hval 1 27 v1 rfl rfl)
  have k1 := h1
  have lt1 : ∀ x ∈ p1, x.block < W.heap.size := by obtain ⟨m, hm⟩ := k1; exact DataW.trod_lt m _ _ _ hm
  obtain ⟨x1, hK1, g1⟩ : ∃ x, k27.K W x (Value.agg cs1).cells.toList ∧ good27 x := by obtain ⟨fuel, hf⟩ := h1; exact opens27 W H enc fuel _ _ hf
  obtain ⟨A1_1, c1_1, e1, hc1_1, hr1_1⟩ := k27_open hK1
  obtain rfl := Opn.arr_of_list e1
  obtain ⟨x2, rfl, rfl, rfl, g2⟩ := open_int Try.underlying3 (hval 2 3 v2 rfl rfl) h2
  obtain ⟨A3, n3, c3, rfl⟩ := okWide_slice Try.underlying25 (hval 3 25 v3 rfl rfl)
  have k3 := h3
  have lt3 : ∀ x ∈ p3, x.block < W.heap.size := by obtain ⟨m, hm⟩ := k3; exact DataW.trod_lt m _ _ _ hm
  obtain ⟨x3, hK3, g3⟩ : ∃ x, ((Kd.slice 5 (Kd.int .u8))).K W x [.slice A3 n3 c3] ∧ (Opn.Each (fun n : Int => (Lit.int .u8 n).wf = true)) x := by obtain ⟨fuel, hf⟩ := h3; exact (Opn.opens_slice Try.underlying25 (by kernel_rfl) (Opn.opens_int Try.underlying5)) H enc fuel _ _ hf
  obtain ⟨B3, e3, he3, hc3, hr3⟩ := Opn.slice_of_K hK3
  obtain ⟨rfl, rfl, rfl⟩ : A3 = B3 ∧ n3 = x3.length ∧ c3 = e3 := by simpa using he3
  clear hA0 hval0 hsz0
  obtain ⟨k, hp⟩ := Pure.FnExactPutPiece x0 x1 x2 x3 g0 g1 g2 g3
  refine (laws_FnExactPutPiece.calls k x0.f0 x0.f1 x0.f2 _ _ x0.f3 x1.f0 _ _ x1.f1 x2 _ _ x3 true W hr0_3 hc0_3 hr1_1 hc1_1 hr3 hc3 hp).mono fun e W' ⟨he, bel0⟩ => ?_
  have bel : Below W.heap.size W W' := bel0
  subst he
  exact ⟨_, rfl, _, _, _, [], _, [], hW', trodAll_mk1 (shut_bool Try.underlying4 _), (trodAll_cons_mk (Below.trod laidOut (by kernel_rfl) (of_decide_eq_true (by kernel_rfl)) k0 bel lt0) (trodAll_cons_mk (Below.trod laidOut (by kernel_rfl) (of_decide_eq_true (by kernel_rfl)) k1 bel lt1) (trodAll_cons_mk (shut_int Try.underlying3 g2) (trodAll_cons_mk (Below.trod laidOut (by kernel_rfl) (of_decide_eq_true (by kernel_rfl)) k3 bel lt3) trodAll_mk0)))), rfl, bel.frame _, fun h => by cases h⟩
theorem over : Rows.fnExactPutPieceRow.holds Try.pinned (OpenSpec.ofChange Rows.fnExactPutPieceSpec) :=
  OpenClaim.holds_of_wide 9 Try.f9 rfl rfl rfl rfl rfl rfl rfl ⟨rfl, rfl, rfl, rfl, rfl⟩ rfl rfl rfl rfl rfl (by kernel_rfl) Try.func9 (by kernel_rfl)
    (of_decide_eq_true (by kernel_rfl)) (by unfold Func.isWrapper; first | (rw [if_pos (by decide +kernel)]; kernel_rfl) | (rw [if_neg (by decide +kernel)]; exact ⟨rfl, rfl⟩))
    (fun os started H enc _ => lifted os started H enc)
theorem proved : Rows.FnExactPutPieceSaid := over
#print axioms proved
end Go.Proofs.Ytnoplippaiblcaa.fnExactPutPiece
namespace Go.Proofs.Ytnoplippaiblcaa
/-- The row, under a short name, for the claim. -/
theorem fnExactPutPiece_holds : Rows.FnExactPutPieceSaid := fnExactPutPiece.proved
end Go.Proofs.Ytnoplippaiblcaa
