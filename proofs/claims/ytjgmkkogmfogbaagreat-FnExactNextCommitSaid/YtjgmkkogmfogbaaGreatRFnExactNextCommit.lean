/- The statement of FnExactNextCommit over plain numbers and lists, and the row behind it. Written by a program of this seat. -/
import Derived.Test.YtjgmkkogmfogbaaGreatRows
import Derived.Test.YtjgmkkogmfogbaaGreatQ45
import Derived.Test.YtjgmkkogmfogbaaGreatTyp
import Derived.Test.YtjgmkkogmfogbaaGreatPureFnExactNextCommit
import Derived.WalkKit
import Derived.ProofKit
import Derived.OpenShut
import Derived.ShutString
import Derived.ChangeOld
import Derived.Below
import Derived.SizedLaws
namespace Go.Proofs.YtjgmkkogmfogbaaGreat.fnExactNextCommit
open Go.ChangeShapes Go.WideShapes Go.ChangeAt Go.RowKit Go.Proofs.YtjgmkkogmfogbaaGreat Go.Proofs.YtjgmkkogmfogbaaGreat.Q Go.Proofs.YtjgmkkogmfogbaaGreatW.PrintWords
open Go.ChangeMaps (open_string shut_string)
set_option linter.unusedVariables false
theorem own : ownKnob Tryz.prog.godebug = none := by kernel_rfl
theorem laidOut : laidOutB Tryz.prog = true := by kernel_rfl
set_option maxRecDepth 100000 in
theorem lifted (os : Os) (started : os.Started) (H : Type) (enc : TypeId × Value → H) :
    ReturnsInHanded {} Tryz.checked os 3 .any (Rows.fnExactNextCommitSpec.pre6 enc Tryz.prog Tryz.f3 Rows.fnExactNextCommitRow.domain false) (Rows.fnExactNextCommitSpec.post enc Tryz.prog Tryz.f3 false true false false) := by
  refine returnsInHanded_of_change_sized (C := Tryz.checked) own started (by kernel_rfl) Tryz.func3
    (ChangeSpec.witness6 (enc := enc) (C := Tryz.checked) false ⟨#[], #[.agg #[.slice none 0 0, .slice none 0 0, .int .i64 0, .int .i64 0, .int .i64 0, .slice none 0 0], .agg #[.int .i64 0, .int .i64 0, .int .i64 0, .slice none 0 0], .agg #[.int .i64 0, .slice none 0 0], .int .i64 0], []⟩ 8 (by kernel_rfl) (by kernel_rfl) (by kernel_rfl) (by kernel_rfl)) ?_
  intro W base args ds gs before hval0 hW hcnd hsz0 _
  have hval : ∀ (j : Nat) t v, Tryz.f3.params[j]? = some t → args[j]? = some v → Value.okWide Tryz.prog W .any base t v := hval0
  have hW' := hW
  obtain ⟨p, q, hA0, hV, rfl, hfz, hnd⟩ := hW
  have hA : DataW.TrodAll enc Tryz.prog W 0 (fun _ => true) true Tryz.f3.params.toList args.toList ds p := hA0
  rw [Tryz.params3] at hA hval
  obtain ⟨v0, vs0, d0, ds0, p0, q0, hargs, rfl, rfl, h0, r0⟩ := trodAll_cons hA
  obtain ⟨v1, vs1, d1, ds1, p1, q1, rfl, rfl, rfl, h1, r1⟩ := trodAll_cons r0
  obtain ⟨v2, vs2, d2, ds2, p2, q2, rfl, rfl, rfl, h2, r2⟩ := trodAll_cons r1
  obtain ⟨v3, vs3, d3, ds3, p3, q3, rfl, rfl, rfl, h3, r3⟩ := trodAll_cons r2
  obtain ⟨rfl, rfl, rfl⟩ := trodAll_nil r3
  obtain rfl : args = #[v0, v1, v2, v3] := by cases args; simp_all
  obtain ⟨rfl, rfl⟩ := trodVars_none hV
  obtain ⟨cs0, rfl⟩ := Opn.okWide_agg Tryz.underlying27 (hval 0 27 v0 rfl rfl)
  have k0 := h0
  have lt0 : ∀ x ∈ p0, x.block < W.heap.size := by obtain ⟨m, hm⟩ := k0; exact DataW.trod_lt m _ _ _ hm
  obtain ⟨x0, hK0, g0⟩ : ∃ x, k27.K W x (Value.agg cs0).cells.toList ∧ good27 x := by obtain ⟨fuel, hf⟩ := h0; exact opens27 W H enc fuel _ _ hf
  obtain ⟨A0_0, c0_0, A0_1, c0_1, A0_5, c0_5, e0, hc0_0, hr0_0, hc0_1, hr0_1, hc0_5, hr0_5⟩ := k27_open hK0
  obtain rfl := Opn.arr_of_list e0
  obtain ⟨cs1, rfl⟩ := Opn.okWide_agg Tryz.underlying30 (hval 1 30 v1 rfl rfl)
  have k1 := h1
  have lt1 : ∀ x ∈ p1, x.block < W.heap.size := by obtain ⟨m, hm⟩ := k1; exact DataW.trod_lt m _ _ _ hm
  obtain ⟨x1, hK1, g1⟩ : ∃ x, k30.K W x (Value.agg cs1).cells.toList ∧ good30 x := by obtain ⟨fuel, hf⟩ := h1; exact opens30 W H enc fuel _ _ hf
  obtain ⟨A1_3, c1_3, e1, hc1_3, hr1_3⟩ := k30_open hK1
  obtain rfl := Opn.arr_of_list e1
  obtain ⟨cs2, rfl⟩ := Opn.okWide_agg Tryz.underlying32 (hval 2 32 v2 rfl rfl)
  have k2 := h2
  have lt2 : ∀ x ∈ p2, x.block < W.heap.size := by obtain ⟨m, hm⟩ := k2; exact DataW.trod_lt m _ _ _ hm
  obtain ⟨x2, hK2, g2⟩ : ∃ x, k32.K W x (Value.agg cs2).cells.toList ∧ good32 x := by obtain ⟨fuel, hf⟩ := h2; exact opens32 W H enc fuel _ _ hf
  obtain ⟨A2_1, c2_1, e2, hc2_1, hr2_1⟩ := k32_open hK2
  obtain rfl := Opn.arr_of_list e2
  obtain ⟨x3, rfl, rfl, rfl, g3⟩ := open_int Tryz.underlying3 (hval 3 3 v3 rfl rfl) h3
  clear hA0 hval0 hsz0
  obtain ⟨k, hp⟩ := Pure.FnExactNextCommit x0 x1 x2 x3 g0 g1 g2 g3
  refine (laws_FnExactNextCommit.calls k _ _ x0.f0 _ _ x0.f1 x0.f2.f0 x0.f2.f1 x0.f2.f2 _ _ x0.f3 x1.f0 x1.f1 x1.f2 _ _ x1.f3 x2.f0 _ _ x2.f1 x3 true W hr0_0 hc0_0 hr0_1 hc0_1 hr0_5 hc0_5 hr1_3 hc1_3 hr2_1 hc2_1 hp).mono fun e W' ⟨he, bel0⟩ => ?_
  have bel : Below W.heap.size W W' := bel0
  subst he
  exact ⟨_, rfl, _, _, _, [], _, [], hW', trodAll_mk1 (shut_bool Tryz.underlying4 _), (trodAll_cons_mk (Below.trod laidOut (by kernel_rfl) (of_decide_eq_true (by kernel_rfl)) k0 bel lt0) (trodAll_cons_mk (Below.trod laidOut (by kernel_rfl) (of_decide_eq_true (by kernel_rfl)) k1 bel lt1) (trodAll_cons_mk (Below.trod laidOut (by kernel_rfl) (of_decide_eq_true (by kernel_rfl)) k2 bel lt2) (trodAll_cons_mk (shut_int Tryz.underlying3 g3) trodAll_mk0)))), rfl, bel.frame _, fun h => by cases h⟩
theorem over : Rows.fnExactNextCommitRow.holds Tryz.pinned (OpenSpec.ofChange Rows.fnExactNextCommitSpec) :=
  OpenClaim.holds_of_wide 3 Tryz.f3 rfl rfl rfl rfl rfl rfl rfl ⟨rfl, rfl, rfl, rfl, rfl⟩ rfl rfl rfl rfl rfl (by kernel_rfl) Tryz.func3 (by kernel_rfl)
    (of_decide_eq_true (by kernel_rfl)) (by unfold Func.isWrapper; first | (rw [if_pos (by decide +kernel)]; kernel_rfl) | (rw [if_neg (by decide +kernel)]; exact ⟨rfl, rfl⟩))
    (fun os started H enc _ => lifted os started H enc)
theorem proved : Rows.FnExactNextCommitSaid := over
#print axioms proved
end Go.Proofs.YtjgmkkogmfogbaaGreat.fnExactNextCommit
namespace Go.Proofs.YtjgmkkogmfogbaaGreat
/-- The row, under a short name, for the claim. -/
theorem fnExactNextCommit_holds : Rows.FnExactNextCommitSaid := fnExactNextCommit.proved
end Go.Proofs.YtjgmkkogmfogbaaGreat
