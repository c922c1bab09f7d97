/- Sums of blocks as plain lists: the laws' comparisons of them. No condition beyond the size that the laws ask. -/
import Derived.Test.YtnoplippaiblcaaQ13
import Derived.Test.YtnoplippaiblcaaQ14
import Derived.Test.YtnoplippaiblcaaPb
namespace Go.Proofs.Ytnoplippaiblcaa.Pb
open Go.RowKit Go.Proofs.Ytnoplippaiblcaa Go.Proofs.Ytnoplippaiblcaa.Q Go.Proofs.YtnoplippaiblcaaW.PrintWords Go.Proofs.YtnoplippaiblcaaW.PrintLast
set_option linter.unusedVariables false
set_option linter.unusedSimpArgs false

theorem eqSum_refl (a b : Int) : laws_eqSum.f a b a b = some true := by
  unfold laws_eqSum.f
  rw [if_pos rfl, if_pos rfl]
theorem eqSumS_refl (a : List S72) (ha : a.length ≤ 9223372036854775806) : Ev (fun k => laws_eqSumS.f k a a) true := by
  unfold laws_eqSumS.f
  refine ev_pos rfl ?_
  refine ev_eq (loop_all (fun k i => laws_eqSumS.l0 k a a i) a.length (fun _ => true) ?_ ?_ ?_) (by simp)
  · intro i r hi _ h
    refine Ev.step (fun k => rfl) ?_
    refine ev_pos (by omega) (ev_pos (by omega) (ev_pos (by omega) ?_))
    refine ev_then (eqSum_refl _ _) (ev_true ?_)
    rw [w64 (by omega) (by omega)]
    exact h
  · intro i hi hp
    cases hp
  · refine Ev.step (fun k => rfl) ?_
    exact ev_neg (by omega) ev_some
theorem eqManifest_refl (a b c : Int) (l : List S72) (hl : l.length ≤ 9223372036854775806) : Ev (fun k => laws_eqManifest.f k a b c l a b c l) true := by
  unfold laws_eqManifest.f
  exact ev_pos rfl (ev_pos rfl (ev_pos rfl (Ev.bind (eqSumS_refl l hl) (ev_true ev_some))))
end Go.Proofs.Ytnoplippaiblcaa.Pb
