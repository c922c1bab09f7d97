/- The program's Missing returns what the reference's returns, for every manifest and every build, and leaves them. No further condition. -/
import Derived.Test.YtnoplippaiblcaaQ17
import Derived.Test.YtnoplippaiblcaaPbMissing
import Derived.Test.YtnoplippaiblcaaPbBuild
import Derived.Test.YtnoplippaiblcaaPbSum
import Derived.Test.YtnoplippaiblcaaPbSumTo
namespace Go.Proofs.Ytnoplippaiblcaa.Pure
open Go.RowKit Go.Proofs.Ytnoplippaiblcaa Go.Proofs.Ytnoplippaiblcaa.Q Go.Proofs.Ytnoplippaiblcaa.Pb Go.Proofs.YtnoplippaiblcaaW.PrintWords Go.Proofs.YtnoplippaiblcaaW.PrintLast
set_option linter.unusedVariables false
set_option linter.unusedSimpArgs false

theorem FnExactMissing : ∀ (x0 : S24) (x1 : S27), good24 x0 → good27 x1 → ∃ k, laws_FnExactMissing.f k x0.f0 x0.f1 x0.f2 x0.f3 x1.f0 x1.f1 = some true := by
  intro x0 x1 g0 g1
  refine Ev.rounds ?_
  unfold laws_FnExactMissing.f
  rw [szManifest_eq _ _ _ _ 1048576 g0.2.2.2.1 (by omega) (by omega)]
  refine Ev.bind ev_some (ev_if (fun _ => ev_some) (fun h => ?_))
  have hb : (x0.f3.length : Int) ≤ 1048576 := by split at h <;> omega
  rw [if_neg (by omega)]
  rw [szBuild_eq _ _ _ g1.2.1 (by omega) (by omega)]
  refine Ev.bind ev_some (ev_if (fun _ => ev_some) (fun h' => ?_))
  have hc : (x1.f1.length : Int) ≤ 1048576 := by split at h' <;> omega
  clear h h'
  have m0 := toManifest_ev x0.f0 x0.f1 x0.f2 x0.f3 (by omega)
  have m1 := toBuild_ev x1.f0 x1.f1 (by omega)
  refine Ev.bind m0 (Ev.bind m1 (ev_then (specMissing_eq _ _ _ _ _ _) ?_))
  refine Ev.bind m0 (Ev.bind m1 (ev_then (implMissing_eq _ _ _ _ _ _) (ev_pos rfl ?_)))
  refine Ev.bind m0 (Ev.bind (eqManifest_refl _ _ _ _ (by simp; omega)) (ev_true ?_))
  exact Ev.bind m1 (Ev.bind (eqBuild_refl _ _ (by simp only; omega)) (ev_true ev_some))
end Go.Proofs.Ytnoplippaiblcaa.Pure
