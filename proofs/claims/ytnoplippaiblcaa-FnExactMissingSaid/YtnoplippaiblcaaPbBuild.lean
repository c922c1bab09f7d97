/- Builds: the laws' copies of them, and the size that they ask. No condition beyond that size. -/
import Derived.Test.YtnoplippaiblcaaQ16
import Derived.Test.YtnoplippaiblcaaQ3
import Derived.Test.YtnoplippaiblcaaQ6
import Derived.Test.YtnoplippaiblcaaPbByte
namespace Go.Proofs.Ytnoplippaiblcaa.Pb
open Go.RowKit Go.Proofs.Ytnoplippaiblcaa Go.Proofs.Ytnoplippaiblcaa.Q Go.Proofs.YtnoplippaiblcaaW.PrintWords Go.Proofs.YtnoplippaiblcaaW.PrintLast
set_option linter.unusedVariables false
set_option linter.unusedSimpArgs false

theorem szBuild_eq (h : Int) (m : List Int) (a : Int) (hl : m.length ≤ 9223372036854775807) (h0 : 0 ≤ a) (h1 : a ≤ 1048576) : laws_szBuild.f h m a = some (if a < (m.length : Int) then (-1 : Int) else a - (m.length : Int)) := by
  unfold laws_szBuild.f laws_szByteS.f
  rw [w64 (by omega) (by omega)]
  by_cases r : a < (m.length : Int)
  · rw [if_pos r, if_pos (by omega)]
    simp only [Option.bind_some]
    rw [if_pos (by omega)]
  · rw [if_neg r, if_neg (by omega)]
    simp only [Option.bind_some]
    rw [if_neg (by omega)]
theorem toBuild_ev (h : Int) (m : List Int) (hl : m.length ≤ 1048576) : Ev (fun k => laws_toBuild.f k h m) (h, m) := by
  unfold laws_toBuild.f
  exact Ev.bind (toByteS_ev m hl) ev_some
theorem eqBuild_refl (h : Int) (m : List Int) (hl : m.length ≤ 9223372036854775806) : Ev (fun k => laws_eqBuild.f k h m h m) true := by
  unfold laws_eqBuild.f
  exact ev_pos rfl (Ev.bind (eqByteS_ev m m hl) (ev_pos (by simp) ev_some))
end Go.Proofs.Ytnoplippaiblcaa.Pb
