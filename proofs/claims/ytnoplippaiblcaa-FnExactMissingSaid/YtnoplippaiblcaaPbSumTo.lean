/- Sums of blocks and manifests: the laws' copies of them. No condition beyond the size that the laws ask. -/
import Derived.Test.YtnoplippaiblcaaQ2
import Derived.Test.YtnoplippaiblcaaQ8
import Derived.Test.YtnoplippaiblcaaPb
import Derived.Test.YtnoplippaiblcaaTyp
namespace Go.Proofs.Ytnoplippaiblcaa.Pb
open Go.RowKit Go.Proofs.Ytnoplippaiblcaa Go.Proofs.Ytnoplippaiblcaa.Q Go.Proofs.YtnoplippaiblcaaW.PrintWords Go.Proofs.YtnoplippaiblcaaW.PrintLast
set_option linter.unusedVariables false
set_option linter.unusedSimpArgs false

/-- The program's own sum out of the laws' one. -/
def sumOf_ (x : S86) : S72 := ⟨x.f0, x.f1⟩
theorem szSumS_eq (l : List S86) (a : Int) (hl : l.length ≤ 9223372036854775807) (h0 : 0 ≤ a) (h1 : a ≤ 1048576) : laws_szSumS.f l a = some (if a < (l.length : Int) then (-1 : Int) else a - (l.length : Int)) := by
  unfold laws_szSumS.f
  rw [w64 (by omega) (by omega)]
  by_cases h : a < l.length
  · rw [if_pos (by omega), if_pos h]
  · rw [if_neg (by omega), if_neg h]
theorem szManifest_eq (b c d : Int) (l : List S86) (a : Int) (hl : l.length ≤ 9223372036854775807) (h0 : 0 ≤ a) (h1 : a ≤ 1048576) : laws_szManifest.f b c d l a = some (if a < (l.length : Int) then (-1 : Int) else a - (l.length : Int)) := by
  unfold laws_szManifest.f
  rw [szSumS_eq l a hl h0 h1]
  simp only [Option.bind_some]
  by_cases h : a < (l.length : Int)
  · rw [if_pos h]; rfl
  · rw [if_neg h, if_neg (by omega)]
theorem toSumS_ev (l : List S86) (hl : l.length ≤ 1048576) : Ev (fun k => laws_toSumS.f k l) (l.map sumOf_) := by
  unfold laws_toSumS.f
  refine ev_pos (by omega) (ev_pos (by simp; omega) ?_)
  refine loop_up (fun k s i => laws_toSumS.l0 k l s i) l.length (fun i (s : List S72) => s.set i (sumOf_ (l.getD i z86))) (fun _ s => s.length = l.length) _ _ (by simp) (fun i s _ h => by simpa using h) ?_ ?_
  · intro i s r hi hs h
    refine Ev.step (fun k => rfl) ?_
    refine ev_pos (by omega) (ev_pos (by omega) ?_)
    refine ev_then rfl ?_
    refine ev_pos (by omega) ?_
    rw [w64 (by omega) (by omega)]
    exact h
  · intro hs
    refine Ev.step (fun k => rfl) ?_
    refine ev_neg (by omega) (ev_eq ev_some ?_)
    rw [iter_set l.length (fun i => sumOf_ (l.getD i z86)) _ (by simp)]
    exact map_range_get l _ sumOf_
theorem toManifest_ev (a b c : Int) (l : List S86) (hl : l.length ≤ 1048576) : Ev (fun k => laws_toManifest.f k a b c l) (a, b, c, l.map sumOf_) := by
  unfold laws_toManifest.f
  exact Ev.bind (toSumS_ev l hl) ev_some
end Go.Proofs.Ytnoplippaiblcaa.Pb
