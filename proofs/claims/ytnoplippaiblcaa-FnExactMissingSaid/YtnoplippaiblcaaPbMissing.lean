/- What a build still lacks: sets of blocks, with one another taken away. No condition. -/
import Derived.Test.YtnoplippaiblcaaQ12
import Derived.Test.YtnoplippaiblcaaQ7
import Derived.Test.YtnoplippaiblcaaPbSet
namespace Go.Proofs.Ytnoplippaiblcaa.Pb
open Go.RowKit Go.Proofs.Ytnoplippaiblcaa Go.Proofs.Ytnoplippaiblcaa.Q Go.Proofs.YtnoplippaiblcaaW.PrintWords Go.Proofs.YtnoplippaiblcaaW.PrintLast
set_option linter.unusedVariables false
set_option linter.unusedSimpArgs false

def fullSet (n : Int) : Int := if 0 ≤ n ∧ n ≤ 40 then wrap64 ((shl .i64 1 n) - 1) else 0
theorem specFullSet_eq (n : Int) : spec_FullSet.f n = some (fullSet n) := by
  unfold spec_FullSet.f fullSet
  rw [l1In_eq]
  simp only [Option.bind_some]
  by_cases h : 0 ≤ n ∧ n ≤ 40
  · rw [if_pos (by simpa using h), if_pos h.1, if_pos h]
  · rw [if_neg (by simpa using h), if_neg h]
theorem implFullSet_eq (n : Int) : impl_FullSet.f n = some (fullSet n) := by
  unfold impl_FullSet.f fullSet
  rw [within_eq]
  simp only [Option.bind_some]
  by_cases h : 0 ≤ n ∧ n ≤ 40
  · rw [if_pos (by simpa using h), if_pos h.1, if_pos h]
  · rw [if_neg (by simpa using h), if_neg h]
def without (a b : Int) : Int := if setOk a = true then (if setOk b = true then Go.bits .andNot .i64 a b else 0) else 0
theorem specWithout_eq (a b : Int) : spec_Without.f a b = some (without a b) := by
  unfold spec_Without.f without
  rw [specSetOk_eq, specSetOk_eq]
  simp only [Option.bind_some]
  by_cases h : setOk a = true
  · rw [if_pos h, if_pos h]
    by_cases h' : setOk b = true
    · rw [if_pos h', if_pos h']
    · rw [if_neg h', if_neg h']
  · rw [if_neg h, if_neg h]
theorem implWithout_eq (a b : Int) : impl_Without.f a b = some (without a b) := by
  unfold impl_Without.f without
  rw [implSetOk_eq, implSetOk_eq]
  simp only [Option.bind_some]
  by_cases h : setOk a = true
  · rw [if_pos h, if_pos h]
    by_cases h' : setOk b = true
    · rw [if_pos h', if_pos h']
    · rw [if_neg h', if_neg h']
  · rw [if_neg h, if_neg h]
def missing (l : List S72) (h : Int) : Int := without (fullSet l.length) h
theorem specMissing_eq (a b c : Int) (l : List S72) (h : Int) (m : List Int) : spec_Missing.f a b c l h m = some (missing l h) := by
  unfold spec_Missing.f spec_AllParts.f missing
  rw [specFullSet_eq]
  simp only [Option.bind_some]
  rw [specWithout_eq]
  rfl
theorem implMissing_eq (a b c : Int) (l : List S72) (h : Int) (m : List Int) : impl_Missing.f a b c l h m = some (missing l h) := by
  unfold impl_Missing.f impl_AllParts.f missing
  rw [implFullSet_eq]
  simp only [Option.bind_some]
  rw [implWithout_eq]
  rfl
end Go.Proofs.Ytnoplippaiblcaa.Pb
