/- The program's PhName returns what the reference's returns, for every whole number that an int holds. No further condition. -/
import Derived.Test.YtodedajpbmogcaaPFnExactPhNamex1
namespace Go.Proofs.Ytodedajpbmogcaa.Pure
set_option linter.unusedSimpArgs false
open Go.RowKit Go.Proofs.Ytodedajpbmogcaa.PFnExactPhName Go.Proofs.YtodedajpbmogcaaW.PrintWords Go.Proofs.YtodedajpbmogcaaW.PrintLast

/-- A test of a closed interval: what both programs ask first. -/
theorem in_yes {a lo hi : Int} (h1 : lo ≤ a) (h2 : a ≤ hi) : spec_l1In.f a lo hi = some true ∧ impl_within.f a lo hi = some true := by
  unfold spec_l1In.f impl_within.f
  rw [if_pos h1, decide_eq_true h2]
  exact ⟨rfl, rfl⟩

theorem in_no {a lo hi : Int} (h : ¬ (lo ≤ a ∧ a ≤ hi)) : spec_l1In.f a lo hi = some false ∧ impl_within.f a lo hi = some false := by
  unfold spec_l1In.f impl_within.f
  by_cases h1 : lo ≤ a
  · have h2 : ¬ a ≤ hi := fun h2 => h ⟨h1, h2⟩
    rw [if_pos h1, decide_eq_false h2]
    exact ⟨rfl, rfl⟩
  · rw [if_neg h1]
    exact ⟨rfl, rfl⟩

theorem FnExactPhName : laws_FnExactPhName.Pure := by
  intro a0 _
  have hw : wrap64 ((7 : Int) - 1) = 6 := by unfold wrap64; omega
  by_cases h : 0 ≤ a0 ∧ a0 ≤ 6
  · obtain ⟨e1, e2⟩ := in_yes h.1 h.2
    have h7 : a0 < 7 := by omega
    unfold laws_FnExactPhName.f spec_PhName.f impl_PhName.f
    simp only [Option.bind_some, List.length_cons, List.length_nil, Int.natCast_add, Int.natCast_zero, Int.natCast_one, Int.zero_add, Int.reduceAdd, Int.cast_ofNat_Int, hw, e1, e2, if_true, if_pos h.1, if_pos h7]
  · obtain ⟨e1, e2⟩ := in_no h
    unfold laws_FnExactPhName.f spec_PhName.f impl_PhName.f
    simp only [Option.bind_some, List.length_cons, List.length_nil, Int.natCast_add, Int.natCast_zero, Int.natCast_one, Int.zero_add, Int.reduceAdd, Int.cast_ofNat_Int, hw, e1, e2, Bool.false_eq_true, if_false, if_true]

end Go.Proofs.Ytodedajpbmogcaa.Pure
