/- Trees as plain lists: the laws' copies and comparisons of them. No condition beyond the size that the laws ask. -/
import Derived.Test.YtkfnhbpjphjckaaQ12
import Derived.Test.YtkfnhbpjphjckaaQ15
import Derived.Test.YtkfnhbpjphjckaaQ9
import Derived.Test.YtkfnhbpjphjckaaPbNum
import Derived.Test.YtkfnhbpjphjckaaTyp
namespace Go.Proofs.Ytkfnhbpjphjckaa.Pb
open Go.RowKit Go.Proofs.Ytkfnhbpjphjckaa Go.Proofs.Ytkfnhbpjphjckaa.Q Go.Proofs.YtkfnhbpjphjckaaW.PrintWords Go.Proofs.YtkfnhbpjphjckaaW.PrintLast
set_option linter.unusedVariables false
set_option linter.unusedSimpArgs false

/-- What the size that is left comes to. -/
theorem szIntS_eq (l : List Int) (a : Int) (hl : l.length ≤ 9223372036854775807) (h0 : 0 ≤ a) (h1 : a ≤ 1048576) : laws_szIntS.f l a = some (if a < (l.length : Int) then (-1 : Int) else a - (l.length : Int)) := by
  unfold laws_szIntS.f
  rw [w64 (by omega) (by omega)]
  by_cases h : a < l.length
  · rw [if_pos (by omega), if_pos h]
  · rw [if_neg (by omega), if_neg h]
theorem szTree_eq (l : List Int) (hl : l.length ≤ 9223372036854775807) : laws_szTree.f l 1048576 = some (if (1048576 : Int) < (l.length : Int) then (-1 : Int) else 1048576 - (l.length : Int)) := by
  unfold laws_szTree.f
  rw [szIntS_eq l _ hl (by omega) (by omega)]
  simp only [Option.bind_some]
  by_cases h : (1048576 : Int) < l.length
  · rw [if_pos h]; rfl
  · rw [if_neg h, if_neg (by omega)]

theorem toIntS_ev (l : List Int) (hl : l.length ≤ 1048576) : Ev (fun k => laws_toIntS.f k l) l := by
  unfold laws_toIntS.f
  refine ev_pos (by omega) (ev_pos (by simp; omega) ?_)
  refine loop_up (fun k s i => laws_toIntS.l0 k l s i) l.length (fun i (s : List Int) => s.set i (l.getD i 0)) (fun _ s => s.length = l.length) _ l (by simp) (fun i s _ h => by simpa using h) ?_ ?_
  · intro i s r hi hs h
    refine Ev.step (fun k => rfl) ?_
    refine ev_pos (by omega) (ev_pos (by omega) (ev_pos (by omega) ?_))
    rw [w64 (by omega) (by omega)]
    simpa [rd] using h
  · intro hs
    refine Ev.step (fun k => rfl) ?_
    refine ev_neg (by omega) (ev_eq ev_some ?_)
    have h1 := iter_set l.length (fun i => l.getD i 0) (List.replicate (l.length : Int).toNat 0) (by simp)
    rw [h1]
    have h2 := map_range_get l 0 id
    simpa using h2
theorem toTree_ev (l : List Int) (hl : l.length ≤ 1048576) : Ev (fun k => laws_toTree.f k l) l := Ev.bind (toIntS_ev l hl) ev_some

theorem eqIntS_ev (a b : List Int) (ha : a.length ≤ 9223372036854775806) : Ev (fun k => laws_eqIntS.f k a b) (decide (a = b)) := by
  unfold laws_eqIntS.f
  refine ev_if (fun hl => ?_) (fun hl => ev_eq ev_some ?_)
  · have hl' : a.length = b.length := by omega
    rw [← all_range_eq a b 0 hl']
    refine loop_all (fun k i => laws_eqIntS.l0 k a b i) a.length _ ?_ ?_ ?_
    · intro i r hi hp h
      refine Ev.step (fun k => rfl) ?_
      refine ev_pos (by omega) (ev_pos (by omega) (ev_pos (by omega) (ev_pos (by simpa [rd] using hp) ?_)))
      rw [w64 (by omega) (by omega)]
      exact h
    · intro i hi hp
      refine Ev.step (fun k => rfl) ?_
      exact ev_pos (by omega) (ev_pos (by omega) (ev_pos (by omega) (ev_neg (by simpa [rd] using hp) ev_some)))
    · refine Ev.step (fun k => rfl) ?_
      exact ev_neg (by omega) ev_some
  · symm
    rw [decide_eq_false_iff_not]
    rintro rfl
    exact hl rfl
theorem eqTree_ev (a b : List Int) (ha : a.length ≤ 9223372036854775806) : Ev (fun k => laws_eqTree.f k a b) (decide (a = b)) := by
  refine Ev.bind (eqIntS_ev a b ha) ?_
  refine ev_bool (fun h => ev_eq ev_some h.symm) (fun h => ev_eq ev_some h.symm)

theorem isNode_eq (l : List Int) (k : Int) (hl : l.length ≤ 1048576) : impl_Tree_isNode.f l k = some (decide (0 ≤ k ∧ k ≤ (l.length : Int) - 1)) := by
  unfold impl_Tree_isNode.f
  rw [w64 (by omega) (by omega), within_eq]
  rfl
end Go.Proofs.Ytkfnhbpjphjckaa.Pb
