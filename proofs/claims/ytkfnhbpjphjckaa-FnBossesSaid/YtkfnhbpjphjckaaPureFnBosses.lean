/- A node without responses asks its ancestors in turn up to the root, and then starts again: the law, for all bytes. No further condition. -/
import Derived.Test.YtkfnhbpjphjckaaQ25
import Derived.Test.YtkfnhbpjphjckaaPbDrawTree
import Derived.Test.YtkfnhbpjphjckaaPbBoss
import Derived.Test.YtkfnhbpjphjckaaTyp
namespace Go.Proofs.Ytkfnhbpjphjckaa.Pure
open Go.RowKit Go.Proofs.Ytkfnhbpjphjckaa Go.Proofs.Ytkfnhbpjphjckaa.Q Go.Proofs.Ytkfnhbpjphjckaa.Pb Go.Proofs.YtkfnhbpjphjckaaW.PrintWords Go.Proofs.YtkfnhbpjphjckaaW.PrintLast
set_option linter.unusedVariables false
set_option linter.unusedSimpArgs false

/-- The way of node i is asked from place j on. -/
theorem asks {t : List Int} (ht : TreeSo t) (hl : t.length ≤ 1048576) {i : Int} (h0 : 1 ≤ i) (h1 : i ≤ (t.length : Int) - 1) {r : Bool}
    (hr : Ev (fun k => laws_FnBosses.l0 k (i + 1) t) r) : ∀ (d j : Nat), 1 ≤ j → j + d = (pathUp t i).length → Ev (fun k => laws_FnBosses.l1 k i (pathUp t i) (rd (pathUp t i) ((j : Int) - 1)) (j : Int) t) r := by
  have W := pathUp_way ht (show 0 ≤ i by omega) h1
  have hp := pathUp_length t i
  have h7 := ht.2.1
  intro d
  induction d with
  | zero =>
    intro j hj hd
    have e : (j : Int) - 1 = ((pathUp t i).length : Int) - 1 := by omega
    have h2 : 1 < (pathUp t i).length := by
      rcases Nat.lt_or_ge 1 (pathUp t i).length with h | h
      · exact h
      · have e1 : ((pathUp t i).length : Int) - 1 = 0 := by have := W.pos; omega
        have := W.last
        rw [e1, W.head] at this
        omega
    refine Ev.step (fun k => rfl) ?_
    refine ev_neg (by omega) (ev_pos (by rw [e]; exact W.last) ?_)
    rw [e, W.last]
    refine Ev.bind (implNextBoss_ev t i 0 hl) ?_
    refine ev_pos (by omega) (ev_pos ?_ ?_)
    · have hs := W.step 0 (by omega)
      rw [Int.natCast_zero, W.head] at hs
      have e2 : rd (pathUp t i) 1 = rd t i := hs.2
      rw [e2]
      unfold nextBoss
      rw [if_pos ⟨treeSo_ok ht, h0, h1⟩, if_neg (fun h => h.2 rfl)]
    · rw [w64 (by omega) (by omega)]
      exact hr
  | succ d ih =>
    intro j hj hd
    refine Ev.step (fun k => rfl) ?_
    refine ev_pos (by omega) ?_
    refine Ev.bind (implNextBoss_ev t i _ hl) ?_
    have e1 : (j : Int) - 1 = ((j - 1 : Nat) : Int) := by omega
    have hs := W.step (j - 1) (by omega)
    have e2 : ((j - 1 : Nat) : Int) + 1 = (j : Int) := by omega
    rw [e2] at hs
    have hb : nextBoss t i (rd (pathUp t i) ((j : Int) - 1)) = rd (pathUp t i) (j : Int) := by
      unfold nextBoss
      rw [if_pos ⟨treeSo_ok ht, h0, h1⟩, e1]
      by_cases hj1 : j = 1
      · subst hj1
        have hh := W.head
        rw [show ((1 - 1 : Nat) : Int) = 0 from rfl] at hs ⊢
        rw [hs.2, hh]
        split <;> rfl
      · have hlow := W.low (j - 1) (by omega) (by omega)
        rw [if_pos, hs.2]
        refine ⟨?_, hs.1⟩
        unfold ancestor
        rw [has_rd (j - 1) (by omega)]
        simp
        omega
    rw [hb]
    refine ev_pos (by omega) (ev_pos rfl ?_)
    rw [w64 (by omega) (by omega)]
    have := ih (j + 1) (by omega) (by omega)
    have e3 : ((j + 1 : Nat) : Int) - 1 = (j : Int) := by omega
    have e4 : ((j + 1 : Nat) : Int) = (j : Int) + 1 := by omega
    rw [e3, e4] at this
    exact this
theorem FnBosses : ∀ (x0 : List Int), (Opn.Each (fun n : Int => (Lit.int .u8 n).wf = true)) x0 → ∃ k, laws_FnBosses.f k x0 = some true := by
  intro x0 g
  refine Ev.rounds ?_
  unfold laws_FnBosses.f
  refine ev_then (show laws_big.f x0 = some (decide ((x0.length : Int) > 1048576)) from rfl) ?_
  refine ev_bool (fun _ => ev_some) (fun hb => ?_)
  have hx : x0.length ≤ 1048576 := by have := of_decide_eq_false hb; omega
  obtain ⟨t, hE, ht⟩ := drawTree_ev x0 hx
  obtain ⟨u, a, b, hE2, hu⟩ := drawNextBoss_ev x0 hx
  have hl : t.length ≤ 1048576 := by have := ht.2.1; omega
  refine Ev.bind hE (Ev.bind hE2 (Ev.bind (implNextBoss_ev u a b (by omega)) (Ev.bind (specNextBoss_ev u a b (by omega)) (ev_pos rfl ?_))))
  refine Ev.bind (implNextBoss_ev t 0 0 hl) ?_
  have e0 : nextBoss t 0 0 = -1 := by unfold nextBoss; rw [if_neg (by omega)]
  rw [e0]
  refine Ev.step (f := fun k => laws_FnBosses.l0 k 1 t) (fun k => rfl) ?_
  have key : ∀ (d : Nat) (i : Int), 1 ≤ i → i + (d : Int) = (t.length : Int) → Ev (fun k => laws_FnBosses.l0 k i t) true := by
    intro d
    induction d with
    | zero =>
      intro i h0 hi
      exact Ev.step (fun k => rfl) (ev_neg (by omega) ev_some)
    | succ d ih =>
      intro i h0 hi
      have h7 := ht.2.1
      have W := pathUp_way ht (show 0 ≤ i by omega) (show i ≤ (t.length : Int) - 1 by omega)
      have h2 : 1 < (pathUp t i).length := by
        rcases Nat.lt_or_ge 1 (pathUp t i).length with h | h
        · exact h
        · have e1 : ((pathUp t i).length : Int) - 1 = 0 := by have := W.pos; omega
          have := W.last
          rw [e1, W.head] at this
          omega
      refine Ev.step (fun k => rfl) ?_
      refine ev_pos (by omega) (Ev.bind (implPathUp_ev t i hl) (ev_pos (by omega) ?_))
      have := asks ht hl h0 (by omega) (ih (i + 1) (by omega) (by omega)) ((pathUp t i).length - 2) 2 (by omega) (by omega)
      exact this
  exact key (t.length - 1) 1 (by omega) (by have := ht.1; omega)
end Go.Proofs.Ytkfnhbpjphjckaa.Pure
