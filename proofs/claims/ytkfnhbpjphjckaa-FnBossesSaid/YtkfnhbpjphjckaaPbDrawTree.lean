/- The reference's draws of trees: they answer; the ones that are right are right. No condition beyond the length that the laws ask. -/
import Derived.Test.YtkfnhbpjphjckaaQ21
import Derived.Test.YtkfnhbpjphjckaaQ22
import Derived.Test.YtkfnhbpjphjckaaQ23
import Derived.Test.YtkfnhbpjphjckaaQ24
import Derived.Test.YtkfnhbpjphjckaaPbDraw
import Derived.Test.YtkfnhbpjphjckaaPbTree
namespace Go.Proofs.Ytkfnhbpjphjckaa.Pb
open Go.RowKit Go.Proofs.Ytkfnhbpjphjckaa Go.Proofs.Ytkfnhbpjphjckaa.Q Go.Proofs.YtkfnhbpjphjckaaW.PrintWords Go.Proofs.YtkfnhbpjphjckaaW.PrintLast
set_option linter.unusedVariables false
set_option linter.unusedSimpArgs false

/-- A tree, so far. -/
def TreeSo (u : List Int) : Prop := 1 ≤ u.length ∧ u.length ≤ 7 ∧ ∀ i, i < u.length → upOk u i = true
theorem treeSo_ok {u : List Int} (h : TreeSo u) : treeOk u = true := by
  unfold treeOk
  simp only [Bool.and_eq_true, decide_eq_true_eq, List.all_eq_true, List.mem_range]
  exact ⟨⟨h.1, h.2.1⟩, h.2.2⟩
theorem treeSo_snoc {u : List Int} (h : TreeSo u) {x : Int} (h7 : u.length < 7) (h0 : 0 ≤ x) (h1 : x ≤ (u.length : Int) - 1) : TreeSo (u ++ [x]) := by
  obtain ⟨a, b, c⟩ := h
  refine ⟨by simp, by rw [List.length_append, List.length_singleton]; omega, fun i hi => ?_⟩
  rw [List.length_append, List.length_singleton] at hi
  by_cases e : i < u.length
  · have := c i e
    unfold upOk at this ⊢
    rw [List.getD_eq_getElem?_getD] at this ⊢
    rwa [List.getElem?_append_left e]
  · have e' : i = u.length := by omega
    subst e'
    unfold upOk
    rw [List.getD_eq_getElem?_getD, List.getElem?_append_right (Nat.le_refl _)]
    simp only [Nat.sub_self, List.getElem?_cons_zero, Option.getD_some, decide_eq_true_eq]
    rw [if_neg (by omega)]
    exact ⟨h0, h1⟩
theorem l13Draw_ev {b : List Int} {i : Int} (h : Int) (hd : Dr b i) : ∃ u i' h', Ev (fun k => spec_l13Draw.f k b i h) (u, i', h') ∧ Dr b i' ∧ TreeSo u := by
  have key : ∀ d (u : List Int) i h, u.length + d = 7 → Dr b i → TreeSo u → ∃ u' i' h', Ev (fun k => spec_l13Draw.l0 k (u.length : Int) b i h u) (u', i', h') ∧ Dr b i' ∧ TreeSo u' := by
    intro d
    induction d with
    | zero =>
      intro u i h hu hd ht
      obtain ⟨x, i1, h1, e1, hd1, x0, x1, _⟩ := l1Below_ok h 7 hd
      have x2 := x1 (by omega)
      refine ⟨u, i1, h1, Ev.step (fun k => rfl) (ev_then e1 (ev_neg ?_ ev_some)), hd1, ht⟩
      rw [w64 (by omega) (by omega)]
      omega
    | succ d ih =>
      intro u i h hu hd ht
      obtain ⟨x, i1, h1, e1, hd1, x0, x1, _⟩ := l1Below_ok h 7 hd
      have x2 := x1 (by omega)
      by_cases hx : (u.length : Int) < 1 + x
      · obtain ⟨y, i2, h2, e2, hd2⟩ := l1Once_ok h1 2 hd1
        cases y with
        | true =>
          obtain ⟨z, i3, h3, e3, hd3, z0, z1, _⟩ := l1Below_ok h2 (u.length : Int) hd2
          have z2 := z1 (by have := ht.1; omega)
          obtain ⟨u', i', h', hE, hd', ht'⟩ := ih (u ++ [z]) i3 h3 (by rw [List.length_append, List.length_singleton]; omega) hd3 (treeSo_snoc ht (by omega) z0 (by omega))
          refine ⟨u', i', h', Ev.step (fun k => rfl) (ev_then e1 (ev_pos ?_ (ev_then e2 (ev_pos rfl (ev_then e3 (ev_pos (by omega) ?_)))))), hd', ht'⟩
          · rw [w64 (by omega) (by omega)]; exact hx
          · rw [w64 (by omega) (by omega)]
            have e : ((u ++ [z]).length : Int) = (u.length : Int) + 1 := by rw [List.length_append, List.length_singleton]; omega
            rw [e] at hE
            exact hE
        | false =>
          obtain ⟨u', i', h', hE, hd', ht'⟩ := ih (u ++ [(u.length : Int) - 1]) i2 h2 (by rw [List.length_append, List.length_singleton]; omega) hd2 (treeSo_snoc ht (by omega) (by have := ht.1; omega) (by omega))
          refine ⟨u', i', h', Ev.step (fun k => rfl) (ev_then e1 (ev_pos ?_ (ev_then e2 (ev_neg (by simp) (ev_pos (by omega) ?_))))), hd', ht'⟩
          · rw [w64 (by omega) (by omega)]; exact hx
          · rw [w64 (x := (u.length : Int) + 1) (by omega) (by omega), w64 (by omega) (by omega)]
            have e : ((u ++ [(u.length : Int) - 1]).length : Int) = (u.length : Int) + 1 := by rw [List.length_append, List.length_singleton]; omega
            rw [e] at hE
            exact hE
      · refine ⟨u, i1, h1, Ev.step (fun k => rfl) (ev_then e1 (ev_neg ?_ ev_some)), hd1, ht⟩
        rw [w64 (by omega) (by omega)]
        exact hx
  have h1 : TreeSo [-1] := ⟨by decide, by decide, fun i hi => by
    obtain rfl : i = 0 := by simpa using hi
    decide⟩
  exact key 6 [-1] i h rfl hd h1
theorem drawTree_ev (b : List Int) (hb : b.length ≤ 1048576) : ∃ u, Ev (fun k => spec_DrawTree.f k b) u ∧ TreeSo u := by
  obtain ⟨h, hE⟩ := l1New_ev b hb
  obtain ⟨u, i', h', hE', hd, ht⟩ := l13Draw_ev h (show Dr b 0 from ⟨hb, by omega, by omega⟩)
  exact ⟨u, Ev.bind hE (Ev.bind hE' ev_some), ht⟩
theorem l13Any_ev {b : List Int} {i : Int} (h : Int) (hd : Dr b i) : ∃ u i' h', Ev (fun k => spec_l13Any.f k b i h) (u, i', h') ∧ Dr b i' ∧ u.length ≤ 7 := by
  obtain ⟨u, i1, h1, hE, hd1, ht⟩ := l13Draw_ev h hd
  obtain ⟨x, i2, h2, e2, hd2, x0, x1, _⟩ := l1Below_ok h1 8 hd1
  unfold spec_l13Any.f
  by_cases c0 : x = 0
  · obtain ⟨y, i3, h3, e3, hd3, y0, y1, _⟩ := l1Below_ok h2 (u.length : Int) hd2
    have y2 := y1 (by have := ht.1; omega)
    obtain ⟨z, i4, h4, e4, hd4, _⟩ := l1Int_ok h3 ([(-1), 0, 6, (-2)] : List Int) hd3 (by decide)
    exact ⟨_, _, _, Ev.bind hE (ev_then e2 (ev_pos c0 (ev_then e3 (ev_then e4 (ev_pos y0 (ev_pos y2 ev_some)))))), hd4, by simpa using ht.2.1⟩
  · by_cases c1 : x = 1
    · exact ⟨_, _, _, Ev.bind hE (ev_then e2 (ev_neg c0 (ev_pos c1 ev_some))), hd2, by simp⟩
    · exact ⟨_, _, _, Ev.bind hE (ev_then e2 (ev_neg c0 (ev_neg c1 ev_some))), hd2, ht.2.1⟩
theorem drawNextBoss_ev (b : List Int) (hb : b.length ≤ 1048576) : ∃ u x y, Ev (fun k => spec_DrawNextBoss.f k b) (u, x, y) ∧ u.length ≤ 7 := by
  obtain ⟨h, hE⟩ := l1New_ev b hb
  obtain ⟨u, i1, h1, hE1, hd1, hu⟩ := l13Any_ev h (show Dr b 0 from ⟨hb, by omega, by omega⟩)
  obtain ⟨x, i2, h2, e2, hd2, _⟩ := l1Below_ok h1 8 hd1
  obtain ⟨y, i3, h3, e3, hd3, _⟩ := l1Below_ok h2 8 hd2
  exact ⟨u, _, _, Ev.bind hE (Ev.bind hE1 (ev_then e2 (ev_then e3 ev_some))), hu⟩

/-! ### A tree that is right: everybody's way leads to the first one -/
theorem up_lt {u : List Int} (h : TreeSo u) {k : Int} (h0 : 1 ≤ k) (h1 : k ≤ (u.length : Int) - 1) : 0 ≤ rd u k ∧ rd u k ≤ k - 1 := by
  have := h.2.2 k.toNat (by omega)
  unfold upOk at this
  rw [decide_eq_true_eq, if_neg (by omega)] at this
  unfold rd
  omega
theorem up_root {u : List Int} (h : TreeSo u) : rd u 0 = -1 := by
  have := h.2.2 0 (by have := h.1; omega)
  unfold upOk at this
  rw [decide_eq_true_eq, if_pos rfl] at this
  exact this
/-- The way up from k. -/
def way (u : List Int) : Nat → Int → List Int
  | 0, k => [k]
  | n + 1, k => if k = 0 then [0] else k :: way u n (rd u k)
theorem path_way {u : List Int} (h : TreeSo u) : ∀ (n m : Nat) (k : Int), 0 ≤ k → k ≤ (n : Int) → k ≤ (u.length : Int) - 1 → n < m → path m u k = way u n k := by
  intro n
  induction n with
  | zero =>
    intro m k h0 h1 h2 hm
    obtain ⟨m, rfl⟩ : ∃ q, m = q + 1 := ⟨m - 1, by omega⟩
    obtain rfl : k = 0 := by omega
    unfold path way
    rw [if_pos ⟨by omega, h2⟩, up_root h]
    cases m with
    | zero => rfl
    | succ m => unfold path; rw [if_neg (by omega)]
  | succ n ih =>
    intro m k h0 h1 h2 hm
    obtain ⟨m, rfl⟩ : ∃ q, m = q + 1 := ⟨m - 1, by omega⟩
    by_cases hk : k = 0
    · subst hk
      unfold path way
      rw [if_pos ⟨by omega, h2⟩, up_root h, if_pos rfl]
      cases m with
      | zero => rfl
      | succ m => unfold path; rw [if_neg (by omega)]
    · have hu := up_lt h (show 1 ≤ k by omega) h2
      unfold path way
      rw [if_pos ⟨by omega, h2⟩, if_neg hk, ih m (rd u k) hu.1 (by omega) (by omega) (by omega)]
theorem rd_cons_zero (a : Int) (l : List Int) : rd (a :: l) 0 = a := rfl
theorem rd_cons_succ (a : Int) (l : List Int) (j : Nat) : rd (a :: l) ((j : Int) + 1) = rd l (j : Int) := by
  unfold rd
  have e : ((j : Int) + 1).toNat = j + 1 := by omega
  rw [e, Int.toNat_natCast, List.getD_cons_succ]
/-- What is known of the way up. -/
structure Way (u : List Int) (k : Int) (w : List Int) : Prop where
  pos : 0 < w.length
  head : rd w 0 = k
  step : ∀ j : Nat, j + 1 < w.length → rd w (j : Int) ≠ 0 ∧ rd w ((j : Int) + 1) = rd u (rd w (j : Int))
  last : rd w ((w.length : Int) - 1) = 0
  low : ∀ j : Nat, 1 ≤ j → j < w.length → 0 ≤ rd w (j : Int) ∧ rd w (j : Int) < k
theorem way_is {u : List Int} (h : TreeSo u) : ∀ (n : Nat) (k : Int), 0 ≤ k → k ≤ (n : Int) → k ≤ (u.length : Int) - 1 → Way u k (way u n k) := by
  have one : Way u 0 [0] := ⟨by simp, rfl, fun j hj => by simp at hj, by rfl, fun j h1 h2 => by simp at h2; omega⟩
  intro n
  induction n with
  | zero =>
    intro k h0 h1 h2
    obtain rfl : k = 0 := by omega
    exact one
  | succ n ih =>
    intro k h0 h1 h2
    by_cases hk : k = 0
    · subst hk
      unfold way
      rw [if_pos rfl]
      exact one
    · have hu := up_lt h (show 1 ≤ k by omega) h2
      have W := ih (rd u k) hu.1 (by omega) (by omega)
      unfold way
      rw [if_neg hk]
      refine ⟨by simp, rfl, fun j hj => ?_, ?_, fun j h3 h4 => ?_⟩
      · cases j with
        | zero => exact ⟨hk, by have := rd_cons_succ k (way u n (rd u k)) 0; rw [Int.natCast_zero] at this ⊢; rw [this]; exact W.head⟩
        | succ j =>
          have hj' : j + 1 < (way u n (rd u k)).length := by simpa using hj
          have hs := W.step j hj'
          have e1 : ((j + 1 : Nat) : Int) = (j : Int) + 1 := by omega
          rw [e1, rd_cons_succ]
          have e2 : (j : Int) + 1 + 1 = ((j + 1 : Nat) : Int) + 1 := by omega
          rw [e2, rd_cons_succ, e1]
          exact hs
      · have e : (((k :: way u n (rd u k)).length : Int) - 1) = (((way u n (rd u k)).length - 1 : Nat) : Int) + 1 := by
          have := W.pos
          simp only [List.length_cons]
          omega
        rw [e, rd_cons_succ]
        have := W.last
        have e3 : (((way u n (rd u k)).length - 1 : Nat) : Int) = ((way u n (rd u k)).length : Int) - 1 := by have := W.pos; omega
        rw [e3]
        exact this
      · obtain ⟨j, rfl⟩ : ∃ q, j = q + 1 := ⟨j - 1, by omega⟩
        have h4' : j < (way u n (rd u k)).length := by simpa using h4
        have e1 : ((j + 1 : Nat) : Int) = (j : Int) + 1 := by omega
        rw [e1, rd_cons_succ]
        by_cases hj : j = 0
        · subst hj
          have := W.head
          rw [Int.natCast_zero, this]
          omega
        · have := W.low j (by omega) h4'
          omega
theorem pathUp_way {u : List Int} (h : TreeSo u) {k : Int} (h0 : 0 ≤ k) (h1 : k ≤ (u.length : Int) - 1) : Way u k (pathUp u k) := by
  have e : pathUp u k = way u k.toNat k := path_way h k.toNat u.length k h0 (by omega) h1 (by omega)
  rw [e]
  exact way_is h k.toNat k h0 (by omega) h1
theorem has_rd {l : List Int} (j : Nat) (h : j < l.length) : has l (rd l (j : Int)) = true := by
  unfold has
  rw [decide_eq_true_eq, rd_nat l j h]
  exact List.getElem_mem h
end Go.Proofs.Ytkfnhbpjphjckaa.Pb
