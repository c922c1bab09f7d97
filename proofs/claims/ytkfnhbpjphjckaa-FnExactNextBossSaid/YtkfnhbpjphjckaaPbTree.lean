/- Trees as plain lists: what the program's and the reference's functions on them answer. No condition beyond the size that the laws ask. -/
import Derived.Test.YtkfnhbpjphjckaaQ10
import Derived.Test.YtkfnhbpjphjckaaQ11
import Derived.Test.YtkfnhbpjphjckaaQ12
import Derived.Test.YtkfnhbpjphjckaaQ13
import Derived.Test.YtkfnhbpjphjckaaQ50
import Derived.Test.YtkfnhbpjphjckaaPbTree0
namespace Go.Proofs.Ytkfnhbpjphjckaa.Pb
open Go.RowKit Go.Proofs.Ytkfnhbpjphjckaa Go.Proofs.Ytkfnhbpjphjckaa.Q Go.Proofs.YtkfnhbpjphjckaaW.PrintWords Go.Proofs.YtkfnhbpjphjckaaW.PrintLast
set_option linter.unusedVariables false
set_option linter.unusedSimpArgs false

/-! ### TreeOk -/
/-- Whether element k of a tree is right. -/
def upOk (l : List Int) (k : Nat) : Bool := decide (if k = 0 then l.getD k 0 = -1 else 0 ≤ l.getD k 0 ∧ l.getD k 0 ≤ (k : Int) - 1)
def treeOk (l : List Int) : Bool := decide (1 ≤ l.length ∧ l.length ≤ 7) && (List.range l.length).all (upOk l)
theorem implTreeOk_ev (l : List Int) (hl : l.length ≤ 1048576) : Ev (fun k => impl_TreeOk.f k l) (treeOk l) := by
  unfold impl_TreeOk.f
  have h := loop_find (ρ := Bool) (fun k i => impl_TreeOk.l0 k l (l.length : Int) i l) l.length (fun i => !upOk l i) (fun _ => false) (decide (1 ≤ l.length ∧ l.length ≤ 7)) ?_ ?_ ?_
  · refine ev_eq h ?_
    unfold treeOk
    cases hf : (List.range l.length).find? (fun i => !upOk l i) with
    | some i =>
      have h1 := List.find?_some hf
      have h2 := List.mem_of_find?_eq_some hf
      have : (List.range l.length).all (upOk l) = false := by
        rw [List.all_eq_false]
        exact ⟨i, h2, by simpa using h1⟩
      simp [this]
    | none =>
      have : (List.range l.length).all (upOk l) = true := by
        rw [List.all_eq_true]
        intro x hx
        have := List.find?_eq_none.1 hf x hx
        simpa using this
      simp [this]
  · intro i hi hp
    refine Ev.step (fun k => rfl) ?_
    refine ev_pos (by omega) (ev_pos (by omega) (ev_pos (by omega) ?_))
    simp only [upOk, Bool.not_eq_true', decide_eq_false_iff_not] at hp
    refine ev_if (fun h0 => ?_) (fun h0 => ?_)
    · obtain rfl : i = 0 := by omega
      exact ev_neg (by simpa [rd] using hp) ev_some
    · rw [if_neg (by omega)] at hp
      refine ev_pos (by omega) ?_
      rw [w64 (by omega) (by omega)]
      refine ev_then (within_eq _ _ _) ?_
      rw [decide_eq_false (by simpa [rd] using hp)]
      exact ev_false ev_some
  · intro i r hi hp h
    refine Ev.step (fun k => rfl) ?_
    refine ev_pos (by omega) (ev_pos (by omega) (ev_pos (by omega) ?_))
    simp only [upOk, Bool.not_eq_false', decide_eq_true_eq] at hp
    rw [w64 (x := (i : Int) + 1) (by omega) (by omega)]
    refine ev_if (fun h0 => ?_) (fun h0 => ?_)
    · obtain rfl : i = 0 := by omega
      refine ev_pos (by simpa [rd] using hp) (ev_neg (by omega) h)
    · rw [if_neg (by omega)] at hp
      refine ev_pos (by omega) ?_
      rw [w64 (by omega) (by omega)]
      refine ev_then (within_eq _ _ _) ?_
      rw [decide_eq_true (by simpa [rd] using hp)]
      exact ev_true h
  · refine Ev.step (fun k => rfl) ?_
    refine ev_neg (by omega) ?_
    refine ev_then (within_eq _ _ _) (ev_eq ev_some ?_)
    rw [Bool.eq_iff_iff]
    simp
    omega
theorem specTreeOk_ev (l : List Int) (hl : l.length ≤ 1048576) : Ev (fun k => spec_TreeOk.f k l) (treeOk l) := by
  unfold spec_TreeOk.f
  refine ev_then (l1In_eq _ _ _) ?_
  refine ev_bool (fun h => ?_) (fun h => ?_)
  · have hl7 : 1 ≤ l.length ∧ l.length ≤ 7 := by simp at h; omega
    refine ev_pos (by omega) ?_
    refine Ev.step (fun k => rfl) ?_
    refine ev_bool (fun h0 => ev_eq ev_some ?_) (fun h0 => ?_)
    · symm
      unfold treeOk
      have : (List.range l.length).all (upOk l) = false := by
        rw [List.all_eq_false]
        exact ⟨0, by simp; omega, by simpa [upOk, rd] using h0⟩
      simp [this]
    · have h00 : upOk l 0 = true := by simpa [upOk, rd] using h0
      obtain ⟨m, hm⟩ : ∃ m, l.length = m + 1 := ⟨l.length - 1, by omega⟩
      have hall : treeOk l = (List.range m).all (fun i => upOk l (i + 1)) := by
        unfold treeOk
        rw [decide_eq_true hl7, hm, List.range_succ_eq_map]
        simp [h00, Function.comp_def]
      rw [hall]
      refine loop_all (fun k i => spec_TreeOk.l0 k (i + 1) l) m _ ?_ ?_ ?_
      · intro i r hi hp h
        refine Ev.step (fun k => rfl) ?_
        simp only [upOk, decide_eq_true_eq] at hp
        rw [if_neg (by omega)] at hp
        refine ev_pos (by omega) (ev_pos (by omega) ?_)
        refine ev_then (l1In_eq _ _ _) ?_
        rw [w64 (x := (i : Int) + 1 - 1) (by omega) (by omega), w64 (by omega) (by omega)]
        have e : ((i : Int) + 1).toNat = i + 1 := by omega
        rw [decide_eq_true (by unfold rd; rw [e]; constructor <;> omega)]
        exact ev_true h
      · intro i hi hp
        refine Ev.step (fun k => rfl) ?_
        simp only [upOk, decide_eq_false_iff_not] at hp
        rw [if_neg (by omega)] at hp
        refine ev_pos (by omega) (ev_pos (by omega) ?_)
        refine ev_then (l1In_eq _ _ _) ?_
        rw [w64 (x := (i : Int) + 1 - 1) (by omega) (by omega)]
        have e : ((i : Int) + 1).toNat = i + 1 := by omega
        rw [decide_eq_false (by unfold rd; rw [e]; rintro ⟨h1, h2⟩; exact hp ⟨h1, by omega⟩)]
        exact ev_false ev_some
      · refine Ev.step (fun k => rfl) ?_
        exact ev_neg (by omega) ev_some
  · refine Ev.step (fun k => rfl) ?_
    refine Ev.congr (f := fun _ => some false) (fun k => rfl) (ev_eq ev_some ?_)
    symm
    unfold treeOk
    have : decide (1 ≤ l.length ∧ l.length ≤ 7) = false := by simp at h ⊢; omega
    simp [this]

/-! ### PathUp -/
/-- k, what stands above it, and so on, at most n. -/
def path : Nat → List Int → Int → List Int
  | 0, _, _ => []
  | n + 1, l, k => if 0 ≤ k ∧ k ≤ (l.length : Int) - 1 then k :: path n l (rd l k) else []
def pathUp (l : List Int) (k : Int) : List Int := path l.length l k
theorem path_length (n : Nat) (l : List Int) : ∀ k, (path n l k).length ≤ n := by
  induction n with
  | zero => intro k; simp [path]
  | succ n ih =>
    intro k
    unfold path
    split
    · simp only [List.length_cons]; have := ih (rd l k); omega
    · simp
theorem pathUp_length (l : List Int) (k : Int) : (pathUp l k).length ≤ l.length := path_length _ _ _
theorem implPathUp_ev (l : List Int) (k0 : Int) (hl : l.length ≤ 1048576) : Ev (fun k => impl_PathUp.f k l k0) (pathUp l k0) := by
  have key : ∀ d (acc : List Int) (a : Int), acc.length + d = l.length → Ev (fun k => impl_PathUp.l0 k a acc l) (acc ++ path d l a) := by
    intro d
    induction d with
    | zero =>
      intro acc a h
      refine Ev.step (fun k => rfl) ?_
      refine ev_then (isNode_eq l a hl) ?_
      refine ev_bool (fun _ => ev_neg (by omega) (ev_eq ev_some (by simp [path]))) (fun _ => ev_eq ev_some (by simp [path]))
    | succ d ih =>
      intro acc a h
      refine Ev.step (fun k => rfl) ?_
      refine ev_then (isNode_eq l a hl) ?_
      refine ev_bool (fun hn => ?_) (fun hn => ev_eq ev_some ?_)
      · have hn' : 0 ≤ a ∧ a ≤ (l.length : Int) - 1 := of_decide_eq_true hn
        refine ev_pos (by omega) (ev_pos (by omega) (ev_pos (by omega) (ev_pos (by omega) ?_)))
        refine ev_eq (ih (acc ++ [a]) (rd l a) (by simp; omega)) ?_
        simp [path, hn']
      · have hn' : ¬ (0 ≤ a ∧ a ≤ (l.length : Int) - 1) := of_decide_eq_false hn
        simp [path, hn']
  have := key l.length [] k0 (by simp)
  rw [List.nil_append] at this
  exact this
theorem specPathUp_ev (l : List Int) (k0 : Int) (hl : l.length ≤ 1048576) : Ev (fun k => spec_PathUp.f k l k0) (pathUp l k0) := by
  have key : ∀ d (acc : List Int) (a : Int), acc.length + d = l.length → Ev (fun k => spec_PathUp.l0 k a acc l) (acc ++ path d l a) := by
    intro d
    induction d with
    | zero =>
      intro acc a h
      refine Ev.step (fun k => rfl) ?_
      refine ev_then (l1In_eq _ _ _) ?_
      refine ev_bool (fun _ => ev_neg (by omega) (ev_eq ev_some (by simp [path]))) (fun _ => ev_eq ev_some (by simp [path]))
    | succ d ih =>
      intro acc a h
      refine Ev.step (fun k => rfl) ?_
      refine ev_then (l1In_eq _ _ _) ?_
      rw [w64 (by omega) (by omega)]
      refine ev_bool (fun hn => ?_) (fun hn => ev_eq ev_some ?_)
      · have hn' : 0 ≤ a ∧ a ≤ (l.length : Int) - 1 := of_decide_eq_true hn
        refine ev_pos (by omega) (ev_pos (by omega) (ev_pos (by omega) (ev_pos (by omega) ?_)))
        refine ev_eq (ih (acc ++ [a]) (rd l a) (by simp; omega)) ?_
        simp [path, hn']
      · have hn' : ¬ (0 ≤ a ∧ a ≤ (l.length : Int) - 1) := of_decide_eq_false hn
        simp [path, hn']
  have := key l.length [] k0 (by simp)
  rw [List.nil_append] at this
  exact this

def deepOf (l : List Int) (k : Int) : Int := if ((pathUp l k).length : Int) - 1 > 0 then ((pathUp l k).length : Int) - 1 else 0
theorem specDeepOf_ev (l : List Int) (k0 : Int) (hl : l.length ≤ 1048576) : Ev (fun k => spec_DeepOf.f k l k0) (deepOf l k0) := by
  have hp := pathUp_length l k0
  refine Ev.bind (specPathUp_ev l k0 hl) ?_
  rw [w64 (by omega) (by omega)]
  refine ev_then (x := deepOf l k0) ?_ ev_some
  unfold spec_Most.f deepOf
  split <;> rfl
theorem implDeepOf_ev (l : List Int) (k0 : Int) (hl : l.length ≤ 1048576) : Ev (fun k => impl_DeepOf.f k l k0) (deepOf l k0) := by
  have hp := pathUp_length l k0
  refine Ev.bind (implPathUp_ev l k0 hl) ?_
  rw [w64 (by omega) (by omega)]
  refine ev_eq ev_some ?_
  unfold mx deepOf
  repeat' split
  all_goals omega

/-! ### Ancestor -/
def has (l : List Int) (a : Int) : Bool := decide (a ∈ l)
theorem find_has (l : List Int) (a : Int) : (match (List.range l.length).find? (fun i => decide (l.getD i 0 = a)) with | some _ => true | none => false) = has l a := by
  unfold has
  cases hf : (List.range l.length).find? (fun i => decide (l.getD i 0 = a)) with
  | some i =>
    have h1 := List.find?_some hf
    have h2 := List.mem_of_find?_eq_some hf
    symm
    rw [decide_eq_true_eq]
    simp only [decide_eq_true_eq] at h1
    have hi : i < l.length := by simpa using h2
    rw [← h1, List.getD_eq_getElem?_getD, List.getElem?_eq_getElem hi]
    exact List.getElem_mem hi
  | none =>
    symm
    rw [decide_eq_false_iff_not]
    intro hm
    obtain ⟨i, hi, e⟩ := List.getElem_of_mem hm
    have := List.find?_eq_none.1 hf i (by simpa using hi)
    apply this
    simp [List.getD_eq_getElem?_getD, List.getElem?_eq_getElem hi, e]
theorem specHas_ev (l : List Int) (a : Int) (hl : l.length ≤ 1048576) : Ev (fun k => spec_l13Has.f k l a) (has l a) := by
  rw [← find_has]
  refine loop_find (fun k i => spec_l13Has.l0 k l a i) l.length _ (fun _ => true) false ?_ ?_ ?_
  · intro i hi hp
    refine Ev.step (fun k => rfl) ?_
    exact ev_pos (by omega) (ev_pos (by omega) (ev_pos (by simpa [rd] using hp) ev_some))
  · intro i r hi hp h
    refine Ev.step (fun k => rfl) ?_
    refine ev_pos (by omega) (ev_pos (by omega) (ev_neg (by simpa [rd] using hp) ?_))
    rw [w64 (by omega) (by omega)]
    exact h
  · refine Ev.step (fun k => rfl) ?_
    exact ev_neg (by omega) ev_some
theorem implIndex_ev (l : List Int) (a : Int) (hl : l.length ≤ 1048576) : Ev (fun k => slices_Index_int_int.f k l a) (match (List.range l.length).find? (fun i => decide (l.getD i 0 = a)) with | some i => (i : Int) | none => -1) := by
  refine loop_find (fun k i => slices_Index_int_int.l0 k l a (l.length : Int) i) l.length _ (fun i => (i : Int)) (-1) ?_ ?_ ?_
  · intro i hi hp
    refine Ev.step (fun k => rfl) ?_
    simp only [decide_eq_true_eq] at hp
    exact ev_pos (by omega) (ev_pos (by omega) (ev_pos (by omega) (ev_pos (by rw [← hp]; simp [rd]) ev_some)))
  · intro i r hi hp h
    refine Ev.step (fun k => rfl) ?_
    simp only [decide_eq_false_iff_not] at hp
    refine ev_pos (by omega) (ev_pos (by omega) (ev_pos (by omega) (ev_neg (fun e => hp (by rw [e]; simp [rd])) ?_)))
    rw [w64 (by omega) (by omega)]
    exact h
  · refine Ev.step (fun k => rfl) ?_
    exact ev_neg (by omega) ev_some
theorem implContains_ev (l : List Int) (a : Int) (hl : l.length ≤ 1048576) : Ev (fun k => slices_Contains_int_int.f k l a) (has l a) := by
  refine Ev.bind (implIndex_ev l a hl) (ev_eq ev_some ?_)
  rw [← find_has]
  cases (List.range l.length).find? (fun i => decide (l.getD i 0 = a)) with
  | some i => simp
  | none => simp
def ancestor (l : List Int) (a k : Int) : Bool := decide (a ≠ k) && has (pathUp l k) a
theorem specAncestor_ev (l : List Int) (a k0 : Int) (hl : l.length ≤ 1048576) : Ev (fun k => spec_Ancestor.f k l a k0) (ancestor l a k0) := by
  have hp := pathUp_length l k0
  unfold spec_Ancestor.f ancestor
  refine ev_if (fun h => ev_eq ev_some (by simp [h])) (fun h => ?_)
  refine Ev.bind (specPathUp_ev l k0 hl) (Ev.bind (specHas_ev _ a (by omega)) (ev_eq ev_some (by simp [h])))
theorem implAncestor_ev (l : List Int) (a k0 : Int) (hl : l.length ≤ 1048576) : Ev (fun k => impl_Ancestor.f k l a k0) (ancestor l a k0) := by
  have hp := pathUp_length l k0
  unfold impl_Ancestor.f ancestor
  refine ev_if (fun h => ev_eq ev_some (by simp [h])) (fun h => ?_)
  refine Ev.bind (implPathUp_ev l k0 hl) (Ev.bind (implContains_ev _ a (by omega)) (ev_eq ev_some (by simp [h])))

end Go.Proofs.Ytkfnhbpjphjckaa.Pb
