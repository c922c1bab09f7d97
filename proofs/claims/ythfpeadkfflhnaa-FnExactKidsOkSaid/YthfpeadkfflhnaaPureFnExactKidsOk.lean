/- The program's KidsOk returns what the reference's returns, for every list of clients, and leaves it. No further condition. -/
import Derived.Test.YthfpeadkfflhnaaQ6
import Derived.Test.YthfpeadkfflhnaaQ1
import Derived.Test.YthfpeadkfflhnaaQ3
import Derived.Test.YthfpeadkfflhnaaQ5
import Derived.RowKit
import Derived.IntWalk
import Derived.Test.YthfpeadkfflhnaaWWords
import Derived.Test.YthfpeadkfflhnaaTyp
/- Plain lemmas on answers with rounds: a loop that goes up through numbers comes to what its steps make. No condition. -/
namespace Go.Proofs.Ythfpeadkfflhnaa.Pb
open Go.RowKit Go.Proofs.YthfpeadkfflhnaaW.PrintWords
set_option linter.unusedVariables false

theorem w64 {x : Int} (h0 : -9223372036854775808 ≤ x) (h1 : x ≤ 9223372036854775807) : wrap64 x = x := by unfold wrap64; omega

section
variable {α β ρ σ : Type}
theorem ev_pos {c : Prop} [Decidable c] {f g : Nat → Option α} {r : α} (hc : c) (h : Ev f r) : Ev (fun k => if c then f k else g k) r := Ev.congr (fun k => if_pos hc) h
theorem ev_neg {c : Prop} [Decidable c] {f g : Nat → Option α} {r : α} (hc : ¬ c) (h : Ev g r) : Ev (fun k => if c then f k else g k) r := Ev.congr (fun k => if_neg hc) h
theorem ev_true {f g : Nat → Option α} {r : α} (h : Ev f r) : Ev (fun k => if true = true then f k else g k) r := ev_pos rfl h
theorem ev_false {f g : Nat → Option α} {r : α} (h : Ev g r) : Ev (fun k => if false = true then f k else g k) r := ev_neg (by decide) h
theorem ev_some {r : α} : Ev (fun _ => some r) r := Ev.now r
theorem ev_of {a : Option α} {r : α} (h : a = some r) : Ev (fun _ => a) r := ⟨0, fun _ _ => h⟩
theorem ev_then {a : Option α} {x : α} {f : Nat → α → Option β} {r : β} (h : a = some x) (k : Ev (fun n => f n x) r) : Ev (fun n => a.bind (f n)) r := Ev.bind (ev_of h) k
theorem ev_bool {b : Bool} {f g : Nat → Option α} {r : α} (h1 : b = true → Ev f r) (h2 : b = false → Ev g r) : Ev (fun k => if b = true then f k else g k) r := by
  cases b with
  | true => exact ev_true (h1 rfl)
  | false => exact ev_false (h2 rfl)
theorem ev_if {c : Prop} [Decidable c] {f g : Nat → Option α} {r : α} (h1 : c → Ev f r) (h2 : ¬ c → Ev g r) : Ev (fun k => if c then f k else g k) r := by
  by_cases h : c
  · exact ev_pos h (h1 h)
  · exact ev_neg h (h2 h)
theorem ev_eq {f : Nat → Option α} {r r' : α} (h : Ev f r) (e : r = r') : Ev f r' := e ▸ h
theorem ev_det {f : Nat → Option α} {r r' : α} (h : Ev f r) (h' : Ev f r') : r = r' := by
  obtain ⟨K, h⟩ := h
  obtain ⟨K', h'⟩ := h'
  have h1 := h (max K K') (Nat.le_max_left _ _)
  have h2 := h' (max K K') (Nat.le_max_right _ _)
  rw [h1] at h2
  exact Option.some.inj h2

/-- What n steps make of a state. -/
def iter (n : Nat) (next : Nat → σ → σ) (s : σ) : σ := (List.range n).foldl (fun s i => next i s) s
theorem iter_zero (next : Nat → σ → σ) (s : σ) : iter 0 next s = s := rfl
theorem iter_succ (n : Nat) (next : Nat → σ → σ) (s : σ) : iter (n + 1) next s = next n (iter n next s) := by
  unfold iter
  rw [List.range_succ, List.foldl_append]
  rfl

/-- A loop that goes up, step by step, to n. -/
theorem loop_up (g : Nat → σ → Int → Option ρ) (n : Nat) (next : Nat → σ → σ) (Inv : Nat → σ → Prop) (s0 : σ) (r : ρ)
    (h0 : Inv 0 s0) (hinv : ∀ i s, i < n → Inv i s → Inv (i + 1) (next i s))
    (hstep : ∀ (i : Nat) s r, i < n → Inv i s → Ev (fun k => g k (next i s) ((i : Int) + 1)) r → Ev (fun k => g k s (i : Int)) r)
    (hend : Inv n (iter n next s0) → Ev (fun k => g k (iter n next s0) (n : Int)) r) : Ev (fun k => g k s0 0) r := by
  have hall : ∀ i, i ≤ n → Inv i (iter i next s0) := by
    intro i
    induction i with
    | zero => intro _; exact h0
    | succ i ih => intro hi; rw [iter_succ]; exact hinv i _ (by omega) (ih (by omega))
  have key : ∀ d i, i + d = n → Ev (fun k => g k (iter i next s0) (i : Int)) r := by
    intro d
    induction d with
    | zero =>
      intro i hi
      obtain rfl : i = n := by omega
      exact hend (hall i (Nat.le_refl _))
    | succ d ih =>
      intro i hi
      refine hstep i _ r (by omega) (hall i (by omega)) ?_
      have := ih (i + 1) (by omega)
      rw [iter_succ] at this
      simpa using this
  exact key n 0 (by omega)

/-- A loop that goes up till something is found. -/
theorem loop_find (g : Nat → Int → Option ρ) (n : Nat) (p : Nat → Bool) (res : Nat → ρ) (r0 : ρ)
    (hyes : ∀ i, i < n → p i = true → Ev (fun k => g k (i : Int)) (res i))
    (hno : ∀ i r, i < n → p i = false → Ev (fun k => g k ((i : Int) + 1)) r → Ev (fun k => g k (i : Int)) r)
    (hend : Ev (fun k => g k (n : Int)) r0) : Ev (fun k => g k 0) (match (List.range n).find? p with | some i => res i | none => r0) := by
  have key : ∀ d i, i + d = n → Ev (fun k => g k (i : Int)) (match (List.range' i d).find? p with | some i => res i | none => r0) := by
    intro d
    induction d with
    | zero =>
      intro i hi
      obtain rfl : i = n := by omega
      exact hend
    | succ d ih =>
      intro i hi
      rw [List.range'_succ, List.find?_cons]
      cases hp : p i with
      | true => exact hyes i (by omega) hp
      | false => exact hno i _ (by omega) hp (by have := ih (i + 1) (by omega); simpa using this)
  have := key n 0 (by omega)
  rwa [← List.range_eq_range'] at this
/-- A loop that asks something of each. -/
theorem loop_all (g : Nat → Int → Option Bool) (n : Nat) (p : Nat → Bool)
    (hyes : ∀ i r, i < n → p i = true → Ev (fun k => g k ((i : Int) + 1)) r → Ev (fun k => g k (i : Int)) r)
    (hno : ∀ i, i < n → p i = false → Ev (fun k => g k (i : Int)) false)
    (hend : Ev (fun k => g k (n : Int)) true) : Ev (fun k => g k 0) ((List.range n).all p) := by
  have h := loop_find g n (fun i => !p i) (fun _ => false) true (fun i hi hp => hno i hi (by simpa using hp)) (fun i r hi hp h => hyes i r hi (by simpa using hp) h) hend
  refine ev_eq h ?_
  cases hf : (List.range n).find? (fun i => !p i) with
  | some i =>
    have h1 := List.find?_some hf
    have h2 := List.mem_of_find?_eq_some hf
    symm
    rw [List.all_eq_false]
    exact ⟨i, h2, by simpa using h1⟩
  | none =>
    symm
    rw [List.all_eq_true]
    intro x hx
    have := List.find?_eq_none.1 hf x hx
    simpa using this
end

/-! ### Lists by their elements -/
theorem rd_nat (l : List Int) (i : Nat) (h : i < l.length) : rd l (i : Int) = l[i] := by
  unfold rd
  simp [List.getD_eq_getElem?_getD, List.getElem?_eq_getElem h]
theorem iter_set {α : Type} (n : Nat) (f : Nat → α) (l : List α) (hl : l.length = n) : iter n (fun i (s : List α) => s.set i (f i)) l = (List.range n).map f := by
  have key : ∀ m, m ≤ n → iter m (fun i (s : List α) => s.set i (f i)) l = (List.range m).map f ++ l.drop m := by
    intro m
    induction m with
    | zero => intro _; simp [iter_zero]
    | succ m ih =>
      intro hm
      rw [iter_succ, ih (by omega)]
      apply List.ext_getElem?
      intro j
      simp only [List.getElem?_set, List.getElem?_append, List.length_map, List.length_range, List.length_append, List.length_drop, List.getElem?_map, List.getElem?_drop]
      by_cases h1 : m = j
      · subst h1
        simp
        omega
      · by_cases h2 : j < m
        · simp [h1, h2, show j < m + 1 by omega]
        · have h3 : ¬ j < m + 1 := by omega
          simp [h1, h2, h3]
          congr 1
          omega
  have := key n (Nat.le_refl _)
  rw [this, List.drop_of_length_le (by omega), List.append_nil]
theorem map_range_get {α β : Type} (l : List α) (d : α) (f : α → β) : (List.range l.length).map (fun i => f (l.getD i d)) = l.map f := by
  apply List.ext_getElem?
  intro i
  by_cases h : i < l.length
  · simp [h, List.getD_eq_getElem?_getD]
  · simp [h]
theorem all_range_eq {α : Type} [DecidableEq α] (a b : List α) (d : α) (hl : a.length = b.length) : (List.range a.length).all (fun i => decide (a.getD i d = b.getD i d)) = decide (a = b) := by
  rw [Bool.eq_iff_iff]
  simp only [List.all_eq_true, List.mem_range, decide_eq_true_eq]
  constructor
  · intro h
    apply List.ext_getElem hl
    intro i h1 h2
    have := h i h1
    simpa [List.getD_eq_getElem?_getD, h1, h2] using this
  · rintro rfl i _
    rfl
end Go.Proofs.Ythfpeadkfflhnaa.Pb
/- Whole numbers: an int's bounds, tests of an interval, what is left of a size. No condition. -/
namespace Go.Proofs.Ythfpeadkfflhnaa.Pb
open Go.RowKit Go.Proofs.Ythfpeadkfflhnaa Go.Proofs.Ythfpeadkfflhnaa.Q Go.Proofs.YthfpeadkfflhnaaW.PrintWords Go.Proofs.YthfpeadkfflhnaaW.PrintLast
set_option linter.unusedVariables false
set_option linter.unusedSimpArgs false

/-- An int holds it. -/
def I64 (n : Int) : Prop := -9223372036854775808 ≤ n ∧ n ≤ 9223372036854775807
theorem i64_of {n : Int} (h : (Lit.int .i64 n).wf = true) : I64 n := by
  simp [Lit.wf, IntKind.min, IntKind.max, IntKind.signed, IntKind.bits] at h
  exact ⟨by omega, by omega⟩

theorem within_eq (a lo hi : Int) : impl_within.f a lo hi = some (decide (lo ≤ a ∧ a ≤ hi)) := by
  unfold impl_within.f
  by_cases h : lo ≤ a
  · rw [if_pos h]; simp [h]
  · rw [if_neg h]; simp [h]
theorem l1In_eq (a lo hi : Int) : spec_l1In.f a lo hi = some (decide (lo ≤ a ∧ a ≤ hi)) := within_eq a lo hi

theorem left_big {n : Nat} (h : ¬ (if (1048576 : Int) < (n : Int) then (-1 : Int) else 1048576 - (n : Int)) < 0) : n ≤ 1048576 := by
  split at h <;> omega
end Go.Proofs.Ythfpeadkfflhnaa.Pb
/- Lists of clients as plain lists: what the laws' copies and comparisons of them answer, and the functions on them. No condition beyond the size that the laws ask. -/
namespace Go.Proofs.Ythfpeadkfflhnaa.Pb
open Go.RowKit Go.Proofs.Ythfpeadkfflhnaa Go.Proofs.Ythfpeadkfflhnaa.Q Go.Proofs.YthfpeadkfflhnaaW.PrintWords Go.Proofs.YthfpeadkfflhnaaW.PrintLast
set_option linter.unusedVariables false
set_option linter.unusedSimpArgs false

theorem szKidS_eq (l : List S34) (hl : l.length ≤ 9223372036854775807) : laws_szKidS.f l 1048576 = some (if (1048576 : Int) < (l.length : Int) then (-1 : Int) else 1048576 - (l.length : Int)) := by
  unfold laws_szKidS.f
  rw [w64 (by omega) (by omega)]
  by_cases h : (1048576 : Int) < l.length
  · rw [if_pos (by omega), if_pos h]
  · rw [if_neg (by omega), if_neg h]
/-- The program's own client out of the laws' one. -/
def kidOf (x : S34) : S31 := ⟨x.f0, x.f1, x.f2, x.f3, x.f4⟩
theorem rdKid_eq (l : List S31) (i : Nat) : rd_T31 l (i : Int) = l.getD i z31 := rfl
theorem toKidS_ev (l : List S34) (hl : l.length ≤ 1048576) : Ev (fun k => laws_toKidS.f k l) (l.map kidOf) := by
  unfold laws_toKidS.f
  refine ev_pos (by omega) (ev_pos (by simp; omega) ?_)
  refine loop_up (fun k s i => laws_toKidS.l0 k l s i) l.length (fun i (s : List S31) => s.set i (kidOf (l.getD i z34))) (fun _ s => s.length = l.length) _ _ (by simp) (fun i s _ h => by simpa using h) ?_ ?_
  · intro i s r hi hs h
    refine Ev.step (fun k => rfl) ?_
    refine ev_pos (by omega) (ev_pos (by omega) ?_)
    refine ev_then rfl ?_
    refine ev_pos (by omega) ?_
    rw [w64 (by omega) (by omega)]
    exact h
  · intro hs
    refine Ev.step (fun k => rfl) ?_
    refine ev_neg (by omega) (ev_eq ev_some ?_)
    rw [iter_set l.length (fun i => kidOf (l.getD i z34)) _ (by simp)]
    exact map_range_get l _ kidOf
theorem eqKid_refl (a b c d e : Int) : laws_eqKid.f a b c d e a b c d e = some true := by
  unfold laws_eqKid.f
  rw [if_pos rfl, if_pos rfl, if_pos rfl, if_pos rfl, if_pos rfl]
theorem eqKidS_refl (a : List S31) (ha : a.length ≤ 9223372036854775806) : Ev (fun k => laws_eqKidS.f k a a) true := by
  unfold laws_eqKidS.f
  refine ev_pos rfl ?_
  refine ev_eq (loop_all (fun k i => laws_eqKidS.l0 k a a i) a.length (fun _ => true) ?_ ?_ ?_) (by simp)
  · intro i r hi _ h
    refine Ev.step (fun k => rfl) ?_
    refine ev_pos (by omega) (ev_pos (by omega) (ev_pos (by omega) ?_))
    refine ev_then (eqKid_refl _ _ _ _ _) (ev_true ?_)
    rw [w64 (by omega) (by omega)]
    exact h
  · intro i hi hp
    cases hp
  · refine Ev.step (fun k => rfl) ?_
    exact ev_neg (by omega) ev_some
end Go.Proofs.Ythfpeadkfflhnaa.Pb
namespace Go.Proofs.Ythfpeadkfflhnaa.Pure
open Go.RowKit Go.Proofs.Ythfpeadkfflhnaa Go.Proofs.Ythfpeadkfflhnaa.Q Go.Proofs.Ythfpeadkfflhnaa.Pb Go.Proofs.YthfpeadkfflhnaaW.PrintWords Go.Proofs.YthfpeadkfflhnaaW.PrintLast
set_option linter.unusedVariables false
set_option linter.unusedSimpArgs false

theorem not_dec {p : Prop} [Decidable p] (h : ¬ p) : ¬ (decide p = true) := fun e => h (of_decide_eq_true e)
theorem specSet_eq (a : Int) : spec_SetOk.f a = some (decide (0 ≤ a ∧ a ≤ 1099511627775)) := by
  unfold spec_SetOk.f
  rw [l1In_eq]; rfl
theorem implSet_eq (a : Int) : impl_SetOk.f a = some (decide (0 ≤ a ∧ a ≤ 1099511627775)) := by
  unfold impl_SetOk.f
  rw [within_eq]; rfl
theorem implId_eq (a : Int) : impl_isId.f a = some (decide (0 ≤ a ∧ a ≤ 6)) := by
  unfold impl_isId.f
  rw [within_eq]; rfl
/-- The client at a place is a good one. -/
def Good (l : List S31) (i : Nat) : Prop := (0 ≤ (l.getD i z31).f0 ∧ (l.getD i z31).f0 ≤ 6) ∧ (0 < i → (l.getD (i - 1) z31).f0 < (l.getD i z31).f0) ∧ (0 ≤ (l.getD i z31).f1 ∧ (l.getD i z31).f1 ≤ 1099511627775) ∧ (0 ≤ (l.getD i z31).f2 ∧ (l.getD i z31).f2 ≤ 1099511627775) ∧ (0 ≤ (l.getD i z31).f4 ∧ (l.getD i z31).f4 ≤ 1099511627775) ∧ 0 ≤ (l.getD i z31).f3
instance (l : List S31) (i : Nat) : Decidable (Good l i) := by unfold Good; infer_instance
theorem kids_loop (g : Nat → Int → Option Bool) (l : List S31) (step : ∀ i : Nat, i < l.length → (Good l i ∧ ∀ r, Ev (fun k => g k ((i : Int) + 1)) r → Ev (fun k => g k (i : Int)) r) ∨ (¬ Good l i ∧ Ev (fun k => g k (i : Int)) false)) (hend : Ev (fun k => g k (l.length : Int)) true) : Ev (fun k => g k 0) ((List.range l.length).all (fun i => decide (Good l i))) := by
  refine loop_all g l.length (fun i => decide (Good l i)) ?_ ?_ hend
  · intro i r hi hp h
    rcases step i hi with ⟨_, k⟩ | ⟨q, _⟩
    · exact k r h
    · exact absurd (of_decide_eq_true hp) q
  · intro i hi hp
    rcases step i hi with ⟨q, _⟩ | ⟨_, k⟩
    · exact absurd q (of_decide_eq_false hp)
    · exact k
theorem prev_place (j : Nat) (h : j ≤ 1048576) : wrap64 (((j + 1 : Nat) : Int) - 1) = (j : Int) := by
  rw [w64 (by omega) (by omega)]
  omega
theorem specKidsOk_ev (l : List S31) (hl : l.length ≤ 1048576) : Ev (fun k => spec_KidsOk.f k l) ((List.range l.length).all (fun i => decide (Good l i))) := by
  unfold spec_KidsOk.f
  refine kids_loop (fun k i => spec_KidsOk.l0 k l i) l ?_ (Ev.step (fun k => rfl) (ev_neg (by omega) ev_some))
  intro i hi
  have tail : ((0 ≤ (l.getD i z31).f1 ∧ (l.getD i z31).f1 ≤ 1099511627775) ∧ (0 ≤ (l.getD i z31).f2 ∧ (l.getD i z31).f2 ≤ 1099511627775) ∧ (0 ≤ (l.getD i z31).f4 ∧ (l.getD i z31).f4 ≤ 1099511627775) ∧ 0 ≤ (l.getD i z31).f3 ∧ ∀ r, Ev (fun k => spec_KidsOk.l0 k l ((i : Int) + 1)) r → Ev (fun k => (spec_SetOk.f (l.getD i z31).f1).bind fun t107 => (if t107 = true then ((spec_SetOk.f (l.getD i z31).f2).bind fun t109 => (if t109 = true then ((spec_SetOk.f (l.getD i z31).f4).bind fun t111 => (if t111 = true then (if (l.getD i z31).f3 < 0 then (some false) else (spec_KidsOk.l0 k l (wrap64 ((i : Int) + 1)))) else (some false))) else (some false))) else (some false))) r) ∨ (¬ ((0 ≤ (l.getD i z31).f1 ∧ (l.getD i z31).f1 ≤ 1099511627775) ∧ (0 ≤ (l.getD i z31).f2 ∧ (l.getD i z31).f2 ≤ 1099511627775) ∧ (0 ≤ (l.getD i z31).f4 ∧ (l.getD i z31).f4 ≤ 1099511627775) ∧ 0 ≤ (l.getD i z31).f3) ∧ Ev (fun k => (spec_SetOk.f (l.getD i z31).f1).bind fun t107 => (if t107 = true then ((spec_SetOk.f (l.getD i z31).f2).bind fun t109 => (if t109 = true then ((spec_SetOk.f (l.getD i z31).f4).bind fun t111 => (if t111 = true then (if (l.getD i z31).f3 < 0 then (some false) else (spec_KidsOk.l0 k l (wrap64 ((i : Int) + 1)))) else (some false))) else (some false))) else (some false))) false) := by
    generalize l.getD i z31 = x
    by_cases h1 : 0 ≤ x.f1 ∧ x.f1 ≤ 1099511627775
    · by_cases h2 : 0 ≤ x.f2 ∧ x.f2 ≤ 1099511627775
      · by_cases h4 : 0 ≤ x.f4 ∧ x.f4 ≤ 1099511627775
        · by_cases h3 : x.f3 < 0
          · exact Or.inr ⟨fun o => by omega, ev_then (specSet_eq _) (ev_pos (decide_eq_true h1) (ev_then (specSet_eq _) (ev_pos (decide_eq_true h2) (ev_then (specSet_eq _) (ev_pos (decide_eq_true h4) (ev_pos h3 ev_some))))))⟩
          · refine Or.inl ⟨h1, h2, h4, by omega, fun r h => ev_then (specSet_eq _) (ev_pos (decide_eq_true h1) (ev_then (specSet_eq _) (ev_pos (decide_eq_true h2) (ev_then (specSet_eq _) (ev_pos (decide_eq_true h4) (ev_neg h3 ?_))))))⟩
            rw [w64 (by omega) (by omega)]
            exact h
        · exact Or.inr ⟨fun o => h4 o.2.2.1, ev_then (specSet_eq _) (ev_pos (decide_eq_true h1) (ev_then (specSet_eq _) (ev_pos (decide_eq_true h2) (ev_then (specSet_eq _) (ev_neg (not_dec h4) ev_some)))))⟩
      · exact Or.inr ⟨fun o => h2 o.2.1, ev_then (specSet_eq _) (ev_pos (decide_eq_true h1) (ev_then (specSet_eq _) (ev_neg (not_dec h2) ev_some)))⟩
    · exact Or.inr ⟨fun o => h1 o.1, ev_then (specSet_eq _) (ev_neg (not_dec h1) ev_some)⟩
  by_cases c1 : 0 ≤ (l.getD i z31).f0 ∧ (l.getD i z31).f0 ≤ 6
  · cases i with
    | zero =>
      rcases tail with ⟨h1, h2, h4, h3, ht⟩ | ⟨hn, ht⟩
      · exact Or.inl ⟨⟨c1, fun h => absurd h (by omega), h1, h2, h4, h3⟩, fun r h => Ev.step (fun k => rfl) (ev_pos (by omega) (ev_pos (by omega) (ev_then (l1In_eq _ _ _) (ev_pos (decide_eq_true c1) (ev_neg (by omega) (ht r h))))))⟩
      · exact Or.inr ⟨fun o => hn o.2.2, Ev.step (fun k => rfl) (ev_pos (by omega) (ev_pos (by omega) (ev_then (l1In_eq _ _ _) (ev_pos (decide_eq_true c1) (ev_neg (by omega) ht)))))⟩
    | succ j =>
      have pj := prev_place j (by omega)
      have start : ∀ r, (Ev (fun k => if (l.getD j z31).f0 ≥ (l.getD (j + 1) z31).f0 then (some false) else (spec_SetOk.f (l.getD (j + 1) z31).f1).bind fun t107 => (if t107 = true then ((spec_SetOk.f (l.getD (j + 1) z31).f2).bind fun t109 => (if t109 = true then ((spec_SetOk.f (l.getD (j + 1) z31).f4).bind fun t111 => (if t111 = true then (if (l.getD (j + 1) z31).f3 < 0 then (some false) else (spec_KidsOk.l0 k l (wrap64 (((j + 1 : Nat) : Int) + 1)))) else (some false))) else (some false))) else (some false))) r) → Ev (fun k => spec_KidsOk.l0 k l ((j + 1 : Nat) : Int)) r := by
        intro r h
        refine Ev.step (fun k => rfl) (ev_pos (by omega) (ev_pos (by omega) (ev_then (l1In_eq _ _ _) (ev_pos (decide_eq_true c1) (ev_pos (by omega) ?_)))))
        rw [pj]
        exact ev_pos (by omega) (ev_pos (by omega) h)
      by_cases c2 : (l.getD j z31).f0 ≥ (l.getD (j + 1) z31).f0
      · exact Or.inr ⟨fun o => by have := o.2.1 (by omega); simp only [Nat.add_sub_cancel] at this; omega, start _ (ev_pos c2 ev_some)⟩
      · rcases tail with ⟨h1, h2, h4, h3, ht⟩ | ⟨hn, ht⟩
        · exact Or.inl ⟨⟨c1, fun _ => by simp only [Nat.add_sub_cancel]; omega, h1, h2, h4, h3⟩, fun r h => start r (ev_neg c2 (ht r h))⟩
        · exact Or.inr ⟨fun o => hn o.2.2, start _ (ev_neg c2 ht)⟩
  · exact Or.inr ⟨fun o => c1 o.1, Ev.step (fun k => rfl) (ev_pos (by omega) (ev_pos (by omega) (ev_then (l1In_eq _ _ _) (ev_neg (not_dec c1) ev_some))))⟩
theorem implKidsOk_ev (l : List S31) (hl : l.length ≤ 1048576) : Ev (fun k => impl_KidsOk.f k l) ((List.range l.length).all (fun i => decide (Good l i))) := by
  unfold impl_KidsOk.f
  refine kids_loop (fun k i => impl_KidsOk.l0 k l l (l.length : Int) i) l ?_ (Ev.step (fun k => rfl) (ev_neg (by omega) ev_some))
  intro i hi
  have start : ∀ r, (Ev (fun k => (impl_isId.f (l.getD i z31).f0).bind fun t137 => (if t137 = true then ((impl_SetOk.f (l.getD i z31).f1).bind fun t138 => (if t138 = true then ((impl_SetOk.f (l.getD i z31).f2).bind fun t139 => (if t139 = true then (if (l.getD i z31).f3 < 0 then (some false) else ((impl_SetOk.f (l.getD i z31).f4).bind fun t140 => (if t140 = true then (if (i : Int) > 0 then (if 0 ≤ (wrap64 ((i : Int) - 1)) then (if (wrap64 ((i : Int) - 1)) < (l.length : Int) then (if (l.getD i z31).f0 ≤ ((rd_T31 l (wrap64 ((i : Int) - 1))).f0) then (some false) else (impl_KidsOk.l0 k l l (l.length : Int) (wrap64 ((i : Int) + 1)))) else (none)) else (none)) else (impl_KidsOk.l0 k l l (l.length : Int) (wrap64 ((i : Int) + 1)))) else (some false)))) else (some false))) else (some false))) else (some false))) r) → Ev (fun k => impl_KidsOk.l0 k l l (l.length : Int) (i : Int)) r := by
    intro r h
    exact Ev.step (fun k => rfl) (ev_pos (by omega) (ev_pos (by omega) (ev_pos (by omega) h)))
  have more : ∀ r, Ev (fun k => impl_KidsOk.l0 k l l (l.length : Int) ((i : Int) + 1)) r → Ev (fun k => impl_KidsOk.l0 k l l (l.length : Int) (wrap64 ((i : Int) + 1))) r := by
    intro r h
    rw [w64 (by omega) (by omega)]
    exact h
  by_cases c1 : 0 ≤ (l.getD i z31).f0 ∧ (l.getD i z31).f0 ≤ 6
  · by_cases h1 : 0 ≤ (l.getD i z31).f1 ∧ (l.getD i z31).f1 ≤ 1099511627775
    · by_cases h2 : 0 ≤ (l.getD i z31).f2 ∧ (l.getD i z31).f2 ≤ 1099511627775
      · by_cases h3 : (l.getD i z31).f3 < 0
        · exact Or.inr ⟨fun o => by have := o.2.2.2.2.2; omega, start _ (ev_then (implId_eq _) (ev_pos (decide_eq_true c1) (ev_then (implSet_eq _) (ev_pos (decide_eq_true h1) (ev_then (implSet_eq _) (ev_pos (decide_eq_true h2) (ev_pos h3 ev_some)))))))⟩
        · by_cases h4 : 0 ≤ (l.getD i z31).f4 ∧ (l.getD i z31).f4 ≤ 1099511627775
          · have go : ∀ r, Ev (fun k => if (i : Int) > 0 then (if 0 ≤ (wrap64 ((i : Int) - 1)) then (if (wrap64 ((i : Int) - 1)) < (l.length : Int) then (if (l.getD i z31).f0 ≤ ((rd_T31 l (wrap64 ((i : Int) - 1))).f0) then (some false) else (impl_KidsOk.l0 k l l (l.length : Int) (wrap64 ((i : Int) + 1)))) else (none)) else (none)) else (impl_KidsOk.l0 k l l (l.length : Int) (wrap64 ((i : Int) + 1)))) r → Ev (fun k => impl_KidsOk.l0 k l l (l.length : Int) (i : Int)) r :=
              fun r h => start r (ev_then (implId_eq _) (ev_pos (decide_eq_true c1) (ev_then (implSet_eq _) (ev_pos (decide_eq_true h1) (ev_then (implSet_eq _) (ev_pos (decide_eq_true h2) (ev_neg h3 (ev_then (implSet_eq _) (ev_pos (decide_eq_true h4) h)))))))))
            cases i with
            | zero => exact Or.inl ⟨⟨c1, fun h => absurd h (by omega), h1, h2, h4, by omega⟩, fun r h => go r (ev_neg (by omega) (more r h))⟩
            | succ j =>
              have pj := prev_place j (by omega)
              rw [pj] at go
              by_cases c2 : (l.getD (j + 1) z31).f0 ≤ (l.getD j z31).f0
              · exact Or.inr ⟨fun o => by have := o.2.1 (by omega); simp only [Nat.add_sub_cancel] at this; omega, go _ (ev_pos (by omega) (ev_pos (by omega) (ev_pos (by omega) (ev_pos c2 ev_some))))⟩
              · exact Or.inl ⟨⟨c1, fun _ => by simp only [Nat.add_sub_cancel]; omega, h1, h2, h4, by omega⟩, fun r h => go r (ev_pos (by omega) (ev_pos (by omega) (ev_pos (by omega) (ev_neg c2 (more r h)))))⟩
          · exact Or.inr ⟨fun o => h4 o.2.2.2.2.1, start _ (ev_then (implId_eq _) (ev_pos (decide_eq_true c1) (ev_then (implSet_eq _) (ev_pos (decide_eq_true h1) (ev_then (implSet_eq _) (ev_pos (decide_eq_true h2) (ev_neg h3 (ev_then (implSet_eq _) (ev_neg (not_dec h4) ev_some)))))))))⟩
      · exact Or.inr ⟨fun o => h2 o.2.2.2.1, start _ (ev_then (implId_eq _) (ev_pos (decide_eq_true c1) (ev_then (implSet_eq _) (ev_pos (decide_eq_true h1) (ev_then (implSet_eq _) (ev_neg (not_dec h2) ev_some))))))⟩
    · exact Or.inr ⟨fun o => h1 o.2.2.1, start _ (ev_then (implId_eq _) (ev_pos (decide_eq_true c1) (ev_then (implSet_eq _) (ev_neg (not_dec h1) ev_some))))⟩
  · exact Or.inr ⟨fun o => c1 o.1, start _ (ev_then (implId_eq _) (ev_neg (not_dec c1) ev_some))⟩
theorem FnExactKidsOk : ∀ (x0 : List S34), (Opn.Each good34) x0 → ∃ k, laws_FnExactKidsOk.f k x0 = some true := by
  intro x0 g0
  refine Ev.rounds ?_
  unfold laws_FnExactKidsOk.f
  rw [szKidS_eq x0 g0.1]
  refine Ev.bind ev_some (ev_if (fun _ => ev_some) (fun h => ?_))
  have hl := left_big h
  have t0 := toKidS_ev x0 hl
  refine Ev.bind t0 (Ev.bind (specKidsOk_ev _ (by simpa using hl)) (Ev.bind t0 (Ev.bind (implKidsOk_ev _ (by simpa using hl)) (ev_neg (by simp) ?_))))
  exact Ev.bind t0 (Ev.bind (eqKidS_refl _ (by simp; omega)) (ev_true ev_some))
end Go.Proofs.Ythfpeadkfflhnaa.Pure
