/- Plain lemmas on answers with rounds: a loop that goes up through numbers comes to what its steps make. No condition. -/
import Derived.RowKit
import Derived.IntWalk
import Derived.Test.YtnoplippaiblcaaWWords
namespace Go.Proofs.Ytnoplippaiblcaa.Pb
open Go.RowKit Go.Proofs.YtnoplippaiblcaaW.PrintWords
set_option linter.unusedVariables false

theorem w64 {x : Int} (h0 : -9223372036854775808 ≤ x) (h1 : x ≤ 9223372036854775807) : wrap64 x = x := by unfold wrap64; omega

section
variable {α β ρ σ : Type}
theorem ev_pos {c : Prop} [Decidable c] {f g : Nat → Option α} {r : α} (hc : c) (h : Ev f r) : Ev (fun k => if c then f k else g k) r := Ev.congr (fun k => if_pos hc) h
theorem ev_neg {c : Prop} [Decidable c] {f g : Nat → Option α} {r : α} (hc : ¬ c) (h : Ev g r) : Ev (fun k => if c then f k else g k) r := Ev.congr (fun k => if_neg hc) h
theorem ev_true {f g : Nat → Option α} {r : α} (h : Ev f r) : Ev (fun k => if true = true then f k else g k) r := ev_pos rfl h
theorem ev_false {f g : Nat → Option α} {r : α} (h : Ev g r) : Ev (fun k => if false = true then f k else g k) r := ev_neg (by decide) h
theorem ev_some {r : α} : Ev (fun _ => some r) r := Ev.now r
theorem ev_of {a : Option α} {r : α} (h : a = some r) : Ev (fun _ => a) r := ⟨0, fun _ _ => h⟩
theorem ev_then {a : Option α} {x : α} {f : Nat → α → Option β} {r : β} (h : a = some x) (k : Ev (fun n => f n x) r) : Ev (fun n => a.bind (f n)) r := Ev.bind (ev_of h) k
theorem ev_bool {b : Bool} {f g : Nat → Option α} {r : α} (h1 : b = true → Ev f r) (h2 : b = false → Ev g r) : Ev (fun k => if b = true then f k else g k) r := by
  cases b with
  | true => exact ev_true (h1 rfl)
  | false => exact ev_false (h2 rfl)
theorem ev_if {c : Prop} [Decidable c] {f g : Nat → Option α} {r : α} (h1 : c → Ev f r) (h2 : ¬ c → Ev g r) : Ev (fun k => if c then f k else g k) r := by
  by_cases h : c
  · exact ev_pos h (h1 h)
  · exact ev_neg h (h2 h)
theorem ev_eq {f : Nat → Option α} {r r' : α} (h : Ev f r) (e : r = r') : Ev f r' := e ▸ h
theorem ev_det {f : Nat → Option α} {r r' : α} (h : Ev f r) (h' : Ev f r') : r = r' := by
  obtain ⟨K, h⟩ := h
  obtain ⟨K', h'⟩ := h'
  have h1 := h (max K K') (Nat.le_max_left _ _)
  have h2 := h' (max K K') (Nat.le_max_right _ _)
  rw [h1] at h2
  exact Option.some.inj h2

/-- What n steps make of a state. -/
def iter (n : Nat) (next : Nat → σ → σ) (s : σ) : σ := (List.range n).foldl (fun s i => next i s) s
theorem iter_zero (next : Nat → σ → σ) (s : σ) : iter 0 next s = s := rfl
theorem iter_succ (n : Nat) (next : Nat → σ → σ) (s : σ) : iter (n + 1) next s = next n (iter n next s) := by
  unfold iter
  rw [List.range_succ, List.foldl_append]
  rfl

/-- A loop that goes up, step by step, to n. -/
theorem loop_up (g : Nat → σ → Int → Option ρ) (n : Nat) (next : Nat → σ → σ) (Inv : Nat → σ → Prop) (s0 : σ) (r : ρ)
    (h0 : Inv 0 s0) (hinv : ∀ i s, i < n → Inv i s → Inv (i + 1) (next i s))
    (hstep : ∀ (i : Nat) s r, i < n → Inv i s → Ev (fun k => g k (next i s) ((i : Int) + 1)) r → Ev (fun k => g k s (i : Int)) r)
    (hend : Inv n (iter n next s0) → Ev (fun k => g k (iter n next s0) (n : Int)) r) : Ev (fun k => g k s0 0) r := by
  have hall : ∀ i, i ≤ n → Inv i (iter i next s0) := by
    intro i
    induction i with
    | zero => intro _; exact h0
    | succ i ih => intro hi; rw [iter_succ]; exact hinv i _ (by omega) (ih (by omega))
  have key : ∀ d i, i + d = n → Ev (fun k => g k (iter i next s0) (i : Int)) r := by
    intro d
    induction d with
    | zero =>
      intro i hi
      obtain rfl : i = n := by omega
      exact hend (hall i (Nat.le_refl _))
    | succ d ih =>
      intro i hi
      refine hstep i _ r (by omega) (hall i (by omega)) ?_
      have := ih (i + 1) (by omega)
      rw [iter_succ] at this
      simpa using this
  exact key n 0 (by omega)

/-- A loop that goes up till something is found. -/
theorem loop_find (g : Nat → Int → Option ρ) (n : Nat) (p : Nat → Bool) (res : Nat → ρ) (r0 : ρ)
    (hyes : ∀ i, i < n → p i = true → Ev (fun k => g k (i : Int)) (res i))
    (hno : ∀ i r, i < n → p i = false → Ev (fun k => g k ((i : Int) + 1)) r → Ev (fun k => g k (i : Int)) r)
    (hend : Ev (fun k => g k (n : Int)) r0) : Ev (fun k => g k 0) (match (List.range n).find? p with | some i => res i | none => r0) := by
  have key : ∀ d i, i + d = n → Ev (fun k => g k (i : Int)) (match (List.range' i d).find? p with | some i => res i | none => r0) := by
    intro d
    induction d with
    | zero =>
      intro i hi
      obtain rfl : i = n := by omega
      exact hend
    | succ d ih =>
      intro i hi
      rw [List.range'_succ, List.find?_cons]
      cases hp : p i with
      | true => exact hyes i (by omega) hp
      | false => exact hno i _ (by omega) hp (by have := ih (i + 1) (by omega); simpa using this)
  have := key n 0 (by omega)
  rwa [← List.range_eq_range'] at this
/-- A loop that asks something of each. -/
theorem loop_all (g : Nat → Int → Option Bool) (n : Nat) (p : Nat → Bool)
    (hyes : ∀ i r, i < n → p i = true → Ev (fun k => g k ((i : Int) + 1)) r → Ev (fun k => g k (i : Int)) r)
    (hno : ∀ i, i < n → p i = false → Ev (fun k => g k (i : Int)) false)
    (hend : Ev (fun k => g k (n : Int)) true) : Ev (fun k => g k 0) ((List.range n).all p) := by
  have h := loop_find g n (fun i => !p i) (fun _ => false) true (fun i hi hp => hno i hi (by simpa using hp)) (fun i r hi hp h => hyes i r hi (by simpa using hp) h) hend
  refine ev_eq h ?_
  cases hf : (List.range n).find? (fun i => !p i) with
  | some i =>
    have h1 := List.find?_some hf
    have h2 := List.mem_of_find?_eq_some hf
    symm
    rw [List.all_eq_false]
    exact ⟨i, h2, by simpa using h1⟩
  | none =>
    symm
    rw [List.all_eq_true]
    intro x hx
    have := List.find?_eq_none.1 hf x hx
    simpa using this
end

/-! ### Lists by their elements -/
theorem rd_nat (l : List Int) (i : Nat) (h : i < l.length) : rd l (i : Int) = l[i] := by
  unfold rd
  simp [List.getD_eq_getElem?_getD, List.getElem?_eq_getElem h]
theorem iter_set {α : Type} (n : Nat) (f : Nat → α) (l : List α) (hl : l.length = n) : iter n (fun i (s : List α) => s.set i (f i)) l = (List.range n).map f := by
  have key : ∀ m, m ≤ n → iter m (fun i (s : List α) => s.set i (f i)) l = (List.range m).map f ++ l.drop m := by
    intro m
    induction m with
    | zero => intro _; simp [iter_zero]
    | succ m ih =>
      intro hm
      rw [iter_succ, ih (by omega)]
      apply List.ext_getElem?
      intro j
      simp only [List.getElem?_set, List.getElem?_append, List.length_map, List.length_range, List.length_append, List.length_drop, List.getElem?_map, List.getElem?_drop]
      by_cases h1 : m = j
      · subst h1
        simp
        omega
      · by_cases h2 : j < m
        · simp [h1, h2, show j < m + 1 by omega]
        · have h3 : ¬ j < m + 1 := by omega
          simp [h1, h2, h3]
          congr 1
          omega
  have := key n (Nat.le_refl _)
  rw [this, List.drop_of_length_le (by omega), List.append_nil]
theorem map_range_get {α β : Type} (l : List α) (d : α) (f : α → β) : (List.range l.length).map (fun i => f (l.getD i d)) = l.map f := by
  apply List.ext_getElem?
  intro i
  by_cases h : i < l.length
  · simp [h, List.getD_eq_getElem?_getD]
  · simp [h]
theorem all_range_eq {α : Type} [DecidableEq α] (a b : List α) (d : α) (hl : a.length = b.length) : (List.range a.length).all (fun i => decide (a.getD i d = b.getD i d)) = decide (a = b) := by
  rw [Bool.eq_iff_iff]
  simp only [List.all_eq_true, List.mem_range, decide_eq_true_eq]
  constructor
  · intro h
    apply List.ext_getElem hl
    intro i h1 h2
    have := h i h1
    simpa [List.getD_eq_getElem?_getD, h1, h2] using this
  · rintro rfl i _
    rfl
end Go.Proofs.Ytnoplippaiblcaa.Pb
