/- The program's StageAll returns what the reference's returns, for every disk, bytes and size, in memory of its own, and leaves both. No further condition. -/
import Derived.Test.YtlghklbjmmijpaaQ56
import Derived.Test.YtlghklbjmmijpaaQ54
import Derived.Test.YtlghklbjmmijpaaQ55
import Derived.Test.YtlghklbjmmijpaaQ3
import Derived.Test.YtlghklbjmmijpaaQ5
import Derived.RowKit
import Derived.IntWalk
import Derived.Test.YtlghklbjmmijpaaWWords
import Derived.Test.YtlghklbjmmijpaaQ17
import Derived.Test.YtlghklbjmmijpaaQ27
import Derived.Test.YtlghklbjmmijpaaQ16
import Derived.Test.YtlghklbjmmijpaaTyp
import Derived.Test.YtlghklbjmmijpaaQ40
import Derived.Test.YtlghklbjmmijpaaQ53
import Derived.Test.YtlghklbjmmijpaaQ39
import Derived.Test.YtlghklbjmmijpaaQ52
import Derived.Test.YtlghklbjmmijpaaQ38
import Derived.Test.YtlghklbjmmijpaaQ51
import Derived.Test.YtlghklbjmmijpaaQ22
import Derived.Test.YtlghklbjmmijpaaQ6
import Derived.Test.YtlghklbjmmijpaaQ18
import Derived.Test.YtlghklbjmmijpaaQ8
import Derived.Test.YtlghklbjmmijpaaQ34
import Derived.Test.YtlghklbjmmijpaaQ50
/- Plain lemmas on answers with rounds: a loop that goes up through numbers comes to what its steps make. No condition. -/
namespace Go.Proofs.Ytlghklbjmmijpaa.Pb
open Go.RowKit Go.Proofs.YtlghklbjmmijpaaW.PrintWords
set_option linter.unusedVariables false

theorem w64 {x : Int} (h0 : -9223372036854775808 ≤ x) (h1 : x ≤ 9223372036854775807) : wrap64 x = x := by unfold wrap64; omega

section
variable {α β ρ σ : Type}
theorem ev_pos {c : Prop} [Decidable c] {f g : Nat → Option α} {r : α} (hc : c) (h : Ev f r) : Ev (fun k => if c then f k else g k) r := Ev.congr (fun k => if_pos hc) h
theorem ev_neg {c : Prop} [Decidable c] {f g : Nat → Option α} {r : α} (hc : ¬ c) (h : Ev g r) : Ev (fun k => if c then f k else g k) r := Ev.congr (fun k => if_neg hc) h
theorem ev_true {f g : Nat → Option α} {r : α} (h : Ev f r) : Ev (fun k => if true = true then f k else g k) r := ev_pos rfl h
theorem ev_false {f g : Nat → Option α} {r : α} (h : Ev g r) : Ev (fun k => if false = true then f k else g k) r := ev_neg (by decide) h
theorem ev_some {r : α} : Ev (fun _ => some r) r := Ev.now r
theorem ev_of {a : Option α} {r : α} (h : a = some r) : Ev (fun _ => a) r := ⟨0, fun _ _ => h⟩
theorem ev_then {a : Option α} {x : α} {f : Nat → α → Option β} {r : β} (h : a = some x) (k : Ev (fun n => f n x) r) : Ev (fun n => a.bind (f n)) r := Ev.bind (ev_of h) k
theorem ev_bool {b : Bool} {f g : Nat → Option α} {r : α} (h1 : b = true → Ev f r) (h2 : b = false → Ev g r) : Ev (fun k => if b = true then f k else g k) r := by
  cases b with
  | true => exact ev_true (h1 rfl)
  | false => exact ev_false (h2 rfl)
theorem ev_if {c : Prop} [Decidable c] {f g : Nat → Option α} {r : α} (h1 : c → Ev f r) (h2 : ¬ c → Ev g r) : Ev (fun k => if c then f k else g k) r := by
  by_cases h : c
  · exact ev_pos h (h1 h)
  · exact ev_neg h (h2 h)
theorem ev_eq {f : Nat → Option α} {r r' : α} (h : Ev f r) (e : r = r') : Ev f r' := e ▸ h
theorem ev_det {f : Nat → Option α} {r r' : α} (h : Ev f r) (h' : Ev f r') : r = r' := by
  obtain ⟨K, h⟩ := h
  obtain ⟨K', h'⟩ := h'
  have h1 := h (max K K') (Nat.le_max_left _ _)
  have h2 := h' (max K K') (Nat.le_max_right _ _)
  rw [h1] at h2
  exact Option.some.inj h2

/-- What n steps make of a state. -/
def iter (n : Nat) (next : Nat → σ → σ) (s : σ) : σ := (List.range n).foldl (fun s i => next i s) s
theorem iter_zero (next : Nat → σ → σ) (s : σ) : iter 0 next s = s := rfl
theorem iter_succ (n : Nat) (next : Nat → σ → σ) (s : σ) : iter (n + 1) next s = next n (iter n next s) := by
  unfold iter
  rw [List.range_succ, List.foldl_append]
  rfl

/-- A loop that goes up, step by step, to n. -/
theorem loop_up (g : Nat → σ → Int → Option ρ) (n : Nat) (next : Nat → σ → σ) (Inv : Nat → σ → Prop) (s0 : σ) (r : ρ)
    (h0 : Inv 0 s0) (hinv : ∀ i s, i < n → Inv i s → Inv (i + 1) (next i s))
    (hstep : ∀ (i : Nat) s r, i < n → Inv i s → Ev (fun k => g k (next i s) ((i : Int) + 1)) r → Ev (fun k => g k s (i : Int)) r)
    (hend : Inv n (iter n next s0) → Ev (fun k => g k (iter n next s0) (n : Int)) r) : Ev (fun k => g k s0 0) r := by
  have hall : ∀ i, i ≤ n → Inv i (iter i next s0) := by
    intro i
    induction i with
    | zero => intro _; exact h0
    | succ i ih => intro hi; rw [iter_succ]; exact hinv i _ (by omega) (ih (by omega))
  have key : ∀ d i, i + d = n → Ev (fun k => g k (iter i next s0) (i : Int)) r := by
    intro d
    induction d with
    | zero =>
      intro i hi
      obtain rfl : i = n := by omega
      exact hend (hall i (Nat.le_refl _))
    | succ d ih =>
      intro i hi
      refine hstep i _ r (by omega) (hall i (by omega)) ?_
      have := ih (i + 1) (by omega)
      rw [iter_succ] at this
      simpa using this
  exact key n 0 (by omega)

/-- A loop that goes up till something is found. -/
theorem loop_find (g : Nat → Int → Option ρ) (n : Nat) (p : Nat → Bool) (res : Nat → ρ) (r0 : ρ)
    (hyes : ∀ i, i < n → p i = true → Ev (fun k => g k (i : Int)) (res i))
    (hno : ∀ i r, i < n → p i = false → Ev (fun k => g k ((i : Int) + 1)) r → Ev (fun k => g k (i : Int)) r)
    (hend : Ev (fun k => g k (n : Int)) r0) : Ev (fun k => g k 0) (match (List.range n).find? p with | some i => res i | none => r0) := by
  have key : ∀ d i, i + d = n → Ev (fun k => g k (i : Int)) (match (List.range' i d).find? p with | some i => res i | none => r0) := by
    intro d
    induction d with
    | zero =>
      intro i hi
      obtain rfl : i = n := by omega
      exact hend
    | succ d ih =>
      intro i hi
      rw [List.range'_succ, List.find?_cons]
      cases hp : p i with
      | true => exact hyes i (by omega) hp
      | false => exact hno i _ (by omega) hp (by have := ih (i + 1) (by omega); simpa using this)
  have := key n 0 (by omega)
  rwa [← List.range_eq_range'] at this
/-- A loop that asks something of each. -/
theorem loop_all (g : Nat → Int → Option Bool) (n : Nat) (p : Nat → Bool)
    (hyes : ∀ i r, i < n → p i = true → Ev (fun k => g k ((i : Int) + 1)) r → Ev (fun k => g k (i : Int)) r)
    (hno : ∀ i, i < n → p i = false → Ev (fun k => g k (i : Int)) false)
    (hend : Ev (fun k => g k (n : Int)) true) : Ev (fun k => g k 0) ((List.range n).all p) := by
  have h := loop_find g n (fun i => !p i) (fun _ => false) true (fun i hi hp => hno i hi (by simpa using hp)) (fun i r hi hp h => hyes i r hi (by simpa using hp) h) hend
  refine ev_eq h ?_
  cases hf : (List.range n).find? (fun i => !p i) with
  | some i =>
    have h1 := List.find?_some hf
    have h2 := List.mem_of_find?_eq_some hf
    symm
    rw [List.all_eq_false]
    exact ⟨i, h2, by simpa using h1⟩
  | none =>
    symm
    rw [List.all_eq_true]
    intro x hx
    have := List.find?_eq_none.1 hf x hx
    simpa using this
end

/-! ### Lists by their elements -/
theorem rd_nat (l : List Int) (i : Nat) (h : i < l.length) : rd l (i : Int) = l[i] := by
  unfold rd
  simp [List.getD_eq_getElem?_getD, List.getElem?_eq_getElem h]
theorem iter_set {α : Type} (n : Nat) (f : Nat → α) (l : List α) (hl : l.length = n) : iter n (fun i (s : List α) => s.set i (f i)) l = (List.range n).map f := by
  have key : ∀ m, m ≤ n → iter m (fun i (s : List α) => s.set i (f i)) l = (List.range m).map f ++ l.drop m := by
    intro m
    induction m with
    | zero => intro _; simp [iter_zero]
    | succ m ih =>
      intro hm
      rw [iter_succ, ih (by omega)]
      apply List.ext_getElem?
      intro j
      simp only [List.getElem?_set, List.getElem?_append, List.length_map, List.length_range, List.length_append, List.length_drop, List.getElem?_map, List.getElem?_drop]
      by_cases h1 : m = j
      · subst h1
        simp
        omega
      · by_cases h2 : j < m
        · simp [h1, h2, show j < m + 1 by omega]
        · have h3 : ¬ j < m + 1 := by omega
          simp [h1, h2, h3]
          congr 1
          omega
  have := key n (Nat.le_refl _)
  rw [this, List.drop_of_length_le (by omega), List.append_nil]
theorem map_range_get {α β : Type} (l : List α) (d : α) (f : α → β) : (List.range l.length).map (fun i => f (l.getD i d)) = l.map f := by
  apply List.ext_getElem?
  intro i
  by_cases h : i < l.length
  · simp [h, List.getD_eq_getElem?_getD]
  · simp [h]
theorem all_range_eq {α : Type} [DecidableEq α] (a b : List α) (d : α) (hl : a.length = b.length) : (List.range a.length).all (fun i => decide (a.getD i d = b.getD i d)) = decide (a = b) := by
  rw [Bool.eq_iff_iff]
  simp only [List.all_eq_true, List.mem_range, decide_eq_true_eq]
  constructor
  · intro h
    apply List.ext_getElem hl
    intro i h1 h2
    have := h i h1
    simpa [List.getD_eq_getElem?_getD, h1, h2] using this
  · rintro rfl i _
    rfl
end Go.Proofs.Ytlghklbjmmijpaa.Pb
/- Whole numbers: an int's bounds, tests of an interval, what is left of a size. No condition. -/
namespace Go.Proofs.Ytlghklbjmmijpaa.Pb
open Go.RowKit Go.Proofs.Ytlghklbjmmijpaa Go.Proofs.Ytlghklbjmmijpaa.Q Go.Proofs.YtlghklbjmmijpaaW.PrintWords Go.Proofs.YtlghklbjmmijpaaW.PrintLast
set_option linter.unusedVariables false
set_option linter.unusedSimpArgs false

/-- An int holds it. -/
def I64 (n : Int) : Prop := -9223372036854775808 ≤ n ∧ n ≤ 9223372036854775807
theorem i64_of {n : Int} (h : (Lit.int .i64 n).wf = true) : I64 n := by
  simp [Lit.wf, IntKind.min, IntKind.max, IntKind.signed, IntKind.bits] at h
  exact ⟨by omega, by omega⟩

theorem within_eq (a lo hi : Int) : impl_within.f a lo hi = some (decide (lo ≤ a ∧ a ≤ hi)) := by
  unfold impl_within.f
  by_cases h : lo ≤ a
  · rw [if_pos h]; simp [h]
  · rw [if_neg h]; simp [h]
theorem l1In_eq (a lo hi : Int) : spec_l1In.f a lo hi = some (decide (lo ≤ a ∧ a ≤ hi)) := within_eq a lo hi

theorem left_big {n : Nat} (h : ¬ (if (1048576 : Int) < (n : Int) then (-1 : Int) else 1048576 - (n : Int)) < 0) : n ≤ 1048576 := by
  split at h <;> omega
end Go.Proofs.Ytlghklbjmmijpaa.Pb
/- Marking bytes and finding the marks again. No condition beyond the size that the laws ask. -/
namespace Go.Proofs.Ytlghklbjmmijpaa.Pb
open Go.RowKit Go.Proofs.Ytlghklbjmmijpaa Go.Proofs.Ytlghklbjmmijpaa.Q Go.Proofs.YtlghklbjmmijpaaW.PrintWords Go.Proofs.YtlghklbjmmijpaaW.PrintLast
set_option linter.unusedVariables false
set_option linter.unusedSimpArgs false

/-- The low bytes of a, a + 1, .., n of them. -/
def byteMarks (a : Int) (n : Nat) : List Int := (List.range n).map fun (i : Nat) => (a + (i : Int)) % 256
theorem byteMarks_length (a : Int) (n : Nat) : (byteMarks a n).length = n := by simp [byteMarks]
theorem byteMarks_rd (a : Int) (n i : Nat) (h : i < n) : rd (byteMarks a n) (i : Int) = (a + i) % 256 := by
  unfold rd byteMarks
  simp [List.getD_eq_getElem?_getD, h]
theorem markByteS_ev (l : List Int) (a : Int) (h0 : 0 ≤ a) (h1 : a + l.length ≤ 9223372036854775806) : Ev (fun k => laws_markByteS.f k l a) (a + l.length, byteMarks a l.length) := by
  unfold laws_markByteS.f
  refine loop_up (σ := List Int × Int) (fun k s i => laws_markByteS.l0 k s.1 s.2 i) l.length (fun i s => (s.1.set i (s.2 % 256), s.2 + 1)) (fun i s => s.1.length = l.length ∧ s.2 = a + i) (l, a) _ ⟨rfl, by simp⟩ ?_ ?_ ?_
  · rintro i ⟨x, y⟩ _ ⟨hx, hy⟩
    simp only at hx hy ⊢
    exact ⟨by simpa using hx, by omega⟩
  · rintro i ⟨x, y⟩ r hi ⟨hx, hy⟩ h
    simp only at hx hy h ⊢
    refine Ev.step (fun k => rfl) ?_
    refine ev_pos (by omega) (ev_pos (by omega) ?_)
    rw [w64 (x := y + 1) (by omega) (by omega), w64 (x := (i : Int) + 1) (by omega) (by omega)]
    simpa using h
  · rintro ⟨hx, hy⟩
    refine Ev.step (fun k => rfl) ?_
    refine ev_neg (by omega) (ev_eq ev_some ?_)
    have key : ∀ n, iter n (fun (i : Nat) (s : List Int × Int) => (s.1.set i (s.2 % 256), s.2 + 1)) (l, a) = (iter n (fun i (s : List Int) => s.set i ((a + (i : Int)) % 256)) l, a + (n : Int)) := by
      intro n
      induction n with
      | zero => simp [iter_zero]
      | succ n ih => rw [iter_succ, ih, iter_succ]; simp; omega
    rw [key, iter_set _ _ _ rfl]
    rfl
theorem heldByteS_ev (a : Int) (n : Nat) (h0 : 0 ≤ a) (h1 : a + n ≤ 9223372036854775806) : Ev (fun k => laws_heldByteS.f k (byteMarks a n) a) (a + n) := by
  unfold laws_heldByteS.f
  have hl := byteMarks_length a n
  refine loop_up (fun k s i => laws_heldByteS.l0 k (byteMarks a n) s i) n (fun i s => s + 1) (fun i s => s = a + i) a _ (by simp) (fun i s _ h => by omega) ?_ ?_
  · rintro i s r hi hs h
    refine Ev.step (fun k => rfl) ?_
    refine ev_pos (by omega) (ev_pos (by omega) (ev_pos (by rw [byteMarks_rd _ _ _ hi, hs]) ?_))
    rw [w64 (x := s + 1) (by omega) (by omega), w64 (by omega) (by omega)]
    exact h
  · intro hs
    refine Ev.step (fun k => rfl) ?_
    refine ev_neg (by omega) (ev_eq ev_some hs)
end Go.Proofs.Ytlghklbjmmijpaa.Pb
/- Bytes as plain lists: the laws' copies and comparisons of them. No condition beyond the size that the laws ask. -/
namespace Go.Proofs.Ytlghklbjmmijpaa.Pb
open Go.RowKit Go.Proofs.Ytlghklbjmmijpaa Go.Proofs.Ytlghklbjmmijpaa.Q Go.Proofs.YtlghklbjmmijpaaW.PrintWords Go.Proofs.YtlghklbjmmijpaaW.PrintLast
set_option linter.unusedVariables false
set_option linter.unusedSimpArgs false

theorem toByteS_ev (l : List Int) (hl : l.length ≤ 1048576) : Ev (fun k => laws_toByteS.f k l) l := by
  unfold laws_toByteS.f
  refine ev_pos (by omega) (ev_pos (by simp; omega) ?_)
  refine loop_up (fun k s i => laws_toByteS.l0 k l s i) l.length (fun i (s : List Int) => s.set i (l.getD i 0)) (fun _ s => s.length = l.length) _ l (by simp) (fun i s _ h => by simpa using h) ?_ ?_
  · intro i s r hi hs h
    refine Ev.step (fun k => rfl) ?_
    refine ev_pos (by omega) (ev_pos (by omega) (ev_pos (by omega) ?_))
    rw [w64 (by omega) (by omega)]
    simpa [rd] using h
  · intro hs
    refine Ev.step (fun k => rfl) ?_
    refine ev_neg (by omega) (ev_eq ev_some ?_)
    have h1 := iter_set l.length (fun i => l.getD i 0) (List.replicate (l.length : Int).toNat 0) (by simp)
    rw [h1]
    have h2 := map_range_get l 0 id
    simpa using h2
theorem eqByteS_ev (a b : List Int) (ha : a.length ≤ 9223372036854775806) : Ev (fun k => laws_eqByteS.f k a b) (decide (a = b)) := by
  unfold laws_eqByteS.f
  refine ev_if (fun hl => ?_) (fun hl => ev_eq ev_some ?_)
  · have hl' : a.length = b.length := by omega
    rw [← all_range_eq a b 0 hl']
    refine loop_all (fun k i => laws_eqByteS.l0 k a b i) a.length _ ?_ ?_ ?_
    · intro i r hi hp h
      refine Ev.step (fun k => rfl) ?_
      refine ev_pos (by omega) (ev_pos (by omega) (ev_pos (by omega) (ev_pos (by simpa [rd] using hp) ?_)))
      rw [w64 (by omega) (by omega)]
      exact h
    · intro i hi hp
      refine Ev.step (fun k => rfl) ?_
      exact ev_pos (by omega) (ev_pos (by omega) (ev_pos (by omega) (ev_neg (by simpa [rd] using hp) ev_some)))
    · refine Ev.step (fun k => rfl) ?_
      exact ev_neg (by omega) ev_some
  · symm
    rw [decide_eq_false_iff_not]
    rintro rfl
    exact hl rfl
end Go.Proofs.Ytlghklbjmmijpaa.Pb
/- Disks: the laws' copies of them, the size that they ask, and their comparisons. No condition beyond that size. -/
namespace Go.Proofs.Ytlghklbjmmijpaa.Pb
open Go.RowKit Go.Proofs.Ytlghklbjmmijpaa Go.Proofs.Ytlghklbjmmijpaa.Q Go.Proofs.YtlghklbjmmijpaaW.PrintWords Go.Proofs.YtlghklbjmmijpaaW.PrintLast
set_option linter.unusedVariables false
set_option linter.unusedSimpArgs false

/-- The program's own record and write out of the laws' ones. -/
def recOf_ (x : S24) : S30 := ⟨x.f0, x.f1, x.f2⟩
def putOf_ (x : S108) : S110 := ⟨x.f0, x.f1, x.f2, recOf_ x.f3⟩
/-- A size that fits: what is left of it after n is no less than nothing, or -1 says that it does not. -/
theorem szByteS_eq (l : List Int) (x : Int) (hl : l.length ≤ 9223372036854775807) (h0 : 0 ≤ x) (h1 : x ≤ 1048576) : laws_szByteS.f l x = some (if x < (l.length : Int) then (-1 : Int) else x - l.length) := by
  unfold laws_szByteS.f
  rw [w64 (by omega) (by omega)]
  by_cases r : x < (l.length : Int)
  · rw [if_pos (by omega), if_pos r]
  · rw [if_neg (by omega), if_neg r]
/-- The writes fit, each of their bytes does. -/
def PutsFit (l : List S108) : Prop := l.length ≤ 1048576 ∧ ∀ p ∈ l, p.f2.length ≤ 1048576
theorem szPutS_ev (l : List S108) (x : Int) (hl : l.length ≤ 9223372036854775807) (hb : ∀ p ∈ l, p.f2.length ≤ 9223372036854775807) (h0 : 0 ≤ x) (h1 : x ≤ 1048576) :
    ∃ r, Ev (fun k => laws_szPutS.f k l x) r ∧ r ≤ x ∧ (0 ≤ r → PutsFit l) := by
  unfold laws_szPutS.f
  rw [w64 (by omega) (by omega)]
  by_cases q : x - l.length < 0
  · exact ⟨-1, ev_pos q ev_some, by omega, by omega⟩
  have key : ∀ (d i : Nat) (y : Int), i + d = l.length → 0 ≤ y → y ≤ x → (∀ j, j < i → (l.getD j z108).f2.length ≤ 1048576) →
      ∃ r, Ev (fun k => laws_szPutS.l0 k l y (i : Int)) r ∧ r ≤ x ∧ (0 ≤ r → ∀ j, j < l.length → (l.getD j z108).f2.length ≤ 1048576) := by
    intro d
    induction d with
    | zero =>
      intro i y hi hy hx hj
      refine ⟨y, Ev.step (fun k => rfl) (ev_neg (by omega) ev_some), hx, fun _ j hj' => hj j (by omega)⟩
    | succ d ih =>
      intro i y hi hy hx hj
      have hm : (l.getD i z108) ∈ l := by
        rw [List.getD_eq_getElem?_getD, List.getElem?_eq_getElem (by omega)]
        exact List.getElem_mem _
      have e : laws_szPut.f (l.getD i z108).f0 (l.getD i z108).f1 (l.getD i z108).f2 (l.getD i z108).f3.f0 (l.getD i z108).f3.f1 (l.getD i z108).f3.f2 y = some (if y < ((l.getD i z108).f2.length : Int) then (-1 : Int) else y - (l.getD i z108).f2.length) := by
        unfold laws_szPut.f
        rw [szByteS_eq _ _ (hb _ hm) hy (by omega)]
        simp only [Option.bind_some]
        by_cases r : y < ((l.getD i z108).f2.length : Int)
        · rw [if_pos r]; rfl
        · rw [if_neg r, if_neg (by omega)]
      by_cases r : y < ((l.getD i z108).f2.length : Int)
      · refine ⟨-1, Ev.step (fun k => rfl) (ev_pos (by omega) (ev_pos (by omega) ?_)), by omega, by omega⟩
        simp only [rd_T108, Int.toNat_natCast]
        refine ev_then e ?_
        rw [if_pos r]
        exact ev_pos (by omega) ev_some
      · obtain ⟨s, h2, h3, h4⟩ := ih (i + 1) (y - (l.getD i z108).f2.length) (by omega) (by omega) (by omega) (fun j hj' => by
          by_cases z : j = i
          · subst z; omega
          · exact hj j (by omega))
        refine ⟨s, Ev.step (fun k => rfl) (ev_pos (by omega) (ev_pos (by omega) ?_)), h3, h4⟩
        simp only [rd_T108, Int.toNat_natCast]
        refine ev_then e ?_
        rw [if_neg r]
        refine ev_neg (by omega) ?_
        rw [w64 (x := (i : Int) + 1) (by omega) (by omega)]
        simpa using h2
  obtain ⟨r, h2, h3, h4⟩ := key l.length 0 (x - l.length) (by omega) (by omega) (by omega) (fun j hj => by omega)
  refine ⟨r, ev_neg q h2, h3, fun h => ⟨by omega, fun p hp => ?_⟩⟩
  obtain ⟨j, hj, rfl⟩ := List.getElem_of_mem hp
  have := h4 h j hj
  rwa [List.getD_eq_getElem?_getD, List.getElem?_eq_getElem hj] at this
/-- What fits of a disk. -/
def DiskFit (a b : List Int) (l : List S108) : Prop := a.length ≤ 1048576 ∧ b.length ≤ 1048576 ∧ PutsFit l
theorem szDisk_ev (a b : List Int) (c d e : Int) (l : List S108) (x : Int) (ha : a.length ≤ 9223372036854775807) (hb : b.length ≤ 9223372036854775807) (hl : l.length ≤ 9223372036854775807) (hp : ∀ p ∈ l, p.f2.length ≤ 9223372036854775807) (h0 : 0 ≤ x) (h1 : x ≤ 1048576) :
    ∃ r, Ev (fun k => laws_szDisk.f k a b c d e l x) r ∧ r ≤ x ∧ (0 ≤ r → DiskFit a b l) := by
  unfold laws_szDisk.f
  rw [szByteS_eq a x ha h0 h1]
  by_cases q : x < (a.length : Int)
  · rw [if_pos q]
    exact ⟨-1, ev_then rfl (ev_pos (by omega) ev_some), by omega, by omega⟩
  rw [if_neg q]
  by_cases r : x - a.length < (b.length : Int)
  · refine ⟨-1, ev_then rfl (ev_neg (by omega) ?_), by omega, by omega⟩
    rw [szByteS_eq b _ hb (by omega) (by omega), if_pos r]
    exact ev_then rfl (ev_pos (by omega) ev_some)
  obtain ⟨s, h2, h3, h4⟩ := szPutS_ev l (x - a.length - b.length) hl hp (by omega) (by omega)
  by_cases t : s < 0
  · refine ⟨-1, ev_then rfl (ev_neg (by omega) ?_), by omega, by omega⟩
    rw [szByteS_eq b _ hb (by omega) (by omega), if_neg r]
    exact ev_then rfl (ev_neg (by omega) (Ev.bind h2 (ev_pos t ev_some)))
  · refine ⟨s, ev_then rfl (ev_neg (by omega) ?_), by omega, fun h => ⟨by omega, by omega, h4 h⟩⟩
    rw [szByteS_eq b _ hb (by omega) (by omega), if_neg r]
    exact ev_then rfl (ev_neg (by omega) (Ev.bind h2 (ev_neg t ev_some)))
theorem goodPuts_len (x : S27) (g : good27 x) : x.f0.length ≤ 9223372036854775807 ∧ x.f1.length ≤ 9223372036854775807 ∧ x.f3.length ≤ 9223372036854775807 ∧ ∀ p ∈ x.f3, p.f2.length ≤ 9223372036854775807 :=
  ⟨g.1.1, g.2.1.1, g.2.2.2.1, fun p hp => (g.2.2.2.2 p hp).2.2.1.1⟩
theorem toPut_ev (p : S108) (h : p.f2.length ≤ 1048576) : Ev (fun k => laws_toPut.f k p.f0 p.f1 p.f2 p.f3.f0 p.f3.f1 p.f3.f2) (p.f0, p.f1, p.f2, p.f3.f0, p.f3.f1, p.f3.f2) := by
  unfold laws_toPut.f
  exact Ev.bind (toByteS_ev _ h) (ev_then rfl ev_some)
theorem toPutS_ev (l : List S108) (h : PutsFit l) : Ev (fun k => laws_toPutS.f k l) (l.map putOf_) := by
  obtain ⟨hl, hp⟩ := h
  unfold laws_toPutS.f
  refine ev_pos (by omega) (ev_pos (by simp; omega) ?_)
  refine loop_up (fun k s i => laws_toPutS.l0 k l s i) l.length (fun i (s : List S110) => s.set i (putOf_ (l.getD i z108))) (fun _ s => s.length = l.length) _ _ (by simp) (fun i s _ h => by simpa using h) ?_ ?_
  · intro i s r hi hs h
    refine Ev.step (fun k => rfl) ?_
    refine ev_pos (by omega) (ev_pos (by omega) ?_)
    simp only [rd_T108, Int.toNat_natCast]
    have hm : (l.getD i z108) ∈ l := by
      rw [List.getD_eq_getElem?_getD, List.getElem?_eq_getElem (by omega)]
      exact List.getElem_mem _
    refine Ev.bind (toPut_ev _ (hp _ hm)) ?_
    refine ev_pos (by omega) ?_
    rw [w64 (by omega) (by omega)]
    exact h
  · intro hs
    refine Ev.step (fun k => rfl) ?_
    refine ev_neg (by omega) (ev_eq ev_some ?_)
    rw [iter_set l.length (fun i => putOf_ (l.getD i z108)) _ (by simp)]
    exact map_range_get l _ putOf_
theorem toDisk_ev (a b : List Int) (c d e : Int) (l : List S108) (h : DiskFit a b l) : Ev (fun k => laws_toDisk.f k a b c d e l) (a, b, c, d, e, l.map putOf_) := by
  unfold laws_toDisk.f
  exact Ev.bind (toByteS_ev a h.1) (Ev.bind (toByteS_ev b h.2.1) (ev_then rfl (Ev.bind (toPutS_ev l h.2.2) ev_some)))
/-- Writes whose bytes are few. -/
def PutsOk (n : Nat) (l : List S110) : Prop := l.length ≤ n ∧ ∀ p ∈ l, p.f2.length ≤ n
theorem putsOk_map {l : List S108} (h : PutsFit l) : PutsOk 1048576 (l.map putOf_) := by
  refine ⟨by simpa using h.1, fun p hp => ?_⟩
  obtain ⟨q, hq, rfl⟩ := List.mem_map.1 hp
  exact h.2 q hq
theorem getD_mem {α : Type} {l : List α} {i : Nat} (d : α) (h : i < l.length) : l.getD i d ∈ l := by
  rw [List.getD_eq_getElem?_getD, List.getElem?_eq_getElem h]
  exact List.getElem_mem _
theorem eqRecord_refl (a b c : Int) : laws_eqRecord.f a b c a b c = some true := by
  unfold laws_eqRecord.f
  rw [if_pos rfl, if_pos rfl, if_pos rfl]
theorem eqPut_refl (p : S110) (h : p.f2.length ≤ 9223372036854775806) : Ev (fun k => laws_eqPut.f k p.f0 p.f1 p.f2 p.f3.f0 p.f3.f1 p.f3.f2 p.f0 p.f1 p.f2 p.f3.f0 p.f3.f1 p.f3.f2) true := by
  unfold laws_eqPut.f
  exact ev_pos rfl (ev_pos rfl (Ev.bind (eqByteS_ev _ _ h) (ev_pos (by simp) (ev_then (eqRecord_refl _ _ _) (ev_true ev_some)))))
theorem eqPutS_refl (l : List S110) (h : PutsOk 9223372036854775806 l) : Ev (fun k => laws_eqPutS.f k l l) true := by
  obtain ⟨hl, hp⟩ := h
  unfold laws_eqPutS.f
  refine ev_pos rfl ?_
  refine ev_eq (loop_all (fun k i => laws_eqPutS.l0 k l l i) l.length (fun _ => true) ?_ ?_ ?_) (by simp)
  · intro i r hi _ h
    refine Ev.step (fun k => rfl) ?_
    refine ev_pos (by omega) (ev_pos (by omega) (ev_pos (by omega) ?_))
    simp only [rd_T110, Int.toNat_natCast]
    refine Ev.bind (eqPut_refl _ (hp _ (getD_mem _ hi))) (ev_true ?_)
    rw [w64 (by omega) (by omega)]
    exact h
  · intro i hi hp
    cases hp
  · refine Ev.step (fun k => rfl) ?_
    exact ev_neg (by omega) ev_some
theorem putsOk_le {m n : Nat} (h : m ≤ n) {l : List S110} (g : PutsOk m l) : PutsOk n l := ⟨by have := g.1; omega, fun p hp => by have := g.2 p hp; omega⟩
theorem eqDisk_refl (a b : List Int) (c d e : Int) (l : List S110) (ha : a.length ≤ 9223372036854775806) (hb : b.length ≤ 9223372036854775806) (hl : PutsOk 9223372036854775806 l) : Ev (fun k => laws_eqDisk.f k a b c d e l a b c d e l) true := by
  unfold laws_eqDisk.f
  refine Ev.bind (eqByteS_ev a a ha) (ev_pos (by simp) (Ev.bind (eqByteS_ev b b hb) (ev_pos (by simp) ?_)))
  exact ev_then (eqRecord_refl _ _ _) (ev_true (Ev.bind (eqPutS_refl l hl) (ev_true ev_some)))
end Go.Proofs.Ytlghklbjmmijpaa.Pb
/- Marking a disk whole, with its rows of writes, and finding the marks again. No condition beyond the rows' lengths. -/
namespace Go.Proofs.Ytlghklbjmmijpaa.Pb
open Go.RowKit Go.Proofs.Ytlghklbjmmijpaa Go.Proofs.Ytlghklbjmmijpaa.Q Go.Proofs.YtlghklbjmmijpaaW.PrintWords Go.Proofs.YtlghklbjmmijpaaW.PrintLast
set_option linter.unusedVariables false
set_option linter.unusedSimpArgs false

def lens (l : List S110) : List Nat := l.map fun p => p.f2.length
def mp1 (x : Int) (n : Nat) : S110 := ⟨x, x + 1, byteMarks (x + 1 + 1) n, ⟨x + 1 + 1 + n, x + 1 + 1 + n + 1, x + 1 + 1 + n + 1 + 1⟩⟩
def putMarks : List Nat → Int → List S110
  | [], _ => []
  | n :: t, x => mp1 x n :: putMarks t (x + 1 + 1 + n + 1 + 1 + 1)
def putEnd : List Nat → Int → Int
  | [], x => x
  | n :: t, x => putEnd t (x + 1 + 1 + n + 1 + 1 + 1)
theorem putEnd_le : ∀ (l : List Nat) (x : Int), x ≤ putEnd l x
  | [], x => Int.le_refl x
  | n :: t, x => Int.le_trans (by omega) (putEnd_le t _)
theorem rd_mid (pre : List S110) (p : S110) (t : List S110) : rd_T110 (pre ++ p :: t) (pre.length : Int) = p := by
  simp only [rd_T110, Int.toNat_natCast, List.getD_eq_getElem?_getD]
  rw [List.getElem?_append_right (Nat.le_refl _), Nat.sub_self]
  rfl
theorem set_mid (pre : List S110) (p q : S110) (t : List S110) : (pre ++ p :: t).set ((pre.length : Nat) : Int).toNat q = pre ++ q :: t := by
  rw [Int.toNat_natCast, List.set_append_right (h := Nat.le_refl _), Nat.sub_self]
  rfl
theorem markPutS_key : ∀ (t pre : List S110) (x : Int), (∀ p ∈ t, p.f2.length ≤ 4194304) → 0 ≤ x → x + t.length * 4194310 ≤ 9223372036854775000 → pre.length + t.length ≤ 4194304 →
    Ev (fun k => laws_markPutS.l0 k (pre ++ t) x (pre.length : Int)) (putEnd (lens t) x, pre ++ putMarks (lens t) x) := by
  intro t
  induction t with
  | nil =>
    intro pre x _ _ _ _
    exact Ev.step (fun k => rfl) (ev_neg (by simp) (ev_eq ev_some rfl))
  | cons p t ih =>
    intro pre x hp h0 h1 h2
    have hp1 := hp p (List.mem_cons_self ..)
    simp only [List.length_cons] at h1 h2
    refine Ev.step (fun k => rfl) (ev_pos (by simp only [List.length_append, List.length_cons]; omega) (ev_pos (by omega) ?_))
    simp only [rd_mid]
    rw [w64 (x := x + 1) (by omega) (by omega), w64 (x := x + 1 + 1) (by omega) (by omega)]
    refine Ev.bind (markByteS_ev p.f2 (x + 1 + 1) (by omega) (by omega)) ?_
    simp only [set_mid]
    rw [w64 (x := x + 1 + 1 + p.f2.length + 1) (by omega) (by omega), w64 (x := x + 1 + 1 + p.f2.length + 1 + 1) (by omega) (by omega), w64 (x := x + 1 + 1 + p.f2.length + 1 + 1 + 1) (by omega) (by omega), w64 (x := (pre.length : Int) + 1) (by omega) (by omega)]
    have := ih (pre ++ [mp1 x p.f2.length]) (x + 1 + 1 + p.f2.length + 1 + 1 + 1) (fun q hq => hp q (List.mem_cons_of_mem _ hq)) (by omega) (by omega) (by simp only [List.length_append, List.length_cons, List.length_nil]; omega)
    simp only [List.append_assoc, List.singleton_append, List.length_append, List.length_cons, List.length_nil] at this
    exact this
theorem markPutS_ev (l : List S110) (x : Int) (hl : PutsOk 4194304 l) (h0 : 0 ≤ x) (h1 : x ≤ 4611686018427387904) : Ev (fun k => laws_markPutS.f k l x) (putEnd (lens l) x, putMarks (lens l) x) :=
  markPutS_key l [] x hl.2 h0 (by have := hl.1; omega) (by have := hl.1; simpa using this)
theorem heldPutS_key : ∀ (t : List Nat) (pre : List S110) (x : Int), (∀ n ∈ t, n ≤ 4194304) → 0 ≤ x → x + t.length * 4194310 ≤ 9223372036854775000 → pre.length + t.length ≤ 4194304 →
    Ev (fun k => laws_heldPutS.l0 k (pre ++ putMarks t x) x (pre.length : Int)) (putEnd t x) := by
  intro t
  induction t with
  | nil =>
    intro pre x _ _ _ _
    exact Ev.step (fun k => rfl) (ev_neg (by simp [putMarks]) (ev_eq ev_some rfl))
  | cons n t ih =>
    intro pre x hp h0 h1 h2
    have hp1 := hp n (List.mem_cons_self ..)
    simp only [List.length_cons] at h1 h2
    simp only [putMarks]
    refine Ev.step (fun k => rfl) (ev_pos (by simp only [List.length_append, List.length_cons]; omega) (ev_pos (by omega) ?_))
    simp only [rd_mid]
    simp only [mp1]
    rw [w64 (x := x + 1) (by omega) (by omega), w64 (x := x + 1 + 1) (by omega) (by omega)]
    refine ev_pos (by trivial) (ev_pos (by trivial) (Ev.bind (heldByteS_ev (x + 1 + 1) n (by omega) (by omega)) (ev_neg (by omega) ?_)))
    rw [w64 (x := x + 1 + 1 + n + 1) (by omega) (by omega), w64 (x := x + 1 + 1 + n + 1 + 1) (by omega) (by omega), w64 (x := x + 1 + 1 + n + 1 + 1 + 1) (by omega) (by omega), w64 (x := (pre.length : Int) + 1) (by omega) (by omega)]
    refine ev_pos (by trivial) (ev_pos (by trivial) (ev_pos (by trivial) ?_))
    have := ih (pre ++ [mp1 x n]) (x + 1 + 1 + n + 1 + 1 + 1) (fun q hq => hp q (List.mem_cons_of_mem _ hq)) (by omega) (by omega) (by simp only [List.length_append, List.length_cons, List.length_nil]; omega)
    simp only [List.append_assoc, List.singleton_append, List.length_append, List.length_cons, List.length_nil] at this
    exact this
theorem heldPutS_ev (t : List Nat) (x : Int) (hn : ∀ n ∈ t, n ≤ 4194304) (hl : t.length ≤ 4194304) (h0 : 0 ≤ x) (h1 : x ≤ 4611686018427387904) : Ev (fun k => laws_heldPutS.f k (putMarks t x) x) (putEnd t x) :=
  heldPutS_key t [] x hn h0 (by omega) (by simpa using hl)
theorem lens_ok {l : List S110} (h : PutsOk 4194304 l) : (∀ n ∈ lens l, n ≤ 4194304) ∧ (lens l).length ≤ 4194304 := by
  refine ⟨fun n hn => ?_, by simpa [lens] using h.1⟩
  obtain ⟨p, hp, rfl⟩ := List.mem_map.1 hn
  exact h.2 p hp
/-- Where the marks of a disk end. -/
def diskEnd (a b : List Int) (l : List S110) : Int := putEnd (lens l) (1 + a.length + b.length)
theorem diskEnd_pos (a b : List Int) (l : List S110) : ¬ diskEnd a b l < 0 := by
  have := putEnd_le (lens l) (1 + a.length + b.length)
  unfold diskEnd
  omega
theorem putEnd_ub : ∀ (l : List Nat) (x : Int), (∀ n ∈ l, n ≤ 4194304) → putEnd l x ≤ x + l.length * 4194310
  | [], x, _ => by simp [putEnd]
  | n :: t, x, h => by
    have h1 := h n (List.mem_cons_self ..)
    have h2 := putEnd_ub t (x + 1 + 1 + n + 1 + 1 + 1) (fun m hm => h m (List.mem_cons_of_mem _ hm))
    simp only [putEnd, List.length_cons]
    omega
theorem diskEnd_le (a b : List Int) (l : List S110) (ha : a.length ≤ 4194304) (hb : b.length ≤ 4194304) (hl : PutsOk 4194304 l) : diskEnd a b l ≤ 4611686018427387904 := by
  have h := putEnd_ub (lens l) (1 + a.length + b.length) (lens_ok hl).1
  have h2 := (lens_ok hl).2
  unfold diskEnd
  omega
/-- The rows of a disk that is marked. -/
def diskRows (a b : List Int) (l : List S110) : List Int × List Int × List S110 := (byteMarks 1 a.length, byteMarks (1 + a.length) b.length, putMarks (lens l) (1 + a.length + b.length))
theorem markDisk_ev (a b : List Int) (c d e : Int) (l : List S110) (ha : a.length ≤ 4194304) (hb : b.length ≤ 4194304) (hl : PutsOk 4194304 l) :
    Ev (fun k => laws_markDisk.f k a b c d e l 1) (diskEnd a b l, diskRows a b l) := by
  unfold laws_markDisk.f
  exact Ev.bind (markByteS_ev a 1 (by omega) (by omega)) (Ev.bind (markByteS_ev b (1 + a.length) (by omega) (by omega)) (Ev.bind (markPutS_ev l (1 + a.length + b.length) hl (by omega) (by omega)) ev_some))
theorem heldDisk_ev (a b : List Int) (c d e : Int) (l : List S110) (ha : a.length ≤ 4194304) (hb : b.length ≤ 4194304) (hl : PutsOk 4194304 l) :
    Ev (fun k => laws_heldDisk.f k (diskRows a b l).1 (diskRows a b l).2.1 c d e (diskRows a b l).2.2 1) (diskEnd a b l) := by
  unfold laws_heldDisk.f
  refine Ev.bind (heldByteS_ev 1 a.length (by omega) (by omega)) (ev_neg (by omega) (Ev.bind (heldByteS_ev (1 + a.length) b.length (by omega) (by omega)) (ev_neg (by omega) ?_)))
  exact Ev.bind (heldPutS_ev (lens l) (1 + a.length + b.length) (lens_ok hl).1 (lens_ok hl).2 (by omega) (by omega)) (ev_neg (diskEnd_pos a b l) ev_some)
end Go.Proofs.Ytlghklbjmmijpaa.Pb
/- Copies of disks and of writes: they come to the same. No condition beyond the rows' lengths. -/
namespace Go.Proofs.Ytlghklbjmmijpaa.Pb
open Go.RowKit Go.Proofs.Ytlghklbjmmijpaa Go.Proofs.Ytlghklbjmmijpaa.Q Go.Proofs.YtlghklbjmmijpaaW.PrintWords Go.Proofs.YtlghklbjmmijpaaW.PrintLast
set_option linter.unusedVariables false
set_option linter.unusedSimpArgs false

theorem rd_midp (pre : List S110) (p : S110) (t : List S110) : rd_T110 (pre ++ p :: t) (pre.length : Int) = p := by
  simp only [rd_T110, Int.toNat_natCast, List.getD_eq_getElem?_getD]
  rw [List.getElem?_append_right (Nat.le_refl _), Nat.sub_self]
  rfl
theorem specCopyPut_eq (a b : Int) (l : List Int) (c d e : Int) (h : l.length ≤ 4194304) : spec_l9CopyPut.f a b l c d e = some (a, b, l, c, d, e) := by
  unfold spec_l9CopyPut.f
  simp only [Option.bind_some]
  rw [if_pos (by simp only [List.length_nil]; omega), List.nil_append]
theorem implCopyPut_eq (a b : Int) (l : List Int) (c d e : Int) (h : l.length ≤ 4194304) : impl_copyPut.f a b l c d e = some (a, b, l, c, d, e) := by
  unfold impl_copyPut.f impl_cloned.f
  rw [if_pos (by omega)]
  rfl
theorem specCopy_key (a b : List Int) (c d e : Int) (u v : List Int) : ∀ (t pre : List S110), (∀ p ∈ t, p.f2.length ≤ 4194304) → pre.length + t.length ≤ 4194304 →
    Ev (fun k => spec_l9Copy.l0 k (pre.length : Int) a b c d e (pre ++ t) u v c d e pre) (u, v, c, d, e, pre ++ t) := by
  intro t
  induction t with
  | nil =>
    intro pre _ _
    exact Ev.step (fun k => rfl) (ev_neg (by simp) (ev_eq ev_some (by simp)))
  | cons p t ih =>
    intro pre hp hl
    simp only [List.length_cons] at hl
    refine Ev.step (fun k => rfl) (ev_pos (by simp only [List.length_append, List.length_cons]; omega) (ev_pos (by omega) ?_))
    simp only [rd_midp]
    refine ev_then (specCopyPut_eq _ _ _ _ _ _ (hp p (List.mem_cons_self ..))) (ev_pos (by omega) ?_)
    rw [w64 (x := (pre.length : Int) + 1) (by omega) (by omega)]
    have := ih (pre ++ [p]) (fun q hq => hp q (List.mem_cons_of_mem _ hq)) (by simp only [List.length_append, List.length_cons, List.length_nil]; omega)
    simp only [List.append_assoc, List.singleton_append, List.length_append, List.length_cons, List.length_nil] at this
    exact this
theorem specCopy_ev (a b : List Int) (c d e : Int) (l : List S110) (ha : a.length ≤ 4194304) (hb : b.length ≤ 4194304) (hl : PutsOk 4194304 l) : Ev (fun k => spec_l9Copy.f k a b c d e l) (a, b, c, d, e, l) := by
  unfold spec_l9Copy.f
  refine ev_then rfl (ev_pos (by simp only [List.length_nil]; omega) (ev_then rfl (ev_pos (by simp only [List.length_nil]; omega) ?_)))
  exact specCopy_key a b c d e a b l [] hl.2 (by simpa using hl.1)
theorem implCopy_key (c d e : Int) (u v : List Int) (n : Int) : ∀ (t pre : List S110), (∀ p ∈ t, p.f2.length ≤ 4194304) → pre.length + t.length ≤ 4194304 → n = (pre.length : Int) + t.length →
    Ev (fun k => impl_copyDisk.l0 k (pre ++ t) n (pre.length : Int) u v c d e pre) (u, v, c, d, e, pre ++ t) := by
  intro t
  induction t with
  | nil =>
    intro pre _ _ hn
    exact Ev.step (fun k => rfl) (ev_neg (by simp only [List.length_nil] at hn; omega) (ev_eq ev_some (by simp)))
  | cons p t ih =>
    intro pre hp hl hn
    simp only [List.length_cons] at hl hn
    refine Ev.step (fun k => rfl) (ev_pos (by omega) (ev_pos (by omega) (ev_pos (by simp only [List.length_append, List.length_cons]; omega) ?_)))
    simp only [rd_midp]
    refine ev_then (implCopyPut_eq _ _ _ _ _ _ (hp p (List.mem_cons_self ..))) (ev_pos (by omega) ?_)
    rw [w64 (x := (pre.length : Int) + 1) (by omega) (by omega)]
    have := ih (pre ++ [p]) (fun q hq => hp q (List.mem_cons_of_mem _ hq)) (by simp only [List.length_append, List.length_cons, List.length_nil]; omega) (by simp only [List.length_append, List.length_cons, List.length_nil]; omega)
    simp only [List.append_assoc, List.singleton_append, List.length_append, List.length_cons, List.length_nil] at this
    exact this
theorem implCopy_ev (a b : List Int) (c d e : Int) (l : List S110) (ha : a.length ≤ 4194304) (hb : b.length ≤ 4194304) (hl : PutsOk 4194304 l) : Ev (fun k => impl_copyDisk.f k a b c d e l) (a, b, c, d, e, l) := by
  unfold impl_copyDisk.f impl_cloned.f
  rw [if_pos (by omega), if_pos (by omega)]
  exact ev_then rfl (ev_then rfl (implCopy_key c d e a b l.length l [] hl.2 (by simpa using hl.1) (by simp)))
end Go.Proofs.Ytlghklbjmmijpaa.Pb
/- What disks are good: records, writes, the disk whole. No condition beyond the rows' lengths. -/
namespace Go.Proofs.Ytlghklbjmmijpaa.Pb
open Go.RowKit Go.Proofs.Ytlghklbjmmijpaa Go.Proofs.Ytlghklbjmmijpaa.Q Go.Proofs.YtlghklbjmmijpaaW.PrintWords Go.Proofs.YtlghklbjmmijpaaW.PrintLast
set_option linter.unusedVariables false
set_option linter.unusedSimpArgs false

theorem not_dec {p : Prop} [Decidable p] (h : ¬ p) : ¬ (decide p = true) := fun e => h (of_decide_eq_true e)
def recordOk (a b c : Int) : Bool := decide (0 ≤ a ∧ a ≤ 1000000 ∧ 0 ≤ b ∧ b ≤ 1 ∧ 0 ≤ c ∧ c ≤ 240)
theorem specRecord_eq (a b c : Int) : spec_l9Record.f a b c = some (recordOk a b c) := by
  unfold spec_l9Record.f recordOk
  simp only [l1In_eq, Option.bind_some]
  by_cases h1 : 0 ≤ a ∧ a ≤ 1000000
  · rw [if_pos (decide_eq_true h1)]
    by_cases h2 : 0 ≤ b ∧ b ≤ 1
    · rw [if_pos (decide_eq_true h2)]
      exact congrArg some (decide_eq_decide.2 (by omega))
    · rw [if_neg (not_dec h2)]
      exact congrArg some (decide_eq_false (by omega)).symm
  · rw [if_neg (not_dec h1)]
    exact congrArg some (decide_eq_false (by omega)).symm
theorem implIsSlot_eq (a : Int) : impl_isSlot.f a = some (decide (0 ≤ a ∧ a ≤ 1)) := by
  unfold impl_isSlot.f
  by_cases h : a = 0
  · rw [if_pos h]
    exact congrArg some (decide_eq_true (by omega)).symm
  · rw [if_neg h]
    refine congrArg some ?_
    by_cases h' : a = 1
    · subst h'; rfl
    · rw [decide_eq_false (by omega)]
      exact beq_eq_false_iff_ne.mpr h'
theorem implRecord_eq (a b c : Int) : impl_isRecord.f a b c = some (recordOk a b c) := by
  unfold impl_isRecord.f impl_isGen.f recordOk
  simp only [within_eq, implIsSlot_eq, Option.bind_some]
  by_cases h1 : 0 ≤ a ∧ a ≤ 1000000
  · rw [if_pos (decide_eq_true h1)]
    by_cases h2 : 0 ≤ b ∧ b ≤ 1
    · rw [if_pos (decide_eq_true h2)]
      exact congrArg some (decide_eq_decide.2 (by omega))
    · rw [if_neg (not_dec h2)]
      exact congrArg some (decide_eq_false (by omega)).symm
  · rw [if_neg (not_dec h1)]
    exact congrArg some (decide_eq_false (by omega)).symm
def putOk (p : S110) : Bool := if p.f0 = 2 then (decide (p.f1 = 0 ∧ p.f2.length = 0) && recordOk p.f3.f0 p.f3.f1 p.f3.f2) else decide (0 ≤ p.f0 ∧ p.f0 ≤ 1 ∧ 0 ≤ p.f1 ∧ p.f1 + p.f2.length ≤ 240 ∧ p.f3.f0 = 0 ∧ p.f3.f1 = 0 ∧ p.f3.f2 = 0)
theorem zero3 (a b c : Int) : (a == 0 && (b == 0 && (c == 0))) = decide (a = 0 ∧ b = 0 ∧ c = 0) := by
  by_cases h1 : a = 0 <;> by_cases h2 : b = 0 <;> by_cases h3 : c = 0 <;> simp [h1, h2, h3]
theorem specPut_eq (p : S110) (hl : p.f2.length ≤ 9223372036854775807) : spec_l9Put.f p.f0 p.f1 p.f2 p.f3.f0 p.f3.f1 p.f3.f2 = some (putOk p) := by
  unfold spec_l9Put.f putOk
  simp only [l1In_eq, specRecord_eq, zero3, Option.bind_some]
  by_cases h : p.f0 = 2
  · rw [if_pos h, if_pos h]
    by_cases h1 : p.f1 = 0
    · rw [if_pos h1]
      by_cases h2 : p.f2.length = 0
      · rw [if_pos (by omega), decide_eq_true ⟨h1, h2⟩]; rfl
      · rw [if_neg (by omega), decide_eq_false (by omega)]; rfl
    · rw [if_neg h1, decide_eq_false (by omega)]; rfl
  · rw [if_neg h, if_neg h]
    by_cases h1 : 0 ≤ p.f0 ∧ p.f0 ≤ 1
    · rw [if_pos (decide_eq_true h1)]
      by_cases h2 : 0 ≤ p.f1 ∧ p.f1 ≤ 240
      · rw [if_pos (decide_eq_true h2), w64 (by omega) (by omega)]
        by_cases h3 : (p.f2.length : Int) ≤ 240 - p.f1
        · rw [if_pos h3]
          exact congrArg some (decide_eq_decide.2 (by omega))
        · rw [if_neg h3]
          exact congrArg some (decide_eq_false (by omega)).symm
      · rw [if_neg (not_dec h2)]
        exact congrArg some (decide_eq_false (by omega)).symm
    · rw [if_neg (not_dec h1)]
      exact congrArg some (decide_eq_false (by omega)).symm
theorem implPut_eq (p : S110) (hl : p.f2.length ≤ 9223372036854775807) : impl_isPut.f p.f0 p.f1 p.f2 p.f3.f0 p.f3.f1 p.f3.f2 = some (putOk p) := by
  unfold impl_isPut.f putOk
  simp only [within_eq, implIsSlot_eq, implRecord_eq, zero3, Option.bind_some]
  by_cases h : p.f0 = 2
  · rw [if_pos h, if_pos h]
    by_cases h1 : p.f1 = 0
    · rw [if_pos h1]
      by_cases h2 : p.f2.length = 0
      · rw [if_pos (by omega), decide_eq_true ⟨h1, h2⟩]; rfl
      · rw [if_neg (by omega), decide_eq_false (by omega)]; rfl
    · rw [if_neg h1, decide_eq_false (by omega)]; rfl
  · rw [if_neg h, if_neg h]
    by_cases h1 : 0 ≤ p.f0 ∧ p.f0 ≤ 1
    · rw [if_pos (decide_eq_true h1)]
      by_cases h2 : p.f3.f0 = 0 ∧ p.f3.f1 = 0 ∧ p.f3.f2 = 0
      · rw [if_pos (decide_eq_true h2), w64 (by omega) (by omega)]
        exact congrArg some (decide_eq_decide.2 (by omega))
      · rw [if_neg (not_dec h2)]
        exact congrArg some (decide_eq_false (by omega)).symm
    · rw [if_neg (not_dec h1)]
      exact congrArg some (decide_eq_false (by omega)).symm
def slotOf (a b : List Int) (s : Int) : List Int := if s = 0 then a else b
def putsOk (l : List S110) : Bool := (List.range l.length).all (fun i => putOk (l.getD i z110))
def diskOk (a b : List Int) (c d e : Int) (l : List S110) : Bool := decide (a.length ≤ 240 ∧ b.length ≤ 240 ∧ l.length ≤ 200 ∧ e ≤ (slotOf a b d).length) && (recordOk c d e && putsOk l)
theorem diskOk_false {a b : List Int} {c d e : Int} {l : List S110} (h : ¬ (a.length ≤ 240 ∧ b.length ≤ 240 ∧ l.length ≤ 200 ∧ e ≤ (slotOf a b d).length)) : false = diskOk a b c d e l := by
  unfold diskOk
  rw [decide_eq_false h]; rfl
theorem diskOk_rec {a b : List Int} {c d e : Int} {l : List S110} (h : recordOk c d e = false) : false = diskOk a b c d e l := by
  unfold diskOk
  rw [h, Bool.false_and, Bool.and_false]
theorem diskOk_puts {a b : List Int} {c d e : Int} {l : List S110} (h : a.length ≤ 240 ∧ b.length ≤ 240 ∧ l.length ≤ 200 ∧ e ≤ (slotOf a b d).length) (h' : recordOk c d e = true) : putsOk l = diskOk a b c d e l := by
  unfold diskOk
  rw [decide_eq_true h, h', Bool.true_and, Bool.true_and]
theorem lslot_yes {d : Int} (h : d = 1) : spec_l9Slot.f d 1 = some () := if_pos (Or.inl ⟨h, rfl⟩)
theorem lslot_no {d : Int} (h : ¬ d = 1) : spec_l9Slot.f d 0 = some () := if_pos (Or.inr ⟨h, rfl⟩)
theorem slotOf_one {a b : List Int} {d : Int} (h : d = 1) : slotOf a b d = b := if_neg (by omega)
theorem slotOf_other {a b : List Int} {c d e : Int} (r : recordOk c d e = true) (h : ¬ d = 1) : slotOf a b d = a := if_pos (by have := of_decide_eq_true r; omega)
theorem specDiskOk_ev (a b : List Int) (c d e : Int) (l : List S110) (hl : PutsOk 4194304 l) : Ev (fun k => spec_DiskOk.f k a b c d e l) (diskOk a b c d e l) := by
  have badE : Ev (fun k => spec_DiskOk.j0 k true a b c d e l) false := Ev.step (fun k => rfl) (ev_true (g := fun k => spec_DiskOk.l0 k 0 a b c d e l) ev_some)
  have loop : Ev (fun k => spec_DiskOk.l0 k 0 a b c d e l) (putsOk l) := by
    refine loop_all (fun k i => spec_DiskOk.l0 k i a b c d e l) l.length (fun i => putOk (l.getD i z110)) ?_ ?_ ?_
    · intro i r hi hp h
      refine Ev.step (fun k => rfl) (ev_pos (by omega) (ev_pos (by omega) ?_))
      simp only [rd_T110, Int.toNat_natCast]
      refine ev_then (specPut_eq _ (by have := hl.2 _ (getD_mem z110 hi); omega)) (ev_pos hp ?_)
      rw [w64 (by have := hl.1; omega) (by have := hl.1; omega)]
      exact h
    · intro i hi hp
      refine Ev.step (fun k => rfl) (ev_pos (by omega) (ev_pos (by omega) ?_))
      simp only [rd_T110, Int.toNat_natCast]
      exact ev_then (specPut_eq _ (by have := hl.2 _ (getD_mem z110 hi); omega)) (ev_neg (by rw [hp]; decide) ev_some)
    · exact Ev.step (fun k => rfl) (ev_neg (by omega) ev_some)
  unfold spec_DiskOk.f
  by_cases h1 : (a.length : Int) > 240
  · exact ev_pos h1 (ev_eq badE (diskOk_false (by omega)))
  refine ev_neg h1 ?_
  by_cases h2 : (b.length : Int) > 240
  · exact ev_pos h2 (ev_eq badE (diskOk_false (by omega)))
  refine ev_neg h2 (ev_then (specRecord_eq c d e) ?_)
  by_cases h3 : recordOk c d e = true
  · refine ev_pos h3 ?_
    have rest : ∀ n : List Int, slotOf a b d = n → Ev (fun k => if e > (n.length : Int) then spec_DiskOk.j0 k true a b c d e l else spec_DiskOk.j0 k (decide ((l.length : Int) > 200)) a b c d e l) (diskOk a b c d e l) := by
      intro n hs
      by_cases h4 : e > (n.length : Int)
      · exact ev_pos h4 (ev_eq badE (diskOk_false (by rw [hs]; omega)))
      refine ev_neg h4 (Ev.step (fun k => rfl) ?_)
      by_cases h5 : (l.length : Int) > 200
      · exact ev_pos (decide_eq_true h5) (ev_eq ev_some (diskOk_false (by omega)))
      · exact ev_neg (not_dec h5) (ev_eq loop (diskOk_puts (by rw [hs]; omega) h3))
    by_cases q : d = 1
    · exact ev_pos q (ev_then (lslot_yes q) (rest b (slotOf_one q)))
    · exact ev_neg q (ev_then (lslot_no q) (rest a (slotOf_other h3 q)))
  · exact ev_neg h3 (ev_eq badE (diskOk_rec (by simpa using h3)))
theorem implPutsBad_ev (l : List S110) (hl : PutsOk 4194304 l) : Ev (fun k => impl_Put_121.f k l) (!putsOk l) := by
  have one : ∀ i, i < l.length → impl_DiskOk_1.f (l.getD i z110).f0 (l.getD i z110).f1 (l.getD i z110).f2 (l.getD i z110).f3.f0 (l.getD i z110).f3.f1 (l.getD i z110).f3.f2 = some (!putOk (l.getD i z110)) := by
    intro i hi
    unfold impl_DiskOk_1.f
    rw [implPut_eq _ (by have := hl.2 _ (getD_mem z110 hi); omega)]
    rfl
  have h := loop_find (fun k i => impl_Put_146.l0 k l (l.length : Int) i) l.length (fun i => !putOk (l.getD i z110)) (fun i => (i : Int)) (-1) (fun i hi hp => by
      refine Ev.step (fun k => rfl) (ev_pos (by omega) (ev_pos (by omega) (ev_pos (by omega) ?_)))
      simp only [rd_T110, Int.toNat_natCast]
      exact ev_then (one i hi) (ev_pos hp ev_some)) (fun i r hi hp h => by
      refine Ev.step (fun k => rfl) (ev_pos (by omega) (ev_pos (by omega) (ev_pos (by omega) ?_)))
      simp only [rd_T110, Int.toNat_natCast]
      refine ev_then (one i hi) (ev_neg (by rw [hp]; decide) ?_)
      rw [w64 (by have := hl.1; omega) (by have := hl.1; omega)]
      exact h) (Ev.step (fun k => rfl) (ev_neg (by omega) ev_some))
  unfold impl_Put_121.f impl_Put_146.f
  refine Ev.bind h (ev_eq ev_some ?_)
  unfold putsOk
  cases hf : (List.range l.length).find? (fun i => !putOk (l.getD i z110)) with
  | some i =>
    have h1 := List.find?_some hf
    have h2 := List.mem_of_find?_eq_some hf
    have h3 : (List.range l.length).all (fun i => putOk (l.getD i z110)) = false := by
      rw [List.all_eq_false]
      exact ⟨i, h2, by simpa using h1⟩
    rw [h3]
    exact decide_eq_true (Int.natCast_nonneg i)
  | none =>
    have h3 : (List.range l.length).all (fun i => putOk (l.getD i z110)) = true := by
      rw [List.all_eq_true]
      intro x hx
      have := List.find?_eq_none.1 hf x hx
      simpa using this
    rw [h3]
    rfl
theorem slot_yes {d : Int} (h : d = 0) : impl_Disk_slot.f d 0 = some () := if_pos (Or.inl ⟨h, rfl⟩)
theorem slot_no {d : Int} (h : ¬ d = 0) : impl_Disk_slot.f d 1 = some () := if_pos (Or.inr ⟨h, rfl⟩)
theorem implDiskOk_ev (a b : List Int) (c d e : Int) (l : List S110) (hl : PutsOk 4194304 l) : Ev (fun k => impl_DiskOk.f k a b c d e l) (diskOk a b c d e l) := by
  unfold impl_DiskOk.f
  by_cases h1 : (a.length : Int) > 240
  · exact ev_pos h1 (ev_eq ev_some (diskOk_false (by omega)))
  refine ev_neg h1 ?_
  by_cases h2 : (b.length : Int) > 240
  · exact ev_pos h2 (ev_eq ev_some (diskOk_false (by omega)))
  refine ev_neg h2 (ev_then (implRecord_eq c d e) ?_)
  by_cases h3 : recordOk c d e = true
  · refine ev_pos h3 ?_
    have puts : (a.length ≤ 240 ∧ b.length ≤ 240 ∧ l.length ≤ 200 ∧ e ≤ (slotOf a b d).length) → Ev (fun k => (impl_Put_121.f k l).bind fun t => some (!t)) (diskOk a b c d e l) :=
      fun h => Ev.bind (implPutsBad_ev l hl) (ev_eq ev_some (by rw [Bool.not_not]; exact diskOk_puts h h3))
    by_cases h4 : d = 0
    · have hs : slotOf a b d = a := if_pos h4
      refine ev_pos h4 (ev_then (slot_yes h4) ?_)
      by_cases h5 : e > (a.length : Int)
      · exact ev_pos h5 (ev_eq ev_some (diskOk_false (by rw [hs]; omega)))
      refine ev_neg h5 ?_
      by_cases h6 : (l.length : Int) ≤ 200
      · exact ev_pos h6 (puts (by rw [hs]; omega))
      · exact ev_neg h6 (ev_eq ev_some (diskOk_false (by omega)))
    · have hs : slotOf a b d = b := if_neg h4
      refine ev_neg h4 (ev_then (slot_no h4) ?_)
      by_cases h5 : e > (b.length : Int)
      · exact ev_pos h5 (ev_eq ev_some (diskOk_false (by rw [hs]; omega)))
      refine ev_neg h5 ?_
      by_cases h6 : (l.length : Int) ≤ 200
      · exact ev_pos h6 (puts (by rw [hs]; omega))
      · exact ev_neg h6 (ev_eq ev_some (diskOk_false (by omega)))
  · exact ev_neg h3 (ev_eq ev_some (diskOk_rec (by simpa using h3)))
end Go.Proofs.Ytlghklbjmmijpaa.Pb
/- A write added to a disk's writes: the program's and the reference's come to the same. No condition beyond the rows' lengths. -/
namespace Go.Proofs.Ytlghklbjmmijpaa.Pb
open Go.RowKit Go.Proofs.Ytlghklbjmmijpaa Go.Proofs.Ytlghklbjmmijpaa.Q Go.Proofs.YtlghklbjmmijpaaW.PrintWords Go.Proofs.YtlghklbjmmijpaaW.PrintLast
set_option linter.unusedVariables false
set_option linter.unusedSimpArgs false

/-- The disk with one write more, if that is good. -/
def added (a b : List Int) (c d e : Int) (l : List S110) (p : S110) : List Int × List Int × Int × Int × Int × List S110 × Bool :=
  if diskOk a b c d e (l ++ [p]) = true then (a, b, c, d, e, l ++ [p], true) else (a, b, c, d, e, l, false)
theorem putsOk_add {n : Nat} {l : List S110} {p : S110} (h : PutsOk n l) (hp : p.f2.length ≤ n + 1) : PutsOk (n + 1) (l ++ [p]) := by
  refine ⟨by simpa using h.1, fun q hq => ?_⟩
  rcases List.mem_append.1 hq with h1 | h1
  · have := h.2 q h1; omega
  · rw [List.mem_singleton] at h1
    subst h1
    exact hp
theorem added_len (a b : List Int) (c d e : Int) (l : List S110) (p : S110) {n : Nat} (ha : a.length ≤ n) (hb : b.length ≤ n) (hl : PutsOk n l) (hp : p.f2.length ≤ n + 1) : (added a b c d e l p).1.length ≤ n ∧ (added a b c d e l p).2.1.length ≤ n ∧ PutsOk (n + 1) (added a b c d e l p).2.2.2.2.2.1 := by
  unfold added
  split
  · exact ⟨ha, hb, putsOk_add hl hp⟩
  · exact ⟨ha, hb, putsOk_le (by omega) hl⟩
theorem specAdd_ev (a b : List Int) (c d e : Int) (l : List S110) (p : S110) (ha : a.length ≤ 1048576) (hb : b.length ≤ 1048576) (hl : PutsOk 1048576 l) (hp : p.f2.length ≤ 1048576) :
    Ev (fun k => spec_l9Add.f k a b c d e l p.f0 p.f1 p.f2 p.f3.f0 p.f3.f1 p.f3.f2) (added a b c d e l p) := by
  unfold spec_l9Add.f added
  have hc := specCopy_ev a b c d e l (by omega) (by omega) (putsOk_le (by omega) hl)
  refine Ev.bind hc (ev_then (specCopyPut_eq _ _ _ _ _ _ (by omega)) (ev_pos (by have := hl.1; simp only; omega) (ev_then rfl ?_)))
  refine Ev.bind (specDiskOk_ev a b c d e (l ++ [p]) (putsOk_le (by omega) (putsOk_add (p := p) hl (by omega)))) (ev_if (fun h => ev_eq ev_some (by rw [if_pos h])) (fun h => ?_))
  rw [if_neg h]
  exact Ev.bind hc ev_some
theorem implAdd_ev (a b : List Int) (c d e : Int) (l : List S110) (p : S110) (ha : a.length ≤ 1048576) (hb : b.length ≤ 1048576) (hl : PutsOk 1048576 l) (hp : p.f2.length ≤ 1048576) :
    Ev (fun k => impl_Disk_with.f k a b c d e l p.f0 p.f1 p.f2 p.f3.f0 p.f3.f1 p.f3.f2) (added a b c d e l p) := by
  unfold impl_Disk_with.f added
  have hc := implCopy_ev a b c d e l (by omega) (by omega) (putsOk_le (by omega) hl)
  refine Ev.bind hc (ev_then (implCopyPut_eq _ _ _ _ _ _ (by omega)) (ev_pos (by have := hl.1; simp only; omega) (ev_then rfl ?_)))
  refine Ev.bind (implDiskOk_ev a b c d e (l ++ [p]) (putsOk_le (by omega) (putsOk_add (p := p) hl (by omega)))) (ev_if (fun h => ev_eq ev_some (by rw [if_pos h])) (fun h => ?_))
  rw [if_neg h]
  exact Ev.bind hc ev_some
end Go.Proofs.Ytlghklbjmmijpaa.Pb
/- A write to a slot added to a disk's writes: the program's and the reference's come to the same. No condition beyond the rows' lengths. -/
namespace Go.Proofs.Ytlghklbjmmijpaa.Pb
open Go.RowKit Go.Proofs.Ytlghklbjmmijpaa Go.Proofs.Ytlghklbjmmijpaa.Q Go.Proofs.YtlghklbjmmijpaaW.PrintWords Go.Proofs.YtlghklbjmmijpaaW.PrintLast
set_option linter.unusedVariables false
set_option linter.unusedSimpArgs false

def putBytes (a b : List Int) (c d e : Int) (l : List S110) (s t : Int) (x : List Int) : List Int × List Int × Int × Int × Int × List S110 × Bool :=
  if 0 ≤ s ∧ s ≤ 1 then added a b c d e l ⟨s, t, x, ⟨0, 0, 0⟩⟩ else (a, b, c, d, e, l, false)
theorem specPutBytes_ev (a b : List Int) (c d e : Int) (l : List S110) (s t : Int) (x : List Int) (ha : a.length ≤ 1048576) (hb : b.length ≤ 1048576) (hl : PutsOk 1048576 l) (hx : x.length ≤ 1048576) :
    Ev (fun k => spec_PutBytes.f k a b c d e l s t x) (putBytes a b c d e l s t x) := by
  unfold spec_PutBytes.f putBytes
  refine ev_then (l1In_eq s 0 1) ?_
  by_cases h : 0 ≤ s ∧ s ≤ 1
  · rw [if_pos h]
    exact ev_pos (decide_eq_true h) (Ev.bind (specAdd_ev a b c d e l ⟨s, t, x, ⟨0, 0, 0⟩⟩ ha hb hl hx) ev_some)
  · rw [if_neg h]
    exact ev_neg (not_dec h) (Ev.bind (specCopy_ev a b c d e l (by omega) (by omega) (putsOk_le (by omega) hl)) ev_some)
theorem implPutBytes_ev (a b : List Int) (c d e : Int) (l : List S110) (s t : Int) (x : List Int) (ha : a.length ≤ 1048576) (hb : b.length ≤ 1048576) (hl : PutsOk 1048576 l) (hx : x.length ≤ 1048576) :
    Ev (fun k => impl_PutBytes.f k a b c d e l s t x) (putBytes a b c d e l s t x) := by
  unfold impl_PutBytes.f putBytes
  refine ev_then (implIsSlot_eq s) ?_
  by_cases h : 0 ≤ s ∧ s ≤ 1
  · rw [if_pos h]
    exact ev_pos (decide_eq_true h) (Ev.bind (implAdd_ev a b c d e l ⟨s, t, x, ⟨0, 0, 0⟩⟩ ha hb hl hx) ev_some)
  · rw [if_neg h]
    exact ev_neg (not_dec h) (Ev.bind (implCopy_ev a b c d e l (by omega) (by omega) (putsOk_le (by omega) hl)) ev_some)
theorem putBytes_len (a b : List Int) (c d e : Int) (l : List S110) (s t : Int) (x : List Int) {n : Nat} (ha : a.length ≤ n) (hb : b.length ≤ n) (hl : PutsOk n l) (hx : x.length ≤ n + 1) : (putBytes a b c d e l s t x).1.length ≤ n ∧ (putBytes a b c d e l s t x).2.1.length ≤ n ∧ PutsOk (n + 1) (putBytes a b c d e l s t x).2.2.2.2.2.1 := by
  unfold putBytes
  split
  · exact added_len a b c d e l _ ha hb hl hx
  · exact ⟨ha, hb, putsOk_le (by omega) hl⟩
end Go.Proofs.Ytlghklbjmmijpaa.Pb
/- Sizes of blocks, how many there are, where each lies. No condition. -/
namespace Go.Proofs.Ytlghklbjmmijpaa.Pb
open Go.RowKit Go.Proofs.Ytlghklbjmmijpaa Go.Proofs.Ytlghklbjmmijpaa.Q Go.Proofs.YtlghklbjmmijpaaW.PrintWords Go.Proofs.YtlghklbjmmijpaaW.PrintLast
set_option linter.unusedVariables false
set_option linter.unusedSimpArgs false

def sizeOk (a b : Int) : Bool := decide (2 ≤ a ∧ a ≤ 6) && decide (0 ≤ b ∧ b ≤ 40 * a)
theorem specSizeOk_eq (a b : Int) : spec_SizeOk.f a b = some (sizeOk a b) := by
  unfold spec_SizeOk.f sizeOk
  rw [l1In_eq]
  simp only [Option.bind_some]
  by_cases h : 2 ≤ a ∧ a ≤ 6
  · rw [if_pos (by simpa using h), l1In_eq, w64 (by omega) (by omega)]
    simp [h, Int.mul_comm]
  · rw [if_neg (by simpa using h)]
    simp [h]
theorem implSizeOk_eq (a b : Int) : impl_SizeOk.f a b = some (sizeOk a b) := by
  unfold impl_SizeOk.f sizeOk
  rw [within_eq]
  simp only [Option.bind_some]
  by_cases h : 2 ≤ a ∧ a ≤ 6
  · rw [if_pos (by simpa using h), within_eq, w64 (by omega) (by omega)]
    simp [h, Int.mul_comm]
  · rw [if_neg (by simpa using h)]
    simp [h]
theorem sizeOk_iff {a b : Int} : sizeOk a b = true ↔ (2 ≤ a ∧ a ≤ 6) ∧ 0 ≤ b ∧ b ≤ 40 * a := by simp [sizeOk, and_assoc]
def blocks (a b : Int) : Int := if sizeOk a b = true then (b + a - 1) / a else 0
theorem ceil_le {a b : Int} (h : (2 ≤ a ∧ a ≤ 6) ∧ 0 ≤ b ∧ b ≤ 40 * a) : 0 ≤ (b + a - 1) / a ∧ (b + a - 1) / a ≤ 40 := by
  constructor
  · exact Int.ediv_nonneg (by omega) (by omega)
  · have : (b + a - 1) / a < 41 := by
      apply Int.ediv_lt_of_lt_mul (by omega)
      omega
    omega
theorem specBlocks_eq (a b : Int) : spec_Blocks.f a b = some (blocks a b) := by
  unfold spec_Blocks.f blocks
  rw [specSizeOk_eq]
  simp only [Option.bind_some]
  by_cases h : sizeOk a b = true
  · have h' := sizeOk_iff.1 h
    have c := ceil_le h'
    rw [if_pos h, if_pos h]
    unfold spec_CeilDiv.f
    rw [l1In_eq]
    simp only [Option.bind_some]
    rw [if_pos (by simp; omega), l1In_eq]
    simp only [Option.bind_some]
    rw [if_pos (by simp; omega), if_neg (by omega), w64 (x := b + a) (by omega) (by omega), w64 (x := b + a - 1) (by omega) (by omega), Int.tdiv_eq_ediv_of_nonneg (by omega), w64 (by omega) (by omega)]
    rfl
  · rw [if_neg h, if_neg h]
theorem implBlocks_eq (a b : Int) : impl_Blocks.f a b = some (blocks a b) := by
  unfold impl_Blocks.f blocks
  rw [implSizeOk_eq]
  simp only [Option.bind_some]
  by_cases h : sizeOk a b = true
  · have h' := sizeOk_iff.1 h
    have c := ceil_le h'
    rw [if_pos h, if_pos h]
    unfold impl_CeilDiv.f
    rw [within_eq]
    simp only [Option.bind_some]
    rw [if_pos (by simp; omega), within_eq]
    simp only [Option.bind_some]
    rw [if_pos (by simp; omega), if_neg (by omega), w64 (x := b + a) (by omega) (by omega), w64 (x := b + a - 1) (by omega) (by omega), Int.tdiv_eq_ediv_of_nonneg (by omega), w64 (by omega) (by omega)]
    rfl
  · rw [if_neg h, if_neg h]
theorem blocks_range (a b : Int) : 0 ≤ blocks a b ∧ blocks a b ≤ 40 := by
  unfold blocks
  split
  · rename_i h
    exact ceil_le (sizeOk_iff.1 h)
  · omega
theorem blocks_pos {a b : Int} (h : 0 < blocks a b) : (2 ≤ a ∧ a ≤ 6) ∧ 0 ≤ b ∧ b ≤ 40 * a := by
  unfold blocks at h
  split at h
  · rename_i q
    exact sizeOk_iff.1 q
  · omega
/-- Where a block lies, and how long it is. -/
def spanOf (a b i : Int) : Int × Int := if 0 ≤ i ∧ i ≤ blocks a b - 1 then (i * a, if b - i * a < a then b - i * a else a) else (0, 0)
theorem span_at {a b i : Int} (h : 0 ≤ i ∧ i ≤ blocks a b - 1) : 0 ≤ i * a ∧ i * a < b ∧ b ≤ 240 ∧ 2 ≤ a ∧ a ≤ 6 := by
  have q := blocks_pos (a := a) (b := b) (by omega)
  have e : blocks a b = (b + a - 1) / a := by
    unfold blocks
    rw [if_pos (sizeOk_iff.2 q)]
  rw [e] at h
  have m : (b + a - 1) / a * a ≤ b + a - 1 := Int.ediv_mul_le _ (by omega)
  have m2 : (i + 1) * a ≤ (b + a - 1) / a * a := Int.mul_le_mul_of_nonneg_right (by omega) (by omega)
  have m3 : 0 ≤ i * a := Int.mul_nonneg h.1 (by omega)
  rw [Int.add_mul] at m2
  omega
theorem spanOf_range (a b i : Int) : 0 ≤ (spanOf a b i).1 ∧ (spanOf a b i).1 ≤ 240 ∧ 0 ≤ (spanOf a b i).2 ∧ (spanOf a b i).2 ≤ 6 ∧ (spanOf a b i).1 + (spanOf a b i).2 ≤ 240 := by
  unfold spanOf
  split
  · rename_i h
    have := span_at h
    simp only
    split <;> omega
  · simp
theorem specSpanOf_eq (a b i : Int) : spec_SpanOf.f a b i = some (spanOf a b i) := by
  unfold spec_SpanOf.f spanOf
  have r := blocks_range a b
  rw [specBlocks_eq]
  simp only [Option.bind_some]
  rw [w64 (x := blocks a b - 1) (by omega) (by omega), l1In_eq]
  simp only [Option.bind_some]
  by_cases h : 0 ≤ i ∧ i ≤ blocks a b - 1
  · have s := span_at h
    rw [if_pos (by simpa using h), if_pos h, w64 (x := i * a) (by omega) (by omega), w64 (x := b - i * a) (by omega) (by omega)]
    unfold spec_Least.f
    split <;> simp
  · rw [if_neg (by simpa using h), if_neg h]
theorem implSpanOf_eq (a b i : Int) : impl_SpanOf.f a b i = some (spanOf a b i) := by
  unfold impl_SpanOf.f spanOf
  have r := blocks_range a b
  rw [implBlocks_eq]
  simp only [Option.bind_some]
  rw [w64 (x := blocks a b - 1) (by omega) (by omega), within_eq]
  simp only [Option.bind_some]
  by_cases h : 0 ≤ i ∧ i ≤ blocks a b - 1
  · have s := span_at h
    rw [if_pos (by simpa using h), if_pos h, w64 (x := i * a) (by omega) (by omega), w64 (x := b - i * a) (by omega) (by omega)]
    rfl
  · rw [if_neg (by simpa using h), if_neg h]
end Go.Proofs.Ytlghklbjmmijpaa.Pb
/- Blocks of an image. No condition beyond the row's length. -/
namespace Go.Proofs.Ytlghklbjmmijpaa.Pb
open Go.RowKit Go.Proofs.Ytlghklbjmmijpaa Go.Proofs.Ytlghklbjmmijpaa.Q Go.Proofs.YtlghklbjmmijpaaW.PrintWords Go.Proofs.YtlghklbjmmijpaaW.PrintLast
set_option linter.unusedVariables false
set_option linter.unusedSimpArgs false

def block (n : Int) (l : List Int) (i : Int) : List Int := (l.take ((spanOf n l.length i).1 + (spanOf n l.length i).2).toNat).drop (spanOf n l.length i).1.toNat
theorem span_zero {a b i : Int} (h : (spanOf a b i).2 = 0) : spanOf a b i = (0, 0) := by
  unfold spanOf at h ⊢
  split at h
  · rename_i q
    have s := span_at q
    simp only at h
    split at h <;> omega
  · rename_i q
    rw [if_neg q]
theorem block_nil {n : Int} {l : List Int} {i : Int} (h : (spanOf n l.length i).2 = 0) : block n l i = [] := by
  unfold block
  rw [span_zero h]
  simp
theorem block_in (n : Int) (l : List Int) (i : Int) : (spanOf n l.length i).1 + (spanOf n l.length i).2 ≤ l.length := by
  unfold spanOf
  split
  · rename_i h
    have s := span_at h
    simp only
    split <;> omega
  · simp
theorem block_length (n : Int) (l : List Int) (i : Int) : (block n l i).length ≤ 240 := by
  have := spanOf_range n l.length i
  unfold block
  rw [List.length_drop, List.length_take]
  omega
theorem specBlockAt_eq (l : List Int) (n i : Int) : spec_BlockAt.f l n i = some (block n l i, !decide ((spanOf n l.length i).2 = 0)) := by
  have r := spanOf_range n l.length i
  have hs := block_in n l i
  have pl := block_length n l i
  unfold spec_BlockAt.f
  rw [specSpanOf_eq]
  simp only [Option.bind_some]
  by_cases h : (spanOf n l.length i).2 = 0
  · rw [if_pos h, block_nil h, decide_eq_true h]; rfl
  · unfold block at pl
    rw [if_neg h, decide_eq_false h, w64 (by omega) (by omega), if_pos (by omega), if_pos (by omega), if_pos (by omega), if_pos (by simp only [List.length_nil]; omega)]
    rfl
theorem implBlockAt_eq (l : List Int) (n i : Int) (hl : l.length ≤ 1048576) : impl_BlockAt.f l n i = some (block n l i, !decide ((spanOf n l.length i).2 = 0)) := by
  have r := spanOf_range n l.length i
  have hs := block_in n l i
  have pl := block_length n l i
  unfold impl_BlockAt.f
  rw [implSpanOf_eq]
  simp only [Option.bind_some]
  by_cases h : (spanOf n l.length i).2 = 0
  · rw [if_pos h, block_nil h, decide_eq_true h]; rfl
  · unfold block at pl
    rw [if_neg h, decide_eq_false h]
    unfold impl_Slice.f impl_cloned.f
    rw [within_eq]
    simp only [Option.bind_some]
    rw [if_pos (decide_eq_true (by omega)), w64 (x := (l.length : Int) - (spanOf n l.length i).1) (by omega) (by omega), within_eq]
    simp only [Option.bind_some]
    rw [if_pos (decide_eq_true (by omega)), w64 (by omega) (by omega), if_pos (by omega), if_pos (by omega), if_pos (by omega), if_pos (by omega)]
    rfl
end Go.Proofs.Ytlghklbjmmijpaa.Pb
/- An image staged on a disk, block by block: the program's and the reference's come to the same. No condition beyond the rows' lengths. -/
namespace Go.Proofs.Ytlghklbjmmijpaa.Pb
open Go.RowKit Go.Proofs.Ytlghklbjmmijpaa Go.Proofs.Ytlghklbjmmijpaa.Q Go.Proofs.YtlghklbjmmijpaaW.PrintWords Go.Proofs.YtlghklbjmmijpaaW.PrintLast
set_option linter.unusedVariables false
set_option linter.unusedSimpArgs false

def stageP (d n : Int) (x : List Int) (i : Nat) : S110 := ⟨1 - d, (i : Int) * n, block n x (i : Int), ⟨0, 0, 0⟩⟩
def stageL (a b : List Int) (c d e n : Int) (x : List Int) : Nat → Nat → List S110 → Option (List S110)
  | 0, _, l => some l
  | r + 1, i, l => if diskOk a b c d e (l ++ [stageP d n x i]) = true then stageL a b c d e n x r (i + 1) (l ++ [stageP d n x i]) else none
def staged (a b : List Int) (c d e : Int) : Option (List S110) → List Int × List Int × Int × Int × Int × List S110 × Bool
  | some l => (a, b, c, d, e, l, true)
  | none => (a, b, c, d, e, [], false)
def stage (a b : List Int) (c d e : Int) (l : List S110) (x : List Int) (n : Int) : List Int × List Int × Int × Int × Int × List S110 × Bool :=
  if diskOk a b c d e l = true ∧ l.length = 0 ∧ sizeOk n x.length = true then staged a b c d e (stageL a b c d e n x (blocks n x.length).toNat 0 []) else (a, b, c, d, e, l, false)
theorem stageP_len (d n : Int) (x : List Int) (i : Nat) : (stageP d n x i).f2.length ≤ 240 := block_length n x (i : Int)
/-- What stands after i blocks. -/
def StOk (i : Nat) (l : List S110) : Prop := l.length ≤ i ∧ ∀ p ∈ l, p.f2.length ≤ 240
theorem StOk.ok {i : Nat} {l : List S110} (h : StOk i l) (hi : i ≤ 4000) : PutsOk 4096 l := ⟨by have := h.1; omega, fun p hp => by have := h.2 p hp; omega⟩
theorem StOk.next {i : Nat} {l : List S110} (h : StOk i l) (d n : Int) (x : List Int) : StOk (i + 1) (l ++ [stageP d n x i]) := by
  refine ⟨by have := h.1; simp only [List.length_append, List.length_cons, List.length_nil]; omega, fun p hp => ?_⟩
  rcases List.mem_append.1 hp with q | q
  · exact h.2 p q
  · rw [List.mem_singleton] at q
    subst q
    exact stageP_len d n x i
theorem stageL_ok {a b : List Int} {c d e n : Int} {x : List Int} : ∀ (r i : Nat) (l l' : List S110), StOk i l → stageL a b c d e n x r i l = some l' → StOk (i + r) l'
  | 0, i, l, l', h, q => by
    unfold stageL at q
    cases q
    exact h
  | r + 1, i, l, l', h, q => by
    unfold stageL at q
    split at q
    · have := stageL_ok r (i + 1) _ l' (h.next d n x) q
      rwa [Nat.add_assoc, Nat.add_comm 1 r] at this
    · cases q
theorem put_added (a b : List Int) (c d e : Int) (l : List S110) (n : Int) (x : List Int) (i : Nat) (hd : 0 ≤ d ∧ d ≤ 1) : putBytes a b c d e l (1 - d) ((i : Int) * n) (block n x (i : Int)) = added a b c d e l (stageP d n x i) := by
  unfold putBytes
  rw [if_pos (by omega)]
  rfl
theorem span_first {a b i : Int} (h : 0 ≤ i ∧ i ≤ blocks a b - 1) : (spanOf a b i).1 = i * a := by
  unfold spanOf
  rw [if_pos h]
theorem specStage_key (a b : List Int) (c d e n : Int) (x : List Int) (hx : x.length ≤ 1048576) (hd : 0 ≤ d ∧ d ≤ 1) (ha : a.length ≤ 1048576) (hb : b.length ≤ 1048576) : ∀ (r i : Nat) (l : List S110), (i : Int) + r = blocks n x.length → StOk i l →
    Ev (fun k => spec_StageAll.l0 k x n (i : Int) a b c d e [] a b c d e l) (staged a b c d e (stageL a b c d e n x r i l)) := by
  intro r
  have rg := blocks_range n x.length
  induction r with
  | zero =>
    intro i l hi hl
    exact Ev.step (fun k => rfl) (ev_then (specBlocks_eq n x.length) (ev_neg (by omega) (ev_eq ev_some rfl)))
  | succ r ih =>
    intro i l hi hl
    have sp := span_at (a := n) (b := x.length) (i := (i : Int)) (by omega)
    refine Ev.step (fun k => rfl) (ev_then (specBlocks_eq n x.length) (ev_pos (by omega) ?_))
    refine ev_then (specSpanOf_eq n x.length i) (ev_then (specBlockAt_eq x n i) ?_)
    have e1 : spec_Spare.f a b c d e [] = some (1 - d) := by
      unfold spec_Spare.f
      rw [w64 (by omega) (by omega)]
    refine ev_then e1 ?_
    simp only [span_first (a := n) (b := x.length) (i := (i : Int)) (by omega)]
    have pb := specPutBytes_ev a b c d e l (1 - d) ((i : Int) * n) (block n x (i : Int)) ha hb (putsOk_le (by omega) (hl.ok (by omega))) (by have := block_length n x (i : Int); omega)
    rw [put_added a b c d e l n x i hd] at pb
    refine Ev.bind pb ?_
    unfold added stageL
    by_cases q : diskOk a b c d e (l ++ [stageP d n x i]) = true
    · rw [if_pos q, if_pos q, w64 (x := (i : Int) + 1) (by omega) (by omega)]
      exact ev_pos rfl (ih (i + 1) _ (by omega) (hl.next d n x))
    · rw [if_neg q, if_neg q]
      exact ev_neg (fun q => by cases q) (Ev.bind (specCopy_ev a b c d e [] (by omega) (by omega) ⟨by simp, fun p hp => by cases hp⟩) ev_some)
theorem implStage_key (a b : List Int) (c d e n : Int) (x : List Int) (hx : x.length ≤ 1048576) (hd : 0 ≤ d ∧ d ≤ 1) (ha : a.length ≤ 1048576) (hb : b.length ≤ 1048576) : ∀ (r i : Nat) (l : List S110), (i : Int) + r = blocks n x.length → StOk i l →
    Ev (fun k => impl_StageAll.l0 k x n (blocks n x.length) (i : Int) a b c d e [] a b c d e l) (staged a b c d e (stageL a b c d e n x r i l)) := by
  intro r
  have rg := blocks_range n x.length
  induction r with
  | zero =>
    intro i l hi hl
    exact Ev.step (fun k => rfl) (ev_neg (by omega) (ev_eq ev_some rfl))
  | succ r ih =>
    intro i l hi hl
    have sp := span_at (a := n) (b := x.length) (i := (i : Int)) (by omega)
    refine Ev.step (fun k => rfl) (ev_pos (by omega) (ev_then (implBlockAt_eq x n i hx) ?_))
    have e1 : impl_Spare.f a b c d e [] = some (1 - d) := by
      unfold impl_Spare.f
      rw [w64 (by omega) (by omega)]
    refine ev_then e1 ?_
    rw [w64 (x := (i : Int) * n) (by omega) (by omega)]
    have pb := implPutBytes_ev a b c d e l (1 - d) ((i : Int) * n) (block n x (i : Int)) ha hb (putsOk_le (by omega) (hl.ok (by omega))) (by have := block_length n x (i : Int); omega)
    rw [put_added a b c d e l n x i hd] at pb
    refine Ev.bind pb ?_
    unfold added stageL
    by_cases q : diskOk a b c d e (l ++ [stageP d n x i]) = true
    · rw [if_pos q, if_pos q, w64 (x := (i : Int) + 1) (by omega) (by omega)]
      exact ev_pos rfl (ih (i + 1) _ (by omega) (hl.next d n x))
    · rw [if_neg q, if_neg q]
      exact ev_neg (fun q => by cases q) (Ev.bind (implCopy_ev a b c d e [] (by omega) (by omega) ⟨by simp, fun p hp => by cases hp⟩) ev_some)
theorem diskOk_d {a b : List Int} {c d e : Int} {l : List S110} (h : diskOk a b c d e l = true) : 0 ≤ d ∧ d ≤ 1 := by
  unfold diskOk at h
  rw [Bool.and_eq_true, Bool.and_eq_true] at h
  have := of_decide_eq_true h.2.1
  omega
theorem stOk_nil : StOk 0 ([] : List S110) := ⟨Nat.zero_le _, fun p hp => by cases hp⟩
theorem specStage_ev (a b : List Int) (c d e : Int) (l : List S110) (x : List Int) (n : Int) (ha : a.length ≤ 1048576) (hb : b.length ≤ 1048576) (hl : PutsOk 1048576 l) (hx : x.length ≤ 1048576) : Ev (fun k => spec_StageAll.f k a b c d e l x n) (stage a b c d e l x n) := by
  unfold spec_StageAll.f stage
  have rg := blocks_range n x.length
  refine Ev.bind (specCopy_ev a b c d e l (by omega) (by omega) (putsOk_le (by omega) hl)) (Ev.bind (specDiskOk_ev a b c d e l (putsOk_le (by omega) hl)) ?_)
  have bad : Ev (fun k => spec_StageAll.j0 k x n true a b c d e l a b c d e l) (a, b, c, d, e, l, false) := Ev.step (f := fun _ => some (a, b, c, d, e, l, false)) (fun k => rfl) ev_some
  by_cases h1 : diskOk a b c d e l = true
  · refine ev_pos h1 ?_
    by_cases h2 : (l.length : Int) > 0
    · rw [if_neg (fun q => by omega)]
      exact ev_pos h2 bad
    · refine ev_neg h2 (ev_then (specSizeOk_eq n x.length) ?_)
      obtain rfl : l = [] := List.eq_nil_of_length_eq_zero (by omega)
      by_cases h3 : sizeOk n x.length = true
      · rw [if_pos ⟨h1, rfl, h3⟩, h3]
        exact Ev.step (f := fun k => spec_StageAll.l0 k x n ((0 : Nat) : Int) a b c d e [] a b c d e []) (fun k => rfl) (specStage_key a b c d e n x hx (diskOk_d h1) ha hb (blocks n x.length).toNat 0 [] (by omega) stOk_nil)
      · rw [if_neg (fun q => h3 q.2.2), Bool.eq_false_iff.2 h3]
        exact bad
  · rw [if_neg (fun q => h1 q.1)]
    exact ev_neg h1 bad
theorem implStage_ev (a b : List Int) (c d e : Int) (l : List S110) (x : List Int) (n : Int) (ha : a.length ≤ 1048576) (hb : b.length ≤ 1048576) (hl : PutsOk 1048576 l) (hx : x.length ≤ 1048576) : Ev (fun k => impl_StageAll.f k a b c d e l x n) (stage a b c d e l x n) := by
  unfold impl_StageAll.f stage
  have rg := blocks_range n x.length
  have cp := implCopy_ev a b c d e l (by omega) (by omega) (putsOk_le (by omega) hl)
  refine Ev.bind (implDiskOk_ev a b c d e l (putsOk_le (by omega) hl)) ?_
  have bad : Ev (fun k => impl_StageAll.j0 k x n true a b c d e l) (a, b, c, d, e, l, false) := Ev.step (f := fun k => (impl_copyDisk.f k a b c d e l).bind fun t => some (t.1, t.2.1, t.2.2.1, t.2.2.2.1, t.2.2.2.2.1, t.2.2.2.2.2, false)) (fun k => rfl) (Ev.bind cp ev_some)
  by_cases h1 : diskOk a b c d e l = true
  · refine ev_pos h1 ?_
    by_cases h2 : (l.length : Int) > 0
    · rw [if_neg (fun q => by omega)]
      exact ev_pos h2 bad
    · refine ev_neg h2 (ev_then (implSizeOk_eq n x.length) ?_)
      obtain rfl : l = [] := List.eq_nil_of_length_eq_zero (by omega)
      by_cases h3 : sizeOk n x.length = true
      · rw [if_pos ⟨h1, rfl, h3⟩, h3]
        exact Ev.step (f := fun k => (impl_copyDisk.f k a b c d e []).bind fun t => ((impl_Blocks.f n x.length).bind fun u => impl_StageAll.l0 k x n u 0 a b c d e [] t.1 t.2.1 t.2.2.1 t.2.2.2.1 t.2.2.2.2.1 t.2.2.2.2.2)) (fun k => rfl) (Ev.bind cp (ev_then (implBlocks_eq n x.length) (implStage_key a b c d e n x hx (diskOk_d h1) ha hb (blocks n x.length).toNat 0 [] (by omega) stOk_nil)))
      · rw [if_neg (fun q => h3 q.2.2), Bool.eq_false_iff.2 h3]
        exact bad
  · rw [if_neg (fun q => h1 q.1)]
    exact ev_neg h1 bad
theorem stage_len (a b : List Int) (c d e : Int) (l : List S110) (x : List Int) (n : Int) {m : Nat} (ha : a.length ≤ m) (hb : b.length ≤ m) (hl : PutsOk m l) (hm : 4096 ≤ m) : (stage a b c d e l x n).1.length ≤ m ∧ (stage a b c d e l x n).2.1.length ≤ m ∧ PutsOk m (stage a b c d e l x n).2.2.2.2.2.1 := by
  unfold stage
  have rg := blocks_range n x.length
  split
  · cases hs : stageL a b c d e n x (blocks n x.length).toNat 0 [] with
    | none => exact ⟨ha, hb, ⟨Nat.zero_le _, fun p hp => by cases hp⟩⟩
    | some l' => exact ⟨ha, hb, putsOk_le hm ((stageL_ok _ 0 [] l' stOk_nil hs).ok (by omega))⟩
  · exact ⟨ha, hb, hl⟩
end Go.Proofs.Ytlghklbjmmijpaa.Pb
namespace Go.Proofs.Ytlghklbjmmijpaa.Pure
open Go.RowKit Go.Proofs.Ytlghklbjmmijpaa Go.Proofs.Ytlghklbjmmijpaa.Q Go.Proofs.Ytlghklbjmmijpaa.Pb Go.Proofs.YtlghklbjmmijpaaW.PrintWords Go.Proofs.YtlghklbjmmijpaaW.PrintLast
set_option linter.unusedVariables false
set_option linter.unusedSimpArgs false

theorem FnExactStageAll : ∀ (x0 : S27) (x1 : List Int) (x2 : Int), good27 x0 → (Opn.Each (fun n : Int => (Lit.int .u8 n).wf = true)) x1 → (Lit.int .i64 x2).wf = true → ∃ k, laws_FnExactStageAll.f k x0.f0 x0.f1 x0.f2.f0 x0.f2.f1 x0.f2.f2 x0.f3 x1 x2 = some true := by
  intro x0 x1 x2 g0 g1 g2
  refine Ev.rounds ?_
  unfold laws_FnExactStageAll.f
  refine ev_if (fun _ => ev_some) (fun hx => ?_)
  obtain ⟨r, h1, h2, h3⟩ := szDisk_ev x0.f0 x0.f1 x0.f2.f0 x0.f2.f1 x0.f2.f2 x0.f3 1048576 (goodPuts_len x0 g0).1 (goodPuts_len x0 g0).2.1 (goodPuts_len x0 g0).2.2.1 (goodPuts_len x0 g0).2.2.2 (by omega) (by omega)
  refine Ev.bind h1 (ev_if (fun _ => ev_some) (fun h => ?_))
  have hf := h3 (by omega)
  have m0 := toDisk_ev x0.f0 x0.f1 x0.f2.f0 x0.f2.f1 x0.f2.f2 x0.f3 hf
  have m1 := toByteS_ev x1 (by omega)
  have hp := putsOk_map hf.2.2
  have ha := hf.1
  have hb := hf.2.1
  have s0 := specStage_ev x0.f0 x0.f1 x0.f2.f0 x0.f2.f1 x0.f2.f2 (x0.f3.map putOf_) x1 x2 ha hb hp (by omega)
  have i0 := implStage_ev x0.f0 x0.f1 x0.f2.f0 x0.f2.f1 x0.f2.f2 (x0.f3.map putOf_) x1 x2 ha hb hp (by omega)
  obtain ⟨za, zb, zl⟩ := stage_len x0.f0 x0.f1 x0.f2.f0 x0.f2.f1 x0.f2.f2 (x0.f3.map putOf_) x1 x2 ha hb hp (by omega)
  generalize stage x0.f0 x0.f1 x0.f2.f0 x0.f2.f1 x0.f2.f2 (x0.f3.map putOf_) x1 x2 = z at za zb zl s0 i0
  have ez := eqDisk_refl z.1 z.2.1 z.2.2.1 z.2.2.2.1 z.2.2.2.2.1 z.2.2.2.2.2.1 (by omega) (by omega) (putsOk_le (by omega) zl)
  have ei := eqDisk_refl x0.f0 x0.f1 x0.f2.f0 x0.f2.f1 x0.f2.f2 (x0.f3.map putOf_) (by omega) (by omega) (putsOk_le (by omega) hp)
  have mz := markDisk_ev z.1 z.2.1 z.2.2.1 z.2.2.2.1 z.2.2.2.2.1 z.2.2.2.2.2.1 (by omega) (by omega) (putsOk_le (by omega) zl)
  have hz := heldDisk_ev z.1 z.2.1 z.2.2.1 z.2.2.2.1 z.2.2.2.2.1 z.2.2.2.2.2.1 (by omega) (by omega) (putsOk_le (by omega) zl)
  have mi := markDisk_ev x0.f0 x0.f1 x0.f2.f0 x0.f2.f1 x0.f2.f2 (x0.f3.map putOf_) (by omega) (by omega) (putsOk_le (by omega) hp)
  have nz := diskEnd_pos z.1 z.2.1 z.2.2.2.2.2.1
  have ni := diskEnd_pos x0.f0 x0.f1 (x0.f3.map putOf_)
  have ui := diskEnd_le x0.f0 x0.f1 (x0.f3.map putOf_) (by omega) (by omega) (putsOk_le (by omega) hp)
  generalize diskEnd z.1 z.2.1 z.2.2.2.2.2.1 = ne at mz hz nz
  generalize diskRows z.1 z.2.1 z.2.2.2.2.2.1 = ro at mz hz
  generalize diskEnd x0.f0 x0.f1 (x0.f3.map putOf_) = ie at mi ni ui
  have eb := eqByteS_ev x1 x1 (by omega)
  refine Ev.bind m0 (Ev.bind m1 (Ev.bind s0 (Ev.bind m0 (Ev.bind m1 (Ev.bind i0 (Ev.bind ez (ev_pos rfl (ev_pos rfl ?_))))))))
  refine Ev.bind m0 (Ev.bind ei (ev_pos rfl (Ev.bind m1 (Ev.bind eb (ev_pos (by simp) ?_)))))
  refine Ev.bind mi (Ev.bind (markByteS_ev x1 ie (by omega) (by omega)) (ev_neg (by simp only; omega) (Ev.bind ez (ev_pos rfl (ev_pos rfl ?_)))))
  refine Ev.bind mz (Ev.bind hz (ev_neg nz (ev_pos rfl ?_)))
  refine Ev.bind m0 (Ev.bind m1 (Ev.bind i0 (Ev.bind ez (ev_pos rfl (ev_pos rfl ?_)))))
  exact Ev.bind hz (ev_neg nz (ev_pos rfl ev_some))
end Go.Proofs.Ytlghklbjmmijpaa.Pure
