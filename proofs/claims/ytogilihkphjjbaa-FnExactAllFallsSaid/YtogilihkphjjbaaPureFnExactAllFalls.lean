/- The program's AllFalls returns what the reference's returns, for every disk, in memory of its own, and leaves the disk. No further condition. -/
import Derived.Test.YtogilihkphjjbaaQ60
import Derived.Test.YtogilihkphjjbaaQ15
import Derived.Test.YtogilihkphjjbaaQ17
import Derived.Test.YtogilihkphjjbaaQ13
import Derived.Test.YtogilihkphjjbaaQ9
import Derived.RowKit
import Derived.IntWalk
import Derived.Test.YtogilihkphjjbaaWWords
import Derived.Test.YtogilihkphjjbaaQ2
import Derived.Test.YtogilihkphjjbaaQ6
import Derived.Test.YtogilihkphjjbaaQ7
import Derived.Test.YtogilihkphjjbaaQ4
import Derived.Test.YtogilihkphjjbaaTyp
import Derived.Test.YtogilihkphjjbaaQ57
import Derived.Test.YtogilihkphjjbaaQ58
import Derived.Test.YtogilihkphjjbaaQ59
import Derived.Test.YtogilihkphjjbaaQ54
import Derived.Test.YtogilihkphjjbaaQ55
import Derived.Test.YtogilihkphjjbaaQ50
import Derived.Test.YtogilihkphjjbaaQ36
import Derived.Test.YtogilihkphjjbaaQ39
import Derived.Test.YtogilihkphjjbaaQ34
import Derived.Test.YtogilihkphjjbaaQ38
import Derived.Test.YtogilihkphjjbaaQ20
import Derived.Test.YtogilihkphjjbaaQ23
import Derived.Test.YtogilihkphjjbaaQ53
/- Plain lemmas on answers with rounds: a loop that goes up through numbers comes to what its steps make. No condition. -/
namespace Go.Proofs.Ytogilihkphjjbaa.Pb
open Go.RowKit Go.Proofs.YtogilihkphjjbaaW.PrintWords
set_option linter.unusedVariables false

theorem w64 {x : Int} (h0 : -9223372036854775808 ≤ x) (h1 : x ≤ 9223372036854775807) : wrap64 x = x := by unfold wrap64; omega

section
variable {α β ρ σ : Type}
theorem ev_pos {c : Prop} [Decidable c] {f g : Nat → Option α} {r : α} (hc : c) (h : Ev f r) : Ev (fun k => if c then f k else g k) r := Ev.congr (fun k => if_pos hc) h
theorem ev_neg {c : Prop} [Decidable c] {f g : Nat → Option α} {r : α} (hc : ¬ c) (h : Ev g r) : Ev (fun k => if c then f k else g k) r := Ev.congr (fun k => if_neg hc) h
theorem ev_true {f g : Nat → Option α} {r : α} (h : Ev f r) : Ev (fun k => if true = true then f k else g k) r := ev_pos rfl h
theorem ev_false {f g : Nat → Option α} {r : α} (h : Ev g r) : Ev (fun k => if false = true then f k else g k) r := ev_neg (by decide) h
theorem ev_some {r : α} : Ev (fun _ => some r) r := Ev.now r
theorem ev_of {a : Option α} {r : α} (h : a = some r) : Ev (fun _ => a) r := ⟨0, fun _ _ => h⟩
theorem ev_then {a : Option α} {x : α} {f : Nat → α → Option β} {r : β} (h : a = some x) (k : Ev (fun n => f n x) r) : Ev (fun n => a.bind (f n)) r := Ev.bind (ev_of h) k
theorem ev_bool {b : Bool} {f g : Nat → Option α} {r : α} (h1 : b = true → Ev f r) (h2 : b = false → Ev g r) : Ev (fun k => if b = true then f k else g k) r := by
  cases b with
  | true => exact ev_true (h1 rfl)
  | false => exact ev_false (h2 rfl)
theorem ev_if {c : Prop} [Decidable c] {f g : Nat → Option α} {r : α} (h1 : c → Ev f r) (h2 : ¬ c → Ev g r) : Ev (fun k => if c then f k else g k) r := by
  by_cases h : c
  · exact ev_pos h (h1 h)
  · exact ev_neg h (h2 h)
theorem ev_eq {f : Nat → Option α} {r r' : α} (h : Ev f r) (e : r = r') : Ev f r' := e ▸ h
theorem ev_det {f : Nat → Option α} {r r' : α} (h : Ev f r) (h' : Ev f r') : r = r' := by
  obtain ⟨K, h⟩ := h
  obtain ⟨K', h'⟩ := h'
  have h1 := h (max K K') (Nat.le_max_left _ _)
  have h2 := h' (max K K') (Nat.le_max_right _ _)
  rw [h1] at h2
  exact Option.some.inj h2

/-- What n steps make of a state. -/
def iter (n : Nat) (next : Nat → σ → σ) (s : σ) : σ := (List.range n).foldl (fun s i => next i s) s
theorem iter_zero (next : Nat → σ → σ) (s : σ) : iter 0 next s = s := rfl
theorem iter_succ (n : Nat) (next : Nat → σ → σ) (s : σ) : iter (n + 1) next s = next n (iter n next s) := by
  unfold iter
  rw [List.range_succ, List.foldl_append]
  rfl

/-- A loop that goes up, step by step, to n. -/
theorem loop_up (g : Nat → σ → Int → Option ρ) (n : Nat) (next : Nat → σ → σ) (Inv : Nat → σ → Prop) (s0 : σ) (r : ρ)
    (h0 : Inv 0 s0) (hinv : ∀ i s, i < n → Inv i s → Inv (i + 1) (next i s))
    (hstep : ∀ (i : Nat) s r, i < n → Inv i s → Ev (fun k => g k (next i s) ((i : Int) + 1)) r → Ev (fun k => g k s (i : Int)) r)
    (hend : Inv n (iter n next s0) → Ev (fun k => g k (iter n next s0) (n : Int)) r) : Ev (fun k => g k s0 0) r := by
  have hall : ∀ i, i ≤ n → Inv i (iter i next s0) := by
    intro i
    induction i with
    | zero => intro _; exact h0
    | succ i ih => intro hi; rw [iter_succ]; exact hinv i _ (by omega) (ih (by omega))
  have key : ∀ d i, i + d = n → Ev (fun k => g k (iter i next s0) (i : Int)) r := by
    intro d
    induction d with
    | zero =>
      intro i hi
      obtain rfl : i = n := by omega
      exact hend (hall i (Nat.le_refl _))
    | succ d ih =>
      intro i hi
      refine hstep i _ r (by omega) (hall i (by omega)) ?_
      have := ih (i + 1) (by omega)
      rw [iter_succ] at this
      simpa using this
  exact key n 0 (by omega)

/-- A loop that goes up till something is found. -/
theorem loop_find (g : Nat → Int → Option ρ) (n : Nat) (p : Nat → Bool) (res : Nat → ρ) (r0 : ρ)
    (hyes : ∀ i, i < n → p i = true → Ev (fun k => g k (i : Int)) (res i))
    (hno : ∀ i r, i < n → p i = false → Ev (fun k => g k ((i : Int) + 1)) r → Ev (fun k => g k (i : Int)) r)
    (hend : Ev (fun k => g k (n : Int)) r0) : Ev (fun k => g k 0) (match (List.range n).find? p with | some i => res i | none => r0) := by
  have key : ∀ d i, i + d = n → Ev (fun k => g k (i : Int)) (match (List.range' i d).find? p with | some i => res i | none => r0) := by
    intro d
    induction d with
    | zero =>
      intro i hi
      obtain rfl : i = n := by omega
      exact hend
    | succ d ih =>
      intro i hi
      rw [List.range'_succ, List.find?_cons]
      cases hp : p i with
      | true => exact hyes i (by omega) hp
      | false => exact hno i _ (by omega) hp (by have := ih (i + 1) (by omega); simpa using this)
  have := key n 0 (by omega)
  rwa [← List.range_eq_range'] at this
/-- A loop that asks something of each. -/
theorem loop_all (g : Nat → Int → Option Bool) (n : Nat) (p : Nat → Bool)
    (hyes : ∀ i r, i < n → p i = true → Ev (fun k => g k ((i : Int) + 1)) r → Ev (fun k => g k (i : Int)) r)
    (hno : ∀ i, i < n → p i = false → Ev (fun k => g k (i : Int)) false)
    (hend : Ev (fun k => g k (n : Int)) true) : Ev (fun k => g k 0) ((List.range n).all p) := by
  have h := loop_find g n (fun i => !p i) (fun _ => false) true (fun i hi hp => hno i hi (by simpa using hp)) (fun i r hi hp h => hyes i r hi (by simpa using hp) h) hend
  refine ev_eq h ?_
  cases hf : (List.range n).find? (fun i => !p i) with
  | some i =>
    have h1 := List.find?_some hf
    have h2 := List.mem_of_find?_eq_some hf
    symm
    rw [List.all_eq_false]
    exact ⟨i, h2, by simpa using h1⟩
  | none =>
    symm
    rw [List.all_eq_true]
    intro x hx
    have := List.find?_eq_none.1 hf x hx
    simpa using this
end

/-! ### Lists by their elements -/
theorem rd_nat (l : List Int) (i : Nat) (h : i < l.length) : rd l (i : Int) = l[i] := by
  unfold rd
  simp [List.getD_eq_getElem?_getD, List.getElem?_eq_getElem h]
theorem iter_set {α : Type} (n : Nat) (f : Nat → α) (l : List α) (hl : l.length = n) : iter n (fun i (s : List α) => s.set i (f i)) l = (List.range n).map f := by
  have key : ∀ m, m ≤ n → iter m (fun i (s : List α) => s.set i (f i)) l = (List.range m).map f ++ l.drop m := by
    intro m
    induction m with
    | zero => intro _; simp [iter_zero]
    | succ m ih =>
      intro hm
      rw [iter_succ, ih (by omega)]
      apply List.ext_getElem?
      intro j
      simp only [List.getElem?_set, List.getElem?_append, List.length_map, List.length_range, List.length_append, List.length_drop, List.getElem?_map, List.getElem?_drop]
      by_cases h1 : m = j
      · subst h1
        simp
        omega
      · by_cases h2 : j < m
        · simp [h1, h2, show j < m + 1 by omega]
        · have h3 : ¬ j < m + 1 := by omega
          simp [h1, h2, h3]
          congr 1
          omega
  have := key n (Nat.le_refl _)
  rw [this, List.drop_of_length_le (by omega), List.append_nil]
theorem map_range_get {α β : Type} (l : List α) (d : α) (f : α → β) : (List.range l.length).map (fun i => f (l.getD i d)) = l.map f := by
  apply List.ext_getElem?
  intro i
  by_cases h : i < l.length
  · simp [h, List.getD_eq_getElem?_getD]
  · simp [h]
theorem all_range_eq {α : Type} [DecidableEq α] (a b : List α) (d : α) (hl : a.length = b.length) : (List.range a.length).all (fun i => decide (a.getD i d = b.getD i d)) = decide (a = b) := by
  rw [Bool.eq_iff_iff]
  simp only [List.all_eq_true, List.mem_range, decide_eq_true_eq]
  constructor
  · intro h
    apply List.ext_getElem hl
    intro i h1 h2
    have := h i h1
    simpa [List.getD_eq_getElem?_getD, h1, h2] using this
  · rintro rfl i _
    rfl
end Go.Proofs.Ytogilihkphjjbaa.Pb
/- Whole numbers: an int's bounds, tests of an interval, what is left of a size. No condition. -/
namespace Go.Proofs.Ytogilihkphjjbaa.Pb
open Go.RowKit Go.Proofs.Ytogilihkphjjbaa Go.Proofs.Ytogilihkphjjbaa.Q Go.Proofs.YtogilihkphjjbaaW.PrintWords Go.Proofs.YtogilihkphjjbaaW.PrintLast
set_option linter.unusedVariables false
set_option linter.unusedSimpArgs false

/-- An int holds it. -/
def I64 (n : Int) : Prop := -9223372036854775808 ≤ n ∧ n ≤ 9223372036854775807
theorem i64_of {n : Int} (h : (Lit.int .i64 n).wf = true) : I64 n := by
  simp [Lit.wf, IntKind.min, IntKind.max, IntKind.signed, IntKind.bits] at h
  exact ⟨by omega, by omega⟩

theorem within_eq (a lo hi : Int) : impl_within.f a lo hi = some (decide (lo ≤ a ∧ a ≤ hi)) := by
  unfold impl_within.f
  by_cases h : lo ≤ a
  · rw [if_pos h]; simp [h]
  · rw [if_neg h]; simp [h]
theorem l1In_eq (a lo hi : Int) : spec_l1In.f a lo hi = some (decide (lo ≤ a ∧ a ≤ hi)) := within_eq a lo hi

theorem left_big {n : Nat} (h : ¬ (if (1048576 : Int) < (n : Int) then (-1 : Int) else 1048576 - (n : Int)) < 0) : n ≤ 1048576 := by
  split at h <;> omega
end Go.Proofs.Ytogilihkphjjbaa.Pb
/- Marking bytes and finding the marks again. No condition beyond the size that the laws ask. -/
namespace Go.Proofs.Ytogilihkphjjbaa.Pb
open Go.RowKit Go.Proofs.Ytogilihkphjjbaa Go.Proofs.Ytogilihkphjjbaa.Q Go.Proofs.YtogilihkphjjbaaW.PrintWords Go.Proofs.YtogilihkphjjbaaW.PrintLast
set_option linter.unusedVariables false
set_option linter.unusedSimpArgs false

/-- The low bytes of a, a + 1, .., n of them. -/
def byteMarks (a : Int) (n : Nat) : List Int := (List.range n).map fun (i : Nat) => (a + (i : Int)) % 256
theorem byteMarks_length (a : Int) (n : Nat) : (byteMarks a n).length = n := by simp [byteMarks]
theorem byteMarks_rd (a : Int) (n i : Nat) (h : i < n) : rd (byteMarks a n) (i : Int) = (a + i) % 256 := by
  unfold rd byteMarks
  simp [List.getD_eq_getElem?_getD, h]
theorem markByteS_ev (l : List Int) (a : Int) (h0 : 0 ≤ a) (h1 : a + l.length ≤ 9223372036854775806) : Ev (fun k => laws_markByteS.f k l a) (a + l.length, byteMarks a l.length) := by
  unfold laws_markByteS.f
  refine loop_up (σ := List Int × Int) (fun k s i => laws_markByteS.l0 k s.1 s.2 i) l.length (fun i s => (s.1.set i (s.2 % 256), s.2 + 1)) (fun i s => s.1.length = l.length ∧ s.2 = a + i) (l, a) _ ⟨rfl, by simp⟩ ?_ ?_ ?_
  · rintro i ⟨x, y⟩ _ ⟨hx, hy⟩
    simp only at hx hy ⊢
    exact ⟨by simpa using hx, by omega⟩
  · rintro i ⟨x, y⟩ r hi ⟨hx, hy⟩ h
    simp only at hx hy h ⊢
    refine Ev.step (fun k => rfl) ?_
    refine ev_pos (by omega) (ev_pos (by omega) ?_)
    rw [w64 (x := y + 1) (by omega) (by omega), w64 (x := (i : Int) + 1) (by omega) (by omega)]
    simpa using h
  · rintro ⟨hx, hy⟩
    refine Ev.step (fun k => rfl) ?_
    refine ev_neg (by omega) (ev_eq ev_some ?_)
    have key : ∀ n, iter n (fun (i : Nat) (s : List Int × Int) => (s.1.set i (s.2 % 256), s.2 + 1)) (l, a) = (iter n (fun i (s : List Int) => s.set i ((a + (i : Int)) % 256)) l, a + (n : Int)) := by
      intro n
      induction n with
      | zero => simp [iter_zero]
      | succ n ih => rw [iter_succ, ih, iter_succ]; simp; omega
    rw [key, iter_set _ _ _ rfl]
    rfl
theorem heldByteS_ev (a : Int) (n : Nat) (h0 : 0 ≤ a) (h1 : a + n ≤ 9223372036854775806) : Ev (fun k => laws_heldByteS.f k (byteMarks a n) a) (a + n) := by
  unfold laws_heldByteS.f
  have hl := byteMarks_length a n
  refine loop_up (fun k s i => laws_heldByteS.l0 k (byteMarks a n) s i) n (fun i s => s + 1) (fun i s => s = a + i) a _ (by simp) (fun i s _ h => by omega) ?_ ?_
  · rintro i s r hi hs h
    refine Ev.step (fun k => rfl) ?_
    refine ev_pos (by omega) (ev_pos (by omega) (ev_pos (by rw [byteMarks_rd _ _ _ hi, hs]) ?_))
    rw [w64 (x := s + 1) (by omega) (by omega), w64 (by omega) (by omega)]
    exact h
  · intro hs
    refine Ev.step (fun k => rfl) ?_
    refine ev_neg (by omega) (ev_eq ev_some hs)
end Go.Proofs.Ytogilihkphjjbaa.Pb
/- Bytes as plain lists: the laws' copies and comparisons of them. No condition beyond the size that the laws ask. -/
namespace Go.Proofs.Ytogilihkphjjbaa.Pb
open Go.RowKit Go.Proofs.Ytogilihkphjjbaa Go.Proofs.Ytogilihkphjjbaa.Q Go.Proofs.YtogilihkphjjbaaW.PrintWords Go.Proofs.YtogilihkphjjbaaW.PrintLast
set_option linter.unusedVariables false
set_option linter.unusedSimpArgs false

theorem toByteS_ev (l : List Int) (hl : l.length ≤ 1048576) : Ev (fun k => laws_toByteS.f k l) l := by
  unfold laws_toByteS.f
  refine ev_pos (by omega) (ev_pos (by simp; omega) ?_)
  refine loop_up (fun k s i => laws_toByteS.l0 k l s i) l.length (fun i (s : List Int) => s.set i (l.getD i 0)) (fun _ s => s.length = l.length) _ l (by simp) (fun i s _ h => by simpa using h) ?_ ?_
  · intro i s r hi hs h
    refine Ev.step (fun k => rfl) ?_
    refine ev_pos (by omega) (ev_pos (by omega) (ev_pos (by omega) ?_))
    rw [w64 (by omega) (by omega)]
    simpa [rd] using h
  · intro hs
    refine Ev.step (fun k => rfl) ?_
    refine ev_neg (by omega) (ev_eq ev_some ?_)
    have h1 := iter_set l.length (fun i => l.getD i 0) (List.replicate (l.length : Int).toNat 0) (by simp)
    rw [h1]
    have h2 := map_range_get l 0 id
    simpa using h2
theorem eqByteS_ev (a b : List Int) (ha : a.length ≤ 9223372036854775806) : Ev (fun k => laws_eqByteS.f k a b) (decide (a = b)) := by
  unfold laws_eqByteS.f
  refine ev_if (fun hl => ?_) (fun hl => ev_eq ev_some ?_)
  · have hl' : a.length = b.length := by omega
    rw [← all_range_eq a b 0 hl']
    refine loop_all (fun k i => laws_eqByteS.l0 k a b i) a.length _ ?_ ?_ ?_
    · intro i r hi hp h
      refine Ev.step (fun k => rfl) ?_
      refine ev_pos (by omega) (ev_pos (by omega) (ev_pos (by omega) (ev_pos (by simpa [rd] using hp) ?_)))
      rw [w64 (by omega) (by omega)]
      exact h
    · intro i hi hp
      refine Ev.step (fun k => rfl) ?_
      exact ev_pos (by omega) (ev_pos (by omega) (ev_pos (by omega) (ev_neg (by simpa [rd] using hp) ev_some)))
    · refine Ev.step (fun k => rfl) ?_
      exact ev_neg (by omega) ev_some
  · symm
    rw [decide_eq_false_iff_not]
    rintro rfl
    exact hl rfl
end Go.Proofs.Ytogilihkphjjbaa.Pb
/- Disks: the laws' copies of them, the size that they ask, and their comparisons. No condition beyond that size. -/
namespace Go.Proofs.Ytogilihkphjjbaa.Pb
open Go.RowKit Go.Proofs.Ytogilihkphjjbaa Go.Proofs.Ytogilihkphjjbaa.Q Go.Proofs.YtogilihkphjjbaaW.PrintWords Go.Proofs.YtogilihkphjjbaaW.PrintLast
set_option linter.unusedVariables false
set_option linter.unusedSimpArgs false

/-- The program's own record and write out of the laws' ones. -/
def recOf_ (x : S24) : S30 := ⟨x.f0, x.f1, x.f2⟩
def putOf_ (x : S51) : S55 := ⟨x.f0, x.f1, x.f2, recOf_ x.f3⟩
/-- A size that fits: what is left of it after n is no less than nothing, or -1 says that it does not. -/
theorem szByteS_eq (l : List Int) (x : Int) (hl : l.length ≤ 9223372036854775807) (h0 : 0 ≤ x) (h1 : x ≤ 1048576) : laws_szByteS.f l x = some (if x < (l.length : Int) then (-1 : Int) else x - l.length) := by
  unfold laws_szByteS.f
  rw [w64 (by omega) (by omega)]
  by_cases r : x < (l.length : Int)
  · rw [if_pos (by omega), if_pos r]
  · rw [if_neg (by omega), if_neg r]
/-- The writes fit, each of their bytes does. -/
def PutsFit (l : List S51) : Prop := l.length ≤ 1048576 ∧ ∀ p ∈ l, p.f2.length ≤ 1048576
theorem szPutS_ev (l : List S51) (x : Int) (hl : l.length ≤ 9223372036854775807) (hb : ∀ p ∈ l, p.f2.length ≤ 9223372036854775807) (h0 : 0 ≤ x) (h1 : x ≤ 1048576) :
    ∃ r, Ev (fun k => laws_szPutS.f k l x) r ∧ r ≤ x ∧ (0 ≤ r → PutsFit l) := by
  unfold laws_szPutS.f
  rw [w64 (by omega) (by omega)]
  by_cases q : x - l.length < 0
  · exact ⟨-1, ev_pos q ev_some, by omega, by omega⟩
  have key : ∀ (d i : Nat) (y : Int), i + d = l.length → 0 ≤ y → y ≤ x → (∀ j, j < i → (l.getD j z51).f2.length ≤ 1048576) →
      ∃ r, Ev (fun k => laws_szPutS.l0 k l y (i : Int)) r ∧ r ≤ x ∧ (0 ≤ r → ∀ j, j < l.length → (l.getD j z51).f2.length ≤ 1048576) := by
    intro d
    induction d with
    | zero =>
      intro i y hi hy hx hj
      refine ⟨y, Ev.step (fun k => rfl) (ev_neg (by omega) ev_some), hx, fun _ j hj' => hj j (by omega)⟩
    | succ d ih =>
      intro i y hi hy hx hj
      have hm : (l.getD i z51) ∈ l := by
        rw [List.getD_eq_getElem?_getD, List.getElem?_eq_getElem (by omega)]
        exact List.getElem_mem _
      have e : laws_szPut.f (l.getD i z51).f0 (l.getD i z51).f1 (l.getD i z51).f2 (l.getD i z51).f3.f0 (l.getD i z51).f3.f1 (l.getD i z51).f3.f2 y = some (if y < ((l.getD i z51).f2.length : Int) then (-1 : Int) else y - (l.getD i z51).f2.length) := by
        unfold laws_szPut.f
        rw [szByteS_eq _ _ (hb _ hm) hy (by omega)]
        simp only [Option.bind_some]
        by_cases r : y < ((l.getD i z51).f2.length : Int)
        · rw [if_pos r]; rfl
        · rw [if_neg r, if_neg (by omega)]
      by_cases r : y < ((l.getD i z51).f2.length : Int)
      · refine ⟨-1, Ev.step (fun k => rfl) (ev_pos (by omega) (ev_pos (by omega) ?_)), by omega, by omega⟩
        simp only [rd_T51, Int.toNat_natCast]
        refine ev_then e ?_
        rw [if_pos r]
        exact ev_pos (by omega) ev_some
      · obtain ⟨s, h2, h3, h4⟩ := ih (i + 1) (y - (l.getD i z51).f2.length) (by omega) (by omega) (by omega) (fun j hj' => by
          by_cases z : j = i
          · subst z; omega
          · exact hj j (by omega))
        refine ⟨s, Ev.step (fun k => rfl) (ev_pos (by omega) (ev_pos (by omega) ?_)), h3, h4⟩
        simp only [rd_T51, Int.toNat_natCast]
        refine ev_then e ?_
        rw [if_neg r]
        refine ev_neg (by omega) ?_
        rw [w64 (x := (i : Int) + 1) (by omega) (by omega)]
        simpa using h2
  obtain ⟨r, h2, h3, h4⟩ := key l.length 0 (x - l.length) (by omega) (by omega) (by omega) (fun j hj => by omega)
  refine ⟨r, ev_neg q h2, h3, fun h => ⟨by omega, fun p hp => ?_⟩⟩
  obtain ⟨j, hj, rfl⟩ := List.getElem_of_mem hp
  have := h4 h j hj
  rwa [List.getD_eq_getElem?_getD, List.getElem?_eq_getElem hj] at this
/-- What fits of a disk. -/
def DiskFit (a b : List Int) (l : List S51) : Prop := a.length ≤ 1048576 ∧ b.length ≤ 1048576 ∧ PutsFit l
theorem szDisk_ev (a b : List Int) (c d e : Int) (l : List S51) (x : Int) (ha : a.length ≤ 9223372036854775807) (hb : b.length ≤ 9223372036854775807) (hl : l.length ≤ 9223372036854775807) (hp : ∀ p ∈ l, p.f2.length ≤ 9223372036854775807) (h0 : 0 ≤ x) (h1 : x ≤ 1048576) :
    ∃ r, Ev (fun k => laws_szDisk.f k a b c d e l x) r ∧ r ≤ x ∧ (0 ≤ r → DiskFit a b l) := by
  unfold laws_szDisk.f
  rw [szByteS_eq a x ha h0 h1]
  by_cases q : x < (a.length : Int)
  · rw [if_pos q]
    exact ⟨-1, ev_then rfl (ev_pos (by omega) ev_some), by omega, by omega⟩
  rw [if_neg q]
  by_cases r : x - a.length < (b.length : Int)
  · refine ⟨-1, ev_then rfl (ev_neg (by omega) ?_), by omega, by omega⟩
    rw [szByteS_eq b _ hb (by omega) (by omega), if_pos r]
    exact ev_then rfl (ev_pos (by omega) ev_some)
  obtain ⟨s, h2, h3, h4⟩ := szPutS_ev l (x - a.length - b.length) hl hp (by omega) (by omega)
  by_cases t : s < 0
  · refine ⟨-1, ev_then rfl (ev_neg (by omega) ?_), by omega, by omega⟩
    rw [szByteS_eq b _ hb (by omega) (by omega), if_neg r]
    exact ev_then rfl (ev_neg (by omega) (Ev.bind h2 (ev_pos t ev_some)))
  · refine ⟨s, ev_then rfl (ev_neg (by omega) ?_), by omega, fun h => ⟨by omega, by omega, h4 h⟩⟩
    rw [szByteS_eq b _ hb (by omega) (by omega), if_neg r]
    exact ev_then rfl (ev_neg (by omega) (Ev.bind h2 (ev_neg t ev_some)))
theorem goodPuts_len (x : S27) (g : good27 x) : x.f0.length ≤ 9223372036854775807 ∧ x.f1.length ≤ 9223372036854775807 ∧ x.f3.length ≤ 9223372036854775807 ∧ ∀ p ∈ x.f3, p.f2.length ≤ 9223372036854775807 :=
  ⟨g.1.1, g.2.1.1, g.2.2.2.1, fun p hp => (g.2.2.2.2 p hp).2.2.1.1⟩
theorem toPut_ev (p : S51) (h : p.f2.length ≤ 1048576) : Ev (fun k => laws_toPut.f k p.f0 p.f1 p.f2 p.f3.f0 p.f3.f1 p.f3.f2) (p.f0, p.f1, p.f2, p.f3.f0, p.f3.f1, p.f3.f2) := by
  unfold laws_toPut.f
  exact Ev.bind (toByteS_ev _ h) (ev_then rfl ev_some)
theorem toPutS_ev (l : List S51) (h : PutsFit l) : Ev (fun k => laws_toPutS.f k l) (l.map putOf_) := by
  obtain ⟨hl, hp⟩ := h
  unfold laws_toPutS.f
  refine ev_pos (by omega) (ev_pos (by simp; omega) ?_)
  refine loop_up (fun k s i => laws_toPutS.l0 k l s i) l.length (fun i (s : List S55) => s.set i (putOf_ (l.getD i z51))) (fun _ s => s.length = l.length) _ _ (by simp) (fun i s _ h => by simpa using h) ?_ ?_
  · intro i s r hi hs h
    refine Ev.step (fun k => rfl) ?_
    refine ev_pos (by omega) (ev_pos (by omega) ?_)
    simp only [rd_T51, Int.toNat_natCast]
    have hm : (l.getD i z51) ∈ l := by
      rw [List.getD_eq_getElem?_getD, List.getElem?_eq_getElem (by omega)]
      exact List.getElem_mem _
    refine Ev.bind (toPut_ev _ (hp _ hm)) ?_
    refine ev_pos (by omega) ?_
    rw [w64 (by omega) (by omega)]
    exact h
  · intro hs
    refine Ev.step (fun k => rfl) ?_
    refine ev_neg (by omega) (ev_eq ev_some ?_)
    rw [iter_set l.length (fun i => putOf_ (l.getD i z51)) _ (by simp)]
    exact map_range_get l _ putOf_
theorem toDisk_ev (a b : List Int) (c d e : Int) (l : List S51) (h : DiskFit a b l) : Ev (fun k => laws_toDisk.f k a b c d e l) (a, b, c, d, e, l.map putOf_) := by
  unfold laws_toDisk.f
  exact Ev.bind (toByteS_ev a h.1) (Ev.bind (toByteS_ev b h.2.1) (ev_then rfl (Ev.bind (toPutS_ev l h.2.2) ev_some)))
/-- Writes whose bytes are few. -/
def PutsOk (n : Nat) (l : List S55) : Prop := l.length ≤ n ∧ ∀ p ∈ l, p.f2.length ≤ n
theorem putsOk_map {l : List S51} (h : PutsFit l) : PutsOk 1048576 (l.map putOf_) := by
  refine ⟨by simpa using h.1, fun p hp => ?_⟩
  obtain ⟨q, hq, rfl⟩ := List.mem_map.1 hp
  exact h.2 q hq
theorem getD_mem {α : Type} {l : List α} {i : Nat} (d : α) (h : i < l.length) : l.getD i d ∈ l := by
  rw [List.getD_eq_getElem?_getD, List.getElem?_eq_getElem h]
  exact List.getElem_mem _
theorem eqRecord_refl (a b c : Int) : laws_eqRecord.f a b c a b c = some true := by
  unfold laws_eqRecord.f
  rw [if_pos rfl, if_pos rfl, if_pos rfl]
theorem eqPut_refl (p : S55) (h : p.f2.length ≤ 9223372036854775806) : Ev (fun k => laws_eqPut.f k p.f0 p.f1 p.f2 p.f3.f0 p.f3.f1 p.f3.f2 p.f0 p.f1 p.f2 p.f3.f0 p.f3.f1 p.f3.f2) true := by
  unfold laws_eqPut.f
  exact ev_pos rfl (ev_pos rfl (Ev.bind (eqByteS_ev _ _ h) (ev_pos (by simp) (ev_then (eqRecord_refl _ _ _) (ev_true ev_some)))))
theorem eqPutS_refl (l : List S55) (h : PutsOk 9223372036854775806 l) : Ev (fun k => laws_eqPutS.f k l l) true := by
  obtain ⟨hl, hp⟩ := h
  unfold laws_eqPutS.f
  refine ev_pos rfl ?_
  refine ev_eq (loop_all (fun k i => laws_eqPutS.l0 k l l i) l.length (fun _ => true) ?_ ?_ ?_) (by simp)
  · intro i r hi _ h
    refine Ev.step (fun k => rfl) ?_
    refine ev_pos (by omega) (ev_pos (by omega) (ev_pos (by omega) ?_))
    simp only [rd_T55, Int.toNat_natCast]
    refine Ev.bind (eqPut_refl _ (hp _ (getD_mem _ hi))) (ev_true ?_)
    rw [w64 (by omega) (by omega)]
    exact h
  · intro i hi hp
    cases hp
  · refine Ev.step (fun k => rfl) ?_
    exact ev_neg (by omega) ev_some
theorem putsOk_le {m n : Nat} (h : m ≤ n) {l : List S55} (g : PutsOk m l) : PutsOk n l := ⟨by have := g.1; omega, fun p hp => by have := g.2 p hp; omega⟩
theorem eqDisk_refl (a b : List Int) (c d e : Int) (l : List S55) (ha : a.length ≤ 9223372036854775806) (hb : b.length ≤ 9223372036854775806) (hl : PutsOk 9223372036854775806 l) : Ev (fun k => laws_eqDisk.f k a b c d e l a b c d e l) true := by
  unfold laws_eqDisk.f
  refine Ev.bind (eqByteS_ev a a ha) (ev_pos (by simp) (Ev.bind (eqByteS_ev b b hb) (ev_pos (by simp) ?_)))
  exact ev_then (eqRecord_refl _ _ _) (ev_true (Ev.bind (eqPutS_refl l hl) (ev_true ev_some)))
end Go.Proofs.Ytogilihkphjjbaa.Pb
/- Marking a disk whole, with its rows of writes, and finding the marks again. No condition beyond the rows' lengths. -/
namespace Go.Proofs.Ytogilihkphjjbaa.Pb
open Go.RowKit Go.Proofs.Ytogilihkphjjbaa Go.Proofs.Ytogilihkphjjbaa.Q Go.Proofs.YtogilihkphjjbaaW.PrintWords Go.Proofs.YtogilihkphjjbaaW.PrintLast
set_option linter.unusedVariables false
set_option linter.unusedSimpArgs false

def lens (l : List S55) : List Nat := l.map fun p => p.f2.length
def mp1 (x : Int) (n : Nat) : S55 := ⟨x, x + 1, byteMarks (x + 1 + 1) n, ⟨x + 1 + 1 + n, x + 1 + 1 + n + 1, x + 1 + 1 + n + 1 + 1⟩⟩
def putMarks : List Nat → Int → List S55
  | [], _ => []
  | n :: t, x => mp1 x n :: putMarks t (x + 1 + 1 + n + 1 + 1 + 1)
def putEnd : List Nat → Int → Int
  | [], x => x
  | n :: t, x => putEnd t (x + 1 + 1 + n + 1 + 1 + 1)
theorem putEnd_le : ∀ (l : List Nat) (x : Int), x ≤ putEnd l x
  | [], x => Int.le_refl x
  | n :: t, x => Int.le_trans (by omega) (putEnd_le t _)
theorem rd_mid (pre : List S55) (p : S55) (t : List S55) : rd_T55 (pre ++ p :: t) (pre.length : Int) = p := by
  simp only [rd_T55, Int.toNat_natCast, List.getD_eq_getElem?_getD]
  rw [List.getElem?_append_right (Nat.le_refl _), Nat.sub_self]
  rfl
theorem set_mid (pre : List S55) (p q : S55) (t : List S55) : (pre ++ p :: t).set ((pre.length : Nat) : Int).toNat q = pre ++ q :: t := by
  rw [Int.toNat_natCast, List.set_append_right (h := Nat.le_refl _), Nat.sub_self]
  rfl
theorem markPutS_key : ∀ (t pre : List S55) (x : Int), (∀ p ∈ t, p.f2.length ≤ 4194304) → 0 ≤ x → x + t.length * 4194310 ≤ 9223372036854775000 → pre.length + t.length ≤ 4194304 →
    Ev (fun k => laws_markPutS.l0 k (pre ++ t) x (pre.length : Int)) (putEnd (lens t) x, pre ++ putMarks (lens t) x) := by
  intro t
  induction t with
  | nil =>
    intro pre x _ _ _ _
    exact Ev.step (fun k => rfl) (ev_neg (by simp) (ev_eq ev_some rfl))
  | cons p t ih =>
    intro pre x hp h0 h1 h2
    have hp1 := hp p (List.mem_cons_self ..)
    simp only [List.length_cons] at h1 h2
    refine Ev.step (fun k => rfl) (ev_pos (by simp only [List.length_append, List.length_cons]; omega) (ev_pos (by omega) ?_))
    simp only [rd_mid]
    rw [w64 (x := x + 1) (by omega) (by omega), w64 (x := x + 1 + 1) (by omega) (by omega)]
    refine Ev.bind (markByteS_ev p.f2 (x + 1 + 1) (by omega) (by omega)) ?_
    simp only [set_mid]
    rw [w64 (x := x + 1 + 1 + p.f2.length + 1) (by omega) (by omega), w64 (x := x + 1 + 1 + p.f2.length + 1 + 1) (by omega) (by omega), w64 (x := x + 1 + 1 + p.f2.length + 1 + 1 + 1) (by omega) (by omega), w64 (x := (pre.length : Int) + 1) (by omega) (by omega)]
    have := ih (pre ++ [mp1 x p.f2.length]) (x + 1 + 1 + p.f2.length + 1 + 1 + 1) (fun q hq => hp q (List.mem_cons_of_mem _ hq)) (by omega) (by omega) (by simp only [List.length_append, List.length_cons, List.length_nil]; omega)
    simp only [List.append_assoc, List.singleton_append, List.length_append, List.length_cons, List.length_nil] at this
    exact this
theorem markPutS_ev (l : List S55) (x : Int) (hl : PutsOk 4194304 l) (h0 : 0 ≤ x) (h1 : x ≤ 4611686018427387904) : Ev (fun k => laws_markPutS.f k l x) (putEnd (lens l) x, putMarks (lens l) x) :=
  markPutS_key l [] x hl.2 h0 (by have := hl.1; omega) (by have := hl.1; simpa using this)
theorem heldPutS_key : ∀ (t : List Nat) (pre : List S55) (x : Int), (∀ n ∈ t, n ≤ 4194304) → 0 ≤ x → x + t.length * 4194310 ≤ 9223372036854775000 → pre.length + t.length ≤ 4194304 →
    Ev (fun k => laws_heldPutS.l0 k (pre ++ putMarks t x) x (pre.length : Int)) (putEnd t x) := by
  intro t
  induction t with
  | nil =>
    intro pre x _ _ _ _
    exact Ev.step (fun k => rfl) (ev_neg (by simp [putMarks]) (ev_eq ev_some rfl))
  | cons n t ih =>
    intro pre x hp h0 h1 h2
    have hp1 := hp n (List.mem_cons_self ..)
    simp only [List.length_cons] at h1 h2
    simp only [putMarks]
    refine Ev.step (fun k => rfl) (ev_pos (by simp only [List.length_append, List.length_cons]; omega) (ev_pos (by omega) ?_))
    simp only [rd_mid]
    simp only [mp1]
    rw [w64 (x := x + 1) (by omega) (by omega), w64 (x := x + 1 + 1) (by omega) (by omega)]
    refine ev_pos (by trivial) (ev_pos (by trivial) (Ev.bind (heldByteS_ev (x + 1 + 1) n (by omega) (by omega)) (ev_neg (by omega) ?_)))
    rw [w64 (x := x + 1 + 1 + n + 1) (by omega) (by omega), w64 (x := x + 1 + 1 + n + 1 + 1) (by omega) (by omega), w64 (x := x + 1 + 1 + n + 1 + 1 + 1) (by omega) (by omega), w64 (x := (pre.length : Int) + 1) (by omega) (by omega)]
    refine ev_pos (by trivial) (ev_pos (by trivial) (ev_pos (by trivial) ?_))
    have := ih (pre ++ [mp1 x n]) (x + 1 + 1 + n + 1 + 1 + 1) (fun q hq => hp q (List.mem_cons_of_mem _ hq)) (by omega) (by omega) (by simp only [List.length_append, List.length_cons, List.length_nil]; omega)
    simp only [List.append_assoc, List.singleton_append, List.length_append, List.length_cons, List.length_nil] at this
    exact this
theorem heldPutS_ev (t : List Nat) (x : Int) (hn : ∀ n ∈ t, n ≤ 4194304) (hl : t.length ≤ 4194304) (h0 : 0 ≤ x) (h1 : x ≤ 4611686018427387904) : Ev (fun k => laws_heldPutS.f k (putMarks t x) x) (putEnd t x) :=
  heldPutS_key t [] x hn h0 (by omega) (by simpa using hl)
theorem lens_ok {l : List S55} (h : PutsOk 4194304 l) : (∀ n ∈ lens l, n ≤ 4194304) ∧ (lens l).length ≤ 4194304 := by
  refine ⟨fun n hn => ?_, by simpa [lens] using h.1⟩
  obtain ⟨p, hp, rfl⟩ := List.mem_map.1 hn
  exact h.2 p hp
/-- Where the marks of a disk end. -/
def diskEnd (a b : List Int) (l : List S55) : Int := putEnd (lens l) (1 + a.length + b.length)
theorem diskEnd_pos (a b : List Int) (l : List S55) : ¬ diskEnd a b l < 0 := by
  have := putEnd_le (lens l) (1 + a.length + b.length)
  unfold diskEnd
  omega
theorem putEnd_ub : ∀ (l : List Nat) (x : Int), (∀ n ∈ l, n ≤ 4194304) → putEnd l x ≤ x + l.length * 4194310
  | [], x, _ => by simp [putEnd]
  | n :: t, x, h => by
    have h1 := h n (List.mem_cons_self ..)
    have h2 := putEnd_ub t (x + 1 + 1 + n + 1 + 1 + 1) (fun m hm => h m (List.mem_cons_of_mem _ hm))
    simp only [putEnd, List.length_cons]
    omega
theorem diskEnd_le (a b : List Int) (l : List S55) (ha : a.length ≤ 4194304) (hb : b.length ≤ 4194304) (hl : PutsOk 4194304 l) : diskEnd a b l ≤ 4611686018427387904 := by
  have h := putEnd_ub (lens l) (1 + a.length + b.length) (lens_ok hl).1
  have h2 := (lens_ok hl).2
  unfold diskEnd
  omega
/-- The rows of a disk that is marked. -/
def diskRows (a b : List Int) (l : List S55) : List Int × List Int × List S55 := (byteMarks 1 a.length, byteMarks (1 + a.length) b.length, putMarks (lens l) (1 + a.length + b.length))
theorem markDisk_ev (a b : List Int) (c d e : Int) (l : List S55) (ha : a.length ≤ 4194304) (hb : b.length ≤ 4194304) (hl : PutsOk 4194304 l) :
    Ev (fun k => laws_markDisk.f k a b c d e l 1) (diskEnd a b l, diskRows a b l) := by
  unfold laws_markDisk.f
  exact Ev.bind (markByteS_ev a 1 (by omega) (by omega)) (Ev.bind (markByteS_ev b (1 + a.length) (by omega) (by omega)) (Ev.bind (markPutS_ev l (1 + a.length + b.length) hl (by omega) (by omega)) ev_some))
theorem heldDisk_ev (a b : List Int) (c d e : Int) (l : List S55) (ha : a.length ≤ 4194304) (hb : b.length ≤ 4194304) (hl : PutsOk 4194304 l) :
    Ev (fun k => laws_heldDisk.f k (diskRows a b l).1 (diskRows a b l).2.1 c d e (diskRows a b l).2.2 1) (diskEnd a b l) := by
  unfold laws_heldDisk.f
  refine Ev.bind (heldByteS_ev 1 a.length (by omega) (by omega)) (ev_neg (by omega) (Ev.bind (heldByteS_ev (1 + a.length) b.length (by omega) (by omega)) (ev_neg (by omega) ?_)))
  exact Ev.bind (heldPutS_ev (lens l) (1 + a.length + b.length) (lens_ok hl).1 (lens_ok hl).2 (by omega) (by omega)) (ev_neg (diskEnd_pos a b l) ev_some)
end Go.Proofs.Ytogilihkphjjbaa.Pb
/- Copies of disks and of writes: they come to the same. No condition beyond the rows' lengths. -/
namespace Go.Proofs.Ytogilihkphjjbaa.Pb
open Go.RowKit Go.Proofs.Ytogilihkphjjbaa Go.Proofs.Ytogilihkphjjbaa.Q Go.Proofs.YtogilihkphjjbaaW.PrintWords Go.Proofs.YtogilihkphjjbaaW.PrintLast
set_option linter.unusedVariables false
set_option linter.unusedSimpArgs false

theorem rd_midp (pre : List S55) (p : S55) (t : List S55) : rd_T55 (pre ++ p :: t) (pre.length : Int) = p := by
  simp only [rd_T55, Int.toNat_natCast, List.getD_eq_getElem?_getD]
  rw [List.getElem?_append_right (Nat.le_refl _), Nat.sub_self]
  rfl
theorem specCopyPut_eq (a b : Int) (l : List Int) (c d e : Int) (h : l.length ≤ 4194304) : spec_l9CopyPut.f a b l c d e = some (a, b, l, c, d, e) := by
  unfold spec_l9CopyPut.f
  simp only [Option.bind_some]
  rw [if_pos (by simp only [List.length_nil]; omega), List.nil_append]
theorem implCopyPut_eq (a b : Int) (l : List Int) (c d e : Int) (h : l.length ≤ 4194304) : impl_copyPut.f a b l c d e = some (a, b, l, c, d, e) := by
  unfold impl_copyPut.f impl_cloned.f
  rw [if_pos (by omega)]
  rfl
theorem specCopy_key (a b : List Int) (c d e : Int) (u v : List Int) : ∀ (t pre : List S55), (∀ p ∈ t, p.f2.length ≤ 4194304) → pre.length + t.length ≤ 4194304 →
    Ev (fun k => spec_l9Copy.l0 k (pre.length : Int) a b c d e (pre ++ t) u v c d e pre) (u, v, c, d, e, pre ++ t) := by
  intro t
  induction t with
  | nil =>
    intro pre _ _
    exact Ev.step (fun k => rfl) (ev_neg (by simp) (ev_eq ev_some (by simp)))
  | cons p t ih =>
    intro pre hp hl
    simp only [List.length_cons] at hl
    refine Ev.step (fun k => rfl) (ev_pos (by simp only [List.length_append, List.length_cons]; omega) (ev_pos (by omega) ?_))
    simp only [rd_midp]
    refine ev_then (specCopyPut_eq _ _ _ _ _ _ (hp p (List.mem_cons_self ..))) (ev_pos (by omega) ?_)
    rw [w64 (x := (pre.length : Int) + 1) (by omega) (by omega)]
    have := ih (pre ++ [p]) (fun q hq => hp q (List.mem_cons_of_mem _ hq)) (by simp only [List.length_append, List.length_cons, List.length_nil]; omega)
    simp only [List.append_assoc, List.singleton_append, List.length_append, List.length_cons, List.length_nil] at this
    exact this
theorem specCopy_ev (a b : List Int) (c d e : Int) (l : List S55) (ha : a.length ≤ 4194304) (hb : b.length ≤ 4194304) (hl : PutsOk 4194304 l) : Ev (fun k => spec_l9Copy.f k a b c d e l) (a, b, c, d, e, l) := by
  unfold spec_l9Copy.f
  refine ev_then rfl (ev_pos (by simp only [List.length_nil]; omega) (ev_then rfl (ev_pos (by simp only [List.length_nil]; omega) ?_)))
  exact specCopy_key a b c d e a b l [] hl.2 (by simpa using hl.1)
theorem implCopy_key (c d e : Int) (u v : List Int) (n : Int) : ∀ (t pre : List S55), (∀ p ∈ t, p.f2.length ≤ 4194304) → pre.length + t.length ≤ 4194304 → n = (pre.length : Int) + t.length →
    Ev (fun k => impl_copyDisk.l0 k (pre ++ t) n (pre.length : Int) u v c d e pre) (u, v, c, d, e, pre ++ t) := by
  intro t
  induction t with
  | nil =>
    intro pre _ _ hn
    exact Ev.step (fun k => rfl) (ev_neg (by simp only [List.length_nil] at hn; omega) (ev_eq ev_some (by simp)))
  | cons p t ih =>
    intro pre hp hl hn
    simp only [List.length_cons] at hl hn
    refine Ev.step (fun k => rfl) (ev_pos (by omega) (ev_pos (by omega) (ev_pos (by simp only [List.length_append, List.length_cons]; omega) ?_)))
    simp only [rd_midp]
    refine ev_then (implCopyPut_eq _ _ _ _ _ _ (hp p (List.mem_cons_self ..))) (ev_pos (by omega) ?_)
    rw [w64 (x := (pre.length : Int) + 1) (by omega) (by omega)]
    have := ih (pre ++ [p]) (fun q hq => hp q (List.mem_cons_of_mem _ hq)) (by simp only [List.length_append, List.length_cons, List.length_nil]; omega) (by simp only [List.length_append, List.length_cons, List.length_nil]; omega)
    simp only [List.append_assoc, List.singleton_append, List.length_append, List.length_cons, List.length_nil] at this
    exact this
theorem implCopy_ev (a b : List Int) (c d e : Int) (l : List S55) (ha : a.length ≤ 4194304) (hb : b.length ≤ 4194304) (hl : PutsOk 4194304 l) : Ev (fun k => impl_copyDisk.f k a b c d e l) (a, b, c, d, e, l) := by
  unfold impl_copyDisk.f impl_cloned.f
  rw [if_pos (by omega), if_pos (by omega)]
  exact ev_then rfl (ev_then rfl (implCopy_key c d e a b l.length l [] hl.2 (by simpa using hl.1) (by simp)))
end Go.Proofs.Ytogilihkphjjbaa.Pb
/- What disks are good: records, writes, the disk whole. No condition beyond the rows' lengths. -/
namespace Go.Proofs.Ytogilihkphjjbaa.Pb
open Go.RowKit Go.Proofs.Ytogilihkphjjbaa Go.Proofs.Ytogilihkphjjbaa.Q Go.Proofs.YtogilihkphjjbaaW.PrintWords Go.Proofs.YtogilihkphjjbaaW.PrintLast
set_option linter.unusedVariables false
set_option linter.unusedSimpArgs false

theorem not_dec {p : Prop} [Decidable p] (h : ¬ p) : ¬ (decide p = true) := fun e => h (of_decide_eq_true e)
def recordOk (a b c : Int) : Bool := decide (0 ≤ a ∧ a ≤ 1000000 ∧ 0 ≤ b ∧ b ≤ 1 ∧ 0 ≤ c ∧ c ≤ 240)
theorem specRecord_eq (a b c : Int) : spec_l9Record.f a b c = some (recordOk a b c) := by
  unfold spec_l9Record.f recordOk
  simp only [l1In_eq, Option.bind_some]
  by_cases h1 : 0 ≤ a ∧ a ≤ 1000000
  · rw [if_pos (decide_eq_true h1)]
    by_cases h2 : 0 ≤ b ∧ b ≤ 1
    · rw [if_pos (decide_eq_true h2)]
      exact congrArg some (decide_eq_decide.2 (by omega))
    · rw [if_neg (not_dec h2)]
      exact congrArg some (decide_eq_false (by omega)).symm
  · rw [if_neg (not_dec h1)]
    exact congrArg some (decide_eq_false (by omega)).symm
theorem implIsSlot_eq (a : Int) : impl_isSlot.f a = some (decide (0 ≤ a ∧ a ≤ 1)) := by
  unfold impl_isSlot.f
  by_cases h : a = 0
  · rw [if_pos h]
    exact congrArg some (decide_eq_true (by omega)).symm
  · rw [if_neg h]
    refine congrArg some ?_
    by_cases h' : a = 1
    · subst h'; rfl
    · rw [decide_eq_false (by omega)]
      exact beq_eq_false_iff_ne.mpr h'
theorem implRecord_eq (a b c : Int) : impl_isRecord.f a b c = some (recordOk a b c) := by
  unfold impl_isRecord.f impl_isGen.f recordOk
  simp only [within_eq, implIsSlot_eq, Option.bind_some]
  by_cases h1 : 0 ≤ a ∧ a ≤ 1000000
  · rw [if_pos (decide_eq_true h1)]
    by_cases h2 : 0 ≤ b ∧ b ≤ 1
    · rw [if_pos (decide_eq_true h2)]
      exact congrArg some (decide_eq_decide.2 (by omega))
    · rw [if_neg (not_dec h2)]
      exact congrArg some (decide_eq_false (by omega)).symm
  · rw [if_neg (not_dec h1)]
    exact congrArg some (decide_eq_false (by omega)).symm
def putOk (p : S55) : Bool := if p.f0 = 2 then (decide (p.f1 = 0 ∧ p.f2.length = 0) && recordOk p.f3.f0 p.f3.f1 p.f3.f2) else decide (0 ≤ p.f0 ∧ p.f0 ≤ 1 ∧ 0 ≤ p.f1 ∧ p.f1 + p.f2.length ≤ 240 ∧ p.f3.f0 = 0 ∧ p.f3.f1 = 0 ∧ p.f3.f2 = 0)
theorem zero3 (a b c : Int) : (a == 0 && (b == 0 && (c == 0))) = decide (a = 0 ∧ b = 0 ∧ c = 0) := by
  by_cases h1 : a = 0 <;> by_cases h2 : b = 0 <;> by_cases h3 : c = 0 <;> simp [h1, h2, h3]
theorem specPut_eq (p : S55) (hl : p.f2.length ≤ 9223372036854775807) : spec_l9Put.f p.f0 p.f1 p.f2 p.f3.f0 p.f3.f1 p.f3.f2 = some (putOk p) := by
  unfold spec_l9Put.f putOk
  simp only [l1In_eq, specRecord_eq, zero3, Option.bind_some]
  by_cases h : p.f0 = 2
  · rw [if_pos h, if_pos h]
    by_cases h1 : p.f1 = 0
    · rw [if_pos h1]
      by_cases h2 : p.f2.length = 0
      · rw [if_pos (by omega), decide_eq_true ⟨h1, h2⟩]; rfl
      · rw [if_neg (by omega), decide_eq_false (by omega)]; rfl
    · rw [if_neg h1, decide_eq_false (by omega)]; rfl
  · rw [if_neg h, if_neg h]
    by_cases h1 : 0 ≤ p.f0 ∧ p.f0 ≤ 1
    · rw [if_pos (decide_eq_true h1)]
      by_cases h2 : 0 ≤ p.f1 ∧ p.f1 ≤ 240
      · rw [if_pos (decide_eq_true h2), w64 (by omega) (by omega)]
        by_cases h3 : (p.f2.length : Int) ≤ 240 - p.f1
        · rw [if_pos h3]
          exact congrArg some (decide_eq_decide.2 (by omega))
        · rw [if_neg h3]
          exact congrArg some (decide_eq_false (by omega)).symm
      · rw [if_neg (not_dec h2)]
        exact congrArg some (decide_eq_false (by omega)).symm
    · rw [if_neg (not_dec h1)]
      exact congrArg some (decide_eq_false (by omega)).symm
theorem implPut_eq (p : S55) (hl : p.f2.length ≤ 9223372036854775807) : impl_isPut.f p.f0 p.f1 p.f2 p.f3.f0 p.f3.f1 p.f3.f2 = some (putOk p) := by
  unfold impl_isPut.f putOk
  simp only [within_eq, implIsSlot_eq, implRecord_eq, zero3, Option.bind_some]
  by_cases h : p.f0 = 2
  · rw [if_pos h, if_pos h]
    by_cases h1 : p.f1 = 0
    · rw [if_pos h1]
      by_cases h2 : p.f2.length = 0
      · rw [if_pos (by omega), decide_eq_true ⟨h1, h2⟩]; rfl
      · rw [if_neg (by omega), decide_eq_false (by omega)]; rfl
    · rw [if_neg h1, decide_eq_false (by omega)]; rfl
  · rw [if_neg h, if_neg h]
    by_cases h1 : 0 ≤ p.f0 ∧ p.f0 ≤ 1
    · rw [if_pos (decide_eq_true h1)]
      by_cases h2 : p.f3.f0 = 0 ∧ p.f3.f1 = 0 ∧ p.f3.f2 = 0
      · rw [if_pos (decide_eq_true h2), w64 (by omega) (by omega)]
        exact congrArg some (decide_eq_decide.2 (by omega))
      · rw [if_neg (not_dec h2)]
        exact congrArg some (decide_eq_false (by omega)).symm
    · rw [if_neg (not_dec h1)]
      exact congrArg some (decide_eq_false (by omega)).symm
def slotOf (a b : List Int) (s : Int) : List Int := if s = 0 then a else b
def putsOk (l : List S55) : Bool := (List.range l.length).all (fun i => putOk (l.getD i z55))
def diskOk (a b : List Int) (c d e : Int) (l : List S55) : Bool := decide (a.length ≤ 240 ∧ b.length ≤ 240 ∧ l.length ≤ 200 ∧ e ≤ (slotOf a b d).length) && (recordOk c d e && putsOk l)
theorem diskOk_false {a b : List Int} {c d e : Int} {l : List S55} (h : ¬ (a.length ≤ 240 ∧ b.length ≤ 240 ∧ l.length ≤ 200 ∧ e ≤ (slotOf a b d).length)) : false = diskOk a b c d e l := by
  unfold diskOk
  rw [decide_eq_false h]; rfl
theorem diskOk_rec {a b : List Int} {c d e : Int} {l : List S55} (h : recordOk c d e = false) : false = diskOk a b c d e l := by
  unfold diskOk
  rw [h, Bool.false_and, Bool.and_false]
theorem diskOk_puts {a b : List Int} {c d e : Int} {l : List S55} (h : a.length ≤ 240 ∧ b.length ≤ 240 ∧ l.length ≤ 200 ∧ e ≤ (slotOf a b d).length) (h' : recordOk c d e = true) : putsOk l = diskOk a b c d e l := by
  unfold diskOk
  rw [decide_eq_true h, h', Bool.true_and, Bool.true_and]
theorem lslot_yes {d : Int} (h : d = 1) : spec_l9Slot.f d 1 = some () := if_pos (Or.inl ⟨h, rfl⟩)
theorem lslot_no {d : Int} (h : ¬ d = 1) : spec_l9Slot.f d 0 = some () := if_pos (Or.inr ⟨h, rfl⟩)
theorem slotOf_one {a b : List Int} {d : Int} (h : d = 1) : slotOf a b d = b := if_neg (by omega)
theorem slotOf_other {a b : List Int} {c d e : Int} (r : recordOk c d e = true) (h : ¬ d = 1) : slotOf a b d = a := if_pos (by have := of_decide_eq_true r; omega)
theorem specDiskOk_ev (a b : List Int) (c d e : Int) (l : List S55) (hl : PutsOk 4194304 l) : Ev (fun k => spec_DiskOk.f k a b c d e l) (diskOk a b c d e l) := by
  have badE : Ev (fun k => spec_DiskOk.j0 k true a b c d e l) false := Ev.step (fun k => rfl) (ev_true (g := fun k => spec_DiskOk.l0 k 0 a b c d e l) ev_some)
  have loop : Ev (fun k => spec_DiskOk.l0 k 0 a b c d e l) (putsOk l) := by
    refine loop_all (fun k i => spec_DiskOk.l0 k i a b c d e l) l.length (fun i => putOk (l.getD i z55)) ?_ ?_ ?_
    · intro i r hi hp h
      refine Ev.step (fun k => rfl) (ev_pos (by omega) (ev_pos (by omega) ?_))
      simp only [rd_T55, Int.toNat_natCast]
      refine ev_then (specPut_eq _ (by have := hl.2 _ (getD_mem z55 hi); omega)) (ev_pos hp ?_)
      rw [w64 (by have := hl.1; omega) (by have := hl.1; omega)]
      exact h
    · intro i hi hp
      refine Ev.step (fun k => rfl) (ev_pos (by omega) (ev_pos (by omega) ?_))
      simp only [rd_T55, Int.toNat_natCast]
      exact ev_then (specPut_eq _ (by have := hl.2 _ (getD_mem z55 hi); omega)) (ev_neg (by rw [hp]; decide) ev_some)
    · exact Ev.step (fun k => rfl) (ev_neg (by omega) ev_some)
  unfold spec_DiskOk.f
  by_cases h1 : (a.length : Int) > 240
  · exact ev_pos h1 (ev_eq badE (diskOk_false (by omega)))
  refine ev_neg h1 ?_
  by_cases h2 : (b.length : Int) > 240
  · exact ev_pos h2 (ev_eq badE (diskOk_false (by omega)))
  refine ev_neg h2 (ev_then (specRecord_eq c d e) ?_)
  by_cases h3 : recordOk c d e = true
  · refine ev_pos h3 ?_
    have rest : ∀ n : List Int, slotOf a b d = n → Ev (fun k => if e > (n.length : Int) then spec_DiskOk.j0 k true a b c d e l else spec_DiskOk.j0 k (decide ((l.length : Int) > 200)) a b c d e l) (diskOk a b c d e l) := by
      intro n hs
      by_cases h4 : e > (n.length : Int)
      · exact ev_pos h4 (ev_eq badE (diskOk_false (by rw [hs]; omega)))
      refine ev_neg h4 (Ev.step (fun k => rfl) ?_)
      by_cases h5 : (l.length : Int) > 200
      · exact ev_pos (decide_eq_true h5) (ev_eq ev_some (diskOk_false (by omega)))
      · exact ev_neg (not_dec h5) (ev_eq loop (diskOk_puts (by rw [hs]; omega) h3))
    by_cases q : d = 1
    · exact ev_pos q (ev_then (lslot_yes q) (rest b (slotOf_one q)))
    · exact ev_neg q (ev_then (lslot_no q) (rest a (slotOf_other h3 q)))
  · exact ev_neg h3 (ev_eq badE (diskOk_rec (by simpa using h3)))
theorem implPutsBad_ev (l : List S55) (hl : PutsOk 4194304 l) : Ev (fun k => impl_Put_71.f k l) (!putsOk l) := by
  have one : ∀ i, i < l.length → impl_DiskOk_1.f (l.getD i z55).f0 (l.getD i z55).f1 (l.getD i z55).f2 (l.getD i z55).f3.f0 (l.getD i z55).f3.f1 (l.getD i z55).f3.f2 = some (!putOk (l.getD i z55)) := by
    intro i hi
    unfold impl_DiskOk_1.f
    rw [implPut_eq _ (by have := hl.2 _ (getD_mem z55 hi); omega)]
    rfl
  have h := loop_find (fun k i => impl_Put_90.l0 k l (l.length : Int) i) l.length (fun i => !putOk (l.getD i z55)) (fun i => (i : Int)) (-1) (fun i hi hp => by
      refine Ev.step (fun k => rfl) (ev_pos (by omega) (ev_pos (by omega) (ev_pos (by omega) ?_)))
      simp only [rd_T55, Int.toNat_natCast]
      exact ev_then (one i hi) (ev_pos hp ev_some)) (fun i r hi hp h => by
      refine Ev.step (fun k => rfl) (ev_pos (by omega) (ev_pos (by omega) (ev_pos (by omega) ?_)))
      simp only [rd_T55, Int.toNat_natCast]
      refine ev_then (one i hi) (ev_neg (by rw [hp]; decide) ?_)
      rw [w64 (by have := hl.1; omega) (by have := hl.1; omega)]
      exact h) (Ev.step (fun k => rfl) (ev_neg (by omega) ev_some))
  unfold impl_Put_71.f impl_Put_90.f
  refine Ev.bind h (ev_eq ev_some ?_)
  unfold putsOk
  cases hf : (List.range l.length).find? (fun i => !putOk (l.getD i z55)) with
  | some i =>
    have h1 := List.find?_some hf
    have h2 := List.mem_of_find?_eq_some hf
    have h3 : (List.range l.length).all (fun i => putOk (l.getD i z55)) = false := by
      rw [List.all_eq_false]
      exact ⟨i, h2, by simpa using h1⟩
    rw [h3]
    exact decide_eq_true (Int.natCast_nonneg i)
  | none =>
    have h3 : (List.range l.length).all (fun i => putOk (l.getD i z55)) = true := by
      rw [List.all_eq_true]
      intro x hx
      have := List.find?_eq_none.1 hf x hx
      simpa using this
    rw [h3]
    rfl
theorem slot_yes {d : Int} (h : d = 0) : impl_Disk_slot.f d 0 = some () := if_pos (Or.inl ⟨h, rfl⟩)
theorem slot_no {d : Int} (h : ¬ d = 0) : impl_Disk_slot.f d 1 = some () := if_pos (Or.inr ⟨h, rfl⟩)
theorem implDiskOk_ev (a b : List Int) (c d e : Int) (l : List S55) (hl : PutsOk 4194304 l) : Ev (fun k => impl_DiskOk.f k a b c d e l) (diskOk a b c d e l) := by
  unfold impl_DiskOk.f
  by_cases h1 : (a.length : Int) > 240
  · exact ev_pos h1 (ev_eq ev_some (diskOk_false (by omega)))
  refine ev_neg h1 ?_
  by_cases h2 : (b.length : Int) > 240
  · exact ev_pos h2 (ev_eq ev_some (diskOk_false (by omega)))
  refine ev_neg h2 (ev_then (implRecord_eq c d e) ?_)
  by_cases h3 : recordOk c d e = true
  · refine ev_pos h3 ?_
    have puts : (a.length ≤ 240 ∧ b.length ≤ 240 ∧ l.length ≤ 200 ∧ e ≤ (slotOf a b d).length) → Ev (fun k => (impl_Put_71.f k l).bind fun t => some (!t)) (diskOk a b c d e l) :=
      fun h => Ev.bind (implPutsBad_ev l hl) (ev_eq ev_some (by rw [Bool.not_not]; exact diskOk_puts h h3))
    by_cases h4 : d = 0
    · have hs : slotOf a b d = a := if_pos h4
      refine ev_pos h4 (ev_then (slot_yes h4) ?_)
      by_cases h5 : e > (a.length : Int)
      · exact ev_pos h5 (ev_eq ev_some (diskOk_false (by rw [hs]; omega)))
      refine ev_neg h5 ?_
      by_cases h6 : (l.length : Int) ≤ 200
      · exact ev_pos h6 (puts (by rw [hs]; omega))
      · exact ev_neg h6 (ev_eq ev_some (diskOk_false (by omega)))
    · have hs : slotOf a b d = b := if_neg h4
      refine ev_neg h4 (ev_then (slot_no h4) ?_)
      by_cases h5 : e > (b.length : Int)
      · exact ev_pos h5 (ev_eq ev_some (diskOk_false (by rw [hs]; omega)))
      refine ev_neg h5 ?_
      by_cases h6 : (l.length : Int) ≤ 200
      · exact ev_pos h6 (puts (by rw [hs]; omega))
      · exact ev_neg h6 (ev_eq ev_some (diskOk_false (by omega)))
  · exact ev_neg h3 (ev_eq ev_some (diskOk_rec (by simpa using h3)))
end Go.Proofs.Ytogilihkphjjbaa.Pb
/- One write laid on a disk: the program's and the reference's come to the same. No condition beyond the rows' lengths. -/
namespace Go.Proofs.Ytogilihkphjjbaa.Pb
open Go.RowKit Go.Proofs.Ytogilihkphjjbaa Go.Proofs.Ytogilihkphjjbaa.Q Go.Proofs.YtogilihkphjjbaaW.PrintWords Go.Proofs.YtogilihkphjjbaaW.PrintLast
set_option linter.unusedVariables false
set_option linter.unusedSimpArgs false

/-- A row made as long as n at least. -/
def padTo (s : List Int) (n : Nat) : List Int := s ++ List.replicate (n - s.length) 0
theorem padTo_length (s : List Int) (n : Nat) : (padTo s n).length = max s.length n := by
  unfold padTo
  simp only [List.length_append, List.length_replicate]
  omega
theorem padTo_step {s : List Int} {n : Nat} (h : s.length < n) : padTo (s ++ [0]) n = padTo s n := by
  unfold padTo
  rw [List.append_assoc]
  congr 1
  simp only [List.length_append, List.length_cons, List.length_nil, List.singleton_append]
  rw [show n - s.length = (n - (s.length + 1)) + 1 by omega, List.replicate_succ]
theorem padTo_done {s : List Int} {n : Nat} (h : ¬ s.length < n) : padTo s n = s := by
  unfold padTo
  rw [show n - s.length = 0 by omega, List.replicate_zero, List.append_nil]
/-- b over s from a on. -/
def laid (s : List Int) (a : Nat) (b : List Int) : List Int := (padTo s (a + b.length)).take a ++ (b ++ (padTo s (a + b.length)).drop (a + b.length))
theorem laid_length (s : List Int) (a : Nat) (b : List Int) : (laid s a b).length = max s.length (a + b.length) := by
  unfold laid
  simp only [List.length_append, List.length_take, List.length_drop, padTo_length]
  omega
theorem implPad_ev (n : Nat) (hn : n ≤ 4194304) : ∀ (d : Nat) (s : List Int), n - s.length = d → Ev (fun k => impl_Disk_perform.l0 k s (n : Int)) (padTo s n) := by
  intro d
  induction d with
  | zero =>
    intro s h
    exact Ev.step (fun k => rfl) (ev_neg (by omega) (ev_eq ev_some (padTo_done (by omega)).symm))
  | succ d ih =>
    intro s h
    refine Ev.step (fun k => rfl) (ev_pos (by omega) (ev_pos (by omega) ?_))
    have := ih (s ++ [0]) (by simp only [List.length_append, List.length_cons, List.length_nil]; omega)
    rwa [padTo_step (by omega)] at this
theorem specLay1 (a : Nat) : ∀ (t pre u v : List Int), t.length ≤ v.length → u.length = a + pre.length → u.length + v.length ≤ 8388608 →
    Ev (fun k => spec_l9Lay.l1 k (a : Int) (pre ++ t) (u ++ v) (pre.length : Int)) (u ++ (t ++ v.drop t.length)) := by
  intro t
  induction t with
  | nil =>
    intro pre u v _ _ _
    exact Ev.step (fun k => rfl) (ev_neg (by simp) (ev_eq ev_some (by simp)))
  | cons c t ih =>
    intro pre u v hv hu hl
    cases v with
    | nil => simp only [List.length_nil, List.length_cons] at hv; omega
    | cons z v =>
      simp only [List.length_cons] at hv hl
      refine Ev.step (fun k => rfl) (ev_pos (by simp only [List.length_append, List.length_cons]; omega) (ev_pos (by omega) ?_))
      rw [w64 (x := (a : Int) + (pre.length : Int)) (by omega) (by omega), w64 (x := (pre.length : Int) + 1) (by omega) (by omega)]
      refine ev_pos (by omega) (ev_pos (by simp only [List.length_append, List.length_cons]; omega) ?_)
      have e1 : rd (pre ++ c :: t) (pre.length : Int) = c := by
        unfold rd
        rw [Int.toNat_natCast, List.getD_eq_getElem?_getD, List.getElem?_append_right (Nat.le_refl _), Nat.sub_self]
        rfl
      have e2 : (u ++ z :: v).set ((a : Int) + (pre.length : Int)).toNat c = u ++ c :: v := by
        rw [show ((a : Int) + (pre.length : Int)).toNat = u.length by omega, List.set_append_right (h := Nat.le_refl _), Nat.sub_self]
        rfl
      rw [e1, e2]
      have := ih (pre ++ [c]) (u ++ [c]) v (by omega) (by simp only [List.length_append, List.length_cons, List.length_nil]; omega) (by simp only [List.length_append, List.length_cons, List.length_nil]; omega)
      simp only [List.append_assoc, List.singleton_append, List.length_append, List.length_cons, List.length_nil] at this
      simpa using this
theorem specLay0 (a : Nat) (b : List Int) (hn : a + b.length ≤ 4194304) : ∀ (d : Nat) (s : List Int), (a + b.length) - s.length = d → s.length ≤ 4194304 → Ev (fun k => spec_l9Lay.l0 k (a : Int) b s) (laid s a b) := by
  intro d
  induction d with
  | zero =>
    intro s h hs
    refine Ev.step (fun k => rfl) ?_
    have hw := w64 (x := (a : Int) + (b.length : Int)) (by omega) (by omega)
    refine ev_neg (by rw [hw]; omega) ?_
    have := specLay1 a b [] (s.take a) (s.drop a) (by simp only [List.length_drop]; omega) (by simp only [List.length_take, List.length_nil]; omega) (by simp only [List.length_take, List.length_drop]; omega)
    rw [List.take_append_drop, List.drop_drop] at this
    unfold laid
    rw [padTo_done (by omega)]
    exact this
  | succ d ih =>
    intro s h hs
    refine Ev.step (fun k => rfl) ?_
    have hw := w64 (x := (a : Int) + (b.length : Int)) (by omega) (by omega)
    refine ev_pos (by rw [hw]; omega) (ev_pos (by omega) ?_)
    have := ih (s ++ [0]) (by simp only [List.length_append, List.length_cons, List.length_nil]; omega) (by simp only [List.length_append, List.length_cons, List.length_nil]; omega)
    unfold laid at this ⊢
    rwa [padTo_step (by omega)] at this
theorem specLay_ev (s : List Int) (a : Int) (b : List Int) (h0 : 0 ≤ a) (hn : a + b.length ≤ 4194304) (hs : s.length ≤ 4194304) : Ev (fun k => spec_l9Lay.f k s a b) (laid s a.toNat b) := by
  unfold spec_l9Lay.f
  refine ev_then rfl (ev_pos (by simp only [List.length_nil]; omega) ?_)
  have := specLay0 a.toNat b (by omega) _ s rfl hs
  rwa [Int.toNat_of_nonneg h0] at this
theorem implLay_ev (s : List Int) (a : Int) (b : List Int) (h0 : 0 ≤ a) (hn : a + b.length ≤ 4194304) : Ev (fun k => (impl_Disk_perform.l0 k s (wrap64 (a + b.length))).bind fun x => cut_ x a b) (laid s a.toNat b) := by
  rw [w64 (by omega) (by omega)]
  have h := implPad_ev (a.toNat + b.length) (by omega) _ s rfl
  rw [show (((a.toNat + b.length : Nat)) : Int) = a + b.length by omega] at h
  refine Ev.bind h (ev_of ?_)
  have hl := padTo_length s (a.toNat + b.length)
  unfold cut_
  rw [if_pos (by omega)]
  unfold laid
  rw [List.append_assoc]
theorem putOk_at {p : S55} (h : putOk p = true) (h2 : ¬ p.f0 = 2) : 0 ≤ p.f0 ∧ p.f0 ≤ 1 ∧ 0 ≤ p.f1 ∧ p.f1 + p.f2.length ≤ 240 := by
  unfold putOk at h
  rw [if_neg h2] at h
  have := of_decide_eq_true h
  exact ⟨this.1, this.2.1, this.2.2.1, this.2.2.2.1⟩
/-- What a good write makes of a disk's slots and record. -/
def done (a b : List Int) (c d e : Int) (p : S55) : List Int × List Int × Int × Int × Int :=
  if p.f0 = 2 then (a, b, p.f3.f0, p.f3.f1, p.f3.f2) else if p.f0 = 0 then (laid a p.f1.toNat p.f2, b, c, d, e) else (a, laid b p.f1.toNat p.f2, c, d, e)
theorem done_len {a b : List Int} {c d e : Int} {p : S55} {n : Nat} (hp : putOk p = true) (ha : a.length ≤ n) (hb : b.length ≤ n) (hn : 240 ≤ n) : (done a b c d e p).1.length ≤ n ∧ (done a b c d e p).2.1.length ≤ n := by
  unfold done
  by_cases h2 : p.f0 = 2
  · rw [if_pos h2]; exact ⟨ha, hb⟩
  rw [if_neg h2]
  have := putOk_at hp h2
  split
  · exact ⟨by simp only [laid_length]; omega, hb⟩
  · exact ⟨ha, by simp only [laid_length]; omega⟩
def onePut (a b : List Int) (c d e : Int) (l : List S55) (p : S55) : List Int × List Int × Int × Int × Int × List S55 :=
  if putOk p = true then ((done a b c d e p).1, (done a b c d e p).2.1, (done a b c d e p).2.2.1, (done a b c d e p).2.2.2.1, (done a b c d e p).2.2.2.2, l) else (a, b, c, d, e, l)
theorem implPerform_ev (a b : List Int) (c d e : Int) (p : S55) (hp : putOk p = true) : Ev (fun k => impl_Disk_perform.f k a b c d e p.f0 p.f1 p.f2 p.f3.f0 p.f3.f1 p.f3.f2) (done a b c d e p) := by
  unfold impl_Disk_perform.f done
  by_cases h2 : p.f0 = 2
  · exact ev_pos h2 (ev_eq ev_some (by rw [if_pos h2]))
  have h := putOk_at hp h2
  refine ev_neg h2 ?_
  rw [if_neg h2]
  by_cases h0 : p.f0 = 0
  · refine ev_pos h0 ?_
    rw [if_pos h0]
    have q := implLay_ev a p.f1 p.f2 h.2.2.1 (by omega)
    refine Ev.congr (fun k => ?_) (Ev.bind (f := fun _ y => some (y, b, c, d, e)) q ev_some)
    exact (Option.bind_assoc ..).symm
  · refine ev_neg h0 ?_
    rw [if_neg h0]
    have q := implLay_ev b p.f1 p.f2 h.2.2.1 (by omega)
    refine Ev.congr (fun k => ?_) (Ev.bind (f := fun _ y => some (a, y, c, d, e)) q ev_some)
    exact (Option.bind_assoc ..).symm
theorem specOnePut_ev (a b : List Int) (c d e : Int) (l : List S55) (p : S55) (ha : a.length ≤ 4194304) (hb : b.length ≤ 4194304) (hl : PutsOk 4194304 l) (hp : p.f2.length ≤ 4194304) :
    Ev (fun k => spec_OnePut.f k a b c d e l p.f0 p.f1 p.f2 p.f3.f0 p.f3.f1 p.f3.f2) (onePut a b c d e l p) := by
  unfold spec_OnePut.f onePut
  refine Ev.bind (specCopy_ev a b c d e l ha hb hl) (ev_then (specPut_eq p (by omega)) (ev_if (fun h => ?_) (fun h => ev_eq ev_some (by rw [if_neg h]))))
  rw [if_pos h]
  unfold done
  by_cases h2 : p.f0 = 2
  · rw [if_pos h2]
    exact ev_neg (by omega) (ev_neg (by omega) ev_some)
  rw [if_neg h2]
  have q := putOk_at h h2
  by_cases h0 : p.f0 = 0
  · rw [if_pos h0]
    exact ev_pos h0 (Ev.bind (specLay_ev a p.f1 p.f2 q.2.2.1 (by omega) ha) ev_some)
  · rw [if_neg h0]
    exact ev_neg h0 (ev_pos (by omega) (Ev.bind (specLay_ev b p.f1 p.f2 q.2.2.1 (by omega) hb) ev_some))
theorem onePut_len (a b : List Int) (c d e : Int) (l : List S55) (p : S55) {n : Nat} (ha : a.length ≤ n) (hb : b.length ≤ n) (hl : PutsOk n l) (hn : 240 ≤ n) : (onePut a b c d e l p).1.length ≤ n ∧ (onePut a b c d e l p).2.1.length ≤ n ∧ PutsOk n (onePut a b c d e l p).2.2.2.2.2 := by
  unfold onePut
  split
  · rename_i h
    have := done_len (c := c) (d := d) (e := e) h ha hb hn
    exact ⟨this.1, this.2, hl⟩
  · exact ⟨ha, hb, hl⟩
end Go.Proofs.Ytogilihkphjjbaa.Pb
/- The writes of a disk made durable, those that are kept. No condition beyond the rows' lengths. -/
namespace Go.Proofs.Ytogilihkphjjbaa.Pb
open Go.RowKit Go.Proofs.Ytogilihkphjjbaa Go.Proofs.Ytogilihkphjjbaa.Q Go.Proofs.YtogilihkphjjbaaW.PrintWords Go.Proofs.YtogilihkphjjbaaW.PrintLast
set_option linter.unusedVariables false
set_option linter.unusedSimpArgs false

abbrev Dsk5 : Type := List Int × List Int × Int × Int × Int
def step5 (q : Bool) (s : Dsk5) (p : S55) : Dsk5 := if q = true then done s.1 s.2.1 s.2.2.1 s.2.2.2.1 s.2.2.2.2 p else s
def settleL (keep : Int → Bool) : List S55 → Int → Dsk5 → Dsk5
  | [], _, s => s
  | p :: t, i, s => settleL keep t (i + 1) (step5 (keep i) s p)
def settle (keep : Int → Bool) (a b : List Int) (c d e : Int) (l : List S55) : List Int × List Int × Int × Int × Int × List S55 :=
  if diskOk a b c d e l = true then ((settleL keep l 0 (a, b, c, d, e)).1, (settleL keep l 0 (a, b, c, d, e)).2.1, (settleL keep l 0 (a, b, c, d, e)).2.2.1, (settleL keep l 0 (a, b, c, d, e)).2.2.2.1, (settleL keep l 0 (a, b, c, d, e)).2.2.2.2, []) else (a, b, c, d, e, l)
theorem diskOk_all {a b : List Int} {c d e : Int} {l : List S55} (h : diskOk a b c d e l = true) : ∀ p ∈ l, putOk p = true := by
  unfold diskOk at h
  rw [Bool.and_eq_true, Bool.and_eq_true] at h
  have h3 := h.2.2
  unfold putsOk at h3
  rw [List.all_eq_true] at h3
  intro p hp
  obtain ⟨i, hi, rfl⟩ := List.getElem_of_mem hp
  have := h3 i (List.mem_range.2 hi)
  rwa [List.getD_eq_getElem?_getD, List.getElem?_eq_getElem hi] at this
theorem step5_len {q : Bool} {s : Dsk5} {p : S55} {n : Nat} (hp : putOk p = true) (ha : s.1.length ≤ n) (hb : s.2.1.length ≤ n) (hn : 240 ≤ n) : (step5 q s p).1.length ≤ n ∧ (step5 q s p).2.1.length ≤ n := by
  unfold step5
  split
  · exact done_len hp ha hb hn
  · exact ⟨ha, hb⟩
theorem settleL_len {n : Nat} (hn : 240 ≤ n) (keep : Int → Bool) : ∀ (t : List S55) (i : Int) (s : Dsk5), (∀ p ∈ t, putOk p = true) → s.1.length ≤ n → s.2.1.length ≤ n → (settleL keep t i s).1.length ≤ n ∧ (settleL keep t i s).2.1.length ≤ n
  | [], _, _, _, ha, hb => ⟨ha, hb⟩
  | p :: t, i, s, h, ha, hb => by
    have q := step5_len (q := keep i) (h p (List.mem_cons_self ..)) ha hb hn
    exact settleL_len hn keep t (i + 1) _ (fun x hx => h x (List.mem_cons_of_mem _ hx)) q.1 q.2
theorem settle_len (keep : Int → Bool) (a b : List Int) (c d e : Int) (l : List S55) {n : Nat} (ha : a.length ≤ n) (hb : b.length ≤ n) (hl : PutsOk n l) (hn : 240 ≤ n) : (settle keep a b c d e l).1.length ≤ n ∧ (settle keep a b c d e l).2.1.length ≤ n ∧ PutsOk n (settle keep a b c d e l).2.2.2.2.2 := by
  unfold settle
  split
  · rename_i h
    have q := settleL_len hn keep l 0 (a, b, c, d, e) (diskOk_all h) ha hb
    exact ⟨q.1, q.2, ⟨Nat.zero_le _, fun p hp => by cases hp⟩⟩
  · exact ⟨ha, hb, hl⟩
theorem implSettled_key (keepI : Nat → Int → Option Bool) (keep : Int → Bool) (hk : ∀ i, Ev (fun k => keepI k i) (keep i)) : ∀ (t pre : List S55) (s : Dsk5), (∀ p ∈ t, putOk p = true) → pre.length + t.length ≤ 4194304 →
    Ev (fun k => impl_Disk_settled.l0 k keepI (pre ++ t) (pre.length : Int) s.1 s.2.1 s.2.2.1 s.2.2.2.1 s.2.2.2.2) (settleL keep t (pre.length : Int) s) := by
  intro t
  induction t with
  | nil =>
    intro pre s _ _
    exact Ev.step (fun k => rfl) (ev_neg (by simp) (ev_eq ev_some rfl))
  | cons p t ih =>
    intro pre s hp hl
    simp only [List.length_cons] at hl
    refine Ev.step (fun k => rfl) (ev_pos (by simp only [List.length_append, List.length_cons]; omega) (ev_pos (by omega) ?_))
    simp only [rd_midp]
    have next := ih (pre ++ [p]) (step5 (keep (pre.length : Int)) s p) (fun q hq => hp q (List.mem_cons_of_mem _ hq)) (by simp only [List.length_append, List.length_cons, List.length_nil]; omega)
    simp only [List.append_assoc, List.singleton_append, List.length_append, List.length_cons, List.length_nil] at next
    rw [w64 (x := (pre.length : Int) + 1) (by omega) (by omega)]
    refine Ev.bind (hk _) ?_
    unfold settleL
    cases hq : keep (pre.length : Int) with
    | true =>
      rw [hq] at next
      exact ev_true (Ev.bind (implPerform_ev s.1 s.2.1 s.2.2.1 s.2.2.2.1 s.2.2.2.2 p (hp p (List.mem_cons_self ..))) next)
    | false =>
      rw [hq] at next
      exact ev_false next
theorem implSettled_ev (keepI : Nat → Int → Option Bool) (keep : Int → Bool) (hk : ∀ i, Ev (fun k => keepI k i) (keep i)) (a b : List Int) (c d e : Int) (l : List S55) (ha : a.length ≤ 4194304) (hb : b.length ≤ 4194304) (hl : PutsOk 4194304 l) : Ev (fun k => impl_Disk_settled.f k keepI a b c d e l) (settle keep a b c d e l) := by
  unfold impl_Disk_settled.f settle
  refine Ev.bind (implCopy_ev a b c d e l ha hb hl) (Ev.bind (implDiskOk_ev a b c d e l hl) (ev_if (fun h => ?_) (fun h => ev_eq ev_some (by rw [if_neg h]))))
  rw [if_pos h]
  exact Ev.bind (implSettled_key keepI keep hk l [] (a, b, c, d, e) (diskOk_all h) (by simpa using hl.1)) ev_some
end Go.Proofs.Ytogilihkphjjbaa.Pb
/- Whether a number is a set of blocks. No condition. -/
namespace Go.Proofs.Ytogilihkphjjbaa.Pb
open Go.RowKit Go.Proofs.Ytogilihkphjjbaa Go.Proofs.Ytogilihkphjjbaa.Q Go.Proofs.YtogilihkphjjbaaW.PrintWords Go.Proofs.YtogilihkphjjbaaW.PrintLast
set_option linter.unusedVariables false
set_option linter.unusedSimpArgs false

/-- A set of blocks. -/
def setOk (s : Int) : Bool := decide (0 ≤ s ∧ s ≤ 1099511627775)
theorem specSetOk_eq (s : Int) : spec_SetOk.f s = some (setOk s) := by
  unfold spec_SetOk.f
  rw [l1In_eq]
  rfl
theorem implSetOk_eq (s : Int) : impl_SetOk.f s = some (setOk s) := by
  unfold impl_SetOk.f
  rw [within_eq]
  rfl
end Go.Proofs.Ytogilihkphjjbaa.Pb
/- The reference's Fall: those writes made durable that a set names. No condition beyond the rows' lengths. -/
namespace Go.Proofs.Ytogilihkphjjbaa.Pb
open Go.RowKit Go.Proofs.Ytogilihkphjjbaa Go.Proofs.Ytogilihkphjjbaa.Q Go.Proofs.YtogilihkphjjbaaW.PrintWords Go.Proofs.YtogilihkphjjbaaW.PrintLast
set_option linter.unusedVariables false
set_option linter.unusedSimpArgs false

def inSet (s i : Int) : Bool := if setOk s = true then (if 0 ≤ i ∧ i ≤ 39 then (Go.bits .and .i64 (shr .i64 s i) 1) == 1 else false) else false
theorem specInSet_eq (s i : Int) : spec_InSet.f s i = some (inSet s i) := by
  unfold spec_InSet.f inSet
  rw [specSetOk_eq, l1In_eq]
  simp only [Option.bind_some]
  by_cases h : setOk s = true
  · rw [if_pos h, if_pos h]
    by_cases h2 : 0 ≤ i ∧ i ≤ 39
    · rw [if_pos (decide_eq_true h2), if_pos h2, if_pos h2.1]
    · rw [if_neg (not_dec h2), if_neg h2]
  · rw [if_neg h, if_neg h]
theorem implInSet_eq (s i : Int) : impl_InSet.f s i = some (inSet s i) := by
  unfold impl_InSet.f inSet impl_isPlace.f
  rw [implSetOk_eq, within_eq]
  simp only [Option.bind_some]
  by_cases h : setOk s = true
  · rw [if_pos h, if_pos h]
    by_cases h2 : 0 ≤ i ∧ i ≤ 39
    · rw [if_pos (decide_eq_true h2), if_pos h2, if_pos h2.1]
    · rw [if_neg (not_dec h2), if_neg h2]
  · rw [if_neg h, if_neg h]
theorem specFall_key (x : Int) (A B : List Int) (C D E : Int) (L : List S55) (hL : PutsOk 4194304 L) : ∀ (t pre : List S55) (s : Dsk5), (∀ p ∈ t, putOk p = true ∧ p.f2.length ≤ 4194304) → pre.length + t.length ≤ 4194304 → s.1.length ≤ 4194304 → s.2.1.length ≤ 4194304 →
    Ev (fun k => spec_Fall.l0 k x (pre.length : Int) A B C D E (pre ++ t) s.1 s.2.1 s.2.2.1 s.2.2.2.1 s.2.2.2.2 L) ((settleL (inSet x) t (pre.length : Int) s).1, (settleL (inSet x) t (pre.length : Int) s).2.1, (settleL (inSet x) t (pre.length : Int) s).2.2.1, (settleL (inSet x) t (pre.length : Int) s).2.2.2.1, (settleL (inSet x) t (pre.length : Int) s).2.2.2.2, []) := by
  intro t
  induction t with
  | nil =>
    intro pre s _ _ _ _
    exact Ev.step (fun k => rfl) (ev_neg (by simp) (ev_eq ev_some rfl))
  | cons p t ih =>
    intro pre s hp hl ha hb
    simp only [List.length_cons] at hl
    have h0 := hp p (List.mem_cons_self ..)
    refine Ev.step (fun k => rfl) (ev_pos (by simp only [List.length_append, List.length_cons]; omega) ?_)
    simp only [rd_midp]
    rw [w64 (x := (pre.length : Int) + 1) (by omega) (by omega)]
    have q := step5_len (q := inSet x (pre.length : Int)) (s := s) h0.1 ha hb (by omega)
    have next := ih (pre ++ [p]) (step5 (inSet x (pre.length : Int)) s p) (fun q hq => hp q (List.mem_cons_of_mem _ hq)) (by simp only [List.length_append, List.length_cons, List.length_nil]; omega) q.1 q.2
    simp only [List.append_assoc, List.singleton_append, List.length_append, List.length_cons, List.length_nil] at next
    refine ev_then (specInSet_eq x _) ?_
    unfold settleL
    cases hq : inSet x (pre.length : Int) with
    | true =>
      rw [hq] at next
      refine ev_true (ev_pos (by omega) (Ev.bind (specOnePut_ev s.1 s.2.1 s.2.2.1 s.2.2.2.1 s.2.2.2.2 L p ha hb hL h0.2) ?_))
      unfold onePut
      rw [if_pos h0.1]
      exact next
    | false =>
      rw [hq] at next
      exact ev_false next
def fall (a b : List Int) (c d e : Int) (l : List S55) (x : Int) : List Int × List Int × Int × Int × Int × List S55 := settle (inSet x) a b c d e l
theorem specFall_ev (a b : List Int) (c d e : Int) (l : List S55) (x : Int) (ha : a.length ≤ 4194304) (hb : b.length ≤ 4194304) (hl : PutsOk 4194304 l) : Ev (fun k => spec_Fall.f k a b c d e l x) (fall a b c d e l x) := by
  unfold spec_Fall.f fall settle
  refine Ev.bind (specCopy_ev a b c d e l ha hb hl) (Ev.bind (specDiskOk_ev a b c d e l hl) (ev_if (fun h => ?_) (fun h => ev_eq ev_some (by rw [if_neg h]))))
  rw [if_pos h]
  exact specFall_key x a b c d e l hl l [] (a, b, c, d, e) (fun p hp => ⟨diskOk_all h p hp, hl.2 p hp⟩) (by simpa using hl.1) ha hb
theorem implFall_ev (a b : List Int) (c d e : Int) (l : List S55) (x : Int) (ha : a.length ≤ 4194304) (hb : b.length ≤ 4194304) (hl : PutsOk 4194304 l) : Ev (fun k => impl_Fall.f k a b c d e l x) (fall a b c d e l x) := by
  unfold impl_Fall.f fall
  exact implSettled_ev (fun _ i => impl_InSet.f x i) (inSet x) (fun i => ev_of (implInSet_eq x i)) a b c d e l ha hb hl
end Go.Proofs.Ytogilihkphjjbaa.Pb
/- All crashes of a disk. No condition beyond the rows' lengths. -/
namespace Go.Proofs.Ytogilihkphjjbaa.Pb
open Go.RowKit Go.Proofs.Ytogilihkphjjbaa Go.Proofs.Ytogilihkphjjbaa.Q Go.Proofs.YtogilihkphjjbaaW.PrintWords Go.Proofs.YtogilihkphjjbaaW.PrintLast
set_option linter.unusedVariables false
set_option linter.unusedSimpArgs false

def asDisk (z : List Int × List Int × Int × Int × Int × List S55) : S33 := ⟨z.1, z.2.1, ⟨z.2.2.1, z.2.2.2.1, z.2.2.2.2.1⟩, z.2.2.2.2.2⟩
def fallD (a b : List Int) (c d e : Int) (l : List S55) (i : Nat) : S33 := asDisk (fall a b c d e l (i : Int))
def nFalls (l : List S55) : Nat := 2 ^ (min 6 l.length)
def allFalls (a b : List Int) (c d e : Int) (l : List S55) : List S33 := (List.range' 0 (nFalls l)).map (fallD a b c d e l)
theorem nFalls_le (l : List S55) : nFalls l ≤ 64 := Nat.pow_le_pow_right (by decide) (Nat.min_le_left 6 l.length)
theorem shl_small : ∀ m : Nat, m ≤ 6 → shl .i64 1 (m : Int) = ((2 ^ m : Nat) : Int) := by decide
theorem pow_small (m : Nat) (hm : m ≤ 6) : wrap64 ((2 : Int) ^ m) = ((2 ^ m : Nat) : Int) := by
  have h : ((2 : Int) ^ m) = ((2 ^ m : Nat) : Int) := by simp
  have h2 : 2 ^ m ≤ 2 ^ 6 := Nat.pow_le_pow_right (by decide) hm
  rw [h]
  generalize 2 ^ m = p at h2 ⊢
  exact w64 (by omega) (by omega)
theorem specFalls_key (a b : List Int) (c d e : Int) (l : List S55) (ha : a.length ≤ 4194304) (hb : b.length ≤ 4194304) (hl : PutsOk 4194304 l) : ∀ (r i : Nat) (x : List S33), i + r = nFalls l → x.length = i →
    Ev (fun k => spec_AllFalls.l0 k x ((min 6 l.length : Nat) : Int) (i : Int) a b c d e l) (x ++ (List.range' i r).map (fallD a b c d e l)) := by
  intro r
  have hn := nFalls_le l
  have hs := shl_small (min 6 l.length) (Nat.min_le_left _ _)
  induction r with
  | zero =>
    intro i x hi hx
    refine Ev.step (fun k => rfl) (ev_pos (by omega) ?_)
    rw [hs]
    refine ev_neg (by unfold nFalls at hi; omega) (ev_eq ev_some (by simp))
  | succ r ih =>
    intro i x hi hx
    refine Ev.step (fun k => rfl) (ev_pos (by omega) ?_)
    rw [hs]
    refine ev_pos (by unfold nFalls at hi; omega) (Ev.bind (specFall_ev a b c d e l i ha hb hl) (ev_pos (by omega) ?_))
    rw [w64 (x := (i : Int) + 1) (by omega) (by omega)]
    have := ih (i + 1) (x ++ [fallD a b c d e l i]) (by omega) (by simp [hx])
    rw [List.range'_succ, List.map_cons]
    simp only [List.append_assoc, List.singleton_append] at this
    exact this
theorem specFalls_ev (a b : List Int) (c d e : Int) (l : List S55) (ha : a.length ≤ 4194304) (hb : b.length ≤ 4194304) (hl : PutsOk 4194304 l) : Ev (fun k => spec_AllFalls.f k a b c d e l) (allFalls a b c d e l) := by
  unfold spec_AllFalls.f
  have e1 : spec_Least.f (l.length : Int) 6 = some ((min 6 l.length : Nat) : Int) := by
    unfold spec_Least.f
    split <;> (congr 1; omega)
  exact ev_then e1 (specFalls_key a b c d e l ha hb hl (nFalls l) 0 [] (by omega) rfl)
theorem implFalls_key (a b : List Int) (c d e : Int) (l : List S55) (ha : a.length ≤ 4194304) (hb : b.length ≤ 4194304) (hl : PutsOk 4194304 l) : ∀ (r i : Nat) (x : List S33), i + r = nFalls l → x.length = i →
    Ev (fun k => impl_AllFalls.l0 k x (nFalls l : Int) (i : Int) a b c d e l) (x ++ (List.range' i r).map (fallD a b c d e l)) := by
  intro r
  have hn := nFalls_le l
  induction r with
  | zero =>
    intro i x hi hx
    exact Ev.step (fun k => rfl) (ev_neg (by omega) (ev_eq ev_some (by simp)))
  | succ r ih =>
    intro i x hi hx
    refine Ev.step (fun k => rfl) (ev_pos (by omega) (Ev.bind (implFall_ev a b c d e l i ha hb hl) (ev_pos (by omega) ?_)))
    rw [w64 (x := (i : Int) + 1) (by omega) (by omega)]
    have := ih (i + 1) (x ++ [fallD a b c d e l i]) (by omega) (by simp [hx])
    rw [List.range'_succ, List.map_cons]
    simp only [List.append_assoc, List.singleton_append] at this
    exact this
theorem implFalls_ev (a b : List Int) (c d e : Int) (l : List S55) (ha : a.length ≤ 4194304) (hb : b.length ≤ 4194304) (hl : PutsOk 4194304 l) : Ev (fun k => impl_AllFalls.f k a b c d e l) (allFalls a b c d e l) := by
  unfold impl_AllFalls.f
  have e1 : (mn 6 (l.length : Int)).toNat = min 6 l.length := by
    unfold mn
    split <;> omega
  rw [e1, pow_small (min 6 l.length) (Nat.min_le_left _ _)]
  exact implFalls_key a b c d e l ha hb hl (nFalls l) 0 [] (by omega) rfl
/-- Disks whose rows are few. -/
def DiskSmall (n : Nat) (x : S33) : Prop := x.f0.length ≤ n ∧ x.f1.length ≤ n ∧ PutsOk n x.f3
theorem allFalls_small (a b : List Int) (c d e : Int) (l : List S55) {n : Nat} (ha : a.length ≤ n) (hb : b.length ≤ n) (hl : PutsOk n l) (hn : 240 ≤ n) : ∀ x ∈ allFalls a b c d e l, DiskSmall n x := by
  intro x hx
  obtain ⟨i, _, rfl⟩ := List.mem_map.1 hx
  exact settle_len (inSet (i : Int)) a b c d e l ha hb hl hn
theorem rd_midD (pre : List S33) (p : S33) (t : List S33) : rd_T33 (pre ++ p :: t) (pre.length : Int) = p := by
  simp only [rd_T33, Int.toNat_natCast, List.getD_eq_getElem?_getD]
  rw [List.getElem?_append_right (Nat.le_refl _), Nat.sub_self]
  rfl
end Go.Proofs.Ytogilihkphjjbaa.Pb
/- Marking rows of disks, and finding the marks again; a row of disks is as itself. No condition beyond the rows' lengths. -/
namespace Go.Proofs.Ytogilihkphjjbaa.Pb
open Go.RowKit Go.Proofs.Ytogilihkphjjbaa Go.Proofs.Ytogilihkphjjbaa.Q Go.Proofs.YtogilihkphjjbaaW.PrintWords Go.Proofs.YtogilihkphjjbaaW.PrintLast
set_option linter.unusedVariables false
set_option linter.unusedSimpArgs false

theorem eqDiskS_refl (l : List S33) (hl : l.length ≤ 4096) (h : ∀ x ∈ l, DiskSmall 4194304 x) : Ev (fun k => laws_eqDiskS.f k l l) true := by
  unfold laws_eqDiskS.f
  refine ev_pos rfl (ev_eq (loop_all (fun k i => laws_eqDiskS.l0 k l l i) l.length (fun _ => true) ?_ ?_ ?_) (by simp))
  · intro i r hi _ hr
    refine Ev.step (fun k => rfl) (ev_pos (by omega) (ev_pos (by omega) (ev_pos (by omega) ?_)))
    simp only [rd_T33, Int.toNat_natCast]
    have hm := h _ (getD_mem z33 hi)
    refine Ev.bind (eqDisk_refl _ _ _ _ _ _ (by have := hm.1; omega) (by have := hm.2.1; omega) (putsOk_le (by omega) hm.2.2)) (ev_true ?_)
    rw [w64 (by omega) (by omega)]
    exact hr
  · intro i hi hp
    cases hp
  · exact Ev.step (fun k => rfl) (ev_neg (by omega) ev_some)
abbrev Sh : Type := Nat × Nat × List Nat
def shapeD (x : S33) : Sh := (x.f0.length, x.f1.length, lens x.f3)
def dEnd (s : Sh) (x : Int) : Int := putEnd s.2.2 (x + s.1 + s.2.1 + 1 + 1 + 1)
def dMark (s : Sh) (x : Int) : S33 := ⟨byteMarks x s.1, byteMarks (x + s.1) s.2.1, ⟨x + s.1 + s.2.1, x + s.1 + s.2.1 + 1, x + s.1 + s.2.1 + 1 + 1⟩, putMarks s.2.2 (x + s.1 + s.2.1 + 1 + 1 + 1)⟩
def dsEnd : List Sh → Int → Int
  | [], x => x
  | s :: t, x => dsEnd t (dEnd s x)
def dsMarks : List Sh → Int → List S33
  | [], _ => []
  | s :: t, x => dMark s x :: dsMarks t (dEnd s x)
def ShSmall (s : Sh) : Prop := s.1 ≤ 4194304 ∧ s.2.1 ≤ 4194304 ∧ (∀ n ∈ s.2.2, n ≤ 4194304) ∧ s.2.2.length ≤ 4194304
theorem shape_small {x : S33} (h : DiskSmall 4194304 x) : ShSmall (shapeD x) := ⟨h.1, h.2.1, (lens_ok h.2.2).1, (lens_ok h.2.2).2⟩
theorem dEnd_range {s : Sh} (h : ShSmall s) (x : Int) : x ≤ dEnd s x ∧ dEnd s x ≤ x + 20000000000000 := by
  have h1 := putEnd_le s.2.2 (x + s.1 + s.2.1 + 1 + 1 + 1)
  have h2 := putEnd_ub s.2.2 (x + s.1 + s.2.1 + 1 + 1 + 1) h.2.2.1
  have h3 := h.2.2.2
  have h4 := h.1
  have h5 := h.2.1
  unfold dEnd
  omega
theorem dsEnd_le : ∀ (l : List Sh) (x : Int), (∀ s ∈ l, ShSmall s) → x ≤ dsEnd l x
  | [], x, _ => Int.le_refl x
  | s :: t, x, h => Int.le_trans (dEnd_range (h s (List.mem_cons_self ..)) x).1 (dsEnd_le t _ (fun q hq => h q (List.mem_cons_of_mem _ hq)))
theorem set_midD (pre : List S33) (p q : S33) (t : List S33) : (pre ++ p :: t).set ((pre.length : Nat) : Int).toNat q = pre ++ q :: t := by
  rw [Int.toNat_natCast, List.set_append_right (h := Nat.le_refl _), Nat.sub_self]
  rfl
theorem markDiskS_key : ∀ (t pre : List S33) (x : Int), (∀ d ∈ t, DiskSmall 4194304 d) → 0 ≤ x → x + t.length * 20000000000000 ≤ 4611686018427387904 → pre.length + t.length ≤ 4096 →
    Ev (fun k => laws_markDiskS.l0 k (pre ++ t) x (pre.length : Int)) (dsEnd (t.map shapeD) x, pre ++ dsMarks (t.map shapeD) x) := by
  intro t
  induction t with
  | nil =>
    intro pre x _ _ _ _
    exact Ev.step (fun k => rfl) (ev_neg (by simp) (ev_eq ev_some rfl))
  | cons d t ih =>
    intro pre x hd h0 h1 h2
    have hm := hd d (List.mem_cons_self ..)
    have hA := hm.1
    have hB := hm.2.1
    have hr := dEnd_range (shape_small hm) x
    simp only [List.length_cons] at h1 h2
    refine Ev.step (fun k => rfl) (ev_pos (by simp only [List.length_append, List.length_cons]; omega) (ev_pos (by omega) ?_))
    simp only [rd_midD]
    refine Ev.bind (markByteS_ev d.f0 x (by omega) (by omega)) (Ev.bind (markByteS_ev d.f1 (x + d.f0.length) (by omega) (by omega)) ?_)
    simp only
    rw [w64 (x := x + d.f0.length + d.f1.length + 1) (by omega) (by omega), w64 (x := x + d.f0.length + d.f1.length + 1 + 1) (by omega) (by omega), w64 (x := x + d.f0.length + d.f1.length + 1 + 1 + 1) (by omega) (by omega), w64 (x := (pre.length : Int) + 1) (by omega) (by omega)]
    refine Ev.bind (markPutS_ev d.f3 _ hm.2.2 (by omega) (by omega)) ?_
    simp only [set_midD]
    have := ih (pre ++ [dMark (shapeD d) x]) (dEnd (shapeD d) x) (fun q hq => hd q (List.mem_cons_of_mem _ hq)) (by omega) (by omega) (by simp only [List.length_append, List.length_cons, List.length_nil]; omega)
    simp only [List.append_assoc, List.singleton_append, List.length_append, List.length_cons, List.length_nil] at this
    exact this
theorem markDiskS_ev (l : List S33) (h : ∀ d ∈ l, DiskSmall 4194304 d) (hl : l.length ≤ 4096) : Ev (fun k => laws_markDiskS.f k l 1) (dsEnd (l.map shapeD) 1, dsMarks (l.map shapeD) 1) :=
  markDiskS_key l [] 1 h (by omega) (by omega) (by simpa using hl)
theorem heldDiskS_key : ∀ (t : List Sh) (pre : List S33) (x : Int), (∀ s ∈ t, ShSmall s) → 0 ≤ x → x + t.length * 20000000000000 ≤ 4611686018427387904 → pre.length + t.length ≤ 4096 →
    Ev (fun k => laws_heldDiskS.l0 k (pre ++ dsMarks t x) x (pre.length : Int)) (dsEnd t x) := by
  intro t
  induction t with
  | nil =>
    intro pre x _ _ _ _
    exact Ev.step (fun k => rfl) (ev_neg (by simp [dsMarks]) (ev_eq ev_some rfl))
  | cons s t ih =>
    intro pre x hd h0 h1 h2
    have hm := hd s (List.mem_cons_self ..)
    have hA := hm.1
    have hB := hm.2.1
    have hr := dEnd_range hm x
    simp only [List.length_cons] at h1 h2
    simp only [dsMarks]
    refine Ev.step (fun k => rfl) (ev_pos (by simp only [List.length_append, List.length_cons]; omega) (ev_pos (by omega) ?_))
    simp only [rd_midD]
    simp only [dMark]
    refine Ev.bind (heldByteS_ev x s.1 (by omega) (by omega)) (ev_neg (by omega) (Ev.bind (heldByteS_ev (x + s.1) s.2.1 (by omega) (by omega)) (ev_neg (by omega) ?_)))
    rw [w64 (x := x + s.1 + s.2.1 + 1) (by omega) (by omega), w64 (x := x + s.1 + s.2.1 + 1 + 1) (by omega) (by omega), w64 (x := x + s.1 + s.2.1 + 1 + 1 + 1) (by omega) (by omega), w64 (x := (pre.length : Int) + 1) (by omega) (by omega)]
    refine ev_pos (by trivial) (ev_pos (by trivial) (ev_pos (by trivial) (Ev.bind (heldPutS_ev s.2.2 _ hm.2.2.1 hm.2.2.2 (by omega) (by omega)) (ev_neg ?_ ?_))))
    · have := hr.1
      unfold dEnd at this
      omega
    have := ih (pre ++ [dMark s x]) (dEnd s x) (fun q hq => hd q (List.mem_cons_of_mem _ hq)) (by omega) (by omega) (by simp only [List.length_append, List.length_cons, List.length_nil]; omega)
    simp only [List.append_assoc, List.singleton_append, List.length_append, List.length_cons, List.length_nil] at this
    exact this
theorem heldDiskS_ev (t : List Sh) (h : ∀ s ∈ t, ShSmall s) (hl : t.length ≤ 4096) : Ev (fun k => laws_heldDiskS.f k (dsMarks t 1) 1) (dsEnd t 1) :=
  heldDiskS_key t [] 1 h (by omega) (by omega) (by simpa using hl)
end Go.Proofs.Ytogilihkphjjbaa.Pb
namespace Go.Proofs.Ytogilihkphjjbaa.Pure
open Go.RowKit Go.Proofs.Ytogilihkphjjbaa Go.Proofs.Ytogilihkphjjbaa.Q Go.Proofs.Ytogilihkphjjbaa.Pb Go.Proofs.YtogilihkphjjbaaW.PrintWords Go.Proofs.YtogilihkphjjbaaW.PrintLast
set_option linter.unusedVariables false
set_option linter.unusedSimpArgs false

theorem FnExactAllFalls : ∀ (x0 : S27), good27 x0 → ∃ k, laws_FnExactAllFalls.f k x0.f0 x0.f1 x0.f2.f0 x0.f2.f1 x0.f2.f2 x0.f3 = some true := by
  intro x0 g0
  refine Ev.rounds ?_
  unfold laws_FnExactAllFalls.f
  obtain ⟨r, h1, h2, h3⟩ := szDisk_ev x0.f0 x0.f1 x0.f2.f0 x0.f2.f1 x0.f2.f2 x0.f3 1048576 (goodPuts_len x0 g0).1 (goodPuts_len x0 g0).2.1 (goodPuts_len x0 g0).2.2.1 (goodPuts_len x0 g0).2.2.2 (by omega) (by omega)
  refine Ev.bind h1 (ev_if (fun _ => ev_some) (fun h => ?_))
  have hf := h3 (by omega)
  have m0 := toDisk_ev x0.f0 x0.f1 x0.f2.f0 x0.f2.f1 x0.f2.f2 x0.f3 hf
  have hp := putsOk_map hf.2.2
  have ha := hf.1
  have hb := hf.2.1
  have s0 := specFalls_ev x0.f0 x0.f1 x0.f2.f0 x0.f2.f1 x0.f2.f2 (x0.f3.map putOf_) (by omega) (by omega) (putsOk_le (by omega) hp)
  have i0 := implFalls_ev x0.f0 x0.f1 x0.f2.f0 x0.f2.f1 x0.f2.f2 (x0.f3.map putOf_) (by omega) (by omega) (putsOk_le (by omega) hp)
  have zs := allFalls_small x0.f0 x0.f1 x0.f2.f0 x0.f2.f1 x0.f2.f2 (x0.f3.map putOf_) (n := 4194304) (by omega) (by omega) (putsOk_le (by omega) hp) (by omega)
  have zl : (allFalls x0.f0 x0.f1 x0.f2.f0 x0.f2.f1 x0.f2.f2 (x0.f3.map putOf_)).length ≤ 4096 := by
    have := nFalls_le (x0.f3.map putOf_)
    simp only [allFalls, List.length_map, List.length_range']
    omega
  generalize allFalls x0.f0 x0.f1 x0.f2.f0 x0.f2.f1 x0.f2.f2 (x0.f3.map putOf_) = z at zs zl s0 i0
  have zh : ∀ s ∈ z.map shapeD, ShSmall s := by
    intro s hs
    obtain ⟨d, hd, rfl⟩ := List.mem_map.1 hs
    exact shape_small (zs d hd)
  have ez := eqDiskS_refl z zl zs
  have ei := eqDisk_refl x0.f0 x0.f1 x0.f2.f0 x0.f2.f1 x0.f2.f2 (x0.f3.map putOf_) (by omega) (by omega) (putsOk_le (by omega) hp)
  have mz := markDiskS_ev z zs zl
  have hz := heldDiskS_ev (z.map shapeD) zh (by simpa using zl)
  have mi := markDisk_ev x0.f0 x0.f1 x0.f2.f0 x0.f2.f1 x0.f2.f2 (x0.f3.map putOf_) (by omega) (by omega) (putsOk_le (by omega) hp)
  have nz : ¬ dsEnd (z.map shapeD) 1 < 0 := by
    have := dsEnd_le (z.map shapeD) 1 zh
    omega
  have ni := diskEnd_pos x0.f0 x0.f1 (x0.f3.map putOf_)
  generalize dsEnd (z.map shapeD) 1 = ne at mz hz nz
  generalize dsMarks (z.map shapeD) 1 = ro at mz hz
  generalize diskEnd x0.f0 x0.f1 (x0.f3.map putOf_) = ie at mi ni
  refine Ev.bind m0 (Ev.bind s0 (Ev.bind m0 (Ev.bind i0 (Ev.bind ez (ev_pos rfl ?_)))))
  refine Ev.bind m0 (Ev.bind ei (ev_pos rfl ?_))
  refine Ev.bind mi (ev_neg ni (Ev.bind ez (ev_pos rfl ?_)))
  refine Ev.bind mz (Ev.bind hz (ev_neg nz (ev_pos rfl ?_)))
  refine Ev.bind m0 (Ev.bind i0 (Ev.bind ez (ev_pos rfl ?_)))
  exact Ev.bind hz (ev_neg nz (ev_pos rfl ev_some))
end Go.Proofs.Ytogilihkphjjbaa.Pure
