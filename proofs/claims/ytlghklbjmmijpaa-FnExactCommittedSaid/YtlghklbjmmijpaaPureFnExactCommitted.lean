/- The program's Committed returns what the reference's returns, for every disk, manifest and bytes, and leaves them. No further condition. -/
import Derived.Test.YtlghklbjmmijpaaQ54
import Derived.Test.YtlghklbjmmijpaaQ13
import Derived.Test.YtlghklbjmmijpaaQ19
import Derived.Test.YtlghklbjmmijpaaQ18
import Derived.Test.YtlghklbjmmijpaaQ7
import Derived.Test.YtlghklbjmmijpaaQ17
import Derived.Test.YtlghklbjmmijpaaQ3
import Derived.RowKit
import Derived.IntWalk
import Derived.Test.YtlghklbjmmijpaaWWords
import Derived.Test.YtlghklbjmmijpaaQ16
import Derived.Test.YtlghklbjmmijpaaQ25
import Derived.Test.YtlghklbjmmijpaaQ15
import Derived.Test.YtlghklbjmmijpaaTyp
import Derived.Test.YtlghklbjmmijpaaQ49
import Derived.Test.YtlghklbjmmijpaaQ51
import Derived.Test.YtlghklbjmmijpaaQ32
import Derived.Test.YtlghklbjmmijpaaQ44
import Derived.Test.YtlghklbjmmijpaaQ33
import Derived.Laws.BitsLemmas
import Derived.Test.YtlghklbjmmijpaaQ53
import Derived.Test.YtlghklbjmmijpaaQ52
/- Plain lemmas on answers with rounds: a loop that goes up through numbers comes to what its steps make. No condition. -/
namespace Go.Proofs.Ytlghklbjmmijpaa.Pb
open Go.RowKit Go.Proofs.YtlghklbjmmijpaaW.PrintWords
set_option linter.unusedVariables false

theorem w64 {x : Int} (h0 : -9223372036854775808 ≤ x) (h1 : x ≤ 9223372036854775807) : wrap64 x = x := by unfold wrap64; omega

section
variable {α β ρ σ : Type}
theorem ev_pos {c : Prop} [Decidable c] {f g : Nat → Option α} {r : α} (hc : c) (h : Ev f r) : Ev (fun k => if c then f k else g k) r := Ev.congr (fun k => if_pos hc) h
theorem ev_neg {c : Prop} [Decidable c] {f g : Nat → Option α} {r : α} (hc : ¬ c) (h : Ev g r) : Ev (fun k => if c then f k else g k) r := Ev.congr (fun k => if_neg hc) h
theorem ev_true {f g : Nat → Option α} {r : α} (h : Ev f r) : Ev (fun k => if true = true then f k else g k) r := ev_pos rfl h
theorem ev_false {f g : Nat → Option α} {r : α} (h : Ev g r) : Ev (fun k => if false = true then f k else g k) r := ev_neg (by decide) h
theorem ev_some {r : α} : Ev (fun _ => some r) r := Ev.now r
theorem ev_of {a : Option α} {r : α} (h : a = some r) : Ev (fun _ => a) r := ⟨0, fun _ _ => h⟩
theorem ev_then {a : Option α} {x : α} {f : Nat → α → Option β} {r : β} (h : a = some x) (k : Ev (fun n => f n x) r) : Ev (fun n => a.bind (f n)) r := Ev.bind (ev_of h) k
theorem ev_bool {b : Bool} {f g : Nat → Option α} {r : α} (h1 : b = true → Ev f r) (h2 : b = false → Ev g r) : Ev (fun k => if b = true then f k else g k) r := by
  cases b with
  | true => exact ev_true (h1 rfl)
  | false => exact ev_false (h2 rfl)
theorem ev_if {c : Prop} [Decidable c] {f g : Nat → Option α} {r : α} (h1 : c → Ev f r) (h2 : ¬ c → Ev g r) : Ev (fun k => if c then f k else g k) r := by
  by_cases h : c
  · exact ev_pos h (h1 h)
  · exact ev_neg h (h2 h)
theorem ev_eq {f : Nat → Option α} {r r' : α} (h : Ev f r) (e : r = r') : Ev f r' := e ▸ h
theorem ev_det {f : Nat → Option α} {r r' : α} (h : Ev f r) (h' : Ev f r') : r = r' := by
  obtain ⟨K, h⟩ := h
  obtain ⟨K', h'⟩ := h'
  have h1 := h (max K K') (Nat.le_max_left _ _)
  have h2 := h' (max K K') (Nat.le_max_right _ _)
  rw [h1] at h2
  exact Option.some.inj h2

/-- What n steps make of a state. -/
def iter (n : Nat) (next : Nat → σ → σ) (s : σ) : σ := (List.range n).foldl (fun s i => next i s) s
theorem iter_zero (next : Nat → σ → σ) (s : σ) : iter 0 next s = s := rfl
theorem iter_succ (n : Nat) (next : Nat → σ → σ) (s : σ) : iter (n + 1) next s = next n (iter n next s) := by
  unfold iter
  rw [List.range_succ, List.foldl_append]
  rfl

/-- A loop that goes up, step by step, to n. -/
theorem loop_up (g : Nat → σ → Int → Option ρ) (n : Nat) (next : Nat → σ → σ) (Inv : Nat → σ → Prop) (s0 : σ) (r : ρ)
    (h0 : Inv 0 s0) (hinv : ∀ i s, i < n → Inv i s → Inv (i + 1) (next i s))
    (hstep : ∀ (i : Nat) s r, i < n → Inv i s → Ev (fun k => g k (next i s) ((i : Int) + 1)) r → Ev (fun k => g k s (i : Int)) r)
    (hend : Inv n (iter n next s0) → Ev (fun k => g k (iter n next s0) (n : Int)) r) : Ev (fun k => g k s0 0) r := by
  have hall : ∀ i, i ≤ n → Inv i (iter i next s0) := by
    intro i
    induction i with
    | zero => intro _; exact h0
    | succ i ih => intro hi; rw [iter_succ]; exact hinv i _ (by omega) (ih (by omega))
  have key : ∀ d i, i + d = n → Ev (fun k => g k (iter i next s0) (i : Int)) r := by
    intro d
    induction d with
    | zero =>
      intro i hi
      obtain rfl : i = n := by omega
      exact hend (hall i (Nat.le_refl _))
    | succ d ih =>
      intro i hi
      refine hstep i _ r (by omega) (hall i (by omega)) ?_
      have := ih (i + 1) (by omega)
      rw [iter_succ] at this
      simpa using this
  exact key n 0 (by omega)

/-- A loop that goes up till something is found. -/
theorem loop_find (g : Nat → Int → Option ρ) (n : Nat) (p : Nat → Bool) (res : Nat → ρ) (r0 : ρ)
    (hyes : ∀ i, i < n → p i = true → Ev (fun k => g k (i : Int)) (res i))
    (hno : ∀ i r, i < n → p i = false → Ev (fun k => g k ((i : Int) + 1)) r → Ev (fun k => g k (i : Int)) r)
    (hend : Ev (fun k => g k (n : Int)) r0) : Ev (fun k => g k 0) (match (List.range n).find? p with | some i => res i | none => r0) := by
  have key : ∀ d i, i + d = n → Ev (fun k => g k (i : Int)) (match (List.range' i d).find? p with | some i => res i | none => r0) := by
    intro d
    induction d with
    | zero =>
      intro i hi
      obtain rfl : i = n := by omega
      exact hend
    | succ d ih =>
      intro i hi
      rw [List.range'_succ, List.find?_cons]
      cases hp : p i with
      | true => exact hyes i (by omega) hp
      | false => exact hno i _ (by omega) hp (by have := ih (i + 1) (by omega); simpa using this)
  have := key n 0 (by omega)
  rwa [← List.range_eq_range'] at this
/-- A loop that asks something of each. -/
theorem loop_all (g : Nat → Int → Option Bool) (n : Nat) (p : Nat → Bool)
    (hyes : ∀ i r, i < n → p i = true → Ev (fun k => g k ((i : Int) + 1)) r → Ev (fun k => g k (i : Int)) r)
    (hno : ∀ i, i < n → p i = false → Ev (fun k => g k (i : Int)) false)
    (hend : Ev (fun k => g k (n : Int)) true) : Ev (fun k => g k 0) ((List.range n).all p) := by
  have h := loop_find g n (fun i => !p i) (fun _ => false) true (fun i hi hp => hno i hi (by simpa using hp)) (fun i r hi hp h => hyes i r hi (by simpa using hp) h) hend
  refine ev_eq h ?_
  cases hf : (List.range n).find? (fun i => !p i) with
  | some i =>
    have h1 := List.find?_some hf
    have h2 := List.mem_of_find?_eq_some hf
    symm
    rw [List.all_eq_false]
    exact ⟨i, h2, by simpa using h1⟩
  | none =>
    symm
    rw [List.all_eq_true]
    intro x hx
    have := List.find?_eq_none.1 hf x hx
    simpa using this
end

/-! ### Lists by their elements -/
theorem rd_nat (l : List Int) (i : Nat) (h : i < l.length) : rd l (i : Int) = l[i] := by
  unfold rd
  simp [List.getD_eq_getElem?_getD, List.getElem?_eq_getElem h]
theorem iter_set {α : Type} (n : Nat) (f : Nat → α) (l : List α) (hl : l.length = n) : iter n (fun i (s : List α) => s.set i (f i)) l = (List.range n).map f := by
  have key : ∀ m, m ≤ n → iter m (fun i (s : List α) => s.set i (f i)) l = (List.range m).map f ++ l.drop m := by
    intro m
    induction m with
    | zero => intro _; simp [iter_zero]
    | succ m ih =>
      intro hm
      rw [iter_succ, ih (by omega)]
      apply List.ext_getElem?
      intro j
      simp only [List.getElem?_set, List.getElem?_append, List.length_map, List.length_range, List.length_append, List.length_drop, List.getElem?_map, List.getElem?_drop]
      by_cases h1 : m = j
      · subst h1
        simp
        omega
      · by_cases h2 : j < m
        · simp [h1, h2, show j < m + 1 by omega]
        · have h3 : ¬ j < m + 1 := by omega
          simp [h1, h2, h3]
          congr 1
          omega
  have := key n (Nat.le_refl _)
  rw [this, List.drop_of_length_le (by omega), List.append_nil]
theorem map_range_get {α β : Type} (l : List α) (d : α) (f : α → β) : (List.range l.length).map (fun i => f (l.getD i d)) = l.map f := by
  apply List.ext_getElem?
  intro i
  by_cases h : i < l.length
  · simp [h, List.getD_eq_getElem?_getD]
  · simp [h]
theorem all_range_eq {α : Type} [DecidableEq α] (a b : List α) (d : α) (hl : a.length = b.length) : (List.range a.length).all (fun i => decide (a.getD i d = b.getD i d)) = decide (a = b) := by
  rw [Bool.eq_iff_iff]
  simp only [List.all_eq_true, List.mem_range, decide_eq_true_eq]
  constructor
  · intro h
    apply List.ext_getElem hl
    intro i h1 h2
    have := h i h1
    simpa [List.getD_eq_getElem?_getD, h1, h2] using this
  · rintro rfl i _
    rfl
end Go.Proofs.Ytlghklbjmmijpaa.Pb
/- Whole numbers: an int's bounds, tests of an interval, what is left of a size. No condition. -/
namespace Go.Proofs.Ytlghklbjmmijpaa.Pb
open Go.RowKit Go.Proofs.Ytlghklbjmmijpaa Go.Proofs.Ytlghklbjmmijpaa.Q Go.Proofs.YtlghklbjmmijpaaW.PrintWords Go.Proofs.YtlghklbjmmijpaaW.PrintLast
set_option linter.unusedVariables false
set_option linter.unusedSimpArgs false

/-- An int holds it. -/
def I64 (n : Int) : Prop := -9223372036854775808 ≤ n ∧ n ≤ 9223372036854775807
theorem i64_of {n : Int} (h : (Lit.int .i64 n).wf = true) : I64 n := by
  simp [Lit.wf, IntKind.min, IntKind.max, IntKind.signed, IntKind.bits] at h
  exact ⟨by omega, by omega⟩

theorem within_eq (a lo hi : Int) : impl_within.f a lo hi = some (decide (lo ≤ a ∧ a ≤ hi)) := by
  unfold impl_within.f
  by_cases h : lo ≤ a
  · rw [if_pos h]; simp [h]
  · rw [if_neg h]; simp [h]
theorem l1In_eq (a lo hi : Int) : spec_l1In.f a lo hi = some (decide (lo ≤ a ∧ a ≤ hi)) := within_eq a lo hi

theorem left_big {n : Nat} (h : ¬ (if (1048576 : Int) < (n : Int) then (-1 : Int) else 1048576 - (n : Int)) < 0) : n ≤ 1048576 := by
  split at h <;> omega
end Go.Proofs.Ytlghklbjmmijpaa.Pb
/- Bytes as plain lists: the laws' copies and comparisons of them. No condition beyond the size that the laws ask. -/
namespace Go.Proofs.Ytlghklbjmmijpaa.Pb
open Go.RowKit Go.Proofs.Ytlghklbjmmijpaa Go.Proofs.Ytlghklbjmmijpaa.Q Go.Proofs.YtlghklbjmmijpaaW.PrintWords Go.Proofs.YtlghklbjmmijpaaW.PrintLast
set_option linter.unusedVariables false
set_option linter.unusedSimpArgs false

theorem toByteS_ev (l : List Int) (hl : l.length ≤ 1048576) : Ev (fun k => laws_toByteS.f k l) l := by
  unfold laws_toByteS.f
  refine ev_pos (by omega) (ev_pos (by simp; omega) ?_)
  refine loop_up (fun k s i => laws_toByteS.l0 k l s i) l.length (fun i (s : List Int) => s.set i (l.getD i 0)) (fun _ s => s.length = l.length) _ l (by simp) (fun i s _ h => by simpa using h) ?_ ?_
  · intro i s r hi hs h
    refine Ev.step (fun k => rfl) ?_
    refine ev_pos (by omega) (ev_pos (by omega) (ev_pos (by omega) ?_))
    rw [w64 (by omega) (by omega)]
    simpa [rd] using h
  · intro hs
    refine Ev.step (fun k => rfl) ?_
    refine ev_neg (by omega) (ev_eq ev_some ?_)
    have h1 := iter_set l.length (fun i => l.getD i 0) (List.replicate (l.length : Int).toNat 0) (by simp)
    rw [h1]
    have h2 := map_range_get l 0 id
    simpa using h2
theorem eqByteS_ev (a b : List Int) (ha : a.length ≤ 9223372036854775806) : Ev (fun k => laws_eqByteS.f k a b) (decide (a = b)) := by
  unfold laws_eqByteS.f
  refine ev_if (fun hl => ?_) (fun hl => ev_eq ev_some ?_)
  · have hl' : a.length = b.length := by omega
    rw [← all_range_eq a b 0 hl']
    refine loop_all (fun k i => laws_eqByteS.l0 k a b i) a.length _ ?_ ?_ ?_
    · intro i r hi hp h
      refine Ev.step (fun k => rfl) ?_
      refine ev_pos (by omega) (ev_pos (by omega) (ev_pos (by omega) (ev_pos (by simpa [rd] using hp) ?_)))
      rw [w64 (by omega) (by omega)]
      exact h
    · intro i hi hp
      refine Ev.step (fun k => rfl) ?_
      exact ev_pos (by omega) (ev_pos (by omega) (ev_pos (by omega) (ev_neg (by simpa [rd] using hp) ev_some)))
    · refine Ev.step (fun k => rfl) ?_
      exact ev_neg (by omega) ev_some
  · symm
    rw [decide_eq_false_iff_not]
    rintro rfl
    exact hl rfl
end Go.Proofs.Ytlghklbjmmijpaa.Pb
/- Disks: the laws' copies of them, the size that they ask, and their comparisons. No condition beyond that size. -/
namespace Go.Proofs.Ytlghklbjmmijpaa.Pb
open Go.RowKit Go.Proofs.Ytlghklbjmmijpaa Go.Proofs.Ytlghklbjmmijpaa.Q Go.Proofs.YtlghklbjmmijpaaW.PrintWords Go.Proofs.YtlghklbjmmijpaaW.PrintLast
set_option linter.unusedVariables false
set_option linter.unusedSimpArgs false

/-- The program's own record and write out of the laws' ones. -/
def recOf_ (x : S24) : S30 := ⟨x.f0, x.f1, x.f2⟩
def putOf_ (x : S108) : S110 := ⟨x.f0, x.f1, x.f2, recOf_ x.f3⟩
/-- A size that fits: what is left of it after n is no less than nothing, or -1 says that it does not. -/
theorem szByteS_eq (l : List Int) (x : Int) (hl : l.length ≤ 9223372036854775807) (h0 : 0 ≤ x) (h1 : x ≤ 1048576) : laws_szByteS.f l x = some (if x < (l.length : Int) then (-1 : Int) else x - l.length) := by
  unfold laws_szByteS.f
  rw [w64 (by omega) (by omega)]
  by_cases r : x < (l.length : Int)
  · rw [if_pos (by omega), if_pos r]
  · rw [if_neg (by omega), if_neg r]
/-- The writes fit, each of their bytes does. -/
def PutsFit (l : List S108) : Prop := l.length ≤ 1048576 ∧ ∀ p ∈ l, p.f2.length ≤ 1048576
theorem szPutS_ev (l : List S108) (x : Int) (hl : l.length ≤ 9223372036854775807) (hb : ∀ p ∈ l, p.f2.length ≤ 9223372036854775807) (h0 : 0 ≤ x) (h1 : x ≤ 1048576) :
    ∃ r, Ev (fun k => laws_szPutS.f k l x) r ∧ r ≤ x ∧ (0 ≤ r → PutsFit l) := by
  unfold laws_szPutS.f
  rw [w64 (by omega) (by omega)]
  by_cases q : x - l.length < 0
  · exact ⟨-1, ev_pos q ev_some, by omega, by omega⟩
  have key : ∀ (d i : Nat) (y : Int), i + d = l.length → 0 ≤ y → y ≤ x → (∀ j, j < i → (l.getD j z108).f2.length ≤ 1048576) →
      ∃ r, Ev (fun k => laws_szPutS.l0 k l y (i : Int)) r ∧ r ≤ x ∧ (0 ≤ r → ∀ j, j < l.length → (l.getD j z108).f2.length ≤ 1048576) := by
    intro d
    induction d with
    | zero =>
      intro i y hi hy hx hj
      refine ⟨y, Ev.step (fun k => rfl) (ev_neg (by omega) ev_some), hx, fun _ j hj' => hj j (by omega)⟩
    | succ d ih =>
      intro i y hi hy hx hj
      have hm : (l.getD i z108) ∈ l := by
        rw [List.getD_eq_getElem?_getD, List.getElem?_eq_getElem (by omega)]
        exact List.getElem_mem _
      have e : laws_szPut.f (l.getD i z108).f0 (l.getD i z108).f1 (l.getD i z108).f2 (l.getD i z108).f3.f0 (l.getD i z108).f3.f1 (l.getD i z108).f3.f2 y = some (if y < ((l.getD i z108).f2.length : Int) then (-1 : Int) else y - (l.getD i z108).f2.length) := by
        unfold laws_szPut.f
        rw [szByteS_eq _ _ (hb _ hm) hy (by omega)]
        simp only [Option.bind_some]
        by_cases r : y < ((l.getD i z108).f2.length : Int)
        · rw [if_pos r]; rfl
        · rw [if_neg r, if_neg (by omega)]
      by_cases r : y < ((l.getD i z108).f2.length : Int)
      · refine ⟨-1, Ev.step (fun k => rfl) (ev_pos (by omega) (ev_pos (by omega) ?_)), by omega, by omega⟩
        simp only [rd_T108, Int.toNat_natCast]
        refine ev_then e ?_
        rw [if_pos r]
        exact ev_pos (by omega) ev_some
      · obtain ⟨s, h2, h3, h4⟩ := ih (i + 1) (y - (l.getD i z108).f2.length) (by omega) (by omega) (by omega) (fun j hj' => by
          by_cases z : j = i
          · subst z; omega
          · exact hj j (by omega))
        refine ⟨s, Ev.step (fun k => rfl) (ev_pos (by omega) (ev_pos (by omega) ?_)), h3, h4⟩
        simp only [rd_T108, Int.toNat_natCast]
        refine ev_then e ?_
        rw [if_neg r]
        refine ev_neg (by omega) ?_
        rw [w64 (x := (i : Int) + 1) (by omega) (by omega)]
        simpa using h2
  obtain ⟨r, h2, h3, h4⟩ := key l.length 0 (x - l.length) (by omega) (by omega) (by omega) (fun j hj => by omega)
  refine ⟨r, ev_neg q h2, h3, fun h => ⟨by omega, fun p hp => ?_⟩⟩
  obtain ⟨j, hj, rfl⟩ := List.getElem_of_mem hp
  have := h4 h j hj
  rwa [List.getD_eq_getElem?_getD, List.getElem?_eq_getElem hj] at this
/-- What fits of a disk. -/
def DiskFit (a b : List Int) (l : List S108) : Prop := a.length ≤ 1048576 ∧ b.length ≤ 1048576 ∧ PutsFit l
theorem szDisk_ev (a b : List Int) (c d e : Int) (l : List S108) (x : Int) (ha : a.length ≤ 9223372036854775807) (hb : b.length ≤ 9223372036854775807) (hl : l.length ≤ 9223372036854775807) (hp : ∀ p ∈ l, p.f2.length ≤ 9223372036854775807) (h0 : 0 ≤ x) (h1 : x ≤ 1048576) :
    ∃ r, Ev (fun k => laws_szDisk.f k a b c d e l x) r ∧ r ≤ x ∧ (0 ≤ r → DiskFit a b l) := by
  unfold laws_szDisk.f
  rw [szByteS_eq a x ha h0 h1]
  by_cases q : x < (a.length : Int)
  · rw [if_pos q]
    exact ⟨-1, ev_then rfl (ev_pos (by omega) ev_some), by omega, by omega⟩
  rw [if_neg q]
  by_cases r : x - a.length < (b.length : Int)
  · refine ⟨-1, ev_then rfl (ev_neg (by omega) ?_), by omega, by omega⟩
    rw [szByteS_eq b _ hb (by omega) (by omega), if_pos r]
    exact ev_then rfl (ev_pos (by omega) ev_some)
  obtain ⟨s, h2, h3, h4⟩ := szPutS_ev l (x - a.length - b.length) hl hp (by omega) (by omega)
  by_cases t : s < 0
  · refine ⟨-1, ev_then rfl (ev_neg (by omega) ?_), by omega, by omega⟩
    rw [szByteS_eq b _ hb (by omega) (by omega), if_neg r]
    exact ev_then rfl (ev_neg (by omega) (Ev.bind h2 (ev_pos t ev_some)))
  · refine ⟨s, ev_then rfl (ev_neg (by omega) ?_), by omega, fun h => ⟨by omega, by omega, h4 h⟩⟩
    rw [szByteS_eq b _ hb (by omega) (by omega), if_neg r]
    exact ev_then rfl (ev_neg (by omega) (Ev.bind h2 (ev_neg t ev_some)))
theorem goodPuts_len (x : S27) (g : good27 x) : x.f0.length ≤ 9223372036854775807 ∧ x.f1.length ≤ 9223372036854775807 ∧ x.f3.length ≤ 9223372036854775807 ∧ ∀ p ∈ x.f3, p.f2.length ≤ 9223372036854775807 :=
  ⟨g.1.1, g.2.1.1, g.2.2.2.1, fun p hp => (g.2.2.2.2 p hp).2.2.1.1⟩
theorem toPut_ev (p : S108) (h : p.f2.length ≤ 1048576) : Ev (fun k => laws_toPut.f k p.f0 p.f1 p.f2 p.f3.f0 p.f3.f1 p.f3.f2) (p.f0, p.f1, p.f2, p.f3.f0, p.f3.f1, p.f3.f2) := by
  unfold laws_toPut.f
  exact Ev.bind (toByteS_ev _ h) (ev_then rfl ev_some)
theorem toPutS_ev (l : List S108) (h : PutsFit l) : Ev (fun k => laws_toPutS.f k l) (l.map putOf_) := by
  obtain ⟨hl, hp⟩ := h
  unfold laws_toPutS.f
  refine ev_pos (by omega) (ev_pos (by simp; omega) ?_)
  refine loop_up (fun k s i => laws_toPutS.l0 k l s i) l.length (fun i (s : List S110) => s.set i (putOf_ (l.getD i z108))) (fun _ s => s.length = l.length) _ _ (by simp) (fun i s _ h => by simpa using h) ?_ ?_
  · intro i s r hi hs h
    refine Ev.step (fun k => rfl) ?_
    refine ev_pos (by omega) (ev_pos (by omega) ?_)
    simp only [rd_T108, Int.toNat_natCast]
    have hm : (l.getD i z108) ∈ l := by
      rw [List.getD_eq_getElem?_getD, List.getElem?_eq_getElem (by omega)]
      exact List.getElem_mem _
    refine Ev.bind (toPut_ev _ (hp _ hm)) ?_
    refine ev_pos (by omega) ?_
    rw [w64 (by omega) (by omega)]
    exact h
  · intro hs
    refine Ev.step (fun k => rfl) ?_
    refine ev_neg (by omega) (ev_eq ev_some ?_)
    rw [iter_set l.length (fun i => putOf_ (l.getD i z108)) _ (by simp)]
    exact map_range_get l _ putOf_
theorem toDisk_ev (a b : List Int) (c d e : Int) (l : List S108) (h : DiskFit a b l) : Ev (fun k => laws_toDisk.f k a b c d e l) (a, b, c, d, e, l.map putOf_) := by
  unfold laws_toDisk.f
  exact Ev.bind (toByteS_ev a h.1) (Ev.bind (toByteS_ev b h.2.1) (ev_then rfl (Ev.bind (toPutS_ev l h.2.2) ev_some)))
/-- Writes whose bytes are few. -/
def PutsOk (n : Nat) (l : List S110) : Prop := l.length ≤ n ∧ ∀ p ∈ l, p.f2.length ≤ n
theorem putsOk_map {l : List S108} (h : PutsFit l) : PutsOk 1048576 (l.map putOf_) := by
  refine ⟨by simpa using h.1, fun p hp => ?_⟩
  obtain ⟨q, hq, rfl⟩ := List.mem_map.1 hp
  exact h.2 q hq
theorem getD_mem {α : Type} {l : List α} {i : Nat} (d : α) (h : i < l.length) : l.getD i d ∈ l := by
  rw [List.getD_eq_getElem?_getD, List.getElem?_eq_getElem h]
  exact List.getElem_mem _
theorem eqRecord_refl (a b c : Int) : laws_eqRecord.f a b c a b c = some true := by
  unfold laws_eqRecord.f
  rw [if_pos rfl, if_pos rfl, if_pos rfl]
theorem eqPut_refl (p : S110) (h : p.f2.length ≤ 9223372036854775806) : Ev (fun k => laws_eqPut.f k p.f0 p.f1 p.f2 p.f3.f0 p.f3.f1 p.f3.f2 p.f0 p.f1 p.f2 p.f3.f0 p.f3.f1 p.f3.f2) true := by
  unfold laws_eqPut.f
  exact ev_pos rfl (ev_pos rfl (Ev.bind (eqByteS_ev _ _ h) (ev_pos (by simp) (ev_then (eqRecord_refl _ _ _) (ev_true ev_some)))))
theorem eqPutS_refl (l : List S110) (h : PutsOk 9223372036854775806 l) : Ev (fun k => laws_eqPutS.f k l l) true := by
  obtain ⟨hl, hp⟩ := h
  unfold laws_eqPutS.f
  refine ev_pos rfl ?_
  refine ev_eq (loop_all (fun k i => laws_eqPutS.l0 k l l i) l.length (fun _ => true) ?_ ?_ ?_) (by simp)
  · intro i r hi _ h
    refine Ev.step (fun k => rfl) ?_
    refine ev_pos (by omega) (ev_pos (by omega) (ev_pos (by omega) ?_))
    simp only [rd_T110, Int.toNat_natCast]
    refine Ev.bind (eqPut_refl _ (hp _ (getD_mem _ hi))) (ev_true ?_)
    rw [w64 (by omega) (by omega)]
    exact h
  · intro i hi hp
    cases hp
  · refine Ev.step (fun k => rfl) ?_
    exact ev_neg (by omega) ev_some
theorem putsOk_le {m n : Nat} (h : m ≤ n) {l : List S110} (g : PutsOk m l) : PutsOk n l := ⟨by have := g.1; omega, fun p hp => by have := g.2 p hp; omega⟩
theorem eqDisk_refl (a b : List Int) (c d e : Int) (l : List S110) (ha : a.length ≤ 9223372036854775806) (hb : b.length ≤ 9223372036854775806) (hl : PutsOk 9223372036854775806 l) : Ev (fun k => laws_eqDisk.f k a b c d e l a b c d e l) true := by
  unfold laws_eqDisk.f
  refine Ev.bind (eqByteS_ev a a ha) (ev_pos (by simp) (Ev.bind (eqByteS_ev b b hb) (ev_pos (by simp) ?_)))
  exact ev_then (eqRecord_refl _ _ _) (ev_true (Ev.bind (eqPutS_refl l hl) (ev_true ev_some)))
end Go.Proofs.Ytlghklbjmmijpaa.Pb
/- What disks are good: records, writes, the disk whole. No condition beyond the rows' lengths. -/
namespace Go.Proofs.Ytlghklbjmmijpaa.Pb
open Go.RowKit Go.Proofs.Ytlghklbjmmijpaa Go.Proofs.Ytlghklbjmmijpaa.Q Go.Proofs.YtlghklbjmmijpaaW.PrintWords Go.Proofs.YtlghklbjmmijpaaW.PrintLast
set_option linter.unusedVariables false
set_option linter.unusedSimpArgs false

theorem not_dec {p : Prop} [Decidable p] (h : ¬ p) : ¬ (decide p = true) := fun e => h (of_decide_eq_true e)
def recordOk (a b c : Int) : Bool := decide (0 ≤ a ∧ a ≤ 1000000 ∧ 0 ≤ b ∧ b ≤ 1 ∧ 0 ≤ c ∧ c ≤ 240)
theorem specRecord_eq (a b c : Int) : spec_l9Record.f a b c = some (recordOk a b c) := by
  unfold spec_l9Record.f recordOk
  simp only [l1In_eq, Option.bind_some]
  by_cases h1 : 0 ≤ a ∧ a ≤ 1000000
  · rw [if_pos (decide_eq_true h1)]
    by_cases h2 : 0 ≤ b ∧ b ≤ 1
    · rw [if_pos (decide_eq_true h2)]
      exact congrArg some (decide_eq_decide.2 (by omega))
    · rw [if_neg (not_dec h2)]
      exact congrArg some (decide_eq_false (by omega)).symm
  · rw [if_neg (not_dec h1)]
    exact congrArg some (decide_eq_false (by omega)).symm
theorem implIsSlot_eq (a : Int) : impl_isSlot.f a = some (decide (0 ≤ a ∧ a ≤ 1)) := by
  unfold impl_isSlot.f
  by_cases h : a = 0
  · rw [if_pos h]
    exact congrArg some (decide_eq_true (by omega)).symm
  · rw [if_neg h]
    refine congrArg some ?_
    by_cases h' : a = 1
    · subst h'; rfl
    · rw [decide_eq_false (by omega)]
      exact beq_eq_false_iff_ne.mpr h'
theorem implRecord_eq (a b c : Int) : impl_isRecord.f a b c = some (recordOk a b c) := by
  unfold impl_isRecord.f impl_isGen.f recordOk
  simp only [within_eq, implIsSlot_eq, Option.bind_some]
  by_cases h1 : 0 ≤ a ∧ a ≤ 1000000
  · rw [if_pos (decide_eq_true h1)]
    by_cases h2 : 0 ≤ b ∧ b ≤ 1
    · rw [if_pos (decide_eq_true h2)]
      exact congrArg some (decide_eq_decide.2 (by omega))
    · rw [if_neg (not_dec h2)]
      exact congrArg some (decide_eq_false (by omega)).symm
  · rw [if_neg (not_dec h1)]
    exact congrArg some (decide_eq_false (by omega)).symm
def putOk (p : S110) : Bool := if p.f0 = 2 then (decide (p.f1 = 0 ∧ p.f2.length = 0) && recordOk p.f3.f0 p.f3.f1 p.f3.f2) else decide (0 ≤ p.f0 ∧ p.f0 ≤ 1 ∧ 0 ≤ p.f1 ∧ p.f1 + p.f2.length ≤ 240 ∧ p.f3.f0 = 0 ∧ p.f3.f1 = 0 ∧ p.f3.f2 = 0)
theorem zero3 (a b c : Int) : (a == 0 && (b == 0 && (c == 0))) = decide (a = 0 ∧ b = 0 ∧ c = 0) := by
  by_cases h1 : a = 0 <;> by_cases h2 : b = 0 <;> by_cases h3 : c = 0 <;> simp [h1, h2, h3]
theorem specPut_eq (p : S110) (hl : p.f2.length ≤ 9223372036854775807) : spec_l9Put.f p.f0 p.f1 p.f2 p.f3.f0 p.f3.f1 p.f3.f2 = some (putOk p) := by
  unfold spec_l9Put.f putOk
  simp only [l1In_eq, specRecord_eq, zero3, Option.bind_some]
  by_cases h : p.f0 = 2
  · rw [if_pos h, if_pos h]
    by_cases h1 : p.f1 = 0
    · rw [if_pos h1]
      by_cases h2 : p.f2.length = 0
      · rw [if_pos (by omega), decide_eq_true ⟨h1, h2⟩]; rfl
      · rw [if_neg (by omega), decide_eq_false (by omega)]; rfl
    · rw [if_neg h1, decide_eq_false (by omega)]; rfl
  · rw [if_neg h, if_neg h]
    by_cases h1 : 0 ≤ p.f0 ∧ p.f0 ≤ 1
    · rw [if_pos (decide_eq_true h1)]
      by_cases h2 : 0 ≤ p.f1 ∧ p.f1 ≤ 240
      · rw [if_pos (decide_eq_true h2), w64 (by omega) (by omega)]
        by_cases h3 : (p.f2.length : Int) ≤ 240 - p.f1
        · rw [if_pos h3]
          exact congrArg some (decide_eq_decide.2 (by omega))
        · rw [if_neg h3]
          exact congrArg some (decide_eq_false (by omega)).symm
      · rw [if_neg (not_dec h2)]
        exact congrArg some (decide_eq_false (by omega)).symm
    · rw [if_neg (not_dec h1)]
      exact congrArg some (decide_eq_false (by omega)).symm
theorem implPut_eq (p : S110) (hl : p.f2.length ≤ 9223372036854775807) : impl_isPut.f p.f0 p.f1 p.f2 p.f3.f0 p.f3.f1 p.f3.f2 = some (putOk p) := by
  unfold impl_isPut.f putOk
  simp only [within_eq, implIsSlot_eq, implRecord_eq, zero3, Option.bind_some]
  by_cases h : p.f0 = 2
  · rw [if_pos h, if_pos h]
    by_cases h1 : p.f1 = 0
    · rw [if_pos h1]
      by_cases h2 : p.f2.length = 0
      · rw [if_pos (by omega), decide_eq_true ⟨h1, h2⟩]; rfl
      · rw [if_neg (by omega), decide_eq_false (by omega)]; rfl
    · rw [if_neg h1, decide_eq_false (by omega)]; rfl
  · rw [if_neg h, if_neg h]
    by_cases h1 : 0 ≤ p.f0 ∧ p.f0 ≤ 1
    · rw [if_pos (decide_eq_true h1)]
      by_cases h2 : p.f3.f0 = 0 ∧ p.f3.f1 = 0 ∧ p.f3.f2 = 0
      · rw [if_pos (decide_eq_true h2), w64 (by omega) (by omega)]
        exact congrArg some (decide_eq_decide.2 (by omega))
      · rw [if_neg (not_dec h2)]
        exact congrArg some (decide_eq_false (by omega)).symm
    · rw [if_neg (not_dec h1)]
      exact congrArg some (decide_eq_false (by omega)).symm
def slotOf (a b : List Int) (s : Int) : List Int := if s = 0 then a else b
def putsOk (l : List S110) : Bool := (List.range l.length).all (fun i => putOk (l.getD i z110))
def diskOk (a b : List Int) (c d e : Int) (l : List S110) : Bool := decide (a.length ≤ 240 ∧ b.length ≤ 240 ∧ l.length ≤ 200 ∧ e ≤ (slotOf a b d).length) && (recordOk c d e && putsOk l)
theorem diskOk_false {a b : List Int} {c d e : Int} {l : List S110} (h : ¬ (a.length ≤ 240 ∧ b.length ≤ 240 ∧ l.length ≤ 200 ∧ e ≤ (slotOf a b d).length)) : false = diskOk a b c d e l := by
  unfold diskOk
  rw [decide_eq_false h]; rfl
theorem diskOk_rec {a b : List Int} {c d e : Int} {l : List S110} (h : recordOk c d e = false) : false = diskOk a b c d e l := by
  unfold diskOk
  rw [h, Bool.false_and, Bool.and_false]
theorem diskOk_puts {a b : List Int} {c d e : Int} {l : List S110} (h : a.length ≤ 240 ∧ b.length ≤ 240 ∧ l.length ≤ 200 ∧ e ≤ (slotOf a b d).length) (h' : recordOk c d e = true) : putsOk l = diskOk a b c d e l := by
  unfold diskOk
  rw [decide_eq_true h, h', Bool.true_and, Bool.true_and]
theorem lslot_yes {d : Int} (h : d = 1) : spec_l9Slot.f d 1 = some () := if_pos (Or.inl ⟨h, rfl⟩)
theorem lslot_no {d : Int} (h : ¬ d = 1) : spec_l9Slot.f d 0 = some () := if_pos (Or.inr ⟨h, rfl⟩)
theorem slotOf_one {a b : List Int} {d : Int} (h : d = 1) : slotOf a b d = b := if_neg (by omega)
theorem slotOf_other {a b : List Int} {c d e : Int} (r : recordOk c d e = true) (h : ¬ d = 1) : slotOf a b d = a := if_pos (by have := of_decide_eq_true r; omega)
theorem specDiskOk_ev (a b : List Int) (c d e : Int) (l : List S110) (hl : PutsOk 1048576 l) : Ev (fun k => spec_DiskOk.f k a b c d e l) (diskOk a b c d e l) := by
  have badE : Ev (fun k => spec_DiskOk.j0 k true a b c d e l) false := Ev.step (fun k => rfl) (ev_true (g := fun k => spec_DiskOk.l0 k 0 a b c d e l) ev_some)
  have loop : Ev (fun k => spec_DiskOk.l0 k 0 a b c d e l) (putsOk l) := by
    refine loop_all (fun k i => spec_DiskOk.l0 k i a b c d e l) l.length (fun i => putOk (l.getD i z110)) ?_ ?_ ?_
    · intro i r hi hp h
      refine Ev.step (fun k => rfl) (ev_pos (by omega) (ev_pos (by omega) ?_))
      simp only [rd_T110, Int.toNat_natCast]
      refine ev_then (specPut_eq _ (by have := hl.2 _ (getD_mem z110 hi); omega)) (ev_pos hp ?_)
      rw [w64 (by have := hl.1; omega) (by have := hl.1; omega)]
      exact h
    · intro i hi hp
      refine Ev.step (fun k => rfl) (ev_pos (by omega) (ev_pos (by omega) ?_))
      simp only [rd_T110, Int.toNat_natCast]
      exact ev_then (specPut_eq _ (by have := hl.2 _ (getD_mem z110 hi); omega)) (ev_neg (by rw [hp]; decide) ev_some)
    · exact Ev.step (fun k => rfl) (ev_neg (by omega) ev_some)
  unfold spec_DiskOk.f
  by_cases h1 : (a.length : Int) > 240
  · exact ev_pos h1 (ev_eq badE (diskOk_false (by omega)))
  refine ev_neg h1 ?_
  by_cases h2 : (b.length : Int) > 240
  · exact ev_pos h2 (ev_eq badE (diskOk_false (by omega)))
  refine ev_neg h2 (ev_then (specRecord_eq c d e) ?_)
  by_cases h3 : recordOk c d e = true
  · refine ev_pos h3 ?_
    have rest : ∀ n : List Int, slotOf a b d = n → Ev (fun k => if e > (n.length : Int) then spec_DiskOk.j0 k true a b c d e l else spec_DiskOk.j0 k (decide ((l.length : Int) > 200)) a b c d e l) (diskOk a b c d e l) := by
      intro n hs
      by_cases h4 : e > (n.length : Int)
      · exact ev_pos h4 (ev_eq badE (diskOk_false (by rw [hs]; omega)))
      refine ev_neg h4 (Ev.step (fun k => rfl) ?_)
      by_cases h5 : (l.length : Int) > 200
      · exact ev_pos (decide_eq_true h5) (ev_eq ev_some (diskOk_false (by omega)))
      · exact ev_neg (not_dec h5) (ev_eq loop (diskOk_puts (by rw [hs]; omega) h3))
    by_cases q : d = 1
    · exact ev_pos q (ev_then (lslot_yes q) (rest b (slotOf_one q)))
    · exact ev_neg q (ev_then (lslot_no q) (rest a (slotOf_other h3 q)))
  · exact ev_neg h3 (ev_eq badE (diskOk_rec (by simpa using h3)))
theorem implPutsBad_ev (l : List S110) (hl : PutsOk 1048576 l) : Ev (fun k => impl_Put_121.f k l) (!putsOk l) := by
  have one : ∀ i, i < l.length → impl_DiskOk_1.f (l.getD i z110).f0 (l.getD i z110).f1 (l.getD i z110).f2 (l.getD i z110).f3.f0 (l.getD i z110).f3.f1 (l.getD i z110).f3.f2 = some (!putOk (l.getD i z110)) := by
    intro i hi
    unfold impl_DiskOk_1.f
    rw [implPut_eq _ (by have := hl.2 _ (getD_mem z110 hi); omega)]
    rfl
  have h := loop_find (fun k i => impl_Put_146.l0 k l (l.length : Int) i) l.length (fun i => !putOk (l.getD i z110)) (fun i => (i : Int)) (-1) (fun i hi hp => by
      refine Ev.step (fun k => rfl) (ev_pos (by omega) (ev_pos (by omega) (ev_pos (by omega) ?_)))
      simp only [rd_T110, Int.toNat_natCast]
      exact ev_then (one i hi) (ev_pos hp ev_some)) (fun i r hi hp h => by
      refine Ev.step (fun k => rfl) (ev_pos (by omega) (ev_pos (by omega) (ev_pos (by omega) ?_)))
      simp only [rd_T110, Int.toNat_natCast]
      refine ev_then (one i hi) (ev_neg (by rw [hp]; decide) ?_)
      rw [w64 (by have := hl.1; omega) (by have := hl.1; omega)]
      exact h) (Ev.step (fun k => rfl) (ev_neg (by omega) ev_some))
  unfold impl_Put_121.f impl_Put_146.f
  refine Ev.bind h (ev_eq ev_some ?_)
  unfold putsOk
  cases hf : (List.range l.length).find? (fun i => !putOk (l.getD i z110)) with
  | some i =>
    have h1 := List.find?_some hf
    have h2 := List.mem_of_find?_eq_some hf
    have h3 : (List.range l.length).all (fun i => putOk (l.getD i z110)) = false := by
      rw [List.all_eq_false]
      exact ⟨i, h2, by simpa using h1⟩
    rw [h3]
    exact decide_eq_true (Int.natCast_nonneg i)
  | none =>
    have h3 : (List.range l.length).all (fun i => putOk (l.getD i z110)) = true := by
      rw [List.all_eq_true]
      intro x hx
      have := List.find?_eq_none.1 hf x hx
      simpa using this
    rw [h3]
    rfl
theorem slot_yes {d : Int} (h : d = 0) : impl_Disk_slot.f d 0 = some () := if_pos (Or.inl ⟨h, rfl⟩)
theorem slot_no {d : Int} (h : ¬ d = 0) : impl_Disk_slot.f d 1 = some () := if_pos (Or.inr ⟨h, rfl⟩)
theorem implDiskOk_ev (a b : List Int) (c d e : Int) (l : List S110) (hl : PutsOk 1048576 l) : Ev (fun k => impl_DiskOk.f k a b c d e l) (diskOk a b c d e l) := by
  unfold impl_DiskOk.f
  by_cases h1 : (a.length : Int) > 240
  · exact ev_pos h1 (ev_eq ev_some (diskOk_false (by omega)))
  refine ev_neg h1 ?_
  by_cases h2 : (b.length : Int) > 240
  · exact ev_pos h2 (ev_eq ev_some (diskOk_false (by omega)))
  refine ev_neg h2 (ev_then (implRecord_eq c d e) ?_)
  by_cases h3 : recordOk c d e = true
  · refine ev_pos h3 ?_
    have puts : (a.length ≤ 240 ∧ b.length ≤ 240 ∧ l.length ≤ 200 ∧ e ≤ (slotOf a b d).length) → Ev (fun k => (impl_Put_121.f k l).bind fun t => some (!t)) (diskOk a b c d e l) :=
      fun h => Ev.bind (implPutsBad_ev l hl) (ev_eq ev_some (by rw [Bool.not_not]; exact diskOk_puts h h3))
    by_cases h4 : d = 0
    · have hs : slotOf a b d = a := if_pos h4
      refine ev_pos h4 (ev_then (slot_yes h4) ?_)
      by_cases h5 : e > (a.length : Int)
      · exact ev_pos h5 (ev_eq ev_some (diskOk_false (by rw [hs]; omega)))
      refine ev_neg h5 ?_
      by_cases h6 : (l.length : Int) ≤ 200
      · exact ev_pos h6 (puts (by rw [hs]; omega))
      · exact ev_neg h6 (ev_eq ev_some (diskOk_false (by omega)))
    · have hs : slotOf a b d = b := if_neg h4
      refine ev_neg h4 (ev_then (slot_no h4) ?_)
      by_cases h5 : e > (b.length : Int)
      · exact ev_pos h5 (ev_eq ev_some (diskOk_false (by rw [hs]; omega)))
      refine ev_neg h5 ?_
      by_cases h6 : (l.length : Int) ≤ 200
      · exact ev_pos h6 (puts (by rw [hs]; omega))
      · exact ev_neg h6 (ev_eq ev_some (diskOk_false (by omega)))
  · exact ev_neg h3 (ev_eq ev_some (diskOk_rec (by simpa using h3)))
end Go.Proofs.Ytlghklbjmmijpaa.Pb
/- What a disk holds: its record's bytes out of its slot. No condition beyond the rows' lengths. -/
namespace Go.Proofs.Ytlghklbjmmijpaa.Pb
open Go.RowKit Go.Proofs.Ytlghklbjmmijpaa Go.Proofs.Ytlghklbjmmijpaa.Q Go.Proofs.YtlghklbjmmijpaaW.PrintWords Go.Proofs.YtlghklbjmmijpaaW.PrintLast
set_option linter.unusedVariables false
set_option linter.unusedSimpArgs false

def recover (a b : List Int) (c d e : Int) (l : List S110) : Int × List Int := if diskOk a b c d e l = true then (c, (slotOf a b d).take e.toNat) else (0, [])
theorem diskOk_parts {a b : List Int} {c d e : Int} {l : List S110} (h : diskOk a b c d e l = true) : (a.length ≤ 240 ∧ b.length ≤ 240 ∧ l.length ≤ 200 ∧ e ≤ (slotOf a b d).length) ∧ recordOk c d e = true := by
  unfold diskOk at h
  rw [Bool.and_eq_true, Bool.and_eq_true, decide_eq_true_eq] at h
  exact ⟨h.1, h.2.1⟩
theorem specRecover_ev (a b : List Int) (c d e : Int) (l : List S110) (hl : PutsOk 1048576 l) : Ev (fun k => spec_Recover.f k a b c d e l) (recover a b c d e l) := by
  unfold spec_Recover.f recover
  refine Ev.bind (specDiskOk_ev a b c d e l hl) (ev_if (fun h => ?_) (fun h => ev_eq ev_some (by rw [if_neg h])))
  obtain ⟨h1, h2⟩ := diskOk_parts h
  have h3 := of_decide_eq_true h2
  rw [if_pos h]
  refine ev_then rfl ?_
  by_cases q : d = 1
  · have hs : slotOf a b d = b := slotOf_one q
    rw [hs] at h1 ⊢
    refine ev_pos q (ev_then (lslot_yes q) (ev_pos h3.2.2.2.2.1 (ev_pos h1.2.2.2 (ev_pos ?_ ev_some))))
    simp only [List.length_nil, List.length_take]
    omega
  · have hs : slotOf a b d = a := slotOf_other h2 q
    rw [hs] at h1 ⊢
    refine ev_neg q (ev_then (lslot_no q) (ev_pos h3.2.2.2.2.1 (ev_pos h1.2.2.2 (ev_pos ?_ ev_some))))
    simp only [List.length_nil, List.length_take]
    omega
theorem implRecover_ev (a b : List Int) (c d e : Int) (l : List S110) (hl : PutsOk 1048576 l) : Ev (fun k => impl_Recover.f k a b c d e l) (recover a b c d e l) := by
  unfold impl_Recover.f recover
  refine Ev.bind (implDiskOk_ev a b c d e l hl) (ev_if (fun h => ?_) (fun h => ev_eq ev_some (by rw [if_neg h])))
  obtain ⟨h1, h2⟩ := diskOk_parts h
  have h3 := of_decide_eq_true h2
  rw [if_pos h]
  have cl : ∀ n : List Int, n.length ≤ 240 → impl_cloned.f (n.take e.toNat) = some (n.take e.toNat) := by
    intro n hn
    unfold impl_cloned.f
    exact if_pos (by rw [List.length_take]; omega)
  by_cases q : d = 0
  · have hs : slotOf a b d = a := if_pos q
    rw [hs] at h1 ⊢
    exact ev_pos q (ev_then (slot_yes q) (ev_pos h3.2.2.2.2.1 (ev_pos h1.2.2.2 (ev_then (cl a h1.1) ev_some))))
  · have hs : slotOf a b d = b := if_neg q
    rw [hs] at h1 ⊢
    exact ev_neg q (ev_then (slot_no q) (ev_pos h3.2.2.2.2.1 (ev_pos h1.2.2.2 (ev_then (cl b h1.2.1) ev_some))))
def sameB (x y : List Int) : Bool := (strOfNums x).toList == (strOfNums y).toList
def holds (a b : List Int) (c d e : Int) (l : List S110) (g : Int) (x : List Int) : Bool := if (recover a b c d e l).1 = g then sameB (recover a b c d e l).2 x else false
theorem specHolds_ev (a b : List Int) (c d e : Int) (l : List S110) (g : Int) (x : List Int) (hl : PutsOk 1048576 l) : Ev (fun k => spec_Holds.f k a b c d e l g x) (holds a b c d e l g x) := by
  unfold spec_Holds.f holds
  exact Ev.bind (specRecover_ev a b c d e l hl) (ev_if (fun h => ev_then rfl (ev_eq ev_some (by rw [if_pos h]; rfl))) (fun h => ev_eq ev_some (by rw [if_neg h])))
theorem implHolds_ev (a b : List Int) (c d e : Int) (l : List S110) (g : Int) (x : List Int) (hl : PutsOk 1048576 l) : Ev (fun k => impl_Holds.f k a b c d e l g x) (holds a b c d e l g x) := by
  unfold impl_Holds.f holds
  exact Ev.bind (implRecover_ev a b c d e l hl) (ev_if (fun h => ev_then rfl (ev_eq ev_some (by rw [if_pos h]; rfl))) (fun h => ev_eq ev_some (by rw [if_neg h])))
end Go.Proofs.Ytlghklbjmmijpaa.Pb
/- Sizes of blocks, how many there are, where each lies. No condition. -/
namespace Go.Proofs.Ytlghklbjmmijpaa.Pb
open Go.RowKit Go.Proofs.Ytlghklbjmmijpaa Go.Proofs.Ytlghklbjmmijpaa.Q Go.Proofs.YtlghklbjmmijpaaW.PrintWords Go.Proofs.YtlghklbjmmijpaaW.PrintLast
set_option linter.unusedVariables false
set_option linter.unusedSimpArgs false

def sizeOk (a b : Int) : Bool := decide (2 ≤ a ∧ a ≤ 6) && decide (0 ≤ b ∧ b ≤ 40 * a)
theorem specSizeOk_eq (a b : Int) : spec_SizeOk.f a b = some (sizeOk a b) := by
  unfold spec_SizeOk.f sizeOk
  rw [l1In_eq]
  simp only [Option.bind_some]
  by_cases h : 2 ≤ a ∧ a ≤ 6
  · rw [if_pos (by simpa using h), l1In_eq, w64 (by omega) (by omega)]
    simp [h, Int.mul_comm]
  · rw [if_neg (by simpa using h)]
    simp [h]
theorem implSizeOk_eq (a b : Int) : impl_SizeOk.f a b = some (sizeOk a b) := by
  unfold impl_SizeOk.f sizeOk
  rw [within_eq]
  simp only [Option.bind_some]
  by_cases h : 2 ≤ a ∧ a ≤ 6
  · rw [if_pos (by simpa using h), within_eq, w64 (by omega) (by omega)]
    simp [h, Int.mul_comm]
  · rw [if_neg (by simpa using h)]
    simp [h]
theorem sizeOk_iff {a b : Int} : sizeOk a b = true ↔ (2 ≤ a ∧ a ≤ 6) ∧ 0 ≤ b ∧ b ≤ 40 * a := by simp [sizeOk, and_assoc]
def blocks (a b : Int) : Int := if sizeOk a b = true then (b + a - 1) / a else 0
theorem ceil_le {a b : Int} (h : (2 ≤ a ∧ a ≤ 6) ∧ 0 ≤ b ∧ b ≤ 40 * a) : 0 ≤ (b + a - 1) / a ∧ (b + a - 1) / a ≤ 40 := by
  constructor
  · exact Int.ediv_nonneg (by omega) (by omega)
  · have : (b + a - 1) / a < 41 := by
      apply Int.ediv_lt_of_lt_mul (by omega)
      omega
    omega
theorem specBlocks_eq (a b : Int) : spec_Blocks.f a b = some (blocks a b) := by
  unfold spec_Blocks.f blocks
  rw [specSizeOk_eq]
  simp only [Option.bind_some]
  by_cases h : sizeOk a b = true
  · have h' := sizeOk_iff.1 h
    have c := ceil_le h'
    rw [if_pos h, if_pos h]
    unfold spec_CeilDiv.f
    rw [l1In_eq]
    simp only [Option.bind_some]
    rw [if_pos (by simp; omega), l1In_eq]
    simp only [Option.bind_some]
    rw [if_pos (by simp; omega), if_neg (by omega), w64 (x := b + a) (by omega) (by omega), w64 (x := b + a - 1) (by omega) (by omega), Int.tdiv_eq_ediv_of_nonneg (by omega), w64 (by omega) (by omega)]
    rfl
  · rw [if_neg h, if_neg h]
theorem implBlocks_eq (a b : Int) : impl_Blocks.f a b = some (blocks a b) := by
  unfold impl_Blocks.f blocks
  rw [implSizeOk_eq]
  simp only [Option.bind_some]
  by_cases h : sizeOk a b = true
  · have h' := sizeOk_iff.1 h
    have c := ceil_le h'
    rw [if_pos h, if_pos h]
    unfold impl_CeilDiv.f
    rw [within_eq]
    simp only [Option.bind_some]
    rw [if_pos (by simp; omega), within_eq]
    simp only [Option.bind_some]
    rw [if_pos (by simp; omega), if_neg (by omega), w64 (x := b + a) (by omega) (by omega), w64 (x := b + a - 1) (by omega) (by omega), Int.tdiv_eq_ediv_of_nonneg (by omega), w64 (by omega) (by omega)]
    rfl
  · rw [if_neg h, if_neg h]
theorem blocks_range (a b : Int) : 0 ≤ blocks a b ∧ blocks a b ≤ 40 := by
  unfold blocks
  split
  · rename_i h
    exact ceil_le (sizeOk_iff.1 h)
  · omega
theorem blocks_pos {a b : Int} (h : 0 < blocks a b) : (2 ≤ a ∧ a ≤ 6) ∧ 0 ≤ b ∧ b ≤ 40 * a := by
  unfold blocks at h
  split at h
  · rename_i q
    exact sizeOk_iff.1 q
  · omega
/-- Where a block lies, and how long it is. -/
def spanOf (a b i : Int) : Int × Int := if 0 ≤ i ∧ i ≤ blocks a b - 1 then (i * a, if b - i * a < a then b - i * a else a) else (0, 0)
theorem span_at {a b i : Int} (h : 0 ≤ i ∧ i ≤ blocks a b - 1) : 0 ≤ i * a ∧ i * a < b ∧ b ≤ 240 ∧ 2 ≤ a ∧ a ≤ 6 := by
  have q := blocks_pos (a := a) (b := b) (by omega)
  have e : blocks a b = (b + a - 1) / a := by
    unfold blocks
    rw [if_pos (sizeOk_iff.2 q)]
  rw [e] at h
  have m : (b + a - 1) / a * a ≤ b + a - 1 := Int.ediv_mul_le _ (by omega)
  have m2 : (i + 1) * a ≤ (b + a - 1) / a * a := Int.mul_le_mul_of_nonneg_right (by omega) (by omega)
  have m3 : 0 ≤ i * a := Int.mul_nonneg h.1 (by omega)
  rw [Int.add_mul] at m2
  omega
theorem spanOf_range (a b i : Int) : 0 ≤ (spanOf a b i).1 ∧ (spanOf a b i).1 ≤ 240 ∧ 0 ≤ (spanOf a b i).2 ∧ (spanOf a b i).2 ≤ 6 ∧ (spanOf a b i).1 + (spanOf a b i).2 ≤ 240 := by
  unfold spanOf
  split
  · rename_i h
    have := span_at h
    simp only
    split <;> omega
  · simp
theorem specSpanOf_eq (a b i : Int) : spec_SpanOf.f a b i = some (spanOf a b i) := by
  unfold spec_SpanOf.f spanOf
  have r := blocks_range a b
  rw [specBlocks_eq]
  simp only [Option.bind_some]
  rw [w64 (x := blocks a b - 1) (by omega) (by omega), l1In_eq]
  simp only [Option.bind_some]
  by_cases h : 0 ≤ i ∧ i ≤ blocks a b - 1
  · have s := span_at h
    rw [if_pos (by simpa using h), if_pos h, w64 (x := i * a) (by omega) (by omega), w64 (x := b - i * a) (by omega) (by omega)]
    unfold spec_Least.f
    split <;> simp
  · rw [if_neg (by simpa using h), if_neg h]
theorem implSpanOf_eq (a b i : Int) : impl_SpanOf.f a b i = some (spanOf a b i) := by
  unfold impl_SpanOf.f spanOf
  have r := blocks_range a b
  rw [implBlocks_eq]
  simp only [Option.bind_some]
  rw [w64 (x := blocks a b - 1) (by omega) (by omega), within_eq]
  simp only [Option.bind_some]
  by_cases h : 0 ≤ i ∧ i ≤ blocks a b - 1
  · have s := span_at h
    rw [if_pos (by simpa using h), if_pos h, w64 (x := i * a) (by omega) (by omega), w64 (x := b - i * a) (by omega) (by omega)]
    rfl
  · rw [if_neg (by simpa using h), if_neg h]
end Go.Proofs.Ytlghklbjmmijpaa.Pb
/- The bits of whole numbers of 64 bits, as natural numbers have them. No condition beyond the ranges. -/
namespace Go.Proofs.Ytlghklbjmmijpaa.Pb
open Go
set_option linter.unusedVariables false

theorem wraps_i64 (n : Int) (h0 : 0 ≤ n) (h1 : n < 2 ^ 63) : IntKind.i64.wrap n = n := by rw [IntKind.wrap_i64]; omega
/-- A mask of low bits, of whatever number. -/
theorem and_mask (n : Int) (j m : Nat) (hj : j ≤ 62) (hm : m = 2 ^ j - 1) : bits .and .i64 n (m : Int) = n % (2 ^ j : Nat) := by
  have hp : (2 : Nat) ^ j ≤ 2 ^ 62 := Nat.pow_le_pow_right (by decide) hj
  have hpos : 0 < 2 ^ j := Nat.two_pow_pos j
  have hmm : (BitVec.ofInt 64 (m : Int)).toNat = 2 ^ j - 1 := by
    rw [BitVec.ofInt_natCast, BitVec.toNat_ofNat, hm, Nat.mod_eq_of_lt]
    have : (2 : Nat) ^ 62 < 2 ^ 64 := by decide
    omega
  have key : (BitVec.ofInt 64 n &&& BitVec.ofInt 64 (m : Int)).toNat = (n % ((2 ^ 64 : Nat) : Int)).toNat % 2 ^ j := by
    rw [BitVec.toNat_and, BitVec.toNat_ofInt, hmm, Nat.and_two_pow_sub_one_eq_mod]
  show IntKind.i64.wrap ((BitVec.ofInt 64 n &&& BitVec.ofInt 64 (m : Int)).toNat : Nat) = _
  rw [key, IntKind.wrap_i64]
  have hd : ((2 ^ j : Nat) : Int) ∣ ((2 ^ 64 : Nat) : Int) := by
    have : (2 ^ j : Nat) ∣ 2 ^ 64 := Nat.pow_dvd_pow 2 (by omega)
    exact Int.natCast_dvd_natCast.2 this
  have e0 : 0 ≤ n % ((2 ^ 64 : Nat) : Int) := Int.emod_nonneg _ (by decide)
  have e1 : (((n % ((2 ^ 64 : Nat) : Int)).toNat % 2 ^ j : Nat) : Int) = n % ((2 ^ j : Nat) : Int) := by
    rw [Int.natCast_emod, Int.toNat_of_nonneg e0, Int.emod_emod_of_dvd _ hd]
  rw [e1]
  have b0 : 0 ≤ n % ((2 ^ j : Nat) : Int) := Int.emod_nonneg _ (by omega)
  have b1 : n % ((2 ^ j : Nat) : Int) < ((2 ^ j : Nat) : Int) := Int.emod_lt_of_pos _ (by omega)
  have b2 : ((2 ^ j : Nat) : Int) ≤ ((2 ^ 62 : Nat) : Int) := Int.ofNat_le.2 hp
  have b3 : ((2 ^ 62 : Nat) : Int) = 4611686018427387904 := by decide
  omega
theorem and255 (n : Int) : bits .and .i64 n 255 = n % 256 := and_mask n 8 255 (by decide) (by decide)
theorem and_nat (a b : Nat) (ha : a < 2 ^ 63) (hb : b < 2 ^ 63) : bits .and .i64 (a : Int) (b : Int) = ((a &&& b : Nat) : Int) := (bits_nat .i64 63 (by decide) wraps_i64 a b ha hb).1
theorem or_nat (a b : Nat) (ha : a < 2 ^ 63) (hb : b < 2 ^ 63) : bits .or .i64 (a : Int) (b : Int) = ((a ||| b : Nat) : Int) := (bits_nat .i64 63 (by decide) wraps_i64 a b ha hb).2
end Go.Proofs.Ytlghklbjmmijpaa.Pb
/- Weak sums of bytes: the program's and the reference's ways. No condition beyond the bytes' range. -/
namespace Go.Proofs.Ytlghklbjmmijpaa.Pb
open Go.RowKit Go.Proofs.Ytlghklbjmmijpaa Go.Proofs.Ytlghklbjmmijpaa.Q Go.Proofs.YtlghklbjmmijpaaW.PrintWords Go.Proofs.YtlghklbjmmijpaaW.PrintLast
set_option linter.unusedVariables false
set_option linter.unusedSimpArgs false

theorem iter_foldl {α σ : Type} (f : σ → α → σ) (l : List α) (d : α) (s0 : σ) (n : Nat) (hn : n ≤ l.length) : iter n (fun i s => f s (l.getD i d)) s0 = (l.take n).foldl f s0 := by
  induction n with
  | zero => simp [iter_zero]
  | succ n ih =>
    rw [iter_succ, ih (by omega), List.take_succ_eq_append_getElem (by omega), List.foldl_append]
    simp [List.getD_eq_getElem?_getD, (show n < l.length by omega)]
theorem iter_foldl_all {α σ : Type} (f : σ → α → σ) (l : List α) (d : α) (s0 : σ) : iter l.length (fun i s => f s (l.getD i d)) s0 = l.foldl f s0 := by
  rw [iter_foldl f l d s0 l.length (Nat.le_refl _), List.take_length]

/-- All are bytes. -/
def Bytes (l : List Int) : Prop := ∀ x ∈ l, 0 ≤ x ∧ x ≤ 255
theorem bytes_getD {l : List Int} (h : Bytes l) (i : Nat) : 0 ≤ l.getD i 0 ∧ l.getD i 0 ≤ 255 := by
  rw [List.getD_eq_getElem?_getD]
  by_cases q : i < l.length
  · simp only [q, List.getElem?_eq_getElem, Option.getD_some]
    exact h _ (List.getElem_mem q)
  · simp [q]
def weakStep (p : Int × Int) (b : Int) : Int × Int := ((p.1 + b) % 251, (p.2 + (p.1 + b) % 251) % 251)
def weakPair (l : List Int) : Int × Int := l.foldl weakStep (0, 0)
def weakOf (l : List Int) : Int := (weakPair l).1 + 251 * (weakPair l).2
def WeakIn (p : Int × Int) : Prop := 0 ≤ p.1 ∧ p.1 < 251 ∧ 0 ≤ p.2 ∧ p.2 < 251
theorem weakStep_in (p : Int × Int) (b : Int) : WeakIn (weakStep p b) := by
  unfold WeakIn weakStep
  simp only
  omega
theorem weakPair_in (l : List Int) : WeakIn (weakPair l) := by
  unfold weakPair
  rcases List.eq_nil_or_concat l with rfl | ⟨l', x, rfl⟩
  · simp [WeakIn]
  · rw [List.concat_eq_append, List.foldl_append]
    exact weakStep_in _ _
theorem weakOf_range (l : List Int) : 0 ≤ weakOf l ∧ weakOf l ≤ 63000 := by
  have h := weakPair_in l
  unfold WeakIn at h
  unfold weakOf
  omega
theorem weak_step (x y b : Int) (h : WeakIn (x, y)) (hb : 0 ≤ b ∧ b ≤ 255) : Int.tmod (wrap64 (x + (wrap64 b))) 251 = (weakStep (x, y) b).1 ∧ Int.tmod (wrap64 (y + (Int.tmod (wrap64 (x + (wrap64 b))) 251))) 251 = (weakStep (x, y) b).2 := by
  unfold WeakIn at h
  simp only at h
  have e1 : Int.tmod (wrap64 (x + (wrap64 b))) 251 = (x + b) % 251 := by
    rw [w64 (x := b) (by omega) (by omega), w64 (x := x + b) (by omega) (by omega), Int.tmod_eq_emod_of_nonneg (by omega)]
  rw [e1]
  refine ⟨rfl, ?_⟩
  rw [w64 (by omega) (by omega), Int.tmod_eq_emod_of_nonneg (by omega)]
  rfl
theorem specWeakOf_ev (l : List Int) (hl : l.length ≤ 1048576) (hb : Bytes l) : Ev (fun k => spec_WeakOf.f k l) (weakOf l) := by
  unfold spec_WeakOf.f
  refine loop_up (σ := Int × Int) (fun k s i => spec_WeakOf.l0 k l s.1 s.2 i) l.length (fun i s => weakStep s (l.getD i 0)) (fun i s => WeakIn s) (0, 0) _ (by simp [WeakIn]) (fun i s _ _ => weakStep_in _ _) ?_ ?_
  · rintro i ⟨x, y⟩ r hi hs h
    refine Ev.step (fun k => rfl) ?_
    refine ev_pos (by omega) (ev_pos (by omega) ?_)
    have e := weak_step x y (l.getD i 0) hs (bytes_getD hb i)
    simp only [rd, Int.toNat_natCast]
    rw [e.1, ← e.1, e.2, e.1, w64 (x := (i : Int) + 1) (by omega) (by omega)]
    exact h
  · intro hs
    refine Ev.step (fun k => rfl) ?_
    refine ev_neg (by omega) (ev_eq ev_some ?_)
    rw [iter_foldl_all weakStep l 0 (0, 0)] at hs ⊢
    unfold WeakIn at hs
    rw [w64 (x := 251 * _) (by omega) (by omega), w64 (by omega) (by omega)]
    rfl
theorem implWeakOf_ev (l : List Int) (hl : l.length ≤ 1048576) (hb : Bytes l) : Ev (fun k => impl_WeakOf.f k l) (weakOf l) := by
  unfold impl_WeakOf.f
  refine loop_up (σ := Int × Int) (fun k s i => impl_WeakOf.l0 k s.1 s.2 l (l.length : Int) i) l.length (fun i s => weakStep s (l.getD i 0)) (fun i s => WeakIn s) (0, 0) _ (by simp [WeakIn]) (fun i s _ _ => weakStep_in _ _) ?_ ?_
  · rintro i ⟨x, y⟩ r hi hs h
    refine Ev.step (fun k => rfl) ?_
    refine ev_pos (by omega) (ev_pos (by omega) (ev_pos (by omega) ?_))
    have e := weak_step x y (l.getD i 0) hs (bytes_getD hb i)
    simp only [rd, Int.toNat_natCast]
    rw [e.1, ← e.1, e.2, e.1, w64 (x := (i : Int) + 1) (by omega) (by omega)]
    exact h
  · intro hs
    refine Ev.step (fun k => rfl) ?_
    refine ev_neg (by omega) ?_
    rw [iter_foldl_all weakStep l 0 (0, 0)] at hs ⊢
    unfold WeakIn at hs
    have wr : ∀ x : Int, 0 ≤ x → x < 251 → impl_Wrap.f x 251 = some x := by
      intro x h0 h1
      unfold impl_Wrap.f
      rw [within_eq]
      simp only [Option.bind_some]
      rw [if_pos (by decide), if_neg (by decide), Int.tmod_eq_emod_of_nonneg h0, w64 (by omega) (by omega), Int.tmod_eq_emod_of_nonneg (by omega)]
      congr 1
      omega
    have e : impl_weak.f (List.foldl weakStep (0, 0) l).1 (List.foldl weakStep (0, 0) l).2 = some (weakOf l) := by
      unfold impl_weak.f
      rw [wr _ hs.1 hs.2.1, wr _ hs.2.2.1 hs.2.2.2]
      simp only [Option.bind_some]
      rw [w64 (x := 251 * _) (by omega) (by omega), w64 (by omega) (by omega)]
      rfl
    exact ev_then e ev_some
end Go.Proofs.Ytlghklbjmmijpaa.Pb
/- A block's sum, as the program and the reference make it (without the bytes' own way back). No condition beyond the bytes' range. -/
namespace Go.Proofs.Ytlghklbjmmijpaa.Pb
open Go.RowKit Go.Proofs.Ytlghklbjmmijpaa Go.Proofs.Ytlghklbjmmijpaa.Q Go.Proofs.YtlghklbjmmijpaaW.PrintWords Go.Proofs.YtlghklbjmmijpaaW.PrintLast Go.Proofs.YtlghklbjmmijpaaW.PrintMore
set_option linter.unusedVariables false
set_option linter.unusedSimpArgs false

theorem pow256_succ (c : Nat) : (256 : Int) ^ (c + 1) = 256 * 256 ^ c := by rw [Int.pow_succ, Int.mul_comm]
theorem p256_0 : (256 : Int) ^ 0 = 1 := by decide
theorem p256_1 : (256 : Int) ^ 1 = 256 := by decide
theorem p256_2 : (256 : Int) ^ 2 = 65536 := by decide
theorem p256_3 : (256 : Int) ^ 3 = 16777216 := by decide
theorem p256_4 : (256 : Int) ^ 4 = 4294967296 := by decide
theorem p256_5 : (256 : Int) ^ 5 = 1099511627776 := by decide
theorem p256_6 : (256 : Int) ^ 6 = 281474976710656 := by decide
/-- The strong sum: the bytes as one number, behind a leading one. -/
def strong (l : List Int) : Int := l.foldl (fun s b => 256 * s + b) 1
def sumOf (l : List Int) : Int × Int := if (l.length : Int) > 6 then (0, 0) else (weakOf l, strong l)
theorem p256_le (i : Nat) (h : i ≤ 6) : 1 ≤ (256 : Int) ^ i ∧ (256 : Int) ^ i ≤ 281474976710656 := by
  rcases (show i = 0 ∨ i = 1 ∨ i = 2 ∨ i = 3 ∨ i = 4 ∨ i = 5 ∨ i = 6 by omega) with rfl | rfl | rfl | rfl | rfl | rfl | rfl <;> simp only [p256_0, p256_1, p256_2, p256_3, p256_4, p256_5, p256_6] <;> omega
/-- What a prefix's strong sum stays under. -/
def StrongIn (i : Nat) (s : Int) : Prop := 1 ≤ s ∧ s < 2 * 256 ^ i
theorem strongIn_step {i : Nat} {s b : Int} (h : StrongIn i s) (hb : 0 ≤ b ∧ b ≤ 255) : StrongIn (i + 1) (256 * s + b) := by
  unfold StrongIn at h ⊢
  rw [pow256_succ]
  generalize (256 : Int) ^ i = p at h ⊢
  omega
theorem strongIn_le {i : Nat} {s : Int} (h : StrongIn i s) (hi : i ≤ 6) : 1 ≤ s ∧ s ≤ 562949953421311 := by
  unfold StrongIn at h
  have := p256_le i hi
  omega
theorem specSumOf_ev (l : List Int) (hb : Bytes l) : Ev (fun k => spec_SumOf.f k l) (sumOf l) := by
  unfold spec_SumOf.f sumOf
  refine ev_if (fun h => ev_eq ev_some (by rw [if_pos h])) (fun h => ?_)
  rw [if_neg h]
  refine loop_up (σ := Int) (fun k s i => spec_SumOf.l0 k l s i) l.length (fun i s => 256 * s + l.getD i 0) (fun i s => StrongIn i s) 1 _ (by simp [StrongIn]) (fun i s _ hs => strongIn_step hs (bytes_getD hb i)) ?_ ?_
  · intro i s r hi hs h
    have q := strongIn_le hs (by omega)
    have z := bytes_getD hb i
    refine Ev.step (fun k => rfl) ?_
    refine ev_pos (by omega) (ev_pos (by omega) ?_)
    simp only [rd, Int.toNat_natCast]
    rw [w64 (x := 256 * s) (by omega) (by omega), w64 (x := l.getD i 0) (by omega) (by omega), w64 (x := 256 * s + l.getD i 0) (by omega) (by omega), w64 (x := (i : Int) + 1) (by omega) (by omega)]
    exact h
  · intro hs
    refine Ev.step (fun k => rfl) ?_
    refine ev_neg (by omega) (Ev.bind (specWeakOf_ev l (by omega) hb) (ev_eq ev_some ?_))
    rw [iter_foldl_all (fun s b => 256 * s + b) l 0 1]
    rfl
theorem or_byte (s b : Int) (h0 : 0 ≤ s) (h1 : s ≤ 562949953421311) (hb : 0 ≤ b ∧ b ≤ 255) : Go.bits .or .i64 (s * 256) b = 256 * s + b := by
  obtain ⟨a, rfl⟩ := Int.eq_ofNat_of_zero_le h0
  obtain ⟨c, rfl⟩ := Int.eq_ofNat_of_zero_le hb.1
  have e : ((a : Int) * 256) = ((2 ^ 8 * a : Nat) : Int) := by omega
  rw [e, or_nat _ _ (by omega) (by omega), ← Nat.two_pow_add_eq_or_of_lt (by omega)]
  omega
theorem implSumOf_ev (l : List Int) (hb : Bytes l) : Ev (fun k => impl_SumOf.f k l) (sumOf l) := by
  unfold impl_SumOf.f sumOf
  refine ev_if (fun h => ev_eq ev_some (by rw [if_pos h])) (fun h => ?_)
  rw [if_neg h]
  refine loop_up (σ := Int) (fun k s i => impl_SumOf.l0 k l s l (l.length : Int) i) l.length (fun i s => 256 * s + l.getD i 0) (fun i s => StrongIn i s) 1 _ (by simp [StrongIn]) (fun i s _ hs => strongIn_step hs (bytes_getD hb i)) ?_ ?_
  · intro i s r hi hs h
    have q := strongIn_le hs (by omega)
    have z := bytes_getD hb i
    refine Ev.step (fun k => rfl) ?_
    refine ev_pos (by omega) (ev_pos (by omega) (ev_pos (by omega) ?_))
    simp only [rd, Int.toNat_natCast]
    rw [w64 (x := s * 256) (by omega) (by omega), w64 (x := l.getD i 0) (by omega) (by omega), or_byte s _ (by omega) (by omega) z, w64 (x := (i : Int) + 1) (by omega) (by omega)]
    exact h
  · intro hs
    refine Ev.step (fun k => rfl) ?_
    refine ev_neg (by omega) (Ev.bind (implWeakOf_ev l (by omega) hb) (ev_eq ev_some ?_))
    rw [iter_foldl_all (fun s b => 256 * s + b) l 0 1]
    rfl
end Go.Proofs.Ytlghklbjmmijpaa.Pb
/- Blocks of an image, their sums, and whether a manifest tells an image. No condition beyond the rows' lengths, and that bytes are bytes. -/
namespace Go.Proofs.Ytlghklbjmmijpaa.Pb
open Go.RowKit Go.Proofs.Ytlghklbjmmijpaa Go.Proofs.Ytlghklbjmmijpaa.Q Go.Proofs.YtlghklbjmmijpaaW.PrintWords Go.Proofs.YtlghklbjmmijpaaW.PrintLast
set_option linter.unusedVariables false
set_option linter.unusedSimpArgs false

def block (n : Int) (l : List Int) (i : Int) : List Int := (l.take ((spanOf n l.length i).1 + (spanOf n l.length i).2).toNat).drop (spanOf n l.length i).1.toNat
theorem bytes_block {l : List Int} (h : Bytes l) (n i : Int) : Bytes (block n l i) := fun x hx => h x (List.mem_of_mem_take (List.mem_of_mem_drop hx))
theorem span_zero {a b i : Int} (h : (spanOf a b i).2 = 0) : spanOf a b i = (0, 0) := by
  unfold spanOf at h ⊢
  split at h
  · rename_i q
    have s := span_at q
    simp only at h
    split at h <;> omega
  · rename_i q
    rw [if_neg q]
theorem block_nil {n : Int} {l : List Int} {i : Int} (h : (spanOf n l.length i).2 = 0) : block n l i = [] := by
  unfold block
  rw [span_zero h]
  simp
theorem block_in (n : Int) (l : List Int) (i : Int) : (spanOf n l.length i).1 + (spanOf n l.length i).2 ≤ l.length := by
  unfold spanOf
  split
  · rename_i h
    have s := span_at h
    simp only
    split <;> omega
  · simp
theorem block_length (n : Int) (l : List Int) (i : Int) : (block n l i).length ≤ 240 := by
  have := spanOf_range n l.length i
  unfold block
  rw [List.length_drop, List.length_take]
  omega
theorem specBlockAt_eq (l : List Int) (n i : Int) : spec_BlockAt.f l n i = some (block n l i, !decide ((spanOf n l.length i).2 = 0)) := by
  have r := spanOf_range n l.length i
  have hs := block_in n l i
  have pl := block_length n l i
  unfold spec_BlockAt.f
  rw [specSpanOf_eq]
  simp only [Option.bind_some]
  by_cases h : (spanOf n l.length i).2 = 0
  · rw [if_pos h, block_nil h, decide_eq_true h]; rfl
  · unfold block at pl
    rw [if_neg h, decide_eq_false h, w64 (by omega) (by omega), if_pos (by omega), if_pos (by omega), if_pos (by omega), if_pos (by simp only [List.length_nil]; omega)]
    rfl
theorem implBlockAt_eq (l : List Int) (n i : Int) (hl : l.length ≤ 1048576) : impl_BlockAt.f l n i = some (block n l i, !decide ((spanOf n l.length i).2 = 0)) := by
  have r := spanOf_range n l.length i
  have hs := block_in n l i
  have pl := block_length n l i
  unfold impl_BlockAt.f
  rw [implSpanOf_eq]
  simp only [Option.bind_some]
  by_cases h : (spanOf n l.length i).2 = 0
  · rw [if_pos h, block_nil h, decide_eq_true h]; rfl
  · unfold block at pl
    rw [if_neg h, decide_eq_false h]
    unfold impl_Slice.f impl_cloned.f
    rw [within_eq]
    simp only [Option.bind_some]
    rw [if_pos (decide_eq_true (by omega)), w64 (x := (l.length : Int) - (spanOf n l.length i).1) (by omega) (by omega), within_eq]
    simp only [Option.bind_some]
    rw [if_pos (decide_eq_true (by omega)), w64 (by omega) (by omega), if_pos (by omega), if_pos (by omega), if_pos (by omega), if_pos (by omega)]
    rfl
def sumNext (n : Int) (l : List Int) (i : Nat) (s : List S119) : List S119 := s ++ [⟨(sumOf (block n l (i : Int))).1, (sumOf (block n l (i : Int))).2⟩]
def sumsOf (n : Int) (l : List Int) : List S119 := iter (blocks n l.length).toNat (sumNext n l) []
theorem sums_len (n : Int) (l : List Int) (m : Nat) : (iter m (sumNext n l) []).length = m := by
  induction m with
  | zero => rfl
  | succ m ih =>
    rw [iter_succ]
    unfold sumNext at ih ⊢
    rw [List.length_append, ih]
    rfl
theorem sumsOf_length (n : Int) (l : List Int) : (sumsOf n l).length ≤ 40 := by
  have := blocks_range n l.length
  unfold sumsOf
  rw [sums_len]
  omega
theorem specSumsOf_ev (l : List Int) (n : Int) (hb : Bytes l) : Ev (fun k => spec_SumsOf.f k l n) (sumsOf n l) := by
  have hr := blocks_range n l.length
  unfold spec_SumsOf.f
  refine loop_up (fun k s i => spec_SumsOf.l0 k l n s i) (blocks n l.length).toNat (sumNext n l) (fun i s => s.length = i) [] _ rfl (fun i s _ h => by unfold sumNext; rw [List.length_append, h]; rfl) ?_ ?_
  · intro i s r hi hs h
    refine Ev.step (fun k => rfl) (ev_then (specBlocks_eq _ _) (ev_pos (by omega) (ev_then (specBlockAt_eq _ _ _) (Ev.bind (specSumOf_ev _ (bytes_block hb n (i : Int))) (ev_pos (by rw [hs]; omega) ?_)))))
    rw [w64 (by omega) (by omega)]
    exact h
  · intro hs
    exact Ev.step (fun k => rfl) (ev_then (specBlocks_eq _ _) (ev_neg (by omega) ev_some))
theorem implSumsOf_ev (l : List Int) (n : Int) (hb : Bytes l) (hl : l.length ≤ 1048576) : Ev (fun k => impl_SumsOf.f k l n) (sumsOf n l) := by
  have hr := blocks_range n l.length
  unfold impl_SumsOf.f
  refine ev_then (implBlocks_eq _ _) ?_
  refine loop_up (fun k s i => impl_SumsOf.l0 k l n s (blocks n l.length) i) (blocks n l.length).toNat (sumNext n l) (fun i s => s.length = i) [] _ rfl (fun i s _ h => by unfold sumNext; rw [List.length_append, h]; rfl) ?_ ?_
  · intro i s r hi hs h
    refine Ev.step (fun k => rfl) (ev_pos (by omega) (ev_then (implBlockAt_eq _ _ _ hl) (Ev.bind (implSumOf_ev _ (bytes_block hb n (i : Int))) (ev_pos (by rw [hs]; omega) ?_))))
    rw [w64 (by omega) (by omega)]
    exact h
  · intro hs
    exact Ev.step (fun k => rfl) (ev_neg (by omega) ev_some)
def sumAt (a b : List S119) (i : Nat) : Bool := !(!(((a.getD i z119).f0) == ((b.getD i z119).f0)) || (!(((a.getD i z119).f1) == ((b.getD i z119).f1))))
def sameSums (a b : List S119) : Bool := if a.length = b.length then (List.range a.length).all (sumAt a b) else false
theorem specSameSums_ev (a b : List S119) (ha : a.length ≤ 1048576) : Ev (fun k => spec_l6SameSums.f k a b) (sameSums a b) := by
  unfold spec_l6SameSums.f sameSums
  refine ev_if (fun hl => ?_) (fun hl => ev_eq ev_some (by rw [if_neg (by omega)]))
  rw [if_pos (by omega)]
  refine loop_all (fun k i => spec_l6SameSums.l0 k a b i) a.length _ ?_ ?_ ?_
  · intro i r hi hp h
    refine Ev.step (fun k => rfl) ?_
    refine ev_pos (by omega) (ev_pos (by omega) (ev_pos (by omega) (ev_neg (by simpa [sumAt, rd_T119] using hp) ?_)))
    rw [w64 (by omega) (by omega)]
    exact h
  · intro i hi hp
    refine Ev.step (fun k => rfl) ?_
    refine ev_pos (by omega) (ev_pos (by omega) (ev_pos (by omega) (ev_pos ?_ ev_some)))
    have : (!sumAt a b i) = true := by rw [hp]; rfl
    rw [sumAt, Bool.not_not] at this
    exact this
  · refine Ev.step (fun k => rfl) ?_
    exact ev_neg (by omega) ev_some
theorem implSameSums_ev (a b : List S119) (ha : a.length ≤ 1048576) : Ev (fun k => impl_Sum.f k a b) (sameSums a b) := by
  unfold impl_Sum.f sameSums
  refine ev_if (fun hl => ?_) (fun hl => ev_eq ev_some (by rw [if_neg (by omega)]))
  rw [if_pos (by omega)]
  refine loop_all (fun k i => impl_Sum.l0 k a b (a.length : Int) i) a.length _ ?_ ?_ ?_
  · intro i r hi hp h
    refine Ev.step (fun k => rfl) ?_
    refine ev_pos (by omega) (ev_pos (by omega) (ev_pos (by omega) (ev_pos (by omega) (ev_neg (by simpa [sumAt, rd_T119] using hp) ?_))))
    rw [w64 (by omega) (by omega)]
    exact h
  · intro i hi hp
    refine Ev.step (fun k => rfl) ?_
    refine ev_pos (by omega) (ev_pos (by omega) (ev_pos (by omega) (ev_pos (by omega) (ev_pos ?_ ev_some))))
    have : (!sumAt a b i) = true := by rw [hp]; rfl
    rw [sumAt, Bool.not_not] at this
    exact this
  · refine Ev.step (fun k => rfl) ?_
    exact ev_neg (by omega) ev_some
def tells (n c : Int) (l : List S119) (m : List Int) : Bool := if (m.length : Int) = c then sameSums (sumsOf n m) l else false
theorem specTells_ev (a n c : Int) (l : List S119) (m : List Int) (hb : Bytes m) : Ev (fun k => spec_Tells.f k a n c l m) (tells n c l m) := by
  have := sumsOf_length n m
  unfold spec_Tells.f tells
  exact ev_if (fun h => Ev.bind (specSumsOf_ev m n hb) (Ev.bind (specSameSums_ev _ _ (by omega)) (ev_eq ev_some (by rw [if_pos h])))) (fun h => ev_eq ev_some (by rw [if_neg h]))
theorem implTells_ev (a n c : Int) (l : List S119) (m : List Int) (hb : Bytes m) (hm : m.length ≤ 1048576) : Ev (fun k => impl_Tells.f k a n c l m) (tells n c l m) := by
  have := sumsOf_length n m
  unfold impl_Tells.f tells
  exact ev_if (fun h => Ev.bind (implSumsOf_ev m n hb hm) (Ev.bind (implSameSums_ev _ _ (by omega)) (ev_eq ev_some (by rw [if_pos h])))) (fun h => ev_eq ev_some (by rw [if_neg h]))
end Go.Proofs.Ytlghklbjmmijpaa.Pb
/- Sums of blocks as plain lists: the laws' comparisons of them. No condition beyond the size that the laws ask. -/
namespace Go.Proofs.Ytlghklbjmmijpaa.Pb
open Go.RowKit Go.Proofs.Ytlghklbjmmijpaa Go.Proofs.Ytlghklbjmmijpaa.Q Go.Proofs.YtlghklbjmmijpaaW.PrintWords Go.Proofs.YtlghklbjmmijpaaW.PrintLast
set_option linter.unusedVariables false
set_option linter.unusedSimpArgs false

theorem eqSum_refl (a b : Int) : laws_eqSum.f a b a b = some true := by
  unfold laws_eqSum.f
  rw [if_pos rfl, if_pos rfl]
theorem eqSumS_refl (a : List S119) (ha : a.length ≤ 9223372036854775806) : Ev (fun k => laws_eqSumS.f k a a) true := by
  unfold laws_eqSumS.f
  refine ev_pos rfl ?_
  refine ev_eq (loop_all (fun k i => laws_eqSumS.l0 k a a i) a.length (fun _ => true) ?_ ?_ ?_) (by simp)
  · intro i r hi _ h
    refine Ev.step (fun k => rfl) ?_
    refine ev_pos (by omega) (ev_pos (by omega) (ev_pos (by omega) ?_))
    refine ev_then (eqSum_refl _ _) (ev_true ?_)
    rw [w64 (by omega) (by omega)]
    exact h
  · intro i hi hp
    cases hp
  · refine Ev.step (fun k => rfl) ?_
    exact ev_neg (by omega) ev_some
theorem eqManifest_refl (a b c : Int) (l : List S119) (hl : l.length ≤ 9223372036854775806) : Ev (fun k => laws_eqManifest.f k a b c l a b c l) true := by
  unfold laws_eqManifest.f
  exact ev_pos rfl (ev_pos rfl (ev_pos rfl (Ev.bind (eqSumS_refl l hl) (ev_true ev_some))))
end Go.Proofs.Ytlghklbjmmijpaa.Pb
/- Sums of blocks and manifests: the laws' copies of them. No condition beyond the size that the laws ask. -/
namespace Go.Proofs.Ytlghklbjmmijpaa.Pb
open Go.RowKit Go.Proofs.Ytlghklbjmmijpaa Go.Proofs.Ytlghklbjmmijpaa.Q Go.Proofs.YtlghklbjmmijpaaW.PrintWords Go.Proofs.YtlghklbjmmijpaaW.PrintLast
set_option linter.unusedVariables false
set_option linter.unusedSimpArgs false

/-- The program's own sum out of the laws' one. -/
def sumOf_ (x : S140) : S119 := ⟨x.f0, x.f1⟩
theorem szSumS_eq (l : List S140) (a : Int) (hl : l.length ≤ 9223372036854775807) (h0 : 0 ≤ a) (h1 : a ≤ 1048576) : laws_szSumS.f l a = some (if a < (l.length : Int) then (-1 : Int) else a - (l.length : Int)) := by
  unfold laws_szSumS.f
  rw [w64 (by omega) (by omega)]
  by_cases h : a < l.length
  · rw [if_pos (by omega), if_pos h]
  · rw [if_neg (by omega), if_neg h]
theorem szManifest_eq (b c d : Int) (l : List S140) (a : Int) (hl : l.length ≤ 9223372036854775807) (h0 : 0 ≤ a) (h1 : a ≤ 1048576) : laws_szManifest.f b c d l a = some (if a < (l.length : Int) then (-1 : Int) else a - (l.length : Int)) := by
  unfold laws_szManifest.f
  rw [szSumS_eq l a hl h0 h1]
  simp only [Option.bind_some]
  by_cases h : a < (l.length : Int)
  · rw [if_pos h]; rfl
  · rw [if_neg h, if_neg (by omega)]
theorem toSumS_ev (l : List S140) (hl : l.length ≤ 1048576) : Ev (fun k => laws_toSumS.f k l) (l.map sumOf_) := by
  unfold laws_toSumS.f
  refine ev_pos (by omega) (ev_pos (by simp; omega) ?_)
  refine loop_up (fun k s i => laws_toSumS.l0 k l s i) l.length (fun i (s : List S119) => s.set i (sumOf_ (l.getD i z140))) (fun _ s => s.length = l.length) _ _ (by simp) (fun i s _ h => by simpa using h) ?_ ?_
  · intro i s r hi hs h
    refine Ev.step (fun k => rfl) ?_
    refine ev_pos (by omega) (ev_pos (by omega) ?_)
    refine ev_then rfl ?_
    refine ev_pos (by omega) ?_
    rw [w64 (by omega) (by omega)]
    exact h
  · intro hs
    refine Ev.step (fun k => rfl) ?_
    refine ev_neg (by omega) (ev_eq ev_some ?_)
    rw [iter_set l.length (fun i => sumOf_ (l.getD i z140)) _ (by simp)]
    exact map_range_get l _ sumOf_
theorem toManifest_ev (a b c : Int) (l : List S140) (hl : l.length ≤ 1048576) : Ev (fun k => laws_toManifest.f k a b c l) (a, b, c, l.map sumOf_) := by
  unfold laws_toManifest.f
  exact Ev.bind (toSumS_ev l hl) ev_some
end Go.Proofs.Ytlghklbjmmijpaa.Pb
namespace Go.Proofs.Ytlghklbjmmijpaa.Pure
open Go.RowKit Go.Proofs.Ytlghklbjmmijpaa Go.Proofs.Ytlghklbjmmijpaa.Q Go.Proofs.Ytlghklbjmmijpaa.Pb Go.Proofs.YtlghklbjmmijpaaW.PrintWords Go.Proofs.YtlghklbjmmijpaaW.PrintLast
set_option linter.unusedVariables false
set_option linter.unusedSimpArgs false

theorem bytes_good {l : List Int} (g : (Opn.Each (fun n : Int => (Lit.int .u8 n).wf = true)) l) : Bytes l := by
  intro x hx
  have h := g.2 x hx
  simp [Lit.wf, IntKind.min, IntKind.max, IntKind.signed, IntKind.bits] at h
  omega
def committed (a b : List Int) (c d e : Int) (p : List S110) (g n z : Int) (l : List S119) (m : List Int) : Bool := if holds a b c d e p g m = true then tells n z l m else false
theorem specCommitted_ev (a b : List Int) (c d e : Int) (p : List S110) (g n z : Int) (l : List S119) (m : List Int) (hp : PutsOk 1048576 p) (hb : Bytes m) : Ev (fun k => spec_Committed.f k a b c d e p g n z l m) (committed a b c d e p g n z l m) := by
  unfold spec_Committed.f committed
  exact Ev.bind (specHolds_ev _ _ _ _ _ _ _ _ hp) (ev_if (fun h => Ev.bind (specTells_ev _ _ _ _ _ hb) (ev_eq ev_some (by rw [if_pos h]))) (fun h => ev_eq ev_some (by rw [if_neg h])))
theorem implCommitted_ev (a b : List Int) (c d e : Int) (p : List S110) (g n z : Int) (l : List S119) (m : List Int) (hp : PutsOk 1048576 p) (hb : Bytes m) (hm : m.length ≤ 1048576) : Ev (fun k => impl_Committed.f k a b c d e p g n z l m) (committed a b c d e p g n z l m) := by
  unfold impl_Committed.f committed
  exact Ev.bind (implHolds_ev _ _ _ _ _ _ _ _ hp) (ev_if (fun h => Ev.bind (implTells_ev _ _ _ _ _ hb hm) (ev_eq ev_some (by rw [if_pos h]))) (fun h => ev_eq ev_some (by rw [if_neg h])))
theorem FnExactCommitted : ∀ (x0 : S27) (x1 : S64) (x2 : List Int), good27 x0 → good64 x1 → (Opn.Each (fun n : Int => (Lit.int .u8 n).wf = true)) x2 → ∃ k, laws_FnExactCommitted.f k x0.f0 x0.f1 x0.f2.f0 x0.f2.f1 x0.f2.f2 x0.f3 x1.f0 x1.f1 x1.f2 x1.f3 x2 = some true := by
  intro x0 x1 x2 g0 g1 g2
  refine Ev.rounds ?_
  unfold laws_FnExactCommitted.f
  refine ev_if (fun _ => ev_some) (fun hx => ?_)
  obtain ⟨r, h1, h2, h3⟩ := szDisk_ev x0.f0 x0.f1 x0.f2.f0 x0.f2.f1 x0.f2.f2 x0.f3 1048576 (goodPuts_len x0 g0).1 (goodPuts_len x0 g0).2.1 (goodPuts_len x0 g0).2.2.1 (goodPuts_len x0 g0).2.2.2 (by omega) (by omega)
  refine Ev.bind h1 (ev_if (fun _ => ev_some) (fun h => ?_))
  have hf := h3 (by omega)
  rw [szManifest_eq _ _ _ _ r g1.2.2.2.1 (by omega) h2]
  refine Ev.bind ev_some (ev_if (fun _ => ev_some) (fun h' => ?_))
  have hb : (x1.f3.length : Int) ≤ 1048576 := by split at h' <;> omega
  have hby := bytes_good g2
  have m0 := toDisk_ev x0.f0 x0.f1 x0.f2.f0 x0.f2.f1 x0.f2.f2 x0.f3 hf
  have m1 := toManifest_ev x1.f0 x1.f1 x1.f2 x1.f3 (by omega)
  have hp := putsOk_map hf.2.2
  have mx := toByteS_ev x2 (by omega)
  refine Ev.bind m0 (Ev.bind m1 (Ev.bind mx (Ev.bind (specCommitted_ev _ _ _ _ _ _ _ _ _ _ _ hp hby) ?_)))
  refine Ev.bind m0 (Ev.bind m1 (Ev.bind mx (Ev.bind (implCommitted_ev _ _ _ _ _ _ _ _ _ _ _ hp hby (by omega)) (ev_neg (by simp) ?_))))
  refine Ev.bind m0 (Ev.bind (eqDisk_refl _ _ _ _ _ _ (by have := hf.1; simp only; omega) (by have := hf.2.1; simp only; omega) (putsOk_le (by omega) hp)) (ev_true ?_))
  refine Ev.bind m1 (Ev.bind (eqManifest_refl _ _ _ _ (by simp; omega)) (ev_true ?_))
  exact Ev.bind mx (Ev.bind (eqByteS_ev _ _ (by omega)) (ev_pos (by simp) ev_some))
end Go.Proofs.Ytlghklbjmmijpaa.Pure
