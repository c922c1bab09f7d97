/- The program's SafeFall returns what the reference's returns, for every disk, number and bytes, and leaves them. No further condition. -/
import Derived.Test.YtlghklbjmmijpaaQ29
import Derived.Test.YtlghklbjmmijpaaQ15
import Derived.Test.YtlghklbjmmijpaaQ26
import Derived.Test.YtlghklbjmmijpaaQ11
import Derived.Test.YtlghklbjmmijpaaQ25
import Derived.Test.YtlghklbjmmijpaaQ24
import Derived.Test.YtlghklbjmmijpaaQ10
import Derived.Test.YtlghklbjmmijpaaQ23
import Derived.Test.YtlghklbjmmijpaaQ22
import Derived.Test.YtlghklbjmmijpaaQ6
import Derived.Test.YtlghklbjmmijpaaQ17
import Derived.Test.YtlghklbjmmijpaaQ28
import Derived.Test.YtlghklbjmmijpaaQ3
import Derived.Test.YtlghklbjmmijpaaQ16
import Derived.RowKit
import Derived.IntWalk
import Derived.Test.YtlghklbjmmijpaaWWords
import Derived.Test.YtlghklbjmmijpaaTyp
import Derived.Test.YtlghklbjmmijpaaQ18
import Derived.Test.YtlghklbjmmijpaaQ8
import Derived.Test.YtlghklbjmmijpaaQ5
import Derived.Test.YtlghklbjmmijpaaQ9
import Derived.Test.YtlghklbjmmijpaaQ20
import Derived.Test.YtlghklbjmmijpaaQ14
import Derived.Test.YtlghklbjmmijpaaQ19
/- Plain lemmas on answers with rounds: a loop that goes up through numbers comes to what its steps make. No condition. -/
namespace Go.Proofs.Ytlghklbjmmijpaa.Pb
open Go.RowKit Go.Proofs.YtlghklbjmmijpaaW.PrintWords
set_option linter.unusedVariables false

theorem w64 {x : Int} (h0 : -9223372036854775808 ≤ x) (h1 : x ≤ 9223372036854775807) : wrap64 x = x := by unfold wrap64; omega

section
variable {α β ρ σ : Type}
theorem ev_pos {c : Prop} [Decidable c] {f g : Nat → Option α} {r : α} (hc : c) (h : Ev f r) : Ev (fun k => if c then f k else g k) r := Ev.congr (fun k => if_pos hc) h
theorem ev_neg {c : Prop} [Decidable c] {f g : Nat → Option α} {r : α} (hc : ¬ c) (h : Ev g r) : Ev (fun k => if c then f k else g k) r := Ev.congr (fun k => if_neg hc) h
theorem ev_true {f g : Nat → Option α} {r : α} (h : Ev f r) : Ev (fun k => if true = true then f k else g k) r := ev_pos rfl h
theorem ev_false {f g : Nat → Option α} {r : α} (h : Ev g r) : Ev (fun k => if false = true then f k else g k) r := ev_neg (by decide) h
theorem ev_some {r : α} : Ev (fun _ => some r) r := Ev.now r
theorem ev_of {a : Option α} {r : α} (h : a = some r) : Ev (fun _ => a) r := ⟨0, fun _ _ => h⟩
theorem ev_then {a : Option α} {x : α} {f : Nat → α → Option β} {r : β} (h : a = some x) (k : Ev (fun n => f n x) r) : Ev (fun n => a.bind (f n)) r := Ev.bind (ev_of h) k
theorem ev_bool {b : Bool} {f g : Nat → Option α} {r : α} (h1 : b = true → Ev f r) (h2 : b = false → Ev g r) : Ev (fun k => if b = true then f k else g k) r := by
  cases b with
  | true => exact ev_true (h1 rfl)
  | false => exact ev_false (h2 rfl)
theorem ev_if {c : Prop} [Decidable c] {f g : Nat → Option α} {r : α} (h1 : c → Ev f r) (h2 : ¬ c → Ev g r) : Ev (fun k => if c then f k else g k) r := by
  by_cases h : c
  · exact ev_pos h (h1 h)
  · exact ev_neg h (h2 h)
theorem ev_eq {f : Nat → Option α} {r r' : α} (h : Ev f r) (e : r = r') : Ev f r' := e ▸ h
theorem ev_det {f : Nat → Option α} {r r' : α} (h : Ev f r) (h' : Ev f r') : r = r' := by
  obtain ⟨K, h⟩ := h
  obtain ⟨K', h'⟩ := h'
  have h1 := h (max K K') (Nat.le_max_left _ _)
  have h2 := h' (max K K') (Nat.le_max_right _ _)
  rw [h1] at h2
  exact Option.some.inj h2

/-- What n steps make of a state. -/
def iter (n : Nat) (next : Nat → σ → σ) (s : σ) : σ := (List.range n).foldl (fun s i => next i s) s
theorem iter_zero (next : Nat → σ → σ) (s : σ) : iter 0 next s = s := rfl
theorem iter_succ (n : Nat) (next : Nat → σ → σ) (s : σ) : iter (n + 1) next s = next n (iter n next s) := by
  unfold iter
  rw [List.range_succ, List.foldl_append]
  rfl

/-- A loop that goes up, step by step, to n. -/
theorem loop_up (g : Nat → σ → Int → Option ρ) (n : Nat) (next : Nat → σ → σ) (Inv : Nat → σ → Prop) (s0 : σ) (r : ρ)
    (h0 : Inv 0 s0) (hinv : ∀ i s, i < n → Inv i s → Inv (i + 1) (next i s))
    (hstep : ∀ (i : Nat) s r, i < n → Inv i s → Ev (fun k => g k (next i s) ((i : Int) + 1)) r → Ev (fun k => g k s (i : Int)) r)
    (hend : Inv n (iter n next s0) → Ev (fun k => g k (iter n next s0) (n : Int)) r) : Ev (fun k => g k s0 0) r := by
  have hall : ∀ i, i ≤ n → Inv i (iter i next s0) := by
    intro i
    induction i with
    | zero => intro _; exact h0
    | succ i ih => intro hi; rw [iter_succ]; exact hinv i _ (by omega) (ih (by omega))
  have key : ∀ d i, i + d = n → Ev (fun k => g k (iter i next s0) (i : Int)) r := by
    intro d
    induction d with
    | zero =>
      intro i hi
      obtain rfl : i = n := by omega
      exact hend (hall i (Nat.le_refl _))
    | succ d ih =>
      intro i hi
      refine hstep i _ r (by omega) (hall i (by omega)) ?_
      have := ih (i + 1) (by omega)
      rw [iter_succ] at this
      simpa using this
  exact key n 0 (by omega)

/-- A loop that goes up till something is found. -/
theorem loop_find (g : Nat → Int → Option ρ) (n : Nat) (p : Nat → Bool) (res : Nat → ρ) (r0 : ρ)
    (hyes : ∀ i, i < n → p i = true → Ev (fun k => g k (i : Int)) (res i))
    (hno : ∀ i r, i < n → p i = false → Ev (fun k => g k ((i : Int) + 1)) r → Ev (fun k => g k (i : Int)) r)
    (hend : Ev (fun k => g k (n : Int)) r0) : Ev (fun k => g k 0) (match (List.range n).find? p with | some i => res i | none => r0) := by
  have key : ∀ d i, i + d = n → Ev (fun k => g k (i : Int)) (match (List.range' i d).find? p with | some i => res i | none => r0) := by
    intro d
    induction d with
    | zero =>
      intro i hi
      obtain rfl : i = n := by omega
      exact hend
    | succ d ih =>
      intro i hi
      rw [List.range'_succ, List.find?_cons]
      cases hp : p i with
      | true => exact hyes i (by omega) hp
      | false => exact hno i _ (by omega) hp (by have := ih (i + 1) (by omega); simpa using this)
  have := key n 0 (by omega)
  rwa [← List.range_eq_range'] at this
/-- A loop that asks something of each. -/
theorem loop_all (g : Nat → Int → Option Bool) (n : Nat) (p : Nat → Bool)
    (hyes : ∀ i r, i < n → p i = true → Ev (fun k => g k ((i : Int) + 1)) r → Ev (fun k => g k (i : Int)) r)
    (hno : ∀ i, i < n → p i = false → Ev (fun k => g k (i : Int)) false)
    (hend : Ev (fun k => g k (n : Int)) true) : Ev (fun k => g k 0) ((List.range n).all p) := by
  have h := loop_find g n (fun i => !p i) (fun _ => false) true (fun i hi hp => hno i hi (by simpa using hp)) (fun i r hi hp h => hyes i r hi (by simpa using hp) h) hend
  refine ev_eq h ?_
  cases hf : (List.range n).find? (fun i => !p i) with
  | some i =>
    have h1 := List.find?_some hf
    have h2 := List.mem_of_find?_eq_some hf
    symm
    rw [List.all_eq_false]
    exact ⟨i, h2, by simpa using h1⟩
  | none =>
    symm
    rw [List.all_eq_true]
    intro x hx
    have := List.find?_eq_none.1 hf x hx
    simpa using this
end

/-! ### Lists by their elements -/
theorem rd_nat (l : List Int) (i : Nat) (h : i < l.length) : rd l (i : Int) = l[i] := by
  unfold rd
  simp [List.getD_eq_getElem?_getD, List.getElem?_eq_getElem h]
theorem iter_set {α : Type} (n : Nat) (f : Nat → α) (l : List α) (hl : l.length = n) : iter n (fun i (s : List α) => s.set i (f i)) l = (List.range n).map f := by
  have key : ∀ m, m ≤ n → iter m (fun i (s : List α) => s.set i (f i)) l = (List.range m).map f ++ l.drop m := by
    intro m
    induction m with
    | zero => intro _; simp [iter_zero]
    | succ m ih =>
      intro hm
      rw [iter_succ, ih (by omega)]
      apply List.ext_getElem?
      intro j
      simp only [List.getElem?_set, List.getElem?_append, List.length_map, List.length_range, List.length_append, List.length_drop, List.getElem?_map, List.getElem?_drop]
      by_cases h1 : m = j
      · subst h1
        simp
        omega
      · by_cases h2 : j < m
        · simp [h1, h2, show j < m + 1 by omega]
        · have h3 : ¬ j < m + 1 := by omega
          simp [h1, h2, h3]
          congr 1
          omega
  have := key n (Nat.le_refl _)
  rw [this, List.drop_of_length_le (by omega), List.append_nil]
theorem map_range_get {α β : Type} (l : List α) (d : α) (f : α → β) : (List.range l.length).map (fun i => f (l.getD i d)) = l.map f := by
  apply List.ext_getElem?
  intro i
  by_cases h : i < l.length
  · simp [h, List.getD_eq_getElem?_getD]
  · simp [h]
theorem all_range_eq {α : Type} [DecidableEq α] (a b : List α) (d : α) (hl : a.length = b.length) : (List.range a.length).all (fun i => decide (a.getD i d = b.getD i d)) = decide (a = b) := by
  rw [Bool.eq_iff_iff]
  simp only [List.all_eq_true, List.mem_range, decide_eq_true_eq]
  constructor
  · intro h
    apply List.ext_getElem hl
    intro i h1 h2
    have := h i h1
    simpa [List.getD_eq_getElem?_getD, h1, h2] using this
  · rintro rfl i _
    rfl
end Go.Proofs.Ytlghklbjmmijpaa.Pb
/- Bytes as plain lists: the laws' copies and comparisons of them. No condition beyond the size that the laws ask. -/
namespace Go.Proofs.Ytlghklbjmmijpaa.Pb
open Go.RowKit Go.Proofs.Ytlghklbjmmijpaa Go.Proofs.Ytlghklbjmmijpaa.Q Go.Proofs.YtlghklbjmmijpaaW.PrintWords Go.Proofs.YtlghklbjmmijpaaW.PrintLast
set_option linter.unusedVariables false
set_option linter.unusedSimpArgs false

theorem toByteS_ev (l : List Int) (hl : l.length ≤ 1048576) : Ev (fun k => laws_toByteS.f k l) l := by
  unfold laws_toByteS.f
  refine ev_pos (by omega) (ev_pos (by simp; omega) ?_)
  refine loop_up (fun k s i => laws_toByteS.l0 k l s i) l.length (fun i (s : List Int) => s.set i (l.getD i 0)) (fun _ s => s.length = l.length) _ l (by simp) (fun i s _ h => by simpa using h) ?_ ?_
  · intro i s r hi hs h
    refine Ev.step (fun k => rfl) ?_
    refine ev_pos (by omega) (ev_pos (by omega) (ev_pos (by omega) ?_))
    rw [w64 (by omega) (by omega)]
    simpa [rd] using h
  · intro hs
    refine Ev.step (fun k => rfl) ?_
    refine ev_neg (by omega) (ev_eq ev_some ?_)
    have h1 := iter_set l.length (fun i => l.getD i 0) (List.replicate (l.length : Int).toNat 0) (by simp)
    rw [h1]
    have h2 := map_range_get l 0 id
    simpa using h2
theorem eqByteS_ev (a b : List Int) (ha : a.length ≤ 9223372036854775806) : Ev (fun k => laws_eqByteS.f k a b) (decide (a = b)) := by
  unfold laws_eqByteS.f
  refine ev_if (fun hl => ?_) (fun hl => ev_eq ev_some ?_)
  · have hl' : a.length = b.length := by omega
    rw [← all_range_eq a b 0 hl']
    refine loop_all (fun k i => laws_eqByteS.l0 k a b i) a.length _ ?_ ?_ ?_
    · intro i r hi hp h
      refine Ev.step (fun k => rfl) ?_
      refine ev_pos (by omega) (ev_pos (by omega) (ev_pos (by omega) (ev_pos (by simpa [rd] using hp) ?_)))
      rw [w64 (by omega) (by omega)]
      exact h
    · intro i hi hp
      refine Ev.step (fun k => rfl) ?_
      exact ev_pos (by omega) (ev_pos (by omega) (ev_pos (by omega) (ev_neg (by simpa [rd] using hp) ev_some)))
    · refine Ev.step (fun k => rfl) ?_
      exact ev_neg (by omega) ev_some
  · symm
    rw [decide_eq_false_iff_not]
    rintro rfl
    exact hl rfl
end Go.Proofs.Ytlghklbjmmijpaa.Pb
/- Disks: the laws' copies of them, the size that they ask, and their comparisons. No condition beyond that size. -/
namespace Go.Proofs.Ytlghklbjmmijpaa.Pb
open Go.RowKit Go.Proofs.Ytlghklbjmmijpaa Go.Proofs.Ytlghklbjmmijpaa.Q Go.Proofs.YtlghklbjmmijpaaW.PrintWords Go.Proofs.YtlghklbjmmijpaaW.PrintLast
set_option linter.unusedVariables false
set_option linter.unusedSimpArgs false

/-- The program's own record and write out of the laws' ones. -/
def recOf_ (x : S24) : S30 := ⟨x.f0, x.f1, x.f2⟩
def putOf_ (x : S108) : S110 := ⟨x.f0, x.f1, x.f2, recOf_ x.f3⟩
/-- A size that fits: what is left of it after n is no less than nothing, or -1 says that it does not. -/
theorem szByteS_eq (l : List Int) (x : Int) (hl : l.length ≤ 9223372036854775807) (h0 : 0 ≤ x) (h1 : x ≤ 1048576) : laws_szByteS.f l x = some (if x < (l.length : Int) then (-1 : Int) else x - l.length) := by
  unfold laws_szByteS.f
  rw [w64 (by omega) (by omega)]
  by_cases r : x < (l.length : Int)
  · rw [if_pos (by omega), if_pos r]
  · rw [if_neg (by omega), if_neg r]
/-- The writes fit, each of their bytes does. -/
def PutsFit (l : List S108) : Prop := l.length ≤ 1048576 ∧ ∀ p ∈ l, p.f2.length ≤ 1048576
theorem szPutS_ev (l : List S108) (x : Int) (hl : l.length ≤ 9223372036854775807) (hb : ∀ p ∈ l, p.f2.length ≤ 9223372036854775807) (h0 : 0 ≤ x) (h1 : x ≤ 1048576) :
    ∃ r, Ev (fun k => laws_szPutS.f k l x) r ∧ r ≤ x ∧ (0 ≤ r → PutsFit l) := by
  unfold laws_szPutS.f
  rw [w64 (by omega) (by omega)]
  by_cases q : x - l.length < 0
  · exact ⟨-1, ev_pos q ev_some, by omega, by omega⟩
  have key : ∀ (d i : Nat) (y : Int), i + d = l.length → 0 ≤ y → y ≤ x → (∀ j, j < i → (l.getD j z108).f2.length ≤ 1048576) →
      ∃ r, Ev (fun k => laws_szPutS.l0 k l y (i : Int)) r ∧ r ≤ x ∧ (0 ≤ r → ∀ j, j < l.length → (l.getD j z108).f2.length ≤ 1048576) := by
    intro d
    induction d with
    | zero =>
      intro i y hi hy hx hj
      refine ⟨y, Ev.step (fun k => rfl) (ev_neg (by omega) ev_some), hx, fun _ j hj' => hj j (by omega)⟩
    | succ d ih =>
      intro i y hi hy hx hj
      have hm : (l.getD i z108) ∈ l := by
        rw [List.getD_eq_getElem?_getD, List.getElem?_eq_getElem (by omega)]
        exact List.getElem_mem _
      have e : laws_szPut.f (l.getD i z108).f0 (l.getD i z108).f1 (l.getD i z108).f2 (l.getD i z108).f3.f0 (l.getD i z108).f3.f1 (l.getD i z108).f3.f2 y = some (if y < ((l.getD i z108).f2.length : Int) then (-1 : Int) else y - (l.getD i z108).f2.length) := by
        unfold laws_szPut.f
        rw [szByteS_eq _ _ (hb _ hm) hy (by omega)]
        simp only [Option.bind_some]
        by_cases r : y < ((l.getD i z108).f2.length : Int)
        · rw [if_pos r]; rfl
        · rw [if_neg r, if_neg (by omega)]
      by_cases r : y < ((l.getD i z108).f2.length : Int)
      · refine ⟨-1, Ev.step (fun k => rfl) (ev_pos (by omega) (ev_pos (by omega) ?_)), by omega, by omega⟩
        simp only [rd_T108, Int.toNat_natCast]
        refine ev_then e ?_
        rw [if_pos r]
        exact ev_pos (by omega) ev_some
      · obtain ⟨s, h2, h3, h4⟩ := ih (i + 1) (y - (l.getD i z108).f2.length) (by omega) (by omega) (by omega) (fun j hj' => by
          by_cases z : j = i
          · subst z; omega
          · exact hj j (by omega))
        refine ⟨s, Ev.step (fun k => rfl) (ev_pos (by omega) (ev_pos (by omega) ?_)), h3, h4⟩
        simp only [rd_T108, Int.toNat_natCast]
        refine ev_then e ?_
        rw [if_neg r]
        refine ev_neg (by omega) ?_
        rw [w64 (x := (i : Int) + 1) (by omega) (by omega)]
        simpa using h2
  obtain ⟨r, h2, h3, h4⟩ := key l.length 0 (x - l.length) (by omega) (by omega) (by omega) (fun j hj => by omega)
  refine ⟨r, ev_neg q h2, h3, fun h => ⟨by omega, fun p hp => ?_⟩⟩
  obtain ⟨j, hj, rfl⟩ := List.getElem_of_mem hp
  have := h4 h j hj
  rwa [List.getD_eq_getElem?_getD, List.getElem?_eq_getElem hj] at this
/-- What fits of a disk. -/
def DiskFit (a b : List Int) (l : List S108) : Prop := a.length ≤ 1048576 ∧ b.length ≤ 1048576 ∧ PutsFit l
theorem szDisk_ev (a b : List Int) (c d e : Int) (l : List S108) (x : Int) (ha : a.length ≤ 9223372036854775807) (hb : b.length ≤ 9223372036854775807) (hl : l.length ≤ 9223372036854775807) (hp : ∀ p ∈ l, p.f2.length ≤ 9223372036854775807) (h0 : 0 ≤ x) (h1 : x ≤ 1048576) :
    ∃ r, Ev (fun k => laws_szDisk.f k a b c d e l x) r ∧ r ≤ x ∧ (0 ≤ r → DiskFit a b l) := by
  unfold laws_szDisk.f
  rw [szByteS_eq a x ha h0 h1]
  by_cases q : x < (a.length : Int)
  · rw [if_pos q]
    exact ⟨-1, ev_then rfl (ev_pos (by omega) ev_some), by omega, by omega⟩
  rw [if_neg q]
  by_cases r : x - a.length < (b.length : Int)
  · refine ⟨-1, ev_then rfl (ev_neg (by omega) ?_), by omega, by omega⟩
    rw [szByteS_eq b _ hb (by omega) (by omega), if_pos r]
    exact ev_then rfl (ev_pos (by omega) ev_some)
  obtain ⟨s, h2, h3, h4⟩ := szPutS_ev l (x - a.length - b.length) hl hp (by omega) (by omega)
  by_cases t : s < 0
  · refine ⟨-1, ev_then rfl (ev_neg (by omega) ?_), by omega, by omega⟩
    rw [szByteS_eq b _ hb (by omega) (by omega), if_neg r]
    exact ev_then rfl (ev_neg (by omega) (Ev.bind h2 (ev_pos t ev_some)))
  · refine ⟨s, ev_then rfl (ev_neg (by omega) ?_), by omega, fun h => ⟨by omega, by omega, h4 h⟩⟩
    rw [szByteS_eq b _ hb (by omega) (by omega), if_neg r]
    exact ev_then rfl (ev_neg (by omega) (Ev.bind h2 (ev_neg t ev_some)))
theorem goodPuts_len (x : S27) (g : good27 x) : x.f0.length ≤ 9223372036854775807 ∧ x.f1.length ≤ 9223372036854775807 ∧ x.f3.length ≤ 9223372036854775807 ∧ ∀ p ∈ x.f3, p.f2.length ≤ 9223372036854775807 :=
  ⟨g.1.1, g.2.1.1, g.2.2.2.1, fun p hp => (g.2.2.2.2 p hp).2.2.1.1⟩
theorem toPut_ev (p : S108) (h : p.f2.length ≤ 1048576) : Ev (fun k => laws_toPut.f k p.f0 p.f1 p.f2 p.f3.f0 p.f3.f1 p.f3.f2) (p.f0, p.f1, p.f2, p.f3.f0, p.f3.f1, p.f3.f2) := by
  unfold laws_toPut.f
  exact Ev.bind (toByteS_ev _ h) (ev_then rfl ev_some)
theorem toPutS_ev (l : List S108) (h : PutsFit l) : Ev (fun k => laws_toPutS.f k l) (l.map putOf_) := by
  obtain ⟨hl, hp⟩ := h
  unfold laws_toPutS.f
  refine ev_pos (by omega) (ev_pos (by simp; omega) ?_)
  refine loop_up (fun k s i => laws_toPutS.l0 k l s i) l.length (fun i (s : List S110) => s.set i (putOf_ (l.getD i z108))) (fun _ s => s.length = l.length) _ _ (by simp) (fun i s _ h => by simpa using h) ?_ ?_
  · intro i s r hi hs h
    refine Ev.step (fun k => rfl) ?_
    refine ev_pos (by omega) (ev_pos (by omega) ?_)
    simp only [rd_T108, Int.toNat_natCast]
    have hm : (l.getD i z108) ∈ l := by
      rw [List.getD_eq_getElem?_getD, List.getElem?_eq_getElem (by omega)]
      exact List.getElem_mem _
    refine Ev.bind (toPut_ev _ (hp _ hm)) ?_
    refine ev_pos (by omega) ?_
    rw [w64 (by omega) (by omega)]
    exact h
  · intro hs
    refine Ev.step (fun k => rfl) ?_
    refine ev_neg (by omega) (ev_eq ev_some ?_)
    rw [iter_set l.length (fun i => putOf_ (l.getD i z108)) _ (by simp)]
    exact map_range_get l _ putOf_
theorem toDisk_ev (a b : List Int) (c d e : Int) (l : List S108) (h : DiskFit a b l) : Ev (fun k => laws_toDisk.f k a b c d e l) (a, b, c, d, e, l.map putOf_) := by
  unfold laws_toDisk.f
  exact Ev.bind (toByteS_ev a h.1) (Ev.bind (toByteS_ev b h.2.1) (ev_then rfl (Ev.bind (toPutS_ev l h.2.2) ev_some)))
/-- Writes whose bytes are few. -/
def PutsOk (n : Nat) (l : List S110) : Prop := l.length ≤ n ∧ ∀ p ∈ l, p.f2.length ≤ n
theorem putsOk_map {l : List S108} (h : PutsFit l) : PutsOk 1048576 (l.map putOf_) := by
  refine ⟨by simpa using h.1, fun p hp => ?_⟩
  obtain ⟨q, hq, rfl⟩ := List.mem_map.1 hp
  exact h.2 q hq
theorem getD_mem {α : Type} {l : List α} {i : Nat} (d : α) (h : i < l.length) : l.getD i d ∈ l := by
  rw [List.getD_eq_getElem?_getD, List.getElem?_eq_getElem h]
  exact List.getElem_mem _
theorem eqRecord_refl (a b c : Int) : laws_eqRecord.f a b c a b c = some true := by
  unfold laws_eqRecord.f
  rw [if_pos rfl, if_pos rfl, if_pos rfl]
theorem eqPut_refl (p : S110) (h : p.f2.length ≤ 9223372036854775806) : Ev (fun k => laws_eqPut.f k p.f0 p.f1 p.f2 p.f3.f0 p.f3.f1 p.f3.f2 p.f0 p.f1 p.f2 p.f3.f0 p.f3.f1 p.f3.f2) true := by
  unfold laws_eqPut.f
  exact ev_pos rfl (ev_pos rfl (Ev.bind (eqByteS_ev _ _ h) (ev_pos (by simp) (ev_then (eqRecord_refl _ _ _) (ev_true ev_some)))))
theorem eqPutS_refl (l : List S110) (h : PutsOk 9223372036854775806 l) : Ev (fun k => laws_eqPutS.f k l l) true := by
  obtain ⟨hl, hp⟩ := h
  unfold laws_eqPutS.f
  refine ev_pos rfl ?_
  refine ev_eq (loop_all (fun k i => laws_eqPutS.l0 k l l i) l.length (fun _ => true) ?_ ?_ ?_) (by simp)
  · intro i r hi _ h
    refine Ev.step (fun k => rfl) ?_
    refine ev_pos (by omega) (ev_pos (by omega) (ev_pos (by omega) ?_))
    simp only [rd_T110, Int.toNat_natCast]
    refine Ev.bind (eqPut_refl _ (hp _ (getD_mem _ hi))) (ev_true ?_)
    rw [w64 (by omega) (by omega)]
    exact h
  · intro i hi hp
    cases hp
  · refine Ev.step (fun k => rfl) ?_
    exact ev_neg (by omega) ev_some
theorem putsOk_le {m n : Nat} (h : m ≤ n) {l : List S110} (g : PutsOk m l) : PutsOk n l := ⟨by have := g.1; omega, fun p hp => by have := g.2 p hp; omega⟩
theorem eqDisk_refl (a b : List Int) (c d e : Int) (l : List S110) (ha : a.length ≤ 9223372036854775806) (hb : b.length ≤ 9223372036854775806) (hl : PutsOk 9223372036854775806 l) : Ev (fun k => laws_eqDisk.f k a b c d e l a b c d e l) true := by
  unfold laws_eqDisk.f
  refine Ev.bind (eqByteS_ev a a ha) (ev_pos (by simp) (Ev.bind (eqByteS_ev b b hb) (ev_pos (by simp) ?_)))
  exact ev_then (eqRecord_refl _ _ _) (ev_true (Ev.bind (eqPutS_refl l hl) (ev_true ev_some)))
end Go.Proofs.Ytlghklbjmmijpaa.Pb
/- Copies of disks and of writes: they come to the same. No condition beyond the rows' lengths. -/
namespace Go.Proofs.Ytlghklbjmmijpaa.Pb
open Go.RowKit Go.Proofs.Ytlghklbjmmijpaa Go.Proofs.Ytlghklbjmmijpaa.Q Go.Proofs.YtlghklbjmmijpaaW.PrintWords Go.Proofs.YtlghklbjmmijpaaW.PrintLast
set_option linter.unusedVariables false
set_option linter.unusedSimpArgs false

theorem rd_midp (pre : List S110) (p : S110) (t : List S110) : rd_T110 (pre ++ p :: t) (pre.length : Int) = p := by
  simp only [rd_T110, Int.toNat_natCast, List.getD_eq_getElem?_getD]
  rw [List.getElem?_append_right (Nat.le_refl _), Nat.sub_self]
  rfl
theorem specCopyPut_eq (a b : Int) (l : List Int) (c d e : Int) (h : l.length ≤ 4194304) : spec_l9CopyPut.f a b l c d e = some (a, b, l, c, d, e) := by
  unfold spec_l9CopyPut.f
  simp only [Option.bind_some]
  rw [if_pos (by simp only [List.length_nil]; omega), List.nil_append]
theorem implCopyPut_eq (a b : Int) (l : List Int) (c d e : Int) (h : l.length ≤ 4194304) : impl_copyPut.f a b l c d e = some (a, b, l, c, d, e) := by
  unfold impl_copyPut.f impl_cloned.f
  rw [if_pos (by omega)]
  rfl
theorem specCopy_key (a b : List Int) (c d e : Int) (u v : List Int) : ∀ (t pre : List S110), (∀ p ∈ t, p.f2.length ≤ 4194304) → pre.length + t.length ≤ 4194304 →
    Ev (fun k => spec_l9Copy.l0 k (pre.length : Int) a b c d e (pre ++ t) u v c d e pre) (u, v, c, d, e, pre ++ t) := by
  intro t
  induction t with
  | nil =>
    intro pre _ _
    exact Ev.step (fun k => rfl) (ev_neg (by simp) (ev_eq ev_some (by simp)))
  | cons p t ih =>
    intro pre hp hl
    simp only [List.length_cons] at hl
    refine Ev.step (fun k => rfl) (ev_pos (by simp only [List.length_append, List.length_cons]; omega) (ev_pos (by omega) ?_))
    simp only [rd_midp]
    refine ev_then (specCopyPut_eq _ _ _ _ _ _ (hp p (List.mem_cons_self ..))) (ev_pos (by omega) ?_)
    rw [w64 (x := (pre.length : Int) + 1) (by omega) (by omega)]
    have := ih (pre ++ [p]) (fun q hq => hp q (List.mem_cons_of_mem _ hq)) (by simp only [List.length_append, List.length_cons, List.length_nil]; omega)
    simp only [List.append_assoc, List.singleton_append, List.length_append, List.length_cons, List.length_nil] at this
    exact this
theorem specCopy_ev (a b : List Int) (c d e : Int) (l : List S110) (ha : a.length ≤ 4194304) (hb : b.length ≤ 4194304) (hl : PutsOk 4194304 l) : Ev (fun k => spec_l9Copy.f k a b c d e l) (a, b, c, d, e, l) := by
  unfold spec_l9Copy.f
  refine ev_then rfl (ev_pos (by simp only [List.length_nil]; omega) (ev_then rfl (ev_pos (by simp only [List.length_nil]; omega) ?_)))
  exact specCopy_key a b c d e a b l [] hl.2 (by simpa using hl.1)
theorem implCopy_key (c d e : Int) (u v : List Int) (n : Int) : ∀ (t pre : List S110), (∀ p ∈ t, p.f2.length ≤ 4194304) → pre.length + t.length ≤ 4194304 → n = (pre.length : Int) + t.length →
    Ev (fun k => impl_copyDisk.l0 k (pre ++ t) n (pre.length : Int) u v c d e pre) (u, v, c, d, e, pre ++ t) := by
  intro t
  induction t with
  | nil =>
    intro pre _ _ hn
    exact Ev.step (fun k => rfl) (ev_neg (by simp only [List.length_nil] at hn; omega) (ev_eq ev_some (by simp)))
  | cons p t ih =>
    intro pre hp hl hn
    simp only [List.length_cons] at hl hn
    refine Ev.step (fun k => rfl) (ev_pos (by omega) (ev_pos (by omega) (ev_pos (by simp only [List.length_append, List.length_cons]; omega) ?_)))
    simp only [rd_midp]
    refine ev_then (implCopyPut_eq _ _ _ _ _ _ (hp p (List.mem_cons_self ..))) (ev_pos (by omega) ?_)
    rw [w64 (x := (pre.length : Int) + 1) (by omega) (by omega)]
    have := ih (pre ++ [p]) (fun q hq => hp q (List.mem_cons_of_mem _ hq)) (by simp only [List.length_append, List.length_cons, List.length_nil]; omega) (by simp only [List.length_append, List.length_cons, List.length_nil]; omega)
    simp only [List.append_assoc, List.singleton_append, List.length_append, List.length_cons, List.length_nil] at this
    exact this
theorem implCopy_ev (a b : List Int) (c d e : Int) (l : List S110) (ha : a.length ≤ 4194304) (hb : b.length ≤ 4194304) (hl : PutsOk 4194304 l) : Ev (fun k => impl_copyDisk.f k a b c d e l) (a, b, c, d, e, l) := by
  unfold impl_copyDisk.f impl_cloned.f
  rw [if_pos (by omega), if_pos (by omega)]
  exact ev_then rfl (ev_then rfl (implCopy_key c d e a b l.length l [] hl.2 (by simpa using hl.1) (by simp)))
end Go.Proofs.Ytlghklbjmmijpaa.Pb
/- Whole numbers: an int's bounds, tests of an interval, what is left of a size. No condition. -/
namespace Go.Proofs.Ytlghklbjmmijpaa.Pb
open Go.RowKit Go.Proofs.Ytlghklbjmmijpaa Go.Proofs.Ytlghklbjmmijpaa.Q Go.Proofs.YtlghklbjmmijpaaW.PrintWords Go.Proofs.YtlghklbjmmijpaaW.PrintLast
set_option linter.unusedVariables false
set_option linter.unusedSimpArgs false

/-- An int holds it. -/
def I64 (n : Int) : Prop := -9223372036854775808 ≤ n ∧ n ≤ 9223372036854775807
theorem i64_of {n : Int} (h : (Lit.int .i64 n).wf = true) : I64 n := by
  simp [Lit.wf, IntKind.min, IntKind.max, IntKind.signed, IntKind.bits] at h
  exact ⟨by omega, by omega⟩

theorem within_eq (a lo hi : Int) : impl_within.f a lo hi = some (decide (lo ≤ a ∧ a ≤ hi)) := by
  unfold impl_within.f
  by_cases h : lo ≤ a
  · rw [if_pos h]; simp [h]
  · rw [if_neg h]; simp [h]
theorem l1In_eq (a lo hi : Int) : spec_l1In.f a lo hi = some (decide (lo ≤ a ∧ a ≤ hi)) := within_eq a lo hi

theorem left_big {n : Nat} (h : ¬ (if (1048576 : Int) < (n : Int) then (-1 : Int) else 1048576 - (n : Int)) < 0) : n ≤ 1048576 := by
  split at h <;> omega
end Go.Proofs.Ytlghklbjmmijpaa.Pb
/- What disks are good: records, writes, the disk whole. No condition beyond the rows' lengths. -/
namespace Go.Proofs.Ytlghklbjmmijpaa.Pb
open Go.RowKit Go.Proofs.Ytlghklbjmmijpaa Go.Proofs.Ytlghklbjmmijpaa.Q Go.Proofs.YtlghklbjmmijpaaW.PrintWords Go.Proofs.YtlghklbjmmijpaaW.PrintLast
set_option linter.unusedVariables false
set_option linter.unusedSimpArgs false

theorem not_dec {p : Prop} [Decidable p] (h : ¬ p) : ¬ (decide p = true) := fun e => h (of_decide_eq_true e)
def recordOk (a b c : Int) : Bool := decide (0 ≤ a ∧ a ≤ 1000000 ∧ 0 ≤ b ∧ b ≤ 1 ∧ 0 ≤ c ∧ c ≤ 240)
theorem specRecord_eq (a b c : Int) : spec_l9Record.f a b c = some (recordOk a b c) := by
  unfold spec_l9Record.f recordOk
  simp only [l1In_eq, Option.bind_some]
  by_cases h1 : 0 ≤ a ∧ a ≤ 1000000
  · rw [if_pos (decide_eq_true h1)]
    by_cases h2 : 0 ≤ b ∧ b ≤ 1
    · rw [if_pos (decide_eq_true h2)]
      exact congrArg some (decide_eq_decide.2 (by omega))
    · rw [if_neg (not_dec h2)]
      exact congrArg some (decide_eq_false (by omega)).symm
  · rw [if_neg (not_dec h1)]
    exact congrArg some (decide_eq_false (by omega)).symm
theorem implIsSlot_eq (a : Int) : impl_isSlot.f a = some (decide (0 ≤ a ∧ a ≤ 1)) := by
  unfold impl_isSlot.f
  by_cases h : a = 0
  · rw [if_pos h]
    exact congrArg some (decide_eq_true (by omega)).symm
  · rw [if_neg h]
    refine congrArg some ?_
    by_cases h' : a = 1
    · subst h'; rfl
    · rw [decide_eq_false (by omega)]
      exact beq_eq_false_iff_ne.mpr h'
theorem implRecord_eq (a b c : Int) : impl_isRecord.f a b c = some (recordOk a b c) := by
  unfold impl_isRecord.f impl_isGen.f recordOk
  simp only [within_eq, implIsSlot_eq, Option.bind_some]
  by_cases h1 : 0 ≤ a ∧ a ≤ 1000000
  · rw [if_pos (decide_eq_true h1)]
    by_cases h2 : 0 ≤ b ∧ b ≤ 1
    · rw [if_pos (decide_eq_true h2)]
      exact congrArg some (decide_eq_decide.2 (by omega))
    · rw [if_neg (not_dec h2)]
      exact congrArg some (decide_eq_false (by omega)).symm
  · rw [if_neg (not_dec h1)]
    exact congrArg some (decide_eq_false (by omega)).symm
def putOk (p : S110) : Bool := if p.f0 = 2 then (decide (p.f1 = 0 ∧ p.f2.length = 0) && recordOk p.f3.f0 p.f3.f1 p.f3.f2) else decide (0 ≤ p.f0 ∧ p.f0 ≤ 1 ∧ 0 ≤ p.f1 ∧ p.f1 + p.f2.length ≤ 240 ∧ p.f3.f0 = 0 ∧ p.f3.f1 = 0 ∧ p.f3.f2 = 0)
theorem zero3 (a b c : Int) : (a == 0 && (b == 0 && (c == 0))) = decide (a = 0 ∧ b = 0 ∧ c = 0) := by
  by_cases h1 : a = 0 <;> by_cases h2 : b = 0 <;> by_cases h3 : c = 0 <;> simp [h1, h2, h3]
theorem specPut_eq (p : S110) (hl : p.f2.length ≤ 9223372036854775807) : spec_l9Put.f p.f0 p.f1 p.f2 p.f3.f0 p.f3.f1 p.f3.f2 = some (putOk p) := by
  unfold spec_l9Put.f putOk
  simp only [l1In_eq, specRecord_eq, zero3, Option.bind_some]
  by_cases h : p.f0 = 2
  · rw [if_pos h, if_pos h]
    by_cases h1 : p.f1 = 0
    · rw [if_pos h1]
      by_cases h2 : p.f2.length = 0
      · rw [if_pos (by omega), decide_eq_true ⟨h1, h2⟩]; rfl
      · rw [if_neg (by omega), decide_eq_false (by omega)]; rfl
    · rw [if_neg h1, decide_eq_false (by omega)]; rfl
  · rw [if_neg h, if_neg h]
    by_cases h1 : 0 ≤ p.f0 ∧ p.f0 ≤ 1
    · rw [if_pos (decide_eq_true h1)]
      by_cases h2 : 0 ≤ p.f1 ∧ p.f1 ≤ 240
      · rw [if_pos (decide_eq_true h2), w64 (by omega) (by omega)]
        by_cases h3 : (p.f2.length : Int) ≤ 240 - p.f1
        · rw [if_pos h3]
          exact congrArg some (decide_eq_decide.2 (by omega))
        · rw [if_neg h3]
          exact congrArg some (decide_eq_false (by omega)).symm
      · rw [if_neg (not_dec h2)]
        exact congrArg some (decide_eq_false (by omega)).symm
    · rw [if_neg (not_dec h1)]
      exact congrArg some (decide_eq_false (by omega)).symm
theorem implPut_eq (p : S110) (hl : p.f2.length ≤ 9223372036854775807) : impl_isPut.f p.f0 p.f1 p.f2 p.f3.f0 p.f3.f1 p.f3.f2 = some (putOk p) := by
  unfold impl_isPut.f putOk
  simp only [within_eq, implIsSlot_eq, implRecord_eq, zero3, Option.bind_some]
  by_cases h : p.f0 = 2
  · rw [if_pos h, if_pos h]
    by_cases h1 : p.f1 = 0
    · rw [if_pos h1]
      by_cases h2 : p.f2.length = 0
      · rw [if_pos (by omega), decide_eq_true ⟨h1, h2⟩]; rfl
      · rw [if_neg (by omega), decide_eq_false (by omega)]; rfl
    · rw [if_neg h1, decide_eq_false (by omega)]; rfl
  · rw [if_neg h, if_neg h]
    by_cases h1 : 0 ≤ p.f0 ∧ p.f0 ≤ 1
    · rw [if_pos (decide_eq_true h1)]
      by_cases h2 : p.f3.f0 = 0 ∧ p.f3.f1 = 0 ∧ p.f3.f2 = 0
      · rw [if_pos (decide_eq_true h2), w64 (by omega) (by omega)]
        exact congrArg some (decide_eq_decide.2 (by omega))
      · rw [if_neg (not_dec h2)]
        exact congrArg some (decide_eq_false (by omega)).symm
    · rw [if_neg (not_dec h1)]
      exact congrArg some (decide_eq_false (by omega)).symm
def slotOf (a b : List Int) (s : Int) : List Int := if s = 0 then a else b
def putsOk (l : List S110) : Bool := (List.range l.length).all (fun i => putOk (l.getD i z110))
def diskOk (a b : List Int) (c d e : Int) (l : List S110) : Bool := decide (a.length ≤ 240 ∧ b.length ≤ 240 ∧ l.length ≤ 200 ∧ e ≤ (slotOf a b d).length) && (recordOk c d e && putsOk l)
theorem diskOk_false {a b : List Int} {c d e : Int} {l : List S110} (h : ¬ (a.length ≤ 240 ∧ b.length ≤ 240 ∧ l.length ≤ 200 ∧ e ≤ (slotOf a b d).length)) : false = diskOk a b c d e l := by
  unfold diskOk
  rw [decide_eq_false h]; rfl
theorem diskOk_rec {a b : List Int} {c d e : Int} {l : List S110} (h : recordOk c d e = false) : false = diskOk a b c d e l := by
  unfold diskOk
  rw [h, Bool.false_and, Bool.and_false]
theorem diskOk_puts {a b : List Int} {c d e : Int} {l : List S110} (h : a.length ≤ 240 ∧ b.length ≤ 240 ∧ l.length ≤ 200 ∧ e ≤ (slotOf a b d).length) (h' : recordOk c d e = true) : putsOk l = diskOk a b c d e l := by
  unfold diskOk
  rw [decide_eq_true h, h', Bool.true_and, Bool.true_and]
theorem lslot_yes {d : Int} (h : d = 1) : spec_l9Slot.f d 1 = some () := if_pos (Or.inl ⟨h, rfl⟩)
theorem lslot_no {d : Int} (h : ¬ d = 1) : spec_l9Slot.f d 0 = some () := if_pos (Or.inr ⟨h, rfl⟩)
theorem slotOf_one {a b : List Int} {d : Int} (h : d = 1) : slotOf a b d = b := if_neg (by omega)
theorem slotOf_other {a b : List Int} {c d e : Int} (r : recordOk c d e = true) (h : ¬ d = 1) : slotOf a b d = a := if_pos (by have := of_decide_eq_true r; omega)
theorem specDiskOk_ev (a b : List Int) (c d e : Int) (l : List S110) (hl : PutsOk 4194304 l) : Ev (fun k => spec_DiskOk.f k a b c d e l) (diskOk a b c d e l) := by
  have badE : Ev (fun k => spec_DiskOk.j0 k true a b c d e l) false := Ev.step (fun k => rfl) (ev_true (g := fun k => spec_DiskOk.l0 k 0 a b c d e l) ev_some)
  have loop : Ev (fun k => spec_DiskOk.l0 k 0 a b c d e l) (putsOk l) := by
    refine loop_all (fun k i => spec_DiskOk.l0 k i a b c d e l) l.length (fun i => putOk (l.getD i z110)) ?_ ?_ ?_
    · intro i r hi hp h
      refine Ev.step (fun k => rfl) (ev_pos (by omega) (ev_pos (by omega) ?_))
      simp only [rd_T110, Int.toNat_natCast]
      refine ev_then (specPut_eq _ (by have := hl.2 _ (getD_mem z110 hi); omega)) (ev_pos hp ?_)
      rw [w64 (by have := hl.1; omega) (by have := hl.1; omega)]
      exact h
    · intro i hi hp
      refine Ev.step (fun k => rfl) (ev_pos (by omega) (ev_pos (by omega) ?_))
      simp only [rd_T110, Int.toNat_natCast]
      exact ev_then (specPut_eq _ (by have := hl.2 _ (getD_mem z110 hi); omega)) (ev_neg (by rw [hp]; decide) ev_some)
    · exact Ev.step (fun k => rfl) (ev_neg (by omega) ev_some)
  unfold spec_DiskOk.f
  by_cases h1 : (a.length : Int) > 240
  · exact ev_pos h1 (ev_eq badE (diskOk_false (by omega)))
  refine ev_neg h1 ?_
  by_cases h2 : (b.length : Int) > 240
  · exact ev_pos h2 (ev_eq badE (diskOk_false (by omega)))
  refine ev_neg h2 (ev_then (specRecord_eq c d e) ?_)
  by_cases h3 : recordOk c d e = true
  · refine ev_pos h3 ?_
    have rest : ∀ n : List Int, slotOf a b d = n → Ev (fun k => if e > (n.length : Int) then spec_DiskOk.j0 k true a b c d e l else spec_DiskOk.j0 k (decide ((l.length : Int) > 200)) a b c d e l) (diskOk a b c d e l) := by
      intro n hs
      by_cases h4 : e > (n.length : Int)
      · exact ev_pos h4 (ev_eq badE (diskOk_false (by rw [hs]; omega)))
      refine ev_neg h4 (Ev.step (fun k => rfl) ?_)
      by_cases h5 : (l.length : Int) > 200
      · exact ev_pos (decide_eq_true h5) (ev_eq ev_some (diskOk_false (by omega)))
      · exact ev_neg (not_dec h5) (ev_eq loop (diskOk_puts (by rw [hs]; omega) h3))
    by_cases q : d = 1
    · exact ev_pos q (ev_then (lslot_yes q) (rest b (slotOf_one q)))
    · exact ev_neg q (ev_then (lslot_no q) (rest a (slotOf_other h3 q)))
  · exact ev_neg h3 (ev_eq badE (diskOk_rec (by simpa using h3)))
theorem implPutsBad_ev (l : List S110) (hl : PutsOk 4194304 l) : Ev (fun k => impl_Put_121.f k l) (!putsOk l) := by
  have one : ∀ i, i < l.length → impl_DiskOk_1.f (l.getD i z110).f0 (l.getD i z110).f1 (l.getD i z110).f2 (l.getD i z110).f3.f0 (l.getD i z110).f3.f1 (l.getD i z110).f3.f2 = some (!putOk (l.getD i z110)) := by
    intro i hi
    unfold impl_DiskOk_1.f
    rw [implPut_eq _ (by have := hl.2 _ (getD_mem z110 hi); omega)]
    rfl
  have h := loop_find (fun k i => impl_Put_146.l0 k l (l.length : Int) i) l.length (fun i => !putOk (l.getD i z110)) (fun i => (i : Int)) (-1) (fun i hi hp => by
      refine Ev.step (fun k => rfl) (ev_pos (by omega) (ev_pos (by omega) (ev_pos (by omega) ?_)))
      simp only [rd_T110, Int.toNat_natCast]
      exact ev_then (one i hi) (ev_pos hp ev_some)) (fun i r hi hp h => by
      refine Ev.step (fun k => rfl) (ev_pos (by omega) (ev_pos (by omega) (ev_pos (by omega) ?_)))
      simp only [rd_T110, Int.toNat_natCast]
      refine ev_then (one i hi) (ev_neg (by rw [hp]; decide) ?_)
      rw [w64 (by have := hl.1; omega) (by have := hl.1; omega)]
      exact h) (Ev.step (fun k => rfl) (ev_neg (by omega) ev_some))
  unfold impl_Put_121.f impl_Put_146.f
  refine Ev.bind h (ev_eq ev_some ?_)
  unfold putsOk
  cases hf : (List.range l.length).find? (fun i => !putOk (l.getD i z110)) with
  | some i =>
    have h1 := List.find?_some hf
    have h2 := List.mem_of_find?_eq_some hf
    have h3 : (List.range l.length).all (fun i => putOk (l.getD i z110)) = false := by
      rw [List.all_eq_false]
      exact ⟨i, h2, by simpa using h1⟩
    rw [h3]
    exact decide_eq_true (Int.natCast_nonneg i)
  | none =>
    have h3 : (List.range l.length).all (fun i => putOk (l.getD i z110)) = true := by
      rw [List.all_eq_true]
      intro x hx
      have := List.find?_eq_none.1 hf x hx
      simpa using this
    rw [h3]
    rfl
theorem slot_yes {d : Int} (h : d = 0) : impl_Disk_slot.f d 0 = some () := if_pos (Or.inl ⟨h, rfl⟩)
theorem slot_no {d : Int} (h : ¬ d = 0) : impl_Disk_slot.f d 1 = some () := if_pos (Or.inr ⟨h, rfl⟩)
theorem implDiskOk_ev (a b : List Int) (c d e : Int) (l : List S110) (hl : PutsOk 4194304 l) : Ev (fun k => impl_DiskOk.f k a b c d e l) (diskOk a b c d e l) := by
  unfold impl_DiskOk.f
  by_cases h1 : (a.length : Int) > 240
  · exact ev_pos h1 (ev_eq ev_some (diskOk_false (by omega)))
  refine ev_neg h1 ?_
  by_cases h2 : (b.length : Int) > 240
  · exact ev_pos h2 (ev_eq ev_some (diskOk_false (by omega)))
  refine ev_neg h2 (ev_then (implRecord_eq c d e) ?_)
  by_cases h3 : recordOk c d e = true
  · refine ev_pos h3 ?_
    have puts : (a.length ≤ 240 ∧ b.length ≤ 240 ∧ l.length ≤ 200 ∧ e ≤ (slotOf a b d).length) → Ev (fun k => (impl_Put_121.f k l).bind fun t => some (!t)) (diskOk a b c d e l) :=
      fun h => Ev.bind (implPutsBad_ev l hl) (ev_eq ev_some (by rw [Bool.not_not]; exact diskOk_puts h h3))
    by_cases h4 : d = 0
    · have hs : slotOf a b d = a := if_pos h4
      refine ev_pos h4 (ev_then (slot_yes h4) ?_)
      by_cases h5 : e > (a.length : Int)
      · exact ev_pos h5 (ev_eq ev_some (diskOk_false (by rw [hs]; omega)))
      refine ev_neg h5 ?_
      by_cases h6 : (l.length : Int) ≤ 200
      · exact ev_pos h6 (puts (by rw [hs]; omega))
      · exact ev_neg h6 (ev_eq ev_some (diskOk_false (by omega)))
    · have hs : slotOf a b d = b := if_neg h4
      refine ev_neg h4 (ev_then (slot_no h4) ?_)
      by_cases h5 : e > (b.length : Int)
      · exact ev_pos h5 (ev_eq ev_some (diskOk_false (by rw [hs]; omega)))
      refine ev_neg h5 ?_
      by_cases h6 : (l.length : Int) ≤ 200
      · exact ev_pos h6 (puts (by rw [hs]; omega))
      · exact ev_neg h6 (ev_eq ev_some (diskOk_false (by omega)))
  · exact ev_neg h3 (ev_eq ev_some (diskOk_rec (by simpa using h3)))
end Go.Proofs.Ytlghklbjmmijpaa.Pb
/- One write laid on a disk: the program's and the reference's come to the same. No condition beyond the rows' lengths. -/
namespace Go.Proofs.Ytlghklbjmmijpaa.Pb
open Go.RowKit Go.Proofs.Ytlghklbjmmijpaa Go.Proofs.Ytlghklbjmmijpaa.Q Go.Proofs.YtlghklbjmmijpaaW.PrintWords Go.Proofs.YtlghklbjmmijpaaW.PrintLast
set_option linter.unusedVariables false
set_option linter.unusedSimpArgs false

/-- A row made as long as n at least. -/
def padTo (s : List Int) (n : Nat) : List Int := s ++ List.replicate (n - s.length) 0
theorem padTo_length (s : List Int) (n : Nat) : (padTo s n).length = max s.length n := by
  unfold padTo
  simp only [List.length_append, List.length_replicate]
  omega
theorem padTo_step {s : List Int} {n : Nat} (h : s.length < n) : padTo (s ++ [0]) n = padTo s n := by
  unfold padTo
  rw [List.append_assoc]
  congr 1
  simp only [List.length_append, List.length_cons, List.length_nil, List.singleton_append]
  rw [show n - s.length = (n - (s.length + 1)) + 1 by omega, List.replicate_succ]
theorem padTo_done {s : List Int} {n : Nat} (h : ¬ s.length < n) : padTo s n = s := by
  unfold padTo
  rw [show n - s.length = 0 by omega, List.replicate_zero, List.append_nil]
/-- b over s from a on. -/
def laid (s : List Int) (a : Nat) (b : List Int) : List Int := (padTo s (a + b.length)).take a ++ (b ++ (padTo s (a + b.length)).drop (a + b.length))
theorem laid_length (s : List Int) (a : Nat) (b : List Int) : (laid s a b).length = max s.length (a + b.length) := by
  unfold laid
  simp only [List.length_append, List.length_take, List.length_drop, padTo_length]
  omega
theorem implPad_ev (n : Nat) (hn : n ≤ 4194304) : ∀ (d : Nat) (s : List Int), n - s.length = d → Ev (fun k => impl_Disk_perform.l0 k s (n : Int)) (padTo s n) := by
  intro d
  induction d with
  | zero =>
    intro s h
    exact Ev.step (fun k => rfl) (ev_neg (by omega) (ev_eq ev_some (padTo_done (by omega)).symm))
  | succ d ih =>
    intro s h
    refine Ev.step (fun k => rfl) (ev_pos (by omega) (ev_pos (by omega) ?_))
    have := ih (s ++ [0]) (by simp only [List.length_append, List.length_cons, List.length_nil]; omega)
    rwa [padTo_step (by omega)] at this
theorem specLay1 (a : Nat) : ∀ (t pre u v : List Int), t.length ≤ v.length → u.length = a + pre.length → u.length + v.length ≤ 8388608 →
    Ev (fun k => spec_l9Lay.l1 k (a : Int) (pre ++ t) (u ++ v) (pre.length : Int)) (u ++ (t ++ v.drop t.length)) := by
  intro t
  induction t with
  | nil =>
    intro pre u v _ _ _
    exact Ev.step (fun k => rfl) (ev_neg (by simp) (ev_eq ev_some (by simp)))
  | cons c t ih =>
    intro pre u v hv hu hl
    cases v with
    | nil => simp only [List.length_nil, List.length_cons] at hv; omega
    | cons z v =>
      simp only [List.length_cons] at hv hl
      refine Ev.step (fun k => rfl) (ev_pos (by simp only [List.length_append, List.length_cons]; omega) (ev_pos (by omega) ?_))
      rw [w64 (x := (a : Int) + (pre.length : Int)) (by omega) (by omega), w64 (x := (pre.length : Int) + 1) (by omega) (by omega)]
      refine ev_pos (by omega) (ev_pos (by simp only [List.length_append, List.length_cons]; omega) ?_)
      have e1 : rd (pre ++ c :: t) (pre.length : Int) = c := by
        unfold rd
        rw [Int.toNat_natCast, List.getD_eq_getElem?_getD, List.getElem?_append_right (Nat.le_refl _), Nat.sub_self]
        rfl
      have e2 : (u ++ z :: v).set ((a : Int) + (pre.length : Int)).toNat c = u ++ c :: v := by
        rw [show ((a : Int) + (pre.length : Int)).toNat = u.length by omega, List.set_append_right (h := Nat.le_refl _), Nat.sub_self]
        rfl
      rw [e1, e2]
      have := ih (pre ++ [c]) (u ++ [c]) v (by omega) (by simp only [List.length_append, List.length_cons, List.length_nil]; omega) (by simp only [List.length_append, List.length_cons, List.length_nil]; omega)
      simp only [List.append_assoc, List.singleton_append, List.length_append, List.length_cons, List.length_nil] at this
      simpa using this
theorem specLay0 (a : Nat) (b : List Int) (hn : a + b.length ≤ 4194304) : ∀ (d : Nat) (s : List Int), (a + b.length) - s.length = d → s.length ≤ 4194304 → Ev (fun k => spec_l9Lay.l0 k (a : Int) b s) (laid s a b) := by
  intro d
  induction d with
  | zero =>
    intro s h hs
    refine Ev.step (fun k => rfl) ?_
    have hw := w64 (x := (a : Int) + (b.length : Int)) (by omega) (by omega)
    refine ev_neg (by rw [hw]; omega) ?_
    have := specLay1 a b [] (s.take a) (s.drop a) (by simp only [List.length_drop]; omega) (by simp only [List.length_take, List.length_nil]; omega) (by simp only [List.length_take, List.length_drop]; omega)
    rw [List.take_append_drop, List.drop_drop] at this
    unfold laid
    rw [padTo_done (by omega)]
    exact this
  | succ d ih =>
    intro s h hs
    refine Ev.step (fun k => rfl) ?_
    have hw := w64 (x := (a : Int) + (b.length : Int)) (by omega) (by omega)
    refine ev_pos (by rw [hw]; omega) (ev_pos (by omega) ?_)
    have := ih (s ++ [0]) (by simp only [List.length_append, List.length_cons, List.length_nil]; omega) (by simp only [List.length_append, List.length_cons, List.length_nil]; omega)
    unfold laid at this ⊢
    rwa [padTo_step (by omega)] at this
theorem specLay_ev (s : List Int) (a : Int) (b : List Int) (h0 : 0 ≤ a) (hn : a + b.length ≤ 4194304) (hs : s.length ≤ 4194304) : Ev (fun k => spec_l9Lay.f k s a b) (laid s a.toNat b) := by
  unfold spec_l9Lay.f
  refine ev_then rfl (ev_pos (by simp only [List.length_nil]; omega) ?_)
  have := specLay0 a.toNat b (by omega) _ s rfl hs
  rwa [Int.toNat_of_nonneg h0] at this
theorem implLay_ev (s : List Int) (a : Int) (b : List Int) (h0 : 0 ≤ a) (hn : a + b.length ≤ 4194304) : Ev (fun k => (impl_Disk_perform.l0 k s (wrap64 (a + b.length))).bind fun x => cut_ x a b) (laid s a.toNat b) := by
  rw [w64 (by omega) (by omega)]
  have h := implPad_ev (a.toNat + b.length) (by omega) _ s rfl
  rw [show (((a.toNat + b.length : Nat)) : Int) = a + b.length by omega] at h
  refine Ev.bind h (ev_of ?_)
  have hl := padTo_length s (a.toNat + b.length)
  unfold cut_
  rw [if_pos (by omega)]
  unfold laid
  rw [List.append_assoc]
theorem putOk_at {p : S110} (h : putOk p = true) (h2 : ¬ p.f0 = 2) : 0 ≤ p.f0 ∧ p.f0 ≤ 1 ∧ 0 ≤ p.f1 ∧ p.f1 + p.f2.length ≤ 240 := by
  unfold putOk at h
  rw [if_neg h2] at h
  have := of_decide_eq_true h
  exact ⟨this.1, this.2.1, this.2.2.1, this.2.2.2.1⟩
/-- What a good write makes of a disk's slots and record. -/
def done (a b : List Int) (c d e : Int) (p : S110) : List Int × List Int × Int × Int × Int :=
  if p.f0 = 2 then (a, b, p.f3.f0, p.f3.f1, p.f3.f2) else if p.f0 = 0 then (laid a p.f1.toNat p.f2, b, c, d, e) else (a, laid b p.f1.toNat p.f2, c, d, e)
theorem done_len {a b : List Int} {c d e : Int} {p : S110} {n : Nat} (hp : putOk p = true) (ha : a.length ≤ n) (hb : b.length ≤ n) (hn : 240 ≤ n) : (done a b c d e p).1.length ≤ n ∧ (done a b c d e p).2.1.length ≤ n := by
  unfold done
  by_cases h2 : p.f0 = 2
  · rw [if_pos h2]; exact ⟨ha, hb⟩
  rw [if_neg h2]
  have := putOk_at hp h2
  split
  · exact ⟨by simp only [laid_length]; omega, hb⟩
  · exact ⟨ha, by simp only [laid_length]; omega⟩
def onePut (a b : List Int) (c d e : Int) (l : List S110) (p : S110) : List Int × List Int × Int × Int × Int × List S110 :=
  if putOk p = true then ((done a b c d e p).1, (done a b c d e p).2.1, (done a b c d e p).2.2.1, (done a b c d e p).2.2.2.1, (done a b c d e p).2.2.2.2, l) else (a, b, c, d, e, l)
theorem implPerform_ev (a b : List Int) (c d e : Int) (p : S110) (hp : putOk p = true) : Ev (fun k => impl_Disk_perform.f k a b c d e p.f0 p.f1 p.f2 p.f3.f0 p.f3.f1 p.f3.f2) (done a b c d e p) := by
  unfold impl_Disk_perform.f done
  by_cases h2 : p.f0 = 2
  · exact ev_pos h2 (ev_eq ev_some (by rw [if_pos h2]))
  have h := putOk_at hp h2
  refine ev_neg h2 ?_
  rw [if_neg h2]
  by_cases h0 : p.f0 = 0
  · refine ev_pos h0 ?_
    rw [if_pos h0]
    have q := implLay_ev a p.f1 p.f2 h.2.2.1 (by omega)
    refine Ev.congr (fun k => ?_) (Ev.bind (f := fun _ y => some (y, b, c, d, e)) q ev_some)
    exact (Option.bind_assoc ..).symm
  · refine ev_neg h0 ?_
    rw [if_neg h0]
    have q := implLay_ev b p.f1 p.f2 h.2.2.1 (by omega)
    refine Ev.congr (fun k => ?_) (Ev.bind (f := fun _ y => some (a, y, c, d, e)) q ev_some)
    exact (Option.bind_assoc ..).symm
theorem specOnePut_ev (a b : List Int) (c d e : Int) (l : List S110) (p : S110) (ha : a.length ≤ 4194304) (hb : b.length ≤ 4194304) (hl : PutsOk 4194304 l) (hp : p.f2.length ≤ 4194304) :
    Ev (fun k => spec_OnePut.f k a b c d e l p.f0 p.f1 p.f2 p.f3.f0 p.f3.f1 p.f3.f2) (onePut a b c d e l p) := by
  unfold spec_OnePut.f onePut
  refine Ev.bind (specCopy_ev a b c d e l ha hb hl) (ev_then (specPut_eq p (by omega)) (ev_if (fun h => ?_) (fun h => ev_eq ev_some (by rw [if_neg h]))))
  rw [if_pos h]
  unfold done
  by_cases h2 : p.f0 = 2
  · rw [if_pos h2]
    exact ev_neg (by omega) (ev_neg (by omega) ev_some)
  rw [if_neg h2]
  have q := putOk_at h h2
  by_cases h0 : p.f0 = 0
  · rw [if_pos h0]
    exact ev_pos h0 (Ev.bind (specLay_ev a p.f1 p.f2 q.2.2.1 (by omega) ha) ev_some)
  · rw [if_neg h0]
    exact ev_neg h0 (ev_pos (by omega) (Ev.bind (specLay_ev b p.f1 p.f2 q.2.2.1 (by omega) hb) ev_some))
theorem onePut_len (a b : List Int) (c d e : Int) (l : List S110) (p : S110) {n : Nat} (ha : a.length ≤ n) (hb : b.length ≤ n) (hl : PutsOk n l) (hn : 240 ≤ n) : (onePut a b c d e l p).1.length ≤ n ∧ (onePut a b c d e l p).2.1.length ≤ n ∧ PutsOk n (onePut a b c d e l p).2.2.2.2.2 := by
  unfold onePut
  split
  · rename_i h
    have := done_len (c := c) (d := d) (e := e) h ha hb hn
    exact ⟨this.1, this.2, hl⟩
  · exact ⟨ha, hb, hl⟩
end Go.Proofs.Ytlghklbjmmijpaa.Pb
/- The writes of a disk made durable, those that are kept. No condition beyond the rows' lengths. -/
namespace Go.Proofs.Ytlghklbjmmijpaa.Pb
open Go.RowKit Go.Proofs.Ytlghklbjmmijpaa Go.Proofs.Ytlghklbjmmijpaa.Q Go.Proofs.YtlghklbjmmijpaaW.PrintWords Go.Proofs.YtlghklbjmmijpaaW.PrintLast
set_option linter.unusedVariables false
set_option linter.unusedSimpArgs false

abbrev Dsk5 : Type := List Int × List Int × Int × Int × Int
def step5 (q : Bool) (s : Dsk5) (p : S110) : Dsk5 := if q = true then done s.1 s.2.1 s.2.2.1 s.2.2.2.1 s.2.2.2.2 p else s
def settleL (keep : Int → Bool) : List S110 → Int → Dsk5 → Dsk5
  | [], _, s => s
  | p :: t, i, s => settleL keep t (i + 1) (step5 (keep i) s p)
def settle (keep : Int → Bool) (a b : List Int) (c d e : Int) (l : List S110) : List Int × List Int × Int × Int × Int × List S110 :=
  if diskOk a b c d e l = true then ((settleL keep l 0 (a, b, c, d, e)).1, (settleL keep l 0 (a, b, c, d, e)).2.1, (settleL keep l 0 (a, b, c, d, e)).2.2.1, (settleL keep l 0 (a, b, c, d, e)).2.2.2.1, (settleL keep l 0 (a, b, c, d, e)).2.2.2.2, []) else (a, b, c, d, e, l)
theorem diskOk_all {a b : List Int} {c d e : Int} {l : List S110} (h : diskOk a b c d e l = true) : ∀ p ∈ l, putOk p = true := by
  unfold diskOk at h
  rw [Bool.and_eq_true, Bool.and_eq_true] at h
  have h3 := h.2.2
  unfold putsOk at h3
  rw [List.all_eq_true] at h3
  intro p hp
  obtain ⟨i, hi, rfl⟩ := List.getElem_of_mem hp
  have := h3 i (List.mem_range.2 hi)
  rwa [List.getD_eq_getElem?_getD, List.getElem?_eq_getElem hi] at this
theorem step5_len {q : Bool} {s : Dsk5} {p : S110} {n : Nat} (hp : putOk p = true) (ha : s.1.length ≤ n) (hb : s.2.1.length ≤ n) (hn : 240 ≤ n) : (step5 q s p).1.length ≤ n ∧ (step5 q s p).2.1.length ≤ n := by
  unfold step5
  split
  · exact done_len hp ha hb hn
  · exact ⟨ha, hb⟩
theorem settleL_len {n : Nat} (hn : 240 ≤ n) (keep : Int → Bool) : ∀ (t : List S110) (i : Int) (s : Dsk5), (∀ p ∈ t, putOk p = true) → s.1.length ≤ n → s.2.1.length ≤ n → (settleL keep t i s).1.length ≤ n ∧ (settleL keep t i s).2.1.length ≤ n
  | [], _, _, _, ha, hb => ⟨ha, hb⟩
  | p :: t, i, s, h, ha, hb => by
    have q := step5_len (q := keep i) (h p (List.mem_cons_self ..)) ha hb hn
    exact settleL_len hn keep t (i + 1) _ (fun x hx => h x (List.mem_cons_of_mem _ hx)) q.1 q.2
theorem settle_len (keep : Int → Bool) (a b : List Int) (c d e : Int) (l : List S110) {n : Nat} (ha : a.length ≤ n) (hb : b.length ≤ n) (hl : PutsOk n l) (hn : 240 ≤ n) : (settle keep a b c d e l).1.length ≤ n ∧ (settle keep a b c d e l).2.1.length ≤ n ∧ PutsOk n (settle keep a b c d e l).2.2.2.2.2 := by
  unfold settle
  split
  · rename_i h
    have q := settleL_len hn keep l 0 (a, b, c, d, e) (diskOk_all h) ha hb
    exact ⟨q.1, q.2, ⟨Nat.zero_le _, fun p hp => by cases hp⟩⟩
  · exact ⟨ha, hb, hl⟩
theorem implSettled_key (keepI : Nat → Int → Option Bool) (keep : Int → Bool) (hk : ∀ i, Ev (fun k => keepI k i) (keep i)) : ∀ (t pre : List S110) (s : Dsk5), (∀ p ∈ t, putOk p = true) → pre.length + t.length ≤ 4194304 →
    Ev (fun k => impl_Disk_settled.l0 k keepI (pre ++ t) (pre.length : Int) s.1 s.2.1 s.2.2.1 s.2.2.2.1 s.2.2.2.2) (settleL keep t (pre.length : Int) s) := by
  intro t
  induction t with
  | nil =>
    intro pre s _ _
    exact Ev.step (fun k => rfl) (ev_neg (by simp) (ev_eq ev_some rfl))
  | cons p t ih =>
    intro pre s hp hl
    simp only [List.length_cons] at hl
    refine Ev.step (fun k => rfl) (ev_pos (by simp only [List.length_append, List.length_cons]; omega) (ev_pos (by omega) ?_))
    simp only [rd_midp]
    have next := ih (pre ++ [p]) (step5 (keep (pre.length : Int)) s p) (fun q hq => hp q (List.mem_cons_of_mem _ hq)) (by simp only [List.length_append, List.length_cons, List.length_nil]; omega)
    simp only [List.append_assoc, List.singleton_append, List.length_append, List.length_cons, List.length_nil] at next
    rw [w64 (x := (pre.length : Int) + 1) (by omega) (by omega)]
    refine Ev.bind (hk _) ?_
    unfold settleL
    cases hq : keep (pre.length : Int) with
    | true =>
      rw [hq] at next
      exact ev_true (Ev.bind (implPerform_ev s.1 s.2.1 s.2.2.1 s.2.2.2.1 s.2.2.2.2 p (hp p (List.mem_cons_self ..))) next)
    | false =>
      rw [hq] at next
      exact ev_false next
theorem implSettled_ev (keepI : Nat → Int → Option Bool) (keep : Int → Bool) (hk : ∀ i, Ev (fun k => keepI k i) (keep i)) (a b : List Int) (c d e : Int) (l : List S110) (ha : a.length ≤ 4194304) (hb : b.length ≤ 4194304) (hl : PutsOk 4194304 l) : Ev (fun k => impl_Disk_settled.f k keepI a b c d e l) (settle keep a b c d e l) := by
  unfold impl_Disk_settled.f settle
  refine Ev.bind (implCopy_ev a b c d e l ha hb hl) (Ev.bind (implDiskOk_ev a b c d e l hl) (ev_if (fun h => ?_) (fun h => ev_eq ev_some (by rw [if_neg h]))))
  rw [if_pos h]
  exact Ev.bind (implSettled_key keepI keep hk l [] (a, b, c, d, e) (diskOk_all h) (by simpa using hl.1)) ev_some
end Go.Proofs.Ytlghklbjmmijpaa.Pb
/- Whether a number is a set of blocks. No condition. -/
namespace Go.Proofs.Ytlghklbjmmijpaa.Pb
open Go.RowKit Go.Proofs.Ytlghklbjmmijpaa Go.Proofs.Ytlghklbjmmijpaa.Q Go.Proofs.YtlghklbjmmijpaaW.PrintWords Go.Proofs.YtlghklbjmmijpaaW.PrintLast
set_option linter.unusedVariables false
set_option linter.unusedSimpArgs false

/-- A set of blocks. -/
def setOk (s : Int) : Bool := decide (0 ≤ s ∧ s ≤ 1099511627775)
theorem specSetOk_eq (s : Int) : spec_SetOk.f s = some (setOk s) := by
  unfold spec_SetOk.f
  rw [l1In_eq]
  rfl
theorem implSetOk_eq (s : Int) : impl_SetOk.f s = some (setOk s) := by
  unfold impl_SetOk.f
  rw [within_eq]
  rfl
end Go.Proofs.Ytlghklbjmmijpaa.Pb
/- The reference's Fall: those writes made durable that a set names. No condition beyond the rows' lengths. -/
namespace Go.Proofs.Ytlghklbjmmijpaa.Pb
open Go.RowKit Go.Proofs.Ytlghklbjmmijpaa Go.Proofs.Ytlghklbjmmijpaa.Q Go.Proofs.YtlghklbjmmijpaaW.PrintWords Go.Proofs.YtlghklbjmmijpaaW.PrintLast
set_option linter.unusedVariables false
set_option linter.unusedSimpArgs false

def inSet (s i : Int) : Bool := if setOk s = true then (if 0 ≤ i ∧ i ≤ 39 then (Go.bits .and .i64 (shr .i64 s i) 1) == 1 else false) else false
theorem specInSet_eq (s i : Int) : spec_InSet.f s i = some (inSet s i) := by
  unfold spec_InSet.f inSet
  rw [specSetOk_eq, l1In_eq]
  simp only [Option.bind_some]
  by_cases h : setOk s = true
  · rw [if_pos h, if_pos h]
    by_cases h2 : 0 ≤ i ∧ i ≤ 39
    · rw [if_pos (decide_eq_true h2), if_pos h2, if_pos h2.1]
    · rw [if_neg (not_dec h2), if_neg h2]
  · rw [if_neg h, if_neg h]
theorem implInSet_eq (s i : Int) : impl_InSet.f s i = some (inSet s i) := by
  unfold impl_InSet.f inSet impl_isPlace.f
  rw [implSetOk_eq, within_eq]
  simp only [Option.bind_some]
  by_cases h : setOk s = true
  · rw [if_pos h, if_pos h]
    by_cases h2 : 0 ≤ i ∧ i ≤ 39
    · rw [if_pos (decide_eq_true h2), if_pos h2, if_pos h2.1]
    · rw [if_neg (not_dec h2), if_neg h2]
  · rw [if_neg h, if_neg h]
theorem specFall_key (x : Int) (A B : List Int) (C D E : Int) (L : List S110) (hL : PutsOk 4194304 L) : ∀ (t pre : List S110) (s : Dsk5), (∀ p ∈ t, putOk p = true ∧ p.f2.length ≤ 4194304) → pre.length + t.length ≤ 4194304 → s.1.length ≤ 4194304 → s.2.1.length ≤ 4194304 →
    Ev (fun k => spec_Fall.l0 k x (pre.length : Int) A B C D E (pre ++ t) s.1 s.2.1 s.2.2.1 s.2.2.2.1 s.2.2.2.2 L) ((settleL (inSet x) t (pre.length : Int) s).1, (settleL (inSet x) t (pre.length : Int) s).2.1, (settleL (inSet x) t (pre.length : Int) s).2.2.1, (settleL (inSet x) t (pre.length : Int) s).2.2.2.1, (settleL (inSet x) t (pre.length : Int) s).2.2.2.2, []) := by
  intro t
  induction t with
  | nil =>
    intro pre s _ _ _ _
    exact Ev.step (fun k => rfl) (ev_neg (by simp) (ev_eq ev_some rfl))
  | cons p t ih =>
    intro pre s hp hl ha hb
    simp only [List.length_cons] at hl
    have h0 := hp p (List.mem_cons_self ..)
    refine Ev.step (fun k => rfl) (ev_pos (by simp only [List.length_append, List.length_cons]; omega) ?_)
    simp only [rd_midp]
    rw [w64 (x := (pre.length : Int) + 1) (by omega) (by omega)]
    have q := step5_len (q := inSet x (pre.length : Int)) (s := s) h0.1 ha hb (by omega)
    have next := ih (pre ++ [p]) (step5 (inSet x (pre.length : Int)) s p) (fun q hq => hp q (List.mem_cons_of_mem _ hq)) (by simp only [List.length_append, List.length_cons, List.length_nil]; omega) q.1 q.2
    simp only [List.append_assoc, List.singleton_append, List.length_append, List.length_cons, List.length_nil] at next
    refine ev_then (specInSet_eq x _) ?_
    unfold settleL
    cases hq : inSet x (pre.length : Int) with
    | true =>
      rw [hq] at next
      refine ev_true (ev_pos (by omega) (Ev.bind (specOnePut_ev s.1 s.2.1 s.2.2.1 s.2.2.2.1 s.2.2.2.2 L p ha hb hL h0.2) ?_))
      unfold onePut
      rw [if_pos h0.1]
      exact next
    | false =>
      rw [hq] at next
      exact ev_false next
def fall (a b : List Int) (c d e : Int) (l : List S110) (x : Int) : List Int × List Int × Int × Int × Int × List S110 := settle (inSet x) a b c d e l
theorem specFall_ev (a b : List Int) (c d e : Int) (l : List S110) (x : Int) (ha : a.length ≤ 4194304) (hb : b.length ≤ 4194304) (hl : PutsOk 4194304 l) : Ev (fun k => spec_Fall.f k a b c d e l x) (fall a b c d e l x) := by
  unfold spec_Fall.f fall settle
  refine Ev.bind (specCopy_ev a b c d e l ha hb hl) (Ev.bind (specDiskOk_ev a b c d e l hl) (ev_if (fun h => ?_) (fun h => ev_eq ev_some (by rw [if_neg h]))))
  rw [if_pos h]
  exact specFall_key x a b c d e l hl l [] (a, b, c, d, e) (fun p hp => ⟨diskOk_all h p hp, hl.2 p hp⟩) (by simpa using hl.1) ha hb
theorem implFall_ev (a b : List Int) (c d e : Int) (l : List S110) (x : Int) (ha : a.length ≤ 4194304) (hb : b.length ≤ 4194304) (hl : PutsOk 4194304 l) : Ev (fun k => impl_Fall.f k a b c d e l x) (fall a b c d e l x) := by
  unfold impl_Fall.f fall
  exact implSettled_ev (fun _ i => impl_InSet.f x i) (inSet x) (fun i => ev_of (implInSet_eq x i)) a b c d e l ha hb hl
end Go.Proofs.Ytlghklbjmmijpaa.Pb
/- What a disk holds: its record's bytes out of its slot. No condition beyond the rows' lengths. -/
namespace Go.Proofs.Ytlghklbjmmijpaa.Pb
open Go.RowKit Go.Proofs.Ytlghklbjmmijpaa Go.Proofs.Ytlghklbjmmijpaa.Q Go.Proofs.YtlghklbjmmijpaaW.PrintWords Go.Proofs.YtlghklbjmmijpaaW.PrintLast
set_option linter.unusedVariables false
set_option linter.unusedSimpArgs false

def recover (a b : List Int) (c d e : Int) (l : List S110) : Int × List Int := if diskOk a b c d e l = true then (c, (slotOf a b d).take e.toNat) else (0, [])
theorem diskOk_parts {a b : List Int} {c d e : Int} {l : List S110} (h : diskOk a b c d e l = true) : (a.length ≤ 240 ∧ b.length ≤ 240 ∧ l.length ≤ 200 ∧ e ≤ (slotOf a b d).length) ∧ recordOk c d e = true := by
  unfold diskOk at h
  rw [Bool.and_eq_true, Bool.and_eq_true, decide_eq_true_eq] at h
  exact ⟨h.1, h.2.1⟩
theorem specRecover_ev (a b : List Int) (c d e : Int) (l : List S110) (hl : PutsOk 1048576 l) : Ev (fun k => spec_Recover.f k a b c d e l) (recover a b c d e l) := by
  unfold spec_Recover.f recover
  refine Ev.bind (specDiskOk_ev a b c d e l (putsOk_le (by omega) hl)) (ev_if (fun h => ?_) (fun h => ev_eq ev_some (by rw [if_neg h])))
  obtain ⟨h1, h2⟩ := diskOk_parts h
  have h3 := of_decide_eq_true h2
  rw [if_pos h]
  refine ev_then rfl ?_
  by_cases q : d = 1
  · have hs : slotOf a b d = b := slotOf_one q
    rw [hs] at h1 ⊢
    refine ev_pos q (ev_then (lslot_yes q) (ev_pos h3.2.2.2.2.1 (ev_pos h1.2.2.2 (ev_pos ?_ ev_some))))
    simp only [List.length_nil, List.length_take]
    omega
  · have hs : slotOf a b d = a := slotOf_other h2 q
    rw [hs] at h1 ⊢
    refine ev_neg q (ev_then (lslot_no q) (ev_pos h3.2.2.2.2.1 (ev_pos h1.2.2.2 (ev_pos ?_ ev_some))))
    simp only [List.length_nil, List.length_take]
    omega
theorem implRecover_ev (a b : List Int) (c d e : Int) (l : List S110) (hl : PutsOk 1048576 l) : Ev (fun k => impl_Recover.f k a b c d e l) (recover a b c d e l) := by
  unfold impl_Recover.f recover
  refine Ev.bind (implDiskOk_ev a b c d e l (putsOk_le (by omega) hl)) (ev_if (fun h => ?_) (fun h => ev_eq ev_some (by rw [if_neg h])))
  obtain ⟨h1, h2⟩ := diskOk_parts h
  have h3 := of_decide_eq_true h2
  rw [if_pos h]
  have cl : ∀ n : List Int, n.length ≤ 240 → impl_cloned.f (n.take e.toNat) = some (n.take e.toNat) := by
    intro n hn
    unfold impl_cloned.f
    exact if_pos (by rw [List.length_take]; omega)
  by_cases q : d = 0
  · have hs : slotOf a b d = a := if_pos q
    rw [hs] at h1 ⊢
    exact ev_pos q (ev_then (slot_yes q) (ev_pos h3.2.2.2.2.1 (ev_pos h1.2.2.2 (ev_then (cl a h1.1) ev_some))))
  · have hs : slotOf a b d = b := if_neg q
    rw [hs] at h1 ⊢
    exact ev_neg q (ev_then (slot_no q) (ev_pos h3.2.2.2.2.1 (ev_pos h1.2.2.2 (ev_then (cl b h1.2.1) ev_some))))
def sameB (x y : List Int) : Bool := (strOfNums x).toList == (strOfNums y).toList
def holds (a b : List Int) (c d e : Int) (l : List S110) (g : Int) (x : List Int) : Bool := if (recover a b c d e l).1 = g then sameB (recover a b c d e l).2 x else false
theorem specHolds_ev (a b : List Int) (c d e : Int) (l : List S110) (g : Int) (x : List Int) (hl : PutsOk 1048576 l) : Ev (fun k => spec_Holds.f k a b c d e l g x) (holds a b c d e l g x) := by
  unfold spec_Holds.f holds
  exact Ev.bind (specRecover_ev a b c d e l hl) (ev_if (fun h => ev_then rfl (ev_eq ev_some (by rw [if_pos h]; rfl))) (fun h => ev_eq ev_some (by rw [if_neg h])))
theorem implHolds_ev (a b : List Int) (c d e : Int) (l : List S110) (g : Int) (x : List Int) (hl : PutsOk 1048576 l) : Ev (fun k => impl_Holds.f k a b c d e l g x) (holds a b c d e l g x) := by
  unfold impl_Holds.f holds
  exact Ev.bind (implRecover_ev a b c d e l hl) (ev_if (fun h => ev_then rfl (ev_eq ev_some (by rw [if_pos h]; rfl))) (fun h => ev_eq ev_some (by rw [if_neg h])))
end Go.Proofs.Ytlghklbjmmijpaa.Pb
/- Whether a disk holds one of two images. No condition beyond the rows' lengths. -/
namespace Go.Proofs.Ytlghklbjmmijpaa.Pb
open Go.RowKit Go.Proofs.Ytlghklbjmmijpaa Go.Proofs.Ytlghklbjmmijpaa.Q Go.Proofs.YtlghklbjmmijpaaW.PrintWords Go.Proofs.YtlghklbjmmijpaaW.PrintLast
set_option linter.unusedVariables false
set_option linter.unusedSimpArgs false

def holdsAny (a b : List Int) (c d e : Int) (l : List S110) (x : List Int) (g : Int) (y : List Int) : Bool := if holds a b c d e l 0 x = true then true else holds a b c d e l g y
theorem specHoldsAny_ev (a b : List Int) (c d e : Int) (l : List S110) (x : List Int) (g : Int) (y : List Int) (hl : PutsOk 1048576 l) : Ev (fun k => spec_HoldsAny.f k a b c d e l x g y) (holdsAny a b c d e l x g y) := by
  unfold spec_HoldsAny.f holdsAny
  exact Ev.bind (specHolds_ev _ _ _ _ _ _ _ _ hl) (ev_if (fun h => ev_eq ev_some (by rw [if_pos h])) (fun h => Ev.bind (specHolds_ev _ _ _ _ _ _ _ _ hl) (ev_eq ev_some (by rw [if_neg h]))))
theorem implHoldsAny_ev (a b : List Int) (c d e : Int) (l : List S110) (x : List Int) (g : Int) (y : List Int) (hl : PutsOk 1048576 l) : Ev (fun k => impl_HoldsAny.f k a b c d e l x g y) (holdsAny a b c d e l x g y) := by
  unfold impl_HoldsAny.f holdsAny
  exact Ev.bind (implHolds_ev _ _ _ _ _ _ _ _ hl) (ev_if (fun h => ev_eq ev_some (by rw [if_pos h])) (fun h => Ev.bind (implHolds_ev _ _ _ _ _ _ _ _ hl) (ev_eq ev_some (by rw [if_neg h]))))
end Go.Proofs.Ytlghklbjmmijpaa.Pb
/- All crashes of a disk, and whether it is safe behind each. No condition beyond the rows' lengths. -/
namespace Go.Proofs.Ytlghklbjmmijpaa.Pb
open Go.RowKit Go.Proofs.Ytlghklbjmmijpaa Go.Proofs.Ytlghklbjmmijpaa.Q Go.Proofs.YtlghklbjmmijpaaW.PrintWords Go.Proofs.YtlghklbjmmijpaaW.PrintLast
set_option linter.unusedVariables false
set_option linter.unusedSimpArgs false

def asDisk (z : List Int × List Int × Int × Int × Int × List S110) : S33 := ⟨z.1, z.2.1, ⟨z.2.2.1, z.2.2.2.1, z.2.2.2.2.1⟩, z.2.2.2.2.2⟩
def fallD (a b : List Int) (c d e : Int) (l : List S110) (i : Nat) : S33 := asDisk (fall a b c d e l (i : Int))
def nFalls (l : List S110) : Nat := 2 ^ (min 6 l.length)
def allFalls (a b : List Int) (c d e : Int) (l : List S110) : List S33 := (List.range' 0 (nFalls l)).map (fallD a b c d e l)
theorem nFalls_le (l : List S110) : nFalls l ≤ 64 := Nat.pow_le_pow_right (by decide) (Nat.min_le_left 6 l.length)
theorem shl_small : ∀ m : Nat, m ≤ 6 → shl .i64 1 (m : Int) = ((2 ^ m : Nat) : Int) := by decide
theorem pow_small (m : Nat) (hm : m ≤ 6) : wrap64 ((2 : Int) ^ m) = ((2 ^ m : Nat) : Int) := by
  have h : ((2 : Int) ^ m) = ((2 ^ m : Nat) : Int) := by simp
  have h2 : 2 ^ m ≤ 2 ^ 6 := Nat.pow_le_pow_right (by decide) hm
  rw [h]
  generalize 2 ^ m = p at h2 ⊢
  exact w64 (by omega) (by omega)
theorem specFalls_key (a b : List Int) (c d e : Int) (l : List S110) (ha : a.length ≤ 4194304) (hb : b.length ≤ 4194304) (hl : PutsOk 4194304 l) : ∀ (r i : Nat) (x : List S33), i + r = nFalls l → x.length = i →
    Ev (fun k => spec_AllFalls.l0 k x ((min 6 l.length : Nat) : Int) (i : Int) a b c d e l) (x ++ (List.range' i r).map (fallD a b c d e l)) := by
  intro r
  have hn := nFalls_le l
  have hs := shl_small (min 6 l.length) (Nat.min_le_left _ _)
  induction r with
  | zero =>
    intro i x hi hx
    refine Ev.step (fun k => rfl) (ev_pos (by omega) ?_)
    rw [hs]
    refine ev_neg (by unfold nFalls at hi; omega) (ev_eq ev_some (by simp))
  | succ r ih =>
    intro i x hi hx
    refine Ev.step (fun k => rfl) (ev_pos (by omega) ?_)
    rw [hs]
    refine ev_pos (by unfold nFalls at hi; omega) (Ev.bind (specFall_ev a b c d e l i ha hb hl) (ev_pos (by omega) ?_))
    rw [w64 (x := (i : Int) + 1) (by omega) (by omega)]
    have := ih (i + 1) (x ++ [fallD a b c d e l i]) (by omega) (by simp [hx])
    rw [List.range'_succ, List.map_cons]
    simp only [List.append_assoc, List.singleton_append] at this
    exact this
theorem specFalls_ev (a b : List Int) (c d e : Int) (l : List S110) (ha : a.length ≤ 4194304) (hb : b.length ≤ 4194304) (hl : PutsOk 4194304 l) : Ev (fun k => spec_AllFalls.f k a b c d e l) (allFalls a b c d e l) := by
  unfold spec_AllFalls.f
  have e1 : spec_Least.f (l.length : Int) 6 = some ((min 6 l.length : Nat) : Int) := by
    unfold spec_Least.f
    split <;> (congr 1; omega)
  exact ev_then e1 (specFalls_key a b c d e l ha hb hl (nFalls l) 0 [] (by omega) rfl)
theorem implFalls_key (a b : List Int) (c d e : Int) (l : List S110) (ha : a.length ≤ 4194304) (hb : b.length ≤ 4194304) (hl : PutsOk 4194304 l) : ∀ (r i : Nat) (x : List S33), i + r = nFalls l → x.length = i →
    Ev (fun k => impl_AllFalls.l0 k x (nFalls l : Int) (i : Int) a b c d e l) (x ++ (List.range' i r).map (fallD a b c d e l)) := by
  intro r
  have hn := nFalls_le l
  induction r with
  | zero =>
    intro i x hi hx
    exact Ev.step (fun k => rfl) (ev_neg (by omega) (ev_eq ev_some (by simp)))
  | succ r ih =>
    intro i x hi hx
    refine Ev.step (fun k => rfl) (ev_pos (by omega) (Ev.bind (implFall_ev a b c d e l i ha hb hl) (ev_pos (by omega) ?_)))
    rw [w64 (x := (i : Int) + 1) (by omega) (by omega)]
    have := ih (i + 1) (x ++ [fallD a b c d e l i]) (by omega) (by simp [hx])
    rw [List.range'_succ, List.map_cons]
    simp only [List.append_assoc, List.singleton_append] at this
    exact this
theorem implFalls_ev (a b : List Int) (c d e : Int) (l : List S110) (ha : a.length ≤ 4194304) (hb : b.length ≤ 4194304) (hl : PutsOk 4194304 l) : Ev (fun k => impl_AllFalls.f k a b c d e l) (allFalls a b c d e l) := by
  unfold impl_AllFalls.f
  have e1 : (mn 6 (l.length : Int)).toNat = min 6 l.length := by
    unfold mn
    split <;> omega
  rw [e1, pow_small (min 6 l.length) (Nat.min_le_left _ _)]
  exact implFalls_key a b c d e l ha hb hl (nFalls l) 0 [] (by omega) rfl
/-- Disks whose rows are few. -/
def DiskSmall (n : Nat) (x : S33) : Prop := x.f0.length ≤ n ∧ x.f1.length ≤ n ∧ PutsOk n x.f3
theorem allFalls_small (a b : List Int) (c d e : Int) (l : List S110) {n : Nat} (ha : a.length ≤ n) (hb : b.length ≤ n) (hl : PutsOk n l) (hn : 240 ≤ n) : ∀ x ∈ allFalls a b c d e l, DiskSmall n x := by
  intro x hx
  obtain ⟨i, _, rfl⟩ := List.mem_map.1 hx
  exact settle_len (inSet (i : Int)) a b c d e l ha hb hl hn
def holdsD (x : S33) (u : List Int) (g : Int) (v : List Int) : Bool := holdsAny x.f0 x.f1 x.f2.f0 x.f2.f1 x.f2.f2 x.f3 u g v
def safeFall (a b : List Int) (c d e : Int) (l : List S110) (u : List Int) (g : Int) (v : List Int) : Bool := if holdsAny a b c d e l u g v = true then (allFalls a b c d e l).all (fun x => holdsD x u g v) else false
theorem rd_midD (pre : List S33) (p : S33) (t : List S33) : rd_T33 (pre ++ p :: t) (pre.length : Int) = p := by
  simp only [rd_T33, Int.toNat_natCast, List.getD_eq_getElem?_getD]
  rw [List.getElem?_append_right (Nat.le_refl _), Nat.sub_self]
  rfl
theorem specSafe_key (a b : List Int) (c d e : Int) (l : List S110) (u : List Int) (g : Int) (v : List Int) (hl : PutsOk 1048576 l) : ∀ (t pre : List S33), (∀ x ∈ t, DiskSmall 1048576 x) → pre.length + t.length ≤ 4096 →
    Ev (fun k => spec_SafeFall.l0 k u g v (pre ++ t) (pre.length : Int) a b c d e l) (if t.all (fun x => holdsD x u g v) = true then holdsAny a b c d e l u g v else false) := by
  intro t
  induction t with
  | nil =>
    intro pre _ _
    exact Ev.step (fun k => rfl) (ev_neg (by simp) (Ev.bind (specHoldsAny_ev a b c d e l u g v hl) (ev_eq ev_some (by simp))))
  | cons x t ih =>
    intro pre hx hn
    simp only [List.length_cons] at hn
    have h0 := hx x (List.mem_cons_self ..)
    refine Ev.step (fun k => rfl) (ev_pos (by simp only [List.length_append, List.length_cons]; omega) (ev_pos (by omega) ?_))
    simp only [rd_midD]
    rw [w64 (x := (pre.length : Int) + 1) (by omega) (by omega)]
    refine Ev.bind (specHoldsAny_ev x.f0 x.f1 x.f2.f0 x.f2.f1 x.f2.f2 x.f3 u g v h0.2.2) ?_
    have next := ih (pre ++ [x]) (fun q hq => hx q (List.mem_cons_of_mem _ hq)) (by simp only [List.length_append, List.length_cons, List.length_nil]; omega)
    simp only [List.append_assoc, List.singleton_append, List.length_append, List.length_cons, List.length_nil] at next
    rw [List.all_cons]
    by_cases q : holdsAny x.f0 x.f1 x.f2.f0 x.f2.f1 x.f2.f2 x.f3 u g v = true
    · rw [show holdsD x u g v = true from q, Bool.true_and]
      exact ev_pos q next
    · rw [show holdsD x u g v = false from Bool.eq_false_iff.2 q, Bool.false_and]
      exact ev_neg q (ev_eq ev_some (by simp))
theorem specSafe_ev (a b : List Int) (c d e : Int) (l : List S110) (u : List Int) (g : Int) (v : List Int) (ha : a.length ≤ 1048576) (hb : b.length ≤ 1048576) (hl : PutsOk 1048576 l) : Ev (fun k => spec_SafeFall.f k a b c d e l u g v) (safeFall a b c d e l u g v) := by
  unfold spec_SafeFall.f safeFall
  have hn := nFalls_le l
  refine Ev.bind (specFalls_ev a b c d e l (by omega) (by omega) (putsOk_le (by omega) hl)) (ev_eq (specSafe_key a b c d e l u g v hl (allFalls a b c d e l) [] (allFalls_small a b c d e l ha hb hl (by omega)) (by simp [allFalls]; omega)) ?_)
  cases (allFalls a b c d e l).all (fun x => holdsD x u g v) <;> cases holdsAny a b c d e l u g v <;> rfl
theorem idx_key (q : Nat → S33 → Option Bool) (z : S33 → Bool) : ∀ (t pre : List S33), (∀ x ∈ t, Ev (fun k => q k x) (z x)) → pre.length + t.length ≤ 4096 →
    ∃ r : Int, Ev (fun k => idxDisk.f k q (pre ++ t) (pre.length : Int)) r ∧ decide (r ≥ 0) = t.any z := by
  intro t
  induction t with
  | nil =>
    intro pre _ _
    exact ⟨-1, Ev.step (fun k => rfl) (ev_neg (by simp) ev_some), rfl⟩
  | cons x t ih =>
    intro pre hx hn
    simp only [List.length_cons] at hn
    have h0 := hx x (List.mem_cons_self ..)
    cases hz : z x with
    | true =>
      refine ⟨(pre.length : Int), Ev.step (fun k => rfl) (ev_pos (by simp only [List.length_append, List.length_cons]; omega) (ev_pos (by omega) ?_)), ?_⟩
      · simp only [rd_midD]
        exact Ev.bind h0 (ev_pos hz ev_some)
      · rw [List.any_cons, hz, Bool.true_or]
        exact decide_eq_true (by omega)
    | false =>
      obtain ⟨r, h1, h2⟩ := ih (pre ++ [x]) (fun y hy => hx y (List.mem_cons_of_mem _ hy)) (by simp only [List.length_append, List.length_cons, List.length_nil]; omega)
      simp only [List.append_assoc, List.singleton_append, List.length_append, List.length_cons, List.length_nil] at h1
      refine ⟨r, Ev.step (fun k => rfl) (ev_pos (by simp only [List.length_append, List.length_cons]; omega) (ev_pos (by omega) ?_)), ?_⟩
      · simp only [rd_midD]
        rw [w64 (x := (pre.length : Int) + 1) (by omega) (by omega)]
        exact Ev.bind h0 (ev_neg (by rw [hz]; decide) h1)
      · rw [List.any_cons, hz, Bool.false_or]
        exact h2
theorem implSafe_ev (a b : List Int) (c d e : Int) (l : List S110) (u : List Int) (g : Int) (v : List Int) (ha : a.length ≤ 1048576) (hb : b.length ≤ 1048576) (hl : PutsOk 1048576 l) : Ev (fun k => impl_SafeFall.f k a b c d e l u g v) (safeFall a b c d e l u g v) := by
  unfold impl_SafeFall.f safeFall
  have hn := nFalls_le l
  refine Ev.bind (implHoldsAny_ev a b c d e l u g v hl) (ev_if (fun h => ?_) (fun h => ev_eq ev_some (by rw [if_neg h])))
  rw [if_pos h]
  refine Ev.bind (implFalls_ev a b c d e l (by omega) (by omega) (putsOk_le (by omega) hl)) ?_
  obtain ⟨r, h1, h2⟩ := idx_key (fun k x => impl_SafeFall_1.f k x u g v) (fun x => !holdsD x u g v) (allFalls a b c d e l) [] (fun x hx => by
    unfold impl_SafeFall_1.f
    exact Ev.bind (implHoldsAny_ev x.f0 x.f1 x.f2.f0 x.f2.f1 x.f2.f2 x.f3 u g v (allFalls_small a b c d e l ha hb hl (by omega) x hx).2.2) ev_some) (by simp [allFalls]; omega)
  unfold anyDisk.f
  refine Ev.bind (Ev.bind h1 ev_some) (ev_eq ev_some ?_)
  rw [h2]
  generalize allFalls a b c d e l = L
  induction L with
  | nil => rfl
  | cons x L ih => rw [List.any_cons, List.all_cons, ← ih, Bool.not_or, Bool.not_not]
end Go.Proofs.Ytlghklbjmmijpaa.Pb
namespace Go.Proofs.Ytlghklbjmmijpaa.Pure
open Go.RowKit Go.Proofs.Ytlghklbjmmijpaa Go.Proofs.Ytlghklbjmmijpaa.Q Go.Proofs.Ytlghklbjmmijpaa.Pb Go.Proofs.YtlghklbjmmijpaaW.PrintWords Go.Proofs.YtlghklbjmmijpaaW.PrintLast
set_option linter.unusedVariables false
set_option linter.unusedSimpArgs false

theorem FnExactSafeFall : ∀ (x0 : S27) (x1 : List Int) (x2 : Int) (x3 : List Int), good27 x0 → (Opn.Each (fun n : Int => (Lit.int .u8 n).wf = true)) x1 → (Lit.int .i64 x2).wf = true → (Opn.Each (fun n : Int => (Lit.int .u8 n).wf = true)) x3 → ∃ k, laws_FnExactSafeFall.f k x0.f0 x0.f1 x0.f2.f0 x0.f2.f1 x0.f2.f2 x0.f3 x1 x2 x3 = some true := by
  intro x0 x1 x2 x3 g0 g1 g2 g3
  refine Ev.rounds ?_
  unfold laws_FnExactSafeFall.f
  refine ev_if (fun _ => ev_some) (fun hx => ev_if (fun _ => ev_some) (fun hy => ?_))
  obtain ⟨r, h1, h2, h3⟩ := szDisk_ev x0.f0 x0.f1 x0.f2.f0 x0.f2.f1 x0.f2.f2 x0.f3 1048576 (goodPuts_len x0 g0).1 (goodPuts_len x0 g0).2.1 (goodPuts_len x0 g0).2.2.1 (goodPuts_len x0 g0).2.2.2 (by omega) (by omega)
  refine Ev.bind h1 (ev_if (fun _ => ev_some) (fun h => ?_))
  have hf := h3 (by omega)
  have m0 := toDisk_ev x0.f0 x0.f1 x0.f2.f0 x0.f2.f1 x0.f2.f2 x0.f3 hf
  have hp := putsOk_map hf.2.2
  have mx := toByteS_ev x1 (by omega)
  have my := toByteS_ev x3 (by omega)
  refine Ev.bind m0 (Ev.bind mx (Ev.bind my (Ev.bind (specSafe_ev _ _ _ _ _ _ _ _ _ hf.1 hf.2.1 hp) (Ev.bind m0 (Ev.bind mx (Ev.bind my (Ev.bind (implSafe_ev _ _ _ _ _ _ _ _ _ hf.1 hf.2.1 hp) ?_)))))))
  refine ev_neg (by simp) ?_
  refine Ev.bind m0 (Ev.bind (eqDisk_refl _ _ _ _ _ _ (by have := hf.1; simp only; omega) (by have := hf.2.1; simp only; omega) (putsOk_le (by omega) hp)) (ev_true ?_))
  refine Ev.bind mx (Ev.bind (eqByteS_ev _ _ (by omega)) (ev_pos (by simp) ?_))
  exact Ev.bind my (Ev.bind (eqByteS_ev _ _ (by omega)) (ev_pos (by simp) ev_some))
end Go.Proofs.Ytlghklbjmmijpaa.Pure
