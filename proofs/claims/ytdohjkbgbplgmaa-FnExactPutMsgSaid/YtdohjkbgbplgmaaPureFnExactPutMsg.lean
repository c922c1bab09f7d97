/- The program's PutMsg returns what the reference's returns, for every message, in memory of its own, and leaves the message. No further condition. -/
import Derived.Test.YtdohjkbgbplgmaaQ13
import Derived.Test.YtdohjkbgbplgmaaQ20
import Derived.Test.YtdohjkbgbplgmaaQ2
import Derived.Test.YtdohjkbgbplgmaaQ8
import Derived.Test.YtdohjkbgbplgmaaQ7
import Derived.RowKit
import Derived.IntWalk
import Derived.Test.YtdohjkbgbplgmaaWWords
import Derived.Test.YtdohjkbgbplgmaaTyp
import Derived.Test.YtdohjkbgbplgmaaQ19
import Derived.Test.YtdohjkbgbplgmaaQ32
import Derived.Test.YtdohjkbgbplgmaaQ3
import Derived.Test.YtdohjkbgbplgmaaQ6
import Derived.Test.YtdohjkbgbplgmaaQ16
import Derived.Test.YtdohjkbgbplgmaaQ18
import Derived.Test.YtdohjkbgbplgmaaQ15
import Derived.Test.YtdohjkbgbplgmaaQ17
import Derived.Laws.BitsAllLaws
import Derived.Laws.BitsLemmas
import Derived.Test.YtdohjkbgbplgmaaQ12
import Derived.Test.YtdohjkbgbplgmaaQ10
import Derived.Test.YtdohjkbgbplgmaaQ5
import Derived.Test.YtdohjkbgbplgmaaQ4
import Derived.Test.YtdohjkbgbplgmaaQ9
import Derived.Test.YtdohjkbgbplgmaaQ11
/- Plain lemmas on answers with rounds: a loop that goes up through numbers comes to what its steps make. No condition. -/
namespace Go.Proofs.Ytdohjkbgbplgmaa.Pb
open Go.RowKit Go.Proofs.YtdohjkbgbplgmaaW.PrintWords
set_option linter.unusedVariables false

theorem w64 {x : Int} (h0 : -9223372036854775808 ≤ x) (h1 : x ≤ 9223372036854775807) : wrap64 x = x := by unfold wrap64; omega

section
variable {α β ρ σ : Type}
theorem ev_pos {c : Prop} [Decidable c] {f g : Nat → Option α} {r : α} (hc : c) (h : Ev f r) : Ev (fun k => if c then f k else g k) r := Ev.congr (fun k => if_pos hc) h
theorem ev_neg {c : Prop} [Decidable c] {f g : Nat → Option α} {r : α} (hc : ¬ c) (h : Ev g r) : Ev (fun k => if c then f k else g k) r := Ev.congr (fun k => if_neg hc) h
theorem ev_true {f g : Nat → Option α} {r : α} (h : Ev f r) : Ev (fun k => if true = true then f k else g k) r := ev_pos rfl h
theorem ev_false {f g : Nat → Option α} {r : α} (h : Ev g r) : Ev (fun k => if false = true then f k else g k) r := ev_neg (by decide) h
theorem ev_some {r : α} : Ev (fun _ => some r) r := Ev.now r
theorem ev_of {a : Option α} {r : α} (h : a = some r) : Ev (fun _ => a) r := ⟨0, fun _ _ => h⟩
theorem ev_then {a : Option α} {x : α} {f : Nat → α → Option β} {r : β} (h : a = some x) (k : Ev (fun n => f n x) r) : Ev (fun n => a.bind (f n)) r := Ev.bind (ev_of h) k
theorem ev_bool {b : Bool} {f g : Nat → Option α} {r : α} (h1 : b = true → Ev f r) (h2 : b = false → Ev g r) : Ev (fun k => if b = true then f k else g k) r := by
  cases b with
  | true => exact ev_true (h1 rfl)
  | false => exact ev_false (h2 rfl)
theorem ev_if {c : Prop} [Decidable c] {f g : Nat → Option α} {r : α} (h1 : c → Ev f r) (h2 : ¬ c → Ev g r) : Ev (fun k => if c then f k else g k) r := by
  by_cases h : c
  · exact ev_pos h (h1 h)
  · exact ev_neg h (h2 h)
theorem ev_eq {f : Nat → Option α} {r r' : α} (h : Ev f r) (e : r = r') : Ev f r' := e ▸ h
theorem ev_det {f : Nat → Option α} {r r' : α} (h : Ev f r) (h' : Ev f r') : r = r' := by
  obtain ⟨K, h⟩ := h
  obtain ⟨K', h'⟩ := h'
  have h1 := h (max K K') (Nat.le_max_left _ _)
  have h2 := h' (max K K') (Nat.le_max_right _ _)
  rw [h1] at h2
  exact Option.some.inj h2

/-- What n steps make of a state. -/
def iter (n : Nat) (next : Nat → σ → σ) (s : σ) : σ := (List.range n).foldl (fun s i => next i s) s
theorem iter_zero (next : Nat → σ → σ) (s : σ) : iter 0 next s = s := rfl
theorem iter_succ (n : Nat) (next : Nat → σ → σ) (s : σ) : iter (n + 1) next s = next n (iter n next s) := by
  unfold iter
  rw [List.range_succ, List.foldl_append]
  rfl

/-- A loop that goes up, step by step, to n. -/
theorem loop_up (g : Nat → σ → Int → Option ρ) (n : Nat) (next : Nat → σ → σ) (Inv : Nat → σ → Prop) (s0 : σ) (r : ρ)
    (h0 : Inv 0 s0) (hinv : ∀ i s, i < n → Inv i s → Inv (i + 1) (next i s))
    (hstep : ∀ (i : Nat) s r, i < n → Inv i s → Ev (fun k => g k (next i s) ((i : Int) + 1)) r → Ev (fun k => g k s (i : Int)) r)
    (hend : Inv n (iter n next s0) → Ev (fun k => g k (iter n next s0) (n : Int)) r) : Ev (fun k => g k s0 0) r := by
  have hall : ∀ i, i ≤ n → Inv i (iter i next s0) := by
    intro i
    induction i with
    | zero => intro _; exact h0
    | succ i ih => intro hi; rw [iter_succ]; exact hinv i _ (by omega) (ih (by omega))
  have key : ∀ d i, i + d = n → Ev (fun k => g k (iter i next s0) (i : Int)) r := by
    intro d
    induction d with
    | zero =>
      intro i hi
      obtain rfl : i = n := by omega
      exact hend (hall i (Nat.le_refl _))
    | succ d ih =>
      intro i hi
      refine hstep i _ r (by omega) (hall i (by omega)) ?_
      have := ih (i + 1) (by omega)
      rw [iter_succ] at this
      simpa using this
  exact key n 0 (by omega)

/-- A loop that goes up till something is found. -/
theorem loop_find (g : Nat → Int → Option ρ) (n : Nat) (p : Nat → Bool) (res : Nat → ρ) (r0 : ρ)
    (hyes : ∀ i, i < n → p i = true → Ev (fun k => g k (i : Int)) (res i))
    (hno : ∀ i r, i < n → p i = false → Ev (fun k => g k ((i : Int) + 1)) r → Ev (fun k => g k (i : Int)) r)
    (hend : Ev (fun k => g k (n : Int)) r0) : Ev (fun k => g k 0) (match (List.range n).find? p with | some i => res i | none => r0) := by
  have key : ∀ d i, i + d = n → Ev (fun k => g k (i : Int)) (match (List.range' i d).find? p with | some i => res i | none => r0) := by
    intro d
    induction d with
    | zero =>
      intro i hi
      obtain rfl : i = n := by omega
      exact hend
    | succ d ih =>
      intro i hi
      rw [List.range'_succ, List.find?_cons]
      cases hp : p i with
      | true => exact hyes i (by omega) hp
      | false => exact hno i _ (by omega) hp (by have := ih (i + 1) (by omega); simpa using this)
  have := key n 0 (by omega)
  rwa [← List.range_eq_range'] at this
/-- A loop that asks something of each. -/
theorem loop_all (g : Nat → Int → Option Bool) (n : Nat) (p : Nat → Bool)
    (hyes : ∀ i r, i < n → p i = true → Ev (fun k => g k ((i : Int) + 1)) r → Ev (fun k => g k (i : Int)) r)
    (hno : ∀ i, i < n → p i = false → Ev (fun k => g k (i : Int)) false)
    (hend : Ev (fun k => g k (n : Int)) true) : Ev (fun k => g k 0) ((List.range n).all p) := by
  have h := loop_find g n (fun i => !p i) (fun _ => false) true (fun i hi hp => hno i hi (by simpa using hp)) (fun i r hi hp h => hyes i r hi (by simpa using hp) h) hend
  refine ev_eq h ?_
  cases hf : (List.range n).find? (fun i => !p i) with
  | some i =>
    have h1 := List.find?_some hf
    have h2 := List.mem_of_find?_eq_some hf
    symm
    rw [List.all_eq_false]
    exact ⟨i, h2, by simpa using h1⟩
  | none =>
    symm
    rw [List.all_eq_true]
    intro x hx
    have := List.find?_eq_none.1 hf x hx
    simpa using this
end

/-! ### Lists by their elements -/
theorem rd_nat (l : List Int) (i : Nat) (h : i < l.length) : rd l (i : Int) = l[i] := by
  unfold rd
  simp [List.getD_eq_getElem?_getD, List.getElem?_eq_getElem h]
theorem iter_set {α : Type} (n : Nat) (f : Nat → α) (l : List α) (hl : l.length = n) : iter n (fun i (s : List α) => s.set i (f i)) l = (List.range n).map f := by
  have key : ∀ m, m ≤ n → iter m (fun i (s : List α) => s.set i (f i)) l = (List.range m).map f ++ l.drop m := by
    intro m
    induction m with
    | zero => intro _; simp [iter_zero]
    | succ m ih =>
      intro hm
      rw [iter_succ, ih (by omega)]
      apply List.ext_getElem?
      intro j
      simp only [List.getElem?_set, List.getElem?_append, List.length_map, List.length_range, List.length_append, List.length_drop, List.getElem?_map, List.getElem?_drop]
      by_cases h1 : m = j
      · subst h1
        simp
        omega
      · by_cases h2 : j < m
        · simp [h1, h2, show j < m + 1 by omega]
        · have h3 : ¬ j < m + 1 := by omega
          simp [h1, h2, h3]
          congr 1
          omega
  have := key n (Nat.le_refl _)
  rw [this, List.drop_of_length_le (by omega), List.append_nil]
theorem map_range_get {α β : Type} (l : List α) (d : α) (f : α → β) : (List.range l.length).map (fun i => f (l.getD i d)) = l.map f := by
  apply List.ext_getElem?
  intro i
  by_cases h : i < l.length
  · simp [h, List.getD_eq_getElem?_getD]
  · simp [h]
theorem all_range_eq {α : Type} [DecidableEq α] (a b : List α) (d : α) (hl : a.length = b.length) : (List.range a.length).all (fun i => decide (a.getD i d = b.getD i d)) = decide (a = b) := by
  rw [Bool.eq_iff_iff]
  simp only [List.all_eq_true, List.mem_range, decide_eq_true_eq]
  constructor
  · intro h
    apply List.ext_getElem hl
    intro i h1 h2
    have := h i h1
    simpa [List.getD_eq_getElem?_getD, h1, h2] using this
  · rintro rfl i _
    rfl
end Go.Proofs.Ytdohjkbgbplgmaa.Pb
/- Bytes as plain lists: the laws' copies and comparisons of them. No condition beyond the size that the laws ask. -/
namespace Go.Proofs.Ytdohjkbgbplgmaa.Pb
open Go.RowKit Go.Proofs.Ytdohjkbgbplgmaa Go.Proofs.Ytdohjkbgbplgmaa.Q Go.Proofs.YtdohjkbgbplgmaaW.PrintWords Go.Proofs.YtdohjkbgbplgmaaW.PrintLast
set_option linter.unusedVariables false
set_option linter.unusedSimpArgs false

theorem toByteS_ev (l : List Int) (hl : l.length ≤ 1048576) : Ev (fun k => laws_toByteS.f k l) l := by
  unfold laws_toByteS.f
  refine ev_pos (by omega) (ev_pos (by simp; omega) ?_)
  refine loop_up (fun k s i => laws_toByteS.l0 k l s i) l.length (fun i (s : List Int) => s.set i (l.getD i 0)) (fun _ s => s.length = l.length) _ l (by simp) (fun i s _ h => by simpa using h) ?_ ?_
  · intro i s r hi hs h
    refine Ev.step (fun k => rfl) ?_
    refine ev_pos (by omega) (ev_pos (by omega) (ev_pos (by omega) ?_))
    rw [w64 (by omega) (by omega)]
    simpa [rd] using h
  · intro hs
    refine Ev.step (fun k => rfl) ?_
    refine ev_neg (by omega) (ev_eq ev_some ?_)
    have h1 := iter_set l.length (fun i => l.getD i 0) (List.replicate (l.length : Int).toNat 0) (by simp)
    rw [h1]
    have h2 := map_range_get l 0 id
    simpa using h2
theorem eqByteS_ev (a b : List Int) (ha : a.length ≤ 9223372036854775806) : Ev (fun k => laws_eqByteS.f k a b) (decide (a = b)) := by
  unfold laws_eqByteS.f
  refine ev_if (fun hl => ?_) (fun hl => ev_eq ev_some ?_)
  · have hl' : a.length = b.length := by omega
    rw [← all_range_eq a b 0 hl']
    refine loop_all (fun k i => laws_eqByteS.l0 k a b i) a.length _ ?_ ?_ ?_
    · intro i r hi hp h
      refine Ev.step (fun k => rfl) ?_
      refine ev_pos (by omega) (ev_pos (by omega) (ev_pos (by omega) (ev_pos (by simpa [rd] using hp) ?_)))
      rw [w64 (by omega) (by omega)]
      exact h
    · intro i hi hp
      refine Ev.step (fun k => rfl) ?_
      exact ev_pos (by omega) (ev_pos (by omega) (ev_pos (by omega) (ev_neg (by simpa [rd] using hp) ev_some)))
    · refine Ev.step (fun k => rfl) ?_
      exact ev_neg (by omega) ev_some
  · symm
    rw [decide_eq_false_iff_not]
    rintro rfl
    exact hl rfl
end Go.Proofs.Ytdohjkbgbplgmaa.Pb
/- Sums of blocks and manifests: the laws' copies of them. No condition beyond the size that the laws ask. -/
namespace Go.Proofs.Ytdohjkbgbplgmaa.Pb
open Go.RowKit Go.Proofs.Ytdohjkbgbplgmaa Go.Proofs.Ytdohjkbgbplgmaa.Q Go.Proofs.YtdohjkbgbplgmaaW.PrintWords Go.Proofs.YtdohjkbgbplgmaaW.PrintLast
set_option linter.unusedVariables false
set_option linter.unusedSimpArgs false

/-- The program's own sum out of the laws' one. -/
def sumOf_ (x : S101) : S76 := ⟨x.f0, x.f1⟩
theorem szSumS_eq (l : List S101) (a : Int) (hl : l.length ≤ 9223372036854775807) (h0 : 0 ≤ a) (h1 : a ≤ 1048576) : laws_szSumS.f l a = some (if a < (l.length : Int) then (-1 : Int) else a - (l.length : Int)) := by
  unfold laws_szSumS.f
  rw [w64 (by omega) (by omega)]
  by_cases h : a < l.length
  · rw [if_pos (by omega), if_pos h]
  · rw [if_neg (by omega), if_neg h]
theorem szManifest_eq (b c d : Int) (l : List S101) (a : Int) (hl : l.length ≤ 9223372036854775807) (h0 : 0 ≤ a) (h1 : a ≤ 1048576) : laws_szManifest.f b c d l a = some (if a < (l.length : Int) then (-1 : Int) else a - (l.length : Int)) := by
  unfold laws_szManifest.f
  rw [szSumS_eq l a hl h0 h1]
  simp only [Option.bind_some]
  by_cases h : a < (l.length : Int)
  · rw [if_pos h]; rfl
  · rw [if_neg h, if_neg (by omega)]
theorem toSumS_ev (l : List S101) (hl : l.length ≤ 1048576) : Ev (fun k => laws_toSumS.f k l) (l.map sumOf_) := by
  unfold laws_toSumS.f
  refine ev_pos (by omega) (ev_pos (by simp; omega) ?_)
  refine loop_up (fun k s i => laws_toSumS.l0 k l s i) l.length (fun i (s : List S76) => s.set i (sumOf_ (l.getD i z101))) (fun _ s => s.length = l.length) _ _ (by simp) (fun i s _ h => by simpa using h) ?_ ?_
  · intro i s r hi hs h
    refine Ev.step (fun k => rfl) ?_
    refine ev_pos (by omega) (ev_pos (by omega) ?_)
    refine ev_then rfl ?_
    refine ev_pos (by omega) ?_
    rw [w64 (by omega) (by omega)]
    exact h
  · intro hs
    refine Ev.step (fun k => rfl) ?_
    refine ev_neg (by omega) (ev_eq ev_some ?_)
    rw [iter_set l.length (fun i => sumOf_ (l.getD i z101)) _ (by simp)]
    exact map_range_get l _ sumOf_
theorem toManifest_ev (a b c : Int) (l : List S101) (hl : l.length ≤ 1048576) : Ev (fun k => laws_toManifest.f k a b c l) (a, b, c, l.map sumOf_) := by
  unfold laws_toManifest.f
  exact Ev.bind (toSumS_ev l hl) ev_some
end Go.Proofs.Ytdohjkbgbplgmaa.Pb
/- Messages: the laws' copies of them, and the size that they ask. No condition beyond that size. -/
namespace Go.Proofs.Ytdohjkbgbplgmaa.Pb
open Go.RowKit Go.Proofs.Ytdohjkbgbplgmaa Go.Proofs.Ytdohjkbgbplgmaa.Q Go.Proofs.YtdohjkbgbplgmaaW.PrintWords Go.Proofs.YtdohjkbgbplgmaaW.PrintLast
set_option linter.unusedVariables false
set_option linter.unusedSimpArgs false

theorem goodMsg_len (x : S27) (g : good27 x) : x.f2.f3.length ≤ 9223372036854775807 ∧ x.f6.length ≤ 9223372036854775807 := by
  have h1 := g.2.2.1.2.2.2.1
  have h2 := g.2.2.2.2.2.2.1
  exact ⟨h1, h2⟩
/-- What is left of the size that the laws allow. -/
def leftMsg (l m a : Int) : Int := if a < l then -1 else if a - l < m then -1 else a - l - m
theorem szMsg_left {l m a : Int} (h : ¬ leftMsg l m a < 0) : leftMsg l m a = a - l - m ∧ l ≤ a ∧ m ≤ a - l := by
  unfold leftMsg at h ⊢
  split at h
  · omega
  · split at h
    · omega
    · rename_i h1 h2
      rw [if_neg h1, if_neg h2]
      omega
theorem szMsg_eq (a b c d e : Int) (l : List S101) (f g h : Int) (m : List Int) (x : Int) (hl : l.length ≤ 9223372036854775807) (hm : m.length ≤ 9223372036854775807) (h0 : 0 ≤ x) (h1 : x ≤ 1048576) : laws_szMsg.f a b c d e l f g h m x = some (leftMsg l.length m.length x) := by
  unfold laws_szMsg.f leftMsg
  rw [szManifest_eq c d e l x hl h0 h1]
  simp only [Option.bind_some]
  by_cases q : x < (l.length : Int)
  · rw [if_pos q, if_pos q, if_pos (by omega)]
  · rw [if_neg q, if_neg q, if_neg (by omega)]
    unfold laws_szByteS.f
    rw [w64 (by omega) (by omega)]
    by_cases r : x - l.length < (m.length : Int)
    · rw [if_pos r, if_pos (by omega)]
      simp only [Option.bind_some]
      rw [if_pos (by omega)]
    · rw [if_neg r, if_neg (by omega)]
      simp only [Option.bind_some]
      rw [if_neg (by omega)]
theorem toMsg_ev (a b c d e : Int) (l : List S101) (f g h : Int) (m : List Int) (hl : l.length ≤ 1048576) (hm : m.length ≤ 1048576) : Ev (fun k => laws_toMsg.f k a b c d e l f g h m) (a, b, c, d, e, l.map sumOf_, f, g, h, m) := by
  unfold laws_toMsg.f
  exact Ev.bind (toManifest_ev c d e l hl) (Ev.bind (toByteS_ev m hm) ev_some)
end Go.Proofs.Ytdohjkbgbplgmaa.Pb
/- Whole numbers: an int's bounds, tests of an interval, what is left of a size. No condition. -/
namespace Go.Proofs.Ytdohjkbgbplgmaa.Pb
open Go.RowKit Go.Proofs.Ytdohjkbgbplgmaa Go.Proofs.Ytdohjkbgbplgmaa.Q Go.Proofs.YtdohjkbgbplgmaaW.PrintWords Go.Proofs.YtdohjkbgbplgmaaW.PrintLast
set_option linter.unusedVariables false
set_option linter.unusedSimpArgs false

/-- An int holds it. -/
def I64 (n : Int) : Prop := -9223372036854775808 ≤ n ∧ n ≤ 9223372036854775807
theorem i64_of {n : Int} (h : (Lit.int .i64 n).wf = true) : I64 n := by
  simp [Lit.wf, IntKind.min, IntKind.max, IntKind.signed, IntKind.bits] at h
  exact ⟨by omega, by omega⟩

theorem within_eq (a lo hi : Int) : impl_within.f a lo hi = some (decide (lo ≤ a ∧ a ≤ hi)) := by
  unfold impl_within.f
  by_cases h : lo ≤ a
  · rw [if_pos h]; simp [h]
  · rw [if_neg h]; simp [h]
theorem l1In_eq (a lo hi : Int) : spec_l1In.f a lo hi = some (decide (lo ≤ a ∧ a ≤ hi)) := within_eq a lo hi

theorem left_big {n : Nat} (h : ¬ (if (1048576 : Int) < (n : Int) then (-1 : Int) else 1048576 - (n : Int)) < 0) : n ≤ 1048576 := by
  split at h <;> omega
end Go.Proofs.Ytdohjkbgbplgmaa.Pb
/- Marking bytes and finding the marks again. No condition beyond the size that the laws ask. -/
namespace Go.Proofs.Ytdohjkbgbplgmaa.Pb
open Go.RowKit Go.Proofs.Ytdohjkbgbplgmaa Go.Proofs.Ytdohjkbgbplgmaa.Q Go.Proofs.YtdohjkbgbplgmaaW.PrintWords Go.Proofs.YtdohjkbgbplgmaaW.PrintLast
set_option linter.unusedVariables false
set_option linter.unusedSimpArgs false

/-- The low bytes of a, a + 1, .., n of them. -/
def byteMarks (a : Int) (n : Nat) : List Int := (List.range n).map fun (i : Nat) => (a + (i : Int)) % 256
theorem byteMarks_length (a : Int) (n : Nat) : (byteMarks a n).length = n := by simp [byteMarks]
theorem byteMarks_rd (a : Int) (n i : Nat) (h : i < n) : rd (byteMarks a n) (i : Int) = (a + i) % 256 := by
  unfold rd byteMarks
  simp [List.getD_eq_getElem?_getD, h]
theorem markByteS_ev (l : List Int) (a : Int) (h0 : 0 ≤ a) (h1 : a + l.length ≤ 9223372036854775806) : Ev (fun k => laws_markByteS.f k l a) (a + l.length, byteMarks a l.length) := by
  unfold laws_markByteS.f
  refine loop_up (σ := List Int × Int) (fun k s i => laws_markByteS.l0 k s.1 s.2 i) l.length (fun i s => (s.1.set i (s.2 % 256), s.2 + 1)) (fun i s => s.1.length = l.length ∧ s.2 = a + i) (l, a) _ ⟨rfl, by simp⟩ ?_ ?_ ?_
  · rintro i ⟨x, y⟩ _ ⟨hx, hy⟩
    simp only at hx hy ⊢
    exact ⟨by simpa using hx, by omega⟩
  · rintro i ⟨x, y⟩ r hi ⟨hx, hy⟩ h
    simp only at hx hy h ⊢
    refine Ev.step (fun k => rfl) ?_
    refine ev_pos (by omega) (ev_pos (by omega) ?_)
    rw [w64 (x := y + 1) (by omega) (by omega), w64 (x := (i : Int) + 1) (by omega) (by omega)]
    simpa using h
  · rintro ⟨hx, hy⟩
    refine Ev.step (fun k => rfl) ?_
    refine ev_neg (by omega) (ev_eq ev_some ?_)
    have key : ∀ n, iter n (fun (i : Nat) (s : List Int × Int) => (s.1.set i (s.2 % 256), s.2 + 1)) (l, a) = (iter n (fun i (s : List Int) => s.set i ((a + (i : Int)) % 256)) l, a + (n : Int)) := by
      intro n
      induction n with
      | zero => simp [iter_zero]
      | succ n ih => rw [iter_succ, ih, iter_succ]; simp; omega
    rw [key, iter_set _ _ _ rfl]
    rfl
theorem heldByteS_ev (a : Int) (n : Nat) (h0 : 0 ≤ a) (h1 : a + n ≤ 9223372036854775806) : Ev (fun k => laws_heldByteS.f k (byteMarks a n) a) (a + n) := by
  unfold laws_heldByteS.f
  have hl := byteMarks_length a n
  refine loop_up (fun k s i => laws_heldByteS.l0 k (byteMarks a n) s i) n (fun i s => s + 1) (fun i s => s = a + i) a _ (by simp) (fun i s _ h => by omega) ?_ ?_
  · rintro i s r hi hs h
    refine Ev.step (fun k => rfl) ?_
    refine ev_pos (by omega) (ev_pos (by omega) (ev_pos (by rw [byteMarks_rd _ _ _ hi, hs]) ?_))
    rw [w64 (x := s + 1) (by omega) (by omega), w64 (by omega) (by omega)]
    exact h
  · intro hs
    refine Ev.step (fun k => rfl) ?_
    refine ev_neg (by omega) (ev_eq ev_some hs)
end Go.Proofs.Ytdohjkbgbplgmaa.Pb
/- Sums of blocks as plain lists: the laws' comparisons of them. No condition beyond the size that the laws ask. -/
namespace Go.Proofs.Ytdohjkbgbplgmaa.Pb
open Go.RowKit Go.Proofs.Ytdohjkbgbplgmaa Go.Proofs.Ytdohjkbgbplgmaa.Q Go.Proofs.YtdohjkbgbplgmaaW.PrintWords Go.Proofs.YtdohjkbgbplgmaaW.PrintLast
set_option linter.unusedVariables false
set_option linter.unusedSimpArgs false

theorem eqSum_refl (a b : Int) : laws_eqSum.f a b a b = some true := by
  unfold laws_eqSum.f
  rw [if_pos rfl, if_pos rfl]
theorem eqSumS_refl (a : List S76) (ha : a.length ≤ 9223372036854775806) : Ev (fun k => laws_eqSumS.f k a a) true := by
  unfold laws_eqSumS.f
  refine ev_pos rfl ?_
  refine ev_eq (loop_all (fun k i => laws_eqSumS.l0 k a a i) a.length (fun _ => true) ?_ ?_ ?_) (by simp)
  · intro i r hi _ h
    refine Ev.step (fun k => rfl) ?_
    refine ev_pos (by omega) (ev_pos (by omega) (ev_pos (by omega) ?_))
    refine ev_then (eqSum_refl _ _) (ev_true ?_)
    rw [w64 (by omega) (by omega)]
    exact h
  · intro i hi hp
    cases hp
  · refine Ev.step (fun k => rfl) ?_
    exact ev_neg (by omega) ev_some
theorem eqManifest_refl (a b c : Int) (l : List S76) (hl : l.length ≤ 9223372036854775806) : Ev (fun k => laws_eqManifest.f k a b c l a b c l) true := by
  unfold laws_eqManifest.f
  exact ev_pos rfl (ev_pos rfl (ev_pos rfl (Ev.bind (eqSumS_refl l hl) (ev_true ev_some))))
end Go.Proofs.Ytdohjkbgbplgmaa.Pb
/- Marking sums of blocks. No condition beyond the size that the laws ask. -/
namespace Go.Proofs.Ytdohjkbgbplgmaa.Pb
open Go.RowKit Go.Proofs.Ytdohjkbgbplgmaa Go.Proofs.Ytdohjkbgbplgmaa.Q Go.Proofs.YtdohjkbgbplgmaaW.PrintWords Go.Proofs.YtdohjkbgbplgmaaW.PrintLast
set_option linter.unusedVariables false
set_option linter.unusedSimpArgs false

/-- Sums of marks, from a on. -/
def sumMark (a : Int) : S76 := ⟨a, a + 1⟩
def sumMarks (a : Int) (n : Nat) : List S76 := (List.range n).map fun (i : Nat) => sumMark (a + 2 * (i : Int))
theorem sumMarks_length (a : Int) (n : Nat) : (sumMarks a n).length = n := by simp [sumMarks]
theorem sumMarks_rd (a : Int) (n i : Nat) (h : i < n) : rd_T76 (sumMarks a n) (i : Int) = sumMark (a + 2 * i) := by
  unfold rd_T76 sumMarks
  simp [List.getD_eq_getElem?_getD, h]
theorem rdSum_set (l : List S76) (i : Nat) (x : S76) (h : i < l.length) : rd_T76 (l.set i x) (i : Int) = x := by
  unfold rd_T76
  simp [List.getD_eq_getElem?_getD, h]
theorem markSumS_ev (l : List S76) (a : Int) (h0 : 0 ≤ a) (h1 : a + 2 * l.length ≤ 9223372036854775806) : Ev (fun k => laws_markSumS.f k l a) (a + 2 * l.length, sumMarks a l.length) := by
  unfold laws_markSumS.f
  refine loop_up (σ := List S76 × Int) (fun k s i => laws_markSumS.l0 k s.1 s.2 i) l.length (fun i s => (s.1.set i (sumMark s.2), s.2 + 2)) (fun i s => s.1.length = l.length ∧ s.2 = a + 2 * i) (l, a) _ ⟨rfl, by simp⟩ ?_ ?_ ?_
  · rintro i ⟨x, y⟩ _ ⟨hx, hy⟩
    simp only at hx hy ⊢
    exact ⟨by simpa using hx, by omega⟩
  · rintro i ⟨x, y⟩ r hi ⟨hx, hy⟩ h
    simp only at hx hy h ⊢
    refine Ev.step (fun k => rfl) ?_
    refine ev_pos (by omega) (ev_pos (by omega) ?_)
    rw [w64 (x := y + 1) (by omega) (by omega), w64 (x := y + 1 + 1) (by omega) (by omega), w64 (x := (i : Int) + 1) (by omega) (by omega)]
    simp only [Option.bind_some, Int.toNat_natCast]
    rw [rdSum_set x i _ (by omega)]
    simp only [List.set_set]
    have e : (⟨y, y + 1⟩ : S76) = sumMark y := rfl
    rw [e, show y + 1 + 1 = y + 2 by omega]
    exact h
  · rintro ⟨hx, hy⟩
    refine Ev.step (fun k => rfl) ?_
    refine ev_neg (by omega) (ev_eq ev_some ?_)
    have key : ∀ n, iter n (fun (i : Nat) (s : List S76 × Int) => (s.1.set i (sumMark s.2), s.2 + 2)) (l, a) = (iter n (fun i (s : List S76) => s.set i (sumMark (a + 2 * (i : Int)))) l, a + 2 * (n : Int)) := by
      intro n
      induction n with
      | zero => simp [iter_zero]
      | succ n ih => rw [iter_succ, ih, iter_succ]; simp; omega
    rw [key, iter_set _ _ _ rfl]
    rfl
theorem markManifest_ev (b c d : Int) (l : List S76) (a : Int) (h0 : 0 ≤ a) (h1 : a + 2 * l.length ≤ 9223372036854775806) : Ev (fun k => laws_markManifest.f k b c d l a) (a + 2 * l.length, sumMarks a l.length) := by
  unfold laws_markManifest.f
  exact Ev.bind (markSumS_ev l a h0 h1) ev_some
end Go.Proofs.Ytdohjkbgbplgmaa.Pb
/- Finding the marks in sums of blocks again. No condition beyond the size that the laws ask. -/
namespace Go.Proofs.Ytdohjkbgbplgmaa.Pb
open Go.RowKit Go.Proofs.Ytdohjkbgbplgmaa Go.Proofs.Ytdohjkbgbplgmaa.Q Go.Proofs.YtdohjkbgbplgmaaW.PrintWords Go.Proofs.YtdohjkbgbplgmaaW.PrintLast
set_option linter.unusedVariables false
set_option linter.unusedSimpArgs false

theorem heldSumS_ev (a : Int) (n : Nat) (h0 : 0 ≤ a) (h1 : a + 2 * n ≤ 9223372036854775806) : Ev (fun k => laws_heldSumS.f k (sumMarks a n) a) (a + 2 * n) := by
  unfold laws_heldSumS.f
  have hl := sumMarks_length a n
  refine loop_up (fun k s i => laws_heldSumS.l0 k (sumMarks a n) s i) n (fun i s => s + 2) (fun i s => s = a + 2 * i) a _ (by simp) (fun i s _ h => by omega) ?_ ?_
  · rintro i s r hi hs h
    refine Ev.step (fun k => rfl) ?_
    refine ev_pos (by omega) (ev_pos (by omega) ?_)
    rw [sumMarks_rd _ _ _ hi]
    rw [w64 (x := s + 1) (by omega) (by omega), w64 (x := s + 1 + 1) (by omega) (by omega), w64 (x := (i : Int) + 1) (by omega) (by omega)]
    unfold sumMark
    simp only
    refine ev_pos (by omega) (ev_pos (by omega) ?_)
    rw [show s + 1 + 1 = s + 2 by omega]
    exact h
  · intro hs
    refine Ev.step (fun k => rfl) ?_
    refine ev_neg (by omega) (ev_eq ev_some hs)
theorem heldManifest_ev (b c d : Int) (a : Int) (n : Nat) (h0 : 0 ≤ a) (h1 : a + 2 * n ≤ 9223372036854775806) : Ev (fun k => laws_heldManifest.f k b c d (sumMarks a n) a) (a + 2 * n) := by
  unfold laws_heldManifest.f
  refine Ev.bind (heldSumS_ev a n h0 h1) ?_
  exact ev_neg (by omega) ev_some
end Go.Proofs.Ytdohjkbgbplgmaa.Pb
/- Messages: the laws' comparisons of them, and their marks. No condition beyond the size that the laws ask. -/
namespace Go.Proofs.Ytdohjkbgbplgmaa.Pb
open Go.RowKit Go.Proofs.Ytdohjkbgbplgmaa Go.Proofs.Ytdohjkbgbplgmaa.Q Go.Proofs.YtdohjkbgbplgmaaW.PrintWords Go.Proofs.YtdohjkbgbplgmaaW.PrintLast
set_option linter.unusedVariables false
set_option linter.unusedSimpArgs false

theorem eqMsg_refl (a b c d e : Int) (l : List S76) (f g h : Int) (m : List Int) (hl : l.length ≤ 9223372036854775806) (hm : m.length ≤ 9223372036854775806) : Ev (fun k => laws_eqMsg.f k a b c d e l f g h m a b c d e l f g h m) true := by
  unfold laws_eqMsg.f
  refine ev_pos rfl (ev_pos rfl (Ev.bind (eqManifest_refl c d e l hl) (ev_true (ev_pos rfl (ev_pos rfl (ev_pos rfl (Ev.bind (eqByteS_ev m m hm) ?_)))))))
  exact ev_pos (by simp) ev_some
theorem markMsg_ev (a b c d e : Int) (l : List S76) (f g h : Int) (m : List Int) (x : Int) (h0 : 0 ≤ x) (h1 : x + 2 * l.length + m.length ≤ 9223372036854775806) : Ev (fun k => laws_markMsg.f k a b c d e l f g h m x) (x + 2 * l.length + m.length, sumMarks x l.length, byteMarks (x + 2 * l.length) m.length) := by
  unfold laws_markMsg.f
  exact Ev.bind (markManifest_ev c d e l x h0 (by omega)) (Ev.bind (markByteS_ev m _ (by simp only; omega) (by simp only; omega)) ev_some)
theorem heldMsg_ev (a b c d e : Int) (n : Nat) (f g h : Int) (q : Nat) (x : Int) (h0 : 0 ≤ x) (h1 : x + 2 * n + q ≤ 9223372036854775806) : Ev (fun k => laws_heldMsg.f k a b c d e (sumMarks x n) f g h (byteMarks (x + 2 * n) q) x) (x + 2 * n + q) := by
  unfold laws_heldMsg.f
  refine Ev.bind (heldManifest_ev c d e x n h0 (by omega)) (ev_neg (by omega) ?_)
  refine Ev.bind (heldByteS_ev _ q (by omega) (by omega)) (ev_neg (by omega) ev_some)
end Go.Proofs.Ytdohjkbgbplgmaa.Pb
/- The bits of whole numbers of 64 bits, as natural numbers have them. No condition beyond the ranges. -/
namespace Go.Proofs.Ytdohjkbgbplgmaa.Pb
open Go
set_option linter.unusedVariables false

theorem wraps_i64 (n : Int) (h0 : 0 ≤ n) (h1 : n < 2 ^ 63) : IntKind.i64.wrap n = n := by rw [IntKind.wrap_i64]; omega
/-- A mask of low bits, of whatever number. -/
theorem and_mask (n : Int) (j m : Nat) (hj : j ≤ 62) (hm : m = 2 ^ j - 1) : bits .and .i64 n (m : Int) = n % (2 ^ j : Nat) := by
  have hp : (2 : Nat) ^ j ≤ 2 ^ 62 := Nat.pow_le_pow_right (by decide) hj
  have hpos : 0 < 2 ^ j := Nat.two_pow_pos j
  have hmm : (BitVec.ofInt 64 (m : Int)).toNat = 2 ^ j - 1 := by
    rw [BitVec.ofInt_natCast, BitVec.toNat_ofNat, hm, Nat.mod_eq_of_lt]
    have : (2 : Nat) ^ 62 < 2 ^ 64 := by decide
    omega
  have key : (BitVec.ofInt 64 n &&& BitVec.ofInt 64 (m : Int)).toNat = (n % ((2 ^ 64 : Nat) : Int)).toNat % 2 ^ j := by
    rw [BitVec.toNat_and, BitVec.toNat_ofInt, hmm, Nat.and_two_pow_sub_one_eq_mod]
  show IntKind.i64.wrap ((BitVec.ofInt 64 n &&& BitVec.ofInt 64 (m : Int)).toNat : Nat) = _
  rw [key, IntKind.wrap_i64]
  have hd : ((2 ^ j : Nat) : Int) ∣ ((2 ^ 64 : Nat) : Int) := by
    have : (2 ^ j : Nat) ∣ 2 ^ 64 := Nat.pow_dvd_pow 2 (by omega)
    exact Int.natCast_dvd_natCast.2 this
  have e0 : 0 ≤ n % ((2 ^ 64 : Nat) : Int) := Int.emod_nonneg _ (by decide)
  have e1 : (((n % ((2 ^ 64 : Nat) : Int)).toNat % 2 ^ j : Nat) : Int) = n % ((2 ^ j : Nat) : Int) := by
    rw [Int.natCast_emod, Int.toNat_of_nonneg e0, Int.emod_emod_of_dvd _ hd]
  rw [e1]
  have b0 : 0 ≤ n % ((2 ^ j : Nat) : Int) := Int.emod_nonneg _ (by omega)
  have b1 : n % ((2 ^ j : Nat) : Int) < ((2 ^ j : Nat) : Int) := Int.emod_lt_of_pos _ (by omega)
  have b2 : ((2 ^ j : Nat) : Int) ≤ ((2 ^ 62 : Nat) : Int) := Int.ofNat_le.2 hp
  have b3 : ((2 ^ 62 : Nat) : Int) = 4611686018427387904 := by decide
  omega
theorem and255 (n : Int) : bits .and .i64 n 255 = n % 256 := and_mask n 8 255 (by decide) (by decide)
theorem and_nat (a b : Nat) (ha : a < 2 ^ 63) (hb : b < 2 ^ 63) : bits .and .i64 (a : Int) (b : Int) = ((a &&& b : Nat) : Int) := (bits_nat .i64 63 (by decide) wraps_i64 a b ha hb).1
theorem or_nat (a b : Nat) (ha : a < 2 ^ 63) (hb : b < 2 ^ 63) : bits .or .i64 (a : Int) (b : Int) = ((a ||| b : Nat) : Int) := (bits_nat .i64 63 (by decide) wraps_i64 a b ha hb).2
end Go.Proofs.Ytdohjkbgbplgmaa.Pb
/- Numbers written in bytes of seven bits: the program's and the reference's ways. No condition beyond the list's length. -/
namespace Go.Proofs.Ytdohjkbgbplgmaa.Pb
open Go.RowKit Go.Proofs.Ytdohjkbgbplgmaa Go.Proofs.Ytdohjkbgbplgmaa.Q Go.Proofs.YtdohjkbgbplgmaaW.PrintWords Go.Proofs.YtdohjkbgbplgmaaW.PrintLast Go.Proofs.YtdohjkbgbplgmaaW.PrintMore
set_option linter.unusedVariables false
set_option linter.unusedSimpArgs false

/-- The bytes of a number, at most m + 1 of them. -/
def vb : Nat → Int → List Int
  | 0, x => [x]
  | m + 1, x => if x ≤ 127 then [x] else (x % 128 + 128) :: vb m (x / 128)
def encVar (x : Int) : List Int := vb 8 x
theorem vb_length (m : Nat) : ∀ x, (vb m x).length ≤ m + 1 := by
  induction m with
  | zero => intro x; simp [vb]
  | succ m ih =>
    intro x
    rw [vb]
    split
    · simp
    · simp only [List.length_cons]
      have := ih (x / 128)
      omega
theorem encVar_length (x : Int) : (encVar x).length ≤ 9 := vb_length 8 x
theorem and127 (n : Int) : Go.bits .and .i64 n 127 = n % 128 := and_mask n 7 127 (by decide) (by decide)
theorem or128_nat (y : Nat) (h : y < 128) : y ||| 128 = y + 128 := by
  have e := Nat.two_pow_add_eq_or_of_lt (i := 7) (b := y) (by omega) 1
  rw [show 2 ^ 7 * 1 = 128 from rfl] at e
  rw [Nat.or_comm]
  omega
theorem or128 (y : Int) (h0 : 0 ≤ y) (h1 : y < 128) : Go.bits .or .i64 y 128 = y + 128 := by
  obtain ⟨a, rfl⟩ := Int.eq_ofNat_of_zero_le h0
  have := or_nat a 128 (by omega) (by omega)
  rw [or128_nat a (by omega)] at this
  exact this
theorem or128_u8 (y : Int) (h0 : 0 ≤ y) (h1 : y < 256) : Go.bits .or .u8 y 128 = y % 128 + 128 := by
  obtain ⟨a, rfl⟩ := Int.eq_ofNat_of_zero_le h0
  have e := Go.u8_or_nat a 128 (by omega) (by omega)
  by_cases q : a < 128
  · rw [or128_nat a q] at e
    rw [show ((128 : Nat) : Int) = 128 from rfl] at e
    rw [e]
    omega
  · have r : a ||| 128 = a := by
      have h2 := Nat.two_pow_add_eq_or_of_lt (i := 7) (b := a - 128) (by omega) 1
      rw [show 2 ^ 7 * 1 + (a - 128) = a by omega, show 2 ^ 7 * 1 = 128 from rfl] at h2
      rw [h2, Nat.or_comm, ← Nat.or_assoc, Nat.or_self]
    rw [r, show ((128 : Nat) : Int) = 128 from rfl] at e
    rw [e]
    omega
theorem specVar_loop (m : Nat) : ∀ (x : Int) (l : List Int), 0 ≤ x → x < 128 ^ (m + 1) → l.length + m ≤ 1000000000 → Ev (fun k => spec_PutVar.l0 k x l) (l ++ vb m x) := by
  induction m with
  | zero =>
    intro x l h0 h1 hl
    simp only [Nat.zero_add, Int.pow_one] at h1
    refine Ev.step (fun k => rfl) ?_
    refine ev_neg (by omega) (ev_pos (by omega) (ev_eq ev_some ?_))
    rw [vb, show x % 256 = x by omega]
  | succ m ih =>
    intro x l h0 h1 hl
    refine Ev.step (fun k => rfl) ?_
    rw [vb]
    refine ev_if (fun h => ?_) (fun h => ?_)
    · rw [if_neg (show ¬ x ≤ 127 by omega)]
      refine ev_pos (by omega) ?_
      rw [and127, or128 _ (by omega) (by omega), show (x % 128 + 128) % 256 = x % 128 + 128 by omega]
      have r := ih (x / 128) (l ++ [x % 128 + 128]) (by omega) (by rw [Int.pow_succ] at h1; generalize (128 : Int) ^ (m + 1) = p at h1 ⊢; omega) (by simp; omega)
      rw [List.append_assoc] at r
      exact r
    · rw [if_pos (show x ≤ 127 by omega)]
      refine ev_pos (by omega) (ev_eq ev_some ?_)
      rw [show x % 256 = x by omega]
theorem specSum_loop (m : Nat) : ∀ (x : Int) (l : List Int), 0 ≤ x → x < 128 ^ (m + 1) → l.length + m ≤ 1000000000 → Ev (fun k => spec_l6PutSum.l0 k l x) (l ++ vb m x) := by
  induction m with
  | zero =>
    intro x l h0 h1 hl
    simp only [Nat.zero_add, Int.pow_one] at h1
    refine Ev.step (fun k => rfl) ?_
    refine ev_neg (by omega) (ev_pos (by omega) (ev_eq ev_some ?_))
    rw [vb, show x % 256 = x by omega]
  | succ m ih =>
    intro x l h0 h1 hl
    refine Ev.step (fun k => rfl) ?_
    rw [vb]
    refine ev_if (fun h => ?_) (fun h => ?_)
    · rw [if_neg (show ¬ x ≤ 127 by omega)]
      refine ev_pos (by omega) ?_
      rw [and127, or128 _ (by omega) (by omega), show (x % 128 + 128) % 256 = x % 128 + 128 by omega]
      have r := ih (x / 128) (l ++ [x % 128 + 128]) (by omega) (by rw [Int.pow_succ] at h1; generalize (128 : Int) ^ (m + 1) = p at h1 ⊢; omega) (by simp; omega)
      rw [List.append_assoc] at r
      exact r
    · rw [if_pos (show x ≤ 127 by omega)]
      refine ev_pos (by omega) (ev_eq ev_some ?_)
      rw [show x % 256 = x by omega]
theorem implVar_loop (m : Nat) : ∀ (x : Int) (l : List Int), 0 ≤ x → x < 128 ^ (m + 1) → l.length + m ≤ 1000000000 → Ev (fun k => impl_appendVar.l0 k l x) (l ++ vb m x) := by
  induction m with
  | zero =>
    intro x l h0 h1 hl
    simp only [Nat.zero_add, Int.pow_one] at h1
    refine Ev.step (fun k => rfl) ?_
    refine ev_neg (by omega) (ev_pos (by omega) (ev_eq ev_some ?_))
    rw [vb, show x % 256 = x by omega]
  | succ m ih =>
    intro x l h0 h1 hl
    refine Ev.step (fun k => rfl) ?_
    rw [vb]
    refine ev_if (fun h => ?_) (fun h => ?_)
    · rw [if_neg (show ¬ x ≤ 127 by omega)]
      refine ev_pos (by omega) ?_
      rw [or128_u8 _ (by omega) (by omega), show x % 256 % 128 = x % 128 by omega]
      have r := ih (x / 128) (l ++ [x % 128 + 128]) (by omega) (by rw [Int.pow_succ] at h1; generalize (128 : Int) ^ (m + 1) = p at h1 ⊢; omega) (by simp; omega)
      rw [List.append_assoc] at r
      exact r
    · rw [if_pos (show x ≤ 127 by omega)]
      refine ev_pos (by omega) (ev_eq ev_some ?_)
      rw [show x % 256 = x by omega]
theorem p128_9 : (128 : Int) ^ (8 + 1) = 9223372036854775808 := by decide
def putVar (l : List Int) (x : Int) : List Int := if 0 ≤ x ∧ x ≤ 1000000000000 then l ++ encVar x else l
theorem putVar_length (l : List Int) (x : Int) : (putVar l x).length ≤ l.length + 9 := by
  unfold putVar
  split
  · rw [List.length_append]
    have := encVar_length x
    omega
  · omega
theorem specPutVar_ev (l : List Int) (x : Int) (hl : l.length ≤ 100000000) : Ev (fun k => spec_PutVar.f k l x) (putVar l x) := by
  unfold spec_PutVar.f putVar encVar
  simp only [Option.bind_some]
  refine ev_pos (by simp; omega) ?_
  rw [List.nil_append, l1In_eq]
  refine Ev.bind ev_some (ev_if (fun h => ?_) (fun h => ev_eq ev_some (by rw [if_neg (by simpa using h)])))
  have h' : 0 ≤ x ∧ x ≤ 1000000000000 := by simpa using h
  rw [if_pos h']
  exact specVar_loop 8 x l h'.1 (by rw [p128_9]; omega) (by omega)
theorem implPutVar_ev (l : List Int) (x : Int) (hl : l.length ≤ 100000000) : Ev (fun k => impl_PutVar.f k l x) (putVar l x) := by
  unfold impl_PutVar.f putVar encVar
  have ec : impl_cloned.f l = some l := by
    unfold impl_cloned.f
    rw [if_pos (by omega)]
  rw [ec, within_eq]
  refine Ev.bind ev_some (Ev.bind ev_some (ev_if (fun h => ?_) (fun h => ev_eq ev_some (by rw [if_neg (by simpa using h)]))))
  have h' : 0 ≤ x ∧ x ≤ 1000000000000 := by simpa using h
  rw [if_pos h']
  exact Ev.bind (implVar_loop 8 x l h'.1 (by rw [p128_9]; omega) (by omega)) ev_some
theorem specPutSum_ev (l : List Int) (x : Int) (h0 : 0 ≤ x) (h1 : x ≤ 9223372036854775807) (hl : l.length ≤ 100000000) : Ev (fun k => spec_l6PutSum.f k l x) (l ++ encVar x) := by
  unfold spec_l6PutSum.f encVar
  exact specSum_loop 8 x l h0 (by rw [p128_9]; omega) (by omega)
theorem implAppendVar_ev (l : List Int) (x : Int) (h0 : 0 ≤ x) (h1 : x ≤ 9223372036854775807) (hl : l.length ≤ 100000000) : Ev (fun k => impl_appendVar.f k l x) (l ++ encVar x) := by
  unfold impl_appendVar.f encVar
  exact implVar_loop 8 x l h0 (by rw [p128_9]; omega) (by omega)
end Go.Proofs.Ytdohjkbgbplgmaa.Pb
/- Weak sums of bytes: the program's and the reference's ways. No condition beyond the bytes' range. -/
namespace Go.Proofs.Ytdohjkbgbplgmaa.Pb
open Go.RowKit Go.Proofs.Ytdohjkbgbplgmaa Go.Proofs.Ytdohjkbgbplgmaa.Q Go.Proofs.YtdohjkbgbplgmaaW.PrintWords Go.Proofs.YtdohjkbgbplgmaaW.PrintLast
set_option linter.unusedVariables false
set_option linter.unusedSimpArgs false

theorem iter_foldl {α σ : Type} (f : σ → α → σ) (l : List α) (d : α) (s0 : σ) (n : Nat) (hn : n ≤ l.length) : iter n (fun i s => f s (l.getD i d)) s0 = (l.take n).foldl f s0 := by
  induction n with
  | zero => simp [iter_zero]
  | succ n ih =>
    rw [iter_succ, ih (by omega), List.take_succ_eq_append_getElem (by omega), List.foldl_append]
    simp [List.getD_eq_getElem?_getD, (show n < l.length by omega)]
theorem iter_foldl_all {α σ : Type} (f : σ → α → σ) (l : List α) (d : α) (s0 : σ) : iter l.length (fun i s => f s (l.getD i d)) s0 = l.foldl f s0 := by
  rw [iter_foldl f l d s0 l.length (Nat.le_refl _), List.take_length]

/-- All are bytes. -/
def Bytes (l : List Int) : Prop := ∀ x ∈ l, 0 ≤ x ∧ x ≤ 255
theorem bytes_getD {l : List Int} (h : Bytes l) (i : Nat) : 0 ≤ l.getD i 0 ∧ l.getD i 0 ≤ 255 := by
  rw [List.getD_eq_getElem?_getD]
  by_cases q : i < l.length
  · simp only [q, List.getElem?_eq_getElem, Option.getD_some]
    exact h _ (List.getElem_mem q)
  · simp [q]
def weakStep (p : Int × Int) (b : Int) : Int × Int := ((p.1 + b) % 251, (p.2 + (p.1 + b) % 251) % 251)
def weakPair (l : List Int) : Int × Int := l.foldl weakStep (0, 0)
def weakOf (l : List Int) : Int := (weakPair l).1 + 251 * (weakPair l).2
def WeakIn (p : Int × Int) : Prop := 0 ≤ p.1 ∧ p.1 < 251 ∧ 0 ≤ p.2 ∧ p.2 < 251
theorem weakStep_in (p : Int × Int) (b : Int) : WeakIn (weakStep p b) := by
  unfold WeakIn weakStep
  simp only
  omega
theorem weakPair_in (l : List Int) : WeakIn (weakPair l) := by
  unfold weakPair
  rcases List.eq_nil_or_concat l with rfl | ⟨l', x, rfl⟩
  · simp [WeakIn]
  · rw [List.concat_eq_append, List.foldl_append]
    exact weakStep_in _ _
theorem weakOf_range (l : List Int) : 0 ≤ weakOf l ∧ weakOf l ≤ 63000 := by
  have h := weakPair_in l
  unfold WeakIn at h
  unfold weakOf
  omega
theorem weak_step (x y b : Int) (h : WeakIn (x, y)) (hb : 0 ≤ b ∧ b ≤ 255) : Int.tmod (wrap64 (x + (wrap64 b))) 251 = (weakStep (x, y) b).1 ∧ Int.tmod (wrap64 (y + (Int.tmod (wrap64 (x + (wrap64 b))) 251))) 251 = (weakStep (x, y) b).2 := by
  unfold WeakIn at h
  simp only at h
  have e1 : Int.tmod (wrap64 (x + (wrap64 b))) 251 = (x + b) % 251 := by
    rw [w64 (x := b) (by omega) (by omega), w64 (x := x + b) (by omega) (by omega), Int.tmod_eq_emod_of_nonneg (by omega)]
  rw [e1]
  refine ⟨rfl, ?_⟩
  rw [w64 (by omega) (by omega), Int.tmod_eq_emod_of_nonneg (by omega)]
  rfl
theorem specWeakOf_ev (l : List Int) (hl : l.length ≤ 1048576) (hb : Bytes l) : Ev (fun k => spec_WeakOf.f k l) (weakOf l) := by
  unfold spec_WeakOf.f
  refine loop_up (σ := Int × Int) (fun k s i => spec_WeakOf.l0 k l s.1 s.2 i) l.length (fun i s => weakStep s (l.getD i 0)) (fun i s => WeakIn s) (0, 0) _ (by simp [WeakIn]) (fun i s _ _ => weakStep_in _ _) ?_ ?_
  · rintro i ⟨x, y⟩ r hi hs h
    refine Ev.step (fun k => rfl) ?_
    refine ev_pos (by omega) (ev_pos (by omega) ?_)
    have e := weak_step x y (l.getD i 0) hs (bytes_getD hb i)
    simp only [rd, Int.toNat_natCast]
    rw [e.1, ← e.1, e.2, e.1, w64 (x := (i : Int) + 1) (by omega) (by omega)]
    exact h
  · intro hs
    refine Ev.step (fun k => rfl) ?_
    refine ev_neg (by omega) (ev_eq ev_some ?_)
    rw [iter_foldl_all weakStep l 0 (0, 0)] at hs ⊢
    unfold WeakIn at hs
    rw [w64 (x := 251 * _) (by omega) (by omega), w64 (by omega) (by omega)]
    rfl
theorem implWeakOf_ev (l : List Int) (hl : l.length ≤ 1048576) (hb : Bytes l) : Ev (fun k => impl_WeakOf.f k l) (weakOf l) := by
  unfold impl_WeakOf.f
  refine loop_up (σ := Int × Int) (fun k s i => impl_WeakOf.l0 k s.1 s.2 l (l.length : Int) i) l.length (fun i s => weakStep s (l.getD i 0)) (fun i s => WeakIn s) (0, 0) _ (by simp [WeakIn]) (fun i s _ _ => weakStep_in _ _) ?_ ?_
  · rintro i ⟨x, y⟩ r hi hs h
    refine Ev.step (fun k => rfl) ?_
    refine ev_pos (by omega) (ev_pos (by omega) (ev_pos (by omega) ?_))
    have e := weak_step x y (l.getD i 0) hs (bytes_getD hb i)
    simp only [rd, Int.toNat_natCast]
    rw [e.1, ← e.1, e.2, e.1, w64 (x := (i : Int) + 1) (by omega) (by omega)]
    exact h
  · intro hs
    refine Ev.step (fun k => rfl) ?_
    refine ev_neg (by omega) ?_
    rw [iter_foldl_all weakStep l 0 (0, 0)] at hs ⊢
    unfold WeakIn at hs
    have wr : ∀ x : Int, 0 ≤ x → x < 251 → impl_Wrap.f x 251 = some x := by
      intro x h0 h1
      unfold impl_Wrap.f
      rw [within_eq]
      simp only [Option.bind_some]
      rw [if_pos (by decide), if_neg (by decide), Int.tmod_eq_emod_of_nonneg h0, w64 (by omega) (by omega), Int.tmod_eq_emod_of_nonneg (by omega)]
      congr 1
      omega
    have e : impl_weak.f (List.foldl weakStep (0, 0) l).1 (List.foldl weakStep (0, 0) l).2 = some (weakOf l) := by
      unfold impl_weak.f
      rw [wr _ hs.1 hs.2.1, wr _ hs.2.2.1 hs.2.2.2]
      simp only [Option.bind_some]
      rw [w64 (x := 251 * _) (by omega) (by omega), w64 (by omega) (by omega)]
      rfl
    exact ev_then e ev_some
end Go.Proofs.Ytdohjkbgbplgmaa.Pb
/- The bytes of a strong sum: the program's and the reference's ways. No condition. -/
namespace Go.Proofs.Ytdohjkbgbplgmaa.Pb
open Go.RowKit Go.Proofs.Ytdohjkbgbplgmaa Go.Proofs.Ytdohjkbgbplgmaa.Q Go.Proofs.YtdohjkbgbplgmaaW.PrintWords Go.Proofs.YtdohjkbgbplgmaaW.PrintLast Go.Proofs.YtdohjkbgbplgmaaW.PrintMore
set_option linter.unusedVariables false
set_option linter.unusedSimpArgs false

theorem shr_of (x y : Int) (h1 : y ≤ 64) : shr .i64 x y = x / 2 ^ y.toNat := by
  unfold shr
  rw [Nat.min_eq_left (by simp [IntKind.bits]; omega)]
/-- The low digits to 256, the highest of them first. -/
def digs : Nat → Int → List Int
  | 0, _ => []
  | c + 1, x => digs c (x / 256) ++ [x % 256]
theorem digs_length (c : Nat) : ∀ x, (digs c x).length = c := by
  induction c with
  | zero => intro x; rfl
  | succ c ih => intro x; simp [digs, ih]
theorem digs_bytes (c : Nat) : ∀ x, Bytes (digs c x) := by
  induction c with
  | zero => intro x; simp [digs, Bytes]
  | succ c ih =>
    intro x y hy
    rw [digs, List.mem_append, List.mem_singleton] at hy
    rcases hy with hy | rfl
    · exact ih _ y hy
    · omega
theorem pow256_succ (c : Nat) : (256 : Int) ^ (c + 1) = 256 * 256 ^ c := by rw [Int.pow_succ, Int.mul_comm]
theorem div256 (x : Int) (c : Nat) : x / 256 ^ (c + 1) = x / 256 / 256 ^ c := by
  rw [pow256_succ, Int.ediv_ediv_of_nonneg (by decide)]
theorem digs_map (c : Nat) : ∀ x, digs c x = (List.range c).map (fun i => x / 256 ^ (c - 1 - i) % 256) := by
  induction c with
  | zero => intro x; rfl
  | succ c ih =>
    intro x
    rw [digs, ih, List.range_succ, List.map_append, List.map_singleton]
    congr 1
    · apply List.map_congr_left
      intro i hi
      have hi' := List.mem_range.1 hi
      rw [show c + 1 - 1 - i = (c - 1 - i) + 1 by omega, div256]
    · simp
theorem p256_0 : (256 : Int) ^ 0 = 1 := by decide
theorem p256_1 : (256 : Int) ^ 1 = 256 := by decide
theorem p256_2 : (256 : Int) ^ 2 = 65536 := by decide
theorem p256_3 : (256 : Int) ^ 3 = 16777216 := by decide
theorem p256_4 : (256 : Int) ^ 4 = 4294967296 := by decide
theorem p256_5 : (256 : Int) ^ 5 = 1099511627776 := by decide
theorem p256_6 : (256 : Int) ^ 6 = 281474976710656 := by decide
/-- How many digits a sum's number has behind its leading one, up to six. -/
def cnt (x : Int) : Nat := if x ≤ 1 then 0 else if x / 256 ≤ 1 then 1 else if x / 65536 ≤ 1 then 2 else if x / 16777216 ≤ 1 then 3 else if x / 4294967296 ≤ 1 then 4 else if x / 1099511627776 ≤ 1 then 5 else 6
def bytesOf (x : Int) : List Int × Bool := if 1 ≤ x ∧ x / 256 ^ (cnt x) = 1 then (digs (cnt x) x, true) else ([], false)
theorem cnt_le (x : Int) : cnt x ≤ 6 := by
  unfold cnt
  repeat' split
  all_goals omega
theorem bytesOf_bytes (x : Int) : Bytes (bytesOf x).1 := by
  unfold bytesOf
  split
  · exact digs_bytes _ _
  · simp [Bytes]
theorem bytesOf_length (x : Int) : (bytesOf x).1.length ≤ 6 := by
  unfold bytesOf
  split
  · simp only [digs_length]; exact cnt_le x
  · simp
theorem specBytes_yes (c : Nat) : ∀ (x : Int) (acc : List Int), x / 256 ^ c = 1 → 1 ≤ x → c + acc.length ≤ 1000 → Ev (fun k => spec_BytesOf.l0 k x acc) (digs c x ++ acc, true) := by
  induction c with
  | zero =>
    intro x acc h hx hl
    have e : x = 1 := by simpa using h
    subst e
    refine Ev.step (fun k => rfl) ?_
    exact ev_neg (by omega) (ev_eq ev_some rfl)
  | succ c ih =>
    intro x acc h hx hl
    rw [div256] at h
    have hp : (0 : Int) < 256 ^ c := Int.pow_pos (by decide)
    have hge : 1 ≤ x / 256 := by
      by_cases q : 1 ≤ x / 256
      · exact q
      · have z : x / 256 = 0 := by omega
        rw [z, Int.zero_ediv] at h
        omega
    refine Ev.step (fun k => rfl) ?_
    refine ev_pos (by omega) (ev_neg (by omega) ?_)
    simp only [Option.bind_some]
    refine ev_pos (by simp only [List.length_cons, List.length_nil]; omega) ?_
    have r := ih (x / 256) ([(Go.bits .and .i64 x 255) % 256] ++ acc) h hge (by simp; omega)
    rw [and255, Int.emod_emod_of_dvd _ (by decide)] at r ⊢
    rw [digs, List.append_assoc]
    exact r
theorem specBytes_no (m : Nat) : ∀ (x : Int) (acc : List Int), 1 ≤ x → x < 2 * 256 ^ m → (∀ c, c ≤ m → x / 256 ^ c ≠ 1) → m + acc.length ≤ 1000 → Ev (fun k => spec_BytesOf.l0 k x acc) ([], false) := by
  induction m with
  | zero =>
    intro x acc hx hm hc hl
    exact absurd (show x / 256 ^ 0 = 1 by simp at hm ⊢; omega) (hc 0 (by omega))
  | succ m ih =>
    intro x acc hx hm hc hl
    have h1 : x ≠ 1 := by have := hc 0 (by omega); simpa using this
    refine Ev.step (fun k => rfl) ?_
    refine ev_pos (by omega) ?_
    refine ev_if (fun _ => ev_some) (fun hge => ?_)
    simp only [Option.bind_some]
    refine ev_pos (by simp only [List.length_cons, List.length_nil]; omega) ?_
    refine ih (x / 256) _ (by omega) ?_ (fun c h => by rw [← div256]; exact hc (c + 1) (by omega)) (by simp; omega)
    rw [pow256_succ] at hm
    generalize (256 : Int) ^ m = p at hm ⊢
    omega
theorem cnt_iff (x : Int) (hx : 1 ≤ x) (h : x ≤ 562949953421311) (c : Nat) (hc : c ≤ 6) (e : x / 256 ^ c = 1) : cnt x = c := by
  unfold cnt
  rcases (show c = 0 ∨ c = 1 ∨ c = 2 ∨ c = 3 ∨ c = 4 ∨ c = 5 ∨ c = 6 by omega) with rfl | rfl | rfl | rfl | rfl | rfl | rfl <;> simp only [p256_0, p256_1, p256_2, p256_3, p256_4, p256_5, p256_6, Int.ediv_one] at e <;> (repeat' split) <;> omega
theorem specBytesOf_ev (x : Int) : Ev (fun k => spec_BytesOf.f k x) (bytesOf x) := by
  unfold spec_BytesOf.f
  rw [l1In_eq]
  simp only [Option.bind_some]
  refine ev_if (fun h => ?_) (fun h => ev_eq ev_some ?_)
  · have h' : 1 ≤ x ∧ x ≤ 562949953421311 := by simpa using h
    unfold bytesOf
    by_cases q : x / 256 ^ (cnt x) = 1
    · rw [if_pos ⟨h'.1, q⟩]
      exact ev_eq (specBytes_yes (cnt x) x [] q h'.1 (by have := cnt_le x; simp; omega)) (by simp)
    · rw [if_neg (fun z => q z.2)]
      refine specBytes_no 6 x [] h'.1 (by rw [p256_6]; omega) (fun c hc e => ?_) (by simp)
      rw [cnt_iff x h'.1 h'.2 c hc e] at q
      exact q e
  · have h' : ¬ (1 ≤ x ∧ x ≤ 562949953421311) := by simpa using h
    unfold bytesOf
    rw [if_neg]
    rintro ⟨h1, h2⟩
    have : cnt x = 6 := by
      unfold cnt
      repeat' split
      all_goals omega
    rw [this] at h2
    rw [p256_6] at h2
    omega
theorem shr_pow (x : Int) (c : Nat) (hc : c ≤ 6) : shr .i64 x (wrap64 (8 * (c : Int))) = x / 256 ^ c := by
  rw [w64 (by omega) (by omega), shr_of _ _ (by omega), show (8 * (c : Int)).toNat = 8 * c by omega, Int.pow_mul]
  rfl
theorem implBytes_tail (x : Int) (c : Nat) (hc : c ≤ 6) (hx : c = cnt x) : Ev (fun k => impl_BytesOf.j1 k x (c : Int)) (bytesOf x) := by
  have fin : Ev (fun k => impl_BytesOf.j2 k x (c : Int) false) (digs c x, true) := by
    refine Ev.step (fun k => rfl) ?_
    refine ev_pos (by omega) ?_
    simp only [Option.bind_some, Int.toNat_natCast]
    refine loop_up (fun k s i => impl_BytesOf.l1 k x (c : Int) s (((List.replicate c (0 : Int)).length : Nat) : Int) i) c (fun i (s : List Int) => s.set i (x / 256 ^ (c - 1 - i) % 256)) (fun _ s => s.length = c) (List.replicate c 0) _ (by simp) (fun i s _ h => by simpa using h) ?_ ?_
    · intro i s r hi hs h
      have e : (c : Int) - 1 - (i : Int) = ((c - 1 - i : Nat) : Int) := by omega
      refine Ev.step (fun k => rfl) ?_
      refine ev_pos (by simp; omega) ?_
      rw [w64 (x := (c : Int) - 1) (by omega) (by omega), w64 (x := (c : Int) - 1 - i) (by omega) (by omega), e]
      refine ev_pos (by rw [w64 (by omega) (by omega)]; omega) (ev_pos (by omega) (ev_pos (by omega) ?_))
      rw [shr_pow _ _ (by omega), w64 (x := (i : Int) + 1) (by omega) (by omega)]
      exact h
    · intro hs
      refine Ev.step (fun k => rfl) ?_
      refine ev_neg (by simp) (ev_eq ev_some ?_)
      rw [iter_set c (fun i => x / 256 ^ (c - 1 - i) % 256) _ (by simp), digs_map]
  have bad : Ev (fun k => impl_BytesOf.j2 k x (c : Int) true) ([], false) := by
    refine Ev.step (fun k => rfl) ?_
    exact ev_some
  refine Ev.step (fun k => rfl) ?_
  unfold bytesOf
  rw [← hx]
  refine ev_if (fun h => ?_) (fun h => ev_pos (by rw [w64 (by omega) (by omega)]; omega) ?_)
  · rw [if_neg (by omega)]
    exact bad
  · rw [shr_pow _ _ hc]
    by_cases q : x / 256 ^ c = 1
    · rw [if_pos ⟨by omega, q⟩, q]
      exact fin
    · rw [if_neg (fun z => q z.2)]
      have : ((x / 256 ^ c) != 1) = true := by simpa using q
      rw [this]
      exact bad
theorem implBytes_loop (x : Int) (d : Nat) : ∀ c : Nat, c + d = 6 → c ≤ cnt x → Ev (fun k => impl_BytesOf.l0 k x (c : Int)) (bytesOf x) := by
  induction d with
  | zero =>
    intro c h hc
    have := cnt_le x
    refine Ev.step (fun k => rfl) ?_
    exact ev_neg (by omega) (implBytes_tail x c (by omega) (by omega))
  | succ d ih =>
    intro c h hc
    refine Ev.step (fun k => rfl) ?_
    refine ev_pos (by omega) (ev_pos (by rw [w64 (by omega) (by omega)]; omega) ?_)
    rw [shr_pow _ _ (by omega)]
    have key : (x / 256 ^ c > 1) ↔ c < cnt x := by
      have l : ∀ q : Nat, (if q < c then 1 else 0) + q ≥ 0 := fun q => by omega
      unfold cnt at hc ⊢
      rcases (show c = 0 ∨ c = 1 ∨ c = 2 ∨ c = 3 ∨ c = 4 ∨ c = 5 by omega) with rfl | rfl | rfl | rfl | rfl | rfl <;> simp only [p256_0, p256_1, p256_2, p256_3, p256_4, p256_5, p256_6, Int.ediv_one] <;> (repeat' split at hc) <;> (repeat' split) <;> omega
    refine ev_if (fun q => ?_) (fun q => ?_)
    · rw [w64 (by omega) (by omega)]
      exact ih (c + 1) (by omega) (key.1 q)
    · exact implBytes_tail x c (by omega) (by have := mt key.2 q; omega)
theorem implBytesOf_ev (x : Int) : Ev (fun k => impl_BytesOf.f k x) (bytesOf x) := implBytes_loop x 6 0 (by omega) (by omega)
end Go.Proofs.Ytdohjkbgbplgmaa.Pb
/- A block's sum, as the reference makes it. No condition beyond the bytes' range. -/
namespace Go.Proofs.Ytdohjkbgbplgmaa.Pb
open Go.RowKit Go.Proofs.Ytdohjkbgbplgmaa Go.Proofs.Ytdohjkbgbplgmaa.Q Go.Proofs.YtdohjkbgbplgmaaW.PrintWords Go.Proofs.YtdohjkbgbplgmaaW.PrintLast
set_option linter.unusedVariables false
set_option linter.unusedSimpArgs false

/-- The strong sum: the bytes as one number, behind a leading one. -/
def strong (l : List Int) : Int := l.foldl (fun s b => 256 * s + b) 1
def sumOf (l : List Int) : Int × Int := if (l.length : Int) > 6 then (0, 0) else (weakOf l, strong l)
theorem p256_le (i : Nat) (h : i ≤ 6) : 1 ≤ (256 : Int) ^ i ∧ (256 : Int) ^ i ≤ 281474976710656 := by
  rcases (show i = 0 ∨ i = 1 ∨ i = 2 ∨ i = 3 ∨ i = 4 ∨ i = 5 ∨ i = 6 by omega) with rfl | rfl | rfl | rfl | rfl | rfl | rfl <;> simp only [p256_0, p256_1, p256_2, p256_3, p256_4, p256_5, p256_6] <;> omega
/-- What a prefix's strong sum stays under. -/
def StrongIn (i : Nat) (s : Int) : Prop := 1 ≤ s ∧ s < 2 * 256 ^ i
theorem strongIn_step {i : Nat} {s b : Int} (h : StrongIn i s) (hb : 0 ≤ b ∧ b ≤ 255) : StrongIn (i + 1) (256 * s + b) := by
  unfold StrongIn at h ⊢
  rw [pow256_succ]
  generalize (256 : Int) ^ i = p at h ⊢
  omega
theorem strongIn_le {i : Nat} {s : Int} (h : StrongIn i s) (hi : i ≤ 6) : 1 ≤ s ∧ s ≤ 562949953421311 := by
  unfold StrongIn at h
  have := p256_le i hi
  omega
theorem specSumOf_ev (l : List Int) (hb : Bytes l) : Ev (fun k => spec_SumOf.f k l) (sumOf l) := by
  unfold spec_SumOf.f sumOf
  refine ev_if (fun h => ev_eq ev_some (by rw [if_pos h])) (fun h => ?_)
  rw [if_neg h]
  refine loop_up (σ := Int) (fun k s i => spec_SumOf.l0 k l s i) l.length (fun i s => 256 * s + l.getD i 0) (fun i s => StrongIn i s) 1 _ (by simp [StrongIn]) (fun i s _ hs => strongIn_step hs (bytes_getD hb i)) ?_ ?_
  · intro i s r hi hs h
    have q := strongIn_le hs (by omega)
    have z := bytes_getD hb i
    refine Ev.step (fun k => rfl) ?_
    refine ev_pos (by omega) (ev_pos (by omega) ?_)
    simp only [rd, Int.toNat_natCast]
    rw [w64 (x := 256 * s) (by omega) (by omega), w64 (x := l.getD i 0) (by omega) (by omega), w64 (x := 256 * s + l.getD i 0) (by omega) (by omega), w64 (x := (i : Int) + 1) (by omega) (by omega)]
    exact h
  · intro hs
    refine Ev.step (fun k => rfl) ?_
    refine ev_neg (by omega) (Ev.bind (specWeakOf_ev l (by omega) hb) (ev_eq ev_some ?_))
    rw [iter_foldl_all (fun s b => 256 * s + b) l 0 1]
    rfl
theorem strong_digs (c : Nat) : ∀ x : Int, 1 ≤ x → x / 256 ^ c = 1 → strong (digs c x) = x := by
  induction c with
  | zero => intro x h1 h; simp at h; simp [digs, strong, h]
  | succ c ih =>
    intro x h1 h
    rw [div256] at h
    have hge : 1 ≤ x / 256 := by
      by_cases q : 1 ≤ x / 256
      · exact q
      · have z : x / 256 = 0 := by omega
        rw [z, Int.zero_ediv] at h
        omega
    have e := ih (x / 256) hge h
    unfold strong at e ⊢
    rw [digs, List.foldl_append, e]
    simp only [List.foldl_cons, List.foldl_nil]
    omega
theorem bytesOf_strong (x : Int) (h : (bytesOf x).2 = true) : sumOf (bytesOf x).1 = (weakOf (bytesOf x).1, x) := by
  have hl := bytesOf_length x
  unfold sumOf
  rw [if_neg (by omega)]
  unfold bytesOf at h ⊢
  split at h
  · rename_i q
    rw [if_pos q]
    simp only
    rw [strong_digs _ _ q.1 q.2]
  · simp at h
end Go.Proofs.Ytdohjkbgbplgmaa.Pb
/- Sizes of blocks, how many there are, where each lies. No condition. -/
namespace Go.Proofs.Ytdohjkbgbplgmaa.Pb
open Go.RowKit Go.Proofs.Ytdohjkbgbplgmaa Go.Proofs.Ytdohjkbgbplgmaa.Q Go.Proofs.YtdohjkbgbplgmaaW.PrintWords Go.Proofs.YtdohjkbgbplgmaaW.PrintLast
set_option linter.unusedVariables false
set_option linter.unusedSimpArgs false

def sizeOk (a b : Int) : Bool := decide (2 ≤ a ∧ a ≤ 6) && decide (0 ≤ b ∧ b ≤ 40 * a)
theorem specSizeOk_eq (a b : Int) : spec_SizeOk.f a b = some (sizeOk a b) := by
  unfold spec_SizeOk.f sizeOk
  rw [l1In_eq]
  simp only [Option.bind_some]
  by_cases h : 2 ≤ a ∧ a ≤ 6
  · rw [if_pos (by simpa using h), l1In_eq, w64 (by omega) (by omega)]
    simp [h, Int.mul_comm]
  · rw [if_neg (by simpa using h)]
    simp [h]
theorem implSizeOk_eq (a b : Int) : impl_SizeOk.f a b = some (sizeOk a b) := by
  unfold impl_SizeOk.f sizeOk
  rw [within_eq]
  simp only [Option.bind_some]
  by_cases h : 2 ≤ a ∧ a ≤ 6
  · rw [if_pos (by simpa using h), within_eq, w64 (by omega) (by omega)]
    simp [h, Int.mul_comm]
  · rw [if_neg (by simpa using h)]
    simp [h]
theorem sizeOk_iff {a b : Int} : sizeOk a b = true ↔ (2 ≤ a ∧ a ≤ 6) ∧ 0 ≤ b ∧ b ≤ 40 * a := by simp [sizeOk, and_assoc]
def blocks (a b : Int) : Int := if sizeOk a b = true then (b + a - 1) / a else 0
theorem ceil_le {a b : Int} (h : (2 ≤ a ∧ a ≤ 6) ∧ 0 ≤ b ∧ b ≤ 40 * a) : 0 ≤ (b + a - 1) / a ∧ (b + a - 1) / a ≤ 40 := by
  constructor
  · exact Int.ediv_nonneg (by omega) (by omega)
  · have : (b + a - 1) / a < 41 := by
      apply Int.ediv_lt_of_lt_mul (by omega)
      omega
    omega
theorem specBlocks_eq (a b : Int) : spec_Blocks.f a b = some (blocks a b) := by
  unfold spec_Blocks.f blocks
  rw [specSizeOk_eq]
  simp only [Option.bind_some]
  by_cases h : sizeOk a b = true
  · have h' := sizeOk_iff.1 h
    have c := ceil_le h'
    rw [if_pos h, if_pos h]
    unfold spec_CeilDiv.f
    rw [l1In_eq]
    simp only [Option.bind_some]
    rw [if_pos (by simp; omega), l1In_eq]
    simp only [Option.bind_some]
    rw [if_pos (by simp; omega), if_neg (by omega), w64 (x := b + a) (by omega) (by omega), w64 (x := b + a - 1) (by omega) (by omega), Int.tdiv_eq_ediv_of_nonneg (by omega), w64 (by omega) (by omega)]
    rfl
  · rw [if_neg h, if_neg h]
theorem implBlocks_eq (a b : Int) : impl_Blocks.f a b = some (blocks a b) := by
  unfold impl_Blocks.f blocks
  rw [implSizeOk_eq]
  simp only [Option.bind_some]
  by_cases h : sizeOk a b = true
  · have h' := sizeOk_iff.1 h
    have c := ceil_le h'
    rw [if_pos h, if_pos h]
    unfold impl_CeilDiv.f
    rw [within_eq]
    simp only [Option.bind_some]
    rw [if_pos (by simp; omega), within_eq]
    simp only [Option.bind_some]
    rw [if_pos (by simp; omega), if_neg (by omega), w64 (x := b + a) (by omega) (by omega), w64 (x := b + a - 1) (by omega) (by omega), Int.tdiv_eq_ediv_of_nonneg (by omega), w64 (by omega) (by omega)]
    rfl
  · rw [if_neg h, if_neg h]
theorem blocks_range (a b : Int) : 0 ≤ blocks a b ∧ blocks a b ≤ 40 := by
  unfold blocks
  split
  · rename_i h
    exact ceil_le (sizeOk_iff.1 h)
  · omega
theorem blocks_pos {a b : Int} (h : 0 < blocks a b) : (2 ≤ a ∧ a ≤ 6) ∧ 0 ≤ b ∧ b ≤ 40 * a := by
  unfold blocks at h
  split at h
  · rename_i q
    exact sizeOk_iff.1 q
  · omega
/-- Where a block lies, and how long it is. -/
def spanOf (a b i : Int) : Int × Int := if 0 ≤ i ∧ i ≤ blocks a b - 1 then (i * a, if b - i * a < a then b - i * a else a) else (0, 0)
theorem span_at {a b i : Int} (h : 0 ≤ i ∧ i ≤ blocks a b - 1) : 0 ≤ i * a ∧ i * a < b ∧ b ≤ 240 ∧ 2 ≤ a ∧ a ≤ 6 := by
  have q := blocks_pos (a := a) (b := b) (by omega)
  have e : blocks a b = (b + a - 1) / a := by
    unfold blocks
    rw [if_pos (sizeOk_iff.2 q)]
  rw [e] at h
  have m : (b + a - 1) / a * a ≤ b + a - 1 := Int.ediv_mul_le _ (by omega)
  have m2 : (i + 1) * a ≤ (b + a - 1) / a * a := Int.mul_le_mul_of_nonneg_right (by omega) (by omega)
  have m3 : 0 ≤ i * a := Int.mul_nonneg h.1 (by omega)
  rw [Int.add_mul] at m2
  omega
theorem spanOf_range (a b i : Int) : 0 ≤ (spanOf a b i).1 ∧ (spanOf a b i).1 ≤ 240 ∧ 0 ≤ (spanOf a b i).2 ∧ (spanOf a b i).2 ≤ 6 ∧ (spanOf a b i).1 + (spanOf a b i).2 ≤ 240 := by
  unfold spanOf
  split
  · rename_i h
    have := span_at h
    simp only
    split <;> omega
  · simp
theorem specSpanOf_eq (a b i : Int) : spec_SpanOf.f a b i = some (spanOf a b i) := by
  unfold spec_SpanOf.f spanOf
  have r := blocks_range a b
  rw [specBlocks_eq]
  simp only [Option.bind_some]
  rw [w64 (x := blocks a b - 1) (by omega) (by omega), l1In_eq]
  simp only [Option.bind_some]
  by_cases h : 0 ≤ i ∧ i ≤ blocks a b - 1
  · have s := span_at h
    rw [if_pos (by simpa using h), if_pos h, w64 (x := i * a) (by omega) (by omega), w64 (x := b - i * a) (by omega) (by omega)]
    unfold spec_Least.f
    split <;> simp
  · rw [if_neg (by simpa using h), if_neg h]
theorem implSpanOf_eq (a b i : Int) : impl_SpanOf.f a b i = some (spanOf a b i) := by
  unfold impl_SpanOf.f spanOf
  have r := blocks_range a b
  rw [implBlocks_eq]
  simp only [Option.bind_some]
  rw [w64 (x := blocks a b - 1) (by omega) (by omega), within_eq]
  simp only [Option.bind_some]
  by_cases h : 0 ≤ i ∧ i ≤ blocks a b - 1
  · have s := span_at h
    rw [if_pos (by simpa using h), if_pos h, w64 (x := i * a) (by omega) (by omega), w64 (x := b - i * a) (by omega) (by omega)]
    rfl
  · rw [if_neg (by simpa using h), if_neg h]
end Go.Proofs.Ytdohjkbgbplgmaa.Pb
/- Whether a manifest is a good one: the program's and the reference's ways. No condition beyond the size that the laws ask. -/
namespace Go.Proofs.Ytdohjkbgbplgmaa.Pb
open Go.RowKit Go.Proofs.Ytdohjkbgbplgmaa Go.Proofs.Ytdohjkbgbplgmaa.Q Go.Proofs.YtdohjkbgbplgmaaW.PrintWords Go.Proofs.YtdohjkbgbplgmaaW.PrintLast
set_option linter.unusedVariables false
set_option linter.unusedSimpArgs false

/-- A block's sum is a good one, at its place. -/
def blockOk (b c : Int) (l : List S76) (i : Nat) : Bool := (bytesOf (l.getD i z76).f1).2 && (decide (((bytesOf (l.getD i z76).f1).1.length : Int) = (spanOf b c i).2) && decide (weakOf (bytesOf (l.getD i z76).f1).1 = (l.getD i z76).f0))
def manOk (a b c : Int) (l : List S76) : Bool := if a = 0 then decide (b = 0 ∧ c = 0 ∧ l.length = 0) else if (1 ≤ a ∧ a ≤ 1000000) ∧ sizeOk b c = true ∧ (l.length : Int) = blocks b c then (List.range l.length).all (blockOk b c l) else false
theorem specMan_loop (a b c : Int) (l : List S76) (hl : l.length ≤ 1048576) : Ev (fun k => spec_ManOk.l0 k 0 a b c l) ((List.range l.length).all (blockOk b c l)) := by
  refine loop_all (fun k i => spec_ManOk.l0 k i a b c l) l.length _ ?_ ?_ ?_
  · intro i r hi hp h
    simp only [blockOk, Bool.and_eq_true, decide_eq_true_eq] at hp
    refine Ev.step (fun k => rfl) ?_
    refine ev_pos (by omega) (ev_pos (by omega) ?_)
    simp only [rd_T76, Int.toNat_natCast]
    refine Ev.bind (specBytesOf_ev _) (ev_then (specSpanOf_eq _ _ _) (ev_pos hp.1 (ev_pos hp.2.1 ?_)))
    refine Ev.bind (specSumOf_ev _ (bytesOf_bytes _)) ?_
    rw [bytesOf_strong _ hp.1]
    refine ev_neg (by rw [hp.2.2]; simp) ?_
    rw [w64 (by omega) (by omega)]
    exact h
  · intro i hi hp
    simp only [blockOk, Bool.and_eq_false_iff, decide_eq_false_iff_not] at hp
    refine Ev.step (fun k => rfl) ?_
    refine ev_pos (by omega) (ev_pos (by omega) ?_)
    simp only [rd_T76, Int.toNat_natCast]
    refine Ev.bind (specBytesOf_ev _) (ev_then (specSpanOf_eq _ _ _) ?_)
    refine ev_if (fun h1 => ?_) (fun _ => ev_some)
    refine ev_if (fun h2 => ?_) (fun _ => ev_some)
    refine Ev.bind (specSumOf_ev _ (bytesOf_bytes _)) ?_
    rw [bytesOf_strong _ h1]
    have h3 : ¬ weakOf (bytesOf (l.getD i z76).f1).1 = (l.getD i z76).f0 := by
      rcases hp with q | q | q
      · rw [h1] at q; cases q
      · exact absurd h2 q
      · exact q
    exact ev_pos (by rw [show (weakOf (bytesOf (l.getD i z76).f1).1 == (l.getD i z76).f0) = false from beq_eq_false_iff_ne.2 h3]; rfl) ev_some
  · refine Ev.step (fun k => rfl) ?_
    exact ev_neg (by omega) ev_some
theorem implMan_loop (a b c : Int) (l : List S76) (hl : l.length ≤ 1048576) : Ev (fun k => impl_ManOk.l0 k l (l.length : Int) 0 a b c l) ((List.range l.length).all (blockOk b c l)) := by
  refine loop_all (fun k i => impl_ManOk.l0 k l (l.length : Int) i a b c l) l.length _ ?_ ?_ ?_
  · intro i r hi hp h
    simp only [blockOk, Bool.and_eq_true, decide_eq_true_eq] at hp
    refine Ev.step (fun k => rfl) ?_
    refine ev_pos (by omega) (ev_pos (by omega) (ev_pos (by omega) ?_))
    simp only [rd_T76, Int.toNat_natCast]
    refine Ev.bind (implBytesOf_ev _) (ev_then (implSpanOf_eq _ _ _) (ev_pos hp.1 (ev_pos hp.2.1 ?_)))
    have hle := bytesOf_length (l.getD i z76).f1
    refine Ev.bind (implWeakOf_ev _ (by omega) (bytesOf_bytes _)) (ev_pos hp.2.2 ?_)
    rw [w64 (by omega) (by omega)]
    exact h
  · intro i hi hp
    simp only [blockOk, Bool.and_eq_false_iff, decide_eq_false_iff_not] at hp
    refine Ev.step (fun k => rfl) ?_
    refine ev_pos (by omega) (ev_pos (by omega) (ev_pos (by omega) ?_))
    simp only [rd_T76, Int.toNat_natCast]
    refine Ev.bind (implBytesOf_ev _) (ev_then (implSpanOf_eq _ _ _) ?_)
    refine ev_if (fun h1 => ?_) (fun _ => ev_some)
    refine ev_if (fun h2 => ?_) (fun _ => ev_some)
    have hle := bytesOf_length (l.getD i z76).f1
    refine Ev.bind (implWeakOf_ev _ (by omega) (bytesOf_bytes _)) ?_
    have h3 : ¬ weakOf (bytesOf (l.getD i z76).f1).1 = (l.getD i z76).f0 := by
      rcases hp with q | q | q
      · rw [h1] at q; cases q
      · exact absurd h2 q
      · exact q
    exact ev_neg h3 ev_some
  · refine Ev.step (fun k => rfl) ?_
    exact ev_neg (by omega) ev_some
theorem specManOk_ev (a b c : Int) (l : List S76) (hl : l.length ≤ 1048576) : Ev (fun k => spec_ManOk.f k a b c l) (manOk a b c l) := by
  unfold spec_ManOk.f manOk
  refine ev_if (fun ha => ?_) (fun ha => ?_)
  · rw [if_pos ha]
    refine ev_if (fun hb => ?_) (fun hb => ev_eq ev_some (by simp [hb]))
    refine ev_if (fun hc => ev_eq ev_some ?_) (fun hc => ev_eq ev_some (by simp [hc]))
    rw [Bool.eq_iff_iff]
    simp [hb, hc]
  · rw [if_neg ha, l1In_eq]
    simp only [Option.bind_some]
    have bad : ∀ (h : ¬ ((1 ≤ a ∧ a ≤ 1000000) ∧ sizeOk b c = true ∧ (l.length : Int) = blocks b c)), Ev (fun k => spec_ManOk.j0 k true a b c l) (if (1 ≤ a ∧ a ≤ 1000000) ∧ sizeOk b c = true ∧ (l.length : Int) = blocks b c then (List.range l.length).all (blockOk b c l) else false) := by
      intro h
      rw [if_neg h]
      refine Ev.step (fun k => rfl) ?_
      exact ev_some
    refine ev_if (fun h1 => ?_) (fun h1 => bad (fun z => h1 (by simpa using z.1)))
    rw [specSizeOk_eq]
    simp only [Option.bind_some]
    refine ev_if (fun h2 => ?_) (fun h2 => bad (fun z => h2 z.2.1))
    rw [specBlocks_eq]
    simp only [Option.bind_some]
    by_cases h3 : (l.length : Int) = blocks b c
    · have e : ((l.length : Int) != blocks b c) = false := by simp [h3]
      rw [e, if_pos ⟨by simpa using h1, h2, h3⟩]
      refine Ev.step (fun k => rfl) ?_
      exact specMan_loop a b c l hl
    · have e : ((l.length : Int) != blocks b c) = true := by simp [h3]
      rw [e]
      exact bad (fun z => h3 z.2.2)
theorem implManOk_ev (a b c : Int) (l : List S76) (hl : l.length ≤ 1048576) : Ev (fun k => impl_ManOk.f k a b c l) (manOk a b c l) := by
  unfold impl_ManOk.f manOk
  have ez : impl_isZeroMan.f a b c l = some (decide (a = 0 ∧ b = 0 ∧ c = 0 ∧ l.length = 0)) := by
    unfold impl_isZeroMan.f
    repeat' split
    all_goals simp_all
    all_goals rw [Bool.eq_iff_iff]; simp
  rw [ez]
  simp only [Option.bind_some]
  have bad : ∀ (h : ¬ ((1 ≤ a ∧ a ≤ 1000000) ∧ sizeOk b c = true ∧ (l.length : Int) = blocks b c)), Ev (fun k => impl_ManOk.j0 k true a b c l) (if (1 ≤ a ∧ a ≤ 1000000) ∧ sizeOk b c = true ∧ (l.length : Int) = blocks b c then (List.range l.length).all (blockOk b c l) else false) := by
    intro h
    rw [if_neg h]
    refine Ev.step (fun k => rfl) ?_
    exact ev_some
  by_cases ha : a = 0
  · rw [if_pos ha]
    refine ev_if (fun hz => ev_eq ev_some ?_) (fun hz => ?_)
    · simp only [decide_eq_true_eq] at hz
      simp [hz.2]
    · have e : decide (b = 0 ∧ c = 0 ∧ l.length = 0) = false := by
        simp only [decide_eq_true_eq] at hz
        rw [decide_eq_false_iff_not]
        exact fun q => hz ⟨ha, q⟩
      rw [e, within_eq]
      simp only [Option.bind_some]
      refine ev_neg (by simp; omega) ?_
      exact ev_eq (bad (by omega)) (by rw [if_neg (by omega)])
  · rw [if_neg ha]
    refine ev_neg (by simp [ha]) ?_
    rw [within_eq]
    simp only [Option.bind_some]
    refine ev_if (fun h1 => ?_) (fun h1 => bad (fun z => h1 (by simpa using z.1)))
    rw [implSizeOk_eq]
    simp only [Option.bind_some]
    refine ev_if (fun h2 => ?_) (fun h2 => bad (fun z => h2 z.2.1))
    rw [implBlocks_eq]
    simp only [Option.bind_some]
    by_cases h3 : (l.length : Int) = blocks b c
    · have e : ((l.length : Int) != blocks b c) = false := by simp [h3]
      rw [e, if_pos ⟨by simpa using h1, h2, h3⟩]
      refine Ev.step (fun k => rfl) ?_
      exact implMan_loop a b c l hl
    · have e : ((l.length : Int) != blocks b c) = true := by simp [h3]
      rw [e]
      exact bad (fun z => h3 z.2.2)
end Go.Proofs.Ytdohjkbgbplgmaa.Pb
/- Telling manifests apart: the reference's way. No condition beyond the size that the laws ask. -/
namespace Go.Proofs.Ytdohjkbgbplgmaa.Pb
open Go.RowKit Go.Proofs.Ytdohjkbgbplgmaa Go.Proofs.Ytdohjkbgbplgmaa.Q Go.Proofs.YtdohjkbgbplgmaaW.PrintWords Go.Proofs.YtdohjkbgbplgmaaW.PrintLast
set_option linter.unusedVariables false
set_option linter.unusedSimpArgs false

def sumAt (a b : List S76) (i : Nat) : Bool := !(!(((a.getD i z76).f0) == ((b.getD i z76).f0)) || (!(((a.getD i z76).f1) == ((b.getD i z76).f1))))
def sameSums (a b : List S76) : Bool := if a.length = b.length then (List.range a.length).all (sumAt a b) else false
theorem specSameSums_ev (a b : List S76) (ha : a.length ≤ 1048576) : Ev (fun k => spec_l6SameSums.f k a b) (sameSums a b) := by
  unfold spec_l6SameSums.f sameSums
  refine ev_if (fun hl => ?_) (fun hl => ev_eq ev_some (by rw [if_neg (by omega)]))
  rw [if_pos (by omega)]
  refine loop_all (fun k i => spec_l6SameSums.l0 k a b i) a.length _ ?_ ?_ ?_
  · intro i r hi hp h
    refine Ev.step (fun k => rfl) ?_
    refine ev_pos (by omega) (ev_pos (by omega) (ev_pos (by omega) (ev_neg (by simpa [sumAt, rd_T76] using hp) ?_)))
    rw [w64 (by omega) (by omega)]
    exact h
  · intro i hi hp
    refine Ev.step (fun k => rfl) ?_
    refine ev_pos (by omega) (ev_pos (by omega) (ev_pos (by omega) (ev_pos ?_ ev_some)))
    have : (!sumAt a b i) = true := by rw [hp]; rfl
    rw [sumAt, Bool.not_not] at this
    exact this
  · refine Ev.step (fun k => rfl) ?_
    exact ev_neg (by omega) ev_some
def sameMan (a b c : Int) (l : List S76) (a' b' c' : Int) (l' : List S76) : Bool := if a = a' then (if b = b' then (if c = c' then sameSums l l' else false) else false) else false
theorem specSameMan_ev (a b c : Int) (l : List S76) (a' b' c' : Int) (l' : List S76) (hl : l.length ≤ 1048576) : Ev (fun k => spec_SameMan.f k a b c l a' b' c' l') (sameMan a b c l a' b' c' l') := by
  unfold spec_SameMan.f sameMan
  refine ev_if (fun h => ?_) (fun h => ev_eq ev_some (by rw [if_neg h]))
  rw [if_pos h]
  refine ev_if (fun h => ?_) (fun h => ev_eq ev_some (by rw [if_neg h]))
  rw [if_pos h]
  refine ev_if (fun h => ?_) (fun h => ev_eq ev_some (by rw [if_neg h]))
  rw [if_pos h]
  exact Ev.bind (specSameSums_ev l l' hl) ev_some
end Go.Proofs.Ytdohjkbgbplgmaa.Pb
/- Whether a number is a set of blocks. No condition. -/
namespace Go.Proofs.Ytdohjkbgbplgmaa.Pb
open Go.RowKit Go.Proofs.Ytdohjkbgbplgmaa Go.Proofs.Ytdohjkbgbplgmaa.Q Go.Proofs.YtdohjkbgbplgmaaW.PrintWords Go.Proofs.YtdohjkbgbplgmaaW.PrintLast
set_option linter.unusedVariables false
set_option linter.unusedSimpArgs false

/-- A set of blocks. -/
def setOk (s : Int) : Bool := decide (0 ≤ s ∧ s ≤ 1099511627775)
theorem specSetOk_eq (s : Int) : spec_SetOk.f s = some (setOk s) := by
  unfold spec_SetOk.f
  rw [l1In_eq]
  rfl
theorem implSetOk_eq (s : Int) : impl_SetOk.f s = some (setOk s) := by
  unfold impl_SetOk.f
  rw [within_eq]
  rfl
end Go.Proofs.Ytdohjkbgbplgmaa.Pb
/- Whether a message is a good one: the program's and the reference's ways. No condition beyond the size that the laws ask. -/
namespace Go.Proofs.Ytdohjkbgbplgmaa.Pb
open Go.RowKit Go.Proofs.Ytdohjkbgbplgmaa Go.Proofs.Ytdohjkbgbplgmaa.Q Go.Proofs.YtdohjkbgbplgmaaW.PrintWords Go.Proofs.YtdohjkbgbplgmaaW.PrintLast
set_option linter.unusedVariables false
set_option linter.unusedSimpArgs false

def zeroMan (c d e : Int) (l : List S76) : Bool := decide (c = 0 ∧ d = 0 ∧ e = 0 ∧ l.length = 0)
theorem sameMan_zero (c d e : Int) (l : List S76) : sameMan c d e l 0 0 0 [] = zeroMan c d e l := by
  unfold sameMan zeroMan sameSums
  by_cases h1 : c = 0
  · by_cases h2 : d = 0
    · by_cases h3 : e = 0
      · by_cases h4 : l.length = 0
        · simp [h1, h2, h3, h4]
        · simp [h1, h2, h3, h4]
      · simp [h3]
    · simp [h2]
  · simp [h1]
/-- Whether a message is a good one: z whether its manifest is the zero one, n whether its other fields but the number are zero. -/
def msgVal (a b c d e : Int) (l : List S76) (f g h : Int) (m : List Int) (z n : Bool) : Bool :=
  if a = 1 then (if b = 0 then (if c = 0 then false else (if manOk c d e l = true then n else false)) else false)
  else if a = 2 then (if (0 ≤ b ∧ b ≤ 1000000) then (if z = true then (if setOk f = true then (if setOk g = true then (if h = 0 then ((m.length : Int) == 0) else false) else false) else false) else false) else false)
  else if a = 3 then (if (1 ≤ b ∧ b ≤ 1000000) then (if z = true then (if f = 0 then (if g = 0 then (if (0 ≤ h ∧ h ≤ 39) then decide (1 ≤ (m.length : Int) ∧ (m.length : Int) ≤ 6) else false) else false) else false) else false) else false)
  else if a = 4 then (if (0 ≤ b ∧ b ≤ 1000000) then (if z = true then n else false) else false)
  else false
def bareVal (f g h : Int) (m : List Int) : Bool := if f = 0 then (if g = 0 then (if h = 0 then ((m.length : Int) == 0) else false) else false) else false
def msgOk (a b c d e : Int) (l : List S76) (f g h : Int) (m : List Int) : Bool := msgVal a b c d e l f g h m (zeroMan c d e l) (bareVal f g h m)
theorem specMsg_tail (a b c d e : Int) (l : List S76) (f g h : Int) (m : List Int) (z n : Bool) (hl : l.length ≤ 1048576) : Ev (fun k => spec_MsgOk.j0 k z n a b c d e l f g h m) (msgVal a b c d e l f g h m z n) := by
  unfold msgVal
  refine Ev.step (fun k => rfl) ?_
  refine ev_if (fun h1 => ?_) (fun h1 => ?_)
  · rw [if_pos h1]
    refine ev_if (fun h2 => ?_) (fun h2 => ev_eq ev_some (by rw [if_neg h2]))
    rw [if_pos h2]
    refine ev_if (fun h3 => ev_eq ev_some (by rw [if_pos h3])) (fun h3 => ?_)
    rw [if_neg h3]
    refine Ev.bind (specManOk_ev c d e l hl) (ev_if (fun h4 => ev_eq ev_some (by rw [if_pos h4])) (fun h4 => ev_eq ev_some (by rw [if_neg h4])))
  rw [if_neg h1]
  refine ev_if (fun h2 => ?_) (fun h2 => ?_)
  · rw [if_pos h2, l1In_eq]
    refine Ev.bind ev_some (ev_if (fun q => ?_) (fun q => ev_eq ev_some (by rw [if_neg (by simpa using q)])))
    have q' : 0 ≤ b ∧ b ≤ 1000000 := by simpa using q
    rw [if_pos q']
    clear q q'
    refine ev_if (fun q => ?_) (fun q => ev_eq ev_some (by rw [if_neg q]))
    rw [if_pos q, specSetOk_eq]
    refine Ev.bind ev_some (ev_if (fun q => ?_) (fun q => ev_eq ev_some (by rw [if_neg q])))
    rw [if_pos q, specSetOk_eq]
    refine Ev.bind ev_some (ev_if (fun q => ?_) (fun q => ev_eq ev_some (by rw [if_neg q])))
    rw [if_pos q]
    refine ev_if (fun q => ev_eq ev_some (by rw [if_pos q])) (fun q => ev_eq ev_some (by rw [if_neg q]))
  rw [if_neg h2]
  refine ev_if (fun h3 => ?_) (fun h3 => ?_)
  · rw [if_pos h3, l1In_eq]
    refine Ev.bind ev_some (ev_if (fun q => ?_) (fun q => ev_eq ev_some (by rw [if_neg (by simpa using q)])))
    have q' : 1 ≤ b ∧ b ≤ 1000000 := by simpa using q
    rw [if_pos q']
    clear q q'
    refine ev_if (fun q => ?_) (fun q => ev_eq ev_some (by rw [if_neg q]))
    rw [if_pos q]
    refine ev_if (fun q => ?_) (fun q => ev_eq ev_some (by rw [if_neg q]))
    rw [if_pos q]
    refine ev_if (fun q => ?_) (fun q => ev_eq ev_some (by rw [if_neg q]))
    rw [if_pos q, l1In_eq]
    refine Ev.bind ev_some (ev_if (fun q => ?_) (fun q => ev_eq ev_some (by rw [if_neg (by simpa using q)])))
    have q' : 0 ≤ h ∧ h ≤ 39 := by simpa using q
    rw [if_pos q', l1In_eq]
    exact Ev.bind ev_some ev_some
  rw [if_neg h3]
  refine ev_if (fun h4 => ?_) (fun h4 => ev_eq ev_some (by rw [if_neg h4]))
  rw [if_pos h4, l1In_eq]
  refine Ev.bind ev_some (ev_if (fun q => ?_) (fun q => ev_eq ev_some (by rw [if_neg (by simpa using q)])))
  have q' : 0 ≤ b ∧ b ≤ 1000000 := by simpa using q
  rw [if_pos q']
  exact ev_if (fun q => ev_eq ev_some (by rw [if_pos q])) (fun q => ev_eq ev_some (by rw [if_neg q]))
theorem specMsgOk_ev (a b c d e : Int) (l : List S76) (f g h : Int) (m : List Int) (hl : l.length ≤ 1048576) : Ev (fun k => spec_MsgOk.f k a b c d e l f g h m) (msgOk a b c d e l f g h m) := by
  unfold spec_MsgOk.f msgOk bareVal
  refine Ev.bind (specSameMan_ev c d e l 0 0 0 [] hl) ?_
  rw [sameMan_zero]
  refine ev_if (fun h1 => ?_) (fun h1 => ?_)
  · rw [if_pos h1]
    refine ev_if (fun h2 => ?_) (fun h2 => ?_)
    · rw [if_pos h2]
      refine ev_if (fun h3 => ?_) (fun h3 => ?_)
      · rw [if_pos h3]; exact specMsg_tail _ _ _ _ _ _ _ _ _ _ _ _ hl
      · rw [if_neg h3]; exact specMsg_tail _ _ _ _ _ _ _ _ _ _ _ _ hl
    · rw [if_neg h2]; exact specMsg_tail _ _ _ _ _ _ _ _ _ _ _ _ hl
  · rw [if_neg h1]; exact specMsg_tail _ _ _ _ _ _ _ _ _ _ _ _ hl
theorem isZeroMan_eq (c d e : Int) (l : List S76) : impl_isZeroMan.f c d e l = some (zeroMan c d e l) := by
  unfold impl_isZeroMan.f zeroMan
  by_cases h1 : c = 0
  · by_cases h2 : d = 0
    · by_cases h3 : e = 0
      · rw [if_pos h1, if_pos h2, if_pos h3]
        congr 1
        rw [Bool.eq_iff_iff]
        simp [h1, h2, h3]
      · simp [h1, h2, h3]
    · simp [h1, h2]
  · simp [h1]
def partVal (h : Int) (m : List Int) : Bool := if h = 0 then ((m.length : Int) == 0) else false
theorem isBare_eq (a b c d e : Int) (l : List S76) (f g h : Int) (m : List Int) (x y z : Bool) : impl_Msg_isBare.f a b c d e l f g h m x y z = some ((x || zeroMan c d e l) && ((y || (decide (f = 0) && decide (g = 0))) && (z || partVal h m))) := by
  unfold impl_Msg_isBare.f partVal
  rw [isZeroMan_eq]
  simp only [Option.bind_some]
  cases x <;> cases y <;> cases z <;> cases zeroMan c d e l <;> by_cases h1 : f = 0 <;> by_cases h2 : g = 0 <;> by_cases h3 : h = 0 <;> simp [h1, h2, h3]
theorem bareVal_eq (f g h : Int) (m : List Int) : bareVal f g h m = ((decide (f = 0) && decide (g = 0)) && partVal h m) := by
  unfold bareVal partVal
  by_cases h1 : f = 0 <;> by_cases h2 : g = 0 <;> by_cases h3 : h = 0 <;> simp [h1, h2, h3]
theorem isGen_eq (b : Int) : impl_isGen.f b = some (decide (0 ≤ b ∧ b ≤ 1000000)) := by
  unfold impl_isGen.f
  rw [within_eq]
  rfl
theorem isPlace_eq (b : Int) : impl_isPlace.f b = some (decide (0 ≤ b ∧ b ≤ 39)) := by
  unfold impl_isPlace.f
  rw [within_eq]
  rfl
theorem implMsgOk_ev (a b c d e : Int) (l : List S76) (f g h : Int) (m : List Int) (hl : l.length ≤ 1048576) : Ev (fun k => impl_MsgOk.f k a b c d e l f g h m) (msgOk a b c d e l f g h m) := by
  unfold impl_MsgOk.f msgOk msgVal
  refine ev_if (fun h1 => ?_) (fun h1 => ?_)
  · rw [if_pos h1]
    refine Ev.bind (implManOk_ev c d e l hl) (ev_if (fun q => ?_) (fun q => ev_eq ev_some ?_))
    · refine ev_if (fun h3 => ev_eq ev_some (by rw [if_pos h3]; split <;> rfl)) (fun h3 => ?_)
      rw [if_neg h3]
      refine ev_if (fun h4 => ?_) (fun h4 => ev_eq ev_some (by rw [if_neg h4]))
      rw [if_pos h4, if_pos q, isBare_eq, bareVal_eq]
      exact Ev.bind ev_some ev_some
    · rw [if_neg q]
      repeat' split
      all_goals rfl
  rw [if_neg h1]
  refine ev_if (fun h2 => ?_) (fun h2 => ?_)
  · rw [if_pos h2, isGen_eq]
    refine Ev.bind ev_some (ev_if (fun q => ?_) (fun q => ev_eq ev_some (by rw [if_neg (by simpa using q)])))
    have q' : 0 ≤ b ∧ b ≤ 1000000 := by simpa using q
    rw [if_pos q', implSetOk_eq]
    refine Ev.bind ev_some (ev_if (fun q1 => ?_) (fun q1 => ev_eq ev_some (by rw [if_neg q1]; split <;> rfl)))
    rw [if_pos q1, implSetOk_eq]
    refine Ev.bind ev_some (ev_if (fun q2 => ?_) (fun q2 => ev_eq ev_some (by rw [if_neg q2]; split <;> rfl)))
    rw [if_pos q2, isBare_eq]
    refine Ev.bind ev_some (ev_eq ev_some ?_)
    unfold partVal
    cases zeroMan c d e l <;> simp
  rw [if_neg h2]
  refine ev_if (fun h3 => ?_) (fun h3 => ?_)
  · rw [if_pos h3, within_eq]
    refine Ev.bind ev_some (ev_if (fun q => ?_) (fun q => ev_eq ev_some (by rw [if_neg (by simpa using q)])))
    have q' : 1 ≤ b ∧ b ≤ 1000000 := by simpa using q
    rw [if_pos q', isPlace_eq]
    refine Ev.bind ev_some (ev_if (fun q1 => ?_) (fun q1 => ev_eq ev_some ?_))
    · have q1' : 0 ≤ h ∧ h ≤ 39 := by simpa using q1
      rw [if_pos q1', within_eq]
      refine Ev.bind ev_some (ev_if (fun q2 => ?_) (fun q2 => ev_eq ev_some ?_))
      · rw [isBare_eq, q2]
        refine Ev.bind ev_some (ev_eq ev_some ?_)
        cases zeroMan c d e l <;> by_cases hf : f = 0 <;> by_cases hg : g = 0 <;> simp [hf, hg]
      · rw [Bool.not_eq_true] at q2
        rw [q2]
        repeat' split
        all_goals rfl
    · have q1' : ¬ (0 ≤ h ∧ h ≤ 39) := by simpa using q1
      rw [if_neg q1']
      repeat' split
      all_goals rfl
  rw [if_neg h3]
  refine ev_if (fun h4 => ?_) (fun h4 => ev_eq ev_some (by rw [if_neg h4]))
  rw [if_pos h4, isGen_eq]
  refine Ev.bind ev_some (ev_if (fun q => ?_) (fun q => ev_eq ev_some (by rw [if_neg (by simpa using q)])))
  have q' : 0 ≤ b ∧ b ≤ 1000000 := by simpa using q
  rw [if_pos q', isBare_eq, bareVal_eq]
  refine Ev.bind ev_some (ev_eq ev_some ?_)
  cases zeroMan c d e l <;> simp
end Go.Proofs.Ytdohjkbgbplgmaa.Pb
/- Writing a manifest and a message: the program's and the reference's ways. No condition beyond the bytes' range and the size that the laws ask. -/
namespace Go.Proofs.Ytdohjkbgbplgmaa.Pb
open Go.RowKit Go.Proofs.Ytdohjkbgbplgmaa Go.Proofs.Ytdohjkbgbplgmaa.Q Go.Proofs.YtdohjkbgbplgmaaW.PrintWords Go.Proofs.YtdohjkbgbplgmaaW.PrintLast Go.Proofs.YtdohjkbgbplgmaaW.PrintMore
set_option linter.unusedVariables false
set_option linter.unusedSimpArgs false

theorem vb_bytes (m : Nat) : ∀ x : Int, 0 ≤ x → x < 128 ^ (m + 1) → Bytes (vb m x) := by
  induction m with
  | zero =>
    intro x h0 h1 y hy
    simp only [Nat.zero_add, Int.pow_one] at h1
    rw [vb, List.mem_singleton] at hy
    omega
  | succ m ih =>
    intro x h0 h1 y hy
    rw [vb] at hy
    split at hy
    · rw [List.mem_singleton] at hy
      omega
    · rw [List.mem_cons] at hy
      rcases hy with rfl | hy
      · omega
      · exact ih (x / 128) (by omega) (by rw [Int.pow_succ] at h1; generalize (128 : Int) ^ (m + 1) = p at h1 ⊢; omega) y hy
theorem encVar_bytes (x : Int) (h0 : 0 ≤ x) (h1 : x ≤ 9223372036854775807) : Bytes (encVar x) := vb_bytes 8 x h0 (by rw [p128_9]; omega)
theorem bytes_append {a b : List Int} (ha : Bytes a) (hb : Bytes b) : Bytes (a ++ b) := by
  intro x hx
  rw [List.mem_append] at hx
  exact hx.elim (ha x) (hb x)
theorem bytes_nil : Bytes [] := by intro x hx; cases hx
theorem putVar_bytes {l : List Int} (h : Bytes l) (x : Int) : Bytes (putVar l x) := by
  unfold putVar
  split
  · exact bytes_append h (encVar_bytes x (by omega) (by omega))
  · exact h
theorem manOk_sums {a b c : Int} {l : List S76} (h : manOk a b c l = true) : l.length ≤ 40 ∧ ∀ i, i < l.length → 1 ≤ (l.getD i z76).f1 ∧ (l.getD i z76).f1 ≤ 562949953421311 := by
  unfold manOk at h
  split at h
  · simp only [decide_eq_true_eq] at h
    exact ⟨by omega, fun i hi => by omega⟩
  · split at h
    · rename_i q
      have hb := blocks_range b c
      refine ⟨by omega, fun i hi => ?_⟩
      have hi' := List.all_eq_true.1 h i (List.mem_range.2 hi)
      simp only [blockOk, Bool.and_eq_true] at hi'
      have ho := hi'.1
      unfold bytesOf at ho
      split at ho
      · rename_i w
        refine ⟨w.1, ?_⟩
        have hc := cnt_le (l.getD i z76).f1
        have hp := p256_le (cnt (l.getD i z76).f1) hc
        have h2 := w.2
        have h3 : (l.getD i z76).f1 < 2 * 256 ^ (cnt (l.getD i z76).f1) := by
          have e := Int.lt_ediv_add_one_mul_self (l.getD i z76).f1 (b := 256 ^ (cnt (l.getD i z76).f1)) (by omega)
          rw [h2] at e
          omega
        omega
      · cases ho
    · cases h
/-- The sums' numbers, one behind the other. -/
def putSums (s : List Int) (l : List S76) : List Int := iter l.length (fun i (s : List Int) => s ++ encVar (l.getD i z76).f1) s
def putMan (s : List Int) (a b c : Int) (l : List S76) : List Int := if manOk a b c l = true then putSums (putVar (putVar (putVar s a) b) c) l else s
theorem putSums_inv (s : List Int) (l : List S76) (P : Bytes s) (hs : ∀ i, i < l.length → 1 ≤ (l.getD i z76).f1 ∧ (l.getD i z76).f1 ≤ 562949953421311) : ∀ n, n ≤ l.length → (iter n (fun i (s : List Int) => s ++ encVar (l.getD i z76).f1) s).length ≤ s.length + 9 * n ∧ Bytes (iter n (fun i (s : List Int) => s ++ encVar (l.getD i z76).f1) s) := by
  intro n
  induction n with
  | zero => intro _; exact ⟨by simp [iter_zero], P⟩
  | succ n ih =>
    intro hn
    have h := ih (by omega)
    rw [iter_succ]
    have e := encVar_length (l.getD n z76).f1
    have q := hs n (by omega)
    exact ⟨by rw [List.length_append]; omega, bytes_append h.2 (encVar_bytes _ (by omega) (by omega))⟩
theorem putMan_inv (s : List Int) (a b c : Int) (l : List S76) (P : Bytes s) : (putMan s a b c l).length ≤ s.length + 400 ∧ Bytes (putMan s a b c l) := by
  unfold putMan putSums
  split
  · rename_i h
    have q := manOk_sums h
    have r := putSums_inv _ l (putVar_bytes (putVar_bytes (putVar_bytes P a) b) c) q.2 l.length (Nat.le_refl _)
    have e1 := putVar_length s a
    have e2 := putVar_length (putVar s a) b
    have e3 := putVar_length (putVar (putVar s a) b) c
    exact ⟨by omega, r.2⟩
  · exact ⟨by omega, P⟩
theorem specPutMan_ev (s : List Int) (a b c : Int) (l : List S76) (hs : s.length ≤ 10000000) (hl : l.length ≤ 1048576) : Ev (fun k => spec_PutMan.f k s a b c l) (putMan s a b c l) := by
  unfold spec_PutMan.f putMan putSums
  simp only [Option.bind_some]
  refine ev_pos (by simp; omega) ?_
  rw [List.nil_append]
  refine Ev.bind (specManOk_ev a b c l hl) (ev_if (fun h => ?_) (fun h => ev_eq ev_some (by rw [if_neg h])))
  rw [if_pos h]
  have q := manOk_sums h
  have e1 := putVar_length s a
  have e2 := putVar_length (putVar s a) b
  have e3 := putVar_length (putVar (putVar s a) b) c
  refine Ev.bind (specPutVar_ev _ _ (by omega)) (Ev.bind (specPutVar_ev _ _ (by omega)) (Ev.bind (specPutVar_ev _ _ (by omega)) ?_))
  refine loop_up (fun k s i => spec_PutMan.l0 k s i a b c l) l.length (fun i (s : List Int) => s ++ encVar (l.getD i z76).f1) (fun i t => t.length ≤ 20000000 + 9 * i) _ _ (by omega) ?_ ?_ ?_
  · intro i t hi ht
    have e := encVar_length (l.getD i z76).f1
    rw [List.length_append]
    omega
  · intro i t r hi ht h
    have w := q.2 i hi
    refine Ev.step (fun k => rfl) ?_
    refine ev_pos (by omega) (ev_pos (by omega) ?_)
    simp only [rd_T76, Int.toNat_natCast]
    refine Ev.bind (specPutSum_ev _ _ (by omega) (by omega) (by omega)) ?_
    rw [w64 (x := (i : Int) + 1) (by omega) (by omega)]
    exact h
  · intro ht
    refine Ev.step (fun k => rfl) ?_
    exact ev_neg (by omega) ev_some
theorem cloned_eq (l : List Int) (h : l.length ≤ 100000000000) : impl_cloned.f l = some l := by
  unfold impl_cloned.f
  rw [if_pos (by omega)]
theorem implPutMan_ev (s : List Int) (a b c : Int) (l : List S76) (hs : s.length ≤ 10000000) (hl : l.length ≤ 1048576) : Ev (fun k => impl_PutMan.f k s a b c l) (putMan s a b c l) := by
  unfold impl_PutMan.f putMan putSums
  refine Ev.bind (implManOk_ev a b c l hl) (ev_if (fun h => ?_) (fun h => ?_))
  · rw [if_pos h]
    have q := manOk_sums h
    have e1 := putVar_length s a
    have e2 := putVar_length (putVar s a) b
    have e3 := putVar_length (putVar (putVar s a) b) c
    refine Ev.bind (implPutVar_ev _ _ (by omega)) (Ev.bind (implPutVar_ev _ _ (by omega)) (Ev.bind (implPutVar_ev _ _ (by omega)) ?_))
    refine loop_up (fun k s i => impl_PutMan.l0 k s l (l.length : Int) i) l.length (fun i (s : List Int) => s ++ encVar (l.getD i z76).f1) (fun i t => t.length ≤ 20000000 + 9 * i) _ _ (by omega) ?_ ?_ ?_
    · intro i t hi ht
      have e := encVar_length (l.getD i z76).f1
      rw [List.length_append]
      omega
    · intro i t r hi ht h
      have w := q.2 i hi
      refine Ev.step (fun k => rfl) ?_
      refine ev_pos (by omega) (ev_pos (by omega) (ev_pos (by omega) ?_))
      simp only [rd_T76, Int.toNat_natCast]
      refine Ev.bind (implAppendVar_ev _ _ (by omega) (by omega) (by omega)) ?_
      rw [w64 (x := (i : Int) + 1) (by omega) (by omega)]
      exact h
    · intro ht
      refine Ev.step (fun k => rfl) ?_
      exact ev_neg (by omega) ev_some
  · rw [if_neg h, cloned_eq s (by omega)]
    exact Ev.bind ev_some ev_some
def half0 (x : Int) : Int := Go.bits .and .i64 x 1048575
/-- What a message is written as, but for the sum behind it. -/
def msgBody (a b c d e : Int) (l : List S76) (f g h : Int) (m : List Int) : List Int :=
  if a = 1 then putMan (putVar [] a) c d e l
  else if a = 2 then putVar (putVar (putVar (putVar (putVar (putVar [] a) b) (half0 f)) (f / 1048576)) (half0 g)) (g / 1048576)
  else if a = 3 then putVar (putVar (putVar (putVar [] a) b) h) m.length ++ m
  else putVar (putVar [] a) b
def putMsg (a b c d e : Int) (l : List S76) (f g h : Int) (m : List Int) : List Int := if msgOk a b c d e l f g h m = true then putVar (msgBody a b c d e l f g h m) (weakOf (msgBody a b c d e l f g h m)) else []
theorem msgBody_inv (a b c d e : Int) (l : List S76) (f g h : Int) (m : List Int) (P : Bytes m) : (msgBody a b c d e l f g h m).length ≤ m.length + 500 ∧ Bytes (msgBody a b c d e l f g h m) := by
  have k0 : (putVar [] a).length ≤ 9 := by have := putVar_length [] a; simpa using this
  have b0 : Bytes (putVar [] a) := putVar_bytes bytes_nil a
  unfold msgBody
  split
  · have r := putMan_inv (putVar [] a) c d e l b0
    exact ⟨by omega, r.2⟩
  · split
    · have k1 := putVar_length (putVar [] a) b
      have k2 := putVar_length (putVar (putVar [] a) b) (half0 f)
      have k3 := putVar_length (putVar (putVar (putVar [] a) b) (half0 f)) (f / 1048576)
      have k4 := putVar_length (putVar (putVar (putVar (putVar [] a) b) (half0 f)) (f / 1048576)) (half0 g)
      have k5 := putVar_length (putVar (putVar (putVar (putVar (putVar [] a) b) (half0 f)) (f / 1048576)) (half0 g)) (g / 1048576)
      exact ⟨by omega, putVar_bytes (putVar_bytes (putVar_bytes (putVar_bytes (putVar_bytes b0 _) _) _) _) _⟩
    · split
      · have k1 := putVar_length (putVar [] a) b
        have k2 := putVar_length (putVar (putVar [] a) b) h
        have k3 := putVar_length (putVar (putVar (putVar [] a) b) h) m.length
        refine ⟨by rw [List.length_append]; omega, bytes_append (putVar_bytes (putVar_bytes (putVar_bytes b0 _) _) _) P⟩
      · have k1 := putVar_length (putVar [] a) b
        exact ⟨by omega, putVar_bytes b0 _⟩
theorem putMsg_inv (a b c d e : Int) (l : List S76) (f g h : Int) (m : List Int) (P : Bytes m) : (putMsg a b c d e l f g h m).length ≤ m.length + 509 ∧ Bytes (putMsg a b c d e l f g h m) := by
  have q := msgBody_inv a b c d e l f g h m P
  unfold putMsg
  split
  · have k1 := putVar_length (msgBody a b c d e l f g h m) (weakOf (msgBody a b c d e l f g h m))
    exact ⟨by omega, putVar_bytes q.2 _⟩
  · exact ⟨by simp, bytes_nil⟩
theorem msgOk_len {a b c d e : Int} {l : List S76} {f g h : Int} {m : List Int} (ok : msgOk a b c d e l f g h m = true) : m.length ≤ 6 := by
  have bare : bareVal f g h m = true → m.length ≤ 6 := by
    intro k
    unfold bareVal at k
    split at k
    · split at k
      · split at k
        · have := of_decide_eq_true (p := (m.length : Int) = 0) (by simpa using k)
          omega
        · cases k
      · cases k
    · cases k
  unfold msgOk msgVal at ok
  split at ok
  · split at ok
    · split at ok
      · cases ok
      · split at ok
        · exact bare ok
        · cases ok
    · cases ok
  · split at ok
    · repeat' (split at ok)
      all_goals (first | (cases ok; done) | (have := of_decide_eq_true (p := (m.length : Int) = 0) (by simpa using ok); omega))
    · split at ok
      · repeat' (split at ok)
        all_goals (first | (cases ok; done) | (have := of_decide_eq_true ok; omega))
      · split at ok
        · repeat' (split at ok)
          all_goals (first | (cases ok; done) | exact bare ok)
        · cases ok
theorem specPutMsg_ev (a b c d e : Int) (l : List S76) (f g h : Int) (m : List Int) (P : Bytes m) (hl : l.length ≤ 1048576) (hm : m.length ≤ 1048576) : Ev (fun k => spec_PutMsg.f k a b c d e l f g h m) (putMsg a b c d e l f g h m) := by
  unfold spec_PutMsg.f putMsg
  refine Ev.bind (specMsgOk_ev a b c d e l f g h m hl) (ev_if (fun ok => ?_) (fun ok => ev_eq ev_some (by rw [if_neg ok])))
  have hm := (show m.length ≤ 1000000 by have := msgOk_len ok; omega)
  rw [if_pos ok]
  have k0 : (putVar [] a).length ≤ 9 := by have := putVar_length [] a; simpa using this
  have b0 : Bytes (putVar [] a) := putVar_bytes bytes_nil a
  refine Ev.bind (specPutVar_ev [] a (by simp)) ?_
  have inv := msgBody_inv a b c d e l f g h m P
  have fin : ∀ t, t = msgBody a b c d e l f g h m → Ev (fun k => (spec_WeakOf.f k t).bind fun w => (spec_PutVar.f k t w).bind fun z => some z) (putVar (msgBody a b c d e l f g h m) (weakOf (msgBody a b c d e l f g h m))) := by
    rintro t rfl
    exact Ev.bind (specWeakOf_ev _ (by omega) inv.2) (Ev.bind (specPutVar_ev _ _ (by omega)) ev_some)
  refine ev_if (fun h1 => ?_) (fun h1 => ?_)
  · have r := putMan_inv (putVar [] a) c d e l b0
    exact Ev.bind (specPutMan_ev _ _ _ _ _ (by omega) hl) (fin _ (by unfold msgBody; rw [if_pos h1]))
  refine ev_if (fun h2 => ?_) (fun h2 => ?_)
  · have k1 := putVar_length (putVar [] a) b
    have k2 := putVar_length (putVar (putVar [] a) b) (half0 f)
    have k3 := putVar_length (putVar (putVar (putVar [] a) b) (half0 f)) (f / 1048576)
    have k4 := putVar_length (putVar (putVar (putVar (putVar [] a) b) (half0 f)) (f / 1048576)) (half0 g)
    refine ev_then rfl (Ev.bind (specPutVar_ev _ _ (by omega)) (Ev.bind (specPutVar_ev _ (half0 f) (by omega)) (Ev.bind (specPutVar_ev _ (f / 1048576) (by omega)) ?_)))
    refine ev_then rfl (Ev.bind (specPutVar_ev _ (half0 g) (by omega)) (Ev.bind (specPutVar_ev _ (g / 1048576) (by omega)) ?_))
    exact fin _ (by unfold msgBody; rw [if_neg h1, if_pos h2])
  refine ev_if (fun h3 => ?_) (fun h3 => ?_)
  · have k1 := putVar_length (putVar [] a) b
    have k2 := putVar_length (putVar (putVar [] a) b) h
    have k3 := putVar_length (putVar (putVar (putVar [] a) b) h) m.length
    refine Ev.bind (specPutVar_ev _ _ (by omega)) (Ev.bind (specPutVar_ev _ _ (by omega)) ?_)
    have hp : Ev (fun k => spec_PutPart.f k (putVar (putVar (putVar [] a) b) h) m) (putVar (putVar (putVar (putVar [] a) b) h) m.length ++ m) := by
      unfold spec_PutPart.f
      exact Ev.bind (specPutVar_ev _ _ (by omega)) (ev_pos (by omega) ev_some)
    exact Ev.bind hp (fin _ (by unfold msgBody; rw [if_neg h1, if_neg h2, if_pos h3]))
  · exact Ev.bind (specPutVar_ev _ _ (by omega)) (fin _ (by unfold msgBody; rw [if_neg h1, if_neg h2, if_neg h3]))
theorem implPutSet_ev (s : List Int) (x : Int) (hs : s.length ≤ 10000000) : Ev (fun k => impl_putSet.f k s x) (putVar (putVar s (half0 x)) (x / 1048576)) := by
  unfold impl_putSet.f
  have k1 := putVar_length s (half0 x)
  exact Ev.bind (implPutVar_ev _ (half0 x) (by omega)) (Ev.bind (implPutVar_ev _ _ (by omega)) ev_some)
theorem implPutMsg_ev (a b c d e : Int) (l : List S76) (f g h : Int) (m : List Int) (P : Bytes m) (hl : l.length ≤ 1048576) (hm : m.length ≤ 1048576) : Ev (fun k => impl_PutMsg.f k a b c d e l f g h m) (putMsg a b c d e l f g h m) := by
  unfold impl_PutMsg.f putMsg
  refine Ev.bind (implMsgOk_ev a b c d e l f g h m hl) (ev_if (fun ok => ?_) (fun ok => ev_eq ev_some (by rw [if_neg ok])))
  have hm := (show m.length ≤ 1000000 by have := msgOk_len ok; omega)
  rw [if_pos ok]
  have k0 : (putVar [] a).length ≤ 9 := by have := putVar_length [] a; simpa using this
  have b0 : Bytes (putVar [] a) := putVar_bytes bytes_nil a
  refine Ev.bind (implPutVar_ev [] a (by simp)) ?_
  have inv := msgBody_inv a b c d e l f g h m P
  have fin : ∀ t, t = msgBody a b c d e l f g h m → Ev (fun k => (impl_WeakOf.f k t).bind fun w => (impl_PutVar.f k t w).bind fun z => some z) (putVar (msgBody a b c d e l f g h m) (weakOf (msgBody a b c d e l f g h m))) := by
    rintro t rfl
    exact Ev.bind (implWeakOf_ev _ (by omega) inv.2) (Ev.bind (implPutVar_ev _ _ (by omega)) ev_some)
  refine ev_if (fun h1 => ?_) (fun h1 => ?_)
  · have r := putMan_inv (putVar [] a) c d e l b0
    exact Ev.bind (implPutMan_ev _ _ _ _ _ (by omega) hl) (fin _ (by unfold msgBody; rw [if_pos h1]))
  refine ev_if (fun h2 => ?_) (fun h2 => ?_)
  · have k1 := putVar_length (putVar [] a) b
    have k2 := putVar_length (putVar (putVar [] a) b) (half0 f)
    have k3 := putVar_length (putVar (putVar (putVar [] a) b) (half0 f)) (f / 1048576)
    refine Ev.bind (implPutVar_ev _ _ (by omega)) (Ev.bind (implPutSet_ev _ _ (by omega)) (Ev.bind (implPutSet_ev _ _ (by omega)) ?_))
    exact fin _ (by unfold msgBody; rw [if_neg h1, if_pos h2])
  refine ev_if (fun h3 => ?_) (fun h3 => ?_)
  · have k1 := putVar_length (putVar [] a) b
    have k2 := putVar_length (putVar (putVar [] a) b) h
    have k3 := putVar_length (putVar (putVar (putVar [] a) b) h) m.length
    refine Ev.bind (implPutVar_ev _ _ (by omega)) (Ev.bind (implPutVar_ev _ _ (by omega)) ?_)
    have hp : Ev (fun k => impl_PutPart.f k (putVar (putVar (putVar [] a) b) h) m) (putVar (putVar (putVar (putVar [] a) b) h) m.length ++ m) := by
      unfold impl_PutPart.f
      exact Ev.bind (implPutVar_ev _ _ (by omega)) (ev_pos (by omega) ev_some)
    exact Ev.bind hp (fin _ (by unfold msgBody; rw [if_neg h1, if_neg h2, if_pos h3]))
  refine ev_if (fun h4 => ?_) (fun h4 => ?_)
  · exact Ev.bind (implPutVar_ev _ _ (by omega)) (fin _ (by unfold msgBody; rw [if_neg h1, if_neg h2, if_neg h3]))
  · unfold msgOk msgVal at ok
    rw [if_neg h1, if_neg h2, if_neg h3, if_neg h4] at ok
    cases ok
end Go.Proofs.Ytdohjkbgbplgmaa.Pb
namespace Go.Proofs.Ytdohjkbgbplgmaa.Pure
open Go.RowKit Go.Proofs.Ytdohjkbgbplgmaa Go.Proofs.Ytdohjkbgbplgmaa.Q Go.Proofs.Ytdohjkbgbplgmaa.Pb Go.Proofs.YtdohjkbgbplgmaaW.PrintWords Go.Proofs.YtdohjkbgbplgmaaW.PrintLast
set_option linter.unusedVariables false
set_option linter.unusedSimpArgs false

theorem bytes_good {l : List Int} (g : (Opn.Each (fun n : Int => (Lit.int .u8 n).wf = true)) l) : Bytes l := by
  intro x hx
  have h := g.2 x hx
  simp [Lit.wf, IntKind.min, IntKind.max, IntKind.signed, IntKind.bits] at h
  omega
theorem FnExactPutMsg : ∀ (x0 : S27), good27 x0 → ∃ k, laws_FnExactPutMsg.f k x0.f0 x0.f1 x0.f2.f0 x0.f2.f1 x0.f2.f2 x0.f2.f3 x0.f3 x0.f4 x0.f5 x0.f6 = some true := by
  intro x0 g0
  refine Ev.rounds ?_
  unfold laws_FnExactPutMsg.f
  rw [szMsg_eq _ _ _ _ _ _ _ _ _ _ 1048576 (goodMsg_len x0 g0).1 (goodMsg_len x0 g0).2 (by omega) (by omega)]
  refine Ev.bind ev_some (ev_if (fun _ => ev_some) (fun h => ?_))
  have hb := szMsg_left h
  clear h
  have P : Bytes x0.f6 := bytes_good g0.2.2.2.2.2.2
  have m0 := toMsg_ev x0.f0 x0.f1 x0.f2.f0 x0.f2.f1 x0.f2.f2 x0.f2.f3 x0.f3 x0.f4 x0.f5 x0.f6 (by omega) (by omega)
  have hn := (putMsg_inv x0.f0 x0.f1 x0.f2.f0 x0.f2.f1 x0.f2.f2 (x0.f2.f3.map sumOf_) x0.f3 x0.f4 x0.f5 x0.f6 P).1
  have i0 := implPutMsg_ev x0.f0 x0.f1 x0.f2.f0 x0.f2.f1 x0.f2.f2 (x0.f2.f3.map sumOf_) x0.f3 x0.f4 x0.f5 x0.f6 P (by simp; omega) (by omega)
  have s0 := specPutMsg_ev x0.f0 x0.f1 x0.f2.f0 x0.f2.f1 x0.f2.f2 (x0.f2.f3.map sumOf_) x0.f3 x0.f4 x0.f5 x0.f6 P (by simp; omega) (by omega)
  generalize putMsg x0.f0 x0.f1 x0.f2.f0 x0.f2.f1 x0.f2.f2 (x0.f2.f3.map sumOf_) x0.f3 x0.f4 x0.f5 x0.f6 = n at hn s0 i0
  refine Ev.bind m0 (Ev.bind s0 (Ev.bind m0 (Ev.bind i0 ?_)))
  refine Ev.bind (eqByteS_ev n n (by omega)) (ev_pos (by simp) ?_)
  refine Ev.bind m0 (Ev.bind (eqMsg_refl _ _ _ _ _ _ _ _ _ _ (by simp; omega) (by simp only; omega)) (ev_true ?_))
  refine Ev.bind (markMsg_ev _ _ _ _ _ _ _ _ _ _ 1 (by omega) (by simp; omega)) ?_
  refine ev_neg (by simp; omega) (Ev.bind (eqByteS_ev n n (by omega)) ?_)
  refine Ev.step (fun k => rfl) (ev_neg (by simp) ?_)
  refine Ev.bind (markByteS_ev n 1 (by omega) (by omega)) ?_
  refine Ev.bind (heldByteS_ev 1 n.length (by omega) (by omega)) ?_
  refine ev_neg (by omega) (ev_pos rfl (Ev.bind m0 (Ev.bind i0 ?_)))
  refine Ev.bind (eqByteS_ev n n (by omega)) (ev_pos (by simp) ?_)
  refine Ev.bind (heldByteS_ev 1 n.length (by omega) (by omega)) ?_
  exact ev_neg (by omega) (ev_pos rfl ev_some)
end Go.Proofs.Ytdohjkbgbplgmaa.Pure
