/- At the offset of a found block its bytes occur; a block that is not found occurs nowhere: for all bytes that are drawn of. No further condition. -/
import Derived.Test.YtfkndpjbkndhcaaQ37
import Derived.Test.YtfkndpjbkndhcaaTyp
import Derived.Test.YtfkndpjbkndhcaaQ5
import Derived.Test.YtfkndpjbkndhcaaQ6
import Derived.Test.YtfkndpjbkndhcaaQ24
import Derived.Test.YtfkndpjbkndhcaaQ3
import Derived.RowKit
import Derived.IntWalk
import Derived.Test.YtfkndpjbkndhcaaWWords
import Derived.Laws.BitsLemmas
import Derived.Test.YtfkndpjbkndhcaaQ33
import Derived.Test.YtfkndpjbkndhcaaQ19
import Derived.Test.YtfkndpjbkndhcaaQ36
import Derived.Test.YtfkndpjbkndhcaaQ18
import Derived.Test.YtfkndpjbkndhcaaQ32
import Derived.Test.YtfkndpjbkndhcaaQ31
import Derived.Test.YtfkndpjbkndhcaaQ20
import Derived.Test.YtfkndpjbkndhcaaQ28
import Derived.Test.YtfkndpjbkndhcaaQ25
import Derived.Test.YtfkndpjbkndhcaaQ26
import Derived.Test.YtfkndpjbkndhcaaQ29
import Derived.Test.YtfkndpjbkndhcaaQ2
import Derived.Test.YtfkndpjbkndhcaaQ17
/- Plain lemmas on answers with rounds: a loop that goes up through numbers comes to what its steps make. No condition. -/
namespace Go.Proofs.Ytfkndpjbkndhcaa.Pb
open Go.RowKit Go.Proofs.YtfkndpjbkndhcaaW.PrintWords
set_option linter.unusedVariables false

theorem w64 {x : Int} (h0 : -9223372036854775808 ≤ x) (h1 : x ≤ 9223372036854775807) : wrap64 x = x := by unfold wrap64; omega

section
variable {α β ρ σ : Type}
theorem ev_pos {c : Prop} [Decidable c] {f g : Nat → Option α} {r : α} (hc : c) (h : Ev f r) : Ev (fun k => if c then f k else g k) r := Ev.congr (fun k => if_pos hc) h
theorem ev_neg {c : Prop} [Decidable c] {f g : Nat → Option α} {r : α} (hc : ¬ c) (h : Ev g r) : Ev (fun k => if c then f k else g k) r := Ev.congr (fun k => if_neg hc) h
theorem ev_true {f g : Nat → Option α} {r : α} (h : Ev f r) : Ev (fun k => if true = true then f k else g k) r := ev_pos rfl h
theorem ev_false {f g : Nat → Option α} {r : α} (h : Ev g r) : Ev (fun k => if false = true then f k else g k) r := ev_neg (by decide) h
theorem ev_some {r : α} : Ev (fun _ => some r) r := Ev.now r
theorem ev_of {a : Option α} {r : α} (h : a = some r) : Ev (fun _ => a) r := ⟨0, fun _ _ => h⟩
theorem ev_then {a : Option α} {x : α} {f : Nat → α → Option β} {r : β} (h : a = some x) (k : Ev (fun n => f n x) r) : Ev (fun n => a.bind (f n)) r := Ev.bind (ev_of h) k
theorem ev_bool {b : Bool} {f g : Nat → Option α} {r : α} (h1 : b = true → Ev f r) (h2 : b = false → Ev g r) : Ev (fun k => if b = true then f k else g k) r := by
  cases b with
  | true => exact ev_true (h1 rfl)
  | false => exact ev_false (h2 rfl)
theorem ev_if {c : Prop} [Decidable c] {f g : Nat → Option α} {r : α} (h1 : c → Ev f r) (h2 : ¬ c → Ev g r) : Ev (fun k => if c then f k else g k) r := by
  by_cases h : c
  · exact ev_pos h (h1 h)
  · exact ev_neg h (h2 h)
theorem ev_eq {f : Nat → Option α} {r r' : α} (h : Ev f r) (e : r = r') : Ev f r' := e ▸ h
theorem ev_det {f : Nat → Option α} {r r' : α} (h : Ev f r) (h' : Ev f r') : r = r' := by
  obtain ⟨K, h⟩ := h
  obtain ⟨K', h'⟩ := h'
  have h1 := h (max K K') (Nat.le_max_left _ _)
  have h2 := h' (max K K') (Nat.le_max_right _ _)
  rw [h1] at h2
  exact Option.some.inj h2

/-- What n steps make of a state. -/
def iter (n : Nat) (next : Nat → σ → σ) (s : σ) : σ := (List.range n).foldl (fun s i => next i s) s
theorem iter_zero (next : Nat → σ → σ) (s : σ) : iter 0 next s = s := rfl
theorem iter_succ (n : Nat) (next : Nat → σ → σ) (s : σ) : iter (n + 1) next s = next n (iter n next s) := by
  unfold iter
  rw [List.range_succ, List.foldl_append]
  rfl

/-- A loop that goes up, step by step, to n. -/
theorem loop_up (g : Nat → σ → Int → Option ρ) (n : Nat) (next : Nat → σ → σ) (Inv : Nat → σ → Prop) (s0 : σ) (r : ρ)
    (h0 : Inv 0 s0) (hinv : ∀ i s, i < n → Inv i s → Inv (i + 1) (next i s))
    (hstep : ∀ (i : Nat) s r, i < n → Inv i s → Ev (fun k => g k (next i s) ((i : Int) + 1)) r → Ev (fun k => g k s (i : Int)) r)
    (hend : Inv n (iter n next s0) → Ev (fun k => g k (iter n next s0) (n : Int)) r) : Ev (fun k => g k s0 0) r := by
  have hall : ∀ i, i ≤ n → Inv i (iter i next s0) := by
    intro i
    induction i with
    | zero => intro _; exact h0
    | succ i ih => intro hi; rw [iter_succ]; exact hinv i _ (by omega) (ih (by omega))
  have key : ∀ d i, i + d = n → Ev (fun k => g k (iter i next s0) (i : Int)) r := by
    intro d
    induction d with
    | zero =>
      intro i hi
      obtain rfl : i = n := by omega
      exact hend (hall i (Nat.le_refl _))
    | succ d ih =>
      intro i hi
      refine hstep i _ r (by omega) (hall i (by omega)) ?_
      have := ih (i + 1) (by omega)
      rw [iter_succ] at this
      simpa using this
  exact key n 0 (by omega)

/-- A loop that goes up till something is found. -/
theorem loop_find (g : Nat → Int → Option ρ) (n : Nat) (p : Nat → Bool) (res : Nat → ρ) (r0 : ρ)
    (hyes : ∀ i, i < n → p i = true → Ev (fun k => g k (i : Int)) (res i))
    (hno : ∀ i r, i < n → p i = false → Ev (fun k => g k ((i : Int) + 1)) r → Ev (fun k => g k (i : Int)) r)
    (hend : Ev (fun k => g k (n : Int)) r0) : Ev (fun k => g k 0) (match (List.range n).find? p with | some i => res i | none => r0) := by
  have key : ∀ d i, i + d = n → Ev (fun k => g k (i : Int)) (match (List.range' i d).find? p with | some i => res i | none => r0) := by
    intro d
    induction d with
    | zero =>
      intro i hi
      obtain rfl : i = n := by omega
      exact hend
    | succ d ih =>
      intro i hi
      rw [List.range'_succ, List.find?_cons]
      cases hp : p i with
      | true => exact hyes i (by omega) hp
      | false => exact hno i _ (by omega) hp (by have := ih (i + 1) (by omega); simpa using this)
  have := key n 0 (by omega)
  rwa [← List.range_eq_range'] at this
/-- A loop that asks something of each. -/
theorem loop_all (g : Nat → Int → Option Bool) (n : Nat) (p : Nat → Bool)
    (hyes : ∀ i r, i < n → p i = true → Ev (fun k => g k ((i : Int) + 1)) r → Ev (fun k => g k (i : Int)) r)
    (hno : ∀ i, i < n → p i = false → Ev (fun k => g k (i : Int)) false)
    (hend : Ev (fun k => g k (n : Int)) true) : Ev (fun k => g k 0) ((List.range n).all p) := by
  have h := loop_find g n (fun i => !p i) (fun _ => false) true (fun i hi hp => hno i hi (by simpa using hp)) (fun i r hi hp h => hyes i r hi (by simpa using hp) h) hend
  refine ev_eq h ?_
  cases hf : (List.range n).find? (fun i => !p i) with
  | some i =>
    have h1 := List.find?_some hf
    have h2 := List.mem_of_find?_eq_some hf
    symm
    rw [List.all_eq_false]
    exact ⟨i, h2, by simpa using h1⟩
  | none =>
    symm
    rw [List.all_eq_true]
    intro x hx
    have := List.find?_eq_none.1 hf x hx
    simpa using this
end

/-! ### Lists by their elements -/
theorem rd_nat (l : List Int) (i : Nat) (h : i < l.length) : rd l (i : Int) = l[i] := by
  unfold rd
  simp [List.getD_eq_getElem?_getD, List.getElem?_eq_getElem h]
theorem iter_set {α : Type} (n : Nat) (f : Nat → α) (l : List α) (hl : l.length = n) : iter n (fun i (s : List α) => s.set i (f i)) l = (List.range n).map f := by
  have key : ∀ m, m ≤ n → iter m (fun i (s : List α) => s.set i (f i)) l = (List.range m).map f ++ l.drop m := by
    intro m
    induction m with
    | zero => intro _; simp [iter_zero]
    | succ m ih =>
      intro hm
      rw [iter_succ, ih (by omega)]
      apply List.ext_getElem?
      intro j
      simp only [List.getElem?_set, List.getElem?_append, List.length_map, List.length_range, List.length_append, List.length_drop, List.getElem?_map, List.getElem?_drop]
      by_cases h1 : m = j
      · subst h1
        simp
        omega
      · by_cases h2 : j < m
        · simp [h1, h2, show j < m + 1 by omega]
        · have h3 : ¬ j < m + 1 := by omega
          simp [h1, h2, h3]
          congr 1
          omega
  have := key n (Nat.le_refl _)
  rw [this, List.drop_of_length_le (by omega), List.append_nil]
theorem map_range_get {α β : Type} (l : List α) (d : α) (f : α → β) : (List.range l.length).map (fun i => f (l.getD i d)) = l.map f := by
  apply List.ext_getElem?
  intro i
  by_cases h : i < l.length
  · simp [h, List.getD_eq_getElem?_getD]
  · simp [h]
theorem all_range_eq {α : Type} [DecidableEq α] (a b : List α) (d : α) (hl : a.length = b.length) : (List.range a.length).all (fun i => decide (a.getD i d = b.getD i d)) = decide (a = b) := by
  rw [Bool.eq_iff_iff]
  simp only [List.all_eq_true, List.mem_range, decide_eq_true_eq]
  constructor
  · intro h
    apply List.ext_getElem hl
    intro i h1 h2
    have := h i h1
    simpa [List.getD_eq_getElem?_getD, h1, h2] using this
  · rintro rfl i _
    rfl
end Go.Proofs.Ytfkndpjbkndhcaa.Pb
/- Whole numbers: an int's bounds, tests of an interval, what is left of a size. No condition. -/
namespace Go.Proofs.Ytfkndpjbkndhcaa.Pb
open Go.RowKit Go.Proofs.Ytfkndpjbkndhcaa Go.Proofs.Ytfkndpjbkndhcaa.Q Go.Proofs.YtfkndpjbkndhcaaW.PrintWords Go.Proofs.YtfkndpjbkndhcaaW.PrintLast
set_option linter.unusedVariables false
set_option linter.unusedSimpArgs false

/-- An int holds it. -/
def I64 (n : Int) : Prop := -9223372036854775808 ≤ n ∧ n ≤ 9223372036854775807
theorem i64_of {n : Int} (h : (Lit.int .i64 n).wf = true) : I64 n := by
  simp [Lit.wf, IntKind.min, IntKind.max, IntKind.signed, IntKind.bits] at h
  exact ⟨by omega, by omega⟩

theorem within_eq (a lo hi : Int) : impl_within.f a lo hi = some (decide (lo ≤ a ∧ a ≤ hi)) := by
  unfold impl_within.f
  by_cases h : lo ≤ a
  · rw [if_pos h]; simp [h]
  · rw [if_neg h]; simp [h]
theorem l1In_eq (a lo hi : Int) : spec_l1In.f a lo hi = some (decide (lo ≤ a ∧ a ≤ hi)) := within_eq a lo hi

theorem left_big {n : Nat} (h : ¬ (if (1048576 : Int) < (n : Int) then (-1 : Int) else 1048576 - (n : Int)) < 0) : n ≤ 1048576 := by
  split at h <;> omega
end Go.Proofs.Ytfkndpjbkndhcaa.Pb
/- Sizes of blocks, how many there are, where each lies. No condition. -/
namespace Go.Proofs.Ytfkndpjbkndhcaa.Pb
open Go.RowKit Go.Proofs.Ytfkndpjbkndhcaa Go.Proofs.Ytfkndpjbkndhcaa.Q Go.Proofs.YtfkndpjbkndhcaaW.PrintWords Go.Proofs.YtfkndpjbkndhcaaW.PrintLast
set_option linter.unusedVariables false
set_option linter.unusedSimpArgs false

def sizeOk (a b : Int) : Bool := decide (2 ≤ a ∧ a ≤ 6) && decide (0 ≤ b ∧ b ≤ 40 * a)
theorem specSizeOk_eq (a b : Int) : spec_SizeOk.f a b = some (sizeOk a b) := by
  unfold spec_SizeOk.f sizeOk
  rw [l1In_eq]
  simp only [Option.bind_some]
  by_cases h : 2 ≤ a ∧ a ≤ 6
  · rw [if_pos (by simpa using h), l1In_eq, w64 (by omega) (by omega)]
    simp [h, Int.mul_comm]
  · rw [if_neg (by simpa using h)]
    simp [h]
theorem implSizeOk_eq (a b : Int) : impl_SizeOk.f a b = some (sizeOk a b) := by
  unfold impl_SizeOk.f sizeOk
  rw [within_eq]
  simp only [Option.bind_some]
  by_cases h : 2 ≤ a ∧ a ≤ 6
  · rw [if_pos (by simpa using h), within_eq, w64 (by omega) (by omega)]
    simp [h, Int.mul_comm]
  · rw [if_neg (by simpa using h)]
    simp [h]
theorem sizeOk_iff {a b : Int} : sizeOk a b = true ↔ (2 ≤ a ∧ a ≤ 6) ∧ 0 ≤ b ∧ b ≤ 40 * a := by simp [sizeOk, and_assoc]
def blocks (a b : Int) : Int := if sizeOk a b = true then (b + a - 1) / a else 0
theorem ceil_le {a b : Int} (h : (2 ≤ a ∧ a ≤ 6) ∧ 0 ≤ b ∧ b ≤ 40 * a) : 0 ≤ (b + a - 1) / a ∧ (b + a - 1) / a ≤ 40 := by
  constructor
  · exact Int.ediv_nonneg (by omega) (by omega)
  · have : (b + a - 1) / a < 41 := by
      apply Int.ediv_lt_of_lt_mul (by omega)
      omega
    omega
theorem specBlocks_eq (a b : Int) : spec_Blocks.f a b = some (blocks a b) := by
  unfold spec_Blocks.f blocks
  rw [specSizeOk_eq]
  simp only [Option.bind_some]
  by_cases h : sizeOk a b = true
  · have h' := sizeOk_iff.1 h
    have c := ceil_le h'
    rw [if_pos h, if_pos h]
    unfold spec_CeilDiv.f
    rw [l1In_eq]
    simp only [Option.bind_some]
    rw [if_pos (by simp; omega), l1In_eq]
    simp only [Option.bind_some]
    rw [if_pos (by simp; omega), if_neg (by omega), w64 (x := b + a) (by omega) (by omega), w64 (x := b + a - 1) (by omega) (by omega), Int.tdiv_eq_ediv_of_nonneg (by omega), w64 (by omega) (by omega)]
    rfl
  · rw [if_neg h, if_neg h]
theorem implBlocks_eq (a b : Int) : impl_Blocks.f a b = some (blocks a b) := by
  unfold impl_Blocks.f blocks
  rw [implSizeOk_eq]
  simp only [Option.bind_some]
  by_cases h : sizeOk a b = true
  · have h' := sizeOk_iff.1 h
    have c := ceil_le h'
    rw [if_pos h, if_pos h]
    unfold impl_CeilDiv.f
    rw [within_eq]
    simp only [Option.bind_some]
    rw [if_pos (by simp; omega), within_eq]
    simp only [Option.bind_some]
    rw [if_pos (by simp; omega), if_neg (by omega), w64 (x := b + a) (by omega) (by omega), w64 (x := b + a - 1) (by omega) (by omega), Int.tdiv_eq_ediv_of_nonneg (by omega), w64 (by omega) (by omega)]
    rfl
  · rw [if_neg h, if_neg h]
theorem blocks_range (a b : Int) : 0 ≤ blocks a b ∧ blocks a b ≤ 40 := by
  unfold blocks
  split
  · rename_i h
    exact ceil_le (sizeOk_iff.1 h)
  · omega
theorem blocks_pos {a b : Int} (h : 0 < blocks a b) : (2 ≤ a ∧ a ≤ 6) ∧ 0 ≤ b ∧ b ≤ 40 * a := by
  unfold blocks at h
  split at h
  · rename_i q
    exact sizeOk_iff.1 q
  · omega
/-- Where a block lies, and how long it is. -/
def spanOf (a b i : Int) : Int × Int := if 0 ≤ i ∧ i ≤ blocks a b - 1 then (i * a, if b - i * a < a then b - i * a else a) else (0, 0)
theorem span_at {a b i : Int} (h : 0 ≤ i ∧ i ≤ blocks a b - 1) : 0 ≤ i * a ∧ i * a < b ∧ b ≤ 240 ∧ 2 ≤ a ∧ a ≤ 6 := by
  have q := blocks_pos (a := a) (b := b) (by omega)
  have e : blocks a b = (b + a - 1) / a := by
    unfold blocks
    rw [if_pos (sizeOk_iff.2 q)]
  rw [e] at h
  have m : (b + a - 1) / a * a ≤ b + a - 1 := Int.ediv_mul_le _ (by omega)
  have m2 : (i + 1) * a ≤ (b + a - 1) / a * a := Int.mul_le_mul_of_nonneg_right (by omega) (by omega)
  have m3 : 0 ≤ i * a := Int.mul_nonneg h.1 (by omega)
  rw [Int.add_mul] at m2
  omega
theorem spanOf_range (a b i : Int) : 0 ≤ (spanOf a b i).1 ∧ (spanOf a b i).1 ≤ 240 ∧ 0 ≤ (spanOf a b i).2 ∧ (spanOf a b i).2 ≤ 6 ∧ (spanOf a b i).1 + (spanOf a b i).2 ≤ 240 := by
  unfold spanOf
  split
  · rename_i h
    have := span_at h
    simp only
    split <;> omega
  · simp
theorem specSpanOf_eq (a b i : Int) : spec_SpanOf.f a b i = some (spanOf a b i) := by
  unfold spec_SpanOf.f spanOf
  have r := blocks_range a b
  rw [specBlocks_eq]
  simp only [Option.bind_some]
  rw [w64 (x := blocks a b - 1) (by omega) (by omega), l1In_eq]
  simp only [Option.bind_some]
  by_cases h : 0 ≤ i ∧ i ≤ blocks a b - 1
  · have s := span_at h
    rw [if_pos (by simpa using h), if_pos h, w64 (x := i * a) (by omega) (by omega), w64 (x := b - i * a) (by omega) (by omega)]
    unfold spec_Least.f
    split <;> simp
  · rw [if_neg (by simpa using h), if_neg h]
theorem implSpanOf_eq (a b i : Int) : impl_SpanOf.f a b i = some (spanOf a b i) := by
  unfold impl_SpanOf.f spanOf
  have r := blocks_range a b
  rw [implBlocks_eq]
  simp only [Option.bind_some]
  rw [w64 (x := blocks a b - 1) (by omega) (by omega), within_eq]
  simp only [Option.bind_some]
  by_cases h : 0 ≤ i ∧ i ≤ blocks a b - 1
  · have s := span_at h
    rw [if_pos (by simpa using h), if_pos h, w64 (x := i * a) (by omega) (by omega), w64 (x := b - i * a) (by omega) (by omega)]
    rfl
  · rw [if_neg (by simpa using h), if_neg h]
end Go.Proofs.Ytfkndpjbkndhcaa.Pb
/- Blocks of an image. No condition beyond the row's length. -/
namespace Go.Proofs.Ytfkndpjbkndhcaa.Pb
open Go.RowKit Go.Proofs.Ytfkndpjbkndhcaa Go.Proofs.Ytfkndpjbkndhcaa.Q Go.Proofs.YtfkndpjbkndhcaaW.PrintWords Go.Proofs.YtfkndpjbkndhcaaW.PrintLast
set_option linter.unusedVariables false
set_option linter.unusedSimpArgs false

def block (n : Int) (l : List Int) (i : Int) : List Int := (l.take ((spanOf n l.length i).1 + (spanOf n l.length i).2).toNat).drop (spanOf n l.length i).1.toNat
theorem span_zero {a b i : Int} (h : (spanOf a b i).2 = 0) : spanOf a b i = (0, 0) := by
  unfold spanOf at h ⊢
  split at h
  · rename_i q
    have s := span_at q
    simp only at h
    split at h <;> omega
  · rename_i q
    rw [if_neg q]
theorem block_nil {n : Int} {l : List Int} {i : Int} (h : (spanOf n l.length i).2 = 0) : block n l i = [] := by
  unfold block
  rw [span_zero h]
  simp
theorem block_in (n : Int) (l : List Int) (i : Int) : (spanOf n l.length i).1 + (spanOf n l.length i).2 ≤ l.length := by
  unfold spanOf
  split
  · rename_i h
    have s := span_at h
    simp only
    split <;> omega
  · simp
theorem block_length (n : Int) (l : List Int) (i : Int) : (block n l i).length ≤ 240 := by
  have := spanOf_range n l.length i
  unfold block
  rw [List.length_drop, List.length_take]
  omega
theorem implBlockAt_eq (l : List Int) (n i : Int) (hl : l.length ≤ 1048576) : impl_BlockAt.f l n i = some (block n l i, !decide ((spanOf n l.length i).2 = 0)) := by
  have r := spanOf_range n l.length i
  have hs := block_in n l i
  have pl := block_length n l i
  unfold impl_BlockAt.f
  rw [implSpanOf_eq]
  simp only [Option.bind_some]
  by_cases h : (spanOf n l.length i).2 = 0
  · rw [if_pos h, block_nil h, decide_eq_true h]; rfl
  · unfold block at pl
    rw [if_neg h, decide_eq_false h]
    unfold impl_Slice.f impl_cloned.f
    rw [within_eq]
    simp only [Option.bind_some]
    rw [if_pos (decide_eq_true (by omega)), w64 (x := (l.length : Int) - (spanOf n l.length i).1) (by omega) (by omega), within_eq]
    simp only [Option.bind_some]
    rw [if_pos (decide_eq_true (by omega)), w64 (by omega) (by omega), if_pos (by omega), if_pos (by omega), if_pos (by omega), if_pos (by omega)]
    rfl
end Go.Proofs.Ytfkndpjbkndhcaa.Pb
/- The bits of whole numbers of 64 bits, as natural numbers have them. No condition beyond the ranges. -/
namespace Go.Proofs.Ytfkndpjbkndhcaa.Pb
open Go
set_option linter.unusedVariables false

theorem wraps_i64 (n : Int) (h0 : 0 ≤ n) (h1 : n < 2 ^ 63) : IntKind.i64.wrap n = n := by rw [IntKind.wrap_i64]; omega
/-- A mask of low bits, of whatever number. -/
theorem and_mask (n : Int) (j m : Nat) (hj : j ≤ 62) (hm : m = 2 ^ j - 1) : bits .and .i64 n (m : Int) = n % (2 ^ j : Nat) := by
  have hp : (2 : Nat) ^ j ≤ 2 ^ 62 := Nat.pow_le_pow_right (by decide) hj
  have hpos : 0 < 2 ^ j := Nat.two_pow_pos j
  have hmm : (BitVec.ofInt 64 (m : Int)).toNat = 2 ^ j - 1 := by
    rw [BitVec.ofInt_natCast, BitVec.toNat_ofNat, hm, Nat.mod_eq_of_lt]
    have : (2 : Nat) ^ 62 < 2 ^ 64 := by decide
    omega
  have key : (BitVec.ofInt 64 n &&& BitVec.ofInt 64 (m : Int)).toNat = (n % ((2 ^ 64 : Nat) : Int)).toNat % 2 ^ j := by
    rw [BitVec.toNat_and, BitVec.toNat_ofInt, hmm, Nat.and_two_pow_sub_one_eq_mod]
  show IntKind.i64.wrap ((BitVec.ofInt 64 n &&& BitVec.ofInt 64 (m : Int)).toNat : Nat) = _
  rw [key, IntKind.wrap_i64]
  have hd : ((2 ^ j : Nat) : Int) ∣ ((2 ^ 64 : Nat) : Int) := by
    have : (2 ^ j : Nat) ∣ 2 ^ 64 := Nat.pow_dvd_pow 2 (by omega)
    exact Int.natCast_dvd_natCast.2 this
  have e0 : 0 ≤ n % ((2 ^ 64 : Nat) : Int) := Int.emod_nonneg _ (by decide)
  have e1 : (((n % ((2 ^ 64 : Nat) : Int)).toNat % 2 ^ j : Nat) : Int) = n % ((2 ^ j : Nat) : Int) := by
    rw [Int.natCast_emod, Int.toNat_of_nonneg e0, Int.emod_emod_of_dvd _ hd]
  rw [e1]
  have b0 : 0 ≤ n % ((2 ^ j : Nat) : Int) := Int.emod_nonneg _ (by omega)
  have b1 : n % ((2 ^ j : Nat) : Int) < ((2 ^ j : Nat) : Int) := Int.emod_lt_of_pos _ (by omega)
  have b2 : ((2 ^ j : Nat) : Int) ≤ ((2 ^ 62 : Nat) : Int) := Int.ofNat_le.2 hp
  have b3 : ((2 ^ 62 : Nat) : Int) = 4611686018427387904 := by decide
  omega
theorem and255 (n : Int) : bits .and .i64 n 255 = n % 256 := and_mask n 8 255 (by decide) (by decide)
theorem and_nat (a b : Nat) (ha : a < 2 ^ 63) (hb : b < 2 ^ 63) : bits .and .i64 (a : Int) (b : Int) = ((a &&& b : Nat) : Int) := (bits_nat .i64 63 (by decide) wraps_i64 a b ha hb).1
theorem or_nat (a b : Nat) (ha : a < 2 ^ 63) (hb : b < 2 ^ 63) : bits .or .i64 (a : Int) (b : Int) = ((a ||| b : Nat) : Int) := (bits_nat .i64 63 (by decide) wraps_i64 a b ha hb).2
end Go.Proofs.Ytfkndpjbkndhcaa.Pb
/- Weak sums of bytes: the program's and the reference's ways. No condition beyond the bytes' range. -/
namespace Go.Proofs.Ytfkndpjbkndhcaa.Pb
open Go.RowKit Go.Proofs.Ytfkndpjbkndhcaa Go.Proofs.Ytfkndpjbkndhcaa.Q Go.Proofs.YtfkndpjbkndhcaaW.PrintWords Go.Proofs.YtfkndpjbkndhcaaW.PrintLast
set_option linter.unusedVariables false
set_option linter.unusedSimpArgs false

theorem iter_foldl {α σ : Type} (f : σ → α → σ) (l : List α) (d : α) (s0 : σ) (n : Nat) (hn : n ≤ l.length) : iter n (fun i s => f s (l.getD i d)) s0 = (l.take n).foldl f s0 := by
  induction n with
  | zero => simp [iter_zero]
  | succ n ih =>
    rw [iter_succ, ih (by omega), List.take_succ_eq_append_getElem (by omega), List.foldl_append]
    simp [List.getD_eq_getElem?_getD, (show n < l.length by omega)]
theorem iter_foldl_all {α σ : Type} (f : σ → α → σ) (l : List α) (d : α) (s0 : σ) : iter l.length (fun i s => f s (l.getD i d)) s0 = l.foldl f s0 := by
  rw [iter_foldl f l d s0 l.length (Nat.le_refl _), List.take_length]

/-- All are bytes. -/
def Bytes (l : List Int) : Prop := ∀ x ∈ l, 0 ≤ x ∧ x ≤ 255
theorem bytes_getD {l : List Int} (h : Bytes l) (i : Nat) : 0 ≤ l.getD i 0 ∧ l.getD i 0 ≤ 255 := by
  rw [List.getD_eq_getElem?_getD]
  by_cases q : i < l.length
  · simp only [q, List.getElem?_eq_getElem, Option.getD_some]
    exact h _ (List.getElem_mem q)
  · simp [q]
def weakStep (p : Int × Int) (b : Int) : Int × Int := ((p.1 + b) % 251, (p.2 + (p.1 + b) % 251) % 251)
def weakPair (l : List Int) : Int × Int := l.foldl weakStep (0, 0)
def weakOf (l : List Int) : Int := (weakPair l).1 + 251 * (weakPair l).2
def WeakIn (p : Int × Int) : Prop := 0 ≤ p.1 ∧ p.1 < 251 ∧ 0 ≤ p.2 ∧ p.2 < 251
theorem weakStep_in (p : Int × Int) (b : Int) : WeakIn (weakStep p b) := by
  unfold WeakIn weakStep
  simp only
  omega
theorem weakPair_in (l : List Int) : WeakIn (weakPair l) := by
  unfold weakPair
  rcases List.eq_nil_or_concat l with rfl | ⟨l', x, rfl⟩
  · simp [WeakIn]
  · rw [List.concat_eq_append, List.foldl_append]
    exact weakStep_in _ _
theorem weakOf_range (l : List Int) : 0 ≤ weakOf l ∧ weakOf l ≤ 63000 := by
  have h := weakPair_in l
  unfold WeakIn at h
  unfold weakOf
  omega
theorem weak_step (x y b : Int) (h : WeakIn (x, y)) (hb : 0 ≤ b ∧ b ≤ 255) : Int.tmod (wrap64 (x + (wrap64 b))) 251 = (weakStep (x, y) b).1 ∧ Int.tmod (wrap64 (y + (Int.tmod (wrap64 (x + (wrap64 b))) 251))) 251 = (weakStep (x, y) b).2 := by
  unfold WeakIn at h
  simp only at h
  have e1 : Int.tmod (wrap64 (x + (wrap64 b))) 251 = (x + b) % 251 := by
    rw [w64 (x := b) (by omega) (by omega), w64 (x := x + b) (by omega) (by omega), Int.tmod_eq_emod_of_nonneg (by omega)]
  rw [e1]
  refine ⟨rfl, ?_⟩
  rw [w64 (by omega) (by omega), Int.tmod_eq_emod_of_nonneg (by omega)]
  rfl
theorem specWeakOf_ev (l : List Int) (hl : l.length ≤ 1048576) (hb : Bytes l) : Ev (fun k => spec_WeakOf.f k l) (weakOf l) := by
  unfold spec_WeakOf.f
  refine loop_up (σ := Int × Int) (fun k s i => spec_WeakOf.l0 k l s.1 s.2 i) l.length (fun i s => weakStep s (l.getD i 0)) (fun i s => WeakIn s) (0, 0) _ (by simp [WeakIn]) (fun i s _ _ => weakStep_in _ _) ?_ ?_
  · rintro i ⟨x, y⟩ r hi hs h
    refine Ev.step (fun k => rfl) ?_
    refine ev_pos (by omega) (ev_pos (by omega) ?_)
    have e := weak_step x y (l.getD i 0) hs (bytes_getD hb i)
    simp only [rd, Int.toNat_natCast]
    rw [e.1, ← e.1, e.2, e.1, w64 (x := (i : Int) + 1) (by omega) (by omega)]
    exact h
  · intro hs
    refine Ev.step (fun k => rfl) ?_
    refine ev_neg (by omega) (ev_eq ev_some ?_)
    rw [iter_foldl_all weakStep l 0 (0, 0)] at hs ⊢
    unfold WeakIn at hs
    rw [w64 (x := 251 * _) (by omega) (by omega), w64 (by omega) (by omega)]
    rfl
theorem implWeakOf_ev (l : List Int) (hl : l.length ≤ 1048576) (hb : Bytes l) : Ev (fun k => impl_WeakOf.f k l) (weakOf l) := by
  unfold impl_WeakOf.f
  refine loop_up (σ := Int × Int) (fun k s i => impl_WeakOf.l0 k s.1 s.2 l (l.length : Int) i) l.length (fun i s => weakStep s (l.getD i 0)) (fun i s => WeakIn s) (0, 0) _ (by simp [WeakIn]) (fun i s _ _ => weakStep_in _ _) ?_ ?_
  · rintro i ⟨x, y⟩ r hi hs h
    refine Ev.step (fun k => rfl) ?_
    refine ev_pos (by omega) (ev_pos (by omega) (ev_pos (by omega) ?_))
    have e := weak_step x y (l.getD i 0) hs (bytes_getD hb i)
    simp only [rd, Int.toNat_natCast]
    rw [e.1, ← e.1, e.2, e.1, w64 (x := (i : Int) + 1) (by omega) (by omega)]
    exact h
  · intro hs
    refine Ev.step (fun k => rfl) ?_
    refine ev_neg (by omega) ?_
    rw [iter_foldl_all weakStep l 0 (0, 0)] at hs ⊢
    unfold WeakIn at hs
    have wr : ∀ x : Int, 0 ≤ x → x < 251 → impl_Wrap.f x 251 = some x := by
      intro x h0 h1
      unfold impl_Wrap.f
      rw [within_eq]
      simp only [Option.bind_some]
      rw [if_pos (by decide), if_neg (by decide), Int.tmod_eq_emod_of_nonneg h0, w64 (by omega) (by omega), Int.tmod_eq_emod_of_nonneg (by omega)]
      congr 1
      omega
    have e : impl_weak.f (List.foldl weakStep (0, 0) l).1 (List.foldl weakStep (0, 0) l).2 = some (weakOf l) := by
      unfold impl_weak.f
      rw [wr _ hs.1 hs.2.1, wr _ hs.2.2.1 hs.2.2.2]
      simp only [Option.bind_some]
      rw [w64 (x := 251 * _) (by omega) (by omega), w64 (by omega) (by omega)]
      rfl
    exact ev_then e ev_some
end Go.Proofs.Ytfkndpjbkndhcaa.Pb
/- The bytes of a strong sum: the program's and the reference's ways. No condition. -/
namespace Go.Proofs.Ytfkndpjbkndhcaa.Pb
open Go.RowKit Go.Proofs.Ytfkndpjbkndhcaa Go.Proofs.Ytfkndpjbkndhcaa.Q Go.Proofs.YtfkndpjbkndhcaaW.PrintWords Go.Proofs.YtfkndpjbkndhcaaW.PrintLast Go.Proofs.YtfkndpjbkndhcaaW.PrintMore
set_option linter.unusedVariables false
set_option linter.unusedSimpArgs false

theorem shr_of (x y : Int) (h1 : y ≤ 64) : shr .i64 x y = x / 2 ^ y.toNat := by
  unfold shr
  rw [Nat.min_eq_left (by simp [IntKind.bits]; omega)]
/-- The low digits to 256, the highest of them first. -/
def digs : Nat → Int → List Int
  | 0, _ => []
  | c + 1, x => digs c (x / 256) ++ [x % 256]
theorem digs_length (c : Nat) : ∀ x, (digs c x).length = c := by
  induction c with
  | zero => intro x; rfl
  | succ c ih => intro x; simp [digs, ih]
theorem digs_bytes (c : Nat) : ∀ x, Bytes (digs c x) := by
  induction c with
  | zero => intro x; simp [digs, Bytes]
  | succ c ih =>
    intro x y hy
    rw [digs, List.mem_append, List.mem_singleton] at hy
    rcases hy with hy | rfl
    · exact ih _ y hy
    · omega
theorem pow256_succ (c : Nat) : (256 : Int) ^ (c + 1) = 256 * 256 ^ c := by rw [Int.pow_succ, Int.mul_comm]
theorem div256 (x : Int) (c : Nat) : x / 256 ^ (c + 1) = x / 256 / 256 ^ c := by
  rw [pow256_succ, Int.ediv_ediv_of_nonneg (by decide)]
theorem digs_map (c : Nat) : ∀ x, digs c x = (List.range c).map (fun i => x / 256 ^ (c - 1 - i) % 256) := by
  induction c with
  | zero => intro x; rfl
  | succ c ih =>
    intro x
    rw [digs, ih, List.range_succ, List.map_append, List.map_singleton]
    congr 1
    · apply List.map_congr_left
      intro i hi
      have hi' := List.mem_range.1 hi
      rw [show c + 1 - 1 - i = (c - 1 - i) + 1 by omega, div256]
    · simp
theorem p256_0 : (256 : Int) ^ 0 = 1 := by decide
theorem p256_1 : (256 : Int) ^ 1 = 256 := by decide
theorem p256_2 : (256 : Int) ^ 2 = 65536 := by decide
theorem p256_3 : (256 : Int) ^ 3 = 16777216 := by decide
theorem p256_4 : (256 : Int) ^ 4 = 4294967296 := by decide
theorem p256_5 : (256 : Int) ^ 5 = 1099511627776 := by decide
theorem p256_6 : (256 : Int) ^ 6 = 281474976710656 := by decide
/-- How many digits a sum's number has behind its leading one, up to six. -/
def cnt (x : Int) : Nat := if x ≤ 1 then 0 else if x / 256 ≤ 1 then 1 else if x / 65536 ≤ 1 then 2 else if x / 16777216 ≤ 1 then 3 else if x / 4294967296 ≤ 1 then 4 else if x / 1099511627776 ≤ 1 then 5 else 6
def bytesOf (x : Int) : List Int × Bool := if 1 ≤ x ∧ x / 256 ^ (cnt x) = 1 then (digs (cnt x) x, true) else ([], false)
theorem cnt_le (x : Int) : cnt x ≤ 6 := by
  unfold cnt
  repeat' split
  all_goals omega
theorem bytesOf_bytes (x : Int) : Bytes (bytesOf x).1 := by
  unfold bytesOf
  split
  · exact digs_bytes _ _
  · simp [Bytes]
theorem bytesOf_length (x : Int) : (bytesOf x).1.length ≤ 6 := by
  unfold bytesOf
  split
  · simp only [digs_length]; exact cnt_le x
  · simp
theorem cnt_iff (x : Int) (hx : 1 ≤ x) (h : x ≤ 562949953421311) (c : Nat) (hc : c ≤ 6) (e : x / 256 ^ c = 1) : cnt x = c := by
  unfold cnt
  rcases (show c = 0 ∨ c = 1 ∨ c = 2 ∨ c = 3 ∨ c = 4 ∨ c = 5 ∨ c = 6 by omega) with rfl | rfl | rfl | rfl | rfl | rfl | rfl <;> simp only [p256_0, p256_1, p256_2, p256_3, p256_4, p256_5, p256_6, Int.ediv_one] at e <;> (repeat' split) <;> omega
theorem shr_pow (x : Int) (c : Nat) (hc : c ≤ 6) : shr .i64 x (wrap64 (8 * (c : Int))) = x / 256 ^ c := by
  rw [w64 (by omega) (by omega), shr_of _ _ (by omega), show (8 * (c : Int)).toNat = 8 * c by omega, Int.pow_mul]
  rfl
end Go.Proofs.Ytfkndpjbkndhcaa.Pb
/- A block's sum, as the reference makes it. No condition beyond the bytes' range. -/
namespace Go.Proofs.Ytfkndpjbkndhcaa.Pb
open Go.RowKit Go.Proofs.Ytfkndpjbkndhcaa Go.Proofs.Ytfkndpjbkndhcaa.Q Go.Proofs.YtfkndpjbkndhcaaW.PrintWords Go.Proofs.YtfkndpjbkndhcaaW.PrintLast
set_option linter.unusedVariables false
set_option linter.unusedSimpArgs false

/-- The strong sum: the bytes as one number, behind a leading one. -/
def strong (l : List Int) : Int := l.foldl (fun s b => 256 * s + b) 1
def sumOf (l : List Int) : Int × Int := if (l.length : Int) > 6 then (0, 0) else (weakOf l, strong l)
theorem p256_le (i : Nat) (h : i ≤ 6) : 1 ≤ (256 : Int) ^ i ∧ (256 : Int) ^ i ≤ 281474976710656 := by
  rcases (show i = 0 ∨ i = 1 ∨ i = 2 ∨ i = 3 ∨ i = 4 ∨ i = 5 ∨ i = 6 by omega) with rfl | rfl | rfl | rfl | rfl | rfl | rfl <;> simp only [p256_0, p256_1, p256_2, p256_3, p256_4, p256_5, p256_6] <;> omega
/-- What a prefix's strong sum stays under. -/
def StrongIn (i : Nat) (s : Int) : Prop := 1 ≤ s ∧ s < 2 * 256 ^ i
theorem strongIn_step {i : Nat} {s b : Int} (h : StrongIn i s) (hb : 0 ≤ b ∧ b ≤ 255) : StrongIn (i + 1) (256 * s + b) := by
  unfold StrongIn at h ⊢
  rw [pow256_succ]
  generalize (256 : Int) ^ i = p at h ⊢
  omega
theorem strongIn_le {i : Nat} {s : Int} (h : StrongIn i s) (hi : i ≤ 6) : 1 ≤ s ∧ s ≤ 562949953421311 := by
  unfold StrongIn at h
  have := p256_le i hi
  omega
theorem specSumOf_ev (l : List Int) (hb : Bytes l) : Ev (fun k => spec_SumOf.f k l) (sumOf l) := by
  unfold spec_SumOf.f sumOf
  refine ev_if (fun h => ev_eq ev_some (by rw [if_pos h])) (fun h => ?_)
  rw [if_neg h]
  refine loop_up (σ := Int) (fun k s i => spec_SumOf.l0 k l s i) l.length (fun i s => 256 * s + l.getD i 0) (fun i s => StrongIn i s) 1 _ (by simp [StrongIn]) (fun i s _ hs => strongIn_step hs (bytes_getD hb i)) ?_ ?_
  · intro i s r hi hs h
    have q := strongIn_le hs (by omega)
    have z := bytes_getD hb i
    refine Ev.step (fun k => rfl) ?_
    refine ev_pos (by omega) (ev_pos (by omega) ?_)
    simp only [rd, Int.toNat_natCast]
    rw [w64 (x := 256 * s) (by omega) (by omega), w64 (x := l.getD i 0) (by omega) (by omega), w64 (x := 256 * s + l.getD i 0) (by omega) (by omega), w64 (x := (i : Int) + 1) (by omega) (by omega)]
    exact h
  · intro hs
    refine Ev.step (fun k => rfl) ?_
    refine ev_neg (by omega) (Ev.bind (specWeakOf_ev l (by omega) hb) (ev_eq ev_some ?_))
    rw [iter_foldl_all (fun s b => 256 * s + b) l 0 1]
    rfl
theorem strong_digs (c : Nat) : ∀ x : Int, 1 ≤ x → x / 256 ^ c = 1 → strong (digs c x) = x := by
  induction c with
  | zero => intro x h1 h; simp at h; simp [digs, strong, h]
  | succ c ih =>
    intro x h1 h
    rw [div256] at h
    have hge : 1 ≤ x / 256 := by
      by_cases q : 1 ≤ x / 256
      · exact q
      · have z : x / 256 = 0 := by omega
        rw [z, Int.zero_ediv] at h
        omega
    have e := ih (x / 256) hge h
    unfold strong at e ⊢
    rw [digs, List.foldl_append, e]
    simp only [List.foldl_cons, List.foldl_nil]
    omega
theorem bytesOf_strong (x : Int) (h : (bytesOf x).2 = true) : sumOf (bytesOf x).1 = (weakOf (bytesOf x).1, x) := by
  have hl := bytesOf_length x
  unfold sumOf
  rw [if_neg (by omega)]
  unfold bytesOf at h ⊢
  split at h
  · rename_i q
    rw [if_pos q]
    simp only
    rw [strong_digs _ _ q.1 q.2]
  · simp at h
end Go.Proofs.Ytfkndpjbkndhcaa.Pb
/- Whether a manifest is a good one: the program's and the reference's ways. No condition beyond the size that the laws ask. -/
namespace Go.Proofs.Ytfkndpjbkndhcaa.Pb
open Go.RowKit Go.Proofs.Ytfkndpjbkndhcaa Go.Proofs.Ytfkndpjbkndhcaa.Q Go.Proofs.YtfkndpjbkndhcaaW.PrintWords Go.Proofs.YtfkndpjbkndhcaaW.PrintLast
set_option linter.unusedVariables false
set_option linter.unusedSimpArgs false

/-- A block's sum is a good one, at its place. -/
def blockOk (b c : Int) (l : List S48) (i : Nat) : Bool := (bytesOf (l.getD i z48).f1).2 && (decide (((bytesOf (l.getD i z48).f1).1.length : Int) = (spanOf b c i).2) && decide (weakOf (bytesOf (l.getD i z48).f1).1 = (l.getD i z48).f0))
def manOk (a b c : Int) (l : List S48) : Bool := if a = 0 then decide (b = 0 ∧ c = 0 ∧ l.length = 0) else if (1 ≤ a ∧ a ≤ 1000000) ∧ sizeOk b c = true ∧ (l.length : Int) = blocks b c then (List.range l.length).all (blockOk b c l) else false
end Go.Proofs.Ytfkndpjbkndhcaa.Pb
/- Whether a number is a set of blocks. No condition. -/
namespace Go.Proofs.Ytfkndpjbkndhcaa.Pb
open Go.RowKit Go.Proofs.Ytfkndpjbkndhcaa Go.Proofs.Ytfkndpjbkndhcaa.Q Go.Proofs.YtfkndpjbkndhcaaW.PrintWords Go.Proofs.YtfkndpjbkndhcaaW.PrintLast
set_option linter.unusedVariables false
set_option linter.unusedSimpArgs false

/-- A set of blocks. -/
def setOk (s : Int) : Bool := decide (0 ≤ s ∧ s ≤ 1099511627775)
theorem specSetOk_eq (s : Int) : spec_SetOk.f s = some (setOk s) := by
  unfold spec_SetOk.f
  rw [l1In_eq]
  rfl
theorem implSetOk_eq (s : Int) : impl_SetOk.f s = some (setOk s) := by
  unfold impl_SetOk.f
  rw [within_eq]
  rfl
end Go.Proofs.Ytfkndpjbkndhcaa.Pb
/- What a build still lacks: sets of blocks, with one another taken away. No condition. -/
namespace Go.Proofs.Ytfkndpjbkndhcaa.Pb
open Go.RowKit Go.Proofs.Ytfkndpjbkndhcaa Go.Proofs.Ytfkndpjbkndhcaa.Q Go.Proofs.YtfkndpjbkndhcaaW.PrintWords Go.Proofs.YtfkndpjbkndhcaaW.PrintLast
set_option linter.unusedVariables false
set_option linter.unusedSimpArgs false

def fullSet (n : Int) : Int := if 0 ≤ n ∧ n ≤ 40 then wrap64 ((shl .i64 1 n) - 1) else 0
theorem specFullSet_eq (n : Int) : spec_FullSet.f n = some (fullSet n) := by
  unfold spec_FullSet.f fullSet
  rw [l1In_eq]
  simp only [Option.bind_some]
  by_cases h : 0 ≤ n ∧ n ≤ 40
  · rw [if_pos (by simpa using h), if_pos h.1, if_pos h]
  · rw [if_neg (by simpa using h), if_neg h]
theorem implFullSet_eq (n : Int) : impl_FullSet.f n = some (fullSet n) := by
  unfold impl_FullSet.f fullSet
  rw [within_eq]
  simp only [Option.bind_some]
  by_cases h : 0 ≤ n ∧ n ≤ 40
  · rw [if_pos (by simpa using h), if_pos h.1, if_pos h]
  · rw [if_neg (by simpa using h), if_neg h]
def without (a b : Int) : Int := if setOk a = true then (if setOk b = true then Go.bits .andNot .i64 a b else 0) else 0
theorem specWithout_eq (a b : Int) : spec_Without.f a b = some (without a b) := by
  unfold spec_Without.f without
  rw [specSetOk_eq, specSetOk_eq]
  simp only [Option.bind_some]
  by_cases h : setOk a = true
  · rw [if_pos h, if_pos h]
    by_cases h' : setOk b = true
    · rw [if_pos h', if_pos h']
    · rw [if_neg h', if_neg h']
  · rw [if_neg h, if_neg h]
def missing (l : List S48) (h : Int) : Int := without (fullSet l.length) h
end Go.Proofs.Ytfkndpjbkndhcaa.Pb
/- The blocks in a set, one by one. No condition. -/
namespace Go.Proofs.Ytfkndpjbkndhcaa.Pb
open Go.RowKit Go.Proofs.Ytfkndpjbkndhcaa Go.Proofs.Ytfkndpjbkndhcaa.Q Go.Proofs.YtfkndpjbkndhcaaW.PrintWords Go.Proofs.YtfkndpjbkndhcaaW.PrintLast Go.Proofs.YtfkndpjbkndhcaaW.PrintMore
set_option linter.unusedVariables false
set_option linter.unusedSimpArgs false

def inSet (s i : Int) : Bool := if setOk s = true then (if 0 ≤ i ∧ i ≤ 39 then (Go.bits .and .i64 (shr .i64 s i) 1) == 1 else false) else false
theorem specInSet_eq (s i : Int) : spec_InSet.f s i = some (inSet s i) := by
  unfold spec_InSet.f inSet
  rw [specSetOk_eq]
  simp only [Option.bind_some]
  by_cases h : setOk s = true
  · rw [if_pos h, if_pos h, l1In_eq]
    simp only [Option.bind_some]
    by_cases q : 0 ≤ i ∧ i ≤ 39
    · rw [if_pos (by simpa using q), if_pos q.1, if_pos q]
    · rw [if_neg (by simpa using q), if_neg q]
  · rw [if_neg h, if_neg h]
theorem implInSet_eq (s i : Int) : impl_InSet.f s i = some (inSet s i) := by
  unfold impl_InSet.f inSet
  rw [implSetOk_eq]
  simp only [Option.bind_some]
  by_cases h : setOk s = true
  · rw [if_pos h, if_pos h]
    have e : impl_isPlace.f i = some (decide (0 ≤ i ∧ i ≤ 39)) := by
      unfold impl_isPlace.f
      rw [within_eq]
      rfl
    rw [e]
    simp only [Option.bind_some]
    by_cases q : 0 ≤ i ∧ i ≤ 39
    · rw [if_pos (by simpa using q), if_pos q.1, if_pos q]
    · rw [if_neg (by simpa using q), if_neg q]
  · rw [if_neg h, if_neg h]
def partsIn (s : Int) : List Int := iter 40 (fun (i : Nat) (a : List Int) => if inSet s i = true then a ++ [(i : Int)] else a) []
theorem parts_len (s : Int) (n : Nat) : (iter n (fun (i : Nat) (a : List Int) => if inSet s i = true then a ++ [(i : Int)] else a) []).length ≤ n := by
  induction n with
  | zero => simp [iter_zero]
  | succ n ih =>
    rw [iter_succ]
    split
    · rw [List.length_append, List.length_singleton]; omega
    · omega
theorem specPartsIn_ev (s : Int) : Ev (fun k => spec_PartsIn.f k s) (partsIn s) := by
  unfold spec_PartsIn.f
  refine loop_up (fun k a i => spec_PartsIn.l0 k s a i) 40 (fun (i : Nat) (a : List Int) => if inSet s i = true then a ++ [(i : Int)] else a) (fun i a => a.length ≤ i) [] _ (by simp) ?_ ?_ ?_
  · intro i a hi h
    split
    · rw [List.length_append, List.length_singleton]; omega
    · omega
  · intro i a r hi hs h
    refine Ev.step (fun k => rfl) ?_
    refine ev_pos (by omega) (ev_then (specInSet_eq _ _) ?_)
    rw [w64 (x := (i : Int) + 1) (by omega) (by omega)]
    refine ev_if (fun hb => ev_pos (by omega) ?_) (fun hb => ?_)
    · rw [if_pos hb] at h; exact h
    · rw [if_neg hb] at h; exact h
  · intro hs
    refine Ev.step (fun k => rfl) ?_
    exact ev_neg (by decide) ev_some
theorem implPartsIn_ev (s : Int) : Ev (fun k => impl_PartsIn.f k s) (partsIn s) := by
  unfold impl_PartsIn.f
  refine loop_up (fun k a i => impl_PartsIn.l0 k s a i) 40 (fun (i : Nat) (a : List Int) => if inSet s i = true then a ++ [(i : Int)] else a) (fun i a => a.length ≤ i) [] _ (by simp) ?_ ?_ ?_
  · intro i a hi h
    split
    · rw [List.length_append, List.length_singleton]; omega
    · omega
  · intro i a r hi hs h
    refine Ev.step (fun k => rfl) ?_
    refine ev_pos (by omega) (ev_then (implInSet_eq _ _) ?_)
    rw [w64 (x := (i : Int) + 1) (by omega) (by omega)]
    refine ev_if (fun hb => ev_pos (by omega) ?_) (fun hb => ?_)
    · rw [if_pos hb] at h; exact h
    · rw [if_neg hb] at h; exact h
  · intro hs
    refine Ev.step (fun k => rfl) ?_
    exact ev_neg (by decide) ev_some
end Go.Proofs.Ytfkndpjbkndhcaa.Pb
/- Sets of blocks, bit by bit. No condition beyond forty of them. -/
namespace Go.Proofs.Ytfkndpjbkndhcaa.Pb
open Go.RowKit Go.Proofs.YtfkndpjbkndhcaaW.PrintWords Go.Proofs.YtfkndpjbkndhcaaW.PrintLast Go.Proofs.YtfkndpjbkndhcaaW.PrintMore
set_option linter.unusedVariables false
set_option linter.unusedSimpArgs false

theorem shl_one (m : Nat) (h : m ≤ 40) : shl .i64 1 (m : Int) = ((2 ^ m : Nat) : Int) := by
  have hp : (2 : Nat) ^ m ≤ 2 ^ 40 := Nat.pow_le_pow_right (by decide) h
  unfold shl
  rw [Int.toNat_natCast, Nat.min_eq_left (by simp [IntKind.bits]; omega), Int.one_mul, show (2 : Int) ^ m = ((2 ^ m : Nat) : Int) by simp]
  generalize 2 ^ m = p at hp ⊢
  exact wraps_i64 _ (by omega) (by omega)
/-- The numbers under m that p holds of, a bit each. -/
def bs (p : Nat → Bool) : Nat → Nat
  | 0 => 0
  | m + 1 => bs p m + (if p m = true then 2 ^ m else 0)
theorem bs_lt (p : Nat → Bool) (m : Nat) : bs p m < 2 ^ m := by
  induction m with
  | zero => simp [bs]
  | succ m ih =>
    rw [bs, Nat.pow_succ]
    split <;> omega
theorem bs_not (p : Nat → Bool) (m : Nat) : bs p m + bs (fun i => !p i) m = 2 ^ m - 1 := by
  induction m with
  | zero => simp [bs]
  | succ m ih =>
    have h1 : 0 < 2 ^ m := Nat.two_pow_pos m
    rw [bs, bs, Nat.pow_succ]
    cases hp : p m <;> simp <;> omega
theorem or_bit (x m : Nat) (hm : m ≤ 40) (hx : x < 2 ^ m) : Go.bits .or .i64 (x : Int) (shl .i64 1 (m : Int)) = ((x + 2 ^ m : Nat) : Int) := by
  have hp : (2 : Nat) ^ m ≤ 2 ^ 40 := Nat.pow_le_pow_right (by decide) hm
  rw [shl_one m hm, or_nat _ _ (by omega) (by omega)]
  have := Nat.two_pow_add_eq_or_of_lt hx 1
  rw [Nat.mul_one, Nat.or_comm] at this
  omega
theorem andNot_mask (x m : Nat) (hm : m ≤ 40) (hx : x < 2 ^ m) : Go.bits .andNot .i64 ((2 ^ m - 1 : Nat) : Int) (x : Int) = ((2 ^ m - 1 - x : Nat) : Int) := by
  have hp : (2 : Nat) ^ m ≤ 2 ^ 40 := Nat.pow_le_pow_right (by decide) hm
  have h0 : 0 < 2 ^ m := Nat.two_pow_pos m
  have key : (BitVec.ofInt 64 ((2 ^ m - 1 : Nat) : Int) &&& ~~~ BitVec.ofInt 64 (x : Int)).toNat = 2 ^ m - 1 - x := by
    rw [BitVec.toNat_and, BitVec.toNat_not, BitVec.ofInt_natCast, BitVec.ofInt_natCast, BitVec.toNat_ofNat, BitVec.toNat_ofNat, Nat.mod_eq_of_lt (a := 2 ^ m - 1) (by omega), Nat.mod_eq_of_lt (a := x) (by omega), Nat.and_comm, Nat.and_two_pow_sub_one_eq_mod]
    have hd : (2 : Nat) ^ 64 = 2 ^ (64 - m) * 2 ^ m := by rw [← Nat.pow_add]; congr 1; omega
    have hq : 0 < 2 ^ (64 - m) := Nat.two_pow_pos _
    have e : 2 ^ 64 - 1 - x = (2 ^ m - 1 - x) + 2 ^ m * (2 ^ (64 - m) - 1) := by
      rw [Nat.mul_sub, Nat.mul_one, Nat.mul_comm, ← hd]
      omega
    rw [e, Nat.add_mul_mod_self_left, Nat.mod_eq_of_lt (by omega)]
  show IntKind.i64.wrap ((BitVec.ofInt 64 ((2 ^ m - 1 : Nat) : Int) &&& ~~~ BitVec.ofInt 64 (x : Int)).toNat : Nat) = _
  rw [key]
  exact wraps_i64 _ (by omega) (by omega)
end Go.Proofs.Ytfkndpjbkndhcaa.Pb
/- A block's sum, as the program makes it. No condition beyond the bytes' range. -/
namespace Go.Proofs.Ytfkndpjbkndhcaa.Pb
open Go.RowKit Go.Proofs.Ytfkndpjbkndhcaa Go.Proofs.Ytfkndpjbkndhcaa.Q Go.Proofs.YtfkndpjbkndhcaaW.PrintWords Go.Proofs.YtfkndpjbkndhcaaW.PrintLast
set_option linter.unusedVariables false
set_option linter.unusedSimpArgs false

theorem or_byte (s b : Int) (h0 : 0 ≤ s) (h1 : s ≤ 562949953421311) (hb : 0 ≤ b ∧ b ≤ 255) : Go.bits .or .i64 (s * 256) b = 256 * s + b := by
  obtain ⟨a, rfl⟩ := Int.eq_ofNat_of_zero_le h0
  obtain ⟨c, rfl⟩ := Int.eq_ofNat_of_zero_le hb.1
  have e : ((a : Int) * 256) = ((2 ^ 8 * a : Nat) : Int) := by omega
  rw [e, or_nat _ _ (by omega) (by omega), ← Nat.two_pow_add_eq_or_of_lt (by omega)]
  omega
theorem implSumOf_ev (l : List Int) (hb : Bytes l) : Ev (fun k => impl_SumOf.f k l) (sumOf l) := by
  unfold impl_SumOf.f sumOf
  refine ev_if (fun h => ev_eq ev_some (by rw [if_pos h])) (fun h => ?_)
  rw [if_neg h]
  refine loop_up (σ := Int) (fun k s i => impl_SumOf.l0 k l s l (l.length : Int) i) l.length (fun i s => 256 * s + l.getD i 0) (fun i s => StrongIn i s) 1 _ (by simp [StrongIn]) (fun i s _ hs => strongIn_step hs (bytes_getD hb i)) ?_ ?_
  · intro i s r hi hs h
    have q := strongIn_le hs (by omega)
    have z := bytes_getD hb i
    refine Ev.step (fun k => rfl) ?_
    refine ev_pos (by omega) (ev_pos (by omega) (ev_pos (by omega) ?_))
    simp only [rd, Int.toNat_natCast]
    rw [w64 (x := s * 256) (by omega) (by omega), w64 (x := l.getD i 0) (by omega) (by omega), or_byte s _ (by omega) (by omega) z, w64 (x := (i : Int) + 1) (by omega) (by omega)]
    exact h
  · intro hs
    refine Ev.step (fun k => rfl) ?_
    refine ev_neg (by omega) (Ev.bind (implWeakOf_ev l (by omega) hb) (ev_eq ev_some ?_))
    rw [iter_foldl_all (fun s b => 256 * s + b) l 0 1]
    rfl
end Go.Proofs.Ytfkndpjbkndhcaa.Pb
/- Whether a build is a good one: the program's and the reference's ways. No condition beyond the rows' lengths, and that its bytes are bytes. -/
namespace Go.Proofs.Ytfkndpjbkndhcaa.Pb
open Go.RowKit Go.Proofs.Ytfkndpjbkndhcaa Go.Proofs.Ytfkndpjbkndhcaa.Q Go.Proofs.YtfkndpjbkndhcaaW.PrintWords Go.Proofs.YtfkndpjbkndhcaaW.PrintLast
set_option linter.unusedVariables false
set_option linter.unusedSimpArgs false

theorem setOk_full (n : Int) : setOk (fullSet n) = true := by
  unfold setOk fullSet
  rw [decide_eq_true_eq]
  split
  · rename_i h
    have e : n = ((n.toNat : Nat) : Int) := by omega
    have hm : n.toNat ≤ 40 := by omega
    have hp : 2 ^ n.toNat ≤ 1099511627776 := Nat.le_trans (Nat.pow_le_pow_right (by decide) hm) (by decide)
    have h0 : 0 < 2 ^ n.toNat := Nat.two_pow_pos _
    rw [e, shl_one _ hm, w64 (by omega) (by omega)]
    omega
  · omega
/-- The bytes of a block. -/
def piece (b c : Int) (m : List Int) (i : Int) : List Int := (m.take ((spanOf b c i).1 + (spanOf b c i).2).toNat).drop (spanOf b c i).1.toNat
theorem bytes_piece {m : List Int} (h : Bytes m) (b c i : Int) : Bytes (piece b c m i) := fun x hx => h x (List.mem_of_mem_take (List.mem_of_mem_drop hx))
theorem piece_length (b c : Int) (m : List Int) (i : Int) : (piece b c m i).length ≤ 240 := by
  have := spanOf_range b c i
  unfold piece
  rw [List.length_drop, List.length_take]
  omega
theorem span_in {b c : Int} {m : List Int} (hc : (m.length : Int) = c) (i : Int) : (spanOf b c i).1 + (spanOf b c i).2 ≤ m.length := by
  unfold spanOf
  split
  · rename_i h
    have s := span_at h
    simp only
    split <;> omega
  · simp
def zeros (s : List Int) : Bool := (List.range s.length).all (fun i => decide (rd s (i : Int) = 0))
/-- A block that it has: its sum; another: zeros. -/
def sumIs (s : Int × Int) (x : S48) : Bool := (s.1 == x.f0) && (s.2 == x.f1)
theorem sum_ne (s : Int × Int) (x : S48) : (!(s.1 == x.f0) || (!(s.2 == x.f1))) = !sumIs s x := by
  unfold sumIs
  cases (s.1 == x.f0) <;> cases (s.2 == x.f1) <;> rfl
def partOk (b c : Int) (l : List S48) (h : Int) (m : List Int) (i : Nat) : Bool := if inSet h (i : Int) = true then sumIs (sumOf (piece b c m (i : Int))) (l.getD i z48) else zeros (piece b c m (i : Int))
def buildOk (a b c : Int) (l : List S48) (h : Int) (m : List Int) : Bool := manOk a b c l && (setOk h && (decide (Go.bits .andNot .i64 h (fullSet l.length) = 0) && (decide ((m.length : Int) = c) && (List.range l.length).all (partOk b c l h m))))
theorem manOk_blocks {a b c : Int} {l : List S48} (h : manOk a b c l = true) : l.length ≤ 40 ∧ (l.length : Int) ≤ blocks b c := by
  have r := blocks_range b c
  unfold manOk at h
  split at h
  · have := of_decide_eq_true h
    omega
  · split at h
    · rename_i q
      omega
    · cases h
end Go.Proofs.Ytfkndpjbkndhcaa.Pb
/- The strong sum tells the bytes. No condition beyond their range. -/
namespace Go.Proofs.Ytfkndpjbkndhcaa.Pb
open Go.RowKit Go.Proofs.Ytfkndpjbkndhcaa Go.Proofs.Ytfkndpjbkndhcaa.Q Go.Proofs.YtfkndpjbkndhcaaW.PrintWords Go.Proofs.YtfkndpjbkndhcaaW.PrintLast
set_option linter.unusedVariables false
set_option linter.unusedSimpArgs false

theorem strongFrom_bounds : ∀ (l : List Int) (s : Int), Bytes l → s * 256 ^ l.length ≤ l.foldl (fun s b => 256 * s + b) s ∧ l.foldl (fun s b => 256 * s + b) s < (s + 1) * 256 ^ l.length
  | [], s, _ => by simp; omega
  | b :: l, s, h => by
    have hb := h b (by simp)
    have ih := strongFrom_bounds l (256 * s + b) (fun x hx => h x (by simp [hx]))
    rw [List.foldl_cons, List.length_cons, pow256_succ]
    have hp : (0 : Int) < 256 ^ l.length := Int.pow_pos (by decide)
    generalize (256 : Int) ^ l.length = p at ih hp ⊢
    have e1 : (256 * s + b) * p = 256 * (s * p) + b * p := by rw [Int.add_mul, Int.mul_assoc]
    have e2 : (256 * s + b + 1) * p = 256 * (s * p) + b * p + p := by rw [Int.add_mul, e1, Int.one_mul]
    have e3 : s * (256 * p) = 256 * (s * p) := by rw [← Int.mul_assoc, Int.mul_comm s 256, Int.mul_assoc]
    have e4 : (s + 1) * (256 * p) = 256 * (s * p) + 256 * p := by rw [Int.add_mul, e3, Int.one_mul]
    have e5 : 0 ≤ b * p := Int.mul_nonneg hb.1 (Int.le_of_lt hp)
    have e6 : b * p ≤ 255 * p := Int.mul_le_mul_of_nonneg_right hb.2 (Int.le_of_lt hp)
    rw [e1, e2] at ih
    rw [e3, e4]
    omega
theorem strong_length {l m : List Int} (hl : Bytes l) (hm : Bytes m) (h6 : l.length ≤ 6) (m6 : m.length ≤ 6) (h : strong l = strong m) : l.length = m.length := by
  have a := strongFrom_bounds l 1 hl
  have b := strongFrom_bounds m 1 hm
  unfold strong at h
  rw [h] at a
  generalize l.length = x at a h6 ⊢
  generalize m.length = y at b m6 ⊢
  rcases (show x = 0 ∨ x = 1 ∨ x = 2 ∨ x = 3 ∨ x = 4 ∨ x = 5 ∨ x = 6 by omega) with rfl | rfl | rfl | rfl | rfl | rfl | rfl <;>
    rcases (show y = 0 ∨ y = 1 ∨ y = 2 ∨ y = 3 ∨ y = 4 ∨ y = 5 ∨ y = 6 by omega) with rfl | rfl | rfl | rfl | rfl | rfl | rfl <;>
    simp only [p256_0, p256_1, p256_2, p256_3, p256_4, p256_5, p256_6] at a b ⊢ <;> omega
theorem strongFrom_inj : ∀ (l m : List Int) (s t : Int), Bytes l → Bytes m → l.length = m.length → l.foldl (fun s b => 256 * s + b) s = m.foldl (fun s b => 256 * s + b) t → s = t ∧ l = m
  | [], [], s, t, _, _, _, h => ⟨h, rfl⟩
  | [], _ :: _, _, _, _, _, e, _ => by simp at e
  | _ :: _, [], _, _, _, _, e, _ => by simp at e
  | a :: l, b :: m, s, t, hl, hm, e, h => by
    have ha := hl a (by simp)
    have hb := hm b (by simp)
    obtain ⟨h1, rfl⟩ := strongFrom_inj l m (256 * s + a) (256 * t + b) (fun x hx => hl x (by simp [hx])) (fun x hx => hm x (by simp [hx])) (by simpa using e) h
    obtain rfl : a = b := by omega
    obtain rfl : s = t := by omega
    exact ⟨rfl, rfl⟩
theorem strong_inj {l m : List Int} (hl : Bytes l) (hm : Bytes m) (h6 : l.length ≤ 6) (m6 : m.length ≤ 6) (h : strong l = strong m) : l = m :=
  (strongFrom_inj l m 1 1 hl hm (strong_length hl hm h6 m6 h) h).2
theorem strong_pos (l : List Int) (h : Bytes l) : 1 ≤ strong l := by
  have a := (strongFrom_bounds l 1 h).1
  have : (0 : Int) < 256 ^ l.length := Int.pow_pos (by decide)
  unfold strong
  omega
end Go.Proofs.Ytfkndpjbkndhcaa.Pb
/- A part is put into a set. -/
namespace Go.Proofs.Ytfkndpjbkndhcaa.Pb
open Go.RowKit Go.Proofs.Ytfkndpjbkndhcaa Go.Proofs.Ytfkndpjbkndhcaa.Q Go.Proofs.YtfkndpjbkndhcaaW.PrintWords Go.Proofs.YtfkndpjbkndhcaaW.PrintLast
set_option linter.unusedVariables false
set_option linter.unusedSimpArgs false

def withPart (s i : Int) : Int := if setOk s = true then (if 0 ≤ i ∧ i ≤ 39 then Go.bits .or .i64 s (shl .i64 1 i) else s) else s
theorem specWithPart_eq (s i : Int) : spec_WithPart.f s i = some (withPart s i) := by
  unfold spec_WithPart.f withPart
  rw [specSetOk_eq, l1In_eq]
  simp only [Option.bind_some, decide_eq_true_eq]
  by_cases h : setOk s = true
  · rw [if_pos h, if_pos h]
    by_cases q : 0 ≤ i ∧ i ≤ 39
    · rw [if_pos q, if_pos q, if_pos q.1]
    · rw [if_neg q, if_neg q]
  · rw [if_neg h, if_neg h]
end Go.Proofs.Ytfkndpjbkndhcaa.Pb
/- A block is put into a build: the program's and the reference's ways. -/
namespace Go.Proofs.Ytfkndpjbkndhcaa.Pb
open Go.RowKit Go.Proofs.Ytfkndpjbkndhcaa Go.Proofs.Ytfkndpjbkndhcaa.Q Go.Proofs.YtfkndpjbkndhcaaW.PrintWords Go.Proofs.YtfkndpjbkndhcaaW.PrintLast
set_option linter.unusedVariables false
set_option linter.unusedSimpArgs false

/-- Bytes laid over a row. -/
def lay (m : List Int) (t : Nat) (p : List Int) : List Int := m.take t ++ p ++ m.drop (t + p.length)
theorem lay_length {m : List Int} {t : Nat} {p : List Int} (h : t + p.length ≤ m.length) : (lay m t p).length = m.length := by
  unfold lay
  rw [List.length_append, List.length_append, List.length_take, List.length_drop]
  omega
theorem bytes_lay {m p : List Int} (hm : Bytes m) (hp : Bytes p) (t : Nat) : Bytes (lay m t p) := by
  intro x hx
  unfold lay at hx
  rw [List.mem_append, List.mem_append] at hx
  rcases hx with (h | h) | h
  · exact hm x (List.mem_of_mem_take h)
  · exact hp x h
  · exact hm x (List.mem_of_mem_drop h)
def bitOn (h i : Int) : Int := Go.bits .or .i64 h (shl .i64 1 i)
theorem iter_lay (m p : List Int) (t : Nat) (h : t + p.length ≤ m.length) : ∀ j, j ≤ p.length → iter j (fun i s => s.set (t + i) (p.getD i 0)) m = m.take t ++ p.take j ++ m.drop (t + j)
  | 0, _ => by rw [iter_zero]; simp
  | j + 1, hj => by
    rw [iter_succ, iter_lay m p t h j (by omega)]
    have e1 : (m.take t ++ p.take j).length = t + j := by rw [List.length_append, List.length_take, List.length_take]; omega
    rw [List.set_append, if_neg (by omega), e1, Nat.sub_self]
    have e2 : m.drop (t + j) = m[t + j]'(by omega) :: m.drop (t + j + 1) := (List.drop_eq_getElem_cons (by omega))
    rw [e2, List.set_cons_zero, List.take_succ_eq_append_getElem (show j < p.length by omega)]
    rw [List.getD_eq_getElem?_getD, List.getElem?_eq_getElem (by omega)]
    simp only [List.append_assoc, List.singleton_append, List.cons_append, List.nil_append, Nat.add_assoc, Option.getD_some]
/-- Whether a block may be put. -/
def putOk (l : List S48) (h i : Int) (p : List Int) : Bool := decide (0 ≤ i ∧ i ≤ (l.length : Int) - 1) && (!inSet h i && sumIs (sumOf p) (l.getD i.toNat z48))
/-- What a manifest's sum is the sum of. -/
theorem manOk_sum {a b c : Int} {l : List S48} (hm : manOk a b c l = true) {i : Nat} (hi : i < l.length) :
    ∃ q, Bytes q ∧ (q.length : Int) = (spanOf b c i).2 ∧ q.length ≤ 6 ∧ (l.getD i z48).f0 = weakOf q ∧ (l.getD i z48).f1 = strong q := by
  unfold manOk at hm
  split at hm
  · have := of_decide_eq_true hm
    omega
  · split at hm
    · rename_i q
      rw [List.all_eq_true] at hm
      have h := hm i (List.mem_range.2 hi)
      unfold blockOk at h
      rw [Bool.and_eq_true, Bool.and_eq_true, decide_eq_true_eq, decide_eq_true_eq] at h
      have s := bytesOf_strong _ h.1
      have l6 := bytesOf_length (l.getD i z48).f1
      unfold sumOf at s
      rw [if_neg (by omega)] at s
      exact ⟨_, bytesOf_bytes _, h.2.1, l6, h.2.2.symm, (Prod.mk.inj s).2.symm⟩
    · cases hm
theorem sumIs_iff {s : Int × Int} {x : S48} : sumIs s x = true ↔ s.1 = x.f0 ∧ s.2 = x.f1 := by
  unfold sumIs
  rw [Bool.and_eq_true, beq_iff_eq, beq_iff_eq]
/-- Bytes whose sum is a manifest's: as long as that block, and the same bytes. -/
theorem sumIs_only {a b c : Int} {l : List S48} (hm : manOk a b c l = true) {i : Nat} (hi : i < l.length) {p : List Int} (hp : Bytes p) (h : sumIs (sumOf p) (l.getD i z48) = true) :
    (p.length : Int) = (spanOf b c i).2 ∧ p.length ≤ 6 ∧ ∀ p', Bytes p' → sumIs (sumOf p') (l.getD i z48) = true → p' = p := by
  obtain ⟨q, hq, e1, e2, e3, e4⟩ := manOk_sum hm hi
  have key : ∀ p', Bytes p' → sumIs (sumOf p') (l.getD i z48) = true → p' = q := by
    intro p' hp' h'
    have h' := (sumIs_iff.1 h').2
    unfold sumOf at h'
    split at h'
    · have := strong_pos q hq
      simp only at h'
      omega
    · rename_i n
      exact strong_inj hp' hq (by omega) e2 (h'.trans e4)
  have e := key p hp h
  subst e
  exact ⟨e1, e2, key⟩
end Go.Proofs.Ytfkndpjbkndhcaa.Pb
/- Weak sums, rolled on by a byte. No condition beyond the bytes' range. -/
namespace Go.Proofs.Ytfkndpjbkndhcaa.Pb
open Go.RowKit Go.Proofs.Ytfkndpjbkndhcaa Go.Proofs.Ytfkndpjbkndhcaa.Q Go.Proofs.YtfkndpjbkndhcaaW.PrintWords Go.Proofs.YtfkndpjbkndhcaaW.PrintLast
set_option linter.unusedVariables false
set_option linter.unusedSimpArgs false

def rawStep (p : Int × Int) (b : Int) : Int × Int := (p.1 + b, p.2 + (p.1 + b))
def rawPair (l : List Int) : Int × Int := l.foldl rawStep (0, 0)
theorem raw_weak (l : List Int) : ∀ p q : Int × Int, q = (p.1 % 251, p.2 % 251) → l.foldl weakStep q = ((l.foldl rawStep p).1 % 251, (l.foldl rawStep p).2 % 251) := by
  induction l with
  | nil => rintro p q rfl; rfl
  | cons x l ih =>
    rintro p q rfl
    rw [List.foldl_cons, List.foldl_cons]
    refine ih _ _ ?_
    unfold weakStep rawStep
    ext <;> simp only <;> omega
theorem weakPair_raw (l : List Int) : weakPair l = ((rawPair l).1 % 251, (rawPair l).2 % 251) := raw_weak l (0, 0) (0, 0) rfl
theorem raw_from (l : List Int) : ∀ p : Int × Int, l.foldl rawStep p = (p.1 + (rawPair l).1, p.2 + l.length * p.1 + (rawPair l).2) := by
  unfold rawPair
  induction l with
  | nil => intro p; simp
  | cons x l ih =>
    intro p
    rw [List.foldl_cons, List.foldl_cons, ih, ih (rawStep (0, 0) x)]
    unfold rawStep
    ext
    · simp only; omega
    · simp only [List.length_cons]
      generalize (List.foldl _ (0, 0) l) = z
      have e1 : ((l.length + 1 : Nat) : Int) * p.1 = l.length * p.1 + p.1 := by rw [Int.natCast_add, Int.add_mul]; simp
      have e2 : (l.length : Int) * (p.1 + x) = l.length * p.1 + l.length * x := Int.mul_add _ _ _
      have e3 : (l.length : Int) * (0 + x) = l.length * x := by rw [Int.zero_add]
      rw [e1, e2, e3]
      omega
theorem raw_cons (x : Int) (l : List Int) : rawPair (x :: l) = (x + (rawPair l).1, (l.length + 1) * x + (rawPair l).2) := by
  show List.foldl rawStep (rawStep (0, 0) x) l = _
  rw [raw_from]
  unfold rawStep
  ext
  · simp
  · simp only
    rw [Int.add_mul, Int.zero_add, Int.zero_add]
    omega
theorem raw_snoc (l : List Int) (y : Int) : rawPair (l ++ [y]) = ((rawPair l).1 + y, (rawPair l).2 + ((rawPair l).1 + y)) := by
  unfold rawPair
  rw [List.foldl_append]
  rfl
theorem specWrap_eq (a : Int) (h0 : -4000000000000000000 ≤ a) (h1 : a ≤ 4000000000000000000) : spec_Wrap.f a 251 = some (a % 251) := by
  unfold spec_Wrap.f
  rw [l1In_eq]
  simp only [Option.bind_some]
  rw [if_pos (by decide), if_neg (by decide)]
  have h : Int.tmod a 251 = a % 251 ∨ (a < 0 ∧ Int.tmod a 251 = -((-a) % 251)) := by
    by_cases q : 0 ≤ a
    · exact Or.inl (Int.tmod_eq_emod_of_nonneg q)
    · refine Or.inr ⟨by omega, ?_⟩
      have := Int.neg_tmod (-a) 251
      rw [Int.neg_neg] at this
      rw [this, Int.tmod_eq_emod_of_nonneg (by omega)]
  have r : Int.tmod (wrap64 (Int.tmod a 251 + 251)) 251 = a % 251 := by
    rw [w64 (by omega) (by omega), Int.tmod_eq_emod_of_nonneg (by omega)]
    omega
  rw [r]
theorem specRoll_ev (x y : Int) (m : List Int) (hx : 0 ≤ x ∧ x ≤ 255) (hy : 0 ≤ y ∧ y ≤ 255) (hm : m.length ≤ 5) : Ev (fun k => spec_Roll.f k (weakOf (x :: m)) (m.length + 1) x y) (weakOf (m ++ [y])) := by
  have r := weakOf_range (x :: m)
  have ok : spec_l3Ok.f (weakOf (x :: m)) = some true := by
    unfold spec_l3Ok.f
    rw [l1In_eq]
    simp only [Option.bind_some, Option.some.injEq, decide_eq_true_eq]
    exact r
  unfold spec_Roll.f
  rw [ok]
  refine Ev.bind ev_some (ev_true ?_)
  rw [l1In_eq, l1In_eq, l1In_eq]
  refine Ev.bind ev_some (ev_pos (by simp; omega) (Ev.bind ev_some (ev_pos (by simpa using hx) (Ev.bind ev_some ?_))))
  have e : (!decide (0 ≤ y ∧ y ≤ 255)) = false := by simpa using hy
  rw [e]
  refine Ev.step (fun k => rfl) ?_
  have pr := weakPair_in (x :: m)
  unfold WeakIn at pr
  have hv : spec_WeakHalves.f (weakOf (x :: m)) = some (weakPair (x :: m)) := by
    unfold spec_WeakHalves.f
    rw [ok]
    simp only [Option.bind_some, if_true]
    rw [Int.tmod_eq_emod_of_nonneg r.1, Int.tdiv_eq_ediv_of_nonneg r.1, w64 (by omega) (by omega)]
    unfold weakOf
    congr 1
    ext <;> simp only <;> omega
  refine ev_then hv ?_
  have e1 := weakPair_raw (x :: m)
  have e2 := weakPair_raw (m ++ [y])
  rw [raw_cons] at e1
  rw [raw_snoc] at e2
  have e3 : Int.tmod ((m.length : Int) + 1) 251 = m.length + 1 := by
    rw [Int.tmod_eq_emod_of_nonneg (by omega)]
    omega
  have e4 : 0 ≤ ((m.length : Int) + 1) * x ∧ ((m.length : Int) + 1) * x ≤ 1530 := by
    constructor
    · exact Int.mul_nonneg (by omega) hx.1
    · have : ((m.length : Int) + 1) * x ≤ 6 * x := Int.mul_le_mul_of_nonneg_right (by omega) hx.1
      omega
  rw [e3]
  unfold weakOf
  generalize hn : ((m.length : Int) + 1) * x = nx at *
  generalize weakPair (x :: m) = p at *
  generalize weakPair (m ++ [y]) = q at *
  generalize rawPair m = z at *
  have p1 : p.1 = (x + z.1) % 251 := by rw [e1]
  have p2 : p.2 = (nx + z.2) % 251 := by rw [e1]
  have q1 : q.1 = (z.1 + y) % 251 := by rw [e2]
  have q2 : q.2 = (z.2 + (z.1 + y)) % 251 := by rw [e2]
  rw [w64 (x := nx) (by omega) (by omega), w64 (x := p.2 - nx) (by omega) (by omega), w64 (x := p.1 - x) (by omega) (by omega), w64 (x := p.1 - x + y) (by omega) (by omega)]
  refine ev_then (specWrap_eq _ (by omega) (by omega)) (ev_then (specWrap_eq _ (by omega) (by omega)) ?_)
  rw [w64 (x := (p.2 - nx) % 251 + (p.1 - x + y) % 251) (by omega) (by omega)]
  refine ev_then (specWrap_eq _ (by omega) (by omega)) (ev_eq ev_some ?_)
  rw [w64 (x := 251 * _) (by omega) (by omega), w64 (by omega) (by omega)]
  omega
end Go.Proofs.Ytfkndpjbkndhcaa.Pb
/- The weak sums of all windows of a file. No condition beyond the bytes' range and the size that the laws ask. -/
namespace Go.Proofs.Ytfkndpjbkndhcaa.Pb
open Go.RowKit Go.Proofs.Ytfkndpjbkndhcaa Go.Proofs.Ytfkndpjbkndhcaa.Q Go.Proofs.YtfkndpjbkndhcaaW.PrintWords Go.Proofs.YtfkndpjbkndhcaaW.PrintLast
set_option linter.unusedVariables false
set_option linter.unusedSimpArgs false

/-- The window of n bytes at i. -/
def win (l : List Int) (n i : Nat) : List Int := (l.take (i + n)).drop i
theorem win_length (l : List Int) (n i : Nat) (h : i + n ≤ l.length) : (win l n i).length = n := by
  unfold win
  rw [List.length_drop, List.length_take]
  omega
theorem bytes_win {l : List Int} (h : Bytes l) (n i : Nat) : Bytes (win l n i) := fun x hx => h x (List.mem_of_mem_take (List.mem_of_mem_drop hx))
theorem win_cons (l : List Int) (n i : Nat) (h : i + (n + 1) ≤ l.length) : win l (n + 1) i = l.getD i 0 :: win l n (i + 1) := by
  unfold win
  have e : i + (n + 1) = i + 1 + n := by omega
  have hi : i < (l.take (i + 1 + n)).length := by rw [List.length_take]; omega
  rw [e, List.drop_eq_getElem_cons hi, List.getElem_take, List.getD_eq_getElem?_getD, List.getElem?_eq_getElem (by omega)]
  rfl
theorem win_snoc (l : List Int) (n i : Nat) (h : i + (n + 1) ≤ l.length) : win l (n + 1) i = win l n i ++ [l.getD (i + n) 0] := by
  unfold win
  have e : i + (n + 1) = i + n + 1 := by omega
  rw [e, List.take_succ_eq_append_getElem (by omega), List.drop_append_of_le_length (by rw [List.length_take]; omega), List.getD_eq_getElem?_getD, List.getElem?_eq_getElem (by omega)]
  rfl
/-- How many windows there are. -/
def wins (l : List Int) (n : Nat) : Nat := if n ≤ l.length then l.length - n + 1 else 0
def windows (l : List Int) (n : Nat) : List Int := (List.range (wins l n)).map (fun i => weakOf (win l n i))
theorem windows_length (l : List Int) (n : Nat) : (windows l n).length = wins l n := by simp [windows]
theorem specWindows_ev (l : List Int) (n : Nat) (h1 : 1 ≤ n) (h6 : n ≤ 6) (hb : Bytes l) (hl : l.length ≤ 1048576) : Ev (fun k => spec_Windows.f k l (n : Int)) (windows l n) := by
  unfold spec_Windows.f
  simp only [Option.bind_some]
  refine ev_neg (by omega) ?_
  by_cases hn : n ≤ l.length
  · have e : decide ((n : Int) > (l.length : Int)) = false := by simp; omega
    rw [e]
    refine Ev.step (fun k => rfl) ?_
    refine ev_pos (by omega) ?_
    have w0 : l.take (n : Int).toNat = win l n 0 := by simp [win]
    rw [w0]
    refine Ev.bind (specWeakOf_ev _ (by rw [win_length l n 0 (by omega)]; omega) (bytes_win hb _ _)) (ev_pos (by simp) ?_)
    refine ev_eq (loop_up (σ := List Int × Int) (fun k s i => spec_Windows.l0 k l (n : Int) s.1 s.2 ((n : Int) + i)) (l.length - n) (fun i s => (s.1 ++ [weakOf (win l n (i + 1))], weakOf (win l n (i + 1)))) (fun i s => s.2 = weakOf (win l n i) ∧ s.1.length = i + 1) ([] ++ [weakOf (win l n 0)], weakOf (win l n 0)) (iter (l.length - n) (fun i (s : List Int × Int) => (s.1 ++ [weakOf (win l n (i + 1))], weakOf (win l n (i + 1)))) ([] ++ [weakOf (win l n 0)], weakOf (win l n 0))).1 ⟨rfl, rfl⟩ (fun i s _ h => ⟨rfl, by simp [h.2]⟩) ?_ ?_) ?_
    · rintro i ⟨x, y⟩ r hi ⟨hs, hx⟩ h
      simp only at hs hx h
      subst hs
      refine Ev.step (fun k => rfl) ?_
      refine ev_pos (by omega) ?_
      have e1 : wrap64 ((n : Int) + (i : Int) - (n : Int)) = (i : Int) := by rw [w64 (by omega) (by omega)]; omega
      have e2 : (n : Int) + (i : Int) = ((i + n : Nat) : Int) := by omega
      rw [e1]
      refine ev_pos (by omega) (ev_pos (by omega) (ev_pos (by omega) ?_))
      obtain ⟨m, rfl⟩ : ∃ m, n = m + 1 := ⟨n - 1, by omega⟩
      have hx0 := bytes_getD hb i
      have hy0 := bytes_getD hb (i + (m + 1))
      have wc := win_cons l m i (by omega)
      have ws := win_snoc l m (i + 1) (by omega)
      rw [show i + 1 + m = i + (m + 1) by omega] at ws
      have hr := specRoll_ev (l.getD i 0) (l.getD (i + (m + 1)) 0) (win l m (i + 1)) hx0 hy0 (by rw [win_length l m (i + 1) (by omega)]; omega)
      rw [← wc, ← ws, win_length l m (i + 1) (by omega)] at hr
      rw [e2]
      simp only [rd, Int.toNat_natCast]
      rw [w64 (x := l.getD i 0) (by omega) (by omega), w64 (x := l.getD (i + (m + 1)) 0) (by omega) (by omega)]
      have e3 : ((m + 1 : Nat) : Int) = (m : Int) + 1 := by omega
      rw [e3] at h ⊢
      refine Ev.bind hr (ev_pos (by omega) ?_)
      rw [w64 (x := ((i + (m + 1) : Nat) : Int) + 1) (by omega) (by omega)]
      have e4 : ((i + (m + 1) : Nat) : Int) + 1 = (m : Int) + 1 + ((i : Int) + 1) := by omega
      rw [e4]
      exact h
    · rintro ⟨hs, hx⟩
      refine Ev.step (fun k => rfl) ?_
      exact ev_neg (by omega) ev_some
    · unfold windows wins
      rw [if_pos hn]
      generalize l.length - n = d
      have : ∀ d, (iter d (fun i (s : List Int × Int) => (s.1 ++ [weakOf (win l n (i + 1))], weakOf (win l n (i + 1)))) ([] ++ [weakOf (win l n 0)], weakOf (win l n 0))).1 = (List.range (d + 1)).map (fun i => weakOf (win l n i)) := by
        intro d
        induction d with
        | zero => rfl
        | succ d ih =>
          rw [iter_succ, List.range_succ, List.map_append, ← ih]
          rfl
      exact this d
  · have e : decide ((n : Int) > (l.length : Int)) = true := by simp; omega
    rw [e]
    refine Ev.step (fun k => rfl) ?_
    refine ev_eq ev_some ?_
    unfold windows wins
    rw [if_neg hn]
    rfl
end Go.Proofs.Ytfkndpjbkndhcaa.Pb
/- Finding a block in a file: the program's and the reference's ways. No condition beyond the bytes' range and the size that the laws ask. -/
namespace Go.Proofs.Ytfkndpjbkndhcaa.Pb
open Go.RowKit Go.Proofs.Ytfkndpjbkndhcaa Go.Proofs.Ytfkndpjbkndhcaa.Q Go.Proofs.YtfkndpjbkndhcaaW.PrintWords Go.Proofs.YtfkndpjbkndhcaaW.PrintLast
set_option linter.unusedVariables false
set_option linter.unusedSimpArgs false

def findSum (l : List Int) (a b n : Int) : Int := if 1 ≤ n ∧ n ≤ 6 then (match (List.range (wins l n.toNat)).find? (fun i => decide (sumOf (win l n.toNat i) = (a, b))) with | some i => (i : Int) | none => -1) else -1
theorem sumOf_win (l : List Int) (n i : Nat) (hn : n ≤ 6) (h : i + n ≤ l.length) : sumOf (win l n i) = (weakOf (win l n i), strong (win l n i)) := by
  unfold sumOf
  rw [win_length l n i h, if_neg (by omega)]
theorem specFindSum_ev (l : List Int) (a b n : Int) (hb : Bytes l) (hl : l.length ≤ 1048576) : Ev (fun k => spec_FindSum.f k l a b n) (findSum l a b n) := by
  unfold spec_FindSum.f findSum
  rw [l1In_eq]
  simp only [Option.bind_some]
  refine ev_if (fun h => ?_) (fun h => ev_eq ev_some (by rw [if_neg (by simpa using h)]))
  have hn : 1 ≤ n ∧ n ≤ 6 := by simpa using h
  rw [if_pos hn]
  obtain ⟨m, rfl⟩ := Int.eq_ofNat_of_zero_le (show 0 ≤ n by omega)
  rw [Int.toNat_natCast]
  refine Ev.bind (specWindows_ev l m (by omega) (by omega) hb hl) ?_
  have wl := windows_length l m
  have wb : ∀ i, i < wins l m → i + m ≤ l.length := by
    intro i hi
    unfold wins at hi
    split at hi <;> omega
  have gi : ∀ i, i < wins l m → (windows l m).getD i 0 = weakOf (win l m i) := by
    intro i hi
    simp [windows, List.getD_eq_getElem?_getD, hi]
  refine loop_find (fun k i => spec_FindSum.l0 k l (m : Int) (windows l m) i a b) (wins l m) _ (fun i => (i : Int)) (-1) ?_ ?_ ?_
  · intro i hi hp
    have hw := wb i hi
    have hq : sumOf (win l m i) = (a, b) := by simpa using hp
    have hs := sumOf_win l m i (by omega) hw
    rw [hq] at hs
    have ha : weakOf (win l m i) = a := by rw [Prod.mk.injEq] at hs; exact hs.1.symm
    refine Ev.step (fun k => rfl) ?_
    refine ev_pos (by omega) (ev_pos (by omega) ?_)
    simp only [rd, Int.toNat_natCast]
    rw [gi i hi]
    refine ev_pos ha ?_
    have e : wrap64 ((i : Int) + (m : Int)) = ((i + m : Nat) : Int) := by rw [w64 (by omega) (by omega)]; omega
    rw [e]
    refine ev_pos (by omega) (ev_pos (by omega) ?_)
    rw [Int.toNat_natCast]
    refine Ev.bind (specSumOf_ev (win l m i) (bytes_win hb _ _)) ?_
    rw [hq]
    exact ev_pos (by simp) ev_some
  · intro i r hi hp h
    have hw := wb i hi
    have hq : ¬ sumOf (win l m i) = (a, b) := by simpa using hp
    refine Ev.step (fun k => rfl) ?_
    refine ev_pos (by omega) (ev_pos (by omega) ?_)
    simp only [rd, Int.toNat_natCast]
    have e1 : wrap64 ((i : Int) + 1) = (i : Int) + 1 := by rw [w64 (by omega) (by omega)]
    rw [gi i hi, e1]
    refine ev_if (fun ha => ?_) (fun _ => h)
    have e : wrap64 ((i : Int) + (m : Int)) = ((i + m : Nat) : Int) := by rw [w64 (by omega) (by omega)]; omega
    rw [e]
    refine ev_pos (by omega) (ev_pos (by omega) ?_)
    rw [Int.toNat_natCast]
    refine Ev.bind (specSumOf_ev (win l m i) (bytes_win hb _ _)) ?_
    refine ev_neg ?_ h
    intro z
    rw [Bool.and_eq_true, beq_iff_eq, beq_iff_eq] at z
    exact hq (Prod.ext z.1 z.2)
  · refine Ev.step (fun k => rfl) ?_
    exact ev_neg (by omega) ev_some
theorem implFindSum_ev (l : List Int) (a b n : Int) (hb : Bytes l) (hl : l.length ≤ 1048576) : Ev (fun k => impl_FindSum.f k l a b n) (findSum l a b n) := by
  unfold impl_FindSum.f findSum
  rw [within_eq]
  simp only [Option.bind_some]
  refine ev_if (fun h => ?_) (fun h => ev_eq ev_some (by rw [if_neg (by simpa using h)]))
  have hn : 1 ≤ n ∧ n ≤ 6 := by simpa using h
  rw [if_pos hn]
  obtain ⟨m, rfl⟩ := Int.eq_ofNat_of_zero_le (show 0 ≤ n by omega)
  rw [Int.toNat_natCast]
  have wb : ∀ i, i < wins l m → i + m ≤ l.length := by
    intro i hi
    unfold wins at hi
    split at hi <;> omega
  refine loop_find (fun k i => impl_FindSum.l0 k l (m : Int) i a b) (wins l m) _ (fun i => (i : Int)) (-1) ?_ ?_ ?_
  · intro i hi hp
    have hw := wb i hi
    have hq : sumOf (win l m i) = (a, b) := by simpa using hp
    refine Ev.step (fun k => rfl) ?_
    simp only [impl_FindSum.l0]
    have e : wrap64 ((i : Int) + (m : Int)) = ((i + m : Nat) : Int) := by rw [w64 (by omega) (by omega)]; omega
    rw [e]
    refine ev_pos (by omega) (ev_pos (by omega) (ev_pos (by omega) ?_))
    rw [Int.toNat_natCast, Int.toNat_natCast]
    refine Ev.bind (implSumOf_ev (win l m i) (bytes_win hb _ _)) ?_
    rw [hq]
    exact ev_pos (by simp) ev_some
  · intro i r hi hp h
    have hw := wb i hi
    have hq : ¬ sumOf (win l m i) = (a, b) := by simpa using hp
    refine Ev.step (fun k => rfl) ?_
    simp only [impl_FindSum.l0]
    have e1 : wrap64 ((i : Int) + 1) = (i : Int) + 1 := by rw [w64 (by omega) (by omega)]
    have e : wrap64 ((i : Int) + (m : Int)) = ((i + m : Nat) : Int) := by rw [w64 (by omega) (by omega)]; omega
    rw [e, e1]
    refine ev_pos (by omega) (ev_pos (by omega) (ev_pos (by omega) ?_))
    rw [Int.toNat_natCast, Int.toNat_natCast]
    refine Ev.bind (implSumOf_ev (win l m i) (bytes_win hb _ _)) ?_
    refine ev_neg ?_ h
    intro z
    rw [Bool.and_eq_true, beq_iff_eq, beq_iff_eq] at z
    exact hq (Prod.ext z.1 z.2)
  · refine Ev.step (fun k => rfl) ?_
    refine ev_neg ?_ ev_some
    unfold wins
    split
    · rw [w64 (by omega) (by omega)]; omega
    · rw [w64 (by omega) (by omega)]; omega
def placeOf (l : List Int) (b c : Int) (m : List S48) (i : Int) : Int := if 0 ≤ i ∧ i ≤ (m.length : Int) - 1 then findSum l (m.getD i.toNat z48).f0 (m.getD i.toNat z48).f1 (spanOf b c i).2 else -1
theorem specPlaceOf_ev (l : List Int) (a b c : Int) (m : List S48) (i : Int) (hb : Bytes l) (hl : l.length ≤ 1048576) (hm : m.length ≤ 1048576) : Ev (fun k => spec_PlaceOf.f k l a b c m i) (placeOf l b c m i) := by
  unfold spec_PlaceOf.f placeOf
  refine ev_then (specSpanOf_eq _ _ _) ?_
  refine ev_if (fun h => ev_eq ev_some ?_) (fun h => ?_)
  · split
    · unfold findSum
      rw [h, if_neg (by omega)]
    · rfl
  have hi : 0 ≤ i := by
    unfold spanOf at h
    split at h
    · omega
    · exact absurd rfl h
  refine ev_if (fun h2 => ev_eq ev_some (by rw [if_neg (by omega)])) (fun h2 => ?_)
  rw [if_pos (by omega)]
  exact ev_pos (by omega) (ev_pos (by omega) (Ev.bind (specFindSum_ev l _ _ _ hb hl) ev_some))
theorem implPlaceOf_ev (l : List Int) (a b c : Int) (m : List S48) (i : Int) (hb : Bytes l) (hl : l.length ≤ 1048576) (hm : m.length ≤ 1048576) : Ev (fun k => impl_PlaceOf.f k l a b c m i) (placeOf l b c m i) := by
  unfold impl_PlaceOf.f placeOf
  refine ev_then (implSpanOf_eq _ _ _) ?_
  rw [w64 (x := (m.length : Int) - 1) (by omega) (by omega)]
  refine ev_then (within_eq _ _ _) ?_
  refine ev_if (fun h => ?_) (fun h => ev_eq ev_some (by rw [if_neg (by simpa using h)]))
  have h' : 0 ≤ i ∧ i ≤ (m.length : Int) - 1 := by simpa using h
  rw [if_pos h']
  exact ev_pos (by omega) (ev_pos (by omega) (Ev.bind (implFindSum_ev l _ _ _ hb hl) ev_some))
end Go.Proofs.Ytfkndpjbkndhcaa.Pb
/- BuildNew: the program's and the reference's ways. -/
namespace Go.Proofs.Ytfkndpjbkndhcaa.Pb
open Go.RowKit Go.Proofs.Ytfkndpjbkndhcaa Go.Proofs.Ytfkndpjbkndhcaa.Q Go.Proofs.YtfkndpjbkndhcaaW.PrintWords Go.Proofs.YtfkndpjbkndhcaaW.PrintLast
set_option linter.unusedVariables false
set_option linter.unusedSimpArgs false

def buildNew (a b c : Int) (l : List S48) : Int × List Int := (0, if manOk a b c l = true then List.replicate c.toNat 0 else [])
theorem manOk_size {a b c : Int} {l : List S48} (h : manOk a b c l = true) : 0 ≤ c ∧ c ≤ 240 := by
  unfold manOk at h
  split at h
  · simp at h; omega
  · split at h
    · rename_i q
      have := sizeOk_iff.1 q.2.1
      omega
    · cases h
theorem buildNew_length (a b c : Int) (l : List S48) : (buildNew a b c l).2.length ≤ 240 := by
  unfold buildNew
  simp only
  split
  · rename_i q
    have := manOk_size q
    simp; omega
  · simp
end Go.Proofs.Ytfkndpjbkndhcaa.Pb
/- BuildFrom: the program's and the reference's ways. -/
namespace Go.Proofs.Ytfkndpjbkndhcaa.Pb
open Go.RowKit Go.Proofs.Ytfkndpjbkndhcaa Go.Proofs.Ytfkndpjbkndhcaa.Q Go.Proofs.YtfkndpjbkndhcaaW.PrintWords Go.Proofs.YtfkndpjbkndhcaaW.PrintLast
set_option linter.unusedVariables false
set_option linter.unusedSimpArgs false

/-- A bit above all that a set has is not in it. -/
theorem inSet_bs (p : Nat → Bool) (i : Nat) (hi : i ≤ 39) : inSet ((bs p i : Nat) : Int) (i : Int) = false := by
  have h := bs_lt p i
  have hp : (2 : Nat) ^ i ≤ 2 ^ 39 := Nat.pow_le_pow_right (by decide) hi
  unfold inSet
  split
  · rw [if_pos (by omega)]
    have e : shr .i64 ((bs p i : Nat) : Int) (i : Int) = 0 := by
      rw [shr_of _ _ (by omega), Int.toNat_natCast]
      rw [show (2 : Int) ^ i = ((2 ^ i : Nat) : Int) by simp, ← Int.natCast_ediv, Nat.div_eq_of_lt h]
      rfl
    rw [e]
    decide
  · rfl
theorem setOk_bs' (p : Nat → Bool) (i : Nat) (h : i ≤ 40) : setOk ((bs p i : Nat) : Int) = true := by
  have h1 := bs_lt p i
  have hp : (2 : Nat) ^ i ≤ 2 ^ 40 := Nat.pow_le_pow_right (by decide) h
  unfold setOk
  rw [decide_eq_true_eq]
  omega
/-- Where bytes of a sum are found they stand, and nowhere before. -/
theorem findSum_some {l : List Int} {a b n : Int} (h : 0 ≤ findSum l a b n) : (1 ≤ n ∧ n ≤ 6) ∧ findSum l a b n + n ≤ (l.length : Int) ∧ sumOf (win l n.toNat (findSum l a b n).toNat) = (a, b) ∧ ∀ j, j < (findSum l a b n).toNat → sumOf (win l n.toNat j) ≠ (a, b) := by
  unfold findSum at h ⊢
  split at h
  · rename_i q
    rw [if_pos q]
    cases hf : (List.range (wins l n.toNat)).find? (fun i => decide (sumOf (win l n.toNat i) = (a, b))) with
    | none => rw [hf] at h; simp at h
    | some i =>
      have h1 := List.find?_some hf
      have h2 := List.mem_range.1 (List.mem_of_find?_eq_some hf)
      have h3 := (List.find?_eq_some_iff_getElem.1 hf).2
      simp only [Int.toNat_natCast]
      unfold wins at h2
      refine ⟨q, by split at h2 <;> omega, of_decide_eq_true h1, fun j hj e => ?_⟩
      obtain ⟨k, hk, ek, hn⟩ := h3
      rw [List.getElem_range] at ek
      subst ek
      have := hn j hj
      rw [List.getElem_range, e] at this
      simp at this
  · omega
theorem findSum_none {l : List Int} {a b n : Int} (h : ¬ 0 ≤ findSum l a b n) (hn : 1 ≤ n ∧ n ≤ 6) (j : Nat) (hj : (j : Int) + n ≤ l.length) : sumOf (win l n.toNat j) ≠ (a, b) := by
  unfold findSum at h
  rw [if_pos hn] at h
  cases hf : (List.range (wins l n.toNat)).find? (fun i => decide (sumOf (win l n.toNat i) = (a, b))) with
  | some i => rw [hf] at h; simp at h
  | none =>
    have := List.find?_eq_none.1 hf j (List.mem_range.2 (by unfold wins; rw [if_pos (by omega)]; omega))
    simpa using this
def atPlace (old : List Int) (b c : Int) (l : List S48) (i : Nat) : Bool := decide (0 ≤ placeOf old b c l (i : Int))
def buildStep (old : List Int) (b c : Int) (l : List S48) (i : Nat) (s : Int × List Int) : Int × List Int := if 0 ≤ placeOf old b c l (i : Int) then (bitOn s.1 (i : Int), lay s.2 (spanOf b c (i : Int)).1.toNat (win old (spanOf b c (i : Int)).2.toNat (placeOf old b c l (i : Int)).toNat)) else s
def buildFrom (a b c : Int) (l : List S48) (old : List Int) : Int × List Int := if manOk a b c l = true then iter l.length (buildStep old b c l) (0, List.replicate c.toNat 0) else (0, [])
def FromInv (old : List Int) (b c : Int) (l : List S48) (i : Nat) (s : Int × List Int) : Prop := s.1 = ((bs (atPlace old b c l) i : Nat) : Int) ∧ (s.2.length : Int) = c ∧ Bytes s.2
/-- What is found for a block. -/
theorem placeOf_some {a b c : Int} {l : List S48} {old : List Int} (hm : manOk a b c l = true) (hb : Bytes old) {i : Nat} (hi : i < l.length) (h : 0 ≤ placeOf old b c l (i : Int)) :
    placeOf old b c l (i : Int) + (spanOf b c (i : Int)).2 ≤ (old.length : Int) ∧ ((win old (spanOf b c (i : Int)).2.toNat (placeOf old b c l (i : Int)).toNat).length : Int) = (spanOf b c (i : Int)).2 ∧ Bytes (win old (spanOf b c (i : Int)).2.toNat (placeOf old b c l (i : Int)).toNat) ∧ sumIs (sumOf (win old (spanOf b c (i : Int)).2.toNat (placeOf old b c l (i : Int)).toNat)) (l.getD i z48) = true := by
  have r := spanOf_range b c (i : Int)
  unfold placeOf at h ⊢
  rw [if_pos (by omega)] at h ⊢
  rw [Int.toNat_natCast] at h ⊢
  have f := findSum_some h
  generalize findSum old (l.getD i z48).f0 (l.getD i z48).f1 (spanOf b c (i : Int)).2 = t at h f ⊢
  refine ⟨f.2.1, ?_, bytes_win hb _ _, ?_⟩
  · rw [win_length _ _ _ (by omega)]; omega
  · rw [f.2.2.1]
    exact sumIs_iff.2 ⟨rfl, rfl⟩
theorem from_step {a b c : Int} {l : List S48} {old : List Int} (hm : manOk a b c l = true) (hb : Bytes old) (i : Nat) (s : Int × List Int) (hi : i < l.length) (hs : FromInv old b c l i s) : FromInv old b c l (i + 1) (buildStep old b c l i s) := by
  have n40 := (manOk_blocks hm).1
  obtain ⟨h1, h2, h3⟩ := hs
  unfold buildStep FromInv
  rw [bs]
  by_cases q : 0 ≤ placeOf old b c l (i : Int)
  · rw [if_pos q]
    have p := placeOf_some hm hb hi q
    have sp := span_in (b := b) h2 (i : Int)
    have r := spanOf_range b c (i : Int)
    rw [if_pos (show atPlace old b c l i = true from decide_eq_true q)]
    refine ⟨?_, ?_, bytes_lay h3 p.2.2.1 _⟩
    · show bitOn s.1 _ = _
      unfold bitOn
      rw [h1, or_bit _ _ (by omega) (bs_lt _ _)]
    · show ((lay s.2 _ _).length : Int) = c
      rw [lay_length (by omega)]
      exact h2
  · rw [if_neg q, if_neg (by simpa [atPlace] using q)]
    exact ⟨h1, h2, h3⟩
theorem from_start {a b c : Int} {l : List S48} {old : List Int} (hm : manOk a b c l = true) : FromInv old b c l 0 (0, List.replicate c.toNat 0) := by
  have := manOk_size hm
  refine ⟨rfl, by simp; omega, fun x hx => ?_⟩
  rw [List.eq_of_mem_replicate hx]
  omega
theorem from_all {a b c : Int} {l : List S48} {old : List Int} (hm : manOk a b c l = true) (hb : Bytes old) : ∀ n, n ≤ l.length → FromInv old b c l n (iter n (buildStep old b c l) (0, List.replicate c.toNat 0))
  | 0, _ => from_start hm
  | n + 1, h => by rw [iter_succ]; exact from_step hm hb n _ (by omega) (from_all hm hb n (by omega))
theorem buildFrom_length (a b c : Int) (l : List S48) (old : List Int) (hb : Bytes old) : (buildFrom a b c l old).2.length ≤ 240 := by
  unfold buildFrom
  split
  · rename_i q
    have := (from_all q hb l.length (Nat.le_refl _)).2.1
    have := manOk_size q
    omega
  · simp
end Go.Proofs.Ytfkndpjbkndhcaa.Pb
/- Sets as bits: which numbers are in them. No condition. -/
namespace Go.Proofs.Ytfkndpjbkndhcaa.Pb
open Go.RowKit Go.Proofs.Ytfkndpjbkndhcaa Go.Proofs.Ytfkndpjbkndhcaa.Q Go.Proofs.YtfkndpjbkndhcaaW.PrintWords Go.Proofs.YtfkndpjbkndhcaaW.PrintLast
set_option linter.unusedVariables false
set_option linter.unusedSimpArgs false

theorem bs_or (p : Nat → Bool) (m : Nat) : bs p (m + 1) = bs p m ||| (if p m = true then 2 ^ m else 0) := by
  rw [bs]
  split
  · have h := Nat.two_pow_add_eq_or_of_lt (bs_lt p m) 1
    rw [Nat.mul_one] at h
    rw [Nat.add_comm, h, Nat.or_comm]
  · simp
theorem bs_bit (p : Nat → Bool) (m j : Nat) : (bs p m).testBit j = (decide (j < m) && p j) := by
  induction m with
  | zero => simp [bs]
  | succ m ih =>
    rw [bs_or, Nat.testBit_or, ih]
    by_cases hj : j = m
    · subst hj
      cases hp : p j <;> simp [Nat.testBit_two_pow]
    · have e : (decide (j < m + 1)) = decide (j < m) := by rw [decide_eq_decide]; omega
      rw [e]
      cases hp : p m <;> simp [Nat.testBit_two_pow, Ne.symm hj]
theorem bs_congr {p q : Nat → Bool} {m : Nat} (h : ∀ i, i < m → p i = q i) : bs p m = bs q m := by
  induction m with
  | zero => rfl
  | succ m ih => rw [bs, bs, ih (fun i hi => h i (by omega)), h m (by omega)]
theorem bs_true (m : Nat) : bs (fun _ => true) m = 2 ^ m - 1 := by
  have h := bs_not (fun _ => true) m
  have e : bs (fun i => !true) m = 0 := by
    clear h
    induction m with
    | zero => rfl
    | succ m ih => rw [bs, ih]; simp
  omega
theorem bs_none {p : Nat → Bool} {m : Nat} (h : ∀ i, i < m → p i = false) : bs p m = 0 := by
  induction m with
  | zero => rfl
  | succ m ih => rw [bs, ih (fun i hi => h i (by omega)), h m (by omega)]; simp
theorem bs_zero {p : Nat → Bool} {m : Nat} (h : bs p m = 0) (i : Nat) (hi : i < m) : p i = false := by
  have e := bs_bit p m i
  rw [h, decide_eq_true hi] at e
  simpa using e.symm
theorem pow_le40 {m : Nat} (h : m ≤ 40) : 2 ^ m ≤ 1099511627776 := Nat.le_trans (Nat.pow_le_pow_right (by decide) h) (by decide)
theorem inSet_bit (p : Nat → Bool) (m i : Nat) (hm : m ≤ 40) : inSet ((bs p m : Nat) : Int) (i : Int) = (decide (i < m) && p i) := by
  have h := bs_lt p m
  have hp := pow_le40 hm
  unfold inSet
  rw [if_pos (by unfold setOk; rw [decide_eq_true_eq]; omega)]
  by_cases hi : i ≤ 39
  · rw [if_pos (by omega), shr_of _ _ (by omega), Int.toNat_natCast, show (2 : Int) ^ i = ((2 ^ i : Nat) : Int) by simp, ← Int.natCast_ediv]
    rw [← bs_bit p m i]
    have e : Go.bits .and .i64 ((bs p m / 2 ^ i : Nat) : Int) 1 = ((bs p m / 2 ^ i % 2 : Nat) : Int) := by
      have hx : bs p m / 2 ^ i ≤ bs p m := Nat.div_le_self _ _
      generalize bs p m / 2 ^ i = x at hx ⊢
      show IntKind.i64.wrap ((BitVec.ofInt 64 (x : Int) &&& BitVec.ofInt 64 1).toNat : Nat) = _
      have key : (BitVec.ofInt 64 (x : Int) &&& BitVec.ofInt 64 1).toNat = x % 2 := by
        rw [BitVec.toNat_and, BitVec.ofInt_natCast, BitVec.toNat_ofNat, Nat.mod_eq_of_lt (by omega)]
        exact Nat.and_one_is_mod x
      rw [key]
      exact wraps_i64 _ (by omega) (by omega)
    rw [e, Nat.testBit_eq_decide_div_mod_eq]
    by_cases q : bs p m / 2 ^ i % 2 = 1
    · rw [q]; rfl
    · rw [show bs p m / 2 ^ i % 2 = 0 by omega]; rfl
  · rw [if_neg (by omega), decide_eq_false (by omega)]
    rfl
theorem bitOn_bs (p : Nat → Bool) (m i : Nat) (hm : m ≤ 40) (hi : i < m) : bitOn ((bs p m : Nat) : Int) (i : Int) = ((bs (fun j => p j || j == i) m : Nat) : Int) := by
  have h := bs_lt p m
  have hp := pow_le40 hm
  have h2 : 2 ^ i ≤ 2 ^ 39 := Nat.pow_le_pow_right (by decide) (by omega)
  unfold bitOn
  rw [shl_one i (by omega), or_nat _ _ (by omega) (by omega)]
  congr 1
  refine Nat.eq_of_testBit_eq (fun j => ?_)
  rw [Nat.testBit_or, bs_bit, bs_bit, Nat.testBit_two_pow]
  by_cases hj : i = j
  · subst hj
    simp [hi]
  · have hj' : ¬ j = i := fun e => hj e.symm
    rw [show (j == i) = false from beq_eq_false_iff_ne.mpr hj', Bool.or_false]
    simp [hj]
theorem andNot_full (x m : Nat) (hm : m ≤ 40) (hx : x < 2 ^ m) : Go.bits .andNot .i64 (x : Int) ((2 ^ m - 1 : Nat) : Int) = 0 := by
  have hp := pow_le40 hm
  have h0 : 0 < 2 ^ m := Nat.two_pow_pos m
  have key : (BitVec.ofInt 64 (x : Int) &&& ~~~ BitVec.ofInt 64 ((2 ^ m - 1 : Nat) : Int)).toNat = 0 := by
    rw [BitVec.toNat_and, BitVec.toNat_not, BitVec.ofInt_natCast, BitVec.ofInt_natCast, BitVec.toNat_ofNat, BitVec.toNat_ofNat, Nat.mod_eq_of_lt (a := 2 ^ m - 1) (by omega), Nat.mod_eq_of_lt (a := x) (by omega)]
    have hd : (2 : Nat) ^ 64 = 2 ^ (64 - m) * 2 ^ m := by rw [← Nat.pow_add]; congr 1; omega
    have hq : 0 < 2 ^ (64 - m) := Nat.two_pow_pos _
    have e : 2 ^ 64 - 1 - (2 ^ m - 1) = 2 ^ m * (2 ^ (64 - m) - 1) := by
      rw [Nat.mul_sub, Nat.mul_one, Nat.mul_comm, ← hd]
      omega
    rw [e]
    refine Nat.eq_of_testBit_eq (fun j => ?_)
    rw [Nat.testBit_and, Nat.zero_testBit, Nat.testBit_two_pow_mul]
    by_cases hj : j < m
    · simp [show ¬ m ≤ j by omega]
    · rw [Nat.testBit_lt_two_pow (Nat.lt_of_lt_of_le hx (Nat.pow_le_pow_right (by decide) (by omega)))]
      rfl
  show IntKind.i64.wrap ((BitVec.ofInt 64 (x : Int) &&& ~~~ BitVec.ofInt 64 ((2 ^ m - 1 : Nat) : Int)).toNat : Nat) = _
  rw [key]
  rfl
theorem fullSet_eq (m : Nat) (hm : m ≤ 40) : fullSet (m : Int) = ((2 ^ m - 1 : Nat) : Int) := by
  have hp := pow_le40 hm
  have h0 : 0 < 2 ^ m := Nat.two_pow_pos m
  unfold fullSet
  rw [if_pos (by omega), shl_one m hm, w64 (by omega) (by omega)]
  omega
/-- What is missing: the others. -/
theorem missing_bs (p : Nat → Bool) (l : List S48) (hm : l.length ≤ 40) : missing l ((bs p l.length : Nat) : Int) = ((bs (fun i => !p i) l.length : Nat) : Int) := by
  have h := bs_lt p l.length
  have hp := pow_le40 hm
  have h0 : 0 < 2 ^ l.length := Nat.two_pow_pos _
  have hn := bs_not p l.length
  unfold missing without
  rw [fullSet_eq _ hm, if_pos (by unfold setOk; rw [decide_eq_true_eq]; omega), if_pos (by unfold setOk; rw [decide_eq_true_eq]; omega), andNot_mask _ _ hm h]
  omega
end Go.Proofs.Ytfkndpjbkndhcaa.Pb
/- PutPiece: the program's and the reference's ways. -/
namespace Go.Proofs.Ytfkndpjbkndhcaa.Pb
open Go.RowKit Go.Proofs.Ytfkndpjbkndhcaa Go.Proofs.Ytfkndpjbkndhcaa.Q Go.Proofs.YtfkndpjbkndhcaaW.PrintWords Go.Proofs.YtfkndpjbkndhcaaW.PrintLast
set_option linter.unusedVariables false
set_option linter.unusedSimpArgs false

theorem buildOk_parts {a b c : Int} {l : List S48} {h : Int} {m : List Int} (q : buildOk a b c l h m = true) : manOk a b c l = true ∧ setOk h = true ∧ (m.length : Int) = c := by
  unfold buildOk at q
  rw [Bool.and_eq_true, Bool.and_eq_true, Bool.and_eq_true, Bool.and_eq_true, decide_eq_true_eq, decide_eq_true_eq] at q
  exact ⟨q.1, q.2.1, q.2.2.2.1⟩
def putPiece (a b c : Int) (l : List S48) (h : Int) (m : List Int) (i : Int) (p : List Int) : Int × List Int × Bool := if buildOk a b c l h m = true then (if putOk l h i p = true then (bitOn h i, lay m (spanOf b c i).1.toNat p, true) else (h, m, false)) else (h, m, false)
theorem putOk_parts {a b c : Int} {l : List S48} {h i : Int} {p : List Int} (hm : manOk a b c l = true) (hp : Bytes p) (e : putOk l h i p = true) : (0 ≤ i ∧ i < (l.length : Int)) ∧ inSet h i = false ∧ sumIs (sumOf p) (l.getD i.toNat z48) = true ∧ (p.length : Int) = (spanOf b c i).2 := by
  unfold putOk at e
  rw [Bool.and_eq_true, Bool.and_eq_true, decide_eq_true_eq] at e
  have so := (sumIs_only hm (show i.toNat < l.length by omega) hp e.2.2).1
  rw [show ((i.toNat : Nat) : Int) = i by omega] at so
  exact ⟨by omega, by simpa using e.2.1, e.2.2, so⟩
theorem putPiece_length (a b c : Int) (l : List S48) (h : Int) (m : List Int) (i : Int) (p : List Int) (hp : Bytes p) : (putPiece a b c l h m i p).2.1.length = m.length := by
  unfold putPiece
  split
  · rename_i q
    have r := buildOk_parts q
    split
    · rename_i e
      have o := putOk_parts r.1 hp e
      have s := span_in (b := b) r.2.2 i
      have t := spanOf_range b c i
      exact lay_length (by omega)
    · rfl
  · rfl
end Go.Proofs.Ytfkndpjbkndhcaa.Pb
/- Builds told by the blocks that they have. No condition but that bytes are bytes, and sizes fit. -/
namespace Go.Proofs.Ytfkndpjbkndhcaa.Pb
open Go.RowKit Go.Proofs.Ytfkndpjbkndhcaa Go.Proofs.Ytfkndpjbkndhcaa.Q Go.Proofs.YtfkndpjbkndhcaaW.PrintWords Go.Proofs.YtfkndpjbkndhcaaW.PrintLast
set_option linter.unusedVariables false
set_option linter.unusedSimpArgs false

def fillAt (p : Nat → Bool) (s : Nat) (b : List Int) (j : Nat) : Int := if p (j / s) = true then b.getD j 0 else 0
/-- The blocks of b that p tells, zeros elsewhere. -/
def fill (p : Nat → Bool) (s : Nat) (b : List Int) : List Int := (List.range b.length).map (fillAt p s b)
theorem fill_length (p : Nat → Bool) (s : Nat) (b : List Int) : (fill p s b).length = b.length := by simp [fill]
theorem fill_get (p : Nat → Bool) (s : Nat) (b : List Int) (j : Nat) : (fill p s b)[j]? = if j < b.length then some (fillAt p s b j) else none := by
  unfold fill
  rw [List.getElem?_map]
  split
  · rename_i h; rw [List.getElem?_range h]; rfl
  · rename_i h; rw [List.getElem?_eq_none (by simp; omega)]; rfl
theorem bytes_fill {b : List Int} (h : Bytes b) (p : Nat → Bool) (s : Nat) : Bytes (fill p s b) := by
  intro x hx
  unfold fill at hx
  obtain ⟨j, hj, rfl⟩ := List.mem_map.1 hx
  unfold fillAt
  split
  · exact bytes_getD h j
  · omega
theorem fill_none (s : Nat) (b : List Int) {p : Nat → Bool} (hp : ∀ i, i * s < b.length → p i = false) : fill p s b = List.replicate b.length 0 := by
  refine List.ext_getElem? (fun j => ?_)
  rw [fill_get, List.getElem?_replicate]
  split
  · rename_i h
    unfold fillAt
    rw [hp (j / s) (Nat.lt_of_le_of_lt (Nat.div_mul_le_self j s) h), if_neg (by decide)]
  · rfl
theorem fill_full (s : Nat) (b : List Int) {p : Nat → Bool} (hp : ∀ i, i * s < b.length → p i = true) : fill p s b = b := by
  refine List.ext_getElem? (fun j => ?_)
  rw [fill_get]
  split
  · rename_i h
    unfold fillAt
    rw [hp (j / s) (Nat.lt_of_le_of_lt (Nat.div_mul_le_self j s) h), if_pos rfl, List.getD_eq_getElem?_getD, List.getElem?_eq_getElem h]
    rfl
  · rename_i h
    rw [List.getElem?_eq_none (by omega)]
theorem fill_congr (s : Nat) (b : List Int) {p q : Nat → Bool} (h : ∀ i, i * s < b.length → p i = q i) : fill p s b = fill q s b := by
  refine List.ext_getElem? (fun j => ?_)
  rw [fill_get, fill_get]
  split
  · rename_i hj
    unfold fillAt
    rw [h (j / s) (Nat.lt_of_le_of_lt (Nat.div_mul_le_self j s) hj)]
  · rfl
/-- A block of a row, by whole numbers. -/
def cutOf (l : List Int) (t n : Nat) : List Int := (l.take (t + n)).drop t
theorem cutOf_get (l : List Int) (t n j : Nat) : (cutOf l t n)[j]? = if j < n then l[t + j]? else none := by
  unfold cutOf
  rw [List.getElem?_drop, List.getElem?_take]
  by_cases h : j < n
  · rw [if_pos (by omega), if_pos h]
  · rw [if_neg (by omega), if_neg h]
theorem cutOf_length (l : List Int) (t n : Nat) (h : t + n ≤ l.length) : (cutOf l t n).length = n := by
  unfold cutOf
  rw [List.length_drop, List.length_take]
  omega
theorem lay_get (m : List Int) (t : Nat) (p : List Int) (h : t + p.length ≤ m.length) (j : Nat) : (lay m t p)[j]? = if t ≤ j ∧ j < t + p.length then p[j - t]? else m[j]? := by
  unfold lay
  have l1 : (m.take t).length = t := by rw [List.length_take]; omega
  by_cases h1 : j < t
  · rw [if_neg (by omega), List.append_assoc, List.getElem?_append_left (by omega), List.getElem?_take, if_pos h1]
  · by_cases h2 : j < t + p.length
    · rw [if_pos (by omega), List.getElem?_append_left (by rw [List.length_append]; omega), List.getElem?_append_right (by omega), l1]
    · rw [if_neg (by omega), List.getElem?_append_right (by rw [List.length_append]; omega), List.length_append, l1, List.getElem?_drop]
      congr 1
      omega
/-- How a block lies. -/
structure Lies (s i t n len : Nat) : Prop where
  s0 : 0 < s
  e : t = i * s
  n0 : 0 < n
  ns : n ≤ s
  fit : t + n ≤ len
  last : n = s ∨ t + n = len
theorem Lies.iff {s i t n len : Nat} (h : Lies s i t n len) {j : Nat} (hj : j < len) : j / s = i ↔ t ≤ j ∧ j < t + n := by
  have hs := h.s0
  have d := Nat.div_add_mod j s
  have m := Nat.mod_lt j hs
  rw [Nat.mul_comm] at d
  constructor
  · intro e
    rw [e, ← h.e] at d
    have := h.last
    omega
  · intro ⟨h1, h2⟩
    have h3 : i * s ≤ j := by rw [← h.e]; exact h1
    have h4 : j < (i + 1) * s := by rw [Nat.add_mul, Nat.one_mul, ← h.e]; have := h.ns; omega
    have a := (Nat.le_div_iff_mul_le hs).2 h3
    have b := (Nat.div_lt_iff_lt_mul hs).2 h4
    omega
theorem cutOf_fill {p : Nat → Bool} {s i t n : Nat} {b : List Int} (h : Lies s i t n b.length) : cutOf (fill p s b) t n = if p i = true then cutOf b t n else List.replicate n 0 := by
  refine List.ext_getElem? (fun j => ?_)
  have hf := h.fit
  have key : j < n → (fill p s b)[t + j]? = some (if p i = true then b.getD (t + j) 0 else 0) := by
    intro hj
    rw [fill_get, if_pos (by omega)]
    unfold fillAt
    rw [(h.iff (show t + j < b.length by omega)).2 (by omega)]
  rw [cutOf_get]
  split
  · rename_i hj
    rw [key hj]
    split
    · rw [cutOf_get, if_pos hj, List.getD_eq_getElem?_getD, List.getElem?_eq_getElem (by omega)]
      rfl
    · rw [List.getElem?_replicate, if_pos hj]
  · rename_i hj
    split
    · rw [cutOf_get, if_neg hj]
    · rw [List.getElem?_replicate, if_neg hj]
theorem lay_fill {p : Nat → Bool} {s i t n : Nat} {b : List Int} (h : Lies s i t n b.length) : lay (fill p s b) t (cutOf b t n) = fill (fun j => p j || j == i) s b := by
  have hf := h.fit
  have hl := cutOf_length b t n hf
  refine List.ext_getElem? (fun j => ?_)
  rw [lay_get _ _ _ (by rw [hl, fill_length]; exact hf), hl, fill_get, fill_get]
  by_cases hj : j < b.length
  · rw [if_pos hj, if_pos hj]
    have q := h.iff hj
    unfold fillAt
    by_cases e : j / s = i
    · have := q.1 e
      rw [if_pos this, cutOf_get, if_pos (by omega), show t + (j - t) = j by omega, e]
      simp [List.getD_eq_getElem?_getD, List.getElem?_eq_getElem hj]
    · rw [if_neg (fun z => e (q.2 z))]
      simp [e]
  · rw [if_neg hj, if_neg hj, if_neg (by omega)]
/-- A span that is there. -/
theorem span_lies {s c i : Int} {len : Nat} (hc : (len : Int) = c) (h : 0 ≤ i ∧ i ≤ blocks s c - 1) : Lies s.toNat i.toNat (spanOf s c i).1.toNat (spanOf s c i).2.toNat len := by
  have q := span_at h
  have e : (spanOf s c i) = (i * s, if c - i * s < s then c - i * s else s) := by unfold spanOf; rw [if_pos h]
  rw [e]
  have t1 : (i * s).toNat = i.toNat * s.toNat := by
    have a : ((i.toNat * s.toNat : Nat) : Int) = i * s := by rw [Int.natCast_mul, Int.toNat_of_nonneg h.1, Int.toNat_of_nonneg (by omega)]
    omega
  simp only
  split <;> exact ⟨by omega, t1, by omega, by omega, by omega, by omega⟩
theorem blocks_last {s c : Int} (h : sizeOk s c = true) {i : Int} (h0 : 0 ≤ i) : i ≤ blocks s c - 1 ↔ i * s < c := by
  have z := sizeOk_iff.1 h
  have e : blocks s c = (c + s - 1) / s := by unfold blocks; rw [if_pos h]
  rw [e]
  have hs : 0 < s := by omega
  constructor
  · intro q
    have a := Int.mul_le_mul_of_nonneg_right (show i + 1 ≤ (c + s - 1) / s by omega) (Int.le_of_lt hs)
    have b := Int.ediv_mul_le (c + s - 1) (show s ≠ 0 by omega)
    rw [Int.add_mul] at a
    omega
  · intro q
    have a := (Int.le_ediv_iff_mul_le hs (a := i + 1) (b := c + s - 1)).2 (by rw [Int.add_mul]; omega)
    omega
end Go.Proofs.Ytfkndpjbkndhcaa.Pb
/- An image's sums, the program's way; its manifest is one. -/
namespace Go.Proofs.Ytfkndpjbkndhcaa.Pb
open Go.RowKit Go.Proofs.Ytfkndpjbkndhcaa Go.Proofs.Ytfkndpjbkndhcaa.Q Go.Proofs.YtfkndpjbkndhcaaW.PrintWords Go.Proofs.YtfkndpjbkndhcaaW.PrintLast
set_option linter.unusedVariables false
set_option linter.unusedSimpArgs false

theorem bytes_block {l : List Int} (h : Bytes l) (n i : Int) : Bytes (block n l i) := fun x hx => h x (List.mem_of_mem_take (List.mem_of_mem_drop hx))
def sumNext (n : Int) (l : List Int) (i : Nat) (s : List S48) : List S48 := s ++ [⟨(sumOf (block n l (i : Int))).1, (sumOf (block n l (i : Int))).2⟩]
def sumsOf (n : Int) (l : List Int) : List S48 := iter (blocks n l.length).toNat (sumNext n l) []
theorem sums_eq (n : Int) (l : List Int) (m : Nat) : iter m (sumNext n l) [] = (List.range m).map (fun i : Nat => (⟨(sumOf (block n l (i : Int))).1, (sumOf (block n l (i : Int))).2⟩ : S48)) := by
  induction m with
  | zero => rfl
  | succ m ih =>
    rw [iter_succ, ih, List.range_succ, List.map_append]
    rfl
theorem sums_len (n : Int) (l : List Int) (m : Nat) : (iter m (sumNext n l) []).length = m := by rw [sums_eq]; simp
theorem sumsOf_len (n : Int) (l : List Int) : (sumsOf n l).length = (blocks n l.length).toNat := sums_len n l _
theorem sumsOf_length (n : Int) (l : List Int) : (sumsOf n l).length ≤ 40 := by
  have := blocks_range n l.length
  rw [sumsOf_len]
  omega
theorem sumsOf_get (n : Int) (l : List Int) (i : Nat) (hi : i < (sumsOf n l).length) : (sumsOf n l).getD i z48 = ⟨(sumOf (block n l (i : Int))).1, (sumOf (block n l (i : Int))).2⟩ := by
  rw [sumsOf_len] at hi
  unfold sumsOf
  rw [sums_eq, List.getD_eq_getElem?_getD, List.getElem?_map, List.getElem?_range hi]
  rfl
theorem implSumsOf_ev (l : List Int) (n : Int) (hb : Bytes l) (hl : l.length ≤ 1048576) : Ev (fun k => impl_SumsOf.f k l n) (sumsOf n l) := by
  have hr := blocks_range n l.length
  unfold impl_SumsOf.f
  refine ev_then (implBlocks_eq _ _) ?_
  refine loop_up (fun k s i => impl_SumsOf.l0 k l n s (blocks n l.length) i) (blocks n l.length).toNat (sumNext n l) (fun i s => s.length = i) [] _ rfl (fun i s _ h => by unfold sumNext; rw [List.length_append, h]; rfl) ?_ ?_
  · intro i s r hi hs h
    refine Ev.step (fun k => rfl) (ev_pos (by omega) (ev_then (implBlockAt_eq _ _ _ hl) (Ev.bind (implSumOf_ev _ (bytes_block hb n (i : Int))) (ev_pos (by rw [hs]; omega) ?_))))
    rw [w64 (by omega) (by omega)]
    exact h
  · intro hs
    exact Ev.step (fun k => rfl) (ev_neg (by omega) ev_some)
theorem implManOf_ev (a : Int) (l : List Int) (n : Int) (ha : 1 ≤ a ∧ a ≤ 1000000) (hs : sizeOk n l.length = true) (hb : Bytes l) (hl : l.length ≤ 1048576) : Ev (fun k => impl_ManOf.f k a l n) (a, n, (l.length : Int), sumsOf n l) := by
  unfold impl_ManOf.f
  refine ev_then (within_eq _ _ _) (ev_pos (by simpa using ha) (ev_then (implSizeOk_eq _ _) (ev_pos hs (Ev.bind (implSumsOf_ev l n hb hl) ev_some))))
/-- Bytes, of their strong sum. -/
theorem bytesOf_of {q : List Int} (hq : Bytes q) (h6 : q.length ≤ 6) : bytesOf (strong q) = (q, true) := by
  have b := strongFrom_bounds q 1 hq
  have p6 := p256_le q.length h6
  have e1 : strong q / 256 ^ q.length = 1 := by
    unfold strong
    have hp : (0 : Int) < 256 ^ q.length := Int.pow_pos (by decide)
    rw [Int.one_mul] at b
    have h1 := (Int.le_ediv_iff_mul_le hp (a := 1) (b := q.foldl (fun s b => 256 * s + b) 1)).2 (by omega)
    have h2 := (Int.ediv_lt_iff_lt_mul hp (a := q.foldl (fun s b => 256 * s + b) 1) (b := 2)).2 (by omega)
    omega
  have h1 := strong_pos q hq
  have h2 : strong q ≤ 562949953421311 := by unfold strong at *; omega
  have hc := cnt_iff (strong q) h1 h2 q.length h6 e1
  unfold bytesOf
  rw [hc, if_pos ⟨h1, e1⟩]
  congr 1
  exact strong_inj (digs_bytes _ _) hq (by rw [digs_length]; exact h6) h6 (strong_digs _ _ h1 e1)
theorem block_piece (n : Int) (l : List Int) (i : Int) : block n l i = piece n l.length l i := rfl
theorem block_len {n : Int} {l : List Int} {i : Int} : ((block n l i).length : Int) = (spanOf n l.length i).2 ∧ (block n l i).length ≤ 6 := by
  have r := spanOf_range n l.length i
  have h := block_in n l i
  unfold block
  rw [List.length_drop, List.length_take]
  omega
theorem sumOf_short {q : List Int} (h : q.length ≤ 6) : sumOf q = (weakOf q, strong q) := by unfold sumOf; rw [if_neg (by omega)]
theorem manOk_sums {a n : Int} {l : List Int} (ha : 1 ≤ a ∧ a ≤ 1000000) (hs : sizeOk n l.length = true) (hb : Bytes l) : manOk a n l.length (sumsOf n l) = true := by
  have hr := blocks_range n l.length
  unfold manOk
  rw [if_neg (by omega), if_pos ⟨ha, hs, by rw [sumsOf_len]; omega⟩, List.all_eq_true]
  intro i hi
  have hi := List.mem_range.1 hi
  have bl := block_len (n := n) (l := l) (i := (i : Int))
  unfold blockOk
  rw [sumsOf_get n l i hi, sumOf_short bl.2]
  simp only
  rw [bytesOf_of (bytes_block hb n (i : Int)) bl.2]
  simp [bl.1]
/-- Which bytes have a block's sum. -/
theorem sumIs_block {a n : Int} {l : List Int} (ha : 1 ≤ a ∧ a ≤ 1000000) (hs : sizeOk n l.length = true) (hb : Bytes l) {i : Nat} (hi : i < (sumsOf n l).length) {p : List Int} (hp : Bytes p) : sumIs (sumOf p) ((sumsOf n l).getD i z48) = true ↔ p = block n l (i : Int) := by
  have own : sumIs (sumOf (block n l (i : Int))) ((sumsOf n l).getD i z48) = true := by
    rw [sumsOf_get n l i hi]
    exact sumIs_iff.2 ⟨rfl, rfl⟩
  constructor
  · intro h
    exact (sumIs_only (manOk_sums ha hs hb) hi (bytes_block hb n (i : Int)) own).2.2 p hp h
  · rintro rfl
    exact own
end Go.Proofs.Ytfkndpjbkndhcaa.Pb
/- Builds of an image's manifest, told by the blocks that they have. -/
namespace Go.Proofs.Ytfkndpjbkndhcaa.Pb
open Go.RowKit Go.Proofs.Ytfkndpjbkndhcaa Go.Proofs.Ytfkndpjbkndhcaa.Q Go.Proofs.YtfkndpjbkndhcaaW.PrintWords Go.Proofs.YtfkndpjbkndhcaaW.PrintLast
set_option linter.unusedVariables false
set_option linter.unusedSimpArgs false

/-- An image that a manifest may tell. -/
structure Img (g s : Int) (b : List Int) : Prop where
  hg : 1 ≤ g ∧ g ≤ 1000000
  hs : 2 ≤ s ∧ s ≤ 6
  hb : Bytes b
  h16 : b.length ≤ 16
section
variable {g s : Int} {b : List Int}
theorem Img.size (I : Img g s b) : sizeOk s b.length = true := by
  have := I.hs
  have := I.h16
  exact sizeOk_iff.2 ⟨I.hs, by omega, by omega⟩
theorem Img.man (I : Img g s b) : manOk g s b.length (sumsOf s b) = true := manOk_sums I.hg I.size I.hb
theorem Img.n40 (I : Img g s b) : (sumsOf s b).length ≤ 40 := sumsOf_length s b
theorem Img.at (I : Img g s b) {i : Nat} (hi : i < (sumsOf s b).length) : 0 ≤ (i : Int) ∧ (i : Int) ≤ blocks s b.length - 1 := by
  rw [sumsOf_len] at hi
  omega
theorem Img.lies (I : Img g s b) {i : Nat} (hi : i < (sumsOf s b).length) : Lies s.toNat i (spanOf s b.length (i : Int)).1.toNat (spanOf s b.length (i : Int)).2.toNat b.length := by
  have := span_lies (s := s) (c := b.length) (i := (i : Int)) rfl (I.at hi)
  rwa [Int.toNat_natCast] at this
theorem Img.lt (I : Img g s b) {i : Nat} : i < (sumsOf s b).length ↔ i * s.toNat < b.length := by
  have h := blocks_last I.size (i := (i : Int)) (by omega)
  have hs := I.hs
  have r := blocks_range s b.length
  have e : ((i * s.toNat : Nat) : Int) = (i : Int) * s := by rw [Int.natCast_mul, Int.toNat_of_nonneg (by omega)]
  rw [sumsOf_len]
  omega
theorem piece_cut (n c : Int) (m : List Int) (i : Int) (h : 0 ≤ (spanOf n c i).1 ∧ 0 ≤ (spanOf n c i).2) : piece n c m i = cutOf m (spanOf n c i).1.toNat (spanOf n c i).2.toNat := by
  unfold piece cutOf
  rw [show ((spanOf n c i).1 + (spanOf n c i).2).toNat = (spanOf n c i).1.toNat + (spanOf n c i).2.toNat by omega]
theorem Img.piece (I : Img g s b) (p : Nat → Bool) {i : Nat} (hi : i < (sumsOf s b).length) : Pb.piece s b.length (fill p s.toNat b) (i : Int) = if p i = true then block s b (i : Int) else List.replicate (spanOf s b.length (i : Int)).2.toNat 0 := by
  have r := spanOf_range s b.length (i : Int)
  rw [piece_cut _ _ _ _ (by omega), cutOf_fill (I.lies hi)]
  rw [← piece_cut _ _ _ _ (by omega)]
  rfl
theorem zeros_replicate (n : Nat) : zeros (List.replicate n 0) = true := by
  unfold zeros
  rw [List.all_eq_true]
  intro i hi
  have := List.mem_range.1 hi
  rw [List.length_replicate] at this
  rw [decide_eq_true_eq, rd, Int.toNat_natCast, List.getD_eq_getElem?_getD, List.getElem?_replicate, if_pos this]
  rfl
/-- Such a build is a good one. -/
theorem Img.ok (I : Img g s b) (p : Nat → Bool) : buildOk g s b.length (sumsOf s b) ((bs p (sumsOf s b).length : Nat) : Int) (fill p s.toNat b) = true := by
  have n40 := I.n40
  have lt := bs_lt p (sumsOf s b).length
  have hp := pow_le40 n40
  unfold buildOk
  rw [I.man, fullSet_eq _ n40, andNot_full _ _ n40 lt, fill_length]
  rw [show setOk ((bs p (sumsOf s b).length : Nat) : Int) = true by unfold setOk; rw [decide_eq_true_eq]; omega]
  simp only [Bool.true_and, decide_true]
  rw [List.all_eq_true]
  intro i hi
  have hi := List.mem_range.1 hi
  unfold partOk
  rw [inSet_bit _ _ _ n40, decide_eq_true hi, Bool.true_and, I.piece p hi]
  by_cases h : p i = true
  · rw [if_pos h, if_pos h]
    exact (sumIs_block I.hg I.size I.hb hi (bytes_block I.hb s (i : Int))).2 rfl
  · rw [if_neg h, if_neg h]
    exact zeros_replicate _
/-- A block that it has not, put. -/
theorem Img.putOk (I : Img g s b) (p : Nat → Bool) {i : Nat} (hi : i < (sumsOf s b).length) : Pb.putOk (sumsOf s b) ((bs p (sumsOf s b).length : Nat) : Int) (i : Int) (block s b (i : Int)) = !p i := by
  unfold Pb.putOk
  rw [inSet_bit _ _ _ I.n40, decide_eq_true hi, Bool.true_and, Int.toNat_natCast, decide_eq_true (by omega), Bool.true_and]
  rw [(sumIs_block I.hg I.size I.hb hi (bytes_block I.hb s (i : Int))).2 rfl, Bool.and_true]
theorem Img.put (I : Img g s b) (p : Nat → Bool) {i : Nat} (hi : i < (sumsOf s b).length) : putPiece g s b.length (sumsOf s b) ((bs p (sumsOf s b).length : Nat) : Int) (fill p s.toNat b) (i : Int) (block s b (i : Int)) =
    if p i = true then (((bs p (sumsOf s b).length : Nat) : Int), fill p s.toNat b, false) else (((bs (fun j => p j || j == i) (sumsOf s b).length : Nat) : Int), fill (fun j => p j || j == i) s.toNat b, true) := by
  have r := spanOf_range s b.length (i : Int)
  unfold putPiece
  rw [if_pos (I.ok p), I.putOk p hi]
  cases h : p i with
  | true => rfl
  | false =>
    simp only [Bool.not_false, if_true]
    rw [if_neg (by decide), bitOn_bs _ _ _ I.n40 hi]
    have e : block s b (i : Int) = cutOf b (spanOf s b.length (i : Int)).1.toNat (spanOf s b.length (i : Int)).2.toNat := piece_cut s b.length b (i : Int) (by omega)
    rw [e, lay_fill (I.lies hi)]
/-- What is missing. -/
theorem Img.missing (I : Img g s b) (p : Nat → Bool) : missing (sumsOf s b) ((bs p (sumsOf s b).length : Nat) : Int) = ((bs (fun i => !p i) (sumsOf s b).length : Nat) : Int) := missing_bs p _ I.n40
theorem Img.new (I : Img g s b) : buildNew g s b.length (sumsOf s b) = (((bs (fun _ => false) (sumsOf s b).length : Nat) : Int), fill (fun _ => false) s.toNat b) := by
  unfold buildNew
  rw [if_pos I.man, fill_none _ _ (fun _ _ => rfl), bs_none (fun _ _ => rfl), Int.toNat_natCast]
  rfl
theorem Img.full (I : Img g s b) {p : Nat → Bool} (hp : ∀ i, i < (sumsOf s b).length → p i = true) : fill p s.toNat b = b := fill_full _ _ (fun i hi => hp i (I.lt.2 hi))
theorem Img.from_ (I : Img g s b) {old : List Int} (hb : Bytes old) : buildFrom g s b.length (sumsOf s b) old = (((bs (atPlace old s b.length (sumsOf s b)) (sumsOf s b).length : Nat) : Int), fill (atPlace old s b.length (sumsOf s b)) s.toNat b) := by
  have key : ∀ n, n ≤ (sumsOf s b).length → (iter n (buildStep old s b.length (sumsOf s b)) (0, List.replicate (b.length : Int).toNat 0)).2 = fill (fun j => decide (j < n) && atPlace old s b.length (sumsOf s b) j) s.toNat b := by
    intro n
    induction n with
    | zero =>
      intro _
      rw [iter_zero, fill_none _ _ (fun i _ => by simp), Int.toNat_natCast]
    | succ n ih =>
      intro hn
      rw [iter_succ]
      have e := ih (by omega)
      generalize iter n (buildStep old s b.length (sumsOf s b)) (0, List.replicate (b.length : Int).toNat 0) = S at e ⊢
      unfold buildStep
      by_cases h : 0 ≤ placeOf old s b.length (sumsOf s b) (n : Int)
      · rw [if_pos h]
        have q := placeOf_some I.man hb (show n < (sumsOf s b).length by omega) h
        have w := (sumIs_block I.hg I.size I.hb (show n < (sumsOf s b).length by omega) q.2.2.1).1 q.2.2.2
        have r := spanOf_range s b.length (n : Int)
        show lay _ _ _ = _
        rw [w, e]
        have e2 : block s b (n : Int) = cutOf b (spanOf s b.length (n : Int)).1.toNat (spanOf s b.length (n : Int)).2.toNat := piece_cut s b.length b (n : Int) (by omega)
        rw [e2, lay_fill (I.lies (by omega))]
        refine fill_congr _ _ (fun j _ => ?_)
        by_cases hj : j = n
        · subst hj
          rw [show atPlace old s b.length (sumsOf s b) j = true from decide_eq_true h]
          simp
        · rw [show (j == n) = false from beq_eq_false_iff_ne.mpr hj, Bool.or_false, show decide (j < n + 1) = decide (j < n) by rw [decide_eq_decide]; omega]
      · rw [if_neg h, e]
        refine fill_congr _ _ (fun j _ => ?_)
        by_cases hj : j = n
        · subst hj
          rw [show atPlace old s b.length (sumsOf s b) j = false from decide_eq_false h]
          simp
        · rw [show decide (j < n + 1) = decide (j < n) by rw [decide_eq_decide]; omega]
  have e1 := (from_all (a := g) (old := old) I.man hb (sumsOf s b).length (Nat.le_refl _)).1
  have e2 := key (sumsOf s b).length (Nat.le_refl _)
  unfold buildFrom
  rw [if_pos I.man]
  refine Prod.ext e1 (e2.trans ?_)
  refine fill_congr _ _ (fun j hj => ?_)
  rw [decide_eq_true (I.lt.2 hj), Bool.true_and]
end
end Go.Proofs.Ytfkndpjbkndhcaa.Pb
/- Whether a build is whole; rows of bytes compared by the laws: the program's ways. -/
namespace Go.Proofs.Ytfkndpjbkndhcaa.Pb
open Go.RowKit Go.Proofs.Ytfkndpjbkndhcaa Go.Proofs.Ytfkndpjbkndhcaa.Q Go.Proofs.YtfkndpjbkndhcaaW.PrintWords Go.Proofs.YtfkndpjbkndhcaaW.PrintLast
set_option linter.unusedVariables false
set_option linter.unusedSimpArgs false

def whole (a b c : Int) (l : List S48) (h : Int) (m : List Int) : Bool := if a = 0 then false else (if buildOk a b c l h m = true then (missing l h == 0) else false)
theorem same_refl (a : List Int) (ha : a.length ≤ 1048576) : Ev (fun k => laws_same.f k a a) true := by
  unfold laws_same.f
  refine ev_pos rfl ?_
  refine ev_eq (loop_all (fun k i => laws_same.l0 k a a i) a.length (fun _ => true) ?_ ?_ ?_) (by simp)
  · intro i r hi _ h
    refine Ev.step (fun k => rfl) (ev_pos (by omega) (ev_pos (by omega) (ev_pos (by omega) (ev_pos rfl ?_))))
    rw [w64 (by omega) (by omega)]
    exact h
  · intro i hi h
    cases h
  · exact Ev.step (fun k => rfl) (ev_neg (by omega) ev_some)
section
variable {g s : Int} {b : List Int}
theorem Img.wholeIf (I : Img g s b) (p : Nat → Bool) : whole g s b.length (sumsOf s b) ((bs p (sumsOf s b).length : Nat) : Int) (fill p s.toNat b) = (((bs (fun i => !p i) (sumsOf s b).length : Nat) : Int) == 0) := by
  have hg := I.hg
  unfold whole
  rw [if_neg (by omega), if_pos (I.ok p), I.missing]
theorem Img.wholeAll (I : Img g s b) {p : Nat → Bool} (hp : ∀ i, i < (sumsOf s b).length → p i = true) : whole g s b.length (sumsOf s b) ((bs p (sumsOf s b).length : Nat) : Int) (fill p s.toNat b) = true := by
  rw [I.wholeIf, bs_none (fun i hi => by rw [hp i hi]; rfl)]
  rfl
theorem Img.wholeNot (I : Img g s b) {p : Nat → Bool} {i : Nat} (hi : i < (sumsOf s b).length) (hp : p i = false) : whole g s b.length (sumsOf s b) ((bs p (sumsOf s b).length : Nat) : Int) (fill p s.toNat b) = false := by
  rw [I.wholeIf]
  refine beq_eq_false_iff_ne.mpr (fun e => ?_)
  have := bs_zero (show bs (fun i => !p i) (sumsOf s b).length = 0 by omega) i hi
  rw [hp] at this
  cases this
end
end Go.Proofs.Ytfkndpjbkndhcaa.Pb
/- What a file lacks of a manifest: the program's and the reference's ways. No condition beyond the bytes' range and the sizes that the laws ask. -/
namespace Go.Proofs.Ytfkndpjbkndhcaa.Pb
open Go.RowKit Go.Proofs.Ytfkndpjbkndhcaa Go.Proofs.Ytfkndpjbkndhcaa.Q Go.Proofs.YtfkndpjbkndhcaaW.PrintWords Go.Proofs.YtfkndpjbkndhcaaW.PrintLast Go.Proofs.YtfkndpjbkndhcaaW.PrintMore
set_option linter.unusedVariables false
set_option linter.unusedSimpArgs false

/-- A block of the manifest lies in the file. -/
def found (l : List Int) (b c : Int) (m : List S48) (i : Nat) : Bool := decide (placeOf l b c m i ≥ 0)
def most (m : List S48) : Nat := if m.length < 40 then m.length else 40
def lacking (l : List Int) (b c : Int) (m : List S48) : Int := ((bs (fun i => !found l b c m i) (most m) : Nat) : Int)
theorem most_le (m : List S48) : most m ≤ 40 ∧ most m ≤ m.length := by unfold most; split <;> omega
theorem pow40 (i : Nat) (h : i ≤ 40) : 2 ^ i ≤ 1099511627776 := Nat.le_trans (Nat.pow_le_pow_right (by decide) h) (by decide)
theorem setOk_bs (p : Nat → Bool) (i : Nat) (h : i ≤ 40) : setOk ((bs p i : Nat) : Int) = true := by
  have h1 := bs_lt p i
  have h2 := pow40 i h
  unfold setOk
  rw [decide_eq_true_eq]
  omega
theorem implLacking_ev (l : List Int) (a b c : Int) (m : List S48) (hb : Bytes l) (hl : l.length ≤ 1048576) (hm : m.length ≤ 1048576) : Ev (fun k => impl_Lacking.f k l a b c m) (lacking l b c m) := by
  unfold impl_Lacking.f impl_placed.f lacking
  have q := most_le m
  have em : mn 40 (m.length : Int) = (most m : Int) := by unfold mn most; split <;> split <;> omega
  rw [em]
  refine Ev.bind (r := ((bs (fun i => !found l b c m i) (most m) : Nat) : Int)) ?_ ev_some
  refine ev_eq (loop_up (σ := Nat) (fun k s i => impl_placed.l0 k l false (s : Int) (most m : Int) i a b c m) (most m) (fun i s => s + (if (!found l b c m i) = true then 2 ^ i else 0)) (fun i s => s = bs (fun i => !found l b c m i) i) 0 ((iter (most m) (fun i s => s + (if (!found l b c m i) = true then 2 ^ i else 0)) 0 : Nat) : Int) rfl (fun i s _ h => by rw [h, bs]) ?_ ?_) ?_
  · rintro i s r hi rfl h
    refine Ev.step (fun k => rfl) ?_
    refine ev_pos (by omega) ?_
    refine Ev.bind (implPlaceOf_ev l a b c m i hb hl hm) ?_
    rw [w64 (x := (i : Int) + 1) (by omega) (by omega)]
    have ed : (decide (placeOf l b c m i ≥ 0) == false) = !found l b c m i := by
      unfold found
      cases decide (placeOf l b c m i ≥ 0) <;> rfl
    rw [ed]
    refine ev_if (fun hp => ev_pos (by omega) ?_) (fun hp => ?_)
    · rw [if_pos hp] at h
      rw [or_bit _ _ (by omega) (bs_lt _ _)]
      exact h
    · rw [if_neg hp] at h
      exact h
  · intro hs
    refine Ev.step (fun k => rfl) ?_
    exact ev_neg (by omega) ev_some
  · congr 1
    have : ∀ n, iter n (fun i s => s + (if (!found l b c m i) = true then 2 ^ i else 0)) 0 = bs (fun i => !found l b c m i) n := by
      intro n
      induction n with
      | zero => rfl
      | succ n ih => rw [iter_succ, ih, bs]
    exact this _
end Go.Proofs.Ytfkndpjbkndhcaa.Pb
/- What stands somewhere in an old image is found there. -/
namespace Go.Proofs.Ytfkndpjbkndhcaa.Pb
open Go.RowKit Go.Proofs.Ytfkndpjbkndhcaa Go.Proofs.Ytfkndpjbkndhcaa.Q Go.Proofs.YtfkndpjbkndhcaaW.PrintWords Go.Proofs.YtfkndpjbkndhcaaW.PrintLast
set_option linter.unusedVariables false
set_option linter.unusedSimpArgs false

section
variable {g s : Int} {b : List Int}
theorem Img.span_pos (I : Img g s b) {i : Nat} (hi : i < (sumsOf s b).length) : 1 ≤ (spanOf s b.length (i : Int)).2 ∧ (spanOf s b.length (i : Int)).2 ≤ 6 := by
  have r := spanOf_range s b.length (i : Int)
  have := (I.lies hi).n0
  omega
theorem Img.finds (I : Img g s b) {x : List Int} {i : Nat} (hi : i < (sumsOf s b).length) (j : Nat) (hj : (j : Int) + (spanOf s b.length (i : Int)).2 ≤ x.length) (hw : win x (spanOf s b.length (i : Int)).2.toNat j = block s b (i : Int)) : atPlace x s b.length (sumsOf s b) i = true := by
  unfold atPlace placeOf
  rw [if_pos (by omega), Int.toNat_natCast, decide_eq_true_eq]
  refine Classical.byContradiction (fun h => ?_)
  refine findSum_none h (I.span_pos hi) j hj ?_
  rw [hw, sumsOf_get s b i hi]
theorem win_right (l m : List Int) (n j : Nat) : win (l ++ m) n (l.length + j) = win m n j := by
  unfold win
  rw [show l.length + j + n = l.length + (j + n) by omega, List.take_append, List.take_of_length_le (by omega), show l.length + (j + n) - l.length = j + n by omega, List.drop_append, List.drop_eq_nil_of_le (by omega), List.nil_append, show l.length + j - l.length = j by omega]
theorem win_left (l m : List Int) (n j : Nat) (h : j + n ≤ l.length) : win (l ++ m) n j = win l n j := by
  unfold win
  rw [List.take_append, show j + n - l.length = 0 by omega, List.take_zero, List.append_nil]
theorem Img.block_win (I : Img g s b) {i : Nat} (hi : i < (sumsOf s b).length) : win b (spanOf s b.length (i : Int)).2.toNat (spanOf s b.length (i : Int)).1.toNat = block s b (i : Int) := by
  have r := spanOf_range s b.length (i : Int)
  exact (piece_cut s b.length b (i : Int) (by omega)).symm
theorem Img.finds_behind (I : Img g s b) (old : List Int) {i : Nat} (hi : i < (sumsOf s b).length) : atPlace (old ++ b) s b.length (sumsOf s b) i = true := by
  have f := (I.lies hi).fit
  have r := spanOf_range s b.length (i : Int)
  refine I.finds hi (old.length + (spanOf s b.length (i : Int)).1.toNat) (by rw [List.length_append]; omega) ?_
  rw [win_right]
  exact I.block_win hi
theorem Img.finds_ahead (I : Img g s b) (old : List Int) {i : Nat} (hi : i < (sumsOf s b).length) : atPlace (b ++ old) s b.length (sumsOf s b) i = true := by
  have f := (I.lies hi).fit
  have r := spanOf_range s b.length (i : Int)
  refine I.finds hi (spanOf s b.length (i : Int)).1.toNat (by rw [List.length_append]; omega) ?_
  rw [win_left _ _ _ _ (by omega)]
  exact I.block_win hi
theorem Img.most (I : Img g s b) : most (sumsOf s b) = (sumsOf s b).length := by
  have := I.n40
  unfold Pb.most
  split <;> omega
theorem found_at (x : List Int) (b c : Int) (l : List S48) (i : Nat) : found x b c l i = atPlace x b c l i := rfl
theorem Img.lacking (I : Img g s b) (x : List Int) : lacking x s b.length (sumsOf s b) = ((bs (fun i => !atPlace x s b.length (sumsOf s b) i) (sumsOf s b).length : Nat) : Int) := by
  unfold Pb.lacking
  rw [I.most]
  rfl
theorem Img.lacking_none (I : Img g s b) {x : List Int} (h : ∀ i, i < (sumsOf s b).length → atPlace x s b.length (sumsOf s b) i = true) : Pb.lacking x s b.length (sumsOf s b) = 0 := by
  rw [I.lacking, bs_none (fun i hi => by rw [h i hi]; rfl)]
  rfl
end
end Go.Proofs.Ytfkndpjbkndhcaa.Pb
/- Which blocks are found: the program's way; unions of sets. -/
namespace Go.Proofs.Ytfkndpjbkndhcaa.Pb
open Go.RowKit Go.Proofs.Ytfkndpjbkndhcaa Go.Proofs.Ytfkndpjbkndhcaa.Q Go.Proofs.YtfkndpjbkndhcaaW.PrintWords Go.Proofs.YtfkndpjbkndhcaaW.PrintLast Go.Proofs.YtfkndpjbkndhcaaW.PrintMore
set_option linter.unusedVariables false
set_option linter.unusedSimpArgs false

theorem implFound_ev (l : List Int) (a b c : Int) (m : List S48) (hb : Bytes l) (hl : l.length ≤ 1048576) (hm : m.length ≤ 1048576) : Ev (fun k => impl_Found.f k l a b c m) ((bs (found l b c m) (most m) : Nat) : Int) := by
  unfold impl_Found.f impl_placed.f
  have q := most_le m
  have em : mn 40 (m.length : Int) = (most m : Int) := by unfold mn most; split <;> split <;> omega
  rw [em]
  refine Ev.bind (r := ((bs (found l b c m) (most m) : Nat) : Int)) ?_ ev_some
  refine ev_eq (loop_up (σ := Nat) (fun k s i => impl_placed.l0 k l true (s : Int) (most m : Int) i a b c m) (most m) (fun i s => s + (if (found l b c m i) = true then 2 ^ i else 0)) (fun i s => s = bs (found l b c m) i) 0 ((iter (most m) (fun i s => s + (if (found l b c m i) = true then 2 ^ i else 0)) 0 : Nat) : Int) rfl (fun i s _ h => by rw [h, bs]) ?_ ?_) ?_
  · rintro i s r hi rfl h
    refine Ev.step (fun k => rfl) ?_
    refine ev_pos (by omega) ?_
    refine Ev.bind (implPlaceOf_ev l a b c m i hb hl hm) ?_
    rw [w64 (x := (i : Int) + 1) (by omega) (by omega)]
    have ed : (decide (placeOf l b c m i ≥ 0) == true) = found l b c m i := by
      unfold found
      cases decide (placeOf l b c m i ≥ 0) <;> rfl
    rw [ed]
    refine ev_if (fun hp => ev_pos (by omega) ?_) (fun hp => ?_)
    · rw [if_pos hp] at h
      rw [or_bit _ _ (by omega) (bs_lt _ _)]
      exact h
    · rw [if_neg hp] at h
      exact h
  · intro hs
    refine Ev.step (fun k => rfl) ?_
    exact ev_neg (by omega) ev_some
  · congr 1
    have : ∀ n, iter n (fun i s => s + (if (found l b c m i) = true then 2 ^ i else 0)) 0 = bs (found l b c m) n := by
      intro n
      induction n with
      | zero => rfl
      | succ n ih => rw [iter_succ, ih, bs]
    exact this _
def union (a b : Int) : Int := if setOk a = true then (if setOk b = true then Go.bits .or .i64 a b else 0) else 0
theorem implUnion_eq (a b : Int) : impl_Union.f a b = some (union a b) := by
  unfold impl_Union.f union
  rw [implSetOk_eq, implSetOk_eq]
  simp only [Option.bind_some]
  split
  · split <;> rfl
  · rfl
theorem union_not (p : Nat → Bool) (m : Nat) (hm : m ≤ 40) : union ((bs p m : Nat) : Int) ((bs (fun i => !p i) m : Nat) : Int) = ((2 ^ m - 1 : Nat) : Int) := by
  have h1 := bs_lt p m
  have h2 := bs_lt (fun i => !p i) m
  have hp := pow_le40 hm
  unfold union
  rw [if_pos (by unfold setOk; rw [decide_eq_true_eq]; omega), if_pos (by unfold setOk; rw [decide_eq_true_eq]; omega), or_nat _ _ (by omega) (by omega)]
  congr 1
  rw [← bs_true]
  refine Nat.eq_of_testBit_eq (fun j => ?_)
  rw [Nat.testBit_or, bs_bit, bs_bit, bs_bit]
  cases p j <;> simp
end Go.Proofs.Ytfkndpjbkndhcaa.Pb
/- What a file lacks of a manifest: the program's and the reference's ways. No condition beyond the bytes' range and the sizes that the laws ask. -/
namespace Go.Proofs.Ytfkndpjbkndhcaa.Pb
open Go.RowKit Go.Proofs.Ytfkndpjbkndhcaa Go.Proofs.Ytfkndpjbkndhcaa.Q Go.Proofs.YtfkndpjbkndhcaaW.PrintWords Go.Proofs.YtfkndpjbkndhcaaW.PrintLast Go.Proofs.YtfkndpjbkndhcaaW.PrintMore
set_option linter.unusedVariables false
set_option linter.unusedSimpArgs false
theorem specFound_ev (l : List Int) (a b c : Int) (m : List S48) (hb : Bytes l) (hl : l.length ≤ 1048576) (hm : m.length ≤ 1048576) : Ev (fun k => spec_Found.f k l a b c m) ((bs (found l b c m) (most m) : Nat) : Int) := by
  unfold spec_Found.f
  have q := most_le m
  refine ev_eq (loop_up (σ := Nat) (fun k s i => spec_Found.l0 k l (s : Int) i a b c m) (most m) (fun i s => s + (if found l b c m i = true then 2 ^ i else 0)) (fun i s => s = bs (found l b c m) i) 0 ((iter (most m) (fun i s => s + (if found l b c m i = true then 2 ^ i else 0)) 0 : Nat) : Int) rfl (fun i s _ h => by rw [h, bs]) ?_ ?_) ?_
  · rintro i s r hi rfl h
    refine Ev.step (fun k => rfl) ?_
    refine ev_pos (by omega) ?_
    rw [show decide ((i : Int) < 40) = true by simp; omega]
    refine Ev.step (fun k => rfl) ?_
    refine Ev.bind (specPlaceOf_ev l a b c m i hb hl hm) ?_
    rw [w64 (x := (i : Int) + 1) (by omega) (by omega)]
    refine ev_if (fun hp => ?_) (fun hp => ?_)
    · have hf : found l b c m i = true := by simpa [found] using hp
      rw [if_pos hf] at h
      have e : spec_WithPart.f ((bs (found l b c m) i : Nat) : Int) (i : Int) = some ((bs (found l b c m) i + 2 ^ i : Nat) : Int) := by
        unfold spec_WithPart.f
        rw [specSetOk_eq, setOk_bs _ _ (by omega)]
        simp only [Option.bind_some, if_true]
        rw [l1In_eq]
        simp only [Option.bind_some]
        rw [if_pos (by simp; omega), if_pos (by omega), or_bit _ _ (by omega) (bs_lt _ _)]
      exact ev_then e h
    · have hf : ¬ found l b c m i = true := by simpa [found] using hp
      rw [if_neg hf] at h
      exact h
  · intro hs
    have e : ∀ r, Ev (fun k => spec_Found.j1 k l r (most m : Int) false a b c m) r := by
      intro r
      refine Ev.step (fun k => rfl) ?_
      exact ev_some
    refine Ev.step (fun k => rfl) ?_
    refine ev_if (fun h => ?_) (fun h => e _)
    have h40 : most m = 40 ∨ most m = m.length := by unfold most; split <;> omega
    rw [show decide ((most m : Int) < 40) = false from decide_eq_false (by omega)]
    exact e _
  · congr 1
    have : ∀ n, iter n (fun i s => s + (if found l b c m i = true then 2 ^ i else 0)) 0 = bs (found l b c m) n := by
      intro n
      induction n with
      | zero => rfl
      | succ n ih => rw [iter_succ, ih, bs]
    exact this _
theorem specLacking_ev (l : List Int) (a b c : Int) (m : List S48) (hb : Bytes l) (hl : l.length ≤ 1048576) (hm : m.length ≤ 1048576) : Ev (fun k => spec_Lacking.f k l a b c m) (lacking l b c m) := by
  unfold spec_Lacking.f lacking
  have q := most_le m
  have el : spec_Least.f (m.length : Int) 40 = some (most m : Int) := by
    unfold spec_Least.f most
    by_cases h : m.length < 40
    · rw [if_neg (by omega), if_pos h]
    · rw [if_neg h]
      split
      · rfl
      · congr 1; omega
  refine ev_then el (ev_then (specFullSet_eq _) (Ev.bind (specFound_ev l a b c m hb hl hm) (ev_then (specWithout_eq _ _) (ev_eq ev_some ?_))))
  have hp := pow40 (most m) q.1
  have h0 : 0 < 2 ^ most m := Nat.two_pow_pos _
  have ef : fullSet (most m : Int) = ((2 ^ most m - 1 : Nat) : Int) := by
    unfold fullSet
    rw [if_pos (by omega), shl_one _ q.1, w64 (by omega) (by omega)]
    omega
  have hx := bs_lt (found l b c m) (most m)
  have hn := bs_not (found l b c m) (most m)
  unfold without
  rw [ef, if_pos (by unfold setOk; rw [decide_eq_true_eq]; omega), if_pos (setOk_bs _ _ q.1), andNot_mask _ _ q.1 hx]
  omega
end Go.Proofs.Ytfkndpjbkndhcaa.Pb
/- How many bytes a file lacks: the program's way. -/
namespace Go.Proofs.Ytfkndpjbkndhcaa.Pb
open Go.RowKit Go.Proofs.Ytfkndpjbkndhcaa Go.Proofs.Ytfkndpjbkndhcaa.Q Go.Proofs.YtfkndpjbkndhcaaW.PrintWords Go.Proofs.YtfkndpjbkndhcaaW.PrintLast
set_option linter.unusedVariables false
set_option linter.unusedSimpArgs false

def bytesLacking (l : List Int) (b c : Int) (m : List S48) : Int := iter (partsIn (lacking l b c m)).length (fun (i : Nat) (s : Int) => wrap64 (s + (spanOf b c ((partsIn (lacking l b c m)).getD i 0)).2)) 0
theorem partsIn_length (s : Int) : (partsIn s).length ≤ 40 := parts_len s 40
theorem implBytesLacking_ev (l : List Int) (a b c : Int) (m : List S48) (hb : Bytes l) (hl : l.length ≤ 1048576) (hm : m.length ≤ 1048576) : Ev (fun k => impl_BytesLacking.f k l a b c m) (bytesLacking l b c m) := by
  unfold impl_BytesLacking.f bytesLacking
  refine Ev.bind (implLacking_ev l a b c m hb hl hm) (Ev.bind (implPartsIn_ev _) ?_)
  have hp := partsIn_length (lacking l b c m)
  generalize partsIn (lacking l b c m) = q at hp ⊢
  refine loop_up (fun k s i => impl_BytesLacking.l0 k s q (q.length : Int) i a b c m) q.length (fun (i : Nat) (s : Int) => wrap64 (s + (spanOf b c (q.getD i 0)).2)) (fun _ _ => True) 0 _ trivial (fun _ _ _ _ => trivial) ?_ ?_
  · intro i s r hi _ h
    refine Ev.step (fun k => rfl) ?_
    refine ev_pos (by omega) (ev_pos (by omega) (ev_pos (by omega) ?_))
    simp only [rd, Int.toNat_natCast]
    refine ev_then (implSpanOf_eq _ _ _) ?_
    rw [w64 (x := (i : Int) + 1) (by omega) (by omega)]
    exact h
  · intro _
    refine Ev.step (fun k => rfl) ?_
    exact ev_neg (by omega) ev_some
theorem partsIn_zero : partsIn 0 = [] := by
  have key : ∀ n : Nat, iter n (fun (i : Nat) (a : List Int) => if inSet 0 i = true then a ++ [(i : Int)] else a) [] = [] := by
    intro n
    induction n with
    | zero => rfl
    | succ n ih =>
      rw [iter_succ, ih]
      have e : inSet 0 (n : Int) = false := inSet_bit (fun _ => false) 0 n (by omega)
      rw [e, if_neg (by decide)]
  exact key 40
theorem bytesLacking_zero {l : List Int} {b c : Int} {m : List S48} (h : lacking l b c m = 0) : bytesLacking l b c m = 0 := by
  unfold bytesLacking
  rw [h, partsIn_zero]
  rfl
end Go.Proofs.Ytfkndpjbkndhcaa.Pb
/- How many bytes a file lacks: the reference's way. -/
namespace Go.Proofs.Ytfkndpjbkndhcaa.Pb
open Go.RowKit Go.Proofs.Ytfkndpjbkndhcaa Go.Proofs.Ytfkndpjbkndhcaa.Q Go.Proofs.YtfkndpjbkndhcaaW.PrintWords Go.Proofs.YtfkndpjbkndhcaaW.PrintLast
set_option linter.unusedVariables false
set_option linter.unusedSimpArgs false

theorem specBytesLacking_ev (l : List Int) (a b c : Int) (m : List S48) (hb : Bytes l) (hl : l.length ≤ 1048576) (hm : m.length ≤ 1048576) : Ev (fun k => spec_BytesLacking.f k l a b c m) (bytesLacking l b c m) := by
  unfold spec_BytesLacking.f bytesLacking
  refine Ev.bind (specLacking_ev l a b c m hb hl hm) (Ev.bind (specPartsIn_ev _) ?_)
  have hp := partsIn_length (lacking l b c m)
  generalize partsIn (lacking l b c m) = q at hp ⊢
  refine loop_up (fun k s i => spec_BytesLacking.l0 k s q i a b c m) q.length (fun (i : Nat) (s : Int) => wrap64 (s + (spanOf b c (q.getD i 0)).2)) (fun _ _ => True) 0 _ trivial (fun _ _ _ _ => trivial) ?_ ?_
  · intro i s r hi _ h
    refine Ev.step (fun k => rfl) ?_
    refine ev_pos (by omega) (ev_pos (by omega) ?_)
    simp only [rd, Int.toNat_natCast]
    refine ev_then (specSpanOf_eq _ _ _) ?_
    rw [w64 (x := (i : Int) + 1) (by omega) (by omega)]
    exact h
  · intro _
    refine Ev.step (fun k => rfl) ?_
    exact ev_neg (by omega) ev_some
end Go.Proofs.Ytfkndpjbkndhcaa.Pb
/- The reference's draws of numbers out of bytes: they answer, within their bounds. No condition beyond the length that the laws ask. -/
namespace Go.Proofs.Ytfkndpjbkndhcaa.Pb
open Go.RowKit Go.Proofs.Ytfkndpjbkndhcaa Go.Proofs.Ytfkndpjbkndhcaa.Q Go.Proofs.YtfkndpjbkndhcaaW.PrintWords Go.Proofs.YtfkndpjbkndhcaaW.PrintLast
set_option linter.unusedVariables false
set_option linter.unusedSimpArgs false

/-- Where a cursor may stand in its bytes. -/
def Dr (b : List Int) (i : Int) : Prop := b.length ≤ 1048576 ∧ 0 ≤ i ∧ i ≤ (b.length : Int)
theorem l1New_ev (b : List Int) (hb : b.length ≤ 1048576) : ∃ h, Ev (fun k => spec_l1New.f k b) (b, 0, h) := by
  have key : ∀ d (i : Nat) x, i + d = b.length → ∃ h, Ev (fun k => spec_l1New.l0 k b x (i : Int)) (b, 0, h) := by
    intro d
    induction d with
    | zero =>
      intro i x hi
      exact ⟨x, Ev.step (fun k => rfl) (ev_neg (by omega) ev_some)⟩
    | succ d ih =>
      intro i x hi
      by_cases h4 : (i : Int) < 4000
      · obtain ⟨h, hE⟩ := ih (i + 1) (Go.bits .and .i64 (wrap64 ((wrap64 ((wrap64 (x * 137)) + (wrap64 (rd b (i : Int))))) + 11)) 1073741823) (by omega)
        refine ⟨h, Ev.step (fun k => rfl) (ev_pos (by omega) (ev_pos h4 (ev_pos (by omega) ?_)))⟩
        rw [w64 (x := (i : Int) + 1) (by omega) (by omega)]
        exact hE
      · exact ⟨x, Ev.step (fun k => rfl) (ev_pos (by omega) (ev_neg h4 ev_some))⟩
  exact key b.length 0 _ (by simp)
theorem l1Byte_ok {b : List Int} {i : Int} (h : Int) (hd : Dr b i) : ∃ x i' h', spec_l1Byte.f b i h = some (x, i', h') ∧ 0 ≤ x ∧ x ≤ 255 ∧ Dr b i' := by
  obtain ⟨hb, h0, h1⟩ := hd
  unfold spec_l1Byte.f
  by_cases hi : i < (b.length : Int)
  · rw [if_pos hi, if_pos h0]
    refine ⟨_, _, _, rfl, ?_, ?_, hb, ?_, ?_⟩
    · rw [and255]; omega
    · rw [and255]; omega
    · rw [w64 (by omega) (by omega)]; omega
    · rw [w64 (by omega) (by omega)]; omega
  · rw [if_neg hi]
    refine ⟨_, _, _, rfl, ?_, ?_, hb, h0, h1⟩
    · rw [and255]; omega
    · rw [and255]; omega
theorem tmod_bound {x a : Int} (hx : 0 ≤ x) (ha : 0 < a) : 0 ≤ Int.tmod x a ∧ Int.tmod x a < a := by
  rw [Int.tmod_eq_emod_of_nonneg hx]
  exact ⟨Int.emod_nonneg _ (by omega), Int.emod_lt_of_pos _ ha⟩
theorem l1Below_ok {b : List Int} {i : Int} (h a : Int) (hd : Dr b i) : ∃ x i' h', spec_l1Below.f b i h a = some (x, i', h') ∧ Dr b i' ∧ 0 ≤ x ∧ (0 < a → x < a) ∧ (a ≤ 0 → x = 0) := by
  unfold spec_l1Below.f
  by_cases h0 : a ≤ 0
  · rw [if_pos h0]
    exact ⟨0, i, h, rfl, hd, by omega, by omega, fun _ => rfl⟩
  · rw [if_neg h0]
    by_cases h1 : a ≤ 256
    · rw [if_pos h1]
      obtain ⟨x, i', h', e, x0, x1, hd'⟩ := l1Byte_ok h hd
      rw [e]
      simp only [Option.bind_some]
      rw [if_neg (by omega)]
      have := tmod_bound x0 (show 0 < a by omega)
      exact ⟨_, _, _, rfl, hd', this.1, fun _ => this.2, fun hh => absurd hh h0⟩
    · rw [if_neg h1]
      obtain ⟨x, i1, h1', e1, x0, x1, hd1⟩ := l1Byte_ok h hd
      obtain ⟨y, i2, h2', e2, y0, y1, hd2⟩ := l1Byte_ok h1' hd1
      obtain ⟨z, i3, h3', e3, z0, z1, hd3⟩ := l1Byte_ok h2' hd2
      rw [e1]
      simp only [Option.bind_some]
      rw [e2]
      simp only [Option.bind_some]
      rw [e3]
      simp only [Option.bind_some]
      rw [if_neg (by omega)]
      rw [w64 (x := x * 65536) (by omega) (by omega), w64 (x := y * 256) (by omega) (by omega), w64 (x := x * 65536 + y * 256) (by omega) (by omega), w64 (by omega) (by omega)]
      have := tmod_bound (show 0 ≤ x * 65536 + y * 256 + z by omega) (show 0 < a by omega)
      exact ⟨_, _, _, rfl, hd3, this.1, fun _ => this.2, fun hh => absurd hh h0⟩
theorem l1Once_ok {b : List Int} {i : Int} (h a : Int) (hd : Dr b i) : ∃ x i' h', spec_l1Once.f b i h a = some (x, i', h') ∧ Dr b i' := by
  unfold spec_l1Once.f
  obtain ⟨x, i', h', e, hd', _⟩ := l1Below_ok h a hd
  rw [e]
  exact ⟨_, _, _, rfl, hd'⟩
theorem l1Int_ok {b : List Int} {i : Int} (h : Int) (l : List Int) (hd : Dr b i) (hl : 0 < l.length) : ∃ x i' h', spec_l1Int.f b i h l = some (x, i', h') ∧ Dr b i' ∧ x ∈ l := by
  unfold spec_l1Int.f
  obtain ⟨x, i', h', e, hd', x0, x1, _⟩ := l1Below_ok h (l.length : Int) hd
  have x2 := x1 (by omega)
  rw [e]
  simp only [Option.bind_some]
  rw [if_pos x0, if_pos x2]
  refine ⟨_, _, _, rfl, hd', ?_⟩
  unfold rd
  rw [List.getD_eq_getElem?_getD, List.getElem?_eq_getElem (by omega)]
  exact List.getElem_mem _
end Go.Proofs.Ytfkndpjbkndhcaa.Pb
/- The reference's draws of bytes: they answer, and what they answer are bytes, few of them. No condition beyond the length that the laws ask. -/
namespace Go.Proofs.Ytfkndpjbkndhcaa.Pb
open Go.RowKit Go.Proofs.Ytfkndpjbkndhcaa Go.Proofs.Ytfkndpjbkndhcaa.Q Go.Proofs.YtfkndpjbkndhcaaW.PrintWords Go.Proofs.YtfkndpjbkndhcaaW.PrintLast
set_option linter.unusedVariables false
set_option linter.unusedSimpArgs false

theorem bytes_snoc {l : List Int} (h : Bytes l) {x : Int} (hx : 0 ≤ x ∧ x ≤ 255) : Bytes (l ++ [x]) := by
  intro y hy
  rcases List.mem_append.1 hy with q | q
  · exact h y q
  · rw [List.mem_singleton.1 q]; exact hx
theorem bytes_append {l m : List Int} (h : Bytes l) (h' : Bytes m) : Bytes (l ++ m) := fun y hy => (List.mem_append.1 hy).elim (h y) (h' y)
theorem bytes_take {l : List Int} (h : Bytes l) (n : Nat) : Bytes (l.take n) := fun y hy => h y (List.mem_of_mem_take hy)
theorem bytes_drop {l : List Int} (h : Bytes l) (n : Nat) : Bytes (l.drop n) := fun y hy => h y (List.mem_of_mem_drop hy)
theorem bytes_set {l : List Int} (h : Bytes l) (n : Nat) {x : Int} (hx : 0 ≤ x ∧ x ≤ 255) : Bytes (l.set n x) := by
  intro y hy
  rcases List.mem_or_eq_of_mem_set hy with q | q
  · exact h y q
  · rw [q]; exact hx
theorem bytes_nil : Bytes [] := fun y hy => by simp at hy
theorem l3Bytes_ok {b : List Int} {i : Int} (h a : Int) (hd : Dr b i) (ha : 0 ≤ a ∧ a ≤ 100) : ∃ l i' h', Ev (fun k => spec_l3Bytes.f k b i h a) (l, i', h') ∧ Dr b i' ∧ Bytes l ∧ (l.length : Int) ≤ a := by
  have key : ∀ (d : Nat) (out : List Int) (i h : Int), Bytes out → out.length + d ≤ 100 → Dr b i → ∃ l i' h', Ev (fun k => spec_l3Bytes.l0 k out (d : Int) b i h) (l, i', h') ∧ Dr b i' ∧ Bytes l ∧ l.length ≤ out.length + d := by
    intro d
    induction d with
    | zero =>
      intro out i h ho hl hd
      exact ⟨out, i, h, Ev.step (fun k => rfl) (ev_neg (by omega) ev_some), hd, ho, by omega⟩
    | succ d ih =>
      intro out i h ho hl hd
      obtain ⟨x, i', h', e, hd', hx⟩ := l1Int_ok h [97, 98, 99, 0, 255] hd (by decide)
      obtain ⟨l, i2, h2, e2, hd2, hb2, hl2⟩ := ih (out ++ [x % 256]) i' h' (bytes_snoc ho (by omega)) (by rw [List.length_append]; simp; omega) hd'
      refine ⟨l, i2, h2, Ev.step (fun k => rfl) (ev_pos (by omega) (ev_then e (ev_pos (by omega) ?_))), hd2, hb2, by rw [List.length_append] at hl2; simp at hl2; omega⟩
      rw [w64 (by omega) (by omega), show ((d + 1 : Nat) : Int) - 1 = (d : Int) by omega]
      exact e2
  obtain ⟨x, i1, h1, e, hd1, x0, x1, _⟩ := l1Below_ok h (a + 1) hd
  have x1 := x1 (by omega)
  obtain ⟨l, i2, h2, e2, hd2, hb2, hl2⟩ := key x.toNat [] i1 h1 bytes_nil (by simp; omega) hd1
  refine ⟨l, i2, h2, ?_, hd2, hb2, by simp at hl2; omega⟩
  unfold spec_l3Bytes.f
  rw [w64 (by omega) (by omega)]
  refine ev_then e ?_
  rw [show ((x.toNat : Nat) : Int) = x by omega] at e2
  exact e2
end Go.Proofs.Ytfkndpjbkndhcaa.Pb
/- Blocks of an image. No condition beyond the row's length. -/
namespace Go.Proofs.Ytfkndpjbkndhcaa.Pb
open Go.RowKit Go.Proofs.Ytfkndpjbkndhcaa Go.Proofs.Ytfkndpjbkndhcaa.Q Go.Proofs.YtfkndpjbkndhcaaW.PrintWords Go.Proofs.YtfkndpjbkndhcaaW.PrintLast
set_option linter.unusedVariables false
set_option linter.unusedSimpArgs false
theorem specBlockAt_eq (l : List Int) (n i : Int) : spec_BlockAt.f l n i = some (block n l i, !decide ((spanOf n l.length i).2 = 0)) := by
  have r := spanOf_range n l.length i
  have hs := block_in n l i
  have pl := block_length n l i
  unfold spec_BlockAt.f
  rw [specSpanOf_eq]
  simp only [Option.bind_some]
  by_cases h : (spanOf n l.length i).2 = 0
  · rw [if_pos h, block_nil h, decide_eq_true h]; rfl
  · unfold block at pl
    rw [if_neg h, decide_eq_false h, w64 (by omega) (by omega), if_pos (by omega), if_pos (by omega), if_pos (by omega), if_pos (by simp only [List.length_nil]; omega)]
    rfl
end Go.Proofs.Ytfkndpjbkndhcaa.Pb
/- The reference's draws of manifests. No condition beyond the length that the laws ask. -/
namespace Go.Proofs.Ytfkndpjbkndhcaa.Pb
open Go.RowKit Go.Proofs.Ytfkndpjbkndhcaa Go.Proofs.Ytfkndpjbkndhcaa.Q Go.Proofs.YtfkndpjbkndhcaaW.PrintWords Go.Proofs.YtfkndpjbkndhcaaW.PrintLast
set_option linter.unusedVariables false
set_option linter.unusedSimpArgs false

theorem specSums_some (l : List Int) (n : Int) (hb : Bytes l) : ∃ r, Ev (fun k => spec_SumsOf.f k l n) r ∧ r.length ≤ 40 := by
  have hr := blocks_range n l.length
  unfold spec_SumsOf.f
  have key : ∀ (d i : Nat) (s : List S48), (i : Int) + d = blocks n l.length → s.length = i → ∃ r, Ev (fun k => spec_SumsOf.l0 k l n s (i : Int)) r ∧ r.length ≤ 40 := by
    intro d
    induction d with
    | zero =>
      intro i s hi hs
      exact ⟨s, Ev.step (fun k => rfl) (ev_then (specBlocks_eq _ _) (ev_neg (by omega) ev_some)), by omega⟩
    | succ d ih =>
      intro i s hi hs
      obtain ⟨r, e, hl⟩ := ih (i + 1) (s ++ [⟨(sumOf (block n l (i : Int))).1, (sumOf (block n l (i : Int))).2⟩]) (by omega) (by rw [List.length_append, hs]; rfl)
      refine ⟨r, Ev.step (fun k => rfl) (ev_then (specBlocks_eq _ _) (ev_pos (by omega) (ev_then (specBlockAt_eq _ _ _) (Ev.bind (specSumOf_ev _ (fun x hx => hb x (List.mem_of_mem_take (List.mem_of_mem_drop hx)))) (ev_pos (by rw [hs]; omega) ?_))))), hl⟩
      rw [w64 (by omega) (by omega)]
      exact e
  exact key (blocks n l.length).toNat 0 [] (by omega) rfl
theorem specMan_some (a : Int) (l : List Int) (n : Int) (hb : Bytes l) : ∃ g s c r, Ev (fun k => spec_ManOf.f k a l n) (g, s, c, r) ∧ r.length ≤ 40 := by
  obtain ⟨r, e, hl⟩ := specSums_some l n hb
  unfold spec_ManOf.f
  by_cases h1 : 1 ≤ a ∧ a ≤ 1000000
  · by_cases h2 : sizeOk n l.length = true
    · exact ⟨a, n, l.length, r, ev_then (l1In_eq _ _ _) (ev_pos (by simpa using h1) (ev_then (specSizeOk_eq _ _) (ev_pos h2 (Ev.bind e ev_some)))), hl⟩
    · exact ⟨0, 0, 0, [], ev_then (l1In_eq _ _ _) (ev_pos (by simpa using h1) (ev_then (specSizeOk_eq _ _) (ev_neg h2 ev_some))), by simp⟩
  · exact ⟨0, 0, 0, [], ev_then (l1In_eq _ _ _) (ev_neg (by simpa using h1) ev_some), by simp⟩
theorem l6Draw_ok {b : List Int} {i : Int} (h : Int) (hd : Dr b i) : ∃ g s c r l i' h', Ev (fun k => spec_l6Draw.f k b i h) (g, s, c, r, l, i', h') ∧ Dr b i' ∧ Bytes l ∧ l.length ≤ 16 ∧ r.length ≤ 40 := by
  obtain ⟨l, i1, h1, e1, d1, b1, n1⟩ := l3Bytes_ok h 16 hd (by omega)
  obtain ⟨x, i2, h2, e2, d2, x0, x1, _⟩ := l1Below_ok h1 5 d1
  obtain ⟨y, i3, h3, e3, d3, y0, y1, _⟩ := l1Below_ok h2 5 d2
  obtain ⟨g, s, c, r, e4, hr⟩ := specMan_some (wrap64 (1 + x)) l (wrap64 (2 + y)) b1
  unfold spec_l6Draw.f
  exact ⟨g, s, c, r, l, i3, h3, Ev.bind (show Ev (fun k => spec_l6Image.f k b i h) (l, i1, h1) from Ev.bind e1 ev_some) (ev_then e2 (ev_then e3 (Ev.bind e4 ev_some))), d3, b1, by omega, hr⟩
theorem l6Any_ok {b : List Int} {i : Int} (h : Int) (hd : Dr b i) : ∃ g s c r i' h', Ev (fun k => spec_l6Any.f k b i h) (g, s, c, r, i', h') ∧ Dr b i' ∧ r.length ≤ 41 := by
  obtain ⟨g, s, c, r, l, i1, h1, e1, d1, b1, n1, hr⟩ := l6Draw_ok h hd
  obtain ⟨x, i2, h2, e2, d2, x0, x1, _⟩ := l1Below_ok h1 10 d1
  unfold spec_l6Any.f
  by_cases c0 : x = 0
  · obtain ⟨y, i3, h3, e3, d3, _⟩ := l1Int_ok h2 [0, (-1), 1000000, 1000001] d2 (by decide)
    exact ⟨y, s, c, r, i3, h3, Ev.bind e1 (ev_then e2 (ev_pos c0 (ev_then e3 ev_some))), d3, by omega⟩
  by_cases c1 : x = 1
  · obtain ⟨y, i3, h3, e3, d3, _⟩ := l1Int_ok h2 [0, 1, 7] d2 (by decide)
    exact ⟨g, y, c, r, i3, h3, Ev.bind e1 (ev_then e2 (ev_neg c0 (ev_pos c1 (ev_then e3 ev_some)))), d3, by omega⟩
  by_cases c2 : x = 2
  · exact ⟨g, s, wrap64 (c + 1), r, i2, h2, Ev.bind e1 (ev_then e2 (ev_neg c0 (ev_neg c1 (ev_pos c2 ev_some)))), d2, by omega⟩
  by_cases c3 : x = 3
  · exact ⟨g, s, c, r ++ [⟨1, 257⟩], i2, h2, Ev.bind e1 (ev_then e2 (ev_neg c0 (ev_neg c1 (ev_neg c2 (ev_pos c3 (ev_pos (show r.length < 8796093022208 by omega) ev_some)))))), d2, by rw [List.length_append]; simp; omega⟩
  by_cases c4 : x = 4
  · by_cases c5 : (r.length : Int) > 0
    · exact ⟨g, s, c, _, i2, h2, Ev.bind e1 (ev_then e2 (ev_neg c0 (ev_neg c1 (ev_neg c2 (ev_neg c3 (ev_pos c4 (ev_pos c5 (ev_pos (show (0 : Int) < r.length by omega) ev_some)))))))), d2, by rw [List.length_set]; dsimp only; omega⟩
    · exact ⟨g, s, c, r, i2, h2, Ev.bind e1 (ev_then e2 (ev_neg c0 (ev_neg c1 (ev_neg c2 (ev_neg c3 (ev_pos c4 (ev_neg c5 ev_some))))))), d2, by omega⟩
  · exact ⟨g, s, c, r, i2, h2, Ev.bind e1 (ev_then e2 (ev_neg c0 (ev_neg c1 (ev_neg c2 (ev_neg c3 (ev_neg c4 ev_some)))))), d2, by omega⟩
end Go.Proofs.Ytfkndpjbkndhcaa.Pb
/- The reference's draws of images. No condition beyond the length that the laws ask. -/
namespace Go.Proofs.Ytfkndpjbkndhcaa.Pb
open Go.RowKit Go.Proofs.Ytfkndpjbkndhcaa Go.Proofs.Ytfkndpjbkndhcaa.Q Go.Proofs.YtfkndpjbkndhcaaW.PrintWords Go.Proofs.YtfkndpjbkndhcaaW.PrintLast
set_option linter.unusedVariables false
set_option linter.unusedSimpArgs false

theorem u8_range (x : Int) : 0 ≤ IntKind.u8.wrap x ∧ IntKind.u8.wrap x ≤ 255 := by
  unfold IntKind.wrap
  simp [IntKind.signed, IntKind.bits]
  omega
theorem l1Bent_ok {b : List Int} {i : Int} (h : Int) (l : List Int) (hd : Dr b i) (hb : Bytes l) (hl : l.length ≤ 1000) : ∃ l' i' h', spec_l1Bent.f b i h l = some (l', i', h') ∧ Dr b i' ∧ Bytes l' ∧ l'.length ≤ l.length + 1 := by
  unfold spec_l1Bent.f
  simp only [Option.bind_some, List.length_nil, List.nil_append]
  rw [if_pos (by omega)]
  obtain ⟨x, i1, h1, e1, hd1, x0, x1, _⟩ := l1Below_ok h 6 hd
  rw [e1]
  simp only [Option.bind_some]
  by_cases c0 : x = 0
  · rw [if_pos c0]
    by_cases c : (l.length : Int) > 0
    · rw [if_pos c]
      obtain ⟨y, i2, h2, e2, hd2, y0, y1, _⟩ := l1Below_ok h1 (l.length : Int) hd1
      obtain ⟨z, i3, h3, e3, hd3, z0, z1, _⟩ := l1Below_ok h2 256 hd2
      have y1 := y1 c
      rw [e2]
      simp only [Option.bind_some]
      rw [e3]
      simp only [Option.bind_some]
      rw [if_pos y0, if_pos y1]
      exact ⟨_, _, _, rfl, hd3, bytes_set hb _ (by omega), by rw [List.length_set]; omega⟩
    · rw [if_neg c]
      exact ⟨_, _, _, rfl, hd1, hb, by omega⟩
  rw [if_neg c0]
  by_cases c1 : x = 1
  · rw [if_pos c1]
    obtain ⟨y, i2, h2, e2, hd2, y0, y1, _⟩ := l1Below_ok h1 ((l.length : Int) + 1) hd1
    have y1 := y1 (by omega)
    rw [w64 (by omega) (by omega), e2]
    simp only [Option.bind_some]
    rw [if_pos y0, if_pos (by omega)]
    exact ⟨_, _, _, rfl, hd2, bytes_take hb _, by rw [List.length_take]; omega⟩
  rw [if_neg c1]
  by_cases c2 : x = 2
  · rw [if_pos c2]
    obtain ⟨y, i2, h2, e2, hd2, hy⟩ := l1Int_ok h1 [0, 1, 128, 255] hd1 (by decide)
    rw [e2]
    simp only [Option.bind_some]
    rw [if_pos (by omega)]
    exact ⟨_, _, _, rfl, hd2, bytes_snoc hb (by omega), by simp⟩
  rw [if_neg c2]
  by_cases c3 : x = 3
  · rw [if_pos c3]
    by_cases c : (l.length : Int) > 0
    · rw [if_pos c]
      obtain ⟨y, i2, h2, e2, hd2, y0, y1, _⟩ := l1Below_ok h1 (l.length : Int) hd1
      obtain ⟨z, i3, h3, e3, hd3, z0, z1, _⟩ := l1Below_ok h2 8 hd2
      have y1 := y1 c
      rw [e2]
      simp only [Option.bind_some]
      rw [if_pos y0, if_pos y1, e3]
      simp only [Option.bind_some]
      rw [if_pos z0]
      exact ⟨_, _, _, rfl, hd3, bytes_set hb _ (u8_range _), by rw [List.length_set]; omega⟩
    · rw [if_neg c]
      exact ⟨_, _, _, rfl, hd1, hb, by omega⟩
  rw [if_neg c3]
  exact ⟨_, _, _, rfl, hd1, hb, by omega⟩
theorem l7Old_ok {b : List Int} {i : Int} (h : Int) (l : List Int) (hd : Dr b i) (hb : Bytes l) (hl : l.length ≤ 100) : ∃ l' i' h', Ev (fun k => spec_l7Old.f k b i h l) (l', i', h') ∧ Dr b i' ∧ Bytes l' ∧ l'.length ≤ 300 := by
  unfold spec_l7Old.f
  obtain ⟨x, i1, h1, e1, hd1, x0, x1, _⟩ := l1Below_ok h 5 hd
  by_cases c0 : x = 0
  · obtain ⟨l2, i2, h2, e2, hd2, hb2, hl2⟩ := l3Bytes_ok h1 16 hd1 (by omega)
    exact ⟨l2, i2, h2, ev_then e1 (ev_pos c0 (Ev.bind e2 ev_some)), hd2, hb2, by omega⟩
  by_cases c1 : x = 1
  · exact ⟨_, _, _, ev_then e1 (ev_neg c0 (ev_pos c1 (Ev.bind ev_some (ev_pos (by simp; omega) ev_some)))), hd1, by simpa using hb, by simp; omega⟩
  by_cases c2 : x = 2
  · obtain ⟨y, i2, h2, e2, hd2, y0, y1, _⟩ := l1Below_ok h1 ((l.length : Int) + 1) hd1
    have y1 := y1 (by omega)
    refine ⟨_, _, _, ev_then e1 (ev_neg c0 (ev_neg c1 (ev_pos c2 (ev_then (by rw [w64 (by omega) (by omega)]; exact e2) (Ev.bind ev_some (ev_pos y0 (ev_pos (show y ≤ (l.length : Int) by omega) (ev_pos (show ([120] : List Int).length + (l.drop y.toNat).length < 140737488355328 by simp; omega) (Ev.bind ev_some (ev_pos (show ([120] ++ l.drop y.toNat).length + (l.take y.toNat).length < 140737488355328 by simp; omega) ev_some)))))))))), hd2, ?_, by simp; omega⟩
    refine bytes_append (bytes_append ?_ (bytes_drop hb _)) (bytes_take hb _)
    intro z hz
    rw [List.mem_singleton.1 hz]
    omega
  by_cases c3 : x = 3
  · exact ⟨_, _, _, ev_then e1 (ev_neg c0 (ev_neg c1 (ev_neg c2 (ev_pos c3 ev_some)))), hd1, bytes_nil, by simp⟩
  obtain ⟨l2, i2, h2, e2, hd2, hb2, hl2⟩ := l3Bytes_ok h1 3 hd1 (by omega)
  obtain ⟨l3, i3, h3, e3, hd3, hb3, hl3⟩ := l1Bent_ok h2 l hd2 hb (by omega)
  exact ⟨_, _, _, ev_then e1 (ev_neg c0 (ev_neg c1 (ev_neg c2 (ev_neg c3 (Ev.bind e2 (ev_then e3 (ev_pos (show l2.length + l3.length < 140737488355328 by omega) ev_some))))))), hd3, bytes_append hb2 hb3, by rw [List.length_append]; show l2.length + l3.length ≤ 300; omega⟩
theorem l6Image_ok {b : List Int} {i : Int} (h : Int) (hd : Dr b i) : ∃ l i' h', Ev (fun k => spec_l6Image.f k b i h) (l, i', h') ∧ Dr b i' ∧ Bytes l ∧ l.length ≤ 16 := by
  obtain ⟨l, i2, h2, e2, hd2, hb2, hl2⟩ := l3Bytes_ok h 16 hd (by omega)
  unfold spec_l6Image.f
  exact ⟨l, i2, h2, Ev.bind e2 ev_some, hd2, hb2, by omega⟩
theorem drawOld_ok (code : List Int) (hc : code.length ≤ 1048576) : ∃ old b s, Ev (fun k => spec_DrawOld.f k code) (old, b, s) ∧ Bytes old ∧ old.length ≤ 300 ∧ Bytes b ∧ b.length ≤ 16 ∧ 2 ≤ s ∧ s ≤ 6 := by
  obtain ⟨h, e0⟩ := l1New_ev code hc
  have d0 : Dr code 0 := ⟨hc, by omega, by omega⟩
  obtain ⟨l, i1, h1, e1, d1, b1, n1⟩ := l6Image_ok h d0
  obtain ⟨l2, i2, h2, e2, d2, b2, n2⟩ := l7Old_ok h1 l d1 b1 (by omega)
  obtain ⟨x, i3, h3, e3, d3, x0, x1, _⟩ := l1Below_ok h2 5 d2
  have x1 := x1 (by omega)
  unfold spec_DrawOld.f
  refine ⟨l2, l, 2 + x, Ev.bind e0 (Ev.bind e1 (Ev.bind e2 (ev_then e3 (ev_eq ev_some ?_)))), b2, n2, b1, n1, by omega, by omega⟩
  rw [w64 (by omega) (by omega)]
end Go.Proofs.Ytfkndpjbkndhcaa.Pb
/- The reference's draws for scans. No condition beyond the length that the laws ask. -/
namespace Go.Proofs.Ytfkndpjbkndhcaa.Pb
open Go.RowKit Go.Proofs.Ytfkndpjbkndhcaa Go.Proofs.Ytfkndpjbkndhcaa.Q Go.Proofs.YtfkndpjbkndhcaaW.PrintWords Go.Proofs.YtfkndpjbkndhcaaW.PrintLast
set_option linter.unusedVariables false
set_option linter.unusedSimpArgs false

theorem drawFound_ok (code : List Int) (hc : code.length ≤ 1048576) : ∃ old g s c r, Ev (fun k => spec_DrawFound.f k code) (old, g, s, c, r) ∧ Bytes old ∧ old.length ≤ 300 ∧ r.length ≤ 41 := by
  obtain ⟨h, e0⟩ := l1New_ev code hc
  have d0 : Dr code 0 := ⟨hc, by omega, by omega⟩
  obtain ⟨g, s, c, r, b, i1, h1, e1, d1, b1, n1, r1⟩ := l6Draw_ok h d0
  obtain ⟨old, i2, h2, e2, d2, b2, n2⟩ := l7Old_ok h1 b d1 b1 (by omega)
  obtain ⟨x, i3, h3, e3, d3⟩ := l1Once_ok h2 10 d2
  unfold spec_DrawFound.f spec_l7Two.f
  cases hx : x with
  | true =>
    subst hx
    obtain ⟨g2, s2, c2, r2, i4, h4, e4, d4, n4⟩ := l6Any_ok h3 d3
    exact ⟨old, g2, s2, c2, r2, Ev.bind (Ev.bind e0 (Ev.bind e1 (Ev.bind e2 (ev_then e3 (ev_pos rfl (Ev.bind e4 ev_some)))))) ev_some, b2, n2, n4⟩
  | false =>
    subst hx
    exact ⟨old, g, s, c, r, Ev.bind (Ev.bind e0 (Ev.bind e1 (Ev.bind e2 (ev_then e3 (ev_neg (show ¬ (false = true) by decide) ev_some))))) ev_some, b2, n2, by omega⟩
theorem drawPlaceOf_ok (code : List Int) (hc : code.length ≤ 1048576) : ∃ old g s c r i, Ev (fun k => spec_DrawPlaceOf.f k code) (old, g, s, c, r, i) ∧ Bytes old ∧ old.length ≤ 300 ∧ r.length ≤ 41 := by
  obtain ⟨h, e0⟩ := l1New_ev code hc
  have d0 : Dr code 0 := ⟨hc, by omega, by omega⟩
  obtain ⟨g, s, c, r, b, i1, h1, e1, d1, b1, n1, r1⟩ := l6Draw_ok h d0
  obtain ⟨old, i2, h2, e2, d2, b2, n2⟩ := l7Old_ok h1 b d1 b1 (by omega)
  obtain ⟨x, i3, h3, e3, d3, _⟩ := l1Below_ok h2 9 d2
  unfold spec_DrawPlaceOf.f
  exact ⟨old, g, s, c, r, _, Ev.bind e0 (Ev.bind e1 (Ev.bind e2 (ev_then e3 ev_some))), b2, n2, by omega⟩
theorem drawFindSum_ok (code : List Int) (hc : code.length ≤ 1048576) : ∃ old x y n, Ev (fun k => spec_DrawFindSum.f k code) (old, x, y, n) ∧ Bytes old ∧ old.length ≤ 300 := by
  obtain ⟨h, e0⟩ := l1New_ev code hc
  have d0 : Dr code 0 := ⟨hc, by omega, by omega⟩
  obtain ⟨g, s, c, r, b, i1, h1, e1, d1, b1, n1, r1⟩ := l6Draw_ok h d0
  obtain ⟨old, i2, h2, e2, d2, b2, n2⟩ := l7Old_ok h1 b d1 b1 (by omega)
  obtain ⟨n, i3, h3, e3, d3, _⟩ := l1Int_ok h2 [2, 3, 4, 0, 7] d2 (by decide)
  unfold spec_DrawFindSum.f
  have other : ∀ i h, Dr code i → ∃ x y, Ev (fun k => spec_DrawFindSum.j0 k old n false code i h g s c r) (old, x, y, n) := by
    intro i h d
    obtain ⟨l, i5, h5, e5, d5, b5, n5⟩ := l3Bytes_ok h 4 d (by omega)
    exact ⟨_, _, Ev.step (fun k => rfl) (ev_neg (c := false = true) (f := fun k => (spec_l1Below.f code i h (r.length : Int)).bind fun bt645 => ((spec_SpanOf.f s c bt645.1).bind fun bt648 => (if 0 ≤ bt645.1 then (if bt645.1 < (r.length : Int) then (some (old, (rd_T48 r bt645.1).f0, (rd_T48 r bt645.1).f1, bt648.2)) else (none)) else (none)))) (by decide) (Ev.bind e5 (Ev.bind (specSumOf_ev l b5) ev_some)))⟩
  by_cases hl : (r.length : Int) > 0
  · obtain ⟨z, i4, h4, e4, d4⟩ := l1Once_ok h3 4 d3
    cases hz : z with
    | true =>
      subst hz
      obtain ⟨x, y, e5⟩ := other i4 h4 d4
      exact ⟨old, x, y, n, Ev.bind e0 (Ev.bind e1 (Ev.bind e2 (ev_then e3 (ev_pos hl (ev_then e4 e5))))), b2, n2⟩
    | false =>
      subst hz
      obtain ⟨q, i5, h5, e5, d5, q0, q1, _⟩ := l1Below_ok h4 (r.length : Int) d4
      have q1 := q1 hl
      exact ⟨old, _, _, _, Ev.bind e0 (Ev.bind e1 (Ev.bind e2 (ev_then e3 (ev_pos hl (ev_then e4 (Ev.step (fun k => rfl) (ev_pos (c := (!false) = true) (g := fun k => (spec_l3Bytes.f k code i4 h4 4).bind fun bt651 => ((spec_SumOf.f k bt651.1).bind fun bt656 => (some (old, bt656.1, bt656.2, n)))) (by decide) (ev_then e5 (ev_then (specSpanOf_eq _ _ _) (ev_pos q0 (ev_pos q1 ev_some))))))))))), b2, n2⟩
  · obtain ⟨x, y, e5⟩ := other i3 h3 d3
    exact ⟨old, x, y, n, Ev.bind e0 (Ev.bind e1 (Ev.bind e2 (ev_then e3 (ev_neg hl e5)))), b2, n2⟩
end Go.Proofs.Ytfkndpjbkndhcaa.Pb
namespace Go.Proofs.Ytfkndpjbkndhcaa.Pure
open Go.RowKit Go.Proofs.Ytfkndpjbkndhcaa Go.Proofs.Ytfkndpjbkndhcaa.Q Go.Proofs.Ytfkndpjbkndhcaa.Pb Go.Proofs.YtfkndpjbkndhcaaW.PrintWords Go.Proofs.YtfkndpjbkndhcaaW.PrintLast
set_option linter.unusedVariables false
set_option linter.unusedSimpArgs false

theorem same_ev (a b : List Int) (ha : a.length ≤ 1048576) : Ev (fun k => laws_same.f k a b) (decide (a = b)) := by
  unfold laws_same.f
  by_cases h : (a.length : Int) = (b.length : Int)
  · refine ev_pos h ?_
    rw [← all_range_eq a b 0 (by omega)]
    refine loop_all (fun k i => laws_same.l0 k a b i) a.length (fun i => decide (a.getD i 0 = b.getD i 0)) ?_ ?_ ?_
    · intro i r hi hp hr
      refine Ev.step (fun k => rfl) (ev_pos (by omega) (ev_pos (by omega) (ev_pos (by omega) (ev_pos (by simp only [rd, Int.toNat_natCast]; exact of_decide_eq_true hp) ?_))))
      rw [w64 (by omega) (by omega)]
      exact hr
    · intro i hi hp
      exact Ev.step (fun k => rfl) (ev_pos (by omega) (ev_pos (by omega) (ev_pos (by omega) (ev_neg (by simp only [rd, Int.toNat_natCast]; exact of_decide_eq_false hp) ev_some))))
    · exact Ev.step (fun k => rfl) (ev_neg (by omega) ev_some)
  · exact ev_eq (ev_neg h ev_some) (decide_eq_false (fun e => h (by rw [e]))).symm
theorem sameInts_refl (a : List Int) (ha : a.length ≤ 1048576) : Ev (fun k => laws_sameInts.f k a a) true := by
  unfold laws_sameInts.f
  refine ev_pos rfl ?_
  refine ev_eq (loop_all (fun k i => laws_sameInts.l0 k a a i) a.length (fun _ => true) ?_ ?_ ?_) (by simp)
  · intro i r hi _ h
    refine Ev.step (fun k => rfl) (ev_pos (by omega) (ev_pos (by omega) (ev_pos (by omega) (ev_pos rfl ?_))))
    rw [w64 (by omega) (by omega)]
    exact h
  · intro i hi h
    cases h
  · exact Ev.step (fun k => rfl) (ev_neg (by omega) ev_some)
def places (x : List Int) (b c : Int) (l : List S48) : List Int := (List.range l.length).map (fun i : Nat => placeOf x b c l (i : Int))
theorem iter_push (f : Nat → Int) (n : Nat) : iter n (fun i s => s ++ [f i]) [] = (List.range n).map f := by
  induction n with
  | zero => rfl
  | succ n ih => rw [iter_succ, ih, List.range_succ, List.map_append]; rfl
theorem implPlaces_ev (x : List Int) (a b c : Int) (l : List S48) (hb : Bytes x) (hx : x.length ≤ 1048576) (hl : l.length ≤ 1048576) : Ev (fun k => impl_Places.f k x a b c l) (places x b c l) := by
  unfold impl_Places.f places
  rw [← iter_push]
  refine loop_up (σ := List Int) (fun k s i => impl_Places.l0 k x s (l.length : Int) i a b c l) l.length (fun i s => s ++ [placeOf x b c l (i : Int)]) (fun i s => s.length = i) [] _ rfl (fun i s _ hs => by rw [List.length_append, hs]; rfl) ?_ ?_
  · intro i s r hi hs hr
    refine Ev.step (fun k => rfl) (ev_pos (by omega) (Ev.bind (implPlaceOf_ev x a b c l (i : Int) hb hx hl) (ev_pos (by omega) ?_)))
    rw [w64 (by omega) (by omega)]
    exact hr
  · intro _
    exact Ev.step (fun k => rfl) (ev_neg (by omega) ev_some)
theorem specPlaces_ev (x : List Int) (a b c : Int) (l : List S48) (hb : Bytes x) (hx : x.length ≤ 1048576) (hl : l.length ≤ 1048576) : Ev (fun k => spec_Places.f k x a b c l) (places x b c l) := by
  unfold spec_Places.f places
  rw [← iter_push]
  refine loop_up (σ := List Int) (fun k s i => spec_Places.l0 k x s i a b c l) l.length (fun i s => s ++ [placeOf x b c l (i : Int)]) (fun i s => s.length = i) [] _ rfl (fun i s _ hs => by rw [List.length_append, hs]; rfl) ?_ ?_
  · intro i s r hi hs hr
    refine Ev.step (fun k => rfl) (ev_pos (by omega) (Ev.bind (specPlaceOf_ev x a b c l (i : Int) hb hx hl) (ev_pos (by omega) ?_)))
    rw [w64 (by omega) (by omega)]
    exact hr
  · intro _
    exact Ev.step (fun k => rfl) (ev_neg (by omega) ev_some)
theorem places_rd (x : List Int) (b c : Int) (l : List S48) (i : Nat) (hi : i < l.length) : rd (places x b c l) (i : Int) = placeOf x b c l (i : Int) := by
  unfold places
  rw [rd, Int.toNat_natCast, List.getD_eq_getElem?_getD, List.getElem?_map, List.getElem?_range hi]
  rfl
theorem placeOf_min {g s : Int} {b : List Int} (I : Img g s b) {x : List Int} (i : Nat) (hi : i < (sumsOf s b).length) (j : Nat) (hj : (j : Int) + (spanOf s b.length (i : Int)).2 ≤ x.length) (hw : win x (spanOf s b.length (i : Int)).2.toNat j = block s b (i : Int)) : 0 ≤ placeOf x s b.length (sumsOf s b) (i : Int) ∧ placeOf x s b.length (sumsOf s b) (i : Int) ≤ j := by
  have h := of_decide_eq_true (I.finds hi j hj hw)
  refine ⟨h, ?_⟩
  unfold placeOf at h ⊢
  rw [if_pos (by omega), Int.toNat_natCast] at h ⊢
  refine Classical.byContradiction (fun q => ?_)
  refine (findSum_some h).2.2.2 j (by omega) ?_
  rw [hw, sumsOf_get s b i hi]
theorem scans_inner {s : Int} {b x : List Int} (I : Img 1 s b) (hb : Bytes x) (h300 : x.length ≤ 300) (i : Nat) (hi : i < (sumsOf s b).length)
    (hn : Ev (fun k => laws_FnScans.l0 k x b s (places x s b.length (sumsOf s b)) ((i : Int) + 1) 1 s b.length (sumsOf s b)) true) : ∀ (d j : Nat), j + d = x.length + 1 →
    Ev (fun k => laws_FnScans.l1 k x b s (places x s b.length (sumsOf s b)) (i : Int) (block s b (i : Int)) (j : Int) 1 s b.length (sumsOf s b)) true := by
  have n40 := I.n40
  have h16 := I.h16
  have bl := block_len (n := s) (l := b) (i := (i : Int))
  have sp := I.span_pos hi
  have hpl : (places x s b.length (sumsOf s b)).length = (sumsOf s b).length := by simp [places]
  have hend : ∀ j : Nat, ¬ (j : Int) + (block s b (i : Int)).length ≤ (x.length : Int) → j ≤ x.length + 1 → Ev (fun k => laws_FnScans.l1 k x b s (places x s b.length (sumsOf s b)) (i : Int) (block s b (i : Int)) (j : Int) 1 s b.length (sumsOf s b)) true := by
    intro j hj hj2
    refine Ev.step (fun k => rfl) (ev_neg (by rw [w64 (by omega) (by omega)]; exact hj) (ev_pos (by omega) (ev_pos (by omega) ?_)))
    have fe := implFound_ev x 1 s b.length (sumsOf s b) hb (by omega) (by omega)
    rw [I.most] at fe
    rw [places_rd _ _ _ _ i hi]
    have ins : impl_InSet.f ((bs (found x s b.length (sumsOf s b)) (sumsOf s b).length : Nat) : Int) (i : Int) = some (decide (placeOf x s b.length (sumsOf s b) (i : Int) ≥ 0)) := by
      rw [implInSet_eq, inSet_bit _ _ _ n40, decide_eq_true hi]
      rfl
    have nx : Ev (fun k => laws_FnScans.l0 k x b s (places x s b.length (sumsOf s b)) (wrap64 ((i : Int) + 1)) 1 s b.length (sumsOf s b)) true := by
      rw [w64 (by omega) (by omega)]
      exact hn
    by_cases hp : placeOf x s b.length (sumsOf s b) (i : Int) ≥ 0
    · have p := placeOf_some I.man hb hi hp
      have q := (sumIs_block I.hg I.size I.hb hi p.2.2.1).1 p.2.2.2
      refine ev_pos hp (ev_pos hp ?_)
      rw [w64 (by omega) (by omega)]
      refine ev_pos (by omega) (ev_pos (by omega) ?_)
      have e : (x.take (placeOf x s b.length (sumsOf s b) (i : Int) + (block s b (i : Int)).length).toNat).drop (placeOf x s b.length (sumsOf s b) (i : Int)).toNat = block s b (i : Int) := by
        rw [bl.1, ← q]
        unfold win
        rw [show (placeOf x s b.length (sumsOf s b) (i : Int) + (spanOf s b.length (i : Int)).2).toNat = (placeOf x s b.length (sumsOf s b) (i : Int)).toNat + (spanOf s b.length (i : Int)).2.toNat by omega]
      rw [e]
      refine Ev.bind (same_refl _ (by omega)) (ev_pos rfl (Ev.bind fe (ev_then ins (ev_neg (by simp) nx))))
    · exact ev_neg hp (Ev.bind fe (ev_then ins (ev_neg (by simp) nx)))
  intro d
  induction d with
  | zero =>
    intro j hj
    exact hend j (by omega) (by omega)
  | succ d ih =>
    intro j hj
    by_cases hc : (j : Int) + (block s b (i : Int)).length ≤ (x.length : Int)
    · have nx := ih (j + 1) (by omega)
      refine Ev.step (fun k => rfl) (ev_pos (by rw [w64 (by omega) (by omega)]; exact hc) (ev_pos (by omega) ?_))
      rw [w64 (x := (j : Int) + ((block s b (i : Int)).length : Int)) (by omega) (by omega), w64 (x := (j : Int) + 1) (by omega) (by omega)]
      refine ev_pos (by omega) ?_
      have ew : (x.take ((j : Int) + ((block s b (i : Int)).length : Int)).toNat).drop (j : Int).toNat = win x (spanOf s b.length (i : Int)).2.toNat j := by
        unfold win
        rw [show ((j : Int) + ((block s b (i : Int)).length : Int)).toNat = j + (spanOf s b.length (i : Int)).2.toNat by omega, Int.toNat_natCast]
      rw [ew]
      have wl : (win x (spanOf s b.length (i : Int)).2.toNat j).length ≤ 1048576 := by unfold win; rw [List.length_drop, List.length_take]; omega
      refine Ev.bind (same_ev _ _ wl) (ev_if (fun he => ?_) (fun he => nx))
      have he := of_decide_eq_true he
      have pm := placeOf_min I i hi j (by omega) he
      refine ev_pos (by omega) (ev_pos (by omega) ?_)
      rw [places_rd _ _ _ _ i hi]
      exact ev_neg (by omega) (ev_neg (by omega) nx)
    · exact hend j hc (by omega)
theorem scans_loop {s : Int} {b x : List Int} (I : Img 1 s b) (hb : Bytes x) (h300 : x.length ≤ 300) : ∀ (d i : Nat), i + d = (sumsOf s b).length →
    Ev (fun k => laws_FnScans.l0 k x b s (places x s b.length (sumsOf s b)) (i : Int) 1 s b.length (sumsOf s b)) true := by
  have n40 := I.n40
  have h16 := I.h16
  have hpl : (places x s b.length (sumsOf s b)).length = (sumsOf s b).length := by simp [places]
  intro d
  induction d with
  | zero =>
    intro i hi
    have fe := implFound_ev x 1 s b.length (sumsOf s b) hb (by omega) (by omega)
    have le := implLacking_ev x 1 s b.length (sumsOf s b) hb (by omega) (by omega)
    have lb := implLacking_ev b 1 s b.length (sumsOf s b) I.hb (by omega) (by omega)
    rw [I.most] at fe
    rw [I.lacking] at le
    rw [I.lacking_none (x := b) (fun i hi => by have := I.finds_behind [] hi; rwa [List.nil_append] at this)] at lb
    have u : impl_Union.f ((bs (found x s b.length (sumsOf s b)) (sumsOf s b).length : Nat) : Int) ((bs (fun i => !atPlace x s b.length (sumsOf s b) i) (sumsOf s b).length : Nat) : Int) = some ((2 ^ (sumsOf s b).length - 1 : Nat) : Int) := by
      rw [implUnion_eq]
      exact congrArg some (union_not (atPlace x s b.length (sumsOf s b)) _ n40)
    have ap : impl_AllParts.f 1 s b.length (sumsOf s b) = some ((2 ^ (sumsOf s b).length - 1 : Nat) : Int) := by
      unfold impl_AllParts.f
      rw [implFullSet_eq, fullSet_eq _ n40]
      rfl
    exact Ev.step (fun k => rfl) (ev_neg (by omega) (Ev.bind fe (Ev.bind le (ev_then u (ev_then ap (ev_pos rfl (Ev.bind lb ev_some)))))))
  | succ d ih =>
    intro i hi
    refine Ev.step (fun k => rfl) (ev_pos (by omega) (ev_then (implBlockAt_eq _ _ _ (by omega)) ?_))
    exact scans_inner I hb h300 i (by omega) (ih (i + 1) (by omega)) (x.length + 1) 0 (by omega)
theorem FnScans : ∀ (x0 : List Int), (Opn.Each (fun n : Int => (Lit.int .u8 n).wf = true)) x0 → ∃ k, laws_FnScans.f k x0 = some true := by
  intro x0 g0
  refine Ev.rounds ?_
  unfold laws_FnScans.f
  refine ev_then (show laws_big.f x0 = some (decide ((x0.length : Int) > 1048576)) from rfl) ?_
  refine ev_bool (fun _ => ev_some) (fun hb => ?_)
  have hx : x0.length ≤ 1048576 := by have := of_decide_eq_false hb; omega
  obtain ⟨old, b, s, e0, ho, h300, hb, h16, hs⟩ := drawOld_ok x0 hx
  have I : Img 1 s b := ⟨by omega, by omega, hb, h16⟩
  have n40 := I.n40
  obtain ⟨f, s0, s1, n, e1, bf, lf⟩ := drawFindSum_ok x0 hx
  obtain ⟨o, qg, qs, qc, qr, e2, bo, lo, lq⟩ := drawFound_ok x0 hx
  obtain ⟨p, rg, rs, rc, rr, k0, e3, bp, lp, lr⟩ := drawPlaceOf_ok x0 hx
  refine Ev.bind e0 (Ev.bind (implManOf_ev 1 b s (by omega) I.size hb (by omega)) (Ev.bind (implPlaces_ev old 1 s b.length _ ho (by omega) (show (sumsOf s b).length ≤ 1048576 by omega)) (Ev.bind e1 (Ev.bind e2 (Ev.bind e3 ?_)))))
  refine Ev.bind (implFindSum_ev f s0 s1 n bf (by omega)) (Ev.bind (specFindSum_ev f s0 s1 n bf (by omega)) (ev_pos rfl ?_))
  refine Ev.bind (implFound_ev o qg qs qc qr bo (by omega) (by omega)) (Ev.bind (specFound_ev o qg qs qc qr bo (by omega) (by omega)) (ev_pos rfl ?_))
  refine Ev.bind (implLacking_ev o qg qs qc qr bo (by omega) (by omega)) (Ev.bind (specLacking_ev o qg qs qc qr bo (by omega) (by omega)) (ev_pos rfl ?_))
  refine Ev.bind (implBytesLacking_ev o qg qs qc qr bo (by omega) (by omega)) (Ev.bind (specBytesLacking_ev o qg qs qc qr bo (by omega) (by omega)) (ev_pos rfl ?_))
  refine Ev.bind (implPlaceOf_ev p rg rs rc rr k0 bp (by omega) (by omega)) (Ev.bind (specPlaceOf_ev p rg rs rc rr k0 bp (by omega) (by omega)) (ev_pos rfl ?_))
  refine Ev.bind (specPlaces_ev old 1 s b.length _ ho (by omega) (show (sumsOf s b).length ≤ 1048576 by omega)) (Ev.bind (sameInts_refl _ (by simp [places]; omega)) ?_)
  refine Ev.step (fun k => rfl) (ev_neg (c := (!true) = true) (f := fun _ => (none : Option Bool)) (by decide) ?_)
  exact scans_loop I ho h300 (sumsOf s b).length 0 (by omega)
end Go.Proofs.Ytfkndpjbkndhcaa.Pure
