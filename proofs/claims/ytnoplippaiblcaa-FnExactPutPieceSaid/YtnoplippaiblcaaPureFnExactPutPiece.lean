/- The program's PutPiece returns what the reference's returns, for every manifest, build, place and bytes, in memory of its own, and leaves them. No further condition. -/
import Derived.Test.YtnoplippaiblcaaQ49
import Derived.Test.YtnoplippaiblcaaQ47
import Derived.Test.YtnoplippaiblcaaQ48
import Derived.Test.YtnoplippaiblcaaQ45
import Derived.Test.YtnoplippaiblcaaQ46
import Derived.Test.YtnoplippaiblcaaQ33
import Derived.Test.YtnoplippaiblcaaQ36
import Derived.Test.YtnoplippaiblcaaQ13
import Derived.Test.YtnoplippaiblcaaQ16
import Derived.Test.YtnoplippaiblcaaQ11
import Derived.Test.YtnoplippaiblcaaQ12
import Derived.Test.YtnoplippaiblcaaQ15
import Derived.Test.YtnoplippaiblcaaQ2
import Derived.RowKit
import Derived.IntWalk
import Derived.Test.YtnoplippaiblcaaWWords
import Derived.Laws.BitsLemmas
import Derived.Test.YtnoplippaiblcaaQ7
import Derived.Test.YtnoplippaiblcaaQ4
import Derived.Test.YtnoplippaiblcaaQ5
import Derived.Test.YtnoplippaiblcaaQ22
import Derived.Test.YtnoplippaiblcaaQ28
import Derived.Test.YtnoplippaiblcaaQ21
import Derived.Test.YtnoplippaiblcaaQ25
import Derived.Test.YtnoplippaiblcaaQ3
import Derived.Test.YtnoplippaiblcaaQ6
import Derived.Test.YtnoplippaiblcaaQ9
import Derived.Test.YtnoplippaiblcaaQ8
import Derived.Test.YtnoplippaiblcaaTyp
import Derived.Test.YtnoplippaiblcaaQ18
/- Plain lemmas on answers with rounds: a loop that goes up through numbers comes to what its steps make. No condition. -/
namespace Go.Proofs.Ytnoplippaiblcaa.Pb
open Go.RowKit Go.Proofs.YtnoplippaiblcaaW.PrintWords
set_option linter.unusedVariables false

theorem w64 {x : Int} (h0 : -9223372036854775808 ≤ x) (h1 : x ≤ 9223372036854775807) : wrap64 x = x := by unfold wrap64; omega

section
variable {α β ρ σ : Type}
theorem ev_pos {c : Prop} [Decidable c] {f g : Nat → Option α} {r : α} (hc : c) (h : Ev f r) : Ev (fun k => if c then f k else g k) r := Ev.congr (fun k => if_pos hc) h
theorem ev_neg {c : Prop} [Decidable c] {f g : Nat → Option α} {r : α} (hc : ¬ c) (h : Ev g r) : Ev (fun k => if c then f k else g k) r := Ev.congr (fun k => if_neg hc) h
theorem ev_true {f g : Nat → Option α} {r : α} (h : Ev f r) : Ev (fun k => if true = true then f k else g k) r := ev_pos rfl h
theorem ev_false {f g : Nat → Option α} {r : α} (h : Ev g r) : Ev (fun k => if false = true then f k else g k) r := ev_neg (by decide) h
theorem ev_some {r : α} : Ev (fun _ => some r) r := Ev.now r
theorem ev_of {a : Option α} {r : α} (h : a = some r) : Ev (fun _ => a) r := ⟨0, fun _ _ => h⟩
theorem ev_then {a : Option α} {x : α} {f : Nat → α → Option β} {r : β} (h : a = some x) (k : Ev (fun n => f n x) r) : Ev (fun n => a.bind (f n)) r := Ev.bind (ev_of h) k
theorem ev_bool {b : Bool} {f g : Nat → Option α} {r : α} (h1 : b = true → Ev f r) (h2 : b = false → Ev g r) : Ev (fun k => if b = true then f k else g k) r := by
  cases b with
  | true => exact ev_true (h1 rfl)
  | false => exact ev_false (h2 rfl)
theorem ev_if {c : Prop} [Decidable c] {f g : Nat → Option α} {r : α} (h1 : c → Ev f r) (h2 : ¬ c → Ev g r) : Ev (fun k => if c then f k else g k) r := by
  by_cases h : c
  · exact ev_pos h (h1 h)
  · exact ev_neg h (h2 h)
theorem ev_eq {f : Nat → Option α} {r r' : α} (h : Ev f r) (e : r = r') : Ev f r' := e ▸ h
theorem ev_det {f : Nat → Option α} {r r' : α} (h : Ev f r) (h' : Ev f r') : r = r' := by
  obtain ⟨K, h⟩ := h
  obtain ⟨K', h'⟩ := h'
  have h1 := h (max K K') (Nat.le_max_left _ _)
  have h2 := h' (max K K') (Nat.le_max_right _ _)
  rw [h1] at h2
  exact Option.some.inj h2

/-- What n steps make of a state. -/
def iter (n : Nat) (next : Nat → σ → σ) (s : σ) : σ := (List.range n).foldl (fun s i => next i s) s
theorem iter_zero (next : Nat → σ → σ) (s : σ) : iter 0 next s = s := rfl
theorem iter_succ (n : Nat) (next : Nat → σ → σ) (s : σ) : iter (n + 1) next s = next n (iter n next s) := by
  unfold iter
  rw [List.range_succ, List.foldl_append]
  rfl

/-- A loop that goes up, step by step, to n. -/
theorem loop_up (g : Nat → σ → Int → Option ρ) (n : Nat) (next : Nat → σ → σ) (Inv : Nat → σ → Prop) (s0 : σ) (r : ρ)
    (h0 : Inv 0 s0) (hinv : ∀ i s, i < n → Inv i s → Inv (i + 1) (next i s))
    (hstep : ∀ (i : Nat) s r, i < n → Inv i s → Ev (fun k => g k (next i s) ((i : Int) + 1)) r → Ev (fun k => g k s (i : Int)) r)
    (hend : Inv n (iter n next s0) → Ev (fun k => g k (iter n next s0) (n : Int)) r) : Ev (fun k => g k s0 0) r := by
  have hall : ∀ i, i ≤ n → Inv i (iter i next s0) := by
    intro i
    induction i with
    | zero => intro _; exact h0
    | succ i ih => intro hi; rw [iter_succ]; exact hinv i _ (by omega) (ih (by omega))
  have key : ∀ d i, i + d = n → Ev (fun k => g k (iter i next s0) (i : Int)) r := by
    intro d
    induction d with
    | zero =>
      intro i hi
      obtain rfl : i = n := by omega
      exact hend (hall i (Nat.le_refl _))
    | succ d ih =>
      intro i hi
      refine hstep i _ r (by omega) (hall i (by omega)) ?_
      have := ih (i + 1) (by omega)
      rw [iter_succ] at this
      simpa using this
  exact key n 0 (by omega)

/-- A loop that goes up till something is found. -/
theorem loop_find (g : Nat → Int → Option ρ) (n : Nat) (p : Nat → Bool) (res : Nat → ρ) (r0 : ρ)
    (hyes : ∀ i, i < n → p i = true → Ev (fun k => g k (i : Int)) (res i))
    (hno : ∀ i r, i < n → p i = false → Ev (fun k => g k ((i : Int) + 1)) r → Ev (fun k => g k (i : Int)) r)
    (hend : Ev (fun k => g k (n : Int)) r0) : Ev (fun k => g k 0) (match (List.range n).find? p with | some i => res i | none => r0) := by
  have key : ∀ d i, i + d = n → Ev (fun k => g k (i : Int)) (match (List.range' i d).find? p with | some i => res i | none => r0) := by
    intro d
    induction d with
    | zero =>
      intro i hi
      obtain rfl : i = n := by omega
      exact hend
    | succ d ih =>
      intro i hi
      rw [List.range'_succ, List.find?_cons]
      cases hp : p i with
      | true => exact hyes i (by omega) hp
      | false => exact hno i _ (by omega) hp (by have := ih (i + 1) (by omega); simpa using this)
  have := key n 0 (by omega)
  rwa [← List.range_eq_range'] at this
/-- A loop that asks something of each. -/
theorem loop_all (g : Nat → Int → Option Bool) (n : Nat) (p : Nat → Bool)
    (hyes : ∀ i r, i < n → p i = true → Ev (fun k => g k ((i : Int) + 1)) r → Ev (fun k => g k (i : Int)) r)
    (hno : ∀ i, i < n → p i = false → Ev (fun k => g k (i : Int)) false)
    (hend : Ev (fun k => g k (n : Int)) true) : Ev (fun k => g k 0) ((List.range n).all p) := by
  have h := loop_find g n (fun i => !p i) (fun _ => false) true (fun i hi hp => hno i hi (by simpa using hp)) (fun i r hi hp h => hyes i r hi (by simpa using hp) h) hend
  refine ev_eq h ?_
  cases hf : (List.range n).find? (fun i => !p i) with
  | some i =>
    have h1 := List.find?_some hf
    have h2 := List.mem_of_find?_eq_some hf
    symm
    rw [List.all_eq_false]
    exact ⟨i, h2, by simpa using h1⟩
  | none =>
    symm
    rw [List.all_eq_true]
    intro x hx
    have := List.find?_eq_none.1 hf x hx
    simpa using this
end

/-! ### Lists by their elements -/
theorem rd_nat (l : List Int) (i : Nat) (h : i < l.length) : rd l (i : Int) = l[i] := by
  unfold rd
  simp [List.getD_eq_getElem?_getD, List.getElem?_eq_getElem h]
theorem iter_set {α : Type} (n : Nat) (f : Nat → α) (l : List α) (hl : l.length = n) : iter n (fun i (s : List α) => s.set i (f i)) l = (List.range n).map f := by
  have key : ∀ m, m ≤ n → iter m (fun i (s : List α) => s.set i (f i)) l = (List.range m).map f ++ l.drop m := by
    intro m
    induction m with
    | zero => intro _; simp [iter_zero]
    | succ m ih =>
      intro hm
      rw [iter_succ, ih (by omega)]
      apply List.ext_getElem?
      intro j
      simp only [List.getElem?_set, List.getElem?_append, List.length_map, List.length_range, List.length_append, List.length_drop, List.getElem?_map, List.getElem?_drop]
      by_cases h1 : m = j
      · subst h1
        simp
        omega
      · by_cases h2 : j < m
        · simp [h1, h2, show j < m + 1 by omega]
        · have h3 : ¬ j < m + 1 := by omega
          simp [h1, h2, h3]
          congr 1
          omega
  have := key n (Nat.le_refl _)
  rw [this, List.drop_of_length_le (by omega), List.append_nil]
theorem map_range_get {α β : Type} (l : List α) (d : α) (f : α → β) : (List.range l.length).map (fun i => f (l.getD i d)) = l.map f := by
  apply List.ext_getElem?
  intro i
  by_cases h : i < l.length
  · simp [h, List.getD_eq_getElem?_getD]
  · simp [h]
theorem all_range_eq {α : Type} [DecidableEq α] (a b : List α) (d : α) (hl : a.length = b.length) : (List.range a.length).all (fun i => decide (a.getD i d = b.getD i d)) = decide (a = b) := by
  rw [Bool.eq_iff_iff]
  simp only [List.all_eq_true, List.mem_range, decide_eq_true_eq]
  constructor
  · intro h
    apply List.ext_getElem hl
    intro i h1 h2
    have := h i h1
    simpa [List.getD_eq_getElem?_getD, h1, h2] using this
  · rintro rfl i _
    rfl
end Go.Proofs.Ytnoplippaiblcaa.Pb
/- Whole numbers: an int's bounds, tests of an interval, what is left of a size. No condition. -/
namespace Go.Proofs.Ytnoplippaiblcaa.Pb
open Go.RowKit Go.Proofs.Ytnoplippaiblcaa Go.Proofs.Ytnoplippaiblcaa.Q Go.Proofs.YtnoplippaiblcaaW.PrintWords Go.Proofs.YtnoplippaiblcaaW.PrintLast
set_option linter.unusedVariables false
set_option linter.unusedSimpArgs false

/-- An int holds it. -/
def I64 (n : Int) : Prop := -9223372036854775808 ≤ n ∧ n ≤ 9223372036854775807
theorem i64_of {n : Int} (h : (Lit.int .i64 n).wf = true) : I64 n := by
  simp [Lit.wf, IntKind.min, IntKind.max, IntKind.signed, IntKind.bits] at h
  exact ⟨by omega, by omega⟩

theorem within_eq (a lo hi : Int) : impl_within.f a lo hi = some (decide (lo ≤ a ∧ a ≤ hi)) := by
  unfold impl_within.f
  by_cases h : lo ≤ a
  · rw [if_pos h]; simp [h]
  · rw [if_neg h]; simp [h]
theorem l1In_eq (a lo hi : Int) : spec_l1In.f a lo hi = some (decide (lo ≤ a ∧ a ≤ hi)) := within_eq a lo hi

theorem left_big {n : Nat} (h : ¬ (if (1048576 : Int) < (n : Int) then (-1 : Int) else 1048576 - (n : Int)) < 0) : n ≤ 1048576 := by
  split at h <;> omega
end Go.Proofs.Ytnoplippaiblcaa.Pb
/- The bits of whole numbers of 64 bits, as natural numbers have them. No condition beyond the ranges. -/
namespace Go.Proofs.Ytnoplippaiblcaa.Pb
open Go
set_option linter.unusedVariables false

theorem wraps_i64 (n : Int) (h0 : 0 ≤ n) (h1 : n < 2 ^ 63) : IntKind.i64.wrap n = n := by rw [IntKind.wrap_i64]; omega
/-- A mask of low bits, of whatever number. -/
theorem and_mask (n : Int) (j m : Nat) (hj : j ≤ 62) (hm : m = 2 ^ j - 1) : bits .and .i64 n (m : Int) = n % (2 ^ j : Nat) := by
  have hp : (2 : Nat) ^ j ≤ 2 ^ 62 := Nat.pow_le_pow_right (by decide) hj
  have hpos : 0 < 2 ^ j := Nat.two_pow_pos j
  have hmm : (BitVec.ofInt 64 (m : Int)).toNat = 2 ^ j - 1 := by
    rw [BitVec.ofInt_natCast, BitVec.toNat_ofNat, hm, Nat.mod_eq_of_lt]
    have : (2 : Nat) ^ 62 < 2 ^ 64 := by decide
    omega
  have key : (BitVec.ofInt 64 n &&& BitVec.ofInt 64 (m : Int)).toNat = (n % ((2 ^ 64 : Nat) : Int)).toNat % 2 ^ j := by
    rw [BitVec.toNat_and, BitVec.toNat_ofInt, hmm, Nat.and_two_pow_sub_one_eq_mod]
  show IntKind.i64.wrap ((BitVec.ofInt 64 n &&& BitVec.ofInt 64 (m : Int)).toNat : Nat) = _
  rw [key, IntKind.wrap_i64]
  have hd : ((2 ^ j : Nat) : Int) ∣ ((2 ^ 64 : Nat) : Int) := by
    have : (2 ^ j : Nat) ∣ 2 ^ 64 := Nat.pow_dvd_pow 2 (by omega)
    exact Int.natCast_dvd_natCast.2 this
  have e0 : 0 ≤ n % ((2 ^ 64 : Nat) : Int) := Int.emod_nonneg _ (by decide)
  have e1 : (((n % ((2 ^ 64 : Nat) : Int)).toNat % 2 ^ j : Nat) : Int) = n % ((2 ^ j : Nat) : Int) := by
    rw [Int.natCast_emod, Int.toNat_of_nonneg e0, Int.emod_emod_of_dvd _ hd]
  rw [e1]
  have b0 : 0 ≤ n % ((2 ^ j : Nat) : Int) := Int.emod_nonneg _ (by omega)
  have b1 : n % ((2 ^ j : Nat) : Int) < ((2 ^ j : Nat) : Int) := Int.emod_lt_of_pos _ (by omega)
  have b2 : ((2 ^ j : Nat) : Int) ≤ ((2 ^ 62 : Nat) : Int) := Int.ofNat_le.2 hp
  have b3 : ((2 ^ 62 : Nat) : Int) = 4611686018427387904 := by decide
  omega
theorem and255 (n : Int) : bits .and .i64 n 255 = n % 256 := and_mask n 8 255 (by decide) (by decide)
theorem and_nat (a b : Nat) (ha : a < 2 ^ 63) (hb : b < 2 ^ 63) : bits .and .i64 (a : Int) (b : Int) = ((a &&& b : Nat) : Int) := (bits_nat .i64 63 (by decide) wraps_i64 a b ha hb).1
theorem or_nat (a b : Nat) (ha : a < 2 ^ 63) (hb : b < 2 ^ 63) : bits .or .i64 (a : Int) (b : Int) = ((a ||| b : Nat) : Int) := (bits_nat .i64 63 (by decide) wraps_i64 a b ha hb).2
end Go.Proofs.Ytnoplippaiblcaa.Pb
/- Weak sums of bytes: the program's and the reference's ways. No condition beyond the bytes' range. -/
namespace Go.Proofs.Ytnoplippaiblcaa.Pb
open Go.RowKit Go.Proofs.Ytnoplippaiblcaa Go.Proofs.Ytnoplippaiblcaa.Q Go.Proofs.YtnoplippaiblcaaW.PrintWords Go.Proofs.YtnoplippaiblcaaW.PrintLast
set_option linter.unusedVariables false
set_option linter.unusedSimpArgs false

theorem iter_foldl {α σ : Type} (f : σ → α → σ) (l : List α) (d : α) (s0 : σ) (n : Nat) (hn : n ≤ l.length) : iter n (fun i s => f s (l.getD i d)) s0 = (l.take n).foldl f s0 := by
  induction n with
  | zero => simp [iter_zero]
  | succ n ih =>
    rw [iter_succ, ih (by omega), List.take_succ_eq_append_getElem (by omega), List.foldl_append]
    simp [List.getD_eq_getElem?_getD, (show n < l.length by omega)]
theorem iter_foldl_all {α σ : Type} (f : σ → α → σ) (l : List α) (d : α) (s0 : σ) : iter l.length (fun i s => f s (l.getD i d)) s0 = l.foldl f s0 := by
  rw [iter_foldl f l d s0 l.length (Nat.le_refl _), List.take_length]

/-- All are bytes. -/
def Bytes (l : List Int) : Prop := ∀ x ∈ l, 0 ≤ x ∧ x ≤ 255
theorem bytes_getD {l : List Int} (h : Bytes l) (i : Nat) : 0 ≤ l.getD i 0 ∧ l.getD i 0 ≤ 255 := by
  rw [List.getD_eq_getElem?_getD]
  by_cases q : i < l.length
  · simp only [q, List.getElem?_eq_getElem, Option.getD_some]
    exact h _ (List.getElem_mem q)
  · simp [q]
def weakStep (p : Int × Int) (b : Int) : Int × Int := ((p.1 + b) % 251, (p.2 + (p.1 + b) % 251) % 251)
def weakPair (l : List Int) : Int × Int := l.foldl weakStep (0, 0)
def weakOf (l : List Int) : Int := (weakPair l).1 + 251 * (weakPair l).2
def WeakIn (p : Int × Int) : Prop := 0 ≤ p.1 ∧ p.1 < 251 ∧ 0 ≤ p.2 ∧ p.2 < 251
theorem weakStep_in (p : Int × Int) (b : Int) : WeakIn (weakStep p b) := by
  unfold WeakIn weakStep
  simp only
  omega
theorem weakPair_in (l : List Int) : WeakIn (weakPair l) := by
  unfold weakPair
  rcases List.eq_nil_or_concat l with rfl | ⟨l', x, rfl⟩
  · simp [WeakIn]
  · rw [List.concat_eq_append, List.foldl_append]
    exact weakStep_in _ _
theorem weakOf_range (l : List Int) : 0 ≤ weakOf l ∧ weakOf l ≤ 63000 := by
  have h := weakPair_in l
  unfold WeakIn at h
  unfold weakOf
  omega
theorem weak_step (x y b : Int) (h : WeakIn (x, y)) (hb : 0 ≤ b ∧ b ≤ 255) : Int.tmod (wrap64 (x + (wrap64 b))) 251 = (weakStep (x, y) b).1 ∧ Int.tmod (wrap64 (y + (Int.tmod (wrap64 (x + (wrap64 b))) 251))) 251 = (weakStep (x, y) b).2 := by
  unfold WeakIn at h
  simp only at h
  have e1 : Int.tmod (wrap64 (x + (wrap64 b))) 251 = (x + b) % 251 := by
    rw [w64 (x := b) (by omega) (by omega), w64 (x := x + b) (by omega) (by omega), Int.tmod_eq_emod_of_nonneg (by omega)]
  rw [e1]
  refine ⟨rfl, ?_⟩
  rw [w64 (by omega) (by omega), Int.tmod_eq_emod_of_nonneg (by omega)]
  rfl
theorem specWeakOf_ev (l : List Int) (hl : l.length ≤ 1048576) (hb : Bytes l) : Ev (fun k => spec_WeakOf.f k l) (weakOf l) := by
  unfold spec_WeakOf.f
  refine loop_up (σ := Int × Int) (fun k s i => spec_WeakOf.l0 k l s.1 s.2 i) l.length (fun i s => weakStep s (l.getD i 0)) (fun i s => WeakIn s) (0, 0) _ (by simp [WeakIn]) (fun i s _ _ => weakStep_in _ _) ?_ ?_
  · rintro i ⟨x, y⟩ r hi hs h
    refine Ev.step (fun k => rfl) ?_
    refine ev_pos (by omega) (ev_pos (by omega) ?_)
    have e := weak_step x y (l.getD i 0) hs (bytes_getD hb i)
    simp only [rd, Int.toNat_natCast]
    rw [e.1, ← e.1, e.2, e.1, w64 (x := (i : Int) + 1) (by omega) (by omega)]
    exact h
  · intro hs
    refine Ev.step (fun k => rfl) ?_
    refine ev_neg (by omega) (ev_eq ev_some ?_)
    rw [iter_foldl_all weakStep l 0 (0, 0)] at hs ⊢
    unfold WeakIn at hs
    rw [w64 (x := 251 * _) (by omega) (by omega), w64 (by omega) (by omega)]
    rfl
theorem implWeakOf_ev (l : List Int) (hl : l.length ≤ 1048576) (hb : Bytes l) : Ev (fun k => impl_WeakOf.f k l) (weakOf l) := by
  unfold impl_WeakOf.f
  refine loop_up (σ := Int × Int) (fun k s i => impl_WeakOf.l0 k s.1 s.2 l (l.length : Int) i) l.length (fun i s => weakStep s (l.getD i 0)) (fun i s => WeakIn s) (0, 0) _ (by simp [WeakIn]) (fun i s _ _ => weakStep_in _ _) ?_ ?_
  · rintro i ⟨x, y⟩ r hi hs h
    refine Ev.step (fun k => rfl) ?_
    refine ev_pos (by omega) (ev_pos (by omega) (ev_pos (by omega) ?_))
    have e := weak_step x y (l.getD i 0) hs (bytes_getD hb i)
    simp only [rd, Int.toNat_natCast]
    rw [e.1, ← e.1, e.2, e.1, w64 (x := (i : Int) + 1) (by omega) (by omega)]
    exact h
  · intro hs
    refine Ev.step (fun k => rfl) ?_
    refine ev_neg (by omega) ?_
    rw [iter_foldl_all weakStep l 0 (0, 0)] at hs ⊢
    unfold WeakIn at hs
    have wr : ∀ x : Int, 0 ≤ x → x < 251 → impl_Wrap.f x 251 = some x := by
      intro x h0 h1
      unfold impl_Wrap.f
      rw [within_eq]
      simp only [Option.bind_some]
      rw [if_pos (by decide), if_neg (by decide), Int.tmod_eq_emod_of_nonneg h0, w64 (by omega) (by omega), Int.tmod_eq_emod_of_nonneg (by omega)]
      congr 1
      omega
    have e : impl_weak.f (List.foldl weakStep (0, 0) l).1 (List.foldl weakStep (0, 0) l).2 = some (weakOf l) := by
      unfold impl_weak.f
      rw [wr _ hs.1 hs.2.1, wr _ hs.2.2.1 hs.2.2.2]
      simp only [Option.bind_some]
      rw [w64 (x := 251 * _) (by omega) (by omega), w64 (by omega) (by omega)]
      rfl
    exact ev_then e ev_some
end Go.Proofs.Ytnoplippaiblcaa.Pb
/- The bytes of a strong sum: the program's and the reference's ways. No condition. -/
namespace Go.Proofs.Ytnoplippaiblcaa.Pb
open Go.RowKit Go.Proofs.Ytnoplippaiblcaa Go.Proofs.Ytnoplippaiblcaa.Q Go.Proofs.YtnoplippaiblcaaW.PrintWords Go.Proofs.YtnoplippaiblcaaW.PrintLast Go.Proofs.YtnoplippaiblcaaW.PrintMore
set_option linter.unusedVariables false
set_option linter.unusedSimpArgs false

theorem shr_of (x y : Int) (h1 : y ≤ 64) : shr .i64 x y = x / 2 ^ y.toNat := by
  unfold shr
  rw [Nat.min_eq_left (by simp [IntKind.bits]; omega)]
/-- The low digits to 256, the highest of them first. -/
def digs : Nat → Int → List Int
  | 0, _ => []
  | c + 1, x => digs c (x / 256) ++ [x % 256]
theorem digs_length (c : Nat) : ∀ x, (digs c x).length = c := by
  induction c with
  | zero => intro x; rfl
  | succ c ih => intro x; simp [digs, ih]
theorem digs_bytes (c : Nat) : ∀ x, Bytes (digs c x) := by
  induction c with
  | zero => intro x; simp [digs, Bytes]
  | succ c ih =>
    intro x y hy
    rw [digs, List.mem_append, List.mem_singleton] at hy
    rcases hy with hy | rfl
    · exact ih _ y hy
    · omega
theorem pow256_succ (c : Nat) : (256 : Int) ^ (c + 1) = 256 * 256 ^ c := by rw [Int.pow_succ, Int.mul_comm]
theorem div256 (x : Int) (c : Nat) : x / 256 ^ (c + 1) = x / 256 / 256 ^ c := by
  rw [pow256_succ, Int.ediv_ediv_of_nonneg (by decide)]
theorem digs_map (c : Nat) : ∀ x, digs c x = (List.range c).map (fun i => x / 256 ^ (c - 1 - i) % 256) := by
  induction c with
  | zero => intro x; rfl
  | succ c ih =>
    intro x
    rw [digs, ih, List.range_succ, List.map_append, List.map_singleton]
    congr 1
    · apply List.map_congr_left
      intro i hi
      have hi' := List.mem_range.1 hi
      rw [show c + 1 - 1 - i = (c - 1 - i) + 1 by omega, div256]
    · simp
theorem p256_0 : (256 : Int) ^ 0 = 1 := by decide
theorem p256_1 : (256 : Int) ^ 1 = 256 := by decide
theorem p256_2 : (256 : Int) ^ 2 = 65536 := by decide
theorem p256_3 : (256 : Int) ^ 3 = 16777216 := by decide
theorem p256_4 : (256 : Int) ^ 4 = 4294967296 := by decide
theorem p256_5 : (256 : Int) ^ 5 = 1099511627776 := by decide
theorem p256_6 : (256 : Int) ^ 6 = 281474976710656 := by decide
/-- How many digits a sum's number has behind its leading one, up to six. -/
def cnt (x : Int) : Nat := if x ≤ 1 then 0 else if x / 256 ≤ 1 then 1 else if x / 65536 ≤ 1 then 2 else if x / 16777216 ≤ 1 then 3 else if x / 4294967296 ≤ 1 then 4 else if x / 1099511627776 ≤ 1 then 5 else 6
def bytesOf (x : Int) : List Int × Bool := if 1 ≤ x ∧ x / 256 ^ (cnt x) = 1 then (digs (cnt x) x, true) else ([], false)
theorem cnt_le (x : Int) : cnt x ≤ 6 := by
  unfold cnt
  repeat' split
  all_goals omega
theorem bytesOf_bytes (x : Int) : Bytes (bytesOf x).1 := by
  unfold bytesOf
  split
  · exact digs_bytes _ _
  · simp [Bytes]
theorem bytesOf_length (x : Int) : (bytesOf x).1.length ≤ 6 := by
  unfold bytesOf
  split
  · simp only [digs_length]; exact cnt_le x
  · simp
theorem specBytes_yes (c : Nat) : ∀ (x : Int) (acc : List Int), x / 256 ^ c = 1 → 1 ≤ x → c + acc.length ≤ 1000 → Ev (fun k => spec_BytesOf.l0 k x acc) (digs c x ++ acc, true) := by
  induction c with
  | zero =>
    intro x acc h hx hl
    have e : x = 1 := by simpa using h
    subst e
    refine Ev.step (fun k => rfl) ?_
    exact ev_neg (by omega) (ev_eq ev_some rfl)
  | succ c ih =>
    intro x acc h hx hl
    rw [div256] at h
    have hp : (0 : Int) < 256 ^ c := Int.pow_pos (by decide)
    have hge : 1 ≤ x / 256 := by
      by_cases q : 1 ≤ x / 256
      · exact q
      · have z : x / 256 = 0 := by omega
        rw [z, Int.zero_ediv] at h
        omega
    refine Ev.step (fun k => rfl) ?_
    refine ev_pos (by omega) (ev_neg (by omega) ?_)
    simp only [Option.bind_some]
    refine ev_pos (by simp only [List.length_cons, List.length_nil]; omega) ?_
    have r := ih (x / 256) ([(Go.bits .and .i64 x 255) % 256] ++ acc) h hge (by simp; omega)
    rw [and255, Int.emod_emod_of_dvd _ (by decide)] at r ⊢
    rw [digs, List.append_assoc]
    exact r
theorem specBytes_no (m : Nat) : ∀ (x : Int) (acc : List Int), 1 ≤ x → x < 2 * 256 ^ m → (∀ c, c ≤ m → x / 256 ^ c ≠ 1) → m + acc.length ≤ 1000 → Ev (fun k => spec_BytesOf.l0 k x acc) ([], false) := by
  induction m with
  | zero =>
    intro x acc hx hm hc hl
    exact absurd (show x / 256 ^ 0 = 1 by simp at hm ⊢; omega) (hc 0 (by omega))
  | succ m ih =>
    intro x acc hx hm hc hl
    have h1 : x ≠ 1 := by have := hc 0 (by omega); simpa using this
    refine Ev.step (fun k => rfl) ?_
    refine ev_pos (by omega) ?_
    refine ev_if (fun _ => ev_some) (fun hge => ?_)
    simp only [Option.bind_some]
    refine ev_pos (by simp only [List.length_cons, List.length_nil]; omega) ?_
    refine ih (x / 256) _ (by omega) ?_ (fun c h => by rw [← div256]; exact hc (c + 1) (by omega)) (by simp; omega)
    rw [pow256_succ] at hm
    generalize (256 : Int) ^ m = p at hm ⊢
    omega
theorem cnt_iff (x : Int) (hx : 1 ≤ x) (h : x ≤ 562949953421311) (c : Nat) (hc : c ≤ 6) (e : x / 256 ^ c = 1) : cnt x = c := by
  unfold cnt
  rcases (show c = 0 ∨ c = 1 ∨ c = 2 ∨ c = 3 ∨ c = 4 ∨ c = 5 ∨ c = 6 by omega) with rfl | rfl | rfl | rfl | rfl | rfl | rfl <;> simp only [p256_0, p256_1, p256_2, p256_3, p256_4, p256_5, p256_6, Int.ediv_one] at e <;> (repeat' split) <;> omega
theorem specBytesOf_ev (x : Int) : Ev (fun k => spec_BytesOf.f k x) (bytesOf x) := by
  unfold spec_BytesOf.f
  rw [l1In_eq]
  simp only [Option.bind_some]
  refine ev_if (fun h => ?_) (fun h => ev_eq ev_some ?_)
  · have h' : 1 ≤ x ∧ x ≤ 562949953421311 := by simpa using h
    unfold bytesOf
    by_cases q : x / 256 ^ (cnt x) = 1
    · rw [if_pos ⟨h'.1, q⟩]
      exact ev_eq (specBytes_yes (cnt x) x [] q h'.1 (by have := cnt_le x; simp; omega)) (by simp)
    · rw [if_neg (fun z => q z.2)]
      refine specBytes_no 6 x [] h'.1 (by rw [p256_6]; omega) (fun c hc e => ?_) (by simp)
      rw [cnt_iff x h'.1 h'.2 c hc e] at q
      exact q e
  · have h' : ¬ (1 ≤ x ∧ x ≤ 562949953421311) := by simpa using h
    unfold bytesOf
    rw [if_neg]
    rintro ⟨h1, h2⟩
    have : cnt x = 6 := by
      unfold cnt
      repeat' split
      all_goals omega
    rw [this] at h2
    rw [p256_6] at h2
    omega
theorem shr_pow (x : Int) (c : Nat) (hc : c ≤ 6) : shr .i64 x (wrap64 (8 * (c : Int))) = x / 256 ^ c := by
  rw [w64 (by omega) (by omega), shr_of _ _ (by omega), show (8 * (c : Int)).toNat = 8 * c by omega, Int.pow_mul]
  rfl
theorem implBytes_tail (x : Int) (c : Nat) (hc : c ≤ 6) (hx : c = cnt x) : Ev (fun k => impl_BytesOf.j1 k x (c : Int)) (bytesOf x) := by
  have fin : Ev (fun k => impl_BytesOf.j2 k x (c : Int) false) (digs c x, true) := by
    refine Ev.step (fun k => rfl) ?_
    refine ev_pos (by omega) ?_
    simp only [Option.bind_some, Int.toNat_natCast]
    refine loop_up (fun k s i => impl_BytesOf.l1 k x (c : Int) s (((List.replicate c (0 : Int)).length : Nat) : Int) i) c (fun i (s : List Int) => s.set i (x / 256 ^ (c - 1 - i) % 256)) (fun _ s => s.length = c) (List.replicate c 0) _ (by simp) (fun i s _ h => by simpa using h) ?_ ?_
    · intro i s r hi hs h
      have e : (c : Int) - 1 - (i : Int) = ((c - 1 - i : Nat) : Int) := by omega
      refine Ev.step (fun k => rfl) ?_
      refine ev_pos (by simp; omega) ?_
      rw [w64 (x := (c : Int) - 1) (by omega) (by omega), w64 (x := (c : Int) - 1 - i) (by omega) (by omega), e]
      refine ev_pos (by rw [w64 (by omega) (by omega)]; omega) (ev_pos (by omega) (ev_pos (by omega) ?_))
      rw [shr_pow _ _ (by omega), w64 (x := (i : Int) + 1) (by omega) (by omega)]
      exact h
    · intro hs
      refine Ev.step (fun k => rfl) ?_
      refine ev_neg (by simp) (ev_eq ev_some ?_)
      rw [iter_set c (fun i => x / 256 ^ (c - 1 - i) % 256) _ (by simp), digs_map]
  have bad : Ev (fun k => impl_BytesOf.j2 k x (c : Int) true) ([], false) := by
    refine Ev.step (fun k => rfl) ?_
    exact ev_some
  refine Ev.step (fun k => rfl) ?_
  unfold bytesOf
  rw [← hx]
  refine ev_if (fun h => ?_) (fun h => ev_pos (by rw [w64 (by omega) (by omega)]; omega) ?_)
  · rw [if_neg (by omega)]
    exact bad
  · rw [shr_pow _ _ hc]
    by_cases q : x / 256 ^ c = 1
    · rw [if_pos ⟨by omega, q⟩, q]
      exact fin
    · rw [if_neg (fun z => q z.2)]
      have : ((x / 256 ^ c) != 1) = true := by simpa using q
      rw [this]
      exact bad
theorem implBytes_loop (x : Int) (d : Nat) : ∀ c : Nat, c + d = 6 → c ≤ cnt x → Ev (fun k => impl_BytesOf.l0 k x (c : Int)) (bytesOf x) := by
  induction d with
  | zero =>
    intro c h hc
    have := cnt_le x
    refine Ev.step (fun k => rfl) ?_
    exact ev_neg (by omega) (implBytes_tail x c (by omega) (by omega))
  | succ d ih =>
    intro c h hc
    refine Ev.step (fun k => rfl) ?_
    refine ev_pos (by omega) (ev_pos (by rw [w64 (by omega) (by omega)]; omega) ?_)
    rw [shr_pow _ _ (by omega)]
    have key : (x / 256 ^ c > 1) ↔ c < cnt x := by
      have l : ∀ q : Nat, (if q < c then 1 else 0) + q ≥ 0 := fun q => by omega
      unfold cnt at hc ⊢
      rcases (show c = 0 ∨ c = 1 ∨ c = 2 ∨ c = 3 ∨ c = 4 ∨ c = 5 by omega) with rfl | rfl | rfl | rfl | rfl | rfl <;> simp only [p256_0, p256_1, p256_2, p256_3, p256_4, p256_5, p256_6, Int.ediv_one] <;> (repeat' split at hc) <;> (repeat' split) <;> omega
    refine ev_if (fun q => ?_) (fun q => ?_)
    · rw [w64 (by omega) (by omega)]
      exact ih (c + 1) (by omega) (key.1 q)
    · exact implBytes_tail x c (by omega) (by have := mt key.2 q; omega)
theorem implBytesOf_ev (x : Int) : Ev (fun k => impl_BytesOf.f k x) (bytesOf x) := implBytes_loop x 6 0 (by omega) (by omega)
end Go.Proofs.Ytnoplippaiblcaa.Pb
/- A block's sum, as the reference makes it. No condition beyond the bytes' range. -/
namespace Go.Proofs.Ytnoplippaiblcaa.Pb
open Go.RowKit Go.Proofs.Ytnoplippaiblcaa Go.Proofs.Ytnoplippaiblcaa.Q Go.Proofs.YtnoplippaiblcaaW.PrintWords Go.Proofs.YtnoplippaiblcaaW.PrintLast
set_option linter.unusedVariables false
set_option linter.unusedSimpArgs false

/-- The strong sum: the bytes as one number, behind a leading one. -/
def strong (l : List Int) : Int := l.foldl (fun s b => 256 * s + b) 1
def sumOf (l : List Int) : Int × Int := if (l.length : Int) > 6 then (0, 0) else (weakOf l, strong l)
theorem p256_le (i : Nat) (h : i ≤ 6) : 1 ≤ (256 : Int) ^ i ∧ (256 : Int) ^ i ≤ 281474976710656 := by
  rcases (show i = 0 ∨ i = 1 ∨ i = 2 ∨ i = 3 ∨ i = 4 ∨ i = 5 ∨ i = 6 by omega) with rfl | rfl | rfl | rfl | rfl | rfl | rfl <;> simp only [p256_0, p256_1, p256_2, p256_3, p256_4, p256_5, p256_6] <;> omega
/-- What a prefix's strong sum stays under. -/
def StrongIn (i : Nat) (s : Int) : Prop := 1 ≤ s ∧ s < 2 * 256 ^ i
theorem strongIn_step {i : Nat} {s b : Int} (h : StrongIn i s) (hb : 0 ≤ b ∧ b ≤ 255) : StrongIn (i + 1) (256 * s + b) := by
  unfold StrongIn at h ⊢
  rw [pow256_succ]
  generalize (256 : Int) ^ i = p at h ⊢
  omega
theorem strongIn_le {i : Nat} {s : Int} (h : StrongIn i s) (hi : i ≤ 6) : 1 ≤ s ∧ s ≤ 562949953421311 := by
  unfold StrongIn at h
  have := p256_le i hi
  omega
theorem specSumOf_ev (l : List Int) (hb : Bytes l) : Ev (fun k => spec_SumOf.f k l) (sumOf l) := by
  unfold spec_SumOf.f sumOf
  refine ev_if (fun h => ev_eq ev_some (by rw [if_pos h])) (fun h => ?_)
  rw [if_neg h]
  refine loop_up (σ := Int) (fun k s i => spec_SumOf.l0 k l s i) l.length (fun i s => 256 * s + l.getD i 0) (fun i s => StrongIn i s) 1 _ (by simp [StrongIn]) (fun i s _ hs => strongIn_step hs (bytes_getD hb i)) ?_ ?_
  · intro i s r hi hs h
    have q := strongIn_le hs (by omega)
    have z := bytes_getD hb i
    refine Ev.step (fun k => rfl) ?_
    refine ev_pos (by omega) (ev_pos (by omega) ?_)
    simp only [rd, Int.toNat_natCast]
    rw [w64 (x := 256 * s) (by omega) (by omega), w64 (x := l.getD i 0) (by omega) (by omega), w64 (x := 256 * s + l.getD i 0) (by omega) (by omega), w64 (x := (i : Int) + 1) (by omega) (by omega)]
    exact h
  · intro hs
    refine Ev.step (fun k => rfl) ?_
    refine ev_neg (by omega) (Ev.bind (specWeakOf_ev l (by omega) hb) (ev_eq ev_some ?_))
    rw [iter_foldl_all (fun s b => 256 * s + b) l 0 1]
    rfl
theorem strong_digs (c : Nat) : ∀ x : Int, 1 ≤ x → x / 256 ^ c = 1 → strong (digs c x) = x := by
  induction c with
  | zero => intro x h1 h; simp at h; simp [digs, strong, h]
  | succ c ih =>
    intro x h1 h
    rw [div256] at h
    have hge : 1 ≤ x / 256 := by
      by_cases q : 1 ≤ x / 256
      · exact q
      · have z : x / 256 = 0 := by omega
        rw [z, Int.zero_ediv] at h
        omega
    have e := ih (x / 256) hge h
    unfold strong at e ⊢
    rw [digs, List.foldl_append, e]
    simp only [List.foldl_cons, List.foldl_nil]
    omega
theorem bytesOf_strong (x : Int) (h : (bytesOf x).2 = true) : sumOf (bytesOf x).1 = (weakOf (bytesOf x).1, x) := by
  have hl := bytesOf_length x
  unfold sumOf
  rw [if_neg (by omega)]
  unfold bytesOf at h ⊢
  split at h
  · rename_i q
    rw [if_pos q]
    simp only
    rw [strong_digs _ _ q.1 q.2]
  · simp at h
end Go.Proofs.Ytnoplippaiblcaa.Pb
/- Sizes of blocks, how many there are, where each lies. No condition. -/
namespace Go.Proofs.Ytnoplippaiblcaa.Pb
open Go.RowKit Go.Proofs.Ytnoplippaiblcaa Go.Proofs.Ytnoplippaiblcaa.Q Go.Proofs.YtnoplippaiblcaaW.PrintWords Go.Proofs.YtnoplippaiblcaaW.PrintLast
set_option linter.unusedVariables false
set_option linter.unusedSimpArgs false

def sizeOk (a b : Int) : Bool := decide (2 ≤ a ∧ a ≤ 6) && decide (0 ≤ b ∧ b ≤ 40 * a)
theorem specSizeOk_eq (a b : Int) : spec_SizeOk.f a b = some (sizeOk a b) := by
  unfold spec_SizeOk.f sizeOk
  rw [l1In_eq]
  simp only [Option.bind_some]
  by_cases h : 2 ≤ a ∧ a ≤ 6
  · rw [if_pos (by simpa using h), l1In_eq, w64 (by omega) (by omega)]
    simp [h, Int.mul_comm]
  · rw [if_neg (by simpa using h)]
    simp [h]
theorem implSizeOk_eq (a b : Int) : impl_SizeOk.f a b = some (sizeOk a b) := by
  unfold impl_SizeOk.f sizeOk
  rw [within_eq]
  simp only [Option.bind_some]
  by_cases h : 2 ≤ a ∧ a ≤ 6
  · rw [if_pos (by simpa using h), within_eq, w64 (by omega) (by omega)]
    simp [h, Int.mul_comm]
  · rw [if_neg (by simpa using h)]
    simp [h]
theorem sizeOk_iff {a b : Int} : sizeOk a b = true ↔ (2 ≤ a ∧ a ≤ 6) ∧ 0 ≤ b ∧ b ≤ 40 * a := by simp [sizeOk, and_assoc]
def blocks (a b : Int) : Int := if sizeOk a b = true then (b + a - 1) / a else 0
theorem ceil_le {a b : Int} (h : (2 ≤ a ∧ a ≤ 6) ∧ 0 ≤ b ∧ b ≤ 40 * a) : 0 ≤ (b + a - 1) / a ∧ (b + a - 1) / a ≤ 40 := by
  constructor
  · exact Int.ediv_nonneg (by omega) (by omega)
  · have : (b + a - 1) / a < 41 := by
      apply Int.ediv_lt_of_lt_mul (by omega)
      omega
    omega
theorem specBlocks_eq (a b : Int) : spec_Blocks.f a b = some (blocks a b) := by
  unfold spec_Blocks.f blocks
  rw [specSizeOk_eq]
  simp only [Option.bind_some]
  by_cases h : sizeOk a b = true
  · have h' := sizeOk_iff.1 h
    have c := ceil_le h'
    rw [if_pos h, if_pos h]
    unfold spec_CeilDiv.f
    rw [l1In_eq]
    simp only [Option.bind_some]
    rw [if_pos (by simp; omega), l1In_eq]
    simp only [Option.bind_some]
    rw [if_pos (by simp; omega), if_neg (by omega), w64 (x := b + a) (by omega) (by omega), w64 (x := b + a - 1) (by omega) (by omega), Int.tdiv_eq_ediv_of_nonneg (by omega), w64 (by omega) (by omega)]
    rfl
  · rw [if_neg h, if_neg h]
theorem implBlocks_eq (a b : Int) : impl_Blocks.f a b = some (blocks a b) := by
  unfold impl_Blocks.f blocks
  rw [implSizeOk_eq]
  simp only [Option.bind_some]
  by_cases h : sizeOk a b = true
  · have h' := sizeOk_iff.1 h
    have c := ceil_le h'
    rw [if_pos h, if_pos h]
    unfold impl_CeilDiv.f
    rw [within_eq]
    simp only [Option.bind_some]
    rw [if_pos (by simp; omega), within_eq]
    simp only [Option.bind_some]
    rw [if_pos (by simp; omega), if_neg (by omega), w64 (x := b + a) (by omega) (by omega), w64 (x := b + a - 1) (by omega) (by omega), Int.tdiv_eq_ediv_of_nonneg (by omega), w64 (by omega) (by omega)]
    rfl
  · rw [if_neg h, if_neg h]
theorem blocks_range (a b : Int) : 0 ≤ blocks a b ∧ blocks a b ≤ 40 := by
  unfold blocks
  split
  · rename_i h
    exact ceil_le (sizeOk_iff.1 h)
  · omega
theorem blocks_pos {a b : Int} (h : 0 < blocks a b) : (2 ≤ a ∧ a ≤ 6) ∧ 0 ≤ b ∧ b ≤ 40 * a := by
  unfold blocks at h
  split at h
  · rename_i q
    exact sizeOk_iff.1 q
  · omega
/-- Where a block lies, and how long it is. -/
def spanOf (a b i : Int) : Int × Int := if 0 ≤ i ∧ i ≤ blocks a b - 1 then (i * a, if b - i * a < a then b - i * a else a) else (0, 0)
theorem span_at {a b i : Int} (h : 0 ≤ i ∧ i ≤ blocks a b - 1) : 0 ≤ i * a ∧ i * a < b ∧ b ≤ 240 ∧ 2 ≤ a ∧ a ≤ 6 := by
  have q := blocks_pos (a := a) (b := b) (by omega)
  have e : blocks a b = (b + a - 1) / a := by
    unfold blocks
    rw [if_pos (sizeOk_iff.2 q)]
  rw [e] at h
  have m : (b + a - 1) / a * a ≤ b + a - 1 := Int.ediv_mul_le _ (by omega)
  have m2 : (i + 1) * a ≤ (b + a - 1) / a * a := Int.mul_le_mul_of_nonneg_right (by omega) (by omega)
  have m3 : 0 ≤ i * a := Int.mul_nonneg h.1 (by omega)
  rw [Int.add_mul] at m2
  omega
theorem spanOf_range (a b i : Int) : 0 ≤ (spanOf a b i).1 ∧ (spanOf a b i).1 ≤ 240 ∧ 0 ≤ (spanOf a b i).2 ∧ (spanOf a b i).2 ≤ 6 ∧ (spanOf a b i).1 + (spanOf a b i).2 ≤ 240 := by
  unfold spanOf
  split
  · rename_i h
    have := span_at h
    simp only
    split <;> omega
  · simp
theorem specSpanOf_eq (a b i : Int) : spec_SpanOf.f a b i = some (spanOf a b i) := by
  unfold spec_SpanOf.f spanOf
  have r := blocks_range a b
  rw [specBlocks_eq]
  simp only [Option.bind_some]
  rw [w64 (x := blocks a b - 1) (by omega) (by omega), l1In_eq]
  simp only [Option.bind_some]
  by_cases h : 0 ≤ i ∧ i ≤ blocks a b - 1
  · have s := span_at h
    rw [if_pos (by simpa using h), if_pos h, w64 (x := i * a) (by omega) (by omega), w64 (x := b - i * a) (by omega) (by omega)]
    unfold spec_Least.f
    split <;> simp
  · rw [if_neg (by simpa using h), if_neg h]
theorem implSpanOf_eq (a b i : Int) : impl_SpanOf.f a b i = some (spanOf a b i) := by
  unfold impl_SpanOf.f spanOf
  have r := blocks_range a b
  rw [implBlocks_eq]
  simp only [Option.bind_some]
  rw [w64 (x := blocks a b - 1) (by omega) (by omega), within_eq]
  simp only [Option.bind_some]
  by_cases h : 0 ≤ i ∧ i ≤ blocks a b - 1
  · have s := span_at h
    rw [if_pos (by simpa using h), if_pos h, w64 (x := i * a) (by omega) (by omega), w64 (x := b - i * a) (by omega) (by omega)]
    rfl
  · rw [if_neg (by simpa using h), if_neg h]
end Go.Proofs.Ytnoplippaiblcaa.Pb
/- Whether a manifest is a good one: the program's and the reference's ways. No condition beyond the size that the laws ask. -/
namespace Go.Proofs.Ytnoplippaiblcaa.Pb
open Go.RowKit Go.Proofs.Ytnoplippaiblcaa Go.Proofs.Ytnoplippaiblcaa.Q Go.Proofs.YtnoplippaiblcaaW.PrintWords Go.Proofs.YtnoplippaiblcaaW.PrintLast
set_option linter.unusedVariables false
set_option linter.unusedSimpArgs false

/-- A block's sum is a good one, at its place. -/
def blockOk (b c : Int) (l : List S72) (i : Nat) : Bool := (bytesOf (l.getD i z72).f1).2 && (decide (((bytesOf (l.getD i z72).f1).1.length : Int) = (spanOf b c i).2) && decide (weakOf (bytesOf (l.getD i z72).f1).1 = (l.getD i z72).f0))
def manOk (a b c : Int) (l : List S72) : Bool := if a = 0 then decide (b = 0 ∧ c = 0 ∧ l.length = 0) else if (1 ≤ a ∧ a ≤ 1000000) ∧ sizeOk b c = true ∧ (l.length : Int) = blocks b c then (List.range l.length).all (blockOk b c l) else false
theorem specMan_loop (a b c : Int) (l : List S72) (hl : l.length ≤ 1048576) : Ev (fun k => spec_ManOk.l0 k 0 a b c l) ((List.range l.length).all (blockOk b c l)) := by
  refine loop_all (fun k i => spec_ManOk.l0 k i a b c l) l.length _ ?_ ?_ ?_
  · intro i r hi hp h
    simp only [blockOk, Bool.and_eq_true, decide_eq_true_eq] at hp
    refine Ev.step (fun k => rfl) ?_
    refine ev_pos (by omega) (ev_pos (by omega) ?_)
    simp only [rd_T72, Int.toNat_natCast]
    refine Ev.bind (specBytesOf_ev _) (ev_then (specSpanOf_eq _ _ _) (ev_pos hp.1 (ev_pos hp.2.1 ?_)))
    refine Ev.bind (specSumOf_ev _ (bytesOf_bytes _)) ?_
    rw [bytesOf_strong _ hp.1]
    refine ev_neg (by rw [hp.2.2]; simp) ?_
    rw [w64 (by omega) (by omega)]
    exact h
  · intro i hi hp
    simp only [blockOk, Bool.and_eq_false_iff, decide_eq_false_iff_not] at hp
    refine Ev.step (fun k => rfl) ?_
    refine ev_pos (by omega) (ev_pos (by omega) ?_)
    simp only [rd_T72, Int.toNat_natCast]
    refine Ev.bind (specBytesOf_ev _) (ev_then (specSpanOf_eq _ _ _) ?_)
    refine ev_if (fun h1 => ?_) (fun _ => ev_some)
    refine ev_if (fun h2 => ?_) (fun _ => ev_some)
    refine Ev.bind (specSumOf_ev _ (bytesOf_bytes _)) ?_
    rw [bytesOf_strong _ h1]
    have h3 : ¬ weakOf (bytesOf (l.getD i z72).f1).1 = (l.getD i z72).f0 := by
      rcases hp with q | q | q
      · rw [h1] at q; cases q
      · exact absurd h2 q
      · exact q
    exact ev_pos (by rw [show (weakOf (bytesOf (l.getD i z72).f1).1 == (l.getD i z72).f0) = false from beq_eq_false_iff_ne.2 h3]; rfl) ev_some
  · refine Ev.step (fun k => rfl) ?_
    exact ev_neg (by omega) ev_some
theorem implMan_loop (a b c : Int) (l : List S72) (hl : l.length ≤ 1048576) : Ev (fun k => impl_ManOk.l0 k l (l.length : Int) 0 a b c l) ((List.range l.length).all (blockOk b c l)) := by
  refine loop_all (fun k i => impl_ManOk.l0 k l (l.length : Int) i a b c l) l.length _ ?_ ?_ ?_
  · intro i r hi hp h
    simp only [blockOk, Bool.and_eq_true, decide_eq_true_eq] at hp
    refine Ev.step (fun k => rfl) ?_
    refine ev_pos (by omega) (ev_pos (by omega) (ev_pos (by omega) ?_))
    simp only [rd_T72, Int.toNat_natCast]
    refine Ev.bind (implBytesOf_ev _) (ev_then (implSpanOf_eq _ _ _) (ev_pos hp.1 (ev_pos hp.2.1 ?_)))
    have hle := bytesOf_length (l.getD i z72).f1
    refine Ev.bind (implWeakOf_ev _ (by omega) (bytesOf_bytes _)) (ev_pos hp.2.2 ?_)
    rw [w64 (by omega) (by omega)]
    exact h
  · intro i hi hp
    simp only [blockOk, Bool.and_eq_false_iff, decide_eq_false_iff_not] at hp
    refine Ev.step (fun k => rfl) ?_
    refine ev_pos (by omega) (ev_pos (by omega) (ev_pos (by omega) ?_))
    simp only [rd_T72, Int.toNat_natCast]
    refine Ev.bind (implBytesOf_ev _) (ev_then (implSpanOf_eq _ _ _) ?_)
    refine ev_if (fun h1 => ?_) (fun _ => ev_some)
    refine ev_if (fun h2 => ?_) (fun _ => ev_some)
    have hle := bytesOf_length (l.getD i z72).f1
    refine Ev.bind (implWeakOf_ev _ (by omega) (bytesOf_bytes _)) ?_
    have h3 : ¬ weakOf (bytesOf (l.getD i z72).f1).1 = (l.getD i z72).f0 := by
      rcases hp with q | q | q
      · rw [h1] at q; cases q
      · exact absurd h2 q
      · exact q
    exact ev_neg h3 ev_some
  · refine Ev.step (fun k => rfl) ?_
    exact ev_neg (by omega) ev_some
theorem specManOk_ev (a b c : Int) (l : List S72) (hl : l.length ≤ 1048576) : Ev (fun k => spec_ManOk.f k a b c l) (manOk a b c l) := by
  unfold spec_ManOk.f manOk
  refine ev_if (fun ha => ?_) (fun ha => ?_)
  · rw [if_pos ha]
    refine ev_if (fun hb => ?_) (fun hb => ev_eq ev_some (by simp [hb]))
    refine ev_if (fun hc => ev_eq ev_some ?_) (fun hc => ev_eq ev_some (by simp [hc]))
    rw [Bool.eq_iff_iff]
    simp [hb, hc]
  · rw [if_neg ha, l1In_eq]
    simp only [Option.bind_some]
    have bad : ∀ (h : ¬ ((1 ≤ a ∧ a ≤ 1000000) ∧ sizeOk b c = true ∧ (l.length : Int) = blocks b c)), Ev (fun k => spec_ManOk.j0 k true a b c l) (if (1 ≤ a ∧ a ≤ 1000000) ∧ sizeOk b c = true ∧ (l.length : Int) = blocks b c then (List.range l.length).all (blockOk b c l) else false) := by
      intro h
      rw [if_neg h]
      refine Ev.step (fun k => rfl) ?_
      exact ev_some
    refine ev_if (fun h1 => ?_) (fun h1 => bad (fun z => h1 (by simpa using z.1)))
    rw [specSizeOk_eq]
    simp only [Option.bind_some]
    refine ev_if (fun h2 => ?_) (fun h2 => bad (fun z => h2 z.2.1))
    rw [specBlocks_eq]
    simp only [Option.bind_some]
    by_cases h3 : (l.length : Int) = blocks b c
    · have e : ((l.length : Int) != blocks b c) = false := by simp [h3]
      rw [e, if_pos ⟨by simpa using h1, h2, h3⟩]
      refine Ev.step (fun k => rfl) ?_
      exact specMan_loop a b c l hl
    · have e : ((l.length : Int) != blocks b c) = true := by simp [h3]
      rw [e]
      exact bad (fun z => h3 z.2.2)
theorem implManOk_ev (a b c : Int) (l : List S72) (hl : l.length ≤ 1048576) : Ev (fun k => impl_ManOk.f k a b c l) (manOk a b c l) := by
  unfold impl_ManOk.f manOk
  have ez : impl_isZeroMan.f a b c l = some (decide (a = 0 ∧ b = 0 ∧ c = 0 ∧ l.length = 0)) := by
    unfold impl_isZeroMan.f
    repeat' split
    all_goals simp_all
    all_goals rw [Bool.eq_iff_iff]; simp
  rw [ez]
  simp only [Option.bind_some]
  have bad : ∀ (h : ¬ ((1 ≤ a ∧ a ≤ 1000000) ∧ sizeOk b c = true ∧ (l.length : Int) = blocks b c)), Ev (fun k => impl_ManOk.j0 k true a b c l) (if (1 ≤ a ∧ a ≤ 1000000) ∧ sizeOk b c = true ∧ (l.length : Int) = blocks b c then (List.range l.length).all (blockOk b c l) else false) := by
    intro h
    rw [if_neg h]
    refine Ev.step (fun k => rfl) ?_
    exact ev_some
  by_cases ha : a = 0
  · rw [if_pos ha]
    refine ev_if (fun hz => ev_eq ev_some ?_) (fun hz => ?_)
    · simp only [decide_eq_true_eq] at hz
      simp [hz.2]
    · have e : decide (b = 0 ∧ c = 0 ∧ l.length = 0) = false := by
        simp only [decide_eq_true_eq] at hz
        rw [decide_eq_false_iff_not]
        exact fun q => hz ⟨ha, q⟩
      rw [e, within_eq]
      simp only [Option.bind_some]
      refine ev_neg (by simp; omega) ?_
      exact ev_eq (bad (by omega)) (by rw [if_neg (by omega)])
  · rw [if_neg ha]
    refine ev_neg (by simp [ha]) ?_
    rw [within_eq]
    simp only [Option.bind_some]
    refine ev_if (fun h1 => ?_) (fun h1 => bad (fun z => h1 (by simpa using z.1)))
    rw [implSizeOk_eq]
    simp only [Option.bind_some]
    refine ev_if (fun h2 => ?_) (fun h2 => bad (fun z => h2 z.2.1))
    rw [implBlocks_eq]
    simp only [Option.bind_some]
    by_cases h3 : (l.length : Int) = blocks b c
    · have e : ((l.length : Int) != blocks b c) = false := by simp [h3]
      rw [e, if_pos ⟨by simpa using h1, h2, h3⟩]
      refine Ev.step (fun k => rfl) ?_
      exact implMan_loop a b c l hl
    · have e : ((l.length : Int) != blocks b c) = true := by simp [h3]
      rw [e]
      exact bad (fun z => h3 z.2.2)
end Go.Proofs.Ytnoplippaiblcaa.Pb
/- Whether a number is a set of blocks. No condition. -/
namespace Go.Proofs.Ytnoplippaiblcaa.Pb
open Go.RowKit Go.Proofs.Ytnoplippaiblcaa Go.Proofs.Ytnoplippaiblcaa.Q Go.Proofs.YtnoplippaiblcaaW.PrintWords Go.Proofs.YtnoplippaiblcaaW.PrintLast
set_option linter.unusedVariables false
set_option linter.unusedSimpArgs false

/-- A set of blocks. -/
def setOk (s : Int) : Bool := decide (0 ≤ s ∧ s ≤ 1099511627775)
theorem specSetOk_eq (s : Int) : spec_SetOk.f s = some (setOk s) := by
  unfold spec_SetOk.f
  rw [l1In_eq]
  rfl
theorem implSetOk_eq (s : Int) : impl_SetOk.f s = some (setOk s) := by
  unfold impl_SetOk.f
  rw [within_eq]
  rfl
end Go.Proofs.Ytnoplippaiblcaa.Pb
/- What a build still lacks: sets of blocks, with one another taken away. No condition. -/
namespace Go.Proofs.Ytnoplippaiblcaa.Pb
open Go.RowKit Go.Proofs.Ytnoplippaiblcaa Go.Proofs.Ytnoplippaiblcaa.Q Go.Proofs.YtnoplippaiblcaaW.PrintWords Go.Proofs.YtnoplippaiblcaaW.PrintLast
set_option linter.unusedVariables false
set_option linter.unusedSimpArgs false

def fullSet (n : Int) : Int := if 0 ≤ n ∧ n ≤ 40 then wrap64 ((shl .i64 1 n) - 1) else 0
theorem specFullSet_eq (n : Int) : spec_FullSet.f n = some (fullSet n) := by
  unfold spec_FullSet.f fullSet
  rw [l1In_eq]
  simp only [Option.bind_some]
  by_cases h : 0 ≤ n ∧ n ≤ 40
  · rw [if_pos (by simpa using h), if_pos h.1, if_pos h]
  · rw [if_neg (by simpa using h), if_neg h]
theorem implFullSet_eq (n : Int) : impl_FullSet.f n = some (fullSet n) := by
  unfold impl_FullSet.f fullSet
  rw [within_eq]
  simp only [Option.bind_some]
  by_cases h : 0 ≤ n ∧ n ≤ 40
  · rw [if_pos (by simpa using h), if_pos h.1, if_pos h]
  · rw [if_neg (by simpa using h), if_neg h]
def without (a b : Int) : Int := if setOk a = true then (if setOk b = true then Go.bits .andNot .i64 a b else 0) else 0
theorem specWithout_eq (a b : Int) : spec_Without.f a b = some (without a b) := by
  unfold spec_Without.f without
  rw [specSetOk_eq, specSetOk_eq]
  simp only [Option.bind_some]
  by_cases h : setOk a = true
  · rw [if_pos h, if_pos h]
    by_cases h' : setOk b = true
    · rw [if_pos h', if_pos h']
    · rw [if_neg h', if_neg h']
  · rw [if_neg h, if_neg h]
theorem implWithout_eq (a b : Int) : impl_Without.f a b = some (without a b) := by
  unfold impl_Without.f without
  rw [implSetOk_eq, implSetOk_eq]
  simp only [Option.bind_some]
  by_cases h : setOk a = true
  · rw [if_pos h, if_pos h]
    by_cases h' : setOk b = true
    · rw [if_pos h', if_pos h']
    · rw [if_neg h', if_neg h']
  · rw [if_neg h, if_neg h]
def missing (l : List S72) (h : Int) : Int := without (fullSet l.length) h
theorem specMissing_eq (a b c : Int) (l : List S72) (h : Int) (m : List Int) : spec_Missing.f a b c l h m = some (missing l h) := by
  unfold spec_Missing.f spec_AllParts.f missing
  rw [specFullSet_eq]
  simp only [Option.bind_some]
  rw [specWithout_eq]
  rfl
theorem implMissing_eq (a b c : Int) (l : List S72) (h : Int) (m : List Int) : impl_Missing.f a b c l h m = some (missing l h) := by
  unfold impl_Missing.f impl_AllParts.f missing
  rw [implFullSet_eq]
  simp only [Option.bind_some]
  rw [implWithout_eq]
  rfl
end Go.Proofs.Ytnoplippaiblcaa.Pb
/- The blocks in a set, one by one. No condition. -/
namespace Go.Proofs.Ytnoplippaiblcaa.Pb
open Go.RowKit Go.Proofs.Ytnoplippaiblcaa Go.Proofs.Ytnoplippaiblcaa.Q Go.Proofs.YtnoplippaiblcaaW.PrintWords Go.Proofs.YtnoplippaiblcaaW.PrintLast Go.Proofs.YtnoplippaiblcaaW.PrintMore
set_option linter.unusedVariables false
set_option linter.unusedSimpArgs false

def inSet (s i : Int) : Bool := if setOk s = true then (if 0 ≤ i ∧ i ≤ 39 then (Go.bits .and .i64 (shr .i64 s i) 1) == 1 else false) else false
theorem specInSet_eq (s i : Int) : spec_InSet.f s i = some (inSet s i) := by
  unfold spec_InSet.f inSet
  rw [specSetOk_eq]
  simp only [Option.bind_some]
  by_cases h : setOk s = true
  · rw [if_pos h, if_pos h, l1In_eq]
    simp only [Option.bind_some]
    by_cases q : 0 ≤ i ∧ i ≤ 39
    · rw [if_pos (by simpa using q), if_pos q.1, if_pos q]
    · rw [if_neg (by simpa using q), if_neg q]
  · rw [if_neg h, if_neg h]
theorem implInSet_eq (s i : Int) : impl_InSet.f s i = some (inSet s i) := by
  unfold impl_InSet.f inSet
  rw [implSetOk_eq]
  simp only [Option.bind_some]
  by_cases h : setOk s = true
  · rw [if_pos h, if_pos h]
    have e : impl_isPlace.f i = some (decide (0 ≤ i ∧ i ≤ 39)) := by
      unfold impl_isPlace.f
      rw [within_eq]
      rfl
    rw [e]
    simp only [Option.bind_some]
    by_cases q : 0 ≤ i ∧ i ≤ 39
    · rw [if_pos (by simpa using q), if_pos q.1, if_pos q]
    · rw [if_neg (by simpa using q), if_neg q]
  · rw [if_neg h, if_neg h]
def partsIn (s : Int) : List Int := iter 40 (fun (i : Nat) (a : List Int) => if inSet s i = true then a ++ [(i : Int)] else a) []
theorem parts_len (s : Int) (n : Nat) : (iter n (fun (i : Nat) (a : List Int) => if inSet s i = true then a ++ [(i : Int)] else a) []).length ≤ n := by
  induction n with
  | zero => simp [iter_zero]
  | succ n ih =>
    rw [iter_succ]
    split
    · rw [List.length_append, List.length_singleton]; omega
    · omega
theorem specPartsIn_ev (s : Int) : Ev (fun k => spec_PartsIn.f k s) (partsIn s) := by
  unfold spec_PartsIn.f
  refine loop_up (fun k a i => spec_PartsIn.l0 k s a i) 40 (fun (i : Nat) (a : List Int) => if inSet s i = true then a ++ [(i : Int)] else a) (fun i a => a.length ≤ i) [] _ (by simp) ?_ ?_ ?_
  · intro i a hi h
    split
    · rw [List.length_append, List.length_singleton]; omega
    · omega
  · intro i a r hi hs h
    refine Ev.step (fun k => rfl) ?_
    refine ev_pos (by omega) (ev_then (specInSet_eq _ _) ?_)
    rw [w64 (x := (i : Int) + 1) (by omega) (by omega)]
    refine ev_if (fun hb => ev_pos (by omega) ?_) (fun hb => ?_)
    · rw [if_pos hb] at h; exact h
    · rw [if_neg hb] at h; exact h
  · intro hs
    refine Ev.step (fun k => rfl) ?_
    exact ev_neg (by decide) ev_some
theorem implPartsIn_ev (s : Int) : Ev (fun k => impl_PartsIn.f k s) (partsIn s) := by
  unfold impl_PartsIn.f
  refine loop_up (fun k a i => impl_PartsIn.l0 k s a i) 40 (fun (i : Nat) (a : List Int) => if inSet s i = true then a ++ [(i : Int)] else a) (fun i a => a.length ≤ i) [] _ (by simp) ?_ ?_ ?_
  · intro i a hi h
    split
    · rw [List.length_append, List.length_singleton]; omega
    · omega
  · intro i a r hi hs h
    refine Ev.step (fun k => rfl) ?_
    refine ev_pos (by omega) (ev_then (implInSet_eq _ _) ?_)
    rw [w64 (x := (i : Int) + 1) (by omega) (by omega)]
    refine ev_if (fun hb => ev_pos (by omega) ?_) (fun hb => ?_)
    · rw [if_pos hb] at h; exact h
    · rw [if_neg hb] at h; exact h
  · intro hs
    refine Ev.step (fun k => rfl) ?_
    exact ev_neg (by decide) ev_some
end Go.Proofs.Ytnoplippaiblcaa.Pb
/- Sets of blocks, bit by bit. No condition beyond forty of them. -/
namespace Go.Proofs.Ytnoplippaiblcaa.Pb
open Go.RowKit Go.Proofs.YtnoplippaiblcaaW.PrintWords Go.Proofs.YtnoplippaiblcaaW.PrintLast Go.Proofs.YtnoplippaiblcaaW.PrintMore
set_option linter.unusedVariables false
set_option linter.unusedSimpArgs false

theorem shl_one (m : Nat) (h : m ≤ 40) : shl .i64 1 (m : Int) = ((2 ^ m : Nat) : Int) := by
  have hp : (2 : Nat) ^ m ≤ 2 ^ 40 := Nat.pow_le_pow_right (by decide) h
  unfold shl
  rw [Int.toNat_natCast, Nat.min_eq_left (by simp [IntKind.bits]; omega), Int.one_mul, show (2 : Int) ^ m = ((2 ^ m : Nat) : Int) by simp]
  generalize 2 ^ m = p at hp ⊢
  exact wraps_i64 _ (by omega) (by omega)
/-- The numbers under m that p holds of, a bit each. -/
def bs (p : Nat → Bool) : Nat → Nat
  | 0 => 0
  | m + 1 => bs p m + (if p m = true then 2 ^ m else 0)
theorem bs_lt (p : Nat → Bool) (m : Nat) : bs p m < 2 ^ m := by
  induction m with
  | zero => simp [bs]
  | succ m ih =>
    rw [bs, Nat.pow_succ]
    split <;> omega
theorem bs_not (p : Nat → Bool) (m : Nat) : bs p m + bs (fun i => !p i) m = 2 ^ m - 1 := by
  induction m with
  | zero => simp [bs]
  | succ m ih =>
    have h1 : 0 < 2 ^ m := Nat.two_pow_pos m
    rw [bs, bs, Nat.pow_succ]
    cases hp : p m <;> simp <;> omega
theorem or_bit (x m : Nat) (hm : m ≤ 40) (hx : x < 2 ^ m) : Go.bits .or .i64 (x : Int) (shl .i64 1 (m : Int)) = ((x + 2 ^ m : Nat) : Int) := by
  have hp : (2 : Nat) ^ m ≤ 2 ^ 40 := Nat.pow_le_pow_right (by decide) hm
  rw [shl_one m hm, or_nat _ _ (by omega) (by omega)]
  have := Nat.two_pow_add_eq_or_of_lt hx 1
  rw [Nat.mul_one, Nat.or_comm] at this
  omega
theorem andNot_mask (x m : Nat) (hm : m ≤ 40) (hx : x < 2 ^ m) : Go.bits .andNot .i64 ((2 ^ m - 1 : Nat) : Int) (x : Int) = ((2 ^ m - 1 - x : Nat) : Int) := by
  have hp : (2 : Nat) ^ m ≤ 2 ^ 40 := Nat.pow_le_pow_right (by decide) hm
  have h0 : 0 < 2 ^ m := Nat.two_pow_pos m
  have key : (BitVec.ofInt 64 ((2 ^ m - 1 : Nat) : Int) &&& ~~~ BitVec.ofInt 64 (x : Int)).toNat = 2 ^ m - 1 - x := by
    rw [BitVec.toNat_and, BitVec.toNat_not, BitVec.ofInt_natCast, BitVec.ofInt_natCast, BitVec.toNat_ofNat, BitVec.toNat_ofNat, Nat.mod_eq_of_lt (a := 2 ^ m - 1) (by omega), Nat.mod_eq_of_lt (a := x) (by omega), Nat.and_comm, Nat.and_two_pow_sub_one_eq_mod]
    have hd : (2 : Nat) ^ 64 = 2 ^ (64 - m) * 2 ^ m := by rw [← Nat.pow_add]; congr 1; omega
    have hq : 0 < 2 ^ (64 - m) := Nat.two_pow_pos _
    have e : 2 ^ 64 - 1 - x = (2 ^ m - 1 - x) + 2 ^ m * (2 ^ (64 - m) - 1) := by
      rw [Nat.mul_sub, Nat.mul_one, Nat.mul_comm, ← hd]
      omega
    rw [e, Nat.add_mul_mod_self_left, Nat.mod_eq_of_lt (by omega)]
  show IntKind.i64.wrap ((BitVec.ofInt 64 ((2 ^ m - 1 : Nat) : Int) &&& ~~~ BitVec.ofInt 64 (x : Int)).toNat : Nat) = _
  rw [key]
  exact wraps_i64 _ (by omega) (by omega)
end Go.Proofs.Ytnoplippaiblcaa.Pb
/- A block's sum, as the program makes it. No condition beyond the bytes' range. -/
namespace Go.Proofs.Ytnoplippaiblcaa.Pb
open Go.RowKit Go.Proofs.Ytnoplippaiblcaa Go.Proofs.Ytnoplippaiblcaa.Q Go.Proofs.YtnoplippaiblcaaW.PrintWords Go.Proofs.YtnoplippaiblcaaW.PrintLast
set_option linter.unusedVariables false
set_option linter.unusedSimpArgs false

theorem or_byte (s b : Int) (h0 : 0 ≤ s) (h1 : s ≤ 562949953421311) (hb : 0 ≤ b ∧ b ≤ 255) : Go.bits .or .i64 (s * 256) b = 256 * s + b := by
  obtain ⟨a, rfl⟩ := Int.eq_ofNat_of_zero_le h0
  obtain ⟨c, rfl⟩ := Int.eq_ofNat_of_zero_le hb.1
  have e : ((a : Int) * 256) = ((2 ^ 8 * a : Nat) : Int) := by omega
  rw [e, or_nat _ _ (by omega) (by omega), ← Nat.two_pow_add_eq_or_of_lt (by omega)]
  omega
theorem implSumOf_ev (l : List Int) (hb : Bytes l) : Ev (fun k => impl_SumOf.f k l) (sumOf l) := by
  unfold impl_SumOf.f sumOf
  refine ev_if (fun h => ev_eq ev_some (by rw [if_pos h])) (fun h => ?_)
  rw [if_neg h]
  refine loop_up (σ := Int) (fun k s i => impl_SumOf.l0 k l s l (l.length : Int) i) l.length (fun i s => 256 * s + l.getD i 0) (fun i s => StrongIn i s) 1 _ (by simp [StrongIn]) (fun i s _ hs => strongIn_step hs (bytes_getD hb i)) ?_ ?_
  · intro i s r hi hs h
    have q := strongIn_le hs (by omega)
    have z := bytes_getD hb i
    refine Ev.step (fun k => rfl) ?_
    refine ev_pos (by omega) (ev_pos (by omega) (ev_pos (by omega) ?_))
    simp only [rd, Int.toNat_natCast]
    rw [w64 (x := s * 256) (by omega) (by omega), w64 (x := l.getD i 0) (by omega) (by omega), or_byte s _ (by omega) (by omega) z, w64 (x := (i : Int) + 1) (by omega) (by omega)]
    exact h
  · intro hs
    refine Ev.step (fun k => rfl) ?_
    refine ev_neg (by omega) (Ev.bind (implWeakOf_ev l (by omega) hb) (ev_eq ev_some ?_))
    rw [iter_foldl_all (fun s b => 256 * s + b) l 0 1]
    rfl
end Go.Proofs.Ytnoplippaiblcaa.Pb
/- Whether a build is a good one: the program's and the reference's ways. No condition beyond the rows' lengths, and that its bytes are bytes. -/
namespace Go.Proofs.Ytnoplippaiblcaa.Pb
open Go.RowKit Go.Proofs.Ytnoplippaiblcaa Go.Proofs.Ytnoplippaiblcaa.Q Go.Proofs.YtnoplippaiblcaaW.PrintWords Go.Proofs.YtnoplippaiblcaaW.PrintLast
set_option linter.unusedVariables false
set_option linter.unusedSimpArgs false

theorem setOk_full (n : Int) : setOk (fullSet n) = true := by
  unfold setOk fullSet
  rw [decide_eq_true_eq]
  split
  · rename_i h
    have e : n = ((n.toNat : Nat) : Int) := by omega
    have hm : n.toNat ≤ 40 := by omega
    have hp : 2 ^ n.toNat ≤ 1099511627776 := Nat.le_trans (Nat.pow_le_pow_right (by decide) hm) (by decide)
    have h0 : 0 < 2 ^ n.toNat := Nat.two_pow_pos _
    rw [e, shl_one _ hm, w64 (by omega) (by omega)]
    omega
  · omega
/-- The bytes of a block. -/
def piece (b c : Int) (m : List Int) (i : Int) : List Int := (m.take ((spanOf b c i).1 + (spanOf b c i).2).toNat).drop (spanOf b c i).1.toNat
theorem bytes_piece {m : List Int} (h : Bytes m) (b c i : Int) : Bytes (piece b c m i) := fun x hx => h x (List.mem_of_mem_take (List.mem_of_mem_drop hx))
theorem piece_length (b c : Int) (m : List Int) (i : Int) : (piece b c m i).length ≤ 240 := by
  have := spanOf_range b c i
  unfold piece
  rw [List.length_drop, List.length_take]
  omega
theorem span_in {b c : Int} {m : List Int} (hc : (m.length : Int) = c) (i : Int) : (spanOf b c i).1 + (spanOf b c i).2 ≤ m.length := by
  unfold spanOf
  split
  · rename_i h
    have s := span_at h
    simp only
    split <;> omega
  · simp
theorem implBlock_eq (h : Int) (m : List Int) (a b c : Int) (l : List S72) (i : Int) (hi : (spanOf b c i).1 + (spanOf b c i).2 ≤ m.length) : impl_Build_block.f h m a b c l i = some (piece b c m i) := by
  unfold impl_Build_block.f piece
  have r := spanOf_range b c i
  rw [implSpanOf_eq]
  simp only [Option.bind_some]
  rw [w64 (by omega) (by omega), if_pos (by omega), if_pos (by omega), if_pos (by omega)]
def zeros (s : List Int) : Bool := (List.range s.length).all (fun i => decide (rd s (i : Int) = 0))
theorem specZero_ev (s : List Int) (hl : s.length ≤ 1048576) : Ev (fun k => spec_l8Zero.f k s) (zeros s) := by
  unfold spec_l8Zero.f zeros
  refine loop_all (fun k i => spec_l8Zero.l0 k s i) s.length (fun i => decide (rd s (i : Int) = 0)) ?_ ?_ ?_
  · intro i r hi hp h
    refine Ev.step (fun k => rfl) (ev_pos (by omega) (ev_pos (by omega) (ev_pos (of_decide_eq_true hp) ?_)))
    rw [w64 (by omega) (by omega)]
    exact h
  · intro i hi hp
    exact Ev.step (fun k => rfl) (ev_pos (by omega) (ev_pos (by omega) (ev_neg (of_decide_eq_false hp) ev_some)))
  · exact Ev.step (fun k => rfl) (ev_neg (by omega) ev_some)
theorem implNonzero_ev (s : List Int) (hl : s.length ≤ 1048576) : Ev (fun k => slices_ContainsFunc_byte_byte.f k s) (!zeros s) := by
  have one : ∀ x : Int, impl_BuildOk_1.f x = some (!decide (x = 0)) := by
    intro x
    unfold impl_BuildOk_1.f
    by_cases h : x = 0
    · subst h; rfl
    · rw [decide_eq_false h]
      exact congrArg some (bne_iff_ne.mpr h)
  have h := loop_find (fun k i => slices_IndexFunc_byte_byte.l0 k s (s.length : Int) i) s.length (fun i => !decide (rd s (i : Int) = 0)) (fun i => (i : Int)) (-1) (fun i hi hp => by
      exact Ev.step (fun k => rfl) (ev_pos (by omega) (ev_pos (by omega) (ev_pos (by omega) (ev_then (one _) (ev_pos hp ev_some)))))) (fun i r hi hp h => by
      refine Ev.step (fun k => rfl) (ev_pos (by omega) (ev_pos (by omega) (ev_pos (by omega) (ev_then (one _) (ev_neg (by rw [hp]; decide) ?_)))))
      rw [w64 (by omega) (by omega)]
      exact h) (Ev.step (fun k => rfl) (ev_neg (by omega) ev_some))
  unfold slices_ContainsFunc_byte_byte.f slices_IndexFunc_byte_byte.f
  refine Ev.bind h (ev_eq ev_some ?_)
  unfold zeros
  cases hf : (List.range s.length).find? (fun i : Nat => !decide (rd s (i : Int) = 0)) with
  | some i =>
    have h1 := List.find?_some hf
    have h2 := List.mem_of_find?_eq_some hf
    have h3 : (List.range s.length).all (fun i => decide (rd s (i : Int) = 0)) = false := by
      rw [List.all_eq_false]
      exact ⟨i, h2, by simpa using h1⟩
    rw [h3]
    exact decide_eq_true (Int.natCast_nonneg i)
  | none =>
    have h3 : (List.range s.length).all (fun i => decide (rd s (i : Int) = 0)) = true := by
      rw [List.all_eq_true]
      intro x hx
      have := List.find?_eq_none.1 hf x hx
      simpa using this
    rw [h3]
    rfl
/-- A block that it has: its sum; another: zeros. -/
def sumIs (s : Int × Int) (x : S72) : Bool := (s.1 == x.f0) && (s.2 == x.f1)
theorem sum_ne (s : Int × Int) (x : S72) : (!(s.1 == x.f0) || (!(s.2 == x.f1))) = !sumIs s x := by
  unfold sumIs
  cases (s.1 == x.f0) <;> cases (s.2 == x.f1) <;> rfl
def partOk (b c : Int) (l : List S72) (h : Int) (m : List Int) (i : Nat) : Bool := if inSet h (i : Int) = true then sumIs (sumOf (piece b c m (i : Int))) (l.getD i z72) else zeros (piece b c m (i : Int))
def buildOk (a b c : Int) (l : List S72) (h : Int) (m : List Int) : Bool := manOk a b c l && (setOk h && (decide (Go.bits .andNot .i64 h (fullSet l.length) = 0) && (decide ((m.length : Int) = c) && (List.range l.length).all (partOk b c l h m))))
theorem manOk_blocks {a b c : Int} {l : List S72} (h : manOk a b c l = true) : l.length ≤ 40 ∧ (l.length : Int) ≤ blocks b c := by
  have r := blocks_range b c
  unfold manOk at h
  split at h
  · have := of_decide_eq_true h
    omega
  · split at h
    · rename_i q
      omega
    · cases h
theorem specBuildOk_ev (a b c : Int) (l : List S72) (h : Int) (m : List Int) (hl : l.length ≤ 1048576) (hb : Bytes m) : Ev (fun k => spec_BuildOk.f k a b c l h m) (buildOk a b c l h m) := by
  unfold spec_BuildOk.f buildOk
  have badE : Ev (fun k => spec_BuildOk.j0 k true a b c l h m) false := Ev.step (fun k => rfl) (ev_true (g := fun k => spec_BuildOk.l0 k 0 a b c l h m) ev_some)
  refine Ev.bind (specManOk_ev a b c l hl) ?_
  by_cases h1 : manOk a b c l = true
  · refine ev_pos h1 (ev_then (specSetOk_eq h) ?_)
    rw [h1, Bool.true_and]
    have hn := manOk_blocks h1
    by_cases h2 : setOk h = true
    · refine ev_pos h2 ?_
      rw [h2, Bool.true_and]
      have ew : without h (fullSet l.length) = Go.bits .andNot .i64 h (fullSet l.length) := by
        unfold without
        rw [if_pos h2, if_pos (setOk_full _)]
      refine ev_then (show spec_AllParts.f a b c l = some (fullSet l.length) by unfold spec_AllParts.f; rw [specFullSet_eq]; rfl) (ev_then (specWithout_eq _ _) ?_)
      rw [ew]
      by_cases h3 : Go.bits .andNot .i64 h (fullSet l.length) = 0
      · refine ev_pos h3 (Ev.step (fun k => rfl) ?_)
        rw [decide_eq_true h3, Bool.true_and]
        by_cases h4 : (m.length : Int) = c
        · refine ev_neg (by simpa using h4) ?_
          rw [decide_eq_true h4, Bool.true_and]
          refine loop_all (fun k i => spec_BuildOk.l0 k i a b c l h m) l.length (partOk b c l h m) ?_ ?_ ?_
          · intro i r hi hp hr
            have hs := span_in (b := b) h4 (i : Int)
            have r := spanOf_range b c (i : Int)
            have pl := piece_length b c m (i : Int)
            refine Ev.step (fun k => rfl) (ev_pos (by omega) (ev_then (specSpanOf_eq _ _ _) ?_))
            rw [w64 (x := (spanOf b c (i : Int)).1 + (spanOf b c (i : Int)).2) (by omega) (by omega)]
            refine ev_pos r.1 (ev_pos (by omega) (ev_pos hs (ev_then (specInSet_eq _ _) ?_)))
            unfold partOk at hp
            by_cases q : inSet h (i : Int) = true
            · rw [if_pos q] at hp
              refine ev_pos q (Ev.bind (specSumOf_ev _ (bytes_piece hb b c (i : Int))) (ev_pos (by omega) ?_))
              simp only [rd_T72, Int.toNat_natCast]
              refine ev_neg (by have e := sum_ne (sumOf (piece b c m (i : Int))) (l.getD i z72); rw [hp] at e; unfold piece at e; rw [e]; decide) (ev_then (specInSet_eq _ _) (ev_pos q ?_))
              rw [w64 (by omega) (by omega)]
              exact hr
            · rw [if_neg q] at hp
              refine ev_neg q (ev_then (specInSet_eq _ _) (ev_neg q (Ev.bind (specZero_ev (piece b c m (i : Int)) (by omega)) (ev_pos hp ?_))))
              rw [w64 (by omega) (by omega)]
              exact hr
          · intro i hi hp
            have hs := span_in (b := b) h4 (i : Int)
            have r := spanOf_range b c (i : Int)
            have pl := piece_length b c m (i : Int)
            refine Ev.step (fun k => rfl) (ev_pos (by omega) (ev_then (specSpanOf_eq _ _ _) ?_))
            rw [w64 (x := (spanOf b c (i : Int)).1 + (spanOf b c (i : Int)).2) (by omega) (by omega)]
            refine ev_pos r.1 (ev_pos (by omega) (ev_pos hs (ev_then (specInSet_eq _ _) ?_)))
            unfold partOk at hp
            by_cases q : inSet h (i : Int) = true
            · rw [if_pos q] at hp
              refine ev_pos q (Ev.bind (specSumOf_ev _ (bytes_piece hb b c (i : Int))) (ev_pos (by omega) ?_))
              simp only [rd_T72, Int.toNat_natCast]
              exact ev_pos (by have e := sum_ne (sumOf (piece b c m (i : Int))) (l.getD i z72); rw [hp] at e; unfold piece at e; rw [e]; rfl) ev_some
            · rw [if_neg q] at hp
              exact ev_neg q (ev_then (specInSet_eq _ _) (ev_neg q (Ev.bind (specZero_ev (piece b c m (i : Int)) (by omega)) (ev_neg (by rw [hp]; decide) ev_some))))
          · exact Ev.step (fun k => rfl) (ev_neg (by omega) ev_some)
        · refine ev_pos (by simpa using h4) (ev_eq ev_some ?_)
          rw [decide_eq_false h4, Bool.false_and]
      · refine ev_neg h3 (ev_eq badE ?_)
        rw [decide_eq_false h3, Bool.false_and]
    · refine ev_neg h2 (ev_eq badE ?_)
      rw [Bool.eq_false_iff.mpr h2, Bool.false_and]
  · refine ev_neg h1 (ev_eq badE ?_)
    rw [Bool.eq_false_iff.mpr h1, Bool.false_and]
theorem implBuildOk_ev (a b c : Int) (l : List S72) (h : Int) (m : List Int) (hl : l.length ≤ 1048576) (hb : Bytes m) : Ev (fun k => impl_BuildOk.f k a b c l h m) (buildOk a b c l h m) := by
  unfold impl_BuildOk.f buildOk
  have badE : Ev (fun k => impl_BuildOk.j0 k true a b c l h m) false := Ev.step (fun k => rfl) (ev_true (g := fun k => impl_BuildOk.l0 k l (l.length : Int) 0 a b c l h m) ev_some)
  refine Ev.bind (implManOk_ev a b c l hl) ?_
  by_cases h1 : manOk a b c l = true
  · refine ev_pos h1 (ev_then (implSetOk_eq h) ?_)
    rw [h1, Bool.true_and]
    have hn := manOk_blocks h1
    by_cases h2 : setOk h = true
    · refine ev_pos h2 ?_
      rw [h2, Bool.true_and]
      refine ev_then (show impl_AllParts.f a b c l = some (fullSet l.length) by unfold impl_AllParts.f; rw [implFullSet_eq]; rfl) ?_
      by_cases h3 : Go.bits .andNot .i64 h (fullSet l.length) = 0
      · refine ev_pos h3 (Ev.step (fun k => rfl) ?_)
        rw [decide_eq_true h3, Bool.true_and]
        by_cases h4 : (m.length : Int) = c
        · refine ev_neg (by simpa using h4) ?_
          rw [decide_eq_true h4, Bool.true_and]
          refine loop_all (fun k i => impl_BuildOk.l0 k l (l.length : Int) i a b c l h m) l.length (partOk b c l h m) ?_ ?_ ?_
          · intro i r hi hp hr
            have hs := span_in (b := b) h4 (i : Int)
            have pl := piece_length b c m (i : Int)
            refine Ev.step (fun k => rfl) (ev_pos (by omega) (ev_pos (by omega) (ev_pos (by omega) (ev_then (implBlock_eq h m a b c l (i : Int) hs) (ev_then (implInSet_eq _ _) ?_)))))
            unfold partOk at hp
            by_cases q : inSet h (i : Int) = true
            · rw [if_pos q] at hp
              refine ev_pos q (Ev.bind (implSumOf_ev _ (bytes_piece hb b c (i : Int))) ?_)
              simp only [rd_T72, Int.toNat_natCast]
              refine ev_neg (by rw [sum_ne, hp]; decide) (ev_then (implInSet_eq _ _) (ev_pos q ?_))
              rw [w64 (by omega) (by omega)]
              exact hr
            · rw [if_neg q] at hp
              refine ev_neg q (ev_then (implInSet_eq _ _) (ev_neg q (Ev.bind (implNonzero_ev (piece b c m (i : Int)) (by omega)) (ev_neg (by rw [hp]; decide) ?_))))
              rw [w64 (by omega) (by omega)]
              exact hr
          · intro i hi hp
            have hs := span_in (b := b) h4 (i : Int)
            have pl := piece_length b c m (i : Int)
            refine Ev.step (fun k => rfl) (ev_pos (by omega) (ev_pos (by omega) (ev_pos (by omega) (ev_then (implBlock_eq h m a b c l (i : Int) hs) (ev_then (implInSet_eq _ _) ?_)))))
            unfold partOk at hp
            by_cases q : inSet h (i : Int) = true
            · rw [if_pos q] at hp
              refine ev_pos q (Ev.bind (implSumOf_ev _ (bytes_piece hb b c (i : Int))) ?_)
              simp only [rd_T72, Int.toNat_natCast]
              exact ev_pos (by rw [sum_ne, hp]; rfl) ev_some
            · rw [if_neg q] at hp
              exact ev_neg q (ev_then (implInSet_eq _ _) (ev_neg q (Ev.bind (implNonzero_ev (piece b c m (i : Int)) (by omega)) (ev_pos (by rw [hp]; rfl) ev_some))))
          · exact Ev.step (fun k => rfl) (ev_neg (by omega) ev_some)
        · refine ev_pos (by simpa using h4) (ev_eq ev_some ?_)
          rw [decide_eq_false h4, Bool.false_and]
      · refine ev_neg h3 (ev_eq badE ?_)
        rw [decide_eq_false h3, Bool.false_and]
    · refine ev_neg h2 (ev_eq badE ?_)
      rw [Bool.eq_false_iff.mpr h2, Bool.false_and]
  · refine ev_neg h1 (ev_eq badE ?_)
    rw [Bool.eq_false_iff.mpr h1, Bool.false_and]
end Go.Proofs.Ytnoplippaiblcaa.Pb
/- The strong sum tells the bytes. No condition beyond their range. -/
namespace Go.Proofs.Ytnoplippaiblcaa.Pb
open Go.RowKit Go.Proofs.Ytnoplippaiblcaa Go.Proofs.Ytnoplippaiblcaa.Q Go.Proofs.YtnoplippaiblcaaW.PrintWords Go.Proofs.YtnoplippaiblcaaW.PrintLast
set_option linter.unusedVariables false
set_option linter.unusedSimpArgs false

theorem strongFrom_bounds : ∀ (l : List Int) (s : Int), Bytes l → s * 256 ^ l.length ≤ l.foldl (fun s b => 256 * s + b) s ∧ l.foldl (fun s b => 256 * s + b) s < (s + 1) * 256 ^ l.length
  | [], s, _ => by simp; omega
  | b :: l, s, h => by
    have hb := h b (by simp)
    have ih := strongFrom_bounds l (256 * s + b) (fun x hx => h x (by simp [hx]))
    rw [List.foldl_cons, List.length_cons, pow256_succ]
    have hp : (0 : Int) < 256 ^ l.length := Int.pow_pos (by decide)
    generalize (256 : Int) ^ l.length = p at ih hp ⊢
    have e1 : (256 * s + b) * p = 256 * (s * p) + b * p := by rw [Int.add_mul, Int.mul_assoc]
    have e2 : (256 * s + b + 1) * p = 256 * (s * p) + b * p + p := by rw [Int.add_mul, e1, Int.one_mul]
    have e3 : s * (256 * p) = 256 * (s * p) := by rw [← Int.mul_assoc, Int.mul_comm s 256, Int.mul_assoc]
    have e4 : (s + 1) * (256 * p) = 256 * (s * p) + 256 * p := by rw [Int.add_mul, e3, Int.one_mul]
    have e5 : 0 ≤ b * p := Int.mul_nonneg hb.1 (Int.le_of_lt hp)
    have e6 : b * p ≤ 255 * p := Int.mul_le_mul_of_nonneg_right hb.2 (Int.le_of_lt hp)
    rw [e1, e2] at ih
    rw [e3, e4]
    omega
theorem strong_length {l m : List Int} (hl : Bytes l) (hm : Bytes m) (h6 : l.length ≤ 6) (m6 : m.length ≤ 6) (h : strong l = strong m) : l.length = m.length := by
  have a := strongFrom_bounds l 1 hl
  have b := strongFrom_bounds m 1 hm
  unfold strong at h
  rw [h] at a
  generalize l.length = x at a h6 ⊢
  generalize m.length = y at b m6 ⊢
  rcases (show x = 0 ∨ x = 1 ∨ x = 2 ∨ x = 3 ∨ x = 4 ∨ x = 5 ∨ x = 6 by omega) with rfl | rfl | rfl | rfl | rfl | rfl | rfl <;>
    rcases (show y = 0 ∨ y = 1 ∨ y = 2 ∨ y = 3 ∨ y = 4 ∨ y = 5 ∨ y = 6 by omega) with rfl | rfl | rfl | rfl | rfl | rfl | rfl <;>
    simp only [p256_0, p256_1, p256_2, p256_3, p256_4, p256_5, p256_6] at a b ⊢ <;> omega
theorem strongFrom_inj : ∀ (l m : List Int) (s t : Int), Bytes l → Bytes m → l.length = m.length → l.foldl (fun s b => 256 * s + b) s = m.foldl (fun s b => 256 * s + b) t → s = t ∧ l = m
  | [], [], s, t, _, _, _, h => ⟨h, rfl⟩
  | [], _ :: _, _, _, _, _, e, _ => by simp at e
  | _ :: _, [], _, _, _, _, e, _ => by simp at e
  | a :: l, b :: m, s, t, hl, hm, e, h => by
    have ha := hl a (by simp)
    have hb := hm b (by simp)
    obtain ⟨h1, rfl⟩ := strongFrom_inj l m (256 * s + a) (256 * t + b) (fun x hx => hl x (by simp [hx])) (fun x hx => hm x (by simp [hx])) (by simpa using e) h
    obtain rfl : a = b := by omega
    obtain rfl : s = t := by omega
    exact ⟨rfl, rfl⟩
theorem strong_inj {l m : List Int} (hl : Bytes l) (hm : Bytes m) (h6 : l.length ≤ 6) (m6 : m.length ≤ 6) (h : strong l = strong m) : l = m :=
  (strongFrom_inj l m 1 1 hl hm (strong_length hl hm h6 m6 h) h).2
theorem strong_pos (l : List Int) (h : Bytes l) : 1 ≤ strong l := by
  have a := (strongFrom_bounds l 1 h).1
  have : (0 : Int) < 256 ^ l.length := Int.pow_pos (by decide)
  unfold strong
  omega
end Go.Proofs.Ytnoplippaiblcaa.Pb
/- A part is put into a set. -/
namespace Go.Proofs.Ytnoplippaiblcaa.Pb
open Go.RowKit Go.Proofs.Ytnoplippaiblcaa Go.Proofs.Ytnoplippaiblcaa.Q Go.Proofs.YtnoplippaiblcaaW.PrintWords Go.Proofs.YtnoplippaiblcaaW.PrintLast
set_option linter.unusedVariables false
set_option linter.unusedSimpArgs false

def withPart (s i : Int) : Int := if setOk s = true then (if 0 ≤ i ∧ i ≤ 39 then Go.bits .or .i64 s (shl .i64 1 i) else s) else s
theorem specWithPart_eq (s i : Int) : spec_WithPart.f s i = some (withPart s i) := by
  unfold spec_WithPart.f withPart
  rw [specSetOk_eq, l1In_eq]
  simp only [Option.bind_some, decide_eq_true_eq]
  by_cases h : setOk s = true
  · rw [if_pos h, if_pos h]
    by_cases q : 0 ≤ i ∧ i ≤ 39
    · rw [if_pos q, if_pos q, if_pos q.1]
    · rw [if_neg q, if_neg q]
  · rw [if_neg h, if_neg h]
end Go.Proofs.Ytnoplippaiblcaa.Pb
/- A block is put into a build: the program's and the reference's ways. -/
namespace Go.Proofs.Ytnoplippaiblcaa.Pb
open Go.RowKit Go.Proofs.Ytnoplippaiblcaa Go.Proofs.Ytnoplippaiblcaa.Q Go.Proofs.YtnoplippaiblcaaW.PrintWords Go.Proofs.YtnoplippaiblcaaW.PrintLast
set_option linter.unusedVariables false
set_option linter.unusedSimpArgs false

/-- Bytes laid over a row. -/
def lay (m : List Int) (t : Nat) (p : List Int) : List Int := m.take t ++ p ++ m.drop (t + p.length)
theorem lay_length {m : List Int} {t : Nat} {p : List Int} (h : t + p.length ≤ m.length) : (lay m t p).length = m.length := by
  unfold lay
  rw [List.length_append, List.length_append, List.length_take, List.length_drop]
  omega
theorem bytes_lay {m p : List Int} (hm : Bytes m) (hp : Bytes p) (t : Nat) : Bytes (lay m t p) := by
  intro x hx
  unfold lay at hx
  rw [List.mem_append, List.mem_append] at hx
  rcases hx with (h | h) | h
  · exact hm x (List.mem_of_mem_take h)
  · exact hp x h
  · exact hm x (List.mem_of_mem_drop h)
def bitOn (h i : Int) : Int := Go.bits .or .i64 h (shl .i64 1 i)
theorem implPut_eq (h : Int) (m : List Int) (b c i : Int) (p : List Int) (hs : (spanOf b c i).1 + (spanOf b c i).2 ≤ m.length) (hp : (p.length : Int) ≤ (spanOf b c i).2) (hi : 0 ≤ i) :
    impl_Build_put.f h m b c i p = some (bitOn h i, lay m (spanOf b c i).1.toNat p) := by
  unfold impl_Build_put.f lay bitOn
  have r := spanOf_range b c i
  rw [implSpanOf_eq]
  simp only [Option.bind_some]
  rw [w64 (by omega) (by omega), if_pos (by omega), if_pos (by omega), if_pos (by omega), if_pos (by omega), if_pos hi]
theorem iter_lay (m p : List Int) (t : Nat) (h : t + p.length ≤ m.length) : ∀ j, j ≤ p.length → iter j (fun i s => s.set (t + i) (p.getD i 0)) m = m.take t ++ p.take j ++ m.drop (t + j)
  | 0, _ => by rw [iter_zero]; simp
  | j + 1, hj => by
    rw [iter_succ, iter_lay m p t h j (by omega)]
    have e1 : (m.take t ++ p.take j).length = t + j := by rw [List.length_append, List.length_take, List.length_take]; omega
    rw [List.set_append, if_neg (by omega), e1, Nat.sub_self]
    have e2 : m.drop (t + j) = m[t + j]'(by omega) :: m.drop (t + j + 1) := (List.drop_eq_getElem_cons (by omega))
    rw [e2, List.set_cons_zero, List.take_succ_eq_append_getElem (show j < p.length by omega)]
    rw [List.getD_eq_getElem?_getD, List.getElem?_eq_getElem (by omega)]
    simp only [List.append_assoc, List.singleton_append, List.cons_append, List.nil_append, Nat.add_assoc, Option.getD_some]
theorem specPut_loop (m p : List Int) (t : Int) (h0 : 0 ≤ t) (h : t + p.length ≤ m.length) (hm : m.length ≤ 1048576) : Ev (fun k => spec_l8Put.l0 k m t p 0) (lay m t.toNat p) := by
  have hl : iter p.length (fun i s => s.set (t.toNat + i) (p.getD i 0)) m = lay m t.toNat p := by
    rw [iter_lay m p t.toNat (by omega) p.length (Nat.le_refl _), List.take_length]
    rfl
  rw [← hl]
  refine loop_up (σ := List Int) (fun k s i => spec_l8Put.l0 k s t p i) p.length (fun i s => s.set (t.toNat + i) (p.getD i 0)) (fun i s => s.length = m.length) m _ rfl (fun i s _ hs => by rw [List.length_set]; exact hs) ?_ ?_
  · intro i s r hi hs hr
    refine Ev.step (fun k => rfl) (ev_pos (by omega) (ev_pos (by omega) ?_))
    rw [w64 (by omega) (by omega), w64 (x := (i : Int) + 1) (by omega) (by omega)]
    refine ev_pos (by omega) (ev_pos (by omega) ?_)
    rw [show (t + (i : Int)).toNat = t.toNat + i by omega]
    simp only [rd, Int.toNat_natCast]
    exact hr
  · intro _
    exact Ev.step (fun k => rfl) (ev_neg (by omega) ev_some)
/-- Whether a block may be put. -/
def putOk (l : List S72) (h i : Int) (p : List Int) : Bool := decide (0 ≤ i ∧ i ≤ (l.length : Int) - 1) && (!inSet h i && sumIs (sumOf p) (l.getD i.toNat z72))
/-- What a manifest's sum is the sum of. -/
theorem manOk_sum {a b c : Int} {l : List S72} (hm : manOk a b c l = true) {i : Nat} (hi : i < l.length) :
    ∃ q, Bytes q ∧ (q.length : Int) = (spanOf b c i).2 ∧ q.length ≤ 6 ∧ (l.getD i z72).f0 = weakOf q ∧ (l.getD i z72).f1 = strong q := by
  unfold manOk at hm
  split at hm
  · have := of_decide_eq_true hm
    omega
  · split at hm
    · rename_i q
      rw [List.all_eq_true] at hm
      have h := hm i (List.mem_range.2 hi)
      unfold blockOk at h
      rw [Bool.and_eq_true, Bool.and_eq_true, decide_eq_true_eq, decide_eq_true_eq] at h
      have s := bytesOf_strong _ h.1
      have l6 := bytesOf_length (l.getD i z72).f1
      unfold sumOf at s
      rw [if_neg (by omega)] at s
      exact ⟨_, bytesOf_bytes _, h.2.1, l6, h.2.2.symm, (Prod.mk.inj s).2.symm⟩
    · cases hm
theorem sumIs_iff {s : Int × Int} {x : S72} : sumIs s x = true ↔ s.1 = x.f0 ∧ s.2 = x.f1 := by
  unfold sumIs
  rw [Bool.and_eq_true, beq_iff_eq, beq_iff_eq]
/-- Bytes whose sum is a manifest's: as long as that block, and the same bytes. -/
theorem sumIs_only {a b c : Int} {l : List S72} (hm : manOk a b c l = true) {i : Nat} (hi : i < l.length) {p : List Int} (hp : Bytes p) (h : sumIs (sumOf p) (l.getD i z72) = true) :
    (p.length : Int) = (spanOf b c i).2 ∧ p.length ≤ 6 ∧ ∀ p', Bytes p' → sumIs (sumOf p') (l.getD i z72) = true → p' = p := by
  obtain ⟨q, hq, e1, e2, e3, e4⟩ := manOk_sum hm hi
  have key : ∀ p', Bytes p' → sumIs (sumOf p') (l.getD i z72) = true → p' = q := by
    intro p' hp' h'
    have h' := (sumIs_iff.1 h').2
    unfold sumOf at h'
    split at h'
    · have := strong_pos q hq
      simp only at h'
      omega
    · rename_i n
      exact strong_inj hp' hq (by omega) e2 (h'.trans e4)
  have e := key p hp h
  subst e
  exact ⟨e1, e2, key⟩
theorem specPutB_ev {a b c : Int} {l : List S72} (hm : manOk a b c l = true) (h : Int) (m : List Int) (i : Int) (p : List Int) (hl : l.length ≤ 1048576) (hp : Bytes p) : Ev (fun k => spec_l8Put.b k a b c l h m i p) (putOk l h i p) := by
  unfold spec_l8Put.b putOk
  rw [w64 (by omega) (by omega)]
  refine ev_then (l1In_eq _ _ _) ?_
  by_cases q : 0 ≤ i ∧ i ≤ (l.length : Int) - 1
  · rw [decide_eq_true q, Bool.true_and]
    refine ev_true (ev_then (specInSet_eq _ _) ?_)
    cases hs : inSet h i with
    | true => exact ev_true ev_some
    | false =>
      refine ev_false (Ev.bind (specSumOf_ev p hp) (ev_pos q.1 (ev_pos (by omega) ?_)))
      simp only [Bool.not_false, Bool.true_and]
      cases e : sumIs (sumOf p) (l.getD i.toNat z72) with
      | false => exact ev_pos (by simp only [rd_T72]; rw [sum_ne, e]; rfl) ev_some
      | true =>
        refine ev_neg (by simp only [rd_T72]; rw [sum_ne, e]; decide) (ev_neg ?_ ev_some)
        have := (sumIs_only hm (show i.toNat < l.length by omega) hp e).2.1
        omega
  · rw [decide_eq_false q, Bool.false_and]
    exact ev_false ev_some
theorem specPut_ev {a b c : Int} {l : List S72} (hm : manOk a b c l = true) (h : Int) (m : List Int) (i : Int) (p : List Int) (hl : l.length ≤ 1048576) (hp : Bytes p) (hc : (m.length : Int) = c) (hml : m.length ≤ 1048576) (hh : setOk h = true) :
    Ev (fun k => spec_l8Put.f k a b c l h m i p) (if putOk l h i p = true then (bitOn h i, lay m (spanOf b c i).1.toNat p) else (h, m)) := by
  unfold spec_l8Put.f
  refine Ev.bind (specPutB_ev hm h m i p hl hp) ?_
  cases e : putOk l h i p with
  | false => exact ev_false ev_some
  | true =>
    rw [if_pos rfl]
    unfold putOk at e
    rw [Bool.and_eq_true, Bool.and_eq_true, decide_eq_true_eq] at e
    have so := sumIs_only hm (show i.toNat < l.length by omega) hp e.2.2
    rw [show ((i.toNat : Nat) : Int) = i by omega] at so
    have hs := span_in (b := b) hc i
    have r := spanOf_range b c i
    have n40 := (manOk_blocks hm).1
    refine ev_true (ev_then (specSpanOf_eq _ _ _) (Ev.bind (specPut_loop m p _ r.1 (by omega) hml) (ev_then (specWithPart_eq _ _) (ev_eq ev_some ?_))))
    unfold withPart bitOn
    rw [if_pos hh, if_pos (by omega)]
end Go.Proofs.Ytnoplippaiblcaa.Pb
/- PutPiece: the program's and the reference's ways. -/
namespace Go.Proofs.Ytnoplippaiblcaa.Pb
open Go.RowKit Go.Proofs.Ytnoplippaiblcaa Go.Proofs.Ytnoplippaiblcaa.Q Go.Proofs.YtnoplippaiblcaaW.PrintWords Go.Proofs.YtnoplippaiblcaaW.PrintLast
set_option linter.unusedVariables false
set_option linter.unusedSimpArgs false

theorem buildOk_parts {a b c : Int} {l : List S72} {h : Int} {m : List Int} (q : buildOk a b c l h m = true) : manOk a b c l = true ∧ setOk h = true ∧ (m.length : Int) = c := by
  unfold buildOk at q
  rw [Bool.and_eq_true, Bool.and_eq_true, Bool.and_eq_true, Bool.and_eq_true, decide_eq_true_eq, decide_eq_true_eq] at q
  exact ⟨q.1, q.2.1, q.2.2.2.1⟩
def putPiece (a b c : Int) (l : List S72) (h : Int) (m : List Int) (i : Int) (p : List Int) : Int × List Int × Bool := if buildOk a b c l h m = true then (if putOk l h i p = true then (bitOn h i, lay m (spanOf b c i).1.toNat p, true) else (h, m, false)) else (h, m, false)
theorem putOk_parts {a b c : Int} {l : List S72} {h i : Int} {p : List Int} (hm : manOk a b c l = true) (hp : Bytes p) (e : putOk l h i p = true) : (0 ≤ i ∧ i < (l.length : Int)) ∧ inSet h i = false ∧ sumIs (sumOf p) (l.getD i.toNat z72) = true ∧ (p.length : Int) = (spanOf b c i).2 := by
  unfold putOk at e
  rw [Bool.and_eq_true, Bool.and_eq_true, decide_eq_true_eq] at e
  have so := (sumIs_only hm (show i.toNat < l.length by omega) hp e.2.2).1
  rw [show ((i.toNat : Nat) : Int) = i by omega] at so
  exact ⟨by omega, by simpa using e.2.1, e.2.2, so⟩
theorem putPiece_length (a b c : Int) (l : List S72) (h : Int) (m : List Int) (i : Int) (p : List Int) (hp : Bytes p) : (putPiece a b c l h m i p).2.1.length = m.length := by
  unfold putPiece
  split
  · rename_i q
    have r := buildOk_parts q
    split
    · rename_i e
      have o := putOk_parts r.1 hp e
      have s := span_in (b := b) r.2.2 i
      have t := spanOf_range b c i
      exact lay_length (by omega)
    · rfl
  · rfl
theorem copy_eq (h : Int) (m : List Int) (hl : m.length ≤ 1048576) : impl_copyBuild.f h m = some (h, m) := by
  unfold impl_copyBuild.f impl_cloned.f
  rw [if_pos (by omega)]
  rfl
theorem l8Copy_eq (h : Int) (m : List Int) (hl : m.length ≤ 1048576) : spec_l8Copy.f h m = some (h, m) := by
  unfold spec_l8Copy.f
  simp only [Option.bind_some, List.length_nil, List.nil_append]
  rw [if_pos (by omega)]
theorem specPutPiece_ev (a b c : Int) (l : List S72) (h : Int) (m : List Int) (i : Int) (p : List Int) (hl : l.length ≤ 1048576) (hm : m.length ≤ 1048576) (hb : Bytes m) (hp : Bytes p) : Ev (fun k => spec_PutPiece.f k a b c l h m i p) (putPiece a b c l h m i p) := by
  unfold spec_PutPiece.f putPiece
  refine ev_then (l8Copy_eq h m hm) (Ev.bind (specBuildOk_ev a b c l h m hl hb) (ev_if (fun q => ?_) (fun q => ev_eq ev_some (by rw [if_neg q]))))
  rw [if_pos q]
  have r := buildOk_parts q
  refine Ev.bind (specPut_ev r.1 h m i p hl hp r.2.2 hm r.2.1) (Ev.bind (specPutB_ev r.1 h m i p hl hp) (ev_if (fun e => ?_) (fun e => ?_)))
  · rw [if_pos e, if_pos e]
    exact ev_some
  · rw [if_neg e, if_neg e]
    exact ev_some
theorem implPutPiece_ev (a b c : Int) (l : List S72) (h : Int) (m : List Int) (i : Int) (p : List Int) (hl : l.length ≤ 1048576) (hm : m.length ≤ 1048576) (hb : Bytes m) (hp : Bytes p) : Ev (fun k => impl_PutPiece.f k a b c l h m i p) (putPiece a b c l h m i p) := by
  unfold impl_PutPiece.f putPiece
  refine ev_then (copy_eq h m hm) (Ev.bind (implBuildOk_ev a b c l h m hl hb) (ev_if (fun q => ?_) (fun q => ev_eq ev_some (by rw [if_neg q]))))
  rw [if_pos q]
  have r := buildOk_parts q
  rw [w64 (by omega) (by omega)]
  refine ev_then (within_eq _ _ _) ?_
  by_cases q1 : 0 ≤ i ∧ i ≤ (l.length : Int) - 1
  · rw [decide_eq_true q1]
    refine ev_true (ev_then (implInSet_eq _ _) ?_)
    cases hs : inSet h i with
    | true => exact ev_true (ev_eq ev_some (by unfold putOk; rw [hs]; simp))
    | false =>
      refine ev_false (Ev.bind (implSumOf_ev p hp) (ev_pos q1.1 (ev_pos (by omega) ?_)))
      cases e : sumIs (sumOf p) (l.getD i.toNat z72) with
      | false => exact ev_pos (by simp only [rd_T72]; rw [sum_ne, e]; rfl) (ev_eq ev_some (by unfold putOk; rw [e]; simp))
      | true =>
        have ok : putOk l h i p = true := by unfold putOk; rw [e, hs, decide_eq_true q1]; rfl
        have o := putOk_parts r.1 hp ok
        refine ev_neg (by simp only [rd_T72]; rw [sum_ne, e]; decide) (ev_then (implPut_eq h m b c i p (span_in r.2.2 i) (by omega) q1.1) (ev_eq ev_some ?_))
        rw [if_pos ok]
  · rw [decide_eq_false q1]
    refine ev_false (ev_eq ev_some ?_)
    unfold putOk
    rw [decide_eq_false q1]
    simp
end Go.Proofs.Ytnoplippaiblcaa.Pb
/- Bytes as plain lists: the laws' copies and comparisons of them. No condition beyond the size that the laws ask. -/
namespace Go.Proofs.Ytnoplippaiblcaa.Pb
open Go.RowKit Go.Proofs.Ytnoplippaiblcaa Go.Proofs.Ytnoplippaiblcaa.Q Go.Proofs.YtnoplippaiblcaaW.PrintWords Go.Proofs.YtnoplippaiblcaaW.PrintLast
set_option linter.unusedVariables false
set_option linter.unusedSimpArgs false

theorem toByteS_ev (l : List Int) (hl : l.length ≤ 1048576) : Ev (fun k => laws_toByteS.f k l) l := by
  unfold laws_toByteS.f
  refine ev_pos (by omega) (ev_pos (by simp; omega) ?_)
  refine loop_up (fun k s i => laws_toByteS.l0 k l s i) l.length (fun i (s : List Int) => s.set i (l.getD i 0)) (fun _ s => s.length = l.length) _ l (by simp) (fun i s _ h => by simpa using h) ?_ ?_
  · intro i s r hi hs h
    refine Ev.step (fun k => rfl) ?_
    refine ev_pos (by omega) (ev_pos (by omega) (ev_pos (by omega) ?_))
    rw [w64 (by omega) (by omega)]
    simpa [rd] using h
  · intro hs
    refine Ev.step (fun k => rfl) ?_
    refine ev_neg (by omega) (ev_eq ev_some ?_)
    have h1 := iter_set l.length (fun i => l.getD i 0) (List.replicate (l.length : Int).toNat 0) (by simp)
    rw [h1]
    have h2 := map_range_get l 0 id
    simpa using h2
theorem eqByteS_ev (a b : List Int) (ha : a.length ≤ 9223372036854775806) : Ev (fun k => laws_eqByteS.f k a b) (decide (a = b)) := by
  unfold laws_eqByteS.f
  refine ev_if (fun hl => ?_) (fun hl => ev_eq ev_some ?_)
  · have hl' : a.length = b.length := by omega
    rw [← all_range_eq a b 0 hl']
    refine loop_all (fun k i => laws_eqByteS.l0 k a b i) a.length _ ?_ ?_ ?_
    · intro i r hi hp h
      refine Ev.step (fun k => rfl) ?_
      refine ev_pos (by omega) (ev_pos (by omega) (ev_pos (by omega) (ev_pos (by simpa [rd] using hp) ?_)))
      rw [w64 (by omega) (by omega)]
      exact h
    · intro i hi hp
      refine Ev.step (fun k => rfl) ?_
      exact ev_pos (by omega) (ev_pos (by omega) (ev_pos (by omega) (ev_neg (by simpa [rd] using hp) ev_some)))
    · refine Ev.step (fun k => rfl) ?_
      exact ev_neg (by omega) ev_some
  · symm
    rw [decide_eq_false_iff_not]
    rintro rfl
    exact hl rfl
end Go.Proofs.Ytnoplippaiblcaa.Pb
/- Builds: the laws' copies of them, and the size that they ask. No condition beyond that size. -/
namespace Go.Proofs.Ytnoplippaiblcaa.Pb
open Go.RowKit Go.Proofs.Ytnoplippaiblcaa Go.Proofs.Ytnoplippaiblcaa.Q Go.Proofs.YtnoplippaiblcaaW.PrintWords Go.Proofs.YtnoplippaiblcaaW.PrintLast
set_option linter.unusedVariables false
set_option linter.unusedSimpArgs false

theorem szBuild_eq (h : Int) (m : List Int) (a : Int) (hl : m.length ≤ 9223372036854775807) (h0 : 0 ≤ a) (h1 : a ≤ 1048576) : laws_szBuild.f h m a = some (if a < (m.length : Int) then (-1 : Int) else a - (m.length : Int)) := by
  unfold laws_szBuild.f laws_szByteS.f
  rw [w64 (by omega) (by omega)]
  by_cases r : a < (m.length : Int)
  · rw [if_pos r, if_pos (by omega)]
    simp only [Option.bind_some]
    rw [if_pos (by omega)]
  · rw [if_neg r, if_neg (by omega)]
    simp only [Option.bind_some]
    rw [if_neg (by omega)]
theorem toBuild_ev (h : Int) (m : List Int) (hl : m.length ≤ 1048576) : Ev (fun k => laws_toBuild.f k h m) (h, m) := by
  unfold laws_toBuild.f
  exact Ev.bind (toByteS_ev m hl) ev_some
theorem eqBuild_refl (h : Int) (m : List Int) (hl : m.length ≤ 9223372036854775806) : Ev (fun k => laws_eqBuild.f k h m h m) true := by
  unfold laws_eqBuild.f
  exact ev_pos rfl (Ev.bind (eqByteS_ev m m hl) (ev_pos (by simp) ev_some))
end Go.Proofs.Ytnoplippaiblcaa.Pb
/- Sums of blocks as plain lists: the laws' comparisons of them. No condition beyond the size that the laws ask. -/
namespace Go.Proofs.Ytnoplippaiblcaa.Pb
open Go.RowKit Go.Proofs.Ytnoplippaiblcaa Go.Proofs.Ytnoplippaiblcaa.Q Go.Proofs.YtnoplippaiblcaaW.PrintWords Go.Proofs.YtnoplippaiblcaaW.PrintLast
set_option linter.unusedVariables false
set_option linter.unusedSimpArgs false

theorem eqSum_refl (a b : Int) : laws_eqSum.f a b a b = some true := by
  unfold laws_eqSum.f
  rw [if_pos rfl, if_pos rfl]
theorem eqSumS_refl (a : List S72) (ha : a.length ≤ 9223372036854775806) : Ev (fun k => laws_eqSumS.f k a a) true := by
  unfold laws_eqSumS.f
  refine ev_pos rfl ?_
  refine ev_eq (loop_all (fun k i => laws_eqSumS.l0 k a a i) a.length (fun _ => true) ?_ ?_ ?_) (by simp)
  · intro i r hi _ h
    refine Ev.step (fun k => rfl) ?_
    refine ev_pos (by omega) (ev_pos (by omega) (ev_pos (by omega) ?_))
    refine ev_then (eqSum_refl _ _) (ev_true ?_)
    rw [w64 (by omega) (by omega)]
    exact h
  · intro i hi hp
    cases hp
  · refine Ev.step (fun k => rfl) ?_
    exact ev_neg (by omega) ev_some
theorem eqManifest_refl (a b c : Int) (l : List S72) (hl : l.length ≤ 9223372036854775806) : Ev (fun k => laws_eqManifest.f k a b c l a b c l) true := by
  unfold laws_eqManifest.f
  exact ev_pos rfl (ev_pos rfl (ev_pos rfl (Ev.bind (eqSumS_refl l hl) (ev_true ev_some))))
end Go.Proofs.Ytnoplippaiblcaa.Pb
/- Sums of blocks and manifests: the laws' copies of them. No condition beyond the size that the laws ask. -/
namespace Go.Proofs.Ytnoplippaiblcaa.Pb
open Go.RowKit Go.Proofs.Ytnoplippaiblcaa Go.Proofs.Ytnoplippaiblcaa.Q Go.Proofs.YtnoplippaiblcaaW.PrintWords Go.Proofs.YtnoplippaiblcaaW.PrintLast
set_option linter.unusedVariables false
set_option linter.unusedSimpArgs false

/-- The program's own sum out of the laws' one. -/
def sumOf_ (x : S86) : S72 := ⟨x.f0, x.f1⟩
theorem szSumS_eq (l : List S86) (a : Int) (hl : l.length ≤ 9223372036854775807) (h0 : 0 ≤ a) (h1 : a ≤ 1048576) : laws_szSumS.f l a = some (if a < (l.length : Int) then (-1 : Int) else a - (l.length : Int)) := by
  unfold laws_szSumS.f
  rw [w64 (by omega) (by omega)]
  by_cases h : a < l.length
  · rw [if_pos (by omega), if_pos h]
  · rw [if_neg (by omega), if_neg h]
theorem szManifest_eq (b c d : Int) (l : List S86) (a : Int) (hl : l.length ≤ 9223372036854775807) (h0 : 0 ≤ a) (h1 : a ≤ 1048576) : laws_szManifest.f b c d l a = some (if a < (l.length : Int) then (-1 : Int) else a - (l.length : Int)) := by
  unfold laws_szManifest.f
  rw [szSumS_eq l a hl h0 h1]
  simp only [Option.bind_some]
  by_cases h : a < (l.length : Int)
  · rw [if_pos h]; rfl
  · rw [if_neg h, if_neg (by omega)]
theorem toSumS_ev (l : List S86) (hl : l.length ≤ 1048576) : Ev (fun k => laws_toSumS.f k l) (l.map sumOf_) := by
  unfold laws_toSumS.f
  refine ev_pos (by omega) (ev_pos (by simp; omega) ?_)
  refine loop_up (fun k s i => laws_toSumS.l0 k l s i) l.length (fun i (s : List S72) => s.set i (sumOf_ (l.getD i z86))) (fun _ s => s.length = l.length) _ _ (by simp) (fun i s _ h => by simpa using h) ?_ ?_
  · intro i s r hi hs h
    refine Ev.step (fun k => rfl) ?_
    refine ev_pos (by omega) (ev_pos (by omega) ?_)
    refine ev_then rfl ?_
    refine ev_pos (by omega) ?_
    rw [w64 (by omega) (by omega)]
    exact h
  · intro hs
    refine Ev.step (fun k => rfl) ?_
    refine ev_neg (by omega) (ev_eq ev_some ?_)
    rw [iter_set l.length (fun i => sumOf_ (l.getD i z86)) _ (by simp)]
    exact map_range_get l _ sumOf_
theorem toManifest_ev (a b c : Int) (l : List S86) (hl : l.length ≤ 1048576) : Ev (fun k => laws_toManifest.f k a b c l) (a, b, c, l.map sumOf_) := by
  unfold laws_toManifest.f
  exact Ev.bind (toSumS_ev l hl) ev_some
end Go.Proofs.Ytnoplippaiblcaa.Pb
/- Marking sums of blocks. No condition beyond the size that the laws ask. -/
namespace Go.Proofs.Ytnoplippaiblcaa.Pb
open Go.RowKit Go.Proofs.Ytnoplippaiblcaa Go.Proofs.Ytnoplippaiblcaa.Q Go.Proofs.YtnoplippaiblcaaW.PrintWords Go.Proofs.YtnoplippaiblcaaW.PrintLast
set_option linter.unusedVariables false
set_option linter.unusedSimpArgs false

/-- Sums of marks, from a on. -/
def sumMark (a : Int) : S72 := ⟨a, a + 1⟩
def sumMarks (a : Int) (n : Nat) : List S72 := (List.range n).map fun (i : Nat) => sumMark (a + 2 * (i : Int))
theorem sumMarks_length (a : Int) (n : Nat) : (sumMarks a n).length = n := by simp [sumMarks]
theorem sumMarks_rd (a : Int) (n i : Nat) (h : i < n) : rd_T72 (sumMarks a n) (i : Int) = sumMark (a + 2 * i) := by
  unfold rd_T72 sumMarks
  simp [List.getD_eq_getElem?_getD, h]
theorem rdSum_set (l : List S72) (i : Nat) (x : S72) (h : i < l.length) : rd_T72 (l.set i x) (i : Int) = x := by
  unfold rd_T72
  simp [List.getD_eq_getElem?_getD, h]
theorem markSumS_ev (l : List S72) (a : Int) (h0 : 0 ≤ a) (h1 : a + 2 * l.length ≤ 9223372036854775806) : Ev (fun k => laws_markSumS.f k l a) (a + 2 * l.length, sumMarks a l.length) := by
  unfold laws_markSumS.f
  refine loop_up (σ := List S72 × Int) (fun k s i => laws_markSumS.l0 k s.1 s.2 i) l.length (fun i s => (s.1.set i (sumMark s.2), s.2 + 2)) (fun i s => s.1.length = l.length ∧ s.2 = a + 2 * i) (l, a) _ ⟨rfl, by simp⟩ ?_ ?_ ?_
  · rintro i ⟨x, y⟩ _ ⟨hx, hy⟩
    simp only at hx hy ⊢
    exact ⟨by simpa using hx, by omega⟩
  · rintro i ⟨x, y⟩ r hi ⟨hx, hy⟩ h
    simp only at hx hy h ⊢
    refine Ev.step (fun k => rfl) ?_
    refine ev_pos (by omega) (ev_pos (by omega) ?_)
    rw [w64 (x := y + 1) (by omega) (by omega), w64 (x := y + 1 + 1) (by omega) (by omega), w64 (x := (i : Int) + 1) (by omega) (by omega)]
    simp only [Option.bind_some, Int.toNat_natCast]
    rw [rdSum_set x i _ (by omega)]
    simp only [List.set_set]
    have e : (⟨y, y + 1⟩ : S72) = sumMark y := rfl
    rw [e, show y + 1 + 1 = y + 2 by omega]
    exact h
  · rintro ⟨hx, hy⟩
    refine Ev.step (fun k => rfl) ?_
    refine ev_neg (by omega) (ev_eq ev_some ?_)
    have key : ∀ n, iter n (fun (i : Nat) (s : List S72 × Int) => (s.1.set i (sumMark s.2), s.2 + 2)) (l, a) = (iter n (fun i (s : List S72) => s.set i (sumMark (a + 2 * (i : Int)))) l, a + 2 * (n : Int)) := by
      intro n
      induction n with
      | zero => simp [iter_zero]
      | succ n ih => rw [iter_succ, ih, iter_succ]; simp; omega
    rw [key, iter_set _ _ _ rfl]
    rfl
theorem markManifest_ev (b c d : Int) (l : List S72) (a : Int) (h0 : 0 ≤ a) (h1 : a + 2 * l.length ≤ 9223372036854775806) : Ev (fun k => laws_markManifest.f k b c d l a) (a + 2 * l.length, sumMarks a l.length) := by
  unfold laws_markManifest.f
  exact Ev.bind (markSumS_ev l a h0 h1) ev_some
end Go.Proofs.Ytnoplippaiblcaa.Pb
/- Marking bytes and finding the marks again. No condition beyond the size that the laws ask. -/
namespace Go.Proofs.Ytnoplippaiblcaa.Pb
open Go.RowKit Go.Proofs.Ytnoplippaiblcaa Go.Proofs.Ytnoplippaiblcaa.Q Go.Proofs.YtnoplippaiblcaaW.PrintWords Go.Proofs.YtnoplippaiblcaaW.PrintLast
set_option linter.unusedVariables false
set_option linter.unusedSimpArgs false

/-- The low bytes of a, a + 1, .., n of them. -/
def byteMarks (a : Int) (n : Nat) : List Int := (List.range n).map fun (i : Nat) => (a + (i : Int)) % 256
theorem byteMarks_length (a : Int) (n : Nat) : (byteMarks a n).length = n := by simp [byteMarks]
theorem byteMarks_rd (a : Int) (n i : Nat) (h : i < n) : rd (byteMarks a n) (i : Int) = (a + i) % 256 := by
  unfold rd byteMarks
  simp [List.getD_eq_getElem?_getD, h]
theorem markByteS_ev (l : List Int) (a : Int) (h0 : 0 ≤ a) (h1 : a + l.length ≤ 9223372036854775806) : Ev (fun k => laws_markByteS.f k l a) (a + l.length, byteMarks a l.length) := by
  unfold laws_markByteS.f
  refine loop_up (σ := List Int × Int) (fun k s i => laws_markByteS.l0 k s.1 s.2 i) l.length (fun i s => (s.1.set i (s.2 % 256), s.2 + 1)) (fun i s => s.1.length = l.length ∧ s.2 = a + i) (l, a) _ ⟨rfl, by simp⟩ ?_ ?_ ?_
  · rintro i ⟨x, y⟩ _ ⟨hx, hy⟩
    simp only at hx hy ⊢
    exact ⟨by simpa using hx, by omega⟩
  · rintro i ⟨x, y⟩ r hi ⟨hx, hy⟩ h
    simp only at hx hy h ⊢
    refine Ev.step (fun k => rfl) ?_
    refine ev_pos (by omega) (ev_pos (by omega) ?_)
    rw [w64 (x := y + 1) (by omega) (by omega), w64 (x := (i : Int) + 1) (by omega) (by omega)]
    simpa using h
  · rintro ⟨hx, hy⟩
    refine Ev.step (fun k => rfl) ?_
    refine ev_neg (by omega) (ev_eq ev_some ?_)
    have key : ∀ n, iter n (fun (i : Nat) (s : List Int × Int) => (s.1.set i (s.2 % 256), s.2 + 1)) (l, a) = (iter n (fun i (s : List Int) => s.set i ((a + (i : Int)) % 256)) l, a + (n : Int)) := by
      intro n
      induction n with
      | zero => simp [iter_zero]
      | succ n ih => rw [iter_succ, ih, iter_succ]; simp; omega
    rw [key, iter_set _ _ _ rfl]
    rfl
theorem heldByteS_ev (a : Int) (n : Nat) (h0 : 0 ≤ a) (h1 : a + n ≤ 9223372036854775806) : Ev (fun k => laws_heldByteS.f k (byteMarks a n) a) (a + n) := by
  unfold laws_heldByteS.f
  have hl := byteMarks_length a n
  refine loop_up (fun k s i => laws_heldByteS.l0 k (byteMarks a n) s i) n (fun i s => s + 1) (fun i s => s = a + i) a _ (by simp) (fun i s _ h => by omega) ?_ ?_
  · rintro i s r hi hs h
    refine Ev.step (fun k => rfl) ?_
    refine ev_pos (by omega) (ev_pos (by omega) (ev_pos (by rw [byteMarks_rd _ _ _ hi, hs]) ?_))
    rw [w64 (x := s + 1) (by omega) (by omega), w64 (by omega) (by omega)]
    exact h
  · intro hs
    refine Ev.step (fun k => rfl) ?_
    refine ev_neg (by omega) (ev_eq ev_some hs)
end Go.Proofs.Ytnoplippaiblcaa.Pb
namespace Go.Proofs.Ytnoplippaiblcaa.Pure
open Go.RowKit Go.Proofs.Ytnoplippaiblcaa Go.Proofs.Ytnoplippaiblcaa.Q Go.Proofs.Ytnoplippaiblcaa.Pb Go.Proofs.YtnoplippaiblcaaW.PrintWords Go.Proofs.YtnoplippaiblcaaW.PrintLast
set_option linter.unusedVariables false
set_option linter.unusedSimpArgs false

theorem bytes_good {l : List Int} (g : (Opn.Each (fun n : Int => (Lit.int .u8 n).wf = true)) l) : Bytes l := by
  intro x hx
  have h := g.2 x hx
  simp [Lit.wf, IntKind.min, IntKind.max, IntKind.signed, IntKind.bits] at h
  omega
theorem markBuild_ev (h : Int) (m : List Int) (x : Int) (h0 : 0 ≤ x) (h1 : x + m.length ≤ 9223372036854775806) : Ev (fun k => laws_markBuild.f k h m x) (x + m.length, byteMarks x m.length) := by
  unfold laws_markBuild.f
  exact Ev.bind (markByteS_ev m x h0 h1) ev_some
theorem heldBuild_ev (h : Int) (x : Int) (q : Nat) (h0 : 0 ≤ x) (h1 : x + q ≤ 9223372036854775806) : Ev (fun k => laws_heldBuild.f k h (byteMarks x q) x) (x + q) := by
  unfold laws_heldBuild.f
  exact Ev.bind (heldByteS_ev x q h0 h1) (ev_neg (by omega) ev_some)
theorem FnExactPutPiece : ∀ (x0 : S24) (x1 : S27) (x2 : Int) (x3 : List Int), good24 x0 → good27 x1 → (Lit.int .i64 x2).wf = true → (Opn.Each (fun n : Int => (Lit.int .u8 n).wf = true)) x3 → ∃ k, laws_FnExactPutPiece.f k x0.f0 x0.f1 x0.f2 x0.f3 x1.f0 x1.f1 x2 x3 = some true := by
  intro x0 x1 x2 x3 g0 g1 g2 g3
  refine Ev.rounds ?_
  unfold laws_FnExactPutPiece.f
  refine ev_if (fun _ => ev_some) (fun hp => ?_)
  rw [szManifest_eq _ _ _ _ 1048576 g0.2.2.2.1 (by omega) (by omega)]
  refine Ev.bind ev_some (ev_if (fun _ => ev_some) (fun h => ?_))
  have hb : (x0.f3.length : Int) ≤ 1048576 := by split at h <;> omega
  rw [if_neg (by omega)]
  rw [szBuild_eq _ _ _ g1.2.1 (by omega) (by omega)]
  refine Ev.bind ev_some (ev_if (fun _ => ev_some) (fun h' => ?_))
  have hbc : (x0.f3.length : Int) + x1.f1.length ≤ 1048576 := by split at h' <;> omega
  clear h h'
  have hby := bytes_good g1.2
  have hby3 := bytes_good g3
  have m0 := toManifest_ev x0.f0 x0.f1 x0.f2 x0.f3 (by omega)
  have m1 := toBuild_ev x1.f0 x1.f1 (by omega)
  have m3 := toByteS_ev x3 (by omega)
  have hn := putPiece_length x0.f0 x0.f1 x0.f2 (x0.f3.map sumOf_) x1.f0 x1.f1 x2 x3 hby3
  have s0 := specPutPiece_ev x0.f0 x0.f1 x0.f2 (x0.f3.map sumOf_) x1.f0 x1.f1 x2 x3 (by simp; omega) (by omega) hby hby3
  have i0 := implPutPiece_ev x0.f0 x0.f1 x0.f2 (x0.f3.map sumOf_) x1.f0 x1.f1 x2 x3 (by simp; omega) (by omega) hby hby3
  generalize putPiece x0.f0 x0.f1 x0.f2 (x0.f3.map sumOf_) x1.f0 x1.f1 x2 x3 = n at hn s0 i0
  refine Ev.bind m0 (Ev.bind m1 (Ev.bind m3 (Ev.bind s0 (Ev.bind m0 (Ev.bind m1 (Ev.bind m3 (Ev.bind i0 ?_)))))))
  refine Ev.bind (eqBuild_refl _ _ (by omega)) (ev_pos rfl (ev_pos rfl ?_))
  refine Ev.bind m0 (Ev.bind (eqManifest_refl _ _ _ _ (by simp; omega)) (ev_pos rfl ?_))
  refine Ev.bind m1 (Ev.bind (eqBuild_refl _ _ (by simp only; omega)) (ev_pos rfl ?_))
  refine Ev.bind m3 (Ev.bind (eqByteS_ev _ _ (by omega)) (ev_pos (by simp) ?_))
  refine Ev.bind (markManifest_ev _ _ _ _ 1 (by omega) (by simp; omega)) ?_
  refine Ev.bind (markBuild_ev _ _ _ (by simp only; omega) (by simp; omega)) ?_
  refine Ev.bind (markByteS_ev _ _ (by simp only; omega) (by simp; omega)) ?_
  refine ev_neg (by simp; omega) (Ev.bind (eqBuild_refl _ _ (by omega)) (ev_pos rfl (ev_pos rfl ?_)))
  refine Ev.bind (markBuild_ev _ _ 1 (by omega) (by omega)) ?_
  refine Ev.bind (heldBuild_ev _ _ _ (by omega) (by omega)) ?_
  refine ev_neg (by omega) (ev_pos rfl (Ev.bind m0 (Ev.bind m1 (Ev.bind m3 (Ev.bind i0 ?_)))))
  refine Ev.bind (eqBuild_refl _ _ (by omega)) (ev_pos rfl (ev_pos rfl ?_))
  refine Ev.bind (heldBuild_ev _ _ _ (by omega) (by omega)) ?_
  exact ev_neg (by omega) (ev_pos rfl ev_some)
end Go.Proofs.Ytnoplippaiblcaa.Pure
