/- Trees are told alike, and everybody's way leads up to the first one: the law, for all bytes. No further condition. -/
import Derived.Test.YtmaeahbiiiifmaaQ10
import Derived.Test.YtmaeahbiiiifmaaQ2
import Derived.Test.YtmaeahbiiiifmaaQ4
import Derived.Test.YtmaeahbiiiifmaaQ5
import Derived.Test.YtmaeahbiiiifmaaQ1
import Derived.Test.YtmaeahbiiiifmaaQ3
import Derived.Test.YtmaeahbiiiifmaaQ6
import Derived.RowKit
import Derived.IntWalk
import Derived.Test.YtmaeahbiiiifmaaWWords
import Derived.Laws.BitsLemmas
import Derived.Test.YtmaeahbiiiifmaaQ7
import Derived.Test.YtmaeahbiiiifmaaQ8
import Derived.Test.YtmaeahbiiiifmaaQ9
import Derived.Test.YtmaeahbiiiifmaaTyp
/- Plain lemmas on answers with rounds: a loop that goes up through numbers comes to what its steps make. No condition. -/
namespace Go.Proofs.Ytmaeahbiiiifmaa.Pb
open Go.RowKit Go.Proofs.YtmaeahbiiiifmaaW.PrintWords
set_option linter.unusedVariables false

theorem w64 {x : Int} (h0 : -9223372036854775808 ≤ x) (h1 : x ≤ 9223372036854775807) : wrap64 x = x := by unfold wrap64; omega

section
variable {α β ρ σ : Type}
theorem ev_pos {c : Prop} [Decidable c] {f g : Nat → Option α} {r : α} (hc : c) (h : Ev f r) : Ev (fun k => if c then f k else g k) r := Ev.congr (fun k => if_pos hc) h
theorem ev_neg {c : Prop} [Decidable c] {f g : Nat → Option α} {r : α} (hc : ¬ c) (h : Ev g r) : Ev (fun k => if c then f k else g k) r := Ev.congr (fun k => if_neg hc) h
theorem ev_true {f g : Nat → Option α} {r : α} (h : Ev f r) : Ev (fun k => if true = true then f k else g k) r := ev_pos rfl h
theorem ev_false {f g : Nat → Option α} {r : α} (h : Ev g r) : Ev (fun k => if false = true then f k else g k) r := ev_neg (by decide) h
theorem ev_some {r : α} : Ev (fun _ => some r) r := Ev.now r
theorem ev_of {a : Option α} {r : α} (h : a = some r) : Ev (fun _ => a) r := ⟨0, fun _ _ => h⟩
theorem ev_then {a : Option α} {x : α} {f : Nat → α → Option β} {r : β} (h : a = some x) (k : Ev (fun n => f n x) r) : Ev (fun n => a.bind (f n)) r := Ev.bind (ev_of h) k
theorem ev_bool {b : Bool} {f g : Nat → Option α} {r : α} (h1 : b = true → Ev f r) (h2 : b = false → Ev g r) : Ev (fun k => if b = true then f k else g k) r := by
  cases b with
  | true => exact ev_true (h1 rfl)
  | false => exact ev_false (h2 rfl)
theorem ev_if {c : Prop} [Decidable c] {f g : Nat → Option α} {r : α} (h1 : c → Ev f r) (h2 : ¬ c → Ev g r) : Ev (fun k => if c then f k else g k) r := by
  by_cases h : c
  · exact ev_pos h (h1 h)
  · exact ev_neg h (h2 h)
theorem ev_eq {f : Nat → Option α} {r r' : α} (h : Ev f r) (e : r = r') : Ev f r' := e ▸ h
theorem ev_det {f : Nat → Option α} {r r' : α} (h : Ev f r) (h' : Ev f r') : r = r' := by
  obtain ⟨K, h⟩ := h
  obtain ⟨K', h'⟩ := h'
  have h1 := h (max K K') (Nat.le_max_left _ _)
  have h2 := h' (max K K') (Nat.le_max_right _ _)
  rw [h1] at h2
  exact Option.some.inj h2

/-- What n steps make of a state. -/
def iter (n : Nat) (next : Nat → σ → σ) (s : σ) : σ := (List.range n).foldl (fun s i => next i s) s
theorem iter_zero (next : Nat → σ → σ) (s : σ) : iter 0 next s = s := rfl
theorem iter_succ (n : Nat) (next : Nat → σ → σ) (s : σ) : iter (n + 1) next s = next n (iter n next s) := by
  unfold iter
  rw [List.range_succ, List.foldl_append]
  rfl

/-- A loop that goes up, step by step, to n. -/
theorem loop_up (g : Nat → σ → Int → Option ρ) (n : Nat) (next : Nat → σ → σ) (Inv : Nat → σ → Prop) (s0 : σ) (r : ρ)
    (h0 : Inv 0 s0) (hinv : ∀ i s, i < n → Inv i s → Inv (i + 1) (next i s))
    (hstep : ∀ (i : Nat) s r, i < n → Inv i s → Ev (fun k => g k (next i s) ((i : Int) + 1)) r → Ev (fun k => g k s (i : Int)) r)
    (hend : Inv n (iter n next s0) → Ev (fun k => g k (iter n next s0) (n : Int)) r) : Ev (fun k => g k s0 0) r := by
  have hall : ∀ i, i ≤ n → Inv i (iter i next s0) := by
    intro i
    induction i with
    | zero => intro _; exact h0
    | succ i ih => intro hi; rw [iter_succ]; exact hinv i _ (by omega) (ih (by omega))
  have key : ∀ d i, i + d = n → Ev (fun k => g k (iter i next s0) (i : Int)) r := by
    intro d
    induction d with
    | zero =>
      intro i hi
      obtain rfl : i = n := by omega
      exact hend (hall i (Nat.le_refl _))
    | succ d ih =>
      intro i hi
      refine hstep i _ r (by omega) (hall i (by omega)) ?_
      have := ih (i + 1) (by omega)
      rw [iter_succ] at this
      simpa using this
  exact key n 0 (by omega)

/-- A loop that goes up till something is found. -/
theorem loop_find (g : Nat → Int → Option ρ) (n : Nat) (p : Nat → Bool) (res : Nat → ρ) (r0 : ρ)
    (hyes : ∀ i, i < n → p i = true → Ev (fun k => g k (i : Int)) (res i))
    (hno : ∀ i r, i < n → p i = false → Ev (fun k => g k ((i : Int) + 1)) r → Ev (fun k => g k (i : Int)) r)
    (hend : Ev (fun k => g k (n : Int)) r0) : Ev (fun k => g k 0) (match (List.range n).find? p with | some i => res i | none => r0) := by
  have key : ∀ d i, i + d = n → Ev (fun k => g k (i : Int)) (match (List.range' i d).find? p with | some i => res i | none => r0) := by
    intro d
    induction d with
    | zero =>
      intro i hi
      obtain rfl : i = n := by omega
      exact hend
    | succ d ih =>
      intro i hi
      rw [List.range'_succ, List.find?_cons]
      cases hp : p i with
      | true => exact hyes i (by omega) hp
      | false => exact hno i _ (by omega) hp (by have := ih (i + 1) (by omega); simpa using this)
  have := key n 0 (by omega)
  rwa [← List.range_eq_range'] at this
/-- A loop that asks something of each. -/
theorem loop_all (g : Nat → Int → Option Bool) (n : Nat) (p : Nat → Bool)
    (hyes : ∀ i r, i < n → p i = true → Ev (fun k => g k ((i : Int) + 1)) r → Ev (fun k => g k (i : Int)) r)
    (hno : ∀ i, i < n → p i = false → Ev (fun k => g k (i : Int)) false)
    (hend : Ev (fun k => g k (n : Int)) true) : Ev (fun k => g k 0) ((List.range n).all p) := by
  have h := loop_find g n (fun i => !p i) (fun _ => false) true (fun i hi hp => hno i hi (by simpa using hp)) (fun i r hi hp h => hyes i r hi (by simpa using hp) h) hend
  refine ev_eq h ?_
  cases hf : (List.range n).find? (fun i => !p i) with
  | some i =>
    have h1 := List.find?_some hf
    have h2 := List.mem_of_find?_eq_some hf
    symm
    rw [List.all_eq_false]
    exact ⟨i, h2, by simpa using h1⟩
  | none =>
    symm
    rw [List.all_eq_true]
    intro x hx
    have := List.find?_eq_none.1 hf x hx
    simpa using this
end

/-! ### Lists by their elements -/
theorem rd_nat (l : List Int) (i : Nat) (h : i < l.length) : rd l (i : Int) = l[i] := by
  unfold rd
  simp [List.getD_eq_getElem?_getD, List.getElem?_eq_getElem h]
theorem iter_set {α : Type} (n : Nat) (f : Nat → α) (l : List α) (hl : l.length = n) : iter n (fun i (s : List α) => s.set i (f i)) l = (List.range n).map f := by
  have key : ∀ m, m ≤ n → iter m (fun i (s : List α) => s.set i (f i)) l = (List.range m).map f ++ l.drop m := by
    intro m
    induction m with
    | zero => intro _; simp [iter_zero]
    | succ m ih =>
      intro hm
      rw [iter_succ, ih (by omega)]
      apply List.ext_getElem?
      intro j
      simp only [List.getElem?_set, List.getElem?_append, List.length_map, List.length_range, List.length_append, List.length_drop, List.getElem?_map, List.getElem?_drop]
      by_cases h1 : m = j
      · subst h1
        simp
        omega
      · by_cases h2 : j < m
        · simp [h1, h2, show j < m + 1 by omega]
        · have h3 : ¬ j < m + 1 := by omega
          simp [h1, h2, h3]
          congr 1
          omega
  have := key n (Nat.le_refl _)
  rw [this, List.drop_of_length_le (by omega), List.append_nil]
theorem map_range_get {α β : Type} (l : List α) (d : α) (f : α → β) : (List.range l.length).map (fun i => f (l.getD i d)) = l.map f := by
  apply List.ext_getElem?
  intro i
  by_cases h : i < l.length
  · simp [h, List.getD_eq_getElem?_getD]
  · simp [h]
theorem all_range_eq {α : Type} [DecidableEq α] (a b : List α) (d : α) (hl : a.length = b.length) : (List.range a.length).all (fun i => decide (a.getD i d = b.getD i d)) = decide (a = b) := by
  rw [Bool.eq_iff_iff]
  simp only [List.all_eq_true, List.mem_range, decide_eq_true_eq]
  constructor
  · intro h
    apply List.ext_getElem hl
    intro i h1 h2
    have := h i h1
    simpa [List.getD_eq_getElem?_getD, h1, h2] using this
  · rintro rfl i _
    rfl
end Go.Proofs.Ytmaeahbiiiifmaa.Pb
/- Whole numbers: an int's bounds, tests of an interval, what is left of a size. No condition. -/
namespace Go.Proofs.Ytmaeahbiiiifmaa.Pb
open Go.RowKit Go.Proofs.Ytmaeahbiiiifmaa Go.Proofs.Ytmaeahbiiiifmaa.Q Go.Proofs.YtmaeahbiiiifmaaW.PrintWords Go.Proofs.YtmaeahbiiiifmaaW.PrintLast
set_option linter.unusedVariables false
set_option linter.unusedSimpArgs false

/-- An int holds it. -/
def I64 (n : Int) : Prop := -9223372036854775808 ≤ n ∧ n ≤ 9223372036854775807
theorem i64_of {n : Int} (h : (Lit.int .i64 n).wf = true) : I64 n := by
  simp [Lit.wf, IntKind.min, IntKind.max, IntKind.signed, IntKind.bits] at h
  exact ⟨by omega, by omega⟩

theorem within_eq (a lo hi : Int) : impl_within.f a lo hi = some (decide (lo ≤ a ∧ a ≤ hi)) := by
  unfold impl_within.f
  by_cases h : lo ≤ a
  · rw [if_pos h]; simp [h]
  · rw [if_neg h]; simp [h]
theorem l1In_eq (a lo hi : Int) : spec_l1In.f a lo hi = some (decide (lo ≤ a ∧ a ≤ hi)) := within_eq a lo hi

theorem left_big {n : Nat} (h : ¬ (if (1048576 : Int) < (n : Int) then (-1 : Int) else 1048576 - (n : Int)) < 0) : n ≤ 1048576 := by
  split at h <;> omega
end Go.Proofs.Ytmaeahbiiiifmaa.Pb
/- The bits of whole numbers of 64 bits, as natural numbers have them. No condition beyond the ranges. -/
namespace Go.Proofs.Ytmaeahbiiiifmaa.Pb
open Go
set_option linter.unusedVariables false

theorem wraps_i64 (n : Int) (h0 : 0 ≤ n) (h1 : n < 2 ^ 63) : IntKind.i64.wrap n = n := by rw [IntKind.wrap_i64]; omega
/-- A mask of low bits, of whatever number. -/
theorem and_mask (n : Int) (j m : Nat) (hj : j ≤ 62) (hm : m = 2 ^ j - 1) : bits .and .i64 n (m : Int) = n % (2 ^ j : Nat) := by
  have hp : (2 : Nat) ^ j ≤ 2 ^ 62 := Nat.pow_le_pow_right (by decide) hj
  have hpos : 0 < 2 ^ j := Nat.two_pow_pos j
  have hmm : (BitVec.ofInt 64 (m : Int)).toNat = 2 ^ j - 1 := by
    rw [BitVec.ofInt_natCast, BitVec.toNat_ofNat, hm, Nat.mod_eq_of_lt]
    have : (2 : Nat) ^ 62 < 2 ^ 64 := by decide
    omega
  have key : (BitVec.ofInt 64 n &&& BitVec.ofInt 64 (m : Int)).toNat = (n % ((2 ^ 64 : Nat) : Int)).toNat % 2 ^ j := by
    rw [BitVec.toNat_and, BitVec.toNat_ofInt, hmm, Nat.and_two_pow_sub_one_eq_mod]
  show IntKind.i64.wrap ((BitVec.ofInt 64 n &&& BitVec.ofInt 64 (m : Int)).toNat : Nat) = _
  rw [key, IntKind.wrap_i64]
  have hd : ((2 ^ j : Nat) : Int) ∣ ((2 ^ 64 : Nat) : Int) := by
    have : (2 ^ j : Nat) ∣ 2 ^ 64 := Nat.pow_dvd_pow 2 (by omega)
    exact Int.natCast_dvd_natCast.2 this
  have e0 : 0 ≤ n % ((2 ^ 64 : Nat) : Int) := Int.emod_nonneg _ (by decide)
  have e1 : (((n % ((2 ^ 64 : Nat) : Int)).toNat % 2 ^ j : Nat) : Int) = n % ((2 ^ j : Nat) : Int) := by
    rw [Int.natCast_emod, Int.toNat_of_nonneg e0, Int.emod_emod_of_dvd _ hd]
  rw [e1]
  have b0 : 0 ≤ n % ((2 ^ j : Nat) : Int) := Int.emod_nonneg _ (by omega)
  have b1 : n % ((2 ^ j : Nat) : Int) < ((2 ^ j : Nat) : Int) := Int.emod_lt_of_pos _ (by omega)
  have b2 : ((2 ^ j : Nat) : Int) ≤ ((2 ^ 62 : Nat) : Int) := Int.ofNat_le.2 hp
  have b3 : ((2 ^ 62 : Nat) : Int) = 4611686018427387904 := by decide
  omega
theorem and255 (n : Int) : bits .and .i64 n 255 = n % 256 := and_mask n 8 255 (by decide) (by decide)
theorem and_nat (a b : Nat) (ha : a < 2 ^ 63) (hb : b < 2 ^ 63) : bits .and .i64 (a : Int) (b : Int) = ((a &&& b : Nat) : Int) := (bits_nat .i64 63 (by decide) wraps_i64 a b ha hb).1
theorem or_nat (a b : Nat) (ha : a < 2 ^ 63) (hb : b < 2 ^ 63) : bits .or .i64 (a : Int) (b : Int) = ((a ||| b : Nat) : Int) := (bits_nat .i64 63 (by decide) wraps_i64 a b ha hb).2
end Go.Proofs.Ytmaeahbiiiifmaa.Pb
/- The reference's draws of numbers out of bytes: they answer, within their bounds. No condition beyond the length that the laws ask. -/
namespace Go.Proofs.Ytmaeahbiiiifmaa.Pb
open Go.RowKit Go.Proofs.Ytmaeahbiiiifmaa Go.Proofs.Ytmaeahbiiiifmaa.Q Go.Proofs.YtmaeahbiiiifmaaW.PrintWords Go.Proofs.YtmaeahbiiiifmaaW.PrintLast
set_option linter.unusedVariables false
set_option linter.unusedSimpArgs false

/-- Where a cursor may stand in its bytes. -/
def Dr (b : List Int) (i : Int) : Prop := b.length ≤ 1048576 ∧ 0 ≤ i ∧ i ≤ (b.length : Int)
theorem l1New_ev (b : List Int) (hb : b.length ≤ 1048576) : ∃ h, Ev (fun k => spec_l1New.f k b) (b, 0, h) := by
  have key : ∀ d (i : Nat) x, i + d = b.length → ∃ h, Ev (fun k => spec_l1New.l0 k b x (i : Int)) (b, 0, h) := by
    intro d
    induction d with
    | zero =>
      intro i x hi
      exact ⟨x, Ev.step (fun k => rfl) (ev_neg (by omega) ev_some)⟩
    | succ d ih =>
      intro i x hi
      by_cases h4 : (i : Int) < 4000
      · obtain ⟨h, hE⟩ := ih (i + 1) (Go.bits .and .i64 (wrap64 ((wrap64 ((wrap64 (x * 137)) + (wrap64 (rd b (i : Int))))) + 11)) 1073741823) (by omega)
        refine ⟨h, Ev.step (fun k => rfl) (ev_pos (by omega) (ev_pos h4 (ev_pos (by omega) ?_)))⟩
        rw [w64 (x := (i : Int) + 1) (by omega) (by omega)]
        exact hE
      · exact ⟨x, Ev.step (fun k => rfl) (ev_pos (by omega) (ev_neg h4 ev_some))⟩
  exact key b.length 0 _ (by simp)
theorem l1Byte_ok {b : List Int} {i : Int} (h : Int) (hd : Dr b i) : ∃ x i' h', spec_l1Byte.f b i h = some (x, i', h') ∧ 0 ≤ x ∧ x ≤ 255 ∧ Dr b i' := by
  obtain ⟨hb, h0, h1⟩ := hd
  unfold spec_l1Byte.f
  by_cases hi : i < (b.length : Int)
  · rw [if_pos hi, if_pos h0]
    refine ⟨_, _, _, rfl, ?_, ?_, hb, ?_, ?_⟩
    · rw [and255]; omega
    · rw [and255]; omega
    · rw [w64 (by omega) (by omega)]; omega
    · rw [w64 (by omega) (by omega)]; omega
  · rw [if_neg hi]
    refine ⟨_, _, _, rfl, ?_, ?_, hb, h0, h1⟩
    · rw [and255]; omega
    · rw [and255]; omega
theorem tmod_bound {x a : Int} (hx : 0 ≤ x) (ha : 0 < a) : 0 ≤ Int.tmod x a ∧ Int.tmod x a < a := by
  rw [Int.tmod_eq_emod_of_nonneg hx]
  exact ⟨Int.emod_nonneg _ (by omega), Int.emod_lt_of_pos _ ha⟩
theorem l1Below_ok {b : List Int} {i : Int} (h a : Int) (hd : Dr b i) : ∃ x i' h', spec_l1Below.f b i h a = some (x, i', h') ∧ Dr b i' ∧ 0 ≤ x ∧ (0 < a → x < a) ∧ (a ≤ 0 → x = 0) := by
  unfold spec_l1Below.f
  by_cases h0 : a ≤ 0
  · rw [if_pos h0]
    exact ⟨0, i, h, rfl, hd, by omega, by omega, fun _ => rfl⟩
  · rw [if_neg h0]
    by_cases h1 : a ≤ 256
    · rw [if_pos h1]
      obtain ⟨x, i', h', e, x0, x1, hd'⟩ := l1Byte_ok h hd
      rw [e]
      simp only [Option.bind_some]
      rw [if_neg (by omega)]
      have := tmod_bound x0 (show 0 < a by omega)
      exact ⟨_, _, _, rfl, hd', this.1, fun _ => this.2, fun hh => absurd hh h0⟩
    · rw [if_neg h1]
      obtain ⟨x, i1, h1', e1, x0, x1, hd1⟩ := l1Byte_ok h hd
      obtain ⟨y, i2, h2', e2, y0, y1, hd2⟩ := l1Byte_ok h1' hd1
      obtain ⟨z, i3, h3', e3, z0, z1, hd3⟩ := l1Byte_ok h2' hd2
      rw [e1]
      simp only [Option.bind_some]
      rw [e2]
      simp only [Option.bind_some]
      rw [e3]
      simp only [Option.bind_some]
      rw [if_neg (by omega)]
      rw [w64 (x := x * 65536) (by omega) (by omega), w64 (x := y * 256) (by omega) (by omega), w64 (x := x * 65536 + y * 256) (by omega) (by omega), w64 (by omega) (by omega)]
      have := tmod_bound (show 0 ≤ x * 65536 + y * 256 + z by omega) (show 0 < a by omega)
      exact ⟨_, _, _, rfl, hd3, this.1, fun _ => this.2, fun hh => absurd hh h0⟩
theorem l1Once_ok {b : List Int} {i : Int} (h a : Int) (hd : Dr b i) : ∃ x i' h', spec_l1Once.f b i h a = some (x, i', h') ∧ Dr b i' := by
  unfold spec_l1Once.f
  obtain ⟨x, i', h', e, hd', _⟩ := l1Below_ok h a hd
  rw [e]
  exact ⟨_, _, _, rfl, hd'⟩
theorem l1Int_ok {b : List Int} {i : Int} (h : Int) (l : List Int) (hd : Dr b i) (hl : 0 < l.length) : ∃ x i' h', spec_l1Int.f b i h l = some (x, i', h') ∧ Dr b i' ∧ x ∈ l := by
  unfold spec_l1Int.f
  obtain ⟨x, i', h', e, hd', x0, x1, _⟩ := l1Below_ok h (l.length : Int) hd
  have x2 := x1 (by omega)
  rw [e]
  simp only [Option.bind_some]
  rw [if_pos x0, if_pos x2]
  refine ⟨_, _, _, rfl, hd', ?_⟩
  unfold rd
  rw [List.getD_eq_getElem?_getD, List.getElem?_eq_getElem (by omega)]
  exact List.getElem_mem _
end Go.Proofs.Ytmaeahbiiiifmaa.Pb
/- What a node is. No condition beyond the length. -/
namespace Go.Proofs.Ytmaeahbiiiifmaa.Pb
open Go.RowKit Go.Proofs.Ytmaeahbiiiifmaa Go.Proofs.Ytmaeahbiiiifmaa.Q Go.Proofs.YtmaeahbiiiifmaaW.PrintWords Go.Proofs.YtmaeahbiiiifmaaW.PrintLast
set_option linter.unusedVariables false
set_option linter.unusedSimpArgs false

theorem isNode_eq (l : List Int) (k : Int) (hl : l.length ≤ 1048576) : impl_Tree_isNode.f l k = some (decide (0 ≤ k ∧ k ≤ (l.length : Int) - 1)) := by
  unfold impl_Tree_isNode.f
  rw [w64 (by omega) (by omega), within_eq]
  rfl
end Go.Proofs.Ytmaeahbiiiifmaa.Pb
/- Trees as plain lists: what the program's and the reference's functions on them answer. No condition beyond the size that the laws ask. -/
namespace Go.Proofs.Ytmaeahbiiiifmaa.Pb
open Go.RowKit Go.Proofs.Ytmaeahbiiiifmaa Go.Proofs.Ytmaeahbiiiifmaa.Q Go.Proofs.YtmaeahbiiiifmaaW.PrintWords Go.Proofs.YtmaeahbiiiifmaaW.PrintLast
set_option linter.unusedVariables false
set_option linter.unusedSimpArgs false

/-! ### TreeOk -/
/-- Whether element k of a tree is right. -/
def upOk (l : List Int) (k : Nat) : Bool := decide (if k = 0 then l.getD k 0 = -1 else 0 ≤ l.getD k 0 ∧ l.getD k 0 ≤ (k : Int) - 1)
def treeOk (l : List Int) : Bool := decide (1 ≤ l.length ∧ l.length ≤ 7) && (List.range l.length).all (upOk l)
theorem implTreeOk_ev (l : List Int) (hl : l.length ≤ 1048576) : Ev (fun k => impl_TreeOk.f k l) (treeOk l) := by
  unfold impl_TreeOk.f
  have h := loop_find (ρ := Bool) (fun k i => impl_TreeOk.l0 k l (l.length : Int) i l) l.length (fun i => !upOk l i) (fun _ => false) (decide (1 ≤ l.length ∧ l.length ≤ 7)) ?_ ?_ ?_
  · refine ev_eq h ?_
    unfold treeOk
    cases hf : (List.range l.length).find? (fun i => !upOk l i) with
    | some i =>
      have h1 := List.find?_some hf
      have h2 := List.mem_of_find?_eq_some hf
      have : (List.range l.length).all (upOk l) = false := by
        rw [List.all_eq_false]
        exact ⟨i, h2, by simpa using h1⟩
      simp [this]
    | none =>
      have : (List.range l.length).all (upOk l) = true := by
        rw [List.all_eq_true]
        intro x hx
        have := List.find?_eq_none.1 hf x hx
        simpa using this
      simp [this]
  · intro i hi hp
    refine Ev.step (fun k => rfl) ?_
    refine ev_pos (by omega) (ev_pos (by omega) (ev_pos (by omega) ?_))
    simp only [upOk, Bool.not_eq_true', decide_eq_false_iff_not] at hp
    refine ev_if (fun h0 => ?_) (fun h0 => ?_)
    · obtain rfl : i = 0 := by omega
      exact ev_neg (by simpa [rd] using hp) ev_some
    · rw [if_neg (by omega)] at hp
      refine ev_pos (by omega) ?_
      rw [w64 (by omega) (by omega)]
      refine ev_then (within_eq _ _ _) ?_
      rw [decide_eq_false (by simpa [rd] using hp)]
      exact ev_false ev_some
  · intro i r hi hp h
    refine Ev.step (fun k => rfl) ?_
    refine ev_pos (by omega) (ev_pos (by omega) (ev_pos (by omega) ?_))
    simp only [upOk, Bool.not_eq_false', decide_eq_true_eq] at hp
    rw [w64 (x := (i : Int) + 1) (by omega) (by omega)]
    refine ev_if (fun h0 => ?_) (fun h0 => ?_)
    · obtain rfl : i = 0 := by omega
      refine ev_pos (by simpa [rd] using hp) (ev_neg (by omega) h)
    · rw [if_neg (by omega)] at hp
      refine ev_pos (by omega) ?_
      rw [w64 (by omega) (by omega)]
      refine ev_then (within_eq _ _ _) ?_
      rw [decide_eq_true (by simpa [rd] using hp)]
      exact ev_true h
  · refine Ev.step (fun k => rfl) ?_
    refine ev_neg (by omega) ?_
    refine ev_then (within_eq _ _ _) (ev_eq ev_some ?_)
    rw [Bool.eq_iff_iff]
    simp
    omega
theorem specTreeOk_ev (l : List Int) (hl : l.length ≤ 1048576) : Ev (fun k => spec_TreeOk.f k l) (treeOk l) := by
  unfold spec_TreeOk.f
  refine ev_then (l1In_eq _ _ _) ?_
  refine ev_bool (fun h => ?_) (fun h => ?_)
  · have hl7 : 1 ≤ l.length ∧ l.length ≤ 7 := by simp at h; omega
    refine ev_pos (by omega) ?_
    refine Ev.step (fun k => rfl) ?_
    refine ev_bool (fun h0 => ev_eq ev_some ?_) (fun h0 => ?_)
    · symm
      unfold treeOk
      have : (List.range l.length).all (upOk l) = false := by
        rw [List.all_eq_false]
        exact ⟨0, by simp; omega, by simpa [upOk, rd] using h0⟩
      simp [this]
    · have h00 : upOk l 0 = true := by simpa [upOk, rd] using h0
      obtain ⟨m, hm⟩ : ∃ m, l.length = m + 1 := ⟨l.length - 1, by omega⟩
      have hall : treeOk l = (List.range m).all (fun i => upOk l (i + 1)) := by
        unfold treeOk
        rw [decide_eq_true hl7, hm, List.range_succ_eq_map]
        simp [h00, Function.comp_def]
      rw [hall]
      refine loop_all (fun k i => spec_TreeOk.l0 k (i + 1) l) m _ ?_ ?_ ?_
      · intro i r hi hp h
        refine Ev.step (fun k => rfl) ?_
        simp only [upOk, decide_eq_true_eq] at hp
        rw [if_neg (by omega)] at hp
        refine ev_pos (by omega) (ev_pos (by omega) ?_)
        refine ev_then (l1In_eq _ _ _) ?_
        rw [w64 (x := (i : Int) + 1 - 1) (by omega) (by omega), w64 (by omega) (by omega)]
        have e : ((i : Int) + 1).toNat = i + 1 := by omega
        rw [decide_eq_true (by unfold rd; rw [e]; constructor <;> omega)]
        exact ev_true h
      · intro i hi hp
        refine Ev.step (fun k => rfl) ?_
        simp only [upOk, decide_eq_false_iff_not] at hp
        rw [if_neg (by omega)] at hp
        refine ev_pos (by omega) (ev_pos (by omega) ?_)
        refine ev_then (l1In_eq _ _ _) ?_
        rw [w64 (x := (i : Int) + 1 - 1) (by omega) (by omega)]
        have e : ((i : Int) + 1).toNat = i + 1 := by omega
        rw [decide_eq_false (by unfold rd; rw [e]; rintro ⟨h1, h2⟩; exact hp ⟨h1, by omega⟩)]
        exact ev_false ev_some
      · refine Ev.step (fun k => rfl) ?_
        exact ev_neg (by omega) ev_some
  · refine Ev.step (fun k => rfl) ?_
    refine Ev.congr (f := fun _ => some false) (fun k => rfl) (ev_eq ev_some ?_)
    symm
    unfold treeOk
    have : decide (1 ≤ l.length ∧ l.length ≤ 7) = false := by simp at h ⊢; omega
    simp [this]

/-! ### PathUp -/
/-- k, what stands above it, and so on, at most n. -/
def path : Nat → List Int → Int → List Int
  | 0, _, _ => []
  | n + 1, l, k => if 0 ≤ k ∧ k ≤ (l.length : Int) - 1 then k :: path n l (rd l k) else []
def pathUp (l : List Int) (k : Int) : List Int := path l.length l k
theorem path_length (n : Nat) (l : List Int) : ∀ k, (path n l k).length ≤ n := by
  induction n with
  | zero => intro k; simp [path]
  | succ n ih =>
    intro k
    unfold path
    split
    · simp only [List.length_cons]; have := ih (rd l k); omega
    · simp
theorem pathUp_length (l : List Int) (k : Int) : (pathUp l k).length ≤ l.length := path_length _ _ _
theorem implPathUp_ev (l : List Int) (k0 : Int) (hl : l.length ≤ 1048576) : Ev (fun k => impl_PathUp.f k l k0) (pathUp l k0) := by
  have key : ∀ d (acc : List Int) (a : Int), acc.length + d = l.length → Ev (fun k => impl_PathUp.l0 k a acc l) (acc ++ path d l a) := by
    intro d
    induction d with
    | zero =>
      intro acc a h
      refine Ev.step (fun k => rfl) ?_
      refine ev_then (isNode_eq l a hl) ?_
      refine ev_bool (fun _ => ev_neg (by omega) (ev_eq ev_some (by simp [path]))) (fun _ => ev_eq ev_some (by simp [path]))
    | succ d ih =>
      intro acc a h
      refine Ev.step (fun k => rfl) ?_
      refine ev_then (isNode_eq l a hl) ?_
      refine ev_bool (fun hn => ?_) (fun hn => ev_eq ev_some ?_)
      · have hn' : 0 ≤ a ∧ a ≤ (l.length : Int) - 1 := of_decide_eq_true hn
        refine ev_pos (by omega) (ev_pos (by omega) (ev_pos (by omega) (ev_pos (by omega) ?_)))
        refine ev_eq (ih (acc ++ [a]) (rd l a) (by simp; omega)) ?_
        simp [path, hn']
      · have hn' : ¬ (0 ≤ a ∧ a ≤ (l.length : Int) - 1) := of_decide_eq_false hn
        simp [path, hn']
  have := key l.length [] k0 (by simp)
  rw [List.nil_append] at this
  exact this
theorem specPathUp_ev (l : List Int) (k0 : Int) (hl : l.length ≤ 1048576) : Ev (fun k => spec_PathUp.f k l k0) (pathUp l k0) := by
  have key : ∀ d (acc : List Int) (a : Int), acc.length + d = l.length → Ev (fun k => spec_PathUp.l0 k a acc l) (acc ++ path d l a) := by
    intro d
    induction d with
    | zero =>
      intro acc a h
      refine Ev.step (fun k => rfl) ?_
      refine ev_then (l1In_eq _ _ _) ?_
      refine ev_bool (fun _ => ev_neg (by omega) (ev_eq ev_some (by simp [path]))) (fun _ => ev_eq ev_some (by simp [path]))
    | succ d ih =>
      intro acc a h
      refine Ev.step (fun k => rfl) ?_
      refine ev_then (l1In_eq _ _ _) ?_
      rw [w64 (by omega) (by omega)]
      refine ev_bool (fun hn => ?_) (fun hn => ev_eq ev_some ?_)
      · have hn' : 0 ≤ a ∧ a ≤ (l.length : Int) - 1 := of_decide_eq_true hn
        refine ev_pos (by omega) (ev_pos (by omega) (ev_pos (by omega) (ev_pos (by omega) ?_)))
        refine ev_eq (ih (acc ++ [a]) (rd l a) (by simp; omega)) ?_
        simp [path, hn']
      · have hn' : ¬ (0 ≤ a ∧ a ≤ (l.length : Int) - 1) := of_decide_eq_false hn
        simp [path, hn']
  have := key l.length [] k0 (by simp)
  rw [List.nil_append] at this
  exact this

def deepOf (l : List Int) (k : Int) : Int := if ((pathUp l k).length : Int) - 1 > 0 then ((pathUp l k).length : Int) - 1 else 0
theorem specDeepOf_ev (l : List Int) (k0 : Int) (hl : l.length ≤ 1048576) : Ev (fun k => spec_DeepOf.f k l k0) (deepOf l k0) := by
  have hp := pathUp_length l k0
  refine Ev.bind (specPathUp_ev l k0 hl) ?_
  rw [w64 (by omega) (by omega)]
  refine ev_then (x := deepOf l k0) ?_ ev_some
  unfold spec_Most.f deepOf
  split <;> rfl
theorem implDeepOf_ev (l : List Int) (k0 : Int) (hl : l.length ≤ 1048576) : Ev (fun k => impl_DeepOf.f k l k0) (deepOf l k0) := by
  have hp := pathUp_length l k0
  refine Ev.bind (implPathUp_ev l k0 hl) ?_
  rw [w64 (by omega) (by omega)]
  refine ev_eq ev_some ?_
  unfold mx deepOf
  repeat' split
  all_goals omega

/-! ### Ancestor -/
def has (l : List Int) (a : Int) : Bool := decide (a ∈ l)
theorem find_has (l : List Int) (a : Int) : (match (List.range l.length).find? (fun i => decide (l.getD i 0 = a)) with | some _ => true | none => false) = has l a := by
  unfold has
  cases hf : (List.range l.length).find? (fun i => decide (l.getD i 0 = a)) with
  | some i =>
    have h1 := List.find?_some hf
    have h2 := List.mem_of_find?_eq_some hf
    symm
    rw [decide_eq_true_eq]
    simp only [decide_eq_true_eq] at h1
    have hi : i < l.length := by simpa using h2
    rw [← h1, List.getD_eq_getElem?_getD, List.getElem?_eq_getElem hi]
    exact List.getElem_mem hi
  | none =>
    symm
    rw [decide_eq_false_iff_not]
    intro hm
    obtain ⟨i, hi, e⟩ := List.getElem_of_mem hm
    have := List.find?_eq_none.1 hf i (by simpa using hi)
    apply this
    simp [List.getD_eq_getElem?_getD, List.getElem?_eq_getElem hi, e]
theorem specHas_ev (l : List Int) (a : Int) (hl : l.length ≤ 1048576) : Ev (fun k => spec_l13Has.f k l a) (has l a) := by
  rw [← find_has]
  refine loop_find (fun k i => spec_l13Has.l0 k l a i) l.length _ (fun _ => true) false ?_ ?_ ?_
  · intro i hi hp
    refine Ev.step (fun k => rfl) ?_
    exact ev_pos (by omega) (ev_pos (by omega) (ev_pos (by simpa [rd] using hp) ev_some))
  · intro i r hi hp h
    refine Ev.step (fun k => rfl) ?_
    refine ev_pos (by omega) (ev_pos (by omega) (ev_neg (by simpa [rd] using hp) ?_))
    rw [w64 (by omega) (by omega)]
    exact h
  · refine Ev.step (fun k => rfl) ?_
    exact ev_neg (by omega) ev_some
theorem implIndex_ev (l : List Int) (a : Int) (hl : l.length ≤ 1048576) : Ev (fun k => slices_Index_int_int.f k l a) (match (List.range l.length).find? (fun i => decide (l.getD i 0 = a)) with | some i => (i : Int) | none => -1) := by
  refine loop_find (fun k i => slices_Index_int_int.l0 k l a (l.length : Int) i) l.length _ (fun i => (i : Int)) (-1) ?_ ?_ ?_
  · intro i hi hp
    refine Ev.step (fun k => rfl) ?_
    simp only [decide_eq_true_eq] at hp
    exact ev_pos (by omega) (ev_pos (by omega) (ev_pos (by omega) (ev_pos (by rw [← hp]; simp [rd]) ev_some)))
  · intro i r hi hp h
    refine Ev.step (fun k => rfl) ?_
    simp only [decide_eq_false_iff_not] at hp
    refine ev_pos (by omega) (ev_pos (by omega) (ev_pos (by omega) (ev_neg (fun e => hp (by rw [e]; simp [rd])) ?_)))
    rw [w64 (by omega) (by omega)]
    exact h
  · refine Ev.step (fun k => rfl) ?_
    exact ev_neg (by omega) ev_some
theorem implContains_ev (l : List Int) (a : Int) (hl : l.length ≤ 1048576) : Ev (fun k => slices_Contains_int_int.f k l a) (has l a) := by
  refine Ev.bind (implIndex_ev l a hl) (ev_eq ev_some ?_)
  rw [← find_has]
  cases (List.range l.length).find? (fun i => decide (l.getD i 0 = a)) with
  | some i => simp
  | none => simp
def ancestor (l : List Int) (a k : Int) : Bool := decide (a ≠ k) && has (pathUp l k) a
theorem specAncestor_ev (l : List Int) (a k0 : Int) (hl : l.length ≤ 1048576) : Ev (fun k => spec_Ancestor.f k l a k0) (ancestor l a k0) := by
  have hp := pathUp_length l k0
  unfold spec_Ancestor.f ancestor
  refine ev_if (fun h => ev_eq ev_some (by simp [h])) (fun h => ?_)
  refine Ev.bind (specPathUp_ev l k0 hl) (Ev.bind (specHas_ev _ a (by omega)) (ev_eq ev_some (by simp [h])))
theorem implAncestor_ev (l : List Int) (a k0 : Int) (hl : l.length ≤ 1048576) : Ev (fun k => impl_Ancestor.f k l a k0) (ancestor l a k0) := by
  have hp := pathUp_length l k0
  unfold impl_Ancestor.f ancestor
  refine ev_if (fun h => ev_eq ev_some (by simp [h])) (fun h => ?_)
  refine Ev.bind (implPathUp_ev l k0 hl) (Ev.bind (implContains_ev _ a (by omega)) (ev_eq ev_some (by simp [h])))

end Go.Proofs.Ytmaeahbiiiifmaa.Pb
/- The reference's draws of trees: they answer; the ones that are right are right. No condition beyond the length that the laws ask. -/
namespace Go.Proofs.Ytmaeahbiiiifmaa.Pb
open Go.RowKit Go.Proofs.Ytmaeahbiiiifmaa Go.Proofs.Ytmaeahbiiiifmaa.Q Go.Proofs.YtmaeahbiiiifmaaW.PrintWords Go.Proofs.YtmaeahbiiiifmaaW.PrintLast
set_option linter.unusedVariables false
set_option linter.unusedSimpArgs false

/-- A tree, so far. -/
def TreeSo (u : List Int) : Prop := 1 ≤ u.length ∧ u.length ≤ 7 ∧ ∀ i, i < u.length → upOk u i = true
theorem treeSo_ok {u : List Int} (h : TreeSo u) : treeOk u = true := by
  unfold treeOk
  simp only [Bool.and_eq_true, decide_eq_true_eq, List.all_eq_true, List.mem_range]
  exact ⟨⟨h.1, h.2.1⟩, h.2.2⟩
theorem treeSo_snoc {u : List Int} (h : TreeSo u) {x : Int} (h7 : u.length < 7) (h0 : 0 ≤ x) (h1 : x ≤ (u.length : Int) - 1) : TreeSo (u ++ [x]) := by
  obtain ⟨a, b, c⟩ := h
  refine ⟨by simp, by rw [List.length_append, List.length_singleton]; omega, fun i hi => ?_⟩
  rw [List.length_append, List.length_singleton] at hi
  by_cases e : i < u.length
  · have := c i e
    unfold upOk at this ⊢
    rw [List.getD_eq_getElem?_getD] at this ⊢
    rwa [List.getElem?_append_left e]
  · have e' : i = u.length := by omega
    subst e'
    unfold upOk
    rw [List.getD_eq_getElem?_getD, List.getElem?_append_right (Nat.le_refl _)]
    simp only [Nat.sub_self, List.getElem?_cons_zero, Option.getD_some, decide_eq_true_eq]
    rw [if_neg (by omega)]
    exact ⟨h0, h1⟩
theorem l13Draw_ev {b : List Int} {i : Int} (h : Int) (hd : Dr b i) : ∃ u i' h', Ev (fun k => spec_l13Draw.f k b i h) (u, i', h') ∧ Dr b i' ∧ TreeSo u := by
  have key : ∀ d (u : List Int) i h, u.length + d = 7 → Dr b i → TreeSo u → ∃ u' i' h', Ev (fun k => spec_l13Draw.l0 k (u.length : Int) b i h u) (u', i', h') ∧ Dr b i' ∧ TreeSo u' := by
    intro d
    induction d with
    | zero =>
      intro u i h hu hd ht
      obtain ⟨x, i1, h1, e1, hd1, x0, x1, _⟩ := l1Below_ok h 7 hd
      have x2 := x1 (by omega)
      refine ⟨u, i1, h1, Ev.step (fun k => rfl) (ev_then e1 (ev_neg ?_ ev_some)), hd1, ht⟩
      rw [w64 (by omega) (by omega)]
      omega
    | succ d ih =>
      intro u i h hu hd ht
      obtain ⟨x, i1, h1, e1, hd1, x0, x1, _⟩ := l1Below_ok h 7 hd
      have x2 := x1 (by omega)
      by_cases hx : (u.length : Int) < 1 + x
      · obtain ⟨y, i2, h2, e2, hd2⟩ := l1Once_ok h1 2 hd1
        cases y with
        | true =>
          obtain ⟨z, i3, h3, e3, hd3, z0, z1, _⟩ := l1Below_ok h2 (u.length : Int) hd2
          have z2 := z1 (by have := ht.1; omega)
          obtain ⟨u', i', h', hE, hd', ht'⟩ := ih (u ++ [z]) i3 h3 (by rw [List.length_append, List.length_singleton]; omega) hd3 (treeSo_snoc ht (by omega) z0 (by omega))
          refine ⟨u', i', h', Ev.step (fun k => rfl) (ev_then e1 (ev_pos ?_ (ev_then e2 (ev_pos rfl (ev_then e3 (ev_pos (by omega) ?_)))))), hd', ht'⟩
          · rw [w64 (by omega) (by omega)]; exact hx
          · rw [w64 (by omega) (by omega)]
            have e : ((u ++ [z]).length : Int) = (u.length : Int) + 1 := by rw [List.length_append, List.length_singleton]; omega
            rw [e] at hE
            exact hE
        | false =>
          obtain ⟨u', i', h', hE, hd', ht'⟩ := ih (u ++ [(u.length : Int) - 1]) i2 h2 (by rw [List.length_append, List.length_singleton]; omega) hd2 (treeSo_snoc ht (by omega) (by have := ht.1; omega) (by omega))
          refine ⟨u', i', h', Ev.step (fun k => rfl) (ev_then e1 (ev_pos ?_ (ev_then e2 (ev_neg (by simp) (ev_pos (by omega) ?_))))), hd', ht'⟩
          · rw [w64 (by omega) (by omega)]; exact hx
          · rw [w64 (x := (u.length : Int) + 1) (by omega) (by omega), w64 (by omega) (by omega)]
            have e : ((u ++ [(u.length : Int) - 1]).length : Int) = (u.length : Int) + 1 := by rw [List.length_append, List.length_singleton]; omega
            rw [e] at hE
            exact hE
      · refine ⟨u, i1, h1, Ev.step (fun k => rfl) (ev_then e1 (ev_neg ?_ ev_some)), hd1, ht⟩
        rw [w64 (by omega) (by omega)]
        exact hx
  have h1 : TreeSo [-1] := ⟨by decide, by decide, fun i hi => by
    obtain rfl : i = 0 := by simpa using hi
    decide⟩
  exact key 6 [-1] i h rfl hd h1
theorem drawTree_ev (b : List Int) (hb : b.length ≤ 1048576) : ∃ u, Ev (fun k => spec_DrawTree.f k b) u ∧ TreeSo u := by
  obtain ⟨h, hE⟩ := l1New_ev b hb
  obtain ⟨u, i', h', hE', hd, ht⟩ := l13Draw_ev h (show Dr b 0 from ⟨hb, by omega, by omega⟩)
  exact ⟨u, Ev.bind hE (Ev.bind hE' ev_some), ht⟩
theorem l13Any_ev {b : List Int} {i : Int} (h : Int) (hd : Dr b i) : ∃ u i' h', Ev (fun k => spec_l13Any.f k b i h) (u, i', h') ∧ Dr b i' ∧ u.length ≤ 7 := by
  obtain ⟨u, i1, h1, hE, hd1, ht⟩ := l13Draw_ev h hd
  obtain ⟨x, i2, h2, e2, hd2, x0, x1, _⟩ := l1Below_ok h1 8 hd1
  unfold spec_l13Any.f
  by_cases c0 : x = 0
  · obtain ⟨y, i3, h3, e3, hd3, y0, y1, _⟩ := l1Below_ok h2 (u.length : Int) hd2
    have y2 := y1 (by have := ht.1; omega)
    obtain ⟨z, i4, h4, e4, hd4, _⟩ := l1Int_ok h3 ([(-1), 0, 6, (-2)] : List Int) hd3 (by decide)
    exact ⟨_, _, _, Ev.bind hE (ev_then e2 (ev_pos c0 (ev_then e3 (ev_then e4 (ev_pos y0 (ev_pos y2 ev_some)))))), hd4, by simpa using ht.2.1⟩
  · by_cases c1 : x = 1
    · exact ⟨_, _, _, Ev.bind hE (ev_then e2 (ev_neg c0 (ev_pos c1 ev_some))), hd2, by simp⟩
    · exact ⟨_, _, _, Ev.bind hE (ev_then e2 (ev_neg c0 (ev_neg c1 ev_some))), hd2, ht.2.1⟩
theorem drawPathUp_ev (b : List Int) (hb : b.length ≤ 1048576) : ∃ u x, Ev (fun k => spec_DrawPathUp.f k b) (u, x) ∧ u.length ≤ 7 := by
  obtain ⟨h, hE⟩ := l1New_ev b hb
  obtain ⟨u, i1, h1, hE1, hd1, hu⟩ := l13Any_ev h (show Dr b 0 from ⟨hb, by omega, by omega⟩)
  obtain ⟨x, i2, h2, e2, hd2, _⟩ := l1Below_ok h1 9 hd1
  have p : Ev (fun k => spec_l13Pair.f k b) (u, wrap64 (x - 1)) := Ev.bind hE (Ev.bind hE1 (ev_then e2 ev_some))
  exact ⟨u, _, Ev.bind p ev_some, hu⟩
theorem drawTreeOk_ev (b : List Int) (hb : b.length ≤ 1048576) : ∃ u, Ev (fun k => spec_DrawTreeOk.f k b) u ∧ u.length ≤ 7 := by
  obtain ⟨h, hE⟩ := l1New_ev b hb
  obtain ⟨u, i1, h1, hE1, hd1, hu⟩ := l13Any_ev h (show Dr b 0 from ⟨hb, by omega, by omega⟩)
  exact ⟨u, Ev.bind hE (Ev.bind hE1 ev_some), hu⟩
theorem drawAncestor_ev (b : List Int) (hb : b.length ≤ 1048576) : ∃ u x y, Ev (fun k => spec_DrawAncestor.f k b) (u, x, y) ∧ u.length ≤ 7 := by
  obtain ⟨h, hE⟩ := l1New_ev b hb
  obtain ⟨u, i1, h1, hE1, hd1, hu⟩ := l13Any_ev h (show Dr b 0 from ⟨hb, by omega, by omega⟩)
  obtain ⟨x, i2, h2, e2, hd2, _⟩ := l1Below_ok h1 8 hd1
  obtain ⟨y, i3, h3, e3, hd3, _⟩ := l1Below_ok h2 8 hd2
  exact ⟨u, _, _, Ev.bind hE (Ev.bind hE1 (ev_then e2 (ev_then e3 ev_some))), hu⟩

/-! ### A tree that is right: everybody's way leads to the first one -/
theorem up_lt {u : List Int} (h : TreeSo u) {k : Int} (h0 : 1 ≤ k) (h1 : k ≤ (u.length : Int) - 1) : 0 ≤ rd u k ∧ rd u k ≤ k - 1 := by
  have := h.2.2 k.toNat (by omega)
  unfold upOk at this
  rw [decide_eq_true_eq, if_neg (by omega)] at this
  unfold rd
  omega
theorem up_root {u : List Int} (h : TreeSo u) : rd u 0 = -1 := by
  have := h.2.2 0 (by have := h.1; omega)
  unfold upOk at this
  rw [decide_eq_true_eq, if_pos rfl] at this
  exact this
/-- The way up from k. -/
def way (u : List Int) : Nat → Int → List Int
  | 0, k => [k]
  | n + 1, k => if k = 0 then [0] else k :: way u n (rd u k)
theorem path_way {u : List Int} (h : TreeSo u) : ∀ (n m : Nat) (k : Int), 0 ≤ k → k ≤ (n : Int) → k ≤ (u.length : Int) - 1 → n < m → path m u k = way u n k := by
  intro n
  induction n with
  | zero =>
    intro m k h0 h1 h2 hm
    obtain ⟨m, rfl⟩ : ∃ q, m = q + 1 := ⟨m - 1, by omega⟩
    obtain rfl : k = 0 := by omega
    unfold path way
    rw [if_pos ⟨by omega, h2⟩, up_root h]
    cases m with
    | zero => rfl
    | succ m => unfold path; rw [if_neg (by omega)]
  | succ n ih =>
    intro m k h0 h1 h2 hm
    obtain ⟨m, rfl⟩ : ∃ q, m = q + 1 := ⟨m - 1, by omega⟩
    by_cases hk : k = 0
    · subst hk
      unfold path way
      rw [if_pos ⟨by omega, h2⟩, up_root h, if_pos rfl]
      cases m with
      | zero => rfl
      | succ m => unfold path; rw [if_neg (by omega)]
    · have hu := up_lt h (show 1 ≤ k by omega) h2
      unfold path way
      rw [if_pos ⟨by omega, h2⟩, if_neg hk, ih m (rd u k) hu.1 (by omega) (by omega) (by omega)]
theorem rd_cons_zero (a : Int) (l : List Int) : rd (a :: l) 0 = a := rfl
theorem rd_cons_succ (a : Int) (l : List Int) (j : Nat) : rd (a :: l) ((j : Int) + 1) = rd l (j : Int) := by
  unfold rd
  have e : ((j : Int) + 1).toNat = j + 1 := by omega
  rw [e, Int.toNat_natCast, List.getD_cons_succ]
/-- What is known of the way up. -/
structure Way (u : List Int) (k : Int) (w : List Int) : Prop where
  pos : 0 < w.length
  head : rd w 0 = k
  step : ∀ j : Nat, j + 1 < w.length → rd w (j : Int) ≠ 0 ∧ rd w ((j : Int) + 1) = rd u (rd w (j : Int))
  last : rd w ((w.length : Int) - 1) = 0
  low : ∀ j : Nat, 1 ≤ j → j < w.length → 0 ≤ rd w (j : Int) ∧ rd w (j : Int) < k
theorem way_is {u : List Int} (h : TreeSo u) : ∀ (n : Nat) (k : Int), 0 ≤ k → k ≤ (n : Int) → k ≤ (u.length : Int) - 1 → Way u k (way u n k) := by
  have one : Way u 0 [0] := ⟨by simp, rfl, fun j hj => by simp at hj, by rfl, fun j h1 h2 => by simp at h2; omega⟩
  intro n
  induction n with
  | zero =>
    intro k h0 h1 h2
    obtain rfl : k = 0 := by omega
    exact one
  | succ n ih =>
    intro k h0 h1 h2
    by_cases hk : k = 0
    · subst hk
      unfold way
      rw [if_pos rfl]
      exact one
    · have hu := up_lt h (show 1 ≤ k by omega) h2
      have W := ih (rd u k) hu.1 (by omega) (by omega)
      unfold way
      rw [if_neg hk]
      refine ⟨by simp, rfl, fun j hj => ?_, ?_, fun j h3 h4 => ?_⟩
      · cases j with
        | zero => exact ⟨hk, by have := rd_cons_succ k (way u n (rd u k)) 0; rw [Int.natCast_zero] at this ⊢; rw [this]; exact W.head⟩
        | succ j =>
          have hj' : j + 1 < (way u n (rd u k)).length := by simpa using hj
          have hs := W.step j hj'
          have e1 : ((j + 1 : Nat) : Int) = (j : Int) + 1 := by omega
          rw [e1, rd_cons_succ]
          have e2 : (j : Int) + 1 + 1 = ((j + 1 : Nat) : Int) + 1 := by omega
          rw [e2, rd_cons_succ, e1]
          exact hs
      · have e : (((k :: way u n (rd u k)).length : Int) - 1) = (((way u n (rd u k)).length - 1 : Nat) : Int) + 1 := by
          have := W.pos
          simp only [List.length_cons]
          omega
        rw [e, rd_cons_succ]
        have := W.last
        have e3 : (((way u n (rd u k)).length - 1 : Nat) : Int) = ((way u n (rd u k)).length : Int) - 1 := by have := W.pos; omega
        rw [e3]
        exact this
      · obtain ⟨j, rfl⟩ : ∃ q, j = q + 1 := ⟨j - 1, by omega⟩
        have h4' : j < (way u n (rd u k)).length := by simpa using h4
        have e1 : ((j + 1 : Nat) : Int) = (j : Int) + 1 := by omega
        rw [e1, rd_cons_succ]
        by_cases hj : j = 0
        · subst hj
          have := W.head
          rw [Int.natCast_zero, this]
          omega
        · have := W.low j (by omega) h4'
          omega
theorem pathUp_way {u : List Int} (h : TreeSo u) {k : Int} (h0 : 0 ≤ k) (h1 : k ≤ (u.length : Int) - 1) : Way u k (pathUp u k) := by
  have e : pathUp u k = way u k.toNat k := path_way h k.toNat u.length k h0 (by omega) h1 (by omega)
  rw [e]
  exact way_is h k.toNat k h0 (by omega) h1
theorem has_rd {l : List Int} (j : Nat) (h : j < l.length) : has l (rd l (j : Int)) = true := by
  unfold has
  rw [decide_eq_true_eq, rd_nat l j h]
  exact List.getElem_mem h
end Go.Proofs.Ytmaeahbiiiifmaa.Pb
/- All nodes below one, as plain lists. No condition beyond the size that the laws ask. -/
namespace Go.Proofs.Ytmaeahbiiiifmaa.Pb
open Go.RowKit Go.Proofs.Ytmaeahbiiiifmaa Go.Proofs.Ytmaeahbiiiifmaa.Q Go.Proofs.YtmaeahbiiiifmaaW.PrintWords Go.Proofs.YtmaeahbiiiifmaaW.PrintLast
set_option linter.unusedVariables false
set_option linter.unusedSimpArgs false

/-- The numbers below n of which p holds. -/
def those (p : Nat → Bool) (n : Nat) : List Int := iter n (fun i (s : List Int) => if p i = true then s ++ [(i : Int)] else s) []
theorem those_length (p : Nat → Bool) (n : Nat) : (those p n).length ≤ n := by
  unfold those
  induction n with
  | zero => simp [iter_zero]
  | succ n ih =>
    rw [iter_succ]
    split
    · rw [List.length_append, List.length_singleton]; omega
    · omega
def belowOf (l : List Int) (a : Int) : List Int := those (fun i => ancestor l a (i : Int)) l.length
theorem belowOf_length (l : List Int) (a : Int) : (belowOf l a).length ≤ l.length := those_length _ _
theorem specBelowOf_ev (l : List Int) (a : Int) (hl : l.length ≤ 1048576) : Ev (fun k => spec_BelowOf.f k l a) (belowOf l a) := by
  refine loop_up (fun k s i => spec_BelowOf.l0 k a s i l) l.length (fun i (s : List Int) => if ancestor l a (i : Int) = true then s ++ [(i : Int)] else s) (fun i s => s.length ≤ i) [] _ (by simp) ?_ ?_ ?_
  · intro i s hi h
    split
    · rw [List.length_append, List.length_singleton]; omega
    · omega
  · intro i s r hi hs h
    refine Ev.step (fun k => rfl) ?_
    refine ev_pos (by omega) ?_
    refine Ev.bind (specAncestor_ev l a i hl) ?_
    rw [w64 (by omega) (by omega)]
    refine ev_bool (fun hb => ev_pos (by omega) ?_) (fun hb => ?_)
    · rw [if_pos hb] at h; exact h
    · rw [if_neg (by rw [hb]; decide)] at h; exact h
  · intro hs
    refine Ev.step (fun k => rfl) ?_
    exact ev_neg (by omega) ev_some
theorem implBelowOf_ev (l : List Int) (a : Int) (hl : l.length ≤ 1048576) : Ev (fun k => impl_BelowOf.f k l a) (belowOf l a) := by
  -- the rounds of the asking and those of the loop are one number: from enough rounds on each asking answers
  have hall : ∃ K, ∀ k, K ≤ k → ∀ i : Nat, i < l.length → impl_Ancestor.f k l a (i : Int) = some (ancestor l a (i : Int)) := by
    have : ∀ n : Nat, ∃ K, ∀ k, K ≤ k → ∀ i : Nat, i < n → impl_Ancestor.f k l a (i : Int) = some (ancestor l a (i : Int)) := by
      intro n
      induction n with
      | zero => exact ⟨0, fun k _ i hi => absurd hi (Nat.not_lt_zero _)⟩
      | succ n ih =>
        obtain ⟨K, h⟩ := ih
        obtain ⟨K', h'⟩ := implAncestor_ev l a (n : Int) hl
        refine ⟨max K K', fun k hk i hi => ?_⟩
        rcases Nat.lt_succ_iff_lt_or_eq.1 hi with h1 | rfl
        · exact h k (by omega) i h1
        · exact h' k (by omega)
    exact this _
  obtain ⟨K, hK⟩ := hall
  have key : ∀ q : Int → Option Bool, (∀ i : Nat, i < l.length → q (i : Int) = some (ancestor l a (i : Int))) → Ev (fun k => impl_BelowOf.l0 q (l.length : Int) k [] 0) (belowOf l a) := by
    intro q hq
    refine loop_up (fun k s i => impl_BelowOf.l0 q (l.length : Int) k s i) l.length (fun i (s : List Int) => if ancestor l a (i : Int) = true then s ++ [(i : Int)] else s) (fun i s => s.length ≤ i) [] _ (by simp) ?_ ?_ ?_
    · intro i s hi h
      split
      · rw [List.length_append, List.length_singleton]; omega
      · omega
    · intro i s r hi hs h
      refine Ev.step (fun k => rfl) ?_
      refine ev_pos (by omega) (ev_pos (by omega) ?_)
      refine ev_then (hq i hi) ?_
      rw [w64 (by omega) (by omega)]
      refine ev_bool (fun hb => ev_pos (by omega) ?_) (fun hb => ?_)
      · rw [if_pos hb] at h; exact h
      · rw [if_neg (by rw [hb]; decide)] at h; exact h
    · intro hs
      refine Ev.step (fun k => rfl) ?_
      exact ev_neg (by omega) ev_some
  obtain ⟨K2, h2⟩ := key (fun i => impl_Ancestor.f K l a i) (fun i hi => hK K (Nat.le_refl _) i hi)
  refine ⟨max K K2, fun k hk => ?_⟩
  have hmono : ∀ d, LeO (impl_BelowOf.l0 (fun i => impl_Ancestor.f K l a i) (l.length : Int) K2 [] 0) (impl_BelowOf.l0 (fun i => impl_Ancestor.f (K + d) l a i) (l.length : Int) (K2 + d) [] 0) := by
    intro d
    induction d with
    | zero => exact LeO.refl _
    | succ d ih => exact ih.trans (impl_BelowOf.mono_l _ _ (fun i => impl_Ancestor.mono l a i (K + d)) _ _ _ _)
  have h3 : impl_BelowOf.l0 (fun i => impl_Ancestor.f k l a i) (l.length : Int) k [] 0 = some (belowOf l a) := by
    have hq : ∀ i : Nat, i < l.length → (fun i => impl_Ancestor.f k l a i) (i : Int) = some (ancestor l a (i : Int)) := fun i hi => hK k (by omega) i hi
    obtain ⟨K3, h4⟩ := key (fun i => impl_Ancestor.f k l a i) hq
    -- the loop's own rounds: as many as with the askings' answers at K
    have same : ∀ m s i, impl_BelowOf.l0 (fun i => impl_Ancestor.f K l a i) (l.length : Int) m s i = some (belowOf l a) → impl_BelowOf.l0 (fun i => impl_Ancestor.f k l a i) (l.length : Int) m s i = some (belowOf l a) := by
      intro m
      induction m with
      | zero => intro s i h; simp [impl_BelowOf.l0] at h
      | succ m ih =>
        intro s i h
        simp only [impl_BelowOf.l0] at h ⊢
        by_cases c1 : i < (l.length : Int)
        · rw [if_pos c1] at h ⊢
          by_cases c2 : 0 ≤ i
          · rw [if_pos c2] at h ⊢
            obtain ⟨j, rfl⟩ := Int.eq_ofNat_of_zero_le c2
            have hj : j < l.length := by omega
            have e1 := hK K (Nat.le_refl _) j hj
            have e2 := hK k (by omega) j hj
            rw [e1] at h
            rw [e2]
            simp only [Option.bind_some] at h ⊢
            cases ha : ancestor l a (j : Int) with
            | true =>
              rw [ha] at h
              simp only [if_true] at h ⊢
              by_cases c3 : s.length < 17592186044416
              · rw [if_pos c3] at h ⊢; exact ih _ _ h
              · rw [if_neg c3] at h; cases h
            | false =>
              rw [ha] at h
              simp only [Bool.false_eq_true, if_false] at h ⊢
              exact ih _ _ h
          · rw [if_neg c2] at h; cases h
        · rw [if_neg c1] at h ⊢; exact h
    exact same k [] 0 (h2 k (by omega))
  exact h3
end Go.Proofs.Ytmaeahbiiiifmaa.Pb
/- The children of a node of a tree, as a plain list. No condition beyond the size that the laws ask. -/
namespace Go.Proofs.Ytmaeahbiiiifmaa.Pb
open Go.RowKit Go.Proofs.Ytmaeahbiiiifmaa Go.Proofs.Ytmaeahbiiiifmaa.Q Go.Proofs.YtmaeahbiiiifmaaW.PrintWords Go.Proofs.YtmaeahbiiiifmaaW.PrintLast
set_option linter.unusedVariables false
set_option linter.unusedSimpArgs false

/-! ### KidsOf -/
def kidsOf (l : List Int) (a : Int) : List Int := if 0 ≤ a ∧ a ≤ (l.length : Int) - 1 then iter l.length (fun i (s : List Int) => if l.getD i 0 = a then s ++ [(i : Int)] else s) [] else []
theorem iter_filter_length (l : List Int) (a : Int) (n : Nat) : (iter n (fun i (s : List Int) => if l.getD i 0 = a then s ++ [(i : Int)] else s) []).length ≤ n := by
  induction n with
  | zero => simp [iter_zero]
  | succ n ih =>
    rw [iter_succ]
    split
    · rw [List.length_append, List.length_singleton]; omega
    · omega
theorem kidsOf_length (l : List Int) (a : Int) : (kidsOf l a).length ≤ l.length := by
  unfold kidsOf
  split
  · exact iter_filter_length l a _
  · simp
theorem specKidsOf_ev (l : List Int) (a : Int) (hl : l.length ≤ 1048576) : Ev (fun k => spec_KidsOf.f k l a) (kidsOf l a) := by
  unfold kidsOf
  by_cases hn : 0 ≤ a ∧ a ≤ (l.length : Int) - 1
  · rw [if_pos hn]
    refine loop_up (fun k s i => spec_KidsOf.l0 k a s i l) l.length (fun i (s : List Int) => if l.getD i 0 = a then s ++ [(i : Int)] else s) (fun i s => s.length ≤ i) [] _ (by simp) ?_ ?_ ?_
    · intro i s hi h
      split
      · simp; omega
      · omega
    · intro i s r hi hs h
      refine Ev.step (fun k => rfl) ?_
      refine ev_pos (by omega) ?_
      refine ev_then (l1In_eq _ _ _) ?_
      rw [w64 (by omega) (by omega), decide_eq_true hn]
      refine Ev.step (f := fun k => if 0 ≤ (i : Int) then (if (i : Int) < (l.length : Int) then (if (rd l (i : Int)) = a then (if s.length < 17592186044416 then (spec_KidsOf.l0 k a (s ++ [(i : Int)]) (wrap64 ((i : Int) + 1)) l) else (none)) else (spec_KidsOf.l0 k a s (wrap64 ((i : Int) + 1)) l)) else (none)) else (none)) (fun k => rfl) ?_
      refine ev_pos (by omega) (ev_pos (by omega) ?_)
      rw [w64 (by omega) (by omega)]
      refine ev_if (fun hb => ev_pos (by omega) ?_) (fun hb => ?_)
      · rw [if_pos (by simpa [rd] using hb)] at h; exact h
      · rw [if_neg (by simpa [rd] using hb)] at h; exact h
    · intro hs
      refine Ev.step (fun k => rfl) ?_
      refine ev_neg (by omega) ?_
      exact Ev.step (f := fun _ => some _) (fun k => rfl) ev_some
  · rw [if_neg hn]
    refine Ev.step (f := fun k => if (0 : Int) < (l.length : Int) then ((spec_l1In.f a 0 (wrap64 ((l.length : Int) - 1))).bind fun t => spec_KidsOf.j1 k a [] 0 t l) else spec_KidsOf.j1 k a [] 0 false l) (fun k => rfl) ?_
    refine ev_if (fun _ => ?_) (fun _ => Ev.step (f := fun _ => some _) (fun k => rfl) ev_some)
    refine ev_then (l1In_eq _ _ _) ?_
    rw [w64 (by omega) (by omega), decide_eq_false hn]
    exact Ev.step (f := fun _ => some _) (fun k => rfl) ev_some
theorem implKidsOf_ev (l : List Int) (a : Int) (hl : l.length ≤ 1048576) : Ev (fun k => impl_KidsOf.f k l a) (kidsOf l a) := by
  have hq : ∀ i, impl_KidsOf.q l a i = some (decide (0 ≤ a ∧ a ≤ (l.length : Int) - 1) && (rd l i == a)) := fun i => by
    unfold impl_KidsOf.q
    rw [isNode_eq l a hl]
    rfl
  have key : ∀ nx : Nat → List Int → List Int, (∀ i s, nx i s = if decide (0 ≤ a ∧ a ≤ (l.length : Int) - 1) && (rd l (i : Int) == a) then s ++ [(i : Int)] else s) → Ev (fun k => impl_KidsOf.f k l a) (iter l.length nx []) := by
    intro nx hnx
    refine loop_up (fun k s i => impl_KidsOf.l0 (impl_KidsOf.q l a) (l.length : Int) k s i) l.length nx (fun i s => s.length ≤ i) [] _ (by simp) ?_ ?_ ?_
    · intro i s hi h
      rw [hnx]
      split
      · simp; omega
      · omega
    · intro i s r hi hs h
      refine Ev.step (fun k => rfl) ?_
      refine ev_pos (by omega) (ev_pos (by omega) ?_)
      refine ev_then (hq _) ?_
      rw [w64 (by omega) (by omega)]
      rw [hnx] at h
      refine ev_bool (fun hb => ev_pos (by omega) ?_) (fun hb => ?_)
      · rw [if_pos hb] at h; exact h
      · rw [if_neg (by rw [hb]; decide)] at h; exact h
    · intro hs
      refine Ev.step (fun k => rfl) ?_
      exact ev_neg (by omega) ev_some
  unfold kidsOf
  by_cases hn : 0 ≤ a ∧ a ≤ (l.length : Int) - 1
  · rw [if_pos hn]
    refine key _ (fun i s => ?_)
    rw [decide_eq_true hn]
    by_cases h : l.getD i 0 = a
    · rw [if_pos h, if_pos (by simpa [rd] using h)]
    · rw [if_neg h, if_neg (by simpa [rd] using h)]
  · rw [if_neg hn]
    refine ev_eq (key (fun _ s => s) (fun i s => ?_)) ?_
    · rw [decide_eq_false hn]; simp
    · have : ∀ n, iter n (fun (_ : Nat) (s : List Int) => s) ([] : List Int) = [] := by
        intro n
        induction n with
        | zero => rfl
        | succ n ih => rw [iter_succ, ih]
      exact this _
end Go.Proofs.Ytmaeahbiiiifmaa.Pb
namespace Go.Proofs.Ytmaeahbiiiifmaa.Pure
open Go.RowKit Go.Proofs.Ytmaeahbiiiifmaa Go.Proofs.Ytmaeahbiiiifmaa.Q Go.Proofs.Ytmaeahbiiiifmaa.Pb Go.Proofs.YtmaeahbiiiifmaaW.PrintWords Go.Proofs.YtmaeahbiiiifmaaW.PrintLast
set_option linter.unusedVariables false
set_option linter.unusedSimpArgs false

theorem in_ev (l : List Int) (a : Int) (hl : l.length ≤ 1048576) : Ev (fun k => laws_in.f k l a) (has l a) := by
  rw [← find_has]
  refine loop_find (fun k i => laws_in.l0 k l a i) l.length _ (fun _ => true) false ?_ ?_ ?_
  · intro i hi hp
    refine Ev.step (fun k => rfl) ?_
    exact ev_pos (by omega) (ev_pos (by omega) (ev_pos (by simpa [rd] using hp) ev_some))
  · intro i r hi hp h
    refine Ev.step (fun k => rfl) ?_
    refine ev_pos (by omega) (ev_pos (by omega) (ev_neg (by simpa [rd] using hp) ?_))
    rw [w64 (by omega) (by omega)]
    exact h
  · refine Ev.step (fun k => rfl) ?_
    exact ev_neg (by omega) ev_some
theorem sameInts_refl (a : List Int) (ha : a.length ≤ 9223372036854775806) : Ev (fun k => laws_sameInts.f k a a) true := by
  unfold laws_sameInts.f
  refine ev_pos rfl ?_
  refine ev_eq (loop_all (fun k i => laws_sameInts.l0 k a a i) a.length (fun _ => true) ?_ ?_ ?_) (by simp)
  · intro i r hi _ h
    refine Ev.step (fun k => rfl) ?_
    refine ev_pos (by omega) (ev_pos (by omega) (ev_pos (by omega) (ev_pos rfl ?_)))
    rw [w64 (by omega) (by omega)]
    exact h
  · intro i hi hp
    cases hp
  · refine Ev.step (fun k => rfl) ?_
    exact ev_neg (by omega) ev_some
theorem those_mem (p : Nat → Bool) (n i : Nat) (hi : i < n) (hp : p i = true) : (i : Int) ∈ those p n := by
  unfold those
  induction n with
  | zero => omega
  | succ n ih =>
    rw [iter_succ]
    by_cases h : i = n
    · subst h
      rw [if_pos hp]
      simp
    · have := ih (by omega)
      split
      · exact List.mem_append_left _ this
      · exact this
theorem those_count (p : Nat → Bool) (h0 : p 0 = false) (n : Nat) (hp : ∀ i, 1 ≤ i → i < n → p i = true) : (those p n).length = n - 1 := by
  unfold those
  induction n with
  | zero => simp [iter_zero]
  | succ n ih =>
    have e := ih (fun i h1 h2 => hp i h1 (by omega))
    rw [iter_succ]
    by_cases h : n = 0
    · subst h
      rw [if_neg (by rw [h0]; decide)]
      simp [iter_zero]
    · rw [if_pos (hp n (by omega) (by omega)), List.length_append, e]
      simp only [List.length_singleton]
      omega
theorem kids_mem (l : List Int) (a : Int) (n i : Nat) (hi : i < n) (h : l.getD i 0 = a) : (i : Int) ∈ iter n (fun i (s : List Int) => if l.getD i 0 = a then s ++ [(i : Int)] else s) [] := by
  induction n with
  | zero => omega
  | succ n ih =>
    rw [iter_succ]
    by_cases e : i = n
    · subst e
      rw [if_pos h]
      simp
    · have := ih (by omega)
      split
      · exact List.mem_append_left _ this
      · exact this
theorem has_of {l : List Int} {a : Int} (h : a ∈ l) : has l a = true := by
  unfold has
  exact decide_eq_true h
theorem anc {t : List Int} (ht : TreeSo t) {i : Int} (h0 : 0 ≤ i) (h1 : i ≤ (t.length : Int) - 1) (j : Nat) (hj : 1 ≤ j) (hl : j < (pathUp t i).length) : ancestor t (rd (pathUp t i) (j : Int)) i = true := by
  have W := pathUp_way ht h0 h1
  have := W.low j hj hl
  unfold ancestor
  rw [has_rd j hl, decide_eq_true (show rd (pathUp t i) (j : Int) ≠ i by omega)]
  rfl
theorem below_mem {t : List Int} {a : Int} (i : Nat) (hi : i < t.length) (h : ancestor t a (i : Int) = true) : (i : Int) ∈ belowOf t a := those_mem (fun i => ancestor t a (i : Int)) t.length i hi h
/-- The way of node i from place j on. -/
theorem way_loop {t : List Int} (ht : TreeSo t) (hl : t.length ≤ 1048576) (i : Nat) (h1 : i < t.length) {r : Bool} (hr : Ev (fun k => laws_FnTrees.l0 k ((i : Int) + 1) t) r) :
    ∀ (d j : Nat), 1 ≤ j → j + d = (pathUp t (i : Int)).length → Ev (fun k => laws_FnTrees.l1 k (i : Int) (pathUp t (i : Int)) (j : Int) t) r := by
  have hp := pathUp_length t (i : Int)
  have h7 := ht.2.1
  intro d
  induction d with
  | zero =>
    intro j hj hd
    refine Ev.step (fun k => rfl) (ev_neg (by omega) ?_)
    rw [w64 (by omega) (by omega)]
    exact hr
  | succ d ih =>
    intro j hj hd
    have ha := anc ht (show 0 ≤ (i : Int) by omega) (by omega) j hj (by omega)
    have hb := belowOf_length t (rd (pathUp t (i : Int)) (j : Int))
    refine Ev.step (fun k => rfl) (ev_pos (by omega) (ev_pos (by omega) (Ev.bind (implAncestor_ev t _ _ hl) (ev_pos ha (Ev.bind (implBelowOf_ev t _ hl) (Ev.bind (in_ev _ _ (by omega)) (ev_pos (has_of (below_mem i h1 ha)) ?_)))))))
    rw [w64 (by omega) (by omega)]
    exact ih (j + 1) (by omega) (by omega)
theorem nodes {t : List Int} (ht : TreeSo t) (hl : t.length ≤ 1048576) : ∀ (d i : Nat), i + d = t.length → Ev (fun k => laws_FnTrees.l0 k (i : Int) t) true := by
  have h7 := ht.2.1
  have hpos := ht.1
  intro d
  induction d with
  | zero =>
    intro i hi
    refine Ev.step (fun k => rfl) (ev_neg (by omega) (Ev.bind (implBelowOf_ev t 0 hl) (ev_eq ev_some ?_)))
    have e : (belowOf t 0).length = t.length - 1 := by
      refine those_count (fun i => ancestor t 0 (i : Int)) (by unfold ancestor; rw [decide_eq_false (by simp)]; rfl) t.length ?_
      intro j h1 h2
      have W := pathUp_way ht (show 0 ≤ (j : Int) by omega) (show (j : Int) ≤ (t.length : Int) - 1 by omega)
      have hz : rd (pathUp t (j : Int)) (((pathUp t (j : Int)).length - 1 : Nat) : Int) = 0 := by
        have := W.last
        have p := W.pos
        rw [show (((pathUp t (j : Int)).length - 1 : Nat) : Int) = ((pathUp t (j : Int)).length : Int) - 1 by omega]
        exact this
      have hh := has_rd ((pathUp t (j : Int)).length - 1) (show (pathUp t (j : Int)).length - 1 < (pathUp t (j : Int)).length by have := W.pos; omega)
      rw [hz] at hh
      unfold ancestor
      rw [hh, decide_eq_true (show (0 : Int) ≠ (j : Int) by omega)]
      rfl
    rw [e, w64 (by omega) (by omega)]
    exact beq_iff_eq.mpr (by omega)
  | succ d ih =>
    intro i hi
    have hr := ih (i + 1) (by omega)
    rw [show ((i + 1 : Nat) : Int) = (i : Int) + 1 by omega] at hr
    have W := pathUp_way ht (show 0 ≤ (i : Int) by omega) (show (i : Int) ≤ (t.length : Int) - 1 by omega)
    have hp := pathUp_length t (i : Int)
    have hpos' := W.pos
    have hlast : rd (pathUp t (i : Int)) (wrap64 (((pathUp t (i : Int)).length : Int) - 1)) = 0 := by
      rw [w64 (by omega) (by omega)]
      exact W.last
    have hdeep : ((pathUp t (i : Int)).length : Int) = wrap64 (deepOf t (i : Int) + 1) := by
      unfold deepOf
      split
      · rw [w64 (by omega) (by omega)]; omega
      · rw [w64 (by omega) (by omega)]; omega
    have hw := way_loop ht hl i (by omega) hr ((pathUp t (i : Int)).length - 1) 1 (by omega) (by omega)
    have hj2 : Ev (fun k => laws_FnTrees.j2 k (i : Int) (pathUp t (i : Int)) false t) true := Ev.step (fun k => rfl) (ev_neg (c := false = true) (f := fun _ => (none : Option Bool)) (by decide) hw)
    refine Ev.step (fun k => rfl) (ev_pos (by omega) (Ev.bind (implPathUp_ev t _ hl) (ev_pos (by rw [w64 (by omega) (by omega)]; omega) (ev_pos (by rw [w64 (by omega) (by omega)]; omega) (ev_pos hlast (Ev.bind (implDeepOf_ev t _ hl) (ev_pos hdeep ?_)))))))
    by_cases hz : (i : Int) > 0
    · refine ev_pos hz (ev_pos (by omega) (Ev.bind (implKidsOf_ev t _ hl) ?_))
      have hk := kidsOf_length t (rd t (i : Int))
      have hu := up_lt ht (show 1 ≤ (i : Int) by omega) (by omega)
      have hm : (i : Int) ∈ kidsOf t (rd t (i : Int)) := by
        unfold kidsOf
        rw [if_pos ⟨by omega, by omega⟩]
        exact kids_mem t (rd t (i : Int)) t.length i (by omega) (by unfold rd; rw [Int.toNat_natCast])
      refine Ev.bind (in_ev _ _ (by omega)) ?_
      rw [has_of hm]
      exact hj2
    · exact ev_neg hz hj2
theorem FnTrees : ∀ (x0 : List Int), (Opn.Each (fun n : Int => (Lit.int .u8 n).wf = true)) x0 → ∃ k, laws_FnTrees.f k x0 = some true := by
  intro x0 g
  refine Ev.rounds ?_
  unfold laws_FnTrees.f
  refine ev_then (show laws_big.f x0 = some (decide ((x0.length : Int) > 1048576)) from rfl) ?_
  refine ev_bool (fun _ => ev_some) (fun hb => ?_)
  have hx : x0.length ≤ 1048576 := by have := of_decide_eq_false hb; omega
  obtain ⟨t, hE, ht⟩ := drawTree_ev x0 hx
  obtain ⟨u, n, hE1, hu⟩ := drawPathUp_ev x0 hx
  obtain ⟨o, hE2, ho⟩ := drawTreeOk_ev x0 hx
  obtain ⟨a, x, y, hE3, ha⟩ := drawAncestor_ev x0 hx
  have hl : t.length ≤ 1048576 := by have := ht.2.1; omega
  have p1 := pathUp_length u n
  have p2 := belowOf_length u n
  have p3 := kidsOf_length u n
  refine Ev.bind hE (Ev.bind hE1 (Ev.bind hE2 (Ev.bind hE3 (Ev.bind (implTreeOk_ev o (by omega)) (Ev.bind (specTreeOk_ev o (by omega)) (ev_neg (by simp) ?_))))))
  refine Ev.bind (implPathUp_ev u n (by omega)) (Ev.bind (specPathUp_ev u n (by omega)) (Ev.bind (sameInts_refl _ (by omega)) (ev_true ?_)))
  refine Ev.bind (implBelowOf_ev u n (by omega)) (Ev.bind (specBelowOf_ev u n (by omega)) (Ev.bind (sameInts_refl _ (by omega)) (ev_true ?_)))
  refine Ev.bind (implKidsOf_ev u n (by omega)) (Ev.bind (specKidsOf_ev u n (by omega)) (Ev.bind (sameInts_refl _ (by omega)) (ev_true ?_)))
  refine Ev.bind (implDeepOf_ev u n (by omega)) (Ev.bind (specDeepOf_ev u n (by omega)) (ev_pos rfl ?_))
  refine Ev.bind (implAncestor_ev a x y (by omega)) (Ev.bind (specAncestor_ev a x y (by omega)) (ev_neg (by simp) ?_))
  refine Ev.bind (implTreeOk_ev t hl) ?_
  rw [treeSo_ok ht]
  exact Ev.step (fun k => rfl) (ev_neg (c := (!true) = true) (f := fun _ => (none : Option Bool)) (by decide) (nodes ht hl t.length 0 (by omega)))
end Go.Proofs.Ytmaeahbiiiifmaa.Pure
