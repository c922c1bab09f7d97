/- What is read as a message is one, of just these bytes, and is none with a bit turned: for all bytes that are drawn of. No further condition. -/
import Derived.Test.YtanpaipapcjpoaaQ40
import Derived.Test.YtanpaipapcjpoaaTyp
import Derived.Test.YtanpaipapcjpoaaQ13
import Derived.Test.YtanpaipapcjpoaaQ2
import Derived.RowKit
import Derived.IntWalk
import Derived.Test.YtanpaipapcjpoaaWWords
import Derived.Test.YtanpaipapcjpoaaQ31
import Derived.Test.YtanpaipapcjpoaaQ35
import Derived.Test.YtanpaipapcjpoaaQ37
import Derived.Test.YtanpaipapcjpoaaQ38
import Derived.Test.YtanpaipapcjpoaaQ34
import Derived.Test.YtanpaipapcjpoaaQ30
import Derived.Laws.BitsLemmas
import Derived.Test.YtanpaipapcjpoaaQ3
import Derived.Test.YtanpaipapcjpoaaQ14
import Derived.Test.YtanpaipapcjpoaaQ19
import Derived.Test.YtanpaipapcjpoaaQ33
import Derived.Test.YtanpaipapcjpoaaQ18
import Derived.Test.YtanpaipapcjpoaaQ32
import Derived.Laws.BitsAllLaws
import Derived.Test.YtanpaipapcjpoaaQ10
import Derived.Test.YtanpaipapcjpoaaQ17
import Derived.Test.YtanpaipapcjpoaaQ15
import Derived.Test.YtanpaipapcjpoaaQ4
import Derived.Test.YtanpaipapcjpoaaQ9
import Derived.Test.YtanpaipapcjpoaaQ16
import Derived.Test.YtanpaipapcjpoaaQ11
import Derived.Test.YtanpaipapcjpoaaQ25
import Derived.Test.YtanpaipapcjpoaaQ20
import Derived.Test.YtanpaipapcjpoaaQ21
import Derived.Test.YtanpaipapcjpoaaQ22
import Derived.Test.YtanpaipapcjpoaaQ6
import Derived.Test.YtanpaipapcjpoaaQ7
import Derived.Test.YtanpaipapcjpoaaQ5
import Derived.Lib.Bytes
/- Plain lemmas on answers with rounds: a loop that goes up through numbers comes to what its steps make. No condition. -/
namespace Go.Proofs.Ytanpaipapcjpoaa.Pb
open Go.RowKit Go.Proofs.YtanpaipapcjpoaaW.PrintWords
set_option linter.unusedVariables false
theorem w64 {x : Int} (h0 : -9223372036854775808 ≤ x) (h1 : x ≤ 9223372036854775807) : wrap64 x = x := by unfold wrap64; omega
section
variable {α β ρ σ : Type}
theorem ev_pos {c : Prop} [Decidable c] {f g : Nat → Option α} {r : α} (hc : c) (h : Ev f r) : Ev (fun k => if c then f k else g k) r := Ev.congr (fun k => if_pos hc) h
theorem ev_neg {c : Prop} [Decidable c] {f g : Nat → Option α} {r : α} (hc : ¬ c) (h : Ev g r) : Ev (fun k => if c then f k else g k) r := Ev.congr (fun k => if_neg hc) h
theorem ev_true {f g : Nat → Option α} {r : α} (h : Ev f r) : Ev (fun k => if true = true then f k else g k) r := ev_pos rfl h
theorem ev_false {f g : Nat → Option α} {r : α} (h : Ev g r) : Ev (fun k => if false = true then f k else g k) r := ev_neg (by decide) h
theorem ev_some {r : α} : Ev (fun _ => some r) r := Ev.now r
theorem ev_of {a : Option α} {r : α} (h : a = some r) : Ev (fun _ => a) r := ⟨0, fun _ _ => h⟩
theorem ev_then {a : Option α} {x : α} {f : Nat → α → Option β} {r : β} (h : a = some x) (k : Ev (fun n => f n x) r) : Ev (fun n => a.bind (f n)) r := Ev.bind (ev_of h) k
theorem ev_bool {b : Bool} {f g : Nat → Option α} {r : α} (h1 : b = true → Ev f r) (h2 : b = false → Ev g r) : Ev (fun k => if b = true then f k else g k) r := by
 cases b with
 | true => exact ev_true (h1 rfl)
 | false => exact ev_false (h2 rfl)
theorem ev_if {c : Prop} [Decidable c] {f g : Nat → Option α} {r : α} (h1 : c → Ev f r) (h2 : ¬ c → Ev g r) : Ev (fun k => if c then f k else g k) r := by
 by_cases h : c
 ·exact ev_pos h (h1 h)
 ·exact ev_neg h (h2 h)
theorem ev_eq {f : Nat → Option α} {r r' : α} (h : Ev f r) (e : r = r') : Ev f r' := e ▸ h
def iter (n : Nat) (next : Nat → σ → σ) (s : σ) : σ := (List.range n).foldl (fun s i => next i s) s
theorem iter_zero (next : Nat → σ → σ) (s : σ) : iter 0 next s = s := rfl
theorem iter_succ (n : Nat) (next : Nat → σ → σ) (s : σ) : iter (n + 1) next s = next n (iter n next s) := by
 unfold iter
 rw [List.range_succ, List.foldl_append]
 rfl
theorem loop_up (g : Nat → σ → Int → Option ρ) (n : Nat) (next : Nat → σ → σ) (Inv : Nat → σ → Prop) (s0 : σ) (r : ρ)
  (h0 : Inv 0 s0) (hinv : ∀ i s, i < n → Inv i s → Inv (i + 1) (next i s))
  (hstep : ∀ (i : Nat) s r, i < n → Inv i s → Ev (fun k => g k (next i s) ((i : Int) + 1)) r → Ev (fun k => g k s (i : Int)) r)
  (hend : Inv n (iter n next s0) → Ev (fun k => g k (iter n next s0) (n : Int)) r) : Ev (fun k => g k s0 0) r := by
 have hall : ∀ i, i ≤ n → Inv i (iter i next s0) := by
  intro i
  induction i with
  | zero => intro _; exact h0
  | succ i ih => intro hi; rw [iter_succ]; exact hinv i _ (by omega) (ih (by omega))
 have key : ∀ d i, i + d = n → Ev (fun k => g k (iter i next s0) (i : Int)) r := by
  intro d
  induction d with
  | zero =>
   intro i hi
   obtain rfl : i = n := by omega
   exact hend (hall i (Nat.le_refl _))
  | succ d ih =>
   intro i hi
   refine hstep i _ r (by omega) (hall i (by omega)) ?_
   have := ih (i + 1) (by omega)
   rw [iter_succ] at this
   simpa using this
 exact key n 0 (by omega)
theorem loop_find (g : Nat → Int → Option ρ) (n : Nat) (p : Nat → Bool) (res : Nat → ρ) (r0 : ρ)
  (hyes : ∀ i, i < n → p i = true → Ev (fun k => g k (i : Int)) (res i))
  (hno : ∀ i r, i < n → p i = false → Ev (fun k => g k ((i : Int) + 1)) r → Ev (fun k => g k (i : Int)) r)
  (hend : Ev (fun k => g k (n : Int)) r0) : Ev (fun k => g k 0) (match (List.range n).find? p with | some i => res i | none => r0) := by
 have key : ∀ d i, i + d = n → Ev (fun k => g k (i : Int)) (match (List.range' i d).find? p with | some i => res i | none => r0) := by
  intro d
  induction d with
  | zero =>
   intro i hi
   obtain rfl : i = n := by omega
   exact hend
  | succ d ih =>
   intro i hi
   rw [List.range'_succ, List.find?_cons]
   cases hp : p i with
   | true => exact hyes i (by omega) hp
   | false => exact hno i _ (by omega) hp (by have := ih (i + 1) (by omega); simpa using this)
 have := key n 0 (by omega)
 rwa [← List.range_eq_range'] at this
theorem loop_all (g : Nat → Int → Option Bool) (n : Nat) (p : Nat → Bool)
  (hyes : ∀ i r, i < n → p i = true → Ev (fun k => g k ((i : Int) + 1)) r → Ev (fun k => g k (i : Int)) r)
  (hno : ∀ i, i < n → p i = false → Ev (fun k => g k (i : Int)) false)
  (hend : Ev (fun k => g k (n : Int)) true) : Ev (fun k => g k 0) ((List.range n).all p) := by
 have h := loop_find g n (fun i => !p i) (fun _ => false) true (fun i hi hp => hno i hi (by simpa using hp)) (fun i r hi hp h => hyes i r hi (by simpa using hp) h) hend
 refine ev_eq h ?_
 cases hf : (List.range n).find? (fun i => !p i) with
 | some i =>
  have h1 := List.find?_some hf
  have h2 := List.mem_of_find?_eq_some hf
  symm
  rw [List.all_eq_false]
  exact ⟨i, h2, by simpa using h1⟩
 | none =>
  symm
  rw [List.all_eq_true]
  intro x hx
  have := List.find?_eq_none.1 hf x hx
  simpa using this
end
theorem iter_set {α : Type} (n : Nat) (f : Nat → α) (l : List α) (hl : l.length = n) : iter n (fun i (s : List α) => s.set i (f i)) l = (List.range n).map f := by
 have key : ∀ m, m ≤ n → iter m (fun i (s : List α) => s.set i (f i)) l = (List.range m).map f ++ l.drop m := by
  intro m
  induction m with
  | zero => intro _; simp [iter_zero]
  | succ m ih =>
   intro hm
   rw [iter_succ, ih (by omega)]
   apply List.ext_getElem?
   intro j
   simp only [List.getElem?_set, List.getElem?_append, List.length_map, List.length_range, List.length_append, List.length_drop, List.getElem?_map, List.getElem?_drop]
   by_cases h1 : m = j
   ·subst h1
    simp
    omega
   ·by_cases h2 : j < m
    ·simp [h1, h2, show j < m + 1 by omega]
    ·have h3 : ¬ j < m + 1 := by omega
     simp [h1, h2, h3]
     congr 1
     omega
 have := key n (Nat.le_refl _)
 rw [this, List.drop_of_length_le (by omega), List.append_nil]
end Go.Proofs.Ytanpaipapcjpoaa.Pb
/- Whole numbers: an int's bounds, tests of an interval, what is left of a size. No condition. -/
namespace Go.Proofs.Ytanpaipapcjpoaa.Pb
open Go.RowKit Go.Proofs.Ytanpaipapcjpoaa Go.Proofs.Ytanpaipapcjpoaa.Q Go.Proofs.YtanpaipapcjpoaaW.PrintWords Go.Proofs.YtanpaipapcjpoaaW.PrintLast
set_option linter.unusedVariables false
set_option linter.unusedSimpArgs false
theorem within_eq (a lo hi : Int) : impl_within.f a lo hi = some (decide (lo ≤ a ∧ a ≤ hi)) := by
 unfold impl_within.f
 by_cases h : lo ≤ a
 ·rw [if_pos h]; simp [h]
 ·rw [if_neg h]; simp [h]
theorem l1In_eq (a lo hi : Int) : spec_l1In.f a lo hi = some (decide (lo ≤ a ∧ a ≤ hi)) := within_eq a lo hi
end Go.Proofs.Ytanpaipapcjpoaa.Pb
/- Weak sums of bytes: the program's and the reference's ways. No condition beyond the bytes' range. -/
namespace Go.Proofs.Ytanpaipapcjpoaa.Pb
open Go.RowKit Go.Proofs.Ytanpaipapcjpoaa Go.Proofs.Ytanpaipapcjpoaa.Q Go.Proofs.YtanpaipapcjpoaaW.PrintWords Go.Proofs.YtanpaipapcjpoaaW.PrintLast
set_option linter.unusedVariables false
set_option linter.unusedSimpArgs false
theorem iter_foldl {α σ : Type} (f : σ → α → σ) (l : List α) (d : α) (s0 : σ) (n : Nat) (hn : n ≤ l.length) : iter n (fun i s => f s (l.getD i d)) s0 = (l.take n).foldl f s0 := by
 induction n with
 | zero => simp [iter_zero]
 | succ n ih =>
  rw [iter_succ, ih (by omega), List.take_succ_eq_append_getElem (by omega), List.foldl_append]
  simp [List.getD_eq_getElem?_getD, (show n < l.length by omega)]
theorem iter_foldl_all {α σ : Type} (f : σ → α → σ) (l : List α) (d : α) (s0 : σ) : iter l.length (fun i s => f s (l.getD i d)) s0 = l.foldl f s0 := by
 rw [iter_foldl f l d s0 l.length (Nat.le_refl _), List.take_length]
def Bytes (l : List Int) : Prop := ∀ x ∈ l, 0 ≤ x ∧ x ≤ 255
theorem bytes_getD {l : List Int} (h : Bytes l) (i : Nat) : 0 ≤ l.getD i 0 ∧ l.getD i 0 ≤ 255 := by
 rw [List.getD_eq_getElem?_getD]
 by_cases q : i < l.length
 ·simp only [q, List.getElem?_eq_getElem, Option.getD_some]
  exact h _ (List.getElem_mem q)
 ·simp [q]
def weakStep (p : Int × Int) (b : Int) : Int × Int := ((p.1 + b) % 251, (p.2 + (p.1 + b) % 251) % 251)
def weakPair (l : List Int) : Int × Int := l.foldl weakStep (0, 0)
def weakOf (l : List Int) : Int := (weakPair l).1 + 251 * (weakPair l).2
def WeakIn (p : Int × Int) : Prop := 0 ≤ p.1 ∧ p.1 < 251 ∧ 0 ≤ p.2 ∧ p.2 < 251
theorem weakStep_in (p : Int × Int) (b : Int) : WeakIn (weakStep p b) := by
 unfold WeakIn weakStep
 simp only
 omega
theorem weakPair_in (l : List Int) : WeakIn (weakPair l) := by
 unfold weakPair
 rcases List.eq_nil_or_concat l with rfl | ⟨l', x, rfl⟩
 ·simp [WeakIn]
 ·rw [List.concat_eq_append, List.foldl_append]
  exact weakStep_in _ _
theorem weakOf_range (l : List Int) : 0 ≤ weakOf l ∧ weakOf l ≤ 63000 := by
 have h := weakPair_in l
 unfold WeakIn at h
 unfold weakOf
 omega
theorem weak_step (x y b : Int) (h : WeakIn (x, y)) (hb : 0 ≤ b ∧ b ≤ 255) : Int.tmod (wrap64 (x + (wrap64 b))) 251 = (weakStep (x, y) b).1 ∧ Int.tmod (wrap64 (y + (Int.tmod (wrap64 (x + (wrap64 b))) 251))) 251 = (weakStep (x, y) b).2 := by
 unfold WeakIn at h
 simp only at h
 have e1 : Int.tmod (wrap64 (x + (wrap64 b))) 251 = (x + b) % 251 := by
  rw [w64 (x := b) (by omega) (by omega), w64 (x := x + b) (by omega) (by omega), Int.tmod_eq_emod_of_nonneg (by omega)]
 rw [e1]
 refine ⟨rfl, ?_⟩
 rw [w64 (by omega) (by omega), Int.tmod_eq_emod_of_nonneg (by omega)]
 rfl
theorem specWeakOf_ev (l : List Int) (hl : l.length ≤ 1048576) (hb : Bytes l) : Ev (fun k => spec_WeakOf.f k l) (weakOf l) := by
 unfold spec_WeakOf.f
 refine loop_up (σ := Int × Int) (fun k s i => spec_WeakOf.l0 k l s.1 s.2 i) l.length (fun i s => weakStep s (l.getD i 0)) (fun i s => WeakIn s) (0, 0) _ (by simp [WeakIn]) (fun i s _ _ => weakStep_in _ _) ?_ ?_
 ·rintro i ⟨x, y⟩ r hi hs h
  refine Ev.step (fun k => rfl) ?_
  refine ev_pos (by omega) (ev_pos (by omega) ?_)
  have e := weak_step x y (l.getD i 0) hs (bytes_getD hb i)
  simp only [rd, Int.toNat_natCast]
  rw [e.1, ← e.1, e.2, e.1, w64 (x := (i : Int) + 1) (by omega) (by omega)]
  exact h
 ·intro hs
  refine Ev.step (fun k => rfl) ?_
  refine ev_neg (by omega) (ev_eq ev_some ?_)
  rw [iter_foldl_all weakStep l 0 (0, 0)] at hs ⊢
  unfold WeakIn at hs
  rw [w64 (x := 251 * _) (by omega) (by omega), w64 (by omega) (by omega)]
  rfl
theorem implWeakOf_ev (l : List Int) (hl : l.length ≤ 1048576) (hb : Bytes l) : Ev (fun k => impl_WeakOf.f k l) (weakOf l) := by
 unfold impl_WeakOf.f
 refine loop_up (σ := Int × Int) (fun k s i => impl_WeakOf.l0 k s.1 s.2 l (l.length : Int) i) l.length (fun i s => weakStep s (l.getD i 0)) (fun i s => WeakIn s) (0, 0) _ (by simp [WeakIn]) (fun i s _ _ => weakStep_in _ _) ?_ ?_
 ·rintro i ⟨x, y⟩ r hi hs h
  refine Ev.step (fun k => rfl) ?_
  refine ev_pos (by omega) (ev_pos (by omega) (ev_pos (by omega) ?_))
  have e := weak_step x y (l.getD i 0) hs (bytes_getD hb i)
  simp only [rd, Int.toNat_natCast]
  rw [e.1, ← e.1, e.2, e.1, w64 (x := (i : Int) + 1) (by omega) (by omega)]
  exact h
 ·intro hs
  refine Ev.step (fun k => rfl) ?_
  refine ev_neg (by omega) ?_
  rw [iter_foldl_all weakStep l 0 (0, 0)] at hs ⊢
  unfold WeakIn at hs
  have wr : ∀ x : Int, 0 ≤ x → x < 251 → impl_Wrap.f x 251 = some x := by
   intro x h0 h1
   unfold impl_Wrap.f
   rw [within_eq]
   simp only [Option.bind_some]
   rw [if_pos (by decide), if_neg (by decide), Int.tmod_eq_emod_of_nonneg h0, w64 (by omega) (by omega), Int.tmod_eq_emod_of_nonneg (by omega)]
   congr 1
   omega
  have e : impl_weak.f (List.foldl weakStep (0, 0) l).1 (List.foldl weakStep (0, 0) l).2 = some (weakOf l) := by
   unfold impl_weak.f
   rw [wr _ hs.1 hs.2.1, wr _ hs.2.2.1 hs.2.2.2]
   simp only [Option.bind_some]
   rw [w64 (x := 251 * _) (by omega) (by omega), w64 (by omega) (by omega)]
   rfl
  exact ev_then e ev_some
end Go.Proofs.Ytanpaipapcjpoaa.Pb
/- The bits of whole numbers of 64 bits, as natural numbers have them. No condition beyond the ranges. -/
namespace Go.Proofs.Ytanpaipapcjpoaa.Pb
open Go
set_option linter.unusedVariables false
theorem wraps_i64 (n : Int) (h0 : 0 ≤ n) (h1 : n < 2 ^ 63) : IntKind.i64.wrap n = n := by rw [IntKind.wrap_i64]; omega
theorem and_mask (n : Int) (j m : Nat) (hj : j ≤ 62) (hm : m = 2 ^ j - 1) : bits .and .i64 n (m : Int) = n % (2 ^ j : Nat) := by
 have hp : (2 : Nat) ^ j ≤ 2 ^ 62 := Nat.pow_le_pow_right (by decide) hj
 have hpos : 0 < 2 ^ j := Nat.two_pow_pos j
 have hmm : (BitVec.ofInt 64 (m : Int)).toNat = 2 ^ j - 1 := by
  rw [BitVec.ofInt_natCast, BitVec.toNat_ofNat, hm, Nat.mod_eq_of_lt]
  have : (2 : Nat) ^ 62 < 2 ^ 64 := by decide
  omega
 have key : (BitVec.ofInt 64 n &&& BitVec.ofInt 64 (m : Int)).toNat = (n % ((2 ^ 64 : Nat) : Int)).toNat % 2 ^ j := by
  rw [BitVec.toNat_and, BitVec.toNat_ofInt, hmm, Nat.and_two_pow_sub_one_eq_mod]
 show IntKind.i64.wrap ((BitVec.ofInt 64 n &&& BitVec.ofInt 64 (m : Int)).toNat : Nat) = _
 rw [key, IntKind.wrap_i64]
 have hd : ((2 ^ j : Nat) : Int) ∣ ((2 ^ 64 : Nat) : Int) := by
  have : (2 ^ j : Nat) ∣ 2 ^ 64 := Nat.pow_dvd_pow 2 (by omega)
  exact Int.natCast_dvd_natCast.2 this
 have e0 : 0 ≤ n % ((2 ^ 64 : Nat) : Int) := Int.emod_nonneg _ (by decide)
 have e1 : (((n % ((2 ^ 64 : Nat) : Int)).toNat % 2 ^ j : Nat) : Int) = n % ((2 ^ j : Nat) : Int) := by
  rw [Int.natCast_emod, Int.toNat_of_nonneg e0, Int.emod_emod_of_dvd _ hd]
 rw [e1]
 have b0 : 0 ≤ n % ((2 ^ j : Nat) : Int) := Int.emod_nonneg _ (by omega)
 have b1 : n % ((2 ^ j : Nat) : Int) < ((2 ^ j : Nat) : Int) := Int.emod_lt_of_pos _ (by omega)
 have b2 : ((2 ^ j : Nat) : Int) ≤ ((2 ^ 62 : Nat) : Int) := Int.ofNat_le.2 hp
 have b3 : ((2 ^ 62 : Nat) : Int) = 4611686018427387904 := by decide
 omega
theorem and255 (n : Int) : bits .and .i64 n 255 = n % 256 := and_mask n 8 255 (by decide) (by decide)
theorem or_nat (a b : Nat) (ha : a < 2 ^ 63) (hb : b < 2 ^ 63) : bits .or .i64 (a : Int) (b : Int) = ((a ||| b : Nat) : Int) := (bits_nat .i64 63 (by decide) wraps_i64 a b ha hb).2
end Go.Proofs.Ytanpaipapcjpoaa.Pb
/- The reference's draws of numbers out of bytes: they answer, within their bounds. No condition beyond the length that the laws ask. -/
namespace Go.Proofs.Ytanpaipapcjpoaa.Pb
open Go.RowKit Go.Proofs.Ytanpaipapcjpoaa Go.Proofs.Ytanpaipapcjpoaa.Q Go.Proofs.YtanpaipapcjpoaaW.PrintWords Go.Proofs.YtanpaipapcjpoaaW.PrintLast
set_option linter.unusedVariables false
set_option linter.unusedSimpArgs false
def Dr (b : List Int) (i : Int) : Prop := b.length ≤ 1048576 ∧ 0 ≤ i ∧ i ≤ (b.length : Int)
theorem l1New_ev (b : List Int) (hb : b.length ≤ 1048576) : ∃ h, Ev (fun k => spec_l1New.f k b) (b, 0, h) := by
 have key : ∀ d (i : Nat) x, i + d = b.length → ∃ h, Ev (fun k => spec_l1New.l0 k b x (i : Int)) (b, 0, h) := by
  intro d
  induction d with
  | zero =>
   intro i x hi
   exact ⟨x, Ev.step (fun k => rfl) (ev_neg (by omega) ev_some)⟩
  | succ d ih =>
   intro i x hi
   by_cases h4 : (i : Int) < 4000
   ·obtain ⟨h, hE⟩ := ih (i + 1) (Go.bits .and .i64 (wrap64 ((wrap64 ((wrap64 (x * 137)) + (wrap64 (rd b (i : Int))))) + 11)) 1073741823) (by omega)
    refine ⟨h, Ev.step (fun k => rfl) (ev_pos (by omega) (ev_pos h4 (ev_pos (by omega) ?_)))⟩
    rw [w64 (x := (i : Int) + 1) (by omega) (by omega)]
    exact hE
   ·exact ⟨x, Ev.step (fun k => rfl) (ev_pos (by omega) (ev_neg h4 ev_some))⟩
 exact key b.length 0 _ (by simp)
theorem l1Byte_ok {b : List Int} {i : Int} (h : Int) (hd : Dr b i) : ∃ x i' h', spec_l1Byte.f b i h = some (x, i', h') ∧ 0 ≤ x ∧ x ≤ 255 ∧ Dr b i' := by
 obtain ⟨hb, h0, h1⟩ := hd
 unfold spec_l1Byte.f
 by_cases hi : i < (b.length : Int)
 ·rw [if_pos hi, if_pos h0]
  refine ⟨_, _, _, rfl, ?_, ?_, hb, ?_, ?_⟩
  ·rw [and255]; omega
  ·rw [and255]; omega
  ·rw [w64 (by omega) (by omega)]; omega
  ·rw [w64 (by omega) (by omega)]; omega
 ·rw [if_neg hi]
  refine ⟨_, _, _, rfl, ?_, ?_, hb, h0, h1⟩
  ·rw [and255]; omega
  ·rw [and255]; omega
theorem tmod_bound {x a : Int} (hx : 0 ≤ x) (ha : 0 < a) : 0 ≤ Int.tmod x a ∧ Int.tmod x a < a := by
 rw [Int.tmod_eq_emod_of_nonneg hx]
 exact ⟨Int.emod_nonneg _ (by omega), Int.emod_lt_of_pos _ ha⟩
theorem l1Below_ok {b : List Int} {i : Int} (h a : Int) (hd : Dr b i) : ∃ x i' h', spec_l1Below.f b i h a = some (x, i', h') ∧ Dr b i' ∧ 0 ≤ x ∧ (0 < a → x < a) ∧ (a ≤ 0 → x = 0) := by
 unfold spec_l1Below.f
 by_cases h0 : a ≤ 0
 ·rw [if_pos h0]
  exact ⟨0, i, h, rfl, hd, by omega, by omega, fun _ => rfl⟩
 ·rw [if_neg h0]
  by_cases h1 : a ≤ 256
  ·rw [if_pos h1]
   obtain ⟨x, i', h', e, x0, x1, hd'⟩ := l1Byte_ok h hd
   rw [e]
   simp only [Option.bind_some]
   rw [if_neg (by omega)]
   have := tmod_bound x0 (show 0 < a by omega)
   exact ⟨_, _, _, rfl, hd', this.1, fun _ => this.2, fun hh => absurd hh h0⟩
  ·rw [if_neg h1]
   obtain ⟨x, i1, h1', e1, x0, x1, hd1⟩ := l1Byte_ok h hd
   obtain ⟨y, i2, h2', e2, y0, y1, hd2⟩ := l1Byte_ok h1' hd1
   obtain ⟨z, i3, h3', e3, z0, z1, hd3⟩ := l1Byte_ok h2' hd2
   rw [e1]
   simp only [Option.bind_some]
   rw [e2]
   simp only [Option.bind_some]
   rw [e3]
   simp only [Option.bind_some]
   rw [if_neg (by omega)]
   rw [w64 (x := x * 65536) (by omega) (by omega), w64 (x := y * 256) (by omega) (by omega), w64 (x := x * 65536 + y * 256) (by omega) (by omega), w64 (by omega) (by omega)]
   have := tmod_bound (show 0 ≤ x * 65536 + y * 256 + z by omega) (show 0 < a by omega)
   exact ⟨_, _, _, rfl, hd3, this.1, fun _ => this.2, fun hh => absurd hh h0⟩
theorem l1Once_ok {b : List Int} {i : Int} (h a : Int) (hd : Dr b i) : ∃ x i' h', spec_l1Once.f b i h a = some (x, i', h') ∧ Dr b i' := by
 unfold spec_l1Once.f
 obtain ⟨x, i', h', e, hd', _⟩ := l1Below_ok h a hd
 rw [e]
 exact ⟨_, _, _, rfl, hd'⟩
theorem l1Int_ok {b : List Int} {i : Int} (h : Int) (l : List Int) (hd : Dr b i) (hl : 0 < l.length) : ∃ x i' h', spec_l1Int.f b i h l = some (x, i', h') ∧ Dr b i' ∧ x ∈ l := by
 unfold spec_l1Int.f
 obtain ⟨x, i', h', e, hd', x0, x1, _⟩ := l1Below_ok h (l.length : Int) hd
 have x2 := x1 (by omega)
 rw [e]
 simp only [Option.bind_some]
 rw [if_pos x0, if_pos x2]
 refine ⟨_, _, _, rfl, hd', ?_⟩
 unfold rd
 rw [List.getD_eq_getElem?_getD, List.getElem?_eq_getElem (by omega)]
 exact List.getElem_mem _
end Go.Proofs.Ytanpaipapcjpoaa.Pb
/- The reference's draws of bytes: they answer, and what they answer are bytes, few of them. No condition beyond the length that the laws ask. -/
namespace Go.Proofs.Ytanpaipapcjpoaa.Pb
open Go.RowKit Go.Proofs.Ytanpaipapcjpoaa Go.Proofs.Ytanpaipapcjpoaa.Q Go.Proofs.YtanpaipapcjpoaaW.PrintWords Go.Proofs.YtanpaipapcjpoaaW.PrintLast
set_option linter.unusedVariables false
set_option linter.unusedSimpArgs false
theorem bytes_snoc {l : List Int} (h : Bytes l) {x : Int} (hx : 0 ≤ x ∧ x ≤ 255) : Bytes (l ++ [x]) := by
 intro y hy
 rcases List.mem_append.1 hy with q | q
 ·exact h y q
 ·rw [List.mem_singleton.1 q]; exact hx
theorem bytes_take {l : List Int} (h : Bytes l) (n : Nat) : Bytes (l.take n) := fun y hy => h y (List.mem_of_mem_take hy)
theorem bytes_set {l : List Int} (h : Bytes l) (n : Nat) {x : Int} (hx : 0 ≤ x ∧ x ≤ 255) : Bytes (l.set n x) := by
 intro y hy
 rcases List.mem_or_eq_of_mem_set hy with q | q
 ·exact h y q
 ·rw [q]; exact hx
theorem bytes_nil : Bytes [] := fun y hy => by simp at hy
theorem l3Bytes_ok {b : List Int} {i : Int} (h a : Int) (hd : Dr b i) (ha : 0 ≤ a ∧ a ≤ 100) : ∃ l i' h', Ev (fun k => spec_l3Bytes.f k b i h a) (l, i', h') ∧ Dr b i' ∧ Bytes l ∧ (l.length : Int) ≤ a := by
 have key : ∀ (d : Nat) (out : List Int) (i h : Int), Bytes out → out.length + d ≤ 100 → Dr b i → ∃ l i' h', Ev (fun k => spec_l3Bytes.l0 k out (d : Int) b i h) (l, i', h') ∧ Dr b i' ∧ Bytes l ∧ l.length ≤ out.length + d := by
  intro d
  induction d with
  | zero =>
   intro out i h ho hl hd
   exact ⟨out, i, h, Ev.step (fun k => rfl) (ev_neg (by omega) ev_some), hd, ho, by omega⟩
  | succ d ih =>
   intro out i h ho hl hd
   obtain ⟨x, i', h', e, hd', hx⟩ := l1Int_ok h [97, 98, 99, 0, 255] hd (by decide)
   obtain ⟨l, i2, h2, e2, hd2, hb2, hl2⟩ := ih (out ++ [x % 256]) i' h' (bytes_snoc ho (by omega)) (by rw [List.length_append]; simp; omega) hd'
   refine ⟨l, i2, h2, Ev.step (fun k => rfl) (ev_pos (by omega) (ev_then e (ev_pos (by omega) ?_))), hd2, hb2, by rw [List.length_append] at hl2; simp at hl2; omega⟩
   rw [w64 (by omega) (by omega), show ((d + 1 : Nat) : Int) - 1 = (d : Int) by omega]
   exact e2
 obtain ⟨x, i1, h1, e, hd1, x0, x1, _⟩ := l1Below_ok h (a + 1) hd
 have x1 := x1 (by omega)
 obtain ⟨l, i2, h2, e2, hd2, hb2, hl2⟩ := key x.toNat [] i1 h1 bytes_nil (by simp; omega) hd1
 refine ⟨l, i2, h2, ?_, hd2, hb2, by simp at hl2; omega⟩
 unfold spec_l3Bytes.f
 rw [w64 (by omega) (by omega)]
 refine ev_then e ?_
 rw [show ((x.toNat : Nat) : Int) = x by omega] at e2
 exact e2
end Go.Proofs.Ytanpaipapcjpoaa.Pb
/- The bytes of a strong sum: the program's and the reference's ways. No condition. -/
namespace Go.Proofs.Ytanpaipapcjpoaa.Pb
open Go.RowKit Go.Proofs.Ytanpaipapcjpoaa Go.Proofs.Ytanpaipapcjpoaa.Q Go.Proofs.YtanpaipapcjpoaaW.PrintWords Go.Proofs.YtanpaipapcjpoaaW.PrintLast Go.Proofs.YtanpaipapcjpoaaW.PrintMore
set_option linter.unusedVariables false
set_option linter.unusedSimpArgs false
theorem shr_of (x y : Int) (h1 : y ≤ 64) : shr .i64 x y = x / 2 ^ y.toNat := by
 unfold shr
 rw [Nat.min_eq_left (by simp [IntKind.bits]; omega)]
def digs : Nat → Int → List Int
 | 0, _ => []
 | c + 1, x => digs c (x / 256) ++ [x % 256]
theorem digs_length (c : Nat) : ∀ x, (digs c x).length = c := by
 induction c with
 | zero => intro x; rfl
 | succ c ih => intro x; simp [digs, ih]
theorem digs_bytes (c : Nat) : ∀ x, Bytes (digs c x) := by
 induction c with
 | zero => intro x; simp [digs, Bytes]
 | succ c ih =>
  intro x y hy
  rw [digs, List.mem_append, List.mem_singleton] at hy
  rcases hy with hy | rfl
  ·exact ih _ y hy
  ·omega
theorem pow256_succ (c : Nat) : (256 : Int) ^ (c + 1) = 256 * 256 ^ c := by rw [Int.pow_succ, Int.mul_comm]
theorem div256 (x : Int) (c : Nat) : x / 256 ^ (c + 1) = x / 256 / 256 ^ c := by
 rw [pow256_succ, Int.ediv_ediv_of_nonneg (by decide)]
theorem digs_map (c : Nat) : ∀ x, digs c x = (List.range c).map (fun i => x / 256 ^ (c - 1 - i) % 256) := by
 induction c with
 | zero => intro x; rfl
 | succ c ih =>
  intro x
  rw [digs, ih, List.range_succ, List.map_append, List.map_singleton]
  congr 1
  ·apply List.map_congr_left
   intro i hi
   have hi' := List.mem_range.1 hi
   rw [show c + 1 - 1 - i = (c - 1 - i) + 1 by omega, div256]
  ·simp
theorem p256_0 : (256 : Int) ^ 0 = 1 := by decide
theorem p256_1 : (256 : Int) ^ 1 = 256 := by decide
theorem p256_2 : (256 : Int) ^ 2 = 65536 := by decide
theorem p256_3 : (256 : Int) ^ 3 = 16777216 := by decide
theorem p256_4 : (256 : Int) ^ 4 = 4294967296 := by decide
theorem p256_5 : (256 : Int) ^ 5 = 1099511627776 := by decide
theorem p256_6 : (256 : Int) ^ 6 = 281474976710656 := by decide
def cnt (x : Int) : Nat := if x ≤ 1 then 0 else if x / 256 ≤ 1 then 1 else if x / 65536 ≤ 1 then 2 else if x / 16777216 ≤ 1 then 3 else if x / 4294967296 ≤ 1 then 4 else if x / 1099511627776 ≤ 1 then 5 else 6
def bytesOf (x : Int) : List Int × Bool := if 1 ≤ x ∧ x / 256 ^ (cnt x) = 1 then (digs (cnt x) x, true) else ([], false)
theorem cnt_le (x : Int) : cnt x ≤ 6 := by
 unfold cnt
 repeat' split
 all_goals omega
theorem bytesOf_bytes (x : Int) : Bytes (bytesOf x).1 := by
 unfold bytesOf
 split
 ·exact digs_bytes _ _
 ·simp [Bytes]
theorem bytesOf_length (x : Int) : (bytesOf x).1.length ≤ 6 := by
 unfold bytesOf
 split
 ·simp only [digs_length]; exact cnt_le x
 ·simp
theorem specBytes_yes (c : Nat) : ∀ (x : Int) (acc : List Int), x / 256 ^ c = 1 → 1 ≤ x → c + acc.length ≤ 1000 → Ev (fun k => spec_BytesOf.l0 k x acc) (digs c x ++ acc, true) := by
 induction c with
 | zero =>
  intro x acc h hx hl
  have e : x = 1 := by simpa using h
  subst e
  refine Ev.step (fun k => rfl) ?_
  exact ev_neg (by omega) (ev_eq ev_some rfl)
 | succ c ih =>
  intro x acc h hx hl
  rw [div256] at h
  have hp : (0 : Int) < 256 ^ c := Int.pow_pos (by decide)
  have hge : 1 ≤ x / 256 := by
   by_cases q : 1 ≤ x / 256
   ·exact q
   ·have z : x / 256 = 0 := by omega
    rw [z, Int.zero_ediv] at h
    omega
  refine Ev.step (fun k => rfl) ?_
  refine ev_pos (by omega) (ev_neg (by omega) ?_)
  simp only [Option.bind_some]
  refine ev_pos (by simp only [List.length_cons, List.length_nil]; omega) ?_
  have r := ih (x / 256) ([(Go.bits .and .i64 x 255) % 256] ++ acc) h hge (by simp; omega)
  rw [and255, Int.emod_emod_of_dvd _ (by decide)] at r ⊢
  rw [digs, List.append_assoc]
  exact r
theorem specBytes_no (m : Nat) : ∀ (x : Int) (acc : List Int), 1 ≤ x → x < 2 * 256 ^ m → (∀ c, c ≤ m → x / 256 ^ c ≠ 1) → m + acc.length ≤ 1000 → Ev (fun k => spec_BytesOf.l0 k x acc) ([], false) := by
 induction m with
 | zero =>
  intro x acc hx hm hc hl
  exact absurd (show x / 256 ^ 0 = 1 by simp at hm ⊢; omega) (hc 0 (by omega))
 | succ m ih =>
  intro x acc hx hm hc hl
  have h1 : x ≠ 1 := by have := hc 0 (by omega); simpa using this
  refine Ev.step (fun k => rfl) ?_
  refine ev_pos (by omega) ?_
  refine ev_if (fun _ => ev_some) (fun hge => ?_)
  simp only [Option.bind_some]
  refine ev_pos (by simp only [List.length_cons, List.length_nil]; omega) ?_
  refine ih (x / 256) _ (by omega) ?_ (fun c h => by rw [← div256]; exact hc (c + 1) (by omega)) (by simp; omega)
  rw [pow256_succ] at hm
  generalize (256 : Int) ^ m = p at hm ⊢
  omega
theorem cnt_iff (x : Int) (hx : 1 ≤ x) (h : x ≤ 562949953421311) (c : Nat) (hc : c ≤ 6) (e : x / 256 ^ c = 1) : cnt x = c := by
 unfold cnt
 rcases (show c = 0 ∨ c = 1 ∨ c = 2 ∨ c = 3 ∨ c = 4 ∨ c = 5 ∨ c = 6 by omega) with rfl | rfl | rfl | rfl | rfl | rfl | rfl <;> simp only [p256_0, p256_1, p256_2, p256_3, p256_4, p256_5, p256_6, Int.ediv_one] at e <;> (repeat' split) <;> omega
theorem specBytesOf_ev (x : Int) : Ev (fun k => spec_BytesOf.f k x) (bytesOf x) := by
 unfold spec_BytesOf.f
 rw [l1In_eq]
 simp only [Option.bind_some]
 refine ev_if (fun h => ?_) (fun h => ev_eq ev_some ?_)
 ·have h' : 1 ≤ x ∧ x ≤ 562949953421311 := by simpa using h
  unfold bytesOf
  by_cases q : x / 256 ^ (cnt x) = 1
  ·rw [if_pos ⟨h'.1, q⟩]
   exact ev_eq (specBytes_yes (cnt x) x [] q h'.1 (by have := cnt_le x; simp; omega)) (by simp)
  ·rw [if_neg (fun z => q z.2)]
   refine specBytes_no 6 x [] h'.1 (by rw [p256_6]; omega) (fun c hc e => ?_) (by simp)
   rw [cnt_iff x h'.1 h'.2 c hc e] at q
   exact q e
 ·have h' : ¬ (1 ≤ x ∧ x ≤ 562949953421311) := by simpa using h
  unfold bytesOf
  rw [if_neg]
  rintro ⟨h1, h2⟩
  have : cnt x = 6 := by
   unfold cnt
   repeat' split
   all_goals omega
  rw [this] at h2
  rw [p256_6] at h2
  omega
theorem shr_pow (x : Int) (c : Nat) (hc : c ≤ 6) : shr .i64 x (wrap64 (8 * (c : Int))) = x / 256 ^ c := by
 rw [w64 (by omega) (by omega), shr_of _ _ (by omega), show (8 * (c : Int)).toNat = 8 * c by omega, Int.pow_mul]
 rfl
theorem implBytes_tail (x : Int) (c : Nat) (hc : c ≤ 6) (hx : c = cnt x) : Ev (fun k => impl_BytesOf.j1 k x (c : Int)) (bytesOf x) := by
 have fin : Ev (fun k => impl_BytesOf.j2 k x (c : Int) false) (digs c x, true) := by
  refine Ev.step (fun k => rfl) ?_
  refine ev_pos (by omega) ?_
  simp only [Option.bind_some, Int.toNat_natCast]
  refine loop_up (fun k s i => impl_BytesOf.l1 k x (c : Int) s (((List.replicate c (0 : Int)).length : Nat) : Int) i) c (fun i (s : List Int) => s.set i (x / 256 ^ (c - 1 - i) % 256)) (fun _ s => s.length = c) (List.replicate c 0) _ (by simp) (fun i s _ h => by simpa using h) ?_ ?_
  ·intro i s r hi hs h
   have e : (c : Int) - 1 - (i : Int) = ((c - 1 - i : Nat) : Int) := by omega
   refine Ev.step (fun k => rfl) ?_
   refine ev_pos (by simp; omega) ?_
   rw [w64 (x := (c : Int) - 1) (by omega) (by omega), w64 (x := (c : Int) - 1 - i) (by omega) (by omega), e]
   refine ev_pos (by rw [w64 (by omega) (by omega)]; omega) (ev_pos (by omega) (ev_pos (by omega) ?_))
   rw [shr_pow _ _ (by omega), w64 (x := (i : Int) + 1) (by omega) (by omega)]
   exact h
  ·intro hs
   refine Ev.step (fun k => rfl) ?_
   refine ev_neg (by simp) (ev_eq ev_some ?_)
   rw [iter_set c (fun i => x / 256 ^ (c - 1 - i) % 256) _ (by simp), digs_map]
 have bad : Ev (fun k => impl_BytesOf.j2 k x (c : Int) true) ([], false) := by
  refine Ev.step (fun k => rfl) ?_
  exact ev_some
 refine Ev.step (fun k => rfl) ?_
 unfold bytesOf
 rw [← hx]
 refine ev_if (fun h => ?_) (fun h => ev_pos (by rw [w64 (by omega) (by omega)]; omega) ?_)
 ·rw [if_neg (by omega)]
  exact bad
 ·rw [shr_pow _ _ hc]
  by_cases q : x / 256 ^ c = 1
  ·rw [if_pos ⟨by omega, q⟩, q]
   exact fin
  ·rw [if_neg (fun z => q z.2)]
   have : ((x / 256 ^ c) != 1) = true := by simpa using q
   rw [this]
   exact bad
theorem implBytes_loop (x : Int) (d : Nat) : ∀ c : Nat, c + d = 6 → c ≤ cnt x → Ev (fun k => impl_BytesOf.l0 k x (c : Int)) (bytesOf x) := by
 induction d with
 | zero =>
  intro c h hc
  have := cnt_le x
  refine Ev.step (fun k => rfl) ?_
  exact ev_neg (by omega) (implBytes_tail x c (by omega) (by omega))
 | succ d ih =>
  intro c h hc
  refine Ev.step (fun k => rfl) ?_
  refine ev_pos (by omega) (ev_pos (by rw [w64 (by omega) (by omega)]; omega) ?_)
  rw [shr_pow _ _ (by omega)]
  have key : (x / 256 ^ c > 1) ↔ c < cnt x := by
   have l : ∀ q : Nat, (if q < c then 1 else 0) + q ≥ 0 := fun q => by omega
   unfold cnt at hc ⊢
   rcases (show c = 0 ∨ c = 1 ∨ c = 2 ∨ c = 3 ∨ c = 4 ∨ c = 5 by omega) with rfl | rfl | rfl | rfl | rfl | rfl <;> simp only [p256_0, p256_1, p256_2, p256_3, p256_4, p256_5, p256_6, Int.ediv_one] <;> (repeat' split at hc) <;> (repeat' split) <;> omega
  refine ev_if (fun q => ?_) (fun q => ?_)
  ·rw [w64 (by omega) (by omega)]
   exact ih (c + 1) (by omega) (key.1 q)
  ·exact implBytes_tail x c (by omega) (by have := mt key.2 q; omega)
theorem implBytesOf_ev (x : Int) : Ev (fun k => impl_BytesOf.f k x) (bytesOf x) := implBytes_loop x 6 0 (by omega) (by omega)
end Go.Proofs.Ytanpaipapcjpoaa.Pb
/- A block's sum, as the reference makes it. No condition beyond the bytes' range. -/
namespace Go.Proofs.Ytanpaipapcjpoaa.Pb
open Go.RowKit Go.Proofs.Ytanpaipapcjpoaa Go.Proofs.Ytanpaipapcjpoaa.Q Go.Proofs.YtanpaipapcjpoaaW.PrintWords Go.Proofs.YtanpaipapcjpoaaW.PrintLast
set_option linter.unusedVariables false
set_option linter.unusedSimpArgs false
def strong (l : List Int) : Int := l.foldl (fun s b => 256 * s + b) 1
def sumOf (l : List Int) : Int × Int := if (l.length : Int) > 6 then (0, 0) else (weakOf l, strong l)
theorem p256_le (i : Nat) (h : i ≤ 6) : 1 ≤ (256 : Int) ^ i ∧ (256 : Int) ^ i ≤ 281474976710656 := by
 rcases (show i = 0 ∨ i = 1 ∨ i = 2 ∨ i = 3 ∨ i = 4 ∨ i = 5 ∨ i = 6 by omega) with rfl | rfl | rfl | rfl | rfl | rfl | rfl <;> simp only [p256_0, p256_1, p256_2, p256_3, p256_4, p256_5, p256_6] <;> omega
def StrongIn (i : Nat) (s : Int) : Prop := 1 ≤ s ∧ s < 2 * 256 ^ i
theorem strongIn_step {i : Nat} {s b : Int} (h : StrongIn i s) (hb : 0 ≤ b ∧ b ≤ 255) : StrongIn (i + 1) (256 * s + b) := by
 unfold StrongIn at h ⊢
 rw [pow256_succ]
 generalize (256 : Int) ^ i = p at h ⊢
 omega
theorem strongIn_le {i : Nat} {s : Int} (h : StrongIn i s) (hi : i ≤ 6) : 1 ≤ s ∧ s ≤ 562949953421311 := by
 unfold StrongIn at h
 have := p256_le i hi
 omega
theorem specSumOf_ev (l : List Int) (hb : Bytes l) : Ev (fun k => spec_SumOf.f k l) (sumOf l) := by
 unfold spec_SumOf.f sumOf
 refine ev_if (fun h => ev_eq ev_some (by rw [if_pos h])) (fun h => ?_)
 rw [if_neg h]
 refine loop_up (σ := Int) (fun k s i => spec_SumOf.l0 k l s i) l.length (fun i s => 256 * s + l.getD i 0) (fun i s => StrongIn i s) 1 _ (by simp [StrongIn]) (fun i s _ hs => strongIn_step hs (bytes_getD hb i)) ?_ ?_
 ·intro i s r hi hs h
  have q := strongIn_le hs (by omega)
  have z := bytes_getD hb i
  refine Ev.step (fun k => rfl) ?_
  refine ev_pos (by omega) (ev_pos (by omega) ?_)
  simp only [rd, Int.toNat_natCast]
  rw [w64 (x := 256 * s) (by omega) (by omega), w64 (x := l.getD i 0) (by omega) (by omega), w64 (x := 256 * s + l.getD i 0) (by omega) (by omega), w64 (x := (i : Int) + 1) (by omega) (by omega)]
  exact h
 ·intro hs
  refine Ev.step (fun k => rfl) ?_
  refine ev_neg (by omega) (Ev.bind (specWeakOf_ev l (by omega) hb) (ev_eq ev_some ?_))
  rw [iter_foldl_all (fun s b => 256 * s + b) l 0 1]
  rfl
theorem strong_digs (c : Nat) : ∀ x : Int, 1 ≤ x → x / 256 ^ c = 1 → strong (digs c x) = x := by
 induction c with
 | zero => intro x h1 h; simp at h; simp [digs, strong, h]
 | succ c ih =>
  intro x h1 h
  rw [div256] at h
  have hge : 1 ≤ x / 256 := by
   by_cases q : 1 ≤ x / 256
   ·exact q
   ·have z : x / 256 = 0 := by omega
    rw [z, Int.zero_ediv] at h
    omega
  have e := ih (x / 256) hge h
  unfold strong at e ⊢
  rw [digs, List.foldl_append, e]
  simp only [List.foldl_cons, List.foldl_nil]
  omega
theorem bytesOf_strong (x : Int) (h : (bytesOf x).2 = true) : sumOf (bytesOf x).1 = (weakOf (bytesOf x).1, x) := by
 have hl := bytesOf_length x
 unfold sumOf
 rw [if_neg (by omega)]
 unfold bytesOf at h ⊢
 split at h
 ·rename_i q
  rw [if_pos q]
  simp only
  rw [strong_digs _ _ q.1 q.2]
 ·simp at h
end Go.Proofs.Ytanpaipapcjpoaa.Pb
/- Sizes of blocks, how many there are, where each lies. No condition. -/
namespace Go.Proofs.Ytanpaipapcjpoaa.Pb
open Go.RowKit Go.Proofs.Ytanpaipapcjpoaa Go.Proofs.Ytanpaipapcjpoaa.Q Go.Proofs.YtanpaipapcjpoaaW.PrintWords Go.Proofs.YtanpaipapcjpoaaW.PrintLast
set_option linter.unusedVariables false
set_option linter.unusedSimpArgs false
def sizeOk (a b : Int) : Bool := decide (2 ≤ a ∧ a ≤ 6) && decide (0 ≤ b ∧ b ≤ 40 * a)
theorem specSizeOk_eq (a b : Int) : spec_SizeOk.f a b = some (sizeOk a b) := by
 unfold spec_SizeOk.f sizeOk
 rw [l1In_eq]
 simp only [Option.bind_some]
 by_cases h : 2 ≤ a ∧ a ≤ 6
 ·rw [if_pos (by simpa using h), l1In_eq, w64 (by omega) (by omega)]
  simp [h, Int.mul_comm]
 ·rw [if_neg (by simpa using h)]
  simp [h]
theorem implSizeOk_eq (a b : Int) : impl_SizeOk.f a b = some (sizeOk a b) := by
 unfold impl_SizeOk.f sizeOk
 rw [within_eq]
 simp only [Option.bind_some]
 by_cases h : 2 ≤ a ∧ a ≤ 6
 ·rw [if_pos (by simpa using h), within_eq, w64 (by omega) (by omega)]
  simp [h, Int.mul_comm]
 ·rw [if_neg (by simpa using h)]
  simp [h]
theorem sizeOk_iff {a b : Int} : sizeOk a b = true ↔ (2 ≤ a ∧ a ≤ 6) ∧ 0 ≤ b ∧ b ≤ 40 * a := by simp [sizeOk, and_assoc]
def blocks (a b : Int) : Int := if sizeOk a b = true then (b + a - 1) / a else 0
theorem ceil_le {a b : Int} (h : (2 ≤ a ∧ a ≤ 6) ∧ 0 ≤ b ∧ b ≤ 40 * a) : 0 ≤ (b + a - 1) / a ∧ (b + a - 1) / a ≤ 40 := by
 constructor
 ·exact Int.ediv_nonneg (by omega) (by omega)
 ·have : (b + a - 1) / a < 41 := by
   apply Int.ediv_lt_of_lt_mul (by omega)
   omega
  omega
theorem specBlocks_eq (a b : Int) : spec_Blocks.f a b = some (blocks a b) := by
 unfold spec_Blocks.f blocks
 rw [specSizeOk_eq]
 simp only [Option.bind_some]
 by_cases h : sizeOk a b = true
 ·have h' := sizeOk_iff.1 h
  have c := ceil_le h'
  rw [if_pos h, if_pos h]
  unfold spec_CeilDiv.f
  rw [l1In_eq]
  simp only [Option.bind_some]
  rw [if_pos (by simp; omega), l1In_eq]
  simp only [Option.bind_some]
  rw [if_pos (by simp; omega), if_neg (by omega), w64 (x := b + a) (by omega) (by omega), w64 (x := b + a - 1) (by omega) (by omega), Int.tdiv_eq_ediv_of_nonneg (by omega), w64 (by omega) (by omega)]
  rfl
 ·rw [if_neg h, if_neg h]
theorem implBlocks_eq (a b : Int) : impl_Blocks.f a b = some (blocks a b) := by
 unfold impl_Blocks.f blocks
 rw [implSizeOk_eq]
 simp only [Option.bind_some]
 by_cases h : sizeOk a b = true
 ·have h' := sizeOk_iff.1 h
  have c := ceil_le h'
  rw [if_pos h, if_pos h]
  unfold impl_CeilDiv.f
  rw [within_eq]
  simp only [Option.bind_some]
  rw [if_pos (by simp; omega), within_eq]
  simp only [Option.bind_some]
  rw [if_pos (by simp; omega), if_neg (by omega), w64 (x := b + a) (by omega) (by omega), w64 (x := b + a - 1) (by omega) (by omega), Int.tdiv_eq_ediv_of_nonneg (by omega), w64 (by omega) (by omega)]
  rfl
 ·rw [if_neg h, if_neg h]
theorem blocks_range (a b : Int) : 0 ≤ blocks a b ∧ blocks a b ≤ 40 := by
 unfold blocks
 split
 ·rename_i h
  exact ceil_le (sizeOk_iff.1 h)
 ·omega
theorem blocks_pos {a b : Int} (h : 0 < blocks a b) : (2 ≤ a ∧ a ≤ 6) ∧ 0 ≤ b ∧ b ≤ 40 * a := by
 unfold blocks at h
 split at h
 ·rename_i q
  exact sizeOk_iff.1 q
 ·omega
def spanOf (a b i : Int) : Int × Int := if 0 ≤ i ∧ i ≤ blocks a b - 1 then (i * a, if b - i * a < a then b - i * a else a) else (0, 0)
theorem span_at {a b i : Int} (h : 0 ≤ i ∧ i ≤ blocks a b - 1) : 0 ≤ i * a ∧ i * a < b ∧ b ≤ 240 ∧ 2 ≤ a ∧ a ≤ 6 := by
 have q := blocks_pos (a := a) (b := b) (by omega)
 have e : blocks a b = (b + a - 1) / a := by
  unfold blocks
  rw [if_pos (sizeOk_iff.2 q)]
 rw [e] at h
 have m : (b + a - 1) / a * a ≤ b + a - 1 := Int.ediv_mul_le _ (by omega)
 have m2 : (i + 1) * a ≤ (b + a - 1) / a * a := Int.mul_le_mul_of_nonneg_right (by omega) (by omega)
 have m3 : 0 ≤ i * a := Int.mul_nonneg h.1 (by omega)
 rw [Int.add_mul] at m2
 omega
theorem spanOf_range (a b i : Int) : 0 ≤ (spanOf a b i).1 ∧ (spanOf a b i).1 ≤ 240 ∧ 0 ≤ (spanOf a b i).2 ∧ (spanOf a b i).2 ≤ 6 ∧ (spanOf a b i).1 + (spanOf a b i).2 ≤ 240 := by
 unfold spanOf
 split
 ·rename_i h
  have := span_at h
  simp only
  split <;> omega
 ·simp
theorem specSpanOf_eq (a b i : Int) : spec_SpanOf.f a b i = some (spanOf a b i) := by
 unfold spec_SpanOf.f spanOf
 have r := blocks_range a b
 rw [specBlocks_eq]
 simp only [Option.bind_some]
 rw [w64 (x := blocks a b - 1) (by omega) (by omega), l1In_eq]
 simp only [Option.bind_some]
 by_cases h : 0 ≤ i ∧ i ≤ blocks a b - 1
 ·have s := span_at h
  rw [if_pos (by simpa using h), if_pos h, w64 (x := i * a) (by omega) (by omega), w64 (x := b - i * a) (by omega) (by omega)]
  unfold spec_Least.f
  split <;> simp
 ·rw [if_neg (by simpa using h), if_neg h]
theorem implSpanOf_eq (a b i : Int) : impl_SpanOf.f a b i = some (spanOf a b i) := by
 unfold impl_SpanOf.f spanOf
 have r := blocks_range a b
 rw [implBlocks_eq]
 simp only [Option.bind_some]
 rw [w64 (x := blocks a b - 1) (by omega) (by omega), within_eq]
 simp only [Option.bind_some]
 by_cases h : 0 ≤ i ∧ i ≤ blocks a b - 1
 ·have s := span_at h
  rw [if_pos (by simpa using h), if_pos h, w64 (x := i * a) (by omega) (by omega), w64 (x := b - i * a) (by omega) (by omega)]
  rfl
 ·rw [if_neg (by simpa using h), if_neg h]
end Go.Proofs.Ytanpaipapcjpoaa.Pb
/- Blocks of an image. No condition beyond the row's length. -/
namespace Go.Proofs.Ytanpaipapcjpoaa.Pb
open Go.RowKit Go.Proofs.Ytanpaipapcjpoaa Go.Proofs.Ytanpaipapcjpoaa.Q Go.Proofs.YtanpaipapcjpoaaW.PrintWords Go.Proofs.YtanpaipapcjpoaaW.PrintLast
set_option linter.unusedVariables false
set_option linter.unusedSimpArgs false
def block (n : Int) (l : List Int) (i : Int) : List Int := (l.take ((spanOf n l.length i).1 + (spanOf n l.length i).2).toNat).drop (spanOf n l.length i).1.toNat
theorem span_zero {a b i : Int} (h : (spanOf a b i).2 = 0) : spanOf a b i = (0, 0) := by
 unfold spanOf at h ⊢
 split at h
 ·rename_i q
  have s := span_at q
  simp only at h
  split at h <;> omega
 ·rename_i q
  rw [if_neg q]
theorem block_nil {n : Int} {l : List Int} {i : Int} (h : (spanOf n l.length i).2 = 0) : block n l i = [] := by
 unfold block
 rw [span_zero h]
 simp
theorem block_in (n : Int) (l : List Int) (i : Int) : (spanOf n l.length i).1 + (spanOf n l.length i).2 ≤ l.length := by
 unfold spanOf
 split
 ·rename_i h
  have s := span_at h
  simp only
  split <;> omega
 ·simp
theorem block_length (n : Int) (l : List Int) (i : Int) : (block n l i).length ≤ 240 := by
 have := spanOf_range n l.length i
 unfold block
 rw [List.length_drop, List.length_take]
 omega
end Go.Proofs.Ytanpaipapcjpoaa.Pb
/- Blocks of an image. No condition beyond the row's length. -/
namespace Go.Proofs.Ytanpaipapcjpoaa.Pb
open Go.RowKit Go.Proofs.Ytanpaipapcjpoaa Go.Proofs.Ytanpaipapcjpoaa.Q Go.Proofs.YtanpaipapcjpoaaW.PrintWords Go.Proofs.YtanpaipapcjpoaaW.PrintLast
set_option linter.unusedVariables false
set_option linter.unusedSimpArgs false
theorem specBlockAt_eq (l : List Int) (n i : Int) : spec_BlockAt.f l n i = some (block n l i, !decide ((spanOf n l.length i).2 = 0)) := by
 have r := spanOf_range n l.length i
 have hs := block_in n l i
 have pl := block_length n l i
 unfold spec_BlockAt.f
 rw [specSpanOf_eq]
 simp only [Option.bind_some]
 by_cases h : (spanOf n l.length i).2 = 0
 ·rw [if_pos h, block_nil h, decide_eq_true h]; rfl
 ·unfold block at pl
  rw [if_neg h, decide_eq_false h, w64 (by omega) (by omega), if_pos (by omega), if_pos (by omega), if_pos (by omega), if_pos (by simp only [List.length_nil]; omega)]
  rfl
end Go.Proofs.Ytanpaipapcjpoaa.Pb
/- The reference's draws of manifests. No condition beyond the length that the laws ask. -/
namespace Go.Proofs.Ytanpaipapcjpoaa.Pb
open Go.RowKit Go.Proofs.Ytanpaipapcjpoaa Go.Proofs.Ytanpaipapcjpoaa.Q Go.Proofs.YtanpaipapcjpoaaW.PrintWords Go.Proofs.YtanpaipapcjpoaaW.PrintLast
set_option linter.unusedVariables false
set_option linter.unusedSimpArgs false
theorem specSums_some (l : List Int) (n : Int) (hb : Bytes l) : ∃ r, Ev (fun k => spec_SumsOf.f k l n) r ∧ r.length ≤ 40 := by
 have hr := blocks_range n l.length
 unfold spec_SumsOf.f
 have key : ∀ (d i : Nat) (s : List S83), (i : Int) + d = blocks n l.length → s.length = i → ∃ r, Ev (fun k => spec_SumsOf.l0 k l n s (i : Int)) r ∧ r.length ≤ 40 := by
  intro d
  induction d with
  | zero =>
   intro i s hi hs
   exact ⟨s, Ev.step (fun k => rfl) (ev_then (specBlocks_eq _ _) (ev_neg (by omega) ev_some)), by omega⟩
  | succ d ih =>
   intro i s hi hs
   obtain ⟨r, e, hl⟩ := ih (i + 1) (s ++ [⟨(sumOf (block n l (i : Int))).1, (sumOf (block n l (i : Int))).2⟩]) (by omega) (by rw [List.length_append, hs]; rfl)
   refine ⟨r, Ev.step (fun k => rfl) (ev_then (specBlocks_eq _ _) (ev_pos (by omega) (ev_then (specBlockAt_eq _ _ _) (Ev.bind (specSumOf_ev _ (fun x hx => hb x (List.mem_of_mem_take (List.mem_of_mem_drop hx)))) (ev_pos (by rw [hs]; omega) ?_))))), hl⟩
   rw [w64 (by omega) (by omega)]
   exact e
 exact key (blocks n l.length).toNat 0 [] (by omega) rfl
theorem specMan_some (a : Int) (l : List Int) (n : Int) (hb : Bytes l) : ∃ g s c r, Ev (fun k => spec_ManOf.f k a l n) (g, s, c, r) ∧ r.length ≤ 40 := by
 obtain ⟨r, e, hl⟩ := specSums_some l n hb
 unfold spec_ManOf.f
 by_cases h1 : 1 ≤ a ∧ a ≤ 1000000
 ·by_cases h2 : sizeOk n l.length = true
  ·exact ⟨a, n, l.length, r, ev_then (l1In_eq _ _ _) (ev_pos (by simpa using h1) (ev_then (specSizeOk_eq _ _) (ev_pos h2 (Ev.bind e ev_some)))), hl⟩
  ·exact ⟨0, 0, 0, [], ev_then (l1In_eq _ _ _) (ev_pos (by simpa using h1) (ev_then (specSizeOk_eq _ _) (ev_neg h2 ev_some))), by simp⟩
 ·exact ⟨0, 0, 0, [], ev_then (l1In_eq _ _ _) (ev_neg (by simpa using h1) ev_some), by simp⟩
theorem l6Draw_ok {b : List Int} {i : Int} (h : Int) (hd : Dr b i) : ∃ g s c r l i' h', Ev (fun k => spec_l6Draw.f k b i h) (g, s, c, r, l, i', h') ∧ Dr b i' ∧ Bytes l ∧ l.length ≤ 16 ∧ r.length ≤ 40 := by
 obtain ⟨l, i1, h1, e1, d1, b1, n1⟩ := l3Bytes_ok h 16 hd (by omega)
 obtain ⟨x, i2, h2, e2, d2, x0, x1, _⟩ := l1Below_ok h1 5 d1
 obtain ⟨y, i3, h3, e3, d3, y0, y1, _⟩ := l1Below_ok h2 5 d2
 obtain ⟨g, s, c, r, e4, hr⟩ := specMan_some (wrap64 (1 + x)) l (wrap64 (2 + y)) b1
 unfold spec_l6Draw.f
 exact ⟨g, s, c, r, l, i3, h3, Ev.bind (show Ev (fun k => spec_l6Image.f k b i h) (l, i1, h1) from Ev.bind e1 ev_some) (ev_then e2 (ev_then e3 (Ev.bind e4 ev_some))), d3, b1, by omega, hr⟩
end Go.Proofs.Ytanpaipapcjpoaa.Pb
/- The reference's draws of images. No condition beyond the length that the laws ask. -/
namespace Go.Proofs.Ytanpaipapcjpoaa.Pb
open Go.RowKit Go.Proofs.Ytanpaipapcjpoaa Go.Proofs.Ytanpaipapcjpoaa.Q Go.Proofs.YtanpaipapcjpoaaW.PrintWords Go.Proofs.YtanpaipapcjpoaaW.PrintLast
set_option linter.unusedVariables false
set_option linter.unusedSimpArgs false
theorem u8_range (x : Int) : 0 ≤ IntKind.u8.wrap x ∧ IntKind.u8.wrap x ≤ 255 := by
 unfold IntKind.wrap
 simp [IntKind.signed, IntKind.bits]
 omega
theorem l1Bent_ok {b : List Int} {i : Int} (h : Int) (l : List Int) (hd : Dr b i) (hb : Bytes l) (hl : l.length ≤ 1000) : ∃ l' i' h', spec_l1Bent.f b i h l = some (l', i', h') ∧ Dr b i' ∧ Bytes l' ∧ l'.length ≤ l.length + 1 := by
 unfold spec_l1Bent.f
 simp only [Option.bind_some, List.length_nil, List.nil_append]
 rw [if_pos (by omega)]
 obtain ⟨x, i1, h1, e1, hd1, x0, x1, _⟩ := l1Below_ok h 6 hd
 rw [e1]
 simp only [Option.bind_some]
 by_cases c0 : x = 0
 ·rw [if_pos c0]
  by_cases c : (l.length : Int) > 0
  ·rw [if_pos c]
   obtain ⟨y, i2, h2, e2, hd2, y0, y1, _⟩ := l1Below_ok h1 (l.length : Int) hd1
   obtain ⟨z, i3, h3, e3, hd3, z0, z1, _⟩ := l1Below_ok h2 256 hd2
   have y1 := y1 c
   rw [e2]
   simp only [Option.bind_some]
   rw [e3]
   simp only [Option.bind_some]
   rw [if_pos y0, if_pos y1]
   exact ⟨_, _, _, rfl, hd3, bytes_set hb _ (by omega), by rw [List.length_set]; omega⟩
  ·rw [if_neg c]
   exact ⟨_, _, _, rfl, hd1, hb, by omega⟩
 rw [if_neg c0]
 by_cases c1 : x = 1
 ·rw [if_pos c1]
  obtain ⟨y, i2, h2, e2, hd2, y0, y1, _⟩ := l1Below_ok h1 ((l.length : Int) + 1) hd1
  have y1 := y1 (by omega)
  rw [w64 (by omega) (by omega), e2]
  simp only [Option.bind_some]
  rw [if_pos y0, if_pos (by omega)]
  exact ⟨_, _, _, rfl, hd2, bytes_take hb _, by rw [List.length_take]; omega⟩
 rw [if_neg c1]
 by_cases c2 : x = 2
 ·rw [if_pos c2]
  obtain ⟨y, i2, h2, e2, hd2, hy⟩ := l1Int_ok h1 [0, 1, 128, 255] hd1 (by decide)
  rw [e2]
  simp only [Option.bind_some]
  rw [if_pos (by omega)]
  exact ⟨_, _, _, rfl, hd2, bytes_snoc hb (by omega), by simp⟩
 rw [if_neg c2]
 by_cases c3 : x = 3
 ·rw [if_pos c3]
  by_cases c : (l.length : Int) > 0
  ·rw [if_pos c]
   obtain ⟨y, i2, h2, e2, hd2, y0, y1, _⟩ := l1Below_ok h1 (l.length : Int) hd1
   obtain ⟨z, i3, h3, e3, hd3, z0, z1, _⟩ := l1Below_ok h2 8 hd2
   have y1 := y1 c
   rw [e2]
   simp only [Option.bind_some]
   rw [if_pos y0, if_pos y1, e3]
   simp only [Option.bind_some]
   rw [if_pos z0]
   exact ⟨_, _, _, rfl, hd3, bytes_set hb _ (u8_range _), by rw [List.length_set]; omega⟩
  ·rw [if_neg c]
   exact ⟨_, _, _, rfl, hd1, hb, by omega⟩
 rw [if_neg c3]
 exact ⟨_, _, _, rfl, hd1, hb, by omega⟩
end Go.Proofs.Ytanpaipapcjpoaa.Pb
/- Numbers written in bytes of seven bits: the program's and the reference's ways. No condition beyond the list's length. -/
namespace Go.Proofs.Ytanpaipapcjpoaa.Pb
open Go.RowKit Go.Proofs.Ytanpaipapcjpoaa Go.Proofs.Ytanpaipapcjpoaa.Q Go.Proofs.YtanpaipapcjpoaaW.PrintWords Go.Proofs.YtanpaipapcjpoaaW.PrintLast Go.Proofs.YtanpaipapcjpoaaW.PrintMore
set_option linter.unusedVariables false
set_option linter.unusedSimpArgs false
def vb : Nat → Int → List Int
 | 0, x => [x]
 | m + 1, x => if x ≤ 127 then [x] else (x % 128 + 128) :: vb m (x / 128)
def encVar (x : Int) : List Int := vb 8 x
theorem vb_length (m : Nat) : ∀ x, (vb m x).length ≤ m + 1 := by
 induction m with
 | zero => intro x; simp [vb]
 | succ m ih =>
  intro x
  rw [vb]
  split
  ·simp
  ·simp only [List.length_cons]
   have := ih (x / 128)
   omega
theorem encVar_length (x : Int) : (encVar x).length ≤ 9 := vb_length 8 x
theorem and127 (n : Int) : Go.bits .and .i64 n 127 = n % 128 := and_mask n 7 127 (by decide) (by decide)
theorem or128_nat (y : Nat) (h : y < 128) : y ||| 128 = y + 128 := by
 have e := Nat.two_pow_add_eq_or_of_lt (i := 7) (b := y) (by omega) 1
 rw [show 2 ^ 7 * 1 = 128 from rfl] at e
 rw [Nat.or_comm]
 omega
theorem or128 (y : Int) (h0 : 0 ≤ y) (h1 : y < 128) : Go.bits .or .i64 y 128 = y + 128 := by
 obtain ⟨a, rfl⟩ := Int.eq_ofNat_of_zero_le h0
 have := or_nat a 128 (by omega) (by omega)
 rw [or128_nat a (by omega)] at this
 exact this
theorem or128_u8 (y : Int) (h0 : 0 ≤ y) (h1 : y < 256) : Go.bits .or .u8 y 128 = y % 128 + 128 := by
 obtain ⟨a, rfl⟩ := Int.eq_ofNat_of_zero_le h0
 have e := Go.u8_or_nat a 128 (by omega) (by omega)
 by_cases q : a < 128
 ·rw [or128_nat a q] at e
  rw [show ((128 : Nat) : Int) = 128 from rfl] at e
  rw [e]
  omega
 ·have r : a ||| 128 = a := by
   have h2 := Nat.two_pow_add_eq_or_of_lt (i := 7) (b := a - 128) (by omega) 1
   rw [show 2 ^ 7 * 1 + (a - 128) = a by omega, show 2 ^ 7 * 1 = 128 from rfl] at h2
   rw [h2, Nat.or_comm, ← Nat.or_assoc, Nat.or_self]
  rw [r, show ((128 : Nat) : Int) = 128 from rfl] at e
  rw [e]
  omega
theorem specVar_loop (m : Nat) : ∀ (x : Int) (l : List Int), 0 ≤ x → x < 128 ^ (m + 1) → l.length + m ≤ 1000000000 → Ev (fun k => spec_PutVar.l0 k x l) (l ++ vb m x) := by
 induction m with
 | zero =>
  intro x l h0 h1 hl
  simp only [Nat.zero_add, Int.pow_one] at h1
  refine Ev.step (fun k => rfl) ?_
  refine ev_neg (by omega) (ev_pos (by omega) (ev_eq ev_some ?_))
  rw [vb, show x % 256 = x by omega]
 | succ m ih =>
  intro x l h0 h1 hl
  refine Ev.step (fun k => rfl) ?_
  rw [vb]
  refine ev_if (fun h => ?_) (fun h => ?_)
  ·rw [if_neg (show ¬ x ≤ 127 by omega)]
   refine ev_pos (by omega) ?_
   rw [and127, or128 _ (by omega) (by omega), show (x % 128 + 128) % 256 = x % 128 + 128 by omega]
   have r := ih (x / 128) (l ++ [x % 128 + 128]) (by omega) (by rw [Int.pow_succ] at h1; generalize (128 : Int) ^ (m + 1) = p at h1 ⊢; omega) (by simp; omega)
   rw [List.append_assoc] at r
   exact r
  ·rw [if_pos (show x ≤ 127 by omega)]
   refine ev_pos (by omega) (ev_eq ev_some ?_)
   rw [show x % 256 = x by omega]
theorem specSum_loop (m : Nat) : ∀ (x : Int) (l : List Int), 0 ≤ x → x < 128 ^ (m + 1) → l.length + m ≤ 1000000000 → Ev (fun k => spec_l6PutSum.l0 k l x) (l ++ vb m x) := by
 induction m with
 | zero =>
  intro x l h0 h1 hl
  simp only [Nat.zero_add, Int.pow_one] at h1
  refine Ev.step (fun k => rfl) ?_
  refine ev_neg (by omega) (ev_pos (by omega) (ev_eq ev_some ?_))
  rw [vb, show x % 256 = x by omega]
 | succ m ih =>
  intro x l h0 h1 hl
  refine Ev.step (fun k => rfl) ?_
  rw [vb]
  refine ev_if (fun h => ?_) (fun h => ?_)
  ·rw [if_neg (show ¬ x ≤ 127 by omega)]
   refine ev_pos (by omega) ?_
   rw [and127, or128 _ (by omega) (by omega), show (x % 128 + 128) % 256 = x % 128 + 128 by omega]
   have r := ih (x / 128) (l ++ [x % 128 + 128]) (by omega) (by rw [Int.pow_succ] at h1; generalize (128 : Int) ^ (m + 1) = p at h1 ⊢; omega) (by simp; omega)
   rw [List.append_assoc] at r
   exact r
  ·rw [if_pos (show x ≤ 127 by omega)]
   refine ev_pos (by omega) (ev_eq ev_some ?_)
   rw [show x % 256 = x by omega]
theorem implVar_loop (m : Nat) : ∀ (x : Int) (l : List Int), 0 ≤ x → x < 128 ^ (m + 1) → l.length + m ≤ 1000000000 → Ev (fun k => impl_appendVar.l0 k l x) (l ++ vb m x) := by
 induction m with
 | zero =>
  intro x l h0 h1 hl
  simp only [Nat.zero_add, Int.pow_one] at h1
  refine Ev.step (fun k => rfl) ?_
  refine ev_neg (by omega) (ev_pos (by omega) (ev_eq ev_some ?_))
  rw [vb, show x % 256 = x by omega]
 | succ m ih =>
  intro x l h0 h1 hl
  refine Ev.step (fun k => rfl) ?_
  rw [vb]
  refine ev_if (fun h => ?_) (fun h => ?_)
  ·rw [if_neg (show ¬ x ≤ 127 by omega)]
   refine ev_pos (by omega) ?_
   rw [or128_u8 _ (by omega) (by omega), show x % 256 % 128 = x % 128 by omega]
   have r := ih (x / 128) (l ++ [x % 128 + 128]) (by omega) (by rw [Int.pow_succ] at h1; generalize (128 : Int) ^ (m + 1) = p at h1 ⊢; omega) (by simp; omega)
   rw [List.append_assoc] at r
   exact r
  ·rw [if_pos (show x ≤ 127 by omega)]
   refine ev_pos (by omega) (ev_eq ev_some ?_)
   rw [show x % 256 = x by omega]
theorem p128_9 : (128 : Int) ^ (8 + 1) = 9223372036854775808 := by decide
def putVar (l : List Int) (x : Int) : List Int := if 0 ≤ x ∧ x ≤ 1000000000000 then l ++ encVar x else l
theorem putVar_length (l : List Int) (x : Int) : (putVar l x).length ≤ l.length + 9 := by
 unfold putVar
 split
 ·rw [List.length_append]
  have := encVar_length x
  omega
 ·omega
theorem specPutVar_ev (l : List Int) (x : Int) (hl : l.length ≤ 100000000) : Ev (fun k => spec_PutVar.f k l x) (putVar l x) := by
 unfold spec_PutVar.f putVar encVar
 simp only [Option.bind_some]
 refine ev_pos (by simp; omega) ?_
 rw [List.nil_append, l1In_eq]
 refine Ev.bind ev_some (ev_if (fun h => ?_) (fun h => ev_eq ev_some (by rw [if_neg (by simpa using h)])))
 have h' : 0 ≤ x ∧ x ≤ 1000000000000 := by simpa using h
 rw [if_pos h']
 exact specVar_loop 8 x l h'.1 (by rw [p128_9]; omega) (by omega)
theorem implPutVar_ev (l : List Int) (x : Int) (hl : l.length ≤ 100000000) : Ev (fun k => impl_PutVar.f k l x) (putVar l x) := by
 unfold impl_PutVar.f putVar encVar
 have ec : impl_cloned.f l = some l := by
  unfold impl_cloned.f
  rw [if_pos (by omega)]
 rw [ec, within_eq]
 refine Ev.bind ev_some (Ev.bind ev_some (ev_if (fun h => ?_) (fun h => ev_eq ev_some (by rw [if_neg (by simpa using h)]))))
 have h' : 0 ≤ x ∧ x ≤ 1000000000000 := by simpa using h
 rw [if_pos h']
 exact Ev.bind (implVar_loop 8 x l h'.1 (by rw [p128_9]; omega) (by omega)) ev_some
theorem specPutSum_ev (l : List Int) (x : Int) (h0 : 0 ≤ x) (h1 : x ≤ 9223372036854775807) (hl : l.length ≤ 100000000) : Ev (fun k => spec_l6PutSum.f k l x) (l ++ encVar x) := by
 unfold spec_l6PutSum.f encVar
 exact specSum_loop 8 x l h0 (by rw [p128_9]; omega) (by omega)
theorem implAppendVar_ev (l : List Int) (x : Int) (h0 : 0 ≤ x) (h1 : x ≤ 9223372036854775807) (hl : l.length ≤ 100000000) : Ev (fun k => impl_appendVar.f k l x) (l ++ encVar x) := by
 unfold impl_appendVar.f encVar
 exact implVar_loop 8 x l h0 (by rw [p128_9]; omega) (by omega)
end Go.Proofs.Ytanpaipapcjpoaa.Pb
/- Whether a manifest is a good one: the program's and the reference's ways. No condition beyond the size that the laws ask. -/
namespace Go.Proofs.Ytanpaipapcjpoaa.Pb
open Go.RowKit Go.Proofs.Ytanpaipapcjpoaa Go.Proofs.Ytanpaipapcjpoaa.Q Go.Proofs.YtanpaipapcjpoaaW.PrintWords Go.Proofs.YtanpaipapcjpoaaW.PrintLast
set_option linter.unusedVariables false
set_option linter.unusedSimpArgs false
def blockOk (b c : Int) (l : List S83) (i : Nat) : Bool := (bytesOf (l.getD i z83).f1).2 && (decide (((bytesOf (l.getD i z83).f1).1.length : Int) = (spanOf b c i).2) && decide (weakOf (bytesOf (l.getD i z83).f1).1 = (l.getD i z83).f0))
def manOk (a b c : Int) (l : List S83) : Bool := if a = 0 then decide (b = 0 ∧ c = 0 ∧ l.length = 0) else if (1 ≤ a ∧ a ≤ 1000000) ∧ sizeOk b c = true ∧ (l.length : Int) = blocks b c then (List.range l.length).all (blockOk b c l) else false
theorem specMan_loop (a b c : Int) (l : List S83) (hl : l.length ≤ 1048576) : Ev (fun k => spec_ManOk.l0 k 0 a b c l) ((List.range l.length).all (blockOk b c l)) := by
 refine loop_all (fun k i => spec_ManOk.l0 k i a b c l) l.length _ ?_ ?_ ?_
 ·intro i r hi hp h
  simp only [blockOk, Bool.and_eq_true, decide_eq_true_eq] at hp
  refine Ev.step (fun k => rfl) ?_
  refine ev_pos (by omega) (ev_pos (by omega) ?_)
  simp only [rd_T83, Int.toNat_natCast]
  refine Ev.bind (specBytesOf_ev _) (ev_then (specSpanOf_eq _ _ _) (ev_pos hp.1 (ev_pos hp.2.1 ?_)))
  refine Ev.bind (specSumOf_ev _ (bytesOf_bytes _)) ?_
  rw [bytesOf_strong _ hp.1]
  refine ev_neg (by rw [hp.2.2]; simp) ?_
  rw [w64 (by omega) (by omega)]
  exact h
 ·intro i hi hp
  simp only [blockOk, Bool.and_eq_false_iff, decide_eq_false_iff_not] at hp
  refine Ev.step (fun k => rfl) ?_
  refine ev_pos (by omega) (ev_pos (by omega) ?_)
  simp only [rd_T83, Int.toNat_natCast]
  refine Ev.bind (specBytesOf_ev _) (ev_then (specSpanOf_eq _ _ _) ?_)
  refine ev_if (fun h1 => ?_) (fun _ => ev_some)
  refine ev_if (fun h2 => ?_) (fun _ => ev_some)
  refine Ev.bind (specSumOf_ev _ (bytesOf_bytes _)) ?_
  rw [bytesOf_strong _ h1]
  have h3 : ¬ weakOf (bytesOf (l.getD i z83).f1).1 = (l.getD i z83).f0 := by
   rcases hp with q | q | q
   ·rw [h1] at q; cases q
   ·exact absurd h2 q
   ·exact q
  exact ev_pos (by rw [show (weakOf (bytesOf (l.getD i z83).f1).1 == (l.getD i z83).f0) = false from beq_eq_false_iff_ne.2 h3]; rfl) ev_some
 ·refine Ev.step (fun k => rfl) ?_
  exact ev_neg (by omega) ev_some
theorem implMan_loop (a b c : Int) (l : List S83) (hl : l.length ≤ 1048576) : Ev (fun k => impl_ManOk.l0 k l (l.length : Int) 0 a b c l) ((List.range l.length).all (blockOk b c l)) := by
 refine loop_all (fun k i => impl_ManOk.l0 k l (l.length : Int) i a b c l) l.length _ ?_ ?_ ?_
 ·intro i r hi hp h
  simp only [blockOk, Bool.and_eq_true, decide_eq_true_eq] at hp
  refine Ev.step (fun k => rfl) ?_
  refine ev_pos (by omega) (ev_pos (by omega) (ev_pos (by omega) ?_))
  simp only [rd_T83, Int.toNat_natCast]
  refine Ev.bind (implBytesOf_ev _) (ev_then (implSpanOf_eq _ _ _) (ev_pos hp.1 (ev_pos hp.2.1 ?_)))
  have hle := bytesOf_length (l.getD i z83).f1
  refine Ev.bind (implWeakOf_ev _ (by omega) (bytesOf_bytes _)) (ev_pos hp.2.2 ?_)
  rw [w64 (by omega) (by omega)]
  exact h
 ·intro i hi hp
  simp only [blockOk, Bool.and_eq_false_iff, decide_eq_false_iff_not] at hp
  refine Ev.step (fun k => rfl) ?_
  refine ev_pos (by omega) (ev_pos (by omega) (ev_pos (by omega) ?_))
  simp only [rd_T83, Int.toNat_natCast]
  refine Ev.bind (implBytesOf_ev _) (ev_then (implSpanOf_eq _ _ _) ?_)
  refine ev_if (fun h1 => ?_) (fun _ => ev_some)
  refine ev_if (fun h2 => ?_) (fun _ => ev_some)
  have hle := bytesOf_length (l.getD i z83).f1
  refine Ev.bind (implWeakOf_ev _ (by omega) (bytesOf_bytes _)) ?_
  have h3 : ¬ weakOf (bytesOf (l.getD i z83).f1).1 = (l.getD i z83).f0 := by
   rcases hp with q | q | q
   ·rw [h1] at q; cases q
   ·exact absurd h2 q
   ·exact q
  exact ev_neg h3 ev_some
 ·refine Ev.step (fun k => rfl) ?_
  exact ev_neg (by omega) ev_some
theorem specManOk_ev (a b c : Int) (l : List S83) (hl : l.length ≤ 1048576) : Ev (fun k => spec_ManOk.f k a b c l) (manOk a b c l) := by
 unfold spec_ManOk.f manOk
 refine ev_if (fun ha => ?_) (fun ha => ?_)
 ·rw [if_pos ha]
  refine ev_if (fun hb => ?_) (fun hb => ev_eq ev_some (by simp [hb]))
  refine ev_if (fun hc => ev_eq ev_some ?_) (fun hc => ev_eq ev_some (by simp [hc]))
  rw [Bool.eq_iff_iff]
  simp [hb, hc]
 ·rw [if_neg ha, l1In_eq]
  simp only [Option.bind_some]
  have bad : ∀ (h : ¬ ((1 ≤ a ∧ a ≤ 1000000) ∧ sizeOk b c = true ∧ (l.length : Int) = blocks b c)), Ev (fun k => spec_ManOk.j0 k true a b c l) (if (1 ≤ a ∧ a ≤ 1000000) ∧ sizeOk b c = true ∧ (l.length : Int) = blocks b c then (List.range l.length).all (blockOk b c l) else false) := by
   intro h
   rw [if_neg h]
   refine Ev.step (fun k => rfl) ?_
   exact ev_some
  refine ev_if (fun h1 => ?_) (fun h1 => bad (fun z => h1 (by simpa using z.1)))
  rw [specSizeOk_eq]
  simp only [Option.bind_some]
  refine ev_if (fun h2 => ?_) (fun h2 => bad (fun z => h2 z.2.1))
  rw [specBlocks_eq]
  simp only [Option.bind_some]
  by_cases h3 : (l.length : Int) = blocks b c
  ·have e : ((l.length : Int) != blocks b c) = false := by simp [h3]
   rw [e, if_pos ⟨by simpa using h1, h2, h3⟩]
   refine Ev.step (fun k => rfl) ?_
   exact specMan_loop a b c l hl
  ·have e : ((l.length : Int) != blocks b c) = true := by simp [h3]
   rw [e]
   exact bad (fun z => h3 z.2.2)
theorem implManOk_ev (a b c : Int) (l : List S83) (hl : l.length ≤ 1048576) : Ev (fun k => impl_ManOk.f k a b c l) (manOk a b c l) := by
 unfold impl_ManOk.f manOk
 have ez : impl_isZeroMan.f a b c l = some (decide (a = 0 ∧ b = 0 ∧ c = 0 ∧ l.length = 0)) := by
  unfold impl_isZeroMan.f
  repeat' split
  all_goals simp_all
  all_goals rw [Bool.eq_iff_iff]; simp
 rw [ez]
 simp only [Option.bind_some]
 have bad : ∀ (h : ¬ ((1 ≤ a ∧ a ≤ 1000000) ∧ sizeOk b c = true ∧ (l.length : Int) = blocks b c)), Ev (fun k => impl_ManOk.j0 k true a b c l) (if (1 ≤ a ∧ a ≤ 1000000) ∧ sizeOk b c = true ∧ (l.length : Int) = blocks b c then (List.range l.length).all (blockOk b c l) else false) := by
  intro h
  rw [if_neg h]
  refine Ev.step (fun k => rfl) ?_
  exact ev_some
 by_cases ha : a = 0
 ·rw [if_pos ha]
  refine ev_if (fun hz => ev_eq ev_some ?_) (fun hz => ?_)
  ·simp only [decide_eq_true_eq] at hz
   simp [hz.2]
  ·have e : decide (b = 0 ∧ c = 0 ∧ l.length = 0) = false := by
    simp only [decide_eq_true_eq] at hz
    rw [decide_eq_false_iff_not]
    exact fun q => hz ⟨ha, q⟩
   rw [e, within_eq]
   simp only [Option.bind_some]
   refine ev_neg (by simp; omega) ?_
   exact ev_eq (bad (by omega)) (by rw [if_neg (by omega)])
 ·rw [if_neg ha]
  refine ev_neg (by simp [ha]) ?_
  rw [within_eq]
  simp only [Option.bind_some]
  refine ev_if (fun h1 => ?_) (fun h1 => bad (fun z => h1 (by simpa using z.1)))
  rw [implSizeOk_eq]
  simp only [Option.bind_some]
  refine ev_if (fun h2 => ?_) (fun h2 => bad (fun z => h2 z.2.1))
  rw [implBlocks_eq]
  simp only [Option.bind_some]
  by_cases h3 : (l.length : Int) = blocks b c
  ·have e : ((l.length : Int) != blocks b c) = false := by simp [h3]
   rw [e, if_pos ⟨by simpa using h1, h2, h3⟩]
   refine Ev.step (fun k => rfl) ?_
   exact implMan_loop a b c l hl
  ·have e : ((l.length : Int) != blocks b c) = true := by simp [h3]
   rw [e]
   exact bad (fun z => h3 z.2.2)
end Go.Proofs.Ytanpaipapcjpoaa.Pb
/- Telling manifests apart: the reference's way. No condition beyond the size that the laws ask. -/
namespace Go.Proofs.Ytanpaipapcjpoaa.Pb
open Go.RowKit Go.Proofs.Ytanpaipapcjpoaa Go.Proofs.Ytanpaipapcjpoaa.Q Go.Proofs.YtanpaipapcjpoaaW.PrintWords Go.Proofs.YtanpaipapcjpoaaW.PrintLast
set_option linter.unusedVariables false
set_option linter.unusedSimpArgs false
def sumAt (a b : List S83) (i : Nat) : Bool := !(!(((a.getD i z83).f0) == ((b.getD i z83).f0)) || (!(((a.getD i z83).f1) == ((b.getD i z83).f1))))
def sameSums (a b : List S83) : Bool := if a.length = b.length then (List.range a.length).all (sumAt a b) else false
theorem specSameSums_ev (a b : List S83) (ha : a.length ≤ 1048576) : Ev (fun k => spec_l6SameSums.f k a b) (sameSums a b) := by
 unfold spec_l6SameSums.f sameSums
 refine ev_if (fun hl => ?_) (fun hl => ev_eq ev_some (by rw [if_neg (by omega)]))
 rw [if_pos (by omega)]
 refine loop_all (fun k i => spec_l6SameSums.l0 k a b i) a.length _ ?_ ?_ ?_
 ·intro i r hi hp h
  refine Ev.step (fun k => rfl) ?_
  refine ev_pos (by omega) (ev_pos (by omega) (ev_pos (by omega) (ev_neg (by simpa [sumAt, rd_T83] using hp) ?_)))
  rw [w64 (by omega) (by omega)]
  exact h
 ·intro i hi hp
  refine Ev.step (fun k => rfl) ?_
  refine ev_pos (by omega) (ev_pos (by omega) (ev_pos (by omega) (ev_pos ?_ ev_some)))
  have : (!sumAt a b i) = true := by rw [hp]; rfl
  rw [sumAt, Bool.not_not] at this
  exact this
 ·refine Ev.step (fun k => rfl) ?_
  exact ev_neg (by omega) ev_some
def sameMan (a b c : Int) (l : List S83) (a' b' c' : Int) (l' : List S83) : Bool := if a = a' then (if b = b' then (if c = c' then sameSums l l' else false) else false) else false
theorem specSameMan_ev (a b c : Int) (l : List S83) (a' b' c' : Int) (l' : List S83) (hl : l.length ≤ 1048576) : Ev (fun k => spec_SameMan.f k a b c l a' b' c' l') (sameMan a b c l a' b' c' l') := by
 unfold spec_SameMan.f sameMan
 refine ev_if (fun h => ?_) (fun h => ev_eq ev_some (by rw [if_neg h]))
 rw [if_pos h]
 refine ev_if (fun h => ?_) (fun h => ev_eq ev_some (by rw [if_neg h]))
 rw [if_pos h]
 refine ev_if (fun h => ?_) (fun h => ev_eq ev_some (by rw [if_neg h]))
 rw [if_pos h]
 exact Ev.bind (specSameSums_ev l l' hl) ev_some
end Go.Proofs.Ytanpaipapcjpoaa.Pb
/- Whether a number is a set of blocks. No condition. -/
namespace Go.Proofs.Ytanpaipapcjpoaa.Pb
open Go.RowKit Go.Proofs.Ytanpaipapcjpoaa Go.Proofs.Ytanpaipapcjpoaa.Q Go.Proofs.YtanpaipapcjpoaaW.PrintWords Go.Proofs.YtanpaipapcjpoaaW.PrintLast
set_option linter.unusedVariables false
set_option linter.unusedSimpArgs false
def setOk (s : Int) : Bool := decide (0 ≤ s ∧ s ≤ 1099511627775)
theorem specSetOk_eq (s : Int) : spec_SetOk.f s = some (setOk s) := by
 unfold spec_SetOk.f
 rw [l1In_eq]
 rfl
theorem implSetOk_eq (s : Int) : impl_SetOk.f s = some (setOk s) := by
 unfold impl_SetOk.f
 rw [within_eq]
 rfl
end Go.Proofs.Ytanpaipapcjpoaa.Pb
/- Whether a message is a good one: the program's and the reference's ways. No condition beyond the size that the laws ask. -/
namespace Go.Proofs.Ytanpaipapcjpoaa.Pb
open Go.RowKit Go.Proofs.Ytanpaipapcjpoaa Go.Proofs.Ytanpaipapcjpoaa.Q Go.Proofs.YtanpaipapcjpoaaW.PrintWords Go.Proofs.YtanpaipapcjpoaaW.PrintLast
set_option linter.unusedVariables false
set_option linter.unusedSimpArgs false
def zeroMan (c d e : Int) (l : List S83) : Bool := decide (c = 0 ∧ d = 0 ∧ e = 0 ∧ l.length = 0)
theorem sameMan_zero (c d e : Int) (l : List S83) : sameMan c d e l 0 0 0 [] = zeroMan c d e l := by
 unfold sameMan zeroMan sameSums
 by_cases h1 : c = 0
 ·by_cases h2 : d = 0
  ·by_cases h3 : e = 0
   ·by_cases h4 : l.length = 0
    ·simp [h1, h2, h3, h4]
    ·simp [h1, h2, h3, h4]
   ·simp [h3]
  ·simp [h2]
 ·simp [h1]
def msgVal (a b c d e : Int) (l : List S83) (f g h : Int) (m : List Int) (z n : Bool) : Bool :=
 if a = 1 then (if b = 0 then (if c = 0 then false else (if manOk c d e l = true then n else false)) else false)
 else if a = 2 then (if (0 ≤ b ∧ b ≤ 1000000) then (if z = true then (if setOk f = true then (if setOk g = true then (if h = 0 then ((m.length : Int) == 0) else false) else false) else false) else false) else false)
 else if a = 3 then (if (1 ≤ b ∧ b ≤ 1000000) then (if z = true then (if f = 0 then (if g = 0 then (if (0 ≤ h ∧ h ≤ 39) then decide (1 ≤ (m.length : Int) ∧ (m.length : Int) ≤ 6) else false) else false) else false) else false) else false)
 else if a = 4 then (if (0 ≤ b ∧ b ≤ 1000000) then (if z = true then n else false) else false)
 else false
def bareVal (f g h : Int) (m : List Int) : Bool := if f = 0 then (if g = 0 then (if h = 0 then ((m.length : Int) == 0) else false) else false) else false
def msgOk (a b c d e : Int) (l : List S83) (f g h : Int) (m : List Int) : Bool := msgVal a b c d e l f g h m (zeroMan c d e l) (bareVal f g h m)
theorem specMsg_tail (a b c d e : Int) (l : List S83) (f g h : Int) (m : List Int) (z n : Bool) (hl : l.length ≤ 1048576) : Ev (fun k => spec_MsgOk.j0 k z n a b c d e l f g h m) (msgVal a b c d e l f g h m z n) := by
 unfold msgVal
 refine Ev.step (fun k => rfl) ?_
 refine ev_if (fun h1 => ?_) (fun h1 => ?_)
 ·rw [if_pos h1]
  refine ev_if (fun h2 => ?_) (fun h2 => ev_eq ev_some (by rw [if_neg h2]))
  rw [if_pos h2]
  refine ev_if (fun h3 => ev_eq ev_some (by rw [if_pos h3])) (fun h3 => ?_)
  rw [if_neg h3]
  refine Ev.bind (specManOk_ev c d e l hl) (ev_if (fun h4 => ev_eq ev_some (by rw [if_pos h4])) (fun h4 => ev_eq ev_some (by rw [if_neg h4])))
 rw [if_neg h1]
 refine ev_if (fun h2 => ?_) (fun h2 => ?_)
 ·rw [if_pos h2, l1In_eq]
  refine Ev.bind ev_some (ev_if (fun q => ?_) (fun q => ev_eq ev_some (by rw [if_neg (by simpa using q)])))
  have q' : 0 ≤ b ∧ b ≤ 1000000 := by simpa using q
  rw [if_pos q']
  clear q q'
  refine ev_if (fun q => ?_) (fun q => ev_eq ev_some (by rw [if_neg q]))
  rw [if_pos q, specSetOk_eq]
  refine Ev.bind ev_some (ev_if (fun q => ?_) (fun q => ev_eq ev_some (by rw [if_neg q])))
  rw [if_pos q, specSetOk_eq]
  refine Ev.bind ev_some (ev_if (fun q => ?_) (fun q => ev_eq ev_some (by rw [if_neg q])))
  rw [if_pos q]
  refine ev_if (fun q => ev_eq ev_some (by rw [if_pos q])) (fun q => ev_eq ev_some (by rw [if_neg q]))
 rw [if_neg h2]
 refine ev_if (fun h3 => ?_) (fun h3 => ?_)
 ·rw [if_pos h3, l1In_eq]
  refine Ev.bind ev_some (ev_if (fun q => ?_) (fun q => ev_eq ev_some (by rw [if_neg (by simpa using q)])))
  have q' : 1 ≤ b ∧ b ≤ 1000000 := by simpa using q
  rw [if_pos q']
  clear q q'
  refine ev_if (fun q => ?_) (fun q => ev_eq ev_some (by rw [if_neg q]))
  rw [if_pos q]
  refine ev_if (fun q => ?_) (fun q => ev_eq ev_some (by rw [if_neg q]))
  rw [if_pos q]
  refine ev_if (fun q => ?_) (fun q => ev_eq ev_some (by rw [if_neg q]))
  rw [if_pos q, l1In_eq]
  refine Ev.bind ev_some (ev_if (fun q => ?_) (fun q => ev_eq ev_some (by rw [if_neg (by simpa using q)])))
  have q' : 0 ≤ h ∧ h ≤ 39 := by simpa using q
  rw [if_pos q', l1In_eq]
  exact Ev.bind ev_some ev_some
 rw [if_neg h3]
 refine ev_if (fun h4 => ?_) (fun h4 => ev_eq ev_some (by rw [if_neg h4]))
 rw [if_pos h4, l1In_eq]
 refine Ev.bind ev_some (ev_if (fun q => ?_) (fun q => ev_eq ev_some (by rw [if_neg (by simpa using q)])))
 have q' : 0 ≤ b ∧ b ≤ 1000000 := by simpa using q
 rw [if_pos q']
 exact ev_if (fun q => ev_eq ev_some (by rw [if_pos q])) (fun q => ev_eq ev_some (by rw [if_neg q]))
theorem specMsgOk_ev (a b c d e : Int) (l : List S83) (f g h : Int) (m : List Int) (hl : l.length ≤ 1048576) : Ev (fun k => spec_MsgOk.f k a b c d e l f g h m) (msgOk a b c d e l f g h m) := by
 unfold spec_MsgOk.f msgOk bareVal
 refine Ev.bind (specSameMan_ev c d e l 0 0 0 [] hl) ?_
 rw [sameMan_zero]
 refine ev_if (fun h1 => ?_) (fun h1 => ?_)
 ·rw [if_pos h1]
  refine ev_if (fun h2 => ?_) (fun h2 => ?_)
  ·rw [if_pos h2]
   refine ev_if (fun h3 => ?_) (fun h3 => ?_)
   ·rw [if_pos h3]; exact specMsg_tail _ _ _ _ _ _ _ _ _ _ _ _ hl
   ·rw [if_neg h3]; exact specMsg_tail _ _ _ _ _ _ _ _ _ _ _ _ hl
  ·rw [if_neg h2]; exact specMsg_tail _ _ _ _ _ _ _ _ _ _ _ _ hl
 ·rw [if_neg h1]; exact specMsg_tail _ _ _ _ _ _ _ _ _ _ _ _ hl
theorem isZeroMan_eq (c d e : Int) (l : List S83) : impl_isZeroMan.f c d e l = some (zeroMan c d e l) := by
 unfold impl_isZeroMan.f zeroMan
 by_cases h1 : c = 0
 ·by_cases h2 : d = 0
  ·by_cases h3 : e = 0
   ·rw [if_pos h1, if_pos h2, if_pos h3]
    congr 1
    rw [Bool.eq_iff_iff]
    simp [h1, h2, h3]
   ·simp [h1, h2, h3]
  ·simp [h1, h2]
 ·simp [h1]
def partVal (h : Int) (m : List Int) : Bool := if h = 0 then ((m.length : Int) == 0) else false
theorem isBare_eq (a b c d e : Int) (l : List S83) (f g h : Int) (m : List Int) (x y z : Bool) : impl_Msg_isBare.f a b c d e l f g h m x y z = some ((x || zeroMan c d e l) && ((y || (decide (f = 0) && decide (g = 0))) && (z || partVal h m))) := by
 unfold impl_Msg_isBare.f partVal
 rw [isZeroMan_eq]
 simp only [Option.bind_some]
 cases x <;> cases y <;> cases z <;> cases zeroMan c d e l <;> by_cases h1 : f = 0 <;> by_cases h2 : g = 0 <;> by_cases h3 : h = 0 <;> simp [h1, h2, h3]
theorem bareVal_eq (f g h : Int) (m : List Int) : bareVal f g h m = ((decide (f = 0) && decide (g = 0)) && partVal h m) := by
 unfold bareVal partVal
 by_cases h1 : f = 0 <;> by_cases h2 : g = 0 <;> by_cases h3 : h = 0 <;> simp [h1, h2, h3]
theorem isGen_eq (b : Int) : impl_isGen.f b = some (decide (0 ≤ b ∧ b ≤ 1000000)) := by
 unfold impl_isGen.f
 rw [within_eq]
 rfl
theorem isPlace_eq (b : Int) : impl_isPlace.f b = some (decide (0 ≤ b ∧ b ≤ 39)) := by
 unfold impl_isPlace.f
 rw [within_eq]
 rfl
theorem implMsgOk_ev (a b c d e : Int) (l : List S83) (f g h : Int) (m : List Int) (hl : l.length ≤ 1048576) : Ev (fun k => impl_MsgOk.f k a b c d e l f g h m) (msgOk a b c d e l f g h m) := by
 unfold impl_MsgOk.f msgOk msgVal
 refine ev_if (fun h1 => ?_) (fun h1 => ?_)
 ·rw [if_pos h1]
  refine Ev.bind (implManOk_ev c d e l hl) (ev_if (fun q => ?_) (fun q => ev_eq ev_some ?_))
  ·refine ev_if (fun h3 => ev_eq ev_some (by rw [if_pos h3]; split <;> rfl)) (fun h3 => ?_)
   rw [if_neg h3]
   refine ev_if (fun h4 => ?_) (fun h4 => ev_eq ev_some (by rw [if_neg h4]))
   rw [if_pos h4, if_pos q, isBare_eq, bareVal_eq]
   exact Ev.bind ev_some ev_some
  ·rw [if_neg q]
   repeat' split
   all_goals rfl
 rw [if_neg h1]
 refine ev_if (fun h2 => ?_) (fun h2 => ?_)
 ·rw [if_pos h2, isGen_eq]
  refine Ev.bind ev_some (ev_if (fun q => ?_) (fun q => ev_eq ev_some (by rw [if_neg (by simpa using q)])))
  have q' : 0 ≤ b ∧ b ≤ 1000000 := by simpa using q
  rw [if_pos q', implSetOk_eq]
  refine Ev.bind ev_some (ev_if (fun q1 => ?_) (fun q1 => ev_eq ev_some (by rw [if_neg q1]; split <;> rfl)))
  rw [if_pos q1, implSetOk_eq]
  refine Ev.bind ev_some (ev_if (fun q2 => ?_) (fun q2 => ev_eq ev_some (by rw [if_neg q2]; split <;> rfl)))
  rw [if_pos q2, isBare_eq]
  refine Ev.bind ev_some (ev_eq ev_some ?_)
  unfold partVal
  cases zeroMan c d e l <;> simp
 rw [if_neg h2]
 refine ev_if (fun h3 => ?_) (fun h3 => ?_)
 ·rw [if_pos h3, within_eq]
  refine Ev.bind ev_some (ev_if (fun q => ?_) (fun q => ev_eq ev_some (by rw [if_neg (by simpa using q)])))
  have q' : 1 ≤ b ∧ b ≤ 1000000 := by simpa using q
  rw [if_pos q', isPlace_eq]
  refine Ev.bind ev_some (ev_if (fun q1 => ?_) (fun q1 => ev_eq ev_some ?_))
  ·have q1' : 0 ≤ h ∧ h ≤ 39 := by simpa using q1
   rw [if_pos q1', within_eq]
   refine Ev.bind ev_some (ev_if (fun q2 => ?_) (fun q2 => ev_eq ev_some ?_))
   ·rw [isBare_eq, q2]
    refine Ev.bind ev_some (ev_eq ev_some ?_)
    cases zeroMan c d e l <;> by_cases hf : f = 0 <;> by_cases hg : g = 0 <;> simp [hf, hg]
   ·rw [Bool.not_eq_true] at q2
    rw [q2]
    repeat' split
    all_goals rfl
  ·have q1' : ¬ (0 ≤ h ∧ h ≤ 39) := by simpa using q1
   rw [if_neg q1']
   repeat' split
   all_goals rfl
 rw [if_neg h3]
 refine ev_if (fun h4 => ?_) (fun h4 => ev_eq ev_some (by rw [if_neg h4]))
 rw [if_pos h4, isGen_eq]
 refine Ev.bind ev_some (ev_if (fun q => ?_) (fun q => ev_eq ev_some (by rw [if_neg (by simpa using q)])))
 have q' : 0 ≤ b ∧ b ≤ 1000000 := by simpa using q
 rw [if_pos q', isBare_eq, bareVal_eq]
 refine Ev.bind ev_some (ev_eq ev_some ?_)
 cases zeroMan c d e l <;> simp
end Go.Proofs.Ytanpaipapcjpoaa.Pb
/- Writing a manifest and a message: the program's and the reference's ways. No condition beyond the bytes' range and the size that the laws ask. -/
namespace Go.Proofs.Ytanpaipapcjpoaa.Pb
open Go.RowKit Go.Proofs.Ytanpaipapcjpoaa Go.Proofs.Ytanpaipapcjpoaa.Q Go.Proofs.YtanpaipapcjpoaaW.PrintWords Go.Proofs.YtanpaipapcjpoaaW.PrintLast Go.Proofs.YtanpaipapcjpoaaW.PrintMore
set_option linter.unusedVariables false
set_option linter.unusedSimpArgs false
theorem vb_bytes (m : Nat) : ∀ x : Int, 0 ≤ x → x < 128 ^ (m + 1) → Bytes (vb m x) := by
 induction m with
 | zero =>
  intro x h0 h1 y hy
  simp only [Nat.zero_add, Int.pow_one] at h1
  rw [vb, List.mem_singleton] at hy
  omega
 | succ m ih =>
  intro x h0 h1 y hy
  rw [vb] at hy
  split at hy
  ·rw [List.mem_singleton] at hy
   omega
  ·rw [List.mem_cons] at hy
   rcases hy with rfl | hy
   ·omega
   ·exact ih (x / 128) (by omega) (by rw [Int.pow_succ] at h1; generalize (128 : Int) ^ (m + 1) = p at h1 ⊢; omega) y hy
theorem encVar_bytes (x : Int) (h0 : 0 ≤ x) (h1 : x ≤ 9223372036854775807) : Bytes (encVar x) := vb_bytes 8 x h0 (by rw [p128_9]; omega)
theorem pbytes_append {a b : List Int} (ha : Bytes a) (hb : Bytes b) : Bytes (a ++ b) := by
 intro x hx
 rw [List.mem_append] at hx
 exact hx.elim (ha x) (hb x)
theorem pbytes_nil : Bytes [] := by intro x hx; cases hx
theorem putVar_bytes {l : List Int} (h : Bytes l) (x : Int) : Bytes (putVar l x) := by
 unfold putVar
 split
 ·exact pbytes_append h (encVar_bytes x (by omega) (by omega))
 ·exact h
theorem manOk_sums {a b c : Int} {l : List S83} (h : manOk a b c l = true) : l.length ≤ 40 ∧ ∀ i, i < l.length → 1 ≤ (l.getD i z83).f1 ∧ (l.getD i z83).f1 ≤ 562949953421311 := by
 unfold manOk at h
 split at h
 ·simp only [decide_eq_true_eq] at h
  exact ⟨by omega, fun i hi => by omega⟩
 ·split at h
  ·rename_i q
   have hb := blocks_range b c
   refine ⟨by omega, fun i hi => ?_⟩
   have hi' := List.all_eq_true.1 h i (List.mem_range.2 hi)
   simp only [blockOk, Bool.and_eq_true] at hi'
   have ho := hi'.1
   unfold bytesOf at ho
   split at ho
   ·rename_i w
    refine ⟨w.1, ?_⟩
    have hc := cnt_le (l.getD i z83).f1
    have hp := p256_le (cnt (l.getD i z83).f1) hc
    have h2 := w.2
    have h3 : (l.getD i z83).f1 < 2 * 256 ^ (cnt (l.getD i z83).f1) := by
     have e := Int.lt_ediv_add_one_mul_self (l.getD i z83).f1 (b := 256 ^ (cnt (l.getD i z83).f1)) (by omega)
     rw [h2] at e
     omega
    omega
   ·cases ho
  ·cases h
def putSums (s : List Int) (l : List S83) : List Int := iter l.length (fun i (s : List Int) => s ++ encVar (l.getD i z83).f1) s
def putMan (s : List Int) (a b c : Int) (l : List S83) : List Int := if manOk a b c l = true then putSums (putVar (putVar (putVar s a) b) c) l else s
theorem putSums_inv (s : List Int) (l : List S83) (P : Bytes s) (hs : ∀ i, i < l.length → 1 ≤ (l.getD i z83).f1 ∧ (l.getD i z83).f1 ≤ 562949953421311) : ∀ n, n ≤ l.length → (iter n (fun i (s : List Int) => s ++ encVar (l.getD i z83).f1) s).length ≤ s.length + 9 * n ∧ Bytes (iter n (fun i (s : List Int) => s ++ encVar (l.getD i z83).f1) s) := by
 intro n
 induction n with
 | zero => intro _; exact ⟨by simp [iter_zero], P⟩
 | succ n ih =>
  intro hn
  have h := ih (by omega)
  rw [iter_succ]
  have e := encVar_length (l.getD n z83).f1
  have q := hs n (by omega)
  exact ⟨by rw [List.length_append]; omega, pbytes_append h.2 (encVar_bytes _ (by omega) (by omega))⟩
theorem putMan_inv (s : List Int) (a b c : Int) (l : List S83) (P : Bytes s) : (putMan s a b c l).length ≤ s.length + 400 ∧ Bytes (putMan s a b c l) := by
 unfold putMan putSums
 split
 ·rename_i h
  have q := manOk_sums h
  have r := putSums_inv _ l (putVar_bytes (putVar_bytes (putVar_bytes P a) b) c) q.2 l.length (Nat.le_refl _)
  have e1 := putVar_length s a
  have e2 := putVar_length (putVar s a) b
  have e3 := putVar_length (putVar (putVar s a) b) c
  exact ⟨by omega, r.2⟩
 ·exact ⟨by omega, P⟩
theorem specPutMan_ev (s : List Int) (a b c : Int) (l : List S83) (hs : s.length ≤ 10000000) (hl : l.length ≤ 1048576) : Ev (fun k => spec_PutMan.f k s a b c l) (putMan s a b c l) := by
 unfold spec_PutMan.f putMan putSums
 simp only [Option.bind_some]
 refine ev_pos (by simp; omega) ?_
 rw [List.nil_append]
 refine Ev.bind (specManOk_ev a b c l hl) (ev_if (fun h => ?_) (fun h => ev_eq ev_some (by rw [if_neg h])))
 rw [if_pos h]
 have q := manOk_sums h
 have e1 := putVar_length s a
 have e2 := putVar_length (putVar s a) b
 have e3 := putVar_length (putVar (putVar s a) b) c
 refine Ev.bind (specPutVar_ev _ _ (by omega)) (Ev.bind (specPutVar_ev _ _ (by omega)) (Ev.bind (specPutVar_ev _ _ (by omega)) ?_))
 refine loop_up (fun k s i => spec_PutMan.l0 k s i a b c l) l.length (fun i (s : List Int) => s ++ encVar (l.getD i z83).f1) (fun i t => t.length ≤ 20000000 + 9 * i) _ _ (by omega) ?_ ?_ ?_
 ·intro i t hi ht
  have e := encVar_length (l.getD i z83).f1
  rw [List.length_append]
  omega
 ·intro i t r hi ht h
  have w := q.2 i hi
  refine Ev.step (fun k => rfl) ?_
  refine ev_pos (by omega) (ev_pos (by omega) ?_)
  simp only [rd_T83, Int.toNat_natCast]
  refine Ev.bind (specPutSum_ev _ _ (by omega) (by omega) (by omega)) ?_
  rw [w64 (x := (i : Int) + 1) (by omega) (by omega)]
  exact h
 ·intro ht
  refine Ev.step (fun k => rfl) ?_
  exact ev_neg (by omega) ev_some
theorem cloned_eq (l : List Int) (h : l.length ≤ 100000000000) : impl_cloned.f l = some l := by
 unfold impl_cloned.f
 rw [if_pos (by omega)]
theorem implPutMan_ev (s : List Int) (a b c : Int) (l : List S83) (hs : s.length ≤ 10000000) (hl : l.length ≤ 1048576) : Ev (fun k => impl_PutMan.f k s a b c l) (putMan s a b c l) := by
 unfold impl_PutMan.f putMan putSums
 refine Ev.bind (implManOk_ev a b c l hl) (ev_if (fun h => ?_) (fun h => ?_))
 ·rw [if_pos h]
  have q := manOk_sums h
  have e1 := putVar_length s a
  have e2 := putVar_length (putVar s a) b
  have e3 := putVar_length (putVar (putVar s a) b) c
  refine Ev.bind (implPutVar_ev _ _ (by omega)) (Ev.bind (implPutVar_ev _ _ (by omega)) (Ev.bind (implPutVar_ev _ _ (by omega)) ?_))
  refine loop_up (fun k s i => impl_PutMan.l0 k s l (l.length : Int) i) l.length (fun i (s : List Int) => s ++ encVar (l.getD i z83).f1) (fun i t => t.length ≤ 20000000 + 9 * i) _ _ (by omega) ?_ ?_ ?_
  ·intro i t hi ht
   have e := encVar_length (l.getD i z83).f1
   rw [List.length_append]
   omega
  ·intro i t r hi ht h
   have w := q.2 i hi
   refine Ev.step (fun k => rfl) ?_
   refine ev_pos (by omega) (ev_pos (by omega) (ev_pos (by omega) ?_))
   simp only [rd_T83, Int.toNat_natCast]
   refine Ev.bind (implAppendVar_ev _ _ (by omega) (by omega) (by omega)) ?_
   rw [w64 (x := (i : Int) + 1) (by omega) (by omega)]
   exact h
  ·intro ht
   refine Ev.step (fun k => rfl) ?_
   exact ev_neg (by omega) ev_some
 ·rw [if_neg h, cloned_eq s (by omega)]
  exact Ev.bind ev_some ev_some
def half0 (x : Int) : Int := Go.bits .and .i64 x 1048575
def msgBody (a b c d e : Int) (l : List S83) (f g h : Int) (m : List Int) : List Int :=
 if a = 1 then putMan (putVar [] a) c d e l
 else if a = 2 then putVar (putVar (putVar (putVar (putVar (putVar [] a) b) (half0 f)) (f / 1048576)) (half0 g)) (g / 1048576)
 else if a = 3 then putVar (putVar (putVar (putVar [] a) b) h) m.length ++ m
 else putVar (putVar [] a) b
def putMsg (a b c d e : Int) (l : List S83) (f g h : Int) (m : List Int) : List Int := if msgOk a b c d e l f g h m = true then putVar (msgBody a b c d e l f g h m) (weakOf (msgBody a b c d e l f g h m)) else []
theorem msgBody_inv (a b c d e : Int) (l : List S83) (f g h : Int) (m : List Int) (P : Bytes m) : (msgBody a b c d e l f g h m).length ≤ m.length + 500 ∧ Bytes (msgBody a b c d e l f g h m) := by
 have k0 : (putVar [] a).length ≤ 9 := by have := putVar_length [] a; simpa using this
 have b0 : Bytes (putVar [] a) := putVar_bytes pbytes_nil a
 unfold msgBody
 split
 ·have r := putMan_inv (putVar [] a) c d e l b0
  exact ⟨by omega, r.2⟩
 ·split
  ·have k1 := putVar_length (putVar [] a) b
   have k2 := putVar_length (putVar (putVar [] a) b) (half0 f)
   have k3 := putVar_length (putVar (putVar (putVar [] a) b) (half0 f)) (f / 1048576)
   have k4 := putVar_length (putVar (putVar (putVar (putVar [] a) b) (half0 f)) (f / 1048576)) (half0 g)
   have k5 := putVar_length (putVar (putVar (putVar (putVar (putVar [] a) b) (half0 f)) (f / 1048576)) (half0 g)) (g / 1048576)
   exact ⟨by omega, putVar_bytes (putVar_bytes (putVar_bytes (putVar_bytes (putVar_bytes b0 _) _) _) _) _⟩
  ·split
   ·have k1 := putVar_length (putVar [] a) b
    have k2 := putVar_length (putVar (putVar [] a) b) h
    have k3 := putVar_length (putVar (putVar (putVar [] a) b) h) m.length
    refine ⟨by rw [List.length_append]; omega, pbytes_append (putVar_bytes (putVar_bytes (putVar_bytes b0 _) _) _) P⟩
   ·have k1 := putVar_length (putVar [] a) b
    exact ⟨by omega, putVar_bytes b0 _⟩
theorem putMsg_inv (a b c d e : Int) (l : List S83) (f g h : Int) (m : List Int) (P : Bytes m) : (putMsg a b c d e l f g h m).length ≤ m.length + 509 ∧ Bytes (putMsg a b c d e l f g h m) := by
 have q := msgBody_inv a b c d e l f g h m P
 unfold putMsg
 split
 ·have k1 := putVar_length (msgBody a b c d e l f g h m) (weakOf (msgBody a b c d e l f g h m))
  exact ⟨by omega, putVar_bytes q.2 _⟩
 ·exact ⟨by simp, pbytes_nil⟩
theorem msgOk_len {a b c d e : Int} {l : List S83} {f g h : Int} {m : List Int} (ok : msgOk a b c d e l f g h m = true) : m.length ≤ 6 := by
 have bare : bareVal f g h m = true → m.length ≤ 6 := by
  intro k
  unfold bareVal at k
  split at k
  ·split at k
   ·split at k
    ·have := of_decide_eq_true (p := (m.length : Int) = 0) (by simpa using k)
     omega
    ·cases k
   ·cases k
  ·cases k
 unfold msgOk msgVal at ok
 split at ok
 ·split at ok
  ·split at ok
   ·cases ok
   ·split at ok
    ·exact bare ok
    ·cases ok
  ·cases ok
 ·split at ok
  ·repeat' (split at ok)
   all_goals (first | (cases ok; done) | (have := of_decide_eq_true (p := (m.length : Int) = 0) (by simpa using ok); omega))
  ·split at ok
   ·repeat' (split at ok)
    all_goals (first | (cases ok; done) | (have := of_decide_eq_true ok; omega))
   ·split at ok
    ·repeat' (split at ok)
     all_goals (first | (cases ok; done) | exact bare ok)
    ·cases ok
theorem specPutMsg_ev (a b c d e : Int) (l : List S83) (f g h : Int) (m : List Int) (P : Bytes m) (hl : l.length ≤ 1048576) (hm : m.length ≤ 1048576) : Ev (fun k => spec_PutMsg.f k a b c d e l f g h m) (putMsg a b c d e l f g h m) := by
 unfold spec_PutMsg.f putMsg
 refine Ev.bind (specMsgOk_ev a b c d e l f g h m hl) (ev_if (fun ok => ?_) (fun ok => ev_eq ev_some (by rw [if_neg ok])))
 have hm := (show m.length ≤ 1000000 by have := msgOk_len ok; omega)
 rw [if_pos ok]
 have k0 : (putVar [] a).length ≤ 9 := by have := putVar_length [] a; simpa using this
 have b0 : Bytes (putVar [] a) := putVar_bytes pbytes_nil a
 refine Ev.bind (specPutVar_ev [] a (by simp)) ?_
 have inv := msgBody_inv a b c d e l f g h m P
 have fin : ∀ t, t = msgBody a b c d e l f g h m → Ev (fun k => (spec_WeakOf.f k t).bind fun w => (spec_PutVar.f k t w).bind fun z => some z) (putVar (msgBody a b c d e l f g h m) (weakOf (msgBody a b c d e l f g h m))) := by
  rintro t rfl
  exact Ev.bind (specWeakOf_ev _ (by omega) inv.2) (Ev.bind (specPutVar_ev _ _ (by omega)) ev_some)
 refine ev_if (fun h1 => ?_) (fun h1 => ?_)
 ·have r := putMan_inv (putVar [] a) c d e l b0
  exact Ev.bind (specPutMan_ev _ _ _ _ _ (by omega) hl) (fin _ (by unfold msgBody; rw [if_pos h1]))
 refine ev_if (fun h2 => ?_) (fun h2 => ?_)
 ·have k1 := putVar_length (putVar [] a) b
  have k2 := putVar_length (putVar (putVar [] a) b) (half0 f)
  have k3 := putVar_length (putVar (putVar (putVar [] a) b) (half0 f)) (f / 1048576)
  have k4 := putVar_length (putVar (putVar (putVar (putVar [] a) b) (half0 f)) (f / 1048576)) (half0 g)
  refine ev_then rfl (Ev.bind (specPutVar_ev _ _ (by omega)) (Ev.bind (specPutVar_ev _ (half0 f) (by omega)) (Ev.bind (specPutVar_ev _ (f / 1048576) (by omega)) ?_)))
  refine ev_then rfl (Ev.bind (specPutVar_ev _ (half0 g) (by omega)) (Ev.bind (specPutVar_ev _ (g / 1048576) (by omega)) ?_))
  exact fin _ (by unfold msgBody; rw [if_neg h1, if_pos h2])
 refine ev_if (fun h3 => ?_) (fun h3 => ?_)
 ·have k1 := putVar_length (putVar [] a) b
  have k2 := putVar_length (putVar (putVar [] a) b) h
  have k3 := putVar_length (putVar (putVar (putVar [] a) b) h) m.length
  refine Ev.bind (specPutVar_ev _ _ (by omega)) (Ev.bind (specPutVar_ev _ _ (by omega)) ?_)
  have hp : Ev (fun k => spec_PutPart.f k (putVar (putVar (putVar [] a) b) h) m) (putVar (putVar (putVar (putVar [] a) b) h) m.length ++ m) := by
   unfold spec_PutPart.f
   exact Ev.bind (specPutVar_ev _ _ (by omega)) (ev_pos (by omega) ev_some)
  exact Ev.bind hp (fin _ (by unfold msgBody; rw [if_neg h1, if_neg h2, if_pos h3]))
 ·exact Ev.bind (specPutVar_ev _ _ (by omega)) (fin _ (by unfold msgBody; rw [if_neg h1, if_neg h2, if_neg h3]))
theorem implPutSet_ev (s : List Int) (x : Int) (hs : s.length ≤ 10000000) : Ev (fun k => impl_putSet.f k s x) (putVar (putVar s (half0 x)) (x / 1048576)) := by
 unfold impl_putSet.f
 have k1 := putVar_length s (half0 x)
 exact Ev.bind (implPutVar_ev _ (half0 x) (by omega)) (Ev.bind (implPutVar_ev _ _ (by omega)) ev_some)
theorem implPutMsg_ev (a b c d e : Int) (l : List S83) (f g h : Int) (m : List Int) (P : Bytes m) (hl : l.length ≤ 1048576) (hm : m.length ≤ 1048576) : Ev (fun k => impl_PutMsg.f k a b c d e l f g h m) (putMsg a b c d e l f g h m) := by
 unfold impl_PutMsg.f putMsg
 refine Ev.bind (implMsgOk_ev a b c d e l f g h m hl) (ev_if (fun ok => ?_) (fun ok => ev_eq ev_some (by rw [if_neg ok])))
 have hm := (show m.length ≤ 1000000 by have := msgOk_len ok; omega)
 rw [if_pos ok]
 have k0 : (putVar [] a).length ≤ 9 := by have := putVar_length [] a; simpa using this
 have b0 : Bytes (putVar [] a) := putVar_bytes pbytes_nil a
 refine Ev.bind (implPutVar_ev [] a (by simp)) ?_
 have inv := msgBody_inv a b c d e l f g h m P
 have fin : ∀ t, t = msgBody a b c d e l f g h m → Ev (fun k => (impl_WeakOf.f k t).bind fun w => (impl_PutVar.f k t w).bind fun z => some z) (putVar (msgBody a b c d e l f g h m) (weakOf (msgBody a b c d e l f g h m))) := by
  rintro t rfl
  exact Ev.bind (implWeakOf_ev _ (by omega) inv.2) (Ev.bind (implPutVar_ev _ _ (by omega)) ev_some)
 refine ev_if (fun h1 => ?_) (fun h1 => ?_)
 ·have r := putMan_inv (putVar [] a) c d e l b0
  exact Ev.bind (implPutMan_ev _ _ _ _ _ (by omega) hl) (fin _ (by unfold msgBody; rw [if_pos h1]))
 refine ev_if (fun h2 => ?_) (fun h2 => ?_)
 ·have k1 := putVar_length (putVar [] a) b
  have k2 := putVar_length (putVar (putVar [] a) b) (half0 f)
  have k3 := putVar_length (putVar (putVar (putVar [] a) b) (half0 f)) (f / 1048576)
  refine Ev.bind (implPutVar_ev _ _ (by omega)) (Ev.bind (implPutSet_ev _ _ (by omega)) (Ev.bind (implPutSet_ev _ _ (by omega)) ?_))
  exact fin _ (by unfold msgBody; rw [if_neg h1, if_pos h2])
 refine ev_if (fun h3 => ?_) (fun h3 => ?_)
 ·have k1 := putVar_length (putVar [] a) b
  have k2 := putVar_length (putVar (putVar [] a) b) h
  have k3 := putVar_length (putVar (putVar (putVar [] a) b) h) m.length
  refine Ev.bind (implPutVar_ev _ _ (by omega)) (Ev.bind (implPutVar_ev _ _ (by omega)) ?_)
  have hp : Ev (fun k => impl_PutPart.f k (putVar (putVar (putVar [] a) b) h) m) (putVar (putVar (putVar (putVar [] a) b) h) m.length ++ m) := by
   unfold impl_PutPart.f
   exact Ev.bind (implPutVar_ev _ _ (by omega)) (ev_pos (by omega) ev_some)
  exact Ev.bind hp (fin _ (by unfold msgBody; rw [if_neg h1, if_neg h2, if_pos h3]))
 refine ev_if (fun h4 => ?_) (fun h4 => ?_)
 ·exact Ev.bind (implPutVar_ev _ _ (by omega)) (fin _ (by unfold msgBody; rw [if_neg h1, if_neg h2, if_neg h3]))
 ·unfold msgOk msgVal at ok
  rw [if_neg h1, if_neg h2, if_neg h3, if_neg h4] at ok
  cases ok
end Go.Proofs.Ytanpaipapcjpoaa.Pb
/- The reference's draws of messages and of their bytes. No condition beyond the length that the laws ask. -/
namespace Go.Proofs.Ytanpaipapcjpoaa.Pb
open Go.RowKit Go.Proofs.Ytanpaipapcjpoaa Go.Proofs.Ytanpaipapcjpoaa.Q Go.Proofs.YtanpaipapcjpoaaW.PrintWords Go.Proofs.YtanpaipapcjpoaaW.PrintLast Go.Proofs.YtanpaipapcjpoaaW.PrintMore
set_option linter.unusedVariables false
set_option linter.unusedSimpArgs false
theorem l5Set_ok {b : List Int} {i : Int} (h : Int) (hd : Dr b i) : ∃ x i' h', spec_l5Set.f b i h = some (x, i', h') ∧ Dr b i' := by
 unfold spec_l5Set.f
 obtain ⟨x, i1, h1, e1, hd1⟩ := l1Once_ok h 3 hd
 rw [e1]
 simp only [Option.bind_some]
 cases x with
 | true =>
  rw [if_pos rfl]
  obtain ⟨y, i2, h2, e2, hd2, _⟩ := l1Int_ok h1 [0, 1, 3, 1099511627775, 549755813888] hd1 (by decide)
  rw [e2]
  exact ⟨_, _, _, rfl, hd2⟩
 | false =>
  rw [if_neg Bool.false_ne_true]
  obtain ⟨y, i2, h2, e2, hd2, y0, _⟩ := l1Below_ok h1 65536 hd1
  obtain ⟨z, i3, h3, e3, hd3, z0, _⟩ := l1Below_ok h2 20 hd2
  rw [e2]
  simp only [Option.bind_some]
  rw [e3]
  simp only [Option.bind_some]
  rw [if_pos z0]
  exact ⟨_, _, _, rfl, hd3⟩
theorem l12Draw_ok {b : List Int} {i : Int} (h : Int) (hd : Dr b i) : ∃ a a1 c d e l f g q m i' h', Ev (fun k => spec_l12Draw.f k b i h) (a, a1, c, d, e, l, f, g, q, m, i', h') ∧ Dr b i' ∧ l.length ≤ 40 ∧ Bytes m ∧ m.length ≤ 10 := by
 unfold spec_l12Draw.f
 obtain ⟨x, i1, h1, e1, hd1, x0, _⟩ := l1Below_ok h 4 hd
 by_cases c0 : x = 0
 ·obtain ⟨g, s, c, r, l, i2, h2, e2, hd2, _, _, hr⟩ := l6Draw_ok h1 hd1
  exact ⟨_, _, _, _, _, _, _, _, _, _, _, _, ev_then e1 (ev_pos c0 (Ev.bind e2 ev_some)), hd2, hr, pbytes_nil, by simp⟩
 by_cases c1 : x = 1
 ·obtain ⟨s, i2, h2, e2, hd2⟩ := l5Set_ok h1 hd1
  obtain ⟨y, i3, h3, e3, hd3, _⟩ := l1Below_ok h2 3 hd2
  obtain ⟨z, i4, h4, e4, hd4, _⟩ := l1Below_ok h3 64 hd3
  exact ⟨_, _, _, _, _, _, _, _, _, _, _, _, ev_then e1 (ev_neg c0 (ev_pos c1 (ev_then e2 (ev_then e3 (ev_then e4 (ev_then rfl ev_some)))))), hd4, by simp, pbytes_nil, by simp⟩
 by_cases c2 : x = 2
 ·obtain ⟨l, i2, h2, e2, hd2, hb2, hl2⟩ := l3Bytes_ok h1 5 hd1 (by omega)
  obtain ⟨y, i3, h3, e3, hd3, _⟩ := l1Below_ok h2 3 hd2
  obtain ⟨z, i4, h4, e4, hd4, _⟩ := l1Below_ok h3 9 hd3
  have hp : spec_PartMsg.f (wrap64 (1 + y)) z ([112] ++ l) = some (3, wrap64 (1 + y), 0, 0, 0, [], 0, 0, z, [112] ++ l) := by
   unfold spec_PartMsg.f
   simp only [Option.bind_some, List.nil_append]
   exact if_pos (by simp; omega)
  have hb : Bytes ([112] ++ l) := pbytes_append (fun x hx => by rw [List.mem_singleton] at hx; omega) hb2
  exact ⟨_, _, _, _, _, _, _, _, _, _, _, _, ev_then e1 (ev_neg c0 (ev_neg c1 (ev_pos c2 (ev_then rfl (Ev.bind e2 (ev_pos (by simp; omega) (ev_then e3 (ev_then e4 (ev_then hp ev_some))))))))), hd4, by simp, hb, by simp; omega⟩
 ·obtain ⟨y, i2, h2, e2, hd2, _⟩ := l1Below_ok h1 3 hd1
  exact ⟨_, _, _, _, _, _, _, _, _, _, _, _, ev_then e1 (ev_neg c0 (ev_neg c1 (ev_neg c2 (ev_then e2 ev_some)))), hd2, by simp, pbytes_nil, by simp⟩
theorem drawGetMsg_ok (code : List Int) (hc : code.length ≤ 1048576) : ∃ l, Ev (fun k => spec_DrawGetMsg.f k code) l ∧ Bytes l ∧ l.length ≤ 1000 := by
 obtain ⟨h0, e0⟩ := l1New_ev code hc
 obtain ⟨a, a1, c, d, e, l, f, g, q, m, i, h, e1, hd, hl, hb, hm⟩ := l12Draw_ok h0 (show Dr code 0 from ⟨hc, by omega, by omega⟩)
 have inv := putMsg_inv a a1 c d e l f g q m hb
 obtain ⟨l', i2, h2, e2, hd2, hb2, hl2⟩ := l1Bent_ok h (putMsg a a1 c d e l f g q m) hd inv.2 (by omega)
 unfold spec_DrawGetMsg.f
 exact ⟨l', Ev.bind e0 (Ev.bind e1 (Ev.bind (specPutMsg_ev a a1 c d e l f g q m hb (by omega) (by omega)) (ev_then e2 ev_some))), hb2, by omega⟩
end Go.Proofs.Ytanpaipapcjpoaa.Pb
/- Reading a number out of bytes of seven bits, in plain lists: what is read is what would be written. No condition. -/
namespace Go.Proofs.Ytanpaipapcjpoaa.Pb
open Go.RowKit Go.Proofs.Ytanpaipapcjpoaa Go.Proofs.Ytanpaipapcjpoaa.Q Go.Proofs.YtanpaipapcjpoaaW.PrintWords Go.Proofs.YtanpaipapcjpoaaW.PrintLast Go.Proofs.YtanpaipapcjpoaaW.PrintMore
set_option linter.unusedVariables false
set_option linter.unusedSimpArgs false
def decT : Nat → List Int → Option (Int × Nat)
 | 0, _ => none
 | _ + 1, [] => none
 | m + 1, x :: t => if x < 128 then (if x = 0 then none else some (x, 1)) else (decT m t).map (fun p => (x % 128 + 128 * p.1, p.2 + 1))
def dec : Nat → List Int → Option (Int × Nat)
 | 0, _ => none
 | _ + 1, [] => none
 | m + 1, x :: t => if x < 128 then some (x, 1) else (decT m t).map (fun p => (x % 128 + 128 * p.1, p.2 + 1))
theorem decT_vb (m : Nat) : ∀ (l : List Int) (v : Int) (c : Nat), Bytes l → decT m l = some (v, c) → 1 ≤ v ∧ v < 128 ^ m ∧ 1 ≤ c ∧ c ≤ m ∧ c ≤ l.length ∧ ∀ M, c ≤ M + 1 → l.take c = vb M v := by
 induction m with
 | zero => intro l v c hb h; cases h
 | succ m ih =>
  intro l v c hb h
  cases l with
  | nil => cases h
  | cons x t =>
   have hx := hb x (List.mem_cons_self ..)
   rw [decT] at h
   rw [Int.pow_succ]
   by_cases q : x < 128
   ·rw [if_pos q] at h
    by_cases q0 : x = 0
    ·rw [if_pos q0] at h
     cases h
    ·rw [if_neg q0] at h
     cases h
     have hp : (1 : Int) ≤ 128 ^ m := by
      have := Int.pow_pos (n := 128) (m := m) (by decide)
      omega
     refine ⟨by omega, by generalize (128 : Int) ^ m = p at hp ⊢; omega, Nat.le_refl 1, by omega, by simp, fun M _ => ?_⟩
     cases M with
     | zero => rfl
     | succ M => rw [vb, if_pos (by omega)]; rfl
   ·rw [if_neg q] at h
    cases hd : decT m t with
    | none => rw [hd] at h; cases h
    | some p =>
     rw [hd] at h
     cases h
     obtain ⟨a1, a2, a3, a4, a5, a6⟩ := ih t p.1 p.2 (fun y hy => hb y (List.mem_cons_of_mem _ hy)) hd
     refine ⟨by omega, by generalize (128 : Int) ^ m = r at a2 ⊢; omega, by omega, by omega, by simp only [List.length_cons]; omega, fun M hM => ?_⟩
     cases M with
     | zero => omega
     | succ M =>
      rw [vb, if_neg (by omega), List.take_succ_cons, a6 M (by omega)]
      rw [show (x % 128 + 128 * p.1) % 128 + 128 = x by omega, show (x % 128 + 128 * p.1) / 128 = p.1 by omega]
theorem dec_vb (m : Nat) (l : List Int) (v : Int) (c : Nat) (hb : Bytes l) (h : dec m l = some (v, c)) : 0 ≤ v ∧ v < 128 ^ m ∧ 1 ≤ c ∧ c ≤ m ∧ c ≤ l.length ∧ ∀ M, c ≤ M + 1 → l.take c = vb M v := by
 cases m with
 | zero => cases h
 | succ m =>
  cases l with
  | nil => cases h
  | cons x t =>
   have hx := hb x (List.mem_cons_self ..)
   rw [dec] at h
   rw [Int.pow_succ]
   by_cases q : x < 128
   ·rw [if_pos q] at h
    cases h
    have hp : (1 : Int) ≤ 128 ^ m := by
     have := Int.pow_pos (n := 128) (m := m) (by decide)
     omega
    refine ⟨by omega, by generalize (128 : Int) ^ m = p at hp ⊢; omega, Nat.le_refl 1, by omega, by simp, fun M _ => ?_⟩
    cases M with
    | zero => rfl
    | succ M => rw [vb, if_pos (by omega)]; rfl
   ·rw [if_neg q] at h
    cases hd : decT m t with
    | none => rw [hd] at h; cases h
    | some p =>
     rw [hd] at h
     cases h
     obtain ⟨a1, a2, a3, a4, a5, a6⟩ := decT_vb m t p.1 p.2 (fun y hy => hb y (List.mem_cons_of_mem _ hy)) hd
     refine ⟨by omega, by generalize (128 : Int) ^ m = r at a2 ⊢; omega, by omega, by omega, by simp only [List.length_cons]; omega, fun M hM => ?_⟩
     cases M with
     | zero => omega
     | succ M =>
      rw [vb, if_neg (by omega), List.take_succ_cons, a6 M (by omega)]
      rw [show (x % 128 + 128 * p.1) % 128 + 128 = x by omega, show (x % 128 + 128 * p.1) / 128 = p.1 by omega]
theorem vb_decT (M : Nat) : ∀ (m : Nat) (x : Int) (t : List Int), 1 ≤ x → x < 128 ^ (M + 1) → (vb M x).length ≤ m → decT m (vb M x ++ t) = some (x, (vb M x).length) := by
 induction M with
 | zero =>
  intro m x t h0 h1 hm
  simp only [Nat.zero_add, Int.pow_one] at h1
  cases m with
  | zero => simp [vb] at hm
  | succ m =>
   rw [vb, List.singleton_append, decT, if_pos h1, if_neg (by omega)]
   rfl
 | succ M ih =>
  intro m x t h0 h1 hm
  cases m with
  | zero =>
   exfalso
   rw [vb] at hm
   split at hm <;> simp at hm
  | succ m =>
   rw [vb] at hm ⊢
   by_cases q : x ≤ 127
   ·rw [if_pos q, List.singleton_append, decT, if_pos (by omega), if_neg (by omega)]
    rfl
   ·rw [if_neg q] at hm ⊢
    simp only [List.length_cons] at hm
    rw [List.cons_append, decT, if_neg (by omega), ih m (x / 128) t (by omega) (by rw [Int.pow_succ] at h1; generalize (128 : Int) ^ (M + 1) = p at h1 ⊢; omega) (by omega)]
    simp only [Option.map_some, List.length_cons, Option.some.injEq, Prod.mk.injEq, and_true]
    omega
theorem vb_dec (M m : Nat) (x : Int) (t : List Int) (h0 : 0 ≤ x) (h1 : x < 128 ^ (M + 1)) (hm : (vb M x).length ≤ m) : dec m (vb M x ++ t) = some (x, (vb M x).length) := by
 cases m with
 | zero =>
  exfalso
  cases M with
  | zero => simp [vb] at hm
  | succ M =>
   rw [vb] at hm
   split at hm <;> simp at hm
 | succ m =>
  cases M with
  | zero =>
   simp only [Nat.zero_add, Int.pow_one] at h1
   rw [vb, List.singleton_append, dec, if_pos h1]
   rfl
  | succ M =>
   rw [vb] at hm ⊢
   by_cases q : x ≤ 127
   ·rw [if_pos q, List.singleton_append, dec, if_pos (by omega)]
    rfl
   ·rw [if_neg q] at hm ⊢
    simp only [List.length_cons] at hm
    rw [List.cons_append, dec, if_neg (by omega), vb_decT M m (x / 128) t (by omega) (by rw [Int.pow_succ] at h1; generalize (128 : Int) ^ (M + 1) = p at h1 ⊢; omega) (by omega)]
    simp only [Option.map_some, List.length_cons, Option.some.injEq, Prod.mk.injEq, and_true]
    omega
theorem vb_len (m : Nat) : ∀ (c : Nat) (x : Int), x < 128 ^ (c + 1) → (vb m x).length ≤ c + 1 := by
 induction m with
 | zero => intro c x h; simp [vb]
 | succ m ih =>
  intro c x h
  rw [vb]
  split
  ·simp
  ·rename_i q
   cases c with
   | zero => simp only [Nat.zero_add, Int.pow_one] at h; omega
   | succ c =>
    simp only [List.length_cons]
    have := ih c (x / 128) (by rw [Int.pow_succ] at h; generalize (128 : Int) ^ (c + 1) = p at h ⊢; omega)
    omega
theorem p128_6 : (128 : Int) ^ (5 + 1) = 4398046511104 := by decide
def getV (b : List Int) (at_ : Nat) : Option (Int × Nat) := (dec 6 (b.drop at_)).bind fun p => if p.1 ≤ 1000000000000 then some (p.1, at_ + p.2) else none
theorem getV_enc {b : List Int} {i j : Nat} {v : Int} (hb : Bytes b) (h : getV b i = some (v, j)) : 0 ≤ v ∧ v ≤ 1000000000000 ∧ i < j ∧ j ≤ b.length ∧ b.take j = b.take i ++ encVar v := by
 unfold getV at h
 cases hd : dec 6 (b.drop i) with
 | none => rw [hd] at h; cases h
 | some p =>
  rw [hd] at h
  simp only [Option.bind_some] at h
  split at h
  ·rename_i q
   cases h
   obtain ⟨a1, a2, a3, a4, a5, a6⟩ := dec_vb 6 _ p.1 p.2 (fun y hy => hb y (List.mem_of_mem_drop hy)) hd
   rw [List.length_drop] at a5
   refine ⟨a1, q, by omega, by omega, ?_⟩
   have e := a6 8 (by omega)
   unfold encVar
   rw [← e, List.take_add]
  ·cases h
theorem enc_getV (a t : List Int) (v : Int) (h0 : 0 ≤ v) (h1 : v ≤ 1000000000000) : getV (a ++ (encVar v ++ t)) a.length = some (v, a.length + (encVar v).length) := by
 unfold getV
 rw [List.drop_left]
 have hl : (encVar v).length ≤ 6 := vb_len 8 5 v (by rw [p128_6]; omega)
 unfold encVar at hl ⊢
 rw [vb_dec 8 6 v t h0 (by rw [p128_9]; omega) hl]
 simp only [Option.bind_some]
 rw [if_pos h1]
end Go.Proofs.Ytanpaipapcjpoaa.Pb
/- Reading a number at a place of bytes: the program's and the reference's ways. No condition beyond the bytes' range and length. -/
namespace Go.Proofs.Ytanpaipapcjpoaa.Pb
open Go.RowKit Go.Proofs.Ytanpaipapcjpoaa Go.Proofs.Ytanpaipapcjpoaa.Q Go.Proofs.YtanpaipapcjpoaaW.PrintWords Go.Proofs.YtanpaipapcjpoaaW.PrintLast Go.Proofs.YtanpaipapcjpoaaW.PrintMore
set_option linter.unusedVariables false
set_option linter.unusedSimpArgs false
theorem p128 (k : Nat) : (128 : Int) ^ k = 2 ^ (7 * k) := by rw [Int.pow_mul]; rfl
theorem p128_le (k : Nat) (h : k ≤ 7) : 1 ≤ (128 : Int) ^ k ∧ (128 : Int) ^ k ≤ 562949953421312 := by
 have : k = 0 ∨ k = 1 ∨ k = 2 ∨ k = 3 ∨ k = 4 ∨ k = 5 ∨ k = 6 ∨ k = 7 := by omega
 rcases this with h | h | h | h | h | h | h | h <;> subst h <;> decide
theorem shl_of (x : Int) (k : Nat) (hk : k ≤ 7) (h0 : 0 ≤ x) (h1 : x ≤ 127) : shl .i64 x (7 * (k : Int)) = x * 128 ^ k := by
 have hp := p128_le k hk
 unfold shl
 rw [Nat.min_eq_left (by simp [IntKind.bits]; omega), IntKind.wrap_i64, show (7 * (k : Int)).toNat = 7 * k by omega, ← p128]
 generalize (128 : Int) ^ k = p at hp ⊢
 have e0 : 0 ≤ x * p := Int.mul_nonneg h0 (by omega)
 have e1 : x * p ≤ 127 * 562949953421312 := by
  have := Int.mul_le_mul h1 hp.2 (by omega) (by omega)
  exact this
 omega
theorem or_shl (n x : Int) (k : Nat) (hk : k ≤ 7) (h0 : 0 ≤ n) (h1 : n < 128 ^ k) (hx : 0 ≤ x ∧ x ≤ 255) : Go.bits .or .i64 n (shl .i64 (Go.bits .and .i64 x 127) (7 * (k : Int))) = n + 128 ^ k * (x % 128) := by
 have hp := p128_le k hk
 rw [and127, shl_of _ k hk (by omega) (by omega)]
 obtain ⟨a, rfl⟩ := Int.eq_ofNat_of_zero_le h0
 obtain ⟨y, hy⟩ := Int.eq_ofNat_of_zero_le (show 0 ≤ x % 128 by omega)
 have hy' : y < 128 := by omega
 rw [hy]
 have hq : ((2 ^ (7 * k) : Nat) : Int) = 128 ^ k := by rw [Int.natCast_pow, p128]; rfl
 have e : (y : Int) * 128 ^ k = ((2 ^ (7 * k) * y : Nat) : Int) := by
  rw [Int.natCast_mul, hq, Int.mul_comm]
 have ha : a < 2 ^ (7 * k) := by
  have : (a : Int) < ((2 ^ (7 * k) : Nat) : Int) := by rw [hq]; exact h1
  omega
 have hm : 2 ^ (7 * k) * y ≤ 127 * 562949953421312 := by
  have h3 : 2 ^ (7 * k) ≤ 562949953421312 := by
   have : ((2 ^ (7 * k) : Nat) : Int) ≤ 562949953421312 := by rw [hq]; exact hp.2
   omega
  have := Nat.mul_le_mul h3 (show y ≤ 127 by omega)
  omega
 have hb : a < 562949953421312 := by
  have : (a : Int) < 562949953421312 := by omega
  omega
 rw [e, or_nat a _ (by omega) (by omega)]
 have h2 := Nat.two_pow_add_eq_or_of_lt ha y
 rw [Nat.or_comm, ← h2, Int.natCast_add, ← e, Int.add_comm, Int.mul_comm]
def resV : Option (Int × Nat) → Int × Int × Bool
 | some p => (p.1, (p.2 : Int), true)
 | none => (0, 0, false)
def more (n : Int) (k i : Nat) (o : Option (Int × Nat)) : Option (Int × Nat) := o.map fun p => (n + 128 ^ k * p.1, i + k + p.2)
theorem more_up (n x : Int) (k i m : Nat) (t : List Int) : more (n + 128 ^ k * (x % 128)) (k + 1) i (decT m t) = more n k i ((decT m t).map (fun p => (x % 128 + 128 * p.1, p.2 + 1))) := by
 unfold more
 cases decT m t with
 | none => rfl
 | some p =>
  simp only [Option.map_some, Option.some.injEq, Prod.mk.injEq]
  refine ⟨?_, by omega⟩
  rw [Int.mul_add, Int.pow_succ, Int.mul_assoc, Int.add_assoc]
def cap (o : Option (Int × Nat)) : Option (Int × Nat) := o.bind fun p => if p.1 ≤ 1000000000000 then some p else none
theorem drop_at {b : List Int} {j : Nat} (h : j < b.length) : b.drop j = rd b (j : Int) :: b.drop (j + 1) := by
 rw [List.drop_eq_getElem_cons h]
 congr 1
 simp [rd, h]
theorem rd_byte {b : List Int} (hb : Bytes b) {j : Nat} (h : j < b.length) : 0 ≤ rd b (j : Int) ∧ rd b (j : Int) ≤ 255 := by
 refine hb _ ?_
 simp only [rd, Int.toNat_natCast, List.getD_eq_getElem?_getD, List.getElem?_eq_getElem h, Option.getD_some]
 exact List.getElem_mem h
theorem pow_step (n x : Int) (k : Nat) (hk : k ≤ 7) (h0 : 0 ≤ n) (h1 : n < 128 ^ k) (hx : 0 ≤ x ∧ x ≤ 255) : 0 ≤ n + 128 ^ k * (x % 128) ∧ n + 128 ^ k * (x % 128) < 128 ^ (k + 1) := by
 have hp := p128_le k hk
 rw [Int.pow_succ]
 generalize (128 : Int) ^ k = p at h1 hp ⊢
 have e0 : 0 ≤ p * (x % 128) := Int.mul_nonneg (by omega) (by omega)
 have e1 : p * (x % 128) ≤ p * 127 := Int.mul_le_mul_of_nonneg_left (by omega) (by omega)
 omega
theorem decT_at {b : List Int} {j : Nat} (h : j < b.length) (m : Nat) : decT (m + 1) (b.drop j) = if rd b (j : Int) < 128 then (if rd b (j : Int) = 0 then none else some (rd b (j : Int), 1)) else (decT m (b.drop (j + 1))).map (fun p => (rd b (j : Int) % 128 + 128 * p.1, p.2 + 1)) := by rw [drop_at h, decT]
theorem dec_at {b : List Int} {j : Nat} (h : j < b.length) (m : Nat) : dec (m + 1) (b.drop j) = if rd b (j : Int) < 128 then some (rd b (j : Int), 1) else (decT m (b.drop (j + 1))).map (fun p => (rd b (j : Int) % 128 + 128 * p.1, p.2 + 1)) := by rw [drop_at h, dec]
theorem specVar_run {b : List Int} (hb : Bytes b) (hl : b.length ≤ 1048576) (i : Nat) (hi : i ≤ 1048576) : ∀ (m k : Nat) (n : Int), k + m = 6 → 1 ≤ k → 0 ≤ n → n < 128 ^ k →
  Ev (fun q => spec_GetVar.l0 q b (i : Int) n (k : Int)) (resV (cap (more n k i (decT m (b.drop (i + k)))))) := by
 intro m
 induction m with
 | zero =>
  intro k n hk h1 h0 hn
  exact Ev.step (fun q => rfl) (ev_neg (by omega) ev_some)
 | succ m ih =>
  intro k n hk h1 h0 hn
  refine Ev.step (fun q => rfl) (ev_pos (by omega) (ev_neg (by omega) (Ev.step (fun q => rfl) ?_)))
  simp only [spec_GetVar.j1]
  rw [w64 (x := (b.length : Int) - k) (by omega) (by omega)]
  by_cases hj : i + k < b.length
  ·have hx := rd_byte hb hj
   have hs := pow_step n _ k (by omega) h0 hn hx
   rw [decT_at hj]
   rw [w64 (x := (i : Int) + k) (by omega) (by omega), w64 (x := 7 * (k : Int)) (by omega) (by omega), show (i : Int) + k = ((i + k : Nat) : Int) by omega]
   generalize hxe : rd b ((i + k : Nat) : Int) = x at hx hs ⊢
   rw [w64 (x := x) (by omega) (by omega), or_shl n x k (by omega) h0 hn hx]
   refine ev_neg (by simp; omega) (ev_pos (by omega) (ev_pos (by omega) (ev_pos (by omega) (ev_if (fun q => ?_) (fun q => ?_)))))
   ·rw [if_pos q]
    refine ev_if (fun q0 => ?_) (fun q0 => ?_)
    ·rw [if_pos q0]
     exact ev_pos (by omega) ev_some
    ·rw [if_neg q0, show x % 128 = x by omega]
     unfold more cap
     simp only [Option.map_some, Option.bind_some]
     refine ev_if (fun q1 => ?_) (fun q1 => ?_)
     ·rw [if_neg (by omega)]
      exact ev_some
     ·rw [if_pos (by omega)]
      refine ev_eq ev_some ?_
      rw [w64 (by omega) (by omega)]
      simp only [resV]
      congr 2
   ·rw [if_neg q, ← more_up]
    rw [w64 (x := (k : Int) + 1) (by omega) (by omega)]
    exact ih (k + 1) _ (by omega) (by omega) hs.1 hs.2
  ·rw [List.drop_eq_nil_of_le (by omega)]
   exact ev_pos (by simp; omega) ev_some
theorem cap_more (b : List Int) (i : Nat) : cap (more 0 0 i (dec 6 (b.drop i))) = getV b i := by
 unfold cap more getV
 cases dec 6 (b.drop i) with
 | none => rfl
 | some p =>
  simp only [Option.map_some, Option.bind_some, Int.pow_zero, Int.one_mul, Int.zero_add, Nat.add_zero]
theorem specGetVar_ev {b : List Int} (hb : Bytes b) (hl : b.length ≤ 1048576) (i : Nat) (hi : i ≤ 1048576) : Ev (fun q => spec_GetVar.f q b (i : Int)) (resV (getV b i)) := by
 unfold spec_GetVar.f
 rw [← cap_more]
 suffices hz : ∀ z : Int, z = 0 → Ev (fun q => spec_GetVar.l0 q b (i : Int) 0 z) (resV (cap (more 0 0 i (dec 6 (b.drop i))))) from hz 0 rfl
 intro z hz
 refine Ev.step (fun q => rfl) (ev_pos (by omega) (ev_neg (by omega) (Ev.step (fun q => rfl) ?_)))
 simp only [spec_GetVar.j1]
 subst hz
 rw [w64 (x := (b.length : Int) - 0) (by omega) (by omega)]
 by_cases hj : i < b.length
 ·have hx := rd_byte hb hj
  have hs := pow_step 0 _ 0 (by omega) (by omega) (by decide) hx
  rw [dec_at hj]
  rw [w64 (x := (i : Int) + 0) (by omega) (by omega), w64 (x := 7 * (0 : Int)) (by omega) (by omega), Int.add_zero]
  generalize hxe : rd b (i : Int) = x at hx hs ⊢
  have ho := or_shl 0 x 0 (by omega) (by omega) (by decide) hx
  rw [show (7 * ((0 : Nat) : Int)) = 7 * 0 from rfl] at ho
  rw [w64 (x := x) (by omega) (by omega), ho]
  refine ev_neg (by simp; omega) (ev_pos (by omega) (ev_pos (by omega) (ev_pos (by omega) (ev_if (fun q => ?_) (fun q => ?_)))))
  ·rw [if_pos q]
   simp only [Int.pow_zero, Int.one_mul, Int.zero_add]
   have e : cap (more 0 0 i (some (x, 1))) = some (x, i + 1) := by
    unfold cap more
    simp only [Option.map_some, Option.bind_some, Int.pow_zero, Int.one_mul, Int.zero_add, Nat.add_zero]
    rw [if_pos (by omega)]
   rw [e, show x % 128 = x by omega]
   have f : Ev (fun _ : Nat => some (x, wrap64 ((i : Int) + 1), true)) (resV (some (x, i + 1))) := ev_eq ev_some (by rw [w64 (by omega) (by omega)]; rfl)
   exact ev_if (fun q0 => ev_neg (by omega) (ev_neg (by omega) f)) (fun q0 => ev_neg (by omega) f)
  ·rw [if_neg q, ← more_up]
   rw [w64 (x := (0 : Int) + 1) (by omega) (by omega)]
   exact specVar_run hb hl i hi 5 1 _ (by omega) (by omega) hs.1 hs.2
 ·rw [List.drop_eq_nil_of_le (by omega)]
  exact ev_pos (by simp; omega) ev_some
end Go.Proofs.Ytanpaipapcjpoaa.Pb
/- Reading a number at a place of bytes: the program's way, and the numbers of a manifest's sums. No condition beyond the bytes' range and length. -/
namespace Go.Proofs.Ytanpaipapcjpoaa.Pb
open Go.RowKit Go.Proofs.Ytanpaipapcjpoaa Go.Proofs.Ytanpaipapcjpoaa.Q Go.Proofs.YtanpaipapcjpoaaW.PrintWords Go.Proofs.YtanpaipapcjpoaaW.PrintLast Go.Proofs.YtanpaipapcjpoaaW.PrintMore
set_option linter.unusedVariables false
set_option linter.unusedSimpArgs false
def Says (o : Option (Int × Nat)) (r : Int × Int × Bool) : Prop := match o with | some p => r = (p.1, (p.2 : Int), true) | none => r.2.2 = false
theorem says_some {n x : Int} {k i j : Nat} (hj : j = i + k + 1) : Says (more n k i (some (x, 1))) (n + 128 ^ k * x, (j : Int), true) := by
 subst hj
 rfl
theorem w_add {i k : Nat} (h : i + k ≤ 4194304) : wrap64 ((i : Int) + k) = ((i + k : Nat) : Int) := by rw [w64 (by omega) (by omega)]; omega
theorem w_one {j : Nat} (h : j ≤ 4194304) : wrap64 ((j : Int) + 1) = ((j + 1 : Nat) : Int) := by rw [w64 (by omega) (by omega)]; omega
theorem w_seven {k : Nat} (h : k ≤ 4194304) : wrap64 (7 * (k : Int)) = 7 * (k : Int) := w64 (by omega) (by omega)
theorem w_left {n k : Nat} (h : n ≤ 4194304) (g : k ≤ 4194304) : wrap64 ((n : Int) - k) = (n : Int) - k := w64 (by omega) (by omega)
theorem w_left1 {n k : Nat} (h : n ≤ 4194304) (g : k ≤ 4194304) : wrap64 (wrap64 ((n : Int) - 1) - (k : Int)) = (n : Int) - 1 - k := by rw [w64 (x := (n : Int) - 1) (by omega) (by omega), w64 (by omega) (by omega)]
theorem w_byte {x : Int} (h : 0 ≤ x ∧ x ≤ 255) : wrap64 x = x := w64 (by omega) (by omega)
theorem implRead_run {b : List Int} (hb : Bytes b) (hl : b.length ≤ 1048576) (i : Nat) (hi : i ≤ 1048576) (M : Nat) (hM : M ≤ 8) : ∀ (m k : Nat) (n : Int), k + m = M → 1 ≤ k → 0 ≤ n → n < 128 ^ k →
  ∃ r, Ev (fun q => impl_readVar.l0 q b (i : Int) n (M : Int) (k : Int)) r ∧ Says (more n k i (decT m (b.drop (i + k)))) r := by
 intro m
 induction m with
 | zero =>
  intro k n hk h1 h0 hn
  exact ⟨_, Ev.step (fun q => rfl) (ev_neg (by omega) ev_some), rfl⟩
 | succ m ih =>
  intro k n hk h1 h0 hn
  by_cases hj : i + k < b.length
  ·have hk7 : k ≤ 7 := by omega
   have b1 : i + k ≤ 4194304 := by omega
   have b2 : k ≤ 4194304 := by omega
   have b3 : b.length ≤ 4194304 := by omega
   have hkM : (k : Int) < M := by omega
   have g1 : 0 ≤ ((i + k : Nat) : Int) := by omega
   have g2 : ((i + k : Nat) : Int) < (b.length : Int) := by omega
   have g3 : 0 ≤ 7 * (k : Int) := by omega
   have g4 : ¬ (k : Int) = 0 := by omega
   have g5 : 0 ≤ (i : Int) ∧ (i : Int) ≤ (b.length : Int) - 1 - k := by omega
   have g6 : ¬ (i : Int) ≥ (b.length : Int) - k := by omega
   have hx := rd_byte hb hj
   have hs := pow_step n _ k (by omega) h0 hn hx
   have e1 : wrap64 ((i : Int) + k) = ((i + k : Nat) : Int) := w_add b1
   have e2 : wrap64 (7 * (k : Int)) = 7 * (k : Int) := w_seven b2
   have e3 : wrap64 (wrap64 ((b.length : Int) - 1) - (k : Int)) = (b.length : Int) - 1 - k := w_left1 b3 b2
   have e4 : wrap64 (((i + k : Nat) : Int) + 1) = ((i + k + 1 : Nat) : Int) := w_one b1
   have e5 : wrap64 ((k : Int) + 1) = ((k + 1 : Nat) : Int) := w_one b2
   have ho := or_shl n _ k hk7 h0 hn hx
   rw [decT_at hj]
   generalize hxe : rd b ((i + k : Nat) : Int) = x at hx hs ho ⊢
   have e6 : wrap64 x = x := w_byte hx
   have body : ∀ r, Ev (fun q => if x < 128 then (if (k : Int) = 0 then (some (n + 128 ^ k * (x % 128), ((i + k + 1 : Nat) : Int), true)) else (some (n + 128 ^ k * (x % 128), ((i + k + 1 : Nat) : Int), decide (x > 0)))) else (impl_readVar.l0 q b (i : Int) (n + 128 ^ k * (x % 128)) (M : Int) ((k + 1 : Nat) : Int))) r → Ev (fun q => impl_readVar.l0 q b (i : Int) n (M : Int) (k : Int)) r := by
    intro r h
    refine Ev.step (fun q => rfl) (ev_pos hkM (ev_then (within_eq _ _ _) (ev_pos (by rw [e3]; exact decide_eq_true g5) ?_)))
    rw [e1, e2, hxe, e6, ho, e4, e5]
    exact ev_pos g1 (ev_pos g2 (ev_pos g3 h))
   clear e1 e2 e4 e5 e6 ho e3
   by_cases q : x < 128
   ·rw [if_pos q]
    refine ⟨_, body _ (ev_pos q (ev_neg (by omega) ev_some)), ?_⟩
    rw [show x % 128 = x by omega]
    by_cases q0 : x = 0
    ·rw [if_pos q0]
     exact decide_eq_false (by omega)
    ·rw [if_neg q0, decide_eq_true (show x > 0 by omega)]
     exact says_some rfl
   ·rw [if_neg q, ← more_up]
    obtain ⟨r, h, s⟩ := ih (k + 1) _ (by omega) (by omega) hs.1 hs.2
    exact ⟨r, body r (ev_neg q h), s⟩
  ·rw [List.drop_eq_nil_of_le (by omega)]
   have b2 : k ≤ 4194304 := by omega
   have b3 : b.length ≤ 4194304 := by omega
   have hkM : (k : Int) < M := by omega
   have g5 : ¬ (0 ≤ (i : Int) ∧ (i : Int) ≤ (b.length : Int) - 1 - k) := by omega
   have e3 : wrap64 (wrap64 ((b.length : Int) - 1) - (k : Int)) = (b.length : Int) - 1 - k := w_left1 b3 b2
   exact ⟨_, Ev.step (fun q => rfl) (ev_pos hkM (ev_then (within_eq _ _ _) (ev_neg (by rw [e3]; exact fun q => g5 (of_decide_eq_true q)) ev_some))), rfl⟩
theorem more_zero (i : Nat) (o : Option (Int × Nat)) : more 0 0 i o = o.map fun p => (p.1, i + p.2) := by
 unfold more
 cases o with
 | none => rfl
 | some p => simp only [Option.map_some, Int.pow_zero, Int.one_mul, Int.zero_add, Nat.add_zero]
def getN (m : Nat) (b : List Int) (i : Nat) : Option (Int × Nat) := (dec m (b.drop i)).map fun p => (p.1, i + p.2)
theorem implRead_ev {b : List Int} (hb : Bytes b) (hl : b.length ≤ 1048576) (i : Nat) (hi : i ≤ 1048576) (M : Nat) (hM : M + 1 ≤ 8) :
  ∃ r, Ev (fun q => impl_readVar.f q b (i : Int) ((M + 1 : Nat) : Int)) r ∧ Says (getN (M + 1) b i) r := by
 unfold impl_readVar.f getN
 rw [← more_zero]
 suffices hz : ∀ z : Int, z = 0 → ∃ r, Ev (fun q => impl_readVar.l0 q b (i : Int) 0 ((M + 1 : Nat) : Int) z) r ∧ Says (more 0 0 i (dec (M + 1) (b.drop i))) r from hz 0 rfl
 intro z hz
 by_cases hj : i < b.length
 ·have hkM : z < ((M + 1 : Nat) : Int) := by omega
  have g1 : 0 ≤ (i : Int) := by omega
  have g2 : (i : Int) < (b.length : Int) := by omega
  have g3 : 0 ≤ 7 * ((0 : Nat) : Int) := by omega
  have g5 : 0 ≤ (i : Int) ∧ (i : Int) ≤ (b.length : Int) - 1 := by omega
  have g6 : ¬ (i : Int) ≥ (b.length : Int) := by omega
  have b1 : i + 0 ≤ 4194304 := by omega
  have b2 : (0 : Nat) ≤ 4194304 := by decide
  have b3 : b.length ≤ 4194304 := by omega
  have hx := rd_byte hb hj
  have ez : z = ((0 : Nat) : Int) := hz
  have hs := pow_step 0 _ 0 (by decide) (by decide) (by decide) hx
  have e1 : wrap64 ((i : Int) + z) = (i : Int) := by rw [ez, w_add b1]; rfl
  have e2 : wrap64 (7 * z) = 7 * ((0 : Nat) : Int) := by rw [ez, w_seven b2]
  have e3 : wrap64 (wrap64 ((b.length : Int) - 1) - z) = (b.length : Int) - 1 := by rw [ez, w_left1 b3 b2]; exact Int.sub_zero _
  have e4 : wrap64 ((i : Int) + 1) = ((i + 1 : Nat) : Int) := w_one b1
  have e5 : wrap64 (z + 1) = ((0 + 1 : Nat) : Int) := by rw [ez]; exact w_one b2
  have ho := or_shl 0 _ 0 (by decide) (by decide) (by decide) hx
  rw [dec_at hj]
  generalize hxe : rd b (i : Int) = x at hx hs ho ⊢
  have e6 : wrap64 x = x := w_byte hx
  have body : ∀ r, Ev (fun q => if x < 128 then (if z = 0 then (some (0 + 128 ^ 0 * (x % 128), ((i + 1 : Nat) : Int), true)) else (some (0 + 128 ^ 0 * (x % 128), ((i + 1 : Nat) : Int), decide (x > 0)))) else (impl_readVar.l0 q b (i : Int) (0 + 128 ^ 0 * (x % 128)) ((M + 1 : Nat) : Int) ((0 + 1 : Nat) : Int))) r → Ev (fun q => impl_readVar.l0 q b (i : Int) 0 ((M + 1 : Nat) : Int) z) r := by
   intro r h
   refine Ev.step (fun q => rfl) (ev_pos hkM (ev_then (within_eq _ _ _) (ev_pos (by rw [e3]; exact decide_eq_true g5) ?_)))
   rw [e1, e2, hxe, e6, ho, e4, e5]
   exact ev_pos g1 (ev_pos g2 (ev_pos g3 h))
  clear e1 e2 e3 e4 e5 e6 ho
  by_cases q : x < 128
  ·rw [if_pos q]
   refine ⟨_, body _ (ev_pos q (ev_pos hz ev_some)), ?_⟩
   rw [show x % 128 = x by omega]
   exact says_some rfl
  ·rw [if_neg q, ← more_up]
   obtain ⟨r, h, s⟩ := implRead_run hb hl i hi (M + 1) hM M 1 _ (by omega) (by omega) hs.1 hs.2
   exact ⟨r, body r (ev_neg q h), s⟩
 ·rw [List.drop_eq_nil_of_le (by omega)]
  have b2 : (0 : Nat) ≤ 4194304 := by decide
  have b3 : b.length ≤ 4194304 := by omega
  have ez : z = ((0 : Nat) : Int) := hz
  have hkM : z < ((M + 1 : Nat) : Int) := by omega
  have g5 : ¬ (0 ≤ (i : Int) ∧ (i : Int) ≤ (b.length : Int) - 1) := by omega
  have e3 : wrap64 (wrap64 ((b.length : Int) - 1) - z) = (b.length : Int) - 1 := by rw [ez, w_left1 b3 b2]; exact Int.sub_zero _
  exact ⟨_, Ev.step (fun q => rfl) (ev_pos hkM (ev_then (within_eq _ _ _) (ev_neg (by rw [e3]; exact fun q => g5 (of_decide_eq_true q)) ev_some))), rfl⟩
theorem implGetVar_ev {b : List Int} (hb : Bytes b) (hl : b.length ≤ 1048576) (i : Nat) (hi : i ≤ 1048576) : Ev (fun q => impl_GetVar.f q b (i : Int)) (resV (getV b i)) := by
 unfold impl_GetVar.f
 obtain ⟨r, h, s⟩ := implRead_ev hb hl i hi 5 (by omega)
 refine Ev.bind h ?_
 unfold getN at s
 unfold getV
 cases hd : dec 6 (b.drop i) with
 | none =>
  rw [hd] at s
  exact ev_neg (by rw [show r.2.2 = false from s]; decide) ev_some
 | some p =>
  rw [hd] at s
  obtain rfl : r = (p.1, ((i + p.2 : Nat) : Int), true) := s
  refine ev_pos rfl (ev_if (fun q => ?_) (fun q => ?_))
  ·simp only [Option.bind_some]
   rw [if_neg (by simpa using q)]
   exact ev_some
  ·simp only [Option.bind_some]
   rw [if_pos (by simpa using q)]
   exact ev_some
theorem specSum_run {b : List Int} (hb : Bytes b) (hl : b.length ≤ 1048576) (i : Nat) (hi : i ≤ 1048576) : ∀ (m k : Nat) (n : Int), k + m = 8 → 1 ≤ k → 0 ≤ n → n < 128 ^ k →
  ∃ r, Ev (fun q => spec_l6GetSum.l0 q b (i : Int) n (k : Int)) r ∧ Says (more n k i (decT m (b.drop (i + k)))) r := by
 intro m
 induction m with
 | zero =>
  intro k n hk h1 h0 hn
  exact ⟨_, Ev.step (fun q => rfl) (ev_neg (by omega) ev_some), rfl⟩
 | succ m ih =>
  intro k n hk h1 h0 hn
  by_cases hj : i + k < b.length
  ·have hk7 : k ≤ 7 := by omega
   have b1 : i + k ≤ 4194304 := by omega
   have b2 : k ≤ 4194304 := by omega
   have b3 : b.length ≤ 4194304 := by omega
   have hkM : (k : Int) < 8 := by omega
   have g1 : 0 ≤ ((i + k : Nat) : Int) := by omega
   have g2 : ((i + k : Nat) : Int) < (b.length : Int) := by omega
   have g3 : 0 ≤ 7 * (k : Int) := by omega
   have g4 : ¬ (k : Int) = 0 := by omega
   have g5 : 0 ≤ (i : Int) ∧ (i : Int) ≤ (b.length : Int) - 1 - k := by omega
   have g6 : ¬ (i : Int) ≥ (b.length : Int) - k := by omega
   have hx := rd_byte hb hj
   have hs := pow_step n _ k (by omega) h0 hn hx
   have e1 : wrap64 ((i : Int) + k) = ((i + k : Nat) : Int) := w_add b1
   have e2 : wrap64 (7 * (k : Int)) = 7 * (k : Int) := w_seven b2
   have e4 : wrap64 (((i + k : Nat) : Int) + 1) = ((i + k + 1 : Nat) : Int) := w_one b1
   have e5 : wrap64 ((k : Int) + 1) = ((k + 1 : Nat) : Int) := w_one b2
   have e3 : wrap64 ((b.length : Int) - (k : Int)) = (b.length : Int) - k := w_left b3 b2
   have ho := or_shl n _ k hk7 h0 hn hx
   rw [decT_at hj]
   generalize hxe : rd b ((i + k : Nat) : Int) = x at hx hs ho ⊢
   have e6 : wrap64 x = x := w_byte hx
   have body : ∀ r, Ev (fun q => if x < 128 then (if x > 0 then (some (n + 128 ^ k * (x % 128), ((i + k + 1 : Nat) : Int), true)) else (some (n + 128 ^ k * (x % 128), ((i + k + 1 : Nat) : Int), ((k : Int) == 0)))) else (spec_l6GetSum.l0 q b (i : Int) (n + 128 ^ k * (x % 128)) ((k + 1 : Nat) : Int))) r → Ev (fun q => spec_l6GetSum.l0 q b (i : Int) n (k : Int)) r := by
    intro r h
    refine Ev.step (fun q => rfl) (ev_pos hkM (ev_neg (by rw [e3]; exact g6) ?_))
    rw [e1, e2, hxe, e6, ho, e4, e5]
    exact ev_pos g1 (ev_pos g2 (ev_pos g3 h))
   clear e1 e2 e3 e4 e5 e6 ho
   by_cases q : x < 128
   ·rw [if_pos q]
    by_cases q0 : x = 0
    ·rw [if_pos q0]
     refine ⟨_, body _ (ev_pos q (ev_neg (by omega) ev_some)), ?_⟩
     exact beq_eq_false_iff_ne.2 (by omega)
    ·rw [if_neg q0]
     refine ⟨_, body _ (ev_pos q (ev_pos (by omega) ev_some)), ?_⟩
     rw [show x % 128 = x by omega]
     exact says_some rfl
   ·rw [if_neg q, ← more_up]
    obtain ⟨r, h, s⟩ := ih (k + 1) _ (by omega) (by omega) hs.1 hs.2
    exact ⟨r, body r (ev_neg q h), s⟩
  ·rw [List.drop_eq_nil_of_le (by omega)]
   have b2 : k ≤ 4194304 := by omega
   have b3 : b.length ≤ 4194304 := by omega
   have g6 : (i : Int) ≥ (b.length : Int) - k := by omega
   have hkM : (k : Int) < 8 := by omega
   have e3 : wrap64 ((b.length : Int) - (k : Int)) = (b.length : Int) - k := w_left b3 b2
   exact ⟨_, Ev.step (fun q => rfl) (ev_pos hkM (ev_pos (by rw [e3]; exact g6) ev_some)), rfl⟩
theorem specGetSum_ev {b : List Int} (hb : Bytes b) (hl : b.length ≤ 1048576) (i : Nat) (hi : i ≤ 1048576) : ∃ r, Ev (fun q => spec_l6GetSum.f q b (i : Int)) r ∧ Says (getN 8 b i) r := by
 unfold spec_l6GetSum.f getN
 rw [← more_zero]
 suffices hz : ∀ z : Int, z = 0 → ∃ r, Ev (fun q => spec_l6GetSum.l0 q b (i : Int) 0 z) r ∧ Says (more 0 0 i (dec 8 (b.drop i))) r from hz 0 rfl
 intro z hz
 by_cases hj : i < b.length
 ·have hkM : z < 8 := by omega
  have g1 : 0 ≤ (i : Int) := by omega
  have g2 : (i : Int) < (b.length : Int) := by omega
  have g3 : 0 ≤ 7 * ((0 : Nat) : Int) := by omega
  have g5 : 0 ≤ (i : Int) ∧ (i : Int) ≤ (b.length : Int) - 1 := by omega
  have g6 : ¬ (i : Int) ≥ (b.length : Int) := by omega
  have b1 : i + 0 ≤ 4194304 := by omega
  have b2 : (0 : Nat) ≤ 4194304 := by decide
  have b3 : b.length ≤ 4194304 := by omega
  have hx := rd_byte hb hj
  have ez : z = ((0 : Nat) : Int) := hz
  have hs := pow_step 0 _ 0 (by decide) (by decide) (by decide) hx
  have e1 : wrap64 ((i : Int) + z) = (i : Int) := by rw [ez, w_add b1]; rfl
  have e2 : wrap64 (7 * z) = 7 * ((0 : Nat) : Int) := by rw [ez, w_seven b2]
  have e4 : wrap64 ((i : Int) + 1) = ((i + 1 : Nat) : Int) := w_one b1
  have e5 : wrap64 (z + 1) = ((0 + 1 : Nat) : Int) := by rw [ez]; exact w_one b2
  have e3 : wrap64 ((b.length : Int) - z) = (b.length : Int) := by rw [ez, w_left b3 b2]; exact Int.sub_zero _
  have ho := or_shl 0 _ 0 (by decide) (by decide) (by decide) hx
  rw [dec_at hj]
  generalize hxe : rd b (i : Int) = x at hx hs ho ⊢
  have e6 : wrap64 x = x := w_byte hx
  have body : ∀ r, Ev (fun q => if x < 128 then (if x > 0 then (some (0 + 128 ^ 0 * (x % 128), ((i + 1 : Nat) : Int), true)) else (some (0 + 128 ^ 0 * (x % 128), ((i + 1 : Nat) : Int), (z == 0)))) else (spec_l6GetSum.l0 q b (i : Int) (0 + 128 ^ 0 * (x % 128)) ((0 + 1 : Nat) : Int))) r → Ev (fun q => spec_l6GetSum.l0 q b (i : Int) 0 z) r := by
   intro r h
   refine Ev.step (fun q => rfl) (ev_pos hkM (ev_neg (by rw [e3]; exact g6) ?_))
   rw [e1, e2, hxe, e6, ho, e4, e5]
   exact ev_pos g1 (ev_pos g2 (ev_pos g3 h))
  clear e1 e2 e3 e4 e5 e6 ho
  by_cases q : x < 128
  ·rw [if_pos q]
   by_cases q0 : x > 0
   ·refine ⟨_, body _ (ev_pos q (ev_pos q0 ev_some)), ?_⟩
    rw [show x % 128 = x by omega]
    exact says_some rfl
   ·refine ⟨_, body _ (ev_pos q (ev_neg q0 ev_some)), ?_⟩
    rw [show x % 128 = x by omega, show (z == 0) = true from beq_iff_eq.2 hz]
    exact says_some rfl
  ·rw [if_neg q, ← more_up]
   obtain ⟨r, h, s⟩ := specSum_run hb hl i hi 7 1 _ (by omega) (by omega) hs.1 hs.2
   exact ⟨r, body r (ev_neg q h), s⟩
 ·rw [List.drop_eq_nil_of_le (by omega)]
  have b2 : (0 : Nat) ≤ 4194304 := by decide
  have b3 : b.length ≤ 4194304 := by omega
  have ez : z = ((0 : Nat) : Int) := hz
  have g6 : (i : Int) ≥ (b.length : Int) := by omega
  have hkM : z < 8 := by omega
  have e3 : wrap64 ((b.length : Int) - z) = (b.length : Int) := by rw [ez, w_left b3 b2]; exact Int.sub_zero _
  exact ⟨_, Ev.step (fun q => rfl) (ev_pos hkM (ev_pos (by rw [e3]; exact g6) ev_some)), rfl⟩
end Go.Proofs.Ytanpaipapcjpoaa.Pb
/- A block's sum, as the program makes it. No condition beyond the bytes' range. -/
namespace Go.Proofs.Ytanpaipapcjpoaa.Pb
open Go.RowKit Go.Proofs.Ytanpaipapcjpoaa Go.Proofs.Ytanpaipapcjpoaa.Q Go.Proofs.YtanpaipapcjpoaaW.PrintWords Go.Proofs.YtanpaipapcjpoaaW.PrintLast
set_option linter.unusedVariables false
set_option linter.unusedSimpArgs false
theorem or_byte (s b : Int) (h0 : 0 ≤ s) (h1 : s ≤ 562949953421311) (hb : 0 ≤ b ∧ b ≤ 255) : Go.bits .or .i64 (s * 256) b = 256 * s + b := by
 obtain ⟨a, rfl⟩ := Int.eq_ofNat_of_zero_le h0
 obtain ⟨c, rfl⟩ := Int.eq_ofNat_of_zero_le hb.1
 have e : ((a : Int) * 256) = ((2 ^ 8 * a : Nat) : Int) := by omega
 rw [e, or_nat _ _ (by omega) (by omega), ← Nat.two_pow_add_eq_or_of_lt (by omega)]
 omega
theorem implSumOf_ev (l : List Int) (hb : Bytes l) : Ev (fun k => impl_SumOf.f k l) (sumOf l) := by
 unfold impl_SumOf.f sumOf
 refine ev_if (fun h => ev_eq ev_some (by rw [if_pos h])) (fun h => ?_)
 rw [if_neg h]
 refine loop_up (σ := Int) (fun k s i => impl_SumOf.l0 k l s l (l.length : Int) i) l.length (fun i s => 256 * s + l.getD i 0) (fun i s => StrongIn i s) 1 _ (by simp [StrongIn]) (fun i s _ hs => strongIn_step hs (bytes_getD hb i)) ?_ ?_
 ·intro i s r hi hs h
  have q := strongIn_le hs (by omega)
  have z := bytes_getD hb i
  refine Ev.step (fun k => rfl) ?_
  refine ev_pos (by omega) (ev_pos (by omega) (ev_pos (by omega) ?_))
  simp only [rd, Int.toNat_natCast]
  rw [w64 (x := s * 256) (by omega) (by omega), w64 (x := l.getD i 0) (by omega) (by omega), or_byte s _ (by omega) (by omega) z, w64 (x := (i : Int) + 1) (by omega) (by omega)]
  exact h
 ·intro hs
  refine Ev.step (fun k => rfl) ?_
  refine ev_neg (by omega) (Ev.bind (implWeakOf_ev l (by omega) hb) (ev_eq ev_some ?_))
  rw [iter_foldl_all (fun s b => 256 * s + b) l 0 1]
  rfl
end Go.Proofs.Ytanpaipapcjpoaa.Pb
/- Reading numbers, a manifest and a byte string: the program's and the reference's ways. No condition beyond the bytes' range and length. -/
namespace Go.Proofs.Ytanpaipapcjpoaa.Pb
open Go.RowKit Go.Proofs.Ytanpaipapcjpoaa Go.Proofs.Ytanpaipapcjpoaa.Q Go.Proofs.YtanpaipapcjpoaaW.PrintWords Go.Proofs.YtanpaipapcjpoaaW.PrintLast Go.Proofs.YtanpaipapcjpoaaW.PrintMore
set_option linter.unusedVariables false
set_option linter.unusedSimpArgs false
theorem getV_le {b : List Int} (hb : Bytes b) {i : Nat} {p : Int × Nat} (h : getV b i = some p) : p.2 ≤ b.length := by
 obtain ⟨v, j⟩ := p
 exact (getV_enc hb h).2.2.2.1
def getVs : Nat → List Int → Nat → List Int → Option (List Int × Nat)
 | 0, _, i, acc => some (acc, i)
 | n + 1, b, i, acc => (getV b i).bind fun p => getVs n b p.2 (acc ++ [p.1])
def resVs : Option (List Int × Nat) → List Int × Int × Bool
 | some p => (p.1, (p.2 : Int), true)
 | none => ([], 0, false)
theorem readVars_run {b : List Int} (hb : Bytes b) (hl : b.length ≤ 1048576) (N : Nat) (hN : N ≤ 1000) : ∀ (n j i : Nat) (acc : List Int), j + n = N → acc.length = j → i ≤ 1048576 →
  Ev (fun q => impl_readVars.l0 q b (i : Int) acc (N : Int) (j : Int)) (resVs (getVs n b i acc)) := by
 intro n
 induction n with
 | zero =>
  intro j i acc hj ha hi
  exact Ev.step (fun q => rfl) (ev_neg (by omega) ev_some)
 | succ n ih =>
  intro j i acc hj ha hi
  refine Ev.step (fun q => rfl) (ev_pos (by omega) (Ev.bind (implGetVar_ev hb hl i hi) ?_))
  unfold getVs
  cases hg : getV b i with
  | none => exact ev_neg Bool.false_ne_true ev_some
  | some p =>
   have hp := getV_le hb hg
   refine ev_pos rfl (ev_pos (by omega) ?_)
   rw [w_one (by omega)]
   exact ih (j + 1) p.2 (acc ++ [p.1]) (by omega) (by simp; omega) (by omega)
theorem readVars_ev {b : List Int} (hb : Bytes b) (hl : b.length ≤ 1048576) (i N : Nat) (hN : N ≤ 1000) (hi : i ≤ 1048576) : Ev (fun q => impl_readVars.f q b (i : Int) (N : Int)) (resVs (getVs N b i [])) := readVars_run hb hl N hN N 0 i [] (by omega) rfl hi
def getSums : Nat → List Int → Nat → List S83 → Option (List S83 × Nat)
 | 0, _, i, acc => some (acc, i)
 | n + 1, b, i, acc => (getN 8 b i).bind fun p => getSums n b p.2 (acc ++ [⟨weakOf (bytesOf p.1).1, p.1⟩])
def finMan (g s n : Int) (o : Option (List S83 × Nat)) : Option (Int × Int × Int × List S83 × Nat) := o.bind fun q => if manOk g s n q.1 = true then some (g, s, n, q.1, q.2) else none
def getMan (b : List Int) (i : Nat) : Option (Int × Int × Int × List S83 × Nat) :=
 (getV b i).bind fun g => (getV b g.2).bind fun s => (getV b s.2).bind fun n => finMan g.1 s.1 n.1 (if g.1 > 0 then getSums (blocks s.1 n.1).toNat b n.2 [] else some ([], n.2))
def resM : Option (Int × Int × Int × List S83 × Nat) → Int × Int × Int × List S83 × Int × Bool
 | some p => (p.1, p.2.1, p.2.2.1, p.2.2.2.1, (p.2.2.2.2 : Int), true)
 | none => (0, 0, 0, [], 0, false)
theorem getN_le {m : Nat} {b : List Int} (hb : Bytes b) {i : Nat} {p : Int × Nat} (h : getN m b i = some p) : i ≤ p.2 ∧ p.2 ≤ b.length ∧ 0 ≤ p.1 ∧ (m ≤ 9 → b.take p.2 = b.take i ++ encVar p.1) := by
 unfold getN at h
 cases hd : dec m (b.drop i) with
 | none => rw [hd] at h; cases h
 | some q =>
  rw [hd] at h
  cases h
  obtain ⟨a1, a2, a3, a4, a5, a6⟩ := dec_vb m _ q.1 q.2 (fun y hy => hb y (List.mem_of_mem_drop hy)) hd
  rw [List.length_drop] at a5
  refine ⟨by simp only; omega, by simp only; omega, a1, fun hm => ?_⟩
  have e := a6 8 (by omega)
  unfold encVar
  rw [← e, List.take_add]
theorem getSums_ext {b : List Int} (hb : Bytes b) : ∀ (n i : Nat) (acc : List S83) (q : List S83 × Nat), i ≤ b.length → getSums n b i acc = some q → (∃ t, q.1 = acc ++ t) ∧ i ≤ q.2 ∧ q.2 ≤ b.length ∧ ∀ X : List Int, b.take i = acc.foldl (fun s x => s ++ encVar x.f1) X → b.take q.2 = q.1.foldl (fun s x => s ++ encVar x.f1) X := by
 intro n
 induction n with
 | zero =>
  intro i acc q hi h
  cases h
  exact ⟨⟨[], by simp⟩, Nat.le_refl _, hi, fun X e => e⟩
 | succ n ih =>
  intro i acc q hi h
  unfold getSums at h
  cases hg : getN 8 b i with
  | none => rw [hg] at h; cases h
  | some p =>
   rw [hg] at h
   have hp := getN_le hb hg
   obtain ⟨⟨t, ht⟩, h1, h2, h3⟩ := ih p.2 _ q hp.2.1 h
   refine ⟨⟨[⟨weakOf (bytesOf p.1).1, p.1⟩] ++ t, by rw [ht, List.append_assoc]⟩, by omega, h2, fun X e => h3 X ?_⟩
   rw [List.foldl_append, ← e]
   exact hp.2.2.2 (by omega)
theorem specManLoop {b : List Int} (hb : Bytes b) (hl : b.length ≤ 1048576) (g s n j u v : Int) (B : Nat) (hB : (B : Int) = blocks s n) (hg : g > 0) : ∀ (r k i : Nat) (acc : List S83), k + r = B → acc.length = k → i ≤ 1048576 →
  Ev (fun q => spec_GetMan.l0 q b g s n (i : Int) (k : Int) 0 0 0 g s n acc) (resM (finMan g s n (getSums r b i acc))) := by
 intro r
 have rg := blocks_range s n
 induction r with
 | zero =>
  intro k i acc hk ha hi
  refine Ev.step (fun q => rfl) (ev_then (specBlocks_eq s n) (ev_neg (by omega) ?_))
  refine Ev.step (fun q => rfl) ?_
  simp only [spec_GetMan.j2]
  refine ev_neg Bool.false_ne_true (Ev.bind (specManOk_ev g s n acc (by omega)) ?_)
  unfold getSums finMan
  simp only [Option.bind_some]
  refine ev_if (fun q => ?_) (fun q => ?_)
  ·rw [if_pos q]
   exact ev_some
  ·rw [if_neg q]
   exact ev_some
 | succ r ih =>
  intro k i acc hk ha hi
  refine Ev.step (fun q => rfl) (ev_then (specBlocks_eq s n) (ev_pos (by omega) ?_))
  obtain ⟨z, hz, hs⟩ := specGetSum_ev hb hl i hi
  refine Ev.step (fun q => rfl) (ev_pos (decide_eq_true hg) (Ev.bind hz ?_))
  unfold getSums
  cases hn : getN 8 b i with
  | none =>
   rw [hn] at hs
   exact ev_neg (by rw [show z.2.2 = false from hs]; decide) ev_some
  | some p =>
   rw [hn] at hs
   obtain rfl : z = (p.1, (p.2 : Int), true) := hs
   have hp := getN_le hb hn
   refine ev_pos rfl (Ev.bind (specBytesOf_ev p.1) (Ev.bind (specSumOf_ev _ (bytesOf_bytes p.1)) (ev_pos (by omega) ?_)))
   rw [w_one (by omega), show (sumOf (bytesOf p.1).1).1 = weakOf (bytesOf p.1).1 by unfold sumOf; rw [if_neg (by have := bytesOf_length p.1; omega)]]
   exact ih (k + 1) p.2 _ (by omega) (by simp; omega) (by omega)
theorem specGetMan_ev {b : List Int} (hb : Bytes b) (hl : b.length ≤ 1048576) (i : Nat) (hi : i ≤ 1048576) : Ev (fun q => spec_GetMan.f q b (i : Int)) (resM (getMan b i)) := by
 have any : ∀ o : Option (Int × Nat), (∀ p, o = some p → p.2 ≤ 1048576) → ∃ o', (∀ p, o = some p → o' = getV b p.2) ∧ (∀ p, o' = some p → p.2 ≤ 1048576) ∧ Ev (fun q => spec_GetVar.f q b (resV o).2.1) (resV o') := by
  intro o ho
  cases o with
  | none => exact ⟨getV b 0, fun p h => (by cases h), fun p h => (by have := getV_le hb h; omega), specGetVar_ev hb hl 0 (by omega)⟩
  | some p => exact ⟨getV b p.2, fun p' h => (by cases h; rfl), fun p' h => (by have := getV_le hb h; omega), specGetVar_ev hb hl p.2 (ho p rfl)⟩
 unfold spec_GetMan.f getMan
 have k1 : ∀ p, getV b i = some p → p.2 ≤ 1048576 := fun p h => by have := getV_le hb h; omega
 obtain ⟨o2, e2, k2, v2⟩ := any (getV b i) k1
 obtain ⟨o3, e3, k3, v3⟩ := any o2 k2
 refine Ev.bind (specGetVar_ev hb hl i hi) (Ev.bind v2 (Ev.bind v3 ?_))
 have bad : ∀ g s n j, Ev (fun k => spec_GetMan.j0 k b g s n j true 0 0 0) (resM none) := by
  intro g s n j
  refine Ev.step (fun q => rfl) ?_
  simp only [spec_GetMan.j0]
  exact ev_pos trivial ev_some
 cases h1 : getV b i with
 | none => exact ev_neg Bool.false_ne_true (bad _ _ _ _)
 | some g =>
  rw [e2 g h1]
  rw [e2 g h1] at e3
  refine ev_pos rfl ?_
  simp only [Option.bind_some]
  cases h2 : getV b g.2 with
  | none => exact ev_neg Bool.false_ne_true (bad _ _ _ _)
  | some s =>
   rw [e3 s h2]
   refine ev_pos rfl ?_
   simp only [Option.bind_some]
   cases h3 : getV b s.2 with
   | none => exact bad _ _ _ _
   | some n =>
    simp only [Option.bind_some]
    refine Ev.step (fun q => rfl) ?_
    simp only [spec_GetMan.j0, resV]
    refine ev_neg Bool.false_ne_true ?_
    have hg := (getV_enc hb (show getV b i = some (g.1, g.2) from h1)).1
    have hn := getV_le hb h3
    have rg := blocks_range s.1 n.1
    by_cases q : g.1 > 0
    ·rw [if_pos q]
     exact specManLoop hb hl g.1 s.1 n.1 0 0 0 (blocks s.1 n.1).toNat (by omega) q (blocks s.1 n.1).toNat 0 n.2 [] (by omega) rfl (by omega)
    ·rw [if_neg q]
     have fin : Ev (fun k => spec_GetMan.j2 k b g.1 s.1 n.1 (n.2 : Int) 0 false 0 0 0 g.1 s.1 n.1 []) (resM (finMan g.1 s.1 n.1 (some ([], n.2)))) := by
      refine Ev.step (fun q => rfl) ?_
      simp only [spec_GetMan.j2]
      refine ev_neg Bool.false_ne_true (Ev.bind (specManOk_ev g.1 s.1 n.1 [] (by simp)) ?_)
      unfold finMan
      simp only [Option.bind_some]
      refine ev_if (fun q => ?_) (fun q => ?_)
      ·rw [if_pos q]
       exact ev_some
      ·rw [if_neg q]
       exact ev_some
     refine Ev.step (fun q => rfl) (ev_then (specBlocks_eq s.1 n.1) (ev_if (fun _ => ?_) (fun _ => fin)))
     exact Ev.congr (fun k => by rw [decide_eq_false q]) fin
theorem manOk_has {g s n : Int} {l : List S83} (h : manOk g s n l = true) : ∀ j, j < l.length → (bytesOf (l.getD j z83).f1).2 = true := by
 intro j hj
 unfold manOk at h
 split at h
 ·have := of_decide_eq_true h
  omega
 ·split at h
  ·have := List.all_eq_true.1 h j (List.mem_range.2 hj)
   simp only [blockOk, Bool.and_eq_true] at this
   exact this.1
  ·cases h
theorem implManLoop {b : List Int} (hb : Bytes b) (hl : b.length ≤ 1048576) (g s n : Int) (B : Nat) (hB : B ≤ 40) : ∀ (r k i : Nat) (acc : List S83), k + r = B → acc.length = k → i ≤ b.length →
  Ev (fun q => impl_GetMan.l0 q b (i : Int) (B : Int) (k : Int) g s n acc) (resM (finMan g s n (getSums r b i acc))) := by
 intro r
 induction r with
 | zero =>
  intro k i acc hk ha hi
  refine Ev.step (fun q => rfl) (ev_neg (by omega) (Ev.bind (implManOk_ev g s n acc (by omega)) ?_))
  unfold getSums finMan
  simp only [Option.bind_some]
  refine ev_if (fun q => ?_) (fun q => ?_)
  ·rw [if_pos q]
   exact ev_some
  ·rw [if_neg q]
   exact ev_some
 | succ r ih =>
  intro k i acc hk ha hi
  obtain ⟨z, hz, hs⟩ := implRead_ev hb hl i (by omega) 7 (by omega)
  refine Ev.step (fun q => rfl) (ev_pos (by omega) (Ev.bind hz (Ev.bind (implBytesOf_ev z.1) ?_)))
  unfold getSums
  cases hn : getN 8 b i with
  | none =>
   rw [hn] at hs
   exact ev_neg (by rw [show z.2.2 = false from hs]; decide) ev_some
  | some p =>
   rw [hn] at hs
   obtain rfl : z = (p.1, (p.2 : Int), true) := hs
   have hp := getN_le hb hn
   refine ev_pos rfl ?_
   by_cases q : (bytesOf p.1).2 = true
   ·refine ev_pos q (Ev.bind (implSumOf_ev _ (bytesOf_bytes p.1)) (ev_pos (by omega) ?_))
    rw [w_one (by omega), bytesOf_strong p.1 q]
    exact ih (k + 1) p.2 _ (by omega) (by simp; omega) hp.2.1
   ·refine ev_neg q (ev_eq ev_some ?_)
    simp only [Option.bind_some]
    cases hq : getSums r b p.2 (acc ++ [⟨weakOf (bytesOf p.1).1, p.1⟩]) with
    | none => rfl
    | some t =>
     obtain ⟨⟨u, hu⟩, _⟩ := getSums_ext hb r p.2 _ t hp.2.1 hq
     unfold finMan
     simp only [Option.bind_some]
     rw [if_neg]
     ·rfl
     ·intro ok
      have := manOk_has ok acc.length (by rw [hu]; simp)
      rw [hu] at this
      simp at this
      exact q this
theorem implGetMan_ev {b : List Int} (hb : Bytes b) (hl : b.length ≤ 1048576) (i : Nat) (hi : i ≤ 1048576) : Ev (fun q => impl_GetMan.f q b (i : Int)) (resM (getMan b i)) := by
 unfold impl_GetMan.f getMan
 refine Ev.bind (readVars_ev hb hl i 3 (by omega) hi) ?_
 unfold getVs
 cases h1 : getV b i with
 | none => exact ev_neg Bool.false_ne_true ev_some
 | some g =>
  simp only [Option.bind_some]
  unfold getVs
  cases h2 : getV b g.2 with
  | none => exact ev_neg Bool.false_ne_true ev_some
  | some s =>
   simp only [Option.bind_some]
   unfold getVs
   cases h3 : getV b s.2 with
   | none => exact ev_neg Bool.false_ne_true ev_some
   | some n =>
    simp only [Option.bind_some]
    have hg := (getV_enc hb (show getV b i = some (g.1, g.2) from h1)).1
    have hn := getV_le hb h3
    have rg := blocks_range s.1 n.1
    refine ev_pos rfl (ev_pos (by simp [getVs, resVs]) (ev_pos (by simp [getVs, resVs]) (ev_pos (by simp [getVs, resVs]) (ev_then (implBlocks_eq _ _) ?_))))
    have hB : ((blocks s.1 n.1).toNat : Int) = blocks s.1 n.1 := by omega
    have key := implManLoop hb hl g.1 s.1 n.1 (blocks s.1 n.1).toNat (by omega) (blocks s.1 n.1).toNat 0 n.2 [] (by omega) rfl hn
    rw [hB] at key
    refine ev_eq key ?_
    by_cases q : g.1 > 0
    ·rw [if_pos q]
    ·rw [if_neg q]
     have g0 : g.1 = 0 := by omega
     by_cases z : s.1 = 0 ∧ n.1 = 0
     ·rw [z.1, z.2, show (blocks 0 0).toNat = 0 from rfl]
      rfl
     ·have no : ∀ l, manOk g.1 s.1 n.1 l = true → False := by
       intro l h
       unfold manOk at h
       rw [if_pos g0] at h
       have := of_decide_eq_true h
       exact z ⟨this.1, this.2.1⟩
      have e : ∀ o, finMan g.1 s.1 n.1 o = none := by
       intro o
       unfold finMan
       cases o with
       | none => rfl
       | some t =>
        simp only [Option.bind_some]
        exact if_neg (fun h => no _ h)
      rw [e, e]
theorem putSums_fold (s : List Int) (l : List S83) : putSums s l = l.foldl (fun s x => s ++ encVar x.f1) s := by
 unfold putSums
 have := iter_foldl (fun (s : List Int) (x : S83) => s ++ encVar x.f1) l z83 s l.length (Nat.le_refl _)
 rw [this, List.take_length]
theorem getMan_enc {b : List Int} (hb : Bytes b) {i : Nat} {p : Int × Int × Int × List S83 × Nat} (h : getMan b i = some p) : p.2.2.2.2 ≤ b.length ∧ b.take p.2.2.2.2 = putMan (b.take i) p.1 p.2.1 p.2.2.1 p.2.2.2.1 := by
 unfold getMan at h
 cases h1 : getV b i with
 | none => rw [h1] at h; cases h
 | some g =>
  rw [h1] at h
  simp only [Option.bind_some] at h
  cases h2 : getV b g.2 with
  | none => rw [h2] at h; cases h
  | some s =>
   rw [h2] at h
   simp only [Option.bind_some] at h
   cases h3 : getV b s.2 with
   | none => rw [h3] at h; cases h
   | some n =>
    rw [h3] at h
    simp only [Option.bind_some] at h
    have k1 := getV_enc hb (show getV b i = some (g.1, g.2) from h1)
    have k2 := getV_enc hb (show getV b g.2 = some (s.1, s.2) from h2)
    have k3 := getV_enc hb (show getV b s.2 = some (n.1, n.2) from h3)
    have hd : b.take n.2 = putVar (putVar (putVar (b.take i) g.1) s.1) n.1 := by
     unfold putVar
     rw [if_pos ⟨k3.1, k3.2.1⟩, if_pos ⟨k2.1, k2.2.1⟩, if_pos ⟨k1.1, k1.2.1⟩, k3.2.2.2.2, k2.2.2.2.2, k1.2.2.2.2]
    unfold finMan at h
    generalize ho : (if g.1 > 0 then getSums (blocks s.1 n.1).toNat b n.2 [] else some ([], n.2)) = o at h
    cases o with
    | none => cases h
    | some q =>
     simp only [Option.bind_some] at h
     split at h
     ·rename_i ok
      cases h
      have key : q.2 ≤ b.length ∧ b.take q.2 = q.1.foldl (fun s x => s ++ encVar x.f1) (b.take n.2) := by
       split at ho
       ·obtain ⟨_, _, h2', h3'⟩ := getSums_ext hb _ _ _ q k3.2.2.2.1 ho
        exact ⟨h2', h3' _ rfl⟩
       ·cases ho
        exact ⟨k3.2.2.2.1, rfl⟩
      refine ⟨key.1, ?_⟩
      unfold putMan
      rw [if_pos ok, putSums_fold, ← hd]
      exact key.2
     ·cases h
def getPart (b : List Int) (i : Nat) (m : Int) : Option (List Int × Nat) := (getV b i).bind fun p => if p.1 > m then none else if p.1 > (b.length : Int) - p.2 then none else some ((b.take (p.2 + p.1.toNat)).drop p.2, p.2 + p.1.toNat)
def resP : Option (List Int × Nat) → List Int × Int × Bool
 | some p => (p.1, (p.2 : Int), true)
 | none => ([], 0, false)
theorem specGetPart_ev {b : List Int} (hb : Bytes b) (hl : b.length ≤ 1048576) (i : Nat) (hi : i ≤ 1048576) (m : Int) : Ev (fun q => spec_GetPart.f q b (i : Int) m) (resP (getPart b i m)) := by
 unfold spec_GetPart.f getPart
 refine Ev.bind (specGetVar_ev hb hl i hi) ?_
 cases h1 : getV b i with
 | none => exact ev_neg Bool.false_ne_true ev_some
 | some p =>
  have k1 := getV_enc hb (show getV b i = some (p.1, p.2) from h1)
  simp only [Option.bind_some]
  refine ev_pos rfl ?_
  simp only [resV]
  have ew : wrap64 ((b.length : Int) - (p.2 : Int)) = (b.length : Int) - p.2 := w_left (by omega) (by omega)
  refine ev_if (fun q => ?_) (fun q => ?_)
  ·rw [if_pos q]
   exact ev_some
  ·rw [if_neg q]
   by_cases q2 : p.1 > (b.length : Int) - p.2
   ·rw [if_pos q2]
    exact ev_pos (by rw [ew]; exact q2) ev_some
   ·rw [if_neg q2]
    refine ev_neg (by rw [ew]; exact q2) ?_
    clear ew
    have e2 : wrap64 ((p.2 : Int) + p.1) = ((p.2 + p.1.toNat : Nat) : Int) := by rw [w64 (by omega) (by omega)]; omega
    simp only [e2]
    clear e2
    refine ev_pos (by omega) (ev_pos (by omega) (ev_pos (by omega) (ev_pos ?_ (ev_eq ev_some ?_))))
    ·simp only [List.length_nil, List.length_drop, List.length_take]
     omega
    ·simp only [resP, List.nil_append, Int.toNat_natCast]
theorem implGetPart_ev {b : List Int} (hb : Bytes b) (hl : b.length ≤ 1048576) (i : Nat) (hi : i ≤ 1048576) (m : Int) : Ev (fun q => impl_GetPart.f q b (i : Int) m) (resP (getPart b i m)) := by
 unfold impl_GetPart.f getPart
 refine Ev.bind (implGetVar_ev hb hl i hi) ?_
 cases h1 : getV b i with
 | none =>
  refine ev_neg Bool.false_ne_true (Ev.step (fun q => rfl) ?_)
  simp only [impl_GetPart.j0]
  exact ev_pos trivial ev_some
 | some p =>
  have k1 := getV_enc hb (show getV b i = some (p.1, p.2) from h1)
  simp only [Option.bind_some]
  refine ev_pos rfl ?_
  simp only [resV]
  by_cases q : p.1 > m
  ·rw [if_pos q]
   exact Ev.step (fun q => rfl) (ev_pos (decide_eq_true q) ev_some)
  ·rw [if_neg q]
   by_cases q2 : p.1 > (b.length : Int) - p.2
   ·have hs : impl_Slice.f b (p.2 : Int) p.1 = some ([], false) := by
     unfold impl_Slice.f
     rw [within_eq, within_eq, w_left (by omega) (by omega)]
     simp only [Option.bind_some]
     rw [if_pos (decide_eq_true (by omega)), if_neg (by simp; omega)]
    rw [if_pos q2]
    exact Ev.step (fun q => rfl) (ev_neg (fun h => q (of_decide_eq_true h)) (ev_then hs (ev_neg Bool.false_ne_true ev_some)))
   ·have hs : impl_Slice.f b (p.2 : Int) p.1 = some ((b.take (p.2 + p.1.toNat)).drop p.2, true) := by
     unfold impl_Slice.f
     rw [within_eq, within_eq, w_left (by omega) (by omega), show wrap64 ((p.2 : Int) + p.1) = ((p.2 + p.1.toNat : Nat) : Int) by rw [w64 (by omega) (by omega)]; omega]
     simp only [Option.bind_some]
     rw [if_pos (decide_eq_true (by omega)), if_pos (decide_eq_true (by omega)), if_pos (by omega), if_pos (by omega), if_pos (by omega), cloned_eq _ (by simp only [List.length_drop, List.length_take]; omega)]
     simp only [Option.bind_some, Int.toNat_natCast]
    rw [if_neg q2]
    refine Ev.step (fun q => rfl) (ev_neg (fun h => q (of_decide_eq_true h)) (ev_then hs (ev_pos rfl (ev_eq ev_some ?_))))
    simp only [resP]
    rw [show wrap64 ((p.2 : Int) + p.1) = ((p.2 + p.1.toNat : Nat) : Int) by rw [w64 (by omega) (by omega)]; omega]
theorem getPart_enc {b : List Int} (hb : Bytes b) {i : Nat} {m : Int} {p : List Int × Nat} (h : getPart b i m = some p) : p.2 ≤ b.length ∧ b.take p.2 = putVar (b.take i) p.1.length ++ p.1 := by
 unfold getPart at h
 cases h1 : getV b i with
 | none => rw [h1] at h; cases h
 | some g =>
  rw [h1] at h
  simp only [Option.bind_some] at h
  have k1 := getV_enc hb (show getV b i = some (g.1, g.2) from h1)
  split at h
  ·cases h
  ·split at h
   ·cases h
   ·cases h
    have e : (((b.take (g.2 + g.1.toNat)).drop g.2).length : Int) = g.1 := by
     rw [List.length_drop, List.length_take]
     omega
    refine ⟨by simp only; omega, ?_⟩
    simp only
    unfold putVar
    rw [e, if_pos ⟨k1.1, k1.2.1⟩, ← k1.2.2.2.2, List.drop_take, Nat.add_sub_cancel_left, ← List.take_add]
end Go.Proofs.Ytanpaipapcjpoaa.Pb
/- Reading a message: the program's and the reference's ways come to the same. No condition beyond the bytes' range and length. -/
namespace Go.Proofs.Ytanpaipapcjpoaa.Pb
open Go.RowKit Go.Proofs.Ytanpaipapcjpoaa Go.Proofs.Ytanpaipapcjpoaa.Q Go.Proofs.YtanpaipapcjpoaaW.PrintWords Go.Proofs.YtanpaipapcjpoaaW.PrintLast Go.Proofs.YtanpaipapcjpoaaW.PrintMore
set_option linter.unusedVariables false
set_option linter.unusedSimpArgs false
abbrev M10 := Int × Int × Int × Int × Int × List S83 × Int × Int × Int × List Int
def okM (m : M10) : Bool := msgOk m.1 m.2.1 m.2.2.1 m.2.2.2.1 m.2.2.2.2.1 m.2.2.2.2.2.1 m.2.2.2.2.2.2.1 m.2.2.2.2.2.2.2.1 m.2.2.2.2.2.2.2.2.1 m.2.2.2.2.2.2.2.2.2
def bodyM (m : M10) : List Int := msgBody m.1 m.2.1 m.2.2.1 m.2.2.2.1 m.2.2.2.2.1 m.2.2.2.2.2.1 m.2.2.2.2.2.2.1 m.2.2.2.2.2.2.2.1 m.2.2.2.2.2.2.2.2.1 m.2.2.2.2.2.2.2.2.2
def putM (m : M10) : List Int := putMsg m.1 m.2.1 m.2.2.1 m.2.2.2.1 m.2.2.2.2.1 m.2.2.2.2.2.1 m.2.2.2.2.2.2.1 m.2.2.2.2.2.2.2.1 m.2.2.2.2.2.2.2.2.1 m.2.2.2.2.2.2.2.2.2
def resMsg : Option M10 → Int × Int × Int × Int × Int × List S83 × Int × Int × Int × List Int × Bool
 | some m => (m.1, m.2.1, m.2.2.1, m.2.2.2.1, m.2.2.2.2.1, m.2.2.2.2.2.1, m.2.2.2.2.2.2.1, m.2.2.2.2.2.2.2.1, m.2.2.2.2.2.2.2.2.1, m.2.2.2.2.2.2.2.2.2, true)
 | none => (0, 0, 0, 0, 0, [], 0, 0, 0, [], false)
def SaysB (o : Option (M10 × Nat)) (r : Int × Int × Int × Int × Int × List S83 × Int × Int × Int × List Int × Int × Bool) : Prop := match o with
 | some p => r = (p.1.1, p.1.2.1, p.1.2.2.1, p.1.2.2.2.1, p.1.2.2.2.2.1, p.1.2.2.2.2.2.1, p.1.2.2.2.2.2.2.1, p.1.2.2.2.2.2.2.2.1, p.1.2.2.2.2.2.2.2.2.1, p.1.2.2.2.2.2.2.2.2.2, (p.2 : Int), true)
 | none => r.2.2.2.2.2.2.2.2.2.2.2 = false
def SaysI (o : Option M10) (r : Int × Int × Int × Int × Int × List S83 × Int × Int × Int × List Int × Bool) : Prop := match o with
 | some p => r = resMsg (some p)
 | none => r.2.2.2.2.2.2.2.2.2.2 = false
def getHs : Nat → List Int → Nat → List Int → Option (List Int × Nat)
 | 0, _, i, acc => some (acc, i)
 | n + 1, b, i, acc => (getV b i).bind fun p => if p.1 ≥ 1048576 then none else getHs n b p.2 (acc ++ [p.1])
def wantS (kind gen : Int) (q : List Int × Nat) : M10 × Nat := ((kind, gen, 0, 0, 0, [], wrap64 ((rd q.1 0) + (wrap64 ((rd q.1 1) * 1048576))), wrap64 ((rd q.1 2) + (wrap64 ((rd q.1 3) * 1048576))), 0, []), q.2)
def bodyS (b : List Int) (i : Nat) (kind : Int) : Option (M10 × Nat) :=
 if kind = 1 then (getMan b i).map fun p => ((kind, 0, p.1, p.2.1, p.2.2.1, p.2.2.2.1, 0, 0, 0, []), p.2.2.2.2)
 else (getV b i).bind fun g =>
  if kind = 2 then (getHs 4 b g.2 []).map (wantS kind g.1)
  else if kind = 3 then (getV b g.2).bind fun j => (getPart b j.2 6).map fun p => ((kind, g.1, 0, 0, 0, [], 0, 0, j.1, p.1), p.2)
  else some ((kind, g.1, 0, 0, 0, [], 0, 0, 0, []), g.2)
def wantI (kind : Int) (q : List Int × Nat) : M10 := (kind, rd q.1 0, 0, 0, 0, [], Go.bits .or .i64 (rd q.1 1) (wrap64 ((rd q.1 2) * 1048576)), Go.bits .or .i64 (rd q.1 3) (wrap64 ((rd q.1 4) * 1048576)), 0, [])
def bodyI (b : List Int) (i : Nat) (kind : Int) : Option M10 :=
 if kind = 1 then (getMan b i).map fun p => (kind, 0, p.1, p.2.1, p.2.2.1, p.2.2.2.1, 0, 0, 0, [])
 else if kind = 2 then (getVs 5 b i []).map (wantI kind)
 else if kind = 3 then (getVs 2 b i []).bind fun q => (getPart b q.2 6).map fun p => (kind, rd q.1 0, 0, 0, 0, [], 0, 0, rd q.1 1, p.1)
 else if kind = 4 then (getV b i).map fun p => (kind, p.1, 0, 0, 0, [], 0, 0, 0, [])
 else none
theorem sameB_eq {a b : List Int} (ha : Bytes a) (hb : Bytes b) : impl_SameBytes.f a b = some (decide (a = b)) := by
 have key : ∀ (a b : List Int), Bytes a → Bytes b → a.map (fun n => UInt8.ofNat n.toNat) = b.map (fun n => UInt8.ofNat n.toNat) → a = b := by
  intro a
  induction a with
  | nil =>
   intro b _ _ h
   cases b with
   | nil => rfl
   | cons y t => cases h
  | cons x s ih =>
   intro b ha hb h
   cases b with
   | nil => cases h
   | cons y t =>
    simp only [List.map_cons, List.cons.injEq] at h
    have hx := ha x (List.mem_cons_self ..)
    have hy := hb y (List.mem_cons_self ..)
    have e := congrArg UInt8.toNat h.1
    rw [UInt8.toNat_ofNat', UInt8.toNat_ofNat'] at e
    rw [ih t (fun z hz => ha z (List.mem_cons_of_mem _ hz)) (fun z hz => hb z (List.mem_cons_of_mem _ hz)) h.2, show x = y by omega]
 unfold impl_SameBytes.f bytes_Equal.f
 simp only [Option.bind_some]
 rw [Go.Lib.strOfNums_toList, Go.Lib.strOfNums_toList]
 congr 1
 by_cases h : a = b
 ·rw [decide_eq_true h, h]
  exact beq_self_eq_true _
 ·rw [decide_eq_false h]
  exact beq_eq_false_iff_ne.2 (fun e => h (key a b ha hb e))
theorem getVs_len {b : List Int} (hb : Bytes b) : ∀ (n i : Nat) (acc : List Int) (q : List Int × Nat), i ≤ b.length → getVs n b i acc = some q → q.1.length = acc.length + n ∧ q.2 ≤ b.length := by
 intro n
 induction n with
 | zero =>
  intro i acc q hi h
  cases h
  exact ⟨rfl, hi⟩
 | succ n ih =>
  intro i acc q hi h
  unfold getVs at h
  cases hg : getV b i with
  | none => rw [hg] at h; cases h
  | some p =>
   rw [hg] at h
   have := ih p.2 _ q (getV_le hb hg) h
   rw [List.length_append, List.length_singleton] at this
   exact ⟨by omega, this.2⟩
theorem specHs_run {b : List Int} (hb : Bytes b) (hl : b.length ≤ 1048576) (A G : Int) : ∀ (n k i : Nat) (acc : List Int), k + n = 4 → acc.length = k → i ≤ 1048576 →
  ∃ r, Ev (fun q => spec_l12Body.l0 q b (i : Int) acc (k : Int) A G 0 0 0 0 0 0) r ∧ SaysB ((getHs n b i acc).map (wantS A G)) r := by
 intro n
 induction n with
 | zero =>
  intro k i acc hk ha hi
  refine ⟨_, Ev.step (fun q => rfl) (ev_neg (by omega) (ev_pos (by omega) (ev_pos (by omega) (ev_pos (by omega) (ev_pos (by omega) ev_some))))), ?_⟩
  rfl
 | succ n ih =>
  intro k i acc hk ha hi
  unfold getHs
  cases hg : getV b i with
  | none =>
   refine ⟨_, Ev.step (fun q => rfl) (ev_pos (by omega) (Ev.bind (specGetVar_ev hb hl i hi) (ev_neg ?_ ev_some))), rfl⟩
   rw [hg]
   exact Bool.false_ne_true
  | some p =>
   have hp := getV_le hb hg
   simp only [Option.bind_some]
   by_cases q : p.1 ≥ 1048576
   ·rw [if_pos q]
    refine ⟨_, Ev.step (fun q => rfl) (ev_pos (by omega) (Ev.bind (specGetVar_ev hb hl i hi) (ev_pos ?_ (ev_pos ?_ ev_some)))), rfl⟩
    ·rw [hg]; rfl
    ·rw [hg]; exact q
   ·rw [if_neg q]
    obtain ⟨r, hr, hs⟩ := ih (k + 1) p.2 (acc ++ [p.1]) (by omega) (by simp; omega) (by omega)
    refine ⟨r, Ev.step (fun q => rfl) (ev_pos (by omega) (Ev.bind (specGetVar_ev hb hl i hi) ?_)), hs⟩
    rw [hg]
    refine ev_pos rfl (ev_neg q (ev_pos (by omega) ?_))
    rw [w_one (by omega)]
    exact hr
theorem specBody_ev {b : List Int} (hb : Bytes b) (hl : b.length ≤ 1048576) (i : Nat) (hi : i ≤ 1048576) (kind : Int) : ∃ r, Ev (fun q => spec_l12Body.f q b (i : Int) kind) r ∧ SaysB (bodyS b i kind) r := by
 unfold spec_l12Body.f bodyS
 by_cases k1 : kind = 1
 ·rw [if_pos k1]
  refine ⟨_, ev_pos k1 (Ev.bind (specGetMan_ev hb hl i hi) ev_some), ?_⟩
  cases getMan b i with
  | none => rfl
  | some p => rfl
 rw [if_neg k1]
 cases hg : getV b i with
 | none =>
  refine ⟨_, ev_neg k1 (Ev.bind (specGetVar_ev hb hl i hi) (ev_neg ?_ ev_some)), rfl⟩
  rw [hg]
  exact Bool.false_ne_true
 | some g =>
  have hp := getV_le hb hg
  have pre : ∀ {f : Nat → Option (Int × Int × Int × Int × Int × List S83 × Int × Int × Int × List Int × Int × Bool)} {r}, Ev f r → Ev (fun q => if (resV (some g)).2.2 = true then f q else some (kind, (resV (some g)).1, 0, 0, 0, [], 0, 0, 0, [], 0, false)) r := fun h => ev_pos rfl h
  simp only [Option.bind_some]
  by_cases k2 : kind = 2
  ·rw [if_pos k2]
   obtain ⟨r, hr, hs⟩ := specHs_run hb hl kind g.1 4 0 g.2 [] (by omega) rfl (by omega)
   refine ⟨r, ev_neg k1 (Ev.bind (specGetVar_ev hb hl i hi) ?_), hs⟩
   rw [hg]
   exact ev_pos rfl (ev_pos k2 hr)
  rw [if_neg k2]
  by_cases k3 : kind = 3
  ·rw [if_pos k3]
   cases hj : getV b g.2 with
   | none =>
    refine ⟨(kind, g.1, 0, 0, 0, [], 0, 0, 0, (resP (getPart b 0 6)).1, (resP (getPart b 0 6)).2.1, false), ev_neg k1 (Ev.bind (specGetVar_ev hb hl i hi) ?_), rfl⟩
    rw [hg]
    refine ev_pos rfl (ev_neg k2 (ev_pos k3 (Ev.bind (specGetVar_ev hb hl g.2 (by omega)) ?_)))
    rw [hj]
    exact Ev.bind (specGetPart_ev hb hl 0 (by omega) 6) (ev_neg Bool.false_ne_true ev_some)
   | some j =>
    have hq := getV_le hb hj
    simp only [Option.bind_some]
    refine ⟨(kind, g.1, 0, 0, 0, [], 0, 0, j.1, (resP (getPart b j.2 6)).1, (resP (getPart b j.2 6)).2.1, (resP (getPart b j.2 6)).2.2), ev_neg k1 (Ev.bind (specGetVar_ev hb hl i hi) ?_), ?_⟩
    ·rw [hg]
     refine ev_pos rfl (ev_neg k2 (ev_pos k3 (Ev.bind (specGetVar_ev hb hl g.2 (by omega)) ?_)))
     rw [hj]
     exact Ev.bind (specGetPart_ev hb hl j.2 (by omega) 6) (ev_pos rfl ev_some)
    ·cases getPart b j.2 6 with
     | none => rfl
     | some p => rfl
  rw [if_neg k3]
  refine ⟨(kind, g.1, 0, 0, 0, [], 0, 0, 0, [], (g.2 : Int), true), ev_neg k1 (Ev.bind (specGetVar_ev hb hl i hi) ?_), rfl⟩
  rw [hg]
  exact ev_pos rfl (ev_neg k2 (ev_neg k3 ev_some))
theorem implBody_ev {b : List Int} (hb : Bytes b) (hl : b.length ≤ 1048576) (i : Nat) (hi : i ≤ b.length) (kind : Int) : ∃ r, Ev (fun q => impl_readMsg.f q b kind (i : Int)) r ∧ SaysI (bodyI b i kind) r := by
 unfold impl_readMsg.f bodyI
 by_cases k1 : kind = 1
 ·rw [if_pos k1]
  refine ⟨_, ev_pos k1 (Ev.bind (implGetMan_ev hb hl i (by omega)) ev_some), ?_⟩
  cases getMan b i with
  | none => rfl
  | some p => rfl
 rw [if_neg k1]
 by_cases k2 : kind = 2
 ·rw [if_pos k2]
  have hv := readVars_ev hb hl i 5 (by omega) (by omega)
  cases hg : getVs 5 b i [] with
  | none =>
   rw [hg] at hv
   exact ⟨_, ev_neg k1 (ev_pos k2 (Ev.bind hv (ev_neg Bool.false_ne_true ev_some))), rfl⟩
  | some q =>
   rw [hg] at hv
   have hq := (getVs_len hb 5 i [] q hi hg).1
   simp only [List.length_nil] at hq
   exact ⟨_, ev_neg k1 (ev_pos k2 (Ev.bind hv (ev_pos rfl (ev_pos (by simp only [resVs]; omega) (ev_pos (by simp only [resVs]; omega) (ev_pos (by simp only [resVs]; omega) (ev_pos (by simp only [resVs]; omega) (ev_pos (by simp only [resVs]; omega) ev_some)))))))), rfl⟩
 rw [if_neg k2]
 by_cases k3 : kind = 3
 ·rw [if_pos k3]
  have hv := readVars_ev hb hl i 2 (by omega) (by omega)
  cases hg : getVs 2 b i [] with
  | none =>
   rw [hg] at hv
   exact ⟨_, ev_neg k1 (ev_neg k2 (ev_pos k3 (Ev.bind hv (ev_neg Bool.false_ne_true ev_some)))), rfl⟩
  | some q =>
   rw [hg] at hv
   have hq := getVs_len hb 2 i [] q hi hg
   simp only [List.length_nil] at hq
   refine ⟨_, ev_neg k1 (ev_neg k2 (ev_pos k3 (Ev.bind hv (ev_pos rfl (ev_pos (by simp only [resVs]; omega) (ev_pos (by simp only [resVs]; omega) (Ev.bind (implGetPart_ev hb hl q.2 (by omega) 6) ev_some))))))), ?_⟩
   simp only [Option.bind_some]
   cases getPart b q.2 6 with
   | none => rfl
   | some p => rfl
 rw [if_neg k3]
 by_cases k4 : kind = 4
 ·rw [if_pos k4]
  refine ⟨_, ev_neg k1 (ev_neg k2 (ev_neg k3 (ev_pos k4 (Ev.bind (implGetVar_ev hb hl i (by omega)) ev_some)))), ?_⟩
  cases getV b i with
  | none => rfl
  | some p => rfl
 rw [if_neg k4]
 exact ⟨_, ev_neg k1 (ev_neg k2 (ev_neg k3 (ev_neg k4 ev_some))), rfl⟩
theorem pbytes_take {b : List Int} (hb : Bytes b) (n : Nat) : Bytes (b.take n) := fun x hx => hb x (List.mem_of_mem_take hx)
theorem pbytes_drop {b : List Int} (hb : Bytes b) (n : Nat) : Bytes (b.drop n) := fun x hx => hb x (List.mem_of_mem_drop hx)
def Fit (m : M10) : Prop := m.2.2.2.2.2.1.length ≤ 1048576 ∧ Bytes m.2.2.2.2.2.2.2.2.2 ∧ m.2.2.2.2.2.2.2.2.2.length ≤ 1048576
theorem getMan_fit {b : List Int} {i : Nat} {p : Int × Int × Int × List S83 × Nat} (h : getMan b i = some p) : p.2.2.2.1.length ≤ 40 := by
 unfold getMan at h
 cases h1 : getV b i with
 | none => rw [h1] at h; cases h
 | some g =>
  rw [h1] at h
  simp only [Option.bind_some] at h
  cases h2 : getV b g.2 with
  | none => rw [h2] at h; cases h
  | some s =>
   rw [h2] at h
   simp only [Option.bind_some] at h
   cases h3 : getV b s.2 with
   | none => rw [h3] at h; cases h
   | some n =>
    rw [h3] at h
    simp only [Option.bind_some] at h
    unfold finMan at h
    generalize (if g.1 > 0 then getSums (blocks s.1 n.1).toNat b n.2 [] else some ([], n.2)) = o at h
    cases o with
    | none => cases h
    | some q =>
     simp only [Option.bind_some] at h
     split at h
     ·rename_i ok
      cases h
      exact (manOk_sums ok).1
     ·cases h
theorem getPart_fit {b : List Int} (hb : Bytes b) (hl : b.length ≤ 1048576) {i : Nat} {m : Int} {p : List Int × Nat} (h : getPart b i m = some p) : Bytes p.1 ∧ p.1.length ≤ 1048576 := by
 unfold getPart at h
 cases h1 : getV b i with
 | none => rw [h1] at h; cases h
 | some g =>
  rw [h1] at h
  simp only [Option.bind_some] at h
  split at h
  ·cases h
  ·split at h
   ·cases h
   ·cases h
    refine ⟨pbytes_drop (pbytes_take hb _) _, ?_⟩
    simp only [List.length_drop, List.length_take]
    omega
theorem bodyI_fit {b : List Int} (hb : Bytes b) (hl : b.length ≤ 1048576) {i : Nat} {kind : Int} {m : M10} (h : bodyI b i kind = some m) : Fit m := by
 have nil : Fit (kind, 0, 0, 0, 0, [], 0, 0, 0, []) := ⟨by simp, pbytes_nil, by simp⟩
 unfold bodyI at h
 split at h
 ·cases hm : getMan b i with
  | none => rw [hm] at h; cases h
  | some p =>
   rw [hm] at h
   cases h
   have := getMan_fit hm
   exact ⟨by simp only; omega, pbytes_nil, by simp⟩
 ·split at h
  ·cases hv : getVs 5 b i [] with
   | none => rw [hv] at h; cases h
   | some q =>
    rw [hv] at h
    cases h
    exact ⟨by simp [wantI], pbytes_nil, by simp [wantI]⟩
  ·split at h
   ·cases hv : getVs 2 b i [] with
    | none => rw [hv] at h; cases h
    | some q =>
     rw [hv] at h
     simp only [Option.bind_some] at h
     cases hp : getPart b q.2 6 with
     | none => rw [hp] at h; cases h
     | some p =>
      rw [hp] at h
      cases h
      have := getPart_fit hb hl hp
      exact ⟨by simp, this.1, this.2⟩
   ·split at h
    ·cases hv : getV b i with
     | none => rw [hv] at h; cases h
     | some p =>
      rw [hv] at h
      cases h
      exact ⟨by simp, pbytes_nil, by simp⟩
    ·cases h
theorem or_half (x y : Int) (hx : 0 ≤ x ∧ x < 1048576) (hy : 0 ≤ y ∧ y < 1048576) : Go.bits .or .i64 x (wrap64 (y * 1048576)) = x + y * 1048576 := by
 rw [w64 (by omega) (by omega)]
 obtain ⟨a, rfl⟩ := Int.eq_ofNat_of_zero_le hx.1
 obtain ⟨c, rfl⟩ := Int.eq_ofNat_of_zero_le hy.1
 have e : (c : Int) * 1048576 = ((2 ^ 20 * c : Nat) : Int) := by omega
 rw [e, or_nat a _ (by omega) (by omega)]
 have h2 := Nat.two_pow_add_eq_or_of_lt (i := 20) (b := a) (by omega) c
 rw [Nat.or_comm, ← h2]
 omega
theorem half0_eq (x : Int) : half0 x = x % 1048576 := and_mask x 20 1048575 (by decide) (by decide)
theorem putVar_in {l : List Int} {x : Int} (h : 0 ≤ x ∧ x ≤ 1000000000000) : putVar l x = l ++ encVar x := if_pos h
theorem getV_put {b : List Int} (hb : Bytes b) {i : Nat} {v : Int × Nat} (h : getV b i = some v) : 0 ≤ v.1 ∧ v.1 ≤ 1000000000000 ∧ v.2 ≤ b.length ∧ b.take v.2 = putVar (b.take i) v.1 := by
 have k := getV_enc hb (show getV b i = some (v.1, v.2) from h)
 exact ⟨k.1, k.2.1, k.2.2.2.1, by rw [putVar_in ⟨k.1, k.2.1⟩]; exact k.2.2.2.2⟩
theorem getHs4 {b : List Int} (hb : Bytes b) {i : Nat} {q : List Int × Nat} (h : getHs 4 b i [] = some q) : ∃ x0 x1 x2 x3 : Int, q.1 = [x0, x1, x2, x3] ∧ (0 ≤ x0 ∧ x0 < 1048576) ∧ (0 ≤ x1 ∧ x1 < 1048576) ∧ (0 ≤ x2 ∧ x2 < 1048576) ∧ (0 ≤ x3 ∧ x3 < 1048576) ∧ q.2 ≤ b.length ∧ b.take q.2 = putVar (putVar (putVar (putVar (b.take i) x0) x1) x2) x3 ∧ getVs 4 b i [] = some q := by
 have step : ∀ (n i : Nat) (acc : List Int) (q : List Int × Nat), getHs (n + 1) b i acc = some q → ∃ p : Int × Nat, getV b i = some p ∧ (0 ≤ p.1 ∧ p.1 < 1048576) ∧ p.2 ≤ b.length ∧ b.take p.2 = putVar (b.take i) p.1 ∧ getHs n b p.2 (acc ++ [p.1]) = some q := by
  intro n i acc q h
  unfold getHs at h
  cases hg : getV b i with
  | none => rw [hg] at h; cases h
  | some p =>
   rw [hg] at h
   simp only [Option.bind_some] at h
   split at h
   ·cases h
   ·have k := getV_put hb hg
    exact ⟨p, rfl, by omega, k.2.2.1, k.2.2.2, h⟩
 obtain ⟨p0, e0, r0, l0, t0, h⟩ := step 3 i [] q h
 obtain ⟨p1, e1, r1, l1, t1, h⟩ := step 2 _ _ q h
 obtain ⟨p2, e2, r2, l2, t2, h⟩ := step 1 _ _ q h
 obtain ⟨p3, e3, r3, l3, t3, h⟩ := step 0 _ _ q h
 cases h
 refine ⟨p0.1, p1.1, p2.1, p3.1, rfl, r0, r1, r2, r3, l3, ?_, ?_⟩
 ·simp only
  rw [t3, t2, t1, t0]
 ·simp only [getVs, e0, e1, e2, e3, Option.bind_some]
theorem getVs_cons (n : Nat) (b : List Int) (i : Nat) (acc : List Int) (p : Int × Nat) (h : getV b i = some p) : getVs (n + 1) b i acc = getVs n b p.2 (acc ++ [p.1]) := by
 rw [getVs, h]
 rfl
theorem getVs_acc (b : List Int) : ∀ (n i : Nat) (a acc : List Int), getVs n b i (a ++ acc) = (getVs n b i acc).map fun q => (a ++ q.1, q.2) := by
 intro n
 induction n with
 | zero => intro i a acc; rfl
 | succ n ih =>
  intro i a acc
  unfold getVs
  cases getV b i with
  | none => rfl
  | some p =>
   simp only [Option.bind_some]
   rw [List.append_assoc, ih]
theorem body_up {b : List Int} (hb : Bytes b) {i : Nat} {kind : Int} {p : M10 × Nat} (hk : b.take i = putVar [] kind) (hi : i ≤ b.length) (h : bodyS b i kind = some p) (ok : okM p.1 = true) : bodyI b i kind = some p.1 ∧ p.2 ≤ b.length ∧ b.take p.2 = bodyM p.1 := by
 unfold bodyS at h
 unfold bodyI
 by_cases k1 : kind = 1
 ·rw [if_pos k1] at h ⊢
  cases hm : getMan b i with
  | none => rw [hm] at h; cases h
  | some q =>
   rw [hm] at h
   cases h
   have k := getMan_enc hb hm
   refine ⟨rfl, k.1, ?_⟩
   simp only [bodyM]
   unfold msgBody
   rw [if_pos k1, ← hk]
   exact k.2
 rw [if_neg k1] at h ⊢
 cases hg : getV b i with
 | none => rw [hg] at h; cases h
 | some g =>
  have kg := getV_put hb hg
  rw [hg] at h
  simp only [Option.bind_some] at h
  by_cases k2 : kind = 2
  ·rw [if_pos k2] at h ⊢
   cases hq : getHs 4 b g.2 [] with
   | none => rw [hq] at h; cases h
   | some q =>
    rw [hq] at h
    cases h
    obtain ⟨x0, x1, x2, x3, e, r0, r1, r2, r3, hl, ht, hv⟩ := getHs4 hb hq
    have a1 : wrap64 (x0 + wrap64 (x1 * 1048576)) = x0 + x1 * 1048576 := by rw [w64 (x := x1 * 1048576) (by omega) (by omega), w64 (by omega) (by omega)]
    have a2 : wrap64 (x2 + wrap64 (x3 * 1048576)) = x2 + x3 * 1048576 := by rw [w64 (x := x3 * 1048576) (by omega) (by omega), w64 (by omega) (by omega)]
    have b1 := or_half x0 x1 r0 r1
    have b2 := or_half x2 x3 r2 r3
    refine ⟨?_, hl, ?_⟩
    ·rw [getVs_cons 4 b i [] g hg, List.nil_append, show ([g.1] : List Int) = [g.1] ++ [] from rfl, getVs_acc, hv]
     simp only [Option.map_some, wantI, wantS, e, rd]
     rw [show ([g.1] ++ [x0, x1, x2, x3]).getD (Int.toNat 0) 0 = g.1 from rfl, show ([g.1] ++ [x0, x1, x2, x3]).getD (Int.toNat 1) 0 = x0 from rfl, show ([g.1] ++ [x0, x1, x2, x3]).getD (Int.toNat 2) 0 = x1 from rfl, show ([g.1] ++ [x0, x1, x2, x3]).getD (Int.toNat 3) 0 = x2 from rfl, show ([g.1] ++ [x0, x1, x2, x3]).getD (Int.toNat 4) 0 = x3 from rfl, show ([x0, x1, x2, x3] : List Int).getD (Int.toNat 0) 0 = x0 from rfl, show ([x0, x1, x2, x3] : List Int).getD (Int.toNat 1) 0 = x1 from rfl, show ([x0, x1, x2, x3] : List Int).getD (Int.toNat 2) 0 = x2 from rfl, show ([x0, x1, x2, x3] : List Int).getD (Int.toNat 3) 0 = x3 from rfl, a1, a2, b1, b2]
    ·simp only [bodyM, wantS, e, rd]
     rw [show ([x0, x1, x2, x3] : List Int).getD (Int.toNat 0) 0 = x0 from rfl, show ([x0, x1, x2, x3] : List Int).getD (Int.toNat 1) 0 = x1 from rfl, show ([x0, x1, x2, x3] : List Int).getD (Int.toNat 2) 0 = x2 from rfl, show ([x0, x1, x2, x3] : List Int).getD (Int.toNat 3) 0 = x3 from rfl, a1, a2]
     clear a1 a2 b1 b2
     unfold msgBody
     rw [if_neg k1, if_pos k2, half0_eq, half0_eq, ht, kg.2.2.2, hk]
     rw [show (x0 + x1 * 1048576) % 1048576 = x0 by omega, show (x0 + x1 * 1048576) / 1048576 = x1 by omega, show (x2 + x3 * 1048576) % 1048576 = x2 by omega, show (x2 + x3 * 1048576) / 1048576 = x3 by omega]
  rw [if_neg k2] at h ⊢
  by_cases k3 : kind = 3
  ·rw [if_pos k3] at h ⊢
   cases hj : getV b g.2 with
   | none => rw [hj] at h; cases h
   | some j =>
    have kj := getV_put hb hj
    rw [hj] at h
    simp only [Option.bind_some] at h
    rw [getVs_cons 1 b i [] g hg, getVs_cons 0 b g.2 _ j hj]
    cases hq : getPart b j.2 6 with
    | none => rw [hq] at h; cases h
    | some q =>
     rw [hq] at h
     cases h
     have k := getPart_enc hb hq
     refine ⟨?_, k.1, ?_⟩
     ·simp only [getVs, Option.bind_some]
      rw [hq]
      rfl
     ·simp only [bodyM]
      unfold msgBody
      rw [if_neg k1, if_neg k2, if_pos k3, k.2, kj.2.2.2, kg.2.2.2, hk]
  rw [if_neg k3] at h ⊢
  cases h
  have k4 : kind = 4 := by
   unfold okM msgOk msgVal at ok
   simp only at ok
   rw [if_neg k1, if_neg k2, if_neg k3] at ok
   split at ok
   ·assumption
   ·cases ok
  rw [if_pos k4]
  refine ⟨rfl, kg.2.2.1, ?_⟩
  simp only [bodyM]
  unfold msgBody
  rw [if_neg k1, if_neg k2, if_neg k3, kg.2.2.2, hk]
end Go.Proofs.Ytanpaipapcjpoaa.Pb
/- Reading a message: the program's answer is the reference's. No condition beyond the bytes' range and length. -/
namespace Go.Proofs.Ytanpaipapcjpoaa.Pb
open Go.RowKit Go.Proofs.Ytanpaipapcjpoaa Go.Proofs.Ytanpaipapcjpoaa.Q Go.Proofs.YtanpaipapcjpoaaW.PrintWords Go.Proofs.YtanpaipapcjpoaaW.PrintLast Go.Proofs.YtanpaipapcjpoaaW.PrintMore
set_option linter.unusedVariables false
set_option linter.unusedSimpArgs false
theorem putM_ok {m : M10} (ok : okM m = true) : putM m = putVar (bodyM m) (weakOf (bodyM m)) := by
 unfold putM putMsg
 exact if_pos ok
theorem want_eq (kind g : Int) (x0 x1 x2 x3 : Int) (j j' : Nat) (r0 : 0 ≤ x0 ∧ x0 < 1048576) (r1 : 0 ≤ x1 ∧ x1 < 1048576) (r2 : 0 ≤ x2 ∧ x2 < 1048576) (r3 : 0 ≤ x3 ∧ x3 < 1048576) : wantS kind g ([x0, x1, x2, x3], j) = (wantI kind ([g, x0, x1, x2, x3], j'), j) := by
 have a1 : wrap64 (x0 + wrap64 (x1 * 1048576)) = x0 + x1 * 1048576 := by rw [w64 (x := x1 * 1048576) (by omega) (by omega), w64 (by omega) (by omega)]
 have a2 : wrap64 (x2 + wrap64 (x3 * 1048576)) = x2 + x3 * 1048576 := by rw [w64 (x := x3 * 1048576) (by omega) (by omega), w64 (by omega) (by omega)]
 have b1 := or_half x0 x1 r0 r1
 have b2 := or_half x2 x3 r2 r3
 simp only [wantS, wantI, rd]
 rw [show ([g, x0, x1, x2, x3] : List Int).getD (Int.toNat 0) 0 = g from rfl, show ([g, x0, x1, x2, x3] : List Int).getD (Int.toNat 1) 0 = x0 from rfl, show ([g, x0, x1, x2, x3] : List Int).getD (Int.toNat 2) 0 = x1 from rfl, show ([g, x0, x1, x2, x3] : List Int).getD (Int.toNat 3) 0 = x2 from rfl, show ([g, x0, x1, x2, x3] : List Int).getD (Int.toNat 4) 0 = x3 from rfl, show ([x0, x1, x2, x3] : List Int).getD (Int.toNat 0) 0 = x0 from rfl, show ([x0, x1, x2, x3] : List Int).getD (Int.toNat 1) 0 = x1 from rfl, show ([x0, x1, x2, x3] : List Int).getD (Int.toNat 2) 0 = x2 from rfl, show ([x0, x1, x2, x3] : List Int).getD (Int.toNat 3) 0 = x3 from rfl, a1, a2, b1, b2]
theorem getVs_split {n : Nat} {b : List Int} {i : Nat} {acc : List Int} {q : List Int × Nat} (h : getVs (n + 1) b i acc = some q) : ∃ p : Int × Nat, getV b i = some p ∧ getVs n b p.2 (acc ++ [p.1]) = some q := by
 unfold getVs at h
 cases hg : getV b i with
 | none => rw [hg] at h; cases h
 | some p =>
  rw [hg] at h
  exact ⟨p, rfl, h⟩
theorem getV_at {b a t : List Int} {v : Int} {i : Nat} {p : Int × Nat} (e : b = a ++ (encVar v ++ t)) (ha : a.length = i) (h0 : 0 ≤ v ∧ v ≤ 1000000000000) (h : getV b i = some p) : p.1 = v ∧ (a ++ encVar v).length = p.2 := by
 have k := enc_getV a t v h0.1 h0.2
 rw [← e, ha, h] at k
 cases k
 exact ⟨rfl, by rw [List.length_append, ha]⟩
theorem body_down {b : List Int} (hb : Bytes b) {i : Nat} {kind : Int} {m : M10} (hk : b.take i = putVar [] kind) (hi : i ≤ b.length) (h : bodyI b i kind = some m) (ok : okM m = true) (hp : putM m = b) : ∃ j, bodyS b i kind = some (m, j) := by
 unfold bodyI at h
 unfold bodyS
 by_cases k1 : kind = 1
 ·rw [if_pos k1] at h ⊢
  cases hm : getMan b i with
  | none => rw [hm] at h; cases h
  | some q =>
   rw [hm] at h
   cases h
   exact ⟨_, rfl⟩
 rw [if_neg k1] at h ⊢
 by_cases k2 : kind = 2
 ·rw [if_pos k2] at h
  cases hv : getVs 5 b i [] with
  | none => rw [hv] at h; cases h
  | some q =>
   rw [hv] at h
   obtain ⟨g, hg, hv⟩ := getVs_split hv
   obtain ⟨p0, e0, hv⟩ := getVs_split hv
   obtain ⟨p1, e1, hv⟩ := getVs_split hv
   obtain ⟨p2, e2, hv⟩ := getVs_split hv
   obtain ⟨p3, e3, hv⟩ := getVs_split hv
   cases hv
   rw [hg]
   simp only [Option.bind_some]
   rw [if_pos k2]
   have kg := getV_put hb hg
   have em : wantI kind ([g.1, p0.1, p1.1, p2.1, p3.1], p3.2) = m := Option.some.inj h
   have ea : m.1 = kind := by rw [← em]; rfl
   have eg : m.2.1 = g.1 := by rw [← em]; rfl
   have so : setOk m.2.2.2.2.2.2.1 = true ∧ setOk m.2.2.2.2.2.2.2.1 = true := by
    have ok' := ok
    unfold okM msgOk msgVal at ok'
    rw [if_neg (by rw [ea]; exact k1), if_pos (by rw [ea]; exact k2)] at ok'
    split at ok'
    ·split at ok'
     ·split at ok'
      ·rename_i s1
       split at ok'
       ·rename_i s2
        exact ⟨s1, s2⟩
       ·cases ok'
      ·cases ok'
     ·cases ok'
    ·cases ok'
   have w1 := of_decide_eq_true so.1
   have w2 := of_decide_eq_true so.2
   have hbody : bodyM m = putVar (putVar (putVar (putVar (putVar (putVar [] kind) g.1) (half0 m.2.2.2.2.2.2.1)) (m.2.2.2.2.2.2.1 / 1048576)) (half0 m.2.2.2.2.2.2.2.1)) (m.2.2.2.2.2.2.2.1 / 1048576) := by
    unfold bodyM msgBody
    rw [if_neg (by rw [ea]; exact k1), if_pos (by rw [ea]; exact k2), ea, eg]
   have hput : b = putVar (bodyM m) (weakOf (bodyM m)) := by
    rw [← putM_ok ok, hp]
   have hw := weakOf_range (bodyM m)
   generalize weakOf (bodyM m) = w at hput hw
   rw [half0_eq, half0_eq] at hbody
   generalize hy0 : m.2.2.2.2.2.2.1 % 1048576 = y0 at hbody
   generalize hy1 : m.2.2.2.2.2.2.1 / 1048576 = y1 at hbody
   generalize hy2 : m.2.2.2.2.2.2.2.1 % 1048576 = y2 at hbody
   generalize hy3 : m.2.2.2.2.2.2.2.1 / 1048576 = y3 at hbody
   have r0 : 0 ≤ y0 ∧ y0 < 1048576 := by omega
   have r1 : 0 ≤ y1 ∧ y1 < 1048576 := by omega
   have r2 : 0 ≤ y2 ∧ y2 < 1048576 := by omega
   have r3 : 0 ≤ y3 ∧ y3 < 1048576 := by omega
   rw [← hk, ← kg.2.2.2, putVar_in (x := y3) (by omega), putVar_in (x := y2) (by omega), putVar_in (x := y1) (by omega), putVar_in (x := y0) (by omega)] at hbody
   rw [hbody, putVar_in (x := w) (by omega)] at hput
   have lt : (b.take g.2).length = g.2 := by rw [List.length_take]; omega
   generalize b.take g.2 = t at hput lt
   obtain ⟨q0, l0⟩ := getV_at (a := t) (v := y0) (t := encVar y1 ++ (encVar y2 ++ (encVar y3 ++ encVar w))) (by rw [hput]; simp only [List.append_assoc]) lt (by omega) e0
   obtain ⟨q1, l1⟩ := getV_at (a := t ++ encVar y0) (v := y1) (t := encVar y2 ++ (encVar y3 ++ encVar w)) (by rw [hput]; simp only [List.append_assoc]) l0 (by omega) e1
   obtain ⟨q2, l2⟩ := getV_at (a := t ++ encVar y0 ++ encVar y1) (v := y2) (t := encVar y3 ++ encVar w) (by rw [hput]; simp only [List.append_assoc]) l1 (by omega) e2
   obtain ⟨q3, l3⟩ := getV_at (a := t ++ encVar y0 ++ encVar y1 ++ encVar y2) (v := y3) (t := encVar w) (by rw [hput]; simp only [List.append_assoc]) l2 (by omega) e3
   have hh : getHs 4 b g.2 [] = some ([p0.1, p1.1, p2.1, p3.1], p3.2) := by
    simp only [getHs, e0, e1, e2, e3, Option.bind_some]
    rw [if_neg (by omega), if_neg (by omega), if_neg (by omega), if_neg (by omega)]
    rfl
   rw [hh]
   refine ⟨p3.2, ?_⟩
   simp only [Option.map_some]
   rw [want_eq kind g.1 p0.1 p1.1 p2.1 p3.1 p3.2 p3.2 (by omega) (by omega) (by omega) (by omega), em]
 rw [if_neg k2] at h
 by_cases k3 : kind = 3
 ·rw [if_pos k3] at h
  cases hv : getVs 2 b i [] with
  | none => rw [hv] at h; cases h
  | some q =>
   rw [hv] at h
   obtain ⟨g, hg, hv⟩ := getVs_split hv
   obtain ⟨p0, e0, hv⟩ := getVs_split hv
   cases hv
   rw [hg]
   simp only [Option.bind_some] at h ⊢
   rw [if_neg k2, if_pos k3, e0]
   simp only [Option.bind_some]
   cases hq : getPart b p0.2 6 with
   | none => rw [hq] at h; cases h
   | some z =>
    rw [hq] at h
    cases h
    exact ⟨_, rfl⟩
 rw [if_neg k3] at h
 by_cases k4 : kind = 4
 ·rw [if_pos k4] at h
  cases hg : getV b i with
  | none => rw [hg] at h; cases h
  | some g =>
   rw [hg] at h
   cases h
   simp only [Option.bind_some]
   rw [if_neg k2, if_neg k3]
   exact ⟨_, rfl⟩
 ·rw [if_neg k4] at h
  cases h
def getMsgS (b : List Int) : Option M10 := (getV b 0).bind fun k => if (b.length : Int) > 400 then none else (bodyS b k.2 k.1).bind fun p => if okM p.1 = true then (getV b p.2).bind fun w => if w.2 = b.length then (if w.1 = weakOf (b.take p.2) then some p.1 else none) else none else none
def getMsgI (b : List Int) : Option M10 := (getV b 0).bind fun k => if (b.length : Int) > 400 then none else (bodyI b k.2 k.1).bind fun m => if okM m = true then (if putM m = b then some m else none) else none
theorem getMsg_eq {b : List Int} (hb : Bytes b) : getMsgS b = getMsgI b := by
 unfold getMsgS getMsgI
 cases hg : getV b 0 with
 | none => rfl
 | some k =>
  have kg := getV_put hb hg
  have hk : b.take k.2 = putVar [] k.1 := kg.2.2.2
  simp only [Option.bind_some]
  by_cases big : (b.length : Int) > 400
  ·rw [if_pos big, if_pos big]
  rw [if_neg big, if_neg big]
  have down : ∀ m, bodyI b k.2 k.1 = some m → okM m = true → putM m = b → ∃ j, bodyS b k.2 k.1 = some (m, j) := fun m h ok hp => body_down hb hk kg.2.2.1 h ok hp
  have none_of : (∀ m j, bodyS b k.2 k.1 = some (m, j) → okM m = true → False) → ((bodyI b k.2 k.1).bind fun m => if okM m = true then (if putM m = b then some m else none) else none) = none := by
   intro no
   cases hI : bodyI b k.2 k.1 with
   | none => rfl
   | some m =>
    simp only [Option.bind_some]
    by_cases ok : okM m = true
    ·rw [if_pos ok]
     by_cases hp : putM m = b
     ·obtain ⟨j, hj⟩ := down m hI ok hp
      exact (no m j hj ok).elim
     ·rw [if_neg hp]
    ·rw [if_neg ok]
  cases hS : bodyS b k.2 k.1 with
  | none =>
   rw [none_of (fun m j h _ => by rw [hS] at h; cases h)]
   rfl
  | some p =>
   simp only [Option.bind_some]
   by_cases ok : okM p.1 = true
   ·obtain ⟨hI, hl, ht⟩ := body_up hb hk kg.2.2.1 hS ok
    rw [if_pos ok, hI]
    simp only [Option.bind_some]
    rw [if_pos ok]
    have hput : putM p.1 = b.take p.2 ++ encVar (weakOf (b.take p.2)) := by
     rw [putM_ok ok, ← ht]
     have := weakOf_range (b.take p.2)
     exact putVar_in (by omega)
    have hw := weakOf_range (b.take p.2)
    by_cases hp : putM p.1 = b
    ·rw [if_pos hp]
     rw [hput] at hp
     have e := enc_getV (b.take p.2) [] (weakOf (b.take p.2)) (by omega) (by omega)
     rw [List.append_nil, hp] at e
     have l1 : (b.take p.2).length = p.2 := by rw [List.length_take]; omega
     have l2 : (b.take p.2).length + (encVar (weakOf (b.take p.2))).length = b.length := by
      rw [← List.length_append, hp]
     rw [l2, l1] at e
     rw [e]
     simp only [Option.bind_some]
     rw [if_pos trivial, if_pos trivial]
    ·rw [if_neg hp]
     cases hz : getV b p.2 with
     | none => rfl
     | some z =>
      simp only [Option.bind_some]
      by_cases e1 : z.2 = b.length
      ·rw [if_pos e1]
       by_cases e2 : z.1 = weakOf (b.take p.2)
       ·exfalso
        have kz := getV_enc hb (show getV b p.2 = some (z.1, z.2) from hz)
        rw [e1, e2, List.take_length] at kz
        rw [hput] at hp
        exact hp kz.2.2.2.2.symm
       ·rw [if_neg e2]
      ·rw [if_neg e1]
   ·rw [if_neg ok, none_of (fun m j h o => by rw [hS] at h; cases h; exact ok o)]
theorem bodyS_sums {b : List Int} {i : Nat} {kind : Int} {p : M10 × Nat} (h : bodyS b i kind = some p) : p.1.2.2.2.2.2.1.length ≤ 40 := by
 unfold bodyS at h
 split at h
 ·cases hm : getMan b i with
  | none => rw [hm] at h; cases h
  | some q =>
   rw [hm] at h
   cases h
   exact getMan_fit hm
 ·cases hg : getV b i with
  | none => rw [hg] at h; cases h
  | some g =>
   rw [hg] at h
   simp only [Option.bind_some] at h
   split at h
   ·cases hv : getHs 4 b g.2 [] with
    | none => rw [hv] at h; cases h
    | some q =>
     rw [hv] at h
     cases h
     simp [wantS]
   ·split at h
    ·cases hj : getV b g.2 with
     | none => rw [hj] at h; cases h
     | some j =>
      rw [hj] at h
      simp only [Option.bind_some] at h
      cases hq : getPart b j.2 6 with
      | none => rw [hq] at h; cases h
      | some q =>
       rw [hq] at h
       cases h
       simp
    ·cases h
     simp
theorem bodyS_at {b : List Int} (hb : Bytes b) {i : Nat} {kind : Int} {p : M10 × Nat} (h : bodyS b i kind = some p) : p.2 ≤ b.length := by
 unfold bodyS at h
 split at h
 ·cases hm : getMan b i with
  | none => rw [hm] at h; cases h
  | some q =>
   rw [hm] at h
   cases h
   exact (getMan_enc hb hm).1
 ·cases hg : getV b i with
  | none => rw [hg] at h; cases h
  | some g =>
   rw [hg] at h
   simp only [Option.bind_some] at h
   split at h
   ·cases hv : getHs 4 b g.2 [] with
    | none => rw [hv] at h; cases h
    | some q =>
     rw [hv] at h
     cases h
     obtain ⟨_, _, _, _, _, _, _, _, _, hl, _, _⟩ := getHs4 hb hv
     exact hl
   ·split at h
    ·cases hj : getV b g.2 with
     | none => rw [hj] at h; cases h
     | some j =>
      rw [hj] at h
      simp only [Option.bind_some] at h
      cases hq : getPart b j.2 6 with
      | none => rw [hq] at h; cases h
      | some q =>
       rw [hq] at h
       cases h
       exact (getPart_enc hb hq).1
    ·cases h
     exact getV_le hb hg
theorem specGetMsg_ev {b : List Int} (hb : Bytes b) (hl : b.length ≤ 1048576) : Ev (fun q => spec_GetMsg.f q b) (resMsg (getMsgS b)) := by
 unfold spec_GetMsg.f getMsgS
 refine Ev.bind (specGetVar_ev hb hl 0 (by omega)) ?_
 have bad : ∀ x y, Ev (fun q => spec_GetMsg.j0 q b x y true) (resMsg none) := by
  intro x y
  refine Ev.step (fun q => rfl) ?_
  simp only [spec_GetMsg.j0]
  exact ev_pos trivial ev_some
 have bad1 : ∀ y a b' c d e l f g h m, Ev (fun q => spec_GetMsg.j1 q b y true a b' c d e l f g h m) (resMsg none) := by
  intro y a b' c d e l f g h m
  refine Ev.step (fun q => rfl) ?_
  simp only [spec_GetMsg.j1]
  exact ev_pos trivial ev_some
 cases hg : getV b 0 with
 | none => exact ev_neg Bool.false_ne_true (bad _ _)
 | some k =>
  have kl := getV_le hb hg
  refine ev_pos rfl ?_
  simp only [Option.bind_some, resV]
  by_cases big : (b.length : Int) > 400
  ·rw [if_pos big]
   exact Ev.step (fun q => rfl) (ev_pos (decide_eq_true big) ev_some)
  rw [if_neg big]
  obtain ⟨r, hr, hs⟩ := specBody_ev hb hl k.2 (by omega) k.1
  refine Ev.step (fun q => rfl) (ev_neg (fun h => big (of_decide_eq_true h)) (Ev.bind hr ?_))
  cases hS : bodyS b k.2 k.1 with
  | none =>
   rw [hS] at hs
   exact ev_neg (by rw [show r.2.2.2.2.2.2.2.2.2.2.2 = false from hs]; decide) (bad1 _ _ _ _ _ _ _ _ _ _ _)
  | some p =>
   rw [hS] at hs
   have hsum := bodyS_sums hS
   have hat := bodyS_at hb hS
   subst hs
   simp only [Option.bind_some]
   refine ev_pos trivial (Ev.bind (specMsgOk_ev _ _ _ _ _ _ _ _ _ _ (by omega)) ?_)
   change Ev (fun q => spec_GetMsg.j1 q b (p.2 : Int) (!(okM p.1)) _ _ _ _ _ _ _ _ _ _) _
   by_cases ok : okM p.1 = true
   ·rw [ok, if_pos rfl]
    refine Ev.step (fun q => rfl) ?_
    simp only [spec_GetMsg.j1, Bool.not_true]
    refine ev_neg (by decide) (Ev.bind (specGetVar_ev hb hl p.2 (by omega)) ?_)
    cases hz : getV b p.2 with
    | none => exact ev_neg Bool.false_ne_true ev_some
    | some z =>
     refine ev_pos rfl ?_
     simp only [Option.bind_some, resV]
     by_cases e1 : z.2 = b.length
     ·rw [if_pos e1]
      refine ev_pos (by omega) (ev_pos (by omega) (ev_pos (by omega) (Ev.bind (specWeakOf_ev _ (by rw [List.length_take]; omega) (pbytes_take hb _)) ?_)))
      rw [Int.toNat_natCast]
      refine ev_if (fun q => ?_) (fun q => ?_)
      ·rw [if_pos q]
       exact ev_some
      ·rw [if_neg q]
       exact ev_some
     ·rw [if_neg e1]
      exact ev_neg (by omega) ev_some
   ·rw [Bool.eq_false_iff.2 ok, if_neg (by decide)]
    exact bad1 _ _ _ _ _ _ _ _ _ _ _
theorem implGetMsg_ev {b : List Int} (hb : Bytes b) (hl : b.length ≤ 1048576) : Ev (fun q => impl_GetMsg.f q b) (resMsg (getMsgI b)) := by
 unfold impl_GetMsg.f getMsgI
 refine Ev.bind (implGetVar_ev hb hl 0 (by omega)) ?_
 cases hg : getV b 0 with
 | none =>
  refine ev_neg Bool.false_ne_true (Ev.step (fun q => rfl) ?_)
  simp only [impl_GetMsg.j0]
  exact ev_pos trivial ev_some
 | some k =>
  have kl := getV_le hb hg
  refine ev_pos rfl ?_
  simp only [Option.bind_some, resV]
  by_cases big : (b.length : Int) > 400
  ·rw [if_pos big]
   exact Ev.step (fun q => rfl) (ev_pos (decide_eq_true big) ev_some)
  rw [if_neg big]
  obtain ⟨r, hr, hs⟩ := implBody_ev hb hl k.2 kl k.1
  refine Ev.step (fun q => rfl) (ev_neg (fun h => big (of_decide_eq_true h)) (Ev.bind hr ?_))
  cases hI : bodyI b k.2 k.1 with
  | none =>
   rw [hI] at hs
   exact ev_neg (by rw [show r.2.2.2.2.2.2.2.2.2.2 = false from hs]; decide) ev_some
  | some m =>
   rw [hI] at hs
   have fit := bodyI_fit hb hl hI
   subst hs
   simp only [Option.bind_some, resMsg]
   refine ev_pos trivial (Ev.bind (implMsgOk_ev _ _ _ _ _ _ _ _ _ _ fit.1) (ev_if (fun ok => ?_) (fun ok => ?_)))
   ·rw [if_pos (show okM m = true from ok)]
    have pb := (putMsg_inv m.1 m.2.1 m.2.2.1 m.2.2.2.1 m.2.2.2.2.1 m.2.2.2.2.2.1 m.2.2.2.2.2.2.1 m.2.2.2.2.2.2.2.1 m.2.2.2.2.2.2.2.2.1 m.2.2.2.2.2.2.2.2.2 fit.2.1).2
    refine Ev.bind (implPutMsg_ev _ _ _ _ _ _ _ _ _ _ fit.2.1 fit.1 fit.2.2) (ev_then (sameB_eq pb hb) (ev_if (fun q => ?_) (fun q => ?_)))
    ·rw [if_pos (show putM m = b from of_decide_eq_true q)]
     exact ev_some
    ·rw [if_neg (show ¬ putM m = b from fun h => q (decide_eq_true h))]
     exact ev_some
   ·rw [if_neg (show ¬ okM m = true from ok)]
    exact ev_some
theorem getMsg_fit {b : List Int} (hb : Bytes b) (hl : b.length ≤ 1048576) {m : M10} (h : getMsgI b = some m) : Fit m ∧ okM m = true ∧ putM m = b := by
 unfold getMsgI at h
 cases hg : getV b 0 with
 | none => rw [hg] at h; cases h
 | some k =>
  rw [hg] at h
  simp only [Option.bind_some] at h
  split at h
  ·cases h
  ·cases hI : bodyI b k.2 k.1 with
   | none => rw [hI] at h; cases h
   | some z =>
    rw [hI] at h
    simp only [Option.bind_some] at h
    split at h
    ·rename_i ok
     split at h
     ·rename_i hp
      cases h
      exact ⟨bodyI_fit hb hl hI, ok, hp⟩
     ·cases h
    ·cases h
end Go.Proofs.Ytanpaipapcjpoaa.Pb
namespace Go.Proofs.Ytanpaipapcjpoaa.Pure
open Go.RowKit Go.Proofs.Ytanpaipapcjpoaa Go.Proofs.Ytanpaipapcjpoaa.Q Go.Proofs.Ytanpaipapcjpoaa.Pb Go.Proofs.YtanpaipapcjpoaaW.PrintWords Go.Proofs.YtanpaipapcjpoaaW.PrintLast Go.Proofs.YtanpaipapcjpoaaW.PrintMore
set_option linter.unusedVariables false
set_option linter.unusedSimpArgs false
theorem getD_ext {α : Type} {a b : List α} (z : α) (h : a.length = b.length) (hp : ∀ i, i < a.length → a.getD i z = b.getD i z) : a = b := by
 refine List.ext_getElem h (fun i h1 h2 => ?_)
 have := hp i h1
 rw [List.getD_eq_getElem?_getD, List.getD_eq_getElem?_getD, List.getElem?_eq_getElem h1, List.getElem?_eq_getElem h2] at this
 simpa using this
theorem same_ev (a b : List Int) (ha : a.length ≤ 1048576) : ∃ s, Ev (fun k => laws_same.f k a b) s ∧ (s = true ↔ a = b) := by
 unfold laws_same.f
 by_cases h : (a.length : Int) = (b.length : Int)
 ·refine ⟨_, ev_pos h (loop_all (fun k i => laws_same.l0 k a b i) a.length (fun i => decide (a.getD i 0 = b.getD i 0)) ?_ ?_ ?_), ?_⟩
  ·intro i r hi hp hr
   refine Ev.step (fun k => rfl) (ev_pos (by omega) (ev_pos (by omega) (ev_pos (by omega) (ev_pos (by simp only [rd, Int.toNat_natCast]; exact of_decide_eq_true hp) ?_))))
   rw [w64 (by omega) (by omega)]
   exact hr
  ·intro i hi hp
   exact Ev.step (fun k => rfl) (ev_pos (by omega) (ev_pos (by omega) (ev_pos (by omega) (ev_neg (by simp only [rd, Int.toNat_natCast]; exact of_decide_eq_false hp) ev_some))))
  ·exact Ev.step (fun k => rfl) (ev_neg (by omega) ev_some)
  ·constructor
   ·intro q
    exact getD_ext 0 (by omega) (fun i hi => of_decide_eq_true (List.all_eq_true.1 q i (List.mem_range.2 hi)))
   ·intro q
    exact List.all_eq_true.2 (fun i _ => decide_eq_true (by rw [q]))
 ·exact ⟨_, ev_neg h ev_some, ⟨fun q => (by cases q), fun q => (h (by rw [q])).elim⟩⟩
theorem sameSums_ev (a b : List S83) (ha : a.length ≤ 1048576) : ∃ s, Ev (fun k => laws_sameSums.f k a b) s ∧ (s = true ↔ a = b) := by
 unfold laws_sameSums.f
 by_cases h : (a.length : Int) = (b.length : Int)
 ·refine ⟨_, ev_pos h (loop_all (fun k i => laws_sameSums.l0 k a b i) a.length (fun i => !(!(((a.getD i z83).f0) == ((b.getD i z83).f0)) || (!(((a.getD i z83).f1) == ((b.getD i z83).f1))))) ?_ ?_ ?_), ?_⟩
  ·intro i r hi hp hr
   refine Ev.step (fun k => rfl) (ev_pos (by omega) (ev_pos (by omega) (ev_pos (by omega) (ev_neg (by simp only [rd_T83, Int.toNat_natCast]; rw [Bool.not_eq_true']at hp; rw [hp]; exact Bool.false_ne_true) ?_))))
   rw [w64 (by omega) (by omega)]
   exact hr
  ·intro i hi hp
   exact Ev.step (fun k => rfl) (ev_pos (by omega) (ev_pos (by omega) (ev_pos (by omega) (ev_pos (by simp only [rd_T83, Int.toNat_natCast]; rw [Bool.not_eq_false'] at hp; exact hp) ev_some))))
  ·exact Ev.step (fun k => rfl) (ev_neg (by omega) ev_some)
  ·constructor
   ·intro q
    refine getD_ext z83 (by omega) (fun i hi => ?_)
    have := List.all_eq_true.1 q i (List.mem_range.2 hi)
    generalize a.getD i z83 = x at this
    generalize b.getD i z83 = y at this
    obtain ⟨x0, x1⟩ := x
    obtain ⟨y0, y1⟩ := y
    simp at this
    rw [this.1, this.2]
   ·intro q
    exact List.all_eq_true.2 (fun i _ => by rw [q]; simp)
 ·exact ⟨_, ev_neg h ev_some, ⟨fun q => (by cases q), fun q => (h (by rw [q])).elim⟩⟩
theorem sameMan_ev (a b c : Int) (l : List S83) (a' b' c' : Int) (l' : List S83) (hl : l.length ≤ 1048576) : ∃ s, Ev (fun k => laws_sameMan.f k a b c l a' b' c' l') s ∧ (s = true ↔ a = a' ∧ b = b' ∧ c = c' ∧ l = l') := by
 unfold laws_sameMan.f
 by_cases h1 : a = a'
 ·by_cases h2 : b = b'
  ·by_cases h3 : c = c'
   ·obtain ⟨s, e, hs⟩ := sameSums_ev l l' hl
    exact ⟨s, ev_pos h1 (ev_pos h2 (ev_pos h3 (Ev.bind e ev_some))), by rw [hs]; exact ⟨fun q => ⟨h1, h2, h3, q⟩, fun q => q.2.2.2⟩⟩
   ·exact ⟨_, ev_pos h1 (ev_pos h2 (ev_neg h3 ev_some)), ⟨fun q => (by cases q), fun q => (h3 q.2.2.1).elim⟩⟩
  ·exact ⟨_, ev_pos h1 (ev_neg h2 ev_some), ⟨fun q => (by cases q), fun q => (h2 q.2.1).elim⟩⟩
 ·exact ⟨_, ev_neg h1 ev_some, ⟨fun q => (by cases q), fun q => (h1 q.1).elim⟩⟩
theorem sameMsg_ev (m m' : M10) (hl : m.2.2.2.2.2.1.length ≤ 1048576) (hm : m.2.2.2.2.2.2.2.2.2.length ≤ 1048576) : ∃ s, Ev (fun k => laws_sameMsg.f k m.1 m.2.1 m.2.2.1 m.2.2.2.1 m.2.2.2.2.1 m.2.2.2.2.2.1 m.2.2.2.2.2.2.1 m.2.2.2.2.2.2.2.1 m.2.2.2.2.2.2.2.2.1 m.2.2.2.2.2.2.2.2.2 m'.1 m'.2.1 m'.2.2.1 m'.2.2.2.1 m'.2.2.2.2.1 m'.2.2.2.2.2.1 m'.2.2.2.2.2.2.1 m'.2.2.2.2.2.2.2.1 m'.2.2.2.2.2.2.2.2.1 m'.2.2.2.2.2.2.2.2.2) s ∧ (s = true ↔ m = m') := by
 unfold laws_sameMsg.f
 obtain ⟨a, b, c, d, e, l, f, g, h, n⟩ := m
 obtain ⟨a', b', c', d', e', l', f', g', h', n'⟩ := m'
 simp only at hl hm ⊢
 have no : ∀ {p : Prop}, (((a, b, c, d, e, l, f, g, h, n) : M10) = (a', b', c', d', e', l', f', g', h', n') → p) → ¬ p → ((false = true) ↔ ((a, b, c, d, e, l, f, g, h, n) : M10) = (a', b', c', d', e', l', f', g', h', n')) := fun k np => ⟨fun q => (by cases q), fun q => (np (k q)).elim⟩
 by_cases h1 : a = a'
 ·by_cases h2 : b = b'
  ·obtain ⟨s, es, hs⟩ := sameMan_ev c d e l c' d' e' l' hl
   by_cases h3 : s = true
   ·by_cases h4 : f = f'
    ·by_cases h5 : g = g'
     ·by_cases h6 : h = h'
      ·obtain ⟨t, et, ht⟩ := same_ev n n' hm
       refine ⟨t, ev_pos h1 (ev_pos h2 (Ev.bind es (ev_pos h3 (ev_pos h4 (ev_pos h5 (ev_pos h6 (Ev.bind et ev_some))))))), ?_⟩
       obtain ⟨k1, k2, k3, k4⟩ := hs.1 h3
       rw [ht, h1, h2, k1, k2, k3, k4, h4, h5, h6]
       exact ⟨fun z => (by rw [z]), fun z => (by cases z; rfl)⟩
      ·exact ⟨_, ev_pos h1 (ev_pos h2 (Ev.bind es (ev_pos h3 (ev_pos h4 (ev_pos h5 (ev_neg h6 ev_some)))))), no (fun q => (by cases q; rfl)) h6⟩
     ·exact ⟨_, ev_pos h1 (ev_pos h2 (Ev.bind es (ev_pos h3 (ev_pos h4 (ev_neg h5 ev_some))))), no (fun q => (by cases q; rfl)) h5⟩
    ·exact ⟨_, ev_pos h1 (ev_pos h2 (Ev.bind es (ev_pos h3 (ev_neg h4 ev_some)))), no (fun q => (by cases q; rfl)) h4⟩
   ·exact ⟨_, ev_pos h1 (ev_pos h2 (Ev.bind es (ev_neg h3 ev_some))), no (fun q => (by cases q; exact hs.2 ⟨rfl, rfl, rfl, rfl⟩)) h3⟩
  ·exact ⟨_, ev_pos h1 (ev_neg h2 ev_some), no (fun q => (by cases q; rfl)) h2⟩
 ·exact ⟨_, ev_neg h1 ev_some, no (fun q => (by cases q; rfl)) h1⟩
theorem shl_bit (k : Nat) (hk : k < 8) : ∃ n : Nat, 1 ≤ n ∧ n < 256 ∧ shl .u8 1 (k : Int) = (n : Int) := by
 have : k = 0 ∨ k = 1 ∨ k = 2 ∨ k = 3 ∨ k = 4 ∨ k = 5 ∨ k = 6 ∨ k = 7 := by omega
 rcases this with h | h | h | h | h | h | h | h <;> subst h
 ·exact ⟨1, by decide, by decide, by decide⟩
 ·exact ⟨2, by decide, by decide, by decide⟩
 ·exact ⟨4, by decide, by decide, by decide⟩
 ·exact ⟨8, by decide, by decide, by decide⟩
 ·exact ⟨16, by decide, by decide, by decide⟩
 ·exact ⟨32, by decide, by decide, by decide⟩
 ·exact ⟨64, by decide, by decide, by decide⟩
 ·exact ⟨128, by decide, by decide, by decide⟩
theorem xor_other (x : Int) (hx : 0 ≤ x ∧ x ≤ 255) (k : Nat) (hk : k < 8) : (0 ≤ Go.bits .xor .u8 x (shl .u8 1 (k : Int)) ∧ Go.bits .xor .u8 x (shl .u8 1 (k : Int)) ≤ 255) ∧ Go.bits .xor .u8 x (shl .u8 1 (k : Int)) ≠ x := by
 obtain ⟨n, h1, h2, e⟩ := shl_bit k hk
 obtain ⟨a, rfl⟩ := Int.eq_ofNat_of_zero_le hx.1
 rw [e]
 refine ⟨u8_range _, ?_⟩
 rw [Go.u8_xor_nat a n (by omega) h2]
 intro h
 have h' : a ^^^ n = a := by omega
 have h3 : a ^^^ (a ^^^ n) = a ^^^ a := congrArg (fun y => a ^^^ y) h'
 rw [← Nat.xor_assoc, Nat.xor_self, Nat.zero_xor] at h3
 omega
theorem big_eq (x0 : List Int) : laws_big.f x0 = some (decide ((x0.length : Int) > 1048576)) := rfl
theorem at_ok (x0 : List Int) (hx : x0.length ≤ 1048576) (g : Bytes x0) (k : Nat) (hk : k < 8) : ∃ y, laws_at.f x0 (k : Int) = some y ∧ 0 ≤ y := by
 unfold laws_at.f
 by_cases h : (k : Int) < (x0.length : Int)
 ·have hr := rd_byte g (j := k) (by omega)
  rw [if_pos h, if_pos (by omega)]
  exact ⟨_, rfl, by rw [w64 (by omega) (by omega)]; omega⟩
 ·rw [if_neg h]
  refine ⟨_, rfl, ?_⟩
  rw [w64 (x := (k : Int) * 31) (by omega) (by omega), w64 (x := (x0.length : Int) * 7) (by omega) (by omega), w64 (by omega) (by omega)]
  exact (tmod_bound (by omega) (by omega)).1
theorem bits_loop (x0 b : List Int) (hx : x0.length ≤ 1048576) (g : Bytes x0) (hb : Bytes b) (hl : b.length ≤ 1000) (m : M10) (fit : Fit m) (ok : okM m = true) (hp : putM m = b) : ∀ (d k : Nat), k + d = 8 →
  Ev (fun q => laws_FnMsgsBent.l0 q x0 b (k : Int) m.1 m.2.1 m.2.2.1 m.2.2.2.1 m.2.2.2.2.1 m.2.2.2.2.2.1 m.2.2.2.2.2.2.1 m.2.2.2.2.2.2.2.1 m.2.2.2.2.2.2.2.2.1 m.2.2.2.2.2.2.2.2.2) true := by
 have last : ∀ (x : Int) (y : Bool), y = false → Ev (fun q => laws_FnMsgsBent.j2 q x0 b x y m.1 m.2.1 m.2.2.1 m.2.2.2.1 m.2.2.2.2.1 m.2.2.2.2.2.1 m.2.2.2.2.2.2.1 m.2.2.2.2.2.2.2.1 m.2.2.2.2.2.2.2.2.1 m.2.2.2.2.2.2.2.2.2) true := by
  intro x y hy
  obtain ⟨s, es, hs⟩ := same_ev b b (by omega)
  have pm := implPutMsg_ev m.1 m.2.1 m.2.2.1 m.2.2.2.1 m.2.2.2.2.1 m.2.2.2.2.2.1 m.2.2.2.2.2.2.1 m.2.2.2.2.2.2.2.1 m.2.2.2.2.2.2.2.2.1 m.2.2.2.2.2.2.2.2.2 fit.2.1 fit.1 fit.2.2
  rw [show putMsg m.1 m.2.1 m.2.2.1 m.2.2.2.1 m.2.2.2.2.1 m.2.2.2.2.2.1 m.2.2.2.2.2.2.1 m.2.2.2.2.2.2.2.1 m.2.2.2.2.2.2.2.2.1 m.2.2.2.2.2.2.2.2.2 = b from hp] at pm
  refine Ev.step (fun q => rfl) (ev_neg (by rw [hy]; exact Bool.false_ne_true) (Ev.bind (implMsgOk_ev _ _ _ _ _ _ _ _ _ _ fit.1) (ev_pos ok (Ev.bind pm (Ev.bind es (ev_eq ev_some ?_))))))
  exact hs.2 rfl
 intro d
 induction d with
 | zero =>
  intro k hk
  exact Ev.step (fun q => rfl) (ev_neg (by omega) (last _ _ rfl))
 | succ d ih =>
  intro k hk
  refine Ev.step (fun q => rfl) (ev_pos (by omega) ?_)
  by_cases h0 : (b.length : Int) > 0
  ·obtain ⟨y, ey, hy⟩ := at_ok x0 hx g k (by omega)
   have ti := tmod_bound (a := (b.length : Int)) hy (by omega)
   generalize hti : Int.tmod y (b.length : Int) = i at ti
   obtain ⟨j, rfl⟩ := Int.eq_ofNat_of_zero_le ti.1
   have hj : j < b.length := by omega
   have hr := rd_byte hb hj
   have hxo := xor_other _ hr k (by omega)
   have hset : Bytes (b.set j (Go.bits .xor .u8 (rd b (j : Int)) (shl .u8 1 (k : Int)))) := by
    intro y hy
    rcases List.mem_or_eq_of_mem_set hy with q | q
    ·exact hb y q
    ·rw [q]; exact hxo.1
   have hne : b.set j (Go.bits .xor .u8 (rd b (j : Int)) (shl .u8 1 (k : Int))) ≠ b := by
    intro h
    have h2 := congrArg (fun l : List Int => l.getD j 0) h
    simp only [List.getD_eq_getElem?_getD, List.getElem?_set_self hj, Option.getD_some] at h2
    apply hxo.2
    rw [h2]
    simp only [rd, Int.toNat_natCast, List.getD_eq_getElem?_getD]
   have hgl : (b.set j (Go.bits .xor .u8 (rd b (j : Int)) (shl .u8 1 (k : Int)))).length ≤ 1048576 := by rw [List.length_set]; omega
   have eg := implGetMsg_ev hset hgl
   have next := ih (k + 1) (by omega)
   have g1 : ¬ (b.length : Int) = 0 := by omega
   have g2 : 0 ≤ (j : Int) := by omega
   have g3 : (j : Int) < (b.length : Int) := by omega
   have g4 : 0 ≤ (k : Int) := by omega
   have g5 : ([] : List Int).length + b.length < 140737488355328 := by simp; omega
   have e1 : wrap64 ((k : Int) + 1) = ((k + 1 : Nat) : Int) := w_one (by omega)
   refine Ev.step (fun q => rfl) (ev_pos (decide_eq_true h0) (ev_then rfl (ev_pos g5 (ev_then rfl (ev_then ey ?_)))))
   simp only [List.nil_append]
   rw [hti]
   refine ev_neg g1 (ev_pos g2 (ev_pos g3 (ev_pos g4 ?_)))
   rw [Int.toNat_natCast, e1]
   refine Ev.bind eg ?_
   cases hm : getMsgI (b.set j (Go.bits .xor .u8 (rd b (j : Int)) (shl .u8 1 (k : Int)))) with
   | none => exact ev_neg Bool.false_ne_true next
   | some x =>
    have fx := getMsg_fit hset hgl hm
    obtain ⟨s, es, hs⟩ := sameMsg_ev x m fx.1.1 fx.1.2.2
    refine ev_pos rfl (Ev.bind es (ev_neg (fun q => ?_) next))
    apply hne
    rw [← fx.2.2, hs.1 q, hp]
  ·have fin := last (k : Int) (decide ((b.length : Int) > 0)) (decide_eq_false h0)
   exact fin
theorem FnMsgsBent : ∀ (x0 : List Int), (Opn.Each (fun n : Int => (Lit.int .u8 n).wf = true)) x0 → ∃ k, laws_FnMsgsBent.f k x0 = some true := by
 intro x0 g0
 refine Ev.rounds ?_
 have g : Bytes x0 := by
  intro x hx
  have h := g0.2 x hx
  simp [Lit.wf, IntKind.min, IntKind.max, IntKind.signed, IntKind.bits] at h
  omega
 unfold laws_FnMsgsBent.f
 refine ev_then (big_eq x0) ?_
 refine ev_bool (fun _ => ev_some) (fun hb => ?_)
 have hx : x0.length ≤ 1048576 := by have := of_decide_eq_false hb; omega
 obtain ⟨b, e1, B, hl⟩ := drawGetMsg_ok x0 hx
 have i0 := implGetMsg_ev B (by omega)
 have s0 := specGetMsg_ev B (by omega)
 rw [getMsg_eq B] at s0
 refine Ev.bind e1 (Ev.bind i0 (Ev.bind s0 ?_))
 cases ho : getMsgI b with
 | none =>
  obtain ⟨s, es, hs⟩ := sameMsg_ev (0, 0, 0, 0, 0, [], 0, 0, 0, []) (0, 0, 0, 0, 0, [], 0, 0, 0, []) (by simp) (by simp)
  have s1 : s = true := hs.2 rfl
  subst s1
  refine Ev.bind es (ev_pos rfl ?_)
  have fin : ∀ (y : Bool), y = false → Ev (fun k => laws_FnMsgsBent.j0 k x0 b y y 0 0 0 0 0 [] 0 0 0 []) true := by
   intro y hy
   exact Ev.step (fun k => rfl) (ev_neg (by rw [hy]; exact Bool.false_ne_true) (ev_neg (by rw [hy]; exact Bool.false_ne_true) (Ev.bind es ev_some)))
  exact fin false rfl
 | some m =>
  have fm := getMsg_fit B (by omega) ho
  obtain ⟨s, es, hs⟩ := sameMsg_ev m m fm.1.1 fm.1.2.2
  have s1 : s = true := hs.2 rfl
  subst s1
  refine Ev.bind es (ev_pos rfl ?_)
  have fin : ∀ (y z : Bool), y = true → z = false → Ev (fun k => laws_FnMsgsBent.j0 k x0 b y z m.1 m.2.1 m.2.2.1 m.2.2.2.1 m.2.2.2.2.1 m.2.2.2.2.2.1 m.2.2.2.2.2.2.1 m.2.2.2.2.2.2.2.1 m.2.2.2.2.2.2.2.2.1 m.2.2.2.2.2.2.2.2.2) true := by
   intro y z hy hz
   exact Ev.step (fun k => rfl) (ev_neg (by rw [hz]; exact Bool.false_ne_true) (ev_pos hy (bits_loop x0 b hx g B hl m fm.1 fm.2.1 fm.2.2 8 0 rfl)))
  exact fin true false rfl rfl
end Go.Proofs.Ytanpaipapcjpoaa.Pure
