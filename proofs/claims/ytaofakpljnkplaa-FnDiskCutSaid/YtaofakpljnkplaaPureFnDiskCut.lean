/- From whatever is left behind a fall, the new image can be committed: for all bytes that are drawn of. No further condition. -/
import Derived.Test.YtaofakpljnkplaaQ37
import Derived.Test.YtaofakpljnkplaaTyp
import Derived.Test.YtaofakpljnkplaaQ34
import Derived.Test.YtaofakpljnkplaaQ28
import Derived.Test.YtaofakpljnkplaaQ26
import Derived.Test.YtaofakpljnkplaaQ25
import Derived.Test.YtaofakpljnkplaaQ24
import Derived.Test.YtaofakpljnkplaaQ19
import Derived.RowKit
import Derived.IntWalk
import Derived.Test.YtaofakpljnkplaaWWords
import Derived.Test.YtaofakpljnkplaaQ21
import Derived.Test.YtaofakpljnkplaaQ4
import Derived.Test.YtaofakpljnkplaaQ6
import Derived.Test.YtaofakpljnkplaaQ23
import Derived.Test.YtaofakpljnkplaaQ22
import Derived.Test.YtaofakpljnkplaaQ27
import Derived.Test.YtaofakpljnkplaaQ11
import Derived.Test.YtaofakpljnkplaaQ30
import Derived.Test.YtaofakpljnkplaaQ9
import Derived.Test.YtaofakpljnkplaaQ10
import Derived.Test.YtaofakpljnkplaaQ8
import Derived.Test.YtaofakpljnkplaaQ7
import Derived.Laws.BitsLemmas
import Derived.Test.YtaofakpljnkplaaQ29
import Derived.Test.YtaofakpljnkplaaQ17
import Derived.Test.YtaofakpljnkplaaQ3
import Derived.Test.YtaofakpljnkplaaQ18
import Derived.Test.YtaofakpljnkplaaQ36
import Derived.Test.YtaofakpljnkplaaQ32
import Derived.Test.YtaofakpljnkplaaQ33
import Derived.Test.YtaofakpljnkplaaQ35
/- Plain lemmas on answers with rounds: a loop that goes up through numbers comes to what its steps make. No condition. -/
namespace Go.Proofs.Ytaofakpljnkplaa.Pb
open Go.RowKit Go.Proofs.YtaofakpljnkplaaW.PrintWords
set_option linter.unusedVariables false
theorem w64 {x : Int} (h0 : -9223372036854775808 ≤ x) (h1 : x ≤ 9223372036854775807) : wrap64 x = x := by unfold wrap64; omega
section
variable {α β ρ σ : Type}
theorem ev_pos {c : Prop} [Decidable c] {f g : Nat → Option α} {r : α} (hc : c) (h : Ev f r) : Ev (fun k => if c then f k else g k) r := Ev.congr (fun k => if_pos hc) h
theorem ev_neg {c : Prop} [Decidable c] {f g : Nat → Option α} {r : α} (hc : ¬ c) (h : Ev g r) : Ev (fun k => if c then f k else g k) r := Ev.congr (fun k => if_neg hc) h
theorem ev_true {f g : Nat → Option α} {r : α} (h : Ev f r) : Ev (fun k => if true = true then f k else g k) r := ev_pos rfl h
theorem ev_false {f g : Nat → Option α} {r : α} (h : Ev g r) : Ev (fun k => if false = true then f k else g k) r := ev_neg (by decide) h
theorem ev_some {r : α} : Ev (fun _ => some r) r := Ev.now r
theorem ev_of {a : Option α} {r : α} (h : a = some r) : Ev (fun _ => a) r := ⟨0, fun _ _ => h⟩
theorem ev_then {a : Option α} {x : α} {f : Nat → α → Option β} {r : β} (h : a = some x) (k : Ev (fun n => f n x) r) : Ev (fun n => a.bind (f n)) r := Ev.bind (ev_of h) k
theorem ev_bool {b : Bool} {f g : Nat → Option α} {r : α} (h1 : b = true → Ev f r) (h2 : b = false → Ev g r) : Ev (fun k => if b = true then f k else g k) r := by
 cases b with
 | true => exact ev_true (h1 rfl)
 | false => exact ev_false (h2 rfl)
theorem ev_if {c : Prop} [Decidable c] {f g : Nat → Option α} {r : α} (h1 : c → Ev f r) (h2 : ¬ c → Ev g r) : Ev (fun k => if c then f k else g k) r := by
 by_cases h : c
 ·exact ev_pos h (h1 h)
 ·exact ev_neg h (h2 h)
theorem ev_eq {f : Nat → Option α} {r r' : α} (h : Ev f r) (e : r = r') : Ev f r' := e ▸ h
def iter (n : Nat) (next : Nat → σ → σ) (s : σ) : σ := (List.range n).foldl (fun s i => next i s) s
theorem iter_zero (next : Nat → σ → σ) (s : σ) : iter 0 next s = s := rfl
theorem iter_succ (n : Nat) (next : Nat → σ → σ) (s : σ) : iter (n + 1) next s = next n (iter n next s) := by
 unfold iter
 rw [List.range_succ, List.foldl_append]
 rfl
theorem loop_up (g : Nat → σ → Int → Option ρ) (n : Nat) (next : Nat → σ → σ) (Inv : Nat → σ → Prop) (s0 : σ) (r : ρ)
  (h0 : Inv 0 s0) (hinv : ∀ i s, i < n → Inv i s → Inv (i + 1) (next i s))
  (hstep : ∀ (i : Nat) s r, i < n → Inv i s → Ev (fun k => g k (next i s) ((i : Int) + 1)) r → Ev (fun k => g k s (i : Int)) r)
  (hend : Inv n (iter n next s0) → Ev (fun k => g k (iter n next s0) (n : Int)) r) : Ev (fun k => g k s0 0) r := by
 have hall : ∀ i, i ≤ n → Inv i (iter i next s0) := by
  intro i
  induction i with
  | zero => intro _; exact h0
  | succ i ih => intro hi; rw [iter_succ]; exact hinv i _ (by omega) (ih (by omega))
 have key : ∀ d i, i + d = n → Ev (fun k => g k (iter i next s0) (i : Int)) r := by
  intro d
  induction d with
  | zero =>
   intro i hi
   obtain rfl : i = n := by omega
   exact hend (hall i (Nat.le_refl _))
  | succ d ih =>
   intro i hi
   refine hstep i _ r (by omega) (hall i (by omega)) ?_
   have := ih (i + 1) (by omega)
   rw [iter_succ] at this
   simpa using this
 exact key n 0 (by omega)
theorem loop_find (g : Nat → Int → Option ρ) (n : Nat) (p : Nat → Bool) (res : Nat → ρ) (r0 : ρ)
  (hyes : ∀ i, i < n → p i = true → Ev (fun k => g k (i : Int)) (res i))
  (hno : ∀ i r, i < n → p i = false → Ev (fun k => g k ((i : Int) + 1)) r → Ev (fun k => g k (i : Int)) r)
  (hend : Ev (fun k => g k (n : Int)) r0) : Ev (fun k => g k 0) (match (List.range n).find? p with | some i => res i | none => r0) := by
 have key : ∀ d i, i + d = n → Ev (fun k => g k (i : Int)) (match (List.range' i d).find? p with | some i => res i | none => r0) := by
  intro d
  induction d with
  | zero =>
   intro i hi
   obtain rfl : i = n := by omega
   exact hend
  | succ d ih =>
   intro i hi
   rw [List.range'_succ, List.find?_cons]
   cases hp : p i with
   | true => exact hyes i (by omega) hp
   | false => exact hno i _ (by omega) hp (by have := ih (i + 1) (by omega); simpa using this)
 have := key n 0 (by omega)
 rwa [← List.range_eq_range'] at this
theorem loop_all (g : Nat → Int → Option Bool) (n : Nat) (p : Nat → Bool)
  (hyes : ∀ i r, i < n → p i = true → Ev (fun k => g k ((i : Int) + 1)) r → Ev (fun k => g k (i : Int)) r)
  (hno : ∀ i, i < n → p i = false → Ev (fun k => g k (i : Int)) false)
  (hend : Ev (fun k => g k (n : Int)) true) : Ev (fun k => g k 0) ((List.range n).all p) := by
 have h := loop_find g n (fun i => !p i) (fun _ => false) true (fun i hi hp => hno i hi (by simpa using hp)) (fun i r hi hp h => hyes i r hi (by simpa using hp) h) hend
 refine ev_eq h ?_
 cases hf : (List.range n).find? (fun i => !p i) with
 | some i =>
  have h1 := List.find?_some hf
  have h2 := List.mem_of_find?_eq_some hf
  symm
  rw [List.all_eq_false]
  exact ⟨i, h2, by simpa using h1⟩
 | none =>
  symm
  rw [List.all_eq_true]
  intro x hx
  have := List.find?_eq_none.1 hf x hx
  simpa using this
end
theorem iter_set {α : Type} (n : Nat) (f : Nat → α) (l : List α) (hl : l.length = n) : iter n (fun i (s : List α) => s.set i (f i)) l = (List.range n).map f := by
 have key : ∀ m, m ≤ n → iter m (fun i (s : List α) => s.set i (f i)) l = (List.range m).map f ++ l.drop m := by
  intro m
  induction m with
  | zero => intro _; simp [iter_zero]
  | succ m ih =>
   intro hm
   rw [iter_succ, ih (by omega)]
   apply List.ext_getElem?
   intro j
   simp only [List.getElem?_set, List.getElem?_append, List.length_map, List.length_range, List.length_append, List.length_drop, List.getElem?_map, List.getElem?_drop]
   by_cases h1 : m = j
   ·subst h1
    simp
    omega
   ·by_cases h2 : j < m
    ·simp [h1, h2, show j < m + 1 by omega]
    ·have h3 : ¬ j < m + 1 := by omega
     simp [h1, h2, h3]
     congr 1
     omega
 have := key n (Nat.le_refl _)
 rw [this, List.drop_of_length_le (by omega), List.append_nil]
end Go.Proofs.Ytaofakpljnkplaa.Pb
/- Bytes as plain lists: the laws' copies and comparisons of them. No condition beyond the size that the laws ask. -/
namespace Go.Proofs.Ytaofakpljnkplaa.Pb
open Go.RowKit Go.Proofs.Ytaofakpljnkplaa Go.Proofs.Ytaofakpljnkplaa.Q Go.Proofs.YtaofakpljnkplaaW.PrintWords Go.Proofs.YtaofakpljnkplaaW.PrintLast
set_option linter.unusedVariables false
set_option linter.unusedSimpArgs false
end Go.Proofs.Ytaofakpljnkplaa.Pb
/- Disks: the laws' copies of them, the size that they ask, and their comparisons. No condition beyond that size. -/
namespace Go.Proofs.Ytaofakpljnkplaa.Pb
open Go.RowKit Go.Proofs.Ytaofakpljnkplaa Go.Proofs.Ytaofakpljnkplaa.Q Go.Proofs.YtaofakpljnkplaaW.PrintWords Go.Proofs.YtaofakpljnkplaaW.PrintLast
set_option linter.unusedVariables false
set_option linter.unusedSimpArgs false
def PutsOk (n : Nat) (l : List S104) : Prop := l.length ≤ n ∧ ∀ p ∈ l, p.f2.length ≤ n
theorem getD_mem {α : Type} {l : List α} {i : Nat} (d : α) (h : i < l.length) : l.getD i d ∈ l := by
 rw [List.getD_eq_getElem?_getD, List.getElem?_eq_getElem h]
 exact List.getElem_mem _
theorem putsOk_le {m n : Nat} (h : m ≤ n) {l : List S104} (g : PutsOk m l) : PutsOk n l := ⟨by have := g.1; omega, fun p hp => by have := g.2 p hp; omega⟩
end Go.Proofs.Ytaofakpljnkplaa.Pb
/- Copies of disks and of writes: they come to the same. No condition beyond the rows' lengths. -/
namespace Go.Proofs.Ytaofakpljnkplaa.Pb
open Go.RowKit Go.Proofs.Ytaofakpljnkplaa Go.Proofs.Ytaofakpljnkplaa.Q Go.Proofs.YtaofakpljnkplaaW.PrintWords Go.Proofs.YtaofakpljnkplaaW.PrintLast
set_option linter.unusedVariables false
set_option linter.unusedSimpArgs false
theorem rd_midp (pre : List S104) (p : S104) (t : List S104) : rd_T104 (pre ++ p :: t) (pre.length : Int) = p := by
 simp only [rd_T104, Int.toNat_natCast, List.getD_eq_getElem?_getD]
 rw [List.getElem?_append_right (Nat.le_refl _), Nat.sub_self]
 rfl
theorem implCopyPut_eq (a b : Int) (l : List Int) (c d e : Int) (h : l.length ≤ 4194304) : impl_copyPut.f a b l c d e = some (a, b, l, c, d, e) := by
 unfold impl_copyPut.f impl_cloned.f
 rw [if_pos (by omega)]
 rfl
theorem implCopy_key (c d e : Int) (u v : List Int) (n : Int) : ∀ (t pre : List S104), (∀ p ∈ t, p.f2.length ≤ 4194304) → pre.length + t.length ≤ 4194304 → n = (pre.length : Int) + t.length →
  Ev (fun k => impl_copyDisk.l0 k (pre ++ t) n (pre.length : Int) u v c d e pre) (u, v, c, d, e, pre ++ t) := by
 intro t
 induction t with
 | nil =>
  intro pre _ _ hn
  exact Ev.step (fun k => rfl) (ev_neg (by simp only [List.length_nil] at hn; omega) (ev_eq ev_some (by simp)))
 | cons p t ih =>
  intro pre hp hl hn
  simp only [List.length_cons] at hl hn
  refine Ev.step (fun k => rfl) (ev_pos (by omega) (ev_pos (by omega) (ev_pos (by simp only [List.length_append, List.length_cons]; omega) ?_)))
  simp only [rd_midp]
  refine ev_then (implCopyPut_eq _ _ _ _ _ _ (hp p (List.mem_cons_self ..))) (ev_pos (by omega) ?_)
  rw [w64 (x := (pre.length : Int) + 1) (by omega) (by omega)]
  have := ih (pre ++ [p]) (fun q hq => hp q (List.mem_cons_of_mem _ hq)) (by simp only [List.length_append, List.length_cons, List.length_nil]; omega) (by simp only [List.length_append, List.length_cons, List.length_nil]; omega)
  simp only [List.append_assoc, List.singleton_append, List.length_append, List.length_cons, List.length_nil] at this
  exact this
theorem implCopy_ev (a b : List Int) (c d e : Int) (l : List S104) (ha : a.length ≤ 4194304) (hb : b.length ≤ 4194304) (hl : PutsOk 4194304 l) : Ev (fun k => impl_copyDisk.f k a b c d e l) (a, b, c, d, e, l) := by
 unfold impl_copyDisk.f impl_cloned.f
 rw [if_pos (by omega), if_pos (by omega)]
 exact ev_then rfl (ev_then rfl (implCopy_key c d e a b l.length l [] hl.2 (by simpa using hl.1) (by simp)))
end Go.Proofs.Ytaofakpljnkplaa.Pb
/- Whole numbers: an int's bounds, tests of an interval, what is left of a size. No condition. -/
namespace Go.Proofs.Ytaofakpljnkplaa.Pb
open Go.RowKit Go.Proofs.Ytaofakpljnkplaa Go.Proofs.Ytaofakpljnkplaa.Q Go.Proofs.YtaofakpljnkplaaW.PrintWords Go.Proofs.YtaofakpljnkplaaW.PrintLast
set_option linter.unusedVariables false
set_option linter.unusedSimpArgs false
theorem within_eq (a lo hi : Int) : impl_within.f a lo hi = some (decide (lo ≤ a ∧ a ≤ hi)) := by
 unfold impl_within.f
 by_cases h : lo ≤ a
 ·rw [if_pos h]; simp [h]
 ·rw [if_neg h]; simp [h]
end Go.Proofs.Ytaofakpljnkplaa.Pb
/- What disks are good: records, writes, the disk whole. No condition beyond the rows' lengths. -/
namespace Go.Proofs.Ytaofakpljnkplaa.Pb
open Go.RowKit Go.Proofs.Ytaofakpljnkplaa Go.Proofs.Ytaofakpljnkplaa.Q Go.Proofs.YtaofakpljnkplaaW.PrintWords Go.Proofs.YtaofakpljnkplaaW.PrintLast
set_option linter.unusedVariables false
set_option linter.unusedSimpArgs false
theorem not_dec {p : Prop} [Decidable p] (h : ¬ p) : ¬ (decide p = true) := fun e => h (of_decide_eq_true e)
def recordOk (a b c : Int) : Bool := decide (0 ≤ a ∧ a ≤ 1000000 ∧ 0 ≤ b ∧ b ≤ 1 ∧ 0 ≤ c ∧ c ≤ 240)
theorem implIsSlot_eq (a : Int) : impl_isSlot.f a = some (decide (0 ≤ a ∧ a ≤ 1)) := by
 unfold impl_isSlot.f
 by_cases h : a = 0
 ·rw [if_pos h]
  exact congrArg some (decide_eq_true (by omega)).symm
 ·rw [if_neg h]
  refine congrArg some ?_
  by_cases h' : a = 1
  ·subst h'; rfl
  ·rw [decide_eq_false (by omega)]
   exact beq_eq_false_iff_ne.mpr h'
theorem implRecord_eq (a b c : Int) : impl_isRecord.f a b c = some (recordOk a b c) := by
 unfold impl_isRecord.f impl_isGen.f recordOk
 simp only [within_eq, implIsSlot_eq, Option.bind_some]
 by_cases h1 : 0 ≤ a ∧ a ≤ 1000000
 ·rw [if_pos (decide_eq_true h1)]
  by_cases h2 : 0 ≤ b ∧ b ≤ 1
  ·rw [if_pos (decide_eq_true h2)]
   exact congrArg some (decide_eq_decide.2 (by omega))
  ·rw [if_neg (not_dec h2)]
   exact congrArg some (decide_eq_false (by omega)).symm
 ·rw [if_neg (not_dec h1)]
  exact congrArg some (decide_eq_false (by omega)).symm
def putOk (p : S104) : Bool := if p.f0 = 2 then (decide (p.f1 = 0 ∧ p.f2.length = 0) && recordOk p.f3.f0 p.f3.f1 p.f3.f2) else decide (0 ≤ p.f0 ∧ p.f0 ≤ 1 ∧ 0 ≤ p.f1 ∧ p.f1 + p.f2.length ≤ 240 ∧ p.f3.f0 = 0 ∧ p.f3.f1 = 0 ∧ p.f3.f2 = 0)
theorem zero3 (a b c : Int) : (a == 0 && (b == 0 && (c == 0))) = decide (a = 0 ∧ b = 0 ∧ c = 0) := by
 by_cases h1 : a = 0 <;> by_cases h2 : b = 0 <;> by_cases h3 : c = 0 <;> simp [h1, h2, h3]
theorem implPut_eq (p : S104) (hl : p.f2.length ≤ 9223372036854775807) : impl_isPut.f p.f0 p.f1 p.f2 p.f3.f0 p.f3.f1 p.f3.f2 = some (putOk p) := by
 unfold impl_isPut.f putOk
 simp only [within_eq, implIsSlot_eq, implRecord_eq, zero3, Option.bind_some]
 by_cases h : p.f0 = 2
 ·rw [if_pos h, if_pos h]
  by_cases h1 : p.f1 = 0
  ·rw [if_pos h1]
   by_cases h2 : p.f2.length = 0
   ·rw [if_pos (by omega), decide_eq_true ⟨h1, h2⟩]; rfl
   ·rw [if_neg (by omega), decide_eq_false (by omega)]; rfl
  ·rw [if_neg h1, decide_eq_false (by omega)]; rfl
 ·rw [if_neg h, if_neg h]
  by_cases h1 : 0 ≤ p.f0 ∧ p.f0 ≤ 1
  ·rw [if_pos (decide_eq_true h1)]
   by_cases h2 : p.f3.f0 = 0 ∧ p.f3.f1 = 0 ∧ p.f3.f2 = 0
   ·rw [if_pos (decide_eq_true h2), w64 (by omega) (by omega)]
    exact congrArg some (decide_eq_decide.2 (by omega))
   ·rw [if_neg (not_dec h2)]
    exact congrArg some (decide_eq_false (by omega)).symm
  ·rw [if_neg (not_dec h1)]
   exact congrArg some (decide_eq_false (by omega)).symm
def slotOf (a b : List Int) (s : Int) : List Int := if s = 0 then a else b
def putsOk (l : List S104) : Bool := (List.range l.length).all (fun i => putOk (l.getD i z104))
def diskOk (a b : List Int) (c d e : Int) (l : List S104) : Bool := decide (a.length ≤ 240 ∧ b.length ≤ 240 ∧ l.length ≤ 200 ∧ e ≤ (slotOf a b d).length) && (recordOk c d e && putsOk l)
theorem diskOk_false {a b : List Int} {c d e : Int} {l : List S104} (h : ¬ (a.length ≤ 240 ∧ b.length ≤ 240 ∧ l.length ≤ 200 ∧ e ≤ (slotOf a b d).length)) : false = diskOk a b c d e l := by
 unfold diskOk
 rw [decide_eq_false h]; rfl
theorem diskOk_rec {a b : List Int} {c d e : Int} {l : List S104} (h : recordOk c d e = false) : false = diskOk a b c d e l := by
 unfold diskOk
 rw [h, Bool.false_and, Bool.and_false]
theorem diskOk_puts {a b : List Int} {c d e : Int} {l : List S104} (h : a.length ≤ 240 ∧ b.length ≤ 240 ∧ l.length ≤ 200 ∧ e ≤ (slotOf a b d).length) (h' : recordOk c d e = true) : putsOk l = diskOk a b c d e l := by
 unfold diskOk
 rw [decide_eq_true h, h', Bool.true_and, Bool.true_and]
theorem implPutsBad_ev (l : List S104) (hl : PutsOk 4194304 l) : Ev (fun k => impl_Put_88.f k l) (!putsOk l) := by
 have one : ∀ i, i < l.length → impl_DiskOk_1.f (l.getD i z104).f0 (l.getD i z104).f1 (l.getD i z104).f2 (l.getD i z104).f3.f0 (l.getD i z104).f3.f1 (l.getD i z104).f3.f2 = some (!putOk (l.getD i z104)) := by
  intro i hi
  unfold impl_DiskOk_1.f
  rw [implPut_eq _ (by have := hl.2 _ (getD_mem z104 hi); omega)]
  rfl
 have h := loop_find (fun k i => impl_Put_94.l0 k l (l.length : Int) i) l.length (fun i => !putOk (l.getD i z104)) (fun i => (i : Int)) (-1) (fun i hi hp => by
   refine Ev.step (fun k => rfl) (ev_pos (by omega) (ev_pos (by omega) (ev_pos (by omega) ?_)))
   simp only [rd_T104, Int.toNat_natCast]
   exact ev_then (one i hi) (ev_pos hp ev_some)) (fun i r hi hp h => by
   refine Ev.step (fun k => rfl) (ev_pos (by omega) (ev_pos (by omega) (ev_pos (by omega) ?_)))
   simp only [rd_T104, Int.toNat_natCast]
   refine ev_then (one i hi) (ev_neg (by rw [hp]; decide) ?_)
   rw [w64 (by have := hl.1; omega) (by have := hl.1; omega)]
   exact h) (Ev.step (fun k => rfl) (ev_neg (by omega) ev_some))
 unfold impl_Put_88.f impl_Put_94.f
 refine Ev.bind h (ev_eq ev_some ?_)
 unfold putsOk
 cases hf : (List.range l.length).find? (fun i => !putOk (l.getD i z104)) with
 | some i =>
  have h1 := List.find?_some hf
  have h2 := List.mem_of_find?_eq_some hf
  have h3 : (List.range l.length).all (fun i => putOk (l.getD i z104)) = false := by
   rw [List.all_eq_false]
   exact ⟨i, h2, by simpa using h1⟩
  rw [h3]
  exact decide_eq_true (Int.natCast_nonneg i)
 | none =>
  have h3 : (List.range l.length).all (fun i => putOk (l.getD i z104)) = true := by
   rw [List.all_eq_true]
   intro x hx
   have := List.find?_eq_none.1 hf x hx
   simpa using this
  rw [h3]
  rfl
theorem slot_yes {d : Int} (h : d = 0) : impl_Disk_slot.f d 0 = some () := if_pos (Or.inl ⟨h, rfl⟩)
theorem slot_no {d : Int} (h : ¬ d = 0) : impl_Disk_slot.f d 1 = some () := if_pos (Or.inr ⟨h, rfl⟩)
theorem implDiskOk_ev (a b : List Int) (c d e : Int) (l : List S104) (hl : PutsOk 4194304 l) : Ev (fun k => impl_DiskOk.f k a b c d e l) (diskOk a b c d e l) := by
 unfold impl_DiskOk.f
 by_cases h1 : (a.length : Int) > 240
 ·exact ev_pos h1 (ev_eq ev_some (diskOk_false (by omega)))
 refine ev_neg h1 ?_
 by_cases h2 : (b.length : Int) > 240
 ·exact ev_pos h2 (ev_eq ev_some (diskOk_false (by omega)))
 refine ev_neg h2 (ev_then (implRecord_eq c d e) ?_)
 by_cases h3 : recordOk c d e = true
 ·refine ev_pos h3 ?_
  have puts : (a.length ≤ 240 ∧ b.length ≤ 240 ∧ l.length ≤ 200 ∧ e ≤ (slotOf a b d).length) → Ev (fun k => (impl_Put_88.f k l).bind fun t => some (!t)) (diskOk a b c d e l) :=
   fun h => Ev.bind (implPutsBad_ev l hl) (ev_eq ev_some (by rw [Bool.not_not]; exact diskOk_puts h h3))
  by_cases h4 : d = 0
  ·have hs : slotOf a b d = a := if_pos h4
   refine ev_pos h4 (ev_then (slot_yes h4) ?_)
   by_cases h5 : e > (a.length : Int)
   ·exact ev_pos h5 (ev_eq ev_some (diskOk_false (by rw [hs]; omega)))
   refine ev_neg h5 ?_
   by_cases h6 : (l.length : Int) ≤ 200
   ·exact ev_pos h6 (puts (by rw [hs]; omega))
   ·exact ev_neg h6 (ev_eq ev_some (diskOk_false (by omega)))
  ·have hs : slotOf a b d = b := if_neg h4
   refine ev_neg h4 (ev_then (slot_no h4) ?_)
   by_cases h5 : e > (b.length : Int)
   ·exact ev_pos h5 (ev_eq ev_some (diskOk_false (by rw [hs]; omega)))
   refine ev_neg h5 ?_
   by_cases h6 : (l.length : Int) ≤ 200
   ·exact ev_pos h6 (puts (by rw [hs]; omega))
   ·exact ev_neg h6 (ev_eq ev_some (diskOk_false (by omega)))
 ·exact ev_neg h3 (ev_eq ev_some (diskOk_rec (by simpa using h3)))
end Go.Proofs.Ytaofakpljnkplaa.Pb
/- A write added to a disk's writes: the program's and the reference's come to the same. No condition beyond the rows' lengths. -/
namespace Go.Proofs.Ytaofakpljnkplaa.Pb
open Go.RowKit Go.Proofs.Ytaofakpljnkplaa Go.Proofs.Ytaofakpljnkplaa.Q Go.Proofs.YtaofakpljnkplaaW.PrintWords Go.Proofs.YtaofakpljnkplaaW.PrintLast
set_option linter.unusedVariables false
set_option linter.unusedSimpArgs false
def added (a b : List Int) (c d e : Int) (l : List S104) (p : S104) : List Int × List Int × Int × Int × Int × List S104 × Bool :=
 if diskOk a b c d e (l ++ [p]) = true then (a, b, c, d, e, l ++ [p], true) else (a, b, c, d, e, l, false)
theorem putsOk_add {n : Nat} {l : List S104} {p : S104} (h : PutsOk n l) (hp : p.f2.length ≤ n + 1) : PutsOk (n + 1) (l ++ [p]) := by
 refine ⟨by simpa using h.1, fun q hq => ?_⟩
 rcases List.mem_append.1 hq with h1 | h1
 ·have := h.2 q h1; omega
 ·rw [List.mem_singleton] at h1
  subst h1
  exact hp
theorem implAdd_ev (a b : List Int) (c d e : Int) (l : List S104) (p : S104) (ha : a.length ≤ 1048576) (hb : b.length ≤ 1048576) (hl : PutsOk 1048576 l) (hp : p.f2.length ≤ 1048576) :
  Ev (fun k => impl_Disk_with.f k a b c d e l p.f0 p.f1 p.f2 p.f3.f0 p.f3.f1 p.f3.f2) (added a b c d e l p) := by
 unfold impl_Disk_with.f added
 have hc := implCopy_ev a b c d e l (by omega) (by omega) (putsOk_le (by omega) hl)
 refine Ev.bind hc (ev_then (implCopyPut_eq _ _ _ _ _ _ (by omega)) (ev_pos (by have := hl.1; simp only; omega) (ev_then rfl ?_)))
 refine Ev.bind (implDiskOk_ev a b c d e (l ++ [p]) (putsOk_le (by omega) (putsOk_add (p := p) hl (by omega)))) (ev_if (fun h => ev_eq ev_some (by rw [if_pos h])) (fun h => ?_))
 rw [if_neg h]
 exact Ev.bind hc ev_some
end Go.Proofs.Ytaofakpljnkplaa.Pb
/- A write to a slot added to a disk's writes: the program's and the reference's come to the same. No condition beyond the rows' lengths. -/
namespace Go.Proofs.Ytaofakpljnkplaa.Pb
open Go.RowKit Go.Proofs.Ytaofakpljnkplaa Go.Proofs.Ytaofakpljnkplaa.Q Go.Proofs.YtaofakpljnkplaaW.PrintWords Go.Proofs.YtaofakpljnkplaaW.PrintLast
set_option linter.unusedVariables false
set_option linter.unusedSimpArgs false
def putBytes (a b : List Int) (c d e : Int) (l : List S104) (s t : Int) (x : List Int) : List Int × List Int × Int × Int × Int × List S104 × Bool :=
 if 0 ≤ s ∧ s ≤ 1 then added a b c d e l ⟨s, t, x, ⟨0, 0, 0⟩⟩ else (a, b, c, d, e, l, false)
theorem implPutBytes_ev (a b : List Int) (c d e : Int) (l : List S104) (s t : Int) (x : List Int) (ha : a.length ≤ 1048576) (hb : b.length ≤ 1048576) (hl : PutsOk 1048576 l) (hx : x.length ≤ 1048576) :
  Ev (fun k => impl_PutBytes.f k a b c d e l s t x) (putBytes a b c d e l s t x) := by
 unfold impl_PutBytes.f putBytes
 refine ev_then (implIsSlot_eq s) ?_
 by_cases h : 0 ≤ s ∧ s ≤ 1
 ·rw [if_pos h]
  exact ev_pos (decide_eq_true h) (Ev.bind (implAdd_ev a b c d e l ⟨s, t, x, ⟨0, 0, 0⟩⟩ ha hb hl hx) ev_some)
 ·rw [if_neg h]
  exact ev_neg (not_dec h) (Ev.bind (implCopy_ev a b c d e l (by omega) (by omega) (putsOk_le (by omega) hl)) ev_some)
end Go.Proofs.Ytaofakpljnkplaa.Pb
/- Sizes of blocks, how many there are, where each lies. No condition. -/
namespace Go.Proofs.Ytaofakpljnkplaa.Pb
open Go.RowKit Go.Proofs.Ytaofakpljnkplaa Go.Proofs.Ytaofakpljnkplaa.Q Go.Proofs.YtaofakpljnkplaaW.PrintWords Go.Proofs.YtaofakpljnkplaaW.PrintLast
set_option linter.unusedVariables false
set_option linter.unusedSimpArgs false
def sizeOk (a b : Int) : Bool := decide (2 ≤ a ∧ a ≤ 6) && decide (0 ≤ b ∧ b ≤ 40 * a)
theorem implSizeOk_eq (a b : Int) : impl_SizeOk.f a b = some (sizeOk a b) := by
 unfold impl_SizeOk.f sizeOk
 rw [within_eq]
 simp only [Option.bind_some]
 by_cases h : 2 ≤ a ∧ a ≤ 6
 ·rw [if_pos (by simpa using h), within_eq, w64 (by omega) (by omega)]
  simp [h, Int.mul_comm]
 ·rw [if_neg (by simpa using h)]
  simp [h]
theorem sizeOk_iff {a b : Int} : sizeOk a b = true ↔ (2 ≤ a ∧ a ≤ 6) ∧ 0 ≤ b ∧ b ≤ 40 * a := by simp [sizeOk, and_assoc]
def blocks (a b : Int) : Int := if sizeOk a b = true then (b + a - 1) / a else 0
theorem ceil_le {a b : Int} (h : (2 ≤ a ∧ a ≤ 6) ∧ 0 ≤ b ∧ b ≤ 40 * a) : 0 ≤ (b + a - 1) / a ∧ (b + a - 1) / a ≤ 40 := by
 constructor
 ·exact Int.ediv_nonneg (by omega) (by omega)
 ·have : (b + a - 1) / a < 41 := by
   apply Int.ediv_lt_of_lt_mul (by omega)
   omega
  omega
theorem implBlocks_eq (a b : Int) : impl_Blocks.f a b = some (blocks a b) := by
 unfold impl_Blocks.f blocks
 rw [implSizeOk_eq]
 simp only [Option.bind_some]
 by_cases h : sizeOk a b = true
 ·have h' := sizeOk_iff.1 h
  have c := ceil_le h'
  rw [if_pos h, if_pos h]
  unfold impl_CeilDiv.f
  rw [within_eq]
  simp only [Option.bind_some]
  rw [if_pos (by simp; omega), within_eq]
  simp only [Option.bind_some]
  rw [if_pos (by simp; omega), if_neg (by omega), w64 (x := b + a) (by omega) (by omega), w64 (x := b + a - 1) (by omega) (by omega), Int.tdiv_eq_ediv_of_nonneg (by omega), w64 (by omega) (by omega)]
  rfl
 ·rw [if_neg h, if_neg h]
theorem blocks_range (a b : Int) : 0 ≤ blocks a b ∧ blocks a b ≤ 40 := by
 unfold blocks
 split
 ·rename_i h
  exact ceil_le (sizeOk_iff.1 h)
 ·omega
theorem blocks_pos {a b : Int} (h : 0 < blocks a b) : (2 ≤ a ∧ a ≤ 6) ∧ 0 ≤ b ∧ b ≤ 40 * a := by
 unfold blocks at h
 split at h
 ·rename_i q
  exact sizeOk_iff.1 q
 ·omega
def spanOf (a b i : Int) : Int × Int := if 0 ≤ i ∧ i ≤ blocks a b - 1 then (i * a, if b - i * a < a then b - i * a else a) else (0, 0)
theorem span_at {a b i : Int} (h : 0 ≤ i ∧ i ≤ blocks a b - 1) : 0 ≤ i * a ∧ i * a < b ∧ b ≤ 240 ∧ 2 ≤ a ∧ a ≤ 6 := by
 have q := blocks_pos (a := a) (b := b) (by omega)
 have e : blocks a b = (b + a - 1) / a := by
  unfold blocks
  rw [if_pos (sizeOk_iff.2 q)]
 rw [e] at h
 have m : (b + a - 1) / a * a ≤ b + a - 1 := Int.ediv_mul_le _ (by omega)
 have m2 : (i + 1) * a ≤ (b + a - 1) / a * a := Int.mul_le_mul_of_nonneg_right (by omega) (by omega)
 have m3 : 0 ≤ i * a := Int.mul_nonneg h.1 (by omega)
 rw [Int.add_mul] at m2
 omega
theorem spanOf_range (a b i : Int) : 0 ≤ (spanOf a b i).1 ∧ (spanOf a b i).1 ≤ 240 ∧ 0 ≤ (spanOf a b i).2 ∧ (spanOf a b i).2 ≤ 6 ∧ (spanOf a b i).1 + (spanOf a b i).2 ≤ 240 := by
 unfold spanOf
 split
 ·rename_i h
  have := span_at h
  simp only
  split <;> omega
 ·simp
theorem implSpanOf_eq (a b i : Int) : impl_SpanOf.f a b i = some (spanOf a b i) := by
 unfold impl_SpanOf.f spanOf
 have r := blocks_range a b
 rw [implBlocks_eq]
 simp only [Option.bind_some]
 rw [w64 (x := blocks a b - 1) (by omega) (by omega), within_eq]
 simp only [Option.bind_some]
 by_cases h : 0 ≤ i ∧ i ≤ blocks a b - 1
 ·have s := span_at h
  rw [if_pos (by simpa using h), if_pos h, w64 (x := i * a) (by omega) (by omega), w64 (x := b - i * a) (by omega) (by omega)]
  rfl
 ·rw [if_neg (by simpa using h), if_neg h]
end Go.Proofs.Ytaofakpljnkplaa.Pb
/- Blocks of an image. No condition beyond the row's length. -/
namespace Go.Proofs.Ytaofakpljnkplaa.Pb
open Go.RowKit Go.Proofs.Ytaofakpljnkplaa Go.Proofs.Ytaofakpljnkplaa.Q Go.Proofs.YtaofakpljnkplaaW.PrintWords Go.Proofs.YtaofakpljnkplaaW.PrintLast
set_option linter.unusedVariables false
set_option linter.unusedSimpArgs false
def block (n : Int) (l : List Int) (i : Int) : List Int := (l.take ((spanOf n l.length i).1 + (spanOf n l.length i).2).toNat).drop (spanOf n l.length i).1.toNat
theorem span_zero {a b i : Int} (h : (spanOf a b i).2 = 0) : spanOf a b i = (0, 0) := by
 unfold spanOf at h ⊢
 split at h
 ·rename_i q
  have s := span_at q
  simp only at h
  split at h <;> omega
 ·rename_i q
  rw [if_neg q]
theorem block_nil {n : Int} {l : List Int} {i : Int} (h : (spanOf n l.length i).2 = 0) : block n l i = [] := by
 unfold block
 rw [span_zero h]
 simp
theorem block_in (n : Int) (l : List Int) (i : Int) : (spanOf n l.length i).1 + (spanOf n l.length i).2 ≤ l.length := by
 unfold spanOf
 split
 ·rename_i h
  have s := span_at h
  simp only
  split <;> omega
 ·simp
theorem block_length (n : Int) (l : List Int) (i : Int) : (block n l i).length ≤ 240 := by
 have := spanOf_range n l.length i
 unfold block
 rw [List.length_drop, List.length_take]
 omega
theorem implBlockAt_eq (l : List Int) (n i : Int) (hl : l.length ≤ 1048576) : impl_BlockAt.f l n i = some (block n l i, !decide ((spanOf n l.length i).2 = 0)) := by
 have r := spanOf_range n l.length i
 have hs := block_in n l i
 have pl := block_length n l i
 unfold impl_BlockAt.f
 rw [implSpanOf_eq]
 simp only [Option.bind_some]
 by_cases h : (spanOf n l.length i).2 = 0
 ·rw [if_pos h, block_nil h, decide_eq_true h]; rfl
 ·unfold block at pl
  rw [if_neg h, decide_eq_false h]
  unfold impl_Slice.f impl_cloned.f
  rw [within_eq]
  simp only [Option.bind_some]
  rw [if_pos (decide_eq_true (by omega)), w64 (x := (l.length : Int) - (spanOf n l.length i).1) (by omega) (by omega), within_eq]
  simp only [Option.bind_some]
  rw [if_pos (decide_eq_true (by omega)), w64 (by omega) (by omega), if_pos (by omega), if_pos (by omega), if_pos (by omega), if_pos (by omega)]
  rfl
end Go.Proofs.Ytaofakpljnkplaa.Pb
/- Blocks of an image. No condition beyond the row's length. -/
namespace Go.Proofs.Ytaofakpljnkplaa.Pb
open Go.RowKit Go.Proofs.Ytaofakpljnkplaa Go.Proofs.Ytaofakpljnkplaa.Q Go.Proofs.YtaofakpljnkplaaW.PrintWords Go.Proofs.YtaofakpljnkplaaW.PrintLast
end Go.Proofs.Ytaofakpljnkplaa.Pb
/- An image staged on a disk, block by block: the program's and the reference's come to the same. No condition beyond the rows' lengths. -/
namespace Go.Proofs.Ytaofakpljnkplaa.Pb
open Go.RowKit Go.Proofs.Ytaofakpljnkplaa Go.Proofs.Ytaofakpljnkplaa.Q Go.Proofs.YtaofakpljnkplaaW.PrintWords Go.Proofs.YtaofakpljnkplaaW.PrintLast
set_option linter.unusedVariables false
set_option linter.unusedSimpArgs false
def stageP (d n : Int) (x : List Int) (i : Nat) : S104 := ⟨1 - d, (i : Int) * n, block n x (i : Int), ⟨0, 0, 0⟩⟩
def stageL (a b : List Int) (c d e n : Int) (x : List Int) : Nat → Nat → List S104 → Option (List S104)
 | 0, _, l => some l
 | r + 1, i, l => if diskOk a b c d e (l ++ [stageP d n x i]) = true then stageL a b c d e n x r (i + 1) (l ++ [stageP d n x i]) else none
def staged (a b : List Int) (c d e : Int) : Option (List S104) → List Int × List Int × Int × Int × Int × List S104 × Bool
 | some l => (a, b, c, d, e, l, true)
 | none => (a, b, c, d, e, [], false)
def stage (a b : List Int) (c d e : Int) (l : List S104) (x : List Int) (n : Int) : List Int × List Int × Int × Int × Int × List S104 × Bool :=
 if diskOk a b c d e l = true ∧ l.length = 0 ∧ sizeOk n x.length = true then staged a b c d e (stageL a b c d e n x (blocks n x.length).toNat 0 []) else (a, b, c, d, e, l, false)
theorem stageP_len (d n : Int) (x : List Int) (i : Nat) : (stageP d n x i).f2.length ≤ 240 := block_length n x (i : Int)
def StOk (i : Nat) (l : List S104) : Prop := l.length ≤ i ∧ ∀ p ∈ l, p.f2.length ≤ 240
theorem StOk.ok {i : Nat} {l : List S104} (h : StOk i l) (hi : i ≤ 4000) : PutsOk 4096 l := ⟨by have := h.1; omega, fun p hp => by have := h.2 p hp; omega⟩
theorem StOk.next {i : Nat} {l : List S104} (h : StOk i l) (d n : Int) (x : List Int) : StOk (i + 1) (l ++ [stageP d n x i]) := by
 refine ⟨by have := h.1; simp only [List.length_append, List.length_cons, List.length_nil]; omega, fun p hp => ?_⟩
 rcases List.mem_append.1 hp with q | q
 ·exact h.2 p q
 ·rw [List.mem_singleton] at q
  subst q
  exact stageP_len d n x i
theorem put_added (a b : List Int) (c d e : Int) (l : List S104) (n : Int) (x : List Int) (i : Nat) (hd : 0 ≤ d ∧ d ≤ 1) : putBytes a b c d e l (1 - d) ((i : Int) * n) (block n x (i : Int)) = added a b c d e l (stageP d n x i) := by
 unfold putBytes
 rw [if_pos (by omega)]
 rfl
theorem implStage_key (a b : List Int) (c d e n : Int) (x : List Int) (hx : x.length ≤ 1048576) (hd : 0 ≤ d ∧ d ≤ 1) (ha : a.length ≤ 1048576) (hb : b.length ≤ 1048576) : ∀ (r i : Nat) (l : List S104), (i : Int) + r = blocks n x.length → StOk i l →
  Ev (fun k => impl_StageAll.l0 k x n (blocks n x.length) (i : Int) a b c d e [] a b c d e l) (staged a b c d e (stageL a b c d e n x r i l)) := by
 intro r
 have rg := blocks_range n x.length
 induction r with
 | zero =>
  intro i l hi hl
  exact Ev.step (fun k => rfl) (ev_neg (by omega) (ev_eq ev_some rfl))
 | succ r ih =>
  intro i l hi hl
  have sp := span_at (a := n) (b := x.length) (i := (i : Int)) (by omega)
  refine Ev.step (fun k => rfl) (ev_pos (by omega) (ev_then (implBlockAt_eq x n i hx) ?_))
  have e1 : impl_Spare.f a b c d e [] = some (1 - d) := by
   unfold impl_Spare.f
   rw [w64 (by omega) (by omega)]
  refine ev_then e1 ?_
  rw [w64 (x := (i : Int) * n) (by omega) (by omega)]
  have pb := implPutBytes_ev a b c d e l (1 - d) ((i : Int) * n) (block n x (i : Int)) ha hb (putsOk_le (by omega) (hl.ok (by omega))) (by have := block_length n x (i : Int); omega)
  rw [put_added a b c d e l n x i hd] at pb
  refine Ev.bind pb ?_
  unfold added stageL
  by_cases q : diskOk a b c d e (l ++ [stageP d n x i]) = true
  ·rw [if_pos q, if_pos q, w64 (x := (i : Int) + 1) (by omega) (by omega)]
   exact ev_pos rfl (ih (i + 1) _ (by omega) (hl.next d n x))
  ·rw [if_neg q, if_neg q]
   exact ev_neg (fun q => by cases q) (Ev.bind (implCopy_ev a b c d e [] (by omega) (by omega) ⟨by simp, fun p hp => by cases hp⟩) ev_some)
theorem diskOk_d {a b : List Int} {c d e : Int} {l : List S104} (h : diskOk a b c d e l = true) : 0 ≤ d ∧ d ≤ 1 := by
 unfold diskOk at h
 rw [Bool.and_eq_true, Bool.and_eq_true] at h
 have := of_decide_eq_true h.2.1
 omega
theorem stOk_nil : StOk 0 ([] : List S104) := ⟨Nat.zero_le _, fun p hp => by cases hp⟩
theorem implStage_ev (a b : List Int) (c d e : Int) (l : List S104) (x : List Int) (n : Int) (ha : a.length ≤ 1048576) (hb : b.length ≤ 1048576) (hl : PutsOk 1048576 l) (hx : x.length ≤ 1048576) : Ev (fun k => impl_StageAll.f k a b c d e l x n) (stage a b c d e l x n) := by
 unfold impl_StageAll.f stage
 have rg := blocks_range n x.length
 have cp := implCopy_ev a b c d e l (by omega) (by omega) (putsOk_le (by omega) hl)
 refine Ev.bind (implDiskOk_ev a b c d e l (putsOk_le (by omega) hl)) ?_
 have bad : Ev (fun k => impl_StageAll.j0 k x n true a b c d e l) (a, b, c, d, e, l, false) := Ev.step (f := fun k => (impl_copyDisk.f k a b c d e l).bind fun t => some (t.1, t.2.1, t.2.2.1, t.2.2.2.1, t.2.2.2.2.1, t.2.2.2.2.2, false)) (fun k => rfl) (Ev.bind cp ev_some)
 by_cases h1 : diskOk a b c d e l = true
 ·refine ev_pos h1 ?_
  by_cases h2 : (l.length : Int) > 0
  ·rw [if_neg (fun q => by omega)]
   exact ev_pos h2 bad
  ·refine ev_neg h2 (ev_then (implSizeOk_eq n x.length) ?_)
   obtain rfl : l = [] := List.eq_nil_of_length_eq_zero (by omega)
   by_cases h3 : sizeOk n x.length = true
   ·rw [if_pos ⟨h1, rfl, h3⟩, h3]
    exact Ev.step (f := fun k => (impl_copyDisk.f k a b c d e []).bind fun t => ((impl_Blocks.f n x.length).bind fun u => impl_StageAll.l0 k x n u 0 a b c d e [] t.1 t.2.1 t.2.2.1 t.2.2.2.1 t.2.2.2.2.1 t.2.2.2.2.2)) (fun k => rfl) (Ev.bind cp (ev_then (implBlocks_eq n x.length) (implStage_key a b c d e n x hx (diskOk_d h1) ha hb (blocks n x.length).toNat 0 [] (by omega) stOk_nil)))
   ·rw [if_neg (fun q => h3 q.2.2), Bool.eq_false_iff.2 h3]
    exact bad
 ·rw [if_neg (fun q => h1 q.1)]
  exact ev_neg h1 bad
end Go.Proofs.Ytaofakpljnkplaa.Pb
/- One write laid on a disk: the program's and the reference's come to the same. No condition beyond the rows' lengths. -/
namespace Go.Proofs.Ytaofakpljnkplaa.Pb
open Go.RowKit Go.Proofs.Ytaofakpljnkplaa Go.Proofs.Ytaofakpljnkplaa.Q Go.Proofs.YtaofakpljnkplaaW.PrintWords Go.Proofs.YtaofakpljnkplaaW.PrintLast
set_option linter.unusedVariables false
set_option linter.unusedSimpArgs false
def padTo (s : List Int) (n : Nat) : List Int := s ++ List.replicate (n - s.length) 0
theorem padTo_length (s : List Int) (n : Nat) : (padTo s n).length = max s.length n := by
 unfold padTo
 simp only [List.length_append, List.length_replicate]
 omega
theorem padTo_step {s : List Int} {n : Nat} (h : s.length < n) : padTo (s ++ [0]) n = padTo s n := by
 unfold padTo
 rw [List.append_assoc]
 congr 1
 simp only [List.length_append, List.length_cons, List.length_nil, List.singleton_append]
 rw [show n - s.length = (n - (s.length + 1)) + 1 by omega, List.replicate_succ]
theorem padTo_done {s : List Int} {n : Nat} (h : ¬ s.length < n) : padTo s n = s := by
 unfold padTo
 rw [show n - s.length = 0 by omega, List.replicate_zero, List.append_nil]
def laid (s : List Int) (a : Nat) (b : List Int) : List Int := (padTo s (a + b.length)).take a ++ (b ++ (padTo s (a + b.length)).drop (a + b.length))
theorem laid_length (s : List Int) (a : Nat) (b : List Int) : (laid s a b).length = max s.length (a + b.length) := by
 unfold laid
 simp only [List.length_append, List.length_take, List.length_drop, padTo_length]
 omega
theorem implPad_ev (n : Nat) (hn : n ≤ 4194304) : ∀ (d : Nat) (s : List Int), n - s.length = d → Ev (fun k => impl_Disk_perform.l0 k s (n : Int)) (padTo s n) := by
 intro d
 induction d with
 | zero =>
  intro s h
  exact Ev.step (fun k => rfl) (ev_neg (by omega) (ev_eq ev_some (padTo_done (by omega)).symm))
 | succ d ih =>
  intro s h
  refine Ev.step (fun k => rfl) (ev_pos (by omega) (ev_pos (by omega) ?_))
  have := ih (s ++ [0]) (by simp only [List.length_append, List.length_cons, List.length_nil]; omega)
  rwa [padTo_step (by omega)] at this
theorem implLay_ev (s : List Int) (a : Int) (b : List Int) (h0 : 0 ≤ a) (hn : a + b.length ≤ 4194304) : Ev (fun k => (impl_Disk_perform.l0 k s (wrap64 (a + b.length))).bind fun x => cut_ x a b) (laid s a.toNat b) := by
 rw [w64 (by omega) (by omega)]
 have h := implPad_ev (a.toNat + b.length) (by omega) _ s rfl
 rw [show (((a.toNat + b.length : Nat)) : Int) = a + b.length by omega] at h
 refine Ev.bind h (ev_of ?_)
 have hl := padTo_length s (a.toNat + b.length)
 unfold cut_
 rw [if_pos (by omega)]
 unfold laid
 rw [List.append_assoc]
theorem putOk_at {p : S104} (h : putOk p = true) (h2 : ¬ p.f0 = 2) : 0 ≤ p.f0 ∧ p.f0 ≤ 1 ∧ 0 ≤ p.f1 ∧ p.f1 + p.f2.length ≤ 240 := by
 unfold putOk at h
 rw [if_neg h2] at h
 have := of_decide_eq_true h
 exact ⟨this.1, this.2.1, this.2.2.1, this.2.2.2.1⟩
def done (a b : List Int) (c d e : Int) (p : S104) : List Int × List Int × Int × Int × Int :=
 if p.f0 = 2 then (a, b, p.f3.f0, p.f3.f1, p.f3.f2) else if p.f0 = 0 then (laid a p.f1.toNat p.f2, b, c, d, e) else (a, laid b p.f1.toNat p.f2, c, d, e)
theorem done_len {a b : List Int} {c d e : Int} {p : S104} {n : Nat} (hp : putOk p = true) (ha : a.length ≤ n) (hb : b.length ≤ n) (hn : 240 ≤ n) : (done a b c d e p).1.length ≤ n ∧ (done a b c d e p).2.1.length ≤ n := by
 unfold done
 by_cases h2 : p.f0 = 2
 ·rw [if_pos h2]; exact ⟨ha, hb⟩
 rw [if_neg h2]
 have := putOk_at hp h2
 split
 ·exact ⟨by simp only [laid_length]; omega, hb⟩
 ·exact ⟨ha, by simp only [laid_length]; omega⟩
theorem implPerform_ev (a b : List Int) (c d e : Int) (p : S104) (hp : putOk p = true) : Ev (fun k => impl_Disk_perform.f k a b c d e p.f0 p.f1 p.f2 p.f3.f0 p.f3.f1 p.f3.f2) (done a b c d e p) := by
 unfold impl_Disk_perform.f done
 by_cases h2 : p.f0 = 2
 ·exact ev_pos h2 (ev_eq ev_some (by rw [if_pos h2]))
 have h := putOk_at hp h2
 refine ev_neg h2 ?_
 rw [if_neg h2]
 by_cases h0 : p.f0 = 0
 ·refine ev_pos h0 ?_
  rw [if_pos h0]
  have q := implLay_ev a p.f1 p.f2 h.2.2.1 (by omega)
  refine Ev.congr (fun k => ?_) (Ev.bind (f := fun _ y => some (y, b, c, d, e)) q ev_some)
  exact (Option.bind_assoc ..).symm
 ·refine ev_neg h0 ?_
  rw [if_neg h0]
  have q := implLay_ev b p.f1 p.f2 h.2.2.1 (by omega)
  refine Ev.congr (fun k => ?_) (Ev.bind (f := fun _ y => some (a, y, c, d, e)) q ev_some)
  exact (Option.bind_assoc ..).symm
end Go.Proofs.Ytaofakpljnkplaa.Pb
/- The writes of a disk made durable, those that are kept. No condition beyond the rows' lengths. -/
namespace Go.Proofs.Ytaofakpljnkplaa.Pb
open Go.RowKit Go.Proofs.Ytaofakpljnkplaa Go.Proofs.Ytaofakpljnkplaa.Q Go.Proofs.YtaofakpljnkplaaW.PrintWords Go.Proofs.YtaofakpljnkplaaW.PrintLast
set_option linter.unusedVariables false
set_option linter.unusedSimpArgs false
abbrev Dsk5 : Type := List Int × List Int × Int × Int × Int
def step5 (q : Bool) (s : Dsk5) (p : S104) : Dsk5 := if q = true then done s.1 s.2.1 s.2.2.1 s.2.2.2.1 s.2.2.2.2 p else s
def settleL (keep : Int → Bool) : List S104 → Int → Dsk5 → Dsk5
 | [], _, s => s
 | p :: t, i, s => settleL keep t (i + 1) (step5 (keep i) s p)
def settle (keep : Int → Bool) (a b : List Int) (c d e : Int) (l : List S104) : List Int × List Int × Int × Int × Int × List S104 :=
 if diskOk a b c d e l = true then ((settleL keep l 0 (a, b, c, d, e)).1, (settleL keep l 0 (a, b, c, d, e)).2.1, (settleL keep l 0 (a, b, c, d, e)).2.2.1, (settleL keep l 0 (a, b, c, d, e)).2.2.2.1, (settleL keep l 0 (a, b, c, d, e)).2.2.2.2, []) else (a, b, c, d, e, l)
theorem diskOk_all {a b : List Int} {c d e : Int} {l : List S104} (h : diskOk a b c d e l = true) : ∀ p ∈ l, putOk p = true := by
 unfold diskOk at h
 rw [Bool.and_eq_true, Bool.and_eq_true] at h
 have h3 := h.2.2
 unfold putsOk at h3
 rw [List.all_eq_true] at h3
 intro p hp
 obtain ⟨i, hi, rfl⟩ := List.getElem_of_mem hp
 have := h3 i (List.mem_range.2 hi)
 rwa [List.getD_eq_getElem?_getD, List.getElem?_eq_getElem hi] at this
theorem step5_len {q : Bool} {s : Dsk5} {p : S104} {n : Nat} (hp : putOk p = true) (ha : s.1.length ≤ n) (hb : s.2.1.length ≤ n) (hn : 240 ≤ n) : (step5 q s p).1.length ≤ n ∧ (step5 q s p).2.1.length ≤ n := by
 unfold step5
 split
 ·exact done_len hp ha hb hn
 ·exact ⟨ha, hb⟩
theorem settleL_len {n : Nat} (hn : 240 ≤ n) (keep : Int → Bool) : ∀ (t : List S104) (i : Int) (s : Dsk5), (∀ p ∈ t, putOk p = true) → s.1.length ≤ n → s.2.1.length ≤ n → (settleL keep t i s).1.length ≤ n ∧ (settleL keep t i s).2.1.length ≤ n
 | [], _, _, _, ha, hb => ⟨ha, hb⟩
 | p :: t, i, s, h, ha, hb => by
  have q := step5_len (q := keep i) (h p (List.mem_cons_self ..)) ha hb hn
  exact settleL_len hn keep t (i + 1) _ (fun x hx => h x (List.mem_cons_of_mem _ hx)) q.1 q.2
theorem settle_len (keep : Int → Bool) (a b : List Int) (c d e : Int) (l : List S104) {n : Nat} (ha : a.length ≤ n) (hb : b.length ≤ n) (hl : PutsOk n l) (hn : 240 ≤ n) : (settle keep a b c d e l).1.length ≤ n ∧ (settle keep a b c d e l).2.1.length ≤ n ∧ PutsOk n (settle keep a b c d e l).2.2.2.2.2 := by
 unfold settle
 split
 ·rename_i h
  have q := settleL_len hn keep l 0 (a, b, c, d, e) (diskOk_all h) ha hb
  exact ⟨q.1, q.2, ⟨Nat.zero_le _, fun p hp => by cases hp⟩⟩
 ·exact ⟨ha, hb, hl⟩
theorem implSettled_key (keepI : Nat → Int → Option Bool) (keep : Int → Bool) (hk : ∀ i, Ev (fun k => keepI k i) (keep i)) : ∀ (t pre : List S104) (s : Dsk5), (∀ p ∈ t, putOk p = true) → pre.length + t.length ≤ 4194304 →
  Ev (fun k => impl_Disk_settled.l0 k keepI (pre ++ t) (pre.length : Int) s.1 s.2.1 s.2.2.1 s.2.2.2.1 s.2.2.2.2) (settleL keep t (pre.length : Int) s) := by
 intro t
 induction t with
 | nil =>
  intro pre s _ _
  exact Ev.step (fun k => rfl) (ev_neg (by simp) (ev_eq ev_some rfl))
 | cons p t ih =>
  intro pre s hp hl
  simp only [List.length_cons] at hl
  refine Ev.step (fun k => rfl) (ev_pos (by simp only [List.length_append, List.length_cons]; omega) (ev_pos (by omega) ?_))
  simp only [rd_midp]
  have next := ih (pre ++ [p]) (step5 (keep (pre.length : Int)) s p) (fun q hq => hp q (List.mem_cons_of_mem _ hq)) (by simp only [List.length_append, List.length_cons, List.length_nil]; omega)
  simp only [List.append_assoc, List.singleton_append, List.length_append, List.length_cons, List.length_nil] at next
  rw [w64 (x := (pre.length : Int) + 1) (by omega) (by omega)]
  refine Ev.bind (hk _) ?_
  unfold settleL
  cases hq : keep (pre.length : Int) with
  | true =>
   rw [hq] at next
   exact ev_true (Ev.bind (implPerform_ev s.1 s.2.1 s.2.2.1 s.2.2.2.1 s.2.2.2.2 p (hp p (List.mem_cons_self ..))) next)
  | false =>
   rw [hq] at next
   exact ev_false next
theorem implSettled_ev (keepI : Nat → Int → Option Bool) (keep : Int → Bool) (hk : ∀ i, Ev (fun k => keepI k i) (keep i)) (a b : List Int) (c d e : Int) (l : List S104) (ha : a.length ≤ 4194304) (hb : b.length ≤ 4194304) (hl : PutsOk 4194304 l) : Ev (fun k => impl_Disk_settled.f k keepI a b c d e l) (settle keep a b c d e l) := by
 unfold impl_Disk_settled.f settle
 refine Ev.bind (implCopy_ev a b c d e l ha hb hl) (Ev.bind (implDiskOk_ev a b c d e l hl) (ev_if (fun h => ?_) (fun h => ev_eq ev_some (by rw [if_neg h]))))
 rw [if_pos h]
 exact Ev.bind (implSettled_key keepI keep hk l [] (a, b, c, d, e) (diskOk_all h) (by simpa using hl.1)) ev_some
end Go.Proofs.Ytaofakpljnkplaa.Pb
/- The reference's Sure: all writes made durable. No condition beyond the rows' lengths. -/
namespace Go.Proofs.Ytaofakpljnkplaa.Pb
open Go.RowKit Go.Proofs.Ytaofakpljnkplaa Go.Proofs.Ytaofakpljnkplaa.Q Go.Proofs.YtaofakpljnkplaaW.PrintWords Go.Proofs.YtaofakpljnkplaaW.PrintLast
set_option linter.unusedVariables false
set_option linter.unusedSimpArgs false
def sure (a b : List Int) (c d e : Int) (l : List S104) : List Int × List Int × Int × Int × Int × List S104 := settle (fun _ => true) a b c d e l
theorem implSure_ev (a b : List Int) (c d e : Int) (l : List S104) (ha : a.length ≤ 4194304) (hb : b.length ≤ 4194304) (hl : PutsOk 4194304 l) : Ev (fun k => impl_Sure.f k a b c d e l) (sure a b c d e l) := by
 unfold impl_Sure.f sure
 exact implSettled_ev (fun _ _ => some true) (fun _ => true) (fun _ => ev_some) a b c d e l ha hb hl
end Go.Proofs.Ytaofakpljnkplaa.Pb
/- A write of the record added to a disk's writes: the program's and the reference's come to the same. No condition beyond the rows' lengths. -/
namespace Go.Proofs.Ytaofakpljnkplaa.Pb
open Go.RowKit Go.Proofs.Ytaofakpljnkplaa Go.Proofs.Ytaofakpljnkplaa.Q Go.Proofs.YtaofakpljnkplaaW.PrintWords Go.Proofs.YtaofakpljnkplaaW.PrintLast
set_option linter.unusedVariables false
set_option linter.unusedSimpArgs false
def putRecord (a b : List Int) (c d e : Int) (l : List S104) (x y z : Int) : List Int × List Int × Int × Int × Int × List S104 × Bool := added a b c d e l ⟨2, 0, [], ⟨x, y, z⟩⟩
theorem implPutRecord_ev (a b : List Int) (c d e : Int) (l : List S104) (x y z : Int) (ha : a.length ≤ 1048576) (hb : b.length ≤ 1048576) (hl : PutsOk 1048576 l) : Ev (fun k => impl_PutRecord.f k a b c d e l x y z) (putRecord a b c d e l x y z) := by
 unfold impl_PutRecord.f putRecord
 exact Ev.bind (implAdd_ev a b c d e l ⟨2, 0, [], ⟨x, y, z⟩⟩ ha hb hl (by simp)) ev_some
end Go.Proofs.Ytaofakpljnkplaa.Pb
/- The bits of whole numbers of 64 bits, as natural numbers have them. No condition beyond the ranges. -/
namespace Go.Proofs.Ytaofakpljnkplaa.Pb
open Go
set_option linter.unusedVariables false
theorem wraps_i64 (n : Int) (h0 : 0 ≤ n) (h1 : n < 2 ^ 63) : IntKind.i64.wrap n = n := by rw [IntKind.wrap_i64]; omega
theorem and_mask (n : Int) (j m : Nat) (hj : j ≤ 62) (hm : m = 2 ^ j - 1) : bits .and .i64 n (m : Int) = n % (2 ^ j : Nat) := by
 have hp : (2 : Nat) ^ j ≤ 2 ^ 62 := Nat.pow_le_pow_right (by decide) hj
 have hpos : 0 < 2 ^ j := Nat.two_pow_pos j
 have hmm : (BitVec.ofInt 64 (m : Int)).toNat = 2 ^ j - 1 := by
  rw [BitVec.ofInt_natCast, BitVec.toNat_ofNat, hm, Nat.mod_eq_of_lt]
  have : (2 : Nat) ^ 62 < 2 ^ 64 := by decide
  omega
 have key : (BitVec.ofInt 64 n &&& BitVec.ofInt 64 (m : Int)).toNat = (n % ((2 ^ 64 : Nat) : Int)).toNat % 2 ^ j := by
  rw [BitVec.toNat_and, BitVec.toNat_ofInt, hmm, Nat.and_two_pow_sub_one_eq_mod]
 show IntKind.i64.wrap ((BitVec.ofInt 64 n &&& BitVec.ofInt 64 (m : Int)).toNat : Nat) = _
 rw [key, IntKind.wrap_i64]
 have hd : ((2 ^ j : Nat) : Int) ∣ ((2 ^ 64 : Nat) : Int) := by
  have : (2 ^ j : Nat) ∣ 2 ^ 64 := Nat.pow_dvd_pow 2 (by omega)
  exact Int.natCast_dvd_natCast.2 this
 have e0 : 0 ≤ n % ((2 ^ 64 : Nat) : Int) := Int.emod_nonneg _ (by decide)
 have e1 : (((n % ((2 ^ 64 : Nat) : Int)).toNat % 2 ^ j : Nat) : Int) = n % ((2 ^ j : Nat) : Int) := by
  rw [Int.natCast_emod, Int.toNat_of_nonneg e0, Int.emod_emod_of_dvd _ hd]
 rw [e1]
 have b0 : 0 ≤ n % ((2 ^ j : Nat) : Int) := Int.emod_nonneg _ (by omega)
 have b1 : n % ((2 ^ j : Nat) : Int) < ((2 ^ j : Nat) : Int) := Int.emod_lt_of_pos _ (by omega)
 have b2 : ((2 ^ j : Nat) : Int) ≤ ((2 ^ 62 : Nat) : Int) := Int.ofNat_le.2 hp
 have b3 : ((2 ^ 62 : Nat) : Int) = 4611686018427387904 := by decide
 omega
theorem and255 (n : Int) : bits .and .i64 n 255 = n % 256 := and_mask n 8 255 (by decide) (by decide)
theorem or_nat (a b : Nat) (ha : a < 2 ^ 63) (hb : b < 2 ^ 63) : bits .or .i64 (a : Int) (b : Int) = ((a ||| b : Nat) : Int) := (bits_nat .i64 63 (by decide) wraps_i64 a b ha hb).2
end Go.Proofs.Ytaofakpljnkplaa.Pb
/- Weak sums of bytes: the program's and the reference's ways. No condition beyond the bytes' range. -/
namespace Go.Proofs.Ytaofakpljnkplaa.Pb
open Go.RowKit Go.Proofs.Ytaofakpljnkplaa Go.Proofs.Ytaofakpljnkplaa.Q Go.Proofs.YtaofakpljnkplaaW.PrintWords Go.Proofs.YtaofakpljnkplaaW.PrintLast
set_option linter.unusedVariables false
set_option linter.unusedSimpArgs false
theorem iter_foldl {α σ : Type} (f : σ → α → σ) (l : List α) (d : α) (s0 : σ) (n : Nat) (hn : n ≤ l.length) : iter n (fun i s => f s (l.getD i d)) s0 = (l.take n).foldl f s0 := by
 induction n with
 | zero => simp [iter_zero]
 | succ n ih =>
  rw [iter_succ, ih (by omega), List.take_succ_eq_append_getElem (by omega), List.foldl_append]
  simp [List.getD_eq_getElem?_getD, (show n < l.length by omega)]
theorem iter_foldl_all {α σ : Type} (f : σ → α → σ) (l : List α) (d : α) (s0 : σ) : iter l.length (fun i s => f s (l.getD i d)) s0 = l.foldl f s0 := by
 rw [iter_foldl f l d s0 l.length (Nat.le_refl _), List.take_length]
def Bytes (l : List Int) : Prop := ∀ x ∈ l, 0 ≤ x ∧ x ≤ 255
theorem bytes_getD {l : List Int} (h : Bytes l) (i : Nat) : 0 ≤ l.getD i 0 ∧ l.getD i 0 ≤ 255 := by
 rw [List.getD_eq_getElem?_getD]
 by_cases q : i < l.length
 ·simp only [q, List.getElem?_eq_getElem, Option.getD_some]
  exact h _ (List.getElem_mem q)
 ·simp [q]
def weakStep (p : Int × Int) (b : Int) : Int × Int := ((p.1 + b) % 251, (p.2 + (p.1 + b) % 251) % 251)
def weakPair (l : List Int) : Int × Int := l.foldl weakStep (0, 0)
def weakOf (l : List Int) : Int := (weakPair l).1 + 251 * (weakPair l).2
def WeakIn (p : Int × Int) : Prop := 0 ≤ p.1 ∧ p.1 < 251 ∧ 0 ≤ p.2 ∧ p.2 < 251
theorem weakStep_in (p : Int × Int) (b : Int) : WeakIn (weakStep p b) := by
 unfold WeakIn weakStep
 simp only
 omega
theorem weak_step (x y b : Int) (h : WeakIn (x, y)) (hb : 0 ≤ b ∧ b ≤ 255) : Int.tmod (wrap64 (x + (wrap64 b))) 251 = (weakStep (x, y) b).1 ∧ Int.tmod (wrap64 (y + (Int.tmod (wrap64 (x + (wrap64 b))) 251))) 251 = (weakStep (x, y) b).2 := by
 unfold WeakIn at h
 simp only at h
 have e1 : Int.tmod (wrap64 (x + (wrap64 b))) 251 = (x + b) % 251 := by
  rw [w64 (x := b) (by omega) (by omega), w64 (x := x + b) (by omega) (by omega), Int.tmod_eq_emod_of_nonneg (by omega)]
 rw [e1]
 refine ⟨rfl, ?_⟩
 rw [w64 (by omega) (by omega), Int.tmod_eq_emod_of_nonneg (by omega)]
 rfl
theorem implWeakOf_ev (l : List Int) (hl : l.length ≤ 1048576) (hb : Bytes l) : Ev (fun k => impl_WeakOf.f k l) (weakOf l) := by
 unfold impl_WeakOf.f
 refine loop_up (σ := Int × Int) (fun k s i => impl_WeakOf.l0 k s.1 s.2 l (l.length : Int) i) l.length (fun i s => weakStep s (l.getD i 0)) (fun i s => WeakIn s) (0, 0) _ (by simp [WeakIn]) (fun i s _ _ => weakStep_in _ _) ?_ ?_
 ·rintro i ⟨x, y⟩ r hi hs h
  refine Ev.step (fun k => rfl) ?_
  refine ev_pos (by omega) (ev_pos (by omega) (ev_pos (by omega) ?_))
  have e := weak_step x y (l.getD i 0) hs (bytes_getD hb i)
  simp only [rd, Int.toNat_natCast]
  rw [e.1, ← e.1, e.2, e.1, w64 (x := (i : Int) + 1) (by omega) (by omega)]
  exact h
 ·intro hs
  refine Ev.step (fun k => rfl) ?_
  refine ev_neg (by omega) ?_
  rw [iter_foldl_all weakStep l 0 (0, 0)] at hs ⊢
  unfold WeakIn at hs
  have wr : ∀ x : Int, 0 ≤ x → x < 251 → impl_Wrap.f x 251 = some x := by
   intro x h0 h1
   unfold impl_Wrap.f
   rw [within_eq]
   simp only [Option.bind_some]
   rw [if_pos (by decide), if_neg (by decide), Int.tmod_eq_emod_of_nonneg h0, w64 (by omega) (by omega), Int.tmod_eq_emod_of_nonneg (by omega)]
   congr 1
   omega
  have e : impl_weak.f (List.foldl weakStep (0, 0) l).1 (List.foldl weakStep (0, 0) l).2 = some (weakOf l) := by
   unfold impl_weak.f
   rw [wr _ hs.1 hs.2.1, wr _ hs.2.2.1 hs.2.2.2]
   simp only [Option.bind_some]
   rw [w64 (x := 251 * _) (by omega) (by omega), w64 (by omega) (by omega)]
   rfl
  exact ev_then e ev_some
end Go.Proofs.Ytaofakpljnkplaa.Pb
/- The bytes of a strong sum: the program's and the reference's ways. No condition. -/
namespace Go.Proofs.Ytaofakpljnkplaa.Pb
open Go.RowKit Go.Proofs.Ytaofakpljnkplaa Go.Proofs.Ytaofakpljnkplaa.Q Go.Proofs.YtaofakpljnkplaaW.PrintWords Go.Proofs.YtaofakpljnkplaaW.PrintLast Go.Proofs.YtaofakpljnkplaaW.PrintMore
set_option linter.unusedVariables false
set_option linter.unusedSimpArgs false
theorem shr_of (x y : Int) (h1 : y ≤ 64) : shr .i64 x y = x / 2 ^ y.toNat := by
 unfold shr
 rw [Nat.min_eq_left (by simp [IntKind.bits]; omega)]
def digs : Nat → Int → List Int
 | 0, _ => []
 | c + 1, x => digs c (x / 256) ++ [x % 256]
theorem digs_length (c : Nat) : ∀ x, (digs c x).length = c := by
 induction c with
 | zero => intro x; rfl
 | succ c ih => intro x; simp [digs, ih]
theorem digs_bytes (c : Nat) : ∀ x, Bytes (digs c x) := by
 induction c with
 | zero => intro x; simp [digs, Bytes]
 | succ c ih =>
  intro x y hy
  rw [digs, List.mem_append, List.mem_singleton] at hy
  rcases hy with hy | rfl
  ·exact ih _ y hy
  ·omega
theorem pow256_succ (c : Nat) : (256 : Int) ^ (c + 1) = 256 * 256 ^ c := by rw [Int.pow_succ, Int.mul_comm]
theorem div256 (x : Int) (c : Nat) : x / 256 ^ (c + 1) = x / 256 / 256 ^ c := by
 rw [pow256_succ, Int.ediv_ediv_of_nonneg (by decide)]
theorem digs_map (c : Nat) : ∀ x, digs c x = (List.range c).map (fun i => x / 256 ^ (c - 1 - i) % 256) := by
 induction c with
 | zero => intro x; rfl
 | succ c ih =>
  intro x
  rw [digs, ih, List.range_succ, List.map_append, List.map_singleton]
  congr 1
  ·apply List.map_congr_left
   intro i hi
   have hi' := List.mem_range.1 hi
   rw [show c + 1 - 1 - i = (c - 1 - i) + 1 by omega, div256]
  ·simp
theorem p256_0 : (256 : Int) ^ 0 = 1 := by decide
theorem p256_1 : (256 : Int) ^ 1 = 256 := by decide
theorem p256_2 : (256 : Int) ^ 2 = 65536 := by decide
theorem p256_3 : (256 : Int) ^ 3 = 16777216 := by decide
theorem p256_4 : (256 : Int) ^ 4 = 4294967296 := by decide
theorem p256_5 : (256 : Int) ^ 5 = 1099511627776 := by decide
theorem p256_6 : (256 : Int) ^ 6 = 281474976710656 := by decide
def cnt (x : Int) : Nat := if x ≤ 1 then 0 else if x / 256 ≤ 1 then 1 else if x / 65536 ≤ 1 then 2 else if x / 16777216 ≤ 1 then 3 else if x / 4294967296 ≤ 1 then 4 else if x / 1099511627776 ≤ 1 then 5 else 6
def bytesOf (x : Int) : List Int × Bool := if 1 ≤ x ∧ x / 256 ^ (cnt x) = 1 then (digs (cnt x) x, true) else ([], false)
theorem cnt_le (x : Int) : cnt x ≤ 6 := by
 unfold cnt
 repeat' split
 all_goals omega
theorem bytesOf_bytes (x : Int) : Bytes (bytesOf x).1 := by
 unfold bytesOf
 split
 ·exact digs_bytes _ _
 ·simp [Bytes]
theorem bytesOf_length (x : Int) : (bytesOf x).1.length ≤ 6 := by
 unfold bytesOf
 split
 ·simp only [digs_length]; exact cnt_le x
 ·simp
theorem cnt_iff (x : Int) (hx : 1 ≤ x) (h : x ≤ 562949953421311) (c : Nat) (hc : c ≤ 6) (e : x / 256 ^ c = 1) : cnt x = c := by
 unfold cnt
 rcases (show c = 0 ∨ c = 1 ∨ c = 2 ∨ c = 3 ∨ c = 4 ∨ c = 5 ∨ c = 6 by omega) with rfl | rfl | rfl | rfl | rfl | rfl | rfl <;> simp only [p256_0, p256_1, p256_2, p256_3, p256_4, p256_5, p256_6, Int.ediv_one] at e <;> (repeat' split) <;> omega
theorem shr_pow (x : Int) (c : Nat) (hc : c ≤ 6) : shr .i64 x (wrap64 (8 * (c : Int))) = x / 256 ^ c := by
 rw [w64 (by omega) (by omega), shr_of _ _ (by omega), show (8 * (c : Int)).toNat = 8 * c by omega, Int.pow_mul]
 rfl
theorem implBytes_tail (x : Int) (c : Nat) (hc : c ≤ 6) (hx : c = cnt x) : Ev (fun k => impl_BytesOf.j1 k x (c : Int)) (bytesOf x) := by
 have fin : Ev (fun k => impl_BytesOf.j2 k x (c : Int) false) (digs c x, true) := by
  refine Ev.step (fun k => rfl) ?_
  refine ev_pos (by omega) ?_
  simp only [Option.bind_some, Int.toNat_natCast]
  refine loop_up (fun k s i => impl_BytesOf.l1 k x (c : Int) s (((List.replicate c (0 : Int)).length : Nat) : Int) i) c (fun i (s : List Int) => s.set i (x / 256 ^ (c - 1 - i) % 256)) (fun _ s => s.length = c) (List.replicate c 0) _ (by simp) (fun i s _ h => by simpa using h) ?_ ?_
  ·intro i s r hi hs h
   have e : (c : Int) - 1 - (i : Int) = ((c - 1 - i : Nat) : Int) := by omega
   refine Ev.step (fun k => rfl) ?_
   refine ev_pos (by simp; omega) ?_
   rw [w64 (x := (c : Int) - 1) (by omega) (by omega), w64 (x := (c : Int) - 1 - i) (by omega) (by omega), e]
   refine ev_pos (by rw [w64 (by omega) (by omega)]; omega) (ev_pos (by omega) (ev_pos (by omega) ?_))
   rw [shr_pow _ _ (by omega), w64 (x := (i : Int) + 1) (by omega) (by omega)]
   exact h
  ·intro hs
   refine Ev.step (fun k => rfl) ?_
   refine ev_neg (by simp) (ev_eq ev_some ?_)
   rw [iter_set c (fun i => x / 256 ^ (c - 1 - i) % 256) _ (by simp), digs_map]
 have bad : Ev (fun k => impl_BytesOf.j2 k x (c : Int) true) ([], false) := by
  refine Ev.step (fun k => rfl) ?_
  exact ev_some
 refine Ev.step (fun k => rfl) ?_
 unfold bytesOf
 rw [← hx]
 refine ev_if (fun h => ?_) (fun h => ev_pos (by rw [w64 (by omega) (by omega)]; omega) ?_)
 ·rw [if_neg (by omega)]
  exact bad
 ·rw [shr_pow _ _ hc]
  by_cases q : x / 256 ^ c = 1
  ·rw [if_pos ⟨by omega, q⟩, q]
   exact fin
  ·rw [if_neg (fun z => q z.2)]
   have : ((x / 256 ^ c) != 1) = true := by simpa using q
   rw [this]
   exact bad
theorem implBytes_loop (x : Int) (d : Nat) : ∀ c : Nat, c + d = 6 → c ≤ cnt x → Ev (fun k => impl_BytesOf.l0 k x (c : Int)) (bytesOf x) := by
 induction d with
 | zero =>
  intro c h hc
  have := cnt_le x
  refine Ev.step (fun k => rfl) ?_
  exact ev_neg (by omega) (implBytes_tail x c (by omega) (by omega))
 | succ d ih =>
  intro c h hc
  refine Ev.step (fun k => rfl) ?_
  refine ev_pos (by omega) (ev_pos (by rw [w64 (by omega) (by omega)]; omega) ?_)
  rw [shr_pow _ _ (by omega)]
  have key : (x / 256 ^ c > 1) ↔ c < cnt x := by
   have l : ∀ q : Nat, (if q < c then 1 else 0) + q ≥ 0 := fun q => by omega
   unfold cnt at hc ⊢
   rcases (show c = 0 ∨ c = 1 ∨ c = 2 ∨ c = 3 ∨ c = 4 ∨ c = 5 by omega) with rfl | rfl | rfl | rfl | rfl | rfl <;> simp only [p256_0, p256_1, p256_2, p256_3, p256_4, p256_5, p256_6, Int.ediv_one] <;> (repeat' split at hc) <;> (repeat' split) <;> omega
  refine ev_if (fun q => ?_) (fun q => ?_)
  ·rw [w64 (by omega) (by omega)]
   exact ih (c + 1) (by omega) (key.1 q)
  ·exact implBytes_tail x c (by omega) (by have := mt key.2 q; omega)
theorem implBytesOf_ev (x : Int) : Ev (fun k => impl_BytesOf.f k x) (bytesOf x) := implBytes_loop x 6 0 (by omega) (by omega)
end Go.Proofs.Ytaofakpljnkplaa.Pb
/- A block's sum, as the reference makes it. No condition beyond the bytes' range. -/
namespace Go.Proofs.Ytaofakpljnkplaa.Pb
open Go.RowKit Go.Proofs.Ytaofakpljnkplaa Go.Proofs.Ytaofakpljnkplaa.Q Go.Proofs.YtaofakpljnkplaaW.PrintWords Go.Proofs.YtaofakpljnkplaaW.PrintLast
set_option linter.unusedVariables false
set_option linter.unusedSimpArgs false
def strong (l : List Int) : Int := l.foldl (fun s b => 256 * s + b) 1
def sumOf (l : List Int) : Int × Int := if (l.length : Int) > 6 then (0, 0) else (weakOf l, strong l)
theorem p256_le (i : Nat) (h : i ≤ 6) : 1 ≤ (256 : Int) ^ i ∧ (256 : Int) ^ i ≤ 281474976710656 := by
 rcases (show i = 0 ∨ i = 1 ∨ i = 2 ∨ i = 3 ∨ i = 4 ∨ i = 5 ∨ i = 6 by omega) with rfl | rfl | rfl | rfl | rfl | rfl | rfl <;> simp only [p256_0, p256_1, p256_2, p256_3, p256_4, p256_5, p256_6] <;> omega
def StrongIn (i : Nat) (s : Int) : Prop := 1 ≤ s ∧ s < 2 * 256 ^ i
theorem strongIn_step {i : Nat} {s b : Int} (h : StrongIn i s) (hb : 0 ≤ b ∧ b ≤ 255) : StrongIn (i + 1) (256 * s + b) := by
 unfold StrongIn at h ⊢
 rw [pow256_succ]
 generalize (256 : Int) ^ i = p at h ⊢
 omega
theorem strongIn_le {i : Nat} {s : Int} (h : StrongIn i s) (hi : i ≤ 6) : 1 ≤ s ∧ s ≤ 562949953421311 := by
 unfold StrongIn at h
 have := p256_le i hi
 omega
theorem strong_digs (c : Nat) : ∀ x : Int, 1 ≤ x → x / 256 ^ c = 1 → strong (digs c x) = x := by
 induction c with
 | zero => intro x h1 h; simp at h; simp [digs, strong, h]
 | succ c ih =>
  intro x h1 h
  rw [div256] at h
  have hge : 1 ≤ x / 256 := by
   by_cases q : 1 ≤ x / 256
   ·exact q
   ·have z : x / 256 = 0 := by omega
    rw [z, Int.zero_ediv] at h
    omega
  have e := ih (x / 256) hge h
  unfold strong at e ⊢
  rw [digs, List.foldl_append, e]
  simp only [List.foldl_cons, List.foldl_nil]
  omega
theorem bytesOf_strong (x : Int) (h : (bytesOf x).2 = true) : sumOf (bytesOf x).1 = (weakOf (bytesOf x).1, x) := by
 have hl := bytesOf_length x
 unfold sumOf
 rw [if_neg (by omega)]
 unfold bytesOf at h ⊢
 split at h
 ·rename_i q
  rw [if_pos q]
  simp only
  rw [strong_digs _ _ q.1 q.2]
 ·simp at h
end Go.Proofs.Ytaofakpljnkplaa.Pb
/- Whether a manifest is a good one: the program's and the reference's ways. No condition beyond the size that the laws ask. -/
namespace Go.Proofs.Ytaofakpljnkplaa.Pb
open Go.RowKit Go.Proofs.Ytaofakpljnkplaa Go.Proofs.Ytaofakpljnkplaa.Q Go.Proofs.YtaofakpljnkplaaW.PrintWords Go.Proofs.YtaofakpljnkplaaW.PrintLast
set_option linter.unusedVariables false
set_option linter.unusedSimpArgs false
def blockOk (b c : Int) (l : List S71) (i : Nat) : Bool := (bytesOf (l.getD i z71).f1).2 && (decide (((bytesOf (l.getD i z71).f1).1.length : Int) = (spanOf b c i).2) && decide (weakOf (bytesOf (l.getD i z71).f1).1 = (l.getD i z71).f0))
def manOk (a b c : Int) (l : List S71) : Bool := if a = 0 then decide (b = 0 ∧ c = 0 ∧ l.length = 0) else if (1 ≤ a ∧ a ≤ 1000000) ∧ sizeOk b c = true ∧ (l.length : Int) = blocks b c then (List.range l.length).all (blockOk b c l) else false
theorem implMan_loop (a b c : Int) (l : List S71) (hl : l.length ≤ 1048576) : Ev (fun k => impl_ManOk.l0 k l (l.length : Int) 0 a b c l) ((List.range l.length).all (blockOk b c l)) := by
 refine loop_all (fun k i => impl_ManOk.l0 k l (l.length : Int) i a b c l) l.length _ ?_ ?_ ?_
 ·intro i r hi hp h
  simp only [blockOk, Bool.and_eq_true, decide_eq_true_eq] at hp
  refine Ev.step (fun k => rfl) ?_
  refine ev_pos (by omega) (ev_pos (by omega) (ev_pos (by omega) ?_))
  simp only [rd_T71, Int.toNat_natCast]
  refine Ev.bind (implBytesOf_ev _) (ev_then (implSpanOf_eq _ _ _) (ev_pos hp.1 (ev_pos hp.2.1 ?_)))
  have hle := bytesOf_length (l.getD i z71).f1
  refine Ev.bind (implWeakOf_ev _ (by omega) (bytesOf_bytes _)) (ev_pos hp.2.2 ?_)
  rw [w64 (by omega) (by omega)]
  exact h
 ·intro i hi hp
  simp only [blockOk, Bool.and_eq_false_iff, decide_eq_false_iff_not] at hp
  refine Ev.step (fun k => rfl) ?_
  refine ev_pos (by omega) (ev_pos (by omega) (ev_pos (by omega) ?_))
  simp only [rd_T71, Int.toNat_natCast]
  refine Ev.bind (implBytesOf_ev _) (ev_then (implSpanOf_eq _ _ _) ?_)
  refine ev_if (fun h1 => ?_) (fun _ => ev_some)
  refine ev_if (fun h2 => ?_) (fun _ => ev_some)
  have hle := bytesOf_length (l.getD i z71).f1
  refine Ev.bind (implWeakOf_ev _ (by omega) (bytesOf_bytes _)) ?_
  have h3 : ¬ weakOf (bytesOf (l.getD i z71).f1).1 = (l.getD i z71).f0 := by
   rcases hp with q | q | q
   ·rw [h1] at q; cases q
   ·exact absurd h2 q
   ·exact q
  exact ev_neg h3 ev_some
 ·refine Ev.step (fun k => rfl) ?_
  exact ev_neg (by omega) ev_some
theorem implManOk_ev (a b c : Int) (l : List S71) (hl : l.length ≤ 1048576) : Ev (fun k => impl_ManOk.f k a b c l) (manOk a b c l) := by
 unfold impl_ManOk.f manOk
 have ez : impl_isZeroMan.f a b c l = some (decide (a = 0 ∧ b = 0 ∧ c = 0 ∧ l.length = 0)) := by
  unfold impl_isZeroMan.f
  repeat' split
  all_goals simp_all
  all_goals rw [Bool.eq_iff_iff]; simp
 rw [ez]
 simp only [Option.bind_some]
 have bad : ∀ (h : ¬ ((1 ≤ a ∧ a ≤ 1000000) ∧ sizeOk b c = true ∧ (l.length : Int) = blocks b c)), Ev (fun k => impl_ManOk.j0 k true a b c l) (if (1 ≤ a ∧ a ≤ 1000000) ∧ sizeOk b c = true ∧ (l.length : Int) = blocks b c then (List.range l.length).all (blockOk b c l) else false) := by
  intro h
  rw [if_neg h]
  refine Ev.step (fun k => rfl) ?_
  exact ev_some
 by_cases ha : a = 0
 ·rw [if_pos ha]
  refine ev_if (fun hz => ev_eq ev_some ?_) (fun hz => ?_)
  ·simp only [decide_eq_true_eq] at hz
   simp [hz.2]
  ·have e : decide (b = 0 ∧ c = 0 ∧ l.length = 0) = false := by
    simp only [decide_eq_true_eq] at hz
    rw [decide_eq_false_iff_not]
    exact fun q => hz ⟨ha, q⟩
   rw [e, within_eq]
   simp only [Option.bind_some]
   refine ev_neg (by simp; omega) ?_
   exact ev_eq (bad (by omega)) (by rw [if_neg (by omega)])
 ·rw [if_neg ha]
  refine ev_neg (by simp [ha]) ?_
  rw [within_eq]
  simp only [Option.bind_some]
  refine ev_if (fun h1 => ?_) (fun h1 => bad (fun z => h1 (by simpa using z.1)))
  rw [implSizeOk_eq]
  simp only [Option.bind_some]
  refine ev_if (fun h2 => ?_) (fun h2 => bad (fun z => h2 z.2.1))
  rw [implBlocks_eq]
  simp only [Option.bind_some]
  by_cases h3 : (l.length : Int) = blocks b c
  ·have e : ((l.length : Int) != blocks b c) = false := by simp [h3]
   rw [e, if_pos ⟨by simpa using h1, h2, h3⟩]
   refine Ev.step (fun k => rfl) ?_
   exact implMan_loop a b c l hl
  ·have e : ((l.length : Int) != blocks b c) = true := by simp [h3]
   rw [e]
   exact bad (fun z => h3 z.2.2)
end Go.Proofs.Ytaofakpljnkplaa.Pb
/- Whether a number is a set of blocks. No condition. -/
namespace Go.Proofs.Ytaofakpljnkplaa.Pb
open Go.RowKit Go.Proofs.Ytaofakpljnkplaa Go.Proofs.Ytaofakpljnkplaa.Q Go.Proofs.YtaofakpljnkplaaW.PrintWords Go.Proofs.YtaofakpljnkplaaW.PrintLast
set_option linter.unusedVariables false
set_option linter.unusedSimpArgs false
def setOk (s : Int) : Bool := decide (0 ≤ s ∧ s ≤ 1099511627775)
theorem implSetOk_eq (s : Int) : impl_SetOk.f s = some (setOk s) := by
 unfold impl_SetOk.f
 rw [within_eq]
 rfl
end Go.Proofs.Ytaofakpljnkplaa.Pb
/- What a build still lacks: sets of blocks, with one another taken away. No condition. -/
namespace Go.Proofs.Ytaofakpljnkplaa.Pb
open Go.RowKit Go.Proofs.Ytaofakpljnkplaa Go.Proofs.Ytaofakpljnkplaa.Q Go.Proofs.YtaofakpljnkplaaW.PrintWords Go.Proofs.YtaofakpljnkplaaW.PrintLast
set_option linter.unusedVariables false
set_option linter.unusedSimpArgs false
def fullSet (n : Int) : Int := if 0 ≤ n ∧ n ≤ 40 then wrap64 ((shl .i64 1 n) - 1) else 0
theorem implFullSet_eq (n : Int) : impl_FullSet.f n = some (fullSet n) := by
 unfold impl_FullSet.f fullSet
 rw [within_eq]
 simp only [Option.bind_some]
 by_cases h : 0 ≤ n ∧ n ≤ 40
 ·rw [if_pos (by simpa using h), if_pos h.1, if_pos h]
 ·rw [if_neg (by simpa using h), if_neg h]
def without (a b : Int) : Int := if setOk a = true then (if setOk b = true then Go.bits .andNot .i64 a b else 0) else 0
theorem implWithout_eq (a b : Int) : impl_Without.f a b = some (without a b) := by
 unfold impl_Without.f without
 rw [implSetOk_eq, implSetOk_eq]
 simp only [Option.bind_some]
 by_cases h : setOk a = true
 ·rw [if_pos h, if_pos h]
  by_cases h' : setOk b = true
  ·rw [if_pos h', if_pos h']
  ·rw [if_neg h', if_neg h']
 ·rw [if_neg h, if_neg h]
def missing (l : List S71) (h : Int) : Int := without (fullSet l.length) h
theorem implMissing_eq (a b c : Int) (l : List S71) (h : Int) (m : List Int) : impl_Missing.f a b c l h m = some (missing l h) := by
 unfold impl_Missing.f impl_AllParts.f missing
 rw [implFullSet_eq]
 simp only [Option.bind_some]
 rw [implWithout_eq]
 rfl
end Go.Proofs.Ytaofakpljnkplaa.Pb
/- The blocks in a set, one by one. No condition. -/
namespace Go.Proofs.Ytaofakpljnkplaa.Pb
open Go.RowKit Go.Proofs.Ytaofakpljnkplaa Go.Proofs.Ytaofakpljnkplaa.Q Go.Proofs.YtaofakpljnkplaaW.PrintWords Go.Proofs.YtaofakpljnkplaaW.PrintLast Go.Proofs.YtaofakpljnkplaaW.PrintMore
set_option linter.unusedVariables false
set_option linter.unusedSimpArgs false
def inSet (s i : Int) : Bool := if setOk s = true then (if 0 ≤ i ∧ i ≤ 39 then (Go.bits .and .i64 (shr .i64 s i) 1) == 1 else false) else false
theorem implInSet_eq (s i : Int) : impl_InSet.f s i = some (inSet s i) := by
 unfold impl_InSet.f inSet
 rw [implSetOk_eq]
 simp only [Option.bind_some]
 by_cases h : setOk s = true
 ·rw [if_pos h, if_pos h]
  have e : impl_isPlace.f i = some (decide (0 ≤ i ∧ i ≤ 39)) := by
   unfold impl_isPlace.f
   rw [within_eq]
   rfl
  rw [e]
  simp only [Option.bind_some]
  by_cases q : 0 ≤ i ∧ i ≤ 39
  ·rw [if_pos (by simpa using q), if_pos q.1, if_pos q]
  ·rw [if_neg (by simpa using q), if_neg q]
 ·rw [if_neg h, if_neg h]
end Go.Proofs.Ytaofakpljnkplaa.Pb
/- Sets of blocks, bit by bit. No condition beyond forty of them. -/
namespace Go.Proofs.Ytaofakpljnkplaa.Pb
open Go.RowKit Go.Proofs.YtaofakpljnkplaaW.PrintWords Go.Proofs.YtaofakpljnkplaaW.PrintLast Go.Proofs.YtaofakpljnkplaaW.PrintMore
set_option linter.unusedVariables false
set_option linter.unusedSimpArgs false
theorem shl_one (m : Nat) (h : m ≤ 40) : shl .i64 1 (m : Int) = ((2 ^ m : Nat) : Int) := by
 have hp : (2 : Nat) ^ m ≤ 2 ^ 40 := Nat.pow_le_pow_right (by decide) h
 unfold shl
 rw [Int.toNat_natCast, Nat.min_eq_left (by simp [IntKind.bits]; omega), Int.one_mul, show (2 : Int) ^ m = ((2 ^ m : Nat) : Int) by simp]
 generalize 2 ^ m = p at hp ⊢
 exact wraps_i64 _ (by omega) (by omega)
def bs (p : Nat → Bool) : Nat → Nat
 | 0 => 0
 | m + 1 => bs p m + (if p m = true then 2 ^ m else 0)
theorem bs_lt (p : Nat → Bool) (m : Nat) : bs p m < 2 ^ m := by
 induction m with
 | zero => simp [bs]
 | succ m ih =>
  rw [bs, Nat.pow_succ]
  split <;> omega
theorem bs_not (p : Nat → Bool) (m : Nat) : bs p m + bs (fun i => !p i) m = 2 ^ m - 1 := by
 induction m with
 | zero => simp [bs]
 | succ m ih =>
  have h1 : 0 < 2 ^ m := Nat.two_pow_pos m
  rw [bs, bs, Nat.pow_succ]
  cases hp : p m <;> simp <;> omega
theorem or_bit (x m : Nat) (hm : m ≤ 40) (hx : x < 2 ^ m) : Go.bits .or .i64 (x : Int) (shl .i64 1 (m : Int)) = ((x + 2 ^ m : Nat) : Int) := by
 have hp : (2 : Nat) ^ m ≤ 2 ^ 40 := Nat.pow_le_pow_right (by decide) hm
 rw [shl_one m hm, or_nat _ _ (by omega) (by omega)]
 have := Nat.two_pow_add_eq_or_of_lt hx 1
 rw [Nat.mul_one, Nat.or_comm] at this
 omega
theorem andNot_mask (x m : Nat) (hm : m ≤ 40) (hx : x < 2 ^ m) : Go.bits .andNot .i64 ((2 ^ m - 1 : Nat) : Int) (x : Int) = ((2 ^ m - 1 - x : Nat) : Int) := by
 have hp : (2 : Nat) ^ m ≤ 2 ^ 40 := Nat.pow_le_pow_right (by decide) hm
 have h0 : 0 < 2 ^ m := Nat.two_pow_pos m
 have key : (BitVec.ofInt 64 ((2 ^ m - 1 : Nat) : Int) &&& ~~~ BitVec.ofInt 64 (x : Int)).toNat = 2 ^ m - 1 - x := by
  rw [BitVec.toNat_and, BitVec.toNat_not, BitVec.ofInt_natCast, BitVec.ofInt_natCast, BitVec.toNat_ofNat, BitVec.toNat_ofNat, Nat.mod_eq_of_lt (a := 2 ^ m - 1) (by omega), Nat.mod_eq_of_lt (a := x) (by omega), Nat.and_comm, Nat.and_two_pow_sub_one_eq_mod]
  have hd : (2 : Nat) ^ 64 = 2 ^ (64 - m) * 2 ^ m := by rw [← Nat.pow_add]; congr 1; omega
  have hq : 0 < 2 ^ (64 - m) := Nat.two_pow_pos _
  have e : 2 ^ 64 - 1 - x = (2 ^ m - 1 - x) + 2 ^ m * (2 ^ (64 - m) - 1) := by
   rw [Nat.mul_sub, Nat.mul_one, Nat.mul_comm, ← hd]
   omega
  rw [e, Nat.add_mul_mod_self_left, Nat.mod_eq_of_lt (by omega)]
 show IntKind.i64.wrap ((BitVec.ofInt 64 ((2 ^ m - 1 : Nat) : Int) &&& ~~~ BitVec.ofInt 64 (x : Int)).toNat : Nat) = _
 rw [key]
 exact wraps_i64 _ (by omega) (by omega)
end Go.Proofs.Ytaofakpljnkplaa.Pb
/- A block's sum, as the program makes it. No condition beyond the bytes' range. -/
namespace Go.Proofs.Ytaofakpljnkplaa.Pb
open Go.RowKit Go.Proofs.Ytaofakpljnkplaa Go.Proofs.Ytaofakpljnkplaa.Q Go.Proofs.YtaofakpljnkplaaW.PrintWords Go.Proofs.YtaofakpljnkplaaW.PrintLast
set_option linter.unusedVariables false
set_option linter.unusedSimpArgs false
theorem or_byte (s b : Int) (h0 : 0 ≤ s) (h1 : s ≤ 562949953421311) (hb : 0 ≤ b ∧ b ≤ 255) : Go.bits .or .i64 (s * 256) b = 256 * s + b := by
 obtain ⟨a, rfl⟩ := Int.eq_ofNat_of_zero_le h0
 obtain ⟨c, rfl⟩ := Int.eq_ofNat_of_zero_le hb.1
 have e : ((a : Int) * 256) = ((2 ^ 8 * a : Nat) : Int) := by omega
 rw [e, or_nat _ _ (by omega) (by omega), ← Nat.two_pow_add_eq_or_of_lt (by omega)]
 omega
theorem implSumOf_ev (l : List Int) (hb : Bytes l) : Ev (fun k => impl_SumOf.f k l) (sumOf l) := by
 unfold impl_SumOf.f sumOf
 refine ev_if (fun h => ev_eq ev_some (by rw [if_pos h])) (fun h => ?_)
 rw [if_neg h]
 refine loop_up (σ := Int) (fun k s i => impl_SumOf.l0 k l s l (l.length : Int) i) l.length (fun i s => 256 * s + l.getD i 0) (fun i s => StrongIn i s) 1 _ (by simp [StrongIn]) (fun i s _ hs => strongIn_step hs (bytes_getD hb i)) ?_ ?_
 ·intro i s r hi hs h
  have q := strongIn_le hs (by omega)
  have z := bytes_getD hb i
  refine Ev.step (fun k => rfl) ?_
  refine ev_pos (by omega) (ev_pos (by omega) (ev_pos (by omega) ?_))
  simp only [rd, Int.toNat_natCast]
  rw [w64 (x := s * 256) (by omega) (by omega), w64 (x := l.getD i 0) (by omega) (by omega), or_byte s _ (by omega) (by omega) z, w64 (x := (i : Int) + 1) (by omega) (by omega)]
  exact h
 ·intro hs
  refine Ev.step (fun k => rfl) ?_
  refine ev_neg (by omega) (Ev.bind (implWeakOf_ev l (by omega) hb) (ev_eq ev_some ?_))
  rw [iter_foldl_all (fun s b => 256 * s + b) l 0 1]
  rfl
end Go.Proofs.Ytaofakpljnkplaa.Pb
/- Whether a build is a good one: the program's and the reference's ways. No condition beyond the rows' lengths, and that its bytes are bytes. -/
namespace Go.Proofs.Ytaofakpljnkplaa.Pb
open Go.RowKit Go.Proofs.Ytaofakpljnkplaa Go.Proofs.Ytaofakpljnkplaa.Q Go.Proofs.YtaofakpljnkplaaW.PrintWords Go.Proofs.YtaofakpljnkplaaW.PrintLast
set_option linter.unusedVariables false
set_option linter.unusedSimpArgs false
def piece (b c : Int) (m : List Int) (i : Int) : List Int := (m.take ((spanOf b c i).1 + (spanOf b c i).2).toNat).drop (spanOf b c i).1.toNat
theorem bytes_piece {m : List Int} (h : Bytes m) (b c i : Int) : Bytes (piece b c m i) := fun x hx => h x (List.mem_of_mem_take (List.mem_of_mem_drop hx))
theorem piece_length (b c : Int) (m : List Int) (i : Int) : (piece b c m i).length ≤ 240 := by
 have := spanOf_range b c i
 unfold piece
 rw [List.length_drop, List.length_take]
 omega
theorem span_in {b c : Int} {m : List Int} (hc : (m.length : Int) = c) (i : Int) : (spanOf b c i).1 + (spanOf b c i).2 ≤ m.length := by
 unfold spanOf
 split
 ·rename_i h
  have s := span_at h
  simp only
  split <;> omega
 ·simp
theorem implBlock_eq (h : Int) (m : List Int) (a b c : Int) (l : List S71) (i : Int) (hi : (spanOf b c i).1 + (spanOf b c i).2 ≤ m.length) : impl_Build_block.f h m a b c l i = some (piece b c m i) := by
 unfold impl_Build_block.f piece
 have r := spanOf_range b c i
 rw [implSpanOf_eq]
 simp only [Option.bind_some]
 rw [w64 (by omega) (by omega), if_pos (by omega), if_pos (by omega), if_pos (by omega)]
def zeros (s : List Int) : Bool := (List.range s.length).all (fun i => decide (rd s (i : Int) = 0))
theorem implNonzero_ev (s : List Int) (hl : s.length ≤ 1048576) : Ev (fun k => slices_ContainsFunc_byte_byte.f k s) (!zeros s) := by
 have one : ∀ x : Int, impl_BuildOk_1.f x = some (!decide (x = 0)) := by
  intro x
  unfold impl_BuildOk_1.f
  by_cases h : x = 0
  ·subst h; rfl
  ·rw [decide_eq_false h]
   exact congrArg some (bne_iff_ne.mpr h)
 have h := loop_find (fun k i => slices_IndexFunc_byte_byte.l0 k s (s.length : Int) i) s.length (fun i => !decide (rd s (i : Int) = 0)) (fun i => (i : Int)) (-1) (fun i hi hp => by
   exact Ev.step (fun k => rfl) (ev_pos (by omega) (ev_pos (by omega) (ev_pos (by omega) (ev_then (one _) (ev_pos hp ev_some)))))) (fun i r hi hp h => by
   refine Ev.step (fun k => rfl) (ev_pos (by omega) (ev_pos (by omega) (ev_pos (by omega) (ev_then (one _) (ev_neg (by rw [hp]; decide) ?_)))))
   rw [w64 (by omega) (by omega)]
   exact h) (Ev.step (fun k => rfl) (ev_neg (by omega) ev_some))
 unfold slices_ContainsFunc_byte_byte.f slices_IndexFunc_byte_byte.f
 refine Ev.bind h (ev_eq ev_some ?_)
 unfold zeros
 cases hf : (List.range s.length).find? (fun i : Nat => !decide (rd s (i : Int) = 0)) with
 | some i =>
  have h1 := List.find?_some hf
  have h2 := List.mem_of_find?_eq_some hf
  have h3 : (List.range s.length).all (fun i => decide (rd s (i : Int) = 0)) = false := by
   rw [List.all_eq_false]
   exact ⟨i, h2, by simpa using h1⟩
  rw [h3]
  exact decide_eq_true (Int.natCast_nonneg i)
 | none =>
  have h3 : (List.range s.length).all (fun i => decide (rd s (i : Int) = 0)) = true := by
   rw [List.all_eq_true]
   intro x hx
   have := List.find?_eq_none.1 hf x hx
   simpa using this
  rw [h3]
  rfl
def sumIs (s : Int × Int) (x : S71) : Bool := (s.1 == x.f0) && (s.2 == x.f1)
theorem sum_ne (s : Int × Int) (x : S71) : (!(s.1 == x.f0) || (!(s.2 == x.f1))) = !sumIs s x := by
 unfold sumIs
 cases (s.1 == x.f0) <;> cases (s.2 == x.f1) <;> rfl
def partOk (b c : Int) (l : List S71) (h : Int) (m : List Int) (i : Nat) : Bool := if inSet h (i : Int) = true then sumIs (sumOf (piece b c m (i : Int))) (l.getD i z71) else zeros (piece b c m (i : Int))
def buildOk (a b c : Int) (l : List S71) (h : Int) (m : List Int) : Bool := manOk a b c l && (setOk h && (decide (Go.bits .andNot .i64 h (fullSet l.length) = 0) && (decide ((m.length : Int) = c) && (List.range l.length).all (partOk b c l h m))))
theorem manOk_blocks {a b c : Int} {l : List S71} (h : manOk a b c l = true) : l.length ≤ 40 ∧ (l.length : Int) ≤ blocks b c := by
 have r := blocks_range b c
 unfold manOk at h
 split at h
 ·have := of_decide_eq_true h
  omega
 ·split at h
  ·rename_i q
   omega
  ·cases h
theorem implBuildOk_ev (a b c : Int) (l : List S71) (h : Int) (m : List Int) (hl : l.length ≤ 1048576) (hb : Bytes m) : Ev (fun k => impl_BuildOk.f k a b c l h m) (buildOk a b c l h m) := by
 unfold impl_BuildOk.f buildOk
 have badE : Ev (fun k => impl_BuildOk.j0 k true a b c l h m) false := Ev.step (fun k => rfl) (ev_true (g := fun k => impl_BuildOk.l0 k l (l.length : Int) 0 a b c l h m) ev_some)
 refine Ev.bind (implManOk_ev a b c l hl) ?_
 by_cases h1 : manOk a b c l = true
 ·refine ev_pos h1 (ev_then (implSetOk_eq h) ?_)
  rw [h1, Bool.true_and]
  have hn := manOk_blocks h1
  by_cases h2 : setOk h = true
  ·refine ev_pos h2 ?_
   rw [h2, Bool.true_and]
   refine ev_then (show impl_AllParts.f a b c l = some (fullSet l.length) by unfold impl_AllParts.f; rw [implFullSet_eq]; rfl) ?_
   by_cases h3 : Go.bits .andNot .i64 h (fullSet l.length) = 0
   ·refine ev_pos h3 (Ev.step (fun k => rfl) ?_)
    rw [decide_eq_true h3, Bool.true_and]
    by_cases h4 : (m.length : Int) = c
    ·refine ev_neg (by simpa using h4) ?_
     rw [decide_eq_true h4, Bool.true_and]
     refine loop_all (fun k i => impl_BuildOk.l0 k l (l.length : Int) i a b c l h m) l.length (partOk b c l h m) ?_ ?_ ?_
     ·intro i r hi hp hr
      have hs := span_in (b := b) h4 (i : Int)
      have pl := piece_length b c m (i : Int)
      refine Ev.step (fun k => rfl) (ev_pos (by omega) (ev_pos (by omega) (ev_pos (by omega) (ev_then (implBlock_eq h m a b c l (i : Int) hs) (ev_then (implInSet_eq _ _) ?_)))))
      unfold partOk at hp
      by_cases q : inSet h (i : Int) = true
      ·rw [if_pos q] at hp
       refine ev_pos q (Ev.bind (implSumOf_ev _ (bytes_piece hb b c (i : Int))) ?_)
       simp only [rd_T71, Int.toNat_natCast]
       refine ev_neg (by rw [sum_ne, hp]; decide) (ev_then (implInSet_eq _ _) (ev_pos q ?_))
       rw [w64 (by omega) (by omega)]
       exact hr
      ·rw [if_neg q] at hp
       refine ev_neg q (ev_then (implInSet_eq _ _) (ev_neg q (Ev.bind (implNonzero_ev (piece b c m (i : Int)) (by omega)) (ev_neg (by rw [hp]; decide) ?_))))
       rw [w64 (by omega) (by omega)]
       exact hr
     ·intro i hi hp
      have hs := span_in (b := b) h4 (i : Int)
      have pl := piece_length b c m (i : Int)
      refine Ev.step (fun k => rfl) (ev_pos (by omega) (ev_pos (by omega) (ev_pos (by omega) (ev_then (implBlock_eq h m a b c l (i : Int) hs) (ev_then (implInSet_eq _ _) ?_)))))
      unfold partOk at hp
      by_cases q : inSet h (i : Int) = true
      ·rw [if_pos q] at hp
       refine ev_pos q (Ev.bind (implSumOf_ev _ (bytes_piece hb b c (i : Int))) ?_)
       simp only [rd_T71, Int.toNat_natCast]
       exact ev_pos (by rw [sum_ne, hp]; rfl) ev_some
      ·rw [if_neg q] at hp
       exact ev_neg q (ev_then (implInSet_eq _ _) (ev_neg q (Ev.bind (implNonzero_ev (piece b c m (i : Int)) (by omega)) (ev_pos (by rw [hp]; rfl) ev_some))))
     ·exact Ev.step (fun k => rfl) (ev_neg (by omega) ev_some)
    ·refine ev_pos (by simpa using h4) (ev_eq ev_some ?_)
     rw [decide_eq_false h4, Bool.false_and]
   ·refine ev_neg h3 (ev_eq badE ?_)
    rw [decide_eq_false h3, Bool.false_and]
  ·refine ev_neg h2 (ev_eq badE ?_)
   rw [Bool.eq_false_iff.mpr h2, Bool.false_and]
 ·refine ev_neg h1 (ev_eq badE ?_)
  rw [Bool.eq_false_iff.mpr h1, Bool.false_and]
end Go.Proofs.Ytaofakpljnkplaa.Pb
/- The strong sum tells the bytes. No condition beyond their range. -/
namespace Go.Proofs.Ytaofakpljnkplaa.Pb
open Go.RowKit Go.Proofs.Ytaofakpljnkplaa Go.Proofs.Ytaofakpljnkplaa.Q Go.Proofs.YtaofakpljnkplaaW.PrintWords Go.Proofs.YtaofakpljnkplaaW.PrintLast
set_option linter.unusedVariables false
set_option linter.unusedSimpArgs false
theorem strongFrom_bounds : ∀ (l : List Int) (s : Int), Bytes l → s * 256 ^ l.length ≤ l.foldl (fun s b => 256 * s + b) s ∧ l.foldl (fun s b => 256 * s + b) s < (s + 1) * 256 ^ l.length
 | [], s, _ => by simp; omega
 | b :: l, s, h => by
  have hb := h b (by simp)
  have ih := strongFrom_bounds l (256 * s + b) (fun x hx => h x (by simp [hx]))
  rw [List.foldl_cons, List.length_cons, pow256_succ]
  have hp : (0 : Int) < 256 ^ l.length := Int.pow_pos (by decide)
  generalize (256 : Int) ^ l.length = p at ih hp ⊢
  have e1 : (256 * s + b) * p = 256 * (s * p) + b * p := by rw [Int.add_mul, Int.mul_assoc]
  have e2 : (256 * s + b + 1) * p = 256 * (s * p) + b * p + p := by rw [Int.add_mul, e1, Int.one_mul]
  have e3 : s * (256 * p) = 256 * (s * p) := by rw [← Int.mul_assoc, Int.mul_comm s 256, Int.mul_assoc]
  have e4 : (s + 1) * (256 * p) = 256 * (s * p) + 256 * p := by rw [Int.add_mul, e3, Int.one_mul]
  have e5 : 0 ≤ b * p := Int.mul_nonneg hb.1 (Int.le_of_lt hp)
  have e6 : b * p ≤ 255 * p := Int.mul_le_mul_of_nonneg_right hb.2 (Int.le_of_lt hp)
  rw [e1, e2] at ih
  rw [e3, e4]
  omega
theorem strong_length {l m : List Int} (hl : Bytes l) (hm : Bytes m) (h6 : l.length ≤ 6) (m6 : m.length ≤ 6) (h : strong l = strong m) : l.length = m.length := by
 have a := strongFrom_bounds l 1 hl
 have b := strongFrom_bounds m 1 hm
 unfold strong at h
 rw [h] at a
 generalize l.length = x at a h6 ⊢
 generalize m.length = y at b m6 ⊢
 rcases (show x = 0 ∨ x = 1 ∨ x = 2 ∨ x = 3 ∨ x = 4 ∨ x = 5 ∨ x = 6 by omega) with rfl | rfl | rfl | rfl | rfl | rfl | rfl <;>
  rcases (show y = 0 ∨ y = 1 ∨ y = 2 ∨ y = 3 ∨ y = 4 ∨ y = 5 ∨ y = 6 by omega) with rfl | rfl | rfl | rfl | rfl | rfl | rfl <;>
  simp only [p256_0, p256_1, p256_2, p256_3, p256_4, p256_5, p256_6] at a b ⊢ <;> omega
theorem strongFrom_inj : ∀ (l m : List Int) (s t : Int), Bytes l → Bytes m → l.length = m.length → l.foldl (fun s b => 256 * s + b) s = m.foldl (fun s b => 256 * s + b) t → s = t ∧ l = m
 | [], [], s, t, _, _, _, h => ⟨h, rfl⟩
 | [], _ :: _, _, _, _, _, e, _ => by simp at e
 | _ :: _, [], _, _, _, _, e, _ => by simp at e
 | a :: l, b :: m, s, t, hl, hm, e, h => by
  have ha := hl a (by simp)
  have hb := hm b (by simp)
  obtain ⟨h1, rfl⟩ := strongFrom_inj l m (256 * s + a) (256 * t + b) (fun x hx => hl x (by simp [hx])) (fun x hx => hm x (by simp [hx])) (by simpa using e) h
  obtain rfl : a = b := by omega
  obtain rfl : s = t := by omega
  exact ⟨rfl, rfl⟩
theorem strong_inj {l m : List Int} (hl : Bytes l) (hm : Bytes m) (h6 : l.length ≤ 6) (m6 : m.length ≤ 6) (h : strong l = strong m) : l = m :=
 (strongFrom_inj l m 1 1 hl hm (strong_length hl hm h6 m6 h) h).2
theorem strong_pos (l : List Int) (h : Bytes l) : 1 ≤ strong l := by
 have a := (strongFrom_bounds l 1 h).1
 have : (0 : Int) < 256 ^ l.length := Int.pow_pos (by decide)
 unfold strong
 omega
end Go.Proofs.Ytaofakpljnkplaa.Pb
/- A part is put into a set. -/
namespace Go.Proofs.Ytaofakpljnkplaa.Pb
open Go.RowKit Go.Proofs.Ytaofakpljnkplaa Go.Proofs.Ytaofakpljnkplaa.Q Go.Proofs.YtaofakpljnkplaaW.PrintWords Go.Proofs.YtaofakpljnkplaaW.PrintLast
set_option linter.unusedVariables false
set_option linter.unusedSimpArgs false
end Go.Proofs.Ytaofakpljnkplaa.Pb
/- A block is put into a build: the program's and the reference's ways. -/
namespace Go.Proofs.Ytaofakpljnkplaa.Pb
open Go.RowKit Go.Proofs.Ytaofakpljnkplaa Go.Proofs.Ytaofakpljnkplaa.Q Go.Proofs.YtaofakpljnkplaaW.PrintWords Go.Proofs.YtaofakpljnkplaaW.PrintLast
set_option linter.unusedVariables false
set_option linter.unusedSimpArgs false
def lay (m : List Int) (t : Nat) (p : List Int) : List Int := m.take t ++ p ++ m.drop (t + p.length)
theorem lay_length {m : List Int} {t : Nat} {p : List Int} (h : t + p.length ≤ m.length) : (lay m t p).length = m.length := by
 unfold lay
 rw [List.length_append, List.length_append, List.length_take, List.length_drop]
 omega
theorem bytes_lay {m p : List Int} (hm : Bytes m) (hp : Bytes p) (t : Nat) : Bytes (lay m t p) := by
 intro x hx
 unfold lay at hx
 rw [List.mem_append, List.mem_append] at hx
 rcases hx with (h | h) | h
 ·exact hm x (List.mem_of_mem_take h)
 ·exact hp x h
 ·exact hm x (List.mem_of_mem_drop h)
def bitOn (h i : Int) : Int := Go.bits .or .i64 h (shl .i64 1 i)
theorem implPiece_eq (h : Int) (m : List Int) (b c i : Int) (p : List Int) (hs : (spanOf b c i).1 + (spanOf b c i).2 ≤ m.length) (hp : (p.length : Int) ≤ (spanOf b c i).2) (hi : 0 ≤ i) :
  impl_Build_put.f h m b c i p = some (bitOn h i, lay m (spanOf b c i).1.toNat p) := by
 unfold impl_Build_put.f lay bitOn
 have r := spanOf_range b c i
 rw [implSpanOf_eq]
 simp only [Option.bind_some]
 rw [w64 (by omega) (by omega), if_pos (by omega), if_pos (by omega), if_pos (by omega), if_pos (by omega), if_pos hi]
theorem manOk_sum {a b c : Int} {l : List S71} (hm : manOk a b c l = true) {i : Nat} (hi : i < l.length) :
  ∃ q, Bytes q ∧ (q.length : Int) = (spanOf b c i).2 ∧ q.length ≤ 6 ∧ (l.getD i z71).f0 = weakOf q ∧ (l.getD i z71).f1 = strong q := by
 unfold manOk at hm
 split at hm
 ·have := of_decide_eq_true hm
  omega
 ·split at hm
  ·rename_i q
   rw [List.all_eq_true] at hm
   have h := hm i (List.mem_range.2 hi)
   unfold blockOk at h
   rw [Bool.and_eq_true, Bool.and_eq_true, decide_eq_true_eq, decide_eq_true_eq] at h
   have s := bytesOf_strong _ h.1
   have l6 := bytesOf_length (l.getD i z71).f1
   unfold sumOf at s
   rw [if_neg (by omega)] at s
   exact ⟨_, bytesOf_bytes _, h.2.1, l6, h.2.2.symm, (Prod.mk.inj s).2.symm⟩
  ·cases hm
theorem sumIs_iff {s : Int × Int} {x : S71} : sumIs s x = true ↔ s.1 = x.f0 ∧ s.2 = x.f1 := by
 unfold sumIs
 rw [Bool.and_eq_true, beq_iff_eq, beq_iff_eq]
theorem sumIs_only {a b c : Int} {l : List S71} (hm : manOk a b c l = true) {i : Nat} (hi : i < l.length) {p : List Int} (hp : Bytes p) (h : sumIs (sumOf p) (l.getD i z71) = true) :
  (p.length : Int) = (spanOf b c i).2 ∧ p.length ≤ 6 ∧ ∀ p', Bytes p' → sumIs (sumOf p') (l.getD i z71) = true → p' = p := by
 obtain ⟨q, hq, e1, e2, e3, e4⟩ := manOk_sum hm hi
 have key : ∀ p', Bytes p' → sumIs (sumOf p') (l.getD i z71) = true → p' = q := by
  intro p' hp' h'
  have h' := (sumIs_iff.1 h').2
  unfold sumOf at h'
  split at h'
  ·have := strong_pos q hq
   simp only at h'
   omega
  ·rename_i n
   exact strong_inj hp' hq (by omega) e2 (h'.trans e4)
 have e := key p hp h
 subst e
 exact ⟨e1, e2, key⟩
end Go.Proofs.Ytaofakpljnkplaa.Pb
/- Weak sums, rolled on by a byte. No condition beyond the bytes' range. -/
namespace Go.Proofs.Ytaofakpljnkplaa.Pb
open Go.RowKit Go.Proofs.Ytaofakpljnkplaa Go.Proofs.Ytaofakpljnkplaa.Q Go.Proofs.YtaofakpljnkplaaW.PrintWords Go.Proofs.YtaofakpljnkplaaW.PrintLast
set_option linter.unusedVariables false
set_option linter.unusedSimpArgs false
end Go.Proofs.Ytaofakpljnkplaa.Pb
/- The weak sums of all windows of a file. No condition beyond the bytes' range and the size that the laws ask. -/
namespace Go.Proofs.Ytaofakpljnkplaa.Pb
open Go.RowKit Go.Proofs.Ytaofakpljnkplaa Go.Proofs.Ytaofakpljnkplaa.Q Go.Proofs.YtaofakpljnkplaaW.PrintWords Go.Proofs.YtaofakpljnkplaaW.PrintLast
set_option linter.unusedVariables false
set_option linter.unusedSimpArgs false
def win (l : List Int) (n i : Nat) : List Int := (l.take (i + n)).drop i
theorem win_length (l : List Int) (n i : Nat) (h : i + n ≤ l.length) : (win l n i).length = n := by
 unfold win
 rw [List.length_drop, List.length_take]
 omega
theorem bytes_win {l : List Int} (h : Bytes l) (n i : Nat) : Bytes (win l n i) := fun x hx => h x (List.mem_of_mem_take (List.mem_of_mem_drop hx))
def wins (l : List Int) (n : Nat) : Nat := if n ≤ l.length then l.length - n + 1 else 0
def windows (l : List Int) (n : Nat) : List Int := (List.range (wins l n)).map (fun i => weakOf (win l n i))
end Go.Proofs.Ytaofakpljnkplaa.Pb
/- Finding a block in a file: the program's and the reference's ways. No condition beyond the bytes' range and the size that the laws ask. -/
namespace Go.Proofs.Ytaofakpljnkplaa.Pb
open Go.RowKit Go.Proofs.Ytaofakpljnkplaa Go.Proofs.Ytaofakpljnkplaa.Q Go.Proofs.YtaofakpljnkplaaW.PrintWords Go.Proofs.YtaofakpljnkplaaW.PrintLast
set_option linter.unusedVariables false
set_option linter.unusedSimpArgs false
def findSum (l : List Int) (a b n : Int) : Int := if 1 ≤ n ∧ n ≤ 6 then (match (List.range (wins l n.toNat)).find? (fun i => decide (sumOf (win l n.toNat i) = (a, b))) with | some i => (i : Int) | none => -1) else -1
theorem implFindSum_ev (l : List Int) (a b n : Int) (hb : Bytes l) (hl : l.length ≤ 1048576) : Ev (fun k => impl_FindSum.f k l a b n) (findSum l a b n) := by
 unfold impl_FindSum.f findSum
 rw [within_eq]
 simp only [Option.bind_some]
 refine ev_if (fun h => ?_) (fun h => ev_eq ev_some (by rw [if_neg (by simpa using h)]))
 have hn : 1 ≤ n ∧ n ≤ 6 := by simpa using h
 rw [if_pos hn]
 obtain ⟨m, rfl⟩ := Int.eq_ofNat_of_zero_le (show 0 ≤ n by omega)
 rw [Int.toNat_natCast]
 have wb : ∀ i, i < wins l m → i + m ≤ l.length := by
  intro i hi
  unfold wins at hi
  split at hi <;> omega
 refine loop_find (fun k i => impl_FindSum.l0 k l (m : Int) i a b) (wins l m) _ (fun i => (i : Int)) (-1) ?_ ?_ ?_
 ·intro i hi hp
  have hw := wb i hi
  have hq : sumOf (win l m i) = (a, b) := by simpa using hp
  refine Ev.step (fun k => rfl) ?_
  simp only [impl_FindSum.l0]
  have e : wrap64 ((i : Int) + (m : Int)) = ((i + m : Nat) : Int) := by rw [w64 (by omega) (by omega)]; omega
  rw [e]
  refine ev_pos (by omega) (ev_pos (by omega) (ev_pos (by omega) ?_))
  rw [Int.toNat_natCast, Int.toNat_natCast]
  refine Ev.bind (implSumOf_ev (win l m i) (bytes_win hb _ _)) ?_
  rw [hq]
  exact ev_pos (by simp) ev_some
 ·intro i r hi hp h
  have hw := wb i hi
  have hq : ¬ sumOf (win l m i) = (a, b) := by simpa using hp
  refine Ev.step (fun k => rfl) ?_
  simp only [impl_FindSum.l0]
  have e1 : wrap64 ((i : Int) + 1) = (i : Int) + 1 := by rw [w64 (by omega) (by omega)]
  have e : wrap64 ((i : Int) + (m : Int)) = ((i + m : Nat) : Int) := by rw [w64 (by omega) (by omega)]; omega
  rw [e, e1]
  refine ev_pos (by omega) (ev_pos (by omega) (ev_pos (by omega) ?_))
  rw [Int.toNat_natCast, Int.toNat_natCast]
  refine Ev.bind (implSumOf_ev (win l m i) (bytes_win hb _ _)) ?_
  refine ev_neg ?_ h
  intro z
  rw [Bool.and_eq_true, beq_iff_eq, beq_iff_eq] at z
  exact hq (Prod.ext z.1 z.2)
 ·refine Ev.step (fun k => rfl) ?_
  refine ev_neg ?_ ev_some
  unfold wins
  split
  ·rw [w64 (by omega) (by omega)]; omega
  ·rw [w64 (by omega) (by omega)]; omega
def placeOf (l : List Int) (b c : Int) (m : List S71) (i : Int) : Int := if 0 ≤ i ∧ i ≤ (m.length : Int) - 1 then findSum l (m.getD i.toNat z71).f0 (m.getD i.toNat z71).f1 (spanOf b c i).2 else -1
theorem implPlaceOf_ev (l : List Int) (a b c : Int) (m : List S71) (i : Int) (hb : Bytes l) (hl : l.length ≤ 1048576) (hm : m.length ≤ 1048576) : Ev (fun k => impl_PlaceOf.f k l a b c m i) (placeOf l b c m i) := by
 unfold impl_PlaceOf.f placeOf
 refine ev_then (implSpanOf_eq _ _ _) ?_
 rw [w64 (x := (m.length : Int) - 1) (by omega) (by omega)]
 refine ev_then (within_eq _ _ _) ?_
 refine ev_if (fun h => ?_) (fun h => ev_eq ev_some (by rw [if_neg (by simpa using h)]))
 have h' : 0 ≤ i ∧ i ≤ (m.length : Int) - 1 := by simpa using h
 rw [if_pos h']
 exact ev_pos (by omega) (ev_pos (by omega) (Ev.bind (implFindSum_ev l _ _ _ hb hl) ev_some))
end Go.Proofs.Ytaofakpljnkplaa.Pb
/- BuildNew: the program's and the reference's ways. -/
namespace Go.Proofs.Ytaofakpljnkplaa.Pb
open Go.RowKit Go.Proofs.Ytaofakpljnkplaa Go.Proofs.Ytaofakpljnkplaa.Q Go.Proofs.YtaofakpljnkplaaW.PrintWords Go.Proofs.YtaofakpljnkplaaW.PrintLast
set_option linter.unusedVariables false
set_option linter.unusedSimpArgs false
def buildNew (a b c : Int) (l : List S71) : Int × List Int := (0, if manOk a b c l = true then List.replicate c.toNat 0 else [])
theorem manOk_size {a b c : Int} {l : List S71} (h : manOk a b c l = true) : 0 ≤ c ∧ c ≤ 240 := by
 unfold manOk at h
 split at h
 ·simp at h; omega
 ·split at h
  ·rename_i q
   have := sizeOk_iff.1 q.2.1
   omega
  ·cases h
theorem implBuildNew_ev (a b c : Int) (l : List S71) (hl : l.length ≤ 1048576) : Ev (fun k => impl_BuildNew.f k a b c l) (buildNew a b c l) := by
 unfold impl_BuildNew.f buildNew
 refine Ev.bind (implManOk_ev a b c l hl) (ev_if (fun h => ?_) (fun h => ev_eq ev_some (by rw [if_neg h])))
 have := manOk_size h
 exact ev_pos (by omega) (ev_pos (by omega) (ev_eq ev_some (by rw [if_pos h])))
end Go.Proofs.Ytaofakpljnkplaa.Pb
/- BuildFrom: the program's and the reference's ways. -/
namespace Go.Proofs.Ytaofakpljnkplaa.Pb
open Go.RowKit Go.Proofs.Ytaofakpljnkplaa Go.Proofs.Ytaofakpljnkplaa.Q Go.Proofs.YtaofakpljnkplaaW.PrintWords Go.Proofs.YtaofakpljnkplaaW.PrintLast
set_option linter.unusedVariables false
set_option linter.unusedSimpArgs false
theorem findSum_some {l : List Int} {a b n : Int} (h : 0 ≤ findSum l a b n) : (1 ≤ n ∧ n ≤ 6) ∧ findSum l a b n + n ≤ (l.length : Int) ∧ sumOf (win l n.toNat (findSum l a b n).toNat) = (a, b) ∧ ∀ j, j < (findSum l a b n).toNat → sumOf (win l n.toNat j) ≠ (a, b) := by
 unfold findSum at h ⊢
 split at h
 ·rename_i q
  rw [if_pos q]
  cases hf : (List.range (wins l n.toNat)).find? (fun i => decide (sumOf (win l n.toNat i) = (a, b))) with
  | none => rw [hf] at h; simp at h
  | some i =>
   have h1 := List.find?_some hf
   have h2 := List.mem_range.1 (List.mem_of_find?_eq_some hf)
   have h3 := (List.find?_eq_some_iff_getElem.1 hf).2
   simp only [Int.toNat_natCast]
   unfold wins at h2
   refine ⟨q, by split at h2 <;> omega, of_decide_eq_true h1, fun j hj e => ?_⟩
   obtain ⟨k, hk, ek, hn⟩ := h3
   rw [List.getElem_range] at ek
   subst ek
   have := hn j hj
   rw [List.getElem_range, e] at this
   simp at this
 ·omega
theorem findSum_none {l : List Int} {a b n : Int} (h : ¬ 0 ≤ findSum l a b n) (hn : 1 ≤ n ∧ n ≤ 6) (j : Nat) (hj : (j : Int) + n ≤ l.length) : sumOf (win l n.toNat j) ≠ (a, b) := by
 unfold findSum at h
 rw [if_pos hn] at h
 cases hf : (List.range (wins l n.toNat)).find? (fun i => decide (sumOf (win l n.toNat i) = (a, b))) with
 | some i => rw [hf] at h; simp at h
 | none =>
  have := List.find?_eq_none.1 hf j (List.mem_range.2 (by unfold wins; rw [if_pos (by omega)]; omega))
  simpa using this
def atPlace (old : List Int) (b c : Int) (l : List S71) (i : Nat) : Bool := decide (0 ≤ placeOf old b c l (i : Int))
def buildStep (old : List Int) (b c : Int) (l : List S71) (i : Nat) (s : Int × List Int) : Int × List Int := if 0 ≤ placeOf old b c l (i : Int) then (bitOn s.1 (i : Int), lay s.2 (spanOf b c (i : Int)).1.toNat (win old (spanOf b c (i : Int)).2.toNat (placeOf old b c l (i : Int)).toNat)) else s
def buildFrom (a b c : Int) (l : List S71) (old : List Int) : Int × List Int := if manOk a b c l = true then iter l.length (buildStep old b c l) (0, List.replicate c.toNat 0) else (0, [])
def FromInv (old : List Int) (b c : Int) (l : List S71) (i : Nat) (s : Int × List Int) : Prop := s.1 = ((bs (atPlace old b c l) i : Nat) : Int) ∧ (s.2.length : Int) = c ∧ Bytes s.2
theorem placeOf_some {a b c : Int} {l : List S71} {old : List Int} (hm : manOk a b c l = true) (hb : Bytes old) {i : Nat} (hi : i < l.length) (h : 0 ≤ placeOf old b c l (i : Int)) :
  placeOf old b c l (i : Int) + (spanOf b c (i : Int)).2 ≤ (old.length : Int) ∧ ((win old (spanOf b c (i : Int)).2.toNat (placeOf old b c l (i : Int)).toNat).length : Int) = (spanOf b c (i : Int)).2 ∧ Bytes (win old (spanOf b c (i : Int)).2.toNat (placeOf old b c l (i : Int)).toNat) ∧ sumIs (sumOf (win old (spanOf b c (i : Int)).2.toNat (placeOf old b c l (i : Int)).toNat)) (l.getD i z71) = true := by
 have r := spanOf_range b c (i : Int)
 unfold placeOf at h ⊢
 rw [if_pos (by omega)] at h ⊢
 rw [Int.toNat_natCast] at h ⊢
 have f := findSum_some h
 generalize findSum old (l.getD i z71).f0 (l.getD i z71).f1 (spanOf b c (i : Int)).2 = t at h f ⊢
 refine ⟨f.2.1, ?_, bytes_win hb _ _, ?_⟩
 ·rw [win_length _ _ _ (by omega)]; omega
 ·rw [f.2.2.1]
  exact sumIs_iff.2 ⟨rfl, rfl⟩
theorem from_step {a b c : Int} {l : List S71} {old : List Int} (hm : manOk a b c l = true) (hb : Bytes old) (i : Nat) (s : Int × List Int) (hi : i < l.length) (hs : FromInv old b c l i s) : FromInv old b c l (i + 1) (buildStep old b c l i s) := by
 have n40 := (manOk_blocks hm).1
 obtain ⟨h1, h2, h3⟩ := hs
 unfold buildStep FromInv
 rw [bs]
 by_cases q : 0 ≤ placeOf old b c l (i : Int)
 ·rw [if_pos q]
  have p := placeOf_some hm hb hi q
  have sp := span_in (b := b) h2 (i : Int)
  have r := spanOf_range b c (i : Int)
  rw [if_pos (show atPlace old b c l i = true from decide_eq_true q)]
  refine ⟨?_, ?_, bytes_lay h3 p.2.2.1 _⟩
  ·show bitOn s.1 _ = _
   unfold bitOn
   rw [h1, or_bit _ _ (by omega) (bs_lt _ _)]
  ·show ((lay s.2 _ _).length : Int) = c
   rw [lay_length (by omega)]
   exact h2
 ·rw [if_neg q, if_neg (by simpa [atPlace] using q)]
  exact ⟨h1, h2, h3⟩
theorem from_start {a b c : Int} {l : List S71} {old : List Int} (hm : manOk a b c l = true) : FromInv old b c l 0 (0, List.replicate c.toNat 0) := by
 have := manOk_size hm
 refine ⟨rfl, by simp; omega, fun x hx => ?_⟩
 rw [List.eq_of_mem_replicate hx]
 omega
theorem from_all {a b c : Int} {l : List S71} {old : List Int} (hm : manOk a b c l = true) (hb : Bytes old) : ∀ n, n ≤ l.length → FromInv old b c l n (iter n (buildStep old b c l) (0, List.replicate c.toNat 0))
 | 0, _ => from_start hm
 | n + 1, h => by rw [iter_succ]; exact from_step hm hb n _ (by omega) (from_all hm hb n (by omega))
theorem implBuildFrom_ev (a b c : Int) (l : List S71) (old : List Int) (hl : l.length ≤ 1048576) (ho : old.length ≤ 1048576) (hb : Bytes old) : Ev (fun k => impl_BuildFrom.f k a b c l old) (buildFrom a b c l old) := by
 unfold impl_BuildFrom.f buildFrom
 refine Ev.bind (implBuildNew_ev a b c l hl) (Ev.bind (implManOk_ev a b c l hl) (ev_if (fun q => ?_) (fun q => ev_eq ev_some (by unfold buildNew; rw [if_neg q, if_neg q]))))
 rw [if_pos q]
 have e : buildNew a b c l = (0, List.replicate c.toNat 0) := by unfold buildNew; rw [if_pos q]
 rw [e]
 refine loop_up (σ := Int × List Int) (fun k s i => impl_BuildFrom.l0 k old (l.length : Int) i a b c l s.1 s.2) l.length (buildStep old b c l) (FromInv old b c l) _ _ (from_start q) (fun i s hi hs => from_step q hb i s hi hs) ?_ ?_
 ·intro i s r hi hs hr
  have sp := span_in (b := b) hs.2.1 (i : Int)
  have rr := spanOf_range b c (i : Int)
  refine Ev.step (fun k => rfl) (ev_pos (by omega) (ev_then (implSpanOf_eq _ _ _) (Ev.bind (implPlaceOf_ev old a b c l (i : Int) hb ho hl) ?_)))
  unfold buildStep at hr
  by_cases h : 0 ≤ placeOf old b c l (i : Int)
  ·rw [if_pos h] at hr
   have p := placeOf_some q hb hi h
   refine ev_pos h (ev_pos h ?_)
   rw [w64 (by omega) (by omega)]
   refine ev_pos (by omega) (ev_pos (by omega) (Ev.bind ev_some ?_))
   have ew : (old.take (placeOf old b c l (i : Int) + (spanOf b c (i : Int)).2).toNat).drop (placeOf old b c l (i : Int)).toNat = win old (spanOf b c (i : Int)).2.toNat (placeOf old b c l (i : Int)).toNat := by
    unfold win
    rw [show (placeOf old b c l (i : Int) + (spanOf b c (i : Int)).2).toNat = (placeOf old b c l (i : Int)).toNat + (spanOf b c (i : Int)).2.toNat by omega]
   rw [ew]
   refine ev_then (implPiece_eq s.1 s.2 b c (i : Int) _ sp (by omega) (by omega)) ?_
   rw [w64 (by omega) (by omega)]
   exact hr
  ·rw [if_neg h] at hr
   refine ev_neg h ?_
   rw [w64 (by omega) (by omega)]
   exact hr
 ·intro _
  exact Ev.step (fun k => rfl) (ev_neg (by omega) ev_some)
end Go.Proofs.Ytaofakpljnkplaa.Pb
/- Sets as bits: which numbers are in them. No condition. -/
namespace Go.Proofs.Ytaofakpljnkplaa.Pb
open Go.RowKit Go.Proofs.Ytaofakpljnkplaa Go.Proofs.Ytaofakpljnkplaa.Q Go.Proofs.YtaofakpljnkplaaW.PrintWords Go.Proofs.YtaofakpljnkplaaW.PrintLast
set_option linter.unusedVariables false
set_option linter.unusedSimpArgs false
theorem bs_or (p : Nat → Bool) (m : Nat) : bs p (m + 1) = bs p m ||| (if p m = true then 2 ^ m else 0) := by
 rw [bs]
 split
 ·have h := Nat.two_pow_add_eq_or_of_lt (bs_lt p m) 1
  rw [Nat.mul_one] at h
  rw [Nat.add_comm, h, Nat.or_comm]
 ·simp
theorem bs_bit (p : Nat → Bool) (m j : Nat) : (bs p m).testBit j = (decide (j < m) && p j) := by
 induction m with
 | zero => simp [bs]
 | succ m ih =>
  rw [bs_or, Nat.testBit_or, ih]
  by_cases hj : j = m
  ·subst hj
   cases hp : p j <;> simp [Nat.testBit_two_pow]
  ·have e : (decide (j < m + 1)) = decide (j < m) := by rw [decide_eq_decide]; omega
   rw [e]
   cases hp : p m <;> simp [Nat.testBit_two_pow, Ne.symm hj]
theorem bs_none {p : Nat → Bool} {m : Nat} (h : ∀ i, i < m → p i = false) : bs p m = 0 := by
 induction m with
 | zero => rfl
 | succ m ih => rw [bs, ih (fun i hi => h i (by omega)), h m (by omega)]; simp
theorem pow_le40 {m : Nat} (h : m ≤ 40) : 2 ^ m ≤ 1099511627776 := Nat.le_trans (Nat.pow_le_pow_right (by decide) h) (by decide)
theorem inSet_bit (p : Nat → Bool) (m i : Nat) (hm : m ≤ 40) : inSet ((bs p m : Nat) : Int) (i : Int) = (decide (i < m) && p i) := by
 have h := bs_lt p m
 have hp := pow_le40 hm
 unfold inSet
 rw [if_pos (by unfold setOk; rw [decide_eq_true_eq]; omega)]
 by_cases hi : i ≤ 39
 ·rw [if_pos (by omega), shr_of _ _ (by omega), Int.toNat_natCast, show (2 : Int) ^ i = ((2 ^ i : Nat) : Int) by simp, ← Int.natCast_ediv]
  rw [← bs_bit p m i]
  have e : Go.bits .and .i64 ((bs p m / 2 ^ i : Nat) : Int) 1 = ((bs p m / 2 ^ i % 2 : Nat) : Int) := by
   have hx : bs p m / 2 ^ i ≤ bs p m := Nat.div_le_self _ _
   generalize bs p m / 2 ^ i = x at hx ⊢
   show IntKind.i64.wrap ((BitVec.ofInt 64 (x : Int) &&& BitVec.ofInt 64 1).toNat : Nat) = _
   have key : (BitVec.ofInt 64 (x : Int) &&& BitVec.ofInt 64 1).toNat = x % 2 := by
    rw [BitVec.toNat_and, BitVec.ofInt_natCast, BitVec.toNat_ofNat, Nat.mod_eq_of_lt (by omega)]
    exact Nat.and_one_is_mod x
   rw [key]
   exact wraps_i64 _ (by omega) (by omega)
  rw [e, Nat.testBit_eq_decide_div_mod_eq]
  by_cases q : bs p m / 2 ^ i % 2 = 1
  ·rw [q]; rfl
  ·rw [show bs p m / 2 ^ i % 2 = 0 by omega]; rfl
 ·rw [if_neg (by omega), decide_eq_false (by omega)]
  rfl
theorem andNot_full (x m : Nat) (hm : m ≤ 40) (hx : x < 2 ^ m) : Go.bits .andNot .i64 (x : Int) ((2 ^ m - 1 : Nat) : Int) = 0 := by
 have hp := pow_le40 hm
 have h0 : 0 < 2 ^ m := Nat.two_pow_pos m
 have key : (BitVec.ofInt 64 (x : Int) &&& ~~~ BitVec.ofInt 64 ((2 ^ m - 1 : Nat) : Int)).toNat = 0 := by
  rw [BitVec.toNat_and, BitVec.toNat_not, BitVec.ofInt_natCast, BitVec.ofInt_natCast, BitVec.toNat_ofNat, BitVec.toNat_ofNat, Nat.mod_eq_of_lt (a := 2 ^ m - 1) (by omega), Nat.mod_eq_of_lt (a := x) (by omega)]
  have hd : (2 : Nat) ^ 64 = 2 ^ (64 - m) * 2 ^ m := by rw [← Nat.pow_add]; congr 1; omega
  have hq : 0 < 2 ^ (64 - m) := Nat.two_pow_pos _
  have e : 2 ^ 64 - 1 - (2 ^ m - 1) = 2 ^ m * (2 ^ (64 - m) - 1) := by
   rw [Nat.mul_sub, Nat.mul_one, Nat.mul_comm, ← hd]
   omega
  rw [e]
  refine Nat.eq_of_testBit_eq (fun j => ?_)
  rw [Nat.testBit_and, Nat.zero_testBit, Nat.testBit_two_pow_mul]
  by_cases hj : j < m
  ·simp [show ¬ m ≤ j by omega]
  ·rw [Nat.testBit_lt_two_pow (Nat.lt_of_lt_of_le hx (Nat.pow_le_pow_right (by decide) (by omega)))]
   rfl
 show IntKind.i64.wrap ((BitVec.ofInt 64 (x : Int) &&& ~~~ BitVec.ofInt 64 ((2 ^ m - 1 : Nat) : Int)).toNat : Nat) = _
 rw [key]
 rfl
theorem fullSet_eq (m : Nat) (hm : m ≤ 40) : fullSet (m : Int) = ((2 ^ m - 1 : Nat) : Int) := by
 have hp := pow_le40 hm
 have h0 : 0 < 2 ^ m := Nat.two_pow_pos m
 unfold fullSet
 rw [if_pos (by omega), shl_one m hm, w64 (by omega) (by omega)]
 omega
theorem missing_bs (p : Nat → Bool) (l : List S71) (hm : l.length ≤ 40) : missing l ((bs p l.length : Nat) : Int) = ((bs (fun i => !p i) l.length : Nat) : Int) := by
 have h := bs_lt p l.length
 have hp := pow_le40 hm
 have h0 : 0 < 2 ^ l.length := Nat.two_pow_pos _
 have hn := bs_not p l.length
 unfold missing without
 rw [fullSet_eq _ hm, if_pos (by unfold setOk; rw [decide_eq_true_eq]; omega), if_pos (by unfold setOk; rw [decide_eq_true_eq]; omega), andNot_mask _ _ hm h]
 omega
end Go.Proofs.Ytaofakpljnkplaa.Pb
/- PutPiece: the program's and the reference's ways. -/
namespace Go.Proofs.Ytaofakpljnkplaa.Pb
open Go.RowKit Go.Proofs.Ytaofakpljnkplaa Go.Proofs.Ytaofakpljnkplaa.Q Go.Proofs.YtaofakpljnkplaaW.PrintWords Go.Proofs.YtaofakpljnkplaaW.PrintLast
set_option linter.unusedVariables false
set_option linter.unusedSimpArgs false
end Go.Proofs.Ytaofakpljnkplaa.Pb
/- Builds told by the blocks that they have. No condition but that bytes are bytes, and sizes fit. -/
namespace Go.Proofs.Ytaofakpljnkplaa.Pb
open Go.RowKit Go.Proofs.Ytaofakpljnkplaa Go.Proofs.Ytaofakpljnkplaa.Q Go.Proofs.YtaofakpljnkplaaW.PrintWords Go.Proofs.YtaofakpljnkplaaW.PrintLast
set_option linter.unusedVariables false
set_option linter.unusedSimpArgs false
def fillAt (p : Nat → Bool) (s : Nat) (b : List Int) (j : Nat) : Int := if p (j / s) = true then b.getD j 0 else 0
def fill (p : Nat → Bool) (s : Nat) (b : List Int) : List Int := (List.range b.length).map (fillAt p s b)
theorem fill_length (p : Nat → Bool) (s : Nat) (b : List Int) : (fill p s b).length = b.length := by simp [fill]
theorem fill_get (p : Nat → Bool) (s : Nat) (b : List Int) (j : Nat) : (fill p s b)[j]? = if j < b.length then some (fillAt p s b j) else none := by
 unfold fill
 rw [List.getElem?_map]
 split
 ·rename_i h; rw [List.getElem?_range h]; rfl
 ·rename_i h; rw [List.getElem?_eq_none (by simp; omega)]; rfl
theorem fill_none (s : Nat) (b : List Int) {p : Nat → Bool} (hp : ∀ i, i * s < b.length → p i = false) : fill p s b = List.replicate b.length 0 := by
 refine List.ext_getElem? (fun j => ?_)
 rw [fill_get, List.getElem?_replicate]
 split
 ·rename_i h
  unfold fillAt
  rw [hp (j / s) (Nat.lt_of_le_of_lt (Nat.div_mul_le_self j s) h), if_neg (by decide)]
 ·rfl
theorem fill_full (s : Nat) (b : List Int) {p : Nat → Bool} (hp : ∀ i, i * s < b.length → p i = true) : fill p s b = b := by
 refine List.ext_getElem? (fun j => ?_)
 rw [fill_get]
 split
 ·rename_i h
  unfold fillAt
  rw [hp (j / s) (Nat.lt_of_le_of_lt (Nat.div_mul_le_self j s) h), if_pos rfl, List.getD_eq_getElem?_getD, List.getElem?_eq_getElem h]
  rfl
 ·rename_i h
  rw [List.getElem?_eq_none (by omega)]
theorem fill_congr (s : Nat) (b : List Int) {p q : Nat → Bool} (h : ∀ i, i * s < b.length → p i = q i) : fill p s b = fill q s b := by
 refine List.ext_getElem? (fun j => ?_)
 rw [fill_get, fill_get]
 split
 ·rename_i hj
  unfold fillAt
  rw [h (j / s) (Nat.lt_of_le_of_lt (Nat.div_mul_le_self j s) hj)]
 ·rfl
def cutOf (l : List Int) (t n : Nat) : List Int := (l.take (t + n)).drop t
theorem cutOf_get (l : List Int) (t n j : Nat) : (cutOf l t n)[j]? = if j < n then l[t + j]? else none := by
 unfold cutOf
 rw [List.getElem?_drop, List.getElem?_take]
 by_cases h : j < n
 ·rw [if_pos (by omega), if_pos h]
 ·rw [if_neg (by omega), if_neg h]
theorem cutOf_length (l : List Int) (t n : Nat) (h : t + n ≤ l.length) : (cutOf l t n).length = n := by
 unfold cutOf
 rw [List.length_drop, List.length_take]
 omega
theorem lay_get (m : List Int) (t : Nat) (p : List Int) (h : t + p.length ≤ m.length) (j : Nat) : (lay m t p)[j]? = if t ≤ j ∧ j < t + p.length then p[j - t]? else m[j]? := by
 unfold lay
 have l1 : (m.take t).length = t := by rw [List.length_take]; omega
 by_cases h1 : j < t
 ·rw [if_neg (by omega), List.append_assoc, List.getElem?_append_left (by omega), List.getElem?_take, if_pos h1]
 ·by_cases h2 : j < t + p.length
  ·rw [if_pos (by omega), List.getElem?_append_left (by rw [List.length_append]; omega), List.getElem?_append_right (by omega), l1]
  ·rw [if_neg (by omega), List.getElem?_append_right (by rw [List.length_append]; omega), List.length_append, l1, List.getElem?_drop]
   congr 1
   omega
structure Lies (s i t n len : Nat) : Prop where
 s0 : 0 < s
 e : t = i * s
 n0 : 0 < n
 ns : n ≤ s
 fit : t + n ≤ len
 last : n = s ∨ t + n = len
theorem Lies.iff {s i t n len : Nat} (h : Lies s i t n len) {j : Nat} (hj : j < len) : j / s = i ↔ t ≤ j ∧ j < t + n := by
 have hs := h.s0
 have d := Nat.div_add_mod j s
 have m := Nat.mod_lt j hs
 rw [Nat.mul_comm] at d
 constructor
 ·intro e
  rw [e, ← h.e] at d
  have := h.last
  omega
 ·intro ⟨h1, h2⟩
  have h3 : i * s ≤ j := by rw [← h.e]; exact h1
  have h4 : j < (i + 1) * s := by rw [Nat.add_mul, Nat.one_mul, ← h.e]; have := h.ns; omega
  have a := (Nat.le_div_iff_mul_le hs).2 h3
  have b := (Nat.div_lt_iff_lt_mul hs).2 h4
  omega
theorem cutOf_fill {p : Nat → Bool} {s i t n : Nat} {b : List Int} (h : Lies s i t n b.length) : cutOf (fill p s b) t n = if p i = true then cutOf b t n else List.replicate n 0 := by
 refine List.ext_getElem? (fun j => ?_)
 have hf := h.fit
 have key : j < n → (fill p s b)[t + j]? = some (if p i = true then b.getD (t + j) 0 else 0) := by
  intro hj
  rw [fill_get, if_pos (by omega)]
  unfold fillAt
  rw [(h.iff (show t + j < b.length by omega)).2 (by omega)]
 rw [cutOf_get]
 split
 ·rename_i hj
  rw [key hj]
  split
  ·rw [cutOf_get, if_pos hj, List.getD_eq_getElem?_getD, List.getElem?_eq_getElem (by omega)]
   rfl
  ·rw [List.getElem?_replicate, if_pos hj]
 ·rename_i hj
  split
  ·rw [cutOf_get, if_neg hj]
  ·rw [List.getElem?_replicate, if_neg hj]
theorem lay_fill {p : Nat → Bool} {s i t n : Nat} {b : List Int} (h : Lies s i t n b.length) : lay (fill p s b) t (cutOf b t n) = fill (fun j => p j || j == i) s b := by
 have hf := h.fit
 have hl := cutOf_length b t n hf
 refine List.ext_getElem? (fun j => ?_)
 rw [lay_get _ _ _ (by rw [hl, fill_length]; exact hf), hl, fill_get, fill_get]
 by_cases hj : j < b.length
 ·rw [if_pos hj, if_pos hj]
  have q := h.iff hj
  unfold fillAt
  by_cases e : j / s = i
  ·have := q.1 e
   rw [if_pos this, cutOf_get, if_pos (by omega), show t + (j - t) = j by omega, e]
   simp [List.getD_eq_getElem?_getD, List.getElem?_eq_getElem hj]
  ·rw [if_neg (fun z => e (q.2 z))]
   simp [e]
 ·rw [if_neg hj, if_neg hj, if_neg (by omega)]
theorem span_lies {s c i : Int} {len : Nat} (hc : (len : Int) = c) (h : 0 ≤ i ∧ i ≤ blocks s c - 1) : Lies s.toNat i.toNat (spanOf s c i).1.toNat (spanOf s c i).2.toNat len := by
 have q := span_at h
 have e : (spanOf s c i) = (i * s, if c - i * s < s then c - i * s else s) := by unfold spanOf; rw [if_pos h]
 rw [e]
 have t1 : (i * s).toNat = i.toNat * s.toNat := by
  have a : ((i.toNat * s.toNat : Nat) : Int) = i * s := by rw [Int.natCast_mul, Int.toNat_of_nonneg h.1, Int.toNat_of_nonneg (by omega)]
  omega
 simp only
 split <;> exact ⟨by omega, t1, by omega, by omega, by omega, by omega⟩
theorem blocks_last {s c : Int} (h : sizeOk s c = true) {i : Int} (h0 : 0 ≤ i) : i ≤ blocks s c - 1 ↔ i * s < c := by
 have z := sizeOk_iff.1 h
 have e : blocks s c = (c + s - 1) / s := by unfold blocks; rw [if_pos h]
 rw [e]
 have hs : 0 < s := by omega
 constructor
 ·intro q
  have a := Int.mul_le_mul_of_nonneg_right (show i + 1 ≤ (c + s - 1) / s by omega) (Int.le_of_lt hs)
  have b := Int.ediv_mul_le (c + s - 1) (show s ≠ 0 by omega)
  rw [Int.add_mul] at a
  omega
 ·intro q
  have a := (Int.le_ediv_iff_mul_le hs (a := i + 1) (b := c + s - 1)).2 (by rw [Int.add_mul]; omega)
  omega
end Go.Proofs.Ytaofakpljnkplaa.Pb
/- An image's sums, the program's way; its manifest is one. -/
namespace Go.Proofs.Ytaofakpljnkplaa.Pb
open Go.RowKit Go.Proofs.Ytaofakpljnkplaa Go.Proofs.Ytaofakpljnkplaa.Q Go.Proofs.YtaofakpljnkplaaW.PrintWords Go.Proofs.YtaofakpljnkplaaW.PrintLast
set_option linter.unusedVariables false
set_option linter.unusedSimpArgs false
theorem bytes_block {l : List Int} (h : Bytes l) (n i : Int) : Bytes (block n l i) := fun x hx => h x (List.mem_of_mem_take (List.mem_of_mem_drop hx))
def sumNext (n : Int) (l : List Int) (i : Nat) (s : List S71) : List S71 := s ++ [⟨(sumOf (block n l (i : Int))).1, (sumOf (block n l (i : Int))).2⟩]
def sumsOf (n : Int) (l : List Int) : List S71 := iter (blocks n l.length).toNat (sumNext n l) []
theorem sums_eq (n : Int) (l : List Int) (m : Nat) : iter m (sumNext n l) [] = (List.range m).map (fun i : Nat => (⟨(sumOf (block n l (i : Int))).1, (sumOf (block n l (i : Int))).2⟩ : S71)) := by
 induction m with
 | zero => rfl
 | succ m ih =>
  rw [iter_succ, ih, List.range_succ, List.map_append]
  rfl
theorem sums_len (n : Int) (l : List Int) (m : Nat) : (iter m (sumNext n l) []).length = m := by rw [sums_eq]; simp
theorem sumsOf_len (n : Int) (l : List Int) : (sumsOf n l).length = (blocks n l.length).toNat := sums_len n l _
theorem sumsOf_length (n : Int) (l : List Int) : (sumsOf n l).length ≤ 40 := by
 have := blocks_range n l.length
 rw [sumsOf_len]
 omega
theorem sumsOf_get (n : Int) (l : List Int) (i : Nat) (hi : i < (sumsOf n l).length) : (sumsOf n l).getD i z71 = ⟨(sumOf (block n l (i : Int))).1, (sumOf (block n l (i : Int))).2⟩ := by
 rw [sumsOf_len] at hi
 unfold sumsOf
 rw [sums_eq, List.getD_eq_getElem?_getD, List.getElem?_map, List.getElem?_range hi]
 rfl
theorem implSumsOf_ev (l : List Int) (n : Int) (hb : Bytes l) (hl : l.length ≤ 1048576) : Ev (fun k => impl_SumsOf.f k l n) (sumsOf n l) := by
 have hr := blocks_range n l.length
 unfold impl_SumsOf.f
 refine ev_then (implBlocks_eq _ _) ?_
 refine loop_up (fun k s i => impl_SumsOf.l0 k l n s (blocks n l.length) i) (blocks n l.length).toNat (sumNext n l) (fun i s => s.length = i) [] _ rfl (fun i s _ h => by unfold sumNext; rw [List.length_append, h]; rfl) ?_ ?_
 ·intro i s r hi hs h
  refine Ev.step (fun k => rfl) (ev_pos (by omega) (ev_then (implBlockAt_eq _ _ _ hl) (Ev.bind (implSumOf_ev _ (bytes_block hb n (i : Int))) (ev_pos (by rw [hs]; omega) ?_))))
  rw [w64 (by omega) (by omega)]
  exact h
 ·intro hs
  exact Ev.step (fun k => rfl) (ev_neg (by omega) ev_some)
theorem implManOf_ev (a : Int) (l : List Int) (n : Int) (ha : 1 ≤ a ∧ a ≤ 1000000) (hs : sizeOk n l.length = true) (hb : Bytes l) (hl : l.length ≤ 1048576) : Ev (fun k => impl_ManOf.f k a l n) (a, n, (l.length : Int), sumsOf n l) := by
 unfold impl_ManOf.f
 refine ev_then (within_eq _ _ _) (ev_pos (by simpa using ha) (ev_then (implSizeOk_eq _ _) (ev_pos hs (Ev.bind (implSumsOf_ev l n hb hl) ev_some))))
theorem bytesOf_of {q : List Int} (hq : Bytes q) (h6 : q.length ≤ 6) : bytesOf (strong q) = (q, true) := by
 have b := strongFrom_bounds q 1 hq
 have p6 := p256_le q.length h6
 have e1 : strong q / 256 ^ q.length = 1 := by
  unfold strong
  have hp : (0 : Int) < 256 ^ q.length := Int.pow_pos (by decide)
  rw [Int.one_mul] at b
  have h1 := (Int.le_ediv_iff_mul_le hp (a := 1) (b := q.foldl (fun s b => 256 * s + b) 1)).2 (by omega)
  have h2 := (Int.ediv_lt_iff_lt_mul hp (a := q.foldl (fun s b => 256 * s + b) 1) (b := 2)).2 (by omega)
  omega
 have h1 := strong_pos q hq
 have h2 : strong q ≤ 562949953421311 := by unfold strong at *; omega
 have hc := cnt_iff (strong q) h1 h2 q.length h6 e1
 unfold bytesOf
 rw [hc, if_pos ⟨h1, e1⟩]
 congr 1
 exact strong_inj (digs_bytes _ _) hq (by rw [digs_length]; exact h6) h6 (strong_digs _ _ h1 e1)
theorem block_len {n : Int} {l : List Int} {i : Int} : ((block n l i).length : Int) = (spanOf n l.length i).2 ∧ (block n l i).length ≤ 6 := by
 have r := spanOf_range n l.length i
 have h := block_in n l i
 unfold block
 rw [List.length_drop, List.length_take]
 omega
theorem sumOf_short {q : List Int} (h : q.length ≤ 6) : sumOf q = (weakOf q, strong q) := by unfold sumOf; rw [if_neg (by omega)]
theorem manOk_sums {a n : Int} {l : List Int} (ha : 1 ≤ a ∧ a ≤ 1000000) (hs : sizeOk n l.length = true) (hb : Bytes l) : manOk a n l.length (sumsOf n l) = true := by
 have hr := blocks_range n l.length
 unfold manOk
 rw [if_neg (by omega), if_pos ⟨ha, hs, by rw [sumsOf_len]; omega⟩, List.all_eq_true]
 intro i hi
 have hi := List.mem_range.1 hi
 have bl := block_len (n := n) (l := l) (i := (i : Int))
 unfold blockOk
 rw [sumsOf_get n l i hi, sumOf_short bl.2]
 simp only
 rw [bytesOf_of (bytes_block hb n (i : Int)) bl.2]
 simp [bl.1]
theorem sumIs_block {a n : Int} {l : List Int} (ha : 1 ≤ a ∧ a ≤ 1000000) (hs : sizeOk n l.length = true) (hb : Bytes l) {i : Nat} (hi : i < (sumsOf n l).length) {p : List Int} (hp : Bytes p) : sumIs (sumOf p) ((sumsOf n l).getD i z71) = true ↔ p = block n l (i : Int) := by
 have own : sumIs (sumOf (block n l (i : Int))) ((sumsOf n l).getD i z71) = true := by
  rw [sumsOf_get n l i hi]
  exact sumIs_iff.2 ⟨rfl, rfl⟩
 constructor
 ·intro h
  exact (sumIs_only (manOk_sums ha hs hb) hi (bytes_block hb n (i : Int)) own).2.2 p hp h
 ·rintro rfl
  exact own
end Go.Proofs.Ytaofakpljnkplaa.Pb
/- Builds of an image's manifest, told by the blocks that they have. -/
namespace Go.Proofs.Ytaofakpljnkplaa.Pb
open Go.RowKit Go.Proofs.Ytaofakpljnkplaa Go.Proofs.Ytaofakpljnkplaa.Q Go.Proofs.YtaofakpljnkplaaW.PrintWords Go.Proofs.YtaofakpljnkplaaW.PrintLast
set_option linter.unusedVariables false
set_option linter.unusedSimpArgs false
structure Img (g s : Int) (b : List Int) : Prop where
 hg : 1 ≤ g ∧ g ≤ 1000000
 hs : 2 ≤ s ∧ s ≤ 6
 hb : Bytes b
 h16 : b.length ≤ 16
section
variable {g s : Int} {b : List Int}
theorem Img.size (I : Img g s b) : sizeOk s b.length = true := by
 have := I.hs
 have := I.h16
 exact sizeOk_iff.2 ⟨I.hs, by omega, by omega⟩
theorem Img.man (I : Img g s b) : manOk g s b.length (sumsOf s b) = true := manOk_sums I.hg I.size I.hb
theorem Img.n40 (I : Img g s b) : (sumsOf s b).length ≤ 40 := sumsOf_length s b
theorem Img.at (I : Img g s b) {i : Nat} (hi : i < (sumsOf s b).length) : 0 ≤ (i : Int) ∧ (i : Int) ≤ blocks s b.length - 1 := by
 rw [sumsOf_len] at hi
 omega
theorem Img.lies (I : Img g s b) {i : Nat} (hi : i < (sumsOf s b).length) : Lies s.toNat i (spanOf s b.length (i : Int)).1.toNat (spanOf s b.length (i : Int)).2.toNat b.length := by
 have := span_lies (s := s) (c := b.length) (i := (i : Int)) rfl (I.at hi)
 rwa [Int.toNat_natCast] at this
theorem Img.lt (I : Img g s b) {i : Nat} : i < (sumsOf s b).length ↔ i * s.toNat < b.length := by
 have h := blocks_last I.size (i := (i : Int)) (by omega)
 have hs := I.hs
 have r := blocks_range s b.length
 have e : ((i * s.toNat : Nat) : Int) = (i : Int) * s := by rw [Int.natCast_mul, Int.toNat_of_nonneg (by omega)]
 rw [sumsOf_len]
 omega
theorem piece_cut (n c : Int) (m : List Int) (i : Int) (h : 0 ≤ (spanOf n c i).1 ∧ 0 ≤ (spanOf n c i).2) : piece n c m i = cutOf m (spanOf n c i).1.toNat (spanOf n c i).2.toNat := by
 unfold piece cutOf
 rw [show ((spanOf n c i).1 + (spanOf n c i).2).toNat = (spanOf n c i).1.toNat + (spanOf n c i).2.toNat by omega]
theorem Img.piece (I : Img g s b) (p : Nat → Bool) {i : Nat} (hi : i < (sumsOf s b).length) : Pb.piece s b.length (fill p s.toNat b) (i : Int) = if p i = true then block s b (i : Int) else List.replicate (spanOf s b.length (i : Int)).2.toNat 0 := by
 have r := spanOf_range s b.length (i : Int)
 rw [piece_cut _ _ _ _ (by omega), cutOf_fill (I.lies hi)]
 rw [← piece_cut _ _ _ _ (by omega)]
 rfl
theorem zeros_replicate (n : Nat) : zeros (List.replicate n 0) = true := by
 unfold zeros
 rw [List.all_eq_true]
 intro i hi
 have := List.mem_range.1 hi
 rw [List.length_replicate] at this
 rw [decide_eq_true_eq, rd, Int.toNat_natCast, List.getD_eq_getElem?_getD, List.getElem?_replicate, if_pos this]
 rfl
theorem Img.ok (I : Img g s b) (p : Nat → Bool) : buildOk g s b.length (sumsOf s b) ((bs p (sumsOf s b).length : Nat) : Int) (fill p s.toNat b) = true := by
 have n40 := I.n40
 have lt := bs_lt p (sumsOf s b).length
 have hp := pow_le40 n40
 unfold buildOk
 rw [I.man, fullSet_eq _ n40, andNot_full _ _ n40 lt, fill_length]
 rw [show setOk ((bs p (sumsOf s b).length : Nat) : Int) = true by unfold setOk; rw [decide_eq_true_eq]; omega]
 simp only [Bool.true_and, decide_true]
 rw [List.all_eq_true]
 intro i hi
 have hi := List.mem_range.1 hi
 unfold partOk
 rw [inSet_bit _ _ _ n40, decide_eq_true hi, Bool.true_and, I.piece p hi]
 by_cases h : p i = true
 ·rw [if_pos h, if_pos h]
  exact (sumIs_block I.hg I.size I.hb hi (bytes_block I.hb s (i : Int))).2 rfl
 ·rw [if_neg h, if_neg h]
  exact zeros_replicate _
theorem Img.missing (I : Img g s b) (p : Nat → Bool) : missing (sumsOf s b) ((bs p (sumsOf s b).length : Nat) : Int) = ((bs (fun i => !p i) (sumsOf s b).length : Nat) : Int) := missing_bs p _ I.n40
theorem Img.full (I : Img g s b) {p : Nat → Bool} (hp : ∀ i, i < (sumsOf s b).length → p i = true) : fill p s.toNat b = b := fill_full _ _ (fun i hi => hp i (I.lt.2 hi))
theorem Img.from_ (I : Img g s b) {old : List Int} (hb : Bytes old) : buildFrom g s b.length (sumsOf s b) old = (((bs (atPlace old s b.length (sumsOf s b)) (sumsOf s b).length : Nat) : Int), fill (atPlace old s b.length (sumsOf s b)) s.toNat b) := by
 have key : ∀ n, n ≤ (sumsOf s b).length → (iter n (buildStep old s b.length (sumsOf s b)) (0, List.replicate (b.length : Int).toNat 0)).2 = fill (fun j => decide (j < n) && atPlace old s b.length (sumsOf s b) j) s.toNat b := by
  intro n
  induction n with
  | zero =>
   intro _
   rw [iter_zero, fill_none _ _ (fun i _ => by simp), Int.toNat_natCast]
  | succ n ih =>
   intro hn
   rw [iter_succ]
   have e := ih (by omega)
   generalize iter n (buildStep old s b.length (sumsOf s b)) (0, List.replicate (b.length : Int).toNat 0) = S at e ⊢
   unfold buildStep
   by_cases h : 0 ≤ placeOf old s b.length (sumsOf s b) (n : Int)
   ·rw [if_pos h]
    have q := placeOf_some I.man hb (show n < (sumsOf s b).length by omega) h
    have w := (sumIs_block I.hg I.size I.hb (show n < (sumsOf s b).length by omega) q.2.2.1).1 q.2.2.2
    have r := spanOf_range s b.length (n : Int)
    show lay _ _ _ = _
    rw [w, e]
    have e2 : block s b (n : Int) = cutOf b (spanOf s b.length (n : Int)).1.toNat (spanOf s b.length (n : Int)).2.toNat := piece_cut s b.length b (n : Int) (by omega)
    rw [e2, lay_fill (I.lies (by omega))]
    refine fill_congr _ _ (fun j _ => ?_)
    by_cases hj : j = n
    ·subst hj
     rw [show atPlace old s b.length (sumsOf s b) j = true from decide_eq_true h]
     simp
    ·rw [show (j == n) = false from beq_eq_false_iff_ne.mpr hj, Bool.or_false, show decide (j < n + 1) = decide (j < n) by rw [decide_eq_decide]; omega]
   ·rw [if_neg h, e]
    refine fill_congr _ _ (fun j _ => ?_)
    by_cases hj : j = n
    ·subst hj
     rw [show atPlace old s b.length (sumsOf s b) j = false from decide_eq_false h]
     simp
    ·rw [show decide (j < n + 1) = decide (j < n) by rw [decide_eq_decide]; omega]
 have e1 := (from_all (a := g) (old := old) I.man hb (sumsOf s b).length (Nat.le_refl _)).1
 have e2 := key (sumsOf s b).length (Nat.le_refl _)
 unfold buildFrom
 rw [if_pos I.man]
 refine Prod.ext e1 (e2.trans ?_)
 refine fill_congr _ _ (fun j hj => ?_)
 rw [decide_eq_true (I.lt.2 hj), Bool.true_and]
end
end Go.Proofs.Ytaofakpljnkplaa.Pb
/- Whether a build is whole; rows of bytes compared by the laws: the program's ways. -/
namespace Go.Proofs.Ytaofakpljnkplaa.Pb
open Go.RowKit Go.Proofs.Ytaofakpljnkplaa Go.Proofs.Ytaofakpljnkplaa.Q Go.Proofs.YtaofakpljnkplaaW.PrintWords Go.Proofs.YtaofakpljnkplaaW.PrintLast
set_option linter.unusedVariables false
set_option linter.unusedSimpArgs false
def whole (a b c : Int) (l : List S71) (h : Int) (m : List Int) : Bool := if a = 0 then false else (if buildOk a b c l h m = true then (missing l h == 0) else false)
theorem implWhole_ev (a b c : Int) (l : List S71) (h : Int) (m : List Int) (hl : l.length ≤ 1048576) (hb : Bytes m) : Ev (fun k => impl_Whole.f k a b c l h m) (whole a b c l h m) := by
 unfold impl_Whole.f whole
 refine ev_if (fun q => ev_eq ev_some (by rw [if_pos q])) (fun q => ?_)
 rw [if_neg q]
 exact Ev.bind (implBuildOk_ev a b c l h m hl hb) (ev_if (fun r => ev_then (implMissing_eq _ _ _ _ _ _) (ev_eq ev_some (by rw [if_pos r]))) (fun r => ev_eq ev_some (by rw [if_neg r])))
section
variable {g s : Int} {b : List Int}
theorem Img.wholeIf (I : Img g s b) (p : Nat → Bool) : whole g s b.length (sumsOf s b) ((bs p (sumsOf s b).length : Nat) : Int) (fill p s.toNat b) = (((bs (fun i => !p i) (sumsOf s b).length : Nat) : Int) == 0) := by
 have hg := I.hg
 unfold whole
 rw [if_neg (by omega), if_pos (I.ok p), I.missing]
theorem Img.wholeAll (I : Img g s b) {p : Nat → Bool} (hp : ∀ i, i < (sumsOf s b).length → p i = true) : whole g s b.length (sumsOf s b) ((bs p (sumsOf s b).length : Nat) : Int) (fill p s.toNat b) = true := by
 rw [I.wholeIf, bs_none (fun i hi => by rw [hp i hi]; rfl)]
 rfl
end
end Go.Proofs.Ytaofakpljnkplaa.Pb
/- One step of the installation, by the program. No condition beyond the rows' lengths. -/
namespace Go.Proofs.Ytaofakpljnkplaa.Pb
open Go.RowKit Go.Proofs.Ytaofakpljnkplaa Go.Proofs.Ytaofakpljnkplaa.Q Go.Proofs.YtaofakpljnkplaaW.PrintWords Go.Proofs.YtaofakpljnkplaaW.PrintLast
set_option linter.unusedVariables false
set_option linter.unusedSimpArgs false
def stepTo (x : List Int × List Int × Int × Int × Int × List S104) (n : Int) : List Int × List Int × Int × Int × Int × List S104 × Int := (x.1, x.2.1, x.2.2.1, x.2.2.2.1, x.2.2.2.2.1, x.2.2.2.2.2, n)
def tryTo (x : List Int × List Int × Int × Int × Int × List S104 × Bool) (n : Int) (y : List Int × List Int × Int × Int × Int × List S104 × Int) : List Int × List Int × Int × Int × Int × List S104 × Int := if x.2.2.2.2.2.2 = true then (x.1, x.2.1, x.2.2.1, x.2.2.2.1, x.2.2.2.2.1, x.2.2.2.2.2.1, n) else y
def nextCommit (a b : List Int) (c d e : Int) (l : List S104) (g s n : Int) (S : List S71) (H : Int) (M : List Int) (ph : Int) : List Int × List Int × Int × Int × Int × List S104 × Int :=
 if ph = 1 then (if whole g s n S H M = true then tryTo (stage a b c d e l M s) 2 (a, b, c, d, e, l, ph) else (a, b, c, d, e, l, ph))
 else if ph = 2 then stepTo (sure a b c d e l) 3
 else if ph = 3 then tryTo (putRecord a b c d e l g (wrap64 (1 - d)) n) 4 (a, b, c, d, e, l, ph)
 else if ph = 4 then stepTo (sure a b c d e l) 5
 else (a, b, c, d, e, l, ph)
theorem implNext_ev (a b : List Int) (c d e : Int) (l : List S104) (g s n : Int) (S : List S71) (H : Int) (M : List Int) (ph : Int) (ha : a.length ≤ 1048576) (hb : b.length ≤ 1048576) (hl : PutsOk 1048577 l) (h3 : ph = 1 ∨ ph = 3 → PutsOk 1048576 l) (hS : S.length ≤ 1048576) (hB : Bytes M) (hM : M.length ≤ 1048576) :
  Ev (fun k => impl_NextCommit.f k a b c d e l g s n S H M ph) (nextCommit a b c d e l g s n S H M ph) := by
 have cp := implCopy_ev a b c d e l (by omega) (by omega) (putsOk_le (by omega) hl)
 have su := implSure_ev a b c d e l (by omega) (by omega) (putsOk_le (by omega) hl)
 unfold impl_NextCommit.f nextCommit
 refine ev_if (fun q => ?_) (fun q => ?_)
 ·rw [if_pos q]
  refine Ev.bind (implWhole_ev g s n S H M hS hB) (ev_if (fun r => ?_) (fun r => ?_))
  ·rw [if_pos r]
   refine Ev.bind (implStage_ev a b c d e l M s ha hb (h3 (.inl q)) hM) (ev_if (fun u => ?_) (fun u => ?_))
   ·exact ev_eq ev_some (by unfold tryTo; rw [if_pos u])
   ·exact Ev.bind cp (ev_eq ev_some (by unfold tryTo; rw [if_neg u]))
  ·rw [if_neg r]
   exact Ev.bind cp ev_some
 rw [if_neg q]
 refine ev_if (fun q2 => ?_) (fun q2 => ?_)
 ·rw [if_pos q2]
  exact Ev.bind su ev_some
 rw [if_neg q2]
 refine ev_if (fun q3 => ?_) (fun q3 => ?_)
 ·rw [if_pos q3]
  have e1 : impl_Spare.f a b c d e l = some (wrap64 (1 - d)) := rfl
  refine ev_then e1 (Ev.bind (implPutRecord_ev a b c d e l g (wrap64 (1 - d)) n ha hb (h3 (.inr q3))) (ev_if (fun u => ?_) (fun u => ?_)))
  ·exact ev_eq ev_some (by unfold tryTo; rw [if_pos u])
  ·exact Ev.bind cp (ev_eq ev_some (by unfold tryTo; rw [if_neg u]))
 rw [if_neg q3]
 refine ev_if (fun q4 => ?_) (fun q4 => ?_)
 ·rw [if_pos q4]
  exact Ev.bind su ev_some
 rw [if_neg q4]
 exact Ev.bind cp ev_some
end Go.Proofs.Ytaofakpljnkplaa.Pb
/- What staging an image and making it sure leaves on a disk. No condition but the image's and the slots' lengths. -/
namespace Go.Proofs.Ytaofakpljnkplaa.Pb
open Go.RowKit Go.Proofs.Ytaofakpljnkplaa Go.Proofs.Ytaofakpljnkplaa.Q Go.Proofs.YtaofakpljnkplaaW.PrintWords Go.Proofs.YtaofakpljnkplaaW.PrintLast
set_option linter.unusedVariables false
set_option linter.unusedSimpArgs false
def over (x s : List Int) (k : Nat) : List Int := x.take k ++ s.drop k
theorem over_length {x s : List Int} {k : Nat} (hk : k ≤ x.length) : (over x s k).length = k + (s.length - k) := by
 unfold over
 rw [List.length_append, List.length_take, List.length_drop]
 omega
theorem laid_over {x s : List Int} {k n : Nat} (h : k + n ≤ x.length) : laid (over x s k) k ((x.take (k + n)).drop k) = over x s (k + n) := by
 have hl : ((x.take (k + n)).drop k).length = n := by rw [List.length_drop, List.length_take]; omega
 have ho := over_length (x := x) (s := s) (k := k) (by omega)
 have tk : (x.take k).length = k := by rw [List.length_take]; omega
 unfold laid
 rw [hl]
 have p1 : (padTo (over x s k) (k + n)).take k = x.take k := by
  unfold padTo over
  rw [List.append_assoc]
  exact (List.take_append_of_le_length (by omega)).trans (List.take_of_length_le (by omega))
 have p2 : (padTo (over x s k) (k + n)).drop (k + n) = s.drop (k + n) := by
  unfold padTo
  by_cases hs : k + n ≤ (over x s k).length
  ·rw [show k + n - (over x s k).length = 0 by omega, List.replicate_zero, List.append_nil]
   unfold over
   rw [List.drop_append, tk, List.drop_of_length_le (by omega), List.nil_append, show k + n - k = n by omega, List.drop_drop]
  ·rw [List.drop_of_length_le (by rw [List.length_append, List.length_replicate]; omega), List.drop_of_length_le (by omega)]
 rw [p1, p2]
 unfold over
 rw [← List.append_assoc]
 congr 1
 rw [List.drop_take, show k + n - k = n by omega, ← List.take_add]
def stageS (d n : Int) (x : List Int) (i : Nat) : List S104 := (List.range i).map (stageP d n x)
theorem stageS_succ (d n : Int) (x : List Int) (i : Nat) : stageS d n x (i + 1) = stageS d n x i ++ [stageP d n x i] := by
 unfold stageS
 rw [List.range_succ, List.map_append]
 rfl
theorem stageS_length (d n : Int) (x : List Int) (i : Nat) : (stageS d n x i).length = i := by
 unfold stageS
 rw [List.length_map, List.length_range]
section
variable {g s : Int} {x : List Int}
def ends (s : Int) (x : List Int) (i : Nat) : Nat := min (i * s.toNat) x.length
theorem Img.block_at (I : Img g s x) {i : Nat} (hi : i < (sumsOf s x).length) : ends s x i = i * s.toNat ∧ ∃ n, ends s x (i + 1) = i * s.toNat + n ∧ i * s.toNat + n ≤ x.length ∧ block s x (i : Int) = (x.take (i * s.toNat + n)).drop (i * s.toNat) := by
 have L := I.lies hi
 have lt := I.lt.1 hi
 have sp := spanOf_range s x.length (i : Int)
 refine ⟨by unfold ends; omega, (spanOf s x.length (i : Int)).2.toNat, ?_, ?_, ?_⟩
 ·have e := L.e
  have f := L.fit
  have l := L.last
  have q := L.ns
  unfold ends
  rw [Nat.add_mul, Nat.one_mul]
  omega
 ·have := L.fit
  have := L.e
  omega
 ·have e := L.e
  unfold block
  rw [show ((spanOf s x.length (i : Int)).1 + (spanOf s x.length (i : Int)).2).toNat = i * s.toNat + (spanOf s x.length (i : Int)).2.toNat by omega, show (spanOf s x.length (i : Int)).1.toNat = i * s.toNat by omega]
theorem Img.put_ok (I : Img g s x) {d : Int} (hd : 0 ≤ d ∧ d ≤ 1) {i : Nat} (hi : i < (sumsOf s x).length) : Pb.putOk (stageP d s x i) = true ∧ (stageP d s x i).f1.toNat = i * s.toNat := by
 obtain ⟨_, n, _, h2, h3⟩ := I.block_at hi
 have hs := I.hs
 have e1 : ((i * s.toNat : Nat) : Int) = (i : Int) * s := by rw [Int.natCast_mul, Int.toNat_of_nonneg (by omega)]
 have hl : (block s x (i : Int)).length = n := by rw [h3, List.length_drop, List.length_take]; omega
 have h16 := I.h16
 refine ⟨?_, by show ((i : Int) * s).toNat = _; omega⟩
 unfold Pb.putOk
 rw [if_neg (show ¬ ((stageP d s x i).f0 = 2) by show ¬ (1 - d = 2); omega)]
 refine decide_eq_true ⟨?_, ?_, ?_, ?_, rfl, rfl, rfl⟩
 ·show 0 ≤ 1 - d; omega
 ·show 1 - d ≤ 1; omega
 ·show 0 ≤ (i : Int) * s; omega
 ·show (i : Int) * s + ((block s x (i : Int)).length : Int) ≤ 240; omega
theorem Img.puts_ok (I : Img g s x) {d : Int} (hd : 0 ≤ d ∧ d ≤ 1) {i : Nat} (hi : i ≤ (sumsOf s x).length) : ∀ p, p ∈ stageS d s x i → Pb.putOk p = true := by
 intro p hp
 obtain ⟨j, hj, rfl⟩ := List.mem_map.1 hp
 exact (I.put_ok hd (by have := List.mem_range.1 hj; omega)).1
def SlotsOk (a b : List Int) (c d e : Int) : Prop := (a.length ≤ 240 ∧ b.length ≤ 240 ∧ e ≤ ((slotOf a b d).length : Int)) ∧ recordOk c d e = true
theorem ok_of {a b : List Int} {c d e : Int} {l : List S104} (h : SlotsOk a b c d e) (hl : l.length ≤ 200) (hp : ∀ p, p ∈ l → Pb.putOk p = true) : diskOk a b c d e l = true := by
 unfold diskOk putsOk
 rw [Bool.and_eq_true, Bool.and_eq_true]
 refine ⟨decide_eq_true ⟨h.1.1, h.1.2.1, hl, h.1.2.2⟩, h.2, List.all_eq_true.2 (fun i hi => hp _ ?_)⟩
 have := List.mem_range.1 hi
 rw [List.getD_eq_getElem?_getD, List.getElem?_eq_getElem this]
 exact List.getElem_mem this
theorem SlotsOk.d01 {a b : List Int} {c d e : Int} (h : SlotsOk a b c d e) : 0 ≤ d ∧ d ≤ 1 := by
 have := of_decide_eq_true h.2
 omega
theorem Img.stageL (I : Img g s x) {a b : List Int} {c d e : Int} (h : SlotsOk a b c d e) : ∀ r i, i + r ≤ (sumsOf s x).length → Pb.stageL a b c d e s x r i (stageS d s x i) = some (stageS d s x (i + r)) := by
 intro r
 induction r with
 | zero => intro i _; rfl
 | succ r ih =>
  intro i hi
  have n40 := I.n40
  show (if diskOk a b c d e (stageS d s x i ++ [stageP d s x i]) = true then _ else none) = _
  rw [← stageS_succ, if_pos (ok_of h (by rw [stageS_length]; omega) (I.puts_ok h.d01 (by omega))), ih (i + 1) (by omega), show i + 1 + r = i + (r + 1) by omega]
theorem Img.stage (I : Img g s x) {a b : List Int} {c d e : Int} (h : SlotsOk a b c d e) : Pb.stage a b c d e [] x s = (a, b, c, d, e, stageS d s x (sumsOf s x).length, true) := by
 unfold Pb.stage
 rw [if_pos ⟨ok_of h (by simp) (fun p hp => by cases hp), rfl, I.size⟩]
 have := I.stageL h (sumsOf s x).length 0 (by omega)
 rw [show stageS d s x 0 = [] from rfl, Nat.zero_add] at this
 rw [← sumsOf_len, this]
 rfl
end
theorem settleL_snoc (keep : Int → Bool) (p : S104) : ∀ (l : List S104) (j : Int) (S : Dsk5), settleL keep (l ++ [p]) j S = step5 (keep (j + l.length)) (settleL keep l j S) p := by
 intro l
 induction l with
 | nil =>
  intro j S
  simp [settleL]
 | cons q l ih =>
  intro j S
  rw [List.cons_append, settleL, ih, settleL, List.length_cons]
  congr 2
  omega
section
variable {g s : Int} {x : List Int}
def onto (x a b : List Int) (d : Int) (k : Nat) : List Int × List Int := if d = 0 then (a, over x b k) else (over x a k, b)
theorem Img.settle_stage (I : Img g s x) {a b : List Int} {c d e : Int} (hd : 0 ≤ d ∧ d ≤ 1) : ∀ i, i ≤ (sumsOf s x).length → settleL (fun _ => true) (stageS d s x i) 0 (a, b, c, d, e) = ((onto x a b d (ends s x i)).1, (onto x a b d (ends s x i)).2, c, d, e) := by
 intro i
 induction i with
 | zero =>
  intro _
  have e0 : ends s x 0 = 0 := by unfold ends; omega
  rw [e0]
  unfold onto over
  simp only [List.take_zero, List.drop_zero, List.nil_append]
  split <;> rfl
 | succ i ih =>
  intro hi
  obtain ⟨e1, n, e2, h2, h3⟩ := I.block_at (i := i) (by omega)
  have pk := (I.put_ok hd (i := i) (by omega)).2
  rw [stageS_succ, settleL_snoc, ih (by omega), e1, e2]
  show done _ _ c d e (stageP d s x i) = _
  unfold done
  rw [if_neg (show ¬ ((stageP d s x i).f0 = 2) by show ¬ (1 - d = 2); omega)]
  unfold onto
  have lo : ∀ t : List Int, laid (over x t (i * s.toNat)) (stageP d s x i).f1.toNat (stageP d s x i).f2 = over x t (i * s.toNat + n) := by
   intro t
   rw [pk, show (stageP d s x i).f2 = block s x (i : Int) from rfl, h3]
   exact laid_over h2
  by_cases h0 : d = 0
  ·rw [if_neg (show ¬ ((stageP d s x i).f0 = 0) by show ¬ (1 - d = 0); omega), if_pos h0, if_pos h0, lo]
  ·rw [if_pos (show (stageP d s x i).f0 = 0 by show 1 - d = 0; omega), if_neg h0, if_neg h0, lo]
theorem Img.ends_all (I : Img g s x) : ends s x (sumsOf s x).length = x.length := by
 have h := I.lt (i := (sumsOf s x).length)
 unfold ends
 omega
theorem over_all (x s : List Int) : over x s x.length = x ++ s.drop x.length := by
 unfold over
 rw [List.take_length]
theorem Img.sure_stage (I : Img g s x) {a b : List Int} {c d e : Int} (h : SlotsOk a b c d e) : Pb.sure a b c d e (stageS d s x (sumsOf s x).length) = ((onto x a b d x.length).1, (onto x a b d x.length).2, c, d, e, []) := by
 have n40 := I.n40
 unfold Pb.sure settle
 rw [if_pos (ok_of h (by rw [stageS_length]; omega) (I.puts_ok h.d01 (Nat.le_refl _))), I.settle_stage h.d01 _ (Nat.le_refl _), I.ends_all]
end
theorem record_add {a b : List Int} {c d e : Int} (h : SlotsOk a b c d e) {g n : Int} {t : Int} (hr : recordOk g t n = true) : Pb.putRecord a b c d e [] g t n = (a, b, c, d, e, [⟨2, 0, [], ⟨g, t, n⟩⟩], true) := by
 unfold Pb.putRecord added
 rw [if_pos (ok_of h (by simp) (fun p hp => ?_))]
 ·rfl
 ·rw [List.nil_append, List.mem_singleton] at hp
  subst hp
  unfold Pb.putOk
  rw [if_pos rfl, hr]
  simp
theorem sure_record {a b : List Int} {c d e : Int} (h : SlotsOk a b c d e) {g n : Int} {t : Int} (hr : recordOk g t n = true) : Pb.sure a b c d e [⟨2, 0, [], ⟨g, t, n⟩⟩] = (a, b, g, t, n, []) := by
 unfold Pb.sure settle
 rw [if_pos (ok_of h (by simp) (fun p hp => ?_))]
 ·rfl
 ·rw [List.mem_singleton] at hp
  subst hp
  unfold Pb.putOk
  rw [if_pos rfl, hr]
  simp
end Go.Proofs.Ytaofakpljnkplaa.Pb
/- What a file lacks of a manifest: the program's and the reference's ways. No condition beyond the bytes' range and the sizes that the laws ask. -/
namespace Go.Proofs.Ytaofakpljnkplaa.Pb
open Go.RowKit Go.Proofs.Ytaofakpljnkplaa Go.Proofs.Ytaofakpljnkplaa.Q Go.Proofs.YtaofakpljnkplaaW.PrintWords Go.Proofs.YtaofakpljnkplaaW.PrintLast Go.Proofs.YtaofakpljnkplaaW.PrintMore
set_option linter.unusedVariables false
set_option linter.unusedSimpArgs false
def found (l : List Int) (b c : Int) (m : List S71) (i : Nat) : Bool := decide (placeOf l b c m i ≥ 0)
end Go.Proofs.Ytaofakpljnkplaa.Pb
/- What stands somewhere in an old image is found there. -/
namespace Go.Proofs.Ytaofakpljnkplaa.Pb
open Go.RowKit Go.Proofs.Ytaofakpljnkplaa Go.Proofs.Ytaofakpljnkplaa.Q Go.Proofs.YtaofakpljnkplaaW.PrintWords Go.Proofs.YtaofakpljnkplaaW.PrintLast
set_option linter.unusedVariables false
set_option linter.unusedSimpArgs false
section
variable {g s : Int} {b : List Int}
theorem Img.span_pos (I : Img g s b) {i : Nat} (hi : i < (sumsOf s b).length) : 1 ≤ (spanOf s b.length (i : Int)).2 ∧ (spanOf s b.length (i : Int)).2 ≤ 6 := by
 have r := spanOf_range s b.length (i : Int)
 have := (I.lies hi).n0
 omega
theorem Img.finds (I : Img g s b) {x : List Int} {i : Nat} (hi : i < (sumsOf s b).length) (j : Nat) (hj : (j : Int) + (spanOf s b.length (i : Int)).2 ≤ x.length) (hw : win x (spanOf s b.length (i : Int)).2.toNat j = block s b (i : Int)) : atPlace x s b.length (sumsOf s b) i = true := by
 unfold atPlace placeOf
 rw [if_pos (by omega), Int.toNat_natCast, decide_eq_true_eq]
 refine Classical.byContradiction (fun h => ?_)
 refine findSum_none h (I.span_pos hi) j hj ?_
 rw [hw, sumsOf_get s b i hi]
theorem win_left (l m : List Int) (n j : Nat) (h : j + n ≤ l.length) : win (l ++ m) n j = win l n j := by
 unfold win
 rw [List.take_append, show j + n - l.length = 0 by omega, List.take_zero, List.append_nil]
theorem Img.block_win (I : Img g s b) {i : Nat} (hi : i < (sumsOf s b).length) : win b (spanOf s b.length (i : Int)).2.toNat (spanOf s b.length (i : Int)).1.toNat = block s b (i : Int) := by
 have r := spanOf_range s b.length (i : Int)
 exact (piece_cut s b.length b (i : Int) (by omega)).symm
theorem Img.finds_ahead (I : Img g s b) (old : List Int) {i : Nat} (hi : i < (sumsOf s b).length) : atPlace (b ++ old) s b.length (sumsOf s b) i = true := by
 have f := (I.lies hi).fit
 have r := spanOf_range s b.length (i : Int)
 refine I.finds hi (spanOf s b.length (i : Int)).1.toNat (by rw [List.length_append]; omega) ?_
 rw [win_left _ _ _ _ (by omega)]
 exact I.block_win hi
end
end Go.Proofs.Ytaofakpljnkplaa.Pb
/- The four steps of an installation and what they leave; what a disk holds then. No condition but the slots' lengths. -/
namespace Go.Proofs.Ytaofakpljnkplaa.Pb
open Go.RowKit Go.Proofs.Ytaofakpljnkplaa Go.Proofs.Ytaofakpljnkplaa.Q Go.Proofs.YtaofakpljnkplaaW.PrintWords Go.Proofs.YtaofakpljnkplaaW.PrintLast
set_option linter.unusedVariables false
set_option linter.unusedSimpArgs false
section
variable {g s : Int} {x : List Int}
def own (g s : Int) (x : List Int) : Int × List Int := buildFrom g s x.length (sumsOf s x) x
theorem Img.fa (I : Img g s x) : ∀ i, i < (sumsOf s x).length → atPlace x s x.length (sumsOf s x) i = true := fun i hi => by have := I.finds_ahead [] hi; rwa [List.append_nil] at this
theorem Img.own_eq (I : Img g s x) : (own g s x).2 = x := by
 unfold own
 rw [I.from_ I.hb]
 exact I.full I.fa
theorem Img.own_whole (I : Img g s x) : whole g s x.length (sumsOf s x) (own g s x).1 (own g s x).2 = true := by
 unfold own
 rw [I.from_ I.hb]
 exact I.wholeAll I.fa
theorem Img.n1 (I : Img g s x) {a b : List Int} {c d e : Int} (h : SlotsOk a b c d e) : nextCommit a b c d e [] g s x.length (sumsOf s x) (own g s x).1 (own g s x).2 1 = (a, b, c, d, e, stageS d s x (sumsOf s x).length, 2) := by
 have w := I.own_whole
 have S := I.stage h
 unfold nextCommit
 rw [if_pos rfl, if_pos w, I.own_eq, S]
 rfl
theorem Img.n2 (I : Img g s x) {a b : List Int} {c d e : Int} (h : SlotsOk a b c d e) (u : Int) (v : List Int) : nextCommit a b c d e (stageS d s x (sumsOf s x).length) g s x.length (sumsOf s x) u v 2 = ((onto x a b d x.length).1, (onto x a b d x.length).2, c, d, e, [], 3) := by
 unfold nextCommit
 rw [if_neg (by decide), if_pos rfl, I.sure_stage h]
 rfl
theorem Img.rec_ok (I : Img g s x) {d : Int} (hd : 0 ≤ d ∧ d ≤ 1) : recordOk g (1 - d) (x.length : Int) = true := by
 have := I.hg
 have := I.h16
 exact decide_eq_true (by omega)
theorem Img.n3 (I : Img g s x) {a b : List Int} {c d e : Int} (h : SlotsOk a b c d e) (u : Int) (v : List Int) : nextCommit a b c d e [] g s x.length (sumsOf s x) u v 3 = (a, b, c, d, e, [⟨2, 0, [], ⟨g, 1 - d, (x.length : Int)⟩⟩], 4) := by
 have hd := h.d01
 unfold nextCommit
 rw [if_neg (by decide), if_neg (by decide), if_pos rfl, w64 (x := 1 - d) (by omega) (by omega), record_add h (I.rec_ok hd)]
 rfl
theorem Img.n4 (I : Img g s x) {a b : List Int} {c d e : Int} (h : SlotsOk a b c d e) (u : Int) (v : List Int) : nextCommit a b c d e [⟨2, 0, [], ⟨g, 1 - d, (x.length : Int)⟩⟩] g s x.length (sumsOf s x) u v 4 = (a, b, g, 1 - d, (x.length : Int), [], 5) := by
 unfold nextCommit
 rw [if_neg (by decide), if_neg (by decide), if_neg (by decide), if_pos rfl, sure_record h (I.rec_ok h.d01)]
 rfl
theorem Img.onto_ok (I : Img g s x) {a b : List Int} {c d e : Int} (h : SlotsOk a b c d e) : SlotsOk (onto x a b d x.length).1 (onto x a b d x.length).2 c d e := by
 have h16 := I.h16
 have l1 := over_length (x := x) (s := a) (Nat.le_refl _)
 have l2 := over_length (x := x) (s := b) (Nat.le_refl _)
 have := h.1
 refine ⟨?_, h.2⟩
 unfold onto
 unfold slotOf at this ⊢
 by_cases h0 : d = 0
 ·simp only [if_pos h0] at this ⊢
  exact ⟨this.1, by omega, this.2.2⟩
 ·simp only [if_neg h0] at this ⊢
  exact ⟨by omega, this.2.1, this.2.2⟩
theorem Img.done_ok (I : Img g s x) {a b : List Int} {c d e : Int} (h : SlotsOk a b c d e) : SlotsOk (onto x a b d x.length).1 (onto x a b d x.length).2 g (1 - d) (x.length : Int) ∧ (slotOf (onto x a b d x.length).1 (onto x a b d x.length).2 (1 - d)).take x.length = x := by
 have o := I.onto_ok h
 have hd := h.d01
 have tk : ∀ t : List Int, (over x t x.length).take x.length = x := fun t => by rw [over_all, List.take_left]
 have ln : ∀ t : List Int, x.length ≤ (over x t x.length).length := fun t => by rw [over_length (Nat.le_refl _)]; omega
 have sl : slotOf (onto x a b d x.length).1 (onto x a b d x.length).2 (1 - d) = over x (if d = 0 then b else a) x.length := by
  unfold slotOf onto
  by_cases h0 : d = 0
  ·rw [if_neg (show ¬ (1 - d = 0) by omega), if_pos h0, if_pos h0]
  ·rw [if_pos (show 1 - d = 0 by omega), if_neg h0, if_neg h0]
 rw [sl]
 refine ⟨⟨⟨o.1.1, o.1.2.1, ?_⟩, I.rec_ok hd⟩, tk _⟩
 rw [sl]
 have := ln (if d = 0 then b else a)
 omega
theorem nil_puts (n : Nat) : PutsOk n ([] : List S104) := ⟨by simp, fun p hp => by cases hp⟩
theorem Img.stage_puts (I : Img g s x) (d : Int) {n : Nat} (hn : 4096 ≤ n) : PutsOk n (stageS d s x (sumsOf s x).length) := ⟨by have := I.n40; rw [stageS_length]; omega, fun p hp => by
 obtain ⟨j, hj, rfl⟩ := List.mem_map.1 hp
 have := stageP_len d s x j
 omega⟩
theorem rec_puts {g t z : Int} {n : Nat} (hn : 1 ≤ n) : PutsOk n [(⟨2, 0, [], ⟨g, t, z⟩⟩ : S104)] := ⟨by simpa using hn, fun p hp => by
 rw [List.mem_singleton] at hp
 rw [hp]
 exact Nat.zero_le _⟩
theorem Img.next (I : Img g s x) {a b : List Int} {c d e : Int} {l : List S104} (ph : Int) (ha : a.length ≤ 240) (hb : b.length ≤ 240) (hl : PutsOk 1048576 l) :
  Ev (fun k => impl_NextCommit.f k a b c d e l g s x.length (sumsOf s x) (own g s x).1 (own g s x).2 ph) (nextCommit a b c d e l g s x.length (sumsOf s x) (own g s x).1 (own g s x).2 ph) := by
 have h16 := I.h16
 have n40 := I.n40
 have bB : Bytes (own g s x).2 := by rw [I.own_eq]; exact I.hb
 have bl : (own g s x).2.length ≤ 1048576 := by rw [I.own_eq]; omega
 exact implNext_ev a b c d e l g s x.length (sumsOf s x) (own g s x).1 (own g s x).2 ph (by omega) (by omega) (putsOk_le (by omega) hl) (fun _ => hl) (by omega) bB bl
theorem Img.all_round (I : Img g s x) {a b : List Int} {c d e : Int} {l : List S104} {ph i j : Int} {a' b' : List Int} {c' d' e' : Int} {l' : List S104} {ph' : Int} {r : List Int × List Int × Int × Int × Int × List S104} (hi : i < 4) (hj : wrap64 (i + 1) = j) (ha : a.length ≤ 240) (hb : b.length ≤ 240) (hl : PutsOk 1048576 l)
  (hn : nextCommit a b c d e l g s x.length (sumsOf s x) (own g s x).1 (own g s x).2 ph = (a', b', c', d', e', l', ph'))
  (next : Ev (fun k => impl_CommitAll.l0 k ph' j g s x.length (sumsOf s x) (own g s x).1 (own g s x).2 a' b' c' d' e' l') r) :
  Ev (fun k => impl_CommitAll.l0 k ph i g s x.length (sumsOf s x) (own g s x).1 (own g s x).2 a b c d e l) r := by
 have nx := I.next (c := c) (d := d) (e := e) ph ha hb hl
 rw [hn] at nx
 refine Ev.step (fun k => rfl) (ev_pos hi (Ev.bind nx ?_))
 rw [hj]
 exact next
theorem Img.commitAll (I : Img g s x) {a b : List Int} {c d e : Int} (h : SlotsOk a b c d e) : Ev (fun k => impl_CommitAll.f k a b c d e [] g s x.length (sumsOf s x) (own g s x).1 (own g s x).2) ((onto x a b d x.length).1, (onto x a b d x.length).2, g, 1 - d, (x.length : Int), []) := by
 have o := I.onto_ok h
 have q1 := h.1
 have q2 := o.1
 unfold impl_CommitAll.f
 refine Ev.bind (implCopy_ev a b c d e [] (by omega) (by omega) (nil_puts _)) ?_
 refine I.all_round (ph := 1) (i := 0) (j := 1) (by omega) ((w64 (by omega) (by omega)).trans (by omega)) q1.1 q1.2.1 (nil_puts _) (I.n1 h) ?_
 refine I.all_round (ph := 2) (i := 1) (j := 2) (by omega) ((w64 (by omega) (by omega)).trans (by omega)) q1.1 q1.2.1 (I.stage_puts d (by omega)) (I.n2 h _ _) ?_
 refine I.all_round (ph := 3) (i := 2) (j := 3) (by omega) ((w64 (by omega) (by omega)).trans (by omega)) q2.1 q2.2.1 (nil_puts _) (I.n3 o _ _) ?_
 refine I.all_round (ph := 4) (i := 3) (j := 4) (by omega) ((w64 (by omega) (by omega)).trans (by omega)) q2.1 q2.2.1 (rec_puts (by omega)) (I.n4 o _ _) ?_
 exact Ev.step (fun k => rfl) (ev_neg (by omega) ev_some)
end
theorem settle_none (keep : Int → Bool) {a b : List Int} {c d e : Int} : settle keep a b c d e [] = (a, b, c, d, e, []) := by
 unfold settle
 split <;> rfl
theorem settleL_slot1 (keep : Int → Bool) (a : List Int) (c d e : Int) : ∀ (l : List S104) (j : Int) (b : List Int), (∀ p, p ∈ l → p.f0 = 1) → ∃ b', settleL keep l j (a, b, c, d, e) = (a, b', c, d, e) := by
 intro l
 induction l with
 | nil => intro j b _; exact ⟨b, rfl⟩
 | cons p l ih =>
  intro j b h
  have hp := h p (List.mem_cons_self ..)
  have ht := fun q hq => h q (List.mem_cons_of_mem _ hq)
  unfold settleL step5
  by_cases k : keep j = true
  ·rw [if_pos k]
   unfold done
   rw [if_neg (by rw [hp]; decide), if_neg (by rw [hp]; decide)]
   exact ih _ _ ht
  ·rw [if_neg k]
   exact ih _ _ ht
end Go.Proofs.Ytaofakpljnkplaa.Pb
/- The reference's draws of numbers out of bytes: they answer, within their bounds. No condition beyond the length that the laws ask. -/
namespace Go.Proofs.Ytaofakpljnkplaa.Pb
open Go.RowKit Go.Proofs.Ytaofakpljnkplaa Go.Proofs.Ytaofakpljnkplaa.Q Go.Proofs.YtaofakpljnkplaaW.PrintWords Go.Proofs.YtaofakpljnkplaaW.PrintLast
set_option linter.unusedVariables false
set_option linter.unusedSimpArgs false
def Dr (b : List Int) (i : Int) : Prop := b.length ≤ 1048576 ∧ 0 ≤ i ∧ i ≤ (b.length : Int)
theorem l1New_ev (b : List Int) (hb : b.length ≤ 1048576) : ∃ h, Ev (fun k => spec_l1New.f k b) (b, 0, h) := by
 have key : ∀ d (i : Nat) x, i + d = b.length → ∃ h, Ev (fun k => spec_l1New.l0 k b x (i : Int)) (b, 0, h) := by
  intro d
  induction d with
  | zero =>
   intro i x hi
   exact ⟨x, Ev.step (fun k => rfl) (ev_neg (by omega) ev_some)⟩
  | succ d ih =>
   intro i x hi
   by_cases h4 : (i : Int) < 4000
   ·obtain ⟨h, hE⟩ := ih (i + 1) (Go.bits .and .i64 (wrap64 ((wrap64 ((wrap64 (x * 137)) + (wrap64 (rd b (i : Int))))) + 11)) 1073741823) (by omega)
    refine ⟨h, Ev.step (fun k => rfl) (ev_pos (by omega) (ev_pos h4 (ev_pos (by omega) ?_)))⟩
    rw [w64 (x := (i : Int) + 1) (by omega) (by omega)]
    exact hE
   ·exact ⟨x, Ev.step (fun k => rfl) (ev_pos (by omega) (ev_neg h4 ev_some))⟩
 exact key b.length 0 _ (by simp)
theorem l1Byte_ok {b : List Int} {i : Int} (h : Int) (hd : Dr b i) : ∃ x i' h', spec_l1Byte.f b i h = some (x, i', h') ∧ 0 ≤ x ∧ x ≤ 255 ∧ Dr b i' := by
 obtain ⟨hb, h0, h1⟩ := hd
 unfold spec_l1Byte.f
 by_cases hi : i < (b.length : Int)
 ·rw [if_pos hi, if_pos h0]
  refine ⟨_, _, _, rfl, ?_, ?_, hb, ?_, ?_⟩
  ·rw [and255]; omega
  ·rw [and255]; omega
  ·rw [w64 (by omega) (by omega)]; omega
  ·rw [w64 (by omega) (by omega)]; omega
 ·rw [if_neg hi]
  refine ⟨_, _, _, rfl, ?_, ?_, hb, h0, h1⟩
  ·rw [and255]; omega
  ·rw [and255]; omega
theorem tmod_bound {x a : Int} (hx : 0 ≤ x) (ha : 0 < a) : 0 ≤ Int.tmod x a ∧ Int.tmod x a < a := by
 rw [Int.tmod_eq_emod_of_nonneg hx]
 exact ⟨Int.emod_nonneg _ (by omega), Int.emod_lt_of_pos _ ha⟩
theorem l1Below_ok {b : List Int} {i : Int} (h a : Int) (hd : Dr b i) : ∃ x i' h', spec_l1Below.f b i h a = some (x, i', h') ∧ Dr b i' ∧ 0 ≤ x ∧ (0 < a → x < a) ∧ (a ≤ 0 → x = 0) := by
 unfold spec_l1Below.f
 by_cases h0 : a ≤ 0
 ·rw [if_pos h0]
  exact ⟨0, i, h, rfl, hd, by omega, by omega, fun _ => rfl⟩
 ·rw [if_neg h0]
  by_cases h1 : a ≤ 256
  ·rw [if_pos h1]
   obtain ⟨x, i', h', e, x0, x1, hd'⟩ := l1Byte_ok h hd
   rw [e]
   simp only [Option.bind_some]
   rw [if_neg (by omega)]
   have := tmod_bound x0 (show 0 < a by omega)
   exact ⟨_, _, _, rfl, hd', this.1, fun _ => this.2, fun hh => absurd hh h0⟩
  ·rw [if_neg h1]
   obtain ⟨x, i1, h1', e1, x0, x1, hd1⟩ := l1Byte_ok h hd
   obtain ⟨y, i2, h2', e2, y0, y1, hd2⟩ := l1Byte_ok h1' hd1
   obtain ⟨z, i3, h3', e3, z0, z1, hd3⟩ := l1Byte_ok h2' hd2
   rw [e1]
   simp only [Option.bind_some]
   rw [e2]
   simp only [Option.bind_some]
   rw [e3]
   simp only [Option.bind_some]
   rw [if_neg (by omega)]
   rw [w64 (x := x * 65536) (by omega) (by omega), w64 (x := y * 256) (by omega) (by omega), w64 (x := x * 65536 + y * 256) (by omega) (by omega), w64 (by omega) (by omega)]
   have := tmod_bound (show 0 ≤ x * 65536 + y * 256 + z by omega) (show 0 < a by omega)
   exact ⟨_, _, _, rfl, hd3, this.1, fun _ => this.2, fun hh => absurd hh h0⟩
theorem l1Int_ok {b : List Int} {i : Int} (h : Int) (l : List Int) (hd : Dr b i) (hl : 0 < l.length) : ∃ x i' h', spec_l1Int.f b i h l = some (x, i', h') ∧ Dr b i' ∧ x ∈ l := by
 unfold spec_l1Int.f
 obtain ⟨x, i', h', e, hd', x0, x1, _⟩ := l1Below_ok h (l.length : Int) hd
 have x2 := x1 (by omega)
 rw [e]
 simp only [Option.bind_some]
 rw [if_pos x0, if_pos x2]
 refine ⟨_, _, _, rfl, hd', ?_⟩
 unfold rd
 rw [List.getD_eq_getElem?_getD, List.getElem?_eq_getElem (by omega)]
 exact List.getElem_mem _
end Go.Proofs.Ytaofakpljnkplaa.Pb
/- The reference's draws of bytes: they answer, and what they answer are bytes, few of them. No condition beyond the length that the laws ask. -/
namespace Go.Proofs.Ytaofakpljnkplaa.Pb
open Go.RowKit Go.Proofs.Ytaofakpljnkplaa Go.Proofs.Ytaofakpljnkplaa.Q Go.Proofs.YtaofakpljnkplaaW.PrintWords Go.Proofs.YtaofakpljnkplaaW.PrintLast
set_option linter.unusedVariables false
set_option linter.unusedSimpArgs false
theorem bytes_snoc {l : List Int} (h : Bytes l) {x : Int} (hx : 0 ≤ x ∧ x ≤ 255) : Bytes (l ++ [x]) := by
 intro y hy
 rcases List.mem_append.1 hy with q | q
 ·exact h y q
 ·rw [List.mem_singleton.1 q]; exact hx
theorem bytes_append {l m : List Int} (h : Bytes l) (h' : Bytes m) : Bytes (l ++ m) := fun y hy => (List.mem_append.1 hy).elim (h y) (h' y)
theorem bytes_take {l : List Int} (h : Bytes l) (n : Nat) : Bytes (l.take n) := fun y hy => h y (List.mem_of_mem_take hy)
theorem bytes_drop {l : List Int} (h : Bytes l) (n : Nat) : Bytes (l.drop n) := fun y hy => h y (List.mem_of_mem_drop hy)
theorem bytes_set {l : List Int} (h : Bytes l) (n : Nat) {x : Int} (hx : 0 ≤ x ∧ x ≤ 255) : Bytes (l.set n x) := by
 intro y hy
 rcases List.mem_or_eq_of_mem_set hy with q | q
 ·exact h y q
 ·rw [q]; exact hx
theorem bytes_nil : Bytes [] := fun y hy => by simp at hy
theorem l3Bytes_ok {b : List Int} {i : Int} (h a : Int) (hd : Dr b i) (ha : 0 ≤ a ∧ a ≤ 100) : ∃ l i' h', Ev (fun k => spec_l3Bytes.f k b i h a) (l, i', h') ∧ Dr b i' ∧ Bytes l ∧ (l.length : Int) ≤ a := by
 have key : ∀ (d : Nat) (out : List Int) (i h : Int), Bytes out → out.length + d ≤ 100 → Dr b i → ∃ l i' h', Ev (fun k => spec_l3Bytes.l0 k out (d : Int) b i h) (l, i', h') ∧ Dr b i' ∧ Bytes l ∧ l.length ≤ out.length + d := by
  intro d
  induction d with
  | zero =>
   intro out i h ho hl hd
   exact ⟨out, i, h, Ev.step (fun k => rfl) (ev_neg (by omega) ev_some), hd, ho, by omega⟩
  | succ d ih =>
   intro out i h ho hl hd
   obtain ⟨x, i', h', e, hd', hx⟩ := l1Int_ok h [97, 98, 99, 0, 255] hd (by decide)
   obtain ⟨l, i2, h2, e2, hd2, hb2, hl2⟩ := ih (out ++ [x % 256]) i' h' (bytes_snoc ho (by omega)) (by rw [List.length_append]; simp; omega) hd'
   refine ⟨l, i2, h2, Ev.step (fun k => rfl) (ev_pos (by omega) (ev_then e (ev_pos (by omega) ?_))), hd2, hb2, by rw [List.length_append] at hl2; simp at hl2; omega⟩
   rw [w64 (by omega) (by omega), show ((d + 1 : Nat) : Int) - 1 = (d : Int) by omega]
   exact e2
 obtain ⟨x, i1, h1, e, hd1, x0, x1, _⟩ := l1Below_ok h (a + 1) hd
 have x1 := x1 (by omega)
 obtain ⟨l, i2, h2, e2, hd2, hb2, hl2⟩ := key x.toNat [] i1 h1 bytes_nil (by simp; omega) hd1
 refine ⟨l, i2, h2, ?_, hd2, hb2, by simp at hl2; omega⟩
 unfold spec_l3Bytes.f
 rw [w64 (by omega) (by omega)]
 refine ev_then e ?_
 rw [show ((x.toNat : Nat) : Int) = x by omega] at e2
 exact e2
end Go.Proofs.Ytaofakpljnkplaa.Pb
/- The reference's draws of images. No condition beyond the length that the laws ask. -/
namespace Go.Proofs.Ytaofakpljnkplaa.Pb
open Go.RowKit Go.Proofs.Ytaofakpljnkplaa Go.Proofs.Ytaofakpljnkplaa.Q Go.Proofs.YtaofakpljnkplaaW.PrintWords Go.Proofs.YtaofakpljnkplaaW.PrintLast
set_option linter.unusedVariables false
set_option linter.unusedSimpArgs false
theorem u8_range (x : Int) : 0 ≤ IntKind.u8.wrap x ∧ IntKind.u8.wrap x ≤ 255 := by
 unfold IntKind.wrap
 simp [IntKind.signed, IntKind.bits]
 omega
theorem l1Bent_ok {b : List Int} {i : Int} (h : Int) (l : List Int) (hd : Dr b i) (hb : Bytes l) (hl : l.length ≤ 1000) : ∃ l' i' h', spec_l1Bent.f b i h l = some (l', i', h') ∧ Dr b i' ∧ Bytes l' ∧ l'.length ≤ l.length + 1 := by
 unfold spec_l1Bent.f
 simp only [Option.bind_some, List.length_nil, List.nil_append]
 rw [if_pos (by omega)]
 obtain ⟨x, i1, h1, e1, hd1, x0, x1, _⟩ := l1Below_ok h 6 hd
 rw [e1]
 simp only [Option.bind_some]
 by_cases c0 : x = 0
 ·rw [if_pos c0]
  by_cases c : (l.length : Int) > 0
  ·rw [if_pos c]
   obtain ⟨y, i2, h2, e2, hd2, y0, y1, _⟩ := l1Below_ok h1 (l.length : Int) hd1
   obtain ⟨z, i3, h3, e3, hd3, z0, z1, _⟩ := l1Below_ok h2 256 hd2
   have y1 := y1 c
   rw [e2]
   simp only [Option.bind_some]
   rw [e3]
   simp only [Option.bind_some]
   rw [if_pos y0, if_pos y1]
   exact ⟨_, _, _, rfl, hd3, bytes_set hb _ (by omega), by rw [List.length_set]; omega⟩
  ·rw [if_neg c]
   exact ⟨_, _, _, rfl, hd1, hb, by omega⟩
 rw [if_neg c0]
 by_cases c1 : x = 1
 ·rw [if_pos c1]
  obtain ⟨y, i2, h2, e2, hd2, y0, y1, _⟩ := l1Below_ok h1 ((l.length : Int) + 1) hd1
  have y1 := y1 (by omega)
  rw [w64 (by omega) (by omega), e2]
  simp only [Option.bind_some]
  rw [if_pos y0, if_pos (by omega)]
  exact ⟨_, _, _, rfl, hd2, bytes_take hb _, by rw [List.length_take]; omega⟩
 rw [if_neg c1]
 by_cases c2 : x = 2
 ·rw [if_pos c2]
  obtain ⟨y, i2, h2, e2, hd2, hy⟩ := l1Int_ok h1 [0, 1, 128, 255] hd1 (by decide)
  rw [e2]
  simp only [Option.bind_some]
  rw [if_pos (by omega)]
  exact ⟨_, _, _, rfl, hd2, bytes_snoc hb (by omega), by simp⟩
 rw [if_neg c2]
 by_cases c3 : x = 3
 ·rw [if_pos c3]
  by_cases c : (l.length : Int) > 0
  ·rw [if_pos c]
   obtain ⟨y, i2, h2, e2, hd2, y0, y1, _⟩ := l1Below_ok h1 (l.length : Int) hd1
   obtain ⟨z, i3, h3, e3, hd3, z0, z1, _⟩ := l1Below_ok h2 8 hd2
   have y1 := y1 c
   rw [e2]
   simp only [Option.bind_some]
   rw [if_pos y0, if_pos y1, e3]
   simp only [Option.bind_some]
   rw [if_pos z0]
   exact ⟨_, _, _, rfl, hd3, bytes_set hb _ (u8_range _), by rw [List.length_set]; omega⟩
  ·rw [if_neg c]
   exact ⟨_, _, _, rfl, hd1, hb, by omega⟩
 rw [if_neg c3]
 exact ⟨_, _, _, rfl, hd1, hb, by omega⟩
theorem l7Old_le {b : List Int} {i : Int} (h : Int) (l : List Int) (hd : Dr b i) (hb : Bytes l) (hl : l.length ≤ 100) : ∃ l' i' h', Ev (fun k => spec_l7Old.f k b i h l) (l', i', h') ∧ Dr b i' ∧ Bytes l' ∧ l'.length ≤ l.length + 20 := by
 unfold spec_l7Old.f
 obtain ⟨x, i1, h1, e1, hd1, x0, x1, _⟩ := l1Below_ok h 5 hd
 by_cases c0 : x = 0
 ·obtain ⟨l2, i2, h2, e2, hd2, hb2, hl2⟩ := l3Bytes_ok h1 16 hd1 (by omega)
  exact ⟨l2, i2, h2, ev_then e1 (ev_pos c0 (Ev.bind e2 ev_some)), hd2, hb2, by omega⟩
 by_cases c1 : x = 1
 ·exact ⟨_, _, _, ev_then e1 (ev_neg c0 (ev_pos c1 (Ev.bind ev_some (ev_pos (by simp; omega) ev_some)))), hd1, by simpa using hb, by simp⟩
 by_cases c2 : x = 2
 ·obtain ⟨y, i2, h2, e2, hd2, y0, y1, _⟩ := l1Below_ok h1 ((l.length : Int) + 1) hd1
  have y1 := y1 (by omega)
  refine ⟨_, _, _, ev_then e1 (ev_neg c0 (ev_neg c1 (ev_pos c2 (ev_then (by rw [w64 (by omega) (by omega)]; exact e2) (Ev.bind ev_some (ev_pos y0 (ev_pos (show y ≤ (l.length : Int) by omega) (ev_pos (show ([120] : List Int).length + (l.drop y.toNat).length < 140737488355328 by simp; omega) (Ev.bind ev_some (ev_pos (show ([120] ++ l.drop y.toNat).length + (l.take y.toNat).length < 140737488355328 by simp; omega) ev_some)))))))))), hd2, ?_, by simp; omega⟩
  refine bytes_append (bytes_append ?_ (bytes_drop hb _)) (bytes_take hb _)
  intro z hz
  rw [List.mem_singleton.1 hz]
  omega
 by_cases c3 : x = 3
 ·exact ⟨_, _, _, ev_then e1 (ev_neg c0 (ev_neg c1 (ev_neg c2 (ev_pos c3 ev_some)))), hd1, bytes_nil, by simp⟩
 obtain ⟨l2, i2, h2, e2, hd2, hb2, hl2⟩ := l3Bytes_ok h1 3 hd1 (by omega)
 obtain ⟨l3, i3, h3, e3, hd3, hb3, hl3⟩ := l1Bent_ok h2 l hd2 hb (by omega)
 exact ⟨_, _, _, ev_then e1 (ev_neg c0 (ev_neg c1 (ev_neg c2 (ev_neg c3 (Ev.bind e2 (ev_then e3 (ev_pos (show l2.length + l3.length < 140737488355328 by omega) ev_some))))))), hd3, bytes_append hb2 hb3, by rw [List.length_append]; show l2.length + l3.length ≤ l.length + 20; omega⟩
theorem l6Image_ok {b : List Int} {i : Int} (h : Int) (hd : Dr b i) : ∃ l i' h', Ev (fun k => spec_l6Image.f k b i h) (l, i', h') ∧ Dr b i' ∧ Bytes l ∧ l.length ≤ 16 := by
 obtain ⟨l, i2, h2, e2, hd2, hb2, hl2⟩ := l3Bytes_ok h 16 hd (by omega)
 unfold spec_l6Image.f
 exact ⟨l, i2, h2, Ev.bind e2 ev_some, hd2, hb2, by omega⟩
end Go.Proofs.Ytaofakpljnkplaa.Pb
/- A new disk, by the program. No condition. -/
namespace Go.Proofs.Ytaofakpljnkplaa.Pb
open Go.RowKit Go.Proofs.Ytaofakpljnkplaa Go.Proofs.Ytaofakpljnkplaa.Q Go.Proofs.YtaofakpljnkplaaW.PrintWords Go.Proofs.YtaofakpljnkplaaW.PrintLast
set_option linter.unusedVariables false
set_option linter.unusedSimpArgs false
theorem not_dec' {p : Prop} [Decidable p] (h : ¬ p) : ¬ (decide p = true) := fun e => h (of_decide_eq_true e)
def diskNew (g : Int) (b : List Int) : List Int × List Int × Int × Int × Int × List S104 := if (0 ≤ g ∧ g ≤ 1000000) ∧ b.length ≤ 240 then (b, [], g, 0, (b.length : Int), []) else ([], [], 0, 0, 0, [])
theorem implDiskNew_eq (g : Int) (b : List Int) : impl_DiskNew.f g b = some (diskNew g b) := by
 unfold impl_DiskNew.f impl_isGen.f diskNew
 rw [within_eq]
 simp only [Option.bind_some]
 by_cases h : 0 ≤ g ∧ g ≤ 1000000
 ·rw [if_pos (decide_eq_true h)]
  by_cases h2 : (b.length : Int) > 240
  ·rw [if_pos h2, if_neg (fun q => by have := q.2; omega)]
  ·rw [if_neg h2, if_pos ⟨h, by omega⟩]
   unfold impl_cloned.f
   rw [if_pos (by omega)]
   rfl
 ·rw [if_neg (not_dec' h), if_neg (fun q => h q.1)]
end Go.Proofs.Ytaofakpljnkplaa.Pb
/- The reference's Fall: those writes made durable that a set names. No condition beyond the rows' lengths. -/
namespace Go.Proofs.Ytaofakpljnkplaa.Pb
open Go.RowKit Go.Proofs.Ytaofakpljnkplaa Go.Proofs.Ytaofakpljnkplaa.Q Go.Proofs.YtaofakpljnkplaaW.PrintWords Go.Proofs.YtaofakpljnkplaaW.PrintLast
set_option linter.unusedVariables false
set_option linter.unusedSimpArgs false
def fall (a b : List Int) (c d e : Int) (l : List S104) (x : Int) : List Int × List Int × Int × Int × Int × List S104 := settle (inSet x) a b c d e l
theorem implFall_ev (a b : List Int) (c d e : Int) (l : List S104) (x : Int) (ha : a.length ≤ 4194304) (hb : b.length ≤ 4194304) (hl : PutsOk 4194304 l) : Ev (fun k => impl_Fall.f k a b c d e l x) (fall a b c d e l x) := by
 unfold impl_Fall.f fall
 exact implSettled_ev (fun _ i => impl_InSet.f x i) (inSet x) (fun i => ev_of (implInSet_eq x i)) a b c d e l ha hb hl
end Go.Proofs.Ytaofakpljnkplaa.Pb
/- All crashes of a disk. No condition beyond the rows' lengths. -/
namespace Go.Proofs.Ytaofakpljnkplaa.Pb
open Go.RowKit Go.Proofs.Ytaofakpljnkplaa Go.Proofs.Ytaofakpljnkplaa.Q Go.Proofs.YtaofakpljnkplaaW.PrintWords Go.Proofs.YtaofakpljnkplaaW.PrintLast
set_option linter.unusedVariables false
set_option linter.unusedSimpArgs false
def asDisk (z : List Int × List Int × Int × Int × Int × List S104) : S47 := ⟨z.1, z.2.1, ⟨z.2.2.1, z.2.2.2.1, z.2.2.2.2.1⟩, z.2.2.2.2.2⟩
def fallD (a b : List Int) (c d e : Int) (l : List S104) (i : Nat) : S47 := asDisk (fall a b c d e l (i : Int))
def nFalls (l : List S104) : Nat := 2 ^ (min 6 l.length)
def allFalls (a b : List Int) (c d e : Int) (l : List S104) : List S47 := (List.range' 0 (nFalls l)).map (fallD a b c d e l)
theorem nFalls_le (l : List S104) : nFalls l ≤ 64 := Nat.pow_le_pow_right (by decide) (Nat.min_le_left 6 l.length)
theorem pow_small (m : Nat) (hm : m ≤ 6) : wrap64 ((2 : Int) ^ m) = ((2 ^ m : Nat) : Int) := by
 have h : ((2 : Int) ^ m) = ((2 ^ m : Nat) : Int) := by simp
 have h2 : 2 ^ m ≤ 2 ^ 6 := Nat.pow_le_pow_right (by decide) hm
 rw [h]
 generalize 2 ^ m = p at h2 ⊢
 exact w64 (by omega) (by omega)
theorem implFalls_key (a b : List Int) (c d e : Int) (l : List S104) (ha : a.length ≤ 4194304) (hb : b.length ≤ 4194304) (hl : PutsOk 4194304 l) : ∀ (r i : Nat) (x : List S47), i + r = nFalls l → x.length = i →
  Ev (fun k => impl_AllFalls.l0 k x (nFalls l : Int) (i : Int) a b c d e l) (x ++ (List.range' i r).map (fallD a b c d e l)) := by
 intro r
 have hn := nFalls_le l
 induction r with
 | zero =>
  intro i x hi hx
  exact Ev.step (fun k => rfl) (ev_neg (by omega) (ev_eq ev_some (by simp)))
 | succ r ih =>
  intro i x hi hx
  refine Ev.step (fun k => rfl) (ev_pos (by omega) (Ev.bind (implFall_ev a b c d e l i ha hb hl) (ev_pos (by omega) ?_)))
  rw [w64 (x := (i : Int) + 1) (by omega) (by omega)]
  have := ih (i + 1) (x ++ [fallD a b c d e l i]) (by omega) (by simp [hx])
  rw [List.range'_succ, List.map_cons]
  simp only [List.append_assoc, List.singleton_append] at this
  exact this
theorem implFalls_ev (a b : List Int) (c d e : Int) (l : List S104) (ha : a.length ≤ 4194304) (hb : b.length ≤ 4194304) (hl : PutsOk 4194304 l) : Ev (fun k => impl_AllFalls.f k a b c d e l) (allFalls a b c d e l) := by
 unfold impl_AllFalls.f
 have e1 : (mn 6 (l.length : Int)).toNat = min 6 l.length := by
  unfold mn
  split <;> omega
 rw [e1, pow_small (min 6 l.length) (Nat.min_le_left _ _)]
 exact implFalls_key a b c d e l ha hb hl (nFalls l) 0 [] (by omega) rfl
def DiskSmall (n : Nat) (x : S47) : Prop := x.f0.length ≤ n ∧ x.f1.length ≤ n ∧ PutsOk n x.f3
theorem allFalls_small (a b : List Int) (c d e : Int) (l : List S104) {n : Nat} (ha : a.length ≤ n) (hb : b.length ≤ n) (hl : PutsOk n l) (hn : 240 ≤ n) : ∀ x ∈ allFalls a b c d e l, DiskSmall n x := by
 intro x hx
 obtain ⟨i, _, rfl⟩ := List.mem_map.1 hx
 exact settle_len (inSet (i : Int)) a b c d e l ha hb hl hn
theorem rd_midD (pre : List S47) (p : S47) (t : List S47) : rd_T47 (pre ++ p :: t) (pre.length : Int) = p := by
 simp only [rd_T47, Int.toNat_natCast, List.getD_eq_getElem?_getD]
 rw [List.getElem?_append_right (Nat.le_refl _), Nat.sub_self]
 rfl
end Go.Proofs.Ytaofakpljnkplaa.Pb
/- What a disk holds: its record's bytes out of its slot. No condition beyond the rows' lengths. -/
namespace Go.Proofs.Ytaofakpljnkplaa.Pb
open Go.RowKit Go.Proofs.Ytaofakpljnkplaa Go.Proofs.Ytaofakpljnkplaa.Q Go.Proofs.YtaofakpljnkplaaW.PrintWords Go.Proofs.YtaofakpljnkplaaW.PrintLast
set_option linter.unusedVariables false
set_option linter.unusedSimpArgs false
def recover (a b : List Int) (c d e : Int) (l : List S104) : Int × List Int := if diskOk a b c d e l = true then (c, (slotOf a b d).take e.toNat) else (0, [])
theorem diskOk_parts {a b : List Int} {c d e : Int} {l : List S104} (h : diskOk a b c d e l = true) : (a.length ≤ 240 ∧ b.length ≤ 240 ∧ l.length ≤ 200 ∧ e ≤ (slotOf a b d).length) ∧ recordOk c d e = true := by
 unfold diskOk at h
 rw [Bool.and_eq_true, Bool.and_eq_true, decide_eq_true_eq] at h
 exact ⟨h.1, h.2.1⟩
theorem implRecover_ev (a b : List Int) (c d e : Int) (l : List S104) (hl : PutsOk 1048576 l) : Ev (fun k => impl_Recover.f k a b c d e l) (recover a b c d e l) := by
 unfold impl_Recover.f recover
 refine Ev.bind (implDiskOk_ev a b c d e l (putsOk_le (by omega) hl)) (ev_if (fun h => ?_) (fun h => ev_eq ev_some (by rw [if_neg h])))
 obtain ⟨h1, h2⟩ := diskOk_parts h
 have h3 := of_decide_eq_true h2
 rw [if_pos h]
 have cl : ∀ n : List Int, n.length ≤ 240 → impl_cloned.f (n.take e.toNat) = some (n.take e.toNat) := by
  intro n hn
  unfold impl_cloned.f
  exact if_pos (by rw [List.length_take]; omega)
 by_cases q : d = 0
 ·have hs : slotOf a b d = a := if_pos q
  rw [hs] at h1 ⊢
  exact ev_pos q (ev_then (slot_yes q) (ev_pos h3.2.2.2.2.1 (ev_pos h1.2.2.2 (ev_then (cl a h1.1) ev_some))))
 ·have hs : slotOf a b d = b := if_neg q
  rw [hs] at h1 ⊢
  exact ev_neg q (ev_then (slot_no q) (ev_pos h3.2.2.2.2.1 (ev_pos h1.2.2.2 (ev_then (cl b h1.2.1) ev_some))))
def sameB (x y : List Int) : Bool := (strOfNums x).toList == (strOfNums y).toList
def holds (a b : List Int) (c d e : Int) (l : List S104) (g : Int) (x : List Int) : Bool := if (recover a b c d e l).1 = g then sameB (recover a b c d e l).2 x else false
theorem implHolds_ev (a b : List Int) (c d e : Int) (l : List S104) (g : Int) (x : List Int) (hl : PutsOk 1048576 l) : Ev (fun k => impl_Holds.f k a b c d e l g x) (holds a b c d e l g x) := by
 unfold impl_Holds.f holds
 exact Ev.bind (implRecover_ev a b c d e l hl) (ev_if (fun h => ev_then rfl (ev_eq ev_some (by rw [if_pos h]; rfl))) (fun h => ev_eq ev_some (by rw [if_neg h])))
end Go.Proofs.Ytaofakpljnkplaa.Pb
/- Whether a disk holds one of two images. No condition beyond the rows' lengths. -/
namespace Go.Proofs.Ytaofakpljnkplaa.Pb
open Go.RowKit Go.Proofs.Ytaofakpljnkplaa Go.Proofs.Ytaofakpljnkplaa.Q Go.Proofs.YtaofakpljnkplaaW.PrintWords Go.Proofs.YtaofakpljnkplaaW.PrintLast
set_option linter.unusedVariables false
set_option linter.unusedSimpArgs false
def holdsAny (a b : List Int) (c d e : Int) (l : List S104) (x : List Int) (g : Int) (y : List Int) : Bool := if holds a b c d e l 0 x = true then true else holds a b c d e l g y
theorem implHoldsAny_ev (a b : List Int) (c d e : Int) (l : List S104) (x : List Int) (g : Int) (y : List Int) (hl : PutsOk 1048576 l) : Ev (fun k => impl_HoldsAny.f k a b c d e l x g y) (holdsAny a b c d e l x g y) := by
 unfold impl_HoldsAny.f holdsAny
 exact Ev.bind (implHolds_ev _ _ _ _ _ _ _ _ hl) (ev_if (fun h => ev_eq ev_some (by rw [if_pos h])) (fun h => Ev.bind (implHolds_ev _ _ _ _ _ _ _ _ hl) (ev_eq ev_some (by rw [if_neg h]))))
end Go.Proofs.Ytaofakpljnkplaa.Pb
/- All crashes of a disk, and whether it is safe behind each. No condition beyond the rows' lengths. -/
namespace Go.Proofs.Ytaofakpljnkplaa.Pb
open Go.RowKit Go.Proofs.Ytaofakpljnkplaa Go.Proofs.Ytaofakpljnkplaa.Q Go.Proofs.YtaofakpljnkplaaW.PrintWords Go.Proofs.YtaofakpljnkplaaW.PrintLast
set_option linter.unusedVariables false
set_option linter.unusedSimpArgs false
def holdsD (x : S47) (u : List Int) (g : Int) (v : List Int) : Bool := holdsAny x.f0 x.f1 x.f2.f0 x.f2.f1 x.f2.f2 x.f3 u g v
def safeFall (a b : List Int) (c d e : Int) (l : List S104) (u : List Int) (g : Int) (v : List Int) : Bool := if holdsAny a b c d e l u g v = true then (allFalls a b c d e l).all (fun x => holdsD x u g v) else false
theorem idx_key (q : Nat → S47 → Option Bool) (z : S47 → Bool) : ∀ (t pre : List S47), (∀ x ∈ t, Ev (fun k => q k x) (z x)) → pre.length + t.length ≤ 4096 →
  ∃ r : Int, Ev (fun k => idxDisk.f k q (pre ++ t) (pre.length : Int)) r ∧ decide (r ≥ 0) = t.any z := by
 intro t
 induction t with
 | nil =>
  intro pre _ _
  exact ⟨-1, Ev.step (fun k => rfl) (ev_neg (by simp) ev_some), rfl⟩
 | cons x t ih =>
  intro pre hx hn
  simp only [List.length_cons] at hn
  have h0 := hx x (List.mem_cons_self ..)
  cases hz : z x with
  | true =>
   refine ⟨(pre.length : Int), Ev.step (fun k => rfl) (ev_pos (by simp only [List.length_append, List.length_cons]; omega) (ev_pos (by omega) ?_)), ?_⟩
   ·simp only [rd_midD]
    exact Ev.bind h0 (ev_pos hz ev_some)
   ·rw [List.any_cons, hz, Bool.true_or]
    exact decide_eq_true (by omega)
  | false =>
   obtain ⟨r, h1, h2⟩ := ih (pre ++ [x]) (fun y hy => hx y (List.mem_cons_of_mem _ hy)) (by simp only [List.length_append, List.length_cons, List.length_nil]; omega)
   simp only [List.append_assoc, List.singleton_append, List.length_append, List.length_cons, List.length_nil] at h1
   refine ⟨r, Ev.step (fun k => rfl) (ev_pos (by simp only [List.length_append, List.length_cons]; omega) (ev_pos (by omega) ?_)), ?_⟩
   ·simp only [rd_midD]
    rw [w64 (x := (pre.length : Int) + 1) (by omega) (by omega)]
    exact Ev.bind h0 (ev_neg (by rw [hz]; decide) h1)
   ·rw [List.any_cons, hz, Bool.false_or]
    exact h2
theorem implSafe_ev (a b : List Int) (c d e : Int) (l : List S104) (u : List Int) (g : Int) (v : List Int) (ha : a.length ≤ 1048576) (hb : b.length ≤ 1048576) (hl : PutsOk 1048576 l) : Ev (fun k => impl_SafeFall.f k a b c d e l u g v) (safeFall a b c d e l u g v) := by
 unfold impl_SafeFall.f safeFall
 have hn := nFalls_le l
 refine Ev.bind (implHoldsAny_ev a b c d e l u g v hl) (ev_if (fun h => ?_) (fun h => ev_eq ev_some (by rw [if_neg h])))
 rw [if_pos h]
 refine Ev.bind (implFalls_ev a b c d e l (by omega) (by omega) (putsOk_le (by omega) hl)) ?_
 obtain ⟨r, h1, h2⟩ := idx_key (fun k x => impl_SafeFall_1.f k x u g v) (fun x => !holdsD x u g v) (allFalls a b c d e l) [] (fun x hx => by
  unfold impl_SafeFall_1.f
  exact Ev.bind (implHoldsAny_ev x.f0 x.f1 x.f2.f0 x.f2.f1 x.f2.f2 x.f3 u g v (allFalls_small a b c d e l ha hb hl (by omega) x hx).2.2) ev_some) (by simp [allFalls]; omega)
 unfold anyDisk.f
 refine Ev.bind (Ev.bind h1 ev_some) (ev_eq ev_some ?_)
 rw [h2]
 generalize allFalls a b c d e l = L
 induction L with
 | nil => rfl
 | cons x L ih => rw [List.any_cons, List.all_cons, ← ih, Bool.not_or, Bool.not_not]
end Go.Proofs.Ytaofakpljnkplaa.Pb
/- Whether a manifest tells an image: the program's way. No condition beyond the rows' lengths, and that bytes are bytes. -/
namespace Go.Proofs.Ytaofakpljnkplaa.Pb
open Go.RowKit Go.Proofs.Ytaofakpljnkplaa Go.Proofs.Ytaofakpljnkplaa.Q Go.Proofs.YtaofakpljnkplaaW.PrintWords Go.Proofs.YtaofakpljnkplaaW.PrintLast
set_option linter.unusedVariables false
set_option linter.unusedSimpArgs false
def sumAt (a b : List S71) (i : Nat) : Bool := !(!(((a.getD i z71).f0) == ((b.getD i z71).f0)) || (!(((a.getD i z71).f1) == ((b.getD i z71).f1))))
def sameSums (a b : List S71) : Bool := if a.length = b.length then (List.range a.length).all (sumAt a b) else false
theorem implSameSums_ev (a b : List S71) (ha : a.length ≤ 1048576) : Ev (fun k => impl_Sum.f k a b) (sameSums a b) := by
 unfold impl_Sum.f sameSums
 refine ev_if (fun hl => ?_) (fun hl => ev_eq ev_some (by rw [if_neg (by omega)]))
 rw [if_pos (by omega)]
 refine loop_all (fun k i => impl_Sum.l0 k a b (a.length : Int) i) a.length _ ?_ ?_ ?_
 ·intro i r hi hp h
  refine Ev.step (fun k => rfl) ?_
  refine ev_pos (by omega) (ev_pos (by omega) (ev_pos (by omega) (ev_pos (by omega) (ev_neg (by simpa [sumAt, rd_T71] using hp) ?_))))
  rw [w64 (by omega) (by omega)]
  exact h
 ·intro i hi hp
  refine Ev.step (fun k => rfl) ?_
  refine ev_pos (by omega) (ev_pos (by omega) (ev_pos (by omega) (ev_pos (by omega) (ev_pos ?_ ev_some))))
  have : (!sumAt a b i) = true := by rw [hp]; rfl
  rw [sumAt, Bool.not_not] at this
  exact this
 ·refine Ev.step (fun k => rfl) ?_
  exact ev_neg (by omega) ev_some
def tells (n c : Int) (l : List S71) (m : List Int) : Bool := if (m.length : Int) = c then sameSums (sumsOf n m) l else false
theorem implTells_ev (a n c : Int) (l : List S71) (m : List Int) (hb : Bytes m) (hm : m.length ≤ 1048576) : Ev (fun k => impl_Tells.f k a n c l m) (tells n c l m) := by
 have := sumsOf_length n m
 unfold impl_Tells.f tells
 exact ev_if (fun h => Ev.bind (implSumsOf_ev m n hb hm) (Ev.bind (implSameSums_ev _ _ (by omega)) (ev_eq ev_some (by rw [if_pos h])))) (fun h => ev_eq ev_some (by rw [if_neg h]))
end Go.Proofs.Ytaofakpljnkplaa.Pb
namespace Go.Proofs.Ytaofakpljnkplaa.Pure
open Go.RowKit Go.Proofs.Ytaofakpljnkplaa Go.Proofs.Ytaofakpljnkplaa.Q Go.Proofs.Ytaofakpljnkplaa.Pb Go.Proofs.YtaofakpljnkplaaW.PrintWords Go.Proofs.YtaofakpljnkplaaW.PrintLast
set_option linter.unusedVariables false
set_option linter.unusedSimpArgs false
theorem drawCommit_ok (code : List Int) (hc : code.length ≤ 1048576) : ∃ old b s t, Ev (fun k => spec_DrawCommit.f k code) (old, b, s, t) ∧ Bytes old ∧ old.length ≤ 40 ∧ Bytes b ∧ b.length ≤ 16 ∧ (2 ≤ s ∧ s ≤ 6) ∧ 0 ≤ t ∧ t < 5 := by
 obtain ⟨h, e0⟩ := l1New_ev code hc
 have d0 : Dr code 0 := ⟨hc, by omega, by omega⟩
 obtain ⟨l, i1, h1, e1, d1, b1, n1⟩ := l6Image_ok h d0
 obtain ⟨l2, i2, h2, e2, d2, b2, n2⟩ := l7Old_le h1 l d1 b1 (by omega)
 obtain ⟨x, i3, h3, e3, d3, x0, x1, _⟩ := l1Below_ok h2 5 d2
 obtain ⟨y, i4, h4, e4, d4, y0, y1, _⟩ := l1Below_ok h3 5 d3
 have x1 := x1 (by omega)
 unfold spec_DrawCommit.f
 refine ⟨l2, l, 2 + x, y, Ev.bind e0 (Ev.bind e1 (Ev.bind e2 (ev_then e3 (ev_then e4 (ev_eq ev_some ?_))))), b2, by omega, b1, n1, by omega, y0, y1 (by omega)⟩
 rw [w64 (by omega) (by omega)]
def committed (a b : List Int) (c d e : Int) (p : List S104) (g n z : Int) (l : List S71) (m : List Int) : Bool := if holds a b c d e p g m = true then tells n z l m else false
theorem implCommitted_ev (a b : List Int) (c d e : Int) (p : List S104) (g n z : Int) (l : List S71) (m : List Int) (hp : PutsOk 1048576 p) (hb : Bytes m) (hm : m.length ≤ 1048576) : Ev (fun k => impl_Committed.f k a b c d e p g n z l m) (committed a b c d e p g n z l m) := by
 unfold impl_Committed.f committed
 exact Ev.bind (implHolds_ev _ _ _ _ _ _ _ _ hp) (ev_if (fun h => Ev.bind (implTells_ev _ _ _ _ _ hb hm) (ev_eq ev_some (by rw [if_pos h]))) (fun h => ev_eq ev_some (by rw [if_neg h])))
theorem at_some (x0 : List Int) : ∃ y, laws_at.f x0 4 = some y := by
 unfold laws_at.f
 by_cases h : (4 : Int) < (x0.length : Int)
 ·rw [if_pos h, if_pos (by omega)]
  exact ⟨_, rfl⟩
 ·rw [if_neg h]
  exact ⟨_, rfl⟩
theorem holds_of {a b : List Int} {c d e : Int} {y : List Int} (h : SlotsOk a b c d e) (hy : (slotOf a b d).take e.toNat = y) : holds a b c d e [] c y = true := by
 unfold holds recover
 rw [if_pos (ok_of h (by simp) (fun p hp => by cases hp)), if_pos rfl, hy]
 exact beq_self_eq_true _
theorem any_old {a b : List Int} {d e : Int} {y : List Int} (h : SlotsOk a b 0 d e) (hy : (slotOf a b d).take e.toNat = y) (g : Int) (z : List Int) : holdsAny a b 0 d e [] y g z = true := by
 unfold holdsAny
 rw [if_pos (holds_of h hy)]
theorem any_new {a b : List Int} {c d e : Int} {y : List Int} (h : SlotsOk a b c d e) (hy : (slotOf a b d).take e.toNat = y) (z : List Int) : holdsAny a b c d e [] z c y = true := by
 unfold holdsAny
 split
 ·rfl
 ·exact holds_of h hy
theorem safe_of {a b : List Int} {c d e : Int} {u v : List Int} {g : Int} (h : holdsAny a b c d e [] u g v = true) : safeFall a b c d e [] u g v = true := by
 unfold safeFall
 rw [if_pos h]
 have e1 : allFalls a b c d e [] = [asDisk (a, b, c, d, e, [])] := by
  show [asDisk (Pb.settle _ a b c d e [])] = _
  rw [settle_none]
 rw [e1]
 simp only [List.all_cons, List.all_nil, Bool.and_true]
 exact h
theorem sameSums_refl (l : List S71) : sameSums l l = true := by
 unfold sameSums
 rw [if_pos rfl]
 exact List.all_eq_true.2 (fun i _ => by simp [sumAt])
theorem tail_of {x0 old x : List Int} {s : Int} (I : Img 2 s x) {a b : List Int} {c d e : Int} (h : SlotsOk a b c d e) (hany : holdsAny a b c d e [] old 2 x = true) {f : Nat → Option Bool}
  (hf : ∀ k, f k = (impl_HoldsAny.f k a b c d e [] old 2 x).bind fun t975 => (if t975 = true then ((impl_CommitAll.f k a b c d e [] 2 s x.length (sumsOf s x) (own 2 s x).1 (own 2 s x).2).bind fun q => ((impl_Committed.f k q.1 q.2.1 q.2.2.1 q.2.2.2.1 q.2.2.2.2.1 q.2.2.2.2.2 2 s x.length (sumsOf s x) x).bind fun t989 => (if t989 = true then (if (q.2.2.2.2.2.length : Int) = 0 then ((impl_SafeFall.f k q.1 q.2.1 q.2.2.1 q.2.2.2.1 q.2.2.2.2.1 q.2.2.2.2.2 old 2 x).bind fun t990 => (some t990)) else (none)) else (none)))) else (none))) : Ev f true := by
 have q := h.1
 have h16 := I.h16
 have n40 := I.n40
 have ca := I.commitAll h
 obtain ⟨dn, tk⟩ := I.done_ok h
 have qd := dn.1
 have tk' : (slotOf (onto x a b d x.length).1 (onto x a b d x.length).2 (1 - d)).take ((x.length : Int)).toNat = x := by rw [Int.toNat_natCast]; exact tk
 have hn := any_new dn tk' old
 have cm : committed (onto x a b d x.length).1 (onto x a b d x.length).2 2 (1 - d) x.length [] 2 s x.length (sumsOf s x) x = true := by
  unfold committed
  rw [if_pos (holds_of dn tk')]
  unfold tells
  rw [if_pos rfl]
  exact sameSums_refl _
 have e1 := implHoldsAny_ev a b c d e [] old 2 x (nil_puts _)
 have e2 := implCommitted_ev (onto x a b d x.length).1 (onto x a b d x.length).2 2 (1 - d) x.length [] 2 s x.length (sumsOf s x) x (nil_puts _) I.hb (by omega)
 have e3 := implSafe_ev (onto x a b d x.length).1 (onto x a b d x.length).2 2 (1 - d) x.length [] old 2 x (by omega) (by omega) (nil_puts _)
 rw [hany] at e1
 rw [cm] at e2
 rw [safe_of hn] at e3
 have R : Ev (fun k => (impl_HoldsAny.f k a b c d e [] old 2 x).bind fun t975 => (if t975 = true then ((impl_CommitAll.f k a b c d e [] 2 s x.length (sumsOf s x) (own 2 s x).1 (own 2 s x).2).bind fun q => ((impl_Committed.f k q.1 q.2.1 q.2.2.1 q.2.2.2.1 q.2.2.2.2.1 q.2.2.2.2.2 2 s x.length (sumsOf s x) x).bind fun t989 => (if t989 = true then (if (q.2.2.2.2.2.length : Int) = 0 then ((impl_SafeFall.f k q.1 q.2.1 q.2.2.1 q.2.2.2.1 q.2.2.2.2.1 q.2.2.2.2.2 old 2 x).bind fun t990 => (some t990)) else (none)) else (none)))) else (none))) true :=
  Ev.bind e1 (ev_pos rfl (Ev.bind ca (Ev.bind e2 (ev_pos rfl (ev_pos (by simp) (Ev.bind e3 ev_some))))))
 rwa [show f = _ from funext hf]
theorem fin {x0 old x : List Int} {s : Int} (I : Img 2 s x) (o40 : old.length ≤ 40) {a b : List Int} {c d e : Int} {l : List S104} (ha : a.length ≤ 240) (hb : b.length ≤ 240) (hl : PutsOk 4194304 l)
  (hf : ∀ q : Int, (∃ b', b'.length ≤ 240 ∧ fall a b c d e l q = (old, b', 0, 0, (old.length : Int), [])) ∨ fall a b c d e l q = (old, x, 2, 1, (x.length : Int), [])) {i t ph : Int} (hit : ¬ i < t) :
  Ev (fun k => laws_FnDiskCut.l0 k x0 old x t ph i 2 s x.length (sumsOf s x) (own 2 s x).1 (own 2 s x).2 a b c d e l) true := by
 have h16 := I.h16
 obtain ⟨y, ey⟩ := at_some x0
 have fl := implFall_ev a b c d e l (Go.bits .and .i64 y 63) (by omega) (by omega) hl
 refine Ev.step (fun k => rfl) (ev_neg hit (ev_then ey (Ev.bind fl ?_)))
 rcases hf (Go.bits .and .i64 y 63) with ⟨b', hb', e1⟩ | e1
 ·rw [e1]
  have ok : SlotsOk old b' 0 0 (old.length : Int) := ⟨⟨by omega, hb', by show (old.length : Int) ≤ (old.length : Int); omega⟩, decide_eq_true (by omega)⟩
  exact tail_of (x0 := x0) I ok (any_old ok (by show old.take ((old.length : Int)).toNat = old; rw [Int.toNat_natCast, List.take_length]) 2 x) (fun k => rfl)
 ·rw [e1]
  have ok : SlotsOk old x 2 1 (x.length : Int) := ⟨⟨by omega, by omega, by show (x.length : Int) ≤ (x.length : Int); omega⟩, decide_eq_true (by omega)⟩
  exact tail_of (x0 := x0) I ok (any_new ok (by show x.take ((x.length : Int)).toNat = x; rw [Int.toNat_natCast, List.take_length]) old) (fun k => rfl)
theorem stepL {x0 old x : List Int} {s : Int} (I : Img 2 s x) {a b : List Int} {c d e : Int} {l : List S104} {ph i j t : Int} {a' b' : List Int} {c' d' e' : Int} {l' : List S104} {ph' : Int} (hi : i < t) (hj : wrap64 (i + 1) = j) (ha : a.length ≤ 240) (hb : b.length ≤ 240) (hl : PutsOk 1048576 l)
  (hn : nextCommit a b c d e l 2 s x.length (sumsOf s x) (own 2 s x).1 (own 2 s x).2 ph = (a', b', c', d', e', l', ph'))
  (next : Ev (fun k => laws_FnDiskCut.l0 k x0 old x t ph' j 2 s x.length (sumsOf s x) (own 2 s x).1 (own 2 s x).2 a' b' c' d' e' l') true) :
  Ev (fun k => laws_FnDiskCut.l0 k x0 old x t ph i 2 s x.length (sumsOf s x) (own 2 s x).1 (own 2 s x).2 a b c d e l) true := by
 have nx := I.next (c := c) (d := d) (e := e) ph ha hb hl
 rw [hn] at nx
 refine Ev.step (fun k => rfl) (ev_pos hi (Ev.bind nx ?_))
 rw [hj]
 exact next
theorem FnDiskCut : ∀ (x0 : List Int), (Opn.Each (fun n : Int => (Lit.int .u8 n).wf = true)) x0 → ∃ k, laws_FnDiskCut.f k x0 = some true := by
 intro x0 g0
 refine Ev.rounds ?_
 unfold laws_FnDiskCut.f
 refine ev_then (show laws_big.f x0 = some (decide ((x0.length : Int) > 1048576)) from rfl) ?_
 refine ev_bool (fun _ => ev_some) (fun hbig => ?_)
 have hx : x0.length ≤ 1048576 := by have := of_decide_eq_false hbig; omega
 obtain ⟨old, x, s, t, e0, ho, o40, hb, h16, hs, ht0, ht5⟩ := drawCommit_ok x0 hx
 have I : Img 2 s x := ⟨by omega, hs, hb, h16⟩
 have n40 := I.n40
 have G0 : SlotsOk old [] 0 0 (old.length : Int) := ⟨⟨by omega, by simp, by show (old.length : Int) ≤ (old.length : Int); omega⟩, decide_eq_true (by omega)⟩
 have G2 : SlotsOk old x 0 0 (old.length : Int) := ⟨⟨by omega, by omega, by show (old.length : Int) ≤ (old.length : Int); omega⟩, decide_eq_true (by omega)⟩
 have ov : onto x old [] 0 x.length = (old, x) := by
  unfold onto
  rw [if_pos rfl, over_all]
  simp
 have bf := implBuildFrom_ev 2 s x.length (sumsOf s x) x (by omega) (by omega) hb
 refine Ev.bind e0 (Ev.bind (implManOf_ev 2 x s (by omega) I.size hb (by omega)) (Ev.bind bf (ev_then (implDiskNew_eq 0 old) ?_)))
 have dn : diskNew 0 old = (old, [], 0, 0, (old.length : Int), []) := by
  unfold diskNew
  rw [if_pos ⟨by omega, by omega⟩]
 rw [dn]
 show Ev (fun k => laws_FnDiskCut.l0 k x0 old x t 1 0 2 s x.length (sumsOf s x) (own 2 s x).1 (own 2 s x).2 old [] 0 0 (old.length : Int) []) true
 have N2 := I.n2 G0 (own 2 s x).1 (own 2 s x).2
 rw [ov] at N2
 have F4 : Ev (fun k => laws_FnDiskCut.l0 k x0 old x t 5 4 2 s x.length (sumsOf s x) (own 2 s x).1 (own 2 s x).2 old x 2 (1 - 0) (x.length : Int) []) true :=
  fin I o40 (by omega) (by omega) (nil_puts _) (fun q => .inr (settle_none _)) (by omega)
 have F3 : Ev (fun k => laws_FnDiskCut.l0 k x0 old x t 4 3 2 s x.length (sumsOf s x) (own 2 s x).1 (own 2 s x).2 old x 0 0 (old.length : Int) [⟨2, 0, [], ⟨2, 1 - 0, (x.length : Int)⟩⟩]) true := by
  by_cases h : 3 < t
  ·exact stepL I h ((w64 (by omega) (by omega)).trans (by omega)) (by omega) (by omega) (rec_puts (by omega)) (I.n4 G2 _ _) F4
  ·refine fin I o40 (by omega) (by omega) (rec_puts (by omega)) (fun q => ?_) h
   unfold fall Pb.settle
   have okD : diskOk old x 0 0 (old.length : Int) [⟨2, 0, [], ⟨2, 1 - 0, (x.length : Int)⟩⟩] = true := ok_of G2 (by simp) (fun p hp => by
    rw [List.mem_singleton] at hp
    subst hp
    unfold putOk
    rw [if_pos rfl, I.rec_ok (by omega)]
    simp)
   rw [if_pos okD]
   by_cases k : inSet q 0 = true
   ·refine .inr ?_
    simp only [settleL, step5, if_pos k, done, if_pos]
    rfl
   ·refine .inl ⟨x, by omega, ?_⟩
    simp only [settleL, step5, if_neg k]
 have F2 : Ev (fun k => laws_FnDiskCut.l0 k x0 old x t 3 2 2 s x.length (sumsOf s x) (own 2 s x).1 (own 2 s x).2 old x 0 0 (old.length : Int) []) true := by
  by_cases h : 2 < t
  ·exact stepL I h ((w64 (by omega) (by omega)).trans (by omega)) (by omega) (by omega) (nil_puts _) (I.n3 G2 _ _) F3
  ·exact fin I o40 (by omega) (by omega) (nil_puts _) (fun q => .inl ⟨x, by omega, settle_none _⟩) h
 have F1 : Ev (fun k => laws_FnDiskCut.l0 k x0 old x t 2 1 2 s x.length (sumsOf s x) (own 2 s x).1 (own 2 s x).2 old [] 0 0 (old.length : Int) (stageS 0 s x (sumsOf s x).length)) true := by
  by_cases h : 1 < t
  ·exact stepL I h ((w64 (by omega) (by omega)).trans (by omega)) (by omega) (by simp) (I.stage_puts 0 (by omega)) N2 F2
  ·refine fin I o40 (by omega) (by simp) (I.stage_puts 0 (by omega)) (fun q => .inl ?_) h
   have pk := I.puts_ok (d := 0) (by omega) (Nat.le_refl _)
   obtain ⟨b', hb'⟩ := settleL_slot1 (inSet q) old 0 0 (old.length : Int) (stageS 0 s x (sumsOf s x).length) 0 [] (fun p hp => by
    obtain ⟨j, hj, rfl⟩ := List.mem_map.1 hp
    rfl)
   have ln := (settleL_len (n := 240) (by omega) (inSet q) (stageS 0 s x (sumsOf s x).length) 0 (old, [], 0, 0, (old.length : Int)) pk (by show old.length ≤ 240; omega) (by simp)).2
   rw [hb'] at ln
   refine ⟨b', ln, ?_⟩
   unfold fall Pb.settle
   rw [if_pos (ok_of G0 (by rw [stageS_length]; omega) pk), hb']
 by_cases h : 0 < t
 ·exact stepL I h ((w64 (by omega) (by omega)).trans (by omega)) (by omega) (by simp) (nil_puts _) (I.n1 G0) F1
 ·exact fin I o40 (by omega) (by simp) (nil_puts _) (fun q => .inl ⟨[], by simp, settle_none _⟩) h
end Go.Proofs.Ytaofakpljnkplaa.Pure
