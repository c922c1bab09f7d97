/- Telling messages apart: the program's and the reference's ways. No condition beyond the size that the laws ask. -/
import Derived.Test.YtkfnhbpjphjckaaQ40
import Derived.Test.YtkfnhbpjphjckaaQ45
import Derived.Test.YtkfnhbpjphjckaaPb
import Derived.Test.YtkfnhbpjphjckaaTyp
namespace Go.Proofs.Ytkfnhbpjphjckaa.Pb
open Go.RowKit Go.Proofs.Ytkfnhbpjphjckaa Go.Proofs.Ytkfnhbpjphjckaa.Q Go.Proofs.YtkfnhbpjphjckaaW.PrintWords Go.Proofs.YtkfnhbpjphjckaaW.PrintLast
set_option linter.unusedVariables false
set_option linter.unusedSimpArgs false

def sumAt (a b : List S103) (i : Nat) : Bool := !(!(((a.getD i z103).f0) == ((b.getD i z103).f0)) || (!(((a.getD i z103).f1) == ((b.getD i z103).f1))))
def sameSums (a b : List S103) : Bool := if a.length = b.length then (List.range a.length).all (sumAt a b) else false
theorem specSameSums_ev (a b : List S103) (ha : a.length ≤ 1048576) : Ev (fun k => spec_l6SameSums.f k a b) (sameSums a b) := by
  unfold spec_l6SameSums.f sameSums
  refine ev_if (fun hl => ?_) (fun hl => ev_eq ev_some (by rw [if_neg (by omega)]))
  rw [if_pos (by omega)]
  refine loop_all (fun k i => spec_l6SameSums.l0 k a b i) a.length _ ?_ ?_ ?_
  · intro i r hi hp h
    refine Ev.step (fun k => rfl) ?_
    refine ev_pos (by omega) (ev_pos (by omega) (ev_pos (by omega) (ev_neg (by simpa [sumAt, rd_T103] using hp) ?_)))
    rw [w64 (by omega) (by omega)]
    exact h
  · intro i hi hp
    refine Ev.step (fun k => rfl) ?_
    refine ev_pos (by omega) (ev_pos (by omega) (ev_pos (by omega) (ev_pos ?_ ev_some)))
    have : (!sumAt a b i) = true := by rw [hp]; rfl
    rw [sumAt, Bool.not_not] at this
    exact this
  · refine Ev.step (fun k => rfl) ?_
    exact ev_neg (by omega) ev_some
theorem implSameSums_ev (a b : List S103) (ha : a.length ≤ 1048576) : Ev (fun k => impl_Sum.f k a b) (sameSums a b) := by
  unfold impl_Sum.f sameSums
  refine ev_if (fun hl => ?_) (fun hl => ev_eq ev_some (by rw [if_neg (by omega)]))
  rw [if_pos (by omega)]
  refine loop_all (fun k i => impl_Sum.l0 k a b (a.length : Int) i) a.length _ ?_ ?_ ?_
  · intro i r hi hp h
    refine Ev.step (fun k => rfl) ?_
    refine ev_pos (by omega) (ev_pos (by omega) (ev_pos (by omega) (ev_pos (by omega) (ev_neg (by simpa [sumAt, rd_T103] using hp) ?_))))
    rw [w64 (by omega) (by omega)]
    exact h
  · intro i hi hp
    refine Ev.step (fun k => rfl) ?_
    refine ev_pos (by omega) (ev_pos (by omega) (ev_pos (by omega) (ev_pos (by omega) (ev_pos ?_ ev_some))))
    have : (!sumAt a b i) = true := by rw [hp]; rfl
    rw [sumAt, Bool.not_not] at this
    exact this
  · refine Ev.step (fun k => rfl) ?_
    exact ev_neg (by omega) ev_some
def sameMan (a b c : Int) (l : List S103) (a' b' c' : Int) (l' : List S103) : Bool := if a = a' then (if b = b' then (if c = c' then sameSums l l' else false) else false) else false
theorem specSameMan_ev (a b c : Int) (l : List S103) (a' b' c' : Int) (l' : List S103) (hl : l.length ≤ 1048576) : Ev (fun k => spec_SameMan.f k a b c l a' b' c' l') (sameMan a b c l a' b' c' l') := by
  unfold spec_SameMan.f sameMan
  refine ev_if (fun h => ?_) (fun h => ev_eq ev_some (by rw [if_neg h]))
  rw [if_pos h]
  refine ev_if (fun h => ?_) (fun h => ev_eq ev_some (by rw [if_neg h]))
  rw [if_pos h]
  refine ev_if (fun h => ?_) (fun h => ev_eq ev_some (by rw [if_neg h]))
  rw [if_pos h]
  exact Ev.bind (specSameSums_ev l l' hl) ev_some
theorem implSameMan_ev (a b c : Int) (l : List S103) (a' b' c' : Int) (l' : List S103) (hl : l.length ≤ 1048576) : Ev (fun k => impl_SameMan.f k a b c l a' b' c' l') (sameMan a b c l a' b' c' l') := by
  unfold impl_SameMan.f sameMan
  refine ev_if (fun h => ?_) (fun h => ev_eq ev_some (by rw [if_neg h]))
  rw [if_pos h]
  refine ev_if (fun h => ?_) (fun h => ev_eq ev_some (by rw [if_neg h]))
  rw [if_pos h]
  refine ev_if (fun h => ?_) (fun h => ev_eq ev_some (by rw [if_neg h]))
  rw [if_pos h]
  exact Ev.bind (implSameSums_ev l l' hl) ev_some
def sameBytes (l l' : List Int) : Bool := (strOfNums l).toList == (strOfNums l').toList
theorem specSameBytes_eq (l l' : List Int) : spec_SameBytes.f l l' = some (sameBytes l l') := rfl
theorem implSameBytes_eq (l l' : List Int) : impl_SameBytes.f l l' = some (sameBytes l l') := by
  unfold impl_SameBytes.f bytes_Equal.f
  rfl
def sameMsg (a b c d e : Int) (l : List S103) (f g h : Int) (m : List Int) (a' b' c' d' e' : Int) (l' : List S103) (f' g' h' : Int) (m' : List Int) : Bool :=
  if a = a' then (if b = b' then (if sameMan c d e l c' d' e' l' = true then (if f = f' then (if g = g' then (if h = h' then sameBytes m m' else false) else false) else false) else false) else false) else false
theorem specSameMsg_ev (a b c d e : Int) (l : List S103) (f g h : Int) (m : List Int) (a' b' c' d' e' : Int) (l' : List S103) (f' g' h' : Int) (m' : List Int) (hl : l.length ≤ 1048576) : Ev (fun k => spec_SameMsg.f k a b c d e l f g h m a' b' c' d' e' l' f' g' h' m') (sameMsg a b c d e l f g h m a' b' c' d' e' l' f' g' h' m') := by
  unfold spec_SameMsg.f sameMsg
  refine ev_if (fun h => ?_) (fun h => ev_eq ev_some (by rw [if_neg h]))
  rw [if_pos h]
  refine ev_if (fun h => ?_) (fun h => ev_eq ev_some (by rw [if_neg h]))
  rw [if_pos h]
  refine Ev.bind (specSameMan_ev c d e l c' d' e' l' hl) ?_
  refine ev_if (fun h => ?_) (fun h => ev_eq ev_some (by rw [if_neg h]))
  rw [if_pos h]
  refine ev_if (fun h => ?_) (fun h => ev_eq ev_some (by rw [if_neg h]))
  rw [if_pos h]
  refine ev_if (fun h => ?_) (fun h => ev_eq ev_some (by rw [if_neg h]))
  rw [if_pos h]
  refine ev_if (fun h => ?_) (fun h => ev_eq ev_some (by rw [if_neg h]))
  rw [if_pos h]
  exact ev_then (specSameBytes_eq m m') ev_some
theorem implSameMsg_ev (a b c d e : Int) (l : List S103) (f g h : Int) (m : List Int) (a' b' c' d' e' : Int) (l' : List S103) (f' g' h' : Int) (m' : List Int) (hl : l.length ≤ 1048576) : Ev (fun k => impl_SameMsg.f k a b c d e l f g h m a' b' c' d' e' l' f' g' h' m') (sameMsg a b c d e l f g h m a' b' c' d' e' l' f' g' h' m') := by
  unfold impl_SameMsg.f sameMsg
  refine ev_if (fun h => ?_) (fun h => ev_eq ev_some (by rw [if_neg h]))
  rw [if_pos h]
  refine ev_if (fun h => ?_) (fun h => ev_eq ev_some (by rw [if_neg h]))
  rw [if_pos h]
  refine Ev.bind (implSameMan_ev c d e l c' d' e' l' hl) ?_
  refine ev_if (fun h => ?_) (fun h => ev_eq ev_some (by rw [if_neg h]))
  rw [if_pos h]
  refine ev_if (fun h => ?_) (fun h => ev_eq ev_some (by rw [if_neg h]))
  rw [if_pos h]
  refine ev_if (fun h => ?_) (fun h => ev_eq ev_some (by rw [if_neg h]))
  rw [if_pos h]
  refine ev_if (fun h => ?_) (fun h => ev_eq ev_some (by rw [if_neg h]))
  rw [if_pos h]
  exact ev_then (implSameBytes_eq m m') ev_some
end Go.Proofs.Ytkfnhbpjphjckaa.Pb
