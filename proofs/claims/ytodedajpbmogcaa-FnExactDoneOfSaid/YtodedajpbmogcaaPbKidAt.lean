/- Lists of clients: the place of one, the unions, what is to be sent, whether a list is right. No condition beyond the size that the laws ask. -/
import Derived.Test.YtodedajpbmogcaaQ26
import Derived.Test.YtodedajpbmogcaaQ30
import Derived.Test.YtodedajpbmogcaaQ40
import Derived.Test.YtodedajpbmogcaaQ42
import Derived.Test.YtodedajpbmogcaaQ44
import Derived.Test.YtodedajpbmogcaaQ45
import Derived.Test.YtodedajpbmogcaaQ61
import Derived.Test.YtodedajpbmogcaaQ62
import Derived.Test.YtodedajpbmogcaaPbKid
namespace Go.Proofs.Ytodedajpbmogcaa.Pb
open Go.RowKit Go.Proofs.Ytodedajpbmogcaa Go.Proofs.Ytodedajpbmogcaa.Q Go.Proofs.YtodedajpbmogcaaW.PrintWords Go.Proofs.YtodedajpbmogcaaW.PrintLast
set_option linter.unusedVariables false
set_option linter.unusedSimpArgs false

def kidAt (l : List S58) (id : Int) : Int := match (List.range l.length).find? (fun i => decide ((l.getD i z58).f0 = id)) with | some i => (i : Int) | none => -1
theorem kidAt_lt (l : List S58) (id : Int) (h : ¬ kidAt l id < 0) : 0 ≤ kidAt l id ∧ kidAt l id < (l.length : Int) := by
  unfold kidAt at h ⊢
  cases hf : (List.range l.length).find? (fun i => decide ((l.getD i z58).f0 = id)) with
  | some i =>
    have h2 := List.mem_of_find?_eq_some hf
    simp only [List.mem_range] at h2
    simp only
    omega
  | none => rw [hf] at h; exact absurd (by decide) h
theorem specKidAt_ev (l : List S58) (id : Int) (hl : l.length ≤ 1048576) : Ev (fun k => spec_KidAt.f k l id) (kidAt l id) := by
  refine loop_find (fun k i => spec_KidAt.l0 k l id i) l.length _ (fun i => (i : Int)) (-1) ?_ ?_ ?_
  · intro i hi hp
    refine Ev.step (fun k => rfl) ?_
    exact ev_pos (by omega) (ev_pos (by omega) (ev_pos (of_decide_eq_true hp) ev_some))
  · intro i r hi hp h
    refine Ev.step (fun k => rfl) ?_
    refine ev_pos (by omega) (ev_pos (by omega) (ev_neg (of_decide_eq_false hp) ?_))
    rw [w64 (by omega) (by omega)]
    exact h
  · refine Ev.step (fun k => rfl) ?_
    exact ev_neg (by omega) ev_some
theorem kidAt_same (k : Nat) : ∀ (l : List S58) (id i : Int), impl_KidAt.l0 k l id i = spec_KidAt.l0 k l id i := by
  induction k with
  | zero => intro _ _ _; rfl
  | succ k ih => intro l id i; simp only [impl_KidAt.l0, spec_KidAt.l0, ih]
theorem implKidAt_ev (l : List S58) (id : Int) (hl : l.length ≤ 1048576) : Ev (fun k => impl_KidAt.f k l id) (kidAt l id) :=
  Ev.congr (fun k => kidAt_same k l id 0) (specKidAt_ev l id hl)

def doneOf (l : List S58) : Int := iter l.length (fun i (s : Int) => if setOk (l.getD i z58).f2 = true then Go.bits .or .i64 s (l.getD i z58).f2 else s) 0
theorem specDoneOf_ev (l : List S58) (hl : l.length ≤ 1048576) : Ev (fun k => spec_DoneOf.f k l) (doneOf l) := by
  refine loop_up (fun k s i => spec_DoneOf.l0 k l s i) l.length (fun i (s : Int) => if setOk (l.getD i z58).f2 = true then Go.bits .or .i64 s (l.getD i z58).f2 else s) (fun _ _ => True) 0 _ trivial (fun _ _ _ _ => trivial) ?_ ?_
  · intro i s r hi _ h
    refine Ev.step (fun k => rfl) ?_
    refine ev_pos (by omega) (ev_pos (by omega) ?_)
    refine ev_then (specSetOk_eq _) ?_
    rw [w64 (by omega) (by omega)]
    refine ev_bool (fun hb => ?_) (fun hb => ?_)
    · rw [if_pos (by exact hb)] at h; exact h
    · rw [if_neg (by rw [show setOk (l.getD i z58).f2 = false from hb]; decide)] at h; exact h
  · intro _
    refine Ev.step (fun k => rfl) ?_
    exact ev_neg (by omega) ev_some
theorem doneOf_same (k : Nat) : ∀ (l : List S58) (s i : Int), impl_DoneOf.l0 k l s i = spec_DoneOf.l0 k l s i := by
  induction k with
  | zero => intro _ _ _; rfl
  | succ k ih => intro l s i; simp only [impl_DoneOf.l0, spec_DoneOf.l0, ih, specSetOk_eq, implSetOk_eq]
theorem implDoneOf_ev (l : List S58) (hl : l.length ≤ 1048576) : Ev (fun k => impl_DoneOf.f k l) (doneOf l) :=
  Ev.congr (fun k => doneOf_same k l 0 0) (specDoneOf_ev l hl)
def wantsOf (l : List S58) : Int := iter l.length (fun i (s : Int) => if setOk (l.getD i z58).f1 = true then Go.bits .or .i64 s (l.getD i z58).f1 else s) 0
theorem specWantsOf_ev (l : List S58) (hl : l.length ≤ 1048576) : Ev (fun k => spec_WantsOf.f k l) (wantsOf l) := by
  refine loop_up (fun k s i => spec_WantsOf.l0 k l s i) l.length (fun i (s : Int) => if setOk (l.getD i z58).f1 = true then Go.bits .or .i64 s (l.getD i z58).f1 else s) (fun _ _ => True) 0 _ trivial (fun _ _ _ _ => trivial) ?_ ?_
  · intro i s r hi _ h
    refine Ev.step (fun k => rfl) ?_
    refine ev_pos (by omega) (ev_pos (by omega) ?_)
    refine ev_then (specSetOk_eq _) ?_
    rw [w64 (by omega) (by omega)]
    refine ev_bool (fun hb => ?_) (fun hb => ?_)
    · rw [if_pos (by exact hb)] at h; exact h
    · rw [if_neg (by rw [show setOk (l.getD i z58).f1 = false from hb]; decide)] at h; exact h
  · intro _
    refine Ev.step (fun k => rfl) ?_
    exact ev_neg (by omega) ev_some
theorem wantsOf_same (k : Nat) : ∀ (l : List S58) (s i : Int), impl_WantsOf.l0 k l s i = spec_WantsOf.l0 k l s i := by
  induction k with
  | zero => intro _ _ _; rfl
  | succ k ih => intro l s i; simp only [impl_WantsOf.l0, spec_WantsOf.l0, ih, specSetOk_eq, implSetOk_eq]
theorem implWantsOf_ev (l : List S58) (hl : l.length ≤ 1048576) : Ev (fun k => impl_WantsOf.f k l) (wantsOf l) :=
  Ev.congr (fun k => wantsOf_same k l 0 0) (specWantsOf_ev l hl)

/-! ### SendTo -/
def kidGet (l : List S58) (id : Int) : S58 := rd_T58 l (kidAt l id)
def sendTo (l : List S58) (id have_ : Int) : Int :=
  if kidAt l id < 0 then 0 else if (setOk have_ && setOk (kidGet l id).f1 && setOk (kidGet l id).f4) = true then Go.bits .andNot .i64 (Go.bits .and .i64 (kidGet l id).f1 have_) (kidGet l id).f4 else 0
theorem specSendTo_ev (l : List S58) (id have_ : Int) (hl : l.length ≤ 1048576) : Ev (fun k => spec_SendTo.f k l id have_) (sendTo l id have_) := by
  unfold spec_SendTo.f sendTo
  refine Ev.bind (specKidAt_ev l id hl) ?_
  refine ev_if (fun h => ev_eq ev_some (by rw [if_pos h])) (fun h => ?_)
  obtain ⟨h0, h1⟩ := kidAt_lt l id h
  rw [if_neg h]
  refine ev_then (specSetOk_eq _) (ev_bool (fun a => ?_) (fun a => ev_eq ev_some (by simp [a])))
  refine ev_pos h0 (ev_pos h1 ?_)
  refine ev_then (specSetOk_eq _) (ev_bool (fun b => ?_) (fun b => ev_eq ev_some (by simp [kidGet, b])))
  refine ev_then (specSetOk_eq _) (ev_bool (fun c => ev_eq ev_some (by simp [kidGet, a, b, c])) (fun c => ev_eq ev_some (by simp [kidGet, c])))
theorem sendTo_same (k : Nat) (l : List S58) (id have_ : Int) : impl_SendTo.f k l id have_ = spec_SendTo.f k l id have_ := by
  unfold impl_SendTo.f spec_SendTo.f impl_KidAt.f spec_KidAt.f
  simp only [kidAt_same, specSetOk_eq, implSetOk_eq]
theorem implSendTo_ev (l : List S58) (id have_ : Int) (hl : l.length ≤ 1048576) : Ev (fun k => impl_SendTo.f k l id have_) (sendTo l id have_) :=
  Ev.congr (fun k => sendTo_same k l id have_) (specSendTo_ev l id have_ hl)
end Go.Proofs.Ytodedajpbmogcaa.Pb
