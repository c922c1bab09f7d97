/- The statement of FnExactMsgText over plain numbers and lists, and the row behind it. Written by a program of this seat. -/
import Derived.Test.YtanpaipapcjpoaaDoorRows
import Derived.Test.YtanpaipapcjpoaaDoorQ16
import Derived.Test.YtanpaipapcjpoaaDoorTyp
import Derived.Test.YtanpaipapcjpoaaDoorPureFnExactMsgText
import Derived.Test.YtanpaipapcjpoaaDoorTie
import Derived.Test.YtanpaipapcjpoaaDoorCards
import Derived.SevenTiedAt
import Derived.LaidLaws
import Derived.Lib.LaidU8
import Derived.Lib.LaidTab
import Derived.Handed
import Derived.JoinedOf
import Derived.WalkKit
import Derived.ProofKit
import Derived.OpenShut
import Derived.ShutString
import Derived.ChangeOld
import Derived.Below
import Derived.SizedLaws
namespace Go.Proofs.YtanpaipapcjpoaaDoor.fnExactMsgText
open Go.ChangeShapes Go.WideShapes Go.ChangeAt Go.RowKit Go.Proofs.YtanpaipapcjpoaaDoor Go.Proofs.YtanpaipapcjpoaaDoor.Q Go.Proofs.YtanpaipapcjpoaaDoorW.PrintWords
open Go.ChangeMaps (open_string shut_string)
set_option linter.unusedVariables false
theorem own : ownKnob Tryd.prog.godebug = none := by kernel_rfl
theorem gP : Tryd.prog.globalNamed "internal/strconv.uint64pow10" = some 0 := by kernel_rfl
theorem gT : (Tryd.prog.globals[0]?).map (·.type) = some 76 := by kernel_rfl
theorem c55 : Tryd.prog.cellsOf 55 = 1 := by kernel_rfl
theorem c76 : Tryd.prog.cellsOf 76 = 20 := by kernel_rfl
theorem tab_ok {W : World} (hL : laidMetH Tryd.prog Rows.fnExactMsgTextRow.laid W) : TabOk W := by
  have h : laidMet Tryd.prog Rows.fnExactMsgTextRow.laid W := by first | exact hL | exact hL.1
  obtain ⟨g, t, cs, fuel, p, hg, hty, hvar, hd⟩ := Go.Lib.laidMet.reads h (.tail _ (.tail _ (.head _)))
  obtain rfl := Option.some.inj (gP.symm.trans hg)
  obtain rfl := Option.some.inj (gT.symm.trans hty)
  unfold TabOk Go.Lib.TabIs
  rw [hvar, ← Go.Lib.cells_of_tab (zs := Go.Lib.pow10Tab) (k := .u64) Tryd.underlying76 Tryd.underlying55 c55 c76 hd]
def layTab (k : IntKind) (zs : List Int) : Obj → Obj
  | .cells _ t frozen => .cells (zs.map fun z => Value.int k z).toArray t frozen
  | o => o
/-- A world that meets the condition: the settled one, the tables laid. -/
noncomputable def laidWorld (os : Os) : World :=
  { World.holding Tryd.prog os ⟨#[], #[], []⟩ with heap := (((World.holding Tryd.prog os ⟨#[], #[], []⟩).heap.modify 0 (layTab .u64 Go.Lib.pow10Tab)).modify 1 (layTab .u8 [0, 1, 28, 2, 29, 14, 24, 3, 30, 22, 20, 15, 25, 17, 4, 8, 31, 27, 13, 23, 21, 19, 16, 7, 26, 12, 18, 6, 11, 5, 10, 9])).modify 2 (layTab .u8 [0, 1, 56, 2, 57, 49, 28, 3, 61, 58, 42, 50, 38, 29, 17, 4, 62, 47, 59, 36, 45, 43, 51, 22, 53, 39, 33, 30, 24, 18, 12, 5, 63, 55, 48, 27, 60, 41, 37, 16, 46, 35, 44, 21, 52, 32, 23, 11, 54, 26, 40, 15, 34, 20, 31, 10, 25, 14, 19, 9, 13, 8, 7, 6]) }
theorem laid_met (os : Os) (args : Array Value) : laidMetH Tryd.prog Rows.fnExactMsgTextRow.laid ((laidWorld os).forCall (fun _ _ => 0) ⟨#[], args, []⟩).memory := by
  have h : laidMet Tryd.prog Rows.fnExactMsgTextRow.laid ((laidWorld os).forCall (fun _ _ => 0) ⟨#[], args, []⟩).memory := laidMet_of_run' 8 (by kernel_rfl) (by kernel_rfl)
  first | exact h | exact laidMetH_of_parts h (by kernel_rfl)
theorem laidOut : laidOutB Tryd.prog = true := by kernel_rfl
set_option maxRecDepth 100000 in
theorem lifted (os : Os) (started : os.Started) (H : Type) (enc : TypeId × Value → H) :
    ReturnsInHanded {} Tryd.checked os 3 .any (fun w args => (Rows.fnExactMsgTextSpec.pre enc Tryd.prog Tryd.f3 Rows.fnExactMsgTextRow.domain false w args ∧ laidMetH Tryd.prog Rows.fnExactMsgTextRow.laid w) ∧ sizedMet enc Tryd.prog Tryd.f3 (OpenSpec.ofChange Rows.fnExactMsgTextSpec) false w args) (Rows.fnExactMsgTextSpec.post enc Tryd.prog Tryd.f3 false true false false) := by
  refine returnsInHanded_of_change_and (C := Tryd.checked) (X := fun w _ => laidMetH Tryd.prog Rows.fnExactMsgTextRow.laid w) (fun _ _ _ hh h => h.of_heap hh) own started (by kernel_rfl) Tryd.func3
    (ChangeSpec.witness_at (enc := enc) (C := Tryd.checked) (os := os) (X := fun w _ => laidMetH Tryd.prog Rows.fnExactMsgTextRow.laid w) false (laidWorld os) #[.agg #[.int .i64 0, .int .i64 0, .int .i64 0, .int .i64 0, .int .i64 0, .slice none 0 0, .int .i64 0, .int .i64 0, .int .i64 0, .slice none 0 0]] 8 rfl (by kernel_rfl) (by kernel_rfl) (by kernel_rfl) (by kernel_rfl) (by kernel_rfl) (laid_met os _)) ?_
  intro W base args ds gs before hval0 hW hcnd hsz0 hL _
  have htab := tab_ok hL
  have hval : ∀ (j : Nat) t v, Tryd.f3.params[j]? = some t → args[j]? = some v → Value.okWide Tryd.prog W .any base t v := hval0
  have hW' := hW
  obtain ⟨p, q, hA0, hV, rfl, hfz, hnd⟩ := hW
  have hA : DataW.TrodAll enc Tryd.prog W 0 (fun _ => true) true Tryd.f3.params.toList args.toList ds p := hA0
  rw [Tryd.params3] at hA hval
  obtain ⟨v0, vs0, d0, ds0, p0, q0, hargs, rfl, rfl, h0, r0⟩ := trodAll_cons hA
  obtain ⟨rfl, rfl, rfl⟩ := trodAll_nil r0
  obtain rfl : args = #[v0] := by cases args; simp_all
  obtain ⟨rfl, rfl⟩ := trodVars_none hV
  obtain ⟨cs0, rfl⟩ := Opn.okWide_agg Tryd.underlying27 (hval 0 27 v0 rfl rfl)
  have k0 := h0
  have lt0 : ∀ x ∈ p0, x.block < W.heap.size := by obtain ⟨m, hm⟩ := k0; exact DataW.trod_lt m _ _ _ hm
  obtain ⟨x0, hK0, g0⟩ : ∃ x, k27.K W x (Value.agg cs0).cells.toList ∧ good27 x := by obtain ⟨fuel, hf⟩ := h0; exact opens27 W H enc fuel _ _ hf
  obtain ⟨A0_5, c0_5, A0_9, c0_9, e0, hc0_5, hr0_5, hc0_9, hr0_9⟩ := k27_open hK0
  obtain rfl := Opn.arr_of_list e0
  clear hA0 hval0 hsz0
  obtain ⟨k, hp⟩ := Pure.FnExactMsgText x0 g0
  refine (laws_FnExactMsgText.calls k x0.f0 x0.f1 x0.f2.f0 x0.f2.f1 x0.f2.f2 _ _ x0.f2.f3 x0.f3 x0.f4 x0.f5 _ _ x0.f6 true W hr0_5 hc0_5 hr0_9 hc0_9 hp htab).mono fun e W' ⟨he, bel0⟩ => ?_
  have bel : Below W.heap.size W W' := bel0
  subst he
  exact ⟨_, rfl, _, _, _, [], _, [], hW', trodAll_mk1 (shut_bool Tryd.underlying4 _), (trodAll_cons_mk (Below.trod laidOut (by kernel_rfl) (of_decide_eq_true (by kernel_rfl)) k0 bel lt0) trodAll_mk0), rfl, bel.frame _, fun h => by cases h⟩
theorem over : Rows.fnExactMsgTextRow.holds Tryd.pinned (OpenSpec.ofChange Rows.fnExactMsgTextSpec) :=
  OpenClaim.holds_of_wide 3 Tryd.f3 rfl rfl rfl rfl rfl rfl rfl ⟨rfl, rfl, rfl, rfl, rfl⟩ rfl rfl rfl rfl rfl (by kernel_rfl) Tryd.func3 (by kernel_rfl)
    (of_decide_eq_true (by kernel_rfl)) (by unfold Func.isWrapper; first | (rw [if_pos (by decide +kernel)]; kernel_rfl) | (rw [if_neg (by decide +kernel)]; exact ⟨rfl, rfl⟩))
    (fun os started H enc _ => lifted os started H enc)
theorem proved : Rows.FnExactMsgTextCardSaid :=
  Claim7.holds_tied_plain_at .later [] [.data, .data, .data] true (true, "0d4300064408c3c4ca8a4180a61d32f2920009f6eb281389dffde11de0ea201f") false
    over (fun _ h => by cases h) (by kernel_rfl) (fun _ h => by cases h) fnExactMsgText_row_tie rfl ⟨rfl, rfl⟩ (by kernel_rfl) rfl
    (fun f fn hf hfn => by
      obtain rfl : f = 3 := Option.some.inj ((show Tryd.prog.funcNamed "loop.example/g00503/laws.FnExactMsgText" = some 3 by kernel_rfl).symm.trans hf) |>.symm
      obtain rfl : fn = Tryd.f3 := (Option.some.inj (Tryd.func3.symm.trans hfn)).symm
      exact ⟨by kernel_rfl, fun j t ht => by
        rw [Tryd.params3] at ht
        have h3 : t = 27 := by
          rcases j with _ | j
          · simpa using ht.symm
          · simp at ht
        subst h3
        exact (show Tryd.prog.wantsStandIn 27 = false by kernel_rfl)⟩)
    (by kernel_rfl)
#print axioms proved
end Go.Proofs.YtanpaipapcjpoaaDoor.fnExactMsgText
namespace Go.Proofs.YtanpaipapcjpoaaDoor
/-- The row, under a short name, for the claim. -/
theorem fnExactMsgText_holds : Rows.FnExactMsgTextCardSaid := fnExactMsgText.proved
end Go.Proofs.YtanpaipapcjpoaaDoor
