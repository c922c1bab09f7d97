/- Functions of the program as plain Lean functions, and that a call of each comes to what its function tells. Written by a program of this seat. -/
import Derived.Test.YtaofakpljnkplaaQ0
import Derived.Test.YtaofakpljnkplaaQ20
namespace Go.Proofs.Ytaofakpljnkplaa.Q
open Go.RowKit Go.Proofs.YtaofakpljnkplaaW.PrintWords Go.Proofs.YtaofakpljnkplaaW.PrintLast Go.Proofs.YtaofakpljnkplaaW.PrintMore
attribute [local go_sem] min2_int min_two
set_option linter.unusedVariables false
set_option linter.unusedSimpArgs false

def impl_Disk_perform.l0 : Nat → List Int → Int → Option (List Int)
  | 0, _, _ => none
  | k + 1, s, n => if (s.length : Int) < n then (if s.length < 140737488355328 then impl_Disk_perform.l0 k (s ++ [0]) n else none) else some s
/-- b laid over s from at_ on. -/
def cut_ (s : List Int) (at_ : Int) (b : List Int) : Option (List Int) := if 0 ≤ at_ ∧ at_ + b.length ≤ s.length then some (s.take at_.toNat ++ b ++ s.drop (at_.toNat + b.length)) else none
theorem cut_some {s : List Int} {a : Int} {b l : List Int} (h : cut_ s a b = some l) : 0 ≤ a ∧ a + b.length ≤ s.length ∧ l = s.take a.toNat ++ b ++ s.drop (a.toNat + b.length) := by
  unfold cut_ at h
  split at h
  · rename_i q
    exact ⟨q.1, q.2, (Option.some.inj h).symm⟩
  · cases h
set_option maxHeartbeats 4000000 in
set_option maxRecDepth 100000 in
theorem impl_Disk_perform.case0 (k : Nat) (g : Nat) (vA vB vP : Value) (lA lB : List Int) (lP : List S104) (gen slt len : Int) (what at_ : Int) (Ab : Option Addr) (cb : Nat) (lb : List Int) (rg rs rl : Int) (l1 l2 : List Int) (w0 w : World)
    (hB : Below w0.heap.size w0 w) (hg : w0.heap.size ≤ g) (hG : w.heap[g]? = some (.cells #[vA, vB, .int .i64 gen, .int .i64 slt, .int .i64 len, vP] 47 (0, 0))) (hD : Dsk w w0.heap.size vA vB vP lA lB lP)
    (hr : Kd.C (Kd.int .u8) w0 Ab lb.length lb) (hc : lb.length ≤ cb) (hw : ¬ what = 2) (ho : impl_Disk_slot.f what 0 = some ()) (h1 : impl_Disk_perform.l0 k lA (wrap64 (at_ + lb.length)) = some l1) (h2 : cut_ l1 at_ lb = some l2) :
    Calls Try.prog 77 #[.pointer (some ⟨g, 0, none⟩), .agg #[.int .i64 what, .int .i64 at_, .slice Ab lb.length cb, .int .i64 rg, .int .i64 rs, .int .i64 rl]] w fun e w' => e = .returned (.tuple #[]) ∧ ∃ v, w'.heap[g]? = some (.cells #[v, vB, .int .i64 gen, .int .i64 slt, .int .i64 len, vP] 47 (0, 0)) ∧ Dsk w' w0.heap.size v vB vP l2 lB lP ∧ Below w0.heap.size w0 w' ∧ Kept w w' (fun k => k = g ∨ some k = vA.ownBlock) := by
  have hu104 := Try.underlying104
  have HB := aM hB
  have HG := aM hG
  have HD := aM hD
  have HK := aM (Kept.refl w (fun k => k = g ∨ some k = vA.ownBlock))
  have HR := aM hr
  have HC := aM hc
  have HW := aM hg
  have H1 := aM h1
  have H2 := aM h2
  have HO := aM ho
  have c1 : (what == 2) = false := beq_eq_false_iff_ne.mpr hw
  clear hB hG hD hr hc hg h1 h2 ho hw
  go_enter Try.func77, Try.ntmps77
  go_wp2_with (first | ((with_reducible refine gate_dst (N := 3) rfl ?_); refine gBx 3 #[.int .i64 what, .int .i64 at_, .slice Ab lb.length cb, .int .i64 rg, .int .i64 rs, .int .i64 rl] 104 ?_; intro gp hgp w2 hbox hb; have HP := aM hbox; have HN := aM (show g ≠ gp from fun e => by have := (Array.getElem?_eq_some_iff.1 HG.out).1; omega); have HS := aM (show w.heap.size ≤ gp from by have := HK.out.1; omega); replace HB := aM (below_step HB.out hb); replace HG := aM (blk_below HG.out hb); replace HD := aM (HD.out.below hb); replace HK := aM (HK.out.below hb); clear hb hbox hgp; obtain ⟨hcz0, hcz1, hcz2, hcz3, hcz4, hcz5⟩ := cz6 HP.out) | ((with_reducible refine gate_callee (f := 87) rfl ?_); refine gL (some 16) Try.func87 #[.pointer (some ⟨g, 0, none⟩), .int .i64 what] ?_; refine (impl_Disk_slot.calls _ HO.out).mono ?_; rintro e w3 ⟨rfl, hd⟩; refine ⟨_, rfl, ?_⟩; have hb := hd.below; replace HB := aM (below_step HB.out hb); replace HG := aM (blk_below HG.out hb); replace HP := aM (blk_below HP.out hb); replace HD := aM (HD.out.below hb); replace HK := aM (HK.out.below hb); clear hb hd))
  clear hcz0 hcz1 hcz2 hcz3 hcz4 hcz5
  go_loopg [17] k (fun kq v17 w' => ∃ (v : Value) (x : List Int), Aside0 (impl_Disk_perform.l0 kq x (wrap64 (at_ + lb.length)) = some l1) ∧ Aside0 (kq ≤ k) ∧ Aside0 (w'.heap[g]? = some (.cells #[v, vB, .int .i64 gen, .int .i64 slt, .int .i64 len, vP] 47 (0, 0))) ∧ Aside0 (w'.heap[gp]? = some (.cells #[.int .i64 what, .int .i64 at_, .slice Ab lb.length cb, .int .i64 rg, .int .i64 rs, .int .i64 rl] 104 (0, 0))) ∧ Aside0 (Dsk w' w0.heap.size v vB vP x lB lP) ∧ Aside0 (v.ownBlock = vA.ownBlock ∨ ∃ b, v.ownBlock = some b ∧ w.heap.size ≤ b) ∧ Aside0 (Kept w w' (fun k => k = g ∨ some k = vA.ownBlock)) ∧ Aside0 (Below w0.heap.size w0 w'))
  case atStart => exact ⟨vA, lA, H1, ⟨Nat.le_refl _⟩, HG, HP, HD, ⟨.inl rfl⟩, HK, HB⟩
  case round =>
    clear H1 HG HP HD HK HB
    obtain ⟨v, x, HA, HK1, HG, HP, HD, HV, HK, HB⟩ := hrel
    cases gk with
    | zero => exact absurd HA.out (by simp [impl_Disk_perform.l0])
    | succ k1 =>
      have H := HA.out
      clear HA
      simp only [impl_Disk_perform.l0] at H
      obtain ⟨hcz0, hcz1, hcz2, hcz3, hcz4, hcz5⟩ := cz6 HP.out
      obtain ⟨hcy0, hcy1, hcy2, hcy3, hcy4, hcy5⟩ := cz6 HG.out
      obtain ⟨A1, cA1, hv⟩ := Kd.R_slice HD.out.1
      subst hv
      by_cases c3 : (x.length : Int) < wrap64 (at_ + lb.length)
      · rw [if_pos c3] at H
        have c3b : decide ((x.length : Int) < wrap64 (at_ + lb.length)) = true := decide_eq_true c3
        clear c3
        replace H := ifN H
        obtain ⟨c4, H⟩ := H
        have H' := aM H
        have LM := aM c4
        clear H c4
        go_wp2_with (first | fail)
        go_quiet (fail)
        clear hcz0 hcz1 hcz2 hcz3 hcz4 hcz5 hcy0 hcy1 hcy2 hcy3 hcy4 hcy5
        generalize hw3 : World.drewN _ _ = w3
        have hb := bdN hw3
        clear hw3
        replace HB := aM (below_step HB.out hb)
        replace HG := aM (blk_below HG.out hb)
        replace HP := aM (blk_below HP.out hb)
        replace HD := aM (HD.out.below hb)
        replace HK := aM (HK.out.below hb)
        clear hb
        obtain ⟨hcy0, hcy1, hcy2, hcy3, hcy4, hcy5⟩ := cz6 HG.out
        go_wp2_with (first | ((with_reducible refine gate_builtin (b := .append) (xs := #[.tmp 31, .tmp 32]) rfl ?_); at_builtin; refine Kd.R_append (Kd.int .u8) (w0 := w0) w0.heap.size rfl (.tmp 31) (.tmp 32) 22 5 (.int .u8 0) 1 rfl Try.underlying22 info5 rfl (by decide) (by omega) (.slice A1 x.length cA1) x 0 [.int .u8 0] (fun k => some k ≠ vB.ownBlock) (fun _ => False) rfl rfl rfl (fun _ hk => hk.elim) (Kd.fresh' (Kd.R_lt HD.out.2.1)) HD.out.1 HB.out HB.out.size (by have := LM.out; omega) ?_; intro v1 w4 ho hb hg hat; have hz := HK.out.1; replace HK := aM (Kept.of_grown hg HK.out (fun k e => HV.out.elim (fun q => .inl (.inr (e.symm.trans q))) (fun ⟨b, q1, q2⟩ => .inr (by have := e.symm.trans q1; injection this; omega)))); replace HV := aM (own_then HV.out HK.out.1 hat hg hz); replace HG := aM (blk_grown HG.out hg (Kd.R_ne HD.out.1 HG.out (by decide))); replace HP := aM (blk_grown HP.out hg (Kd.R_ne HD.out.1 HP.out (by decide))); replace HD := aM (Dsk.app HD.out hg hat ho); replace HB := aM hb; clear ho hb hg hat hz; obtain ⟨A2, cA2, hv2⟩ := Kd.R_slice HD.out.1; rw [List.length_append] at hv2; replace hv2 : v1 = .slice A2 (x.length + 1) cA2 := hv2; subst hv2) | ((with_reducible refine gate_store (t := 22) (p := 34) rfl ?_); go_loud (refine gSt [.slice A2 (x.length + 1) cA2] #[.slice A2 (x.length + 1) cA2, vB, .int .i64 gen, .int .i64 slt, .int .i64 len, vP] HG.out ?_); intro w5 hw hbox; replace HP := aM ((hw.2.2 gp (fun e => HN.out e.symm)).trans HP.out); replace HD := aM (HD.out.off HG.out hw); replace HG := aM hbox; replace HK := aM (HK.out.then_ hw.kept (fun k e => .inl (.inl e))); replace HB := aM (hw.below HB.out HW.out); clear hw hbox))
        go_roundg k1
        case measure => have := HK1.out; omega
        case rel => exact ⟨_, _, H', ⟨by have := HK1.out; omega⟩, HG, HP, HD, HV, HK, HB⟩
      · rw [if_neg c3] at H
        have c3b : decide ((x.length : Int) < wrap64 (at_ + lb.length)) = false := decide_eq_false c3
        clear c3
        obtain rfl := o_I H
        clear H
        go_wp2_with (first | fail)
        go_quiet (fail)
        clear hcz0 hcz1 hcz2 hcz3 hcz4 hcz5 hcy0 hcy1 hcy2 hcy3 hcy4 hcy5
        generalize hw3 : World.drewN _ _ = w3
        have hb := bdN hw3
        clear hw3
        replace HB := aM (below_step HB.out hb)
        replace HG := aM (blk_below HG.out hb)
        replace HP := aM (blk_below HP.out hb)
        replace HD := aM (HD.out.below hb)
        replace HK := aM (HK.out.below hb)
        clear hb
        go_wp2_with (first | fail)
        go_wp2_with (first | fail)
        have hq := cut_some H2.out
        obtain ⟨q0, q1, q2⟩ := hq
        replace HB := aM (below_drew1 HB.out)
        replace HG := bD HG
        replace HP := bD HP
        replace HD := aM (HD.out.below (bd1 rfl))
        replace HK := aM (HK.out.below (bd1 rfl))
        refine start_ (n := 9) (S := fun w' => w'.cell? ⟨g, 0, none⟩ = some (.slice A1 x.length cA1) ∧ w'.cell? ⟨gp, 1, none⟩ = some (.int .i64 at_) ∧ w'.cell? ⟨gp, 2, none⟩ = some (.slice Ab lb.length cb)) (ds := []) (Array.replicate 9 false) (by kernel_rfl) rfl rfl ⟨(blk_cell HG.out 0).trans rfl, (blk_cell HP.out 1).trans rfl, (blk_cell HP.out 2).trans rfl⟩ (fun hHeld => ?_)
        generalize hw4 : World.drew _ = w4 at HB HG HP HD HK hHeld ⊢
        clear hw4
        obtain ⟨i0, hi0, hcutz⟩ := info_parts info5
        have hcut := cut_from (P := Try.prog) 22 5 .i64 Try.underlying22 hi0 1 hcutz.2.1 A1 x.length cA1 at_ q0 (by omega)
        refine ppq 0 35 ?_
        refine ppq 1 36 ?_
        refine ppq 3 38 ?_
        refine ppq 6 41 ?_
        refine ptq 2 37 ?_
        refine ptq 4 39 ?_
        refine ppq 5 40 ?_
        refine ptq 7 42 ?_
        refine poq 8 43 (fun K hK => ?_)
        refine gCp (h1 := fun _ => rfl) (0 : Int) (.tmp 40) (.tmp 42) 22 5 Try.underlying22 (by kernel_rfl) (HD.out.1) (Kd.C_below HR.out HB.out) (k := at_.toNat) (by omega) ?_ rfl rfl
        intro w5 hrw hz hsz hkeep
        have hne := Kd.R_ne HD.out.1 HG.out (by decide)
        have hnp := Kd.R_ne HD.out.1 HP.out (by decide)
        replace HG := aM ((hkeep g hne).trans HG.out)
        replace HP := aM ((hkeep gp hnp).trans HP.out)
        have HBK := aM (show Below w0.heap.size w0 w5 from ⟨hz.1.trans HB.out.os, hz.2.1.trans HB.out.tape, hz.2.2.trans HB.out.output, by rw [hsz]; exact HB.out.size, fun j hj => (hkeep j (fun e => by have := Kd.R_base HD.out.1 j e.symm; omega)).trans (HB.out.block j hj)⟩)
        replace HK := aM (show Kept w w5 (fun k => k = g ∨ some k = vA.ownBlock) from ⟨by rw [hsz]; exact HK.out.1, fun j hj hn => (hkeep j (fun e => HV.out.elim (fun q => hn (.inr (e.trans q))) (fun ⟨b, q1, q2⟩ => by have := e.trans q1; injection this; omega))).trans (HK.out.2 j hj hn)⟩)
        replace HD := aM (Dsk.wr HD.out (fun k q => hkeep k q) hrw)
        replace HB := HBK
        rw [← q2] at HD
        clear hrw hz hsz hkeep hne hnp HBK
        refine hK.out _ _ ⟨(blk_cell HG.out 0).trans rfl, (blk_cell HP.out 1).trans rfl, (blk_cell HP.out 2).trans rfl⟩ (fun hHeld => ?_)
        clear hK K
        refine nR ?_
        refine done_ (by kernel_rfl) ?_
        go_end0
        exact ⟨rfl, _, HG.out, HD.out, HB.out, HK.out⟩
set_option maxHeartbeats 4000000 in
set_option maxRecDepth 100000 in
theorem impl_Disk_perform.case1 (k : Nat) (g : Nat) (vA vB vP : Value) (lA lB : List Int) (lP : List S104) (gen slt len : Int) (what at_ : Int) (Ab : Option Addr) (cb : Nat) (lb : List Int) (rg rs rl : Int) (l1 l2 : List Int) (w0 w : World)
    (hB : Below w0.heap.size w0 w) (hg : w0.heap.size ≤ g) (hG : w.heap[g]? = some (.cells #[vA, vB, .int .i64 gen, .int .i64 slt, .int .i64 len, vP] 47 (0, 0))) (hD : Dsk w w0.heap.size vA vB vP lA lB lP)
    (hr : Kd.C (Kd.int .u8) w0 Ab lb.length lb) (hc : lb.length ≤ cb) (hw : ¬ what = 2) (ho : impl_Disk_slot.f what 1 = some ()) (h1 : impl_Disk_perform.l0 k lB (wrap64 (at_ + lb.length)) = some l1) (h2 : cut_ l1 at_ lb = some l2) :
    Calls Try.prog 77 #[.pointer (some ⟨g, 0, none⟩), .agg #[.int .i64 what, .int .i64 at_, .slice Ab lb.length cb, .int .i64 rg, .int .i64 rs, .int .i64 rl]] w fun e w' => e = .returned (.tuple #[]) ∧ ∃ v, w'.heap[g]? = some (.cells #[vA, v, .int .i64 gen, .int .i64 slt, .int .i64 len, vP] 47 (0, 0)) ∧ Dsk w' w0.heap.size vA v vP lA l2 lP ∧ Below w0.heap.size w0 w' ∧ Kept w w' (fun k => k = g ∨ some k = vB.ownBlock) := by
  have hu104 := Try.underlying104
  have HB := aM hB
  have HG := aM hG
  have HD := aM hD
  have HK := aM (Kept.refl w (fun k => k = g ∨ some k = vB.ownBlock))
  have HR := aM hr
  have HC := aM hc
  have HW := aM hg
  have H1 := aM h1
  have H2 := aM h2
  have HO := aM ho
  have c1 : (what == 2) = false := beq_eq_false_iff_ne.mpr hw
  clear hB hG hD hr hc hg h1 h2 ho hw
  go_enter Try.func77, Try.ntmps77
  go_wp2_with (first | ((with_reducible refine gate_dst (N := 3) rfl ?_); refine gBx 3 #[.int .i64 what, .int .i64 at_, .slice Ab lb.length cb, .int .i64 rg, .int .i64 rs, .int .i64 rl] 104 ?_; intro gp hgp w2 hbox hb; have HP := aM hbox; have HN := aM (show g ≠ gp from fun e => by have := (Array.getElem?_eq_some_iff.1 HG.out).1; omega); have HS := aM (show w.heap.size ≤ gp from by have := HK.out.1; omega); replace HB := aM (below_step HB.out hb); replace HG := aM (blk_below HG.out hb); replace HD := aM (HD.out.below hb); replace HK := aM (HK.out.below hb); clear hb hbox hgp; obtain ⟨hcz0, hcz1, hcz2, hcz3, hcz4, hcz5⟩ := cz6 HP.out) | ((with_reducible refine gate_callee (f := 87) rfl ?_); refine gL (some 16) Try.func87 #[.pointer (some ⟨g, 0, none⟩), .int .i64 what] ?_; refine (impl_Disk_slot.calls _ HO.out).mono ?_; rintro e w3 ⟨rfl, hd⟩; refine ⟨_, rfl, ?_⟩; have hb := hd.below; replace HB := aM (below_step HB.out hb); replace HG := aM (blk_below HG.out hb); replace HP := aM (blk_below HP.out hb); replace HD := aM (HD.out.below hb); replace HK := aM (HK.out.below hb); clear hb hd))
  clear hcz0 hcz1 hcz2 hcz3 hcz4 hcz5
  go_loopg [17] k (fun kq v17 w' => ∃ (v : Value) (x : List Int), Aside0 (impl_Disk_perform.l0 kq x (wrap64 (at_ + lb.length)) = some l1) ∧ Aside0 (kq ≤ k) ∧ Aside0 (w'.heap[g]? = some (.cells #[vA, v, .int .i64 gen, .int .i64 slt, .int .i64 len, vP] 47 (0, 0))) ∧ Aside0 (w'.heap[gp]? = some (.cells #[.int .i64 what, .int .i64 at_, .slice Ab lb.length cb, .int .i64 rg, .int .i64 rs, .int .i64 rl] 104 (0, 0))) ∧ Aside0 (Dsk w' w0.heap.size vA v vP lA x lP) ∧ Aside0 (v.ownBlock = vB.ownBlock ∨ ∃ b, v.ownBlock = some b ∧ w.heap.size ≤ b) ∧ Aside0 (Kept w w' (fun k => k = g ∨ some k = vB.ownBlock)) ∧ Aside0 (Below w0.heap.size w0 w'))
  case atStart => exact ⟨vB, lB, H1, ⟨Nat.le_refl _⟩, HG, HP, HD, ⟨.inl rfl⟩, HK, HB⟩
  case round =>
    clear H1 HG HP HD HK HB
    obtain ⟨v, x, HA, HK1, HG, HP, HD, HV, HK, HB⟩ := hrel
    cases gk with
    | zero => exact absurd HA.out (by simp [impl_Disk_perform.l0])
    | succ k1 =>
      have H := HA.out
      clear HA
      simp only [impl_Disk_perform.l0] at H
      obtain ⟨hcz0, hcz1, hcz2, hcz3, hcz4, hcz5⟩ := cz6 HP.out
      obtain ⟨hcy0, hcy1, hcy2, hcy3, hcy4, hcy5⟩ := cz6 HG.out
      obtain ⟨A1, cA1, hv⟩ := Kd.R_slice HD.out.2.1
      subst hv
      by_cases c3 : (x.length : Int) < wrap64 (at_ + lb.length)
      · rw [if_pos c3] at H
        have c3b : decide ((x.length : Int) < wrap64 (at_ + lb.length)) = true := decide_eq_true c3
        clear c3
        replace H := ifN H
        obtain ⟨c4, H⟩ := H
        have H' := aM H
        have LM := aM c4
        clear H c4
        go_wp2_with (first | fail)
        go_quiet (fail)
        clear hcz0 hcz1 hcz2 hcz3 hcz4 hcz5 hcy0 hcy1 hcy2 hcy3 hcy4 hcy5
        generalize hw3 : World.drewN _ _ = w3
        have hb := bdN hw3
        clear hw3
        replace HB := aM (below_step HB.out hb)
        replace HG := aM (blk_below HG.out hb)
        replace HP := aM (blk_below HP.out hb)
        replace HD := aM (HD.out.below hb)
        replace HK := aM (HK.out.below hb)
        clear hb
        obtain ⟨hcy0, hcy1, hcy2, hcy3, hcy4, hcy5⟩ := cz6 HG.out
        go_wp2_with (first | ((with_reducible refine gate_builtin (b := .append) (xs := #[.tmp 31, .tmp 32]) rfl ?_); at_builtin; refine Kd.R_append (Kd.int .u8) (w0 := w0) w0.heap.size rfl (.tmp 31) (.tmp 32) 22 5 (.int .u8 0) 1 rfl Try.underlying22 info5 rfl (by decide) (by omega) (.slice A1 x.length cA1) x 0 [.int .u8 0] (fun k => some k ≠ vA.ownBlock) (fun _ => False) rfl rfl rfl (fun _ hk => hk.elim) (Kd.fresh' (Kd.R_lt HD.out.1)) HD.out.2.1 HB.out HB.out.size (by have := LM.out; omega) ?_; intro v1 w4 ho hb hg hat; have hz := HK.out.1; replace HK := aM (Kept.of_grown hg HK.out (fun k e => HV.out.elim (fun q => .inl (.inr (e.symm.trans q))) (fun ⟨b, q1, q2⟩ => .inr (by have := e.symm.trans q1; injection this; omega)))); replace HV := aM (own_then HV.out HK.out.1 hat hg hz); replace HG := aM (blk_grown HG.out hg (Kd.R_ne HD.out.2.1 HG.out (by decide))); replace HP := aM (blk_grown HP.out hg (Kd.R_ne HD.out.2.1 HP.out (by decide))); replace HD := aM (Dsk.app' HD.out hg hat ho); replace HB := aM hb; clear ho hb hg hat hz; obtain ⟨A2, cA2, hv2⟩ := Kd.R_slice HD.out.2.1; rw [List.length_append] at hv2; replace hv2 : v1 = .slice A2 (x.length + 1) cA2 := hv2; subst hv2) | ((with_reducible refine gate_store (t := 22) (p := 34) rfl ?_); go_loud (refine gSt [.slice A2 (x.length + 1) cA2] #[vA, .slice A2 (x.length + 1) cA2, .int .i64 gen, .int .i64 slt, .int .i64 len, vP] HG.out ?_); intro w5 hw hbox; replace HP := aM ((hw.2.2 gp (fun e => HN.out e.symm)).trans HP.out); replace HD := aM (HD.out.off HG.out hw); replace HG := aM hbox; replace HK := aM (HK.out.then_ hw.kept (fun k e => .inl (.inl e))); replace HB := aM (hw.below HB.out HW.out); clear hw hbox))
        go_roundg k1
        case measure => have := HK1.out; omega
        case rel => exact ⟨_, _, H', ⟨by have := HK1.out; omega⟩, HG, HP, HD, HV, HK, HB⟩
      · rw [if_neg c3] at H
        have c3b : decide ((x.length : Int) < wrap64 (at_ + lb.length)) = false := decide_eq_false c3
        clear c3
        obtain rfl := o_I H
        clear H
        go_wp2_with (first | fail)
        go_quiet (fail)
        clear hcz0 hcz1 hcz2 hcz3 hcz4 hcz5 hcy0 hcy1 hcy2 hcy3 hcy4 hcy5
        generalize hw3 : World.drewN _ _ = w3
        have hb := bdN hw3
        clear hw3
        replace HB := aM (below_step HB.out hb)
        replace HG := aM (blk_below HG.out hb)
        replace HP := aM (blk_below HP.out hb)
        replace HD := aM (HD.out.below hb)
        replace HK := aM (HK.out.below hb)
        clear hb
        go_wp2_with (first | fail)
        go_wp2_with (first | fail)
        have hq := cut_some H2.out
        obtain ⟨q0, q1, q2⟩ := hq
        replace HB := aM (below_drew1 HB.out)
        replace HG := bD HG
        replace HP := bD HP
        replace HD := aM (HD.out.below (bd1 rfl))
        replace HK := aM (HK.out.below (bd1 rfl))
        refine start_ (n := 9) (S := fun w' => w'.cell? ⟨g, 1, none⟩ = some (.slice A1 x.length cA1) ∧ w'.cell? ⟨gp, 1, none⟩ = some (.int .i64 at_) ∧ w'.cell? ⟨gp, 2, none⟩ = some (.slice Ab lb.length cb)) (ds := []) (Array.replicate 9 false) (by kernel_rfl) rfl rfl ⟨(blk_cell HG.out 1).trans rfl, (blk_cell HP.out 1).trans rfl, (blk_cell HP.out 2).trans rfl⟩ (fun hHeld => ?_)
        generalize hw4 : World.drew _ = w4 at HB HG HP HD HK hHeld ⊢
        clear hw4
        obtain ⟨i0, hi0, hcutz⟩ := info_parts info5
        have hcut := cut_from (P := Try.prog) 22 5 .i64 Try.underlying22 hi0 1 hcutz.2.1 A1 x.length cA1 at_ q0 (by omega)
        refine ppq 0 35 ?_
        refine ppq 1 36 ?_
        refine ppq 3 38 ?_
        refine ppq 6 41 ?_
        refine ptq 2 37 ?_
        refine ptq 4 39 ?_
        refine ppq 5 40 ?_
        refine ptq 7 42 ?_
        refine poq 8 43 (fun K hK => ?_)
        refine gCp (h1 := fun _ => rfl) (0 : Int) (.tmp 40) (.tmp 42) 22 5 Try.underlying22 (by kernel_rfl) (HD.out.2.1) (Kd.C_below HR.out HB.out) (k := at_.toNat) (by omega) ?_ rfl rfl
        intro w5 hrw hz hsz hkeep
        have hne := Kd.R_ne HD.out.2.1 HG.out (by decide)
        have hnp := Kd.R_ne HD.out.2.1 HP.out (by decide)
        replace HG := aM ((hkeep g hne).trans HG.out)
        replace HP := aM ((hkeep gp hnp).trans HP.out)
        have HBK := aM (show Below w0.heap.size w0 w5 from ⟨hz.1.trans HB.out.os, hz.2.1.trans HB.out.tape, hz.2.2.trans HB.out.output, by rw [hsz]; exact HB.out.size, fun j hj => (hkeep j (fun e => by have := Kd.R_base HD.out.2.1 j e.symm; omega)).trans (HB.out.block j hj)⟩)
        replace HK := aM (show Kept w w5 (fun k => k = g ∨ some k = vB.ownBlock) from ⟨by rw [hsz]; exact HK.out.1, fun j hj hn => (hkeep j (fun e => HV.out.elim (fun q => hn (.inr (e.trans q))) (fun ⟨b, q1, q2⟩ => by have := e.trans q1; injection this; omega))).trans (HK.out.2 j hj hn)⟩)
        replace HD := aM (Dsk.wr' HD.out (fun k q => hkeep k q) hrw)
        replace HB := HBK
        rw [← q2] at HD
        clear hrw hz hsz hkeep hne hnp HBK
        refine hK.out _ _ ⟨(blk_cell HG.out 1).trans rfl, (blk_cell HP.out 1).trans rfl, (blk_cell HP.out 2).trans rfl⟩ (fun hHeld => ?_)
        clear hK K
        refine nR ?_
        refine done_ (by kernel_rfl) ?_
        go_end0
        exact ⟨rfl, _, HG.out, HD.out, HB.out, HK.out⟩
set_option maxHeartbeats 4000000 in
set_option maxRecDepth 100000 in
theorem impl_Disk_perform.case2 (g : Nat) (vA vB vP : Value) (lA lB : List Int) (lP : List S104) (gen slt len : Int) (what at_ : Int) (Ab : Option Addr) (cb : Nat) (lb : List Int) (rg rs rl : Int) (w0 w : World)
    (hB : Below w0.heap.size w0 w) (hg : w0.heap.size ≤ g) (hG : w.heap[g]? = some (.cells #[vA, vB, .int .i64 gen, .int .i64 slt, .int .i64 len, vP] 47 (0, 0))) (hD : Dsk w w0.heap.size vA vB vP lA lB lP) (hw : what = 2) :
    Calls Try.prog 77 #[.pointer (some ⟨g, 0, none⟩), .agg #[.int .i64 what, .int .i64 at_, .slice Ab lb.length cb, .int .i64 rg, .int .i64 rs, .int .i64 rl]] w fun e w' => e = .returned (.tuple #[]) ∧ w'.heap[g]? = some (.cells #[vA, vB, .int .i64 rg, .int .i64 rs, .int .i64 rl, vP] 47 (0, 0)) ∧ Dsk w' w0.heap.size vA vB vP lA lB lP ∧ Below w0.heap.size w0 w' ∧ Kept w w' (fun k => k = g) := by
  have hu104 := Try.underlying104
  have hu44 := Try.underlying44
  have HB := aM hB
  have HG := aM hG
  have HD := aM hD
  have HK := aM (Kept.refl w (fun k => k = g))
  have HW := aM hg
  have c1 : (what == 2) = true := beq_iff_eq.mpr hw
  clear hB hG hD hg hw
  go_enter Try.func77, Try.ntmps77
  go_wp2_with (first | ((with_reducible refine gate_dst (N := 3) rfl ?_); refine gBx 3 #[.int .i64 what, .int .i64 at_, .slice Ab lb.length cb, .int .i64 rg, .int .i64 rs, .int .i64 rl] 104 ?_; intro gp hgp w2 hbox hb; have HP := aM hbox; replace HB := aM (below_step HB.out hb); replace HG := aM (blk_below HG.out hb); replace HD := aM (HD.out.below hb); replace HK := aM (HK.out.below hb); clear hb hbox hgp; obtain ⟨hcz0, hcz1, hcz2, hcz3, hcz4, hcz5⟩ := cz6 HP.out) | ((with_reducible refine gate_store (t := 44) (p := 12) rfl ?_); refine gSt [.int .i64 rg, .int .i64 rs, .int .i64 rl] #[vA, vB, .int .i64 rg, .int .i64 rs, .int .i64 rl, vP] HG.out ?_; intro w5 hw hbox; replace HD := aM (HD.out.off HG.out hw); replace HG := aM hbox; replace HK := aM (HK.out.then_ hw.kept (fun k e => .inl e)); replace HB := aM (hw.below HB.out HW.out); clear hw hbox hcz0 hcz1 hcz2 hcz3 hcz4 hcz5))
  refine bodyPost_ret (results_none rfl _ _ _) rfl ?_
  exact ⟨rfl, HG.out, HD.out, HB.out, HK.out⟩
def impl_Disk_perform.f (k : Nat) (lA lB : List Int) (gen slt len : Int) (what at_ : Int) (lb : List Int) (rg rs rl : Int) : Option (List Int × List Int × Int × Int × Int) :=
  if what = 2 then some (lA, lB, rg, rs, rl) else if what = 0 then (impl_Disk_perform.l0 k lA (wrap64 (at_ + lb.length))).bind fun x => (cut_ x at_ lb).bind fun y => some (y, lB, gen, slt, len)
    else (impl_Disk_perform.l0 k lB (wrap64 (at_ + lb.length))).bind fun x => (cut_ x at_ lb).bind fun y => some (lA, y, gen, slt, len)
theorem impl_Disk_perform.mono_l : ∀ k s n, LeO (impl_Disk_perform.l0 k s n) (impl_Disk_perform.l0 (k + 1) s n)
  | 0 => fun _ _ r h => by simp [impl_Disk_perform.l0] at h
  | k + 1 => by
    have ih0 := impl_Disk_perform.mono_l k
    intro y0 y1
    unfold impl_Disk_perform.l0
    exact LM
theorem impl_Disk_perform.mono : ∀ a0 a1 a2 a3 a4 a5 a6 a7 a8 a9 a10 k, LeO (impl_Disk_perform.f k a0 a1 a2 a3 a4 a5 a6 a7 a8 a9 a10) (impl_Disk_perform.f (k + 1) a0 a1 a2 a3 a4 a5 a6 a7 a8 a9 a10) := by
  intro a0 a1 a2 a3 a4 a5 a6 a7 a8 a9 a10 k;have ih0 := impl_Disk_perform.mono_l k;unfold impl_Disk_perform.f;exact LM
theorem impl_Disk_perform.calls {k : Nat} {g : Nat} (vA vB vP : Value) {lA lB : List Int} (lP : List S104) {gen slt len : Int} {what at_ : Int} {Ab : Option Addr} {cb : Nat} {lb : List Int} {rg rs rl : Int} {r1 r2 : List Int} {r3 r4 r5 : Int} (w0 w : World)
  (hB : Below w0.heap.size w0 w) (hg : w0.heap.size ≤ g) (hG : w.heap[g]? = some (.cells #[vA, vB, .int .i64 gen, .int .i64 slt, .int .i64 len, vP] 47 (0, 0))) (hD : Dsk w w0.heap.size vA vB vP lA lB lP)
  (hr : Kd.C (Kd.int .u8) w0 Ab lb.length lb) (hc : lb.length ≤ cb) (h : impl_Disk_perform.f k lA lB gen slt len what at_ lb rg rs rl = some (r1, r2, r3, r4, r5)) :
  Calls Try.prog 77 #[.pointer (some ⟨g, 0, none⟩), .agg #[.int .i64 what, .int .i64 at_, .slice Ab lb.length cb, .int .i64 rg, .int .i64 rs, .int .i64 rl]] w fun e w' => e = .returned (.tuple #[]) ∧ ∃ v1 v2, w'.heap[g]? = some (.cells #[v1, v2, .int .i64 r3, .int .i64 r4, .int .i64 r5, vP] 47 (0, 0)) ∧ Dsk w' w0.heap.size v1 v2 vP r1 r2 lP ∧ Below w0.heap.size w0 w' ∧ Kept w w' (fun k => k = g ∨ some k = vA.ownBlock ∨ some k = vB.ownBlock) := by
 unfold impl_Disk_perform.f at h
 by_cases c1 : what = 2
 ·rw [if_pos c1] at h;obtain ⟨rfl, rfl, rfl, rfl, rfl⟩ : lA = r1 ∧ lB = r2 ∧ rg = r3 ∧ rs = r4 ∧ rl = r5 := by simpa using h
  refine (impl_Disk_perform.case2 g vA vB vP lA lB lP gen slt len what at_ Ab cb lb rg rs rl w0 w hB hg hG hD c1).mono ?_;rintro e w' ⟨rfl, h1, h2, hq1, hq2⟩;exact ⟨rfl, _, _, h1, h2, hq1, hq2.mono (fun k q => .inl q)⟩
 ·rw [if_neg c1] at h
  by_cases cq1 : what = 0
  ·rw [if_pos cq1] at h;obtain ⟨x, h1, h⟩ := bE h;obtain ⟨y, h2, h⟩ := bE h;obtain ⟨rfl, rfl, rfl, rfl, rfl⟩ : y = r1 ∧ lB = r2 ∧ gen = r3 ∧ slt = r4 ∧ len = r5 := by simpa using h
   refine (impl_Disk_perform.case0 k g vA vB vP lA lB lP gen slt len what at_ Ab cb lb rg rs rl x y w0 w hB hg hG hD hr hc c1 (by unfold impl_Disk_slot.f; simp [cq1]) h1.out h2.out).mono ?_;rintro e w' ⟨rfl, v, q1, q2, qq1, qq2⟩;exact ⟨rfl, _, _, q1, q2, qq1, qq2.mono (fun k q => q.imp_right .inl)⟩
  ·rw [if_neg cq1] at h;obtain ⟨x, h1, h⟩ := bE h;obtain ⟨y, h2, h⟩ := bE h;obtain ⟨rfl, rfl, rfl, rfl, rfl⟩ : lA = r1 ∧ y = r2 ∧ gen = r3 ∧ slt = r4 ∧ len = r5 := by simpa using h
   refine (impl_Disk_perform.case1 k g vA vB vP lA lB lP gen slt len what at_ Ab cb lb rg rs rl x y w0 w hB hg hG hD hr hc c1 (by unfold impl_Disk_slot.f; simp [cq1]) h1.out h2.out).mono ?_;rintro e w' ⟨rfl, v, q1, q2, qq1, qq2⟩;exact ⟨rfl, _, _, q1, q2, qq1, qq2.mono (fun k q => q.imp_right .inr)⟩

end Go.Proofs.Ytaofakpljnkplaa.Q
