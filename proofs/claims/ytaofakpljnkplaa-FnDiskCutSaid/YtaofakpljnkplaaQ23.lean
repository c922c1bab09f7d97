/- Functions of the program as plain Lean functions, and that a call of each comes to what its function tells. Written by a program of this seat. -/
import Derived.Test.YtaofakpljnkplaaQ0
import Derived.Test.YtaofakpljnkplaaQ19
import Derived.Test.YtaofakpljnkplaaQ20
import Derived.Test.YtaofakpljnkplaaQ21
import Derived.Test.YtaofakpljnkplaaQ22
namespace Go.Proofs.Ytaofakpljnkplaa.Q
open Go.RowKit Go.Proofs.YtaofakpljnkplaaW.PrintWords Go.Proofs.YtaofakpljnkplaaW.PrintLast Go.Proofs.YtaofakpljnkplaaW.PrintMore
attribute [local go_sem] min2_int min_two
set_option linter.unusedVariables false
set_option linter.unusedSimpArgs false

/-- A call of a function value. -/
theorem gLv {P : Program} {ops : Array Oper} {Q : Exit → Act → World → Prop} {rest : List Oper} {o : Oper} {a : Act} {w : World} (N : Option Tmp) {f : FuncId} {fn : Func} {xs : Array Operand} {ts : Array TypeId} (t : Tmp) (cap : Array Value) (hf : P.funcs[f]? = some fn) (hname : (fn.name == "runtime.NumGoroutine") = false) (hb : fn.body.isSome = true) (args : Array Value)
    (h : Calls P f (args ++ cap) w fun e w' => ∃ v, e = .returned v ∧ wpList P ops Q rest (a.put N v) w')
    (hd : o.dst = N := by rfl) (hx : a.eval (.tmp t) = .func (.func f) #[] cap := by rfl) (hg : o.guard = none := by rfl) (hop : o.op = .call { callee := .value (.tmp t), args := xs, argTypes := ts } := by rfl)
    (hargs : xs.map a.eval = args := by (try simp only [List.map_toArray, List.map_cons, List.map_nil]); first | done | rfl) : wpList P ops Q (o :: rest) a w := by
  refine wpList_plain hg fun K hK => ?_
  have he := enters_ hf hname hb (args ++ cap) w
  have hrun : (execOp a.eval o).run P w = .ok (.enter f (args ++ cap)) w := by
    unfold execOp;simp [hop, resolve, Deferred.ofValue, invoke, hx, hargs, he]
  unfold Oper.wp;rw [hrun, Oper.upon_enter];refine h.mono fun e w'' hh => ?_
  obtain ⟨v, rfl, hk⟩ := hh;subst hd;exact hK _ _ hk
def impl_Disk_settled.l0 : Nat → (Nat → Int → Option Bool) → List S104 → Int → List Int → List Int → Int → Int → Int → Option (List Int × List Int × Int × Int × Int)
  | 0, _, _, _, _, _, _, _, _ => none
  | k + 1, keep, x, i, a, b, c, d, e => if i < (x.length : Int) then (if 0 ≤ i then ((keep k i).bind fun t => (if t = true then ((impl_Disk_perform.f k a b c d e (rd_T104 x i).f0 (rd_T104 x i).f1 (rd_T104 x i).f2 (rd_T104 x i).f3.f0 (rd_T104 x i).f3.f1 (rd_T104 x i).f3.f2).bind fun p => (impl_Disk_settled.l0 k keep x (wrap64 (i + 1)) p.1 p.2.1 p.2.2.1 p.2.2.2.1 p.2.2.2.2)) else (impl_Disk_settled.l0 k keep x (wrap64 (i + 1)) a b c d e))) else none) else some (a, b, c, d, e)
def impl_Disk_settled.f (k : Nat) (keep : Nat → Int → Option Bool) (l0_0 : List Int) (l0_1 : List Int) (a0_2 : Int) (a0_3 : Int) (a0_4 : Int) (l0_5 : List S104) : Option (List Int × List Int × Int × Int × Int × List S104) := (impl_copyDisk.f k l0_0 l0_1 a0_2 a0_3 a0_4 l0_5).bind fun c => ((impl_DiskOk.f k l0_0 l0_1 a0_2 a0_3 a0_4 l0_5).bind fun t => (if t = true then ((impl_Disk_settled.l0 k keep l0_5 0 c.1 c.2.1 c.2.2.1 c.2.2.2.1 c.2.2.2.2.1).bind fun p => some (p.1, p.2.1, p.2.2.1, p.2.2.2.1, p.2.2.2.2, [])) else (some (c.1, c.2.1, c.2.2.1, c.2.2.2.1, c.2.2.2.2.1, c.2.2.2.2.2))))
theorem impl_Disk_settled.mono_l (keep : Nat → Int → Option Bool) (hk : ∀ k i, LeO (keep k i) (keep (k + 1) i)) : ∀ k, (∀ y0 y1 y2 y3 y4 y5 y6, LeO (impl_Disk_settled.l0 k keep y0 y1 y2 y3 y4 y5 y6) (impl_Disk_settled.l0 (k + 1) keep y0 y1 y2 y3 y4 y5 y6))
  | 0 => fun _ _ _ _ _ _ _ r h => by simp [impl_Disk_settled.l0] at h
  | k + 1 => by
    have m0_ := @impl_Disk_perform.mono
    have ih0 := impl_Disk_settled.mono_l keep hk k
    intro y0 y1 y2 y3 y4 y5 y6
    unfold impl_Disk_settled.l0
    exact LM
theorem impl_Disk_settled.mono (keep : Nat → Int → Option Bool) (hk : ∀ k i, LeO (keep k i) (keep (k + 1) i)) : ∀ a0 a1 a2 a3 a4 a5 k, LeO (impl_Disk_settled.f k keep a0 a1 a2 a3 a4 a5) (impl_Disk_settled.f (k + 1) keep a0 a1 a2 a3 a4 a5) := by
  intro a0 a1 a2 a3 a4 a5 k;have m0_ := @impl_copyDisk.mono;have m1_ := @impl_DiskOk.mono;have ih0 := impl_Disk_settled.mono_l keep hk k;unfold impl_Disk_settled.f;exact LM
set_option maxHeartbeats 4000000 in
set_option maxRecDepth 100000 in
theorem impl_Disk_settled.calls {k : Nat} (keep : Nat → Int → Option Bool) (F : FuncId) (fn : Func) (cap : Array Value) (A0_0 : Option Addr) (c0_0 : Nat) (l0_0 : List Int) (A0_1 : Option Addr) (c0_1 : Nat) (l0_1 : List Int) (a0_2 : Int) (a0_3 : Int) (a0_4 : Int) (A0_5 : Option Addr) (c0_5 : Nat) (l0_5 : List (S104)) (r1 : List Int) (r2 : List Int) (r3 : Int) (r4 : Int) (r5 : Int) (r6 : List (S104)) (w : World) (hr0_0 : Kd.C (Kd.int .u8) w A0_0 l0_0.length l0_0) (hc0_0 : l0_0.length ≤ c0_0) (hr0_1 : Kd.C (Kd.int .u8) w A0_1 l0_1.length l0_1) (hc0_1 : l0_1.length ≤ c0_1) (hr0_5 : Kd.C k104 w A0_5 l0_5.length l0_5) (hc0_5 : l0_5.length ≤ c0_5) (hf : Try.prog.funcs[F]? = some fn) (hname : (fn.name == "runtime.NumGoroutine") = false) (hb : fn.body.isSome = true)
    (hkeep : ∀ k i t w', Below w.heap.size w w' → keep k i = some t → Calls Try.prog F (#[.int .i64 i] ++ cap) w' fun e w'' => e = .returned (.bool t) ∧ Below w'.heap.size w' w'')
    (h : impl_Disk_settled.f k keep l0_0 l0_1 a0_2 a0_3 a0_4 l0_5 = some (r1, r2, r3, r4, r5, r6)) :
    Calls Try.prog 51 #[.agg #[.slice A0_0 l0_0.length c0_0, .slice A0_1 l0_1.length c0_1, .int .i64 a0_2, .int .i64 a0_3, .int .i64 a0_4, .slice A0_5 l0_5.length c0_5], .func (.func F) #[] cap] w fun e w' => ∃ v0_ v1_ v5_ : Value, e = .returned (.agg #[v0_, v1_, .int .i64 r3, .int .i64 r4, .int .i64 r5, v5_]) ∧ Kd.R (Kd.int .u8) 5 w' w.heap.size (fun k_ => some k_ ≠ (v1_ : Value).ownBlock) v0_ r1 ∧ Kd.R (Kd.int .u8) 5 w' w.heap.size (fun k_ => some k_ ≠ (v0_ : Value).ownBlock) v1_ r2 ∧ Kd.S k104 104 w' w.heap.size (fun k_ => some k_ ≠ (v0_ : Value).ownBlock ∧ some k_ ≠ (v1_ : Value).ownBlock) v5_ r6 ∧ Below w.heap.size w w' := by
  have hu47 := Try.underlying47
  have hu104 := Try.underlying104
  have HR0 := aM (And.intro hr0_0 hc0_0)
  have HR1 := aM (And.intro hr0_1 hc0_1)
  have HR5 := aM (And.intro hr0_5 hc0_5)
  have HB := aM (Below.refl w.heap.size w)
  have HN := aM hname
  have HF := aM hf
  have HY := aM hb
  have HC := aM hkeep
  clear hr0_0 hc0_0 hr0_1 hc0_1 hr0_5 hc0_5 hname hf hb hkeep
  unfold impl_Disk_settled.f at h
  replace h := bE h; obtain ⟨⟨q1, q2, q3, q4, q5, q6⟩, A1, h⟩ := h
  replace h := bE h; obtain ⟨t, A2, h⟩ := h
  dsimp only at A1 A2 h
  cases t with
  | false =>
    rw [if_neg (by decide)] at h
    obtain ⟨rfl, rfl, rfl, rfl, rfl, rfl⟩ : q1 = r1 ∧ q2 = r2 ∧ q3 = r3 ∧ q4 = r4 ∧ q5 = r5 ∧ q6 = r6 := by simpa using h
    clear h
    go_enter Try.func51, Try.ntmps51
    go_wp2_with (first | ((with_reducible refine gate_dst (N := 2) rfl ?_); refine gBx 2 #[.slice A0_0 l0_0.length c0_0, .slice A0_1 l0_1.length c0_1, .int .i64 a0_2, .int .i64 a0_3, .int .i64 a0_4, .slice A0_5 l0_5.length c0_5] 47 ?_; intro g2 hg w2 hbox hb; have B2 := aM hbox; replace HB := aM (below_step HB.out hb); clear hb hbox hg; (simp only [Act.put, List.setIfInBounds_toArray, List.set_cons_zero, List.set_cons_succ])) | ((with_reducible refine gate_dst (N := 4) rfl ?_); refine gBx 4 #[.slice none 0 0, .slice none 0 0, .int .i64 0, .int .i64 0, .int .i64 0, .slice none 0 0] 47 ?_; intro g4 hg w2 hbox hb; have B4 := aM hbox; have HG4 := aM (show w.heap.size ≤ g4 by rw [hg]; exact HB.out.size); replace B2 := aM (blk_below B2.out hb); replace HB := aM (below_step HB.out hb); clear hb hbox hg; (simp only [Act.put, List.setIfInBounds_toArray, List.set_cons_zero, List.set_cons_succ])) | ((with_reducible refine gate_dst (N := 8) rfl ?_); refine gLd 8 B2.out ?_; (simp only [Act.put, List.setIfInBounds_toArray, List.set_cons_zero, List.set_cons_succ])) | ((with_reducible refine gate_callee (f := 49) rfl ?_); refine gL (some 9) Try.func49 #[.agg #[.slice A0_0 l0_0.length c0_0, .slice A0_1 l0_1.length c0_1, .int .i64 a0_2, .int .i64 a0_3, .int .i64 a0_4, .slice A0_5 l0_5.length c0_5]] ?_; refine (impl_copyDisk.calls (Kd.C_below HR0.out.1 HB.out) HR0.out.2 (Kd.C_below HR1.out.1 HB.out) HR1.out.2 (Kd.C_below HR5.out.1 HB.out) HR5.out.2 A1.out).mono ?_; rintro e w5 ⟨vA, vB, vP, rfl, ho1, ho2, ho3, hb⟩; refine ⟨_, rfl, ?_⟩; have HD := aM (show Dsk w5 w.heap.size vA vB vP q1 q2 q6 from ⟨Kd.R_lower ho1 HB.out.size, Kd.R_lower ho2 HB.out.size, Kd.S_lower ho3 HB.out.size⟩); replace B2 := aM (blk_below B2.out hb); replace B4 := aM (blk_below B4.out hb); replace HB := aM (below_step HB.out hb); clear ho1 ho2 ho3 hb; obtain ⟨A1', c1', h1'⟩ := Kd.R_slice HD.out.1; subst h1'; obtain ⟨A2', c2', h2'⟩ := Kd.R_slice HD.out.2.1; subst h2'; obtain ⟨A3', c3', h3'⟩ := Kd.S_slice HD.out.2.2; subst h3'; (simp only [Act.put, List.setIfInBounds_toArray, List.set_cons_zero, List.set_cons_succ])) | ((with_reducible refine gate_dst (N := 5) rfl ?_); refine gBx 5 #[.slice none 0 0, .slice none 0 0, .int .i64 0, .int .i64 0, .int .i64 0, .slice none 0 0] 47 ?_; intro g5 hg w2 hbox hb; have B5 := aM hbox; have HG5 := aM (show w.heap.size ≤ g5 by rw [hg]; exact HB.out.size); have N2 := aM (show g2 ≠ g5 from fun e => by have := (Array.getElem?_eq_some_iff.1 B2.out).1; omega); have N4 := aM (show g4 ≠ g5 from fun e => by have := (Array.getElem?_eq_some_iff.1 B4.out).1; omega); replace HD := aM (HD.out.below hb); replace B2 := aM (blk_below B2.out hb); replace B4 := aM (blk_below B4.out hb); replace HB := aM (below_step HB.out hb); clear hb hbox hg; (simp only [Act.put, List.setIfInBounds_toArray, List.set_cons_zero, List.set_cons_succ])) | ((with_reducible refine gate_store (t := 47) (p := 5) rfl ?_); refine gSt [.slice A1' q1.length c1', .slice A2' q2.length c2', .int .i64 q3, .int .i64 q4, .int .i64 q5, .slice A3' q6.length c3'] #[.slice A1' q1.length c1', .slice A2' q2.length c2', .int .i64 q3, .int .i64 q4, .int .i64 q5, .slice A3' q6.length c3'] B5.out ?_; intro w7 hw hbox; replace HD := aM (HD.out.off B5.out hw); replace B5 := aM hbox; replace B2 := aM ((hw.2.2 g2 N2.out).trans B2.out); replace B4 := aM ((hw.2.2 g4 N4.out).trans B4.out); replace HB := aM (hw.below HB.out HG5.out); clear hw hbox) | ((with_reducible refine gate_dst (N := 10) rfl ?_); refine gLd 10 B2.out ?_; (simp only [Act.put, List.setIfInBounds_toArray, List.set_cons_zero, List.set_cons_succ])) | ((with_reducible refine gate_callee (f := 72) rfl ?_); refine gL (some 11) Try.func72 #[.agg #[.slice A0_0 l0_0.length c0_0, .slice A0_1 l0_1.length c0_1, .int .i64 a0_2, .int .i64 a0_3, .int .i64 a0_4, .slice A0_5 l0_5.length c0_5]] ?_; refine (impl_DiskOk.calls (Kd.C_below HR0.out.1 HB.out) HR0.out.2 (Kd.C_below HR1.out.1 HB.out) HR1.out.2 (Kd.C_below HR5.out.1 HB.out) HR5.out.2 A2.out).mono ?_; rintro e w8 ⟨rfl, hb⟩; refine ⟨_, rfl, ?_⟩; have hb := hb; replace HD := aM (HD.out.below hb); replace B2 := aM (blk_below B2.out hb); replace B4 := aM (blk_below B4.out hb); replace B5 := aM (blk_below B5.out hb); replace HB := aM (below_step HB.out hb); clear hb; (simp only [Act.put, List.setIfInBounds_toArray, List.set_cons_zero, List.set_cons_succ])) | ((with_reducible refine gate_dst (N := 13) rfl ?_); refine gLd 13 B5.out ?_; (simp only [Act.put, List.setIfInBounds_toArray, List.set_cons_zero, List.set_cons_succ])) | ((with_reducible refine gate_store (t := 47) (p := 4) rfl ?_); refine gSt [.slice A1' q1.length c1', .slice A2' q2.length c2', .int .i64 q3, .int .i64 q4, .int .i64 q5, .slice A3' q6.length c3'] #[.slice A1' q1.length c1', .slice A2' q2.length c2', .int .i64 q3, .int .i64 q4, .int .i64 q5, .slice A3' q6.length c3'] B4.out ?_; intro w10 hw hbox; replace HD := aM (HD.out.off B4.out hw); replace B4 := aM hbox; replace HB := aM (hw.below HB.out HG4.out); clear hw hbox))
    refine bodyPost_ret (results_cell_row rfl _ _ g4 47 _ (0, 0) _ rfl B4.out hu47 rfl (by kernel_rfl)) rfl ?_
    exact ⟨_, _, _, rfl, HD.out.1, HD.out.2.1, HD.out.2.2, HB.out⟩
  | true =>
    rw [if_pos rfl] at h
    replace h := bE h; obtain ⟨⟨s1, s2, s3, s4, s5⟩, A3, h⟩ := h
    obtain ⟨rfl, rfl, rfl, rfl, rfl, rfl⟩ : s1 = r1 ∧ s2 = r2 ∧ s3 = r3 ∧ s4 = r4 ∧ s5 = r5 ∧ [] = r6 := by simpa using h
    clear h
    have H1 := aM A3.out
    clear A3
    go_enter Try.func51, Try.ntmps51
    go_wp2_with (first | ((with_reducible refine gate_dst (N := 2) rfl ?_); refine gBx 2 #[.slice A0_0 l0_0.length c0_0, .slice A0_1 l0_1.length c0_1, .int .i64 a0_2, .int .i64 a0_3, .int .i64 a0_4, .slice A0_5 l0_5.length c0_5] 47 ?_; intro g2 hg w2 hbox hb; have B2 := aM hbox; replace HB := aM (below_step HB.out hb); clear hb hbox hg; (simp only [Act.put, List.setIfInBounds_toArray, List.set_cons_zero, List.set_cons_succ])) | ((with_reducible refine gate_dst (N := 4) rfl ?_); refine gBx 4 #[.slice none 0 0, .slice none 0 0, .int .i64 0, .int .i64 0, .int .i64 0, .slice none 0 0] 47 ?_; intro g4 hg w2 hbox hb; have B4 := aM hbox; have HG4 := aM (show w.heap.size ≤ g4 by rw [hg]; exact HB.out.size); replace B2 := aM (blk_below B2.out hb); replace HB := aM (below_step HB.out hb); clear hb hbox hg; (simp only [Act.put, List.setIfInBounds_toArray, List.set_cons_zero, List.set_cons_succ])) | ((with_reducible refine gate_dst (N := 8) rfl ?_); refine gLd 8 B2.out ?_; (simp only [Act.put, List.setIfInBounds_toArray, List.set_cons_zero, List.set_cons_succ])) | ((with_reducible refine gate_callee (f := 49) rfl ?_); refine gL (some 9) Try.func49 #[.agg #[.slice A0_0 l0_0.length c0_0, .slice A0_1 l0_1.length c0_1, .int .i64 a0_2, .int .i64 a0_3, .int .i64 a0_4, .slice A0_5 l0_5.length c0_5]] ?_; refine (impl_copyDisk.calls (Kd.C_below HR0.out.1 HB.out) HR0.out.2 (Kd.C_below HR1.out.1 HB.out) HR1.out.2 (Kd.C_below HR5.out.1 HB.out) HR5.out.2 A1.out).mono ?_; rintro e w5 ⟨vA, vB, vP, rfl, ho1, ho2, ho3, hb⟩; refine ⟨_, rfl, ?_⟩; have HD := aM (show Dsk w5 w.heap.size vA vB vP q1 q2 q6 from ⟨Kd.R_lower ho1 HB.out.size, Kd.R_lower ho2 HB.out.size, Kd.S_lower ho3 HB.out.size⟩); replace B2 := aM (blk_below B2.out hb); replace B4 := aM (blk_below B4.out hb); replace HB := aM (below_step HB.out hb); clear ho1 ho2 ho3 hb; obtain ⟨A1', c1', h1'⟩ := Kd.R_slice HD.out.1; subst h1'; obtain ⟨A2', c2', h2'⟩ := Kd.R_slice HD.out.2.1; subst h2'; obtain ⟨A3', c3', h3'⟩ := Kd.S_slice HD.out.2.2; subst h3'; (simp only [Act.put, List.setIfInBounds_toArray, List.set_cons_zero, List.set_cons_succ])) | ((with_reducible refine gate_dst (N := 5) rfl ?_); refine gBx 5 #[.slice none 0 0, .slice none 0 0, .int .i64 0, .int .i64 0, .int .i64 0, .slice none 0 0] 47 ?_; intro g5 hg w2 hbox hb; have B5 := aM hbox; have HG5 := aM (show w.heap.size ≤ g5 by rw [hg]; exact HB.out.size); have N2 := aM (show g2 ≠ g5 from fun e => by have := (Array.getElem?_eq_some_iff.1 B2.out).1; omega); have N4 := aM (show g4 ≠ g5 from fun e => by have := (Array.getElem?_eq_some_iff.1 B4.out).1; omega); replace HD := aM (HD.out.below hb); replace B2 := aM (blk_below B2.out hb); replace B4 := aM (blk_below B4.out hb); replace HB := aM (below_step HB.out hb); clear hb hbox hg; (simp only [Act.put, List.setIfInBounds_toArray, List.set_cons_zero, List.set_cons_succ])) | ((with_reducible refine gate_store (t := 47) (p := 5) rfl ?_); refine gSt [.slice A1' q1.length c1', .slice A2' q2.length c2', .int .i64 q3, .int .i64 q4, .int .i64 q5, .slice A3' q6.length c3'] #[.slice A1' q1.length c1', .slice A2' q2.length c2', .int .i64 q3, .int .i64 q4, .int .i64 q5, .slice A3' q6.length c3'] B5.out ?_; intro w7 hw hbox; replace HD := aM (HD.out.off B5.out hw); replace B5 := aM hbox; replace B2 := aM ((hw.2.2 g2 N2.out).trans B2.out); replace B4 := aM ((hw.2.2 g4 N4.out).trans B4.out); replace HB := aM (hw.below HB.out HG5.out); clear hw hbox) | ((with_reducible refine gate_dst (N := 10) rfl ?_); refine gLd 10 B2.out ?_; (simp only [Act.put, List.setIfInBounds_toArray, List.set_cons_zero, List.set_cons_succ])) | ((with_reducible refine gate_callee (f := 72) rfl ?_); refine gL (some 11) Try.func72 #[.agg #[.slice A0_0 l0_0.length c0_0, .slice A0_1 l0_1.length c0_1, .int .i64 a0_2, .int .i64 a0_3, .int .i64 a0_4, .slice A0_5 l0_5.length c0_5]] ?_; refine (impl_DiskOk.calls (Kd.C_below HR0.out.1 HB.out) HR0.out.2 (Kd.C_below HR1.out.1 HB.out) HR1.out.2 (Kd.C_below HR5.out.1 HB.out) HR5.out.2 A2.out).mono ?_; rintro e w8 ⟨rfl, hb⟩; refine ⟨_, rfl, ?_⟩; have hb := hb; replace HD := aM (HD.out.below hb); replace B2 := aM (blk_below B2.out hb); replace B4 := aM (blk_below B4.out hb); replace B5 := aM (blk_below B5.out hb); replace HB := aM (below_step HB.out hb); clear hb; (simp only [Act.put, List.setIfInBounds_toArray, List.set_cons_zero, List.set_cons_succ]); obtain ⟨hcz0, hcz1, hcz2, hcz3, hcz4, hcz5⟩ := cz6 B2.out))
    clear hcz0 hcz1 hcz2 hcz3 hcz4 hcz5 B2
    go_loopg [17] k (fun kq v17 w' => ∃ (i : Int) (v1 v2 : Value) (a b : List Int) (c d e : Int), v17 = .int .i64 i ∧ Aside0 (impl_Disk_settled.l0 kq keep l0_5 i a b c d e = some (s1, s2, s3, s4, s5)) ∧ Aside0 (kq ≤ k) ∧ Aside0 (w'.heap[g5]? = some (.cells #[v1, v2, .int .i64 c, .int .i64 d, .int .i64 e, .slice A3' q6.length c3'] 47 (0, 0))) ∧ Aside0 (w'.heap[g4]? = some (.cells #[.slice none 0 0, .slice none 0 0, .int .i64 0, .int .i64 0, .int .i64 0, .slice none 0 0] 47 (0, 0))) ∧ Aside0 (Dsk w' w.heap.size v1 v2 (.slice A3' q6.length c3') a b q6) ∧ Aside0 (Below w.heap.size w w'))
    case atStart => exact ⟨0, _, _, q1, q2, q3, q4, q5, rfl, H1, ⟨Nat.le_refl _⟩, B5, B4, HD, HB⟩
    case round =>
      clear H1 B5 B4 HD HB
      obtain ⟨i, v1, v2, a, b, c, d, e, rfl, HA, HK1, B5, B4, HD, HB⟩ := hrel
      cases gk with
      | zero => exact absurd HA.out (by simp [impl_Disk_settled.l0])
      | succ k1 =>
        have H := HA.out
        clear HA
        simp only [impl_Disk_settled.l0] at H
        by_cases c3 : i < (l0_5.length : Int)
        · rw [if_pos c3] at H
          have c3b : decide (i < (l0_5.length : Int)) = true := decide_eq_true c3
          replace H := ifN H
          obtain ⟨c4, H⟩ := H
          replace H := bE H
          obtain ⟨t, A5, H⟩ := H
          obtain ⟨ad, A2, c2, e0, hx0, hx1, hx2, hx3, hx4, hx5, hl2, hi2⟩ := at_T104 HR5.out.1 i c4 c3
          cases e0
          replace hx0 := (HB.out.cell (World.block_lt_of_cell? w _ hx0)).trans hx0
          replace hx1 := (HB.out.cell (World.block_lt_of_cell? w _ hx1)).trans hx1
          replace hx2 := (HB.out.cell (World.block_lt_of_cell? w _ hx2)).trans hx2
          replace hx3 := (HB.out.cell (World.block_lt_of_cell? w _ hx3)).trans hx3
          replace hx4 := (HB.out.cell (World.block_lt_of_cell? w _ hx4)).trans hx4
          replace hx5 := (HB.out.cell (World.block_lt_of_cell? w _ hx5)).trans hx5
          have HE2 := aM (And.intro hi2 hl2)
          clear hi2 hl2
          have p0 : (0 ≤ i) = True := eq_true c4
          have q0 : (i < (l0_5.length : Int)) = True := eq_true c3
          have c4b : decide (0 ≤ i) = true := decide_eq_true c4
          clear c3 c4
          cases t with
          | true =>
            rw [if_pos rfl] at H
            replace H := bE H
            obtain ⟨⟨p1, p2, p3, p4, p5⟩, A6, H⟩ := H
            dsimp only at A6 H
            have H' := aM H
            clear H
            go_wp2_with (first | ((with_reducible refine gate_dst (N := 7) rfl ?_); refine gBx 7 #[.int .i64 0, .int .i64 0, .slice none 0 0, .int .i64 0, .int .i64 0, .int .i64 0] 104 ?_; intro g7 hg w2 hbox hb; have B7 := aM hbox; have HN7 := aM (show _ ≤ g7 from (Nat.le_of_eq hg.symm)); have HW7 := aM hb; clear hb hbox hg; (simp only [Act.put, List.setIfInBounds_toArray, List.set_cons_zero, List.set_cons_succ])) | ((with_reducible refine gate_store (t := 104) (p := 7) rfl ?_); refine gSt [.int .i64 (rd_T104 l0_5 i).f0, .int .i64 (rd_T104 l0_5 i).f1, .slice A2 (rd_T104 l0_5 i).f2.length c2, .int .i64 (rd_T104 l0_5 i).f3.f0, .int .i64 (rd_T104 l0_5 i).f3.f1, .int .i64 (rd_T104 l0_5 i).f3.f2] #[.int .i64 (rd_T104 l0_5 i).f0, .int .i64 (rd_T104 l0_5 i).f1, .slice A2 (rd_T104 l0_5 i).f2.length c2, .int .i64 (rd_T104 l0_5 i).f3.f0, .int .i64 (rd_T104 l0_5 i).f3.f1, .int .i64 (rd_T104 l0_5 i).f3.f2] B7.out ?_; intro w7 hw hbox; have hb := hw.below HW7.out HN7.out; replace B7 := aM hbox; replace HD := aM (HD.out.below hb); replace B4 := aM (blk_below B4.out hb); replace B5 := aM (blk_below B5.out hb); replace HB := aM (below_step HB.out hb); clear hw hbox hb HW7 HN7 hx0 hx1 hx2 hx3 hx4 hx5) | ((with_reducible refine gate_dst (N := 24) rfl ?_); refine gLv (some 24) 22 cap HF.out HN.out HY.out #[.int .i64 i] ?_; refine (HC.out _ i true _ HB.out A5.out).mono ?_; rintro e_ w8 ⟨rfl, hb⟩; refine ⟨_, rfl, ?_⟩; replace HD := aM (HD.out.below hb); replace B4 := aM (blk_below B4.out hb); replace B5 := aM (blk_below B5.out hb); replace B7 := aM (blk_below B7.out hb); replace HB := aM (below_step HB.out hb); clear hb; (simp only [Act.put, List.setIfInBounds_toArray, List.set_cons_zero, List.set_cons_succ])) | ((with_reducible refine gate_dst (N := 25) rfl ?_); refine gLd 25 B7.out ?_; (simp only [Act.put, List.setIfInBounds_toArray, List.set_cons_zero, List.set_cons_succ])) | ((with_reducible refine gate_callee (f := 77) rfl ?_); refine gL (some 26) Try.func77 #[.pointer (some ⟨g5, 0, none⟩), .agg #[.int .i64 (rd_T104 l0_5 i).f0, .int .i64 (rd_T104 l0_5 i).f1, .slice A2 (rd_T104 l0_5 i).f2.length c2, .int .i64 (rd_T104 l0_5 i).f3.f0, .int .i64 (rd_T104 l0_5 i).f3.f1, .int .i64 (rd_T104 l0_5 i).f3.f2]] ?_; refine (impl_Disk_perform.calls _ _ _ q6 w _ HB.out HG5.out B5.out HD.out HE2.out.1 HE2.out.2 A6.out).mono ?_; rintro e_ w9 ⟨rfl, v1', v2', hbox, hd, hb, hk⟩; refine ⟨_, rfl, ?_⟩; replace B4 := aM (blk_kept B4.out hk (fun q => q.elim N4.out (fun q => q.elim (Kd.R_ne HD.out.1 B4.out (by decide)) (Kd.R_ne HD.out.2.1 B4.out (by decide))))); replace B5 := aM hbox; replace HD := aM hd; replace HB := aM hb; clear hbox hd hb hk B7; (simp only [Act.put, List.setIfInBounds_toArray, List.set_cons_zero, List.set_cons_succ])))
            go_roundg k1
            case measure => have := HK1.out; omega
            case rel => exact ⟨_, _, _, _, _, _, _, _, rfl, H', ⟨by have := HK1.out; omega⟩, B5, B4, HD, HB⟩
          | false =>
            rw [if_neg (by decide)] at H
            have H' := aM H
            clear H
            go_wp2_with (first | ((with_reducible refine gate_dst (N := 7) rfl ?_); refine gBx 7 #[.int .i64 0, .int .i64 0, .slice none 0 0, .int .i64 0, .int .i64 0, .int .i64 0] 104 ?_; intro g7 hg w2 hbox hb; have B7 := aM hbox; have HN7 := aM (show _ ≤ g7 from (Nat.le_of_eq hg.symm)); have HW7 := aM hb; clear hb hbox hg; (simp only [Act.put, List.setIfInBounds_toArray, List.set_cons_zero, List.set_cons_succ])) | ((with_reducible refine gate_store (t := 104) (p := 7) rfl ?_); refine gSt [.int .i64 (rd_T104 l0_5 i).f0, .int .i64 (rd_T104 l0_5 i).f1, .slice A2 (rd_T104 l0_5 i).f2.length c2, .int .i64 (rd_T104 l0_5 i).f3.f0, .int .i64 (rd_T104 l0_5 i).f3.f1, .int .i64 (rd_T104 l0_5 i).f3.f2] #[.int .i64 (rd_T104 l0_5 i).f0, .int .i64 (rd_T104 l0_5 i).f1, .slice A2 (rd_T104 l0_5 i).f2.length c2, .int .i64 (rd_T104 l0_5 i).f3.f0, .int .i64 (rd_T104 l0_5 i).f3.f1, .int .i64 (rd_T104 l0_5 i).f3.f2] B7.out ?_; intro w7 hw hbox; have hb := hw.below HW7.out HN7.out; replace B7 := aM hbox; replace HD := aM (HD.out.below hb); replace B4 := aM (blk_below B4.out hb); replace B5 := aM (blk_below B5.out hb); replace HB := aM (below_step HB.out hb); clear hw hbox hb HW7 HN7 hx0 hx1 hx2 hx3 hx4 hx5) | ((with_reducible refine gate_dst (N := 24) rfl ?_); refine gLv (some 24) 22 cap HF.out HN.out HY.out #[.int .i64 i] ?_; refine (HC.out _ i false _ HB.out A5.out).mono ?_; rintro e_ w8 ⟨rfl, hb⟩; refine ⟨_, rfl, ?_⟩; replace HD := aM (HD.out.below hb); replace B4 := aM (blk_below B4.out hb); replace B5 := aM (blk_below B5.out hb); replace B7 := aM (blk_below B7.out hb); replace HB := aM (below_step HB.out hb); clear hb; (simp only [Act.put, List.setIfInBounds_toArray, List.set_cons_zero, List.set_cons_succ])))
            go_roundg k1
            case measure => have := HK1.out; omega
            case rel => exact ⟨_, _, _, _, _, _, _, _, rfl, H', ⟨by have := HK1.out; omega⟩, B5, B4, HD, HB⟩
        · rw [if_neg c3] at H
          have c3b : decide (i < (l0_5.length : Int)) = false := decide_eq_false c3
          clear c3
          obtain ⟨rfl, rfl, rfl, rfl, rfl⟩ : a = s1 ∧ b = s2 ∧ c = s3 ∧ d = s4 ∧ e = s5 := by simpa using H
          clear H
          obtain ⟨A1'', c1'', h1'⟩ := Kd.R_slice HD.out.1
          subst h1'
          obtain ⟨A2'', c2'', h2'⟩ := Kd.R_slice HD.out.2.1
          subst h2'
          go_wp2_with (first | ((with_reducible refine gate_store (t := 45) (p := 28) rfl ?_); refine gSt [.slice none 0 0] #[.slice A1'' a.length c1'', .slice A2'' b.length c2'', .int .i64 c, .int .i64 d, .int .i64 e, .slice none 0 0] B5.out ?_; intro w7 hw hbox; replace HD := aM (HD.out.off B5.out hw); replace B5 := aM hbox; replace B4 := aM ((hw.2.2 g4 N4.out).trans B4.out); replace HB := aM (hw.below HB.out HG5.out); clear hw hbox) | ((with_reducible refine gate_dst (N := 29) rfl ?_); refine gLd 29 B5.out ?_; (simp only [Act.put, List.setIfInBounds_toArray, List.set_cons_zero, List.set_cons_succ])) | ((with_reducible refine gate_store (t := 47) (p := 4) rfl ?_); refine gSt [.slice A1'' a.length c1'', .slice A2'' b.length c2'', .int .i64 c, .int .i64 d, .int .i64 e, .slice none 0 0] #[.slice A1'' a.length c1'', .slice A2'' b.length c2'', .int .i64 c, .int .i64 d, .int .i64 e, .slice none 0 0] B4.out ?_; intro w10 hw hbox; replace HD := aM (HD.out.off B4.out hw); replace B4 := aM hbox; replace HB := aM (hw.below HB.out HG4.out); clear hw hbox))
          refine bodyPost_ret (results_cell_row rfl _ _ g4 47 _ (0, 0) _ rfl B4.out hu47 rfl (by kernel_rfl)) rfl ?_
          exact ⟨_, _, _, rfl, HD.out.1, HD.out.2.1, Kd.S_nil _ _ _ _ _, HB.out⟩

def impl_Sure.f (k : Nat) (l0_0 : List Int) (l0_1 : List Int) (a0_2 : Int) (a0_3 : Int) (a0_4 : Int) (l0_5 : List S104) : Option (List Int × List Int × Int × Int × Int × List S104) := impl_Disk_settled.f k (fun _ _ => some true) l0_0 l0_1 a0_2 a0_3 a0_4 l0_5
theorem impl_Sure.mono : ∀ y0 y1 y2 y3 y4 y5 k, LeO (impl_Sure.f k y0 y1 y2 y3 y4 y5) (impl_Sure.f (k + 1) y0 y1 y2 y3 y4 y5) := by
  intro y0 y1 y2 y3 y4 y5 k;exact impl_Disk_settled.mono (fun _ _ => some true) (fun _ _ _ h => h) y0 y1 y2 y3 y4 y5 k
set_option maxHeartbeats 4000000 in
set_option maxRecDepth 100000 in
theorem impl_Sure.calls {k : Nat} {A0_0 : Option Addr} {c0_0 : Nat} {l0_0 : List Int} {A0_1 : Option Addr} {c0_1 : Nat} {l0_1 : List Int} {a0_2 : Int} {a0_3 : Int} {a0_4 : Int} {A0_5 : Option Addr} {c0_5 : Nat} {l0_5 : List (S104)} {r1 : List Int} {r2 : List Int} {r3 : Int} {r4 : Int} {r5 : Int} {r6 : List (S104)} {w : World} (hr0_0 : Kd.C (Kd.int .u8) w A0_0 l0_0.length l0_0) (hc0_0 : l0_0.length ≤ c0_0) (hr0_1 : Kd.C (Kd.int .u8) w A0_1 l0_1.length l0_1) (hc0_1 : l0_1.length ≤ c0_1) (hr0_5 : Kd.C k104 w A0_5 l0_5.length l0_5) (hc0_5 : l0_5.length ≤ c0_5) (h : impl_Sure.f k l0_0 l0_1 a0_2 a0_3 a0_4 l0_5 = some (r1, r2, r3, r4, r5, r6)) :
    Calls Try.prog 20 #[.agg #[.slice A0_0 l0_0.length c0_0, .slice A0_1 l0_1.length c0_1, .int .i64 a0_2, .int .i64 a0_3, .int .i64 a0_4, .slice A0_5 l0_5.length c0_5]] w fun e w' => ∃ v0_ v1_ v5_ : Value, e = .returned (.agg #[v0_, v1_, .int .i64 r3, .int .i64 r4, .int .i64 r5, v5_]) ∧ Kd.R (Kd.int .u8) 5 w' w.heap.size (fun k_ => some k_ ≠ (v1_ : Value).ownBlock) v0_ r1 ∧ Kd.R (Kd.int .u8) 5 w' w.heap.size (fun k_ => some k_ ≠ (v0_ : Value).ownBlock) v1_ r2 ∧ Kd.S k104 104 w' w.heap.size (fun k_ => some k_ ≠ (v0_ : Value).ownBlock ∧ some k_ ≠ (v1_ : Value).ownBlock) v5_ r6 ∧ Below w.heap.size w w' := by
  have hu47 := Try.underlying47
  have HR0 := aM (And.intro hr0_0 hc0_0)
  have HR1 := aM (And.intro hr0_1 hc0_1)
  have HR5 := aM (And.intro hr0_5 hc0_5)
  have HB := aM (Below.refl w.heap.size w)
  have H1 := aM (show impl_Disk_settled.f k (fun _ _ => some true) l0_0 l0_1 a0_2 a0_3 a0_4 l0_5 = some (r1, r2, r3, r4, r5, r6) from h)
  clear hr0_0 hc0_0 hr0_1 hc0_1 hr0_5 hc0_5 h
  go_enter Try.func20, Try.ntmps20
  go_wp2_with (first | ((with_reducible refine gate_dst (N := 1) rfl ?_); refine gBx 1 #[.slice A0_0 l0_0.length c0_0, .slice A0_1 l0_1.length c0_1, .int .i64 a0_2, .int .i64 a0_3, .int .i64 a0_4, .slice A0_5 l0_5.length c0_5] 47 ?_; intro g1 hg w2 hbox hb; have B1 := aM hbox; replace HB := aM (below_step HB.out hb); clear hb hbox hg; (simp only [Act.put, List.setIfInBounds_toArray, List.set_cons_zero, List.set_cons_succ])) | ((with_reducible refine gate_dst (N := 2) rfl ?_); refine gBx 2 #[.slice none 0 0, .slice none 0 0, .int .i64 0, .int .i64 0, .int .i64 0, .slice none 0 0] 47 ?_; intro g2 hg w2 hbox hb; have B2 := aM hbox; have HG2 := aM (show w.heap.size ≤ g2 by rw [hg]; exact HB.out.size); replace B1 := aM (blk_below B1.out hb); replace HB := aM (below_step HB.out hb); clear hb hbox hg; (simp only [Act.put, List.setIfInBounds_toArray, List.set_cons_zero, List.set_cons_succ])) | ((with_reducible refine gate_dst (N := 3) rfl ?_); refine gLd 3 B1.out ?_; (simp only [Act.put, List.setIfInBounds_toArray, List.set_cons_zero, List.set_cons_succ])) | ((with_reducible refine gate_callee (f := 51) rfl ?_); refine gL (some 4) Try.func51 #[.agg #[.slice A0_0 l0_0.length c0_0, .slice A0_1 l0_1.length c0_1, .int .i64 a0_2, .int .i64 a0_3, .int .i64 a0_4, .slice A0_5 l0_5.length c0_5], .func (.func 52) #[] #[]] ?_; refine (impl_Disk_settled.calls (fun _ _ => some true) 52 Try.f52 #[] _ _ l0_0 _ _ l0_1 a0_2 a0_3 a0_4 _ _ l0_5 r1 r2 r3 r4 r5 r6 _ (Kd.C_below HR0.out.1 HB.out) HR0.out.2 (Kd.C_below HR1.out.1 HB.out) HR1.out.2 (Kd.C_below HR5.out.1 HB.out) HR5.out.2 Try.func52 (by kernel_rfl) rfl (fun _ i t w' _ ht => by cases ht; exact (impl_Sure_1.calls rfl).mono (fun e w2 q => ⟨q.1, q.2.below⟩)) H1.out).mono ?_; rintro e w5 ⟨vA, vB, vP, rfl, ho1, ho2, ho3, hb⟩; refine ⟨_, rfl, ?_⟩; have HD := aM (show Dsk w5 w.heap.size vA vB vP r1 r2 r6 from ⟨Kd.R_lower ho1 HB.out.size, Kd.R_lower ho2 HB.out.size, Kd.S_lower ho3 HB.out.size⟩); replace B2 := aM (blk_below B2.out hb); replace HB := aM (below_step HB.out hb); clear ho1 ho2 ho3 hb; obtain ⟨A1', c1', h1'⟩ := Kd.R_slice HD.out.1; subst h1'; obtain ⟨A2', c2', h2'⟩ := Kd.R_slice HD.out.2.1; subst h2'; obtain ⟨A3', c3', h3'⟩ := Kd.S_slice HD.out.2.2; subst h3'; (simp only [Act.put, List.setIfInBounds_toArray, List.set_cons_zero, List.set_cons_succ])) | ((with_reducible refine gate_store (t := 47) (p := 2) rfl ?_); refine gSt [.slice A1' r1.length c1', .slice A2' r2.length c2', .int .i64 r3, .int .i64 r4, .int .i64 r5, .slice A3' r6.length c3'] #[.slice A1' r1.length c1', .slice A2' r2.length c2', .int .i64 r3, .int .i64 r4, .int .i64 r5, .slice A3' r6.length c3'] B2.out ?_; intro w10 hw hbox; replace HD := aM (HD.out.off B2.out hw); replace B2 := aM hbox; replace HB := aM (hw.below HB.out HG2.out); clear hw hbox))
  refine bodyPost_ret (results_cell_row rfl _ _ g2 47 _ (0, 0) _ rfl B2.out hu47 rfl (by kernel_rfl)) rfl ?_
  exact ⟨_, _, _, rfl, HD.out.1, HD.out.2.1, HD.out.2.2, HB.out⟩

def impl_Spare.f (l0_0 : List Int) (l0_1 : List Int) (a0_2 : Int) (a0_3 : Int) (a0_4 : Int) (l0_5 : List (S104)) : Option (Int) := some (wrap64 (1 - a0_3))
set_option maxHeartbeats 40000000 in
set_option maxRecDepth 100000 in
theorem impl_Spare.calls {aj : Option Addr} {ah : Nat} {ab : List Int} {ag : Option Addr} {ak : Nat} {aa : List Int} {al : Int} {ai : Int} {af : Int} {am : Option Addr} {ae : Nat} {ac : List (S104)} {r : Int} {w : World} (au : Kd.C (Kd.int .u8) w aj ab.length ab) (ar : ab.length ≤ ah) (ap : Kd.C (Kd.int .u8) w ag aa.length aa) (ao : aa.length ≤ ak) (an : Kd.C k104 w am ac.length ac) (aq : ac.length ≤ ae) (h : impl_Spare.f ab aa al ai af ac = some r) :
  Calls Try.prog 21 #[.agg #[.slice aj ab.length ah, .slice ag aa.length ak, .int .i64 al, .int .i64 ai, .int .i64 af, .slice am ac.length ae]] w fun e w' => e = .returned (.int .i64 r) ∧ Below w.heap.size w w' := by
 have hu47 := Try.underlying47;have HRq1 := aM au;have HCq1 := aM ar;clear au ar;have HRq2 := aM ap;have HCq2 := aM ao;clear ap ao;have HRq3 := aM an;have HCq3 := aM aq;clear an aq;have HB := aM (Below.refl w.heap.size w);have H := h;clear h;unfold impl_Spare.f at H;obtain rfl := o_I H;go_enter Try.func21, Try.ntmps21;go_wp2_with (first | ((with_reducible refine gate_dst (N := 1) rfl ?_); refine gBx 1 #[.slice aj ab.length ah, .slice ag aa.length ak, .int .i64 al, .int .i64 ai, .int .i64 af, .slice am ac.length ae] 47 ?_; intro gbq1 hg w2 hbox hb; have BKq1 := aM (hbox); have GWq1 := gW HB hg; have GEq1 := gW HB hg; replace HB := bS HB hb; clear hb hbox hg; obtain ⟨hczq1, hczq2, hczq3, hczq4, hczq5, hczq6⟩ := cz6 BKq1.out; obtain ⟨hfzq1, hfzq2, hfzq3, hfzq4, hfzq5, hfzq6⟩ := fz6 BKq1.out))
 go_ret
 exact ⟨TE, TB⟩

end Go.Proofs.Ytaofakpljnkplaa.Q
