/- Functions of the program as plain Lean functions, and that a call of each comes to what its function tells. Written by a program of this seat. -/
import Derived.Test.YtaofakpljnkplaaQ0
import Derived.Test.YtaofakpljnkplaaQ4
import Derived.Test.YtaofakpljnkplaaQ9
import Derived.Test.YtaofakpljnkplaaQ20
import Derived.Test.YtaofakpljnkplaaQ21
import Derived.Test.YtaofakpljnkplaaQ23
namespace Go.Proofs.Ytaofakpljnkplaa.Q
open Go.RowKit Go.Proofs.YtaofakpljnkplaaW.PrintWords Go.Proofs.YtaofakpljnkplaaW.PrintLast Go.Proofs.YtaofakpljnkplaaW.PrintMore
attribute [local go_sem] min2_int min_two
set_option linter.unusedVariables false
set_option linter.unusedSimpArgs false

theorem Zq32_0 {p : Prop} (h : p := by repeat (first | exact (Kd.C_below ax.out TB) | (with_reducible refine Kd.C_alloc ?_ _) | (with_reducible refine Kd.C_drewN ?_ _) | (with_reducible refine Kd.C_drew ?_))) : p := h
theorem Zq32_1 {p : Prop} (h : p := by repeat (first | exact (Kd.C_below aw.out TB) | (with_reducible refine Kd.C_alloc ?_ _) | (with_reducible refine Kd.C_drewN ?_ _) | (with_reducible refine Kd.C_drew ?_))) : p := h
theorem Zq32_2 {p : Prop} (h : p := by repeat (first | exact (Kd.C_below ap.out TB) | (with_reducible refine Kd.C_alloc ?_ _) | (with_reducible refine Kd.C_drewN ?_ _) | (with_reducible refine Kd.C_drew ?_))) : p := h
theorem impl_Fall_1.calls (g : Nat) (a1 a0 : Int) (r : Bool) (w : World) (hb : w.heap[g]? = some (.cells #[.int .i64 a1] 3 (0, 0))) (h : impl_InSet.f a1 a0 = some r) :
    Calls Try.prog 53 #[.int .i64 a0, .pointer (some ⟨g, 0, none⟩)] w fun e w' => e = .returned (.bool r) ∧ Drawn0 w w' := by
  have H := aM h
  have hc : w.cell? ⟨g, 0, none⟩ = some (.int .i64 a1) := (blk_cell hb 0).trans rfl
  clear h hb
  go_enter Try.func53, Try.ntmps53
  go_wp2_with (first | ((with_reducible refine gate_callee (f := 40) rfl ?_); refine gL (some 6) Try.func40 #[.int .i64 a1, .int .i64 a0] ?_; refine (impl_InSet.calls H.out).mono ?_; rintro e w' ⟨rfl, hd⟩; refine ⟨_, rfl, ?_⟩; have HD := aM hd; clear hd))
  go_ret
  exact ⟨rfl, HD.out⟩

def impl_Fall.f (k : Nat) (l0_0 : List Int) (l0_1 : List Int) (a0_2 : Int) (a0_3 : Int) (a0_4 : Int) (l0_5 : List S104) (a1 : Int) : Option (List Int × List Int × Int × Int × Int × List S104) := impl_Disk_settled.f k (fun _ i => impl_InSet.f a1 i) l0_0 l0_1 a0_2 a0_3 a0_4 l0_5
theorem impl_Fall.mono : ∀ y0 y1 y2 y3 y4 y5 y6 k, LeO (impl_Fall.f k y0 y1 y2 y3 y4 y5 y6) (impl_Fall.f (k + 1) y0 y1 y2 y3 y4 y5 y6) := by
  intro y0 y1 y2 y3 y4 y5 y6 k;exact impl_Disk_settled.mono (fun _ i => impl_InSet.f y6 i) (fun _ _ _ h => h) y0 y1 y2 y3 y4 y5 k
set_option maxHeartbeats 4000000 in
set_option maxRecDepth 100000 in
theorem impl_Fall.calls {k : Nat} {A0_0 : Option Addr} {c0_0 : Nat} {l0_0 : List Int} {A0_1 : Option Addr} {c0_1 : Nat} {l0_1 : List Int} {a0_2 : Int} {a0_3 : Int} {a0_4 : Int} {A0_5 : Option Addr} {c0_5 : Nat} {l0_5 : List (S104)} {a1 : Int} {r1 : List Int} {r2 : List Int} {r3 : Int} {r4 : Int} {r5 : Int} {r6 : List (S104)} {w : World} (hr0_0 : Kd.C (Kd.int .u8) w A0_0 l0_0.length l0_0) (hc0_0 : l0_0.length ≤ c0_0) (hr0_1 : Kd.C (Kd.int .u8) w A0_1 l0_1.length l0_1) (hc0_1 : l0_1.length ≤ c0_1) (hr0_5 : Kd.C k104 w A0_5 l0_5.length l0_5) (hc0_5 : l0_5.length ≤ c0_5) (h : impl_Fall.f k l0_0 l0_1 a0_2 a0_3 a0_4 l0_5 a1 = some (r1, r2, r3, r4, r5, r6)) :
    Calls Try.prog 22 #[.agg #[.slice A0_0 l0_0.length c0_0, .slice A0_1 l0_1.length c0_1, .int .i64 a0_2, .int .i64 a0_3, .int .i64 a0_4, .slice A0_5 l0_5.length c0_5], .int .i64 a1] w fun e w' => ∃ v0_ v1_ v5_ : Value, e = .returned (.agg #[v0_, v1_, .int .i64 r3, .int .i64 r4, .int .i64 r5, v5_]) ∧ Kd.R (Kd.int .u8) 5 w' w.heap.size (fun k_ => some k_ ≠ (v1_ : Value).ownBlock) v0_ r1 ∧ Kd.R (Kd.int .u8) 5 w' w.heap.size (fun k_ => some k_ ≠ (v0_ : Value).ownBlock) v1_ r2 ∧ Kd.S k104 104 w' w.heap.size (fun k_ => some k_ ≠ (v0_ : Value).ownBlock ∧ some k_ ≠ (v1_ : Value).ownBlock) v5_ r6 ∧ Below w.heap.size w w' := by
  have hu47 := Try.underlying47
  have HR0 := aM (And.intro hr0_0 hc0_0)
  have HR1 := aM (And.intro hr0_1 hc0_1)
  have HR5 := aM (And.intro hr0_5 hc0_5)
  have HB := aM (Below.refl w.heap.size w)
  have H1 := aM (show impl_Disk_settled.f k (fun _ i => impl_InSet.f a1 i) l0_0 l0_1 a0_2 a0_3 a0_4 l0_5 = some (r1, r2, r3, r4, r5, r6) from h)
  clear hr0_0 hc0_0 hr0_1 hc0_1 hr0_5 hc0_5 h
  go_enter Try.func22, Try.ntmps22
  go_wp2_with (first | ((with_reducible refine gate_dst (N := 2) rfl ?_); refine gBx 2 #[.slice A0_0 l0_0.length c0_0, .slice A0_1 l0_1.length c0_1, .int .i64 a0_2, .int .i64 a0_3, .int .i64 a0_4, .slice A0_5 l0_5.length c0_5] 47 ?_; intro g2 hg w2 hbox hb; have B2 := aM hbox; replace HB := aM (below_step HB.out hb); clear hb hbox hg; (simp only [Act.put, List.setIfInBounds_toArray, List.set_cons_zero, List.set_cons_succ])) | ((with_reducible refine gate_dst (N := 3) rfl ?_); refine gBx 3 #[.int .i64 a1] 3 ?_; intro g3 hg w2 hbox hb; have B3 := aM hbox; replace B2 := aM (blk_below B2.out hb); replace HB := aM (below_step HB.out hb); clear hb hbox hg; (simp only [Act.put, List.setIfInBounds_toArray, List.set_cons_zero, List.set_cons_succ])) | ((with_reducible refine gate_dst (N := 4) rfl ?_); refine gBx 4 #[.slice none 0 0, .slice none 0 0, .int .i64 0, .int .i64 0, .int .i64 0, .slice none 0 0] 47 ?_; intro g4 hg w2 hbox hb; have B4 := aM hbox; have HG4 := aM (show w.heap.size ≤ g4 by rw [hg]; exact HB.out.size); replace B2 := aM (blk_below B2.out hb); replace B3 := aM (blk_below B3.out hb); replace HB := aM (below_step HB.out hb); clear hb hbox hg; (simp only [Act.put, List.setIfInBounds_toArray, List.set_cons_zero, List.set_cons_succ])) | ((with_reducible refine gate_dst (N := 5) rfl ?_); refine gLd 5 B2.out ?_; (simp only [Act.put, List.setIfInBounds_toArray, List.set_cons_zero, List.set_cons_succ])) | ((with_reducible refine gate_callee (f := 51) rfl ?_); refine gL (some 7) Try.func51 #[.agg #[.slice A0_0 l0_0.length c0_0, .slice A0_1 l0_1.length c0_1, .int .i64 a0_2, .int .i64 a0_3, .int .i64 a0_4, .slice A0_5 l0_5.length c0_5], .func (.func 53) #[] #[.pointer (some ⟨g3, 0, none⟩)]] ?_; refine (impl_Disk_settled.calls (fun _ i => impl_InSet.f a1 i) 53 Try.f53 #[.pointer (some ⟨g3, 0, none⟩)] _ _ l0_0 _ _ l0_1 a0_2 a0_3 a0_4 _ _ l0_5 r1 r2 r3 r4 r5 r6 _ (Kd.C_below HR0.out.1 HB.out) HR0.out.2 (Kd.C_below HR1.out.1 HB.out) HR1.out.2 (Kd.C_below HR5.out.1 HB.out) HR5.out.2 Try.func53 (by kernel_rfl) rfl (fun _ i t w' hb' ht => calls_of_args (by rfl) ((impl_Fall_1.calls g3 a1 i t w' (blk_below B3.out hb') ht).mono (fun e w2 q => ⟨q.1, q.2.below⟩))) H1.out).mono ?_; rintro e w5 ⟨vA, vB, vP, rfl, ho1, ho2, ho3, hb⟩; refine ⟨_, rfl, ?_⟩; have HD := aM (show Dsk w5 w.heap.size vA vB vP r1 r2 r6 from ⟨Kd.R_lower ho1 HB.out.size, Kd.R_lower ho2 HB.out.size, Kd.S_lower ho3 HB.out.size⟩); replace B4 := aM (blk_below B4.out hb); replace HB := aM (below_step HB.out hb); clear ho1 ho2 ho3 hb; obtain ⟨A1', c1', h1'⟩ := Kd.R_slice HD.out.1; subst h1'; obtain ⟨A2', c2', h2'⟩ := Kd.R_slice HD.out.2.1; subst h2'; obtain ⟨A3', c3', h3'⟩ := Kd.S_slice HD.out.2.2; subst h3'; (simp only [Act.put, List.setIfInBounds_toArray, List.set_cons_zero, List.set_cons_succ])) | ((with_reducible refine gate_store (t := 47) (p := 4) rfl ?_); refine gSt [.slice A1' r1.length c1', .slice A2' r2.length c2', .int .i64 r3, .int .i64 r4, .int .i64 r5, .slice A3' r6.length c3'] #[.slice A1' r1.length c1', .slice A2' r2.length c2', .int .i64 r3, .int .i64 r4, .int .i64 r5, .slice A3' r6.length c3'] B4.out ?_; intro w10 hw hbox; replace HD := aM (HD.out.off B4.out hw); replace B4 := aM hbox; replace HB := aM (hw.below HB.out HG4.out); clear hw hbox))
  refine bodyPost_ret (results_cell_row rfl _ _ g4 47 _ (0, 0) _ rfl B4.out hu47 rfl (by kernel_rfl)) rfl ?_
  exact ⟨_, _, _, rfl, HD.out.1, HD.out.2.1, HD.out.2.2, HB.out⟩

def laws_at.f (l0 : List Int) (a1 : Int) : Option (Int) := if a1 < (l0.length : Int) then (if 0 ≤ a1 then (some (wrap64 (rd l0 a1))) else (none)) else (some (Int.tmod (wrap64 ((wrap64 (a1 * 31)) + (wrap64 ((l0.length : Int) * 7)))) 256))
set_option maxHeartbeats 40000000 in
set_option maxRecDepth 100000 in
theorem laws_at.calls {A0 : Option Addr} {c0 : Nat} {l0 : List Int} {a1 : Int} {r : Int} {w : World} (hr0 : Kd.C (Kd.int .u8) w A0 l0.length l0) (hc0 : l0.length ≤ c0) (h : laws_at.f l0 a1 = some r) :
    Calls Try.prog 23 #[.slice A0 l0.length c0, .int .i64 a1] w fun e w' => e = .returned (.int .i64 r) ∧ Drawn0 w w' := by
  have HR0 := aM hr0
  have HC0 := aM hc0
  clear hr0 hc0
  have H := h
  clear h
  unfold laws_at.f at H
  by_cases c3 : a1 < (l0.length : Int)
  · rw [if_pos c3] at H
    have c3b0 : decide (a1 < (l0.length : Int)) = true := decide_eq_true c3
    clear c3
    replace H := ifN H
    obtain ⟨c4, H⟩ := H
    have c4b0 : decide (0 ≤ a1) = true := decide_eq_true c4
    clear c4
    obtain rfl := o_I H
    have p851 : 0 ≤ (a1 : Int) := DT
    have q851 : a1 < (l0.length : Int) := DT
    obtain ⟨ad851, e851, hx851_0⟩ := Kd.at_int HR0.out a1 p851 q851
    cases e851
    replace p851 := eq_true p851
    replace q851 := eq_true q851
    go_enter Try.func23, Try.ntmps23
    go_wp2
    go_ret
    exact ⟨by first | rfl | (simp; done) | (simp [*]; done), TD⟩
  · rw [if_neg c3] at H
    have c3b0 : decide (a1 < (l0.length : Int)) = false := decide_eq_false c3
    clear c3
    obtain rfl := o_I H
    go_enter Try.func23, Try.ntmps23
    go_wp2
    go_ret
    exact ⟨by first | rfl | (simp; done) | (simp [*]; done), TD⟩

def impl_Recover.f (k : Nat) (l0_0 : List Int) (l0_1 : List Int) (a0_2 : Int) (a0_3 : Int) (a0_4 : Int) (l0_5 : List (S104)) : Option (Int × List Int) := (impl_DiskOk.f k l0_0 l0_1 a0_2 a0_3 a0_4 l0_5).bind fun t853 => (if t853 = true then (if a0_3 = 0 then ((impl_Disk_slot.f a0_3 0).bind fun _ => (if 0 ≤ a0_4 then (if a0_4 ≤ (l0_0.length : Int) then ((impl_cloned.f (l0_0.take (a0_4 : Int).toNat)).bind fun t855 => (some (a0_2, t855))) else (none)) else (none))) else ((impl_Disk_slot.f a0_3 1).bind fun _ => (if 0 ≤ a0_4 then (if a0_4 ≤ (l0_1.length : Int) then ((impl_cloned.f (l0_1.take (a0_4 : Int).toNat)).bind fun t859 => (some (a0_2, t859))) else (none)) else (none)))) else (some (0, ([] : List Int))))
theorem impl_Recover.mono : ∀ a0 a1 a2 a3 a4 a5 k, LeO (impl_Recover.f k a0 a1 a2 a3 a4 a5) (impl_Recover.f (k + 1) a0 a1 a2 a3 a4 a5) := by
  intro a0 a1 a2 a3 a4 a5 k;have m0_ := @impl_DiskOk.mono;unfold impl_Recover.f;exact LM
def impl_Recover.T3 : Bool × List (List Nat × List Nat) := (true, [([], []), ([0], [0]), ([1], [1]), ([], []), ([3], [3]), ([4], [4]), ([5], [5]), ([6], [6]), ([7], [7]), ([], []), ([9], [9]), ([10], [10]), ([8, 11], [8, 11]), ([12, 6], [12]), ([2, 13, 0, 1, 2], [2]), ([13, 14, 0, 1, 2, 3, 4, 5, 6, 7, 8, 9, 10, 11, 12, 13, 14], [13])])
def impl_Recover.B3 : List Nat := [0, 1, 3, 0, 8, 24, 56, 120, 248, 0, 512, 1536, 4088, 8184, 16383, 32767]
theorem impl_Recover.tab3 : rtab .any (opsOf Try.f78 3) = impl_Recover.T3 := by kernel_rfl
theorem impl_Recover.bits3 : waitsOk impl_Recover.T3.2 impl_Recover.B3 = true := by kernel_rfl
set_option maxHeartbeats 40000000 in
set_option maxRecDepth 100000 in
theorem impl_Recover.calls {k : Nat} {A0_0 : Option Addr} {c0_0 : Nat} {l0_0 : List Int} {A0_1 : Option Addr} {c0_1 : Nat} {l0_1 : List Int} {a0_2 : Int} {a0_3 : Int} {a0_4 : Int} {A0_5 : Option Addr} {c0_5 : Nat} {l0_5 : List (S104)} {r1 : Int} {r2 : List Int} {w : World} (hr0_0 : Kd.C (Kd.int .u8) w A0_0 l0_0.length l0_0) (hc0_0 : l0_0.length ≤ c0_0) (hr0_1 : Kd.C (Kd.int .u8) w A0_1 l0_1.length l0_1) (hc0_1 : l0_1.length ≤ c0_1) (hr0_5 : Kd.C k104 w A0_5 l0_5.length l0_5) (hc0_5 : l0_5.length ≤ c0_5) (h : impl_Recover.f k l0_0 l0_1 a0_2 a0_3 a0_4 l0_5 = some (r1, r2)) :
    Calls Try.prog 78 #[.agg #[.slice A0_0 l0_0.length c0_0, .slice A0_1 l0_1.length c0_1, .int .i64 a0_2, .int .i64 a0_3, .int .i64 a0_4, .slice A0_5 l0_5.length c0_5]] w fun e w' => ∃ v1_ : Value, e = .returned (.tuple #[.int .i64 r1, v1_]) ∧ Kd.R (Kd.int .u8) 5 w' w.heap.size (fun _ => True) v1_ r2 ∧ Below w.heap.size w w' := by
  have hu47 := Try.underlying47
  have HR0_0 := aM hr0_0
  have HC0_0 := aM hc0_0
  clear hr0_0 hc0_0
  have HR0_1 := aM hr0_1
  have HC0_1 := aM hc0_1
  clear hr0_1 hc0_1
  have HR0_5 := aM hr0_5
  have HC0_5 := aM hc0_5
  clear hr0_5 hc0_5
  have HB := aM (Below.refl w.heap.size w)
  have H := h
  clear h
  unfold impl_Recover.f at H
  replace H := bE H
  obtain ⟨t853, A2, H⟩ := H
  go_enter Try.func78, Try.ntmps78
  go_wp2_with (first | ((with_reducible refine gate_dst (N := 1) rfl ?_); refine gBx 1 #[.slice A0_0 l0_0.length c0_0, .slice A0_1 l0_1.length c0_1, .int .i64 a0_2, .int .i64 a0_3, .int .i64 a0_4, .slice A0_5 l0_5.length c0_5] 47 ?_; intro gb852 hg w4 hbox hb; have BK852 := aM (hbox); have GW852 := gW HB hg; have GE852 := gW HB hg; replace HB := bS HB hb; clear hb hbox hg; obtain ⟨hcz5_0, hcz5_1, hcz5_2, hcz5_3, hcz5_4, hcz5_5⟩ := cz6 BK852.out; obtain ⟨hfz5_0, hfz5_1, hfz5_2, hfz5_3, hfz5_4, hfz5_5⟩ := fz6 BK852.out) | ((with_reducible refine gate_callee (f := 72) rfl ?_); refine gL (some 5) Try.func72 #[.agg #[.slice A0_0 l0_0.length c0_0, .slice A0_1 l0_1.length c0_1, .int .i64 a0_2, .int .i64 a0_3, .int .i64 a0_4, .slice A0_5 l0_5.length c0_5]] ?_; (with_reducible refine (impl_DiskOk.calls ?side1 ?side2 ?side3 ?side4 ?side5 ?side6 A2.out).mono ?_); (case side1 => have X_ := (Kd.C_below HR0_0.out HB.out); exact TC); (case side2 => exact HC0_0.out); (case side3 => have X_ := (Kd.C_below HR0_1.out HB.out); exact TC); (case side4 => exact HC0_1.out); (case side5 => have X_ := (Kd.C_below HR0_5.out HB.out); exact TC); (case side6 => exact HC0_5.out); rintro e w6 ⟨rfl, hb⟩; refine ⟨_, rfl, ?_⟩; replace BK852 := mB BK852 hb; replace HB := bS HB hb; clear hb) | ((with_reducible refine gate_dst (N := 6) rfl ?_); generalize hG_ : wpList _ _ _ _ _ _ = G_))
  subst hG_
  by_cases c7 : t853 = true
  · subst c7
    replace H := ifT H
    by_cases c8 : a0_3 = 0
    · rw [if_pos c8] at H
      have c8b0 : (a0_3 == 0) = true := beq_iff_eq.mpr c8
      have c8b1 : (a0_3 != 0) = false := bne_eq_false_iff_eq.mpr c8
      clear c8
      replace H := bE H
      obtain ⟨_, A9, H⟩ := H
      replace H := ifN H
      obtain ⟨c10, H⟩ := H
      have c10b0 := eq_true c10
      have c10b1 : decide (0 ≤ a0_4) = true := decide_eq_true c10
      clear c10
      replace H := ifN H
      obtain ⟨c11, H⟩ := H
      have c11b0 := eq_true c11
      have c11b1 : decide (a0_4 ≤ (l0_0.length : Int)) = true := decide_eq_true c11
      clear c11
      replace H := bE H
      obtain ⟨t855, A12, H⟩ := H
      simp only [Option.some.injEq, Prod.mk.injEq] at H
      obtain ⟨rfl, rfl⟩ := H
      try go_wp2
      (try (rw [drewN_self w6]; generalize hq_ : World.drewN w6 _ = w6; have n0_ : Aside0 (w6.heap[gb852]? = some (.cells #[.slice A0_0 l0_0.length c0_0, .slice A0_1 l0_1.length c0_1, .int .i64 a0_2, .int .i64 a0_3, .int .i64 a0_4, .slice A0_5 l0_5.length c0_5] 47 (0, 0))) := ⟨by rw [← hq_]; exact TK⟩; have n1_ : Aside0 (Below w.heap.size w w6) := ⟨by rw [← hq_]; exact TB⟩; clear BK852 HB hq_; have BK852 := n0_; have HB := n1_; clear n0_ n1_))
      replace BK852 := bD BK852
      replace HB := aM (below_drew1 HB.out)
      refine st_ (n := 16) (ds := []) (Array.replicate 16 false) (hK6 BK852.out) (by kernel_rfl) rfl rfl (fun hHeld => ?_); refine with_tabW impl_Recover.tab3 impl_Recover.bits3 (fun HT_ HW_ => ?_)
      generalize w6.drew = w13 at BK852 HB hHeld ⊢
      refine ppq 0 7 ?_
      refine ppq 1 8 ?_
      refine ppq 3 10 ?_
      refine ppq 4 11 ?_
      refine ppq 9 16 ?_
      refine ppq 10 17 ?_
      refine ptq 2 9 ?_
      refine ptq 5 12 ?_
      refine ptq 11 18 ?_
      refine poq 6 13 (fun K hK => ?_)
      refine gG Try.func87 #[.pointer (some ⟨gb852, 0, none⟩), .int .i64 a0_3] ?_
      with_reducible refine (impl_Disk_slot.calls  _ A9.out).mono ?_
      rintro e w' ⟨rfl, ⟨nd, rfl⟩⟩
      refine ⟨_, rfl, ?_⟩
      obtain ⟨i014, hi014, _, hsz14, _⟩ := info_parts info5
      obtain ⟨hcut14, hA14, hC14⟩ := print_take_of (P := Try.prog) (Value.int .u8) 0 22 5 .i64 Try.underlying22 hi014 hsz14 A0_0 c0_0 l0_0 a0_4 DT DT HC0_0.out
      have HR854 := aM (Kd.C_of_reads (h1 := fun _ => rfl) (hA14 _ (Kd.reads_of_C HR0_0.out)))
      have HC854 := aM hC14
      clear hA14 hC14 hi014 hsz14
      refine hK.out _ _ (cz6 BK852.out) (fun hHeld => ?_)
      clear hK K
      refine nR ?_
      refine ppq 7 14 ?_
      refine ptq 8 15 ?_
      refine ppq 12 19 ?_
      refine poq 13 20 (fun K hK => ?_)
      refine goes_ Try.func46 (by kernel_rfl) rfl #[.slice A0_0 (l0_0.take (a0_4 : Int).toNat).length c0_0] (by rfl) rfl rfl (by (try simp only [List.map_toArray, List.map_cons, List.map_nil]); first | done | (rw [show (l0_0.take (a0_4 : Int).toNat).length = a0_4.toNat from (by rw [List.length_take]; have h_ : (a0_4 : Int) ≤ (l0_0.length : Int) := DT; omega)] <;> rfl) | rfl | (simp only [List.length_drop, List.length_take]; rfl)) ?_
      with_reducible refine (impl_cloned.calls ?side1 ?side2 A12.out).mono ?_
      (case side1 => repeat (first | exact (Kd.C_below HR854.out TB) | (with_reducible refine Kd.C_alloc ?_ _) | (with_reducible refine Kd.C_drewN ?_ _) | (with_reducible refine Kd.C_drew ?_)))
      (case side2 => exact HC854.out)
      rintro e w15 ⟨v856, rfl, ho0, hb⟩
      refine ⟨_, rfl, ?_⟩
      replace HO857 := aM (Kd.R_lower ho0 (below_size TB))
      replace BK852 := mB BK852 hb
      replace HB := bS HB hb
      (try clear hb)
      (try clear hb2)
      (try clear hk)
      (try clear hi)
      (try clear ho0)
      refine hK.out _ _ (cz6 BK852.out) (fun hHeld => ?_)
      clear hK K
      refine nR ?_
      refine ppq 14 2 ?_
      refine ppq 15 3 ?_
      refine done_ (done_of HT_.out (by kernel_rfl)) ?_
      try go_wp2
      go_ret2
      exact ⟨_, TE, by have X_ := HO857.out; exact TR, TB⟩
    · rw [if_neg c8] at H
      have c8b0 : (a0_3 == 0) = false := beq_eq_false_iff_ne.mpr c8
      have c8b1 : (a0_3 != 0) = true := bne_iff_ne.mpr c8
      replace H := bE H
      obtain ⟨_, A16, H⟩ := H
      replace H := ifN H
      obtain ⟨c17, H⟩ := H
      have c17b0 := eq_true c17
      have c17b1 : decide (0 ≤ a0_4) = true := decide_eq_true c17
      clear c17
      replace H := ifN H
      obtain ⟨c18, H⟩ := H
      have c18b0 := eq_true c18
      have c18b1 : decide (a0_4 ≤ (l0_1.length : Int)) = true := decide_eq_true c18
      clear c18
      replace H := bE H
      obtain ⟨t859, A19, H⟩ := H
      simp only [Option.some.injEq, Prod.mk.injEq] at H
      obtain ⟨rfl, rfl⟩ := H
      try go_wp2
      (try (rw [drewN_self w6]; generalize hq_ : World.drewN w6 _ = w6; have n0_ : Aside0 (w6.heap[gb852]? = some (.cells #[.slice A0_0 l0_0.length c0_0, .slice A0_1 l0_1.length c0_1, .int .i64 a0_2, .int .i64 a0_3, .int .i64 a0_4, .slice A0_5 l0_5.length c0_5] 47 (0, 0))) := ⟨by rw [← hq_]; exact TK⟩; have n1_ : Aside0 (Below w.heap.size w w6) := ⟨by rw [← hq_]; exact TB⟩; clear BK852 HB hq_; have BK852 := n0_; have HB := n1_; clear n0_ n1_))
      replace BK852 := bD BK852
      replace HB := aM (below_drew1 HB.out)
      refine st_ (n := 16) (ds := []) (Array.replicate 16 false) (hK6 BK852.out) (by kernel_rfl) rfl rfl (fun hHeld => ?_); refine with_tabW impl_Recover.tab3 impl_Recover.bits3 (fun HT_ HW_ => ?_)
      generalize w6.drew = w20 at BK852 HB hHeld ⊢
      refine ppq 0 7 ?_
      refine ppq 1 8 ?_
      refine ppq 3 10 ?_
      refine ppq 4 11 ?_
      refine ppq 9 16 ?_
      refine ppq 10 17 ?_
      refine ptq 2 9 ?_
      refine ptq 5 12 ?_
      refine ptq 11 18 ?_
      refine poq 6 13 (fun K hK => ?_)
      refine gG Try.func87 #[.pointer (some ⟨gb852, 0, none⟩), .int .i64 a0_3] ?_
      with_reducible refine (impl_Disk_slot.calls  _ A16.out).mono ?_
      rintro e w' ⟨rfl, ⟨nd, rfl⟩⟩
      refine ⟨_, rfl, ?_⟩
      obtain ⟨i021, hi021, _, hsz21, _⟩ := info_parts info5
      obtain ⟨hcut21, hA21, hC21⟩ := print_take_of (P := Try.prog) (Value.int .u8) 0 22 5 .i64 Try.underlying22 hi021 hsz21 A0_1 c0_1 l0_1 a0_4 DT DT HC0_1.out
      have HR858 := aM (Kd.C_of_reads (h1 := fun _ => rfl) (hA21 _ (Kd.reads_of_C HR0_1.out)))
      have HC858 := aM hC21
      clear hA21 hC21 hi021 hsz21
      refine hK.out _ _ (cz6 BK852.out) (fun hHeld => ?_)
      clear hK K
      refine nR ?_
      refine ppq 7 14 ?_
      refine ptq 8 15 ?_
      refine ppq 12 19 ?_
      refine poq 13 20 (fun K hK => ?_)
      refine goes_ Try.func46 (by kernel_rfl) rfl #[.slice A0_1 (l0_1.take (a0_4 : Int).toNat).length c0_1] (by rfl) rfl rfl (by (try simp only [List.map_toArray, List.map_cons, List.map_nil]); first | done | (rw [show (l0_1.take (a0_4 : Int).toNat).length = a0_4.toNat from (by rw [List.length_take]; have h_ : (a0_4 : Int) ≤ (l0_1.length : Int) := DT; omega)] <;> rfl) | rfl | (simp only [List.length_drop, List.length_take]; rfl)) ?_
      with_reducible refine (impl_cloned.calls ?side1 ?side2 A19.out).mono ?_
      (case side1 => repeat (first | exact (Kd.C_below HR858.out TB) | (with_reducible refine Kd.C_alloc ?_ _) | (with_reducible refine Kd.C_drewN ?_ _) | (with_reducible refine Kd.C_drew ?_)))
      (case side2 => exact HC858.out)
      rintro e w22 ⟨v860, rfl, ho0, hb⟩
      refine ⟨_, rfl, ?_⟩
      replace HO861 := aM (Kd.R_lower ho0 (below_size TB))
      replace BK852 := mB BK852 hb
      replace HB := bS HB hb
      (try clear hb)
      (try clear hb2)
      (try clear hk)
      (try clear hi)
      (try clear ho0)
      refine hK.out _ _ (cz6 BK852.out) (fun hHeld => ?_)
      clear hK K
      refine nR ?_
      refine ppq 14 2 ?_
      refine ppq 15 3 ?_
      refine done_ (done_of HT_.out (by kernel_rfl)) ?_
      try go_wp2
      go_ret2
      exact ⟨_, TE, by have X_ := HO861.out; exact TR, TB⟩
  · replace c7 := b_F c7
    subst c7
    replace H := ifF H
    simp only [Option.some.injEq, Prod.mk.injEq] at H
    obtain ⟨rfl, rfl⟩ := H
    go_wp2
    go_ret2
    exact ⟨_, TE, by first | exact Kd.R_nil _ _ _ _ _ | exact Kd.N_nil _ _ _ _ _ | exact Kd.V_nil _ _ _ _ _ | exact Kd.Q_nil _ _ _ _ _ | exact Kd.S_nil _ _ _ _ _, TB⟩

def bytes_Equal.f (l0 : List Int) (l1 : List Int) : Option (Bool) := some ((strOfNums l0).toList == (strOfNums l1).toList)
set_option maxHeartbeats 40000000 in
set_option maxRecDepth 100000 in
theorem bytes_Equal.calls {A0 : Option Addr} {c0 : Nat} {l0 : List Int} {A1 : Option Addr} {c1 : Nat} {l1 : List Int} {r : Bool} {w : World} (hr0 : Kd.C (Kd.int .u8) w A0 l0.length l0) (hc0 : l0.length ≤ c0) (hr1 : Kd.C (Kd.int .u8) w A1 l1.length l1) (hc1 : l1.length ≤ c1) (h : bytes_Equal.f l0 l1 = some r) :
    Calls Try.prog 92 #[.slice A0 l0.length c0, .slice A1 l1.length c1] w fun e w' => e = .returned (.bool r) ∧ Drawn0 w w' := by
  have HR0 := aM hr0
  have HC0 := aM hc0
  clear hr0 hc0
  have HR1 := aM hr1
  have HC1 := aM hc1
  clear hr1 hc1
  have H := h
  clear h
  unfold bytes_Equal.f at H
  obtain rfl := o_I H
  have hcv3 := Kd.C_string (P := Try.prog) (A := A0) (c := c0) Try.underlying22 Try.underlying5 Try.underlying9 HR0.out
  have hcv4 := Kd.C_string (P := Try.prog) (A := A1) (c := c1) Try.underlying22 Try.underlying5 Try.underlying9 HR1.out
  go_enter Try.func92, Try.ntmps92
  go_wp2
  go_ret
  exact ⟨by first | rfl | (simp; done) | (simp [*]; done), TD⟩

def impl_SameBytes.f (l0 : List Int) (l1 : List Int) : Option (Bool) := (bytes_Equal.f l0 l1).bind fun t862 => (some t862)
set_option maxHeartbeats 40000000 in
set_option maxRecDepth 100000 in
theorem impl_SameBytes.calls {A0 : Option Addr} {c0 : Nat} {l0 : List Int} {A1 : Option Addr} {c1 : Nat} {l1 : List Int} {r : Bool} {w : World} (hr0 : Kd.C (Kd.int .u8) w A0 l0.length l0) (hc0 : l0.length ≤ c0) (hr1 : Kd.C (Kd.int .u8) w A1 l1.length l1) (hc1 : l1.length ≤ c1) (h : impl_SameBytes.f l0 l1 = some r) :
    Calls Try.prog 79 #[.slice A0 l0.length c0, .slice A1 l1.length c1] w fun e w' => e = .returned (.bool r) ∧ Drawn0 w w' := by
  have HR0 := aM hr0
  have HC0 := aM hc0
  clear hr0 hc0
  have HR1 := aM hr1
  have HC1 := aM hc1
  clear hr1 hc1
  have H := h
  clear h
  unfold impl_SameBytes.f at H
  replace H := bE H
  obtain ⟨t862, A3, H⟩ := H
  obtain rfl := o_I H
  go_enter Try.func79, Try.ntmps79
  go_wp2_with (first | ((with_reducible refine gate_callee (f := 92) rfl ?_); refine gL (some 7) Try.func92 #[.slice A0 l0.length c0, .slice A1 l1.length c1] ?_; (with_reducible refine (bytes_Equal.calls ?side1 ?side2 ?side3 ?side4 A3.out).mono ?_); (case side1 => have X_ := HR0.out; exact TC); (case side2 => exact HC0.out); (case side3 => have X_ := HR1.out; exact TC); (case side4 => exact HC1.out); rintro e w' ⟨rfl, ⟨nd, rfl⟩⟩; refine ⟨_, rfl, ?_⟩))
  go_ret
  exact ⟨by first | rfl | (simp; done) | (simp [*]; done), TD⟩

def impl_Holds.f (k : Nat) (l0_0 : List Int) (l0_1 : List Int) (a0_2 : Int) (a0_3 : Int) (a0_4 : Int) (l0_5 : List (S104)) (a1 : Int) (l2 : List Int) : Option (Bool) := (impl_Recover.f k l0_0 l0_1 a0_2 a0_3 a0_4 l0_5).bind fun bt864 => (if bt864.1 = a1 then ((impl_SameBytes.f bt864.2 l2).bind fun t868 => (some t868)) else (some false))
theorem impl_Holds.mono : ∀ a0 a1 a2 a3 a4 a5 a6 a7 k, LeO (impl_Holds.f k a0 a1 a2 a3 a4 a5 a6 a7) (impl_Holds.f (k + 1) a0 a1 a2 a3 a4 a5 a6 a7) := by
  intro a0 a1 a2 a3 a4 a5 a6 a7 k;have m0_ := @impl_Recover.mono;unfold impl_Holds.f;exact LM
set_option maxHeartbeats 40000000 in
set_option maxRecDepth 100000 in
theorem impl_Holds.calls {k : Nat} {aj : Option Addr} {ai : Nat} {ab : List Int} {ah : Option Addr} {ak : Nat} {aa : List Int} {af : Int} {ae : Int} {ad : Int} {al : Option Addr} {ag : Nat} {ac : List (S104)} {a1 : Int} {A2 : Option Addr} {c2 : Nat} {l2 : List Int} {r : Bool} {w : World} (az : Kd.C (Kd.int .u8) w aj ab.length ab) (au : ab.length ≤ ai) (ao : Kd.C (Kd.int .u8) w ah aa.length aa) (an : aa.length ≤ ak) (am : Kd.C k104 w al ac.length ac) (ar : ac.length ≤ ag) (hr2 : Kd.C (Kd.int .u8) w A2 l2.length l2) (hc2 : l2.length ≤ c2) (h : impl_Holds.f k ab aa af ae ad ac a1 l2 = some r) :
  Calls Try.prog 54 #[.agg #[.slice aj ab.length ai, .slice ah aa.length ak, .int .i64 af, .int .i64 ae, .int .i64 ad, .slice al ac.length ag], .int .i64 a1, .slice A2 l2.length c2] w fun e w' => e = .returned (.bool r) ∧ Below w.heap.size w w' := by
 have hu47 := Try.underlying47;have ax := aM az;have ay := aM au;clear az au;have aw := aM ao;have aq := aM an;clear ao an;have ap := aM am;have av := aM ar;clear am ar;have HRq1 := aM hr2;have HCq1 := aM hc2;clear hr2 hc2;have HB := aM (Below.refl w.heap.size w);have H := h;clear h;unfold impl_Holds.f at H;replace H := bE H;obtain ⟨⟨tq1, tq2⟩, Aq1, H⟩ := H;dsimp only at H;go_enter Try.func54, Try.ntmps54;go_wp2_with (first | ((with_reducible refine gate_dst (N := 3) rfl ?_); refine gBx 3 #[.slice aj ab.length ai, .slice ah aa.length ak, .int .i64 af, .int .i64 ae, .int .i64 ad, .slice al ac.length ag] 47 ?_; intro gbq1 hg w5 hbox hb; have BKq1 := aM (hbox); have GWq1 := gW HB hg; have GEq1 := gW HB hg; replace HB := bS HB hb; clear hb hbox hg; obtain ⟨hczq1, hczq2, hczq3, hczq4, hczq5, hczq6⟩ := cz6 BKq1.out; obtain ⟨hfzq1, hfzq2, hfzq3, hfzq4, hfzq5, hfzq6⟩ := fz6 BKq1.out) | ((with_reducible refine gate_callee (f := 78) rfl ?_); (with_reducible refine gate_dst (N := 11) rfl ?_); generalize hG_ : wpList _ _ _ _ _ _ = G_))
 subst hG_
 by_cases c7 : tq1 = a1
 ·rw [if_pos c7] at H;have cq1 : (tq1 == a1) = true := beq_iff_eq.mpr c7;have cq2 : (tq1 != a1) = false := bne_eq_false_iff_eq.mpr c7;clear c7;replace H := bE H;obtain ⟨t868, Aq2, H⟩ := H;obtain rfl := o_I H;go_wp2_with (first | ((with_reducible refine gate_callee (f := 78) rfl ?_); refine gL (some 11) Try.func78 #[.agg #[.slice aj ab.length ai, .slice ah aa.length ak, .int .i64 af, .int .i64 ae, .int .i64 ad, .slice al ac.length ag]] ?_; (with_reducible refine (impl_Recover.calls ?side1 ?side2 ?side3 ?side4 ?side5 ?side6 Aq1.out).mono ?_); (case side1 => exact Zq32_0); (case side2 => exact ay.out); (case side3 => exact Zq32_1); (case side4 => exact aq.out); (case side5 => exact Zq32_2); (case side6 => exact av.out); rintro e wq1 ⟨vq1, rfl, ho0, hb⟩; refine ⟨_, rfl, ?_⟩; have HOq1 := aM (Kd.R_lower ho0 (below_size TB)); replace BKq1 := mB BKq1 hb; replace HB := bS HB hb; clear ho0 hb; obtain ⟨Aoq1, coq1, eoq1⟩ := Kd.R_slice HOq1.out; subst eoq1) | (go_at_call 79; (with_reducible refine (impl_SameBytes.calls ?side1 ?side2 ?side3 ?side4 Aq2.out).mono ?_); (case side1 => have X_ := (Kd.R_reads' HOq1.out).2.2; exact TC); (case side2 => exact (Kd.R_reads' HOq1.out).2.1); (case side3 => have X_ := (Kd.C_below HRq1.out HB.out); exact TC); (case side4 => exact HCq1.out); rintro e w' ⟨rfl, ⟨nd, rfl⟩⟩))
  go_ret
  exact ⟨TE, TB⟩
 ·rw [if_neg c7] at H;have cq1 : (tq1 == a1) = false := beq_eq_false_iff_ne.mpr c7;have cq2 : (tq1 != a1) = true := bne_iff_ne.mpr c7;obtain rfl := o_I H;go_wp2_with (first | ((with_reducible refine gate_callee (f := 78) rfl ?_); refine gL (some 11) Try.func78 #[.agg #[.slice aj ab.length ai, .slice ah aa.length ak, .int .i64 af, .int .i64 ae, .int .i64 ad, .slice al ac.length ag]] ?_; (with_reducible refine (impl_Recover.calls ?side1 ?side2 ?side3 ?side4 ?side5 ?side6 Aq1.out).mono ?_); (case side1 => exact Zq32_0); (case side2 => exact ay.out); (case side3 => exact Zq32_1); (case side4 => exact aq.out); (case side5 => exact Zq32_2); (case side6 => exact av.out); rintro e wq1 ⟨vq1, rfl, ho0, hb⟩; refine ⟨_, rfl, ?_⟩; have HOq1 := aM (Kd.R_lower ho0 (below_size TB)); replace BKq1 := mB BKq1 hb; replace HB := bS HB hb; clear ho0 hb))
  go_ret
  exact ⟨TE, TB⟩

end Go.Proofs.Ytaofakpljnkplaa.Q
