/- Functions of the program as plain Lean functions, and that a call of each comes to what its function tells. -/
import Derived.Test.YtfkndpjbkndhcaaProg
import Derived.Below
import Derived.Deep.Draws
import Derived.Deep.AppendLies
import Derived.Maps.AppendAt
import Derived.OwnWalk
import Derived.Laws.BytesArg
import Derived.Laws.MakeOwn
import Derived.Laws.OwnMore
import Derived.Deep.OwnRows
import Derived.Tactics
import Derived.Lib.ConvBytes
import Derived.Laws.Slices
import Derived.WalkKit
import Derived.KernelRfl
import Derived.RowKit3
import Derived.Deep.LoopGhost
import Derived.Deep.QuietTactic
import Derived.BigQuiet
import Derived.WideLaws
import Derived.Deep.DeepCutAuto
import Derived.Deep.CutBlock
import Derived.Deep.RegionHeld3
import Derived.Laws.Rows
import Derived.Lib.AppendStr
import Derived.ArgAppend
import Derived.Laws.IdiomCopy
import Derived.OrdersHeld
import Derived.Laws.BitsLemmas
import Derived.RowKit
import Derived.Test.YtfkndpjbkndhcaaSq
import Derived.Test.YtfkndpjbkndhcaaSp
import Derived.Test.YtfkndpjbkndhcaaWWords
set_option maxHeartbeats 40000000
set_option maxRecDepth 100000
namespace Go.Proofs.Ytfkndpjbkndhcaa.Q
open Go.RowKit Go.Proofs.YtfkndpjbkndhcaaW.PrintWords Go.Proofs.YtfkndpjbkndhcaaW.PrintLast Go.Proofs.YtfkndpjbkndhcaaW.PrintMore
attribute [local go_sem] min2_int min_two
set_option linter.unusedVariables false
set_option linter.unusedSimpArgs false
def errW : Option Int → Value
  | none => .nilIface
  | some c => .iface 0 (.int .i64 c)
theorem errW_none : errW none = .nilIface := rfl
theorem errW_some (c : Int) : errW (some c) = .iface 0 (.int .i64 c) := rfl
theorem info3 : (Try.prog.info? 3).map (fun i => (i.zero, i.size, i.bytes)) = some (some (.int .i64 0), 1, 8) := by kernel_rfl
theorem info5 : (Try.prog.info? 5).map (fun i => (i.zero, i.size, i.bytes)) = some (some (.int .u8 0), 1, 1) := by kernel_rfl
theorem info48 : (Try.prog.info? 48).map (fun i => (i.zero, i.size, i.bytes)) = some (some (.agg #[(.int .i64 0), (.int .i64 0)]), 2, 16) := by kernel_rfl
-- the values' own types
structure S48 where
  f0 : Int
  f1 : Int
def z48 : S48 := ⟨(0 : Int), (0 : Int)⟩
def k48 : Kd S48 := Kd.iso (Kd.pair (Kd.int .i64) (Kd.int .i64)) (fun x : S48 => (x.f0, x.f1))
theorem k48_open {w : World} {x : S48} {cs : List Value} (h : k48.K w x cs) : cs = [.int .i64 x.f0, .int .i64 x.f1] := by
  obtain ⟨_, _, rfl, rfl, rfl⟩ := h;exact rfl
theorem k48_openM {w : World} {base : Nat} {ok : Nat → Prop} {x : S48} {cs : List Value} (h : k48.M w base ok x cs) : cs = [.int .i64 x.f0, .int .i64 x.f1] := by
  obtain ⟨_, _, rfl, rfl, rfl⟩ := h;exact rfl
theorem k48_mkM (w : World) (base : Nat) (ok : Nat → Prop) (x : S48)  : k48.M w base ok x [.int .i64 x.f0, .int .i64 x.f1] := ⟨[.int .i64 x.f0], [.int .i64 x.f1], rfl, rfl, rfl⟩
def rd_T48 (xs : List S48) (i : Int) : S48 := xs.getD i.toNat z48
theorem at_T48 {w : World} {A : Option Addr} {n : Nat} {xs : List S48} (h : Kd.C k48 w A n xs) (i : Int) (h0 : 0 ≤ i) (h1 : i < n) : ∃ ad , A = some ad ∧ w.cell? (ad.add (i.toNat * 2)) = some (.int .i64 (rd_T48 xs i).f0) ∧ w.cell? ⟨(ad.add (i.toNat * 2)).block, (ad.add (i.toNat * 2)).off + 1, none⟩ = some (.int .i64 (rd_T48 xs i).f1) := by
  obtain ⟨ad, c, e, _, hK, hc0⟩ := Kd.C_get h z48 i h0 h1;have hc : ∀ j u, c[j]? = some u → w.cell? (ad.add (i.toNat * 2 + j)) = some u := hc0;obtain rfl := k48_open hK;exact ⟨ad, e, hc 0 _ rfl, by rw [← add_field _ _ 1 (by omega)]; exact hc 1 _ rfl⟩
/-! #### struct type 31 -/
attribute [local go_sem] min2_int min_two
theorem eqA48 (d : Nat) (w : World) (x0 y0 : Int) (x1 y1 : Int) :
    (Op.equalIn (d + 2) 48 (.agg #[.int .i64 x0, .int .i64 x1]) (.agg #[.int .i64 y0, .int .i64 y1])).run Try.prog w = .ok (x0 == y0 && (x1 == y1)) w := by
  refine eqA_of Try.underlying48 (by kernel_rfl) ?_
  refine eqf_cons (by rfl) (by go_simp; rfl) (by go_simp; rfl) (by go_simp) ?_
  exact eqf_last (by rfl) (by go_simp; rfl) (by go_simp; rfl) (by go_simp)
theorem Zq2_0 {p : Prop} (h : p := by repeat (first | (with_reducible first | exact HBW.out | apply below_alloc | apply pw_below_drewN | apply below_drew1 | refine below_set ?_ GW102.out | refine below_set ?_ GW103.out) | exact HBW.out)) : p := h
def laws_big.f (l0 : List Int) : Option (Bool) := some (decide ((l0.length : Int) > 1048576))
theorem laws_big.calls (A0 : Option Addr) (c0 : Nat) (l0 : List Int) (r : Bool) (w : World) (hr0 : Kd.C (Kd.int .u8) w A0 l0.length l0) (hc0 : l0.length ≤ c0) (h : laws_big.f l0 = some r) :
    Calls Try.prog 8 #[.slice A0 l0.length c0] w fun e w' => e = .returned (.bool r) ∧ Drawn0 w w' := by
  have HR0 := aM hr0
  have HC0 := aM hc0
  clear hr0 hc0
  have H := h
  clear h
  unfold laws_big.f at H
  obtain rfl := Option.some.inj H
  go_enter Try.func8, Try.ntmps8
  go_wp2
  go_ret
  exact ⟨by first | rfl | (simp; done) | (simp [*]; done), TD⟩
/-- A state of type 108 at block g of W; what its slices lead to came in by w0. -/
def IsS108 (w0 W : World) (g : Nat) (f0 : List Int) (f1 : Int) (f2 : Int) : Prop := ∃ A0 c0, W.heap[g]? = some (.cells #[.slice A0 f0.length c0, .int .i64 f1, .int .i64 f2] 108 (0, 0)) ∧ w0.heap.size ≤ g ∧ Kd.C (Kd.int .u8) w0 A0 f0.length f0
theorem IsS108.grown {w0 W : World} {g : Nat} {f0 : List Int} {f1 : Int} {f2 : Int} {W1 : World} {row : Option Nat} (h : IsS108 w0 W g f0 f1 f2) (hw : W.grownBy W1 row) (hne : some g ≠ row) : IsS108 w0 W1 g f0 f1 f2 := by
  obtain ⟨A0, c0, hb, hg, hr0⟩ := h;exact ⟨A0, c0, blk_grown hb hw hne, hg, hr0⟩
theorem IsS108.own_neN {w0 W : World} {g : Nat} {f0 : List Int} {f1 : Int} {f2 : Int} {α : Type} {d : Kd α} {e : Nat} {base : Nat} {ok : Nat → Prop} {v : Value} {xs : List α} (h : IsS108 w0 W g f0 f1 f2) (ho : Kd.N d e W base ok v xs) (ht : e ≠ 108) : some g ≠ v.ownBlock := by
  obtain ⟨A0, c0, hb, hg, hr0⟩ := h;exact Kd.N_ne ho hb ht
theorem IsS108.fresh {w0 W : World} {g : Nat} {f0 : List Int} {f1 : Int} {f2 : Int} (h : IsS108 w0 W g f0 f1 f2) : ∀ k, W.heap.size ≤ k → k ≠ g := by
  obtain ⟨A0, c0, hb, hg, hr0⟩ := h;exact Kd.freshB hb
theorem IsS108.kept {w0 W : World} {g : Nat} {f0 : List Int} {f1 : Int} {f2 : Int} {W1 : World} {S : Nat → Prop} (h : IsS108 w0 W g f0 f1 f2) (hk : Kept W W1 S) (hne : ¬ S g) : IsS108 w0 W1 g f0 f1 f2 := by
  obtain ⟨A0, c0, hb, hg, hr0⟩ := h;exact ⟨A0, c0, blk_kept hb hk hne, hg, hr0⟩
theorem IsS108.below {w0 W : World} {g : Nat} {f0 : List Int} {f1 : Int} {f2 : Int} {W1 : World} (h : IsS108 w0 W g f0 f1 f2) (hw : Below W.heap.size W W1) : IsS108 w0 W1 g f0 f1 f2 := h.grown (grown_of_below hw none) (by simp)
theorem IsS108.alloc {w0 W : World} {g : Nat} {f0 : List Int} {f1 : Int} {f2 : Int} (h : IsS108 w0 W g f0 f1 f2) (o : Obj) : IsS108 w0 (W.alloc o) g f0 f1 f2 := h.below (below_alloc (Below.refl _ _) o)
theorem IsS108.drewN {w0 W : World} {g : Nat} {f0 : List Int} {f1 : Int} {f2 : Int} (h : IsS108 w0 W g f0 f1 f2) (m : Nat) : IsS108 w0 (W.drewN m) g f0 f1 f2 := h
theorem IsS108.drew {w0 W : World} {g : Nat} {f0 : List Int} {f1 : Int} {f2 : Int} (h : IsS108 w0 W g f0 f1 f2) : IsS108 w0 W.drew g f0 f1 f2 := h
theorem IsS108.at_ {w0 W : World} {g : Nat} {f0 : List Int} {f1 : Int} {f2 : Int} {w' : World} {m : Nat} (hq : W.drewN m = w') (h : IsS108 w0 W g f0 f1 f2) : IsS108 w0 w' g f0 f1 f2 := by subst hq; exact IsS108.drewN h m
theorem IsS108.apart {w0 W : World} {g : Nat} {f0 : List Int} {f1 : Int} {f2 : Int} {α : Type} {d : Kd α} {e : Nat} {base : Nat} {ok : Nat → Prop} {v : Value} {xs : List α} (h : IsS108 w0 W g f0 f1 f2) (ho : d.R e W base ok v xs) (ht : ∀ q, q ∈ e :: d.E → q ≠ 108) : d.R e W base (fun k => ok k ∧ k ≠ g) v xs := by
  obtain ⟨A0, c0, hb, hg, hr0⟩ := h;exact Kd.R_types ho hb ht
theorem IsS108.own_ne {w0 W : World} {g : Nat} {f0 : List Int} {f1 : Int} {f2 : Int} {α : Type} {d : Kd α} {e : Nat} {base : Nat} {ok : Nat → Prop} {v : Value} {xs : List α} (h : IsS108 w0 W g f0 f1 f2) (ho : d.R e W base ok v xs) (ht : e ≠ 108) : some g ≠ v.ownBlock := by
  obtain ⟨A0, c0, hb, hg, hr0⟩ := h;exact Kd.R_ne ho hb ht
theorem IsS108.apartQ {w0 W : World} {g : Nat} {f0 : List Int} {f1 : Int} {f2 : Int} {α : Type} {d : Kd α} {e : Nat} {base : Nat} {ok : Nat → Prop} {v : Value} {xs : List α} (h : IsS108 w0 W g f0 f1 f2) (ho : d.Q e W base ok v xs) (ht : ∀ q, q ∈ e :: d.E → q ≠ 108) : d.Q e W base (fun k => ok k ∧ k ≠ g) v xs := by
  obtain ⟨A0, c0, hb, hg, hr0⟩ := h;exact Kd.Q_types ho hb ht
theorem IsS108.own_neQ {w0 W : World} {g : Nat} {f0 : List Int} {f1 : Int} {f2 : Int} {α : Type} {d : Kd α} {e : Nat} {base : Nat} {ok : Nat → Prop} {v : Value} {xs : List α} (h : IsS108 w0 W g f0 f1 f2) (ho : d.Q e W base ok v xs) (ht : e ≠ 108) : some g ≠ v.ownBlock := by
  obtain ⟨A0, c0, hb, hg, hr0⟩ := h;exact Kd.Q_ne ho hb ht
theorem IsS108.apartS {w0 W : World} {g : Nat} {f0 : List Int} {f1 : Int} {f2 : Int} {α : Type} {d : Kd α} {e : Nat} {base : Nat} {ok : Nat → Prop} {v : Value} {xs : List α} (h : IsS108 w0 W g f0 f1 f2) (ho : d.S e W base ok v xs) (ht : ∀ q, q ∈ e :: d.E → q ≠ 108) : d.S e W base (fun k => ok k ∧ k ≠ g) v xs := by
  obtain ⟨A0, c0, hb, hg, hr0⟩ := h;exact Kd.S_types ho hb ht
theorem IsS108.own_neS {w0 W : World} {g : Nat} {f0 : List Int} {f1 : Int} {f2 : Int} {α : Type} {d : Kd α} {e : Nat} {base : Nat} {ok : Nat → Prop} {v : Value} {xs : List α} (h : IsS108 w0 W g f0 f1 f2) (ho : d.S e W base ok v xs) (ht : e ≠ 108) : some g ≠ v.ownBlock := by
  obtain ⟨A0, c0, hb, hg, hr0⟩ := h;exact Kd.S_ne ho hb ht
theorem IsS108.lt {w0 W : World} {g : Nat} {f0 : List Int} {f1 : Int} {f2 : Int} (h : IsS108 w0 W g f0 f1 f2) : g < W.heap.size := by
  obtain ⟨A0, c0, hb, hg, hr0⟩ := h;exact blk_lt hb
theorem IsS108.ge {w0 W : World} {g : Nat} {f0 : List Int} {f1 : Int} {f2 : Int} (h : IsS108 w0 W g f0 f1 f2) : w0.heap.size ≤ g := by
  obtain ⟨A0, c0, hb, hg, hr0⟩ := h;exact hg
theorem IsS108.ne_blk {w0 W : World} {g : Nat} {f0 : List Int} {f1 : Int} {f2 : Int} {a : Nat} {cs : Array Value} {t : TypeId} {fr : Nat × Nat} (h : IsS108 w0 W g f0 f1 f2) (hb2 : W.heap[a]? = some (.cells cs t fr)) (ht : t ≠ 108) : g ≠ a := by
  obtain ⟨A0, c0, hb, hg, hr0⟩ := h;rintro rfl;rw [hb] at hb2;injection hb2 with hb2;injection hb2 with _ ht2;exact ht ht2.symm
theorem IsS108.far {w0 W : World} {g : Nat} {f0 : List Int} {f1 : Int} {f2 : Int} {p : Addr} (h : IsS108 w0 W g f0 f1 f2) (hne : g ≠ p.block) (u : Value) : IsS108 w0 (W.setCell p u) g f0 f1 f2 := by
  obtain ⟨A0, c0, hb, hg, hr0⟩ := h;exact ⟨A0, c0, blk_far hb hne u, hg, hr0⟩
theorem cellS108_0 {W : World} {g : Nat} {A0 : Option Addr} {c0 : Nat} {f0 : List Int} {f1 : Int} {f2 : Int} (h : W.heap[g]? = some (.cells #[.slice A0 f0.length c0, .int .i64 f1, .int .i64 f2] 108 (0, 0))) : W.cell? ⟨g, 0, none⟩ = some (.slice A0 f0.length c0) := (blk_cell h 0).trans rfl
theorem cellS108_1 {W : World} {g : Nat} {A0 : Option Addr} {c0 : Nat} {f0 : List Int} {f1 : Int} {f2 : Int} (h : W.heap[g]? = some (.cells #[.slice A0 f0.length c0, .int .i64 f1, .int .i64 f2] 108 (0, 0))) : W.cell? ⟨g, 1, none⟩ = some (.int .i64 f1) := (blk_cell h 1).trans rfl
theorem IsS108.set_1 {w0 W : World} {g : Nat} {f0 : List Int} {f1 : Int} {f2 : Int} (h : IsS108 w0 W g f0 f1 f2) (x : Int) : IsS108 w0 (W.setCell ⟨g, 1, none⟩ (.int .i64 x)) g f0 x f2 := by
  obtain ⟨A0, c0, hb, hg, hr0⟩ := h;exact ⟨A0, c0, by simpa using blk_set hb 1 (.int .i64 x), hg, hr0⟩
theorem cellS108_2 {W : World} {g : Nat} {A0 : Option Addr} {c0 : Nat} {f0 : List Int} {f1 : Int} {f2 : Int} (h : W.heap[g]? = some (.cells #[.slice A0 f0.length c0, .int .i64 f1, .int .i64 f2] 108 (0, 0))) : W.cell? ⟨g, 2, none⟩ = some (.int .i64 f2) := (blk_cell h 2).trans rfl
theorem IsS108.set_2 {w0 W : World} {g : Nat} {f0 : List Int} {f1 : Int} {f2 : Int} (h : IsS108 w0 W g f0 f1 f2) (x : Int) : IsS108 w0 (W.setCell ⟨g, 2, none⟩ (.int .i64 x)) g f0 f1 x := by
  obtain ⟨A0, c0, hb, hg, hr0⟩ := h;exact ⟨A0, c0, by simpa using blk_set hb 2 (.int .i64 x), hg, hr0⟩
theorem IsS108.new (w0 W : World) (A0 : Option Addr) (c0 : Nat) (f0 : List Int) (f1 : Int) (f2 : Int) (hB : Below w0.heap.size w0 W) (hr0 : Kd.C (Kd.int .u8) w0 A0 f0.length f0) : IsS108 w0 (W.alloc (.cells #[.slice A0 f0.length c0, .int .i64 f1, .int .i64 f2] 108)) W.heap.size f0 f1 f2 := ⟨A0, c0, by simpa using heap_alloc_new W _, hB.size, hr0⟩
theorem TI108 {q p : Prop} (f : Aside0 q) (h : q → p := by intro X_; repeat (first | (with_reducible first | exact X_ | apply IsS108.alloc | apply IsS108.drewN | apply IsS108.drew | apply IsS108.set_1 | apply IsS108.set_2 | refine IsS108.far ?_ (Aside0.out (by assumption)) _) | exact X_)) : p := h f.out
theorem TG108 {r : Prop} {n : Nat} {w W W1 : World} (f : Aside0 (Below n w W)) (i : Aside0 r) (h : Below n w W → r → Below n w W1 := by intro X_ Y_; repeat (first | (with_reducible first | exact X_ | apply below_alloc | apply pw_below_drewN | apply below_drew1 | refine below_set ?_ (IsS108.ge Y_) | refine below_set ?_ (Aside0.out (by assumption))) | exact X_)) : Below n w W1 := h f.out i.out
def spec_l1New.l0 : Nat → List Int → Int → Int → Option (List Int × Int × Int)
  | 0, _, _, _ => none
  | k + 1, x0, x3, x4 => if x4 < (x0.length : Int) then (if x4 < 4000 then (if 0 ≤ x4 then (spec_l1New.l0 k x0 (Go.bits .and .i64 (wrap64 ((wrap64 ((wrap64 (x3 * 137)) + (wrap64 (rd x0 x4)))) + 11)) 1073741823) (wrap64 (x4 + 1))) else (none)) else (some (x0, 0, x3))) else (some (x0, 0, x3))
def spec_l1New.f (k : Nat) (l0 : List Int) : Option (List Int × Int × Int) := spec_l1New.l0 k l0 (wrap64 (162416 + (l0.length : Int))) 0
theorem spec_l1New.mono_l : ∀ k, (∀ y0 y1 y2, LeO (spec_l1New.l0 k y0 y1 y2) (spec_l1New.l0 (k + 1) y0 y1 y2))
  | 0 => fun _ _ _ r h => by simp [spec_l1New.l0] at h
  | k + 1 => by
    have ih0 := spec_l1New.mono_l k
    · intro y0 y1 y2
      unfold spec_l1New.l0
      exact LM
theorem spec_l1New.mono : ∀ a0 k, LeO (spec_l1New.f k a0) (spec_l1New.f (k + 1) a0) := by
  intro a0 k;have ih0 := spec_l1New.mono_l k;unfold spec_l1New.f;exact LM
theorem spec_l1New.callsN (k : Nat) (A0 : Option Addr) (c0 : Nat) (l0 : List Int) (r1 : List Int) (r2 : Int) (r3 : Int) (w0 w : World) (hB : Below w0.heap.size w0 w) (hr0 : Kd.C (Kd.int .u8) w0 A0 l0.length l0) (hc0 : l0.length ≤ c0) (h : spec_l1New.f k l0 = some (r1, r2, r3)) :
    Calls Try.prog 58 #[.slice A0 l0.length c0] w fun e w' => ∃ g_ : Nat, e = .returned (.pointer (some ⟨g_, 0, none⟩)) ∧ IsS108 w0 w' g_ r1 r2 r3 ∧ Below w0.heap.size w0 w' ∧ Below w.heap.size w w' ∧ w.heap.size ≤ g_ := by
  have hu108 := Try.underlying108
  have HR0 := aM hr0
  have HC0 := aM hc0
  clear hr0 hc0
  have HBW := aM (Below.refl w.heap.size w)
  have HW0 := aM hB.size
  have HB := aM hB
  clear hB
  have H := h
  clear h
  unfold spec_l1New.f at H
  have H' := aM H
  clear H
  go_enter Try.func58, Try.ntmps58
  go_wp2
  go_loopg [3, 4] k (fun kq v3 v4 w' => ∃ (x3_1 : Int) (x4_1 : Int), v3 = .int .i64 x3_1 ∧ v4 = .int .i64 x4_1 ∧ Aside0 (spec_l1New.l0 kq l0 x3_1 x4_1 = some (r1, r2, r3)) ∧ Aside0 (kq ≤ k) ∧ Aside0 (Below w0.heap.size w0 w') ∧ Aside0 (Below w.heap.size w w'))
  case atStart => exact ⟨(wrap64 (162416 + (l0.length : Int))), (0), TF, TF, H', ⟨Nat.le_refl _⟩, ⟨TB⟩, ⟨by repeat (first | (with_reducible first | exact HBW.out | apply below_alloc | apply pw_below_drewN | apply below_drew1) | exact HBW.out)⟩⟩
  case round =>
    clear H'
    obtain ⟨x3_1, x4_1, rfl, rfl, HA, HK1, HB, HBW⟩ := hrel
    cases gk with
    | zero => exact absurd HA.out (by simp [spec_l1New.l0])
    | succ k1 =>
      have H := HA.out
      clear HA
      simp only [spec_l1New.l0] at H
      by_cases c2 : x4_1 < (l0.length : Int)
      · rw [if_pos c2] at H
        have c2b0 : decide (x4_1 < (l0.length : Int)) = true := decide_eq_true c2
        clear c2
        by_cases c3 : x4_1 < 4000
        · rw [if_pos c3] at H
          have c3b0 : decide (x4_1 < 4000) = true := decide_eq_true c3
          clear c3
          replace H := ifN H
          obtain ⟨c4, H⟩ := H
          have c4b0 : decide (0 ≤ x4_1) = true := decide_eq_true c4
          clear c4
          have H' := aM H
          clear H
          have p101 : 0 ≤ (x4_1 : Int) := DT
          have q101 : x4_1 < (l0.length : Int) := DT
          obtain ⟨ad101, e101, hx101_0⟩ := Kd.at_int HR0.out x4_1 p101 q101
          cases e101
          replace hx101_0 := pw_cell_below HB.out hx101_0
          replace p101 := eq_true p101
          replace q101 := eq_true q101
          go_wp2
          go_roundg k1
          case measure => have := HK1.out; omega
          case rel => exact ⟨(Go.bits .and .i64 (wrap64 ((wrap64 ((wrap64 (x3_1 * 137)) + (wrap64 (rd l0 x4_1)))) + 11)) 1073741823), (wrap64 (x4_1 + 1)), TF, TF, H', ⟨by have := HK1.out; omega⟩, ⟨TB⟩, ⟨by repeat (first | (with_reducible first | exact HBW.out | apply below_alloc | apply pw_below_drewN | apply below_drew1) | exact HBW.out)⟩⟩
        · rw [if_neg c3] at H
          have c3b0 : decide (x4_1 < 4000) = false := decide_eq_false c3
          clear c3
          simp only [Option.some.injEq, Prod.mk.injEq] at H
          obtain ⟨rfl, rfl, rfl⟩ := H
          go_wp2_with (first | ((with_reducible refine gate_dst (N := 31) rfl ?_); refine gBx 31 #[.slice A0 l0.length c0, .int .i64 0, .int .i64 x3_1] 108 ?_; intro gb102 hg w5 hbox hb; have BK102 := aM (hbox); have GW102 := aM ((by rw [hg]; exact (below_size (by exact Zq2_0)) : w.heap.size ≤ gb102)); have GE102 := aM ((Nat.le_trans HW0.out (by rw [hg]; exact (below_size (by exact Zq2_0)) : w.heap.size ≤ gb102) : w0.heap.size ≤ gb102)); replace HBW := aM (below_step HBW.out hb); replace HB := bS HB hb; clear hb hbox hg))
          go_ret
          exact ⟨_, rfl, (show IsS108 w0 _ gb102 l0 0 x3_1 from ⟨_, _, TK, GE102.out, HR0.out⟩), TB, (by exact Zq2_0), GW102.out⟩
      · rw [if_neg c2] at H
        have c2b0 : decide (x4_1 < (l0.length : Int)) = false := decide_eq_false c2
        clear c2
        simp only [Option.some.injEq, Prod.mk.injEq] at H
        obtain ⟨rfl, rfl, rfl⟩ := H
        go_wp2_with (first | ((with_reducible refine gate_dst (N := 31) rfl ?_); refine gBx 31 #[.slice A0 l0.length c0, .int .i64 0, .int .i64 x3_1] 108 ?_; intro gb103 hg w6 hbox hb; have BK103 := aM (hbox); have GW103 := aM ((by rw [hg]; exact (below_size (by exact Zq2_0)) : w.heap.size ≤ gb103)); have GE103 := aM ((Nat.le_trans HW0.out (by rw [hg]; exact (below_size (by exact Zq2_0)) : w.heap.size ≤ gb103) : w0.heap.size ≤ gb103)); replace HBW := aM (below_step HBW.out hb); replace HB := bS HB hb; clear hb hbox hg))
        go_ret
        exact ⟨_, rfl, (show IsS108 w0 _ gb103 l0 0 x3_1 from ⟨_, _, TK, GE103.out, HR0.out⟩), TB, (by exact Zq2_0), GW103.out⟩
theorem spec_l1New.calls (k : Nat) (A0 : Option Addr) (c0 : Nat) (l0 : List Int) (r1 : List Int) (r2 : Int) (r3 : Int) (w0 w : World) (hB : Below w0.heap.size w0 w) (hr0 : Kd.C (Kd.int .u8) w0 A0 l0.length l0) (hc0 : l0.length ≤ c0) (h : spec_l1New.f k l0 = some (r1, r2, r3)) :
    Calls Try.prog 58 #[.slice A0 l0.length c0] w fun e w' => ∃ g_ : Nat, e = .returned (.pointer (some ⟨g_, 0, none⟩)) ∧ IsS108 w0 w' g_ r1 r2 r3 ∧ Below w0.heap.size w0 w' ∧ Below w.heap.size w w' :=
  (spec_l1New.callsN k A0 c0 l0 r1 r2 r3 w0 w hB hr0 hc0 h).mono (fun _ _ h_ => h_.imp (fun _ q => ⟨q.1, q.2.1, q.2.2.1, q.2.2.2.1⟩))
def spec_l1Byte.f (s0_0 : List Int) (s0_1 : Int) (s0_2 : Int) : Option (Int × Int × Int) := if s0_1 < (s0_0.length : Int) then (if 0 ≤ s0_1 then (some (Go.bits .and .i64 (wrap64 ((Go.bits .and .i64 (Go.bits .xor .i64 ((wrap64 ((wrap64 (s0_2 * 6364136223846793005)) + 1442695040888963407)) / 8589934592) ((wrap64 ((wrap64 (s0_2 * 6364136223846793005)) + 1442695040888963407)) / 140737488355328)) 255) + (wrap64 (rd s0_0 s0_1)))) 255, wrap64 (s0_1 + 1), wrap64 ((wrap64 (s0_2 * 6364136223846793005)) + 1442695040888963407))) else (none)) else (some (Go.bits .and .i64 (Go.bits .xor .i64 ((wrap64 ((wrap64 (s0_2 * 6364136223846793005)) + 1442695040888963407)) / 8589934592) ((wrap64 ((wrap64 (s0_2 * 6364136223846793005)) + 1442695040888963407)) / 140737488355328)) 255, s0_1, wrap64 ((wrap64 (s0_2 * 6364136223846793005)) + 1442695040888963407)))
theorem spec_l1Byte.calls (g : Nat) (s0_0 : List Int) (s0_1 : Int) (s0_2 : Int) (r1 : Int) (r2 : Int) (r3 : Int) (w0 w : World) (hI : IsS108 w0 w g s0_0 s0_1 s0_2) (hB : Below w0.heap.size w0 w) (h : spec_l1Byte.f s0_0 s0_1 s0_2 = some (r1, r2, r3)) :
    Calls Try.prog 106 #[.pointer (some ⟨g, 0, none⟩)] w fun e w' => e = .returned (.int .i64 r1) ∧ IsS108 w0 w' g s0_0 r2 r3 ∧ Below w0.heap.size w0 w' ∧ KeepBut w w' g none := by
  have HI0 := aM hI
  have HK := aM (KeepBut.refl w g none)
  have HL := aM hB.size
  clear hI
  have HW0 := aM hB.size
  have HB := aM hB
  clear hB
  have H := h
  clear h
  unfold spec_l1Byte.f at H
  by_cases c2 : s0_1 < (s0_0.length : Int)
  · rw [if_pos c2] at H
    have c2b0 : decide (s0_1 < (s0_0.length : Int)) = true := decide_eq_true c2
    clear c2
    replace H := ifN H
    obtain ⟨c3, H⟩ := H
    have c3b0 : decide (0 ≤ s0_1) = true := decide_eq_true c3
    clear c3
    simp only [Option.some.injEq, Prod.mk.injEq] at H
    obtain ⟨rfl, rfl, rfl⟩ := H
    obtain ⟨ASz4_0, cSz4_0, HGz4, hgz4, HSz4_0⟩ := HI0.out
    have hcz4_0 := cellS108_0 HGz4
    have hcz4_1 := cellS108_1 HGz4
    have hcz4_2 := cellS108_2 HGz4
    have hfz4_1 := blk_frozen HGz4 1
    have hfz4_2 := blk_frozen HGz4 2
    clear HGz4 hgz4
    have p104 : 0 ≤ (s0_1 : Int) := DT
    have q104 : s0_1 < (s0_0.length : Int) := DT
    obtain ⟨ad104, e104, hx104_0⟩ := Kd.at_int HSz4_0 s0_1 p104 q104
    cases e104
    have hn104_0 : ad104.block ≠ g := Nat.ne_of_lt (Nat.lt_of_lt_of_le (by have := World.block_lt_of_cell? _ _ hx104_0; first | rwa [add_block] at this | exact this) (IsS108.ge HI0.out))
    replace hx104_0 := pw_cell_below HB.out hx104_0
    replace hx104_0 := (cell_far (p := ⟨g, 2, none⟩) (by first | (rw [add_block]; exact hn104_0) | (show (Addr.add _ _).block ≠ _; rw [add_block]; exact hn104_0) | exact hn104_0) (.int .i64 (wrap64 ((wrap64 (s0_2 * 6364136223846793005)) + 1442695040888963407)))).trans hx104_0
    (try have hy104_0 := fun (n_ : Nat) => (show (((w.drewN n_).setCell ⟨g, 2, none⟩ (.int .i64 (wrap64 ((wrap64 (s0_2 * 6364136223846793005)) + 1442695040888963407))))).cell? _ = some _ from hx104_0))
    clear hn104_0
    replace p104 := eq_true p104
    replace q104 := eq_true q104
    go_enter Try.func106, Try.ntmps106
    go_wp2
    repeat (go_quiet (fail); try go_wp2)
    go_ret
    exact ⟨TE, TI108 HI0, TG108 HB HI0, TH HK⟩
  · rw [if_neg c2] at H
    have c2b0 : decide (s0_1 < (s0_0.length : Int)) = false := decide_eq_false c2
    clear c2
    simp only [Option.some.injEq, Prod.mk.injEq] at H
    obtain ⟨rfl, rfl, rfl⟩ := H
    obtain ⟨ASz5_0, cSz5_0, HGz5, hgz5, HSz5_0⟩ := HI0.out
    have hcz5_0 := cellS108_0 HGz5
    have hcz5_1 := cellS108_1 HGz5
    have hcz5_2 := cellS108_2 HGz5
    have hfz5_1 := blk_frozen HGz5 1
    have hfz5_2 := blk_frozen HGz5 2
    clear HGz5 hgz5
    go_enter Try.func106, Try.ntmps106
    go_wp2
    repeat (go_quiet (fail); try go_wp2)
    go_ret
    exact ⟨TE, TI108 HI0, TG108 HB HI0, TH HK⟩
def spec_l1Below.f (s0_0 : List Int) (s0_1 : Int) (s0_2 : Int) (a1 : Int) : Option (Int × Int × Int) := if a1 ≤ 0 then (some (0, s0_1, s0_2)) else (if a1 ≤ 256 then ((spec_l1Byte.f s0_0 s0_1 s0_2).bind fun bt105 => (if a1 = 0 then (none) else (some (Int.tmod bt105.1 a1, bt105.2.1, bt105.2.2)))) else ((spec_l1Byte.f s0_0 s0_1 s0_2).bind fun bt108 => ((spec_l1Byte.f s0_0 bt108.2.1 bt108.2.2).bind fun bt111 => ((spec_l1Byte.f s0_0 bt111.2.1 bt111.2.2).bind fun bt114 => (if a1 = 0 then (none) else (some (Int.tmod (wrap64 ((wrap64 ((wrap64 (bt108.1 * 65536)) + (wrap64 (bt111.1 * 256)))) + bt114.1)) a1, bt114.2.1, bt114.2.2)))))))
theorem spec_l1Below.calls (g : Nat) (s0_0 : List Int) (s0_1 : Int) (s0_2 : Int) (a1 : Int) (r1 : Int) (r2 : Int) (r3 : Int) (w0 w : World) (hI : IsS108 w0 w g s0_0 s0_1 s0_2) (hB : Below w0.heap.size w0 w) (h : spec_l1Below.f s0_0 s0_1 s0_2 a1 = some (r1, r2, r3)) :
    Calls Try.prog 60 #[.pointer (some ⟨g, 0, none⟩), .int .i64 a1] w fun e w' => e = .returned (.int .i64 r1) ∧ IsS108 w0 w' g s0_0 r2 r3 ∧ Below w0.heap.size w0 w' ∧ KeepBut w w' g none := by
  have HI0 := aM hI
  have HK := aM (KeepBut.refl w g none)
  have HL := aM hB.size
  clear hI
  have HW0 := aM hB.size
  have HB := aM hB
  clear hB
  have H := h
  clear h
  unfold spec_l1Below.f at H
  by_cases c3 : a1 ≤ 0
  · rw [if_pos c3] at H
    have c3b0 : decide (a1 ≤ 0) = true := decide_eq_true c3
    clear c3
    simp only [Option.some.injEq, Prod.mk.injEq] at H
    obtain ⟨rfl, rfl, rfl⟩ := H
    go_enter Try.func60, Try.ntmps60
    go_wp2
    go_ret
    exact ⟨TE, TI108 HI0, TG108 HB HI0, TH HK⟩
  · rw [if_neg c3] at H
    have c3b0 : decide (a1 ≤ 0) = false := decide_eq_false c3
    clear c3
    by_cases c4 : a1 ≤ 256
    · rw [if_pos c4] at H
      have c4b0 : decide (a1 ≤ 256) = true := decide_eq_true c4
      clear c4
      replace H := bE H
      obtain ⟨⟨t105, t106, t107⟩, A5, H⟩ := H
      dsimp only at H
      replace H := ifM H
      obtain ⟨c6, H⟩ := H
      have c6b0 : (a1 == 0) = false := beq_eq_false_iff_ne.mpr c6
      have c6b1 : (a1 != 0) = true := bne_iff_ne.mpr c6
      simp only [Option.some.injEq, Prod.mk.injEq] at H
      obtain ⟨rfl, rfl, rfl⟩ := H
      go_enter Try.func60, Try.ntmps60
      go_wp2_with (first | ((with_reducible refine gate_callee (f := 106) rfl ?_); refine gL (some 13) Try.func106 #[.pointer (some ⟨g, 0, none⟩)] ?_; (with_reducible refine (spec_l1Byte.calls g s0_0 s0_1 s0_2 t105 t106 t107 w0 _ ?side1 ?side2 A5.out).mono ?_); (case side1 => exact TI108 HI0); (case side2 => exact TG108 HB HI0); rintro e w7 ⟨rfl, hi, hb, hk⟩; refine ⟨_, rfl, ?_⟩; replace HK := aM (KeepBut.trans (TH HK) hk (.inl rfl)); replace HB := aM (hb); replace HI0 := aM (hi); (try clear hb); (try clear hb2); (try clear hk); (try clear hi)))
      go_ret
      exact ⟨TE, TI108 HI0, TG108 HB HI0, TH HK⟩
    · rw [if_neg c4] at H
      have c4b0 : decide (a1 ≤ 256) = false := decide_eq_false c4
      clear c4
      replace H := bE H
      obtain ⟨⟨t108, t109, t110⟩, A8, H⟩ := H
      dsimp only at H
      replace H := bE H
      obtain ⟨⟨t111, t112, t113⟩, A9, H⟩ := H
      dsimp only at H
      replace H := bE H
      obtain ⟨⟨t114, t115, t116⟩, A10, H⟩ := H
      dsimp only at H
      replace H := ifM H
      obtain ⟨c11, H⟩ := H
      have c11b0 : (a1 == 0) = false := beq_eq_false_iff_ne.mpr c11
      have c11b1 : (a1 != 0) = true := bne_iff_ne.mpr c11
      simp only [Option.some.injEq, Prod.mk.injEq] at H
      obtain ⟨rfl, rfl, rfl⟩ := H
      go_enter Try.func60, Try.ntmps60
      go_wp2_with (first | ((with_reducible refine gate_callee (f := 106) rfl ?_); refine gL (some 17) Try.func106 #[.pointer (some ⟨g, 0, none⟩)] ?_; (with_reducible refine (spec_l1Byte.calls g s0_0 s0_1 s0_2 t108 t109 t110 w0 _ ?side1 ?side2 A8.out).mono ?_); (case side1 => exact TI108 HI0); (case side2 => exact TG108 HB HI0); rintro e w12 ⟨rfl, hi, hb, hk⟩; refine ⟨_, rfl, ?_⟩; replace HK := aM (KeepBut.trans (TH HK) hk (.inl rfl)); replace HB := aM (hb); replace HI0 := aM (hi); (try clear hb); (try clear hb2); (try clear hk); (try clear hi)) | ((with_reducible refine gate_callee (f := 106) rfl ?_); refine gL (some 19) Try.func106 #[.pointer (some ⟨g, 0, none⟩)] ?_; (with_reducible refine (spec_l1Byte.calls g s0_0 t109 t110 t111 t112 t113 w0 _ ?side1 ?side2 A9.out).mono ?_); (case side1 => exact TI108 HI0); (case side2 => exact TG108 HB HI0); rintro e w13 ⟨rfl, hi, hb, hk⟩; refine ⟨_, rfl, ?_⟩; replace HK := aM (KeepBut.trans (TH HK) hk (.inl rfl)); replace HB := aM (hb); replace HI0 := aM (hi); (try clear hb); (try clear hb2); (try clear hk); (try clear hi)) | ((with_reducible refine gate_callee (f := 106) rfl ?_); refine gL (some 21) Try.func106 #[.pointer (some ⟨g, 0, none⟩)] ?_; (with_reducible refine (spec_l1Byte.calls g s0_0 t112 t113 t114 t115 t116 w0 _ ?side1 ?side2 A10.out).mono ?_); (case side1 => exact TI108 HI0); (case side2 => exact TG108 HB HI0); rintro e w14 ⟨rfl, hi, hb, hk⟩; refine ⟨_, rfl, ?_⟩; replace HK := aM (KeepBut.trans (TH HK) hk (.inl rfl)); replace HB := aM (hb); replace HI0 := aM (hi); (try clear hb); (try clear hb2); (try clear hk); (try clear hi)))
      go_ret
      exact ⟨TE, TI108 HI0, TG108 HB HI0, TH HK⟩
def spec_l1Int.f (s0_0 : List Int) (s0_1 : Int) (s0_2 : Int) (l1 : List Int) : Option (Int × Int × Int) := (spec_l1Below.f s0_0 s0_1 s0_2 (l1.length : Int)).bind fun bt117 => (if 0 ≤ bt117.1 then (if bt117.1 < (l1.length : Int) then (some (rd l1 bt117.1, bt117.2.1, bt117.2.2)) else (none)) else (none))
theorem spec_l1Int.calls (g : Nat) (ab : List Int) (ae : Int) (ac : Int) (A1 : Option Addr) (c1 : Nat) (l1 : List Int) (r1 : Int) (r2 : Int) (r3 : Int) (w0 w : World) (hI : IsS108 w0 w g ab ae ac) (hB : Below w0.heap.size w0 w) (hr1 : Kd.C (Kd.int .i64) w A1 l1.length l1) (hc1 : l1.length ≤ c1) (hf1 : ∀ ad, A1 = some ad → 0 < l1.length → ad.block ≠ g) (h : spec_l1Int.f ab ae ac l1 = some (r1, r2, r3)) :
  Calls Try.prog 74 #[.pointer (some ⟨g, 0, none⟩), .slice A1 l1.length c1] w fun e w' => e = .returned (.int .i64 r1) ∧ IsS108 w0 w' g ab r2 r3 ∧ Below w0.heap.size w0 w' ∧ KeepBut w w' g none := by
 have HR1 := aM hr1;have HC1 := aM hc1;clear hr1 hc1;have HI0 := aM hI;have HK := aM (KeepBut.refl w g none);have HL := aM hB.size;clear hI;have HW0 := aM hB.size;have HB := aM hB;clear hB;have H := h;clear h;unfold spec_l1Int.f at H;replace H := bE H;obtain ⟨⟨aa, t118, t119⟩, A3, H⟩ := H;dsimp only at H;replace H := ifN H;obtain ⟨c4, H⟩ := H;have c4b0 : decide (0 ≤ aa) = true := decide_eq_true c4;clear c4;replace H := ifN H;obtain ⟨c5, H⟩ := H;have c5b0 : decide (aa < (l1.length : Int)) = true := decide_eq_true c5;clear c5;simp only [Option.some.injEq, Prod.mk.injEq] at H;obtain ⟨rfl, rfl, rfl⟩ := H;go_enter Try.func74, Try.ntmps74;go_wp2_with (first | ((with_reducible refine gate_callee (f := 60) rfl ?_); refine gL (some 9) Try.func60 #[.pointer (some ⟨g, 0, none⟩), .int .i64 (l1.length : Int)] ?_; (with_reducible refine (spec_l1Below.calls g ab ae ac (l1.length : Int) aa t118 t119 w0 _ ?side1 ?side2 A3.out).mono ?_); (case side1 => exact TI108 HI0); (case side2 => exact TG108 HB HI0); rintro e w6 ⟨rfl, hi, hb, hk⟩; refine ⟨_, rfl, ?_⟩; replace HK := aM (KeepBut.trans (TH HK) hk (.inl rfl)); replace HB := aM (hb); replace HI0 := aM (hi); (try clear hb); (try clear hb2); (try clear hk); (try clear hi); have p120 : 0 ≤ (aa : Int) := DT; have q120 : aa < (l1.length : Int) := DT; obtain ⟨ad120, e120, hx120_0⟩ := Kd.at_int HR1.out aa p120 q120; cases e120; replace hx120_0 := keep_cell HK.out hx120_0 (by first | (rw [add_block]; exact hf1 _ rfl (by omega)) | exact hf1 _ rfl (by omega) | exact hf1 ad120 rfl (by omega)); replace p120 := eq_true p120; replace q120 := eq_true q120))
 go_ret
 exact ⟨TE, TI108 HI0, TG108 HB HI0, TH HK⟩
def spec_l3Bytes.l0 : Nat → List Int → Int → List Int → Int → Int → Option (List Int × Int × Int)
  | 0, _, _, _, _, _ => none
  | k + 1, x5, x6, x1000, x1001, x1002 => if x6 > 0 then ((spec_l1Int.f x1000 x1001 x1002 (([97, 98, 99, 0, 255] : List Int))).bind fun bt130 => (if x5.length < 140737488355328 then (spec_l3Bytes.l0 k (x5 ++ [(bt130.1) % 256]) (wrap64 (x6 - 1)) x1000 bt130.2.1 bt130.2.2) else (none))) else (some (x5, x1001, x1002))
def spec_l3Bytes.f (k : Nat) (s0_0 : List Int) (s0_1 : Int) (s0_2 : Int) (a1 : Int) : Option (List Int × Int × Int) := (spec_l1Below.f s0_0 s0_1 s0_2 (wrap64 (a1 + 1))).bind fun bt124 => (spec_l3Bytes.l0 k (([] : List Int)) bt124.1 s0_0 bt124.2.1 bt124.2.2)
theorem spec_l3Bytes.mono_l : ∀ k, (∀ y0 y1 y2 y3 y4, LeO (spec_l3Bytes.l0 k y0 y1 y2 y3 y4) (spec_l3Bytes.l0 (k + 1) y0 y1 y2 y3 y4))
  | 0 => fun _ _ _ _ _ r h => by simp [spec_l3Bytes.l0] at h
  | k + 1 => by
    have ih0 := spec_l3Bytes.mono_l k
    · intro y0 y1 y2 y3 y4
      unfold spec_l3Bytes.l0
      exact LM
theorem spec_l3Bytes.mono : ∀ a0 a1 a2 a3 k, LeO (spec_l3Bytes.f k a0 a1 a2 a3) (spec_l3Bytes.f (k + 1) a0 a1 a2 a3) := by
  intro a0 a1 a2 a3 k;have ih0 := spec_l3Bytes.mono_l k;unfold spec_l3Bytes.f;exact LM
theorem spec_l3Bytes.calls (k : Nat) (g : Nat) (s0_0 : List Int) (s0_1 : Int) (s0_2 : Int) (a1 : Int) (r1 : List Int) (r2 : Int) (r3 : Int) (w0 w : World) (hI : IsS108 w0 w g s0_0 s0_1 s0_2) (hB : Below w0.heap.size w0 w) (h : spec_l3Bytes.f k s0_0 s0_1 s0_2 a1 = some (r1, r2, r3)) :
    Calls Try.prog 78 #[.pointer (some ⟨g, 0, none⟩), .int .i64 a1] w fun e w' => ∃ v0_ : Value, e = .returned (v0_) ∧ Kd.R (Kd.int .u8) 5 w' w.heap.size (fun _ => True) v0_ r1 ∧ IsS108 w0 w' g s0_0 r2 r3 ∧ Below w0.heap.size w0 w' ∧ KeepBut w w' g none := by
  have HI0 := aM hI
  have HK := aM (KeepBut.refl w g none)
  have HL := aM hB.size
  clear hI
  have HW0 := aM hB.size
  have HB := aM hB
  clear hB
  have H := h
  clear h
  unfold spec_l3Bytes.f at H
  obtain ⟨y121, hy121⟩ : ∃ y_ : List Int, y_ = (([] : List Int)) := ⟨_, rfl⟩
  rw [← hy121] at H
  have Ny121 := aM hy121
  clear hy121
  replace H := bE H
  obtain ⟨⟨t124, t125, t126⟩, A3, H⟩ := H
  dsimp only at H
  have H' := aM H
  clear H
  go_enter Try.func78, Try.ntmps78
  go_wp2_with (first | ((with_reducible refine gate_dst (N := 7) rfl ?_); refine Kd.R_lit (Kd.int .u8) _ 5 ?hg (N := 7) ?hd (xs := ([] : List Int)) (inner := []) (ok := fun _ => True) (okp := fun _ => True) ?hr ?hp (fun _ hk => hk) trivial (Below.refl _ _) (Nat.le_refl _) (by simp) ?_; (case hd => rfl); (case hg => rfl); (case hr => first | (go_simp; done) | (go_simp; rfl)); (case hp => exact (Reps.none _ _)); intro v122 w4 ho5 hb hg_ hnew_; clear hg_ hnew_; (first | rw [← Ny121.out] at ho5 | (simp only [Int.reduceToNat] at ho5; rw [← Ny121.out] at ho5)); have HO123 := aM (Kd.R_lower ho5 (keep_size (w := w) (g := g) (row := none) (TH HK))); replace HK := aM (KeepBut.trans (TH HK) (KeepBut.of_below hb g none) (.inl rfl)); replace HB := aM (below_step (TG108 HB HI0) hb); replace HI0 := aM (IsS108.below (TI108 HI0) hb); clear hb ho5) | ((with_reducible refine gate_callee (f := 60) rfl ?_); refine gL (some 11) Try.func60 #[.pointer (some ⟨g, 0, none⟩), .int .i64 (wrap64 (a1 + 1))] ?_; (with_reducible refine (spec_l1Below.calls g s0_0 s0_1 s0_2 (wrap64 (a1 + 1)) t124 t125 t126 w0 _ ?side1 ?side2 A3.out).mono ?_); (case side1 => exact TI108 HI0); (case side2 => exact TG108 HB HI0); rintro e w6 ⟨rfl, hi, hb, hk⟩; refine ⟨_, rfl, ?_⟩; replace HO123 := aM (Kd.R_mono (Kd.R_keep (IsS108.apart (show IsS108 w0 _ g s0_0 s0_1 s0_2 from TI108 HI0) (TRf HO123) (by decide)) hk (fun _ h => h.2)) (fun _ h => h.1)); replace HK := aM (KeepBut.trans (TH HK) hk (.inl rfl)); replace HB := aM (hb); replace HI0 := aM (hi); (try clear hb); (try clear hb2); (try clear hk); (try clear hi)))
  go_loopg [5, 6] k (fun kq v5 v6 w' => ∃ (x5_1 : List Int) (x6_1 : Int) (x1001_1 : Int) (x1002_1 : Int), v6 = .int .i64 x6_1 ∧ Aside0 (spec_l3Bytes.l0 kq x5_1 x6_1 s0_0 x1001_1 x1002_1 = some (r1, r2, r3)) ∧ Aside0 (kq ≤ k) ∧ Aside0 (Kd.R (Kd.int .u8) 5 w' w.heap.size (fun _ => True) v5 x5_1) ∧ Aside0 (IsS108 w0 w' g s0_0 x1001_1 x1002_1) ∧ Aside0 (KeepBut w w' g none) ∧ Aside0 (Below w0.heap.size w0 w'))
  case atStart => exact ⟨(y121), (t124), (t125), (t126), TF, H', ⟨Nat.le_refl _⟩, ⟨by have X_ := HO123.out; exact TR⟩, ⟨TI108 HI0⟩, ⟨TH HK⟩, ⟨TG108 HB HI0⟩⟩
  case round =>
    clear H'
    try clear p2
    try clear c6
    try clear p6
    obtain ⟨x5_1, x6_1, x1001_1, x1002_1, rfl, HA, HK1, HO_5, HI0, HK, HB⟩ := hrel
    cases gk with
    | zero => exact absurd HA.out (by simp [spec_l3Bytes.l0])
    | succ k1 =>
      have H := HA.out
      clear HA
      simp only [spec_l3Bytes.l0] at H
      by_cases c7 : x6_1 > 0
      · rw [if_pos c7] at H
        have c7b0 : decide (0 < x6_1) = true := decide_eq_true c7
        clear c7
        obtain ⟨y127, hy127⟩ : ∃ y_ : List Int, y_ = (([97, 98, 99, 0, 255] : List Int)) := ⟨_, rfl⟩
        rw [← hy127] at H
        have Ny127 := aM hy127
        clear hy127
        replace H := bE H
        obtain ⟨⟨t130, t131, t132⟩, A8, H⟩ := H
        dsimp only at H
        replace H := ifN H
        obtain ⟨c9, H⟩ := H
        have LMc9 := aM c9
        clear c9
        obtain ⟨y133, hy133⟩ : ∃ y_ : List Int, y_ = (x5_1 ++ [(t130) % 256]) := ⟨_, rfl⟩
        rw [← hy133] at H
        have Ny133 := aM hy133
        clear hy133
        have H' := aM H
        clear H
        go_wp2_with (first | ((with_reducible refine gate_dst (N := 18) rfl ?_); refine Kd.R_lit (Kd.int .i64) _ 3 ?hg (N := 18) ?hd (xs := ([97, 98, 99, 0, 255] : List Int)) (inner := [.int .i64 97, .int .i64 98, .int .i64 99, .int .i64 0, .int .i64 255]) (ok := fun _ => True) (okp := fun _ => True) ?hr ?hp (fun _ hk => hk) trivial (Below.refl _ _) (Nat.le_refl _) (by simp) ?_; (case hd => rfl); (case hg => rfl); (case hr => first | (go_simp; done) | (go_simp; rfl)); (case hp => exact (Reps.one (show Kd.M (Kd.int .i64) _ _ _ 97 [.int .i64 97] from rfl) (Reps.one (show Kd.M (Kd.int .i64) _ _ _ 98 [.int .i64 98] from rfl) (Reps.one (show Kd.M (Kd.int .i64) _ _ _ 99 [.int .i64 99] from rfl) (Reps.one (show Kd.M (Kd.int .i64) _ _ _ 0 [.int .i64 0] from rfl) (Reps.one (show Kd.M (Kd.int .i64) _ _ _ 255 [.int .i64 255] from rfl) (Reps.none _ _))))))); intro v128 w10 ho11 hb hg_ hnew_; clear hg_ hnew_; (first | rw [← Ny127.out] at ho11 | (simp only [Int.reduceToNat] at ho11; rw [← Ny127.out] at ho11)); have HO129 := aM (Kd.R_lower ho11 (keep_size (w := w) (g := g) (row := none) (TH HK))); replace HO_5 := mR HO_5 hb; replace HK := aM (KeepBut.trans (TH HK) (KeepBut.of_below hb g none) (.inl rfl)); replace HB := aM (below_step (TG108 HB HI0) hb); replace HI0 := aM (IsS108.below (TI108 HI0) hb); clear hb ho11; obtain ⟨Ao12, co12, eo12⟩ := Kd.R_slice HO129.out; subst eo12) | ((with_reducible refine gate_callee (f := 74) rfl ?_); refine gL (some 19) Try.func74 #[.pointer (some ⟨g, 0, none⟩), .slice Ao12 y127.length co12] ?_; (with_reducible refine (spec_l1Int.calls g s0_0 x1001_1 x1002_1 _ _ y127 t130 t131 t132 w0 _ ?side1 ?side2 ?side3 ?side4 ?side5 A8.out).mono ?_); (case side1 => exact TI108 HI0); (case side2 => exact TG108 HB HI0); (case side3 => have X_ := (Kd.R_reads' HO129.out).2.2; exact TC); (case side4 => exact (Kd.R_reads' HO129.out).2.1); (case side5 => exact far_slice (IsS108.own_ne HI0.out HO129.out (by decide))); rintro e w13 ⟨rfl, hi, hb, hk⟩; refine ⟨_, rfl, ?_⟩; replace HO_5 := aM (Kd.R_mono (Kd.R_keep (IsS108.apart (show IsS108 w0 _ g s0_0 x1001_1 x1002_1 from TI108 HI0) (TRf HO_5) (by decide)) hk (fun _ h => h.2)) (fun _ h => h.1)); replace HO129 := aM (Kd.R_mono (Kd.R_keep (IsS108.apart (show IsS108 w0 _ g s0_0 x1001_1 x1002_1 from TI108 HI0) (TRf HO129) (by decide)) hk (fun _ h => h.2)) (fun _ h => h.1)); replace HK := aM (KeepBut.trans (TH HK) hk (.inl rfl)); replace HB := aM (hb); replace HI0 := aM (hi); (try clear hb); (try clear hb2); (try clear hk); (try clear hi)) | ((with_reducible refine gate_builtin (b := .append) (xs := #[.tmp 16, .tmp 21]) rfl ?_); at_builtin; refine Kd.R_append (Kd.int .u8) w.heap.size rfl (.tmp 16) (.tmp 21) 22 5 (.int .u8 0) 1 rfl Try.underlying22 info5 rfl (by decide) (by omega) u5 x5_1 ((t130) % 256) [.int .u8 ((t130) % 256)] (fun _ => True) (fun _ => False) rfl rfl ?aP (fun _ hk => hk.elim) ?aF ?aO (Below.refl _ _) ?aS ?aL ?_; (case aP => exact rfl); (case aF => exact (fun _ _ => trivial)); (case aO => exact (TRf HO_5)); (case aS => exact (keep_size (w := w) (g := g) (row := none) (TH HK))); (case aL => have := LMc9.out; omega); intro v134 w14 ho hb hg hat; rw [← Ny133.out] at ho; have HO135 := aM (ho); replace HO129 := aM (Kd.R_over' (TRf HO129) (Kd.R_typed (TRf HO_5)) (by decide) hg); replace HB := aM (below_weaken (TG108 HB HI0) HL.out hb); replace HI0 := aM (IsS108.grown (TI108 HI0) hg (IsS108.own_ne HI0.out HO_5.out (by decide))); replace HK := aM (KeepBut.trans (TH HK) (KeepBut.of_grown hg g) (Kd.R_base2 HO_5.out)); clear HO_5; clear ho hb hg hat))
        go_roundg k1
        case measure => have := HK1.out; omega
        case rel => exact ⟨(y133), (wrap64 (x6_1 - 1)), (t131), (t132), TF, H', ⟨by have := HK1.out; omega⟩, ⟨by have X_ := HO135.out; exact TR⟩, ⟨TI108 HI0⟩, ⟨TH HK⟩, ⟨TG108 HB HI0⟩⟩
      · rw [if_neg c7] at H
        have c7b0 : decide (0 < x6_1) = false := decide_eq_false c7
        clear c7
        simp only [Option.some.injEq, Prod.mk.injEq] at H
        obtain ⟨rfl, rfl, rfl⟩ := H
        go_wp2
        go_ret
        exact ⟨_, TE, by have X_ := HO_5.out; exact TR, TI108 HI0, TG108 HB HI0, TH HK⟩
def spec_l6Image.f (k : Nat) (s0_0 : List Int) (s0_1 : Int) (s0_2 : Int) : Option (List Int × Int × Int) := (spec_l3Bytes.f k s0_0 s0_1 s0_2 16).bind fun bt136 => (some (bt136.1, bt136.2.1, bt136.2.2))
theorem spec_l6Image.mono : ∀ a0 a1 a2 k, LeO (spec_l6Image.f k a0 a1 a2) (spec_l6Image.f (k + 1) a0 a1 a2) := by
  intro a0 a1 a2 k;have m0_ := @spec_l3Bytes.mono;unfold spec_l6Image.f;exact LM
theorem spec_l6Image.calls (k : Nat) (g : Nat) (s0_0 : List Int) (s0_1 : Int) (s0_2 : Int) (r1 : List Int) (r2 : Int) (r3 : Int) (w0 w : World) (hI : IsS108 w0 w g s0_0 s0_1 s0_2) (hB : Below w0.heap.size w0 w) (h : spec_l6Image.f k s0_0 s0_1 s0_2 = some (r1, r2, r3)) :
    Calls Try.prog 59 #[.pointer (some ⟨g, 0, none⟩)] w fun e w' => ∃ v0_ : Value, e = .returned (v0_) ∧ Kd.R (Kd.int .u8) 5 w' w.heap.size (fun _ => True) v0_ r1 ∧ IsS108 w0 w' g s0_0 r2 r3 ∧ Below w0.heap.size w0 w' ∧ KeepBut w w' g none := by
  have HI0 := aM hI
  have HK := aM (KeepBut.refl w g none)
  have HL := aM hB.size
  clear hI
  have HW0 := aM hB.size
  have HB := aM hB
  clear hB
  have H := h
  clear h
  unfold spec_l6Image.f at H
  replace H := bE H
  obtain ⟨⟨t136, t139, t140⟩, A2, H⟩ := H
  dsimp only at H
  simp only [Option.some.injEq, Prod.mk.injEq] at H
  obtain ⟨rfl, rfl, rfl⟩ := H
  go_enter Try.func59, Try.ntmps59
  go_wp2_with (first | ((with_reducible refine gate_callee (f := 78) rfl ?_); refine gL (some 4) Try.func78 #[.pointer (some ⟨g, 0, none⟩), .int .i64 16] ?_; (with_reducible refine (spec_l3Bytes.calls k g s0_0 s0_1 s0_2 16 t136 t139 t140 w0 _ ?side1 ?side2 A2.out).mono ?_); (case side1 => exact TI108 HI0); (case side2 => exact TG108 HB HI0); rintro e w3 ⟨v137, rfl, ho0, hi, hb, hk⟩; refine ⟨_, rfl, ?_⟩; have HO138 := aM (Kd.R_lower ho0 (keep_size (w := w) (g := g) (row := none) (TH HK))); replace HK := aM (KeepBut.trans (TH HK) hk (.inl rfl)); replace HB := aM (hb); replace HI0 := aM (hi); (try clear hb); (try clear hb2); (try clear hk); (try clear hi); (try clear ho0)))
  go_ret
  exact ⟨_, TE, by have X_ := HO138.out; exact TR, TI108 HI0, TG108 HB HI0, TH HK⟩
def impl_within.f (a0 : Int) (a1 : Int) (a2 : Int) : Option (Bool) := if a0 ≥ a1 then (some (decide (a0 ≤ a2))) else (some false)
theorem impl_within.calls (a0 : Int) (a1 : Int) (a2 : Int) (r : Bool) (w : World) (h : impl_within.f a0 a1 a2 = some r) :
    Calls Try.prog 61 #[.int .i64 a0, .int .i64 a1, .int .i64 a2] w fun e w' => e = .returned (.bool r) ∧ Drawn0 w w' := by
  have H := h
  clear h
  unfold impl_within.f at H
  by_cases c4 : a0 ≥ a1
  · rw [if_pos c4] at H
    have c4b0 : decide (a1 ≤ a0) = true := decide_eq_true c4
    clear c4
    obtain rfl := Option.some.inj H
    go_enter Try.func61, Try.ntmps61
    go_wp2
    go_ret
    exact ⟨by first | rfl | (simp; done) | (simp [*]; done), TD⟩
  · rw [if_neg c4] at H
    have c4b0 : decide (a1 ≤ a0) = false := decide_eq_false c4
    clear c4
    obtain rfl := Option.some.inj H
    go_enter Try.func61, Try.ntmps61
    go_wp2
    go_ret
    exact ⟨by first | rfl | (simp; done) | (simp [*]; done), TD⟩
def impl_SizeOk.f (a0 : Int) (a1 : Int) : Option (Bool) := (impl_within.f a0 2 6).bind fun t156 => (if t156 = true then ((impl_within.f a1 0 (wrap64 (40 * a0))).bind fun t157 => (some t157)) else (some false))
theorem impl_SizeOk.calls (a0 : Int) (a1 : Int) (r : Bool) (w : World) (h : impl_SizeOk.f a0 a1 = some r) :
    Calls Try.prog 62 #[.int .i64 a0, .int .i64 a1] w fun e w' => e = .returned (.bool r) ∧ Drawn0 w w' := by
  have H := h
  clear h
  unfold impl_SizeOk.f at H
  replace H := bE H
  obtain ⟨t156, A3, H⟩ := H
  by_cases c4 : t156 = true
  · subst c4
    replace H := ifT H
    replace H := bE H
    obtain ⟨t157, A5, H⟩ := H
    obtain rfl := Option.some.inj H
    go_enter Try.func62, Try.ntmps62
    go_wp2_with (first | ((with_reducible refine gate_callee (f := 61) rfl ?_); refine gL (some 6) Try.func61 #[.int .i64 a0, .int .i64 2, .int .i64 6] ?_; (with_reducible refine (impl_within.calls a0 2 6 true _ A3.out).mono ?_); rintro e w' ⟨rfl, ⟨nd, rfl⟩⟩; refine ⟨_, rfl, ?_⟩) | (go_at_call 61; (with_reducible refine (impl_within.calls a1 0 (wrap64 (40 * a0)) t157 _ A5.out).mono ?_); rintro e w' ⟨rfl, ⟨nd, rfl⟩⟩))
    go_ret
    exact ⟨by first | rfl | (simp; done) | (simp [*]; done), TD⟩
  · replace c4 := Bool.eq_false_iff.mpr c4
    subst c4
    replace H := ifF H
    obtain rfl := Option.some.inj H
    go_enter Try.func62, Try.ntmps62
    go_wp2_with (first | ((with_reducible refine gate_callee (f := 61) rfl ?_); refine gL (some 6) Try.func61 #[.int .i64 a0, .int .i64 2, .int .i64 6] ?_; (with_reducible refine (impl_within.calls a0 2 6 false _ A3.out).mono ?_); rintro e w' ⟨rfl, ⟨nd, rfl⟩⟩; refine ⟨_, rfl, ?_⟩))
    go_ret
    exact ⟨by first | rfl | (simp; done) | (simp [*]; done), TD⟩
def impl_CeilDiv.f (a0 : Int) (a1 : Int) : Option (Int) := (impl_within.f a0 0 1000000000000).bind fun t158 => (if t158 = true then ((impl_within.f a1 1 1000000000000).bind fun t159 => (if t159 = true then (if a1 = 0 then (none) else (some (wrap64 (Int.tdiv (wrap64 ((wrap64 (a0 + a1)) - 1)) a1)))) else (some 0))) else (some 0))
theorem impl_CeilDiv.calls (a0 : Int) (a1 : Int) (r : Int) (w : World) (h : impl_CeilDiv.f a0 a1 = some r) :
    Calls Try.prog 65 #[.int .i64 a0, .int .i64 a1] w fun e w' => e = .returned (.int .i64 r) ∧ Drawn0 w w' := by
  have H := h
  clear h
  unfold impl_CeilDiv.f at H
  replace H := bE H
  obtain ⟨t158, A3, H⟩ := H
  by_cases c4 : t158 = true
  · subst c4
    replace H := ifT H
    replace H := bE H
    obtain ⟨t159, A5, H⟩ := H
    by_cases c6 : t159 = true
    · subst c6
      replace H := ifT H
      replace H := ifM H
      obtain ⟨c7, H⟩ := H
      have c7b0 : (a1 == 0) = false := beq_eq_false_iff_ne.mpr c7
      have c7b1 : (a1 != 0) = true := bne_iff_ne.mpr c7
      obtain rfl := Option.some.inj H
      go_enter Try.func65, Try.ntmps65
      go_wp2_with (first | ((with_reducible refine gate_callee (f := 61) rfl ?_); refine gL (some 6) Try.func61 #[.int .i64 a0, .int .i64 0, .int .i64 1000000000000] ?_; (with_reducible refine (impl_within.calls a0 0 1000000000000 true _ A3.out).mono ?_); rintro e w' ⟨rfl, ⟨nd, rfl⟩⟩; refine ⟨_, rfl, ?_⟩) | (go_at_call 61; (with_reducible refine (impl_within.calls a1 1 1000000000000 true _ A5.out).mono ?_); rintro e w' ⟨rfl, ⟨nd, rfl⟩⟩))
      go_ret
      exact ⟨by first | rfl | (simp; done) | (simp [*]; done), TD⟩
    · replace c6 := Bool.eq_false_iff.mpr c6
      subst c6
      replace H := ifF H
      obtain rfl := Option.some.inj H
      go_enter Try.func65, Try.ntmps65
      go_wp2_with (first | ((with_reducible refine gate_callee (f := 61) rfl ?_); refine gL (some 6) Try.func61 #[.int .i64 a0, .int .i64 0, .int .i64 1000000000000] ?_; (with_reducible refine (impl_within.calls a0 0 1000000000000 true _ A3.out).mono ?_); rintro e w' ⟨rfl, ⟨nd, rfl⟩⟩; refine ⟨_, rfl, ?_⟩) | (go_at_call 61; (with_reducible refine (impl_within.calls a1 1 1000000000000 false _ A5.out).mono ?_); rintro e w' ⟨rfl, ⟨nd, rfl⟩⟩))
      go_ret
      exact ⟨by first | rfl | (simp; done) | (simp [*]; done), TD⟩
  · replace c4 := Bool.eq_false_iff.mpr c4
    subst c4
    replace H := ifF H
    obtain rfl := Option.some.inj H
    go_enter Try.func65, Try.ntmps65
    go_wp2_with (first | ((with_reducible refine gate_callee (f := 61) rfl ?_); refine gL (some 6) Try.func61 #[.int .i64 a0, .int .i64 0, .int .i64 1000000000000] ?_; (with_reducible refine (impl_within.calls a0 0 1000000000000 false _ A3.out).mono ?_); rintro e w' ⟨rfl, ⟨nd, rfl⟩⟩; refine ⟨_, rfl, ?_⟩))
    go_ret
    exact ⟨by first | rfl | (simp; done) | (simp [*]; done), TD⟩
def impl_Blocks.f (a0 : Int) (a1 : Int) : Option (Int) := (impl_SizeOk.f a0 a1).bind fun t160 => (if t160 = true then ((impl_CeilDiv.f a1 a0).bind fun t161 => (some t161)) else (some 0))
theorem impl_Blocks.calls (a0 : Int) (a1 : Int) (r : Int) (w : World) (h : impl_Blocks.f a0 a1 = some r) :
    Calls Try.prog 12 #[.int .i64 a0, .int .i64 a1] w fun e w' => e = .returned (.int .i64 r) ∧ Drawn0 w w' := by
  have H := h
  clear h
  unfold impl_Blocks.f at H
  replace H := bE H
  obtain ⟨t160, A3, H⟩ := H
  by_cases c4 : t160 = true
  · subst c4
    replace H := ifT H
    replace H := bE H
    obtain ⟨t161, A5, H⟩ := H
    obtain rfl := Option.some.inj H
    go_enter Try.func12, Try.ntmps12
    go_wp2_with (first | ((with_reducible refine gate_callee (f := 62) rfl ?_); refine gL (some 7) Try.func62 #[.int .i64 a0, .int .i64 a1] ?_; (with_reducible refine (impl_SizeOk.calls a0 a1 true _ A3.out).mono ?_); rintro e w' ⟨rfl, ⟨nd, rfl⟩⟩; refine ⟨_, rfl, ?_⟩) | ((with_reducible refine gate_callee (f := 65) rfl ?_); refine gL (some 11) Try.func65 #[.int .i64 a1, .int .i64 a0] ?_; (with_reducible refine (impl_CeilDiv.calls a1 a0 t161 _ A5.out).mono ?_); rintro e w' ⟨rfl, ⟨nd, rfl⟩⟩; refine ⟨_, rfl, ?_⟩))
    go_ret
    exact ⟨by first | rfl | (simp; done) | (simp [*]; done), TD⟩
  · replace c4 := Bool.eq_false_iff.mpr c4
    subst c4
    replace H := ifF H
    obtain rfl := Option.some.inj H
    go_enter Try.func12, Try.ntmps12
    go_wp2_with (first | ((with_reducible refine gate_callee (f := 62) rfl ?_); refine gL (some 7) Try.func62 #[.int .i64 a0, .int .i64 a1] ?_; (with_reducible refine (impl_SizeOk.calls a0 a1 false _ A3.out).mono ?_); rintro e w' ⟨rfl, ⟨nd, rfl⟩⟩; refine ⟨_, rfl, ?_⟩))
    go_ret
    exact ⟨by first | rfl | (simp; done) | (simp [*]; done), TD⟩
def impl_SpanOf.f (a0 : Int) (a1 : Int) (a2 : Int) : Option (Int × Int) := (impl_Blocks.f a0 a1).bind fun t162 => ((impl_within.f a2 0 (wrap64 (t162 - 1))).bind fun t163 => (if t163 = true then (some (wrap64 (a2 * a0), mn a0 (wrap64 (a1 - (wrap64 (a2 * a0)))))) else (some (0, 0))))
theorem impl_SpanOf.calls (a0 : Int) (a1 : Int) (a2 : Int) (r1 : Int) (r2 : Int) (w : World) (h : impl_SpanOf.f a0 a1 a2 = some (r1, r2)) :
    Calls Try.prog 66 #[.int .i64 a0, .int .i64 a1, .int .i64 a2] w fun e w' => e = .returned (.tuple #[.int .i64 r1, .int .i64 r2]) ∧ Below w.heap.size w w' := by
  have HB := aM (Below.refl w.heap.size w)
  have H := h
  clear h
  unfold impl_SpanOf.f at H
  replace H := bE H
  obtain ⟨t162, A4, H⟩ := H
  replace H := bE H
  obtain ⟨t163, A5, H⟩ := H
  go_enter Try.func66, Try.ntmps66
  go_wp2_with (first | ((with_reducible refine gate_callee (f := 12) rfl ?_); refine gL (some 11) Try.func12 #[.int .i64 a0, .int .i64 a1] ?_; (with_reducible refine (impl_Blocks.calls a0 a1 t162 _ A4.out).mono ?_); rintro e w' ⟨rfl, ⟨nd, rfl⟩⟩; refine ⟨_, rfl, ?_⟩) | ((with_reducible refine gate_callee (f := 61) rfl ?_); refine gL (some 13) Try.func61 #[.int .i64 a2, .int .i64 0, .int .i64 (wrap64 (t162 - 1))] ?_; (with_reducible refine (impl_within.calls a2 0 (wrap64 (t162 - 1)) t163 _ A5.out).mono ?_); rintro e w' ⟨rfl, ⟨nd, rfl⟩⟩; refine ⟨_, rfl, ?_⟩) | ((with_reducible refine gate_dst (N := 14) rfl ?_); generalize hG_ : wpList _ _ _ _ _ _ = G_))
  subst hG_
  by_cases c7 : t163 = true
  · subst c7
    replace H := ifT H
    obtain ⟨ji8, hji8⟩ : ∃ j_ : Int, (mn a0 (wrap64 (a1 - (wrap64 (a2 * a0))))) = j_ := ⟨_, rfl⟩
    (first | rw [hji8] at H | simp only [hji8] at H | skip)
    have hji8_ : (if (wrap64 (a1 - (wrap64 (a2 * a0)))) < a0 then (wrap64 (a1 - (wrap64 (a2 * a0)))) else a0) = ji8 := hji8
    simp only [Option.some.injEq, Prod.mk.injEq] at H
    obtain ⟨rfl, rfl⟩ := H
    go_wp2
    go_ret2
    exact ⟨by first | rfl | (simp [errW_none, errW_some] <;> rfl) | (simp only [← hji8]; first | rfl | (simp [errW_none, errW_some] <;> rfl)) | (simp [*, errW_none, errW_some] <;> rfl), TB⟩
  · replace c7 := Bool.eq_false_iff.mpr c7
    subst c7
    replace H := ifF H
    simp only [Option.some.injEq, Prod.mk.injEq] at H
    obtain ⟨rfl, rfl⟩ := H
    go_wp2
    go_ret2
    exact ⟨TE, TB⟩
def impl_cloned.f (l0 : List Int) : Option (List Int) := if l0.length ≤ 140737488355328 then (some l0) else (none)
theorem impl_cloned.calls (A0 : Option Addr) (c0 : Nat) (l0 : List Int) (r : List Int) (w : World) (hr0 : Kd.C (Kd.int .u8) w A0 l0.length l0) (hc0 : l0.length ≤ c0) (h : impl_cloned.f l0 = some r) :
    Calls Try.prog 94 #[.slice A0 l0.length c0] w fun e w' => ∃ v0_ : Value, e = .returned (v0_) ∧ Kd.R (Kd.int .u8) 5 w' w.heap.size (fun _ => True) v0_ r ∧ Below w.heap.size w w' := by
  have HR0 := Aside0.mk hr0
  clear hr0 hc0
  unfold impl_cloned.f at h
  by_cases hl : l0.length ≤ 140737488355328
  · rw [if_pos hl] at h
    obtain rfl := Option.some.inj h
    have HL := Aside0.mk hl
    clear h hl
    obtain ⟨i0, hi, hzz⟩ := Option.map_eq_some_iff.1 info5
    simp only [Prod.mk.injEq] at hzz
    have HZ := Aside0.mk hzz
    have HI := Aside0.mk hi
    clear hi hzz
    go_enter Try.func94, Try.ntmps94
    go_wp2_with (first | (at_make; refine wpList_make_own _ rfl _ _ 22 rfl w.heap.size 5 i0 (.int .u8 0) 1 Try.underlying22 HI.out HZ.out.1 HZ.out.2.1 _ _ _ l0.length rfl rfl rfl ?mb ?mm ?ms ?_; (case mb => rw [HZ.out.2.2]; have := HL.out; omega); (case mm => have := HL.out; simp only [maxLen]; omega); (case ms => exact Nat.le_refl _); intro w1 ho hg; have HO := Aside0.mk (show Kd.R (Kd.int .u8) 5 w1 w.heap.size (fun _ => True) (.slice (some ⟨w.heap.size, 0, none⟩) 0 l0.length) [] from ⟨fun _ _ => trivial, [], ho, Reps.none _ _⟩); have HB := Aside0.mk (show Below w.heap.size w w1 from pw_below_grown (Below.refl _ _) none (Nat.le_refl _) hg (by simp)); clear ho hg) | ((with_reducible refine gate_builtin (b := .append) (xs := #[.tmp 5, .tmp 6]) rfl ?_); at_builtin; refine Kd.R_append_rows (Kd.int .u8) (w0 := w) w.heap.size rfl (.tmp 5) (.tmp 6) 22 5 (.int .u8 0) 1 rfl Try.underlying22 info5 rfl (by decide) (by omega) (.slice (some ⟨w.heap.size, 0, none⟩) 0 l0.length) [] l0 A0 _ _ (fun _ => True) (fun _ => False) rfl rfl ?aO ?aR (fun _ _ h => h) (fun _ h => h.elim) ?aF ?aB ?aS ?aL ?_; (case aR => exact Kd.C_below HR0.out HB.out); (case aB => exact HB.out); (case aF => exact (fun _ _ => trivial)); (case aO => exact HO.out); (case aS => exact below_size HB.out); (case aL => have := HL.out; simp only [List.length_nil]; omega); intro v2 w2 ho2 hb2 hg2 hat2; have HO2 := Aside0.mk ho2; have HB2 := Aside0.mk hb2; clear HO HB ho2 hb2 hg2 hat2))
    go_ret
    exact ⟨_, rfl, by simpa using HO2.out, HB2.out⟩
  · rw [if_neg hl] at h
    cases h
def impl_Slice.f (l0 : List Int) (a1 : Int) (a2 : Int) : Option (List Int × Bool) := (impl_within.f a1 0 (l0.length : Int)).bind fun t164 => (if t164 = true then ((impl_within.f a2 0 (wrap64 ((l0.length : Int) - a1))).bind fun t165 => (if t165 = true then (if 0 ≤ a1 then (if a1 ≤ (wrap64 (a1 + a2)) then (if (wrap64 (a1 + a2)) ≤ (l0.length : Int) then ((impl_cloned.f ((l0.take ((wrap64 (a1 + a2)) : Int).toNat).drop (a1 : Int).toNat)).bind fun t167 => (some (t167, true))) else (none)) else (none)) else (none)) else (some (([] : List Int), false)))) else (some (([] : List Int), false)))
theorem impl_Slice.calls (A0 : Option Addr) (c0 : Nat) (l0 : List Int) (a1 : Int) (a2 : Int) (r1 : List Int) (r2 : Bool) (w : World) (hr0 : Kd.C (Kd.int .u8) w A0 l0.length l0) (hc0 : l0.length ≤ c0) (h : impl_Slice.f l0 a1 a2 = some (r1, r2)) :
  Calls Try.prog 67 #[.slice A0 l0.length c0, .int .i64 a1, .int .i64 a2] w fun e w' => ∃ v0_ : Value, e = .returned (.tuple #[v0_, .bool r2]) ∧ Kd.R (Kd.int .u8) 5 w' w.heap.size (fun _ => True) v0_ r1 ∧ Below w.heap.size w w' := by
 have HR0 := aM hr0;have HC0 := aM hc0;clear hr0 hc0;have HB := aM (Below.refl w.heap.size w);have H := h;clear h;unfold impl_Slice.f at H;replace H := bE H;obtain ⟨t164, A4, H⟩ := H
 by_cases c5 : t164 = true
 ·subst c5;replace H := ifT H;replace H := bE H;obtain ⟨t165, A6, H⟩ := H
  by_cases c7 : t165 = true
  ·subst c7;replace H := ifT H;replace H := ifN H;obtain ⟨c8, H⟩ := H;have c8b0 := eq_true c8;have c8b1 : decide (0 ≤ a1) = true := decide_eq_true c8;clear c8;replace H := ifN H;obtain ⟨c9, H⟩ := H;have c9b0 := eq_true c9;have c9b1 : decide (a1 ≤ (wrap64 (a1 + a2))) = true := decide_eq_true c9;replace H := ifN H;obtain ⟨c10, H⟩ := H;have c10b0 := eq_true c10;have c10b1 : decide ((wrap64 (a1 + a2)) ≤ (l0.length : Int)) = true := decide_eq_true c10;replace H := bE H;obtain ⟨t167, A11, H⟩ := H;simp only [Option.some.injEq, Prod.mk.injEq] at H;obtain ⟨rfl, rfl⟩ := H;go_enter Try.func67, Try.ntmps67;go_wp2_with (first | ((with_reducible refine gate_callee (f := 61) rfl ?_); refine gL (some 11) Try.func61 #[.int .i64 a1, .int .i64 0, .int .i64 (l0.length : Int)] ?_; (with_reducible refine (impl_within.calls a1 0 (l0.length : Int) true _ A4.out).mono ?_); rintro e w' ⟨rfl, ⟨nd, rfl⟩⟩; refine ⟨_, rfl, ?_⟩) | (go_at_call 61; (with_reducible refine (impl_within.calls a2 0 (wrap64 ((l0.length : Int) - a1)) true _ A6.out).mono ?_); rintro e w' ⟨rfl, ⟨nd, rfl⟩⟩; obtain ⟨i012, hi012, _, hsz12, _⟩ := info_parts info5; obtain ⟨A12, hcut12, hA12, hC12⟩ := print_mid_of (P := Try.prog) (Value.int .u8) 0 22 5 .i64 .i64 Try.underlying22 hi012 hsz12 A0 c0 l0 a1 (wrap64 (a1 + a2)) DT (by first | omega | exact DT) DT HC0.out; have HR166 := aM (Kd.C_of_reads (h1 := fun _ => rfl) (hA12 _ (Kd.reads_of_C HR0.out))); have HC166 := aM hC12; clear hA12 hC12 hi012 hsz12) | ((with_reducible refine gate_callee (f := 94) rfl ?_); refine goesL_ (some 28) rfl rfl Try.func94 (by kernel_rfl) rfl #[.slice A12 ((l0.take ((wrap64 (a1 + a2)) : Int).toNat).drop (a1 : Int).toNat).length (c0 - a1.toNat)] rfl (by (try simp only [List.map_toArray, List.map_cons, List.map_nil]); first | done | (rw [show ((l0.take ((wrap64 (a1 + a2)) : Int).toNat).drop (a1 : Int).toNat).length = ((wrap64 (a1 + a2)).toNat - a1.toNat) from (by rw [List.length_drop, List.length_take]; have h_ : ((wrap64 (a1 + a2)) : Int) ≤ (l0.length : Int) := DT; omega)] <;> rfl) | rfl | (simp only [List.length_drop, List.length_take]; rfl)) ?_; (with_reducible refine (impl_cloned.calls _ _ ((l0.take ((wrap64 (a1 + a2)) : Int).toNat).drop (a1 : Int).toNat) t167 _ ?side1 ?side2 A11.out).mono ?_); (case side1 => have X_ := HR166.out; exact TC); (case side2 => exact HC166.out); rintro e w13 ⟨v168, rfl, ho0, hb⟩; refine ⟨_, rfl, ?_⟩; have HO169 := aM (Kd.R_lower ho0 (below_size TB)); replace HB := bS HB hb; clear ho0 hb))
   go_ret2
   exact ⟨_, TE, by have X_ := HO169.out; exact TR, TB⟩
  ·replace c7 := Bool.eq_false_iff.mpr c7;subst c7;replace H := ifF H;simp only [Option.some.injEq, Prod.mk.injEq] at H;obtain ⟨rfl, rfl⟩ := H;go_enter Try.func67, Try.ntmps67;go_wp2_with (first | ((with_reducible refine gate_callee (f := 61) rfl ?_); refine gL (some 11) Try.func61 #[.int .i64 a1, .int .i64 0, .int .i64 (l0.length : Int)] ?_; (with_reducible refine (impl_within.calls a1 0 (l0.length : Int) true _ A4.out).mono ?_); rintro e w' ⟨rfl, ⟨nd, rfl⟩⟩; refine ⟨_, rfl, ?_⟩) | (go_at_call 61; (with_reducible refine (impl_within.calls a2 0 (wrap64 ((l0.length : Int) - a1)) false _ A6.out).mono ?_); rintro e w' ⟨rfl, ⟨nd, rfl⟩⟩))
   go_ret2
   exact ⟨_, TE, by first | exact Kd.R_nil _ _ _ _ _ | exact Kd.N_nil _ _ _ _ _ | exact Kd.V_nil _ _ _ _ _ | exact Kd.Q_nil _ _ _ _ _ | exact Kd.S_nil _ _ _ _ _, TB⟩
 ·replace c5 := Bool.eq_false_iff.mpr c5;subst c5;replace H := ifF H;simp only [Option.some.injEq, Prod.mk.injEq] at H;obtain ⟨rfl, rfl⟩ := H;go_enter Try.func67, Try.ntmps67;go_wp2_with (first | ((with_reducible refine gate_callee (f := 61) rfl ?_); refine gL (some 11) Try.func61 #[.int .i64 a1, .int .i64 0, .int .i64 (l0.length : Int)] ?_; (with_reducible refine (impl_within.calls a1 0 (l0.length : Int) false _ A4.out).mono ?_); rintro e w' ⟨rfl, ⟨nd, rfl⟩⟩; refine ⟨_, rfl, ?_⟩))
  go_ret2
  exact ⟨_, TE, by first | exact Kd.R_nil _ _ _ _ _ | exact Kd.N_nil _ _ _ _ _ | exact Kd.V_nil _ _ _ _ _ | exact Kd.Q_nil _ _ _ _ _ | exact Kd.S_nil _ _ _ _ _, TB⟩
def impl_BlockAt.f (l0 : List Int) (a1 : Int) (a2 : Int) : Option (List Int × Bool) := (impl_SpanOf.f a1 (l0.length : Int) a2).bind fun bt170 => (if bt170.2 = 0 then (some (([] : List Int), false)) else ((impl_Slice.f l0 bt170.1 bt170.2).bind fun bt172 => (some (bt172.1, bt172.2))))
theorem impl_BlockAt.calls (A0 : Option Addr) (c0 : Nat) (l0 : List Int) (a1 : Int) (a2 : Int) (r1 : List Int) (r2 : Bool) (w : World) (hr0 : Kd.C (Kd.int .u8) w A0 l0.length l0) (hc0 : l0.length ≤ c0) (h : impl_BlockAt.f l0 a1 a2 = some (r1, r2)) :
    Calls Try.prog 13 #[.slice A0 l0.length c0, .int .i64 a1, .int .i64 a2] w fun e w' => ∃ v0_ : Value, e = .returned (.tuple #[v0_, .bool r2]) ∧ Kd.R (Kd.int .u8) 5 w' w.heap.size (fun _ => True) v0_ r1 ∧ Below w.heap.size w w' := by
  have HR0 := aM hr0
  have HC0 := aM hc0
  clear hr0 hc0
  have HB := aM (Below.refl w.heap.size w)
  have H := h
  clear h
  unfold impl_BlockAt.f at H
  replace H := bE H
  obtain ⟨⟨t170, t171⟩, A4, H⟩ := H
  dsimp only at H
  by_cases c5 : t171 = 0
  · rw [if_pos c5] at H
    have c5b0 : (t171 == 0) = true := beq_iff_eq.mpr c5
    have c5b1 : (t171 != 0) = false := bne_eq_false_iff_eq.mpr c5
    clear c5
    simp only [Option.some.injEq, Prod.mk.injEq] at H
    obtain ⟨rfl, rfl⟩ := H
    go_enter Try.func13, Try.ntmps13
    go_wp2_with (first | ((with_reducible refine gate_callee (f := 66) rfl ?_); refine gL (some 15) Try.func66 #[.int .i64 a1, .int .i64 (l0.length : Int), .int .i64 a2] ?_; (with_reducible refine (impl_SpanOf.calls a1 (l0.length : Int) a2 t170 t171 _ A4.out).mono ?_); rintro e w6 ⟨rfl, hb⟩; refine ⟨_, rfl, ?_⟩; replace HB := bS HB hb; clear hb))
    go_ret2
    exact ⟨_, TE, by first | exact Kd.R_nil _ _ _ _ _ | exact Kd.N_nil _ _ _ _ _ | exact Kd.V_nil _ _ _ _ _ | exact Kd.Q_nil _ _ _ _ _ | exact Kd.S_nil _ _ _ _ _, TB⟩
  · rw [if_neg c5] at H
    have c5b0 : (t171 == 0) = false := beq_eq_false_iff_ne.mpr c5
    have c5b1 : (t171 != 0) = true := bne_iff_ne.mpr c5
    replace H := bE H
    obtain ⟨⟨t172, t173⟩, A7, H⟩ := H
    dsimp only at H
    simp only [Option.some.injEq, Prod.mk.injEq] at H
    obtain ⟨rfl, rfl⟩ := H
    go_enter Try.func13, Try.ntmps13
    go_wp2_with (first | ((with_reducible refine gate_callee (f := 66) rfl ?_); refine gL (some 15) Try.func66 #[.int .i64 a1, .int .i64 (l0.length : Int), .int .i64 a2] ?_; (with_reducible refine (impl_SpanOf.calls a1 (l0.length : Int) a2 t170 t171 _ A4.out).mono ?_); rintro e w8 ⟨rfl, hb⟩; refine ⟨_, rfl, ?_⟩; replace HB := bS HB hb; clear hb) | ((with_reducible refine gate_callee (f := 67) rfl ?_); refine gL (some 23) Try.func67 #[.slice A0 l0.length c0, .int .i64 t170, .int .i64 t171] ?_; (with_reducible refine (impl_Slice.calls _ _ l0 t170 t171 t172 t173 _ ?side1 ?side2 A7.out).mono ?_); (case side1 => have X_ := (Kd.C_below HR0.out HB.out); exact TC); (case side2 => exact HC0.out); rintro e w9 ⟨v174, rfl, ho0, hb⟩; refine ⟨_, rfl, ?_⟩; have HO175 := aM (Kd.R_lower ho0 (below_size TB)); replace HB := bS HB hb; clear ho0 hb))
    go_ret2
    exact ⟨_, TE, by have X_ := HO175.out; exact TR, TB⟩
def impl_Wrap.f (a0 : Int) (a1 : Int) : Option (Int) := (impl_within.f a1 1 1000000000000).bind fun t176 => (if t176 = true then (if a1 = 0 then (none) else (some (Int.tmod (wrap64 ((Int.tmod a0 a1) + a1)) a1))) else (some 0))
theorem impl_Wrap.calls (a0 : Int) (a1 : Int) (r : Int) (w : World) (h : impl_Wrap.f a0 a1 = some r) :
    Calls Try.prog 126 #[.int .i64 a0, .int .i64 a1] w fun e w' => e = .returned (.int .i64 r) ∧ Drawn0 w w' := by
  have H := h
  clear h
  unfold impl_Wrap.f at H
  replace H := bE H
  obtain ⟨t176, A3, H⟩ := H
  by_cases c4 : t176 = true
  · subst c4
    replace H := ifT H
    replace H := ifM H
    obtain ⟨c5, H⟩ := H
    have c5b0 : (a1 == 0) = false := beq_eq_false_iff_ne.mpr c5
    have c5b1 : (a1 != 0) = true := bne_iff_ne.mpr c5
    obtain rfl := Option.some.inj H
    go_enter Try.func126, Try.ntmps126
    go_wp2_with (first | ((with_reducible refine gate_callee (f := 61) rfl ?_); refine gL (some 6) Try.func61 #[.int .i64 a1, .int .i64 1, .int .i64 1000000000000] ?_; (with_reducible refine (impl_within.calls a1 1 1000000000000 true _ A3.out).mono ?_); rintro e w' ⟨rfl, ⟨nd, rfl⟩⟩; refine ⟨_, rfl, ?_⟩))
    go_ret
    exact ⟨by first | rfl | (simp; done) | (simp [*]; done), TD⟩
  · replace c4 := Bool.eq_false_iff.mpr c4
    subst c4
    replace H := ifF H
    obtain rfl := Option.some.inj H
    go_enter Try.func126, Try.ntmps126
    go_wp2_with (first | ((with_reducible refine gate_callee (f := 61) rfl ?_); refine gL (some 6) Try.func61 #[.int .i64 a1, .int .i64 1, .int .i64 1000000000000] ?_; (with_reducible refine (impl_within.calls a1 1 1000000000000 false _ A3.out).mono ?_); rintro e w' ⟨rfl, ⟨nd, rfl⟩⟩; refine ⟨_, rfl, ?_⟩))
    go_ret
    exact ⟨by first | rfl | (simp; done) | (simp [*]; done), TD⟩
def impl_weak.f (a0 : Int) (a1 : Int) : Option (Int) := (impl_Wrap.f a0 251).bind fun t177 => ((impl_Wrap.f a1 251).bind fun t178 => (some (wrap64 (t177 + (wrap64 (251 * t178))))))
theorem impl_weak.calls (a0 : Int) (a1 : Int) (r : Int) (w : World) (h : impl_weak.f a0 a1 = some r) :
    Calls Try.prog 119 #[.int .i64 a0, .int .i64 a1] w fun e w' => e = .returned (.int .i64 r) ∧ Drawn0 w w' := by
  have H := h
  clear h
  unfold impl_weak.f at H
  replace H := bE H
  obtain ⟨t177, A3, H⟩ := H
  replace H := bE H
  obtain ⟨t178, A4, H⟩ := H
  obtain rfl := Option.some.inj H
  go_enter Try.func119, Try.ntmps119
  go_wp2_with (first | ((with_reducible refine gate_callee (f := 126) rfl ?_); refine gL (some 6) Try.func126 #[.int .i64 a0, .int .i64 251] ?_; (with_reducible refine (impl_Wrap.calls a0 251 t177 _ A3.out).mono ?_); rintro e w' ⟨rfl, ⟨nd, rfl⟩⟩; refine ⟨_, rfl, ?_⟩) | ((with_reducible refine gate_callee (f := 126) rfl ?_); refine gL (some 8) Try.func126 #[.int .i64 a1, .int .i64 251] ?_; (with_reducible refine (impl_Wrap.calls a1 251 t178 _ A4.out).mono ?_); rintro e w' ⟨rfl, ⟨nd, rfl⟩⟩; refine ⟨_, rfl, ?_⟩))
  go_ret
  exact ⟨by first | rfl | (simp; done) | (simp [*]; done), TD⟩
def impl_WeakOf.l0 : Nat → Int → Int → List Int → Int → Int → Option (Int)
  | 0, _, _, _, _, _ => none
  | k + 1, x3, x4, x7, x8, x9 => if x9 < x8 then (if 0 ≤ x9 then (if x9 < (x7.length : Int) then (impl_WeakOf.l0 k (Int.tmod (wrap64 (x3 + (wrap64 (rd x7 x9)))) 251) (Int.tmod (wrap64 (x4 + (Int.tmod (wrap64 (x3 + (wrap64 (rd x7 x9)))) 251))) 251) x7 x8 (wrap64 (x9 + 1))) else (none)) else (none)) else ((impl_weak.f x3 x4).bind fun t180 => (some t180))
def impl_WeakOf.f (k : Nat) (l0 : List Int) : Option (Int) := impl_WeakOf.l0 k 0 0 l0 (l0.length : Int) 0
theorem impl_WeakOf.mono_l : ∀ k, (∀ y0 y1 y2 y3 y4, LeO (impl_WeakOf.l0 k y0 y1 y2 y3 y4) (impl_WeakOf.l0 (k + 1) y0 y1 y2 y3 y4))
  | 0 => fun _ _ _ _ _ r h => by simp [impl_WeakOf.l0] at h
  | k + 1 => by
    have ih0 := impl_WeakOf.mono_l k
    · intro y0 y1 y2 y3 y4
      unfold impl_WeakOf.l0
      exact LM
theorem impl_WeakOf.mono : ∀ a0 k, LeO (impl_WeakOf.f k a0) (impl_WeakOf.f (k + 1) a0) := by
  intro a0 k;have ih0 := impl_WeakOf.mono_l k;unfold impl_WeakOf.f;exact LM
theorem impl_WeakOf.calls (k : Nat) (A0 : Option Addr) (c0 : Nat) (l0 : List Int) (r : Int) (w : World) (hr0 : Kd.C (Kd.int .u8) w A0 l0.length l0) (hc0 : l0.length ≤ c0) (h : impl_WeakOf.f k l0 = some r) :
    Calls Try.prog 105 #[.slice A0 l0.length c0] w fun e w' => e = .returned (.int .i64 r) ∧ Drawn0 w w' := by
  have HR0 := aM hr0
  have HC0 := aM hc0
  clear hr0 hc0
  have H := h
  clear h
  unfold impl_WeakOf.f at H
  have H' := aM H
  clear H
  go_enter Try.func105, Try.ntmps105
  go_wp2
  go_loopg [3, 4, 9] k (fun kq v3 v4 v9 w' => ∃ (x3_1 : Int) (x4_1 : Int) (x9_1 : Int), v3 = .int .i64 x3_1 ∧ v4 = .int .i64 x4_1 ∧ v9 = .int .i64 x9_1 ∧ Aside0 (impl_WeakOf.l0 kq x3_1 x4_1 l0 (l0.length : Int) x9_1 = some r) ∧ Aside0 (kq ≤ k) ∧ Drawn0 w w')
  case atStart => exact ⟨(0), (0), (0), TF, TF, TF, H', ⟨Nat.le_refl _⟩, TD⟩
  case round =>
    clear H'
    try clear c1
    obtain ⟨x3_1, x4_1, x9_1, rfl, rfl, rfl, HA, HK1, ⟨m1, rfl⟩⟩ := hrel
    cases gk with
    | zero => exact absurd HA.out (by simp [impl_WeakOf.l0])
    | succ k1 =>
      have H := HA.out
      clear HA
      simp only [impl_WeakOf.l0] at H
      by_cases c2 : x9_1 < (l0.length : Int)
      · rw [if_pos c2] at H
        have c2b0 : decide (x9_1 < (l0.length : Int)) = true := decide_eq_true c2
        clear c2
        replace H := ifN H
        obtain ⟨c3, H⟩ := H
        have c3b0 : decide (0 ≤ x9_1) = true := decide_eq_true c3
        clear c3
        replace H := ifN H
        obtain ⟨c4, H⟩ := H
        have c4b0 : decide (x9_1 < (l0.length : Int)) = true := decide_eq_true c4
        clear c4
        have H' := aM H
        clear H
        have p179 : 0 ≤ (x9_1 : Int) := DT
        have q179 : x9_1 < (l0.length : Int) := DT
        obtain ⟨ad179, e179, hx179_0⟩ := Kd.at_int HR0.out x9_1 p179 q179
        cases e179
        replace p179 := eq_true p179
        replace q179 := eq_true q179
        go_wp2
        go_roundg k1
        case measure => have := HK1.out; omega
        case rel => exact ⟨(Int.tmod (wrap64 (x3_1 + (wrap64 (rd l0 x9_1)))) 251), (Int.tmod (wrap64 (x4_1 + (Int.tmod (wrap64 (x3_1 + (wrap64 (rd l0 x9_1)))) 251))) 251), (wrap64 (x9_1 + 1)), TF, TF, TF, H', ⟨by have := HK1.out; omega⟩, TD⟩
      · rw [if_neg c2] at H
        have c2b0 : decide (x9_1 < (l0.length : Int)) = false := decide_eq_false c2
        clear c2
        replace H := bE H
        obtain ⟨t180, A5, H⟩ := H
        obtain rfl := Option.some.inj H
        go_wp2_with (first | ((with_reducible refine gate_callee (f := 119) rfl ?_); refine gL (some 25) Try.func119 #[.int .i64 x3_1, .int .i64 x4_1] ?_; (with_reducible refine (impl_weak.calls x3_1 x4_1 t180 _ A5.out).mono ?_); rintro e w' ⟨rfl, ⟨nd, rfl⟩⟩; refine ⟨_, rfl, ?_⟩))
        go_ret
        exact ⟨by first | rfl | (simp; done) | (simp [*]; done), TD⟩
def impl_SumOf.l0 : Nat → List Int → Int → List Int → Int → Int → Option (Int × Int)
  | 0, _, _, _, _, _ => none
  | k + 1, x0, x3, x10, x11, x12 => if x12 < x11 then (if 0 ≤ x12 then (if x12 < (x10.length : Int) then (impl_SumOf.l0 k x0 (Go.bits .or .i64 (wrap64 (x3 * 256)) (wrap64 (rd x10 x12))) x10 x11 (wrap64 (x12 + 1))) else (none)) else (none)) else ((impl_WeakOf.f k x0).bind fun t183 => (some (t183, x3)))
def impl_SumOf.f (k : Nat) (l0 : List Int) : Option (Int × Int) := if (l0.length : Int) > 6 then (some (0, 0)) else (impl_SumOf.l0 k l0 1 l0 (l0.length : Int) 0)
theorem impl_SumOf.mono_l : ∀ k, (∀ y0 y1 y2 y3 y4, LeO (impl_SumOf.l0 k y0 y1 y2 y3 y4) (impl_SumOf.l0 (k + 1) y0 y1 y2 y3 y4))
  | 0 => fun _ _ _ _ _ r h => by simp [impl_SumOf.l0] at h
  | k + 1 => by
    have m0_ := @impl_WeakOf.mono
    have ih0 := impl_SumOf.mono_l k
    · intro y0 y1 y2 y3 y4
      unfold impl_SumOf.l0
      exact LM
theorem impl_SumOf.mono : ∀ a0 k, LeO (impl_SumOf.f k a0) (impl_SumOf.f (k + 1) a0) := by
  intro a0 k;have m0_ := @impl_WeakOf.mono;have ih0 := impl_SumOf.mono_l k;unfold impl_SumOf.f;exact LM
theorem impl_SumOf.calls (k : Nat) (A0 : Option Addr) (c0 : Nat) (l0 : List Int) (r1 : Int) (r2 : Int) (w : World) (hr0 : Kd.C (Kd.int .u8) w A0 l0.length l0) (hc0 : l0.length ≤ c0) (h : impl_SumOf.f k l0 = some (r1, r2)) :
    Calls Try.prog 57 #[.slice A0 l0.length c0] w fun e w' => e = .returned (.agg #[.int .i64 r1, .int .i64 r2]) ∧ Below w.heap.size w w' := by
  have hu48 := Try.underlying48
  have HR0 := aM hr0
  have HC0 := aM hc0
  clear hr0 hc0
  have HB := aM (Below.refl w.heap.size w)
  have H := h
  clear h
  unfold impl_SumOf.f at H
  by_cases c2 : (l0.length : Int) > 6
  · rw [if_pos c2] at H
    have c2b0 : decide (6 < (l0.length : Int)) = true := decide_eq_true c2
    have c2b1 : decide (6 < l0.length) = true := decide_eq_true (by omega)
    clear c2
    simp only [Option.some.injEq, Prod.mk.injEq] at H
    obtain ⟨rfl, rfl⟩ := H
    go_enter Try.func57, Try.ntmps57
    go_wp2_with (first | ((with_reducible refine gate_dst (N := 2) rfl ?_); refine gBx 2 #[.int .i64 0, .int .i64 0] 48 ?_; intro gb181 hg w3 hbox hb; have BK181 := aM (hbox); have GW181 := gW HB hg; have GE181 := gW HB hg; replace HB := bS HB hb; clear hb hbox hg; obtain ⟨hcz4_0, hcz4_1⟩ := cz2 BK181.out; obtain ⟨hfz4_0, hfz4_1⟩ := fz2 BK181.out))
    refine bodyPost_ret (results_cell_row rfl _ _ gb181 48 #[.int .i64 0, .int .i64 0] (0, 0) _ rfl (blk_put (blk_put (cs := #[.int .i64 0, .int .i64 0]) (TZ BK181) 0 _ rfl) 1 _ rfl) Try.underlying48 rfl (by kernel_rfl)) rfl ?_
    exact ⟨TE, TB⟩
  · rw [if_neg c2] at H
    have c2b0 : decide (6 < (l0.length : Int)) = false := decide_eq_false c2
    have c2b1 : decide (6 < l0.length) = false := decide_eq_false (by omega)
    clear c2
    have H' := aM H
    clear H
    go_enter Try.func57, Try.ntmps57
    go_wp2_with (first | ((with_reducible refine gate_dst (N := 2) rfl ?_); refine gBx 2 #[.int .i64 0, .int .i64 0] 48 ?_; intro gb181 hg w5 hbox hb; have BK181 := aM (hbox); have GW181 := gW HB hg; have GE181 := gW HB hg; replace HB := bS HB hb; clear hb hbox hg))
    go_loopg [3, 12] k (fun kq v3 v12 w' => ∃ (x3_1 : Int) (x12_1 : Int), v3 = .int .i64 x3_1 ∧ v12 = .int .i64 x12_1 ∧ Aside0 (impl_SumOf.l0 kq l0 x3_1 l0 (l0.length : Int) x12_1 = some (r1, r2)) ∧ Aside0 (kq ≤ k) ∧ Aside0 (w'.heap[gb181]? = some (.cells #[.int .i64 0, .int .i64 0] 48 (0, 0))) ∧ Aside0 (Below w.heap.size w w'))
    case atStart => exact ⟨(1), (0), TF, TF, H', ⟨Nat.le_refl _⟩, ⟨TK⟩, ⟨TB⟩⟩
    case round =>
      clear H'
      try clear c2
      try clear c2b0
      try clear c2b1
      try clear p2
      try clear c5
      try clear hcz4_0
      try clear hcz4_1
      try clear hfz4_0
      try clear hfz4_1
      obtain ⟨x3_1, x12_1, rfl, rfl, HA, HK1, BK181, HB⟩ := hrel
      cases gk with
      | zero => exact absurd HA.out (by simp [impl_SumOf.l0])
      | succ k1 =>
        have H := HA.out
        clear HA
        simp only [impl_SumOf.l0] at H
        by_cases c6 : x12_1 < (l0.length : Int)
        · rw [if_pos c6] at H
          have c6b0 : decide (x12_1 < (l0.length : Int)) = true := decide_eq_true c6
          clear c6
          replace H := ifN H
          obtain ⟨c7, H⟩ := H
          have c7b0 : decide (0 ≤ x12_1) = true := decide_eq_true c7
          clear c7
          replace H := ifN H
          obtain ⟨c8, H⟩ := H
          have c8b0 : decide (x12_1 < (l0.length : Int)) = true := decide_eq_true c8
          clear c8
          have H' := aM H
          clear H
          have p182 : 0 ≤ (x12_1 : Int) := DT
          have q182 : x12_1 < (l0.length : Int) := DT
          obtain ⟨ad182, e182, hx182_0⟩ := Kd.at_int HR0.out x12_1 p182 q182
          cases e182
          replace hx182_0 := (HB.out.cell (World.block_lt_of_cell? w _ hx182_0)).trans hx182_0
          replace p182 := eq_true p182
          replace q182 := eq_true q182
          go_wp2
          go_roundg k1
          case measure => have := HK1.out; omega
          case rel => exact ⟨(Go.bits .or .i64 (wrap64 (x3_1 * 256)) (wrap64 (rd l0 x12_1))), (wrap64 (x12_1 + 1)), TF, TF, H', ⟨by have := HK1.out; omega⟩, ⟨TK⟩, ⟨TB⟩⟩
        · rw [if_neg c6] at H
          have c6b0 : decide (x12_1 < (l0.length : Int)) = false := decide_eq_false c6
          clear c6
          replace H := bE H
          obtain ⟨t183, A9, H⟩ := H
          simp only [Option.some.injEq, Prod.mk.injEq] at H
          obtain ⟨rfl, rfl⟩ := H
          go_wp2_with (first | ((with_reducible refine gate_callee (f := 105) rfl ?_); refine gL (some 23) Try.func105 #[.slice A0 l0.length c0] ?_; (with_reducible refine (impl_WeakOf.calls k1 _ _ l0 t183 _ ?side1 ?side2 A9.out).mono ?_); (case side1 => have X_ := (Kd.C_below HR0.out HB.out); exact TC); (case side2 => exact HC0.out); rintro e w' ⟨rfl, ⟨nd, rfl⟩⟩; refine ⟨_, rfl, ?_⟩; (try (rw [drewN_self wr]; generalize hq_ : World.drewN wr _ = wr; have n0_ : Aside0 (wr.heap[gb181]? = some (.cells #[.int .i64 0, .int .i64 0] 48 (0, 0))) := ⟨by rw [← hq_]; exact TK⟩; have n1_ : Aside0 (Below w.heap.size w wr) := ⟨by rw [← hq_]; exact TB⟩; clear BK181 HB hq_; have BK181 := n0_; have HB := n1_; clear n0_ n1_)); obtain ⟨hcz10_0, hcz10_1⟩ := cz2 BK181.out; obtain ⟨hfz10_0, hfz10_1⟩ := fz2 BK181.out))
          refine bodyPost_ret (results_cell_row rfl _ _ gb181 48 #[.int .i64 t183, .int .i64 x3_1] (0, 0) _ rfl (blk_put (blk_put (cs := #[.int .i64 0, .int .i64 0]) (TZ BK181) 0 _ rfl) 1 _ rfl) Try.underlying48 rfl (by kernel_rfl)) rfl ?_
          exact ⟨TE, TB⟩
def impl_SumsOf.l0 : Nat → List Int → Int → List (S48) → Int → Int → Option ((List (S48)))
  | 0, _, _, _, _, _ => none
  | k + 1, x0, x1, x5, x13, x14 => if x14 < x13 then ((impl_BlockAt.f x0 x1 x14).bind fun bt188 => ((impl_SumOf.f k bt188.1).bind fun bt192 => (if x5.length < 8796093022208 then (impl_SumsOf.l0 k x0 x1 (x5 ++ [(⟨bt192.1, bt192.2⟩ : S48)]) x13 (wrap64 (x14 + 1))) else (none)))) else (some x5)
def impl_SumsOf.f (k : Nat) (l0 : List Int) (a1 : Int) : Option ((List (S48))) := (impl_Blocks.f a1 (l0.length : Int)).bind fun t187 => (impl_SumsOf.l0 k l0 a1 (([] : List (S48))) t187 0)
theorem impl_SumsOf.mono_l : ∀ k, (∀ y0 y1 y2 y3 y4, LeO (impl_SumsOf.l0 k y0 y1 y2 y3 y4) (impl_SumsOf.l0 (k + 1) y0 y1 y2 y3 y4))
  | 0 => fun _ _ _ _ _ r h => by simp [impl_SumsOf.l0] at h
  | k + 1 => by
    have m0_ := @impl_SumOf.mono
    have ih0 := impl_SumsOf.mono_l k
    · intro y0 y1 y2 y3 y4
      unfold impl_SumsOf.l0
      exact LM
theorem impl_SumsOf.mono : ∀ a0 a1 k, LeO (impl_SumsOf.f k a0 a1) (impl_SumsOf.f (k + 1) a0 a1) := by
  intro a0 a1 k;have m0_ := @impl_SumOf.mono;have ih0 := impl_SumsOf.mono_l k;unfold impl_SumsOf.f;exact LM
theorem impl_SumsOf.calls (k : Nat) (A0 : Option Addr) (c0 : Nat) (l0 : List Int) (a1 : Int) (r : List (S48)) (w : World) (hr0 : Kd.C (Kd.int .u8) w A0 l0.length l0) (hc0 : l0.length ≤ c0) (h : impl_SumsOf.f k l0 a1 = some r) :
    Calls Try.prog 63 #[.slice A0 l0.length c0, .int .i64 a1] w fun e w' => ∃ v0_ : Value, e = .returned (v0_) ∧ Kd.R k48 48 w' w.heap.size (fun _ => True) v0_ r ∧ Below w.heap.size w w' := by
  have HR0 := aM hr0
  have HC0 := aM hc0
  clear hr0 hc0
  have HB := aM (Below.refl w.heap.size w)
  have H := h
  clear h
  unfold impl_SumsOf.f at H
  obtain ⟨y184, hy184⟩ : ∃ y_ : List (S48), y_ = (([] : List (S48))) := ⟨_, rfl⟩
  rw [← hy184] at H
  have Ny184 := aM hy184
  clear hy184
  replace H := bE H
  obtain ⟨t187, A3, H⟩ := H
  have H' := aM H
  clear H
  go_enter Try.func63, Try.ntmps63
  go_wp2_with (first | ((with_reducible refine gate_dst (N := 9) rfl ?_); refine Kd.R_lit k48 _ 48 ?hg (N := 9) ?hd (xs := ([] : List (S48))) (inner := []) (ok := fun _ => True) (okp := fun _ => True) ?hr ?hp (fun _ hk => hk) trivial (Below.refl _ _) (Nat.le_refl _) (by simp) ?_; (case hd => rfl); (case hg => rfl); (case hr => first | (go_simp; done) | (go_simp; rfl)); (case hp => exact (Reps.none _ _)); intro v185 w4 ho5 hb hg_ hnew_; clear hg_ hnew_; (first | rw [← Ny184.out] at ho5 | (simp only [Int.reduceToNat] at ho5; rw [← Ny184.out] at ho5)); have HO186 := aM (Kd.R_lower ho5 (below_size TB)); replace HB := bS HB hb; clear hb ho5) | ((with_reducible refine gate_callee (f := 12) rfl ?_); refine gL (some 13) Try.func12 #[.int .i64 a1, .int .i64 (l0.length : Int)] ?_; (with_reducible refine (impl_Blocks.calls a1 (l0.length : Int) t187 _ A3.out).mono ?_); rintro e w' ⟨rfl, ⟨nd, rfl⟩⟩; refine ⟨_, rfl, ?_⟩))
  go_loopg [5, 14] k (fun kq v5 v14 w' => ∃ (x5_1 : List (S48)) (x14_1 : Int), v14 = .int .i64 x14_1 ∧ Aside0 (impl_SumsOf.l0 kq l0 a1 x5_1 t187 x14_1 = some r) ∧ Aside0 (kq ≤ k) ∧ Aside0 (Kd.R k48 48 w' w.heap.size (fun _ => True) v5 x5_1) ∧ Aside0 (Below w.heap.size w w'))
  case atStart => exact ⟨(y184), (0), TF, H', ⟨Nat.le_refl _⟩, ⟨by have X_ := HO186.out; exact TR⟩, ⟨TB⟩⟩
  case round =>
    clear H'
    try clear c1
    try clear p2
    obtain ⟨x5_1, x14_1, rfl, HA, HK1, HO_5, HB⟩ := hrel
    cases gk with
    | zero => exact absurd HA.out (by simp [impl_SumsOf.l0])
    | succ k1 =>
      have H := HA.out
      clear HA
      simp only [impl_SumsOf.l0] at H
      by_cases c6 : x14_1 < t187
      · rw [if_pos c6] at H
        have c6b0 : decide (x14_1 < t187) = true := decide_eq_true c6
        clear c6
        replace H := bE H
        obtain ⟨⟨t188, t189⟩, A7, H⟩ := H
        dsimp only at H
        replace H := bE H
        obtain ⟨⟨t192, t193⟩, A8, H⟩ := H
        dsimp only at H
        replace H := ifN H
        obtain ⟨c9, H⟩ := H
        have LMc9 := aM c9
        clear c9
        obtain ⟨y194, hy194⟩ : ∃ y_ : List (S48), y_ = (x5_1 ++ [(⟨t192, t193⟩ : S48)]) := ⟨_, rfl⟩
        rw [← hy194] at H
        have Ny194 := aM hy194
        clear hy194
        have H' := aM H
        clear H
        go_wp2_with (first | ((with_reducible refine gate_callee (f := 13) rfl ?_); refine gL (some 21) Try.func13 #[.slice A0 l0.length c0, .int .i64 a1, .int .i64 x14_1] ?_; (with_reducible refine (impl_BlockAt.calls _ _ l0 a1 x14_1 t188 t189 _ ?side1 ?side2 A7.out).mono ?_); (case side1 => have X_ := (Kd.C_below HR0.out HB.out); exact TC); (case side2 => exact HC0.out); rintro e w10 ⟨v190, rfl, ho0, hb⟩; refine ⟨_, rfl, ?_⟩; have HO191 := aM (Kd.R_lower ho0 (below_size TB)); replace HO_5 := mR HO_5 hb; replace HB := bS HB hb; clear ho0 hb; obtain ⟨Ao11, co11, eo11⟩ := Kd.R_slice HO191.out; subst eo11) | ((with_reducible refine gate_callee (f := 57) rfl ?_); refine gL (some 26) Try.func57 #[.slice Ao11 t188.length co11] ?_; (with_reducible refine (impl_SumOf.calls k1 _ _ t188 t192 t193 _ ?side1 ?side2 A8.out).mono ?_); (case side1 => have X_ := (Kd.R_reads' HO191.out).2.2; exact TC); (case side2 => exact (Kd.R_reads' HO191.out).2.1); rintro e w12 ⟨rfl, hb⟩; refine ⟨_, rfl, ?_⟩; replace HO_5 := mR HO_5 hb; replace HO191 := mR HO191 hb; replace HB := bS HB hb; clear hb) | ((with_reducible refine gate_builtin (b := .append) (xs := #[.tmp 24, .tmp 27]) rfl ?_); at_builtin; refine Kd.R_append k48 (w0 := w) w.heap.size rfl (.tmp 24) (.tmp 27) 26 48 (.agg #[(.int .i64 0), (.int .i64 0)]) 16 rfl Try.underlying26 info48 rfl (by decide) (by omega) u5 x5_1 (⟨t192, t193⟩ : S48) [.int .i64 t192, .int .i64 t193] (fun _ => True) (fun _ => False) rfl rfl ?aP (fun _ hk => hk.elim) ?aF ?aO ?aB ?aS ?aL ?_; (case aP => exact k48_mkM _ _ _ (⟨t192, t193⟩ : S48)); (case aB => exact TB); (case aF => exact (fun _ _ => trivial)); (case aO => exact (TRf HO_5)); (case aS => exact (below_size TB)); (case aL => have := LMc9.out; omega); intro v195 w13 ho hb hg hat; rw [← Ny194.out] at ho; have HO196 := aM (ho); replace HO191 := aM (Kd.R_over' (TRf HO191) (Kd.R_typed (TRf HO_5)) (by decide) hg); replace HB := aM (hb); clear HO_5; clear ho hb hg hat))
        go_roundg k1
        case measure => have := HK1.out; omega
        case rel => exact ⟨(y194), (wrap64 (x14_1 + 1)), TF, H', ⟨by have := HK1.out; omega⟩, ⟨by have X_ := HO196.out; exact TR⟩, ⟨TB⟩⟩
      · rw [if_neg c6] at H
        have c6b0 : decide (x14_1 < t187) = false := decide_eq_false c6
        clear c6
        obtain rfl := Option.some.inj H
        go_wp2
        go_ret
        exact ⟨_, TE, by have X_ := HO_5.out; exact TR, TB⟩
def impl_SetOk.f (a0 : Int) : Option (Bool) := (impl_within.f a0 0 1099511627775).bind fun t228 => (some t228)
theorem impl_SetOk.calls (a0 : Int) (r : Bool) (w : World) (h : impl_SetOk.f a0 = some r) :
    Calls Try.prog 72 #[.int .i64 a0] w fun e w' => e = .returned (.bool r) ∧ Drawn0 w w' := by
  have H := h
  clear h
  unfold impl_SetOk.f at H
  replace H := bE H
  obtain ⟨t228, A2, H⟩ := H
  obtain rfl := Option.some.inj H
  go_enter Try.func72, Try.ntmps72
  go_wp2_with (first | ((with_reducible refine gate_callee (f := 61) rfl ?_); refine gL (some 4) Try.func61 #[.int .i64 a0, .int .i64 0, .int .i64 1099511627775] ?_; (with_reducible refine (impl_within.calls a0 0 1099511627775 t228 _ A2.out).mono ?_); rintro e w' ⟨rfl, ⟨nd, rfl⟩⟩; refine ⟨_, rfl, ?_⟩))
  go_ret
  exact ⟨by first | rfl | (simp; done) | (simp [*]; done), TD⟩
def impl_isPlace.f (a0 : Int) : Option (Bool) := (impl_within.f a0 0 39).bind fun t229 => (some t229)
theorem impl_isPlace.calls (a0 : Int) (r : Bool) (w : World) (h : impl_isPlace.f a0 = some r) :
    Calls Try.prog 87 #[.int .i64 a0] w fun e w' => e = .returned (.bool r) ∧ Drawn0 w w' := by
  have H := h
  clear h
  unfold impl_isPlace.f at H
  replace H := bE H
  obtain ⟨t229, A2, H⟩ := H
  obtain rfl := Option.some.inj H
  go_enter Try.func87, Try.ntmps87
  go_wp2_with (first | ((with_reducible refine gate_callee (f := 61) rfl ?_); refine gL (some 4) Try.func61 #[.int .i64 a0, .int .i64 0, .int .i64 39] ?_; (with_reducible refine (impl_within.calls a0 0 39 t229 _ A2.out).mono ?_); rintro e w' ⟨rfl, ⟨nd, rfl⟩⟩; refine ⟨_, rfl, ?_⟩))
  go_ret
  exact ⟨by first | rfl | (simp; done) | (simp [*]; done), TD⟩
def impl_InSet.f (a0 : Int) (a1 : Int) : Option (Bool) := (impl_SetOk.f a0).bind fun t230 => (if t230 = true then ((impl_isPlace.f a1).bind fun t231 => (if t231 = true then (if 0 ≤ a1 then (some ((Go.bits .and .i64 (shr .i64 a0 a1) 1) == 1)) else (none)) else (some false))) else (some false))
theorem impl_InSet.calls (a0 : Int) (a1 : Int) (r : Bool) (w : World) (h : impl_InSet.f a0 a1 = some r) :
    Calls Try.prog 37 #[.int .i64 a0, .int .i64 a1] w fun e w' => e = .returned (.bool r) ∧ Drawn0 w w' := by
  have H := h
  clear h
  unfold impl_InSet.f at H
  replace H := bE H
  obtain ⟨t230, A3, H⟩ := H
  by_cases c4 : t230 = true
  · subst c4
    replace H := ifT H
    replace H := bE H
    obtain ⟨t231, A5, H⟩ := H
    by_cases c6 : t231 = true
    · subst c6
      replace H := ifT H
      replace H := ifN H
      obtain ⟨c7, H⟩ := H
      have c7b0 := eq_true c7
      have c7b1 : decide (0 ≤ a1) = true := decide_eq_true c7
      clear c7
      obtain ⟨ji8, hji8⟩ : ∃ j_ : Int, (shr .i64 a0 a1) = j_ := ⟨_, rfl⟩
      (first | rw [hji8] at H | simp only [hji8] at H | skip)
      (try rw [hji8] at A3)
      (try rw [hji8] at A5)
      have hji8_ : (a0 / 2 ^ min a1.toNat 64) = ji8 := hji8
      have hji8z : a1 ≤ 64 → (a0 / 2 ^ a1.toNat) = ji8 := shr_small hji8
      obtain rfl := Option.some.inj H
      go_enter Try.func37, Try.ntmps37
      go_wp2_with (first | ((with_reducible refine gate_callee (f := 72) rfl ?_); refine gL (some 6) Try.func72 #[.int .i64 a0] ?_; (with_reducible refine (impl_SetOk.calls a0 true _ A3.out).mono ?_); rintro e w' ⟨rfl, ⟨nd, rfl⟩⟩; refine ⟨_, rfl, ?_⟩) | (go_at_call 87; (with_reducible refine (impl_isPlace.calls a1 true _ A5.out).mono ?_); rintro e w' ⟨rfl, ⟨nd, rfl⟩⟩))
      go_ret
      exact ⟨by first | rfl | (simp; done) | (simp only [← hji8] <;> (first | rfl | simp)) | (simp [*]; done), TD⟩
    · replace c6 := Bool.eq_false_iff.mpr c6
      subst c6
      replace H := ifF H
      obtain rfl := Option.some.inj H
      go_enter Try.func37, Try.ntmps37
      go_wp2_with (first | ((with_reducible refine gate_callee (f := 72) rfl ?_); refine gL (some 6) Try.func72 #[.int .i64 a0] ?_; (with_reducible refine (impl_SetOk.calls a0 true _ A3.out).mono ?_); rintro e w' ⟨rfl, ⟨nd, rfl⟩⟩; refine ⟨_, rfl, ?_⟩) | (go_at_call 87; (with_reducible refine (impl_isPlace.calls a1 false _ A5.out).mono ?_); rintro e w' ⟨rfl, ⟨nd, rfl⟩⟩))
      go_ret
      exact ⟨by first | rfl | (simp; done) | (simp [*]; done), TD⟩
  · replace c4 := Bool.eq_false_iff.mpr c4
    subst c4
    replace H := ifF H
    obtain rfl := Option.some.inj H
    go_enter Try.func37, Try.ntmps37
    go_wp2_with (first | ((with_reducible refine gate_callee (f := 72) rfl ?_); refine gL (some 6) Try.func72 #[.int .i64 a0] ?_; (with_reducible refine (impl_SetOk.calls a0 false _ A3.out).mono ?_); rintro e w' ⟨rfl, ⟨nd, rfl⟩⟩; refine ⟨_, rfl, ?_⟩))
    go_ret
    exact ⟨by first | rfl | (simp; done) | (simp [*]; done), TD⟩
def laws_same.l0 : Nat → List Int → List Int → Int → Option (Bool)
  | 0, _, _, _ => none
  | k + 1, x0, x1, x5 => if x5 < (x0.length : Int) then (if 0 ≤ x5 then (if x5 < (x1.length : Int) then (if (rd x0 x5) = (rd x1 x5) then (laws_same.l0 k x0 x1 (wrap64 (x5 + 1))) else (some false)) else (none)) else (none)) else (some true)
def laws_same.f (k : Nat) (l0 : List Int) (l1 : List Int) : Option (Bool) := if (l0.length : Int) = (l1.length : Int) then (laws_same.l0 k l0 l1 0) else (some false)
theorem laws_same.mono_l : ∀ k, (∀ y0 y1 y2, LeO (laws_same.l0 k y0 y1 y2) (laws_same.l0 (k + 1) y0 y1 y2))
  | 0 => fun _ _ _ r h => by simp [laws_same.l0] at h
  | k + 1 => by
    have ih0 := laws_same.mono_l k
    · intro y0 y1 y2
      unfold laws_same.l0
      exact LM
theorem laws_same.mono : ∀ a0 a1 k, LeO (laws_same.f k a0 a1) (laws_same.f (k + 1) a0 a1) := by
  intro a0 a1 k;have ih0 := laws_same.mono_l k;unfold laws_same.f;exact LM
theorem laws_same.calls (k : Nat) (A0 : Option Addr) (c0 : Nat) (l0 : List Int) (A1 : Option Addr) (c1 : Nat) (l1 : List Int) (r : Bool) (w : World) (hr0 : Kd.C (Kd.int .u8) w A0 l0.length l0) (hc0 : l0.length ≤ c0) (hr1 : Kd.C (Kd.int .u8) w A1 l1.length l1) (hc1 : l1.length ≤ c1) (h : laws_same.f k l0 l1 = some r) :
  Calls Try.prog 17 #[.slice A0 l0.length c0, .slice A1 l1.length c1] w fun e w' => e = .returned (.bool r) ∧ Drawn0 w w' := by
 have HR0 := aM hr0;have HC0 := aM hc0;clear hr0 hc0;have HR1 := aM hr1;have HC1 := aM hc1;clear hr1 hc1;have H := h;clear h;unfold laws_same.f at H
 by_cases c3 : (l0.length : Int) = (l1.length : Int)
 ·rw [if_pos c3] at H;have c3b0 : ((l0.length : Int) == (l1.length : Int)) = true := beq_iff_eq.mpr c3;have c3b1 : ((l0.length : Int) != (l1.length : Int)) = false := bne_eq_false_iff_eq.mpr c3;have c3b2 : (l0.length == l1.length) = true := by first | simpa using c3 | (simp at c3 ⊢; omega)
  clear c3;have H' := aM H;clear H;go_enter Try.func17, Try.ntmps17;go_wp2
  repeat (go_quiet (fail); try go_wp2)
  go_loopg [5] k (fun kq v5 w' => ∃ (aa : Int), v5 = .int .i64 aa ∧ Aside0 (laws_same.l0 kq l0 l1 aa = some r) ∧ Aside0 (kq ≤ k) ∧ Drawn0 w w')
  case atStart => exact ⟨(0), TF, H', ⟨Nat.le_refl _⟩, TD⟩
  case round =>
   clear H';try clear c1
   try clear p2
   try clear c3
   try clear c3b0
   try clear c3b1
   try clear c3b2
   obtain ⟨aa, rfl, HA, HK1, ⟨m1, rfl⟩⟩ := hrel;cases gk with
   | zero => exact absurd HA.out (by simp [laws_same.l0])
   | succ k1 =>
    have H := HA.out;clear HA;simp only [laws_same.l0] at H
    by_cases c4 : aa < (l0.length : Int)
    ·rw [if_pos c4] at H;have c4b0 : decide (aa < (l0.length : Int)) = true := decide_eq_true c4;clear c4;replace H := ifN H;obtain ⟨c5, H⟩ := H;have c5b0 : decide (0 ≤ aa) = true := decide_eq_true c5;clear c5;replace H := ifN H;obtain ⟨c6, H⟩ := H;have c6b0 : decide (aa < (l1.length : Int)) = true := decide_eq_true c6;clear c6
     by_cases c7 : (rd l0 aa) = (rd l1 aa)
     ·rw [if_pos c7] at H;have c7b0 : ((rd l0 aa) == (rd l1 aa)) = true := beq_iff_eq.mpr c7;have c7b1 : ((rd l0 aa) != (rd l1 aa)) = false := bne_eq_false_iff_eq.mpr c7;clear c7;have H' := aM H;clear H;have ad : 0 ≤ (aa : Int) := DT;have ab : aa < (l0.length : Int) := DT;obtain ⟨ad287, af, ah⟩ := Kd.at_int HR0.out aa ad ab;cases af;replace ad := eq_true ad;replace ab := eq_true ab;have ae : 0 ≤ (aa : Int) := DT;have ac : aa < (l1.length : Int) := DT;obtain ⟨ad288, ag, ai⟩ := Kd.at_int HR1.out aa ae ac;cases ag;replace ae := eq_true ae;replace ac := eq_true ac;go_wp2
      repeat (go_quiet (fail); try go_wp2)
      go_roundg k1
      case measure => have := HK1.out; omega
      case rel => exact ⟨(wrap64 (aa + 1)), TF, H', ⟨by have := HK1.out; omega⟩, TD⟩
     ·rw [if_neg c7] at H;have c7b0 : ((rd l0 aa) == (rd l1 aa)) = false := beq_eq_false_iff_ne.mpr c7;have c7b1 : ((rd l0 aa) != (rd l1 aa)) = true := bne_iff_ne.mpr c7;obtain rfl := Option.some.inj H;have ad : 0 ≤ (aa : Int) := DT;have ab : aa < (l0.length : Int) := DT;obtain ⟨ad287, af, ah⟩ := Kd.at_int HR0.out aa ad ab;cases af;replace ad := eq_true ad;replace ab := eq_true ab;have ae : 0 ≤ (aa : Int) := DT;have ac : aa < (l1.length : Int) := DT;obtain ⟨ad288, ag, ai⟩ := Kd.at_int HR1.out aa ae ac;cases ag;replace ae := eq_true ae;replace ac := eq_true ac;go_wp2
      repeat (go_quiet (fail); try go_wp2)
      go_ret
      exact ⟨by first | rfl | (simp; done) | (simp [*]; done), TD⟩
    ·rw [if_neg c4] at H;have c4b0 : decide (aa < (l0.length : Int)) = false := decide_eq_false c4;clear c4;obtain rfl := Option.some.inj H;go_wp2
     repeat (go_quiet (fail); try go_wp2)
     go_ret
     exact ⟨by first | rfl | (simp; done) | (simp [*]; done), TD⟩
 ·rw [if_neg c3] at H;have c3b0 : ((l0.length : Int) == (l1.length : Int)) = false := beq_eq_false_iff_ne.mpr c3;have c3b1 : ((l0.length : Int) != (l1.length : Int)) = true := bne_iff_ne.mpr c3;have c3b2 : (l0.length == l1.length) = false := by first | simpa using c3 | (simp at c3 ⊢; omega)
  obtain rfl := Option.some.inj H;go_enter Try.func17, Try.ntmps17;go_wp2
  repeat (go_quiet (fail); try go_wp2)
  go_ret
  exact ⟨by first | rfl | (simp; done) | (simp [*]; done), TD⟩
def impl_isZeroMan.f (a0_0 : Int) (a0_1 : Int) (a0_2 : Int) (l0_3 : List (S48)) : Option (Bool) := if a0_0 = 0 then (if a0_1 = 0 then (if a0_2 = 0 then (some ((l0_3.length : Int) == 0)) else (some false)) else (some false)) else (some false)
theorem impl_isZeroMan.calls (a0_0 : Int) (a0_1 : Int) (a0_2 : Int) (A0_3 : Option Addr) (c0_3 : Nat) (l0_3 : List (S48)) (r : Bool) (w : World) (hr0_3 : Kd.C k48 w A0_3 l0_3.length l0_3) (hc0_3 : l0_3.length ≤ c0_3) (h : impl_isZeroMan.f a0_0 a0_1 a0_2 l0_3 = some r) :
    Calls Try.prog 107 #[.agg #[.int .i64 a0_0, .int .i64 a0_1, .int .i64 a0_2, .slice A0_3 l0_3.length c0_3]] w fun e w' => e = .returned (.bool r) ∧ Below w.heap.size w w' := by
  have hu28 := Try.underlying28
  have HR0_3 := aM hr0_3
  have HC0_3 := aM hc0_3
  clear hr0_3 hc0_3
  have HB := aM (Below.refl w.heap.size w)
  have H := h
  clear h
  unfold impl_isZeroMan.f at H
  by_cases c2 : a0_0 = 0
  · rw [if_pos c2] at H
    have c2b0 : (a0_0 == 0) = true := beq_iff_eq.mpr c2
    have c2b1 : (a0_0 != 0) = false := bne_eq_false_iff_eq.mpr c2
    clear c2
    by_cases c3 : a0_1 = 0
    · rw [if_pos c3] at H
      have c3b0 : (a0_1 == 0) = true := beq_iff_eq.mpr c3
      have c3b1 : (a0_1 != 0) = false := bne_eq_false_iff_eq.mpr c3
      clear c3
      by_cases c4 : a0_2 = 0
      · rw [if_pos c4] at H
        have c4b0 : (a0_2 == 0) = true := beq_iff_eq.mpr c4
        have c4b1 : (a0_2 != 0) = false := bne_eq_false_iff_eq.mpr c4
        clear c4
        obtain rfl := Option.some.inj H
        go_enter Try.func107, Try.ntmps107
        go_wp2_with (first | ((with_reducible refine gate_dst (N := 1) rfl ?_); (try (refine gate_guard (by rfl) ?_; dsimp only)); refine gBx 1 #[.int .i64 a0_0, .int .i64 a0_1, .int .i64 a0_2, .slice A0_3 l0_3.length c0_3] 28 ?_; intro gb203 hg w5 hbox hb; have BK203 := aM (hbox); have GW203 := gW HB hg; have GE203 := gW HB hg; replace HB := bS HB hb; clear hb hbox hg; obtain ⟨hcz6_0, hcz6_1, hcz6_2, hcz6_3⟩ := cz4 BK203.out; obtain ⟨hfz6_0, hfz6_1, hfz6_2, hfz6_3⟩ := fz4 BK203.out))
        go_ret
        exact ⟨TE, TB⟩
      · rw [if_neg c4] at H
        have c4b0 : (a0_2 == 0) = false := beq_eq_false_iff_ne.mpr c4
        have c4b1 : (a0_2 != 0) = true := bne_iff_ne.mpr c4
        obtain rfl := Option.some.inj H
        go_enter Try.func107, Try.ntmps107
        go_wp2_with (first | ((with_reducible refine gate_dst (N := 1) rfl ?_); (try (refine gate_guard (by rfl) ?_; dsimp only)); refine gBx 1 #[.int .i64 a0_0, .int .i64 a0_1, .int .i64 a0_2, .slice A0_3 l0_3.length c0_3] 28 ?_; intro gb203 hg w7 hbox hb; have BK203 := aM (hbox); have GW203 := gW HB hg; have GE203 := gW HB hg; replace HB := bS HB hb; clear hb hbox hg; obtain ⟨hcz8_0, hcz8_1, hcz8_2, hcz8_3⟩ := cz4 BK203.out; obtain ⟨hfz8_0, hfz8_1, hfz8_2, hfz8_3⟩ := fz4 BK203.out))
        go_ret
        exact ⟨TE, TB⟩
    · rw [if_neg c3] at H
      have c3b0 : (a0_1 == 0) = false := beq_eq_false_iff_ne.mpr c3
      have c3b1 : (a0_1 != 0) = true := bne_iff_ne.mpr c3
      obtain rfl := Option.some.inj H
      go_enter Try.func107, Try.ntmps107
      go_wp2_with (first | ((with_reducible refine gate_dst (N := 1) rfl ?_); (try (refine gate_guard (by rfl) ?_; dsimp only)); refine gBx 1 #[.int .i64 a0_0, .int .i64 a0_1, .int .i64 a0_2, .slice A0_3 l0_3.length c0_3] 28 ?_; intro gb203 hg w9 hbox hb; have BK203 := aM (hbox); have GW203 := gW HB hg; have GE203 := gW HB hg; replace HB := bS HB hb; clear hb hbox hg; obtain ⟨hcz10_0, hcz10_1, hcz10_2, hcz10_3⟩ := cz4 BK203.out; obtain ⟨hfz10_0, hfz10_1, hfz10_2, hfz10_3⟩ := fz4 BK203.out))
      go_ret
      exact ⟨TE, TB⟩
  · rw [if_neg c2] at H
    have c2b0 : (a0_0 == 0) = false := beq_eq_false_iff_ne.mpr c2
    have c2b1 : (a0_0 != 0) = true := bne_iff_ne.mpr c2
    obtain rfl := Option.some.inj H
    go_enter Try.func107, Try.ntmps107
    go_wp2_with (first | ((with_reducible refine gate_dst (N := 1) rfl ?_); (try (refine gate_guard (by rfl) ?_; dsimp only)); refine gBx 1 #[.int .i64 a0_0, .int .i64 a0_1, .int .i64 a0_2, .slice A0_3 l0_3.length c0_3] 28 ?_; intro gb203 hg w11 hbox hb; have BK203 := aM (hbox); have GW203 := gW HB hg; have GE203 := gW HB hg; replace HB := bS HB hb; clear hb hbox hg; obtain ⟨hcz12_0, hcz12_1, hcz12_2, hcz12_3⟩ := cz4 BK203.out; obtain ⟨hfz12_0, hfz12_1, hfz12_2, hfz12_3⟩ := fz4 BK203.out))
    go_ret
    exact ⟨TE, TB⟩
mutual
def impl_BytesOf.j1 : Nat → Int → Int → Option (List Int × Bool)
  | 0, _, _ => none
  | k + 1, x0, x4 => if x0 < 1 then (impl_BytesOf.j2 k x0 x4 true) else (if 0 ≤ (wrap64 (8 * x4)) then (impl_BytesOf.j2 k x0 x4 ((shr .i64 x0 (wrap64 (8 * x4))) != 1)) else (none))
def impl_BytesOf.j2 : Nat → Int → Int → Bool → Option (List Int × Bool)
  | 0, _, _, _ => none
  | k + 1, x0, x4, x26 => if x26 = true then (some (([] : List Int), false)) else (if 0 ≤ x4 then (if (x4 : Int).toNat ≤ 281474976710656 then ((some (List.replicate (x4 : Int).toNat 0 : List Int)).bind fun y204 => (impl_BytesOf.l1 k x0 x4 y204 (y204.length : Int) 0)) else (none)) else (none))
def impl_BytesOf.l1 : Nat → Int → Int → List Int → Int → Int → Option (List Int × Bool)
  | 0, _, _, _, _, _ => none
  | k + 1, x0, x4, x5, x30, x31 => if x31 < x30 then (if 0 ≤ (wrap64 (8 * (wrap64 ((wrap64 (x4 - 1)) - x31)))) then (if 0 ≤ x31 then (if x31 < (x5.length : Int) then (impl_BytesOf.l1 k x0 x4 (x5.set (x31 : Int).toNat ((shr .i64 x0 (wrap64 (8 * (wrap64 ((wrap64 (x4 - 1)) - x31))))) % 256)) x30 (wrap64 (x31 + 1))) else (none)) else (none)) else (none)) else (some (x5, true))
def impl_BytesOf.l0 : Nat → Int → Int → Option (List Int × Bool)
  | 0, _, _ => none
  | k + 1, x0, x4 => if x4 < 6 then (if 0 ≤ (wrap64 (8 * x4)) then (if (shr .i64 x0 (wrap64 (8 * x4))) > 1 then (impl_BytesOf.l0 k x0 (wrap64 (x4 + 1))) else (impl_BytesOf.j1 k x0 x4)) else (none)) else (impl_BytesOf.j1 k x0 x4)
end
def impl_BytesOf.f (k : Nat) (a0 : Int) : Option (List Int × Bool) := impl_BytesOf.l0 k a0 0
theorem impl_BytesOf.mono_l : ∀ k, (∀ y0 y1, LeO (impl_BytesOf.j1 k y0 y1) (impl_BytesOf.j1 (k + 1) y0 y1)) ∧ (∀ y0 y1 y2, LeO (impl_BytesOf.j2 k y0 y1 y2) (impl_BytesOf.j2 (k + 1) y0 y1 y2)) ∧ (∀ y0 y1 y2 y3 y4, LeO (impl_BytesOf.l1 k y0 y1 y2 y3 y4) (impl_BytesOf.l1 (k + 1) y0 y1 y2 y3 y4)) ∧ (∀ y0 y1, LeO (impl_BytesOf.l0 k y0 y1) (impl_BytesOf.l0 (k + 1) y0 y1))
  | 0 => ⟨fun _ _ r h => by simp [impl_BytesOf.j1] at h, fun _ _ _ r h => by simp [impl_BytesOf.j2] at h, fun _ _ _ _ _ r h => by simp [impl_BytesOf.l1] at h, fun _ _ r h => by simp [impl_BytesOf.l0] at h⟩
  | k + 1 => by
    obtain ⟨ih0, ih1, ih2, ih3⟩ := impl_BytesOf.mono_l k
    refine ⟨?_, ?_, ?_, ?_⟩
    · intro y0 y1
      unfold impl_BytesOf.j1
      exact LM
    · intro y0 y1 y2
      unfold impl_BytesOf.j2
      exact LM
    · intro y0 y1 y2 y3 y4
      unfold impl_BytesOf.l1
      exact LM
    · intro y0 y1
      unfold impl_BytesOf.l0
      exact LM
theorem impl_BytesOf.mono : ∀ a0 k, LeO (impl_BytesOf.f k a0) (impl_BytesOf.f (k + 1) a0) := by
  intro a0 k;obtain ⟨ih0, ih1, ih2, ih3⟩ := impl_BytesOf.mono_l k;unfold impl_BytesOf.f;exact LM
theorem impl_BytesOf.calls (k : Nat) (a0 : Int) (r1 : List Int) (r2 : Bool) (w : World) (h : impl_BytesOf.f k a0 = some (r1, r2)) :
  Calls Try.prog 108 #[.int .i64 a0] w fun e w' => ∃ v0_ : Value, e = .returned (.tuple #[v0_, .bool r2]) ∧ Kd.R (Kd.int .u8) 5 w' w.heap.size (fun _ => True) v0_ r1 ∧ Below w.heap.size w w' := by
 have HB := aM (Below.refl w.heap.size w);have H := h;clear h;unfold impl_BytesOf.f at H;have HC2 := aM H;clear H;go_enter Try.func108, Try.ntmps108;go_upto_block 0 with (fail)
 go_cut [4] (fun v4 wc => ∃ (kq : Nat) (aa : Int), v4 = .int .i64 aa ∧ Aside0 (impl_BytesOf.j1 kq a0 aa = some (r1, r2)) ∧ Aside0 (kq ≤ k) ∧ Aside0 (Below w.heap.size w wc))
 case first =>
  have H := HC2.out;clear HC2;have H' := aM H;clear H;go_wp2
  go_loopg [4] k (fun kq v4 w' => ∃ (aa : Int), v4 = .int .i64 aa ∧ Aside0 (impl_BytesOf.l0 kq a0 aa = some (r1, r2)) ∧ Aside0 (kq ≤ k) ∧ Aside0 (Below w.heap.size w w'))
  case atStart => exact ⟨(0), TF, H', ⟨Nat.le_refl _⟩, ⟨TB⟩⟩
  case round =>
   clear H';try clear c1
   try clear p2
   obtain ⟨aa, rfl, HA, HK1, HB⟩ := hrel;cases gk with
   | zero => exact absurd HA.out (by simp [impl_BytesOf.l0])
   | succ k1 =>
    have H := HA.out;clear HA;simp only [impl_BytesOf.l0] at H
    by_cases c3 : aa < 6
    ·rw [if_pos c3] at H;have ad : decide (aa < 6) = true := decide_eq_true c3;clear c3;(first | rw [ad] | (simp only [i64_w, i32_w]; rw [ad]) | skip);obtain ⟨ji4, aA⟩ : ∃ j_ : Int, (wrap64 (8 * aa)) = j_ := ⟨_, rfl⟩;(first | rw [aA] at H | simp only [aA] at H | skip);have hji4w : (IntKind.i64.wrap (8 * aa)) = ji4 := (i64_w _).trans aA;replace H := ifN H;obtain ⟨c5, H⟩ := H;have ax := eq_true c5;have aC : decide (0 ≤ (ji4)) = true := decide_eq_true c5;clear c5;obtain ⟨ji6, ar⟩ : ∃ j_ : Int, (shr .i64 a0 (ji4)) = j_ := ⟨_, rfl⟩;(first | rw [ar] at H | simp only [ar] at H | skip);have hji6_ : (a0 / 2 ^ min (ji4).toNat 64) = ji6 := ar;have hji6z : (ji4) ≤ 64 → (a0 / 2 ^ (ji4).toNat) = ji6 := shr_small ar
     by_cases c7 : (ji6) > 1
     ·rw [if_pos c7] at H;have aw : decide (1 < (ji6)) = true := decide_eq_true c7;clear c7;have H' := aM H;clear H;go_wp2
      go_roundg k1
      case measure => have := HK1.out; omega
      case rel => exact ⟨(wrap64 (aa + 1)), TF, H', ⟨by have := HK1.out; omega⟩, ⟨TB⟩⟩
     ·rw [if_neg c7] at H;have aw : decide (1 < (ji6)) = false := decide_eq_false c7;clear c7;have H' := aM H;clear H;go_wp2
      go_meet
      case rel => exact ⟨_, (aa), TF, H', ⟨by have := HK1.out; first | omega | exact Nat.le_refl _⟩, ⟨TB⟩⟩
    ·rw [if_neg c3] at H;have ad : decide (aa < 6) = false := decide_eq_false c3;clear c3;(first | rw [ad] | (simp only [i64_w, i32_w]; rw [ad]) | skip);have H' := aM H;clear H;go_wp2
     go_meet
     case rel => exact ⟨_, (aa), TF, H', ⟨by have := HK1.out; first | omega | exact Nat.le_refl _⟩, ⟨TB⟩⟩
 case rest =>
  clear HC2;try clear c1
  try clear p2
  try clear c3
  try clear ad
  try clear c5
  try clear ax
  try clear aC
  try clear p6
  try clear c7
  try clear aw
  try clear p2
  obtain ⟨kq, aa, rfl, HA, HJ1, HB⟩ := hcut;cases kq with
  | zero => exact absurd HA.out (by simp [impl_BytesOf.j1])
  | succ kj1 =>
   have H := HA.out;clear HA;simp only [impl_BytesOf.j1] at H;have HC8 := aM H;clear H;go_upto_region 4 with (fail)
   go_cut [26] (fun v26 wc => ∃ (kq : Nat) (am : Bool), v26 = .bool am ∧ Aside0 (impl_BytesOf.j2 kq a0 aa am = some (r1, r2)) ∧ Aside0 (kq ≤ kj1) ∧ Aside0 (Below w.heap.size w wc))
   case first =>
    have H := HC8.out;clear HC8
    by_cases c9 : a0 < 1
    ·rw [if_pos c9] at H;have af : decide (a0 < 1) = true := decide_eq_true c9;clear c9;(first | rw [af] | (simp only [i64_w, i32_w]; rw [af]) | skip);have H' := aM H;clear H;go_wp2
     go_meet
     case rel => exact ⟨_, (true), TF, H', ⟨by have := HJ1.out; first | omega | exact Nat.le_refl _⟩, ⟨TB⟩⟩
    ·rw [if_neg c9] at H;have af : decide (a0 < 1) = false := decide_eq_false c9;clear c9;(first | rw [af] | (simp only [i64_w, i32_w]; rw [af]) | skip);obtain ⟨ai, aq⟩ : ∃ j_ : Int, (wrap64 (8 * aa)) = j_ := ⟨_, rfl⟩;(first | rw [aq] at H | simp only [aq] at H | skip);have hji10w : (IntKind.i64.wrap (8 * aa)) = ai := (i64_w _).trans aq;replace H := ifN H;obtain ⟨c11, H⟩ := H;have aD := eq_true c11;have aF : decide (0 ≤ (ai)) = true := decide_eq_true c11;clear c11;obtain ⟨az, ah⟩ : ∃ j_ : Int, (shr .i64 a0 (ai)) = j_ := ⟨_, rfl⟩;(first | rw [ah] at H | simp only [ah] at H | skip);have hji12_ : (a0 / 2 ^ min (ai).toNat 64) = az := ah;have hji12z : (ai) ≤ 64 → (a0 / 2 ^ (ai).toNat) = az := shr_small ah;have H' := aM H;clear H;go_wp2
     go_meet
     case rel => exact ⟨_, (((az) != 1)), (by first | rfl | (simp; done) | (simp only [← ah] <;> (first | rfl | simp)) | (simp [*]; done)), H', ⟨by have := HJ1.out; first | omega | exact Nat.le_refl _⟩, ⟨TB⟩⟩
   case rest =>
    clear HC8;try clear c1
    try clear p2
    try clear c3
    try clear ad
    try clear c5
    try clear ax
    try clear aC
    try clear p6
    try clear c7
    try clear aw
    try clear c9
    try clear af
    try clear c10
    try clear c11
    try clear aD
    try clear aF
    try clear p2
    try clear p6
    obtain ⟨kq, am, rfl, HA, HJ7, HB⟩ := hcut;cases kq with
    | zero => exact absurd HA.out (by simp [impl_BytesOf.j2])
    | succ kj7 =>
     have H := HA.out;clear HA;simp only [impl_BytesOf.j2] at H
     by_cases c13 : am = true
     ·subst c13;replace H := ifT H;simp only [Option.some.injEq, Prod.mk.injEq] at H;obtain ⟨rfl, rfl⟩ := H;go_wp2
      go_ret2
      exact ⟨_, TE, by first | exact Kd.R_nil _ _ _ _ _ | exact Kd.N_nil _ _ _ _ _ | exact Kd.V_nil _ _ _ _ _ | exact Kd.Q_nil _ _ _ _ _ | exact Kd.S_nil _ _ _ _ _, TB⟩
     ·replace c13 := Bool.eq_false_iff.mpr c13;subst c13;replace H := ifF H;replace H := ifN H;obtain ⟨c14, H⟩ := H;have c14b0 := eq_true c14;have c14b1 : decide (0 ≤ aa) = true := decide_eq_true c14;clear c14;replace H := ifN H;obtain ⟨c15, H⟩ := H;have c15b0 := eq_true c15;have c15b1 : decide ((aa : Int).toNat ≤ 281474976710656) = true := decide_eq_true c15;clear c15;obtain ⟨ak, av⟩ : ∃ y_ : List Int, y_ = (List.replicate (aa : Int).toNat 0) := ⟨_, rfl⟩;replace H := someE H av;have aG := aM av;clear av;have H' := aM H;clear H;go_wp2_with (first | ((with_reducible refine gate_dst (N := 28) rfl ?_); refine Kd.R_make (Kd.int .u8) _ 5 rfl (N := 28) rfl 22 _ _ rfl aa rfl rfl Try.underlying22 (.int .u8 0) 1 info5 rfl (by decide) (by omega) 0 (ok := fun _ => True) (okp := fun _ => True) rfl (fun _ hk => hk) trivial DT (Nat.le_trans (Nat.mul_le_mul_right _ (DT : aa.toNat ≤ 281474976710656)) (by omega)) (Below.refl _ _) (Nat.le_refl _) ?_; intro v205 w16 ao hb hg_ hnew_; clear hg_ hnew_; (first | rw [← aG.out] at ao | (simp only [Int.reduceToNat] at ao; rw [← aG.out] at ao)); have HO206 := aM (Kd.R_lower ao (below_size TB)); replace HB := bS HB hb; clear hb ao; obtain ⟨Ao18, co18, eo18⟩ := Kd.R_slice HO206.out; subst eo18))
      go_loopg [31] kj7 (fun kq v31 w' => ∃ (ae : List Int) (ab : Int), v31 = .int .i64 ab ∧ Aside0 (impl_BytesOf.l1 kq a0 aa ae (ak.length : Int) ab = some (r1, r2)) ∧ Aside0 (kq ≤ kj7) ∧ Aside0 (Kd.R (Kd.int .u8) 5 w' w.heap.size (fun _ => True) (.slice Ao18 ak.length co18) ae) ∧ Aside0 (Below w.heap.size w w'))
      case atStart => exact ⟨(ak), (0), TF, H', ⟨Nat.le_refl _⟩, ⟨by have X_ := HO206.out; exact TR⟩, ⟨TB⟩⟩
      case round =>
       clear H';try clear c1
       try clear p2
       try clear c3
       try clear ad
       try clear c5
       try clear ax
       try clear aC
       try clear p6
       try clear c7
       try clear aw
       try clear c9
       try clear af
       try clear c10
       try clear c11
       try clear aD
       try clear aF
       try clear c13
       try clear c14
       try clear c14b0
       try clear c14b1
       try clear c15
       try clear c15b0
       try clear c15b1
       try clear p2
       try clear p6
       obtain ⟨ae, ab, rfl, HA, HK3, ac, HB⟩ := hrel;have ag := (Kd.R_reads' ac.out).1;rw [ag] at ac;(try simp only [ag]);cases gk with
       | zero => exact absurd HA.out (by simp [impl_BytesOf.l1])
       | succ k3 =>
        have H := HA.out;clear HA;simp only [impl_BytesOf.l1] at H
        by_cases c19 : ab < (ak.length : Int)
        ·rw [if_pos c19] at H;have aE : decide (ab < (ak.length : Int)) = true := decide_eq_true c19;clear c19;obtain ⟨aj, ap⟩ : ∃ j_ : Int, (wrap64 (8 * (wrap64 ((wrap64 (aa - 1)) - ab)))) = j_ := ⟨_, rfl⟩;(first | rw [ap] at H | simp only [ap] at H | skip);have hji20w : (IntKind.i64.wrap (8 * (wrap64 ((wrap64 (aa - 1)) - ab)))) = aj := (i64_w _).trans ap;replace H := ifN H;obtain ⟨c21, H⟩ := H;have c21b0 := eq_true c21;have c21b1 : decide (0 ≤ (aj)) = true := decide_eq_true c21;clear c21;obtain ⟨an, al⟩ : ∃ j_ : Int, (shr .i64 a0 (aj)) = j_ := ⟨_, rfl⟩;(first | rw [al] at H | simp only [al] at H | skip);have hji22_ : (a0 / 2 ^ min (aj).toNat 64) = an := al;have hji22z : (aj) ≤ 64 → (a0 / 2 ^ (aj).toNat) = an := shr_small al;replace H := ifN H;obtain ⟨c23, H⟩ := H;have c23b0 : decide (0 ≤ ab) = true := decide_eq_true c23;clear c23;replace H := ifN H;obtain ⟨c24, H⟩ := H;have c24b0 : decide (ab < (ae.length : Int)) = true := decide_eq_true c24;clear c24;obtain ⟨y207, au⟩ : ∃ y_ : List Int, y_ = (ae.set (ab : Int).toNat ((an) % 256)) := ⟨_, rfl⟩;rw [← au] at H;have Ny207 := aM au;clear au;have H' := aM H;clear H;have p25 : 0 ≤ (ab : Int) := DT;have q25 : (ab : Int) < ((ae.length : Int) : Int) := DT;obtain ⟨ay, co25, eo25, gb25, gl25, cl25, HG25⟩ := Kd.R_form ac.out (by omega);(first | cases eo25 | (injection eo25 with ea_ en_ ec_; (first | subst ea_ | (injection ea_ with ea_; subst ea_)); subst ec_; clear en_));have GB25 := aM gb25;have GG25 := aM HG25;clear gb25 gl25 HG25;obtain ⟨hx25_0, hf25_0⟩ := Kd.R_celln 0 ac.out (ab : Int) p25 q25;replace p25 := eq_true p25;replace q25 := eq_true q25;have aB := Kd.R_putg ac.out (ab : Int) ((an) % 256);go_wp2_with (first | ((with_reducible refine gate_store (t := 5) (p := 44) rfl ?_); refine store_event (t := 5) (p := 44) (v := ?vo_w27) (w1 := (wr.setCell ⟨ay, (ab : Int).toNat, none⟩ (.int .u8 ((an) % 256)))) ?hg ?ho ?hn ?hr ?_; (case ho => rfl); (case hg => rfl); (case hn => rfl); (case hr => first | (go_simp; done) | (go_simp; rfl)); intro w27 hw; have hg : wr.grownBy w27 (some ay) := (by rw [hw]; exact aB.2); have hp_ : Kd.R (Kd.int .u8) 5 w27 w.heap.size (fun _ => True) (.slice (some ⟨ay, 0, none⟩) ae.length co18) y207 := (by rw [hw, Ny207.out]; exact aB.1); clear aB; replace ac := aM (hp_); replace HB := aM ((by rw [hw]; exact below_set (HB.out) GB25.out : Below w.heap.size w w27)); clear hg hw hp_))
         (try simp only [← ag]);go_roundg k3
         case measure => have := HJ1.out; have := HJ7.out; have := HK3.out; omega
         case rel => exact ⟨(y207), (wrap64 (ab + 1)), TF, H', ⟨by have := HJ1.out; have := HJ7.out; have := HK3.out; omega⟩, ⟨by (try simp only [ag]); (with_reducible repeat (first | apply Kd.R_alloc | apply Kd.R_drewN | apply Kd.R_drew)); exact ac.out⟩, ⟨TB⟩⟩
        ·rw [if_neg c19] at H;have aE : decide (ab < (ak.length : Int)) = false := decide_eq_false c19;(try rw [ag] at aE);clear c19;simp only [Option.some.injEq, Prod.mk.injEq] at H;obtain ⟨rfl, rfl⟩ := H;go_wp2
         go_ret2
         exact ⟨_, TE, by have X_ := ac.out; exact TR, TB⟩
theorem Zq8_0 {p : Prop} (h : p := by repeat (first | exact (Kd.C_below ak.out TB) | (with_reducible refine Kd.C_alloc ?_ _) | (with_reducible refine Kd.C_drewN ?_ _) | (with_reducible refine Kd.C_drew ?_))) : p := h
theorem Zq8_1 {p : Prop} (h : p := by have X_ := (Kd.R_reads' HO218.out).2.2; exact TC) : p := h
mutual
def impl_ManOk.j0 : Nat → Bool → Int → Int → Int → List (S48) → Option (Bool)
  | 0, _, _, _, _, _ => none
  | k + 1, x33, x209000, x209001, x209002, x209003 => if x33 = true then (some false) else (impl_ManOk.l0 k x209003 (x209003.length : Int) 0 x209000 x209001 x209002 x209003)
def impl_ManOk.l0 : Nat → List (S48) → Int → Int → Int → Int → Int → List (S48) → Option (Bool)
  | 0, _, _, _, _, _, _, _ => none
  | k + 1, x35, x36, x37, x209000, x209001, x209002, x209003 => if x37 < x36 then (if 0 ≤ x37 then (if x37 < (x35.length : Int) then ((impl_BytesOf.f k ((rd_T48 x35 x37).f1)).bind fun bt215 => ((impl_SpanOf.f x209001 x209002 x37).bind fun bt219 => (if bt215.2 = true then (if (bt215.1.length : Int) = bt219.2 then ((impl_WeakOf.f k bt215.1).bind fun t221 => (if t221 = ((rd_T48 x35 x37).f0) then (impl_ManOk.l0 k x35 x36 (wrap64 (x37 + 1)) x209000 x209001 x209002 x209003) else (some false))) else (some false)) else (some false)))) else (none)) else (none)) else (some true)
end
def impl_ManOk.f (k : Nat) (a0_0 : Int) (a0_1 : Int) (a0_2 : Int) (l0_3 : List (S48)) : Option (Bool) := (impl_isZeroMan.f a0_0 a0_1 a0_2 l0_3).bind fun t209 => (if t209 = true then (some true) else ((impl_within.f a0_0 1 1000000).bind fun t210 => (if t210 = true then ((impl_SizeOk.f a0_1 a0_2).bind fun t211 => (if t211 = true then ((impl_Blocks.f a0_1 a0_2).bind fun t212 => (impl_ManOk.j0 k ((l0_3.length : Int) != t212) a0_0 a0_1 a0_2 l0_3)) else (impl_ManOk.j0 k true a0_0 a0_1 a0_2 l0_3))) else (impl_ManOk.j0 k true a0_0 a0_1 a0_2 l0_3))))
theorem impl_ManOk.mono_l : ∀ k, (∀ y0 y1 y2 y3 y4, LeO (impl_ManOk.j0 k y0 y1 y2 y3 y4) (impl_ManOk.j0 (k + 1) y0 y1 y2 y3 y4)) ∧ (∀ y0 y1 y2 y3 y4 y5 y6, LeO (impl_ManOk.l0 k y0 y1 y2 y3 y4 y5 y6) (impl_ManOk.l0 (k + 1) y0 y1 y2 y3 y4 y5 y6))
  | 0 => ⟨fun _ _ _ _ _ r h => by simp [impl_ManOk.j0] at h, fun _ _ _ _ _ _ _ r h => by simp [impl_ManOk.l0] at h⟩
  | k + 1 => by
    have m0_ := @impl_BytesOf.mono
    have m1_ := @impl_WeakOf.mono
    obtain ⟨ih0, ih1⟩ := impl_ManOk.mono_l k
    refine ⟨?_, ?_⟩
    · intro y0 y1 y2 y3 y4
      unfold impl_ManOk.j0
      exact LM
    · intro y0 y1 y2 y3 y4 y5 y6
      unfold impl_ManOk.l0
      exact LM
theorem impl_ManOk.mono : ∀ a0 a1 a2 a3 k, LeO (impl_ManOk.f k a0 a1 a2 a3) (impl_ManOk.f (k + 1) a0 a1 a2 a3) := by
  intro a0 a1 a2 a3 k;have m0_ := @impl_BytesOf.mono;have m1_ := @impl_WeakOf.mono;obtain ⟨ih0, ih1⟩ := impl_ManOk.mono_l k;unfold impl_ManOk.f;exact LM
theorem impl_ManOk.calls (k : Nat) (af : Int) (ad : Int) (ae : Int) (am : Option Addr) (an : Nat) (ac : List (S48)) (r : Bool) (w : World) (bb : Kd.C k48 w am ac.length ac) (ba : ac.length ≤ an) (h : impl_ManOk.f k af ad ae ac = some r) :
  Calls Try.prog 64 #[.agg #[.int .i64 af, .int .i64 ad, .int .i64 ae, .slice am ac.length an]] w fun e w' => e = .returned (.bool r) ∧ Below w.heap.size w w' := by
 have hu28 := Try.underlying28;have hu48 := Try.underlying48;have ak := aM bb;have al := aM ba;clear bb ba;have HB := aM (Below.refl w.heap.size w);have H := h;clear h;unfold impl_ManOk.f at H;replace H := bE H;obtain ⟨t209, A2, H⟩ := H;go_enter Try.func64, Try.ntmps64;go_wp2_with (first | ((with_reducible refine gate_dst (N := 1) rfl ?_); (try (refine gate_guard (by rfl) ?_; dsimp only)); refine gBx 1 #[.int .i64 af, .int .i64 ad, .int .i64 ae, .slice am ac.length an] 28 ?_; intro aC hg w4 hbox hb; have aa := aM (hbox); have GW208 := gW HB hg; have GE208 := gW HB hg; replace HB := bS HB hb; clear hb hbox hg; obtain ⟨au, ay, aq, aw⟩ := cz4 aa.out; obtain ⟨ap, av, ao, ax⟩ := fz4 aa.out) | ((with_reducible refine gate_callee (f := 107) rfl ?_); (with_reducible refine gate_dst (N := 10) rfl ?_); generalize hG_ : wpList _ _ _ _ _ _ = G_))
 repeat (go_quiet (first | ((with_reducible refine gate_dst (N := 1) rfl ?_); (try (refine gate_guard (by rfl) ?_; dsimp only)); refine gBx 1 #[.int .i64 af, .int .i64 ad, .int .i64 ae, .slice am ac.length an] 28 ?_; intro aC hg w4 hbox hb; have aa := aM (hbox); have GW208 := gW HB hg; have GE208 := gW HB hg; replace HB := bS HB hb; clear hb hbox hg; obtain ⟨au, ay, aq, aw⟩ := cz4 aa.out; obtain ⟨ap, av, ao, ax⟩ := fz4 aa.out) | ((with_reducible refine gate_callee (f := 107) rfl ?_); (with_reducible refine gate_dst (N := 10) rfl ?_); generalize hG_ : wpList _ _ _ _ _ _ = G_)); try go_wp2_with (first | ((with_reducible refine gate_dst (N := 1) rfl ?_); (try (refine gate_guard (by rfl) ?_; dsimp only)); refine gBx 1 #[.int .i64 af, .int .i64 ad, .int .i64 ae, .slice am ac.length an] 28 ?_; intro aC hg w4 hbox hb; have aa := aM (hbox); have GW208 := gW HB hg; have GE208 := gW HB hg; replace HB := bS HB hb; clear hb hbox hg; obtain ⟨au, ay, aq, aw⟩ := cz4 aa.out; obtain ⟨ap, av, ao, ax⟩ := fz4 aa.out) | ((with_reducible refine gate_callee (f := 107) rfl ?_); (with_reducible refine gate_dst (N := 10) rfl ?_); generalize hG_ : wpList _ _ _ _ _ _ = G_)))
 subst hG_
 by_cases c6 : t209 = true
 ·subst c6;replace H := ifT H;obtain rfl := Option.some.inj H;go_wp2_with (first | (go_at_call 107; (with_reducible refine (impl_isZeroMan.calls af ad ae _ _ ac true _ ?side1 ?side2 A2.out).mono ?_); (case side1 => exact Zq8_0); (case side2 => exact al.out); rintro e w7 ⟨rfl, hb⟩; replace aa := mB aa hb; replace HB := bS HB hb; clear hb))
  repeat (go_quiet (first | (go_at_call 107; (with_reducible refine (impl_isZeroMan.calls af ad ae _ _ ac true _ ?side1 ?side2 A2.out).mono ?_); (case side1 => exact Zq8_0); (case side2 => exact al.out); rintro e w7 ⟨rfl, hb⟩; replace aa := mB aa hb; replace HB := bS HB hb; clear hb)); try go_wp2_with (first | (go_at_call 107; (with_reducible refine (impl_isZeroMan.calls af ad ae _ _ ac true _ ?side1 ?side2 A2.out).mono ?_); (case side1 => exact Zq8_0); (case side2 => exact al.out); rintro e w7 ⟨rfl, hb⟩; replace aa := mB aa hb; replace HB := bS HB hb; clear hb)))
  go_ret
  exact ⟨TE, TB⟩
 ·replace c6 := Bool.eq_false_iff.mpr c6;subst c6;replace H := ifF H;have HC8 := aM H;clear H;go_upto_region 3 with (first | (go_at_call 107; (with_reducible refine (impl_isZeroMan.calls af ad ae _ _ ac false _ ?side1 ?side2 A2.out).mono ?_); (case side1 => exact Zq8_0); (case side2 => exact al.out); rintro e w9 ⟨rfl, hb⟩; replace aa := mB aa hb; replace HB := bS HB hb; clear hb))
  repeat (go_quiet (first | (go_at_call 107; (with_reducible refine (impl_isZeroMan.calls af ad ae _ _ ac false _ ?side1 ?side2 A2.out).mono ?_); (case side1 => exact Zq8_0); (case side2 => exact al.out); rintro e w9 ⟨rfl, hb⟩; replace aa := mB aa hb; replace HB := bS HB hb; clear hb)); go_upto_region 3 with (first | (go_at_call 107; (with_reducible refine (impl_isZeroMan.calls af ad ae _ _ ac false _ ?side1 ?side2 A2.out).mono ?_); (case side1 => exact Zq8_0); (case side2 => exact al.out); rintro e w9 ⟨rfl, hb⟩; replace aa := mB aa hb; replace HB := bS HB hb; clear hb)))
  (try simp only [NP])
  go_cut [33] (fun v33 wc => ∃ (kq : Nat) (aB : Bool), v33 = .bool aB ∧ Aside0 (impl_ManOk.j0 kq aB af ad ae ac = some r) ∧ Aside0 (kq ≤ k) ∧ Aside0 (wc.heap[aC]? = some (.cells #[.int .i64 af, .int .i64 ad, .int .i64 ae, (.slice am ac.length an)] 28 (0, 0))) ∧ Aside0 (Below w.heap.size w wc))
  case first =>
   have H := HC8.out;clear HC8;replace H := bE H;obtain ⟨t210, A10, H⟩ := H
   by_cases c11 : t210 = true
   ·subst c11;replace H := ifT H;replace H := bE H;obtain ⟨t211, A12, H⟩ := H
    by_cases c13 : t211 = true
    ·subst c13;replace H := ifT H;replace H := bE H;obtain ⟨a7, A14, H⟩ := H;have H' := aM H;clear H;obtain ⟨aW, aH, aI, aO⟩ := cz4 aa.out;obtain ⟨aN, aL, aG, aP⟩ := fz4 aa.out;go_wp2_with (first | (go_at_call 61; (with_reducible refine (impl_within.calls af 1 1000000 true _ A10.out).mono ?_); rintro e w' ⟨rfl, ⟨nd, rfl⟩⟩; (try first | exact ⟨rfl, _, World.drewN_drewN _ _ _⟩ | exact ⟨rfl, _, Eq.trans (World.drewN_drewN _ _ _) (congrArg (World.drewN _) (Nat.add_assoc _ _ _))⟩)) | (go_at_call 62; (with_reducible refine (impl_SizeOk.calls ad ae true _ A12.out).mono ?_); rintro e w' ⟨rfl, ⟨nd, rfl⟩⟩; (try first | exact ⟨rfl, _, World.drewN_drewN _ _ _⟩ | exact ⟨rfl, _, Eq.trans (World.drewN_drewN _ _ _) (congrArg (World.drewN _) (Nat.add_assoc _ _ _))⟩)) | (go_at_call 12; (with_reducible refine (impl_Blocks.calls ad ae a7 _ A14.out).mono ?_); rintro e w' ⟨rfl, ⟨nd, rfl⟩⟩; (try first | exact ⟨rfl, _, World.drewN_drewN _ _ _⟩ | exact ⟨rfl, _, Eq.trans (World.drewN_drewN _ _ _) (congrArg (World.drewN _) (Nat.add_assoc _ _ _))⟩)))
     repeat (go_quiet (first | (go_at_call 61; (with_reducible refine (impl_within.calls af 1 1000000 true _ A10.out).mono ?_); rintro e w' ⟨rfl, ⟨nd, rfl⟩⟩; (try first | exact ⟨rfl, _, World.drewN_drewN _ _ _⟩ | exact ⟨rfl, _, Eq.trans (World.drewN_drewN _ _ _) (congrArg (World.drewN _) (Nat.add_assoc _ _ _))⟩)) | (go_at_call 62; (with_reducible refine (impl_SizeOk.calls ad ae true _ A12.out).mono ?_); rintro e w' ⟨rfl, ⟨nd, rfl⟩⟩; (try first | exact ⟨rfl, _, World.drewN_drewN _ _ _⟩ | exact ⟨rfl, _, Eq.trans (World.drewN_drewN _ _ _) (congrArg (World.drewN _) (Nat.add_assoc _ _ _))⟩)) | (go_at_call 12; (with_reducible refine (impl_Blocks.calls ad ae a7 _ A14.out).mono ?_); rintro e w' ⟨rfl, ⟨nd, rfl⟩⟩; (try first | exact ⟨rfl, _, World.drewN_drewN _ _ _⟩ | exact ⟨rfl, _, Eq.trans (World.drewN_drewN _ _ _) (congrArg (World.drewN _) (Nat.add_assoc _ _ _))⟩))); try go_wp2_with (first | (go_at_call 61; (with_reducible refine (impl_within.calls af 1 1000000 true _ A10.out).mono ?_); rintro e w' ⟨rfl, ⟨nd, rfl⟩⟩; (try first | exact ⟨rfl, _, World.drewN_drewN _ _ _⟩ | exact ⟨rfl, _, Eq.trans (World.drewN_drewN _ _ _) (congrArg (World.drewN _) (Nat.add_assoc _ _ _))⟩)) | (go_at_call 62; (with_reducible refine (impl_SizeOk.calls ad ae true _ A12.out).mono ?_); rintro e w' ⟨rfl, ⟨nd, rfl⟩⟩; (try first | exact ⟨rfl, _, World.drewN_drewN _ _ _⟩ | exact ⟨rfl, _, Eq.trans (World.drewN_drewN _ _ _) (congrArg (World.drewN _) (Nat.add_assoc _ _ _))⟩)) | (go_at_call 12; (with_reducible refine (impl_Blocks.calls ad ae a7 _ A14.out).mono ?_); rintro e w' ⟨rfl, ⟨nd, rfl⟩⟩; (try first | exact ⟨rfl, _, World.drewN_drewN _ _ _⟩ | exact ⟨rfl, _, Eq.trans (World.drewN_drewN _ _ _) (congrArg (World.drewN _) (Nat.add_assoc _ _ _))⟩))))
     go_meet
     case rel => exact ⟨_, (((ac.length : Int) != a7)), TF, H', ⟨by first | omega | exact Nat.le_refl _⟩, ⟨TK⟩, ⟨TB⟩⟩
    ·replace c13 := Bool.eq_false_iff.mpr c13;subst c13;replace H := ifF H;have H' := aM H;clear H;obtain ⟨aE, aU, aS, aY⟩ := cz4 aa.out;obtain ⟨aK, aX, aQ, a5⟩ := fz4 aa.out;go_wp2_with (first | (go_at_call 61; (with_reducible refine (impl_within.calls af 1 1000000 true _ A10.out).mono ?_); rintro e w' ⟨rfl, ⟨nd, rfl⟩⟩; (try first | exact ⟨rfl, _, World.drewN_drewN _ _ _⟩ | exact ⟨rfl, _, Eq.trans (World.drewN_drewN _ _ _) (congrArg (World.drewN _) (Nat.add_assoc _ _ _))⟩)) | (go_at_call 62; (with_reducible refine (impl_SizeOk.calls ad ae false _ A12.out).mono ?_); rintro e w' ⟨rfl, ⟨nd, rfl⟩⟩; (try first | exact ⟨rfl, _, World.drewN_drewN _ _ _⟩ | exact ⟨rfl, _, Eq.trans (World.drewN_drewN _ _ _) (congrArg (World.drewN _) (Nat.add_assoc _ _ _))⟩)))
     repeat (go_quiet (first | (go_at_call 61; (with_reducible refine (impl_within.calls af 1 1000000 true _ A10.out).mono ?_); rintro e w' ⟨rfl, ⟨nd, rfl⟩⟩; (try first | exact ⟨rfl, _, World.drewN_drewN _ _ _⟩ | exact ⟨rfl, _, Eq.trans (World.drewN_drewN _ _ _) (congrArg (World.drewN _) (Nat.add_assoc _ _ _))⟩)) | (go_at_call 62; (with_reducible refine (impl_SizeOk.calls ad ae false _ A12.out).mono ?_); rintro e w' ⟨rfl, ⟨nd, rfl⟩⟩; (try first | exact ⟨rfl, _, World.drewN_drewN _ _ _⟩ | exact ⟨rfl, _, Eq.trans (World.drewN_drewN _ _ _) (congrArg (World.drewN _) (Nat.add_assoc _ _ _))⟩))); try go_wp2_with (first | (go_at_call 61; (with_reducible refine (impl_within.calls af 1 1000000 true _ A10.out).mono ?_); rintro e w' ⟨rfl, ⟨nd, rfl⟩⟩; (try first | exact ⟨rfl, _, World.drewN_drewN _ _ _⟩ | exact ⟨rfl, _, Eq.trans (World.drewN_drewN _ _ _) (congrArg (World.drewN _) (Nat.add_assoc _ _ _))⟩)) | (go_at_call 62; (with_reducible refine (impl_SizeOk.calls ad ae false _ A12.out).mono ?_); rintro e w' ⟨rfl, ⟨nd, rfl⟩⟩; (try first | exact ⟨rfl, _, World.drewN_drewN _ _ _⟩ | exact ⟨rfl, _, Eq.trans (World.drewN_drewN _ _ _) (congrArg (World.drewN _) (Nat.add_assoc _ _ _))⟩))))
     go_meet
     case rel => exact ⟨_, (true), TF, H', ⟨by first | omega | exact Nat.le_refl _⟩, ⟨TK⟩, ⟨TB⟩⟩
   ·replace c11 := Bool.eq_false_iff.mpr c11;subst c11;replace H := ifF H;have H' := aM H;clear H;obtain ⟨aJ, aV, aR, aT⟩ := cz4 aa.out;obtain ⟨aD, a4, aF, aZ⟩ := fz4 aa.out;go_wp2_with (first | (go_at_call 61; (with_reducible refine (impl_within.calls af 1 1000000 false _ A10.out).mono ?_); rintro e w' ⟨rfl, ⟨nd, rfl⟩⟩; (try first | exact ⟨rfl, _, World.drewN_drewN _ _ _⟩ | exact ⟨rfl, _, Eq.trans (World.drewN_drewN _ _ _) (congrArg (World.drewN _) (Nat.add_assoc _ _ _))⟩)))
    repeat (go_quiet (first | (go_at_call 61; (with_reducible refine (impl_within.calls af 1 1000000 false _ A10.out).mono ?_); rintro e w' ⟨rfl, ⟨nd, rfl⟩⟩; (try first | exact ⟨rfl, _, World.drewN_drewN _ _ _⟩ | exact ⟨rfl, _, Eq.trans (World.drewN_drewN _ _ _) (congrArg (World.drewN _) (Nat.add_assoc _ _ _))⟩))); try go_wp2_with (first | (go_at_call 61; (with_reducible refine (impl_within.calls af 1 1000000 false _ A10.out).mono ?_); rintro e w' ⟨rfl, ⟨nd, rfl⟩⟩; (try first | exact ⟨rfl, _, World.drewN_drewN _ _ _⟩ | exact ⟨rfl, _, Eq.trans (World.drewN_drewN _ _ _) (congrArg (World.drewN _) (Nat.add_assoc _ _ _))⟩))))
    go_meet
    case rel => exact ⟨_, (true), TF, H', ⟨by first | omega | exact Nat.le_refl _⟩, ⟨TK⟩, ⟨TB⟩⟩
  case rest =>
   clear HC8;try clear c1
   try clear p2
   try clear c6
   try clear c11
   try clear c13
   try clear aW
   try clear aH
   try clear aI
   try clear aO
   try clear aE
   try clear aU
   try clear aS
   try clear aY
   try clear aJ
   try clear aV
   try clear aR
   try clear aT
   try clear au
   try clear ay
   try clear aq
   try clear aw
   try clear aN
   try clear aL
   try clear aG
   try clear aP
   try clear aK
   try clear aX
   try clear aQ
   try clear a5
   try clear aD
   try clear a4
   try clear aF
   try clear aZ
   try clear ap
   try clear av
   try clear ao
   try clear ax
   obtain ⟨kq, aB, rfl, HA, HJ7, aa, HB⟩ := hcut;cases kq with
   | zero => exact absurd HA.out (by simp [impl_ManOk.j0])
   | succ kj7 =>
    have H := HA.out;clear HA;simp only [impl_ManOk.j0] at H
    by_cases c18 : aB = true
    ·subst c18;replace H := ifT H;obtain rfl := Option.some.inj H;go_wp2
     repeat (go_quiet (fail); try go_wp2)
     go_ret
     exact ⟨TE, TB⟩
    ·replace c18 := Bool.eq_false_iff.mpr c18;subst c18;replace H := ifF H;have H' := aM H;clear H;obtain ⟨bf, bi, bg, bh⟩ := cz4 aa.out;obtain ⟨bj, be, bc, bd⟩ := fz4 aa.out;go_wp2
     repeat (go_quiet (fail); try go_wp2)
     go_loopg [37] kj7 (fun kq v37 w' => ∃ (ab : Int), v37 = .int .i64 ab ∧ Aside0 (impl_ManOk.l0 kq ac (ac.length : Int) ab af ad ae ac = some r) ∧ Aside0 (kq ≤ kj7) ∧ Aside0 (w'.heap[aC]? = some (.cells #[.int .i64 af, .int .i64 ad, .int .i64 ae, (.slice am ac.length an)] 28 (0, 0))) ∧ Aside0 (Below w.heap.size w w'))
     case atStart => exact ⟨(0), TF, H', ⟨Nat.le_refl _⟩, ⟨TK⟩, ⟨TB⟩⟩
     case round =>
      clear H';try clear c1
      try clear p2
      try clear c6
      try clear c11
      try clear c13
      try clear c18
      try clear aW
      try clear aH
      try clear aI
      try clear aO
      try clear aE
      try clear aU
      try clear aS
      try clear aY
      try clear aJ
      try clear aV
      try clear aR
      try clear aT
      try clear bf
      try clear bi
      try clear bg
      try clear bh
      try clear au
      try clear ay
      try clear aq
      try clear aw
      try clear aN
      try clear aL
      try clear aG
      try clear aP
      try clear aK
      try clear aX
      try clear aQ
      try clear a5
      try clear aD
      try clear a4
      try clear aF
      try clear aZ
      try clear bj
      try clear be
      try clear bc
      try clear bd
      try clear ap
      try clear av
      try clear ao
      try clear ax
      try clear p2
      obtain ⟨ab, rfl, HA, HK2, aa, HB⟩ := hrel;cases gk with
      | zero => exact absurd HA.out (by simp [impl_ManOk.l0])
      | succ k2 =>
       have H := HA.out;clear HA;simp only [impl_ManOk.l0] at H
       by_cases c20 : ab < (ac.length : Int)
       ·rw [if_pos c20] at H;have c20b0 : decide (ab < (ac.length : Int)) = true := decide_eq_true c20;clear c20;replace H := ifN H;obtain ⟨c21, H⟩ := H;have c21b0 : decide (0 ≤ ab) = true := decide_eq_true c21;clear c21;replace H := ifN H;obtain ⟨c22, H⟩ := H;have c22b0 : decide (ab < (ac.length : Int)) = true := decide_eq_true c22;clear c22;replace H := bE H;obtain ⟨⟨ah, a6⟩, A23, H⟩ := H;dsimp only at H;replace H := bE H;obtain ⟨⟨ai, ag⟩, A24, H⟩ := H;dsimp only at H;have a9 : 0 ≤ (ab : Int) := DT;have a8 : ab < (ac.length : Int) := DT;obtain ⟨ad213, e213, aA, az⟩ := at_T48 ak.out ab a9 a8;cases e213;replace aA := (HB.out.cell (World.block_lt_of_cell? w _ aA)).trans aA;replace az := (HB.out.cell (World.block_lt_of_cell? w _ az)).trans az;replace a9 := eq_true a9;replace a8 := eq_true a8;go_wp2_with (first | ((with_reducible refine gate_dst (N := 4) rfl ?_); (try (refine gate_guard (by rfl) ?_; dsimp only)); refine gBx 4 #[.int .i64 0, .int .i64 0] 48 ?_; intro ar hg w26 hbox hb; have BK214 := aM (hbox); have GW214 := gW HB hg; have GE214 := gW HB hg; obtain ⟨NB208_214, NB214_208⟩ := nB aa hg; replace aa := mB aa hb; replace HB := bS HB hb; clear hb hbox hg; obtain ⟨hnb27, hnc27⟩ := oB NB214_208; obtain ⟨hcz28_0, hcz28_1⟩ := cz2 BK214.out; obtain ⟨hfz28_0, hfz28_1⟩ := fz2 BK214.out) | (go_at_call 108; (with_reducible refine (impl_BytesOf.calls k2 ((rd_T48 ac ab).f1) ah a6 _ A23.out).mono ?_); rintro e w29 ⟨v217, rfl, ho0, hb⟩; have HO218 := aM (Kd.R_lower ho0 (below_size TB)); replace aa := mB aa hb; replace BK214 := aM (blk_below (g := ar) (o := .cells #[.int .i64 ((rd_T48 ac ab).f0), .int .i64 ((rd_T48 ac ab).f1)] 48 (0, 0)) (blk_put (blk_put (cs := #[.int .i64 0, .int .i64 0]) (TZ BK214) 0 _ rfl) 1 _ rfl) hb); replace HB := bS HB hb; clear ho0 hb; obtain ⟨hcz30_0, hcz30_1, hcz30_2, hcz30_3⟩ := cz4 aa.out; obtain ⟨hfz30_0, hfz30_1, hfz30_2, hfz30_3⟩ := fz4 aa.out) | ((with_reducible refine gate_callee (f := 66) rfl ?_); (with_reducible refine gate_dst (N := 54) rfl ?_); generalize hG_ : wpList _ _ _ _ _ _ = G_))
        repeat (go_quiet (first | ((with_reducible refine gate_dst (N := 4) rfl ?_); (try (refine gate_guard (by rfl) ?_; dsimp only)); refine gBx 4 #[.int .i64 0, .int .i64 0] 48 ?_; intro ar hg w26 hbox hb; have BK214 := aM (hbox); have GW214 := gW HB hg; have GE214 := gW HB hg; obtain ⟨NB208_214, NB214_208⟩ := nB aa hg; replace aa := mB aa hb; replace HB := bS HB hb; clear hb hbox hg; obtain ⟨hnb27, hnc27⟩ := oB NB214_208; obtain ⟨hcz28_0, hcz28_1⟩ := cz2 BK214.out; obtain ⟨hfz28_0, hfz28_1⟩ := fz2 BK214.out) | (go_at_call 108; (with_reducible refine (impl_BytesOf.calls k2 ((rd_T48 ac ab).f1) ah a6 _ A23.out).mono ?_); rintro e w29 ⟨v217, rfl, ho0, hb⟩; have HO218 := aM (Kd.R_lower ho0 (below_size TB)); replace aa := mB aa hb; replace BK214 := aM (blk_below (g := ar) (o := .cells #[.int .i64 ((rd_T48 ac ab).f0), .int .i64 ((rd_T48 ac ab).f1)] 48 (0, 0)) (blk_put (blk_put (cs := #[.int .i64 0, .int .i64 0]) (TZ BK214) 0 _ rfl) 1 _ rfl) hb); replace HB := bS HB hb; clear ho0 hb; obtain ⟨hcz30_0, hcz30_1, hcz30_2, hcz30_3⟩ := cz4 aa.out; obtain ⟨hfz30_0, hfz30_1, hfz30_2, hfz30_3⟩ := fz4 aa.out) | ((with_reducible refine gate_callee (f := 66) rfl ?_); (with_reducible refine gate_dst (N := 54) rfl ?_); generalize hG_ : wpList _ _ _ _ _ _ = G_)); try go_wp2_with (first | ((with_reducible refine gate_dst (N := 4) rfl ?_); (try (refine gate_guard (by rfl) ?_; dsimp only)); refine gBx 4 #[.int .i64 0, .int .i64 0] 48 ?_; intro ar hg w26 hbox hb; have BK214 := aM (hbox); have GW214 := gW HB hg; have GE214 := gW HB hg; obtain ⟨NB208_214, NB214_208⟩ := nB aa hg; replace aa := mB aa hb; replace HB := bS HB hb; clear hb hbox hg; obtain ⟨hnb27, hnc27⟩ := oB NB214_208; obtain ⟨hcz28_0, hcz28_1⟩ := cz2 BK214.out; obtain ⟨hfz28_0, hfz28_1⟩ := fz2 BK214.out) | (go_at_call 108; (with_reducible refine (impl_BytesOf.calls k2 ((rd_T48 ac ab).f1) ah a6 _ A23.out).mono ?_); rintro e w29 ⟨v217, rfl, ho0, hb⟩; have HO218 := aM (Kd.R_lower ho0 (below_size TB)); replace aa := mB aa hb; replace BK214 := aM (blk_below (g := ar) (o := .cells #[.int .i64 ((rd_T48 ac ab).f0), .int .i64 ((rd_T48 ac ab).f1)] 48 (0, 0)) (blk_put (blk_put (cs := #[.int .i64 0, .int .i64 0]) (TZ BK214) 0 _ rfl) 1 _ rfl) hb); replace HB := bS HB hb; clear ho0 hb; obtain ⟨hcz30_0, hcz30_1, hcz30_2, hcz30_3⟩ := cz4 aa.out; obtain ⟨hfz30_0, hfz30_1, hfz30_2, hfz30_3⟩ := fz4 aa.out) | ((with_reducible refine gate_callee (f := 66) rfl ?_); (with_reducible refine gate_dst (N := 54) rfl ?_); generalize hG_ : wpList _ _ _ _ _ _ = G_)))
        subst hG_
        by_cases c31 : a6 = true
        ·subst c31;replace H := ifT H
         by_cases c32 : (ah.length : Int) = ag
         ·rw [if_pos c32] at H;have c32b0 : ((ah.length : Int) == ag) = true := beq_iff_eq.mpr c32;have c32b1 : ((ah.length : Int) != ag) = false := bne_eq_false_iff_eq.mpr c32;clear c32;replace H := bE H;obtain ⟨aj, A33, H⟩ := H
          by_cases c34 : aj = ((rd_T48 ac ab).f0)
          ·rw [if_pos c34] at H;have c34b0 : (aj == ((rd_T48 ac ab).f0)) = true := beq_iff_eq.mpr c34;have c34b1 : (aj != ((rd_T48 ac ab).f0)) = false := bne_eq_false_iff_eq.mpr c34;clear c34;have H' := aM H;clear H;go_wp2_with (first | (go_at_call 66; (with_reducible refine (impl_SpanOf.calls ad ae ab ai ag _ A24.out).mono ?_); rintro e w35 ⟨rfl, hb⟩; replace HO218 := mR HO218 hb; replace aa := mB aa hb; replace BK214 := mB BK214 hb; replace HB := bS HB hb; clear hb; obtain ⟨Ao36, co36, eo36⟩ := Kd.R_slice HO218.out; subst eo36) | (go_at_call 105; (with_reducible refine (impl_WeakOf.calls k2 _ _ ah aj _ ?side1 ?side2 A33.out).mono ?_); (case side1 => exact Zq8_1); (case side2 => exact (Kd.R_reads' HO218.out).2.1); rintro e w' ⟨rfl, ⟨nd, rfl⟩⟩; (try first | exact ⟨rfl, _, World.drewN_drewN _ _ _⟩ | exact ⟨rfl, _, Eq.trans (World.drewN_drewN _ _ _) (congrArg (World.drewN _) (Nat.add_assoc _ _ _))⟩); obtain ⟨hnb37, hnc37⟩ := oB NB214_208; obtain ⟨hcz38_0, hcz38_1⟩ := cz2 BK214.out; obtain ⟨hfz38_0, hfz38_1⟩ := fz2 BK214.out))
           repeat (go_quiet (first | (go_at_call 66; (with_reducible refine (impl_SpanOf.calls ad ae ab ai ag _ A24.out).mono ?_); rintro e w35 ⟨rfl, hb⟩; replace HO218 := mR HO218 hb; replace aa := mB aa hb; replace BK214 := mB BK214 hb; replace HB := bS HB hb; clear hb; obtain ⟨Ao36, co36, eo36⟩ := Kd.R_slice HO218.out; subst eo36) | (go_at_call 105; (with_reducible refine (impl_WeakOf.calls k2 _ _ ah aj _ ?side1 ?side2 A33.out).mono ?_); (case side1 => exact Zq8_1); (case side2 => exact (Kd.R_reads' HO218.out).2.1); rintro e w' ⟨rfl, ⟨nd, rfl⟩⟩; (try first | exact ⟨rfl, _, World.drewN_drewN _ _ _⟩ | exact ⟨rfl, _, Eq.trans (World.drewN_drewN _ _ _) (congrArg (World.drewN _) (Nat.add_assoc _ _ _))⟩); obtain ⟨hnb37, hnc37⟩ := oB NB214_208; obtain ⟨hcz38_0, hcz38_1⟩ := cz2 BK214.out; obtain ⟨hfz38_0, hfz38_1⟩ := fz2 BK214.out)); try go_wp2_with (first | (go_at_call 66; (with_reducible refine (impl_SpanOf.calls ad ae ab ai ag _ A24.out).mono ?_); rintro e w35 ⟨rfl, hb⟩; replace HO218 := mR HO218 hb; replace aa := mB aa hb; replace BK214 := mB BK214 hb; replace HB := bS HB hb; clear hb; obtain ⟨Ao36, co36, eo36⟩ := Kd.R_slice HO218.out; subst eo36) | (go_at_call 105; (with_reducible refine (impl_WeakOf.calls k2 _ _ ah aj _ ?side1 ?side2 A33.out).mono ?_); (case side1 => exact Zq8_1); (case side2 => exact (Kd.R_reads' HO218.out).2.1); rintro e w' ⟨rfl, ⟨nd, rfl⟩⟩; (try first | exact ⟨rfl, _, World.drewN_drewN _ _ _⟩ | exact ⟨rfl, _, Eq.trans (World.drewN_drewN _ _ _) (congrArg (World.drewN _) (Nat.add_assoc _ _ _))⟩); obtain ⟨hnb37, hnc37⟩ := oB NB214_208; obtain ⟨hcz38_0, hcz38_1⟩ := cz2 BK214.out; obtain ⟨hfz38_0, hfz38_1⟩ := fz2 BK214.out)))
           go_roundg k2
           case measure => have := HJ7.out; have := HK2.out; omega
           case rel => exact ⟨(wrap64 (ab + 1)), TF, H', ⟨by have := HJ7.out; have := HK2.out; omega⟩, ⟨TK⟩, ⟨TB⟩⟩
          ·rw [if_neg c34] at H;have c34b0 : (aj == ((rd_T48 ac ab).f0)) = false := beq_eq_false_iff_ne.mpr c34;have c34b1 : (aj != ((rd_T48 ac ab).f0)) = true := bne_iff_ne.mpr c34;obtain rfl := Option.some.inj H;go_wp2_with (first | (go_at_call 66; (with_reducible refine (impl_SpanOf.calls ad ae ab ai ag _ A24.out).mono ?_); rintro e w39 ⟨rfl, hb⟩; replace HO218 := mR HO218 hb; replace aa := mB aa hb; replace BK214 := mB BK214 hb; replace HB := bS HB hb; clear hb; obtain ⟨Ao40, co40, eo40⟩ := Kd.R_slice HO218.out; subst eo40) | (go_at_call 105; (with_reducible refine (impl_WeakOf.calls k2 _ _ ah aj _ ?side1 ?side2 A33.out).mono ?_); (case side1 => exact Zq8_1); (case side2 => exact (Kd.R_reads' HO218.out).2.1); rintro e w' ⟨rfl, ⟨nd, rfl⟩⟩; (try first | exact ⟨rfl, _, World.drewN_drewN _ _ _⟩ | exact ⟨rfl, _, Eq.trans (World.drewN_drewN _ _ _) (congrArg (World.drewN _) (Nat.add_assoc _ _ _))⟩); obtain ⟨hnb41, hnc41⟩ := oB NB214_208; obtain ⟨hcz42_0, hcz42_1⟩ := cz2 BK214.out; obtain ⟨hfz42_0, hfz42_1⟩ := fz2 BK214.out))
           repeat (go_quiet (first | (go_at_call 66; (with_reducible refine (impl_SpanOf.calls ad ae ab ai ag _ A24.out).mono ?_); rintro e w39 ⟨rfl, hb⟩; replace HO218 := mR HO218 hb; replace aa := mB aa hb; replace BK214 := mB BK214 hb; replace HB := bS HB hb; clear hb; obtain ⟨Ao40, co40, eo40⟩ := Kd.R_slice HO218.out; subst eo40) | (go_at_call 105; (with_reducible refine (impl_WeakOf.calls k2 _ _ ah aj _ ?side1 ?side2 A33.out).mono ?_); (case side1 => exact Zq8_1); (case side2 => exact (Kd.R_reads' HO218.out).2.1); rintro e w' ⟨rfl, ⟨nd, rfl⟩⟩; (try first | exact ⟨rfl, _, World.drewN_drewN _ _ _⟩ | exact ⟨rfl, _, Eq.trans (World.drewN_drewN _ _ _) (congrArg (World.drewN _) (Nat.add_assoc _ _ _))⟩); obtain ⟨hnb41, hnc41⟩ := oB NB214_208; obtain ⟨hcz42_0, hcz42_1⟩ := cz2 BK214.out; obtain ⟨hfz42_0, hfz42_1⟩ := fz2 BK214.out)); try go_wp2_with (first | (go_at_call 66; (with_reducible refine (impl_SpanOf.calls ad ae ab ai ag _ A24.out).mono ?_); rintro e w39 ⟨rfl, hb⟩; replace HO218 := mR HO218 hb; replace aa := mB aa hb; replace BK214 := mB BK214 hb; replace HB := bS HB hb; clear hb; obtain ⟨Ao40, co40, eo40⟩ := Kd.R_slice HO218.out; subst eo40) | (go_at_call 105; (with_reducible refine (impl_WeakOf.calls k2 _ _ ah aj _ ?side1 ?side2 A33.out).mono ?_); (case side1 => exact Zq8_1); (case side2 => exact (Kd.R_reads' HO218.out).2.1); rintro e w' ⟨rfl, ⟨nd, rfl⟩⟩; (try first | exact ⟨rfl, _, World.drewN_drewN _ _ _⟩ | exact ⟨rfl, _, Eq.trans (World.drewN_drewN _ _ _) (congrArg (World.drewN _) (Nat.add_assoc _ _ _))⟩); obtain ⟨hnb41, hnc41⟩ := oB NB214_208; obtain ⟨hcz42_0, hcz42_1⟩ := cz2 BK214.out; obtain ⟨hfz42_0, hfz42_1⟩ := fz2 BK214.out)))
           go_ret
           exact ⟨TE, TB⟩
         ·rw [if_neg c32] at H;have c32b0 : ((ah.length : Int) == ag) = false := beq_eq_false_iff_ne.mpr c32;have c32b1 : ((ah.length : Int) != ag) = true := bne_iff_ne.mpr c32;obtain rfl := Option.some.inj H;go_wp2_with (first | (go_at_call 66; (with_reducible refine (impl_SpanOf.calls ad ae ab ai ag _ A24.out).mono ?_); rintro e w43 ⟨rfl, hb⟩; replace HO218 := mR HO218 hb; replace aa := mB aa hb; replace BK214 := mB BK214 hb; replace HB := bS HB hb; clear hb; obtain ⟨Ao44, co44, eo44⟩ := Kd.R_slice HO218.out; subst eo44))
          repeat (go_quiet (first | (go_at_call 66; (with_reducible refine (impl_SpanOf.calls ad ae ab ai ag _ A24.out).mono ?_); rintro e w43 ⟨rfl, hb⟩; replace HO218 := mR HO218 hb; replace aa := mB aa hb; replace BK214 := mB BK214 hb; replace HB := bS HB hb; clear hb; obtain ⟨Ao44, co44, eo44⟩ := Kd.R_slice HO218.out; subst eo44)); try go_wp2_with (first | (go_at_call 66; (with_reducible refine (impl_SpanOf.calls ad ae ab ai ag _ A24.out).mono ?_); rintro e w43 ⟨rfl, hb⟩; replace HO218 := mR HO218 hb; replace aa := mB aa hb; replace BK214 := mB BK214 hb; replace HB := bS HB hb; clear hb; obtain ⟨Ao44, co44, eo44⟩ := Kd.R_slice HO218.out; subst eo44)))
          go_ret
          exact ⟨TE, TB⟩
        ·replace c31 := Bool.eq_false_iff.mpr c31;subst c31;replace H := ifF H;obtain rfl := Option.some.inj H;go_wp2_with (first | (go_at_call 66; (with_reducible refine (impl_SpanOf.calls ad ae ab ai ag _ A24.out).mono ?_); rintro e w45 ⟨rfl, hb⟩; replace HO218 := mR HO218 hb; replace aa := mB aa hb; replace BK214 := mB BK214 hb; replace HB := bS HB hb; clear hb))
         repeat (go_quiet (first | (go_at_call 66; (with_reducible refine (impl_SpanOf.calls ad ae ab ai ag _ A24.out).mono ?_); rintro e w45 ⟨rfl, hb⟩; replace HO218 := mR HO218 hb; replace aa := mB aa hb; replace BK214 := mB BK214 hb; replace HB := bS HB hb; clear hb)); try go_wp2_with (first | (go_at_call 66; (with_reducible refine (impl_SpanOf.calls ad ae ab ai ag _ A24.out).mono ?_); rintro e w45 ⟨rfl, hb⟩; replace HO218 := mR HO218 hb; replace aa := mB aa hb; replace BK214 := mB BK214 hb; replace HB := bS HB hb; clear hb)))
         go_ret
         exact ⟨TE, TB⟩
       ·rw [if_neg c20] at H;have c20b0 : decide (ab < (ac.length : Int)) = false := decide_eq_false c20;clear c20;obtain rfl := Option.some.inj H;go_wp2
        repeat (go_quiet (fail); try go_wp2)
        go_ret
        exact ⟨TE, TB⟩
theorem Zq9_0 {p : Prop} (h : p := by (with_reducible repeat (first | apply Kd.V_alloc | apply Kd.V_drewN | apply Kd.V_drew)); exact HO0_1.out) : p := h
def impl_BuildNew.f (k : Nat) (a0_0 : Int) (a0_1 : Int) (a0_2 : Int) (l0_3 : List (S48)) : Option (Int × List Int) := (impl_ManOk.f k a0_0 a0_1 a0_2 l0_3).bind fun t224 => (if t224 = true then (if 0 ≤ a0_2 then (if (a0_2 : Int).toNat ≤ 281474976710656 then (some (0, (List.replicate (a0_2 : Int).toNat 0))) else (none)) else (none)) else (some (0, ([] : List Int))))
theorem impl_BuildNew.mono : ∀ a0 a1 a2 a3 k, LeO (impl_BuildNew.f k a0 a1 a2 a3) (impl_BuildNew.f (k + 1) a0 a1 a2 a3) := by
  intro a0 a1 a2 a3 k;have m0_ := @impl_ManOk.mono;unfold impl_BuildNew.f;exact LM
theorem impl_BuildNew.calls (k : Nat) (a0_0 : Int) (a0_1 : Int) (a0_2 : Int) (A0_3 : Option Addr) (c0_3 : Nat) (l0_3 : List (S48)) (r1 : Int) (r2 : List Int) (w : World) (hr0_3 : Kd.C k48 w A0_3 l0_3.length l0_3) (hc0_3 : l0_3.length ≤ c0_3) (h : impl_BuildNew.f k a0_0 a0_1 a0_2 l0_3 = some (r1, r2)) :
    Calls Try.prog 11 #[.agg #[.int .i64 a0_0, .int .i64 a0_1, .int .i64 a0_2, .slice A0_3 l0_3.length c0_3]] w fun e w' => ∃ v1_ : Value, e = .returned (.agg #[.int .i64 r1, v1_]) ∧ Kd.R (Kd.int .u8) 5 w' w.heap.size (fun _ => True) v1_ r2 ∧ Below w.heap.size w w' := by
  have hu28 := Try.underlying28
  have hu31 := Try.underlying31
  have HR0_3 := aM hr0_3
  have HC0_3 := aM hc0_3
  clear hr0_3 hc0_3
  have HB := aM (Below.refl w.heap.size w)
  have H := h
  clear h
  unfold impl_BuildNew.f at H
  replace H := bE H
  obtain ⟨t224, A2, H⟩ := H
  go_enter Try.func11, Try.ntmps11
  go_wp2_with (first | ((with_reducible refine gate_dst (N := 1) rfl ?_); refine gBx 1 #[.int .i64 a0_0, .int .i64 a0_1, .int .i64 a0_2, .slice A0_3 l0_3.length c0_3] 28 ?_; intro gb222 hg w4 hbox hb; have BK222 := aM (hbox); have GW222 := gW HB hg; have GE222 := gW HB hg; replace HB := bS HB hb; clear hb hbox hg) | ((with_reducible refine gate_dst (N := 2) rfl ?_); refine gBx 2 #[.int .i64 0, .slice none 0 0] 31 ?_; intro gb223 hg w5 hbox hb; have BK223 := aM (hbox); have GW223 := gW HB hg; have GE223 := gW HB hg; obtain ⟨NB222_223, NB223_222⟩ := nB BK222 hg; replace BK222 := mB BK222 hb; replace HB := bS HB hb; clear hb hbox hg; obtain ⟨hnb6, hnc6⟩ := oB NB222_223; obtain ⟨hcz7_0, hcz7_1, hcz7_2, hcz7_3⟩ := cz4 BK222.out; obtain ⟨hfz7_0, hfz7_1, hfz7_2, hfz7_3⟩ := fz4 BK222.out) | ((with_reducible refine gate_callee (f := 64) rfl ?_); refine gL (some 4) Try.func64 #[.agg #[.int .i64 a0_0, .int .i64 a0_1, .int .i64 a0_2, .slice A0_3 l0_3.length c0_3]] ?_; (with_reducible refine (impl_ManOk.calls k a0_0 a0_1 a0_2 _ _ l0_3 t224 _ ?side1 ?side2 A2.out).mono ?_); (case side1 => have X_ := (Kd.C_below HR0_3.out HB.out); exact TC); (case side2 => exact HC0_3.out); rintro e w8 ⟨rfl, hb⟩; refine ⟨_, rfl, ?_⟩; replace BK222 := mB BK222 hb; replace BK223 := mB BK223 hb; replace HB := bS HB hb; clear hb) | ((with_reducible refine gate_dst (N := 5) rfl ?_); generalize hG_ : wpList _ _ _ _ _ _ = G_))
  subst hG_
  by_cases c9 : t224 = true
  · subst c9
    replace H := ifT H
    replace H := ifN H
    obtain ⟨c10, H⟩ := H
    have c10b0 := eq_true c10
    have c10b1 : decide (0 ≤ a0_2) = true := decide_eq_true c10
    clear c10
    replace H := ifN H
    obtain ⟨c11, H⟩ := H
    have c11b0 := eq_true c11
    have c11b1 : decide ((a0_2 : Int).toNat ≤ 281474976710656) = true := decide_eq_true c11
    clear c11
    obtain ⟨y225, hy225⟩ : ∃ y_ : List Int, y_ = (List.replicate (a0_2 : Int).toNat 0) := ⟨_, rfl⟩
    rw [← hy225] at H
    have Ny225 := aM hy225
    clear hy225
    simp only [Option.some.injEq, Prod.mk.injEq] at H
    obtain ⟨rfl, rfl⟩ := H
    obtain ⟨hnb12, hnc12⟩ := oB NB222_223
    obtain ⟨hcz13_0, hcz13_1, hcz13_2, hcz13_3⟩ := cz4 BK222.out
    obtain ⟨hfz13_0, hfz13_1, hfz13_2, hfz13_3⟩ := fz4 BK222.out
    go_wp2_with (first | ((with_reducible refine gate_dst (N := 9) rfl ?_); refine Kd.R_make (Kd.int .u8) _ 5 rfl (N := 9) rfl 22 _ _ rfl a0_2 rfl rfl Try.underlying22 (.int .u8 0) 1 info5 rfl (by decide) (by omega) 0 (ok := fun _ => True) (okp := fun _ => True) rfl (fun _ hk => hk) trivial DT (Nat.le_trans (Nat.mul_le_mul_right _ (DT : a0_2.toNat ≤ 281474976710656)) (by omega)) (Below.refl _ _) (Nat.le_refl _) ?_; intro v226 w14 ho15 hb hg_ hnew_; clear hg_ hnew_; (first | rw [← Ny225.out] at ho15 | (simp only [Int.reduceToNat] at ho15; rw [← Ny225.out] at ho15)); have HO227 := aM (Kd.R_lower ho15 (below_size TB)); replace BK222 := mB BK222 hb; replace BK223 := mB BK223 hb; replace HB := bS HB hb; clear hb ho15; obtain ⟨Ao16, co16, eo16⟩ := Kd.R_slice HO227.out; subst eo16; obtain ⟨hcz17_0, hcz17_1⟩ := cz2 BK223.out; obtain ⟨hfz17_0, hfz17_1⟩ := fz2 BK223.out))
    refine bodyPost_ret (results_cell_row rfl _ _ gb223 31 #[.int .i64 0, .slice Ao16 y225.length co16] (0, 0) _ rfl (blk_put (blk_put (cs := #[.int .i64 0, .slice none 0 0]) (TZ BK223) 0 _ rfl) 1 _ rfl) Try.underlying31 rfl (by kernel_rfl)) rfl ?_
    exact ⟨_, TE, by (with_reducible repeat (first | apply Kd.R_alloc | apply Kd.R_drewN | apply Kd.R_drew)); exact Kd.R_mono (RK1 (Kd.R_types HO227.out BK223.out (by decide))) (fun _ hk => trivial), TB⟩
  · replace c9 := Bool.eq_false_iff.mpr c9
    subst c9
    replace H := ifF H
    simp only [Option.some.injEq, Prod.mk.injEq] at H
    obtain ⟨rfl, rfl⟩ := H
    obtain ⟨hnb18, hnc18⟩ := oB NB223_222
    obtain ⟨hcz19_0, hcz19_1⟩ := cz2 BK223.out
    obtain ⟨hfz19_0, hfz19_1⟩ := fz2 BK223.out
    go_wp2
    refine bodyPost_ret (results_cell_row rfl _ _ gb223 31 #[.int .i64 0, .slice none 0 0] (0, 0) _ rfl (blk_put (blk_put (cs := #[.int .i64 0, .slice none 0 0]) (TZ BK223) 0 _ rfl) 1 _ rfl) Try.underlying31 rfl (by kernel_rfl)) rfl ?_
    exact ⟨_, TE, by first | exact Kd.R_nil _ _ _ _ _ | exact Kd.N_nil _ _ _ _ _ | exact Kd.V_nil _ _ _ _ _ | exact Kd.Q_nil _ _ _ _ _ | exact Kd.S_nil _ _ _ _ _, TB⟩
def impl_Build_block.f (a0_0 : Int) (l0_1 : List Int) (a1_0 : Int) (a1_1 : Int) (a1_2 : Int) (l1_3 : List (S48)) (a2 : Int) : Option (List Int) := (impl_SpanOf.f a1_1 a1_2 a2).bind fun bt237 => (if 0 ≤ bt237.1 then (if bt237.1 ≤ (wrap64 (bt237.1 + bt237.2)) then (if (wrap64 (bt237.1 + bt237.2)) ≤ (l0_1.length : Int) then (some ((l0_1.take ((wrap64 (bt237.1 + bt237.2)) : Int).toNat).drop (bt237.1 : Int).toNat)) else (none)) else (none)) else (none))
theorem impl_Build_block.calls (a0_0 : Int) (P0_1_ : Nat → Prop) (A0_1 : Option Addr) (c0_1 : Nat) (l0_1 : List Int) (a1_0 : Int) (a1_1 : Int) (a1_2 : Int) (A1_3 : Option Addr) (c1_3 : Nat) (l1_3 : List (S48)) (a2 : Int) (r : List Int) (w : World) (hs0_1 : Kd.V (Kd.int .u8) 5 w w.heap.size (fun k_ => P0_1_ k_) (.slice A0_1 l0_1.length c0_1) l0_1) (hr1_3 : Kd.C k48 w A1_3 l1_3.length l1_3) (hc1_3 : l1_3.length ≤ c1_3) (h : impl_Build_block.f a0_0 l0_1 a1_0 a1_1 a1_2 l1_3 a2 = some r) :
    Calls Try.prog 89 #[.agg #[.int .i64 a0_0, .slice A0_1 l0_1.length c0_1], .agg #[.int .i64 a1_0, .int .i64 a1_1, .int .i64 a1_2, .slice A1_3 l1_3.length c1_3], .int .i64 a2] w fun e w' => ∃ v0_ : Value, e = .returned (v0_) ∧ Kd.V (Kd.int .u8) 5 w' w.heap.size (fun k_ => (P0_1_ k_ ∨ w.heap.size ≤ k_)) v0_ r ∧ Below w.heap.size w w' := by
  have hu31 := Try.underlying31
  have hu28 := Try.underlying28
  have HO0_1 := aM (show Kd.V (Kd.int .u8) 5 w w.heap.size (fun k_ => (P0_1_ k_ ∨ w.heap.size ≤ k_)) (.slice A0_1 l0_1.length c0_1) l0_1 from Kd.V_mono hs0_1 (fun k_ hk => .inl hk))
  have HR1_3 := aM hr1_3
  have HC1_3 := aM hc1_3
  clear hr1_3 hc1_3
  have HB := aM (Below.refl w.heap.size w)
  have H := h
  clear h
  unfold impl_Build_block.f at H
  replace H := bE H
  obtain ⟨⟨t237, t238⟩, A4, H⟩ := H
  dsimp only at H
  replace H := ifN H
  obtain ⟨c5, H⟩ := H
  have c5b0 := eq_true c5
  have c5b1 : decide (0 ≤ t237) = true := decide_eq_true c5
  clear c5
  replace H := ifN H
  obtain ⟨c6, H⟩ := H
  have c6b0 := eq_true c6
  have c6b1 : decide (t237 ≤ (wrap64 (t237 + t238))) = true := decide_eq_true c6
  replace H := ifN H
  obtain ⟨c7, H⟩ := H
  have c7b0 := eq_true c7
  have c7b1 : decide ((wrap64 (t237 + t238)) ≤ (l0_1.length : Int)) = true := decide_eq_true c7
  obtain ⟨y239, hy239⟩ : ∃ y_ : List Int, y_ = ((l0_1.take ((wrap64 (t237 + t238)) : Int).toNat).drop (t237 : Int).toNat) := ⟨_, rfl⟩
  rw [← hy239] at H
  have Ny239 := aM hy239
  clear hy239
  obtain rfl := Option.some.inj H
  go_enter Try.func89, Try.ntmps89
  go_wp2_with (first | ((with_reducible refine gate_dst (N := 3) rfl ?_); refine gBx 3 #[.int .i64 a0_0, .slice A0_1 l0_1.length c0_1] 31 ?_; intro gb235 hg w8 hbox hb; have BK235 := aM (hbox); have GW235 := gW HB hg; have GE235 := gW HB hg; replace HO0_1 := aM (Kd.V_below (Kd.V_elderB (by exact Zq9_0) gb235 (Nat.le_of_eq hg.symm)) hb); replace HB := bS HB hb; clear hb hbox hg) | ((with_reducible refine gate_dst (N := 4) rfl ?_); refine gBx 4 #[.int .i64 a1_0, .int .i64 a1_1, .int .i64 a1_2, .slice A1_3 l1_3.length c1_3] 28 ?_; intro gb236 hg w9 hbox hb; have BK236 := aM (hbox); have GW236 := gW HB hg; have GE236 := gW HB hg; obtain ⟨NB235_236, NB236_235⟩ := nB BK235 hg; replace HO0_1 := aM (Kd.V_below (Kd.V_elderB (by exact Zq9_0) gb236 (Nat.le_of_eq hg.symm)) hb); replace BK235 := mB BK235 hb; replace HB := bS HB hb; clear hb hbox hg; obtain ⟨hnb10, hnc10⟩ := oB NB236_235; obtain ⟨hcz11_0, hcz11_1, hcz11_2, hcz11_3⟩ := cz4 BK236.out; obtain ⟨hfz11_0, hfz11_1, hfz11_2, hfz11_3⟩ := fz4 BK236.out) | ((with_reducible refine gate_callee (f := 66) rfl ?_); refine gL (some 15) Try.func66 #[.int .i64 a1_1, .int .i64 a1_2, .int .i64 a2] ?_; (with_reducible refine (impl_SpanOf.calls a1_1 a1_2 a2 t237 t238 _ A4.out).mono ?_); rintro e w12 ⟨rfl, hb⟩; refine ⟨_, rfl, ?_⟩; replace HO0_1 := aM (Kd.V_below (by exact Zq9_0) hb); replace BK235 := mB BK235 hb; replace BK236 := mB BK236 hb; replace HB := bS HB hb; clear hb; obtain ⟨hcz13_0, hcz13_1⟩ := cz2 BK235.out; obtain ⟨hfz13_0, hfz13_1⟩ := fz2 BK235.out; have q14 : ((wrap64 (t237 + t238)) : Int) ≤ ((l0_1.length : Int) : Int) := DT; obtain ⟨i014, hi014, _, hsz14, _⟩ := info_parts info5; have hroom14 : l0_1.length ≤ c0_1 := (Kd.V_reads' HO0_1.out).2.1; have hC14 : Kd.F (Kd.int .u8) _ _ A0_1 l0_1.length l0_1 := (Kd.V_at (base := w.heap.size) HO0_1.out).2.2; have ql14 : (t237 : Int) ≤ ((wrap64 (t237 + t238)) : Int) := DT; have q014 : (0 : Int) ≤ (t237 : Int) := DT; have hcut14 := cut_mid (P := Try.prog) 22 5 .i64 .i64 Try.underlying22 hi014 1 hsz14 A0_1 l0_1.length c0_1 t237 (wrap64 (t237 + t238)) q014 ql14 q14 hroom14; have hr14 := Kd.F_mid (lo := (t237 : Int).toNat) (hi := ((wrap64 (t237 + t238)) : Int).toNat) (c := c0_1) hC14 (by omega) (by omega) hroom14; obtain ⟨A14, hA14⟩ : ∃ A1, A1 = (if c0_1 = (t237 : Int).toNat then A0_1 else (A0_1 : Option Addr).map (·.add ((t237 : Int).toNat * 1))) := ⟨_, rfl⟩; obtain ⟨c14, hc14⟩ : ∃ c1, c1 = c0_1 - (t237 : Int).toNat := ⟨_, rfl⟩; have hy14 : y239.length = ((wrap64 (t237 + t238)) : Int).toNat - (t237 : Int).toNat := (by rw [Ny239.out, List.length_drop, List.length_take] <;> omega); rw [show ((l0_1).take ((wrap64 (t237 + t238)) : Int).toNat).drop (t237 : Int).toNat = y239 from Ny239.out.symm] at hr14; replace hr14 : Kd.F (Kd.int .u8) _ _ A14 y239.length y239 := (by rw [hA14]; exact hr14); rw [← hy14, ← hA14, ← hc14] at hcut14; have HO243 := aM (show Kd.V (Kd.int .u8) 5 _ w.heap.size _ (.slice A14 y239.length c14) y239 from Kd.V_mk (by rw [hy14, hc14]; exact Nat.sub_le_sub_right (Nat.le_trans (by omega) hroom14) _) hr14); have HC243 := aM (show y239.length ≤ c14 from by rw [hy14, hc14]; exact Nat.sub_le_sub_right (Nat.le_trans (by omega) hroom14) _); clear hr14 hC14 hroom14 hi014 hsz14 hc14; have KY14 := aM hy14; have KA14 := aM hA14; clear hy14 hA14; replace q14 := eq_true q14))
  go_ret
  exact ⟨_, TE, by (with_reducible repeat (first | apply Kd.V_alloc | apply Kd.V_drewN | apply Kd.V_drew)); exact Kd.V_mono HO243.out (fun _ hk => hk.1.1), TB⟩
def impl_copyBuild.f (a0_0 : Int) (l0_1 : List Int) : Option (Int × List Int) := (impl_cloned.f l0_1).bind fun t266 => (some (a0_0, t266))
theorem impl_copyBuild.calls (a0_0 : Int) (A0_1 : Option Addr) (c0_1 : Nat) (l0_1 : List Int) (r1 : Int) (r2 : List Int) (w : World) (hr0_1 : Kd.C (Kd.int .u8) w A0_1 l0_1.length l0_1) (hc0_1 : l0_1.length ≤ c0_1) (h : impl_copyBuild.f a0_0 l0_1 = some (r1, r2)) :
    Calls Try.prog 68 #[.agg #[.int .i64 a0_0, .slice A0_1 l0_1.length c0_1]] w fun e w' => ∃ v1_ : Value, e = .returned (.agg #[.int .i64 r1, v1_]) ∧ Kd.R (Kd.int .u8) 5 w' w.heap.size (fun _ => True) v1_ r2 ∧ Below w.heap.size w w' := by
  have hu31 := Try.underlying31
  have HR0_1 := aM hr0_1
  have HC0_1 := aM hc0_1
  clear hr0_1 hc0_1
  have HB := aM (Below.refl w.heap.size w)
  have H := h
  clear h
  unfold impl_copyBuild.f at H
  replace H := bE H
  obtain ⟨t266, A2, H⟩ := H
  simp only [Option.some.injEq, Prod.mk.injEq] at H
  obtain ⟨rfl, rfl⟩ := H
  go_enter Try.func68, Try.ntmps68
  try go_wp2_with (first | ((with_reducible refine gate_dst (N := 1) rfl ?_); refine gBx 1 #[.int .i64 a0_0, .slice A0_1 l0_1.length c0_1] 31 ?_; intro gb264 hg w3 hbox hb; have BK264 := aM (hbox); have GW264 := gW HB hg; have GE264 := gW HB hg; replace HB := bS HB hb; clear hb hbox hg) | ((with_reducible refine gate_dst (N := 2) rfl ?_); refine gBx 2 #[.int .i64 0, .slice none 0 0] 31 ?_; intro gb265 hg w4 hbox hb; have BK265 := aM (hbox); have GW265 := gW HB hg; have GE265 := gW HB hg; obtain ⟨NB264_265, NB265_264⟩ := nB BK264 hg; replace BK264 := mB BK264 hb; replace HB := bS HB hb; clear hb hbox hg))
  replace BK264 := bD BK264
  replace BK265 := bD BK265
  replace HB := aM (below_drew1 HB.out)
  refine start_ (n := 7) (S := fun w' => w'.cell? ⟨gb264, 0, none⟩ = some (.int .i64 a0_0) ∧ w'.cell? ⟨gb264, 1, none⟩ = some (.slice A0_1 l0_1.length c0_1)) (ds := []) (Array.replicate 7 false) (by kernel_rfl) rfl rfl (cz2 BK264.out) (fun hHeld => ?_)
  generalize w4.drew = w5 at BK264 BK265 HB hHeld ⊢
  refine pP 0 (some 3) ?_
  refine pP 2 (some 5) ?_
  refine pT 1 (some 4) ?_
  refine pT 3 (some 6) ?_
  refine pO 4 (some 7) (fun K hK => ?_)
  refine gG Try.func94 #[.slice A0_1 l0_1.length c0_1] ?_
  with_reducible refine (impl_cloned.calls _ _ l0_1 t266 _ ?side1 ?side2 A2.out).mono ?_
  (case side1 => have X_ := (Kd.C_below HR0_1.out HB.out); exact TC)
  (case side2 => exact HC0_1.out)
  rintro e w6 ⟨v267, rfl, ho0, hb⟩
  refine ⟨_, rfl, ?_⟩
  replace HO268 := aM (Kd.R_lower ho0 (below_size TB))
  replace BK264 := mB BK264 hb
  replace BK265 := mB BK265 hb
  replace HB := bS HB hb
  (try clear hb)
  (try clear hb2)
  (try clear hk)
  (try clear hi)
  (try clear ho0)
  obtain ⟨Ao7, co7, eo7⟩ := Kd.R_slice HO268.out
  (first | subst eo7 | (injection eo7 with f1_ f2_ f3_; have f4_ := f1_.symm; have f5_ := f3_.symm; clear f1_ f2_ f3_; subst f4_; subst f5_))
  refine hK.out _ _ (cz2 BK264.out) (fun hHeld => ?_)
  clear hK K
  refine nR ?_
  refine pP 5 (some 8) ?_
  refine pO 6 none (fun K hK => ?_)
  have hs8 : w6.cell? ⟨gb265, 0, none⟩ = some (.int .i64 0) := bC BK265 0
  have hfs8 := blk_frozen BK265.out 0
  have hms8_0 := NB265_264.out
  have hs9 : w6.cell? ⟨gb265, 1, none⟩ = some (.slice none 0 0) := bC BK265 1
  have hfs9 := blk_frozen BK265.out 1
  have hms9_0 := NB265_264.out
  refine skip_ (w1 := ?_) (by rfl) rfl ?_ ?_
  rotate_left
  · go_simp
    rfl
  refine hK.out _ _ ⟨(cf hHeld.1), (cf hHeld.2)⟩ (fun hHeld => ?_)
  clear hK K
  refine done_ (by kernel_rfl) ?_
  try go_wp2
  refine bodyPost_ret (results_cell_row rfl _ _ gb265 31 #[.int .i64 a0_0, .slice Ao7 t266.length co7] (0, 0) _ rfl (blk_put (blk_put (cs := #[.int .i64 0, .slice none 0 0]) (TZ BK265) 0 _ rfl) 1 _ rfl) Try.underlying31 rfl (by kernel_rfl)) rfl ?_
  exact ⟨_, TE, by (with_reducible repeat (first | apply Kd.R_alloc | apply Kd.R_drewN | apply Kd.R_drew)); exact Kd.R_mono (RK1 (Kd.R_types HO268.out BK265.out (by decide))) (fun _ hk => trivial), TB⟩
theorem set_back {W : World} {g : Nat} {t : TypeId} {a b a' b' : Value} (h : W.heap[g]? = some (.cells #[a', b'] t (0, 0))) : (((W.setCell ⟨g, 0, none⟩ a).setCell ⟨g, 1, none⟩ b).setCell ⟨g, 0, none⟩ a').setCell ⟨g, 1, none⟩ b' = W := by
  have e : ((((W.setCell ⟨g, 0, none⟩ a).setCell ⟨g, 1, none⟩ b).setCell ⟨g, 0, none⟩ a').setCell ⟨g, 1, none⟩ b').heap = W.heap := by
    refine Array.ext_getElem? (fun k => ?_);simp only [World.setCell, Array.getElem?_modify]
    by_cases hk : g = k
    · subst hk;simp [h]
    · simp [hk]
  have key : ∀ X : World, X.heap = W.heap → X = { W with heap := X.heap } → X = W := fun X h1 h2 => by rw [h2, h1]
  exact key _ e rfl
/-- A struct of two cells as it was, ahead of its being written. -/
theorem virt_ {W : World} {g : Nat} {t : TypeId} {a' b' : Value} (a b : Value) (h : W.heap[g]? = some (.cells #[a', b'] t (0, 0))) : ∃ w1 : World, (w1.setCell ⟨g, 0, none⟩ a').setCell ⟨g, 1, none⟩ b' = W ∧ w1.heap[g]? = some (.cells #[a, b] t (0, 0)) ∧ Wr g W w1 :=
  ⟨(W.setCell ⟨g, 0, none⟩ a).setCell ⟨g, 1, none⟩ b, set_back h, blk_put (cs := #[a, b']) (blk_put (cs := #[a', b']) h 0 a rfl) 1 b rfl, Wr.set W g 0 [a, b]⟩
/-- A block is the very cut. -/
theorem impl_Build_block.at (hv : Int) (A : Option Addr) (c : Nat) (l : List Int) (m0 m1 m2 : Int) (A3 : Option Addr) (c3 : Nat) (l3 : List S48) (i : Int) (t n : Int) (w : World) (hc : l.length ≤ c) (h : impl_SpanOf.f m1 m2 i = some (t, n)) (h0 : 0 ≤ t) (h1 : t ≤ wrap64 (t + n)) (h2 : wrap64 (t + n) ≤ (l.length : Int)) :
    Calls Try.prog 89 #[.agg #[.int .i64 hv, .slice A l.length c], .agg #[.int .i64 m0, .int .i64 m1, .int .i64 m2, .slice A3 l3.length c3], .int .i64 i] w fun e w' => e = .returned (.slice (if c = t.toNat then A else A.map (fun x => x.add t.toNat)) ((wrap64 (t + n)).toNat - t.toNat) (c - t.toNat)) ∧ Below w.heap.size w w' := by
  have HB := aM (Below.refl w.heap.size w)
  have H := aM h
  have H0 := aM h0
  have H1 := aM h1
  have H2 := aM h2
  have HC := aM hc
  clear h h0 h1 h2 hc
  obtain ⟨Ax, hAx⟩ : ∃ Ax, Ax = (if c = t.toNat then A else A.map (fun x => x.add t.toNat)) := ⟨_, rfl⟩
  rw [← hAx]
  have HX := aM (show Ax = (if c = t.toNat then A else A.map (fun x => x.add (t.toNat * 1))) by rw [hAx]; simp only [Nat.mul_one])
  clear hAx
  go_enter Try.func89, Try.ntmps89
  go_wp2_with (first | ((with_reducible refine gate_dst (N := 3) rfl ?_); refine gBx 3 #[.int .i64 hv, .slice A l.length c] 31 ?_; intro g3 hg w2 hbox hb; have B3 := aM hbox; replace HB := aM (below_step HB.out hb); clear hb hbox hg; (simp only [Act.put, List.setIfInBounds_toArray, List.set_cons_zero, List.set_cons_succ])) | ((with_reducible refine gate_dst (N := 4) rfl ?_); refine gBx 4 #[.int .i64 m0, .int .i64 m1, .int .i64 m2, .slice A3 l3.length c3] 28 ?_; intro g4 hg w3 hbox hb; have B4 := aM hbox; replace B3 := aM (blk_below B3.out hb); replace HB := aM (below_step HB.out hb); clear hb hbox hg; obtain ⟨hcz0, hcz1, hcz2, hcz3⟩ := cz4 B4.out; (simp only [Act.put, List.setIfInBounds_toArray, List.set_cons_zero, List.set_cons_succ])) | ((with_reducible refine gate_callee (f := 66) rfl ?_); refine gL (some 15) Try.func66 #[.int .i64 m1, .int .i64 m2, .int .i64 i] ?_; (with_reducible refine (impl_SpanOf.calls m1 m2 i t n _ H.out).mono ?_); rintro e w12 ⟨rfl, hb⟩; refine ⟨_, rfl, ?_⟩; replace B3 := aM (blk_below B3.out hb); replace HB := aM (below_step HB.out hb); clear hb; obtain ⟨hcy0, hcy1⟩ := cz2 B3.out; obtain ⟨i0, hi0, hcutz⟩ := info_parts info5; have hcut := cut_mid (P := Try.prog) 22 5 .i64 .i64 Try.underlying22 hi0 1 hcutz.2.1 A l.length c t (wrap64 (t + n)) H0.out H1.out H2.out HC.out; rw [← HX.out] at hcut; (simp only [Act.put, List.setIfInBounds_toArray, List.set_cons_zero, List.set_cons_succ])))
  go_ret
  exact ⟨rfl, HB.out⟩
def impl_Build_put.f (hv : Int) (l : List Int) (m1 m2 : Int) (i : Int) (b : List Int) : Option (Int × List Int) := (impl_SpanOf.f m1 m2 i).bind fun q => (if 0 ≤ q.1 then (if q.1 ≤ wrap64 (q.1 + q.2) then (if wrap64 (q.1 + q.2) ≤ (l.length : Int) then (if (b.length : Int) ≤ wrap64 (q.1 + q.2) - q.1 then (if 0 ≤ i then some (Go.bits .or .i64 hv (shl .i64 1 i), l.take q.1.toNat ++ b ++ l.drop (q.1.toNat + b.length)) else none) else none) else none) else none) else none)
theorem impl_Build_put.calls (g : Nat) (A : Option Addr) (c : Nat) (hv : Int) (l : List Int) (m0 m1 m2 : Int) (A3 : Option Addr) (c3 : Nat) (l3 : List S48) (i : Int) (Ab : Option Addr) (cb : Nat) (lb : List Int) (r1 : Int) (r2 : List Int) (ok : Nat → Prop) (w0 w : World) (hB : Below w0.heap.size w0 w) (hg : w0.heap.size ≤ g)
    (hG : w.heap[g]? = some (.cells #[.int .i64 hv, .slice A l.length c] 31 (0, 0))) (hD : Kd.R (Kd.int .u8) 5 w w0.heap.size ok (.slice A l.length c) l) (hr : Kd.C (Kd.int .u8) w Ab lb.length lb) (h : impl_Build_put.f hv l m1 m2 i lb = some (r1, r2)) :
    Calls Try.prog 69 #[.pointer (some ⟨g, 0, none⟩), .agg #[.int .i64 m0, .int .i64 m1, .int .i64 m2, .slice A3 l3.length c3], .int .i64 i, .slice Ab lb.length cb] w fun e w' => e = .returned (.tuple #[]) ∧ r2.length = l.length ∧ w'.heap[g]? = some (.cells #[.int .i64 r1, .slice A r2.length c] 31 (0, 0)) ∧ Kd.R (Kd.int .u8) 5 w' w0.heap.size ok (.slice A r2.length c) r2 ∧ Below w0.heap.size w0 w' ∧ Kept w w' (fun k => k = g ∨ some k = (Value.slice A l.length c).ownBlock) := by
  have hu31 := Try.underlying31
  have hu28 := Try.underlying28
  unfold impl_Build_put.f at h
  obtain ⟨⟨t, n⟩, A1, h⟩ := bE h
  dsimp only at A1 h
  obtain ⟨q0, h⟩ := ifN h
  obtain ⟨q1, h⟩ := ifN h
  obtain ⟨q2, h⟩ := ifN h
  obtain ⟨q3, h⟩ := ifN h
  obtain ⟨q4, h⟩ := ifN h
  obtain ⟨e1, e2⟩ : Go.bits .or .i64 hv (shl .i64 1 i) = r1 ∧ l.take t.toNat ++ lb ++ l.drop (t.toNat + lb.length) = r2 := by simpa using h
  clear h
  have hl : r2.length = l.length := by
    rw [← e2, List.length_append, List.length_append, List.length_take, List.length_drop];omega
  have HL := aM hl;have Q0 := aM q0;have Q1 := aM q1;have Q2 := aM q2;have Q3 := aM q3;have E2 := aM e2;have HR := aM hr;have HG := aM hG;have HD := aM hD;have HB := aM hB;have HW := aM hg;have HK := aM (Kept.refl w (fun k => k = g ∨ some k = (Value.slice A l.length c).ownBlock));clear hl q0 q1 q2 q3 e2 hr hG hD hB hg;have c5b1 : decide (0 ≤ i) = true := decide_eq_true q4;obtain ⟨ji8, hji8⟩ : ∃ j_ : Int, (shl .i64 1 i) = j_ := ⟨_, rfl⟩;rw [hji8] at e1;have hji8_ : (IntKind.i64.wrap (1 * 2 ^ min i.toNat 64)) = ji8 := hji8;have hji8z : i ≤ 64 → (IntKind.i64.wrap (1 * 2 ^ i.toNat)) = ji8 := shl_small hji8;have hji8u : (IntKind.i64.wrap (2 ^ min i.toNat 64)) = ji8 := by have h_ := hji8_; rw [Int.one_mul] at h_; exact h_
  have hji8v : i ≤ 64 → (IntKind.i64.wrap (2 ^ i.toNat)) = ji8 := fun hle_ => by have h_ := hji8z hle_; rw [Int.one_mul] at h_; exact h_
  have hji8y : (wrap64 (1 * 2 ^ min i.toNat 64)) = ji8 := (i64_w _).symm.trans hji8_;have hji8x : i ≤ 64 → (wrap64 (1 * 2 ^ i.toNat)) = ji8 := fun h_ => (i64_w _).symm.trans (hji8z h_)
  subst e1;go_enter Try.func69, Try.ntmps69;go_upto_region 1 with (first | ((with_reducible refine gate_dst (N := 5) rfl ?_); refine gBx 5 #[.int .i64 m0, .int .i64 m1, .int .i64 m2, .slice A3 l3.length c3] 28 ?_; intro g5 hg w2 hbox hb; have B5 := aM hbox; have N5 := aM (show g ≠ g5 from fun e => by have := (Array.getElem?_eq_some_iff.1 HG.out).1; omega); replace HB := aM (below_step HB.out hb); replace HG := aM (blk_below HG.out hb); replace HD := aM (Kd.R_below HD.out hb); replace HR := aM (Kd.C_below HR.out hb); replace HK := aM (HK.out.below hb); clear hb hbox hg))
  (try (simp only [Act.put, List.setIfInBounds_toArray, List.set_cons_zero, List.set_cons_succ]));replace HB := aM (below_step HB.out (bd1 rfl));replace HG := aM (blk_below HG.out (bd1 rfl));replace B5 := aM (blk_below B5.out (bd1 rfl));replace HD := aM (Kd.R_below HD.out (bd1 rfl));replace HR := aM (Kd.C_below HR.out (bd1 rfl));replace HK := aM (HK.out.below (bd1 rfl));refine start_ (n := 8) (S := fun w' => w'.cell? ⟨g, 0, none⟩ = some (.int .i64 hv) ∧ w'.cell? ⟨g, 1, none⟩ = some (.slice A l.length c) ∧ w'.cell? ⟨g5, 0, none⟩ = some (.int .i64 m0) ∧ w'.cell? ⟨g5, 1, none⟩ = some (.int .i64 m1) ∧ w'.cell? ⟨g5, 2, none⟩ = some (.int .i64 m2) ∧ w'.cell? ⟨g5, 3, none⟩ = some (.slice A3 l3.length c3)) (ds := []) (Array.replicate 8 false) (by kernel_rfl) rfl rfl ⟨(blk_cell HG.out 0).trans rfl, (blk_cell HG.out 1).trans rfl, (blk_cell B5.out 0).trans rfl, (blk_cell B5.out 1).trans rfl, (blk_cell B5.out 2).trans rfl, (blk_cell B5.out 3).trans rfl⟩ (fun hHeld => ?_);generalize hw4 : World.drew _ = w4 at HB HG B5 HD HR HK hHeld ⊢;clear hw4;refine pP 0 (some 8) ?_;refine pP 1 (some 9) ?_;refine pP 4 (some 12) ?_;refine pP 6 (some 14) ?_;refine pT 2 (some 10) ?_;refine pT 3 (some 11) ?_;refine pO 5 (some 13) (fun K hK => ?_);refine gG Try.func89 #[.agg #[.int .i64 hv, .slice A l.length c], .agg #[.int .i64 m0, .int .i64 m1, .int .i64 m2, .slice A3 l3.length c3], .int .i64 i] ?_;refine (impl_Build_block.at hv A c l m0 m1 m2 A3 c3 l3 i t n _ (Kd.R_reads' HD.out).2.1 A1.out Q0.out Q1.out Q2.out).mono ?_;rintro e w5 ⟨rfl, hb⟩;refine ⟨_, rfl, ?_⟩;generalize hAx : (if c = t.toNat then A else A.map (fun x => x.add t.toNat)) = Ax;have HX := aM hAx;clear hAx;replace HB := aM (below_step HB.out hb);replace HG := aM (blk_below HG.out hb);replace B5 := aM (blk_below B5.out hb);replace HD := aM (Kd.R_below HD.out hb);replace HR := aM (Kd.C_below HR.out hb);replace HK := aM (HK.out.below hb);clear hb;refine hK.out _ _ ⟨(blk_cell HG.out 0).trans rfl, (blk_cell HG.out 1).trans rfl, (blk_cell B5.out 0).trans rfl, (blk_cell B5.out 1).trans rfl, (blk_cell B5.out 2).trans rfl, (blk_cell B5.out 3).trans rfl⟩ (fun hHeld => ?_);clear hK K;refine nR ?_;refine pO 7 (some 15) (fun K hK => ?_);refine gCp2 (h1 := fun _ => rfl) (0 : Int) (.tmp 13) (.tmp 14) 22 5 Try.underlying22 (by kernel_rfl) HD.out HR.out (k := t.toNat) (n2 := (wrap64 (t + n)).toNat - t.toNat) (by have := Q0.out; have := Q1.out; have := Q2.out; have := Q3.out; omega) (by have := Q0.out; have := Q1.out; have := Q2.out; have := Q3.out; omega) ?_ (by rw [HX.out]; rfl) rfl;intro w6 hrw hz hsz hkeep;rw [E2.out] at hrw;have hne := Kd.R_ne HD.out HG.out (by decide);have hn5 := Kd.R_ne HD.out B5.out (by decide);replace HG := aM ((hkeep g hne).trans HG.out);replace B5 := aM ((hkeep g5 hn5).trans B5.out);replace HB := aM (show Below w0.heap.size w0 w6 from ⟨hz.1.trans HB.out.os, hz.2.1.trans HB.out.tape, hz.2.2.trans HB.out.output, by rw [hsz]; exact HB.out.size, fun j hj => (hkeep j (fun e => by have := Kd.R_base HD.out j e.symm; omega)).trans (HB.out.block j hj)⟩);replace HK := aM (show Kept w w6 (fun k => k = g ∨ some k = (Value.slice A l.length c).ownBlock) from ⟨by rw [hsz]; exact HK.out.1, fun j hj hn => (hkeep j (fun e => hn (.inr e))).trans (HK.out.2 j hj hn)⟩);replace HD := aM hrw;clear hrw hz hsz hkeep hne hn5 HR;refine hK.out _ _ ⟨(blk_cell HG.out 0).trans rfl, (blk_cell HG.out 1).trans rfl, (blk_cell B5.out 0).trans rfl, (blk_cell B5.out 1).trans rfl, (blk_cell B5.out 2).trans rfl, (blk_cell B5.out 3).trans rfl⟩ (fun hHeld => ?_);clear hK K;refine nR ?_;refine done_ (by kernel_rfl) ?_;go_wp2
  replace HB := aM (below_step HB.out (bd1 rfl));replace HG := aM (blk_below HG.out (bd1 rfl));replace HD := aM (Kd.R_below HD.out (bd1 rfl));replace HK := aM (HK.out.below (bd1 rfl));refine start_ (n := 10) (S := fun w' => w'.cell? ⟨g, 0, none⟩ = some (.int .i64 hv)) (ds := [9]) (Array.replicate 10 false) (by kernel_rfl) rfl rfl ((blk_cell HG.out 0).trans rfl) (fun hHeld => ?_);generalize hw7 : World.drew _ = w7 at HB HG HD HK hHeld ⊢;clear hw7;refine pP 0 (some 16) ?_;refine pP 1 (some 17) ?_;refine pP 2 (some 18) ?_;refine pP 4 (some 20) ?_;refine pP 5 (some 21) ?_;refine pT 3 (some 19) ?_;refine pP 6 (some 22) ?_;refine pP 7 (some 23) ?_;refine pP 8 (some 24) ?_;refine pL 9 none (fun K hK => ?_);refine gStS [.int .i64 (Go.bits .or .i64 hv ji8)] #[.int .i64 (Go.bits .or .i64 hv ji8), .slice A l.length c] HG.out ?_;intro w8 hw hbox;replace HD := aM (Kd.R_mono (Kd.R_move (Kd.R_types HD.out HG.out (by decide)) (fun k q => hw.2.2 k q.2)) (fun _ q => q.1));replace HB := aM (hw.below HB.out HW.out);replace HK := aM (HK.out.then_ hw.kept (fun k e => .inl (.inl e)));replace HG := aM hbox;clear hw hbox;refine hK.out _ _ ?_;clear hK K;refine done_ (by kernel_rfl) ?_;go_end0
  simp only [HL.out];exact ⟨by first | rfl | trivial, by first | rfl | trivial, HG.out, HD.out, HB.out, HK.out⟩
def impl_Without.f (a0 : Int) (a1 : Int) : Option (Int) := (impl_SetOk.f a0).bind fun t292 => (if t292 = true then ((impl_SetOk.f a1).bind fun t293 => (if t293 = true then (some (Go.bits .andNot .i64 a0 a1)) else (some 0))) else (some 0))
theorem impl_Without.calls (a0 : Int) (a1 : Int) (r : Int) (w : World) (h : impl_Without.f a0 a1 = some r) :
  Calls Try.prog 21 #[.int .i64 a0, .int .i64 a1] w fun e w' => e = .returned (.int .i64 r) ∧ Drawn0 w w' := by
 have H := h;clear h;unfold impl_Without.f at H;replace H := bE H;obtain ⟨t292, A3, H⟩ := H
 by_cases c4 : t292 = true
 ·subst c4;replace H := ifT H;replace H := bE H;obtain ⟨t293, A5, H⟩ := H
  by_cases c6 : t293 = true
  ·subst c6;replace H := ifT H;obtain rfl := Option.some.inj H;go_enter Try.func21, Try.ntmps21;go_wp2_with (first | ((with_reducible refine gate_callee (f := 72) rfl ?_); refine gL (some 6) Try.func72 #[.int .i64 a0] ?_; (with_reducible refine (impl_SetOk.calls a0 true _ A3.out).mono ?_); rintro e w' ⟨rfl, ⟨nd, rfl⟩⟩; refine ⟨_, rfl, ?_⟩) | (go_at_call 72; (with_reducible refine (impl_SetOk.calls a1 true _ A5.out).mono ?_); rintro e w' ⟨rfl, ⟨nd, rfl⟩⟩))
   go_ret
   exact ⟨by first | rfl | (simp; done) | (simp [*]; done), TD⟩
  ·replace c6 := Bool.eq_false_iff.mpr c6;subst c6;replace H := ifF H;obtain rfl := Option.some.inj H;go_enter Try.func21, Try.ntmps21;go_wp2_with (first | ((with_reducible refine gate_callee (f := 72) rfl ?_); refine gL (some 6) Try.func72 #[.int .i64 a0] ?_; (with_reducible refine (impl_SetOk.calls a0 true _ A3.out).mono ?_); rintro e w' ⟨rfl, ⟨nd, rfl⟩⟩; refine ⟨_, rfl, ?_⟩) | (go_at_call 72; (with_reducible refine (impl_SetOk.calls a1 false _ A5.out).mono ?_); rintro e w' ⟨rfl, ⟨nd, rfl⟩⟩))
   go_ret
   exact ⟨by first | rfl | (simp; done) | (simp [*]; done), TD⟩
 ·replace c4 := Bool.eq_false_iff.mpr c4;subst c4;replace H := ifF H;obtain rfl := Option.some.inj H;go_enter Try.func21, Try.ntmps21;go_wp2_with (first | ((with_reducible refine gate_callee (f := 72) rfl ?_); refine gL (some 6) Try.func72 #[.int .i64 a0] ?_; (with_reducible refine (impl_SetOk.calls a0 false _ A3.out).mono ?_); rintro e w' ⟨rfl, ⟨nd, rfl⟩⟩; refine ⟨_, rfl, ?_⟩))
  go_ret
  exact ⟨by first | rfl | (simp; done) | (simp [*]; done), TD⟩
def impl_FullSet.f (a0 : Int) : Option (Int) := (impl_within.f a0 0 40).bind fun t232 => (if t232 = true then (if 0 ≤ a0 then (some (wrap64 ((shl .i64 1 a0) - 1))) else (none)) else (some 0))
theorem impl_FullSet.calls (a0 : Int) (r : Int) (w : World) (h : impl_FullSet.f a0 = some r) :
    Calls Try.prog 88 #[.int .i64 a0] w fun e w' => e = .returned (.int .i64 r) ∧ Drawn0 w w' := by
  have H := h
  clear h
  unfold impl_FullSet.f at H
  replace H := bE H
  obtain ⟨t232, A2, H⟩ := H
  by_cases c3 : t232 = true
  · subst c3
    replace H := ifT H
    replace H := ifN H
    obtain ⟨c4, H⟩ := H
    have c4b0 := eq_true c4
    have c4b1 : decide (0 ≤ a0) = true := decide_eq_true c4
    clear c4
    obtain ⟨ji5, hji5⟩ : ∃ j_ : Int, (shl .i64 1 a0) = j_ := ⟨_, rfl⟩
    (first | rw [hji5] at H | simp only [hji5] at H | skip)
    (try rw [hji5] at A2)
    have hji5_ : (IntKind.i64.wrap (1 * 2 ^ min a0.toNat 64)) = ji5 := hji5
    have hji5z : a0 ≤ 64 → (IntKind.i64.wrap (1 * 2 ^ a0.toNat)) = ji5 := shl_small hji5
    have hji5u : (IntKind.i64.wrap (2 ^ min a0.toNat 64)) = ji5 := by have h_ := hji5_; rw [Int.one_mul] at h_; exact h_
    have hji5v : a0 ≤ 64 → (IntKind.i64.wrap (2 ^ a0.toNat)) = ji5 := fun hle_ => by have h_ := hji5z hle_; rw [Int.one_mul] at h_; exact h_
    have hji5y : (wrap64 (1 * 2 ^ min a0.toNat 64)) = ji5 := (i64_w _).symm.trans hji5_
    have hji5x : a0 ≤ 64 → (wrap64 (1 * 2 ^ a0.toNat)) = ji5 := fun h_ => (i64_w _).symm.trans (hji5z h_)
    obtain rfl := Option.some.inj H
    go_enter Try.func88, Try.ntmps88
    go_wp2_with (first | ((with_reducible refine gate_callee (f := 61) rfl ?_); refine gL (some 4) Try.func61 #[.int .i64 a0, .int .i64 0, .int .i64 40] ?_; (with_reducible refine (impl_within.calls a0 0 40 true _ A2.out).mono ?_); rintro e w' ⟨rfl, ⟨nd, rfl⟩⟩; refine ⟨_, rfl, ?_⟩))
    go_ret
    exact ⟨by first | rfl | (simp; done) | (simp only [← hji5] <;> (first | rfl | simp)) | (simp [*]; done), TD⟩
  · replace c3 := Bool.eq_false_iff.mpr c3
    subst c3
    replace H := ifF H
    obtain rfl := Option.some.inj H
    go_enter Try.func88, Try.ntmps88
    go_wp2_with (first | ((with_reducible refine gate_callee (f := 61) rfl ?_); refine gL (some 4) Try.func61 #[.int .i64 a0, .int .i64 0, .int .i64 40] ?_; (with_reducible refine (impl_within.calls a0 0 40 false _ A2.out).mono ?_); rintro e w' ⟨rfl, ⟨nd, rfl⟩⟩; refine ⟨_, rfl, ?_⟩))
    go_ret
    exact ⟨by first | rfl | (simp; done) | (simp [*]; done), TD⟩
def impl_AllParts.f (a0_0 : Int) (a0_1 : Int) (a0_2 : Int) (l0_3 : List (S48)) : Option (Int) := (impl_FullSet.f (l0_3.length : Int)).bind fun t234 => (some t234)
theorem impl_AllParts.calls (a0_0 : Int) (a0_1 : Int) (a0_2 : Int) (A0_3 : Option Addr) (c0_3 : Nat) (l0_3 : List (S48)) (r : Int) (w : World) (hr0_3 : Kd.C k48 w A0_3 l0_3.length l0_3) (hc0_3 : l0_3.length ≤ c0_3) (h : impl_AllParts.f a0_0 a0_1 a0_2 l0_3 = some r) :
    Calls Try.prog 39 #[.agg #[.int .i64 a0_0, .int .i64 a0_1, .int .i64 a0_2, .slice A0_3 l0_3.length c0_3]] w fun e w' => e = .returned (.int .i64 r) ∧ Below w.heap.size w w' := by
  have hu28 := Try.underlying28
  have HR0_3 := aM hr0_3
  have HC0_3 := aM hc0_3
  clear hr0_3 hc0_3
  have HB := aM (Below.refl w.heap.size w)
  have H := h
  clear h
  unfold impl_AllParts.f at H
  replace H := bE H
  obtain ⟨t234, A2, H⟩ := H
  obtain rfl := Option.some.inj H
  go_enter Try.func39, Try.ntmps39
  go_wp2_with (first | ((with_reducible refine gate_dst (N := 1) rfl ?_); refine gBx 1 #[.int .i64 a0_0, .int .i64 a0_1, .int .i64 a0_2, .slice A0_3 l0_3.length c0_3] 28 ?_; intro gb233 hg w3 hbox hb; have BK233 := aM (hbox); have GW233 := gW HB hg; have GE233 := gW HB hg; replace HB := bS HB hb; clear hb hbox hg; obtain ⟨hcz4_0, hcz4_1, hcz4_2, hcz4_3⟩ := cz4 BK233.out; obtain ⟨hfz4_0, hfz4_1, hfz4_2, hfz4_3⟩ := fz4 BK233.out) | ((with_reducible refine gate_callee (f := 88) rfl ?_); refine gL (some 6) Try.func88 #[.int .i64 (l0_3.length : Int)] ?_; (with_reducible refine (impl_FullSet.calls (l0_3.length : Int) t234 _ A2.out).mono ?_); rintro e w' ⟨rfl, ⟨nd, rfl⟩⟩; refine ⟨_, rfl, ?_⟩))
  go_ret
  exact ⟨TE, TB⟩
def impl_BuildOk_1.f (a0 : Int) : Option (Bool) := some (a0 != 0)
theorem impl_BuildOk_1.calls (a0 : Int) (r : Bool) (w : World) (h : impl_BuildOk_1.f a0 = some r) :
    Calls Try.prog 91 #[.int .u8 a0] w fun e w' => e = .returned (.bool r) ∧ Drawn0 w w' := by
  have H := h
  clear h
  unfold impl_BuildOk_1.f at H
  obtain rfl := Option.some.inj H
  go_enter Try.func91, Try.ntmps91
  go_wp2
  go_ret
  exact ⟨by first | rfl | (simp; done) | (simp [*]; done), TD⟩
def slices_IndexFunc_byte_byte.l0 : Nat → List Int → Int → Int → Option (Int)
  | 0, _, _, _ => none
  | k + 1, x0, x7, x8 => if x8 < x7 then (if 0 ≤ x8 then (if x8 < (x0.length : Int) then ((impl_BuildOk_1.f (rd x0 x8)).bind fun t245 => (if t245 = true then (some x8) else (slices_IndexFunc_byte_byte.l0 k x0 x7 (wrap64 (x8 + 1))))) else (none)) else (none)) else (some (-1))
def slices_IndexFunc_byte_byte.f (k : Nat) (l0 : List Int)  : Option (Int) := slices_IndexFunc_byte_byte.l0 k l0 (l0.length : Int) 0
theorem slices_IndexFunc_byte_byte.mono_l : ∀ k, (∀ y0 y1 y2, LeO (slices_IndexFunc_byte_byte.l0 k y0 y1 y2) (slices_IndexFunc_byte_byte.l0 (k + 1) y0 y1 y2))
  | 0 => fun _ _ _ r h => by simp [slices_IndexFunc_byte_byte.l0] at h
  | k + 1 => by
    have ih0 := slices_IndexFunc_byte_byte.mono_l k
    · intro y0 y1 y2
      unfold slices_IndexFunc_byte_byte.l0
      exact LM
theorem slices_IndexFunc_byte_byte.mono : ∀ a0 k, LeO (slices_IndexFunc_byte_byte.f k a0) (slices_IndexFunc_byte_byte.f (k + 1) a0) := by
  intro a0 k;have ih0 := slices_IndexFunc_byte_byte.mono_l k;unfold slices_IndexFunc_byte_byte.f;exact LM
theorem slices_IndexFunc_byte_byte.calls (k : Nat) (A0 : Option Addr) (c0 : Nat) (l0 : List Int)  (r : Int) (w : World) (hr0 : Kd.C (Kd.int .u8) w A0 l0.length l0) (hc0 : l0.length ≤ c0) (h : slices_IndexFunc_byte_byte.f k l0 = some r) :
    Calls Try.prog 114 #[.slice A0 l0.length c0, .func (.func 91) #[] #[]] w fun e w' => e = .returned (.int .i64 r) ∧ Drawn0 w w' := by
  have HR0 := aM hr0
  have HC0 := aM hc0
  clear hr0 hc0
  have H := h
  clear h
  unfold slices_IndexFunc_byte_byte.f at H
  have H' := aM H
  clear H
  go_enter Try.func114, Try.ntmps114
  go_wp2
  go_loopg [8] k (fun kq v8 w' => ∃ (x8_1 : Int), v8 = .int .i64 x8_1 ∧ Aside0 (slices_IndexFunc_byte_byte.l0 kq l0 (l0.length : Int) x8_1 = some r) ∧ Aside0 (kq ≤ k) ∧ Drawn0 w w')
  case atStart => exact ⟨(0), TF, H', ⟨Nat.le_refl _⟩, TD⟩
  case round =>
    clear H'
    try clear c1
    try clear p2
    obtain ⟨x8_1, rfl, HA, HK1, ⟨m1, rfl⟩⟩ := hrel
    cases gk with
    | zero => exact absurd HA.out (by simp [slices_IndexFunc_byte_byte.l0])
    | succ k1 =>
      have H := HA.out
      clear HA
      simp only [slices_IndexFunc_byte_byte.l0] at H
      by_cases c3 : x8_1 < (l0.length : Int)
      · rw [if_pos c3] at H
        have c3b0 : decide (x8_1 < (l0.length : Int)) = true := decide_eq_true c3
        clear c3
        replace H := ifN H
        obtain ⟨c4, H⟩ := H
        have c4b0 : decide (0 ≤ x8_1) = true := decide_eq_true c4
        clear c4
        replace H := ifN H
        obtain ⟨c5, H⟩ := H
        have c5b0 : decide (x8_1 < (l0.length : Int)) = true := decide_eq_true c5
        clear c5
        replace H := bE H
        obtain ⟨t245, A6, H⟩ := H
        by_cases c7 : t245 = true
        · subst c7
          replace H := ifT H
          obtain rfl := Option.some.inj H
          have p244 : 0 ≤ (x8_1 : Int) := DT
          have q244 : x8_1 < (l0.length : Int) := DT
          obtain ⟨ad244, e244, hx244_0⟩ := Kd.at_int HR0.out x8_1 p244 q244
          cases e244
          replace p244 := eq_true p244
          replace q244 := eq_true q244
          go_wp2_with (first | (go_at_call 91; (with_reducible refine (impl_BuildOk_1.calls (rd l0 x8_1) true _ A6.out).mono ?_); rintro e w' ⟨rfl, ⟨nd, rfl⟩⟩))
          go_ret
          exact ⟨by first | rfl | (simp; done) | (simp [*]; done), TD⟩
        · replace c7 := Bool.eq_false_iff.mpr c7
          subst c7
          replace H := ifF H
          have H' := aM H
          clear H
          have p244 : 0 ≤ (x8_1 : Int) := DT
          have q244 : x8_1 < (l0.length : Int) := DT
          obtain ⟨ad244, e244, hx244_0⟩ := Kd.at_int HR0.out x8_1 p244 q244
          cases e244
          replace p244 := eq_true p244
          replace q244 := eq_true q244
          go_wp2_with (first | (go_at_call 91; (with_reducible refine (impl_BuildOk_1.calls (rd l0 x8_1) false _ A6.out).mono ?_); rintro e w' ⟨rfl, ⟨nd, rfl⟩⟩))
          go_roundg k1
          case measure => have := HK1.out; omega
          case rel => exact ⟨(wrap64 (x8_1 + 1)), TF, H', ⟨by have := HK1.out; omega⟩, TD⟩
      · rw [if_neg c3] at H
        have c3b0 : decide (x8_1 < (l0.length : Int)) = false := decide_eq_false c3
        clear c3
        obtain rfl := Option.some.inj H
        go_wp2
        go_ret
        exact ⟨by first | rfl | (simp; done) | (simp [*]; done), TD⟩
def slices_ContainsFunc_byte_byte.f (k : Nat) (l0 : List Int)  : Option (Bool) := (slices_IndexFunc_byte_byte.f k l0).bind fun t246 => (some (decide (t246 ≥ 0)))
theorem slices_ContainsFunc_byte_byte.mono : ∀ a0 k, LeO (slices_ContainsFunc_byte_byte.f k a0) (slices_ContainsFunc_byte_byte.f (k + 1) a0) := by
  intro a0 k;have m0_ := @slices_IndexFunc_byte_byte.mono;unfold slices_ContainsFunc_byte_byte.f;exact LM
theorem slices_ContainsFunc_byte_byte.calls (k : Nat) (A0 : Option Addr) (c0 : Nat) (l0 : List Int)  (r : Bool) (w : World) (hr0 : Kd.C (Kd.int .u8) w A0 l0.length l0) (hc0 : l0.length ≤ c0) (h : slices_ContainsFunc_byte_byte.f k l0 = some r) :
    Calls Try.prog 90 #[.slice A0 l0.length c0, .func (.func 91) #[] #[]] w fun e w' => e = .returned (.bool r) ∧ Drawn0 w w' := by
  have HR0 := aM hr0
  have HC0 := aM hc0
  clear hr0 hc0
  have H := h
  clear h
  unfold slices_ContainsFunc_byte_byte.f at H
  replace H := bE H
  obtain ⟨t246, A3, H⟩ := H
  obtain rfl := Option.some.inj H
  go_enter Try.func90, Try.ntmps90
  go_wp2_with (first | ((with_reducible refine gate_callee (f := 114) rfl ?_); refine gL (some 7) Try.func114 #[.slice A0 l0.length c0, .func (.func 91) #[] #[]] ?_; (with_reducible refine (slices_IndexFunc_byte_byte.calls k _ _ l0  t246 _ ?side1 ?side2 A3.out).mono ?_); (case side1 => have X_ := HR0.out; exact TC); (case side2 => exact HC0.out); rintro e w' ⟨rfl, ⟨nd, rfl⟩⟩; refine ⟨_, rfl, ?_⟩))
  go_ret
  exact ⟨by first | rfl | (simp; done) | (simp [*]; done), TD⟩
end Go.Proofs.Ytfkndpjbkndhcaa.Q
