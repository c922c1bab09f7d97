/- The reference's draws of numbers out of bytes: they answer, within their bounds. No condition beyond the length that the laws ask. -/
import Derived.Test.YtkfnhbpjphjckaaQ20
import Derived.Test.YtkfnhbpjphjckaaQ22
import Derived.Test.YtkfnhbpjphjckaaPbNum
import Derived.Test.YtkfnhbpjphjckaaPbBits
namespace Go.Proofs.Ytkfnhbpjphjckaa.Pb
open Go.RowKit Go.Proofs.Ytkfnhbpjphjckaa Go.Proofs.Ytkfnhbpjphjckaa.Q Go.Proofs.YtkfnhbpjphjckaaW.PrintWords Go.Proofs.YtkfnhbpjphjckaaW.PrintLast
set_option linter.unusedVariables false
set_option linter.unusedSimpArgs false

/-- Where a cursor may stand in its bytes. -/
def Dr (b : List Int) (i : Int) : Prop := b.length ≤ 1048576 ∧ 0 ≤ i ∧ i ≤ (b.length : Int)
theorem l1New_ev (b : List Int) (hb : b.length ≤ 1048576) : ∃ h, Ev (fun k => spec_l1New.f k b) (b, 0, h) := by
  have key : ∀ d (i : Nat) x, i + d = b.length → ∃ h, Ev (fun k => spec_l1New.l0 k b x (i : Int)) (b, 0, h) := by
    intro d
    induction d with
    | zero =>
      intro i x hi
      exact ⟨x, Ev.step (fun k => rfl) (ev_neg (by omega) ev_some)⟩
    | succ d ih =>
      intro i x hi
      by_cases h4 : (i : Int) < 4000
      · obtain ⟨h, hE⟩ := ih (i + 1) (Go.bits .and .i64 (wrap64 ((wrap64 ((wrap64 (x * 137)) + (wrap64 (rd b (i : Int))))) + 11)) 1073741823) (by omega)
        refine ⟨h, Ev.step (fun k => rfl) (ev_pos (by omega) (ev_pos h4 (ev_pos (by omega) ?_)))⟩
        rw [w64 (x := (i : Int) + 1) (by omega) (by omega)]
        exact hE
      · exact ⟨x, Ev.step (fun k => rfl) (ev_pos (by omega) (ev_neg h4 ev_some))⟩
  exact key b.length 0 _ (by simp)
theorem l1Byte_ok {b : List Int} {i : Int} (h : Int) (hd : Dr b i) : ∃ x i' h', spec_l1Byte.f b i h = some (x, i', h') ∧ 0 ≤ x ∧ x ≤ 255 ∧ Dr b i' := by
  obtain ⟨hb, h0, h1⟩ := hd
  unfold spec_l1Byte.f
  by_cases hi : i < (b.length : Int)
  · rw [if_pos hi, if_pos h0]
    refine ⟨_, _, _, rfl, ?_, ?_, hb, ?_, ?_⟩
    · rw [and255]; omega
    · rw [and255]; omega
    · rw [w64 (by omega) (by omega)]; omega
    · rw [w64 (by omega) (by omega)]; omega
  · rw [if_neg hi]
    refine ⟨_, _, _, rfl, ?_, ?_, hb, h0, h1⟩
    · rw [and255]; omega
    · rw [and255]; omega
theorem tmod_bound {x a : Int} (hx : 0 ≤ x) (ha : 0 < a) : 0 ≤ Int.tmod x a ∧ Int.tmod x a < a := by
  rw [Int.tmod_eq_emod_of_nonneg hx]
  exact ⟨Int.emod_nonneg _ (by omega), Int.emod_lt_of_pos _ ha⟩
theorem l1Below_ok {b : List Int} {i : Int} (h a : Int) (hd : Dr b i) : ∃ x i' h', spec_l1Below.f b i h a = some (x, i', h') ∧ Dr b i' ∧ 0 ≤ x ∧ (0 < a → x < a) ∧ (a ≤ 0 → x = 0) := by
  unfold spec_l1Below.f
  by_cases h0 : a ≤ 0
  · rw [if_pos h0]
    exact ⟨0, i, h, rfl, hd, by omega, by omega, fun _ => rfl⟩
  · rw [if_neg h0]
    by_cases h1 : a ≤ 256
    · rw [if_pos h1]
      obtain ⟨x, i', h', e, x0, x1, hd'⟩ := l1Byte_ok h hd
      rw [e]
      simp only [Option.bind_some]
      rw [if_neg (by omega)]
      have := tmod_bound x0 (show 0 < a by omega)
      exact ⟨_, _, _, rfl, hd', this.1, fun _ => this.2, fun hh => absurd hh h0⟩
    · rw [if_neg h1]
      obtain ⟨x, i1, h1', e1, x0, x1, hd1⟩ := l1Byte_ok h hd
      obtain ⟨y, i2, h2', e2, y0, y1, hd2⟩ := l1Byte_ok h1' hd1
      obtain ⟨z, i3, h3', e3, z0, z1, hd3⟩ := l1Byte_ok h2' hd2
      rw [e1]
      simp only [Option.bind_some]
      rw [e2]
      simp only [Option.bind_some]
      rw [e3]
      simp only [Option.bind_some]
      rw [if_neg (by omega)]
      rw [w64 (x := x * 65536) (by omega) (by omega), w64 (x := y * 256) (by omega) (by omega), w64 (x := x * 65536 + y * 256) (by omega) (by omega), w64 (by omega) (by omega)]
      have := tmod_bound (show 0 ≤ x * 65536 + y * 256 + z by omega) (show 0 < a by omega)
      exact ⟨_, _, _, rfl, hd3, this.1, fun _ => this.2, fun hh => absurd hh h0⟩
theorem l1Once_ok {b : List Int} {i : Int} (h a : Int) (hd : Dr b i) : ∃ x i' h', spec_l1Once.f b i h a = some (x, i', h') ∧ Dr b i' := by
  unfold spec_l1Once.f
  obtain ⟨x, i', h', e, hd', _⟩ := l1Below_ok h a hd
  rw [e]
  exact ⟨_, _, _, rfl, hd'⟩
theorem l1Int_ok {b : List Int} {i : Int} (h : Int) (l : List Int) (hd : Dr b i) (hl : 0 < l.length) : ∃ x i' h', spec_l1Int.f b i h l = some (x, i', h') ∧ Dr b i' ∧ x ∈ l := by
  unfold spec_l1Int.f
  obtain ⟨x, i', h', e, hd', x0, x1, _⟩ := l1Below_ok h (l.length : Int) hd
  have x2 := x1 (by omega)
  rw [e]
  simp only [Option.bind_some]
  rw [if_pos x0, if_pos x2]
  refine ⟨_, _, _, rfl, hd', ?_⟩
  unfold rd
  rw [List.getD_eq_getElem?_getD, List.getElem?_eq_getElem (by omega)]
  exact List.getElem_mem _
end Go.Proofs.Ytkfnhbpjphjckaa.Pb
