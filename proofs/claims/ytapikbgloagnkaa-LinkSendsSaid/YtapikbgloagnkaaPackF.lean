/-
  A packet that came in, opened: its fields are numbers in range. Conditions: none.
-/
import Derived.Test.YtapikbgloagnkaaPackO
import Derived.Test.YtapikbgloagnkaaFrame
namespace Go.Proofs.Ytapikbgloagnkaa
open Go.ChangeShapes Go.WideShapes Go.ChangeAt Go.RowKit
set_option linter.unusedVariables false
theorem list6 {α : Type} {l : List α} (h : l.length = 6) : ∃ a b c d e f, l = [a, b, c, d, e, f] := by
  match l, h with
  | [a, b, c, d, e, f], _ => exact ⟨a, b, c, d, e, f, rfl⟩
theorem list3 {α : Type} {l : List α} (h : l.length = 3) : ∃ a b c, l = [a, b, c] := by
  match l, h with
  | [a, b, c], _ => exact ⟨a, b, c, rfl⟩
section
variable {H : Type} {w : World} {base : Nat} {spare : Nat → Bool} {held : Bool} {enc : TypeId × Value → H}
theorem open_pkt {r : Reach} {b0 : Nat} {v : Value} {d : DataW H} {p : List MemPlace} (hv : Value.okWide Try.prog w r b0 42 v) (h : DataW.Trod enc Try.prog w base spare held 42 v d p) :
    ∃ id len h0 h1 h2 h3 : Int, v = pkt id len h0 h1 h2 h3 ∧ (0 ≤ id ∧ id ≤ 18446744073709551615) ∧ (-9223372036854775808 ≤ len ∧ len ≤ 9223372036854775807) ∧ (0 ≤ h0 ∧ h0 ≤ 65535) ∧ (0 ≤ h1 ∧ h1 ≤ 65535) ∧ (0 ≤ h2 ∧ h2 ≤ 65535) ∧ (0 ≤ h3 ∧ h3 ≤ 65535) := by
  obtain ⟨cs, rfl, hsz⟩ := okWide_struct Try.underlying42 hv
  obtain ⟨l⟩ := cs
  obtain ⟨c0, c1, c2, c3, c4, c5, rfl⟩ := list6 (l := l) (hsz.trans (show Try.prog.cellsOf 42 = 6 by kernel_rfl))
  obtain ⟨fuel, hf⟩ := h
  obtain ⟨ys, m, _, _, _, hl, hx⟩ := DataW.trod_struct Try.underlying42 (show DataW.trod enc Try.prog w base spare held fuel 42 [c0, c1, c2, c3, c4, c5] = some (d, p) by simpa [Value.cells] using hf)
  obtain ⟨y0, y1, y2, rfl⟩ := list3 hl
  have k1 : Try.prog.cellsOf 22 = 1 := by kernel_rfl
  have k2 : Try.prog.cellsOf 3 = 1 := by kernel_rfl
  have k3 : Try.prog.cellsOf 40 = 4 := by kernel_rfl
  have q0 := hx 0 _ rfl
  have q1 := hx 1 _ rfl
  have q2 := hx 2 _ rfl
  simp [k1, k2, k3] at q0 q1 q2
  obtain ⟨id, e0, _, w0⟩ := DataW.trod_int Try.underlying22 q0
  obtain ⟨len, e1, _, w1⟩ := DataW.trod_int Try.underlying3 q1
  obtain ⟨z0, z1, z2, z3, n, _, p0, p1, p2, p3⟩ := trod_array4 Try.underlying40 (show Try.prog.cellsOf 38 = 1 by kernel_rfl) q2
  obtain ⟨h0, e2, _, w2⟩ := DataW.trod_int Try.underlying38 p0
  obtain ⟨h1, e3, _, w3⟩ := DataW.trod_int Try.underlying38 p1
  obtain ⟨h2, e4, _, w4⟩ := DataW.trod_int Try.underlying38 p2
  obtain ⟨h3, e5, _, w5⟩ := DataW.trod_int Try.underlying38 p3
  simp at e0 e1 e2 e3 e4 e5
  subst e0 e1 e2 e3 e4 e5
  exact ⟨id, len, h0, h1, h2, h3, rfl, bounds_u64 w0, bounds_i64 w1, bounds_u16 w2, bounds_u16 w3, bounds_u16 w4, bounds_u16 w5⟩
end
end Go.Proofs.Ytapikbgloagnkaa
