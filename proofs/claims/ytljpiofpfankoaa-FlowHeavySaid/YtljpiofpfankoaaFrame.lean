/-
  What a statement's walk is told of a slice of numbers that came in. Conditions: none.
-/
import Derived.Test.YtljpiofpfankoaaRows
import Derived.Test.YtljpiofpfankoaaNum
import Derived.ProofKit
import Derived.OpenShut
import Derived.ShutString
import Derived.ChangeOld
import Derived.Lib.SmallJoins
namespace Go.Proofs.Ytljpiofpfankoaa
open Go.RowKit
/-- A slice of integers that came in: nil, or a row of cap cells, the numbers zs; the first len are its elements. -/
def IsRow (k : IntKind) (w : World) (a : Option Addr) (len cap : Nat) (zs : List Int) : Prop :=
  (a = none ∧ len = 0 ∧ cap = 0 ∧ zs = []) ∨
  ∃ x, a = some x ∧ len ≤ cap ∧ cap ≤ maxLen ∧ zs.length = cap ∧ (∀ i, i < zs.length → w.cell? (x.add i) = some (.int k (zs.getD i 0))) ∧ ∀ n ∈ zs, (Lit.int k n).wf = true
section
variable {H : Type} {P : Program} {w : World} {base : Nat} {spare : Nat → Bool} {held : Bool} {enc : TypeId × Value → H}
theorem okWide_arr {r : Reach} {b0 : Nat} {t e : TypeId} {n : Nat} {v : Value} (ht : P.underlying t = some (.array n e)) (h : Value.okWide P w r b0 t v) : ∃ cs, v = .agg cs ∧ cs.size = P.cellsOf t := by
  simp only [Value.okWide, ht] at h
  obtain ⟨cs, h1, h2, _⟩ := h
  exact ⟨cs, h1, h2⟩
theorem open_arr2 {r : Reach} {b0 : Nat} {t e : TypeId} {k : IntKind} {v : Value} {d : DataW H} {p : List MemPlace} (ht : P.underlying t = some (.array 2 e)) (he : P.underlying e = some (.int k)) (hce : P.cellsOf e = 1) (hct : P.cellsOf t = 2)
    (hv : Value.okWide P w r b0 t v) (h : DataW.Trod enc P w base spare held t v d p) : ∃ x y : Int, v = .agg #[.int k x, .int k y] ∧ (Lit.int k x).wf = true ∧ (Lit.int k y).wf = true := by
  obtain ⟨cs, rfl, hsz⟩ := okWide_arr ht hv
  obtain ⟨c0, c1, rfl⟩ := Joins.array2 (hsz.trans hct)
  obtain ⟨fuel, hf⟩ := h
  obtain ⟨ys, m, _, _, _, hl, hx⟩ := DataW.trod_array ht (show DataW.trod enc P w base spare held fuel t [c0, c1] = some (d, p) by simpa [Value.cells] using hf)
  match ys, hl with
  | [y0, y1], _ =>
    have q0 := hx 0 (by omega)
    have q1 := hx 1 (by omega)
    simp [hce] at q0 q1
    obtain ⟨a, e0, _, w0⟩ := DataW.trod_int he q0
    obtain ⟨b, e1, _, w1⟩ := DataW.trod_int he q1
    simp at e0 e1; subst e0 e1
    exact ⟨a, b, rfl, w0, w1⟩
end
end Go.Proofs.Ytljpiofpfankoaa
