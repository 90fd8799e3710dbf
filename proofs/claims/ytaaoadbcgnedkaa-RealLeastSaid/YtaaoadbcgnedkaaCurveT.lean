/-
  The walks of curve.behind, of curve.Ticks above the knee, and of the closed example 'three'. Conditions: fields in range.
-/
import Derived.Test.YtaaoadbcgnedkaaCurveA
import Derived.Test.YtaaoadbcgnedkaaCurveB
namespace Go.Proofs.Ytaaoadbcgnedkaa
open Go.RowKit
set_option linter.unusedVariables false
set_option linter.unusedSimpArgs false
theorem wSubD (a b c : Int) (w : World) (ha : In128 a) (hb : In128 b) (hc : a - b = c) (hcc : In128 c) :
    Calls Try.prog 64 #[wv a, wv b] w fun e w' => e = .returned (.tuple #[wv c, .bool false]) ∧ Below w.heap.size w w' := by
  have := wSub a b w ha hb
  rw [hc, m128_of hcc, decide_eq_false (by unfold In128 at hcc; omega)] at this; exact this
end Go.Proofs.Ytaaoadbcgnedkaa
