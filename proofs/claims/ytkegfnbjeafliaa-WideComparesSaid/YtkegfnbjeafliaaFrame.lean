/-
  What a statement's walk is told of a slice of numbers that came in. Conditions: none.
-/
import Derived.Test.YtkegfnbjeafliaaRows
import Derived.Test.YtkegfnbjeafliaaNum
import Derived.ProofKit
import Derived.OpenShut
import Derived.ShutString
import Derived.ChangeOld
import Derived.Lib.SmallJoins
namespace Go.Proofs.Ytkegfnbjeafliaa
open Go.RowKit
/-- A slice of integers that came in: nil, or a row of cap cells, the numbers zs; the first len are its elements. -/
def IsRow (k : IntKind) (w : World) (a : Option Addr) (len cap : Nat) (zs : List Int) : Prop :=
  (a = none ∧ len = 0 ∧ cap = 0 ∧ zs = []) ∨
  ∃ x, a = some x ∧ len ≤ cap ∧ cap ≤ maxLen ∧ zs.length = cap ∧ (∀ i, i < zs.length → w.cell? (x.add i) = some (.int k (zs.getD i 0))) ∧ ∀ n ∈ zs, (Lit.int k n).wf = true
end Go.Proofs.Ytkegfnbjeafliaa
