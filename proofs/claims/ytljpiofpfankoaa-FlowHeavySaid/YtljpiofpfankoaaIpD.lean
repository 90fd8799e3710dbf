/-
  The walks of the reference's Wrong and Encode. Conditions: fields in range.
-/
import Derived.Test.YtljpiofpfankoaaIpC
namespace Go.Proofs.Ytljpiofpfankoaa
open Go.RowKit Go.Sort
set_option linter.unusedVariables false
set_option linter.unusedSimpArgs false
end Go.Proofs.Ytljpiofpfankoaa
