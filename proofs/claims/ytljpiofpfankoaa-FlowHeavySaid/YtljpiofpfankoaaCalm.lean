/-
  Regions whose operations read and whose calls lay blocks of their own: what a walk of them wants. Conditions: none.
-/
import Derived.Test.YtljpiofpfankoaaNum
import Derived.BigQuiet
import Derived.Lib.QuietBelow
namespace Go.Proofs.Ytljpiofpfankoaa
open Go.RowKit Go.Sort
set_option linter.unusedVariables false
set_option linter.unusedSimpArgs false
theorem blk_calm {v : World} {B : Nat} {cs : Array Value} {t : TypeId} (h : Blk v B cs t) (d : Nat) (os : Array Obj) (i : Nat) : (grow (redrawn v d) os).cell? ⟨B, i, none⟩ = cs[i]? :=
  ((below_regrown v d os).cell (p := ⟨B, i, none⟩) h.size).trans (h.cell i)
theorem calm_same {P : Program} {f : FuncId} {args : Array Value} {w : World} {d : Nat} {os : Array Obj} {v : Value}
    (h : Calls P f args (grow (redrawn w d) os) fun e w' => e = .returned v ∧ grow (redrawn w d) os = w') : Calls P f args (grow (redrawn w d) os) fun e w'' => e = .returned v ∧ ∃ p : Regrown, w'' = grow (redrawn w p.d) p.os :=
  h.mono fun _ _ ⟨he, hb⟩ => ⟨he, ⟨d, os⟩, hb.symm⟩
end Go.Proofs.Ytljpiofpfankoaa
