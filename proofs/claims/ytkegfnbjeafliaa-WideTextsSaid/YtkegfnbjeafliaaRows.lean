/-
  No cell of these rows narrows 'for every input' (looked for: loops, veiled, ifaces, maps, wideKeys, modest, calm, conditions, laid).
  DERIVED. THE GIVEN ROWS OF THIS SEAT. 11 by the template 'for every input the law returns true; each argument reads behind the call as it read before'; 0 by the template 'total and deterministic' (their statements: YtkegfnbjeafliaaTotals.lean).
  GIVEN WITH THE SEED: the statements are not yours to turn. If you find one false, say at which input.
  Laid BY PROGRAM, IN A SANDBOX (cutbox-rows.mjs): the forced cells as the released guide's own fill.sh prints them over the translation 77eb244fa8bf998a… (all of the seat's roots in one cut). By AI agents, Wed Nov 11 2026. No macro, syntax, notation, axiom, sorry.
-/
import Derived.Test.YtkegfnbjeafliaaChecked
import GoSem.Claim
import GoSem.ClaimJoined
import GoSem.ClaimMapViews
import Derived.JoinedTies
import Derived.KernelRfl
namespace Go.Proofs.Ytkegfnbjeafliaa
/- THE CELL 'sum', in the pinned program and in every row, IS THE sha256 OF THE DUMP (.gsa) THAT YtkegfnbjeafliaaProg.lean LOADS. Nothing in Lean hashes anything: it is a label: what it is worth is what the hold of that sum in a sandbox is worth. -/
noncomputable def Try.pinned : Pinned := { name := "ytkegfnbjeafliaa", sum := "77eb244fa8bf998a527bd0bc7ea124ef28970f68fd1caa029f9d33ba2c8599f9", checked := Try.checked }
namespace Rows
def none {H : Type} : Left H := { results := [], args := [] }

/-- 'floodgatelaw03.BoundMuls': WHATEVER THE INPUT: true; the input reads as it did. -/
def boundMulsSpec : ChangeSpec := { name := "boundMuls", fn := fun _ => fun
  | [d1, d2, d3] => { results := [.lit (.bool true)], args := [d1, d2, d3] }
  | _ => none }
def boundMulsRow : OpenClaim := { program := "ytkegfnbjeafliaa", sum := "77eb244fa8bf998a527bd0bc7ea124ef28970f68fd1caa029f9d33ba2c8599f9", func := "floodgate/floodgatelaw03.BoundMuls", spec := "boundMuls", apart := false }
def BoundMulsSaid : Prop := boundMulsRow.holds Try.pinned (OpenSpec.ofChange boundMulsSpec)

/-- ITS FALSE NEIGHBOUR: 'it returns false'. Refute it at one input. -/
def boundMulsWrong : ChangeSpec := { name := "boundMuls", fn := fun _ => fun
  | [d1, d2, d3] => { results := [.lit (.bool false)], args := [d1, d2, d3] }
  | _ => none }
def BoundMulsWrongFalsely : Prop := boundMulsRow.holds Try.pinned (OpenSpec.ofChange boundMulsWrong)

/-- 'floodgatelaw03.BoundLeast': WHATEVER THE INPUT: true; the input reads as it did. -/
def boundLeastSpec : ChangeSpec := { name := "boundLeast", fn := fun _ => fun
  | [d] => { results := [.lit (.bool true)], args := [d] }
  | _ => none }
def boundLeastRow : OpenClaim := { program := "ytkegfnbjeafliaa", sum := "77eb244fa8bf998a527bd0bc7ea124ef28970f68fd1caa029f9d33ba2c8599f9", func := "floodgate/floodgatelaw03.BoundLeast", spec := "boundLeast", apart := false }
def BoundLeastSaid : Prop := boundLeastRow.holds Try.pinned (OpenSpec.ofChange boundLeastSpec)

/-- ITS FALSE NEIGHBOUR: 'it returns false'. Refute it at one input. -/
def boundLeastWrong : ChangeSpec := { name := "boundLeast", fn := fun _ => fun
  | [d] => { results := [.lit (.bool false)], args := [d] }
  | _ => none }
def BoundLeastWrongFalsely : Prop := boundLeastRow.holds Try.pinned (OpenSpec.ofChange boundLeastWrong)

/-- 'floodgatelaw03.BoundAdds': WHATEVER THE INPUT: true; the input reads as it did. -/
def boundAddsSpec : ChangeSpec := { name := "boundAdds", fn := fun _ => fun
  | [d1, d2, d3] => { results := [.lit (.bool true)], args := [d1, d2, d3] }
  | _ => none }
def boundAddsRow : OpenClaim := { program := "ytkegfnbjeafliaa", sum := "77eb244fa8bf998a527bd0bc7ea124ef28970f68fd1caa029f9d33ba2c8599f9", func := "floodgate/floodgatelaw03.BoundAdds", spec := "boundAdds", apart := false }
def BoundAddsSaid : Prop := boundAddsRow.holds Try.pinned (OpenSpec.ofChange boundAddsSpec)

/-- ITS FALSE NEIGHBOUR: 'it returns false'. Refute it at one input. -/
def boundAddsWrong : ChangeSpec := { name := "boundAdds", fn := fun _ => fun
  | [d1, d2, d3] => { results := [.lit (.bool false)], args := [d1, d2, d3] }
  | _ => none }
def BoundAddsWrongFalsely : Prop := boundAddsRow.holds Try.pinned (OpenSpec.ofChange boundAddsWrong)

/-- 'floodgatelaw03.BoundSubs': WHATEVER THE INPUT: true; the input reads as it did. -/
def boundSubsSpec : ChangeSpec := { name := "boundSubs", fn := fun _ => fun
  | [d1, d2] => { results := [.lit (.bool true)], args := [d1, d2] }
  | _ => none }
def boundSubsRow : OpenClaim := { program := "ytkegfnbjeafliaa", sum := "77eb244fa8bf998a527bd0bc7ea124ef28970f68fd1caa029f9d33ba2c8599f9", func := "floodgate/floodgatelaw03.BoundSubs", spec := "boundSubs", apart := false }
def BoundSubsSaid : Prop := boundSubsRow.holds Try.pinned (OpenSpec.ofChange boundSubsSpec)

/-- ITS FALSE NEIGHBOUR: 'it returns false'. Refute it at one input. -/
def boundSubsWrong : ChangeSpec := { name := "boundSubs", fn := fun _ => fun
  | [d1, d2] => { results := [.lit (.bool false)], args := [d1, d2] }
  | _ => none }
def BoundSubsWrongFalsely : Prop := boundSubsRow.holds Try.pinned (OpenSpec.ofChange boundSubsWrong)

/-- 'floodgatelaw03.BoundClocks': WHATEVER THE INPUT: true; the input reads as it did. -/
def boundClocksSpec : ChangeSpec := { name := "boundClocks", fn := fun _ => fun
  | [d1, d2] => { results := [.lit (.bool true)], args := [d1, d2] }
  | _ => none }
def boundClocksRow : OpenClaim := { program := "ytkegfnbjeafliaa", sum := "77eb244fa8bf998a527bd0bc7ea124ef28970f68fd1caa029f9d33ba2c8599f9", func := "floodgate/floodgatelaw03.BoundClocks", spec := "boundClocks", apart := false }
def BoundClocksSaid : Prop := boundClocksRow.holds Try.pinned (OpenSpec.ofChange boundClocksSpec)

/-- ITS FALSE NEIGHBOUR: 'it returns false'. Refute it at one input. -/
def boundClocksWrong : ChangeSpec := { name := "boundClocks", fn := fun _ => fun
  | [d1, d2] => { results := [.lit (.bool false)], args := [d1, d2] }
  | _ => none }
def BoundClocksWrongFalsely : Prop := boundClocksRow.holds Try.pinned (OpenSpec.ofChange boundClocksWrong)

/-- 'floodgatelaw01.WideTexts': WHATEVER THE INPUT: true; the input reads as it did. -/
def wideTextsSpec : ChangeSpec := { name := "wideTexts", fn := fun _ => fun
  | [d] => { results := [.lit (.bool true)], args := [d] }
  | _ => none }
def wideTextsRow : OpenClaim := { program := "ytkegfnbjeafliaa", sum := "77eb244fa8bf998a527bd0bc7ea124ef28970f68fd1caa029f9d33ba2c8599f9", func := "floodgate/floodgatelaw01.WideTexts", spec := "wideTexts", apart := false }
def WideTextsSaid : Prop := wideTextsRow.holds Try.pinned (OpenSpec.ofChange wideTextsSpec)

/-- ITS FALSE NEIGHBOUR: 'it returns false'. Refute it at one input. -/
def wideTextsWrong : ChangeSpec := { name := "wideTexts", fn := fun _ => fun
  | [d] => { results := [.lit (.bool false)], args := [d] }
  | _ => none }
def WideTextsWrongFalsely : Prop := wideTextsRow.holds Try.pinned (OpenSpec.ofChange wideTextsWrong)

/-- 'floodgatelaw01.WideOf': WHATEVER THE INPUT: true; the input reads as it did. -/
def wideOfSpec : ChangeSpec := { name := "wideOf", fn := fun _ => fun
  | [d1, d2] => { results := [.lit (.bool true)], args := [d1, d2] }
  | _ => none }
def wideOfRow : OpenClaim := { program := "ytkegfnbjeafliaa", sum := "77eb244fa8bf998a527bd0bc7ea124ef28970f68fd1caa029f9d33ba2c8599f9", func := "floodgate/floodgatelaw01.WideOf", spec := "wideOf", apart := false }
def WideOfSaid : Prop := wideOfRow.holds Try.pinned (OpenSpec.ofChange wideOfSpec)

/-- ITS FALSE NEIGHBOUR: 'it returns false'. Refute it at one input. -/
def wideOfWrong : ChangeSpec := { name := "wideOf", fn := fun _ => fun
  | [d1, d2] => { results := [.lit (.bool false)], args := [d1, d2] }
  | _ => none }
def WideOfWrongFalsely : Prop := wideOfRow.holds Try.pinned (OpenSpec.ofChange wideOfWrong)

/-- 'floodgatelaw01.WideCompares': WHATEVER THE INPUT: true; the input reads as it did. -/
def wideComparesSpec : ChangeSpec := { name := "wideCompares", fn := fun _ => fun
  | [d1, d2, d3] => { results := [.lit (.bool true)], args := [d1, d2, d3] }
  | _ => none }
def wideComparesRow : OpenClaim := { program := "ytkegfnbjeafliaa", sum := "77eb244fa8bf998a527bd0bc7ea124ef28970f68fd1caa029f9d33ba2c8599f9", func := "floodgate/floodgatelaw01.WideCompares", spec := "wideCompares", apart := false }
def WideComparesSaid : Prop := wideComparesRow.holds Try.pinned (OpenSpec.ofChange wideComparesSpec)

/-- ITS FALSE NEIGHBOUR: 'it returns false'. Refute it at one input. -/
def wideComparesWrong : ChangeSpec := { name := "wideCompares", fn := fun _ => fun
  | [d1, d2, d3] => { results := [.lit (.bool false)], args := [d1, d2, d3] }
  | _ => none }
def WideComparesWrongFalsely : Prop := wideComparesRow.holds Try.pinned (OpenSpec.ofChange wideComparesWrong)

/-- 'floodgatelaw01.WideMuls': WHATEVER THE INPUT: true; the input reads as it did. -/
def wideMulsSpec : ChangeSpec := { name := "wideMuls", fn := fun _ => fun
  | [d1, d2] => { results := [.lit (.bool true)], args := [d1, d2] }
  | _ => none }
def wideMulsRow : OpenClaim := { program := "ytkegfnbjeafliaa", sum := "77eb244fa8bf998a527bd0bc7ea124ef28970f68fd1caa029f9d33ba2c8599f9", func := "floodgate/floodgatelaw01.WideMuls", spec := "wideMuls", apart := false }
def WideMulsSaid : Prop := wideMulsRow.holds Try.pinned (OpenSpec.ofChange wideMulsSpec)

/-- ITS FALSE NEIGHBOUR: 'it returns false'. Refute it at one input. -/
def wideMulsWrong : ChangeSpec := { name := "wideMuls", fn := fun _ => fun
  | [d1, d2] => { results := [.lit (.bool false)], args := [d1, d2] }
  | _ => none }
def WideMulsWrongFalsely : Prop := wideMulsRow.holds Try.pinned (OpenSpec.ofChange wideMulsWrong)

/-- 'floodgatelaw01.WideDivs': WHATEVER THE INPUT: true; the input reads as it did. -/
def wideDivsSpec : ChangeSpec := { name := "wideDivs", fn := fun _ => fun
  | [d1, d2] => { results := [.lit (.bool true)], args := [d1, d2] }
  | _ => none }
def wideDivsRow : OpenClaim := { program := "ytkegfnbjeafliaa", sum := "77eb244fa8bf998a527bd0bc7ea124ef28970f68fd1caa029f9d33ba2c8599f9", func := "floodgate/floodgatelaw01.WideDivs", spec := "wideDivs", apart := false }
def WideDivsSaid : Prop := wideDivsRow.holds Try.pinned (OpenSpec.ofChange wideDivsSpec)

/-- ITS FALSE NEIGHBOUR: 'it returns false'. Refute it at one input. -/
def wideDivsWrong : ChangeSpec := { name := "wideDivs", fn := fun _ => fun
  | [d1, d2] => { results := [.lit (.bool false)], args := [d1, d2] }
  | _ => none }
def WideDivsWrongFalsely : Prop := wideDivsRow.holds Try.pinned (OpenSpec.ofChange wideDivsWrong)

/-- 'floodgatelaw01.WideAdds': WHATEVER THE INPUT: true; the input reads as it did. -/
def wideAddsSpec : ChangeSpec := { name := "wideAdds", fn := fun _ => fun
  | [d1, d2] => { results := [.lit (.bool true)], args := [d1, d2] }
  | _ => none }
def wideAddsRow : OpenClaim := { program := "ytkegfnbjeafliaa", sum := "77eb244fa8bf998a527bd0bc7ea124ef28970f68fd1caa029f9d33ba2c8599f9", func := "floodgate/floodgatelaw01.WideAdds", spec := "wideAdds", apart := false }
def WideAddsSaid : Prop := wideAddsRow.holds Try.pinned (OpenSpec.ofChange wideAddsSpec)

/-- ITS FALSE NEIGHBOUR: 'it returns false'. Refute it at one input. -/
def wideAddsWrong : ChangeSpec := { name := "wideAdds", fn := fun _ => fun
  | [d1, d2] => { results := [.lit (.bool false)], args := [d1, d2] }
  | _ => none }
def WideAddsWrongFalsely : Prop := wideAddsRow.holds Try.pinned (OpenSpec.ofChange wideAddsWrong)

/- THE SECOND FORM. 'bulk': how many values and letters a reading holds, each counted each time it is reached (what is shared counts as often as it is met; a slice's spare places count too). A statement '..UptoSaid' is the law's where the arguments, and the package variables that the reading takes, are together of bulk at most 1048576: NARROWER than '..Said'. Prove '..Said' where nothing that the law and all that it calls make is longer than what came in: it says more and counts as full. Else prove '..UptoSaid'. A law counts once. -/
mutual
def uptoBulk {H : Type} : DataW H → Nat
  | .lit (.string bytes) => bytes.length + 1
  | .lit _ => 1
  | .nil => 1
  | .ptr d => uptoBulk d + 1
  | .slice elems spare => uptoBulkAll elems + uptoBulkAll spare + 1
  | .agg parts => uptoBulkAll parts + 1
  | .iface _ d => uptoBulk d + 1
  | .map entries => uptoBulkEntries entries + 1
  | .held _ => 1
def uptoBulkAll {H : Type} : List (DataW H) → Nat
  | [] => 0
  | d :: r => uptoBulk d + uptoBulkAll r
def uptoBulkEntries {H : Type} : List (Lit × DataW H) → Nat
  | [] => 0
  | x :: r => uptoBulkEntry x + uptoBulkEntries r
def uptoBulkEntry {H : Type} : Lit × DataW H → Nat
  | (.string bytes, d) => bytes.length + uptoBulk d + 1
  | (_, d) => uptoBulk d + 1
 end
def uptoSmall : (H : Type) → List (DataW H) → Bool := fun _ ds => decide (uptoBulkAll ds ≤ 1048576)
def OpenSpec.upto (s : _root_.Go.ChangeSpec) : _root_.Go.OpenSpec := { _root_.Go.OpenSpec.ofChange s with cond := some uptoSmall }

/-- 'floodgatelaw03.BoundMuls', WHERE WHAT IT READS IS OF BULK AT MOST 1048576: true; the input reads as it did. -/
def boundMulsUptoRow : OpenClaim := { program := "ytkegfnbjeafliaa", sum := "77eb244fa8bf998a527bd0bc7ea124ef28970f68fd1caa029f9d33ba2c8599f9", func := "floodgate/floodgatelaw03.BoundMuls", spec := "boundMuls", apart := false, narrowed := true }
def BoundMulsUptoSaid : Prop := boundMulsUptoRow.holds Try.pinned (OpenSpec.upto boundMulsSpec)

/-- 'floodgatelaw03.BoundLeast', WHERE WHAT IT READS IS OF BULK AT MOST 1048576: true; the input reads as it did. -/
def boundLeastUptoRow : OpenClaim := { program := "ytkegfnbjeafliaa", sum := "77eb244fa8bf998a527bd0bc7ea124ef28970f68fd1caa029f9d33ba2c8599f9", func := "floodgate/floodgatelaw03.BoundLeast", spec := "boundLeast", apart := false, narrowed := true }
def BoundLeastUptoSaid : Prop := boundLeastUptoRow.holds Try.pinned (OpenSpec.upto boundLeastSpec)

/-- 'floodgatelaw03.BoundAdds', WHERE WHAT IT READS IS OF BULK AT MOST 1048576: true; the input reads as it did. -/
def boundAddsUptoRow : OpenClaim := { program := "ytkegfnbjeafliaa", sum := "77eb244fa8bf998a527bd0bc7ea124ef28970f68fd1caa029f9d33ba2c8599f9", func := "floodgate/floodgatelaw03.BoundAdds", spec := "boundAdds", apart := false, narrowed := true }
def BoundAddsUptoSaid : Prop := boundAddsUptoRow.holds Try.pinned (OpenSpec.upto boundAddsSpec)

/-- 'floodgatelaw03.BoundSubs', WHERE WHAT IT READS IS OF BULK AT MOST 1048576: true; the input reads as it did. -/
def boundSubsUptoRow : OpenClaim := { program := "ytkegfnbjeafliaa", sum := "77eb244fa8bf998a527bd0bc7ea124ef28970f68fd1caa029f9d33ba2c8599f9", func := "floodgate/floodgatelaw03.BoundSubs", spec := "boundSubs", apart := false, narrowed := true }
def BoundSubsUptoSaid : Prop := boundSubsUptoRow.holds Try.pinned (OpenSpec.upto boundSubsSpec)

/-- 'floodgatelaw03.BoundClocks', WHERE WHAT IT READS IS OF BULK AT MOST 1048576: true; the input reads as it did. -/
def boundClocksUptoRow : OpenClaim := { program := "ytkegfnbjeafliaa", sum := "77eb244fa8bf998a527bd0bc7ea124ef28970f68fd1caa029f9d33ba2c8599f9", func := "floodgate/floodgatelaw03.BoundClocks", spec := "boundClocks", apart := false, narrowed := true }
def BoundClocksUptoSaid : Prop := boundClocksUptoRow.holds Try.pinned (OpenSpec.upto boundClocksSpec)

/-- 'floodgatelaw01.WideTexts', WHERE WHAT IT READS IS OF BULK AT MOST 1048576: true; the input reads as it did. -/
def wideTextsUptoRow : OpenClaim := { program := "ytkegfnbjeafliaa", sum := "77eb244fa8bf998a527bd0bc7ea124ef28970f68fd1caa029f9d33ba2c8599f9", func := "floodgate/floodgatelaw01.WideTexts", spec := "wideTexts", apart := false, narrowed := true }
def WideTextsUptoSaid : Prop := wideTextsUptoRow.holds Try.pinned (OpenSpec.upto wideTextsSpec)

/-- 'floodgatelaw01.WideOf', WHERE WHAT IT READS IS OF BULK AT MOST 1048576: true; the input reads as it did. -/
def wideOfUptoRow : OpenClaim := { program := "ytkegfnbjeafliaa", sum := "77eb244fa8bf998a527bd0bc7ea124ef28970f68fd1caa029f9d33ba2c8599f9", func := "floodgate/floodgatelaw01.WideOf", spec := "wideOf", apart := false, narrowed := true }
def WideOfUptoSaid : Prop := wideOfUptoRow.holds Try.pinned (OpenSpec.upto wideOfSpec)

/-- 'floodgatelaw01.WideCompares', WHERE WHAT IT READS IS OF BULK AT MOST 1048576: true; the input reads as it did. -/
def wideComparesUptoRow : OpenClaim := { program := "ytkegfnbjeafliaa", sum := "77eb244fa8bf998a527bd0bc7ea124ef28970f68fd1caa029f9d33ba2c8599f9", func := "floodgate/floodgatelaw01.WideCompares", spec := "wideCompares", apart := false, narrowed := true }
def WideComparesUptoSaid : Prop := wideComparesUptoRow.holds Try.pinned (OpenSpec.upto wideComparesSpec)

/-- 'floodgatelaw01.WideMuls', WHERE WHAT IT READS IS OF BULK AT MOST 1048576: true; the input reads as it did. -/
def wideMulsUptoRow : OpenClaim := { program := "ytkegfnbjeafliaa", sum := "77eb244fa8bf998a527bd0bc7ea124ef28970f68fd1caa029f9d33ba2c8599f9", func := "floodgate/floodgatelaw01.WideMuls", spec := "wideMuls", apart := false, narrowed := true }
def WideMulsUptoSaid : Prop := wideMulsUptoRow.holds Try.pinned (OpenSpec.upto wideMulsSpec)

/-- 'floodgatelaw01.WideDivs', WHERE WHAT IT READS IS OF BULK AT MOST 1048576: true; the input reads as it did. -/
def wideDivsUptoRow : OpenClaim := { program := "ytkegfnbjeafliaa", sum := "77eb244fa8bf998a527bd0bc7ea124ef28970f68fd1caa029f9d33ba2c8599f9", func := "floodgate/floodgatelaw01.WideDivs", spec := "wideDivs", apart := false, narrowed := true }
def WideDivsUptoSaid : Prop := wideDivsUptoRow.holds Try.pinned (OpenSpec.upto wideDivsSpec)

/-- 'floodgatelaw01.WideAdds', WHERE WHAT IT READS IS OF BULK AT MOST 1048576: true; the input reads as it did. -/
def wideAddsUptoRow : OpenClaim := { program := "ytkegfnbjeafliaa", sum := "77eb244fa8bf998a527bd0bc7ea124ef28970f68fd1caa029f9d33ba2c8599f9", func := "floodgate/floodgatelaw01.WideAdds", spec := "wideAdds", apart := false, narrowed := true }
def WideAddsUptoSaid : Prop := wideAddsUptoRow.holds Try.pinned (OpenSpec.upto wideAddsSpec)

end Rows
end Go.Proofs.Ytkegfnbjeafliaa
