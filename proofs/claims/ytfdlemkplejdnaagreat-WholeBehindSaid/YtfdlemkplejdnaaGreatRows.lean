/-
  No cell of these rows narrows 'for every input' (looked for: loops, veiled, ifaces, maps, wideKeys, modest, calm, conditions, laid).
  DERIVED. THE GIVEN ROWS OF THIS SEAT. 3 by the template 'for every input the law returns true; each argument reads behind the call as it read before'; 0 by the template 'total and deterministic' (their statements: YtfdlemkplejdnaaGreatTotals.lean).
  GIVEN WITH THE SEED: the statements are not yours to turn. If you find one false, say at which input.
  Laid BY PROGRAM, IN A SANDBOX (cutbox-rows.mjs): the forced cells as the released guide's own fill.sh prints them over the translation b3830603110f6fe5… (all of the seat's roots in one cut). By AI agents, Wed Nov 11 2026. No macro, syntax, notation, axiom, sorry.
-/
import Derived.Test.YtfdlemkplejdnaaGreatChecked
import GoSem.Claim
import GoSem.ClaimJoined
import GoSem.ClaimMapViews
import Derived.JoinedTies
import Derived.KernelRfl
namespace Go.Proofs.YtfdlemkplejdnaaGreat
/- THE CELL 'sum', in the pinned program and in every row, IS THE sha256 OF THE DUMP (.gsa) THAT YtfdlemkplejdnaaGreatProg.lean LOADS. Nothing in Lean hashes anything: it is a label: what it is worth is what the hold of that sum in a sandbox is worth. -/
noncomputable def Tryz.pinned : Pinned := { name := "ytfdlemkplejdnaagreat", sum := "b3830603110f6fe5552a24d43140014df962538c777c6bec2cdc0a2d565e1a4e", checked := Tryz.checked }
namespace Rows
def none {H : Type} : Left H := { results := [], args := [] }

/-- 'floodgatetop.WholeLatest': WHATEVER THE INPUT: true; the input reads as it did. -/
def wholeLatestSpec : ChangeSpec := { name := "wholeLatest", fn := fun _ => fun
  | [d] => { results := [.lit (.bool true)], args := [d] }
  | _ => none }
def wholeLatestRow : OpenClaim := { program := "ytfdlemkplejdnaagreat", sum := "b3830603110f6fe5552a24d43140014df962538c777c6bec2cdc0a2d565e1a4e", func := "floodgate/floodgatetop.WholeLatest", spec := "wholeLatest", inPlace := ["maps.clone"], unfollowed := true, recurses := true, plainKeys := false, apart := false }
def WholeLatestSaid : Prop := wholeLatestRow.holds Tryz.pinned (OpenSpec.ofChange wholeLatestSpec)

/-- ITS FALSE NEIGHBOUR: 'it returns false'. Refute it at one input. -/
def wholeLatestWrong : ChangeSpec := { name := "wholeLatest", fn := fun _ => fun
  | [d] => { results := [.lit (.bool false)], args := [d] }
  | _ => none }
def WholeLatestWrongFalsely : Prop := wholeLatestRow.holds Tryz.pinned (OpenSpec.ofChange wholeLatestWrong)

/-- 'floodgatetop.WholeDelay': WHATEVER THE INPUT: true; the input reads as it did. -/
def wholeDelaySpec : ChangeSpec := { name := "wholeDelay", fn := fun _ => fun
  | [d] => { results := [.lit (.bool true)], args := [d] }
  | _ => none }
def wholeDelayRow : OpenClaim := { program := "ytfdlemkplejdnaagreat", sum := "b3830603110f6fe5552a24d43140014df962538c777c6bec2cdc0a2d565e1a4e", func := "floodgate/floodgatetop.WholeDelay", spec := "wholeDelay", inPlace := ["maps.clone"], unfollowed := true, recurses := true, plainKeys := false, apart := false }
def WholeDelaySaid : Prop := wholeDelayRow.holds Tryz.pinned (OpenSpec.ofChange wholeDelaySpec)

/-- ITS FALSE NEIGHBOUR: 'it returns false'. Refute it at one input. -/
def wholeDelayWrong : ChangeSpec := { name := "wholeDelay", fn := fun _ => fun
  | [d] => { results := [.lit (.bool false)], args := [d] }
  | _ => none }
def WholeDelayWrongFalsely : Prop := wholeDelayRow.holds Tryz.pinned (OpenSpec.ofChange wholeDelayWrong)

/-- 'floodgatetop.WholeBehind': WHATEVER THE INPUT: true; the input reads as it did. -/
def wholeBehindSpec : ChangeSpec := { name := "wholeBehind", fn := fun _ => fun
  | [d1, d2, d3] => { results := [.lit (.bool true)], args := [d1, d2, d3] }
  | _ => none }
def wholeBehindRow : OpenClaim := { program := "ytfdlemkplejdnaagreat", sum := "b3830603110f6fe5552a24d43140014df962538c777c6bec2cdc0a2d565e1a4e", func := "floodgate/floodgatetop.WholeBehind", spec := "wholeBehind", inPlace := ["maps.clone"], unfollowed := true, recurses := true, plainKeys := false, apart := false }
def WholeBehindSaid : Prop := wholeBehindRow.holds Tryz.pinned (OpenSpec.ofChange wholeBehindSpec)

/-- ITS FALSE NEIGHBOUR: 'it returns false'. Refute it at one input. -/
def wholeBehindWrong : ChangeSpec := { name := "wholeBehind", fn := fun _ => fun
  | [d1, d2, d3] => { results := [.lit (.bool false)], args := [d1, d2, d3] }
  | _ => none }
def WholeBehindWrongFalsely : Prop := wholeBehindRow.holds Tryz.pinned (OpenSpec.ofChange wholeBehindWrong)

/- THE SECOND FORM. 'bulk': how many values and letters a reading holds, each counted each time it is reached (what is shared counts as often as it is met; a slice's spare places count too). A statement '..UptoSaid' is the law's where the arguments, and the package variables that the reading takes, are together of bulk at most 1048576: NARROWER than '..Said'. Prove '..Said' where nothing that the law and all that it calls make is longer than what came in: it says more and counts as full. Else prove '..UptoSaid'. A law counts once. -/
mutual
def uptoBulk {H : Type} : DataW H → Nat
  | .lit (.string bytes) => bytes.length + 1
  | .lit _ => 1
  | .nil => 1
  | .ptr d => uptoBulk d + 1
  | .slice elems spare => uptoBulkAll elems + uptoBulkAll spare + 1
  | .agg parts => uptoBulkAll parts + 1
  | .iface _ d => uptoBulk d + 1
  | .map entries => uptoBulkEntries entries + 1
  | .held _ => 1
def uptoBulkAll {H : Type} : List (DataW H) → Nat
  | [] => 0
  | d :: r => uptoBulk d + uptoBulkAll r
def uptoBulkEntries {H : Type} : List (Lit × DataW H) → Nat
  | [] => 0
  | x :: r => uptoBulkEntry x + uptoBulkEntries r
def uptoBulkEntry {H : Type} : Lit × DataW H → Nat
  | (.string bytes, d) => bytes.length + uptoBulk d + 1
  | (_, d) => uptoBulk d + 1
 end
def uptoSmall : (H : Type) → List (DataW H) → Bool := fun _ ds => decide (uptoBulkAll ds ≤ 1048576)
def OpenSpec.upto (s : _root_.Go.ChangeSpec) : _root_.Go.OpenSpec := { _root_.Go.OpenSpec.ofChange s with cond := some uptoSmall }

/-- 'floodgatetop.WholeLatest', WHERE WHAT IT READS IS OF BULK AT MOST 1048576: true; the input reads as it did. -/
def wholeLatestUptoRow : OpenClaim := { program := "ytfdlemkplejdnaagreat", sum := "b3830603110f6fe5552a24d43140014df962538c777c6bec2cdc0a2d565e1a4e", func := "floodgate/floodgatetop.WholeLatest", spec := "wholeLatest", inPlace := ["maps.clone"], unfollowed := true, recurses := true, plainKeys := false, apart := false, narrowed := true }
def WholeLatestUptoSaid : Prop := wholeLatestUptoRow.holds Tryz.pinned (OpenSpec.upto wholeLatestSpec)

/-- 'floodgatetop.WholeDelay', WHERE WHAT IT READS IS OF BULK AT MOST 1048576: true; the input reads as it did. -/
def wholeDelayUptoRow : OpenClaim := { program := "ytfdlemkplejdnaagreat", sum := "b3830603110f6fe5552a24d43140014df962538c777c6bec2cdc0a2d565e1a4e", func := "floodgate/floodgatetop.WholeDelay", spec := "wholeDelay", inPlace := ["maps.clone"], unfollowed := true, recurses := true, plainKeys := false, apart := false, narrowed := true }
def WholeDelayUptoSaid : Prop := wholeDelayUptoRow.holds Tryz.pinned (OpenSpec.upto wholeDelaySpec)

/-- 'floodgatetop.WholeBehind', WHERE WHAT IT READS IS OF BULK AT MOST 1048576: true; the input reads as it did. -/
def wholeBehindUptoRow : OpenClaim := { program := "ytfdlemkplejdnaagreat", sum := "b3830603110f6fe5552a24d43140014df962538c777c6bec2cdc0a2d565e1a4e", func := "floodgate/floodgatetop.WholeBehind", spec := "wholeBehind", inPlace := ["maps.clone"], unfollowed := true, recurses := true, plainKeys := false, apart := false, narrowed := true }
def WholeBehindUptoSaid : Prop := wholeBehindUptoRow.holds Tryz.pinned (OpenSpec.upto wholeBehindSpec)

end Rows
end Go.Proofs.YtfdlemkplejdnaaGreat
