/-
  No cell of these rows narrows 'for every input' (looked for: loops, veiled, ifaces, maps, wideKeys, modest, calm, conditions, laid).
  DERIVED. THE GIVEN ROWS OF THIS SEAT. 9 by the template 'for every input the law returns true; each argument reads behind the call as it read before'; 0 by the template 'total and deterministic' (their statements: YtldahcfggeebgaaTotals.lean).
  GIVEN WITH THE SEED: the statements are not yours to turn. If you find one false, say at which input.
  Laid BY PROGRAM, IN A SANDBOX (cutbox-rows.mjs): the forced cells as the released guide's own fill.sh prints them over the translation 2096eaa58ae8c042… (all of the seat's roots in one cut). By AI agents, Wed Nov 11 2026. No macro, syntax, notation, axiom, sorry.
-/
import Derived.Test.YtldahcfggeebgaaChecked
import GoSem.Claim
import GoSem.ClaimJoined
import GoSem.ClaimMapViews
import Derived.JoinedTies
import Derived.KernelRfl
namespace Go.Proofs.Ytldahcfggeebgaa
/- THE CELL 'sum', in the pinned program and in every row, IS THE sha256 OF THE DUMP (.gsa) THAT YtldahcfggeebgaaProg.lean LOADS. Nothing in Lean hashes anything: it is a label: what it is worth is what the hold of that sum in a sandbox is worth. -/
noncomputable def Try.pinned : Pinned := { name := "ytldahcfggeebgaa", sum := "2096eaa58ae8c042f274666a6b7ff56595b5f26d2de80ddb820956c2f6ad0ee0", checked := Try.checked }
namespace Rows
def none {H : Type} : Left H := { results := [], args := [] }

/-- 'floodgatelaw47.MeterCalls': WHATEVER THE INPUT: true; the input reads as it did. -/
def meterCallsSpec : ChangeSpec := { name := "meterCalls", fn := fun _ => fun
  | [d1, d2, d3] => { results := [.lit (.bool true)], args := [d1, d2, d3] }
  | _ => none }
def meterCallsRow : OpenClaim := { program := "ytldahcfggeebgaa", sum := "2096eaa58ae8c042f274666a6b7ff56595b5f26d2de80ddb820956c2f6ad0ee0", func := "floodgate/floodgatelaw47.MeterCalls", spec := "meterCalls", apart := false }
def MeterCallsSaid : Prop := meterCallsRow.holds Try.pinned (OpenSpec.ofChange meterCallsSpec)

/-- ITS FALSE NEIGHBOUR: 'it returns false'. Refute it at one input. -/
def meterCallsWrong : ChangeSpec := { name := "meterCalls", fn := fun _ => fun
  | [d1, d2, d3] => { results := [.lit (.bool false)], args := [d1, d2, d3] }
  | _ => none }
def MeterCallsWrongFalsely : Prop := meterCallsRow.holds Try.pinned (OpenSpec.ofChange meterCallsWrong)

/-- 'floodgatelaw47.MeterMost': WHATEVER THE INPUT: true; the input reads as it did. -/
def meterMostSpec : ChangeSpec := { name := "meterMost", fn := fun _ => fun
  | [d1, d2, d3] => { results := [.lit (.bool true)], args := [d1, d2, d3] }
  | _ => none }
def meterMostRow : OpenClaim := { program := "ytldahcfggeebgaa", sum := "2096eaa58ae8c042f274666a6b7ff56595b5f26d2de80ddb820956c2f6ad0ee0", func := "floodgate/floodgatelaw47.MeterMost", spec := "meterMost", apart := false }
def MeterMostSaid : Prop := meterMostRow.holds Try.pinned (OpenSpec.ofChange meterMostSpec)

/-- ITS FALSE NEIGHBOUR: 'it returns false'. Refute it at one input. -/
def meterMostWrong : ChangeSpec := { name := "meterMost", fn := fun _ => fun
  | [d1, d2, d3] => { results := [.lit (.bool false)], args := [d1, d2, d3] }
  | _ => none }
def MeterMostWrongFalsely : Prop := meterMostRow.holds Try.pinned (OpenSpec.ofChange meterMostWrong)

/-- 'floodgatelaw47.MeterFades': WHATEVER THE INPUT: true; the input reads as it did. -/
def meterFadesSpec : ChangeSpec := { name := "meterFades", fn := fun _ => fun
  | [d1, d2, d3] => { results := [.lit (.bool true)], args := [d1, d2, d3] }
  | _ => none }
def meterFadesRow : OpenClaim := { program := "ytldahcfggeebgaa", sum := "2096eaa58ae8c042f274666a6b7ff56595b5f26d2de80ddb820956c2f6ad0ee0", func := "floodgate/floodgatelaw47.MeterFades", spec := "meterFades", apart := false }
def MeterFadesSaid : Prop := meterFadesRow.holds Try.pinned (OpenSpec.ofChange meterFadesSpec)

/-- ITS FALSE NEIGHBOUR: 'it returns false'. Refute it at one input. -/
def meterFadesWrong : ChangeSpec := { name := "meterFades", fn := fun _ => fun
  | [d1, d2, d3] => { results := [.lit (.bool false)], args := [d1, d2, d3] }
  | _ => none }
def MeterFadesWrongFalsely : Prop := meterFadesRow.holds Try.pinned (OpenSpec.ofChange meterFadesWrong)

/-- 'floodgatelaw47.MeterNil': WHATEVER THE INPUT: true; the input reads as it did. -/
def meterNilSpec : ChangeSpec := { name := "meterNil", fn := fun _ => fun
  | [d] => { results := [.lit (.bool true)], args := [d] }
  | _ => none }
def meterNilRow : OpenClaim := { program := "ytldahcfggeebgaa", sum := "2096eaa58ae8c042f274666a6b7ff56595b5f26d2de80ddb820956c2f6ad0ee0", func := "floodgate/floodgatelaw47.MeterNil", spec := "meterNil", apart := false }
def MeterNilSaid : Prop := meterNilRow.holds Try.pinned (OpenSpec.ofChange meterNilSpec)

/-- ITS FALSE NEIGHBOUR: 'it returns false'. Refute it at one input. -/
def meterNilWrong : ChangeSpec := { name := "meterNil", fn := fun _ => fun
  | [d] => { results := [.lit (.bool false)], args := [d] }
  | _ => none }
def MeterNilWrongFalsely : Prop := meterNilRow.holds Try.pinned (OpenSpec.ofChange meterNilWrong)

/-- 'floodgatelaw47.MeterOf': WHATEVER THE INPUT: true; the input reads as it did. -/
def meterOfSpec : ChangeSpec := { name := "meterOf", fn := fun _ => fun
  | [d1, d2, d3] => { results := [.lit (.bool true)], args := [d1, d2, d3] }
  | _ => none }
def meterOfRow : OpenClaim := { program := "ytldahcfggeebgaa", sum := "2096eaa58ae8c042f274666a6b7ff56595b5f26d2de80ddb820956c2f6ad0ee0", func := "floodgate/floodgatelaw47.MeterOf", spec := "meterOf", apart := false }
def MeterOfSaid : Prop := meterOfRow.holds Try.pinned (OpenSpec.ofChange meterOfSpec)

/-- ITS FALSE NEIGHBOUR: 'it returns false'. Refute it at one input. -/
def meterOfWrong : ChangeSpec := { name := "meterOf", fn := fun _ => fun
  | [d1, d2, d3] => { results := [.lit (.bool false)], args := [d1, d2, d3] }
  | _ => none }
def MeterOfWrongFalsely : Prop := meterOfRow.holds Try.pinned (OpenSpec.ofChange meterOfWrong)

/-- 'floodgatelaw44.Ipv4Sums': WHATEVER THE INPUT: true; the input reads as it did. -/
def ipv4SumsSpec : ChangeSpec := { name := "ipv4Sums", fn := fun _ => fun
  | [d1, d2] => { results := [.lit (.bool true)], args := [d1, d2] }
  | _ => none }
def ipv4SumsRow : OpenClaim := { program := "ytldahcfggeebgaa", sum := "2096eaa58ae8c042f274666a6b7ff56595b5f26d2de80ddb820956c2f6ad0ee0", func := "floodgate/floodgatelaw44.Ipv4Sums", spec := "ipv4Sums", inPlace := ["internal/abi.NoEscape", "internal/bytealg.MakeNoZero"], apart := false }
def Ipv4SumsSaid : Prop := ipv4SumsRow.holds Try.pinned (OpenSpec.ofChange ipv4SumsSpec)

/-- ITS FALSE NEIGHBOUR: 'it returns false'. Refute it at one input. -/
def ipv4SumsWrong : ChangeSpec := { name := "ipv4Sums", fn := fun _ => fun
  | [d1, d2] => { results := [.lit (.bool false)], args := [d1, d2] }
  | _ => none }
def Ipv4SumsWrongFalsely : Prop := ipv4SumsRow.holds Try.pinned (OpenSpec.ofChange ipv4SumsWrong)

/-- 'floodgatelaw44.Ipv4Encodes': WHATEVER THE INPUT: true; the input reads as it did. -/
def ipv4EncodesSpec : ChangeSpec := { name := "ipv4Encodes", fn := fun _ => fun
  | [d1, d2] => { results := [.lit (.bool true)], args := [d1, d2] }
  | _ => none }
def ipv4EncodesRow : OpenClaim := { program := "ytldahcfggeebgaa", sum := "2096eaa58ae8c042f274666a6b7ff56595b5f26d2de80ddb820956c2f6ad0ee0", func := "floodgate/floodgatelaw44.Ipv4Encodes", spec := "ipv4Encodes", inPlace := ["internal/abi.NoEscape", "internal/bytealg.MakeNoZero"], apart := false }
def Ipv4EncodesSaid : Prop := ipv4EncodesRow.holds Try.pinned (OpenSpec.ofChange ipv4EncodesSpec)

/-- ITS FALSE NEIGHBOUR: 'it returns false'. Refute it at one input. -/
def ipv4EncodesWrong : ChangeSpec := { name := "ipv4Encodes", fn := fun _ => fun
  | [d1, d2] => { results := [.lit (.bool false)], args := [d1, d2] }
  | _ => none }
def Ipv4EncodesWrongFalsely : Prop := ipv4EncodesRow.holds Try.pinned (OpenSpec.ofChange ipv4EncodesWrong)

/-- 'floodgatelaw44.Ipv4Decodes': WHATEVER THE INPUT: true; the input reads as it did. -/
def ipv4DecodesSpec : ChangeSpec := { name := "ipv4Decodes", fn := fun _ => fun
  | [d] => { results := [.lit (.bool true)], args := [d] }
  | _ => none }
def ipv4DecodesRow : OpenClaim := { program := "ytldahcfggeebgaa", sum := "2096eaa58ae8c042f274666a6b7ff56595b5f26d2de80ddb820956c2f6ad0ee0", func := "floodgate/floodgatelaw44.Ipv4Decodes", spec := "ipv4Decodes", inPlace := ["internal/abi.NoEscape", "internal/bytealg.MakeNoZero"], apart := false }
def Ipv4DecodesSaid : Prop := ipv4DecodesRow.holds Try.pinned (OpenSpec.ofChange ipv4DecodesSpec)

/-- ITS FALSE NEIGHBOUR: 'it returns false'. Refute it at one input. -/
def ipv4DecodesWrong : ChangeSpec := { name := "ipv4Decodes", fn := fun _ => fun
  | [d] => { results := [.lit (.bool false)], args := [d] }
  | _ => none }
def Ipv4DecodesWrongFalsely : Prop := ipv4DecodesRow.holds Try.pinned (OpenSpec.ofChange ipv4DecodesWrong)

/-- 'floodgatelaw44.Ipv4Turned': WHATEVER THE INPUT: true; the input reads as it did. -/
def ipv4TurnedSpec : ChangeSpec := { name := "ipv4Turned", fn := fun _ => fun
  | [d1, d2, d3] => { results := [.lit (.bool true)], args := [d1, d2, d3] }
  | _ => none }
def ipv4TurnedRow : OpenClaim := { program := "ytldahcfggeebgaa", sum := "2096eaa58ae8c042f274666a6b7ff56595b5f26d2de80ddb820956c2f6ad0ee0", func := "floodgate/floodgatelaw44.Ipv4Turned", spec := "ipv4Turned", inPlace := ["internal/abi.NoEscape", "internal/bytealg.MakeNoZero"], apart := false }
def Ipv4TurnedSaid : Prop := ipv4TurnedRow.holds Try.pinned (OpenSpec.ofChange ipv4TurnedSpec)

/-- ITS FALSE NEIGHBOUR: 'it returns false'. Refute it at one input. -/
def ipv4TurnedWrong : ChangeSpec := { name := "ipv4Turned", fn := fun _ => fun
  | [d1, d2, d3] => { results := [.lit (.bool false)], args := [d1, d2, d3] }
  | _ => none }
def Ipv4TurnedWrongFalsely : Prop := ipv4TurnedRow.holds Try.pinned (OpenSpec.ofChange ipv4TurnedWrong)

/- THE SECOND FORM. 'bulk': how many values and letters a reading holds, each counted each time it is reached (what is shared counts as often as it is met; a slice's spare places count too). A statement '..UptoSaid' is the law's where the arguments, and the package variables that the reading takes, are together of bulk at most 1048576: NARROWER than '..Said'. Prove '..Said' where nothing that the law and all that it calls make is longer than what came in: it says more and counts as full. Else prove '..UptoSaid'. A law counts once. -/
mutual
def uptoBulk {H : Type} : DataW H → Nat
  | .lit (.string bytes) => bytes.length + 1
  | .lit _ => 1
  | .nil => 1
  | .ptr d => uptoBulk d + 1
  | .slice elems spare => uptoBulkAll elems + uptoBulkAll spare + 1
  | .agg parts => uptoBulkAll parts + 1
  | .iface _ d => uptoBulk d + 1
  | .map entries => uptoBulkEntries entries + 1
  | .held _ => 1
def uptoBulkAll {H : Type} : List (DataW H) → Nat
  | [] => 0
  | d :: r => uptoBulk d + uptoBulkAll r
def uptoBulkEntries {H : Type} : List (Lit × DataW H) → Nat
  | [] => 0
  | x :: r => uptoBulkEntry x + uptoBulkEntries r
def uptoBulkEntry {H : Type} : Lit × DataW H → Nat
  | (.string bytes, d) => bytes.length + uptoBulk d + 1
  | (_, d) => uptoBulk d + 1
 end
def uptoSmall : (H : Type) → List (DataW H) → Bool := fun _ ds => decide (uptoBulkAll ds ≤ 1048576)
def OpenSpec.upto (s : _root_.Go.ChangeSpec) : _root_.Go.OpenSpec := { _root_.Go.OpenSpec.ofChange s with cond := some uptoSmall }

/-- 'floodgatelaw47.MeterCalls', WHERE WHAT IT READS IS OF BULK AT MOST 1048576: true; the input reads as it did. -/
def meterCallsUptoRow : OpenClaim := { program := "ytldahcfggeebgaa", sum := "2096eaa58ae8c042f274666a6b7ff56595b5f26d2de80ddb820956c2f6ad0ee0", func := "floodgate/floodgatelaw47.MeterCalls", spec := "meterCalls", apart := false, narrowed := true }
def MeterCallsUptoSaid : Prop := meterCallsUptoRow.holds Try.pinned (OpenSpec.upto meterCallsSpec)

/-- 'floodgatelaw47.MeterMost', WHERE WHAT IT READS IS OF BULK AT MOST 1048576: true; the input reads as it did. -/
def meterMostUptoRow : OpenClaim := { program := "ytldahcfggeebgaa", sum := "2096eaa58ae8c042f274666a6b7ff56595b5f26d2de80ddb820956c2f6ad0ee0", func := "floodgate/floodgatelaw47.MeterMost", spec := "meterMost", apart := false, narrowed := true }
def MeterMostUptoSaid : Prop := meterMostUptoRow.holds Try.pinned (OpenSpec.upto meterMostSpec)

/-- 'floodgatelaw47.MeterFades', WHERE WHAT IT READS IS OF BULK AT MOST 1048576: true; the input reads as it did. -/
def meterFadesUptoRow : OpenClaim := { program := "ytldahcfggeebgaa", sum := "2096eaa58ae8c042f274666a6b7ff56595b5f26d2de80ddb820956c2f6ad0ee0", func := "floodgate/floodgatelaw47.MeterFades", spec := "meterFades", apart := false, narrowed := true }
def MeterFadesUptoSaid : Prop := meterFadesUptoRow.holds Try.pinned (OpenSpec.upto meterFadesSpec)

/-- 'floodgatelaw47.MeterNil', WHERE WHAT IT READS IS OF BULK AT MOST 1048576: true; the input reads as it did. -/
def meterNilUptoRow : OpenClaim := { program := "ytldahcfggeebgaa", sum := "2096eaa58ae8c042f274666a6b7ff56595b5f26d2de80ddb820956c2f6ad0ee0", func := "floodgate/floodgatelaw47.MeterNil", spec := "meterNil", apart := false, narrowed := true }
def MeterNilUptoSaid : Prop := meterNilUptoRow.holds Try.pinned (OpenSpec.upto meterNilSpec)

/-- 'floodgatelaw47.MeterOf', WHERE WHAT IT READS IS OF BULK AT MOST 1048576: true; the input reads as it did. -/
def meterOfUptoRow : OpenClaim := { program := "ytldahcfggeebgaa", sum := "2096eaa58ae8c042f274666a6b7ff56595b5f26d2de80ddb820956c2f6ad0ee0", func := "floodgate/floodgatelaw47.MeterOf", spec := "meterOf", apart := false, narrowed := true }
def MeterOfUptoSaid : Prop := meterOfUptoRow.holds Try.pinned (OpenSpec.upto meterOfSpec)

/-- 'floodgatelaw44.Ipv4Sums', WHERE WHAT IT READS IS OF BULK AT MOST 1048576: true; the input reads as it did. -/
def ipv4SumsUptoRow : OpenClaim := { program := "ytldahcfggeebgaa", sum := "2096eaa58ae8c042f274666a6b7ff56595b5f26d2de80ddb820956c2f6ad0ee0", func := "floodgate/floodgatelaw44.Ipv4Sums", spec := "ipv4Sums", inPlace := ["internal/abi.NoEscape", "internal/bytealg.MakeNoZero"], apart := false, narrowed := true }
def Ipv4SumsUptoSaid : Prop := ipv4SumsUptoRow.holds Try.pinned (OpenSpec.upto ipv4SumsSpec)

/-- 'floodgatelaw44.Ipv4Encodes', WHERE WHAT IT READS IS OF BULK AT MOST 1048576: true; the input reads as it did. -/
def ipv4EncodesUptoRow : OpenClaim := { program := "ytldahcfggeebgaa", sum := "2096eaa58ae8c042f274666a6b7ff56595b5f26d2de80ddb820956c2f6ad0ee0", func := "floodgate/floodgatelaw44.Ipv4Encodes", spec := "ipv4Encodes", inPlace := ["internal/abi.NoEscape", "internal/bytealg.MakeNoZero"], apart := false, narrowed := true }
def Ipv4EncodesUptoSaid : Prop := ipv4EncodesUptoRow.holds Try.pinned (OpenSpec.upto ipv4EncodesSpec)

/-- 'floodgatelaw44.Ipv4Decodes', WHERE WHAT IT READS IS OF BULK AT MOST 1048576: true; the input reads as it did. -/
def ipv4DecodesUptoRow : OpenClaim := { program := "ytldahcfggeebgaa", sum := "2096eaa58ae8c042f274666a6b7ff56595b5f26d2de80ddb820956c2f6ad0ee0", func := "floodgate/floodgatelaw44.Ipv4Decodes", spec := "ipv4Decodes", inPlace := ["internal/abi.NoEscape", "internal/bytealg.MakeNoZero"], apart := false, narrowed := true }
def Ipv4DecodesUptoSaid : Prop := ipv4DecodesUptoRow.holds Try.pinned (OpenSpec.upto ipv4DecodesSpec)

/-- 'floodgatelaw44.Ipv4Turned', WHERE WHAT IT READS IS OF BULK AT MOST 1048576: true; the input reads as it did. -/
def ipv4TurnedUptoRow : OpenClaim := { program := "ytldahcfggeebgaa", sum := "2096eaa58ae8c042f274666a6b7ff56595b5f26d2de80ddb820956c2f6ad0ee0", func := "floodgate/floodgatelaw44.Ipv4Turned", spec := "ipv4Turned", inPlace := ["internal/abi.NoEscape", "internal/bytealg.MakeNoZero"], apart := false, narrowed := true }
def Ipv4TurnedUptoSaid : Prop := ipv4TurnedUptoRow.holds Try.pinned (OpenSpec.upto ipv4TurnedSpec)

end Rows
end Go.Proofs.Ytldahcfggeebgaa
