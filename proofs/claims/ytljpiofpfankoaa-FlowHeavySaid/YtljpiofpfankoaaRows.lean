/-
  No cell of these rows narrows 'for every input' (looked for: loops, veiled, ifaces, maps, wideKeys, modest, calm, conditions, laid).
  DERIVED. THE GIVEN ROWS OF THIS SEAT. 9 by the template 'for every input the law returns true; each argument reads behind the call as it read before'; 0 by the template 'total and deterministic' (their statements: YtljpiofpfankoaaTotals.lean).
  GIVEN WITH THE SEED: the statements are not yours to turn. If you find one false, say at which input.
  Laid BY PROGRAM, IN A SANDBOX (cutbox-rows.mjs): the forced cells as the released guide's own fill.sh prints them over the translation 63bf064a1fda6eb8… (all of the seat's roots in one cut). By AI agents, Wed Nov 11 2026. No macro, syntax, notation, axiom, sorry.
-/
import Derived.Test.YtljpiofpfankoaaChecked
import GoSem.Claim
import GoSem.ClaimJoined
import GoSem.ClaimMapViews
import Derived.JoinedTies
import Derived.KernelRfl
namespace Go.Proofs.Ytljpiofpfankoaa
/- THE CELL 'sum', in the pinned program and in every row, IS THE sha256 OF THE DUMP (.gsa) THAT YtljpiofpfankoaaProg.lean LOADS. Nothing in Lean hashes anything: it is a label: what it is worth is what the hold of that sum in a sandbox is worth. -/
noncomputable def Try.pinned : Pinned := { name := "ytljpiofpfankoaa", sum := "63bf064a1fda6eb8135f766a7890c6b2b93246a1e59b3e845eddb3997b2624c6", checked := Try.checked }
namespace Rows
def none {H : Type} : Left H := { results := [], args := [] }

/-- 'floodgatelaw46.CaptureEncodes': WHATEVER THE INPUT: true; the input reads as it did. -/
def captureEncodesSpec : ChangeSpec := { name := "captureEncodes", fn := fun _ => fun
  | [d] => { results := [.lit (.bool true)], args := [d] }
  | _ => none }
def captureEncodesRow : OpenClaim := { program := "ytljpiofpfankoaa", sum := "63bf064a1fda6eb8135f766a7890c6b2b93246a1e59b3e845eddb3997b2624c6", func := "floodgate/floodgatelaw46.CaptureEncodes", spec := "captureEncodes", plainKeys := false, apart := false }
def CaptureEncodesSaid : Prop := captureEncodesRow.holds Try.pinned (OpenSpec.ofChange captureEncodesSpec)

/-- ITS FALSE NEIGHBOUR: 'it returns false'. Refute it at one input. -/
def captureEncodesWrong : ChangeSpec := { name := "captureEncodes", fn := fun _ => fun
  | [d] => { results := [.lit (.bool false)], args := [d] }
  | _ => none }
def CaptureEncodesWrongFalsely : Prop := captureEncodesRow.holds Try.pinned (OpenSpec.ofChange captureEncodesWrong)

/-- 'floodgatelaw46.CaptureDecodes': WHATEVER THE INPUT: true; the input reads as it did. -/
def captureDecodesSpec : ChangeSpec := { name := "captureDecodes", fn := fun _ => fun
  | [d] => { results := [.lit (.bool true)], args := [d] }
  | _ => none }
def captureDecodesRow : OpenClaim := { program := "ytljpiofpfankoaa", sum := "63bf064a1fda6eb8135f766a7890c6b2b93246a1e59b3e845eddb3997b2624c6", func := "floodgate/floodgatelaw46.CaptureDecodes", spec := "captureDecodes", plainKeys := false, apart := false }
def CaptureDecodesSaid : Prop := captureDecodesRow.holds Try.pinned (OpenSpec.ofChange captureDecodesSpec)

/-- ITS FALSE NEIGHBOUR: 'it returns false'. Refute it at one input. -/
def captureDecodesWrong : ChangeSpec := { name := "captureDecodes", fn := fun _ => fun
  | [d] => { results := [.lit (.bool false)], args := [d] }
  | _ => none }
def CaptureDecodesWrongFalsely : Prop := captureDecodesRow.holds Try.pinned (OpenSpec.ofChange captureDecodesWrong)

/-- 'floodgatelaw46.CaptureOps': WHATEVER THE INPUT: true; the input reads as it did. -/
def captureOpsSpec : ChangeSpec := { name := "captureOps", fn := fun _ => fun
  | [d1, d2] => { results := [.lit (.bool true)], args := [d1, d2] }
  | _ => none }
def captureOpsRow : OpenClaim := { program := "ytljpiofpfankoaa", sum := "63bf064a1fda6eb8135f766a7890c6b2b93246a1e59b3e845eddb3997b2624c6", func := "floodgate/floodgatelaw46.CaptureOps", spec := "captureOps", plainKeys := false, apart := false }
def CaptureOpsSaid : Prop := captureOpsRow.holds Try.pinned (OpenSpec.ofChange captureOpsSpec)

/-- ITS FALSE NEIGHBOUR: 'it returns false'. Refute it at one input. -/
def captureOpsWrong : ChangeSpec := { name := "captureOps", fn := fun _ => fun
  | [d1, d2] => { results := [.lit (.bool false)], args := [d1, d2] }
  | _ => none }
def CaptureOpsWrongFalsely : Prop := captureOpsRow.holds Try.pinned (OpenSpec.ofChange captureOpsWrong)

/-- 'floodgatelaw46.CaptureSent': WHATEVER THE INPUT: true; the input reads as it did. -/
def captureSentSpec : ChangeSpec := { name := "captureSent", fn := fun _ => fun
  | [d1, d2] => { results := [.lit (.bool true)], args := [d1, d2] }
  | _ => none }
def captureSentRow : OpenClaim := { program := "ytljpiofpfankoaa", sum := "63bf064a1fda6eb8135f766a7890c6b2b93246a1e59b3e845eddb3997b2624c6", func := "floodgate/floodgatelaw46.CaptureSent", spec := "captureSent", plainKeys := false, apart := false }
def CaptureSentSaid : Prop := captureSentRow.holds Try.pinned (OpenSpec.ofChange captureSentSpec)

/-- ITS FALSE NEIGHBOUR: 'it returns false'. Refute it at one input. -/
def captureSentWrong : ChangeSpec := { name := "captureSent", fn := fun _ => fun
  | [d1, d2] => { results := [.lit (.bool false)], args := [d1, d2] }
  | _ => none }
def CaptureSentWrongFalsely : Prop := captureSentRow.holds Try.pinned (OpenSpec.ofChange captureSentWrong)

/-- 'floodgatelaw45.FlowKeys': WHATEVER THE INPUT: true; the input reads as it did. -/
def flowKeysSpec : ChangeSpec := { name := "flowKeys", fn := fun _ => fun
  | [d1, d2, d3] => { results := [.lit (.bool true)], args := [d1, d2, d3] }
  | _ => none }
def flowKeysRow : OpenClaim := { program := "ytljpiofpfankoaa", sum := "63bf064a1fda6eb8135f766a7890c6b2b93246a1e59b3e845eddb3997b2624c6", func := "floodgate/floodgatelaw45.FlowKeys", spec := "flowKeys", inPlace := ["internal/abi.NoEscape", "internal/bytealg.MakeNoZero"], plainKeys := false, apart := false }
def FlowKeysSaid : Prop := flowKeysRow.holds Try.pinned (OpenSpec.ofChange flowKeysSpec)

/-- ITS FALSE NEIGHBOUR: 'it returns false'. Refute it at one input. -/
def flowKeysWrong : ChangeSpec := { name := "flowKeys", fn := fun _ => fun
  | [d1, d2, d3] => { results := [.lit (.bool false)], args := [d1, d2, d3] }
  | _ => none }
def FlowKeysWrongFalsely : Prop := flowKeysRow.holds Try.pinned (OpenSpec.ofChange flowKeysWrong)

/-- 'floodgatelaw45.FlowBack': WHATEVER THE INPUT: true; the input reads as it did. -/
def flowBackSpec : ChangeSpec := { name := "flowBack", fn := fun _ => fun
  | [d1, d2, d3] => { results := [.lit (.bool true)], args := [d1, d2, d3] }
  | _ => none }
def flowBackRow : OpenClaim := { program := "ytljpiofpfankoaa", sum := "63bf064a1fda6eb8135f766a7890c6b2b93246a1e59b3e845eddb3997b2624c6", func := "floodgate/floodgatelaw45.FlowBack", spec := "flowBack", inPlace := ["internal/abi.NoEscape", "internal/bytealg.MakeNoZero"], plainKeys := false, apart := false }
def FlowBackSaid : Prop := flowBackRow.holds Try.pinned (OpenSpec.ofChange flowBackSpec)

/-- ITS FALSE NEIGHBOUR: 'it returns false'. Refute it at one input. -/
def flowBackWrong : ChangeSpec := { name := "flowBack", fn := fun _ => fun
  | [d1, d2, d3] => { results := [.lit (.bool false)], args := [d1, d2, d3] }
  | _ => none }
def FlowBackWrongFalsely : Prop := flowBackRow.holds Try.pinned (OpenSpec.ofChange flowBackWrong)

/-- 'floodgatelaw45.FlowCounts': WHATEVER THE INPUT: true; the input reads as it did. -/
def flowCountsSpec : ChangeSpec := { name := "flowCounts", fn := fun _ => fun
  | [d1, d2, d3] => { results := [.lit (.bool true)], args := [d1, d2, d3] }
  | _ => none }
def flowCountsRow : OpenClaim := { program := "ytljpiofpfankoaa", sum := "63bf064a1fda6eb8135f766a7890c6b2b93246a1e59b3e845eddb3997b2624c6", func := "floodgate/floodgatelaw45.FlowCounts", spec := "flowCounts", inPlace := ["internal/abi.NoEscape", "internal/bytealg.MakeNoZero"], unfollowed := true, recurses := true, plainKeys := false, apart := false }
def FlowCountsSaid : Prop := flowCountsRow.holds Try.pinned (OpenSpec.ofChange flowCountsSpec)

/-- ITS FALSE NEIGHBOUR: 'it returns false'. Refute it at one input. -/
def flowCountsWrong : ChangeSpec := { name := "flowCounts", fn := fun _ => fun
  | [d1, d2, d3] => { results := [.lit (.bool false)], args := [d1, d2, d3] }
  | _ => none }
def FlowCountsWrongFalsely : Prop := flowCountsRow.holds Try.pinned (OpenSpec.ofChange flowCountsWrong)

/-- 'floodgatelaw45.FlowHeavy': WHATEVER THE INPUT: true; the input reads as it did. -/
def flowHeavySpec : ChangeSpec := { name := "flowHeavy", fn := fun _ => fun
  | [d1, d2] => { results := [.lit (.bool true)], args := [d1, d2] }
  | _ => none }
def flowHeavyRow : OpenClaim := { program := "ytljpiofpfankoaa", sum := "63bf064a1fda6eb8135f766a7890c6b2b93246a1e59b3e845eddb3997b2624c6", func := "floodgate/floodgatelaw45.FlowHeavy", spec := "flowHeavy", inPlace := ["internal/abi.NoEscape", "internal/bytealg.MakeNoZero"], unfollowed := true, recurses := true, plainKeys := false, apart := false }
def FlowHeavySaid : Prop := flowHeavyRow.holds Try.pinned (OpenSpec.ofChange flowHeavySpec)

/-- ITS FALSE NEIGHBOUR: 'it returns false'. Refute it at one input. -/
def flowHeavyWrong : ChangeSpec := { name := "flowHeavy", fn := fun _ => fun
  | [d1, d2] => { results := [.lit (.bool false)], args := [d1, d2] }
  | _ => none }
def FlowHeavyWrongFalsely : Prop := flowHeavyRow.holds Try.pinned (OpenSpec.ofChange flowHeavyWrong)

/-- 'floodgatelaw45.FlowNil': WHATEVER THE INPUT: true; the input reads as it did. -/
def flowNilSpec : ChangeSpec := { name := "flowNil", fn := fun _ => fun
  | [d1, d2] => { results := [.lit (.bool true)], args := [d1, d2] }
  | _ => none }
def flowNilRow : OpenClaim := { program := "ytljpiofpfankoaa", sum := "63bf064a1fda6eb8135f766a7890c6b2b93246a1e59b3e845eddb3997b2624c6", func := "floodgate/floodgatelaw45.FlowNil", spec := "flowNil", inPlace := ["internal/abi.NoEscape", "internal/bytealg.MakeNoZero"], unfollowed := true, recurses := true, plainKeys := false, apart := false }
def FlowNilSaid : Prop := flowNilRow.holds Try.pinned (OpenSpec.ofChange flowNilSpec)

/-- ITS FALSE NEIGHBOUR: 'it returns false'. Refute it at one input. -/
def flowNilWrong : ChangeSpec := { name := "flowNil", fn := fun _ => fun
  | [d1, d2] => { results := [.lit (.bool false)], args := [d1, d2] }
  | _ => none }
def FlowNilWrongFalsely : Prop := flowNilRow.holds Try.pinned (OpenSpec.ofChange flowNilWrong)

/- THE SECOND FORM. 'bulk': how many values and letters a reading holds, each counted each time it is reached (what is shared counts as often as it is met; a slice's spare places count too). A statement '..UptoSaid' is the law's where the arguments, and the package variables that the reading takes, are together of bulk at most 1048576: NARROWER than '..Said'. Prove '..Said' where nothing that the law and all that it calls make is longer than what came in: it says more and counts as full. Else prove '..UptoSaid'. A law counts once. -/
mutual
def uptoBulk {H : Type} : DataW H → Nat
  | .lit (.string bytes) => bytes.length + 1
  | .lit _ => 1
  | .nil => 1
  | .ptr d => uptoBulk d + 1
  | .slice elems spare => uptoBulkAll elems + uptoBulkAll spare + 1
  | .agg parts => uptoBulkAll parts + 1
  | .iface _ d => uptoBulk d + 1
  | .map entries => uptoBulkEntries entries + 1
  | .held _ => 1
def uptoBulkAll {H : Type} : List (DataW H) → Nat
  | [] => 0
  | d :: r => uptoBulk d + uptoBulkAll r
def uptoBulkEntries {H : Type} : List (Lit × DataW H) → Nat
  | [] => 0
  | x :: r => uptoBulkEntry x + uptoBulkEntries r
def uptoBulkEntry {H : Type} : Lit × DataW H → Nat
  | (.string bytes, d) => bytes.length + uptoBulk d + 1
  | (_, d) => uptoBulk d + 1
 end
def uptoSmall : (H : Type) → List (DataW H) → Bool := fun _ ds => decide (uptoBulkAll ds ≤ 1048576)
def OpenSpec.upto (s : _root_.Go.ChangeSpec) : _root_.Go.OpenSpec := { _root_.Go.OpenSpec.ofChange s with cond := some uptoSmall }

/-- 'floodgatelaw46.CaptureEncodes', WHERE WHAT IT READS IS OF BULK AT MOST 1048576: true; the input reads as it did. -/
def captureEncodesUptoRow : OpenClaim := { program := "ytljpiofpfankoaa", sum := "63bf064a1fda6eb8135f766a7890c6b2b93246a1e59b3e845eddb3997b2624c6", func := "floodgate/floodgatelaw46.CaptureEncodes", spec := "captureEncodes", plainKeys := false, apart := false, narrowed := true }
def CaptureEncodesUptoSaid : Prop := captureEncodesUptoRow.holds Try.pinned (OpenSpec.upto captureEncodesSpec)

/-- 'floodgatelaw46.CaptureDecodes', WHERE WHAT IT READS IS OF BULK AT MOST 1048576: true; the input reads as it did. -/
def captureDecodesUptoRow : OpenClaim := { program := "ytljpiofpfankoaa", sum := "63bf064a1fda6eb8135f766a7890c6b2b93246a1e59b3e845eddb3997b2624c6", func := "floodgate/floodgatelaw46.CaptureDecodes", spec := "captureDecodes", plainKeys := false, apart := false, narrowed := true }
def CaptureDecodesUptoSaid : Prop := captureDecodesUptoRow.holds Try.pinned (OpenSpec.upto captureDecodesSpec)

/-- 'floodgatelaw46.CaptureOps', WHERE WHAT IT READS IS OF BULK AT MOST 1048576: true; the input reads as it did. -/
def captureOpsUptoRow : OpenClaim := { program := "ytljpiofpfankoaa", sum := "63bf064a1fda6eb8135f766a7890c6b2b93246a1e59b3e845eddb3997b2624c6", func := "floodgate/floodgatelaw46.CaptureOps", spec := "captureOps", plainKeys := false, apart := false, narrowed := true }
def CaptureOpsUptoSaid : Prop := captureOpsUptoRow.holds Try.pinned (OpenSpec.upto captureOpsSpec)

/-- 'floodgatelaw46.CaptureSent', WHERE WHAT IT READS IS OF BULK AT MOST 1048576: true; the input reads as it did. -/
def captureSentUptoRow : OpenClaim := { program := "ytljpiofpfankoaa", sum := "63bf064a1fda6eb8135f766a7890c6b2b93246a1e59b3e845eddb3997b2624c6", func := "floodgate/floodgatelaw46.CaptureSent", spec := "captureSent", plainKeys := false, apart := false, narrowed := true }
def CaptureSentUptoSaid : Prop := captureSentUptoRow.holds Try.pinned (OpenSpec.upto captureSentSpec)

/-- 'floodgatelaw45.FlowKeys', WHERE WHAT IT READS IS OF BULK AT MOST 1048576: true; the input reads as it did. -/
def flowKeysUptoRow : OpenClaim := { program := "ytljpiofpfankoaa", sum := "63bf064a1fda6eb8135f766a7890c6b2b93246a1e59b3e845eddb3997b2624c6", func := "floodgate/floodgatelaw45.FlowKeys", spec := "flowKeys", inPlace := ["internal/abi.NoEscape", "internal/bytealg.MakeNoZero"], plainKeys := false, apart := false, narrowed := true }
def FlowKeysUptoSaid : Prop := flowKeysUptoRow.holds Try.pinned (OpenSpec.upto flowKeysSpec)

/-- 'floodgatelaw45.FlowBack', WHERE WHAT IT READS IS OF BULK AT MOST 1048576: true; the input reads as it did. -/
def flowBackUptoRow : OpenClaim := { program := "ytljpiofpfankoaa", sum := "63bf064a1fda6eb8135f766a7890c6b2b93246a1e59b3e845eddb3997b2624c6", func := "floodgate/floodgatelaw45.FlowBack", spec := "flowBack", inPlace := ["internal/abi.NoEscape", "internal/bytealg.MakeNoZero"], plainKeys := false, apart := false, narrowed := true }
def FlowBackUptoSaid : Prop := flowBackUptoRow.holds Try.pinned (OpenSpec.upto flowBackSpec)

/-- 'floodgatelaw45.FlowCounts', WHERE WHAT IT READS IS OF BULK AT MOST 1048576: true; the input reads as it did. -/
def flowCountsUptoRow : OpenClaim := { program := "ytljpiofpfankoaa", sum := "63bf064a1fda6eb8135f766a7890c6b2b93246a1e59b3e845eddb3997b2624c6", func := "floodgate/floodgatelaw45.FlowCounts", spec := "flowCounts", inPlace := ["internal/abi.NoEscape", "internal/bytealg.MakeNoZero"], unfollowed := true, recurses := true, plainKeys := false, apart := false, narrowed := true }
def FlowCountsUptoSaid : Prop := flowCountsUptoRow.holds Try.pinned (OpenSpec.upto flowCountsSpec)

/-- 'floodgatelaw45.FlowHeavy', WHERE WHAT IT READS IS OF BULK AT MOST 1048576: true; the input reads as it did. -/
def flowHeavyUptoRow : OpenClaim := { program := "ytljpiofpfankoaa", sum := "63bf064a1fda6eb8135f766a7890c6b2b93246a1e59b3e845eddb3997b2624c6", func := "floodgate/floodgatelaw45.FlowHeavy", spec := "flowHeavy", inPlace := ["internal/abi.NoEscape", "internal/bytealg.MakeNoZero"], unfollowed := true, recurses := true, plainKeys := false, apart := false, narrowed := true }
def FlowHeavyUptoSaid : Prop := flowHeavyUptoRow.holds Try.pinned (OpenSpec.upto flowHeavySpec)

/-- 'floodgatelaw45.FlowNil', WHERE WHAT IT READS IS OF BULK AT MOST 1048576: true; the input reads as it did. -/
def flowNilUptoRow : OpenClaim := { program := "ytljpiofpfankoaa", sum := "63bf064a1fda6eb8135f766a7890c6b2b93246a1e59b3e845eddb3997b2624c6", func := "floodgate/floodgatelaw45.FlowNil", spec := "flowNil", inPlace := ["internal/abi.NoEscape", "internal/bytealg.MakeNoZero"], unfollowed := true, recurses := true, plainKeys := false, apart := false, narrowed := true }
def FlowNilUptoSaid : Prop := flowNilUptoRow.holds Try.pinned (OpenSpec.upto flowNilSpec)

end Rows
end Go.Proofs.Ytljpiofpfankoaa
