/-
  No cell of these rows narrows 'for every input' (looked for: loops, veiled, ifaces, maps, wideKeys, modest, calm, conditions, laid).
  DERIVED. THE GIVEN ROWS OF THIS SEAT. 9 by the template 'for every input the law returns true; each argument reads behind the call as it read before'; 0 by the template 'total and deterministic' (their statements: YtaaoadbcgnedkaaTotals.lean).
  GIVEN WITH THE SEED: the statements are not yours to turn. If you find one false, say at which input.
  Laid BY PROGRAM, IN A SANDBOX (cutbox-rows.mjs): the forced cells as the released guide's own fill.sh prints them over the translation 7bd0bbb91dc32631… (all of the seat's roots in one cut). By AI agents, Wed Nov 11 2026. No macro, syntax, notation, axiom, sorry.
-/
import Derived.Test.YtaaoadbcgnedkaaChecked
import GoSem.Claim
import GoSem.ClaimJoined
import GoSem.ClaimMapViews
import Derived.JoinedTies
import Derived.KernelRfl
namespace Go.Proofs.Ytaaoadbcgnedkaa
/- THE CELL 'sum', in the pinned program and in every row, IS THE sha256 OF THE DUMP (.gsa) THAT YtaaoadbcgnedkaaProg.lean LOADS. Nothing in Lean hashes anything: it is a label: what it is worth is what the hold of that sum in a sandbox is worth. -/
noncomputable def Try.pinned : Pinned := { name := "ytaaoadbcgnedkaa", sum := "7bd0bbb91dc32631a23dc0def768ea735820b7c663aa3bc7bd9cd5e99f22673e", checked := Try.checked }
namespace Rows
def none {H : Type} : Left H := { results := [], args := [] }

/-- 'floodgatelaw06.LinesStarts': WHATEVER THE INPUT: true; the input reads as it did. -/
def linesStartsSpec : ChangeSpec := { name := "linesStarts", fn := fun _ => fun
  | [d1, d2] => { results := [.lit (.bool true)], args := [d1, d2] }
  | _ => none }
def linesStartsRow : OpenClaim := { program := "ytaaoadbcgnedkaa", sum := "7bd0bbb91dc32631a23dc0def768ea735820b7c663aa3bc7bd9cd5e99f22673e", func := "floodgate/floodgatelaw06.LinesStarts", spec := "linesStarts", apart := false }
def LinesStartsSaid : Prop := linesStartsRow.holds Try.pinned (OpenSpec.ofChange linesStartsSpec)

/-- ITS FALSE NEIGHBOUR: 'it returns false'. Refute it at one input. -/
def linesStartsWrong : ChangeSpec := { name := "linesStarts", fn := fun _ => fun
  | [d1, d2] => { results := [.lit (.bool false)], args := [d1, d2] }
  | _ => none }
def LinesStartsWrongFalsely : Prop := linesStartsRow.holds Try.pinned (OpenSpec.ofChange linesStartsWrong)

/-- 'floodgatelaw06.LinesServe': WHATEVER THE INPUT: true; the input reads as it did. -/
def linesServeSpec : ChangeSpec := { name := "linesServe", fn := fun _ => fun
  | [d1, d2, d3] => { results := [.lit (.bool true)], args := [d1, d2, d3] }
  | _ => none }
def linesServeRow : OpenClaim := { program := "ytaaoadbcgnedkaa", sum := "7bd0bbb91dc32631a23dc0def768ea735820b7c663aa3bc7bd9cd5e99f22673e", func := "floodgate/floodgatelaw06.LinesServe", spec := "linesServe", apart := false }
def LinesServeSaid : Prop := linesServeRow.holds Try.pinned (OpenSpec.ofChange linesServeSpec)

/-- ITS FALSE NEIGHBOUR: 'it returns false'. Refute it at one input. -/
def linesServeWrong : ChangeSpec := { name := "linesServe", fn := fun _ => fun
  | [d1, d2, d3] => { results := [.lit (.bool false)], args := [d1, d2, d3] }
  | _ => none }
def LinesServeWrongFalsely : Prop := linesServeRow.holds Try.pinned (OpenSpec.ofChange linesServeWrong)

/-- 'floodgatelaw06.LinesTells': WHATEVER THE INPUT: true; the input reads as it did. -/
def linesTellsSpec : ChangeSpec := { name := "linesTells", fn := fun _ => fun
  | [d1, d2, d3] => { results := [.lit (.bool true)], args := [d1, d2, d3] }
  | _ => none }
def linesTellsRow : OpenClaim := { program := "ytaaoadbcgnedkaa", sum := "7bd0bbb91dc32631a23dc0def768ea735820b7c663aa3bc7bd9cd5e99f22673e", func := "floodgate/floodgatelaw06.LinesTells", spec := "linesTells", apart := false }
def LinesTellsSaid : Prop := linesTellsRow.holds Try.pinned (OpenSpec.ofChange linesTellsSpec)

/-- ITS FALSE NEIGHBOUR: 'it returns false'. Refute it at one input. -/
def linesTellsWrong : ChangeSpec := { name := "linesTells", fn := fun _ => fun
  | [d1, d2, d3] => { results := [.lit (.bool false)], args := [d1, d2, d3] }
  | _ => none }
def LinesTellsWrongFalsely : Prop := linesTellsRow.holds Try.pinned (OpenSpec.ofChange linesTellsWrong)

/-- 'floodgatelaw06.LinesMeet': WHATEVER THE INPUT: true; the input reads as it did. -/
def linesMeetSpec : ChangeSpec := { name := "linesMeet", fn := fun _ => fun
  | [d1, d2, d3] => { results := [.lit (.bool true)], args := [d1, d2, d3] }
  | _ => none }
def linesMeetRow : OpenClaim := { program := "ytaaoadbcgnedkaa", sum := "7bd0bbb91dc32631a23dc0def768ea735820b7c663aa3bc7bd9cd5e99f22673e", func := "floodgate/floodgatelaw06.LinesMeet", spec := "linesMeet", apart := false }
def LinesMeetSaid : Prop := linesMeetRow.holds Try.pinned (OpenSpec.ofChange linesMeetSpec)

/-- ITS FALSE NEIGHBOUR: 'it returns false'. Refute it at one input. -/
def linesMeetWrong : ChangeSpec := { name := "linesMeet", fn := fun _ => fun
  | [d1, d2, d3] => { results := [.lit (.bool false)], args := [d1, d2, d3] }
  | _ => none }
def LinesMeetWrongFalsely : Prop := linesMeetRow.holds Try.pinned (OpenSpec.ofChange linesMeetWrong)

/-- 'floodgatelaw06.LinesEligible': WHATEVER THE INPUT: true; the input reads as it did. -/
def linesEligibleSpec : ChangeSpec := { name := "linesEligible", fn := fun _ => fun
  | [d1, d2, d3] => { results := [.lit (.bool true)], args := [d1, d2, d3] }
  | _ => none }
def linesEligibleRow : OpenClaim := { program := "ytaaoadbcgnedkaa", sum := "7bd0bbb91dc32631a23dc0def768ea735820b7c663aa3bc7bd9cd5e99f22673e", func := "floodgate/floodgatelaw06.LinesEligible", spec := "linesEligible", apart := false }
def LinesEligibleSaid : Prop := linesEligibleRow.holds Try.pinned (OpenSpec.ofChange linesEligibleSpec)

/-- ITS FALSE NEIGHBOUR: 'it returns false'. Refute it at one input. -/
def linesEligibleWrong : ChangeSpec := { name := "linesEligible", fn := fun _ => fun
  | [d1, d2, d3] => { results := [.lit (.bool false)], args := [d1, d2, d3] }
  | _ => none }
def LinesEligibleWrongFalsely : Prop := linesEligibleRow.holds Try.pinned (OpenSpec.ofChange linesEligibleWrong)

/-- 'floodgatelaw20.RealTells': WHATEVER THE INPUT: true; the input reads as it did. -/
def realTellsSpec : ChangeSpec := { name := "realTells", fn := fun _ => fun
  | [d1, d2, d3] => { results := [.lit (.bool true)], args := [d1, d2, d3] }
  | _ => none }
def realTellsRow : OpenClaim := { program := "ytaaoadbcgnedkaa", sum := "7bd0bbb91dc32631a23dc0def768ea735820b7c663aa3bc7bd9cd5e99f22673e", func := "floodgate/floodgatelaw20.RealTells", spec := "realTells", unfollowed := true, recurses := true, apart := false }
def RealTellsSaid : Prop := realTellsRow.holds Try.pinned (OpenSpec.ofChange realTellsSpec)

/-- ITS FALSE NEIGHBOUR: 'it returns false'. Refute it at one input. -/
def realTellsWrong : ChangeSpec := { name := "realTells", fn := fun _ => fun
  | [d1, d2, d3] => { results := [.lit (.bool false)], args := [d1, d2, d3] }
  | _ => none }
def RealTellsWrongFalsely : Prop := realTellsRow.holds Try.pinned (OpenSpec.ofChange realTellsWrong)

/-- 'floodgatelaw20.RealEligible': WHATEVER THE INPUT: true; the input reads as it did. -/
def realEligibleSpec : ChangeSpec := { name := "realEligible", fn := fun _ => fun
  | [d1, d2, d3] => { results := [.lit (.bool true)], args := [d1, d2, d3] }
  | _ => none }
def realEligibleRow : OpenClaim := { program := "ytaaoadbcgnedkaa", sum := "7bd0bbb91dc32631a23dc0def768ea735820b7c663aa3bc7bd9cd5e99f22673e", func := "floodgate/floodgatelaw20.RealEligible", spec := "realEligible", unfollowed := true, recurses := true, apart := false }
def RealEligibleSaid : Prop := realEligibleRow.holds Try.pinned (OpenSpec.ofChange realEligibleSpec)

/-- ITS FALSE NEIGHBOUR: 'it returns false'. Refute it at one input. -/
def realEligibleWrong : ChangeSpec := { name := "realEligible", fn := fun _ => fun
  | [d1, d2, d3] => { results := [.lit (.bool false)], args := [d1, d2, d3] }
  | _ => none }
def RealEligibleWrongFalsely : Prop := realEligibleRow.holds Try.pinned (OpenSpec.ofChange realEligibleWrong)

/-- 'floodgatelaw20.RealSince': WHATEVER THE INPUT: true; the input reads as it did. -/
def realSinceSpec : ChangeSpec := { name := "realSince", fn := fun _ => fun
  | [d1, d2, d3] => { results := [.lit (.bool true)], args := [d1, d2, d3] }
  | _ => none }
def realSinceRow : OpenClaim := { program := "ytaaoadbcgnedkaa", sum := "7bd0bbb91dc32631a23dc0def768ea735820b7c663aa3bc7bd9cd5e99f22673e", func := "floodgate/floodgatelaw20.RealSince", spec := "realSince", unfollowed := true, recurses := true, apart := false }
def RealSinceSaid : Prop := realSinceRow.holds Try.pinned (OpenSpec.ofChange realSinceSpec)

/-- ITS FALSE NEIGHBOUR: 'it returns false'. Refute it at one input. -/
def realSinceWrong : ChangeSpec := { name := "realSince", fn := fun _ => fun
  | [d1, d2, d3] => { results := [.lit (.bool false)], args := [d1, d2, d3] }
  | _ => none }
def RealSinceWrongFalsely : Prop := realSinceRow.holds Try.pinned (OpenSpec.ofChange realSinceWrong)

/-- 'floodgatelaw20.RealLeast': WHATEVER THE INPUT: true; the input reads as it did. -/
def realLeastSpec : ChangeSpec := { name := "realLeast", fn := fun _ => fun
  | [d1, d2, d3] => { results := [.lit (.bool true)], args := [d1, d2, d3] }
  | _ => none }
def realLeastRow : OpenClaim := { program := "ytaaoadbcgnedkaa", sum := "7bd0bbb91dc32631a23dc0def768ea735820b7c663aa3bc7bd9cd5e99f22673e", func := "floodgate/floodgatelaw20.RealLeast", spec := "realLeast", unfollowed := true, recurses := true, apart := false }
def RealLeastSaid : Prop := realLeastRow.holds Try.pinned (OpenSpec.ofChange realLeastSpec)

/-- ITS FALSE NEIGHBOUR: 'it returns false'. Refute it at one input. -/
def realLeastWrong : ChangeSpec := { name := "realLeast", fn := fun _ => fun
  | [d1, d2, d3] => { results := [.lit (.bool false)], args := [d1, d2, d3] }
  | _ => none }
def RealLeastWrongFalsely : Prop := realLeastRow.holds Try.pinned (OpenSpec.ofChange realLeastWrong)

/- THE SECOND FORM. 'bulk': how many values and letters a reading holds, each counted each time it is reached (what is shared counts as often as it is met; a slice's spare places count too). A statement '..UptoSaid' is the law's where the arguments, and the package variables that the reading takes, are together of bulk at most 1048576: NARROWER than '..Said'. Prove '..Said' where nothing that the law and all that it calls make is longer than what came in: it says more and counts as full. Else prove '..UptoSaid'. A law counts once. -/
mutual
def uptoBulk {H : Type} : DataW H → Nat
  | .lit (.string bytes) => bytes.length + 1
  | .lit _ => 1
  | .nil => 1
  | .ptr d => uptoBulk d + 1
  | .slice elems spare => uptoBulkAll elems + uptoBulkAll spare + 1
  | .agg parts => uptoBulkAll parts + 1
  | .iface _ d => uptoBulk d + 1
  | .map entries => uptoBulkEntries entries + 1
  | .held _ => 1
def uptoBulkAll {H : Type} : List (DataW H) → Nat
  | [] => 0
  | d :: r => uptoBulk d + uptoBulkAll r
def uptoBulkEntries {H : Type} : List (Lit × DataW H) → Nat
  | [] => 0
  | x :: r => uptoBulkEntry x + uptoBulkEntries r
def uptoBulkEntry {H : Type} : Lit × DataW H → Nat
  | (.string bytes, d) => bytes.length + uptoBulk d + 1
  | (_, d) => uptoBulk d + 1
 end
def uptoSmall : (H : Type) → List (DataW H) → Bool := fun _ ds => decide (uptoBulkAll ds ≤ 1048576)
def OpenSpec.upto (s : _root_.Go.ChangeSpec) : _root_.Go.OpenSpec := { _root_.Go.OpenSpec.ofChange s with cond := some uptoSmall }

/-- 'floodgatelaw06.LinesStarts', WHERE WHAT IT READS IS OF BULK AT MOST 1048576: true; the input reads as it did. -/
def linesStartsUptoRow : OpenClaim := { program := "ytaaoadbcgnedkaa", sum := "7bd0bbb91dc32631a23dc0def768ea735820b7c663aa3bc7bd9cd5e99f22673e", func := "floodgate/floodgatelaw06.LinesStarts", spec := "linesStarts", apart := false, narrowed := true }
def LinesStartsUptoSaid : Prop := linesStartsUptoRow.holds Try.pinned (OpenSpec.upto linesStartsSpec)

/-- 'floodgatelaw06.LinesServe', WHERE WHAT IT READS IS OF BULK AT MOST 1048576: true; the input reads as it did. -/
def linesServeUptoRow : OpenClaim := { program := "ytaaoadbcgnedkaa", sum := "7bd0bbb91dc32631a23dc0def768ea735820b7c663aa3bc7bd9cd5e99f22673e", func := "floodgate/floodgatelaw06.LinesServe", spec := "linesServe", apart := false, narrowed := true }
def LinesServeUptoSaid : Prop := linesServeUptoRow.holds Try.pinned (OpenSpec.upto linesServeSpec)

/-- 'floodgatelaw06.LinesTells', WHERE WHAT IT READS IS OF BULK AT MOST 1048576: true; the input reads as it did. -/
def linesTellsUptoRow : OpenClaim := { program := "ytaaoadbcgnedkaa", sum := "7bd0bbb91dc32631a23dc0def768ea735820b7c663aa3bc7bd9cd5e99f22673e", func := "floodgate/floodgatelaw06.LinesTells", spec := "linesTells", apart := false, narrowed := true }
def LinesTellsUptoSaid : Prop := linesTellsUptoRow.holds Try.pinned (OpenSpec.upto linesTellsSpec)

/-- 'floodgatelaw06.LinesMeet', WHERE WHAT IT READS IS OF BULK AT MOST 1048576: true; the input reads as it did. -/
def linesMeetUptoRow : OpenClaim := { program := "ytaaoadbcgnedkaa", sum := "7bd0bbb91dc32631a23dc0def768ea735820b7c663aa3bc7bd9cd5e99f22673e", func := "floodgate/floodgatelaw06.LinesMeet", spec := "linesMeet", apart := false, narrowed := true }
def LinesMeetUptoSaid : Prop := linesMeetUptoRow.holds Try.pinned (OpenSpec.upto linesMeetSpec)

/-- 'floodgatelaw06.LinesEligible', WHERE WHAT IT READS IS OF BULK AT MOST 1048576: true; the input reads as it did. -/
def linesEligibleUptoRow : OpenClaim := { program := "ytaaoadbcgnedkaa", sum := "7bd0bbb91dc32631a23dc0def768ea735820b7c663aa3bc7bd9cd5e99f22673e", func := "floodgate/floodgatelaw06.LinesEligible", spec := "linesEligible", apart := false, narrowed := true }
def LinesEligibleUptoSaid : Prop := linesEligibleUptoRow.holds Try.pinned (OpenSpec.upto linesEligibleSpec)

/-- 'floodgatelaw20.RealTells', WHERE WHAT IT READS IS OF BULK AT MOST 1048576: true; the input reads as it did. -/
def realTellsUptoRow : OpenClaim := { program := "ytaaoadbcgnedkaa", sum := "7bd0bbb91dc32631a23dc0def768ea735820b7c663aa3bc7bd9cd5e99f22673e", func := "floodgate/floodgatelaw20.RealTells", spec := "realTells", unfollowed := true, recurses := true, apart := false, narrowed := true }
def RealTellsUptoSaid : Prop := realTellsUptoRow.holds Try.pinned (OpenSpec.upto realTellsSpec)

/-- 'floodgatelaw20.RealEligible', WHERE WHAT IT READS IS OF BULK AT MOST 1048576: true; the input reads as it did. -/
def realEligibleUptoRow : OpenClaim := { program := "ytaaoadbcgnedkaa", sum := "7bd0bbb91dc32631a23dc0def768ea735820b7c663aa3bc7bd9cd5e99f22673e", func := "floodgate/floodgatelaw20.RealEligible", spec := "realEligible", unfollowed := true, recurses := true, apart := false, narrowed := true }
def RealEligibleUptoSaid : Prop := realEligibleUptoRow.holds Try.pinned (OpenSpec.upto realEligibleSpec)

/-- 'floodgatelaw20.RealSince', WHERE WHAT IT READS IS OF BULK AT MOST 1048576: true; the input reads as it did. -/
def realSinceUptoRow : OpenClaim := { program := "ytaaoadbcgnedkaa", sum := "7bd0bbb91dc32631a23dc0def768ea735820b7c663aa3bc7bd9cd5e99f22673e", func := "floodgate/floodgatelaw20.RealSince", spec := "realSince", unfollowed := true, recurses := true, apart := false, narrowed := true }
def RealSinceUptoSaid : Prop := realSinceUptoRow.holds Try.pinned (OpenSpec.upto realSinceSpec)

/-- 'floodgatelaw20.RealLeast', WHERE WHAT IT READS IS OF BULK AT MOST 1048576: true; the input reads as it did. -/
def realLeastUptoRow : OpenClaim := { program := "ytaaoadbcgnedkaa", sum := "7bd0bbb91dc32631a23dc0def768ea735820b7c663aa3bc7bd9cd5e99f22673e", func := "floodgate/floodgatelaw20.RealLeast", spec := "realLeast", unfollowed := true, recurses := true, apart := false, narrowed := true }
def RealLeastUptoSaid : Prop := realLeastUptoRow.holds Try.pinned (OpenSpec.upto realLeastSpec)

end Rows
end Go.Proofs.Ytaaoadbcgnedkaa
