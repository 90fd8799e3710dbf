/-
  No cell of these rows narrows 'for every input' (looked for: loops, veiled, ifaces, maps, wideKeys, modest, calm, conditions, laid).
  DERIVED. THE GIVEN ROWS OF THIS SEAT. 10 by the template 'for every input the law returns true; each argument reads behind the call as it read before'; 0 by the template 'total and deterministic' (their statements: YtiaciibnakiikaaTotals.lean).
  GIVEN WITH THE SEED: the statements are not yours to turn. If you find one false, say at which input.
  Laid BY PROGRAM, IN A SANDBOX (cutbox-rows.mjs): the forced cells as the released guide's own fill.sh prints them over the translation eda4e9b825e22cf3… (all of the seat's roots in one cut). By AI agents, Wed Nov 11 2026. No macro, syntax, notation, axiom, sorry.
-/
import Derived.Test.YtiaciibnakiikaaChecked
import GoSem.Claim
import GoSem.ClaimJoined
import GoSem.ClaimMapViews
import Derived.JoinedTies
import Derived.KernelRfl
namespace Go.Proofs.Ytiaciibnakiikaa
/- THE CELL 'sum', in the pinned program and in every row, IS THE sha256 OF THE DUMP (.gsa) THAT YtiaciibnakiikaaProg.lean LOADS. Nothing in Lean hashes anything: it is a label: what it is worth is what the hold of that sum in a sandbox is worth. -/
noncomputable def Try.pinned : Pinned := { name := "ytiaciibnakiikaa", sum := "eda4e9b825e22cf3a8f80303e0898f93540e17bec351ab752a04c742766de691", checked := Try.checked }
namespace Rows
def none {H : Type} : Left H := { results := [], args := [] }

/-- 'floodgatelaw02.RatioCompares': WHATEVER THE INPUT: true; the input reads as it did. -/
def ratioComparesSpec : ChangeSpec := { name := "ratioCompares", fn := fun _ => fun
  | [d1, d2] => { results := [.lit (.bool true)], args := [d1, d2] }
  | _ => none }
def ratioComparesRow : OpenClaim := { program := "ytiaciibnakiikaa", sum := "eda4e9b825e22cf3a8f80303e0898f93540e17bec351ab752a04c742766de691", func := "floodgate/floodgatelaw02.RatioCompares", spec := "ratioCompares", apart := false }
def RatioComparesSaid : Prop := ratioComparesRow.holds Try.pinned (OpenSpec.ofChange ratioComparesSpec)

/-- ITS FALSE NEIGHBOUR: 'it returns false'. Refute it at one input. -/
def ratioComparesWrong : ChangeSpec := { name := "ratioCompares", fn := fun _ => fun
  | [d1, d2] => { results := [.lit (.bool false)], args := [d1, d2] }
  | _ => none }
def RatioComparesWrongFalsely : Prop := ratioComparesRow.holds Try.pinned (OpenSpec.ofChange ratioComparesWrong)

/-- 'floodgatelaw02.RatioDivides': WHATEVER THE INPUT: true; the input reads as it did. -/
def ratioDividesSpec : ChangeSpec := { name := "ratioDivides", fn := fun _ => fun
  | [d1, d2, d3] => { results := [.lit (.bool true)], args := [d1, d2, d3] }
  | _ => none }
def ratioDividesRow : OpenClaim := { program := "ytiaciibnakiikaa", sum := "eda4e9b825e22cf3a8f80303e0898f93540e17bec351ab752a04c742766de691", func := "floodgate/floodgatelaw02.RatioDivides", spec := "ratioDivides", apart := false }
def RatioDividesSaid : Prop := ratioDividesRow.holds Try.pinned (OpenSpec.ofChange ratioDividesSpec)

/-- ITS FALSE NEIGHBOUR: 'it returns false'. Refute it at one input. -/
def ratioDividesWrong : ChangeSpec := { name := "ratioDivides", fn := fun _ => fun
  | [d1, d2, d3] => { results := [.lit (.bool false)], args := [d1, d2, d3] }
  | _ => none }
def RatioDividesWrongFalsely : Prop := ratioDividesRow.holds Try.pinned (OpenSpec.ofChange ratioDividesWrong)

/-- 'floodgatelaw02.RatioWides': WHATEVER THE INPUT: true; the input reads as it did. -/
def ratioWidesSpec : ChangeSpec := { name := "ratioWides", fn := fun _ => fun
  | [d1, d2] => { results := [.lit (.bool true)], args := [d1, d2] }
  | _ => none }
def ratioWidesRow : OpenClaim := { program := "ytiaciibnakiikaa", sum := "eda4e9b825e22cf3a8f80303e0898f93540e17bec351ab752a04c742766de691", func := "floodgate/floodgatelaw02.RatioWides", spec := "ratioWides", apart := false }
def RatioWidesSaid : Prop := ratioWidesRow.holds Try.pinned (OpenSpec.ofChange ratioWidesSpec)

/-- ITS FALSE NEIGHBOUR: 'it returns false'. Refute it at one input. -/
def ratioWidesWrong : ChangeSpec := { name := "ratioWides", fn := fun _ => fun
  | [d1, d2] => { results := [.lit (.bool false)], args := [d1, d2] }
  | _ => none }
def RatioWidesWrongFalsely : Prop := ratioWidesRow.holds Try.pinned (OpenSpec.ofChange ratioWidesWrong)

/-- 'floodgatelaw05.LineTells': WHATEVER THE INPUT: true; the input reads as it did. -/
def lineTellsSpec : ChangeSpec := { name := "lineTells", fn := fun _ => fun
  | [d1, d2, d3] => { results := [.lit (.bool true)], args := [d1, d2, d3] }
  | _ => none }
def lineTellsRow : OpenClaim := { program := "ytiaciibnakiikaa", sum := "eda4e9b825e22cf3a8f80303e0898f93540e17bec351ab752a04c742766de691", func := "floodgate/floodgatelaw05.LineTells", spec := "lineTells", apart := false }
def LineTellsSaid : Prop := lineTellsRow.holds Try.pinned (OpenSpec.ofChange lineTellsSpec)

/-- ITS FALSE NEIGHBOUR: 'it returns false'. Refute it at one input. -/
def lineTellsWrong : ChangeSpec := { name := "lineTells", fn := fun _ => fun
  | [d1, d2, d3] => { results := [.lit (.bool false)], args := [d1, d2, d3] }
  | _ => none }
def LineTellsWrongFalsely : Prop := lineTellsRow.holds Try.pinned (OpenSpec.ofChange lineTellsWrong)

/-- 'floodgatelaw05.LineReaches': WHATEVER THE INPUT: true; the input reads as it did. -/
def lineReachesSpec : ChangeSpec := { name := "lineReaches", fn := fun _ => fun
  | [d1, d2] => { results := [.lit (.bool true)], args := [d1, d2] }
  | _ => none }
def lineReachesRow : OpenClaim := { program := "ytiaciibnakiikaa", sum := "eda4e9b825e22cf3a8f80303e0898f93540e17bec351ab752a04c742766de691", func := "floodgate/floodgatelaw05.LineReaches", spec := "lineReaches", apart := false }
def LineReachesSaid : Prop := lineReachesRow.holds Try.pinned (OpenSpec.ofChange lineReachesSpec)

/-- ITS FALSE NEIGHBOUR: 'it returns false'. Refute it at one input. -/
def lineReachesWrong : ChangeSpec := { name := "lineReaches", fn := fun _ => fun
  | [d1, d2] => { results := [.lit (.bool false)], args := [d1, d2] }
  | _ => none }
def LineReachesWrongFalsely : Prop := lineReachesRow.holds Try.pinned (OpenSpec.ofChange lineReachesWrong)

/-- 'floodgatelaw05.LineLower': WHATEVER THE INPUT: true; the input reads as it did. -/
def lineLowerSpec : ChangeSpec := { name := "lineLower", fn := fun _ => fun
  | [d1, d2, d3] => { results := [.lit (.bool true)], args := [d1, d2, d3] }
  | _ => none }
def lineLowerRow : OpenClaim := { program := "ytiaciibnakiikaa", sum := "eda4e9b825e22cf3a8f80303e0898f93540e17bec351ab752a04c742766de691", func := "floodgate/floodgatelaw05.LineLower", spec := "lineLower", apart := false }
def LineLowerSaid : Prop := lineLowerRow.holds Try.pinned (OpenSpec.ofChange lineLowerSpec)

/-- ITS FALSE NEIGHBOUR: 'it returns false'. Refute it at one input. -/
def lineLowerWrong : ChangeSpec := { name := "lineLower", fn := fun _ => fun
  | [d1, d2, d3] => { results := [.lit (.bool false)], args := [d1, d2, d3] }
  | _ => none }
def LineLowerWrongFalsely : Prop := lineLowerRow.holds Try.pinned (OpenSpec.ofChange lineLowerWrong)

/-- 'floodgatelaw04.CurveOf': WHATEVER THE INPUT: true; the input reads as it did. -/
def curveOfSpec : ChangeSpec := { name := "curveOf", fn := fun _ => fun
  | [d1, d2] => { results := [.lit (.bool true)], args := [d1, d2] }
  | _ => none }
def curveOfRow : OpenClaim := { program := "ytiaciibnakiikaa", sum := "eda4e9b825e22cf3a8f80303e0898f93540e17bec351ab752a04c742766de691", func := "floodgate/floodgatelaw04.CurveOf", spec := "curveOf", apart := false }
def CurveOfSaid : Prop := curveOfRow.holds Try.pinned (OpenSpec.ofChange curveOfSpec)

/-- ITS FALSE NEIGHBOUR: 'it returns false'. Refute it at one input. -/
def curveOfWrong : ChangeSpec := { name := "curveOf", fn := fun _ => fun
  | [d1, d2] => { results := [.lit (.bool false)], args := [d1, d2] }
  | _ => none }
def CurveOfWrongFalsely : Prop := curveOfRow.holds Try.pinned (OpenSpec.ofChange curveOfWrong)

/-- 'floodgatelaw04.CurveServes': WHATEVER THE INPUT: true; the input reads as it did. -/
def curveServesSpec : ChangeSpec := { name := "curveServes", fn := fun _ => fun
  | [d1, d2, d3] => { results := [.lit (.bool true)], args := [d1, d2, d3] }
  | _ => none }
def curveServesRow : OpenClaim := { program := "ytiaciibnakiikaa", sum := "eda4e9b825e22cf3a8f80303e0898f93540e17bec351ab752a04c742766de691", func := "floodgate/floodgatelaw04.CurveServes", spec := "curveServes", apart := false }
def CurveServesSaid : Prop := curveServesRow.holds Try.pinned (OpenSpec.ofChange curveServesSpec)

/-- ITS FALSE NEIGHBOUR: 'it returns false'. Refute it at one input. -/
def curveServesWrong : ChangeSpec := { name := "curveServes", fn := fun _ => fun
  | [d1, d2, d3] => { results := [.lit (.bool false)], args := [d1, d2, d3] }
  | _ => none }
def CurveServesWrongFalsely : Prop := curveServesRow.holds Try.pinned (OpenSpec.ofChange curveServesWrong)

/-- 'floodgatelaw04.CurveTicks': WHATEVER THE INPUT: true; the input reads as it did. -/
def curveTicksSpec : ChangeSpec := { name := "curveTicks", fn := fun _ => fun
  | [d1, d2] => { results := [.lit (.bool true)], args := [d1, d2] }
  | _ => none }
def curveTicksRow : OpenClaim := { program := "ytiaciibnakiikaa", sum := "eda4e9b825e22cf3a8f80303e0898f93540e17bec351ab752a04c742766de691", func := "floodgate/floodgatelaw04.CurveTicks", spec := "curveTicks", apart := false }
def CurveTicksSaid : Prop := curveTicksRow.holds Try.pinned (OpenSpec.ofChange curveTicksSpec)

/-- ITS FALSE NEIGHBOUR: 'it returns false'. Refute it at one input. -/
def curveTicksWrong : ChangeSpec := { name := "curveTicks", fn := fun _ => fun
  | [d1, d2] => { results := [.lit (.bool false)], args := [d1, d2] }
  | _ => none }
def CurveTicksWrongFalsely : Prop := curveTicksRow.holds Try.pinned (OpenSpec.ofChange curveTicksWrong)

/-- 'floodgatelaw04.CurveBends': WHATEVER THE INPUT: true; the input reads as it did. -/
def curveBendsSpec : ChangeSpec := { name := "curveBends", fn := fun _ => fun
  | [d1, d2, d3] => { results := [.lit (.bool true)], args := [d1, d2, d3] }
  | _ => none }
def curveBendsRow : OpenClaim := { program := "ytiaciibnakiikaa", sum := "eda4e9b825e22cf3a8f80303e0898f93540e17bec351ab752a04c742766de691", func := "floodgate/floodgatelaw04.CurveBends", spec := "curveBends", apart := false }
def CurveBendsSaid : Prop := curveBendsRow.holds Try.pinned (OpenSpec.ofChange curveBendsSpec)

/-- ITS FALSE NEIGHBOUR: 'it returns false'. Refute it at one input. -/
def curveBendsWrong : ChangeSpec := { name := "curveBends", fn := fun _ => fun
  | [d1, d2, d3] => { results := [.lit (.bool false)], args := [d1, d2, d3] }
  | _ => none }
def CurveBendsWrongFalsely : Prop := curveBendsRow.holds Try.pinned (OpenSpec.ofChange curveBendsWrong)

/- THE SECOND FORM. 'bulk': how many values and letters a reading holds, each counted each time it is reached (what is shared counts as often as it is met; a slice's spare places count too). A statement '..UptoSaid' is the law's where the arguments, and the package variables that the reading takes, are together of bulk at most 1048576: NARROWER than '..Said'. Prove '..Said' where nothing that the law and all that it calls make is longer than what came in: it says more and counts as full. Else prove '..UptoSaid'. A law counts once. -/
mutual
def uptoBulk {H : Type} : DataW H → Nat
  | .lit (.string bytes) => bytes.length + 1
  | .lit _ => 1
  | .nil => 1
  | .ptr d => uptoBulk d + 1
  | .slice elems spare => uptoBulkAll elems + uptoBulkAll spare + 1
  | .agg parts => uptoBulkAll parts + 1
  | .iface _ d => uptoBulk d + 1
  | .map entries => uptoBulkEntries entries + 1
  | .held _ => 1
def uptoBulkAll {H : Type} : List (DataW H) → Nat
  | [] => 0
  | d :: r => uptoBulk d + uptoBulkAll r
def uptoBulkEntries {H : Type} : List (Lit × DataW H) → Nat
  | [] => 0
  | x :: r => uptoBulkEntry x + uptoBulkEntries r
def uptoBulkEntry {H : Type} : Lit × DataW H → Nat
  | (.string bytes, d) => bytes.length + uptoBulk d + 1
  | (_, d) => uptoBulk d + 1
 end
def uptoSmall : (H : Type) → List (DataW H) → Bool := fun _ ds => decide (uptoBulkAll ds ≤ 1048576)
def OpenSpec.upto (s : _root_.Go.ChangeSpec) : _root_.Go.OpenSpec := { _root_.Go.OpenSpec.ofChange s with cond := some uptoSmall }

/-- 'floodgatelaw02.RatioCompares', WHERE WHAT IT READS IS OF BULK AT MOST 1048576: true; the input reads as it did. -/
def ratioComparesUptoRow : OpenClaim := { program := "ytiaciibnakiikaa", sum := "eda4e9b825e22cf3a8f80303e0898f93540e17bec351ab752a04c742766de691", func := "floodgate/floodgatelaw02.RatioCompares", spec := "ratioCompares", apart := false, narrowed := true }
def RatioComparesUptoSaid : Prop := ratioComparesUptoRow.holds Try.pinned (OpenSpec.upto ratioComparesSpec)

/-- 'floodgatelaw02.RatioDivides', WHERE WHAT IT READS IS OF BULK AT MOST 1048576: true; the input reads as it did. -/
def ratioDividesUptoRow : OpenClaim := { program := "ytiaciibnakiikaa", sum := "eda4e9b825e22cf3a8f80303e0898f93540e17bec351ab752a04c742766de691", func := "floodgate/floodgatelaw02.RatioDivides", spec := "ratioDivides", apart := false, narrowed := true }
def RatioDividesUptoSaid : Prop := ratioDividesUptoRow.holds Try.pinned (OpenSpec.upto ratioDividesSpec)

/-- 'floodgatelaw02.RatioWides', WHERE WHAT IT READS IS OF BULK AT MOST 1048576: true; the input reads as it did. -/
def ratioWidesUptoRow : OpenClaim := { program := "ytiaciibnakiikaa", sum := "eda4e9b825e22cf3a8f80303e0898f93540e17bec351ab752a04c742766de691", func := "floodgate/floodgatelaw02.RatioWides", spec := "ratioWides", apart := false, narrowed := true }
def RatioWidesUptoSaid : Prop := ratioWidesUptoRow.holds Try.pinned (OpenSpec.upto ratioWidesSpec)

/-- 'floodgatelaw05.LineTells', WHERE WHAT IT READS IS OF BULK AT MOST 1048576: true; the input reads as it did. -/
def lineTellsUptoRow : OpenClaim := { program := "ytiaciibnakiikaa", sum := "eda4e9b825e22cf3a8f80303e0898f93540e17bec351ab752a04c742766de691", func := "floodgate/floodgatelaw05.LineTells", spec := "lineTells", apart := false, narrowed := true }
def LineTellsUptoSaid : Prop := lineTellsUptoRow.holds Try.pinned (OpenSpec.upto lineTellsSpec)

/-- 'floodgatelaw05.LineReaches', WHERE WHAT IT READS IS OF BULK AT MOST 1048576: true; the input reads as it did. -/
def lineReachesUptoRow : OpenClaim := { program := "ytiaciibnakiikaa", sum := "eda4e9b825e22cf3a8f80303e0898f93540e17bec351ab752a04c742766de691", func := "floodgate/floodgatelaw05.LineReaches", spec := "lineReaches", apart := false, narrowed := true }
def LineReachesUptoSaid : Prop := lineReachesUptoRow.holds Try.pinned (OpenSpec.upto lineReachesSpec)

/-- 'floodgatelaw05.LineLower', WHERE WHAT IT READS IS OF BULK AT MOST 1048576: true; the input reads as it did. -/
def lineLowerUptoRow : OpenClaim := { program := "ytiaciibnakiikaa", sum := "eda4e9b825e22cf3a8f80303e0898f93540e17bec351ab752a04c742766de691", func := "floodgate/floodgatelaw05.LineLower", spec := "lineLower", apart := false, narrowed := true }
def LineLowerUptoSaid : Prop := lineLowerUptoRow.holds Try.pinned (OpenSpec.upto lineLowerSpec)

/-- 'floodgatelaw04.CurveOf', WHERE WHAT IT READS IS OF BULK AT MOST 1048576: true; the input reads as it did. -/
def curveOfUptoRow : OpenClaim := { program := "ytiaciibnakiikaa", sum := "eda4e9b825e22cf3a8f80303e0898f93540e17bec351ab752a04c742766de691", func := "floodgate/floodgatelaw04.CurveOf", spec := "curveOf", apart := false, narrowed := true }
def CurveOfUptoSaid : Prop := curveOfUptoRow.holds Try.pinned (OpenSpec.upto curveOfSpec)

/-- 'floodgatelaw04.CurveServes', WHERE WHAT IT READS IS OF BULK AT MOST 1048576: true; the input reads as it did. -/
def curveServesUptoRow : OpenClaim := { program := "ytiaciibnakiikaa", sum := "eda4e9b825e22cf3a8f80303e0898f93540e17bec351ab752a04c742766de691", func := "floodgate/floodgatelaw04.CurveServes", spec := "curveServes", apart := false, narrowed := true }
def CurveServesUptoSaid : Prop := curveServesUptoRow.holds Try.pinned (OpenSpec.upto curveServesSpec)

/-- 'floodgatelaw04.CurveTicks', WHERE WHAT IT READS IS OF BULK AT MOST 1048576: true; the input reads as it did. -/
def curveTicksUptoRow : OpenClaim := { program := "ytiaciibnakiikaa", sum := "eda4e9b825e22cf3a8f80303e0898f93540e17bec351ab752a04c742766de691", func := "floodgate/floodgatelaw04.CurveTicks", spec := "curveTicks", apart := false, narrowed := true }
def CurveTicksUptoSaid : Prop := curveTicksUptoRow.holds Try.pinned (OpenSpec.upto curveTicksSpec)

/-- 'floodgatelaw04.CurveBends', WHERE WHAT IT READS IS OF BULK AT MOST 1048576: true; the input reads as it did. -/
def curveBendsUptoRow : OpenClaim := { program := "ytiaciibnakiikaa", sum := "eda4e9b825e22cf3a8f80303e0898f93540e17bec351ab752a04c742766de691", func := "floodgate/floodgatelaw04.CurveBends", spec := "curveBends", apart := false, narrowed := true }
def CurveBendsUptoSaid : Prop := curveBendsUptoRow.holds Try.pinned (OpenSpec.upto curveBendsSpec)

end Rows
end Go.Proofs.Ytiaciibnakiikaa
