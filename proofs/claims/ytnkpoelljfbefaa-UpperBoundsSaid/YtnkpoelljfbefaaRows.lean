/-
  No cell of these rows narrows 'for every input' (looked for: loops, veiled, ifaces, maps, wideKeys, modest, calm, conditions, laid).
  DERIVED. THE GIVEN ROWS OF THIS SEAT. 6 by the template 'for every input the law returns true; each argument reads behind the call as it read before'; 0 by the template 'total and deterministic' (their statements: YtnkpoelljfbefaaTotals.lean).
  GIVEN WITH THE SEED: the statements are not yours to turn. If you find one false, say at which input.
  Laid BY PROGRAM, IN A SANDBOX (cutbox-rows.mjs): the forced cells as the released guide's own fill.sh prints them over the translation f13e0361812cc39b… (all of the seat's roots in one cut). By AI agents, Wed Nov 11 2026. No macro, syntax, notation, axiom, sorry.
-/
import Derived.Test.YtnkpoelljfbefaaChecked
import GoSem.Claim
import GoSem.ClaimJoined
import GoSem.ClaimMapViews
import Derived.JoinedTies
import Derived.KernelRfl
namespace Go.Proofs.Ytnkpoelljfbefaa
/- THE CELL 'sum', in the pinned program and in every row, IS THE sha256 OF THE DUMP (.gsa) THAT YtnkpoelljfbefaaProg.lean LOADS. Nothing in Lean hashes anything: it is a label: what it is worth is what the hold of that sum in a sandbox is worth. -/
noncomputable def Try.pinned : Pinned := { name := "ytnkpoelljfbefaa", sum := "f13e0361812cc39b30b1ba00ebfe194a189bf7fc675b8194c9cbe91a66e5a078", checked := Try.checked }
namespace Rows
def none {H : Type} : Left H := { results := [], args := [] }

/-- 'floodgatelaw21.ShareTells': WHATEVER THE INPUT: true; the input reads as it did. -/
def shareTellsSpec : ChangeSpec := { name := "shareTells", fn := fun _ => fun
  | [d1, d2, d3] => { results := [.lit (.bool true)], args := [d1, d2, d3] }
  | _ => none }
def shareTellsRow : OpenClaim := { program := "ytnkpoelljfbefaa", sum := "f13e0361812cc39b30b1ba00ebfe194a189bf7fc675b8194c9cbe91a66e5a078", func := "floodgate/floodgatelaw21.ShareTells", spec := "shareTells", apart := false }
def ShareTellsSaid : Prop := shareTellsRow.holds Try.pinned (OpenSpec.ofChange shareTellsSpec)

/-- ITS FALSE NEIGHBOUR: 'it returns false'. Refute it at one input. -/
def shareTellsWrong : ChangeSpec := { name := "shareTells", fn := fun _ => fun
  | [d1, d2, d3] => { results := [.lit (.bool false)], args := [d1, d2, d3] }
  | _ => none }
def ShareTellsWrongFalsely : Prop := shareTellsRow.holds Try.pinned (OpenSpec.ofChange shareTellsWrong)

/-- 'floodgatelaw21.ShareWakes': WHATEVER THE INPUT: true; the input reads as it did. -/
def shareWakesSpec : ChangeSpec := { name := "shareWakes", fn := fun _ => fun
  | [d1, d2, d3] => { results := [.lit (.bool true)], args := [d1, d2, d3] }
  | _ => none }
def shareWakesRow : OpenClaim := { program := "ytnkpoelljfbefaa", sum := "f13e0361812cc39b30b1ba00ebfe194a189bf7fc675b8194c9cbe91a66e5a078", func := "floodgate/floodgatelaw21.ShareWakes", spec := "shareWakes", apart := false }
def ShareWakesSaid : Prop := shareWakesRow.holds Try.pinned (OpenSpec.ofChange shareWakesSpec)

/-- ITS FALSE NEIGHBOUR: 'it returns false'. Refute it at one input. -/
def shareWakesWrong : ChangeSpec := { name := "shareWakes", fn := fun _ => fun
  | [d1, d2, d3] => { results := [.lit (.bool false)], args := [d1, d2, d3] }
  | _ => none }
def ShareWakesWrongFalsely : Prop := shareWakesRow.holds Try.pinned (OpenSpec.ofChange shareWakesWrong)

/-- 'floodgatelaw21.ShareSteps': WHATEVER THE INPUT: true; the input reads as it did. -/
def shareStepsSpec : ChangeSpec := { name := "shareSteps", fn := fun _ => fun
  | [d1, d2, d3] => { results := [.lit (.bool true)], args := [d1, d2, d3] }
  | _ => none }
def shareStepsRow : OpenClaim := { program := "ytnkpoelljfbefaa", sum := "f13e0361812cc39b30b1ba00ebfe194a189bf7fc675b8194c9cbe91a66e5a078", func := "floodgate/floodgatelaw21.ShareSteps", spec := "shareSteps", apart := false }
def ShareStepsSaid : Prop := shareStepsRow.holds Try.pinned (OpenSpec.ofChange shareStepsSpec)

/-- ITS FALSE NEIGHBOUR: 'it returns false'. Refute it at one input. -/
def shareStepsWrong : ChangeSpec := { name := "shareSteps", fn := fun _ => fun
  | [d1, d2, d3] => { results := [.lit (.bool false)], args := [d1, d2, d3] }
  | _ => none }
def ShareStepsWrongFalsely : Prop := shareStepsRow.holds Try.pinned (OpenSpec.ofChange shareStepsWrong)

/-- 'floodgatelaw22.UpperTells': WHATEVER THE INPUT: true; the input reads as it did. -/
def upperTellsSpec : ChangeSpec := { name := "upperTells", fn := fun _ => fun
  | [d1, d2, d3] => { results := [.lit (.bool true)], args := [d1, d2, d3] }
  | _ => none }
def upperTellsRow : OpenClaim := { program := "ytnkpoelljfbefaa", sum := "f13e0361812cc39b30b1ba00ebfe194a189bf7fc675b8194c9cbe91a66e5a078", func := "floodgate/floodgatelaw22.UpperTells", spec := "upperTells", apart := false }
def UpperTellsSaid : Prop := upperTellsRow.holds Try.pinned (OpenSpec.ofChange upperTellsSpec)

/-- ITS FALSE NEIGHBOUR: 'it returns false'. Refute it at one input. -/
def upperTellsWrong : ChangeSpec := { name := "upperTells", fn := fun _ => fun
  | [d1, d2, d3] => { results := [.lit (.bool false)], args := [d1, d2, d3] }
  | _ => none }
def UpperTellsWrongFalsely : Prop := upperTellsRow.holds Try.pinned (OpenSpec.ofChange upperTellsWrong)

/-- 'floodgatelaw22.UpperMost': WHATEVER THE INPUT: true; the input reads as it did. -/
def upperMostSpec : ChangeSpec := { name := "upperMost", fn := fun _ => fun
  | [d1, d2, d3] => { results := [.lit (.bool true)], args := [d1, d2, d3] }
  | _ => none }
def upperMostRow : OpenClaim := { program := "ytnkpoelljfbefaa", sum := "f13e0361812cc39b30b1ba00ebfe194a189bf7fc675b8194c9cbe91a66e5a078", func := "floodgate/floodgatelaw22.UpperMost", spec := "upperMost", apart := false }
def UpperMostSaid : Prop := upperMostRow.holds Try.pinned (OpenSpec.ofChange upperMostSpec)

/-- ITS FALSE NEIGHBOUR: 'it returns false'. Refute it at one input. -/
def upperMostWrong : ChangeSpec := { name := "upperMost", fn := fun _ => fun
  | [d1, d2, d3] => { results := [.lit (.bool false)], args := [d1, d2, d3] }
  | _ => none }
def UpperMostWrongFalsely : Prop := upperMostRow.holds Try.pinned (OpenSpec.ofChange upperMostWrong)

/-- 'floodgatelaw22.UpperBounds': WHATEVER THE INPUT: true; the input reads as it did. -/
def upperBoundsSpec : ChangeSpec := { name := "upperBounds", fn := fun _ => fun
  | [d1, d2, d3] => { results := [.lit (.bool true)], args := [d1, d2, d3] }
  | _ => none }
def upperBoundsRow : OpenClaim := { program := "ytnkpoelljfbefaa", sum := "f13e0361812cc39b30b1ba00ebfe194a189bf7fc675b8194c9cbe91a66e5a078", func := "floodgate/floodgatelaw22.UpperBounds", spec := "upperBounds", apart := false }
def UpperBoundsSaid : Prop := upperBoundsRow.holds Try.pinned (OpenSpec.ofChange upperBoundsSpec)

/-- ITS FALSE NEIGHBOUR: 'it returns false'. Refute it at one input. -/
def upperBoundsWrong : ChangeSpec := { name := "upperBounds", fn := fun _ => fun
  | [d1, d2, d3] => { results := [.lit (.bool false)], args := [d1, d2, d3] }
  | _ => none }
def UpperBoundsWrongFalsely : Prop := upperBoundsRow.holds Try.pinned (OpenSpec.ofChange upperBoundsWrong)

/- THE SECOND FORM. 'bulk': how many values and letters a reading holds, each counted each time it is reached (what is shared counts as often as it is met; a slice's spare places count too). A statement '..UptoSaid' is the law's where the arguments, and the package variables that the reading takes, are together of bulk at most 1048576: NARROWER than '..Said'. Prove '..Said' where nothing that the law and all that it calls make is longer than what came in: it says more and counts as full. Else prove '..UptoSaid'. A law counts once. -/
mutual
def uptoBulk {H : Type} : DataW H → Nat
  | .lit (.string bytes) => bytes.length + 1
  | .lit _ => 1
  | .nil => 1
  | .ptr d => uptoBulk d + 1
  | .slice elems spare => uptoBulkAll elems + uptoBulkAll spare + 1
  | .agg parts => uptoBulkAll parts + 1
  | .iface _ d => uptoBulk d + 1
  | .map entries => uptoBulkEntries entries + 1
  | .held _ => 1
def uptoBulkAll {H : Type} : List (DataW H) → Nat
  | [] => 0
  | d :: r => uptoBulk d + uptoBulkAll r
def uptoBulkEntries {H : Type} : List (Lit × DataW H) → Nat
  | [] => 0
  | x :: r => uptoBulkEntry x + uptoBulkEntries r
def uptoBulkEntry {H : Type} : Lit × DataW H → Nat
  | (.string bytes, d) => bytes.length + uptoBulk d + 1
  | (_, d) => uptoBulk d + 1
 end
def uptoSmall : (H : Type) → List (DataW H) → Bool := fun _ ds => decide (uptoBulkAll ds ≤ 1048576)
def OpenSpec.upto (s : _root_.Go.ChangeSpec) : _root_.Go.OpenSpec := { _root_.Go.OpenSpec.ofChange s with cond := some uptoSmall }

/-- 'floodgatelaw21.ShareTells', WHERE WHAT IT READS IS OF BULK AT MOST 1048576: true; the input reads as it did. -/
def shareTellsUptoRow : OpenClaim := { program := "ytnkpoelljfbefaa", sum := "f13e0361812cc39b30b1ba00ebfe194a189bf7fc675b8194c9cbe91a66e5a078", func := "floodgate/floodgatelaw21.ShareTells", spec := "shareTells", apart := false, narrowed := true }
def ShareTellsUptoSaid : Prop := shareTellsUptoRow.holds Try.pinned (OpenSpec.upto shareTellsSpec)

/-- 'floodgatelaw21.ShareWakes', WHERE WHAT IT READS IS OF BULK AT MOST 1048576: true; the input reads as it did. -/
def shareWakesUptoRow : OpenClaim := { program := "ytnkpoelljfbefaa", sum := "f13e0361812cc39b30b1ba00ebfe194a189bf7fc675b8194c9cbe91a66e5a078", func := "floodgate/floodgatelaw21.ShareWakes", spec := "shareWakes", apart := false, narrowed := true }
def ShareWakesUptoSaid : Prop := shareWakesUptoRow.holds Try.pinned (OpenSpec.upto shareWakesSpec)

/-- 'floodgatelaw21.ShareSteps', WHERE WHAT IT READS IS OF BULK AT MOST 1048576: true; the input reads as it did. -/
def shareStepsUptoRow : OpenClaim := { program := "ytnkpoelljfbefaa", sum := "f13e0361812cc39b30b1ba00ebfe194a189bf7fc675b8194c9cbe91a66e5a078", func := "floodgate/floodgatelaw21.ShareSteps", spec := "shareSteps", apart := false, narrowed := true }
def ShareStepsUptoSaid : Prop := shareStepsUptoRow.holds Try.pinned (OpenSpec.upto shareStepsSpec)

/-- 'floodgatelaw22.UpperTells', WHERE WHAT IT READS IS OF BULK AT MOST 1048576: true; the input reads as it did. -/
def upperTellsUptoRow : OpenClaim := { program := "ytnkpoelljfbefaa", sum := "f13e0361812cc39b30b1ba00ebfe194a189bf7fc675b8194c9cbe91a66e5a078", func := "floodgate/floodgatelaw22.UpperTells", spec := "upperTells", apart := false, narrowed := true }
def UpperTellsUptoSaid : Prop := upperTellsUptoRow.holds Try.pinned (OpenSpec.upto upperTellsSpec)

/-- 'floodgatelaw22.UpperMost', WHERE WHAT IT READS IS OF BULK AT MOST 1048576: true; the input reads as it did. -/
def upperMostUptoRow : OpenClaim := { program := "ytnkpoelljfbefaa", sum := "f13e0361812cc39b30b1ba00ebfe194a189bf7fc675b8194c9cbe91a66e5a078", func := "floodgate/floodgatelaw22.UpperMost", spec := "upperMost", apart := false, narrowed := true }
def UpperMostUptoSaid : Prop := upperMostUptoRow.holds Try.pinned (OpenSpec.upto upperMostSpec)

/-- 'floodgatelaw22.UpperBounds', WHERE WHAT IT READS IS OF BULK AT MOST 1048576: true; the input reads as it did. -/
def upperBoundsUptoRow : OpenClaim := { program := "ytnkpoelljfbefaa", sum := "f13e0361812cc39b30b1ba00ebfe194a189bf7fc675b8194c9cbe91a66e5a078", func := "floodgate/floodgatelaw22.UpperBounds", spec := "upperBounds", apart := false, narrowed := true }
def UpperBoundsUptoSaid : Prop := upperBoundsUptoRow.holds Try.pinned (OpenSpec.upto upperBoundsSpec)

end Rows
end Go.Proofs.Ytnkpoelljfbefaa
