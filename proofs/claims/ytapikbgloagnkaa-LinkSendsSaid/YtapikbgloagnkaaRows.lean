/-
  No cell of these rows narrows 'for every input' (looked for: loops, veiled, ifaces, maps, wideKeys, modest, calm, conditions, laid).
  DERIVED. THE GIVEN ROWS OF THIS SEAT. 11 by the template 'for every input the law returns true; each argument reads behind the call as it read before'; 0 by the template 'total and deterministic' (their statements: YtapikbgloagnkaaTotals.lean).
  GIVEN WITH THE SEED: the statements are not yours to turn. If you find one false, say at which input.
  Laid BY PROGRAM, IN A SANDBOX (cutbox-rows.mjs): the forced cells as the released guide's own fill.sh prints them over the translation b2fd3994c60b8e1b… (all of the seat's roots in one cut). By AI agents, Wed Nov 11 2026. No macro, syntax, notation, axiom, sorry.
-/
import Derived.Test.YtapikbgloagnkaaChecked
import GoSem.Claim
import GoSem.ClaimJoined
import GoSem.ClaimMapViews
import Derived.JoinedTies
import Derived.KernelRfl
namespace Go.Proofs.Ytapikbgloagnkaa
/- THE CELL 'sum', in the pinned program and in every row, IS THE sha256 OF THE DUMP (.gsa) THAT YtapikbgloagnkaaProg.lean LOADS. Nothing in Lean hashes anything: it is a label: what it is worth is what the hold of that sum in a sandbox is worth. -/
noncomputable def Try.pinned : Pinned := { name := "ytapikbgloagnkaa", sum := "b2fd3994c60b8e1ba60a2b8cd062272ba6d9da2a2aa6ed5354b0e7317b5aa118", checked := Try.checked }
namespace Rows
def none {H : Type} : Left H := { results := [], args := [] }

/-- 'floodgatelaw26.WakeTells': WHATEVER THE INPUT: true; the input reads as it did. -/
def wakeTellsSpec : ChangeSpec := { name := "wakeTells", fn := fun _ => fun
  | [d1, d2, d3] => { results := [.lit (.bool true)], args := [d1, d2, d3] }
  | _ => none }
def wakeTellsRow : OpenClaim := { program := "ytapikbgloagnkaa", sum := "b2fd3994c60b8e1ba60a2b8cd062272ba6d9da2a2aa6ed5354b0e7317b5aa118", func := "floodgate/floodgatelaw26.WakeTells", spec := "wakeTells", apart := false }
def WakeTellsSaid : Prop := wakeTellsRow.holds Try.pinned (OpenSpec.ofChange wakeTellsSpec)

/-- ITS FALSE NEIGHBOUR: 'it returns false'. Refute it at one input. -/
def wakeTellsWrong : ChangeSpec := { name := "wakeTells", fn := fun _ => fun
  | [d1, d2, d3] => { results := [.lit (.bool false)], args := [d1, d2, d3] }
  | _ => none }
def WakeTellsWrongFalsely : Prop := wakeTellsRow.holds Try.pinned (OpenSpec.ofChange wakeTellsWrong)

/-- 'floodgatelaw26.WakeLater': WHATEVER THE INPUT: true; the input reads as it did. -/
def wakeLaterSpec : ChangeSpec := { name := "wakeLater", fn := fun _ => fun
  | [d1, d2, d3] => { results := [.lit (.bool true)], args := [d1, d2, d3] }
  | _ => none }
def wakeLaterRow : OpenClaim := { program := "ytapikbgloagnkaa", sum := "b2fd3994c60b8e1ba60a2b8cd062272ba6d9da2a2aa6ed5354b0e7317b5aa118", func := "floodgate/floodgatelaw26.WakeLater", spec := "wakeLater", apart := false }
def WakeLaterSaid : Prop := wakeLaterRow.holds Try.pinned (OpenSpec.ofChange wakeLaterSpec)

/-- ITS FALSE NEIGHBOUR: 'it returns false'. Refute it at one input. -/
def wakeLaterWrong : ChangeSpec := { name := "wakeLater", fn := fun _ => fun
  | [d1, d2, d3] => { results := [.lit (.bool false)], args := [d1, d2, d3] }
  | _ => none }
def WakeLaterWrongFalsely : Prop := wakeLaterRow.holds Try.pinned (OpenSpec.ofChange wakeLaterWrong)

/-- 'floodgatelaw26.WakeIdles': WHATEVER THE INPUT: true; the input reads as it did. -/
def wakeIdlesSpec : ChangeSpec := { name := "wakeIdles", fn := fun _ => fun
  | [d1, d2, d3] => { results := [.lit (.bool true)], args := [d1, d2, d3] }
  | _ => none }
def wakeIdlesRow : OpenClaim := { program := "ytapikbgloagnkaa", sum := "b2fd3994c60b8e1ba60a2b8cd062272ba6d9da2a2aa6ed5354b0e7317b5aa118", func := "floodgate/floodgatelaw26.WakeIdles", spec := "wakeIdles", apart := false }
def WakeIdlesSaid : Prop := wakeIdlesRow.holds Try.pinned (OpenSpec.ofChange wakeIdlesSpec)

/-- ITS FALSE NEIGHBOUR: 'it returns false'. Refute it at one input. -/
def wakeIdlesWrong : ChangeSpec := { name := "wakeIdles", fn := fun _ => fun
  | [d1, d2, d3] => { results := [.lit (.bool false)], args := [d1, d2, d3] }
  | _ => none }
def WakeIdlesWrongFalsely : Prop := wakeIdlesRow.holds Try.pinned (OpenSpec.ofChange wakeIdlesWrong)

/-- 'floodgatelaw17.SpecRight': WHATEVER THE INPUT: true; the input reads as it did. -/
def specRightSpec : ChangeSpec := { name := "specRight", fn := fun _ => fun
  | [d] => { results := [.lit (.bool true)], args := [d] }
  | _ => none }
def specRightRow : OpenClaim := { program := "ytapikbgloagnkaa", sum := "b2fd3994c60b8e1ba60a2b8cd062272ba6d9da2a2aa6ed5354b0e7317b5aa118", func := "floodgate/floodgatelaw17.SpecRight", spec := "specRight", apart := false }
def SpecRightSaid : Prop := specRightRow.holds Try.pinned (OpenSpec.ofChange specRightSpec)

/-- ITS FALSE NEIGHBOUR: 'it returns false'. Refute it at one input. -/
def specRightWrong : ChangeSpec := { name := "specRight", fn := fun _ => fun
  | [d] => { results := [.lit (.bool false)], args := [d] }
  | _ => none }
def SpecRightWrongFalsely : Prop := specRightRow.holds Try.pinned (OpenSpec.ofChange specRightWrong)

/-- 'floodgatelaw17.SpecKinds': WHATEVER THE INPUT: true; the input reads as it did. -/
def specKindsSpec : ChangeSpec := { name := "specKinds", fn := fun _ => fun
  | [d] => { results := [.lit (.bool true)], args := [d] }
  | _ => none }
def specKindsRow : OpenClaim := { program := "ytapikbgloagnkaa", sum := "b2fd3994c60b8e1ba60a2b8cd062272ba6d9da2a2aa6ed5354b0e7317b5aa118", func := "floodgate/floodgatelaw17.SpecKinds", spec := "specKinds", apart := false }
def SpecKindsSaid : Prop := specKindsRow.holds Try.pinned (OpenSpec.ofChange specKindsSpec)

/-- ITS FALSE NEIGHBOUR: 'it returns false'. Refute it at one input. -/
def specKindsWrong : ChangeSpec := { name := "specKinds", fn := fun _ => fun
  | [d] => { results := [.lit (.bool false)], args := [d] }
  | _ => none }
def SpecKindsWrongFalsely : Prop := specKindsRow.holds Try.pinned (OpenSpec.ofChange specKindsWrong)

/-- 'floodgatelaw09.PacketEncodes': WHATEVER THE INPUT: true; the input reads as it did. -/
def packetEncodesSpec : ChangeSpec := { name := "packetEncodes", fn := fun _ => fun
  | [d] => { results := [.lit (.bool true)], args := [d] }
  | _ => none }
def packetEncodesRow : OpenClaim := { program := "ytapikbgloagnkaa", sum := "b2fd3994c60b8e1ba60a2b8cd062272ba6d9da2a2aa6ed5354b0e7317b5aa118", func := "floodgate/floodgatelaw09.PacketEncodes", spec := "packetEncodes", apart := false }
def PacketEncodesSaid : Prop := packetEncodesRow.holds Try.pinned (OpenSpec.ofChange packetEncodesSpec)

/-- ITS FALSE NEIGHBOUR: 'it returns false'. Refute it at one input. -/
def packetEncodesWrong : ChangeSpec := { name := "packetEncodes", fn := fun _ => fun
  | [d] => { results := [.lit (.bool false)], args := [d] }
  | _ => none }
def PacketEncodesWrongFalsely : Prop := packetEncodesRow.holds Try.pinned (OpenSpec.ofChange packetEncodesWrong)

/-- 'floodgatelaw09.PacketDecodes': WHATEVER THE INPUT: true; the input reads as it did. -/
def packetDecodesSpec : ChangeSpec := { name := "packetDecodes", fn := fun _ => fun
  | [d] => { results := [.lit (.bool true)], args := [d] }
  | _ => none }
def packetDecodesRow : OpenClaim := { program := "ytapikbgloagnkaa", sum := "b2fd3994c60b8e1ba60a2b8cd062272ba6d9da2a2aa6ed5354b0e7317b5aa118", func := "floodgate/floodgatelaw09.PacketDecodes", spec := "packetDecodes", apart := false }
def PacketDecodesSaid : Prop := packetDecodesRow.holds Try.pinned (OpenSpec.ofChange packetDecodesSpec)

/-- ITS FALSE NEIGHBOUR: 'it returns false'. Refute it at one input. -/
def packetDecodesWrong : ChangeSpec := { name := "packetDecodes", fn := fun _ => fun
  | [d] => { results := [.lit (.bool false)], args := [d] }
  | _ => none }
def PacketDecodesWrongFalsely : Prop := packetDecodesRow.holds Try.pinned (OpenSpec.ofChange packetDecodesWrong)

/-- 'floodgatelaw09.PacketMay': WHATEVER THE INPUT: true; the input reads as it did. -/
def packetMaySpec : ChangeSpec := { name := "packetMay", fn := fun _ => fun
  | [d1, d2, d3] => { results := [.lit (.bool true)], args := [d1, d2, d3] }
  | _ => none }
def packetMayRow : OpenClaim := { program := "ytapikbgloagnkaa", sum := "b2fd3994c60b8e1ba60a2b8cd062272ba6d9da2a2aa6ed5354b0e7317b5aa118", func := "floodgate/floodgatelaw09.PacketMay", spec := "packetMay", apart := false }
def PacketMaySaid : Prop := packetMayRow.holds Try.pinned (OpenSpec.ofChange packetMaySpec)

/-- ITS FALSE NEIGHBOUR: 'it returns false'. Refute it at one input. -/
def packetMayWrong : ChangeSpec := { name := "packetMay", fn := fun _ => fun
  | [d1, d2, d3] => { results := [.lit (.bool false)], args := [d1, d2, d3] }
  | _ => none }
def PacketMayWrongFalsely : Prop := packetMayRow.holds Try.pinned (OpenSpec.ofChange packetMayWrong)

/-- 'floodgatelaw25.LinkSends': WHATEVER THE INPUT: true; the input reads as it did. -/
def linkSendsSpec : ChangeSpec := { name := "linkSends", fn := fun _ => fun
  | [d1, d2, d3] => { results := [.lit (.bool true)], args := [d1, d2, d3] }
  | _ => none }
def linkSendsRow : OpenClaim := { program := "ytapikbgloagnkaa", sum := "b2fd3994c60b8e1ba60a2b8cd062272ba6d9da2a2aa6ed5354b0e7317b5aa118", func := "floodgate/floodgatelaw25.LinkSends", spec := "linkSends", apart := false }
def LinkSendsSaid : Prop := linkSendsRow.holds Try.pinned (OpenSpec.ofChange linkSendsSpec)

/-- ITS FALSE NEIGHBOUR: 'it returns false'. Refute it at one input. -/
def linkSendsWrong : ChangeSpec := { name := "linkSends", fn := fun _ => fun
  | [d1, d2, d3] => { results := [.lit (.bool false)], args := [d1, d2, d3] }
  | _ => none }
def LinkSendsWrongFalsely : Prop := linkSendsRow.holds Try.pinned (OpenSpec.ofChange linkSendsWrong)

/-- 'floodgatelaw25.LinkApart': WHATEVER THE INPUT: true; the input reads as it did. -/
def linkApartSpec : ChangeSpec := { name := "linkApart", fn := fun _ => fun
  | [d1, d2] => { results := [.lit (.bool true)], args := [d1, d2] }
  | _ => none }
def linkApartRow : OpenClaim := { program := "ytapikbgloagnkaa", sum := "b2fd3994c60b8e1ba60a2b8cd062272ba6d9da2a2aa6ed5354b0e7317b5aa118", func := "floodgate/floodgatelaw25.LinkApart", spec := "linkApart", apart := false }
def LinkApartSaid : Prop := linkApartRow.holds Try.pinned (OpenSpec.ofChange linkApartSpec)

/-- ITS FALSE NEIGHBOUR: 'it returns false'. Refute it at one input. -/
def linkApartWrong : ChangeSpec := { name := "linkApart", fn := fun _ => fun
  | [d1, d2] => { results := [.lit (.bool false)], args := [d1, d2] }
  | _ => none }
def LinkApartWrongFalsely : Prop := linkApartRow.holds Try.pinned (OpenSpec.ofChange linkApartWrong)

/-- 'floodgatelaw25.LinkNil': WHATEVER THE INPUT: true; the input reads as it did. -/
def linkNilSpec : ChangeSpec := { name := "linkNil", fn := fun _ => fun
  | [d] => { results := [.lit (.bool true)], args := [d] }
  | _ => none }
def linkNilRow : OpenClaim := { program := "ytapikbgloagnkaa", sum := "b2fd3994c60b8e1ba60a2b8cd062272ba6d9da2a2aa6ed5354b0e7317b5aa118", func := "floodgate/floodgatelaw25.LinkNil", spec := "linkNil", apart := false }
def LinkNilSaid : Prop := linkNilRow.holds Try.pinned (OpenSpec.ofChange linkNilSpec)

/-- ITS FALSE NEIGHBOUR: 'it returns false'. Refute it at one input. -/
def linkNilWrong : ChangeSpec := { name := "linkNil", fn := fun _ => fun
  | [d] => { results := [.lit (.bool false)], args := [d] }
  | _ => none }
def LinkNilWrongFalsely : Prop := linkNilRow.holds Try.pinned (OpenSpec.ofChange linkNilWrong)

/- THE SECOND FORM. 'bulk': how many values and letters a reading holds, each counted each time it is reached (what is shared counts as often as it is met; a slice's spare places count too). A statement '..UptoSaid' is the law's where the arguments, and the package variables that the reading takes, are together of bulk at most 1048576: NARROWER than '..Said'. Prove '..Said' where nothing that the law and all that it calls make is longer than what came in: it says more and counts as full. Else prove '..UptoSaid'. A law counts once. -/
mutual
def uptoBulk {H : Type} : DataW H → Nat
  | .lit (.string bytes) => bytes.length + 1
  | .lit _ => 1
  | .nil => 1
  | .ptr d => uptoBulk d + 1
  | .slice elems spare => uptoBulkAll elems + uptoBulkAll spare + 1
  | .agg parts => uptoBulkAll parts + 1
  | .iface _ d => uptoBulk d + 1
  | .map entries => uptoBulkEntries entries + 1
  | .held _ => 1
def uptoBulkAll {H : Type} : List (DataW H) → Nat
  | [] => 0
  | d :: r => uptoBulk d + uptoBulkAll r
def uptoBulkEntries {H : Type} : List (Lit × DataW H) → Nat
  | [] => 0
  | x :: r => uptoBulkEntry x + uptoBulkEntries r
def uptoBulkEntry {H : Type} : Lit × DataW H → Nat
  | (.string bytes, d) => bytes.length + uptoBulk d + 1
  | (_, d) => uptoBulk d + 1
 end
def uptoSmall : (H : Type) → List (DataW H) → Bool := fun _ ds => decide (uptoBulkAll ds ≤ 1048576)
def OpenSpec.upto (s : _root_.Go.ChangeSpec) : _root_.Go.OpenSpec := { _root_.Go.OpenSpec.ofChange s with cond := some uptoSmall }

/-- 'floodgatelaw26.WakeTells', WHERE WHAT IT READS IS OF BULK AT MOST 1048576: true; the input reads as it did. -/
def wakeTellsUptoRow : OpenClaim := { program := "ytapikbgloagnkaa", sum := "b2fd3994c60b8e1ba60a2b8cd062272ba6d9da2a2aa6ed5354b0e7317b5aa118", func := "floodgate/floodgatelaw26.WakeTells", spec := "wakeTells", apart := false, narrowed := true }
def WakeTellsUptoSaid : Prop := wakeTellsUptoRow.holds Try.pinned (OpenSpec.upto wakeTellsSpec)

/-- 'floodgatelaw26.WakeLater', WHERE WHAT IT READS IS OF BULK AT MOST 1048576: true; the input reads as it did. -/
def wakeLaterUptoRow : OpenClaim := { program := "ytapikbgloagnkaa", sum := "b2fd3994c60b8e1ba60a2b8cd062272ba6d9da2a2aa6ed5354b0e7317b5aa118", func := "floodgate/floodgatelaw26.WakeLater", spec := "wakeLater", apart := false, narrowed := true }
def WakeLaterUptoSaid : Prop := wakeLaterUptoRow.holds Try.pinned (OpenSpec.upto wakeLaterSpec)

/-- 'floodgatelaw26.WakeIdles', WHERE WHAT IT READS IS OF BULK AT MOST 1048576: true; the input reads as it did. -/
def wakeIdlesUptoRow : OpenClaim := { program := "ytapikbgloagnkaa", sum := "b2fd3994c60b8e1ba60a2b8cd062272ba6d9da2a2aa6ed5354b0e7317b5aa118", func := "floodgate/floodgatelaw26.WakeIdles", spec := "wakeIdles", apart := false, narrowed := true }
def WakeIdlesUptoSaid : Prop := wakeIdlesUptoRow.holds Try.pinned (OpenSpec.upto wakeIdlesSpec)

/-- 'floodgatelaw17.SpecRight', WHERE WHAT IT READS IS OF BULK AT MOST 1048576: true; the input reads as it did. -/
def specRightUptoRow : OpenClaim := { program := "ytapikbgloagnkaa", sum := "b2fd3994c60b8e1ba60a2b8cd062272ba6d9da2a2aa6ed5354b0e7317b5aa118", func := "floodgate/floodgatelaw17.SpecRight", spec := "specRight", apart := false, narrowed := true }
def SpecRightUptoSaid : Prop := specRightUptoRow.holds Try.pinned (OpenSpec.upto specRightSpec)

/-- 'floodgatelaw17.SpecKinds', WHERE WHAT IT READS IS OF BULK AT MOST 1048576: true; the input reads as it did. -/
def specKindsUptoRow : OpenClaim := { program := "ytapikbgloagnkaa", sum := "b2fd3994c60b8e1ba60a2b8cd062272ba6d9da2a2aa6ed5354b0e7317b5aa118", func := "floodgate/floodgatelaw17.SpecKinds", spec := "specKinds", apart := false, narrowed := true }
def SpecKindsUptoSaid : Prop := specKindsUptoRow.holds Try.pinned (OpenSpec.upto specKindsSpec)

/-- 'floodgatelaw09.PacketEncodes', WHERE WHAT IT READS IS OF BULK AT MOST 1048576: true; the input reads as it did. -/
def packetEncodesUptoRow : OpenClaim := { program := "ytapikbgloagnkaa", sum := "b2fd3994c60b8e1ba60a2b8cd062272ba6d9da2a2aa6ed5354b0e7317b5aa118", func := "floodgate/floodgatelaw09.PacketEncodes", spec := "packetEncodes", apart := false, narrowed := true }
def PacketEncodesUptoSaid : Prop := packetEncodesUptoRow.holds Try.pinned (OpenSpec.upto packetEncodesSpec)

/-- 'floodgatelaw09.PacketDecodes', WHERE WHAT IT READS IS OF BULK AT MOST 1048576: true; the input reads as it did. -/
def packetDecodesUptoRow : OpenClaim := { program := "ytapikbgloagnkaa", sum := "b2fd3994c60b8e1ba60a2b8cd062272ba6d9da2a2aa6ed5354b0e7317b5aa118", func := "floodgate/floodgatelaw09.PacketDecodes", spec := "packetDecodes", apart := false, narrowed := true }
def PacketDecodesUptoSaid : Prop := packetDecodesUptoRow.holds Try.pinned (OpenSpec.upto packetDecodesSpec)

/-- 'floodgatelaw09.PacketMay', WHERE WHAT IT READS IS OF BULK AT MOST 1048576: true; the input reads as it did. -/
def packetMayUptoRow : OpenClaim := { program := "ytapikbgloagnkaa", sum := "b2fd3994c60b8e1ba60a2b8cd062272ba6d9da2a2aa6ed5354b0e7317b5aa118", func := "floodgate/floodgatelaw09.PacketMay", spec := "packetMay", apart := false, narrowed := true }
def PacketMayUptoSaid : Prop := packetMayUptoRow.holds Try.pinned (OpenSpec.upto packetMaySpec)

/-- 'floodgatelaw25.LinkSends', WHERE WHAT IT READS IS OF BULK AT MOST 1048576: true; the input reads as it did. -/
def linkSendsUptoRow : OpenClaim := { program := "ytapikbgloagnkaa", sum := "b2fd3994c60b8e1ba60a2b8cd062272ba6d9da2a2aa6ed5354b0e7317b5aa118", func := "floodgate/floodgatelaw25.LinkSends", spec := "linkSends", apart := false, narrowed := true }
def LinkSendsUptoSaid : Prop := linkSendsUptoRow.holds Try.pinned (OpenSpec.upto linkSendsSpec)

/-- 'floodgatelaw25.LinkApart', WHERE WHAT IT READS IS OF BULK AT MOST 1048576: true; the input reads as it did. -/
def linkApartUptoRow : OpenClaim := { program := "ytapikbgloagnkaa", sum := "b2fd3994c60b8e1ba60a2b8cd062272ba6d9da2a2aa6ed5354b0e7317b5aa118", func := "floodgate/floodgatelaw25.LinkApart", spec := "linkApart", apart := false, narrowed := true }
def LinkApartUptoSaid : Prop := linkApartUptoRow.holds Try.pinned (OpenSpec.upto linkApartSpec)

/-- 'floodgatelaw25.LinkNil', WHERE WHAT IT READS IS OF BULK AT MOST 1048576: true; the input reads as it did. -/
def linkNilUptoRow : OpenClaim := { program := "ytapikbgloagnkaa", sum := "b2fd3994c60b8e1ba60a2b8cd062272ba6d9da2a2aa6ed5354b0e7317b5aa118", func := "floodgate/floodgatelaw25.LinkNil", spec := "linkNil", apart := false, narrowed := true }
def LinkNilUptoSaid : Prop := linkNilUptoRow.holds Try.pinned (OpenSpec.upto linkNilSpec)

end Rows
end Go.Proofs.Ytapikbgloagnkaa
