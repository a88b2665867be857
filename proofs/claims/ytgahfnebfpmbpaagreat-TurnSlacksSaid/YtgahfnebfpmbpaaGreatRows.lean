/-
  No cell of these rows narrows 'for every input' (looked for: loops, veiled, ifaces, maps, wideKeys, modest, calm, conditions, laid).
  DERIVED. THE GIVEN ROWS OF THIS SEAT. 8 by the template 'for every input the law returns true; each argument reads behind the call as it read before'; 0 by the template 'total and deterministic' (their statements: YtgahfnebfpmbpaaGreatTotals.lean).
  GIVEN WITH THE SEED: the statements are not yours to turn. If you find one false, say at which input.
  Laid BY PROGRAM, IN A SANDBOX (cutbox-rows.mjs): the forced cells as the released guide's own fill.sh prints them over the translation 1bb5bf89f7fb869e… (all of the seat's roots in one cut). By AI agents, Wed Nov 11 2026. No macro, syntax, notation, axiom, sorry.
-/
import Derived.Test.YtgahfnebfpmbpaaGreatChecked
import GoSem.Claim
import GoSem.ClaimJoined
import GoSem.ClaimMapViews
import Derived.JoinedTies
import Derived.KernelRfl
namespace Go.Proofs.YtgahfnebfpmbpaaGreat
/- THE CELL 'sum', in the pinned program and in every row, IS THE sha256 OF THE DUMP (.gsa) THAT YtgahfnebfpmbpaaGreatProg.lean LOADS. Nothing in Lean hashes anything: it is a label: what it is worth is what the hold of that sum in a sandbox is worth. -/
noncomputable def Tryz.pinned : Pinned := { name := "ytgahfnebfpmbpaagreat", sum := "1bb5bf89f7fb869ec8190a869893fdbd4cce860e60236457047410641bde7937", checked := Tryz.checked }
namespace Rows
def none {H : Type} : Left H := { results := [], args := [] }

/-- 'walkmilllaw04.TurnSlacks': WHATEVER THE INPUT: true; the input reads as it did. -/
def turnSlacksSpec : ChangeSpec := { name := "turnSlacks", fn := fun _ => fun
  | [d1, d2, d3] => { results := [.lit (.bool true)], args := [d1, d2, d3] }
  | _ => none }
def turnSlacksRow : OpenClaim := { program := "ytgahfnebfpmbpaagreat", sum := "1bb5bf89f7fb869ec8190a869893fdbd4cce860e60236457047410641bde7937", func := "walkmill/walkmilllaw04.TurnSlacks", spec := "turnSlacks", inPlace := ["slices.overlaps[int]"], unfollowed := true, recurses := true, apart := false }
def TurnSlacksSaid : Prop := turnSlacksRow.holds Tryz.pinned (OpenSpec.ofChange turnSlacksSpec)

/-- ITS FALSE NEIGHBOUR: 'it returns false'. Refute it at one input. -/
def turnSlacksWrong : ChangeSpec := { name := "turnSlacks", fn := fun _ => fun
  | [d1, d2, d3] => { results := [.lit (.bool false)], args := [d1, d2, d3] }
  | _ => none }
def TurnSlacksWrongFalsely : Prop := turnSlacksRow.holds Tryz.pinned (OpenSpec.ofChange turnSlacksWrong)

/-- 'walkmilllaw04.TurnRanks': WHATEVER THE INPUT: true; the input reads as it did. -/
def turnRanksSpec : ChangeSpec := { name := "turnRanks", fn := fun _ => fun
  | [d1, d2, d3] => { results := [.lit (.bool true)], args := [d1, d2, d3] }
  | _ => none }
def turnRanksRow : OpenClaim := { program := "ytgahfnebfpmbpaagreat", sum := "1bb5bf89f7fb869ec8190a869893fdbd4cce860e60236457047410641bde7937", func := "walkmill/walkmilllaw04.TurnRanks", spec := "turnRanks", inPlace := ["slices.overlaps[int]"], unfollowed := true, recurses := true, apart := false }
def TurnRanksSaid : Prop := turnRanksRow.holds Tryz.pinned (OpenSpec.ofChange turnRanksSpec)

/-- ITS FALSE NEIGHBOUR: 'it returns false'. Refute it at one input. -/
def turnRanksWrong : ChangeSpec := { name := "turnRanks", fn := fun _ => fun
  | [d1, d2, d3] => { results := [.lit (.bool false)], args := [d1, d2, d3] }
  | _ => none }
def TurnRanksWrongFalsely : Prop := turnRanksRow.holds Tryz.pinned (OpenSpec.ofChange turnRanksWrong)

/-- 'walkmilllaw04.TurnTruth': WHATEVER THE INPUT: true; the input reads as it did. -/
def turnTruthSpec : ChangeSpec := { name := "turnTruth", fn := fun _ => fun
  | [d1, d2, d3] => { results := [.lit (.bool true)], args := [d1, d2, d3] }
  | _ => none }
def turnTruthRow : OpenClaim := { program := "ytgahfnebfpmbpaagreat", sum := "1bb5bf89f7fb869ec8190a869893fdbd4cce860e60236457047410641bde7937", func := "walkmill/walkmilllaw04.TurnTruth", spec := "turnTruth", inPlace := ["slices.overlaps[int]"], unfollowed := true, recurses := true, apart := false }
def TurnTruthSaid : Prop := turnTruthRow.holds Tryz.pinned (OpenSpec.ofChange turnTruthSpec)

/-- ITS FALSE NEIGHBOUR: 'it returns false'. Refute it at one input. -/
def turnTruthWrong : ChangeSpec := { name := "turnTruth", fn := fun _ => fun
  | [d1, d2, d3] => { results := [.lit (.bool false)], args := [d1, d2, d3] }
  | _ => none }
def TurnTruthWrongFalsely : Prop := turnTruthRow.holds Tryz.pinned (OpenSpec.ofChange turnTruthWrong)

/-- 'walkmilllaw04.TurnCustom': WHATEVER THE INPUT: true; the input reads as it did. -/
def turnCustomSpec : ChangeSpec := { name := "turnCustom", fn := fun _ => fun
  | [d] => { results := [.lit (.bool true)], args := [d] }
  | _ => none }
def turnCustomRow : OpenClaim := { program := "ytgahfnebfpmbpaagreat", sum := "1bb5bf89f7fb869ec8190a869893fdbd4cce860e60236457047410641bde7937", func := "walkmill/walkmilllaw04.TurnCustom", spec := "turnCustom", inPlace := ["slices.overlaps[int]"], unfollowed := true, recurses := true, apart := false }
def TurnCustomSaid : Prop := turnCustomRow.holds Tryz.pinned (OpenSpec.ofChange turnCustomSpec)

/-- ITS FALSE NEIGHBOUR: 'it returns false'. Refute it at one input. -/
def turnCustomWrong : ChangeSpec := { name := "turnCustom", fn := fun _ => fun
  | [d] => { results := [.lit (.bool false)], args := [d] }
  | _ => none }
def TurnCustomWrongFalsely : Prop := turnCustomRow.holds Tryz.pinned (OpenSpec.ofChange turnCustomWrong)

/-- 'walkmilllaw04.TurnEnough': WHATEVER THE INPUT: true; the input reads as it did. -/
def turnEnoughSpec : ChangeSpec := { name := "turnEnough", fn := fun _ => fun
  | [d1, d2, d3] => { results := [.lit (.bool true)], args := [d1, d2, d3] }
  | _ => none }
def turnEnoughRow : OpenClaim := { program := "ytgahfnebfpmbpaagreat", sum := "1bb5bf89f7fb869ec8190a869893fdbd4cce860e60236457047410641bde7937", func := "walkmill/walkmilllaw04.TurnEnough", spec := "turnEnough", inPlace := ["slices.overlaps[int]"], unfollowed := true, recurses := true, apart := false }
def TurnEnoughSaid : Prop := turnEnoughRow.holds Tryz.pinned (OpenSpec.ofChange turnEnoughSpec)

/-- ITS FALSE NEIGHBOUR: 'it returns false'. Refute it at one input. -/
def turnEnoughWrong : ChangeSpec := { name := "turnEnough", fn := fun _ => fun
  | [d1, d2, d3] => { results := [.lit (.bool false)], args := [d1, d2, d3] }
  | _ => none }
def TurnEnoughWrongFalsely : Prop := turnEnoughRow.holds Tryz.pinned (OpenSpec.ofChange turnEnoughWrong)

/-- 'walkmilllaw04.TurnProof': WHATEVER THE INPUT: true; the input reads as it did. -/
def turnProofSpec : ChangeSpec := { name := "turnProof", fn := fun _ => fun
  | [d1, d2, d3] => { results := [.lit (.bool true)], args := [d1, d2, d3] }
  | _ => none }
def turnProofRow : OpenClaim := { program := "ytgahfnebfpmbpaagreat", sum := "1bb5bf89f7fb869ec8190a869893fdbd4cce860e60236457047410641bde7937", func := "walkmill/walkmilllaw04.TurnProof", spec := "turnProof", inPlace := ["slices.overlaps[int]"], unfollowed := true, recurses := true, apart := false }
def TurnProofSaid : Prop := turnProofRow.holds Tryz.pinned (OpenSpec.ofChange turnProofSpec)

/-- ITS FALSE NEIGHBOUR: 'it returns false'. Refute it at one input. -/
def turnProofWrong : ChangeSpec := { name := "turnProof", fn := fun _ => fun
  | [d1, d2, d3] => { results := [.lit (.bool false)], args := [d1, d2, d3] }
  | _ => none }
def TurnProofWrongFalsely : Prop := turnProofRow.holds Tryz.pinned (OpenSpec.ofChange turnProofWrong)

/-- 'walkmilllaw04.TurnMoved': WHATEVER THE INPUT: true; the input reads as it did. -/
def turnMovedSpec : ChangeSpec := { name := "turnMoved", fn := fun _ => fun
  | [d1, d2] => { results := [.lit (.bool true)], args := [d1, d2] }
  | _ => none }
def turnMovedRow : OpenClaim := { program := "ytgahfnebfpmbpaagreat", sum := "1bb5bf89f7fb869ec8190a869893fdbd4cce860e60236457047410641bde7937", func := "walkmill/walkmilllaw04.TurnMoved", spec := "turnMoved", inPlace := ["slices.overlaps[int]"], unfollowed := true, recurses := true, apart := false }
def TurnMovedSaid : Prop := turnMovedRow.holds Tryz.pinned (OpenSpec.ofChange turnMovedSpec)

/-- ITS FALSE NEIGHBOUR: 'it returns false'. Refute it at one input. -/
def turnMovedWrong : ChangeSpec := { name := "turnMoved", fn := fun _ => fun
  | [d1, d2] => { results := [.lit (.bool false)], args := [d1, d2] }
  | _ => none }
def TurnMovedWrongFalsely : Prop := turnMovedRow.holds Tryz.pinned (OpenSpec.ofChange turnMovedWrong)

/-- 'walkmilllaw04.TurnLonger': WHATEVER THE INPUT: true; the input reads as it did. -/
def turnLongerSpec : ChangeSpec := { name := "turnLonger", fn := fun _ => fun
  | [d1, d2] => { results := [.lit (.bool true)], args := [d1, d2] }
  | _ => none }
def turnLongerRow : OpenClaim := { program := "ytgahfnebfpmbpaagreat", sum := "1bb5bf89f7fb869ec8190a869893fdbd4cce860e60236457047410641bde7937", func := "walkmill/walkmilllaw04.TurnLonger", spec := "turnLonger", inPlace := ["slices.overlaps[int]"], unfollowed := true, recurses := true, apart := false }
def TurnLongerSaid : Prop := turnLongerRow.holds Tryz.pinned (OpenSpec.ofChange turnLongerSpec)

/-- ITS FALSE NEIGHBOUR: 'it returns false'. Refute it at one input. -/
def turnLongerWrong : ChangeSpec := { name := "turnLonger", fn := fun _ => fun
  | [d1, d2] => { results := [.lit (.bool false)], args := [d1, d2] }
  | _ => none }
def TurnLongerWrongFalsely : Prop := turnLongerRow.holds Tryz.pinned (OpenSpec.ofChange turnLongerWrong)

/- THE SECOND FORM. 'bulk': how many values and letters a reading holds, each counted each time it is reached (what is shared counts as often as it is met; a slice's spare places count too). A statement '..UptoSaid' is the law's where the arguments, and the package variables that the reading takes, are together of bulk at most 1048576: NARROWER than '..Said'. Prove '..Said' where nothing that the law and all that it calls make is longer than what came in: it says more and counts as full. Else prove '..UptoSaid'. A law counts once. -/
mutual
def uptoBulk {H : Type} : DataW H → Nat
  | .lit (.string bytes) => bytes.length + 1
  | .lit _ => 1
  | .nil => 1
  | .ptr d => uptoBulk d + 1
  | .slice elems spare => uptoBulkAll elems + uptoBulkAll spare + 1
  | .agg parts => uptoBulkAll parts + 1
  | .iface _ d => uptoBulk d + 1
  | .map entries => uptoBulkEntries entries + 1
  | .held _ => 1
def uptoBulkAll {H : Type} : List (DataW H) → Nat
  | [] => 0
  | d :: r => uptoBulk d + uptoBulkAll r
def uptoBulkEntries {H : Type} : List (Lit × DataW H) → Nat
  | [] => 0
  | x :: r => uptoBulkEntry x + uptoBulkEntries r
def uptoBulkEntry {H : Type} : Lit × DataW H → Nat
  | (.string bytes, d) => bytes.length + uptoBulk d + 1
  | (_, d) => uptoBulk d + 1
 end
def uptoSmall : (H : Type) → List (DataW H) → Bool := fun _ ds => decide (uptoBulkAll ds ≤ 1048576)
def OpenSpec.upto (s : _root_.Go.ChangeSpec) : _root_.Go.OpenSpec := { _root_.Go.OpenSpec.ofChange s with cond := some uptoSmall }

/-- 'walkmilllaw04.TurnSlacks', WHERE WHAT IT READS IS OF BULK AT MOST 1048576: true; the input reads as it did. -/
def turnSlacksUptoRow : OpenClaim := { program := "ytgahfnebfpmbpaagreat", sum := "1bb5bf89f7fb869ec8190a869893fdbd4cce860e60236457047410641bde7937", func := "walkmill/walkmilllaw04.TurnSlacks", spec := "turnSlacks", inPlace := ["slices.overlaps[int]"], unfollowed := true, recurses := true, apart := false, narrowed := true }
def TurnSlacksUptoSaid : Prop := turnSlacksUptoRow.holds Tryz.pinned (OpenSpec.upto turnSlacksSpec)

/-- 'walkmilllaw04.TurnRanks', WHERE WHAT IT READS IS OF BULK AT MOST 1048576: true; the input reads as it did. -/
def turnRanksUptoRow : OpenClaim := { program := "ytgahfnebfpmbpaagreat", sum := "1bb5bf89f7fb869ec8190a869893fdbd4cce860e60236457047410641bde7937", func := "walkmill/walkmilllaw04.TurnRanks", spec := "turnRanks", inPlace := ["slices.overlaps[int]"], unfollowed := true, recurses := true, apart := false, narrowed := true }
def TurnRanksUptoSaid : Prop := turnRanksUptoRow.holds Tryz.pinned (OpenSpec.upto turnRanksSpec)

/-- 'walkmilllaw04.TurnTruth', WHERE WHAT IT READS IS OF BULK AT MOST 1048576: true; the input reads as it did. -/
def turnTruthUptoRow : OpenClaim := { program := "ytgahfnebfpmbpaagreat", sum := "1bb5bf89f7fb869ec8190a869893fdbd4cce860e60236457047410641bde7937", func := "walkmill/walkmilllaw04.TurnTruth", spec := "turnTruth", inPlace := ["slices.overlaps[int]"], unfollowed := true, recurses := true, apart := false, narrowed := true }
def TurnTruthUptoSaid : Prop := turnTruthUptoRow.holds Tryz.pinned (OpenSpec.upto turnTruthSpec)

/-- 'walkmilllaw04.TurnCustom', WHERE WHAT IT READS IS OF BULK AT MOST 1048576: true; the input reads as it did. -/
def turnCustomUptoRow : OpenClaim := { program := "ytgahfnebfpmbpaagreat", sum := "1bb5bf89f7fb869ec8190a869893fdbd4cce860e60236457047410641bde7937", func := "walkmill/walkmilllaw04.TurnCustom", spec := "turnCustom", inPlace := ["slices.overlaps[int]"], unfollowed := true, recurses := true, apart := false, narrowed := true }
def TurnCustomUptoSaid : Prop := turnCustomUptoRow.holds Tryz.pinned (OpenSpec.upto turnCustomSpec)

/-- 'walkmilllaw04.TurnEnough', WHERE WHAT IT READS IS OF BULK AT MOST 1048576: true; the input reads as it did. -/
def turnEnoughUptoRow : OpenClaim := { program := "ytgahfnebfpmbpaagreat", sum := "1bb5bf89f7fb869ec8190a869893fdbd4cce860e60236457047410641bde7937", func := "walkmill/walkmilllaw04.TurnEnough", spec := "turnEnough", inPlace := ["slices.overlaps[int]"], unfollowed := true, recurses := true, apart := false, narrowed := true }
def TurnEnoughUptoSaid : Prop := turnEnoughUptoRow.holds Tryz.pinned (OpenSpec.upto turnEnoughSpec)

/-- 'walkmilllaw04.TurnProof', WHERE WHAT IT READS IS OF BULK AT MOST 1048576: true; the input reads as it did. -/
def turnProofUptoRow : OpenClaim := { program := "ytgahfnebfpmbpaagreat", sum := "1bb5bf89f7fb869ec8190a869893fdbd4cce860e60236457047410641bde7937", func := "walkmill/walkmilllaw04.TurnProof", spec := "turnProof", inPlace := ["slices.overlaps[int]"], unfollowed := true, recurses := true, apart := false, narrowed := true }
def TurnProofUptoSaid : Prop := turnProofUptoRow.holds Tryz.pinned (OpenSpec.upto turnProofSpec)

/-- 'walkmilllaw04.TurnMoved', WHERE WHAT IT READS IS OF BULK AT MOST 1048576: true; the input reads as it did. -/
def turnMovedUptoRow : OpenClaim := { program := "ytgahfnebfpmbpaagreat", sum := "1bb5bf89f7fb869ec8190a869893fdbd4cce860e60236457047410641bde7937", func := "walkmill/walkmilllaw04.TurnMoved", spec := "turnMoved", inPlace := ["slices.overlaps[int]"], unfollowed := true, recurses := true, apart := false, narrowed := true }
def TurnMovedUptoSaid : Prop := turnMovedUptoRow.holds Tryz.pinned (OpenSpec.upto turnMovedSpec)

/-- 'walkmilllaw04.TurnLonger', WHERE WHAT IT READS IS OF BULK AT MOST 1048576: true; the input reads as it did. -/
def turnLongerUptoRow : OpenClaim := { program := "ytgahfnebfpmbpaagreat", sum := "1bb5bf89f7fb869ec8190a869893fdbd4cce860e60236457047410641bde7937", func := "walkmill/walkmilllaw04.TurnLonger", spec := "turnLonger", inPlace := ["slices.overlaps[int]"], unfollowed := true, recurses := true, apart := false, narrowed := true }
def TurnLongerUptoSaid : Prop := turnLongerUptoRow.holds Tryz.pinned (OpenSpec.upto turnLongerSpec)

end Rows
end Go.Proofs.YtgahfnebfpmbpaaGreat
