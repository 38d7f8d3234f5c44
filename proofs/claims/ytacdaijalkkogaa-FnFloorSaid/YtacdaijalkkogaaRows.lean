/-
  No cell of these rows narrows 'for every input' (looked for: loops, veiled, ifaces, maps, wideKeys, modest, calm, conditions, laid).
  DERIVED. THE GIVEN ROWS OF THIS SEAT. 12 by the template 'for every input the law returns true; each argument reads behind the call as it read before'; 0 by the template 'total and deterministic' (their statements: YtacdaijalkkogaaTotals.lean).
  GIVEN WITH THE SEED: the statements are not yours to turn. If you find one false, say at which input.
  Laid BY PROGRAM, IN A SANDBOX (cutbox-rows.mjs): the forced cells as the released guide's own fill.sh prints them over the translation d3e786a5f346d80b… (all of the seat's roots in one cut). By AI agents, Wed Nov 11 2026. No macro, syntax, notation, axiom, sorry.
-/
import Derived.Test.YtacdaijalkkogaaChecked
import GoSem.Claim
import GoSem.ClaimJoined
import GoSem.ClaimMapViews
import Derived.JoinedTies
import Derived.KernelRfl
namespace Go.Proofs.Ytacdaijalkkogaa
/- THE CELL 'sum', in the pinned program and in every row, IS THE sha256 OF THE DUMP (.gsa) THAT YtacdaijalkkogaaProg.lean LOADS. Nothing in Lean hashes anything: it is a label: what it is worth is what the hold of that sum in a sandbox is worth. -/
noncomputable def Try.pinned : Pinned := { name := "ytacdaijalkkogaa", sum := "d3e786a5f346d80b2eb718df89d39735f4e51b1f7452b13bcbfd2068382ddbe7", checked := Try.checked }
namespace Rows
def none {H : Type} : Left H := { results := [], args := [] }

/-- 'laws.FnExactMakeRat': WHATEVER THE INPUT: true; the input reads as it did. -/
def fnExactMakeRatSpec : ChangeSpec := { name := "fnExactMakeRat", fn := fun _ => fun
  | [d1, d2] => { results := [.lit (.bool true)], args := [d1, d2] }
  | _ => none }
def fnExactMakeRatRow : OpenClaim := { program := "ytacdaijalkkogaa", sum := "d3e786a5f346d80b2eb718df89d39735f4e51b1f7452b13bcbfd2068382ddbe7", func := "loop.example/g00615/laws.FnExactMakeRat", spec := "fnExactMakeRat", unfollowed := true, recurses := true, apart := false }
def FnExactMakeRatSaid : Prop := fnExactMakeRatRow.holds Try.pinned (OpenSpec.ofChange fnExactMakeRatSpec)

/-- ITS FALSE NEIGHBOUR: 'it returns false'. Refute it at one input. -/
def fnExactMakeRatWrong : ChangeSpec := { name := "fnExactMakeRat", fn := fun _ => fun
  | [d1, d2] => { results := [.lit (.bool false)], args := [d1, d2] }
  | _ => none }
def FnExactMakeRatWrongFalsely : Prop := fnExactMakeRatRow.holds Try.pinned (OpenSpec.ofChange fnExactMakeRatWrong)

/-- 'laws.FnExactRatOK': WHATEVER THE INPUT: true; the input reads as it did. -/
def fnExactRatOKSpec : ChangeSpec := { name := "fnExactRatOK", fn := fun _ => fun
  | [d] => { results := [.lit (.bool true)], args := [d] }
  | _ => none }
def fnExactRatOKRow : OpenClaim := { program := "ytacdaijalkkogaa", sum := "d3e786a5f346d80b2eb718df89d39735f4e51b1f7452b13bcbfd2068382ddbe7", func := "loop.example/g00615/laws.FnExactRatOK", spec := "fnExactRatOK", unfollowed := true, recurses := true, apart := false }
def FnExactRatOKSaid : Prop := fnExactRatOKRow.holds Try.pinned (OpenSpec.ofChange fnExactRatOKSpec)

/-- ITS FALSE NEIGHBOUR: 'it returns false'. Refute it at one input. -/
def fnExactRatOKWrong : ChangeSpec := { name := "fnExactRatOK", fn := fun _ => fun
  | [d] => { results := [.lit (.bool false)], args := [d] }
  | _ => none }
def FnExactRatOKWrongFalsely : Prop := fnExactRatOKRow.holds Try.pinned (OpenSpec.ofChange fnExactRatOKWrong)

/-- 'laws.FnExactNegRat': WHATEVER THE INPUT: true; the input reads as it did. -/
def fnExactNegRatSpec : ChangeSpec := { name := "fnExactNegRat", fn := fun _ => fun
  | [d] => { results := [.lit (.bool true)], args := [d] }
  | _ => none }
def fnExactNegRatRow : OpenClaim := { program := "ytacdaijalkkogaa", sum := "d3e786a5f346d80b2eb718df89d39735f4e51b1f7452b13bcbfd2068382ddbe7", func := "loop.example/g00615/laws.FnExactNegRat", spec := "fnExactNegRat", unfollowed := true, recurses := true, apart := false }
def FnExactNegRatSaid : Prop := fnExactNegRatRow.holds Try.pinned (OpenSpec.ofChange fnExactNegRatSpec)

/-- ITS FALSE NEIGHBOUR: 'it returns false'. Refute it at one input. -/
def fnExactNegRatWrong : ChangeSpec := { name := "fnExactNegRat", fn := fun _ => fun
  | [d] => { results := [.lit (.bool false)], args := [d] }
  | _ => none }
def FnExactNegRatWrongFalsely : Prop := fnExactNegRatRow.holds Try.pinned (OpenSpec.ofChange fnExactNegRatWrong)

/-- 'laws.FnExactCmpRat': WHATEVER THE INPUT: true; the input reads as it did. -/
def fnExactCmpRatSpec : ChangeSpec := { name := "fnExactCmpRat", fn := fun _ => fun
  | [d1, d2] => { results := [.lit (.bool true)], args := [d1, d2] }
  | _ => none }
def fnExactCmpRatRow : OpenClaim := { program := "ytacdaijalkkogaa", sum := "d3e786a5f346d80b2eb718df89d39735f4e51b1f7452b13bcbfd2068382ddbe7", func := "loop.example/g00615/laws.FnExactCmpRat", spec := "fnExactCmpRat", unfollowed := true, recurses := true, apart := false }
def FnExactCmpRatSaid : Prop := fnExactCmpRatRow.holds Try.pinned (OpenSpec.ofChange fnExactCmpRatSpec)

/-- ITS FALSE NEIGHBOUR: 'it returns false'. Refute it at one input. -/
def fnExactCmpRatWrong : ChangeSpec := { name := "fnExactCmpRat", fn := fun _ => fun
  | [d1, d2] => { results := [.lit (.bool false)], args := [d1, d2] }
  | _ => none }
def FnExactCmpRatWrongFalsely : Prop := fnExactCmpRatRow.holds Try.pinned (OpenSpec.ofChange fnExactCmpRatWrong)

/-- 'laws.FnExactMulRat': WHATEVER THE INPUT: true; the input reads as it did. -/
def fnExactMulRatSpec : ChangeSpec := { name := "fnExactMulRat", fn := fun _ => fun
  | [d1, d2] => { results := [.lit (.bool true)], args := [d1, d2] }
  | _ => none }
def fnExactMulRatRow : OpenClaim := { program := "ytacdaijalkkogaa", sum := "d3e786a5f346d80b2eb718df89d39735f4e51b1f7452b13bcbfd2068382ddbe7", func := "loop.example/g00615/laws.FnExactMulRat", spec := "fnExactMulRat", unfollowed := true, recurses := true, apart := false }
def FnExactMulRatSaid : Prop := fnExactMulRatRow.holds Try.pinned (OpenSpec.ofChange fnExactMulRatSpec)

/-- ITS FALSE NEIGHBOUR: 'it returns false'. Refute it at one input. -/
def fnExactMulRatWrong : ChangeSpec := { name := "fnExactMulRat", fn := fun _ => fun
  | [d1, d2] => { results := [.lit (.bool false)], args := [d1, d2] }
  | _ => none }
def FnExactMulRatWrongFalsely : Prop := fnExactMulRatRow.holds Try.pinned (OpenSpec.ofChange fnExactMulRatWrong)

/-- 'laws.FnExactFloorRat': WHATEVER THE INPUT: true; the input reads as it did. -/
def fnExactFloorRatSpec : ChangeSpec := { name := "fnExactFloorRat", fn := fun _ => fun
  | [d] => { results := [.lit (.bool true)], args := [d] }
  | _ => none }
def fnExactFloorRatRow : OpenClaim := { program := "ytacdaijalkkogaa", sum := "d3e786a5f346d80b2eb718df89d39735f4e51b1f7452b13bcbfd2068382ddbe7", func := "loop.example/g00615/laws.FnExactFloorRat", spec := "fnExactFloorRat", unfollowed := true, recurses := true, apart := false }
def FnExactFloorRatSaid : Prop := fnExactFloorRatRow.holds Try.pinned (OpenSpec.ofChange fnExactFloorRatSpec)

/-- ITS FALSE NEIGHBOUR: 'it returns false'. Refute it at one input. -/
def fnExactFloorRatWrong : ChangeSpec := { name := "fnExactFloorRat", fn := fun _ => fun
  | [d] => { results := [.lit (.bool false)], args := [d] }
  | _ => none }
def FnExactFloorRatWrongFalsely : Prop := fnExactFloorRatRow.holds Try.pinned (OpenSpec.ofChange fnExactFloorRatWrong)

/-- 'laws.FnExactDivRat': WHATEVER THE INPUT: true; the input reads as it did. -/
def fnExactDivRatSpec : ChangeSpec := { name := "fnExactDivRat", fn := fun _ => fun
  | [d1, d2] => { results := [.lit (.bool true)], args := [d1, d2] }
  | _ => none }
def fnExactDivRatRow : OpenClaim := { program := "ytacdaijalkkogaa", sum := "d3e786a5f346d80b2eb718df89d39735f4e51b1f7452b13bcbfd2068382ddbe7", func := "loop.example/g00615/laws.FnExactDivRat", spec := "fnExactDivRat", unfollowed := true, recurses := true, apart := false }
def FnExactDivRatSaid : Prop := fnExactDivRatRow.holds Try.pinned (OpenSpec.ofChange fnExactDivRatSpec)

/-- ITS FALSE NEIGHBOUR: 'it returns false'. Refute it at one input. -/
def fnExactDivRatWrong : ChangeSpec := { name := "fnExactDivRat", fn := fun _ => fun
  | [d1, d2] => { results := [.lit (.bool false)], args := [d1, d2] }
  | _ => none }
def FnExactDivRatWrongFalsely : Prop := fnExactDivRatRow.holds Try.pinned (OpenSpec.ofChange fnExactDivRatWrong)

/-- 'laws.FnExactPowRat': WHATEVER THE INPUT: true; the input reads as it did. -/
def fnExactPowRatSpec : ChangeSpec := { name := "fnExactPowRat", fn := fun _ => fun
  | [d1, d2] => { results := [.lit (.bool true)], args := [d1, d2] }
  | _ => none }
def fnExactPowRatRow : OpenClaim := { program := "ytacdaijalkkogaa", sum := "d3e786a5f346d80b2eb718df89d39735f4e51b1f7452b13bcbfd2068382ddbe7", func := "loop.example/g00615/laws.FnExactPowRat", spec := "fnExactPowRat", unfollowed := true, recurses := true, apart := false }
def FnExactPowRatSaid : Prop := fnExactPowRatRow.holds Try.pinned (OpenSpec.ofChange fnExactPowRatSpec)

/-- ITS FALSE NEIGHBOUR: 'it returns false'. Refute it at one input. -/
def fnExactPowRatWrong : ChangeSpec := { name := "fnExactPowRat", fn := fun _ => fun
  | [d1, d2] => { results := [.lit (.bool false)], args := [d1, d2] }
  | _ => none }
def FnExactPowRatWrongFalsely : Prop := fnExactPowRatRow.holds Try.pinned (OpenSpec.ofChange fnExactPowRatWrong)

/-- 'laws.FnExactAddRat': WHATEVER THE INPUT: true; the input reads as it did. -/
def fnExactAddRatSpec : ChangeSpec := { name := "fnExactAddRat", fn := fun _ => fun
  | [d1, d2] => { results := [.lit (.bool true)], args := [d1, d2] }
  | _ => none }
def fnExactAddRatRow : OpenClaim := { program := "ytacdaijalkkogaa", sum := "d3e786a5f346d80b2eb718df89d39735f4e51b1f7452b13bcbfd2068382ddbe7", func := "loop.example/g00615/laws.FnExactAddRat", spec := "fnExactAddRat", unfollowed := true, recurses := true, apart := false }
def FnExactAddRatSaid : Prop := fnExactAddRatRow.holds Try.pinned (OpenSpec.ofChange fnExactAddRatSpec)

/-- ITS FALSE NEIGHBOUR: 'it returns false'. Refute it at one input. -/
def fnExactAddRatWrong : ChangeSpec := { name := "fnExactAddRat", fn := fun _ => fun
  | [d1, d2] => { results := [.lit (.bool false)], args := [d1, d2] }
  | _ => none }
def FnExactAddRatWrongFalsely : Prop := fnExactAddRatRow.holds Try.pinned (OpenSpec.ofChange fnExactAddRatWrong)

/-- 'laws.FnExactSubRat': WHATEVER THE INPUT: true; the input reads as it did. -/
def fnExactSubRatSpec : ChangeSpec := { name := "fnExactSubRat", fn := fun _ => fun
  | [d1, d2] => { results := [.lit (.bool true)], args := [d1, d2] }
  | _ => none }
def fnExactSubRatRow : OpenClaim := { program := "ytacdaijalkkogaa", sum := "d3e786a5f346d80b2eb718df89d39735f4e51b1f7452b13bcbfd2068382ddbe7", func := "loop.example/g00615/laws.FnExactSubRat", spec := "fnExactSubRat", unfollowed := true, recurses := true, apart := false }
def FnExactSubRatSaid : Prop := fnExactSubRatRow.holds Try.pinned (OpenSpec.ofChange fnExactSubRatSpec)

/-- ITS FALSE NEIGHBOUR: 'it returns false'. Refute it at one input. -/
def fnExactSubRatWrong : ChangeSpec := { name := "fnExactSubRat", fn := fun _ => fun
  | [d1, d2] => { results := [.lit (.bool false)], args := [d1, d2] }
  | _ => none }
def FnExactSubRatWrongFalsely : Prop := fnExactSubRatRow.holds Try.pinned (OpenSpec.ofChange fnExactSubRatWrong)

/-- 'laws.FnField': WHATEVER THE INPUT: true; the input reads as it did. -/
def fnFieldSpec : ChangeSpec := { name := "fnField", fn := fun _ => fun
  | [d1, d2] => { results := [.lit (.bool true)], args := [d1, d2] }
  | _ => none }
def fnFieldRow : OpenClaim := { program := "ytacdaijalkkogaa", sum := "d3e786a5f346d80b2eb718df89d39735f4e51b1f7452b13bcbfd2068382ddbe7", func := "loop.example/g00615/laws.FnField", spec := "fnField", unfollowed := true, recurses := true, apart := false }
def FnFieldSaid : Prop := fnFieldRow.holds Try.pinned (OpenSpec.ofChange fnFieldSpec)

/-- ITS FALSE NEIGHBOUR: 'it returns false'. Refute it at one input. -/
def fnFieldWrong : ChangeSpec := { name := "fnField", fn := fun _ => fun
  | [d1, d2] => { results := [.lit (.bool false)], args := [d1, d2] }
  | _ => none }
def FnFieldWrongFalsely : Prop := fnFieldRow.holds Try.pinned (OpenSpec.ofChange fnFieldWrong)

/-- 'laws.FnFloor': WHATEVER THE INPUT: true; the input reads as it did. -/
def fnFloorSpec : ChangeSpec := { name := "fnFloor", fn := fun _ => fun
  | [d1, d2] => { results := [.lit (.bool true)], args := [d1, d2] }
  | _ => none }
def fnFloorRow : OpenClaim := { program := "ytacdaijalkkogaa", sum := "d3e786a5f346d80b2eb718df89d39735f4e51b1f7452b13bcbfd2068382ddbe7", func := "loop.example/g00615/laws.FnFloor", spec := "fnFloor", unfollowed := true, recurses := true, apart := false }
def FnFloorSaid : Prop := fnFloorRow.holds Try.pinned (OpenSpec.ofChange fnFloorSpec)

/-- ITS FALSE NEIGHBOUR: 'it returns false'. Refute it at one input. -/
def fnFloorWrong : ChangeSpec := { name := "fnFloor", fn := fun _ => fun
  | [d1, d2] => { results := [.lit (.bool false)], args := [d1, d2] }
  | _ => none }
def FnFloorWrongFalsely : Prop := fnFloorRow.holds Try.pinned (OpenSpec.ofChange fnFloorWrong)

/- THE SECOND FORM. 'bulk': how many values and letters a reading holds, each counted each time it is reached (what is shared counts as often as it is met; a slice's spare places count too). A statement '..UptoSaid' is the law's where the arguments, and the package variables that the reading takes, are together of bulk at most 1048576: NARROWER than '..Said'. Prove '..Said' where nothing that the law and all that it calls make is longer than what came in: it says more and counts as full. Else prove '..UptoSaid'. A law counts once. -/
mutual
def uptoBulk {H : Type} : DataW H → Nat
  | .lit (.string bytes) => bytes.length + 1
  | .lit _ => 1
  | .nil => 1
  | .ptr d => uptoBulk d + 1
  | .slice elems spare => uptoBulkAll elems + uptoBulkAll spare + 1
  | .agg parts => uptoBulkAll parts + 1
  | .iface _ d => uptoBulk d + 1
  | .map entries => uptoBulkEntries entries + 1
  | .held _ => 1
def uptoBulkAll {H : Type} : List (DataW H) → Nat
  | [] => 0
  | d :: r => uptoBulk d + uptoBulkAll r
def uptoBulkEntries {H : Type} : List (Lit × DataW H) → Nat
  | [] => 0
  | x :: r => uptoBulkEntry x + uptoBulkEntries r
def uptoBulkEntry {H : Type} : Lit × DataW H → Nat
  | (.string bytes, d) => bytes.length + uptoBulk d + 1
  | (_, d) => uptoBulk d + 1
 end
def uptoSmall : (H : Type) → List (DataW H) → Bool := fun _ ds => decide (uptoBulkAll ds ≤ 1048576)
def OpenSpec.upto (s : _root_.Go.ChangeSpec) : _root_.Go.OpenSpec := { _root_.Go.OpenSpec.ofChange s with cond := some uptoSmall }

/-- 'laws.FnExactMakeRat', WHERE WHAT IT READS IS OF BULK AT MOST 1048576: true; the input reads as it did. -/
def fnExactMakeRatUptoRow : OpenClaim := { program := "ytacdaijalkkogaa", sum := "d3e786a5f346d80b2eb718df89d39735f4e51b1f7452b13bcbfd2068382ddbe7", func := "loop.example/g00615/laws.FnExactMakeRat", spec := "fnExactMakeRat", unfollowed := true, recurses := true, apart := false, narrowed := true }
def FnExactMakeRatUptoSaid : Prop := fnExactMakeRatUptoRow.holds Try.pinned (OpenSpec.upto fnExactMakeRatSpec)

/-- 'laws.FnExactRatOK', WHERE WHAT IT READS IS OF BULK AT MOST 1048576: true; the input reads as it did. -/
def fnExactRatOKUptoRow : OpenClaim := { program := "ytacdaijalkkogaa", sum := "d3e786a5f346d80b2eb718df89d39735f4e51b1f7452b13bcbfd2068382ddbe7", func := "loop.example/g00615/laws.FnExactRatOK", spec := "fnExactRatOK", unfollowed := true, recurses := true, apart := false, narrowed := true }
def FnExactRatOKUptoSaid : Prop := fnExactRatOKUptoRow.holds Try.pinned (OpenSpec.upto fnExactRatOKSpec)

/-- 'laws.FnExactNegRat', WHERE WHAT IT READS IS OF BULK AT MOST 1048576: true; the input reads as it did. -/
def fnExactNegRatUptoRow : OpenClaim := { program := "ytacdaijalkkogaa", sum := "d3e786a5f346d80b2eb718df89d39735f4e51b1f7452b13bcbfd2068382ddbe7", func := "loop.example/g00615/laws.FnExactNegRat", spec := "fnExactNegRat", unfollowed := true, recurses := true, apart := false, narrowed := true }
def FnExactNegRatUptoSaid : Prop := fnExactNegRatUptoRow.holds Try.pinned (OpenSpec.upto fnExactNegRatSpec)

/-- 'laws.FnExactCmpRat', WHERE WHAT IT READS IS OF BULK AT MOST 1048576: true; the input reads as it did. -/
def fnExactCmpRatUptoRow : OpenClaim := { program := "ytacdaijalkkogaa", sum := "d3e786a5f346d80b2eb718df89d39735f4e51b1f7452b13bcbfd2068382ddbe7", func := "loop.example/g00615/laws.FnExactCmpRat", spec := "fnExactCmpRat", unfollowed := true, recurses := true, apart := false, narrowed := true }
def FnExactCmpRatUptoSaid : Prop := fnExactCmpRatUptoRow.holds Try.pinned (OpenSpec.upto fnExactCmpRatSpec)

/-- 'laws.FnExactMulRat', WHERE WHAT IT READS IS OF BULK AT MOST 1048576: true; the input reads as it did. -/
def fnExactMulRatUptoRow : OpenClaim := { program := "ytacdaijalkkogaa", sum := "d3e786a5f346d80b2eb718df89d39735f4e51b1f7452b13bcbfd2068382ddbe7", func := "loop.example/g00615/laws.FnExactMulRat", spec := "fnExactMulRat", unfollowed := true, recurses := true, apart := false, narrowed := true }
def FnExactMulRatUptoSaid : Prop := fnExactMulRatUptoRow.holds Try.pinned (OpenSpec.upto fnExactMulRatSpec)

/-- 'laws.FnExactFloorRat', WHERE WHAT IT READS IS OF BULK AT MOST 1048576: true; the input reads as it did. -/
def fnExactFloorRatUptoRow : OpenClaim := { program := "ytacdaijalkkogaa", sum := "d3e786a5f346d80b2eb718df89d39735f4e51b1f7452b13bcbfd2068382ddbe7", func := "loop.example/g00615/laws.FnExactFloorRat", spec := "fnExactFloorRat", unfollowed := true, recurses := true, apart := false, narrowed := true }
def FnExactFloorRatUptoSaid : Prop := fnExactFloorRatUptoRow.holds Try.pinned (OpenSpec.upto fnExactFloorRatSpec)

/-- 'laws.FnExactDivRat', WHERE WHAT IT READS IS OF BULK AT MOST 1048576: true; the input reads as it did. -/
def fnExactDivRatUptoRow : OpenClaim := { program := "ytacdaijalkkogaa", sum := "d3e786a5f346d80b2eb718df89d39735f4e51b1f7452b13bcbfd2068382ddbe7", func := "loop.example/g00615/laws.FnExactDivRat", spec := "fnExactDivRat", unfollowed := true, recurses := true, apart := false, narrowed := true }
def FnExactDivRatUptoSaid : Prop := fnExactDivRatUptoRow.holds Try.pinned (OpenSpec.upto fnExactDivRatSpec)

/-- 'laws.FnExactPowRat', WHERE WHAT IT READS IS OF BULK AT MOST 1048576: true; the input reads as it did. -/
def fnExactPowRatUptoRow : OpenClaim := { program := "ytacdaijalkkogaa", sum := "d3e786a5f346d80b2eb718df89d39735f4e51b1f7452b13bcbfd2068382ddbe7", func := "loop.example/g00615/laws.FnExactPowRat", spec := "fnExactPowRat", unfollowed := true, recurses := true, apart := false, narrowed := true }
def FnExactPowRatUptoSaid : Prop := fnExactPowRatUptoRow.holds Try.pinned (OpenSpec.upto fnExactPowRatSpec)

/-- 'laws.FnExactAddRat', WHERE WHAT IT READS IS OF BULK AT MOST 1048576: true; the input reads as it did. -/
def fnExactAddRatUptoRow : OpenClaim := { program := "ytacdaijalkkogaa", sum := "d3e786a5f346d80b2eb718df89d39735f4e51b1f7452b13bcbfd2068382ddbe7", func := "loop.example/g00615/laws.FnExactAddRat", spec := "fnExactAddRat", unfollowed := true, recurses := true, apart := false, narrowed := true }
def FnExactAddRatUptoSaid : Prop := fnExactAddRatUptoRow.holds Try.pinned (OpenSpec.upto fnExactAddRatSpec)

/-- 'laws.FnExactSubRat', WHERE WHAT IT READS IS OF BULK AT MOST 1048576: true; the input reads as it did. -/
def fnExactSubRatUptoRow : OpenClaim := { program := "ytacdaijalkkogaa", sum := "d3e786a5f346d80b2eb718df89d39735f4e51b1f7452b13bcbfd2068382ddbe7", func := "loop.example/g00615/laws.FnExactSubRat", spec := "fnExactSubRat", unfollowed := true, recurses := true, apart := false, narrowed := true }
def FnExactSubRatUptoSaid : Prop := fnExactSubRatUptoRow.holds Try.pinned (OpenSpec.upto fnExactSubRatSpec)

/-- 'laws.FnField', WHERE WHAT IT READS IS OF BULK AT MOST 1048576: true; the input reads as it did. -/
def fnFieldUptoRow : OpenClaim := { program := "ytacdaijalkkogaa", sum := "d3e786a5f346d80b2eb718df89d39735f4e51b1f7452b13bcbfd2068382ddbe7", func := "loop.example/g00615/laws.FnField", spec := "fnField", unfollowed := true, recurses := true, apart := false, narrowed := true }
def FnFieldUptoSaid : Prop := fnFieldUptoRow.holds Try.pinned (OpenSpec.upto fnFieldSpec)

/-- 'laws.FnFloor', WHERE WHAT IT READS IS OF BULK AT MOST 1048576: true; the input reads as it did. -/
def fnFloorUptoRow : OpenClaim := { program := "ytacdaijalkkogaa", sum := "d3e786a5f346d80b2eb718df89d39735f4e51b1f7452b13bcbfd2068382ddbe7", func := "loop.example/g00615/laws.FnFloor", spec := "fnFloor", unfollowed := true, recurses := true, apart := false, narrowed := true }
def FnFloorUptoSaid : Prop := fnFloorUptoRow.holds Try.pinned (OpenSpec.upto fnFloorSpec)

end Rows
end Go.Proofs.Ytacdaijalkkogaa
