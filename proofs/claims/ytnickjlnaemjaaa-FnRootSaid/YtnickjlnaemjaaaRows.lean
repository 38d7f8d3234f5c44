/-
  No cell of these rows narrows 'for every input' (looked for: loops, veiled, ifaces, maps, wideKeys, modest, calm, conditions, laid).
  DERIVED. THE GIVEN ROWS OF THIS SEAT. 13 by the template 'for every input the law returns true; each argument reads behind the call as it read before'; 0 by the template 'total and deterministic' (their statements: YtnickjlnaemjaaaTotals.lean).
  GIVEN WITH THE SEED: the statements are not yours to turn. If you find one false, say at which input.
  Laid BY PROGRAM, IN A SANDBOX (cutbox-rows.mjs): the forced cells as the released guide's own fill.sh prints them over the translation ef8b8eb0eb9fb28a… (all of the seat's roots in one cut). By AI agents, Wed Nov 11 2026. No macro, syntax, notation, axiom, sorry.
-/
import Derived.Test.YtnickjlnaemjaaaChecked
import GoSem.Claim
import GoSem.ClaimJoined
import GoSem.ClaimMapViews
import Derived.JoinedTies
import Derived.KernelRfl
namespace Go.Proofs.Ytnickjlnaemjaaa
/- THE CELL 'sum', in the pinned program and in every row, IS THE sha256 OF THE DUMP (.gsa) THAT YtnickjlnaemjaaaProg.lean LOADS. Nothing in Lean hashes anything: it is a label: what it is worth is what the hold of that sum in a sandbox is worth. -/
noncomputable def Try.pinned : Pinned := { name := "ytnickjlnaemjaaa", sum := "ef8b8eb0eb9fb28a42a5814026c93e775d471a57923f3a9dd5549780fbaf815c", checked := Try.checked }
namespace Rows
def none {H : Type} : Left H := { results := [], args := [] }

/-- 'laws.FnExactNatOK': WHATEVER THE INPUT: true; the input reads as it did. -/
def fnExactNatOKSpec : ChangeSpec := { name := "fnExactNatOK", fn := fun _ => fun
  | [d] => { results := [.lit (.bool true)], args := [d] }
  | _ => none }
def fnExactNatOKRow : OpenClaim := { program := "ytnickjlnaemjaaa", sum := "ef8b8eb0eb9fb28a42a5814026c93e775d471a57923f3a9dd5549780fbaf815c", func := "loop.example/g00615/laws.FnExactNatOK", spec := "fnExactNatOK", unfollowed := true, recurses := true, apart := false }
def FnExactNatOKSaid : Prop := fnExactNatOKRow.holds Try.pinned (OpenSpec.ofChange fnExactNatOKSpec)

/-- ITS FALSE NEIGHBOUR: 'it returns false'. Refute it at one input. -/
def fnExactNatOKWrong : ChangeSpec := { name := "fnExactNatOK", fn := fun _ => fun
  | [d] => { results := [.lit (.bool false)], args := [d] }
  | _ => none }
def FnExactNatOKWrongFalsely : Prop := fnExactNatOKRow.holds Try.pinned (OpenSpec.ofChange fnExactNatOKWrong)

/-- 'laws.FnExactCmpNat': WHATEVER THE INPUT: true; the input reads as it did. -/
def fnExactCmpNatSpec : ChangeSpec := { name := "fnExactCmpNat", fn := fun _ => fun
  | [d1, d2] => { results := [.lit (.bool true)], args := [d1, d2] }
  | _ => none }
def fnExactCmpNatRow : OpenClaim := { program := "ytnickjlnaemjaaa", sum := "ef8b8eb0eb9fb28a42a5814026c93e775d471a57923f3a9dd5549780fbaf815c", func := "loop.example/g00615/laws.FnExactCmpNat", spec := "fnExactCmpNat", unfollowed := true, recurses := true, apart := false }
def FnExactCmpNatSaid : Prop := fnExactCmpNatRow.holds Try.pinned (OpenSpec.ofChange fnExactCmpNatSpec)

/-- ITS FALSE NEIGHBOUR: 'it returns false'. Refute it at one input. -/
def fnExactCmpNatWrong : ChangeSpec := { name := "fnExactCmpNat", fn := fun _ => fun
  | [d1, d2] => { results := [.lit (.bool false)], args := [d1, d2] }
  | _ => none }
def FnExactCmpNatWrongFalsely : Prop := fnExactCmpNatRow.holds Try.pinned (OpenSpec.ofChange fnExactCmpNatWrong)

/-- 'laws.FnExactAddNat': WHATEVER THE INPUT: true; the input reads as it did. -/
def fnExactAddNatSpec : ChangeSpec := { name := "fnExactAddNat", fn := fun _ => fun
  | [d1, d2] => { results := [.lit (.bool true)], args := [d1, d2] }
  | _ => none }
def fnExactAddNatRow : OpenClaim := { program := "ytnickjlnaemjaaa", sum := "ef8b8eb0eb9fb28a42a5814026c93e775d471a57923f3a9dd5549780fbaf815c", func := "loop.example/g00615/laws.FnExactAddNat", spec := "fnExactAddNat", unfollowed := true, recurses := true, apart := false }
def FnExactAddNatSaid : Prop := fnExactAddNatRow.holds Try.pinned (OpenSpec.ofChange fnExactAddNatSpec)

/-- ITS FALSE NEIGHBOUR: 'it returns false'. Refute it at one input. -/
def fnExactAddNatWrong : ChangeSpec := { name := "fnExactAddNat", fn := fun _ => fun
  | [d1, d2] => { results := [.lit (.bool false)], args := [d1, d2] }
  | _ => none }
def FnExactAddNatWrongFalsely : Prop := fnExactAddNatRow.holds Try.pinned (OpenSpec.ofChange fnExactAddNatWrong)

/-- 'laws.FnExactMulNat': WHATEVER THE INPUT: true; the input reads as it did. -/
def fnExactMulNatSpec : ChangeSpec := { name := "fnExactMulNat", fn := fun _ => fun
  | [d1, d2] => { results := [.lit (.bool true)], args := [d1, d2] }
  | _ => none }
def fnExactMulNatRow : OpenClaim := { program := "ytnickjlnaemjaaa", sum := "ef8b8eb0eb9fb28a42a5814026c93e775d471a57923f3a9dd5549780fbaf815c", func := "loop.example/g00615/laws.FnExactMulNat", spec := "fnExactMulNat", unfollowed := true, recurses := true, apart := false }
def FnExactMulNatSaid : Prop := fnExactMulNatRow.holds Try.pinned (OpenSpec.ofChange fnExactMulNatSpec)

/-- ITS FALSE NEIGHBOUR: 'it returns false'. Refute it at one input. -/
def fnExactMulNatWrong : ChangeSpec := { name := "fnExactMulNat", fn := fun _ => fun
  | [d1, d2] => { results := [.lit (.bool false)], args := [d1, d2] }
  | _ => none }
def FnExactMulNatWrongFalsely : Prop := fnExactMulNatRow.holds Try.pinned (OpenSpec.ofChange fnExactMulNatWrong)

/-- 'laws.FnMul': WHATEVER THE INPUT: true; the input reads as it did. -/
def fnMulSpec : ChangeSpec := { name := "fnMul", fn := fun _ => fun
  | [d1, d2] => { results := [.lit (.bool true)], args := [d1, d2] }
  | _ => none }
def fnMulRow : OpenClaim := { program := "ytnickjlnaemjaaa", sum := "ef8b8eb0eb9fb28a42a5814026c93e775d471a57923f3a9dd5549780fbaf815c", func := "loop.example/g00615/laws.FnMul", spec := "fnMul", unfollowed := true, recurses := true, apart := false }
def FnMulSaid : Prop := fnMulRow.holds Try.pinned (OpenSpec.ofChange fnMulSpec)

/-- ITS FALSE NEIGHBOUR: 'it returns false'. Refute it at one input. -/
def fnMulWrong : ChangeSpec := { name := "fnMul", fn := fun _ => fun
  | [d1, d2] => { results := [.lit (.bool false)], args := [d1, d2] }
  | _ => none }
def FnMulWrongFalsely : Prop := fnMulRow.holds Try.pinned (OpenSpec.ofChange fnMulWrong)

/-- 'laws.FnExactSubNat': WHATEVER THE INPUT: true; the input reads as it did. -/
def fnExactSubNatSpec : ChangeSpec := { name := "fnExactSubNat", fn := fun _ => fun
  | [d1, d2] => { results := [.lit (.bool true)], args := [d1, d2] }
  | _ => none }
def fnExactSubNatRow : OpenClaim := { program := "ytnickjlnaemjaaa", sum := "ef8b8eb0eb9fb28a42a5814026c93e775d471a57923f3a9dd5549780fbaf815c", func := "loop.example/g00615/laws.FnExactSubNat", spec := "fnExactSubNat", unfollowed := true, recurses := true, apart := false }
def FnExactSubNatSaid : Prop := fnExactSubNatRow.holds Try.pinned (OpenSpec.ofChange fnExactSubNatSpec)

/-- ITS FALSE NEIGHBOUR: 'it returns false'. Refute it at one input. -/
def fnExactSubNatWrong : ChangeSpec := { name := "fnExactSubNat", fn := fun _ => fun
  | [d1, d2] => { results := [.lit (.bool false)], args := [d1, d2] }
  | _ => none }
def FnExactSubNatWrongFalsely : Prop := fnExactSubNatRow.holds Try.pinned (OpenSpec.ofChange fnExactSubNatWrong)

/-- 'laws.FnNat': WHATEVER THE INPUT: true; the input reads as it did. -/
def fnNatSpec : ChangeSpec := { name := "fnNat", fn := fun _ => fun
  | [d1, d2] => { results := [.lit (.bool true)], args := [d1, d2] }
  | _ => none }
def fnNatRow : OpenClaim := { program := "ytnickjlnaemjaaa", sum := "ef8b8eb0eb9fb28a42a5814026c93e775d471a57923f3a9dd5549780fbaf815c", func := "loop.example/g00615/laws.FnNat", spec := "fnNat", unfollowed := true, recurses := true, apart := false }
def FnNatSaid : Prop := fnNatRow.holds Try.pinned (OpenSpec.ofChange fnNatSpec)

/-- ITS FALSE NEIGHBOUR: 'it returns false'. Refute it at one input. -/
def fnNatWrong : ChangeSpec := { name := "fnNat", fn := fun _ => fun
  | [d1, d2] => { results := [.lit (.bool false)], args := [d1, d2] }
  | _ => none }
def FnNatWrongFalsely : Prop := fnNatRow.holds Try.pinned (OpenSpec.ofChange fnNatWrong)

/-- 'laws.FnExactDivNat': WHATEVER THE INPUT: true; the input reads as it did. -/
def fnExactDivNatSpec : ChangeSpec := { name := "fnExactDivNat", fn := fun _ => fun
  | [d1, d2] => { results := [.lit (.bool true)], args := [d1, d2] }
  | _ => none }
def fnExactDivNatRow : OpenClaim := { program := "ytnickjlnaemjaaa", sum := "ef8b8eb0eb9fb28a42a5814026c93e775d471a57923f3a9dd5549780fbaf815c", func := "loop.example/g00615/laws.FnExactDivNat", spec := "fnExactDivNat", unfollowed := true, recurses := true, apart := false }
def FnExactDivNatSaid : Prop := fnExactDivNatRow.holds Try.pinned (OpenSpec.ofChange fnExactDivNatSpec)

/-- ITS FALSE NEIGHBOUR: 'it returns false'. Refute it at one input. -/
def fnExactDivNatWrong : ChangeSpec := { name := "fnExactDivNat", fn := fun _ => fun
  | [d1, d2] => { results := [.lit (.bool false)], args := [d1, d2] }
  | _ => none }
def FnExactDivNatWrongFalsely : Prop := fnExactDivNatRow.holds Try.pinned (OpenSpec.ofChange fnExactDivNatWrong)

/-- 'laws.FnExactGcdNat': WHATEVER THE INPUT: true; the input reads as it did. -/
def fnExactGcdNatSpec : ChangeSpec := { name := "fnExactGcdNat", fn := fun _ => fun
  | [d1, d2] => { results := [.lit (.bool true)], args := [d1, d2] }
  | _ => none }
def fnExactGcdNatRow : OpenClaim := { program := "ytnickjlnaemjaaa", sum := "ef8b8eb0eb9fb28a42a5814026c93e775d471a57923f3a9dd5549780fbaf815c", func := "loop.example/g00615/laws.FnExactGcdNat", spec := "fnExactGcdNat", unfollowed := true, recurses := true, apart := false }
def FnExactGcdNatSaid : Prop := fnExactGcdNatRow.holds Try.pinned (OpenSpec.ofChange fnExactGcdNatSpec)

/-- ITS FALSE NEIGHBOUR: 'it returns false'. Refute it at one input. -/
def fnExactGcdNatWrong : ChangeSpec := { name := "fnExactGcdNat", fn := fun _ => fun
  | [d1, d2] => { results := [.lit (.bool false)], args := [d1, d2] }
  | _ => none }
def FnExactGcdNatWrongFalsely : Prop := fnExactGcdNatRow.holds Try.pinned (OpenSpec.ofChange fnExactGcdNatWrong)

/-- 'laws.FnGcd': WHATEVER THE INPUT: true; the input reads as it did. -/
def fnGcdSpec : ChangeSpec := { name := "fnGcd", fn := fun _ => fun
  | [d1, d2] => { results := [.lit (.bool true)], args := [d1, d2] }
  | _ => none }
def fnGcdRow : OpenClaim := { program := "ytnickjlnaemjaaa", sum := "ef8b8eb0eb9fb28a42a5814026c93e775d471a57923f3a9dd5549780fbaf815c", func := "loop.example/g00615/laws.FnGcd", spec := "fnGcd", unfollowed := true, recurses := true, apart := false }
def FnGcdSaid : Prop := fnGcdRow.holds Try.pinned (OpenSpec.ofChange fnGcdSpec)

/-- ITS FALSE NEIGHBOUR: 'it returns false'. Refute it at one input. -/
def fnGcdWrong : ChangeSpec := { name := "fnGcd", fn := fun _ => fun
  | [d1, d2] => { results := [.lit (.bool false)], args := [d1, d2] }
  | _ => none }
def FnGcdWrongFalsely : Prop := fnGcdRow.holds Try.pinned (OpenSpec.ofChange fnGcdWrong)

/-- 'laws.FnExactRootNat': WHATEVER THE INPUT: true; the input reads as it did. -/
def fnExactRootNatSpec : ChangeSpec := { name := "fnExactRootNat", fn := fun _ => fun
  | [d] => { results := [.lit (.bool true)], args := [d] }
  | _ => none }
def fnExactRootNatRow : OpenClaim := { program := "ytnickjlnaemjaaa", sum := "ef8b8eb0eb9fb28a42a5814026c93e775d471a57923f3a9dd5549780fbaf815c", func := "loop.example/g00615/laws.FnExactRootNat", spec := "fnExactRootNat", unfollowed := true, recurses := true, apart := false }
def FnExactRootNatSaid : Prop := fnExactRootNatRow.holds Try.pinned (OpenSpec.ofChange fnExactRootNatSpec)

/-- ITS FALSE NEIGHBOUR: 'it returns false'. Refute it at one input. -/
def fnExactRootNatWrong : ChangeSpec := { name := "fnExactRootNat", fn := fun _ => fun
  | [d] => { results := [.lit (.bool false)], args := [d] }
  | _ => none }
def FnExactRootNatWrongFalsely : Prop := fnExactRootNatRow.holds Try.pinned (OpenSpec.ofChange fnExactRootNatWrong)

/-- 'laws.FnDiv': WHATEVER THE INPUT: true; the input reads as it did. -/
def fnDivSpec : ChangeSpec := { name := "fnDiv", fn := fun _ => fun
  | [d1, d2] => { results := [.lit (.bool true)], args := [d1, d2] }
  | _ => none }
def fnDivRow : OpenClaim := { program := "ytnickjlnaemjaaa", sum := "ef8b8eb0eb9fb28a42a5814026c93e775d471a57923f3a9dd5549780fbaf815c", func := "loop.example/g00615/laws.FnDiv", spec := "fnDiv", unfollowed := true, recurses := true, apart := false }
def FnDivSaid : Prop := fnDivRow.holds Try.pinned (OpenSpec.ofChange fnDivSpec)

/-- ITS FALSE NEIGHBOUR: 'it returns false'. Refute it at one input. -/
def fnDivWrong : ChangeSpec := { name := "fnDiv", fn := fun _ => fun
  | [d1, d2] => { results := [.lit (.bool false)], args := [d1, d2] }
  | _ => none }
def FnDivWrongFalsely : Prop := fnDivRow.holds Try.pinned (OpenSpec.ofChange fnDivWrong)

/-- 'laws.FnRoot': WHATEVER THE INPUT: true; the input reads as it did. -/
def fnRootSpec : ChangeSpec := { name := "fnRoot", fn := fun _ => fun
  | [d] => { results := [.lit (.bool true)], args := [d] }
  | _ => none }
def fnRootRow : OpenClaim := { program := "ytnickjlnaemjaaa", sum := "ef8b8eb0eb9fb28a42a5814026c93e775d471a57923f3a9dd5549780fbaf815c", func := "loop.example/g00615/laws.FnRoot", spec := "fnRoot", unfollowed := true, recurses := true, apart := false }
def FnRootSaid : Prop := fnRootRow.holds Try.pinned (OpenSpec.ofChange fnRootSpec)

/-- ITS FALSE NEIGHBOUR: 'it returns false'. Refute it at one input. -/
def fnRootWrong : ChangeSpec := { name := "fnRoot", fn := fun _ => fun
  | [d] => { results := [.lit (.bool false)], args := [d] }
  | _ => none }
def FnRootWrongFalsely : Prop := fnRootRow.holds Try.pinned (OpenSpec.ofChange fnRootWrong)

/- THE SECOND FORM. 'bulk': how many values and letters a reading holds, each counted each time it is reached (what is shared counts as often as it is met; a slice's spare places count too). A statement '..UptoSaid' is the law's where the arguments, and the package variables that the reading takes, are together of bulk at most 1048576: NARROWER than '..Said'. Prove '..Said' where nothing that the law and all that it calls make is longer than what came in: it says more and counts as full. Else prove '..UptoSaid'. A law counts once. -/
mutual
def uptoBulk {H : Type} : DataW H → Nat
  | .lit (.string bytes) => bytes.length + 1
  | .lit _ => 1
  | .nil => 1
  | .ptr d => uptoBulk d + 1
  | .slice elems spare => uptoBulkAll elems + uptoBulkAll spare + 1
  | .agg parts => uptoBulkAll parts + 1
  | .iface _ d => uptoBulk d + 1
  | .map entries => uptoBulkEntries entries + 1
  | .held _ => 1
def uptoBulkAll {H : Type} : List (DataW H) → Nat
  | [] => 0
  | d :: r => uptoBulk d + uptoBulkAll r
def uptoBulkEntries {H : Type} : List (Lit × DataW H) → Nat
  | [] => 0
  | x :: r => uptoBulkEntry x + uptoBulkEntries r
def uptoBulkEntry {H : Type} : Lit × DataW H → Nat
  | (.string bytes, d) => bytes.length + uptoBulk d + 1
  | (_, d) => uptoBulk d + 1
 end
def uptoSmall : (H : Type) → List (DataW H) → Bool := fun _ ds => decide (uptoBulkAll ds ≤ 1048576)
def OpenSpec.upto (s : _root_.Go.ChangeSpec) : _root_.Go.OpenSpec := { _root_.Go.OpenSpec.ofChange s with cond := some uptoSmall }

/-- 'laws.FnExactNatOK', WHERE WHAT IT READS IS OF BULK AT MOST 1048576: true; the input reads as it did. -/
def fnExactNatOKUptoRow : OpenClaim := { program := "ytnickjlnaemjaaa", sum := "ef8b8eb0eb9fb28a42a5814026c93e775d471a57923f3a9dd5549780fbaf815c", func := "loop.example/g00615/laws.FnExactNatOK", spec := "fnExactNatOK", unfollowed := true, recurses := true, apart := false, narrowed := true }
def FnExactNatOKUptoSaid : Prop := fnExactNatOKUptoRow.holds Try.pinned (OpenSpec.upto fnExactNatOKSpec)

/-- 'laws.FnExactCmpNat', WHERE WHAT IT READS IS OF BULK AT MOST 1048576: true; the input reads as it did. -/
def fnExactCmpNatUptoRow : OpenClaim := { program := "ytnickjlnaemjaaa", sum := "ef8b8eb0eb9fb28a42a5814026c93e775d471a57923f3a9dd5549780fbaf815c", func := "loop.example/g00615/laws.FnExactCmpNat", spec := "fnExactCmpNat", unfollowed := true, recurses := true, apart := false, narrowed := true }
def FnExactCmpNatUptoSaid : Prop := fnExactCmpNatUptoRow.holds Try.pinned (OpenSpec.upto fnExactCmpNatSpec)

/-- 'laws.FnExactAddNat', WHERE WHAT IT READS IS OF BULK AT MOST 1048576: true; the input reads as it did. -/
def fnExactAddNatUptoRow : OpenClaim := { program := "ytnickjlnaemjaaa", sum := "ef8b8eb0eb9fb28a42a5814026c93e775d471a57923f3a9dd5549780fbaf815c", func := "loop.example/g00615/laws.FnExactAddNat", spec := "fnExactAddNat", unfollowed := true, recurses := true, apart := false, narrowed := true }
def FnExactAddNatUptoSaid : Prop := fnExactAddNatUptoRow.holds Try.pinned (OpenSpec.upto fnExactAddNatSpec)

/-- 'laws.FnExactMulNat', WHERE WHAT IT READS IS OF BULK AT MOST 1048576: true; the input reads as it did. -/
def fnExactMulNatUptoRow : OpenClaim := { program := "ytnickjlnaemjaaa", sum := "ef8b8eb0eb9fb28a42a5814026c93e775d471a57923f3a9dd5549780fbaf815c", func := "loop.example/g00615/laws.FnExactMulNat", spec := "fnExactMulNat", unfollowed := true, recurses := true, apart := false, narrowed := true }
def FnExactMulNatUptoSaid : Prop := fnExactMulNatUptoRow.holds Try.pinned (OpenSpec.upto fnExactMulNatSpec)

/-- 'laws.FnMul', WHERE WHAT IT READS IS OF BULK AT MOST 1048576: true; the input reads as it did. -/
def fnMulUptoRow : OpenClaim := { program := "ytnickjlnaemjaaa", sum := "ef8b8eb0eb9fb28a42a5814026c93e775d471a57923f3a9dd5549780fbaf815c", func := "loop.example/g00615/laws.FnMul", spec := "fnMul", unfollowed := true, recurses := true, apart := false, narrowed := true }
def FnMulUptoSaid : Prop := fnMulUptoRow.holds Try.pinned (OpenSpec.upto fnMulSpec)

/-- 'laws.FnExactSubNat', WHERE WHAT IT READS IS OF BULK AT MOST 1048576: true; the input reads as it did. -/
def fnExactSubNatUptoRow : OpenClaim := { program := "ytnickjlnaemjaaa", sum := "ef8b8eb0eb9fb28a42a5814026c93e775d471a57923f3a9dd5549780fbaf815c", func := "loop.example/g00615/laws.FnExactSubNat", spec := "fnExactSubNat", unfollowed := true, recurses := true, apart := false, narrowed := true }
def FnExactSubNatUptoSaid : Prop := fnExactSubNatUptoRow.holds Try.pinned (OpenSpec.upto fnExactSubNatSpec)

/-- 'laws.FnNat', WHERE WHAT IT READS IS OF BULK AT MOST 1048576: true; the input reads as it did. -/
def fnNatUptoRow : OpenClaim := { program := "ytnickjlnaemjaaa", sum := "ef8b8eb0eb9fb28a42a5814026c93e775d471a57923f3a9dd5549780fbaf815c", func := "loop.example/g00615/laws.FnNat", spec := "fnNat", unfollowed := true, recurses := true, apart := false, narrowed := true }
def FnNatUptoSaid : Prop := fnNatUptoRow.holds Try.pinned (OpenSpec.upto fnNatSpec)

/-- 'laws.FnExactDivNat', WHERE WHAT IT READS IS OF BULK AT MOST 1048576: true; the input reads as it did. -/
def fnExactDivNatUptoRow : OpenClaim := { program := "ytnickjlnaemjaaa", sum := "ef8b8eb0eb9fb28a42a5814026c93e775d471a57923f3a9dd5549780fbaf815c", func := "loop.example/g00615/laws.FnExactDivNat", spec := "fnExactDivNat", unfollowed := true, recurses := true, apart := false, narrowed := true }
def FnExactDivNatUptoSaid : Prop := fnExactDivNatUptoRow.holds Try.pinned (OpenSpec.upto fnExactDivNatSpec)

/-- 'laws.FnExactGcdNat', WHERE WHAT IT READS IS OF BULK AT MOST 1048576: true; the input reads as it did. -/
def fnExactGcdNatUptoRow : OpenClaim := { program := "ytnickjlnaemjaaa", sum := "ef8b8eb0eb9fb28a42a5814026c93e775d471a57923f3a9dd5549780fbaf815c", func := "loop.example/g00615/laws.FnExactGcdNat", spec := "fnExactGcdNat", unfollowed := true, recurses := true, apart := false, narrowed := true }
def FnExactGcdNatUptoSaid : Prop := fnExactGcdNatUptoRow.holds Try.pinned (OpenSpec.upto fnExactGcdNatSpec)

/-- 'laws.FnGcd', WHERE WHAT IT READS IS OF BULK AT MOST 1048576: true; the input reads as it did. -/
def fnGcdUptoRow : OpenClaim := { program := "ytnickjlnaemjaaa", sum := "ef8b8eb0eb9fb28a42a5814026c93e775d471a57923f3a9dd5549780fbaf815c", func := "loop.example/g00615/laws.FnGcd", spec := "fnGcd", unfollowed := true, recurses := true, apart := false, narrowed := true }
def FnGcdUptoSaid : Prop := fnGcdUptoRow.holds Try.pinned (OpenSpec.upto fnGcdSpec)

/-- 'laws.FnExactRootNat', WHERE WHAT IT READS IS OF BULK AT MOST 1048576: true; the input reads as it did. -/
def fnExactRootNatUptoRow : OpenClaim := { program := "ytnickjlnaemjaaa", sum := "ef8b8eb0eb9fb28a42a5814026c93e775d471a57923f3a9dd5549780fbaf815c", func := "loop.example/g00615/laws.FnExactRootNat", spec := "fnExactRootNat", unfollowed := true, recurses := true, apart := false, narrowed := true }
def FnExactRootNatUptoSaid : Prop := fnExactRootNatUptoRow.holds Try.pinned (OpenSpec.upto fnExactRootNatSpec)

/-- 'laws.FnDiv', WHERE WHAT IT READS IS OF BULK AT MOST 1048576: true; the input reads as it did. -/
def fnDivUptoRow : OpenClaim := { program := "ytnickjlnaemjaaa", sum := "ef8b8eb0eb9fb28a42a5814026c93e775d471a57923f3a9dd5549780fbaf815c", func := "loop.example/g00615/laws.FnDiv", spec := "fnDiv", unfollowed := true, recurses := true, apart := false, narrowed := true }
def FnDivUptoSaid : Prop := fnDivUptoRow.holds Try.pinned (OpenSpec.upto fnDivSpec)

/-- 'laws.FnRoot', WHERE WHAT IT READS IS OF BULK AT MOST 1048576: true; the input reads as it did. -/
def fnRootUptoRow : OpenClaim := { program := "ytnickjlnaemjaaa", sum := "ef8b8eb0eb9fb28a42a5814026c93e775d471a57923f3a9dd5549780fbaf815c", func := "loop.example/g00615/laws.FnRoot", spec := "fnRoot", unfollowed := true, recurses := true, apart := false, narrowed := true }
def FnRootUptoSaid : Prop := fnRootUptoRow.holds Try.pinned (OpenSpec.upto fnRootSpec)

end Rows
end Go.Proofs.Ytnickjlnaemjaaa
