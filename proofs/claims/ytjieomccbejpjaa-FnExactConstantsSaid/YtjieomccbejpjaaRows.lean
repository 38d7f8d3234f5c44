/-
  No cell of these rows narrows 'for every input' (looked for: loops, veiled, ifaces, maps, wideKeys, modest, calm, conditions, laid).
  DERIVED. THE GIVEN ROWS OF THIS SEAT. 8 by the template 'for every input the law returns true; each argument reads behind the call as it read before'; 0 by the template 'total and deterministic' (their statements: YtjieomccbejpjaaTotals.lean).
  GIVEN WITH THE SEED: the statements are not yours to turn. If you find one false, say at which input.
  Laid BY PROGRAM, IN A SANDBOX (cutbox-rows.mjs): the forced cells as the released guide's own fill.sh prints them over the translation fc0d2cfce569362f… (all of the seat's roots in one cut). By AI agents, Wed Nov 11 2026. No macro, syntax, notation, axiom, sorry.
-/
import Derived.Test.YtjieomccbejpjaaChecked
import GoSem.Claim
import GoSem.ClaimJoined
import GoSem.ClaimMapViews
import Derived.JoinedTies
import Derived.KernelRfl
namespace Go.Proofs.Ytjieomccbejpjaa
/- THE CELL 'sum', in the pinned program and in every row, IS THE sha256 OF THE DUMP (.gsa) THAT YtjieomccbejpjaaProg.lean LOADS. Nothing in Lean hashes anything: it is a label: what it is worth is what the hold of that sum in a sandbox is worth. -/
noncomputable def Try.pinned : Pinned := { name := "ytjieomccbejpjaa", sum := "fc0d2cfce569362fb60a97d3e1f376108a29b6c2cd8279a16aded20bfe7403a8", checked := Try.checked }
namespace Rows
def none {H : Type} : Left H := { results := [], args := [] }

/-- 'laws.FnExactConstants': WHATEVER THE INPUT: true; the input reads as it did. -/
def fnExactConstantsSpec : ChangeSpec := { name := "fnExactConstants", fn := fun _ => fun
  | [] => { results := [.lit (.bool true)], args := [] }
  | _ => none }
def fnExactConstantsRow : OpenClaim := { program := "ytjieomccbejpjaa", sum := "fc0d2cfce569362fb60a97d3e1f376108a29b6c2cd8279a16aded20bfe7403a8", func := "loop.example/g00615/laws.FnExactConstants", spec := "fnExactConstants", apart := false }
def FnExactConstantsSaid : Prop := fnExactConstantsRow.holds Try.pinned (OpenSpec.ofChange fnExactConstantsSpec)

/-- ITS FALSE NEIGHBOUR: 'it returns false'. Refute it at one input. -/
def fnExactConstantsWrong : ChangeSpec := { name := "fnExactConstants", fn := fun _ => fun
  | [] => { results := [.lit (.bool false)], args := [] }
  | _ => none }
def FnExactConstantsWrongFalsely : Prop := fnExactConstantsRow.holds Try.pinned (OpenSpec.ofChange fnExactConstantsWrong)

/-- 'laws.FnExactNameOK': WHATEVER THE INPUT: true; the input reads as it did. -/
def fnExactNameOKSpec : ChangeSpec := { name := "fnExactNameOK", fn := fun _ => fun
  | [d] => { results := [.lit (.bool true)], args := [d] }
  | _ => none }
def fnExactNameOKRow : OpenClaim := { program := "ytjieomccbejpjaa", sum := "fc0d2cfce569362fb60a97d3e1f376108a29b6c2cd8279a16aded20bfe7403a8", func := "loop.example/g00615/laws.FnExactNameOK", spec := "fnExactNameOK", apart := false }
def FnExactNameOKSaid : Prop := fnExactNameOKRow.holds Try.pinned (OpenSpec.ofChange fnExactNameOKSpec)

/-- ITS FALSE NEIGHBOUR: 'it returns false'. Refute it at one input. -/
def fnExactNameOKWrong : ChangeSpec := { name := "fnExactNameOK", fn := fun _ => fun
  | [d] => { results := [.lit (.bool false)], args := [d] }
  | _ => none }
def FnExactNameOKWrongFalsely : Prop := fnExactNameOKRow.holds Try.pinned (OpenSpec.ofChange fnExactNameOKWrong)

/-- 'laws.FnExactNatOK': WHATEVER THE INPUT: true; the input reads as it did. -/
def fnExactNatOKSpec : ChangeSpec := { name := "fnExactNatOK", fn := fun _ => fun
  | [d] => { results := [.lit (.bool true)], args := [d] }
  | _ => none }
def fnExactNatOKRow : OpenClaim := { program := "ytjieomccbejpjaa", sum := "fc0d2cfce569362fb60a97d3e1f376108a29b6c2cd8279a16aded20bfe7403a8", func := "loop.example/g00615/laws.FnExactNatOK", spec := "fnExactNatOK", unfollowed := true, recurses := true, apart := false }
def FnExactNatOKSaid : Prop := fnExactNatOKRow.holds Try.pinned (OpenSpec.ofChange fnExactNatOKSpec)

/-- ITS FALSE NEIGHBOUR: 'it returns false'. Refute it at one input. -/
def fnExactNatOKWrong : ChangeSpec := { name := "fnExactNatOK", fn := fun _ => fun
  | [d] => { results := [.lit (.bool false)], args := [d] }
  | _ => none }
def FnExactNatOKWrongFalsely : Prop := fnExactNatOKRow.holds Try.pinned (OpenSpec.ofChange fnExactNatOKWrong)

/-- 'laws.FnExactSameTape': WHATEVER THE INPUT: true; the input reads as it did. -/
def fnExactSameTapeSpec : ChangeSpec := { name := "fnExactSameTape", fn := fun _ => fun
  | [d1, d2] => { results := [.lit (.bool true)], args := [d1, d2] }
  | _ => none }
def fnExactSameTapeRow : OpenClaim := { program := "ytjieomccbejpjaa", sum := "fc0d2cfce569362fb60a97d3e1f376108a29b6c2cd8279a16aded20bfe7403a8", func := "loop.example/g00615/laws.FnExactSameTape", spec := "fnExactSameTape", apart := false }
def FnExactSameTapeSaid : Prop := fnExactSameTapeRow.holds Try.pinned (OpenSpec.ofChange fnExactSameTapeSpec)

/-- ITS FALSE NEIGHBOUR: 'it returns false'. Refute it at one input. -/
def fnExactSameTapeWrong : ChangeSpec := { name := "fnExactSameTape", fn := fun _ => fun
  | [d1, d2] => { results := [.lit (.bool false)], args := [d1, d2] }
  | _ => none }
def FnExactSameTapeWrongFalsely : Prop := fnExactSameTapeRow.holds Try.pinned (OpenSpec.ofChange fnExactSameTapeWrong)

/-- 'laws.FnExactCmpNat': WHATEVER THE INPUT: true; the input reads as it did. -/
def fnExactCmpNatSpec : ChangeSpec := { name := "fnExactCmpNat", fn := fun _ => fun
  | [d1, d2] => { results := [.lit (.bool true)], args := [d1, d2] }
  | _ => none }
def fnExactCmpNatRow : OpenClaim := { program := "ytjieomccbejpjaa", sum := "fc0d2cfce569362fb60a97d3e1f376108a29b6c2cd8279a16aded20bfe7403a8", func := "loop.example/g00615/laws.FnExactCmpNat", spec := "fnExactCmpNat", unfollowed := true, recurses := true, apart := false }
def FnExactCmpNatSaid : Prop := fnExactCmpNatRow.holds Try.pinned (OpenSpec.ofChange fnExactCmpNatSpec)

/-- ITS FALSE NEIGHBOUR: 'it returns false'. Refute it at one input. -/
def fnExactCmpNatWrong : ChangeSpec := { name := "fnExactCmpNat", fn := fun _ => fun
  | [d1, d2] => { results := [.lit (.bool false)], args := [d1, d2] }
  | _ => none }
def FnExactCmpNatWrongFalsely : Prop := fnExactCmpNatRow.holds Try.pinned (OpenSpec.ofChange fnExactCmpNatWrong)

/-- 'laws.FnExactTokenOK': WHATEVER THE INPUT: true; the input reads as it did. -/
def fnExactTokenOKSpec : ChangeSpec := { name := "fnExactTokenOK", fn := fun _ => fun
  | [d] => { results := [.lit (.bool true)], args := [d] }
  | _ => none }
def fnExactTokenOKRow : OpenClaim := { program := "ytjieomccbejpjaa", sum := "fc0d2cfce569362fb60a97d3e1f376108a29b6c2cd8279a16aded20bfe7403a8", func := "loop.example/g00615/laws.FnExactTokenOK", spec := "fnExactTokenOK", inPlace := ["internal/bytealg.IndexByteString", "internal/bytealg.IndexString"], named := ["internal/bytealg.MaxLen"], apart := false }
def FnExactTokenOKSaid : Prop := fnExactTokenOKRow.holds Try.pinned (OpenSpec.ofChange fnExactTokenOKSpec)

/-- ITS FALSE NEIGHBOUR: 'it returns false'. Refute it at one input. -/
def fnExactTokenOKWrong : ChangeSpec := { name := "fnExactTokenOK", fn := fun _ => fun
  | [d] => { results := [.lit (.bool false)], args := [d] }
  | _ => none }
def FnExactTokenOKWrongFalsely : Prop := fnExactTokenOKRow.holds Try.pinned (OpenSpec.ofChange fnExactTokenOKWrong)

/-- 'laws.FnExactAddNat': WHATEVER THE INPUT: true; the input reads as it did. -/
def fnExactAddNatSpec : ChangeSpec := { name := "fnExactAddNat", fn := fun _ => fun
  | [d1, d2] => { results := [.lit (.bool true)], args := [d1, d2] }
  | _ => none }
def fnExactAddNatRow : OpenClaim := { program := "ytjieomccbejpjaa", sum := "fc0d2cfce569362fb60a97d3e1f376108a29b6c2cd8279a16aded20bfe7403a8", func := "loop.example/g00615/laws.FnExactAddNat", spec := "fnExactAddNat", unfollowed := true, recurses := true, apart := false }
def FnExactAddNatSaid : Prop := fnExactAddNatRow.holds Try.pinned (OpenSpec.ofChange fnExactAddNatSpec)

/-- ITS FALSE NEIGHBOUR: 'it returns false'. Refute it at one input. -/
def fnExactAddNatWrong : ChangeSpec := { name := "fnExactAddNat", fn := fun _ => fun
  | [d1, d2] => { results := [.lit (.bool false)], args := [d1, d2] }
  | _ => none }
def FnExactAddNatWrongFalsely : Prop := fnExactAddNatRow.holds Try.pinned (OpenSpec.ofChange fnExactAddNatWrong)

/-- 'laws.FnShape': WHATEVER THE INPUT: true; the input reads as it did. -/
def fnShapeSpec : ChangeSpec := { name := "fnShape", fn := fun _ => fun
  | [d] => { results := [.lit (.bool true)], args := [d] }
  | _ => none }
def fnShapeRow : OpenClaim := { program := "ytjieomccbejpjaa", sum := "fc0d2cfce569362fb60a97d3e1f376108a29b6c2cd8279a16aded20bfe7403a8", func := "loop.example/g00615/laws.FnShape", spec := "fnShape", unfollowed := true, recurses := true, apart := false }
def FnShapeSaid : Prop := fnShapeRow.holds Try.pinned (OpenSpec.ofChange fnShapeSpec)

/-- ITS FALSE NEIGHBOUR: 'it returns false'. Refute it at one input. -/
def fnShapeWrong : ChangeSpec := { name := "fnShape", fn := fun _ => fun
  | [d] => { results := [.lit (.bool false)], args := [d] }
  | _ => none }
def FnShapeWrongFalsely : Prop := fnShapeRow.holds Try.pinned (OpenSpec.ofChange fnShapeWrong)

/- THE SECOND FORM. 'bulk': how many values and letters a reading holds, each counted each time it is reached (what is shared counts as often as it is met; a slice's spare places count too). A statement '..UptoSaid' is the law's where the arguments, and the package variables that the reading takes, are together of bulk at most 1048576: NARROWER than '..Said'. Prove '..Said' where nothing that the law and all that it calls make is longer than what came in: it says more and counts as full. Else prove '..UptoSaid'. A law counts once. -/
mutual
def uptoBulk {H : Type} : DataW H → Nat
  | .lit (.string bytes) => bytes.length + 1
  | .lit _ => 1
  | .nil => 1
  | .ptr d => uptoBulk d + 1
  | .slice elems spare => uptoBulkAll elems + uptoBulkAll spare + 1
  | .agg parts => uptoBulkAll parts + 1
  | .iface _ d => uptoBulk d + 1
  | .map entries => uptoBulkEntries entries + 1
  | .held _ => 1
def uptoBulkAll {H : Type} : List (DataW H) → Nat
  | [] => 0
  | d :: r => uptoBulk d + uptoBulkAll r
def uptoBulkEntries {H : Type} : List (Lit × DataW H) → Nat
  | [] => 0
  | x :: r => uptoBulkEntry x + uptoBulkEntries r
def uptoBulkEntry {H : Type} : Lit × DataW H → Nat
  | (.string bytes, d) => bytes.length + uptoBulk d + 1
  | (_, d) => uptoBulk d + 1
 end
def uptoSmall : (H : Type) → List (DataW H) → Bool := fun _ ds => decide (uptoBulkAll ds ≤ 1048576)
def OpenSpec.upto (s : _root_.Go.ChangeSpec) : _root_.Go.OpenSpec := { _root_.Go.OpenSpec.ofChange s with cond := some uptoSmall }

/-- 'laws.FnExactConstants', WHERE WHAT IT READS IS OF BULK AT MOST 1048576: true; the input reads as it did. -/
def fnExactConstantsUptoRow : OpenClaim := { program := "ytjieomccbejpjaa", sum := "fc0d2cfce569362fb60a97d3e1f376108a29b6c2cd8279a16aded20bfe7403a8", func := "loop.example/g00615/laws.FnExactConstants", spec := "fnExactConstants", apart := false, narrowed := true }
def FnExactConstantsUptoSaid : Prop := fnExactConstantsUptoRow.holds Try.pinned (OpenSpec.upto fnExactConstantsSpec)

/-- 'laws.FnExactNameOK', WHERE WHAT IT READS IS OF BULK AT MOST 1048576: true; the input reads as it did. -/
def fnExactNameOKUptoRow : OpenClaim := { program := "ytjieomccbejpjaa", sum := "fc0d2cfce569362fb60a97d3e1f376108a29b6c2cd8279a16aded20bfe7403a8", func := "loop.example/g00615/laws.FnExactNameOK", spec := "fnExactNameOK", apart := false, narrowed := true }
def FnExactNameOKUptoSaid : Prop := fnExactNameOKUptoRow.holds Try.pinned (OpenSpec.upto fnExactNameOKSpec)

/-- 'laws.FnExactNatOK', WHERE WHAT IT READS IS OF BULK AT MOST 1048576: true; the input reads as it did. -/
def fnExactNatOKUptoRow : OpenClaim := { program := "ytjieomccbejpjaa", sum := "fc0d2cfce569362fb60a97d3e1f376108a29b6c2cd8279a16aded20bfe7403a8", func := "loop.example/g00615/laws.FnExactNatOK", spec := "fnExactNatOK", unfollowed := true, recurses := true, apart := false, narrowed := true }
def FnExactNatOKUptoSaid : Prop := fnExactNatOKUptoRow.holds Try.pinned (OpenSpec.upto fnExactNatOKSpec)

/-- 'laws.FnExactSameTape', WHERE WHAT IT READS IS OF BULK AT MOST 1048576: true; the input reads as it did. -/
def fnExactSameTapeUptoRow : OpenClaim := { program := "ytjieomccbejpjaa", sum := "fc0d2cfce569362fb60a97d3e1f376108a29b6c2cd8279a16aded20bfe7403a8", func := "loop.example/g00615/laws.FnExactSameTape", spec := "fnExactSameTape", apart := false, narrowed := true }
def FnExactSameTapeUptoSaid : Prop := fnExactSameTapeUptoRow.holds Try.pinned (OpenSpec.upto fnExactSameTapeSpec)

/-- 'laws.FnExactCmpNat', WHERE WHAT IT READS IS OF BULK AT MOST 1048576: true; the input reads as it did. -/
def fnExactCmpNatUptoRow : OpenClaim := { program := "ytjieomccbejpjaa", sum := "fc0d2cfce569362fb60a97d3e1f376108a29b6c2cd8279a16aded20bfe7403a8", func := "loop.example/g00615/laws.FnExactCmpNat", spec := "fnExactCmpNat", unfollowed := true, recurses := true, apart := false, narrowed := true }
def FnExactCmpNatUptoSaid : Prop := fnExactCmpNatUptoRow.holds Try.pinned (OpenSpec.upto fnExactCmpNatSpec)

/-- 'laws.FnExactTokenOK', WHERE WHAT IT READS IS OF BULK AT MOST 1048576: true; the input reads as it did. -/
def fnExactTokenOKUptoRow : OpenClaim := { program := "ytjieomccbejpjaa", sum := "fc0d2cfce569362fb60a97d3e1f376108a29b6c2cd8279a16aded20bfe7403a8", func := "loop.example/g00615/laws.FnExactTokenOK", spec := "fnExactTokenOK", inPlace := ["internal/bytealg.IndexByteString", "internal/bytealg.IndexString"], named := ["internal/bytealg.MaxLen"], apart := false, narrowed := true }
def FnExactTokenOKUptoSaid : Prop := fnExactTokenOKUptoRow.holds Try.pinned (OpenSpec.upto fnExactTokenOKSpec)

/-- 'laws.FnExactAddNat', WHERE WHAT IT READS IS OF BULK AT MOST 1048576: true; the input reads as it did. -/
def fnExactAddNatUptoRow : OpenClaim := { program := "ytjieomccbejpjaa", sum := "fc0d2cfce569362fb60a97d3e1f376108a29b6c2cd8279a16aded20bfe7403a8", func := "loop.example/g00615/laws.FnExactAddNat", spec := "fnExactAddNat", unfollowed := true, recurses := true, apart := false, narrowed := true }
def FnExactAddNatUptoSaid : Prop := fnExactAddNatUptoRow.holds Try.pinned (OpenSpec.upto fnExactAddNatSpec)

/-- 'laws.FnShape', WHERE WHAT IT READS IS OF BULK AT MOST 1048576: true; the input reads as it did. -/
def fnShapeUptoRow : OpenClaim := { program := "ytjieomccbejpjaa", sum := "fc0d2cfce569362fb60a97d3e1f376108a29b6c2cd8279a16aded20bfe7403a8", func := "loop.example/g00615/laws.FnShape", spec := "fnShape", unfollowed := true, recurses := true, apart := false, narrowed := true }
def FnShapeUptoSaid : Prop := fnShapeUptoRow.holds Try.pinned (OpenSpec.upto fnShapeSpec)

end Rows
end Go.Proofs.Ytjieomccbejpjaa
