/-
  No cell of these rows narrows 'for every input' (looked for: loops, veiled, ifaces, maps, wideKeys, modest, calm, conditions, laid).
  DERIVED. THE GIVEN ROWS OF THIS SEAT. 8 by the template 'for every input the law returns true; each argument reads behind the call as it read before'; 0 by the template 'total and deterministic' (their statements: YtbgaodfnhbbgdaaTotals.lean).
  GIVEN WITH THE SEED: the statements are not yours to turn. If you find one false, say at which input.
  Laid BY PROGRAM, IN A SANDBOX (cutbox-rows.mjs): the forced cells as the released guide's own fill.sh prints them over the translation fd516a7c09143236… (all of the seat's roots in one cut). By AI agents, Wed Nov 11 2026. No macro, syntax, notation, axiom, sorry.
-/
import Derived.Test.YtbgaodfnhbbgdaaChecked
import GoSem.Claim
import GoSem.ClaimJoined
import GoSem.ClaimMapViews
import Derived.JoinedTies
import Derived.KernelRfl
namespace Go.Proofs.Ytbgaodfnhbbgdaa
/- THE CELL 'sum', in the pinned program and in every row, IS THE sha256 OF THE DUMP (.gsa) THAT YtbgaodfnhbbgdaaProg.lean LOADS. Nothing in Lean hashes anything: it is a label: what it is worth is what the hold of that sum in a sandbox is worth. -/
noncomputable def Try.pinned : Pinned := { name := "ytbgaodfnhbbgdaa", sum := "fd516a7c091432365884cfe504c73bf25790d502e1d16305f68f3d3e111f5b6a", checked := Try.checked }
namespace Rows
def none {H : Type} : Left H := { results := [], args := [] }

/-- 'laws.FnExactSameTape': WHATEVER THE INPUT: true; the input reads as it did. -/
def fnExactSameTapeSpec : ChangeSpec := { name := "fnExactSameTape", fn := fun _ => fun
  | [d1, d2] => { results := [.lit (.bool true)], args := [d1, d2] }
  | _ => none }
def fnExactSameTapeRow : OpenClaim := { program := "ytbgaodfnhbbgdaa", sum := "fd516a7c091432365884cfe504c73bf25790d502e1d16305f68f3d3e111f5b6a", func := "loop.example/g00615/laws.FnExactSameTape", spec := "fnExactSameTape", apart := false }
def FnExactSameTapeSaid : Prop := fnExactSameTapeRow.holds Try.pinned (OpenSpec.ofChange fnExactSameTapeSpec)

/-- ITS FALSE NEIGHBOUR: 'it returns false'. Refute it at one input. -/
def fnExactSameTapeWrong : ChangeSpec := { name := "fnExactSameTape", fn := fun _ => fun
  | [d1, d2] => { results := [.lit (.bool false)], args := [d1, d2] }
  | _ => none }
def FnExactSameTapeWrongFalsely : Prop := fnExactSameTapeRow.holds Try.pinned (OpenSpec.ofChange fnExactSameTapeWrong)

/-- 'laws.FnExactTokenOK': WHATEVER THE INPUT: true; the input reads as it did. -/
def fnExactTokenOKSpec : ChangeSpec := { name := "fnExactTokenOK", fn := fun _ => fun
  | [d] => { results := [.lit (.bool true)], args := [d] }
  | _ => none }
def fnExactTokenOKRow : OpenClaim := { program := "ytbgaodfnhbbgdaa", sum := "fd516a7c091432365884cfe504c73bf25790d502e1d16305f68f3d3e111f5b6a", func := "loop.example/g00615/laws.FnExactTokenOK", spec := "fnExactTokenOK", inPlace := ["internal/bytealg.IndexByteString", "internal/bytealg.IndexString"], named := ["internal/bytealg.MaxLen"], apart := false }
def FnExactTokenOKSaid : Prop := fnExactTokenOKRow.holds Try.pinned (OpenSpec.ofChange fnExactTokenOKSpec)

/-- ITS FALSE NEIGHBOUR: 'it returns false'. Refute it at one input. -/
def fnExactTokenOKWrong : ChangeSpec := { name := "fnExactTokenOK", fn := fun _ => fun
  | [d] => { results := [.lit (.bool false)], args := [d] }
  | _ => none }
def FnExactTokenOKWrongFalsely : Prop := fnExactTokenOKRow.holds Try.pinned (OpenSpec.ofChange fnExactTokenOKWrong)

/-- 'laws.FnShape': WHATEVER THE INPUT: true; the input reads as it did. -/
def fnShapeSpec : ChangeSpec := { name := "fnShape", fn := fun _ => fun
  | [d] => { results := [.lit (.bool true)], args := [d] }
  | _ => none }
def fnShapeRow : OpenClaim := { program := "ytbgaodfnhbbgdaa", sum := "fd516a7c091432365884cfe504c73bf25790d502e1d16305f68f3d3e111f5b6a", func := "loop.example/g00615/laws.FnShape", spec := "fnShape", unfollowed := true, recurses := true, apart := false }
def FnShapeSaid : Prop := fnShapeRow.holds Try.pinned (OpenSpec.ofChange fnShapeSpec)

/-- ITS FALSE NEIGHBOUR: 'it returns false'. Refute it at one input. -/
def fnShapeWrong : ChangeSpec := { name := "fnShape", fn := fun _ => fun
  | [d] => { results := [.lit (.bool false)], args := [d] }
  | _ => none }
def FnShapeWrongFalsely : Prop := fnShapeRow.holds Try.pinned (OpenSpec.ofChange fnShapeWrong)

/-- 'laws.FnExactTapeOK': WHATEVER THE INPUT: true; the input reads as it did. -/
def fnExactTapeOKSpec : ChangeSpec := { name := "fnExactTapeOK", fn := fun _ => fun
  | [d] => { results := [.lit (.bool true)], args := [d] }
  | _ => none }
def fnExactTapeOKRow : OpenClaim := { program := "ytbgaodfnhbbgdaa", sum := "fd516a7c091432365884cfe504c73bf25790d502e1d16305f68f3d3e111f5b6a", func := "loop.example/g00615/laws.FnExactTapeOK", spec := "fnExactTapeOK", unfollowed := true, recurses := true, apart := false }
def FnExactTapeOKSaid : Prop := fnExactTapeOKRow.holds Try.pinned (OpenSpec.ofChange fnExactTapeOKSpec)

/-- ITS FALSE NEIGHBOUR: 'it returns false'. Refute it at one input. -/
def fnExactTapeOKWrong : ChangeSpec := { name := "fnExactTapeOK", fn := fun _ => fun
  | [d] => { results := [.lit (.bool false)], args := [d] }
  | _ => none }
def FnExactTapeOKWrongFalsely : Prop := fnExactTapeOKRow.holds Try.pinned (OpenSpec.ofChange fnExactTapeOKWrong)

/-- 'laws.FnExactExprOK': WHATEVER THE INPUT: true; the input reads as it did. -/
def fnExactExprOKSpec : ChangeSpec := { name := "fnExactExprOK", fn := fun _ => fun
  | [d] => { results := [.lit (.bool true)], args := [d] }
  | _ => none }
def fnExactExprOKRow : OpenClaim := { program := "ytbgaodfnhbbgdaa", sum := "fd516a7c091432365884cfe504c73bf25790d502e1d16305f68f3d3e111f5b6a", func := "loop.example/g00615/laws.FnExactExprOK", spec := "fnExactExprOK", unfollowed := true, recurses := true, apart := false }
def FnExactExprOKSaid : Prop := fnExactExprOKRow.holds Try.pinned (OpenSpec.ofChange fnExactExprOKSpec)

/-- ITS FALSE NEIGHBOUR: 'it returns false'. Refute it at one input. -/
def fnExactExprOKWrong : ChangeSpec := { name := "fnExactExprOK", fn := fun _ => fun
  | [d] => { results := [.lit (.bool false)], args := [d] }
  | _ => none }
def FnExactExprOKWrongFalsely : Prop := fnExactExprOKRow.holds Try.pinned (OpenSpec.ofChange fnExactExprOKWrong)

/-- 'laws.FnExactSameExpr': WHATEVER THE INPUT: true; the input reads as it did. -/
def fnExactSameExprSpec : ChangeSpec := { name := "fnExactSameExpr", fn := fun _ => fun
  | [d1, d2] => { results := [.lit (.bool true)], args := [d1, d2] }
  | _ => none }
def fnExactSameExprRow : OpenClaim := { program := "ytbgaodfnhbbgdaa", sum := "fd516a7c091432365884cfe504c73bf25790d502e1d16305f68f3d3e111f5b6a", func := "loop.example/g00615/laws.FnExactSameExpr", spec := "fnExactSameExpr", unfollowed := true, recurses := true, apart := false }
def FnExactSameExprSaid : Prop := fnExactSameExprRow.holds Try.pinned (OpenSpec.ofChange fnExactSameExprSpec)

/-- ITS FALSE NEIGHBOUR: 'it returns false'. Refute it at one input. -/
def fnExactSameExprWrong : ChangeSpec := { name := "fnExactSameExpr", fn := fun _ => fun
  | [d1, d2] => { results := [.lit (.bool false)], args := [d1, d2] }
  | _ => none }
def FnExactSameExprWrongFalsely : Prop := fnExactSameExprRow.holds Try.pinned (OpenSpec.ofChange fnExactSameExprWrong)

/-- 'laws.FnExactDepthOf': WHATEVER THE INPUT: true; the input reads as it did. -/
def fnExactDepthOfSpec : ChangeSpec := { name := "fnExactDepthOf", fn := fun _ => fun
  | [d] => { results := [.lit (.bool true)], args := [d] }
  | _ => none }
def fnExactDepthOfRow : OpenClaim := { program := "ytbgaodfnhbbgdaa", sum := "fd516a7c091432365884cfe504c73bf25790d502e1d16305f68f3d3e111f5b6a", func := "loop.example/g00615/laws.FnExactDepthOf", spec := "fnExactDepthOf", unfollowed := true, recurses := true, apart := false }
def FnExactDepthOfSaid : Prop := fnExactDepthOfRow.holds Try.pinned (OpenSpec.ofChange fnExactDepthOfSpec)

/-- ITS FALSE NEIGHBOUR: 'it returns false'. Refute it at one input. -/
def fnExactDepthOfWrong : ChangeSpec := { name := "fnExactDepthOf", fn := fun _ => fun
  | [d] => { results := [.lit (.bool false)], args := [d] }
  | _ => none }
def FnExactDepthOfWrongFalsely : Prop := fnExactDepthOfRow.holds Try.pinned (OpenSpec.ofChange fnExactDepthOfWrong)

/-- 'laws.FnExactDimOf': WHATEVER THE INPUT: true; the input reads as it did. -/
def fnExactDimOfSpec : ChangeSpec := { name := "fnExactDimOf", fn := fun _ => fun
  | [d] => { results := [.lit (.bool true)], args := [d] }
  | _ => none }
def fnExactDimOfRow : OpenClaim := { program := "ytbgaodfnhbbgdaa", sum := "fd516a7c091432365884cfe504c73bf25790d502e1d16305f68f3d3e111f5b6a", func := "loop.example/g00615/laws.FnExactDimOf", spec := "fnExactDimOf", unfollowed := true, recurses := true, apart := false }
def FnExactDimOfSaid : Prop := fnExactDimOfRow.holds Try.pinned (OpenSpec.ofChange fnExactDimOfSpec)

/-- ITS FALSE NEIGHBOUR: 'it returns false'. Refute it at one input. -/
def fnExactDimOfWrong : ChangeSpec := { name := "fnExactDimOf", fn := fun _ => fun
  | [d] => { results := [.lit (.bool false)], args := [d] }
  | _ => none }
def FnExactDimOfWrongFalsely : Prop := fnExactDimOfRow.holds Try.pinned (OpenSpec.ofChange fnExactDimOfWrong)

/- THE SECOND FORM. 'bulk': how many values and letters a reading holds, each counted each time it is reached (what is shared counts as often as it is met; a slice's spare places count too). A statement '..UptoSaid' is the law's where the arguments, and the package variables that the reading takes, are together of bulk at most 1048576: NARROWER than '..Said'. Prove '..Said' where nothing that the law and all that it calls make is longer than what came in: it says more and counts as full. Else prove '..UptoSaid'. A law counts once. -/
mutual
def uptoBulk {H : Type} : DataW H → Nat
  | .lit (.string bytes) => bytes.length + 1
  | .lit _ => 1
  | .nil => 1
  | .ptr d => uptoBulk d + 1
  | .slice elems spare => uptoBulkAll elems + uptoBulkAll spare + 1
  | .agg parts => uptoBulkAll parts + 1
  | .iface _ d => uptoBulk d + 1
  | .map entries => uptoBulkEntries entries + 1
  | .held _ => 1
def uptoBulkAll {H : Type} : List (DataW H) → Nat
  | [] => 0
  | d :: r => uptoBulk d + uptoBulkAll r
def uptoBulkEntries {H : Type} : List (Lit × DataW H) → Nat
  | [] => 0
  | x :: r => uptoBulkEntry x + uptoBulkEntries r
def uptoBulkEntry {H : Type} : Lit × DataW H → Nat
  | (.string bytes, d) => bytes.length + uptoBulk d + 1
  | (_, d) => uptoBulk d + 1
 end
def uptoSmall : (H : Type) → List (DataW H) → Bool := fun _ ds => decide (uptoBulkAll ds ≤ 1048576)
def OpenSpec.upto (s : _root_.Go.ChangeSpec) : _root_.Go.OpenSpec := { _root_.Go.OpenSpec.ofChange s with cond := some uptoSmall }

/-- 'laws.FnExactSameTape', WHERE WHAT IT READS IS OF BULK AT MOST 1048576: true; the input reads as it did. -/
def fnExactSameTapeUptoRow : OpenClaim := { program := "ytbgaodfnhbbgdaa", sum := "fd516a7c091432365884cfe504c73bf25790d502e1d16305f68f3d3e111f5b6a", func := "loop.example/g00615/laws.FnExactSameTape", spec := "fnExactSameTape", apart := false, narrowed := true }
def FnExactSameTapeUptoSaid : Prop := fnExactSameTapeUptoRow.holds Try.pinned (OpenSpec.upto fnExactSameTapeSpec)

/-- 'laws.FnExactTokenOK', WHERE WHAT IT READS IS OF BULK AT MOST 1048576: true; the input reads as it did. -/
def fnExactTokenOKUptoRow : OpenClaim := { program := "ytbgaodfnhbbgdaa", sum := "fd516a7c091432365884cfe504c73bf25790d502e1d16305f68f3d3e111f5b6a", func := "loop.example/g00615/laws.FnExactTokenOK", spec := "fnExactTokenOK", inPlace := ["internal/bytealg.IndexByteString", "internal/bytealg.IndexString"], named := ["internal/bytealg.MaxLen"], apart := false, narrowed := true }
def FnExactTokenOKUptoSaid : Prop := fnExactTokenOKUptoRow.holds Try.pinned (OpenSpec.upto fnExactTokenOKSpec)

/-- 'laws.FnShape', WHERE WHAT IT READS IS OF BULK AT MOST 1048576: true; the input reads as it did. -/
def fnShapeUptoRow : OpenClaim := { program := "ytbgaodfnhbbgdaa", sum := "fd516a7c091432365884cfe504c73bf25790d502e1d16305f68f3d3e111f5b6a", func := "loop.example/g00615/laws.FnShape", spec := "fnShape", unfollowed := true, recurses := true, apart := false, narrowed := true }
def FnShapeUptoSaid : Prop := fnShapeUptoRow.holds Try.pinned (OpenSpec.upto fnShapeSpec)

/-- 'laws.FnExactTapeOK', WHERE WHAT IT READS IS OF BULK AT MOST 1048576: true; the input reads as it did. -/
def fnExactTapeOKUptoRow : OpenClaim := { program := "ytbgaodfnhbbgdaa", sum := "fd516a7c091432365884cfe504c73bf25790d502e1d16305f68f3d3e111f5b6a", func := "loop.example/g00615/laws.FnExactTapeOK", spec := "fnExactTapeOK", unfollowed := true, recurses := true, apart := false, narrowed := true }
def FnExactTapeOKUptoSaid : Prop := fnExactTapeOKUptoRow.holds Try.pinned (OpenSpec.upto fnExactTapeOKSpec)

/-- 'laws.FnExactExprOK', WHERE WHAT IT READS IS OF BULK AT MOST 1048576: true; the input reads as it did. -/
def fnExactExprOKUptoRow : OpenClaim := { program := "ytbgaodfnhbbgdaa", sum := "fd516a7c091432365884cfe504c73bf25790d502e1d16305f68f3d3e111f5b6a", func := "loop.example/g00615/laws.FnExactExprOK", spec := "fnExactExprOK", unfollowed := true, recurses := true, apart := false, narrowed := true }
def FnExactExprOKUptoSaid : Prop := fnExactExprOKUptoRow.holds Try.pinned (OpenSpec.upto fnExactExprOKSpec)

/-- 'laws.FnExactSameExpr', WHERE WHAT IT READS IS OF BULK AT MOST 1048576: true; the input reads as it did. -/
def fnExactSameExprUptoRow : OpenClaim := { program := "ytbgaodfnhbbgdaa", sum := "fd516a7c091432365884cfe504c73bf25790d502e1d16305f68f3d3e111f5b6a", func := "loop.example/g00615/laws.FnExactSameExpr", spec := "fnExactSameExpr", unfollowed := true, recurses := true, apart := false, narrowed := true }
def FnExactSameExprUptoSaid : Prop := fnExactSameExprUptoRow.holds Try.pinned (OpenSpec.upto fnExactSameExprSpec)

/-- 'laws.FnExactDepthOf', WHERE WHAT IT READS IS OF BULK AT MOST 1048576: true; the input reads as it did. -/
def fnExactDepthOfUptoRow : OpenClaim := { program := "ytbgaodfnhbbgdaa", sum := "fd516a7c091432365884cfe504c73bf25790d502e1d16305f68f3d3e111f5b6a", func := "loop.example/g00615/laws.FnExactDepthOf", spec := "fnExactDepthOf", unfollowed := true, recurses := true, apart := false, narrowed := true }
def FnExactDepthOfUptoSaid : Prop := fnExactDepthOfUptoRow.holds Try.pinned (OpenSpec.upto fnExactDepthOfSpec)

/-- 'laws.FnExactDimOf', WHERE WHAT IT READS IS OF BULK AT MOST 1048576: true; the input reads as it did. -/
def fnExactDimOfUptoRow : OpenClaim := { program := "ytbgaodfnhbbgdaa", sum := "fd516a7c091432365884cfe504c73bf25790d502e1d16305f68f3d3e111f5b6a", func := "loop.example/g00615/laws.FnExactDimOf", spec := "fnExactDimOf", unfollowed := true, recurses := true, apart := false, narrowed := true }
def FnExactDimOfUptoSaid : Prop := fnExactDimOfUptoRow.holds Try.pinned (OpenSpec.upto fnExactDimOfSpec)

end Rows
end Go.Proofs.Ytbgaodfnhbbgdaa
