/-
  No cell of these rows narrows 'for every input' (looked for: loops, veiled, ifaces, maps, wideKeys, modest, calm, conditions, laid).
  DERIVED. THE GIVEN ROWS OF THIS SEAT. 4 by the template 'for every input the law returns true; each argument reads behind the call as it read before'; 0 by the template 'total and deterministic' (their statements: YtegbmillbbcmfaaTotals.lean).
  GIVEN WITH THE SEED: the statements are not yours to turn. If you find one false, say at which input.
  Laid BY PROGRAM, IN A SANDBOX (cutbox-rows.mjs): the forced cells as the released guide's own fill.sh prints them over the translation 523c0d12437bdb7b… (all of the seat's roots in one cut). By AI agents, Wed Nov 11 2026. No macro, syntax, notation, axiom, sorry.
-/
import Derived.Test.YtegbmillbbcmfaaChecked
import GoSem.Claim
import GoSem.ClaimJoined
import GoSem.ClaimMapViews
import Derived.JoinedTies
import Derived.KernelRfl
namespace Go.Proofs.Ytegbmillbbcmfaa
/- THE CELL 'sum', in the pinned program and in every row, IS THE sha256 OF THE DUMP (.gsa) THAT YtegbmillbbcmfaaProg.lean LOADS. Nothing in Lean hashes anything: it is a label: what it is worth is what the hold of that sum in a sandbox is worth. -/
noncomputable def Try.pinned : Pinned := { name := "ytegbmillbbcmfaa", sum := "523c0d12437bdb7bdf1aa73251524650b5fe52e1184b80e118713ba3b0a8a409", checked := Try.checked }
namespace Rows
def none {H : Type} : Left H := { results := [], args := [] }

/-- 'laws.FnExactVecOK': WHATEVER THE INPUT: true; the input reads as it did. -/
def fnExactVecOKSpec : ChangeSpec := { name := "fnExactVecOK", fn := fun _ => fun
  | [d] => { results := [.lit (.bool true)], args := [d] }
  | _ => none }
def fnExactVecOKRow : OpenClaim := { program := "ytegbmillbbcmfaa", sum := "523c0d12437bdb7bdf1aa73251524650b5fe52e1184b80e118713ba3b0a8a409", func := "loop.example/g00615/laws.FnExactVecOK", spec := "fnExactVecOK", unfollowed := true, recurses := true, apart := false }
def FnExactVecOKSaid : Prop := fnExactVecOKRow.holds Try.pinned (OpenSpec.ofChange fnExactVecOKSpec)

/-- ITS FALSE NEIGHBOUR: 'it returns false'. Refute it at one input. -/
def fnExactVecOKWrong : ChangeSpec := { name := "fnExactVecOK", fn := fun _ => fun
  | [d] => { results := [.lit (.bool false)], args := [d] }
  | _ => none }
def FnExactVecOKWrongFalsely : Prop := fnExactVecOKRow.holds Try.pinned (OpenSpec.ofChange fnExactVecOKWrong)

/-- 'laws.FnExactSameVec': WHATEVER THE INPUT: true; the input reads as it did. -/
def fnExactSameVecSpec : ChangeSpec := { name := "fnExactSameVec", fn := fun _ => fun
  | [d1, d2] => { results := [.lit (.bool true)], args := [d1, d2] }
  | _ => none }
def fnExactSameVecRow : OpenClaim := { program := "ytegbmillbbcmfaa", sum := "523c0d12437bdb7bdf1aa73251524650b5fe52e1184b80e118713ba3b0a8a409", func := "loop.example/g00615/laws.FnExactSameVec", spec := "fnExactSameVec", unfollowed := true, recurses := true, apart := false }
def FnExactSameVecSaid : Prop := fnExactSameVecRow.holds Try.pinned (OpenSpec.ofChange fnExactSameVecSpec)

/-- ITS FALSE NEIGHBOUR: 'it returns false'. Refute it at one input. -/
def fnExactSameVecWrong : ChangeSpec := { name := "fnExactSameVec", fn := fun _ => fun
  | [d1, d2] => { results := [.lit (.bool false)], args := [d1, d2] }
  | _ => none }
def FnExactSameVecWrongFalsely : Prop := fnExactSameVecRow.holds Try.pinned (OpenSpec.ofChange fnExactSameVecWrong)

/-- 'laws.FnExactDot': WHATEVER THE INPUT: true; the input reads as it did. -/
def fnExactDotSpec : ChangeSpec := { name := "fnExactDot", fn := fun _ => fun
  | [d1, d2] => { results := [.lit (.bool true)], args := [d1, d2] }
  | _ => none }
def fnExactDotRow : OpenClaim := { program := "ytegbmillbbcmfaa", sum := "523c0d12437bdb7bdf1aa73251524650b5fe52e1184b80e118713ba3b0a8a409", func := "loop.example/g00615/laws.FnExactDot", spec := "fnExactDot", unfollowed := true, recurses := true, apart := false }
def FnExactDotSaid : Prop := fnExactDotRow.holds Try.pinned (OpenSpec.ofChange fnExactDotSpec)

/-- ITS FALSE NEIGHBOUR: 'it returns false'. Refute it at one input. -/
def fnExactDotWrong : ChangeSpec := { name := "fnExactDot", fn := fun _ => fun
  | [d1, d2] => { results := [.lit (.bool false)], args := [d1, d2] }
  | _ => none }
def FnExactDotWrongFalsely : Prop := fnExactDotRow.holds Try.pinned (OpenSpec.ofChange fnExactDotWrong)

/-- 'laws.FnExactNorm2': WHATEVER THE INPUT: true; the input reads as it did. -/
def fnExactNorm2Spec : ChangeSpec := { name := "fnExactNorm2", fn := fun _ => fun
  | [d] => { results := [.lit (.bool true)], args := [d] }
  | _ => none }
def fnExactNorm2Row : OpenClaim := { program := "ytegbmillbbcmfaa", sum := "523c0d12437bdb7bdf1aa73251524650b5fe52e1184b80e118713ba3b0a8a409", func := "loop.example/g00615/laws.FnExactNorm2", spec := "fnExactNorm2", unfollowed := true, recurses := true, apart := false }
def FnExactNorm2Said : Prop := fnExactNorm2Row.holds Try.pinned (OpenSpec.ofChange fnExactNorm2Spec)

/-- ITS FALSE NEIGHBOUR: 'it returns false'. Refute it at one input. -/
def fnExactNorm2Wrong : ChangeSpec := { name := "fnExactNorm2", fn := fun _ => fun
  | [d] => { results := [.lit (.bool false)], args := [d] }
  | _ => none }
def FnExactNorm2WrongFalsely : Prop := fnExactNorm2Row.holds Try.pinned (OpenSpec.ofChange fnExactNorm2Wrong)

/- THE SECOND FORM. 'bulk': how many values and letters a reading holds, each counted each time it is reached (what is shared counts as often as it is met; a slice's spare places count too). A statement '..UptoSaid' is the law's where the arguments, and the package variables that the reading takes, are together of bulk at most 1048576: NARROWER than '..Said'. Prove '..Said' where nothing that the law and all that it calls make is longer than what came in: it says more and counts as full. Else prove '..UptoSaid'. A law counts once. -/
mutual
def uptoBulk {H : Type} : DataW H → Nat
  | .lit (.string bytes) => bytes.length + 1
  | .lit _ => 1
  | .nil => 1
  | .ptr d => uptoBulk d + 1
  | .slice elems spare => uptoBulkAll elems + uptoBulkAll spare + 1
  | .agg parts => uptoBulkAll parts + 1
  | .iface _ d => uptoBulk d + 1
  | .map entries => uptoBulkEntries entries + 1
  | .held _ => 1
def uptoBulkAll {H : Type} : List (DataW H) → Nat
  | [] => 0
  | d :: r => uptoBulk d + uptoBulkAll r
def uptoBulkEntries {H : Type} : List (Lit × DataW H) → Nat
  | [] => 0
  | x :: r => uptoBulkEntry x + uptoBulkEntries r
def uptoBulkEntry {H : Type} : Lit × DataW H → Nat
  | (.string bytes, d) => bytes.length + uptoBulk d + 1
  | (_, d) => uptoBulk d + 1
 end
def uptoSmall : (H : Type) → List (DataW H) → Bool := fun _ ds => decide (uptoBulkAll ds ≤ 1048576)
def OpenSpec.upto (s : _root_.Go.ChangeSpec) : _root_.Go.OpenSpec := { _root_.Go.OpenSpec.ofChange s with cond := some uptoSmall }

/-- 'laws.FnExactVecOK', WHERE WHAT IT READS IS OF BULK AT MOST 1048576: true; the input reads as it did. -/
def fnExactVecOKUptoRow : OpenClaim := { program := "ytegbmillbbcmfaa", sum := "523c0d12437bdb7bdf1aa73251524650b5fe52e1184b80e118713ba3b0a8a409", func := "loop.example/g00615/laws.FnExactVecOK", spec := "fnExactVecOK", unfollowed := true, recurses := true, apart := false, narrowed := true }
def FnExactVecOKUptoSaid : Prop := fnExactVecOKUptoRow.holds Try.pinned (OpenSpec.upto fnExactVecOKSpec)

/-- 'laws.FnExactSameVec', WHERE WHAT IT READS IS OF BULK AT MOST 1048576: true; the input reads as it did. -/
def fnExactSameVecUptoRow : OpenClaim := { program := "ytegbmillbbcmfaa", sum := "523c0d12437bdb7bdf1aa73251524650b5fe52e1184b80e118713ba3b0a8a409", func := "loop.example/g00615/laws.FnExactSameVec", spec := "fnExactSameVec", unfollowed := true, recurses := true, apart := false, narrowed := true }
def FnExactSameVecUptoSaid : Prop := fnExactSameVecUptoRow.holds Try.pinned (OpenSpec.upto fnExactSameVecSpec)

/-- 'laws.FnExactDot', WHERE WHAT IT READS IS OF BULK AT MOST 1048576: true; the input reads as it did. -/
def fnExactDotUptoRow : OpenClaim := { program := "ytegbmillbbcmfaa", sum := "523c0d12437bdb7bdf1aa73251524650b5fe52e1184b80e118713ba3b0a8a409", func := "loop.example/g00615/laws.FnExactDot", spec := "fnExactDot", unfollowed := true, recurses := true, apart := false, narrowed := true }
def FnExactDotUptoSaid : Prop := fnExactDotUptoRow.holds Try.pinned (OpenSpec.upto fnExactDotSpec)

/-- 'laws.FnExactNorm2', WHERE WHAT IT READS IS OF BULK AT MOST 1048576: true; the input reads as it did. -/
def fnExactNorm2UptoRow : OpenClaim := { program := "ytegbmillbbcmfaa", sum := "523c0d12437bdb7bdf1aa73251524650b5fe52e1184b80e118713ba3b0a8a409", func := "loop.example/g00615/laws.FnExactNorm2", spec := "fnExactNorm2", unfollowed := true, recurses := true, apart := false, narrowed := true }
def FnExactNorm2UptoSaid : Prop := fnExactNorm2UptoRow.holds Try.pinned (OpenSpec.upto fnExactNorm2Spec)

end Rows
end Go.Proofs.Ytegbmillbbcmfaa
