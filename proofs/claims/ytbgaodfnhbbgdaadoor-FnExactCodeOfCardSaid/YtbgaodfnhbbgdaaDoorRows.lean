/-
  NARROWER THAN 'FOR EVERY INPUT', by the rows' own cells (each row's printed sentence says how): FnExactCodeWord: laid · FnExactCodeOf: laid.
  DERIVED. THE GIVEN ROWS OF THIS SEAT. 2 by the template 'for every input the law returns true; each argument reads behind the call as it read before'; 0 by the template 'total and deterministic' (their statements: YtbgaodfnhbbgdaaDoorTotals.lean).
  GIVEN WITH THE SEED: the statements are not yours to turn. If you find one false, say at which input.
  Laid BY PROGRAM, IN A SANDBOX (cutbox-rows.mjs): the forced cells as the released guide's own fill.sh prints them over the translation c21a5ae00f526a22… (all of the seat's roots in one cut). By AI agents, Wed Nov 11 2026. No macro, syntax, notation, axiom, sorry.
-/
import Derived.Test.YtbgaodfnhbbgdaaDoorChecked
import GoSem.Claim
import GoSem.ClaimJoined
import GoSem.ClaimMapViews
import Derived.JoinedTies
import Derived.KernelRfl
namespace Go.Proofs.YtbgaodfnhbbgdaaDoor
/- THE CELL 'sum', in the pinned program and in every row, IS THE sha256 OF THE DUMP (.gsa) THAT YtbgaodfnhbbgdaaDoorProg.lean LOADS. Nothing in Lean hashes anything: it is a label: what it is worth is what the hold of that sum in a sandbox is worth. -/
noncomputable def Tryd.pinned : Pinned := { name := "ytbgaodfnhbbgdaadoor", sum := "c21a5ae00f526a22fee74bca18645e9c23b103b5dfedd15ba1bc2a65576afb42", checked := Tryd.checked }
namespace Rows
def none {H : Type} : Left H := { results := [], args := [] }

/- WHAT THE LISTED PACKAGE-LEVEL VARIABLES READ AS WHEN THE CALL BEGINS. Each datum BY PROGRAM (the guide's laid-datum.mjs) off the statement by which the dump's own 'gosem.cut.vars' lays the variable. In a bare row this is a premise. The card (YtbgaodfnhbbgdaaDoorCards.lean) ties it to the program's text. -/
def laid_loop_example_g00615_impl_words {H : Type} : DataW H := .slice [.lit (.string [111, 107]), .lit (.string [98, 97, 100]), .lit (.string [108, 111, 110, 103]), .lit (.string [102, 111, 114, 109]), .lit (.string [114, 97, 110, 103, 101]), .lit (.string [110, 111, 110, 101]), .lit (.string [109, 97, 110, 121]), .lit (.string [102, 117, 108, 108]), .lit (.string [115, 105, 122, 101]), .lit (.string [122, 101, 114, 111]), .lit (.string [100, 111, 109, 97, 105, 110]), .lit (.string [98, 101, 108, 111, 119]), .lit (.string [100, 101, 101, 112]), .lit (.string [110, 97, 109, 101]), .lit (.string [115, 111, 108, 118, 101, 114]), .lit (.string [98, 117, 100, 103, 101, 116]), .lit (.string [108, 105, 109, 105, 116]), .lit (.string [115, 101, 97, 114, 99, 104]), .lit (.string [98, 111, 120]), .lit (.string [97, 117, 100, 105, 116])] []

/-- 'laws.FnExactCodeWord': WHATEVER THE INPUT: true; the input reads as it did. -/
def fnExactCodeWordSpec : ChangeSpec := { name := "fnExactCodeWord", vars := ["loop.example/g00615/impl.words"], fn := fun _ => fun
  | [d, g1] => { results := [.lit (.bool true)], args := [d], vars := [g1] }
  | _ => none }
def fnExactCodeWordRow : OpenClaim := { program := "ytbgaodfnhbbgdaadoor", sum := "c21a5ae00f526a22fee74bca18645e9c23b103b5dfedd15ba1bc2a65576afb42", func := "loop.example/g00615/laws.FnExactCodeWord", spec := "fnExactCodeWord", named := ["loop.example/g00615/impl.words"], apart := false, laid := [("loop.example/g00615/impl.words", laid_loop_example_g00615_impl_words)] }
def FnExactCodeWordSaid : Prop := fnExactCodeWordRow.holds Tryd.pinned (OpenSpec.ofChange fnExactCodeWordSpec)

/-- ITS FALSE NEIGHBOUR: 'it returns false'. Refute it at one input. -/
def fnExactCodeWordWrong : ChangeSpec := { name := "fnExactCodeWord", vars := ["loop.example/g00615/impl.words"], fn := fun _ => fun
  | [d, g1] => { results := [.lit (.bool false)], args := [d], vars := [g1] }
  | _ => none }
def FnExactCodeWordWrongFalsely : Prop := fnExactCodeWordRow.holds Tryd.pinned (OpenSpec.ofChange fnExactCodeWordWrong)

/-- 'laws.FnExactCodeOf': WHATEVER THE INPUT: true; the input reads as it did. -/
def fnExactCodeOfSpec : ChangeSpec := { name := "fnExactCodeOf", vars := ["loop.example/g00615/impl.words"], fn := fun _ => fun
  | [d, g1] => { results := [.lit (.bool true)], args := [d], vars := [g1] }
  | _ => none }
def fnExactCodeOfRow : OpenClaim := { program := "ytbgaodfnhbbgdaadoor", sum := "c21a5ae00f526a22fee74bca18645e9c23b103b5dfedd15ba1bc2a65576afb42", func := "loop.example/g00615/laws.FnExactCodeOf", spec := "fnExactCodeOf", named := ["loop.example/g00615/impl.words"], apart := false, laid := [("loop.example/g00615/impl.words", laid_loop_example_g00615_impl_words)] }
def FnExactCodeOfSaid : Prop := fnExactCodeOfRow.holds Tryd.pinned (OpenSpec.ofChange fnExactCodeOfSpec)

/-- ITS FALSE NEIGHBOUR: 'it returns false'. Refute it at one input. -/
def fnExactCodeOfWrong : ChangeSpec := { name := "fnExactCodeOf", vars := ["loop.example/g00615/impl.words"], fn := fun _ => fun
  | [d, g1] => { results := [.lit (.bool false)], args := [d], vars := [g1] }
  | _ => none }
def FnExactCodeOfWrongFalsely : Prop := fnExactCodeOfRow.holds Tryd.pinned (OpenSpec.ofChange fnExactCodeOfWrong)

/- THE SECOND FORM. 'bulk': how many values and letters a reading holds, each counted each time it is reached (what is shared counts as often as it is met; a slice's spare places count too). A statement '..UptoSaid' is the law's where the arguments, and the package variables that the reading takes, are together of bulk at most 1048576: NARROWER than '..Said'. Prove '..Said' where nothing that the law and all that it calls make is longer than what came in: it says more and counts as full. Else prove '..UptoSaid'. A law counts once. -/
mutual
def uptoBulk {H : Type} : DataW H → Nat
  | .lit (.string bytes) => bytes.length + 1
  | .lit _ => 1
  | .nil => 1
  | .ptr d => uptoBulk d + 1
  | .slice elems spare => uptoBulkAll elems + uptoBulkAll spare + 1
  | .agg parts => uptoBulkAll parts + 1
  | .iface _ d => uptoBulk d + 1
  | .map entries => uptoBulkEntries entries + 1
  | .held _ => 1
def uptoBulkAll {H : Type} : List (DataW H) → Nat
  | [] => 0
  | d :: r => uptoBulk d + uptoBulkAll r
def uptoBulkEntries {H : Type} : List (Lit × DataW H) → Nat
  | [] => 0
  | x :: r => uptoBulkEntry x + uptoBulkEntries r
def uptoBulkEntry {H : Type} : Lit × DataW H → Nat
  | (.string bytes, d) => bytes.length + uptoBulk d + 1
  | (_, d) => uptoBulk d + 1
 end
def uptoSmall : (H : Type) → List (DataW H) → Bool := fun _ ds => decide (uptoBulkAll ds ≤ 1048576)
def OpenSpec.upto (s : _root_.Go.ChangeSpec) : _root_.Go.OpenSpec := { _root_.Go.OpenSpec.ofChange s with cond := some uptoSmall }

/-- 'laws.FnExactCodeWord', WHERE WHAT IT READS IS OF BULK AT MOST 1048576: true; the input reads as it did. -/
def fnExactCodeWordUptoRow : OpenClaim := { program := "ytbgaodfnhbbgdaadoor", sum := "c21a5ae00f526a22fee74bca18645e9c23b103b5dfedd15ba1bc2a65576afb42", func := "loop.example/g00615/laws.FnExactCodeWord", spec := "fnExactCodeWord", named := ["loop.example/g00615/impl.words"], apart := false, laid := [("loop.example/g00615/impl.words", laid_loop_example_g00615_impl_words)], narrowed := true }
def FnExactCodeWordUptoSaid : Prop := fnExactCodeWordUptoRow.holds Tryd.pinned (OpenSpec.upto fnExactCodeWordSpec)

/-- 'laws.FnExactCodeOf', WHERE WHAT IT READS IS OF BULK AT MOST 1048576: true; the input reads as it did. -/
def fnExactCodeOfUptoRow : OpenClaim := { program := "ytbgaodfnhbbgdaadoor", sum := "c21a5ae00f526a22fee74bca18645e9c23b103b5dfedd15ba1bc2a65576afb42", func := "loop.example/g00615/laws.FnExactCodeOf", spec := "fnExactCodeOf", named := ["loop.example/g00615/impl.words"], apart := false, laid := [("loop.example/g00615/impl.words", laid_loop_example_g00615_impl_words)], narrowed := true }
def FnExactCodeOfUptoSaid : Prop := fnExactCodeOfUptoRow.holds Tryd.pinned (OpenSpec.upto fnExactCodeOfSpec)

end Rows
end Go.Proofs.YtbgaodfnhbbgdaaDoor
