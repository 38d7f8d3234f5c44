-- written by a program of this claim's session (myprint.py) out of the translation; Lean checks it.
import Derived.Test.YtbgaodfnhbbgdaaDoorProg
import Derived.Below
import Derived.Deep.Draws
import Derived.Deep.AppendLies
import Derived.Maps.AppendAt
import Derived.OwnWalk
import Derived.Laws.BytesArg
import Derived.Laws.MakeOwn
import Derived.Laws.OwnMore
import Derived.Deep.OwnRows
import Derived.Tactics
import Derived.Lib.ConvBytes
import Derived.Laws.Slices
import Derived.WalkKit
import Derived.KernelRfl
import Derived.RowKit3
import Derived.Deep.LoopGhost
import Derived.Deep.QuietTactic
import Derived.BigQuiet
import Derived.WideLaws
import Derived.Deep.DeepCutAuto
import Derived.Deep.CutBlock
import Derived.Deep.RegionHeld3
import Derived.Laws.Rows
import Derived.Lib.AppendStr
import Derived.ArgAppend
import Derived.Laws.IdiomCopy
import Derived.OrdersHeld
import Derived.Laws.BitsLemmas
import Derived.RowKit
import Derived.RangeFuncBox
import Derived.RangeFuncLeaves
import Derived.Shelf.Abstract
import Derived.OwnWalkIn
import Derived.TacticsInMore
import Derived.LoopNIn
import Derived.LoopIn
import Derived.Lib.Hide
import Derived.Lib.SliceRun
import Derived.Test.YtbgaodfnhbbgdaaDoorWWords
import Derived.Test.YtbgaodfnhbbgdaaDoorWLast
import Derived.Test.YtbgaodfnhbbgdaaDoorWTab
import Derived.Test.YtbgaodfnhbbgdaaDoorWFour
import Derived.Test.YtbgaodfnhbbgdaaDoorWQPut
import Derived.Test.YtbgaodfnhbbgdaaDoorWApart
import Derived.Test.YtbgaodfnhbbgdaaDoorWArr
import Derived.Test.YtbgaodfnhbbgdaaDoorWZeros
import Derived.Test.YtbgaodfnhbbgdaaDoorWFoot
import Derived.Test.YtbgaodfnhbbgdaaDoorWKept
import Derived.Test.YtbgaodfnhbbgdaaDoorWShare
import Derived.Test.YtbgaodfnhbbgdaaDoorWN
import Derived.Test.YtbgaodfnhbbgdaaDoorWFootNe
import Derived.Test.YtbgaodfnhbbgdaaDoorWAt
import Derived.Test.YtbgaodfnhbbgdaaDoorWEqStruct
import Derived.Test.YtbgaodfnhbbgdaaDoorWRepsOne
import Derived.Test.YtbgaodfnhbbgdaaDoorWInv
import Derived.Test.YtbgaodfnhbbgdaaDoorWInvWords
import Derived.Test.YtbgaodfnhbbgdaaDoorWGuard
import Derived.Test.YtbgaodfnhbbgdaaDoorWNEv
import Derived.Test.YtbgaodfnhbbgdaaDoorWMore
namespace Go.Proofs.YtbgaodfnhbbgdaaDoor.Q
open Go.RowKit Go.Proofs.YtbgaodfnhbbgdaaDoorW.PrintWords Go.Proofs.YtbgaodfnhbbgdaaDoorW.PrintLast Go.Proofs.YtbgaodfnhbbgdaaDoorW.PrintMore
attribute [local go_sem] max2_int min2_int max_two min_two max_three min_three max_four min_four   -- for this text's walks alone
set_option linter.unusedVariables false
set_option linter.unusedSimpArgs false



def errW : Option Int → Value
  | none => .nilIface
  | some c => .iface 0 (.int .i64 c)
theorem errW_none : errW none = .nilIface := rfl
theorem errW_some (c : Int) : errW (some c) = .iface 0 (.int .i64 c) := rfl

theorem info9 : (Tryd.prog.info? 9).map (fun i => (i.zero, i.size, i.bytes)) = some (some (.string ⟨#[]⟩), 1, 16) := by kernel_rfl
-- the values' own types

end Go.Proofs.YtbgaodfnhbbgdaaDoor.Q
