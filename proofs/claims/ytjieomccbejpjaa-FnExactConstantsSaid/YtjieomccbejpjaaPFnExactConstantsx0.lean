-- PRINTED BY print.sh 35421559b90ae4d0a3588c463048766b98c2df88dd9212a6774a882060cdf62d: not written by this session
import Derived.Test.YtjieomccbejpjaaProg
import Derived.Below
import Derived.Deep.Draws
import Derived.Deep.AppendLies
import Derived.Maps.AppendAt
import Derived.OwnWalk
import Derived.Laws.BytesArg
import Derived.Laws.MakeOwn
import Derived.Laws.OwnMore
import Derived.Deep.OwnRows
import Derived.Tactics
import Derived.Lib.ConvBytes
import Derived.Laws.Slices
import Derived.WalkKit
import Derived.KernelRfl
import Derived.RowKit3
import Derived.Deep.LoopGhost
import Derived.Deep.QuietTactic
import Derived.BigQuiet
import Derived.WideLaws
import Derived.Deep.DeepCutAuto
import Derived.Deep.CutBlock
import Derived.Deep.RegionHeld3
import Derived.Laws.Rows
import Derived.Lib.AppendStr
import Derived.ArgAppend
import Derived.Laws.IdiomCopy
import Derived.OrdersHeld
import Derived.Laws.BitsLemmas
import Derived.RowKit
import Derived.Test.YtjieomccbejpjaaWWords
import Derived.Test.YtjieomccbejpjaaWLast
import Derived.Test.YtjieomccbejpjaaWTab
import Derived.Test.YtjieomccbejpjaaWFour
import Derived.Test.YtjieomccbejpjaaWQPut
import Derived.Test.YtjieomccbejpjaaWApart
import Derived.Test.YtjieomccbejpjaaWArr
import Derived.Test.YtjieomccbejpjaaWZeros
import Derived.Test.YtjieomccbejpjaaWFoot
import Derived.Test.YtjieomccbejpjaaWKept
import Derived.Test.YtjieomccbejpjaaWShare
import Derived.Test.YtjieomccbejpjaaWN
import Derived.Test.YtjieomccbejpjaaWFootNe
import Derived.Test.YtjieomccbejpjaaWAt
import Derived.Test.YtjieomccbejpjaaWEqStruct
import Derived.Test.YtjieomccbejpjaaWRepsOne
import Derived.Test.YtjieomccbejpjaaWInv
import Derived.Test.YtjieomccbejpjaaWInvWords
import Derived.Test.YtjieomccbejpjaaWGuard
import Derived.Test.YtjieomccbejpjaaWNEv
import Derived.Test.YtjieomccbejpjaaWMore
namespace Go.Proofs.Ytjieomccbejpjaa.PFnExactConstants
open Go.RowKit Go.Proofs.YtjieomccbejpjaaW.PrintWords Go.Proofs.YtjieomccbejpjaaW.PrintLast Go.Proofs.YtjieomccbejpjaaW.PrintMore
attribute [local go_sem] max2_int min2_int max_two min_two max_three min_three max_four min_four   -- for this text's walks alone
set_option linter.unusedVariables false
set_option linter.unusedSimpArgs false



def errW : Option Int → Value
  | none => .nilIface
  | some c => .iface 0 (.int .i64 c)
theorem errW_none : errW none = .nilIface := rfl
theorem errW_some (c : Int) : errW (some c) = .iface 0 (.int .i64 c) := rfl

-- the values' own types

end Go.Proofs.Ytjieomccbejpjaa.PFnExactConstants
