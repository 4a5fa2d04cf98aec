-- PRINTED BY print.sh 35421559b90ae4d0a3588c463048766b98c2df88dd9212a6774a882060cdf62d: not written by this session
import Derived.Test.YtpmaiofgnbgboaaProg
import Derived.Below
import Derived.Deep.Draws
import Derived.Deep.AppendLies
import Derived.Maps.AppendAt
import Derived.OwnWalk
import Derived.Laws.BytesArg
import Derived.Laws.MakeOwn
import Derived.Laws.OwnMore
import Derived.Deep.OwnRows
import Derived.Tactics
import Derived.Lib.ConvBytes
import Derived.Laws.Slices
import Derived.WalkKit
import Derived.KernelRfl
import Derived.RowKit3
import Derived.Deep.LoopGhost
import Derived.Deep.QuietTactic
import Derived.BigQuiet
import Derived.WideLaws
import Derived.Deep.DeepCutAuto
import Derived.Deep.CutBlock
import Derived.Deep.RegionHeld3
import Derived.Laws.Rows
import Derived.Lib.AppendStr
import Derived.ArgAppend
import Derived.Laws.IdiomCopy
import Derived.OrdersHeld
import Derived.Laws.BitsLemmas
import Derived.RowKit
import Derived.Test.YtpmaiofgnbgboaaWWords
import Derived.Test.YtpmaiofgnbgboaaWLast
import Derived.Test.YtpmaiofgnbgboaaWTab
import Derived.Test.YtpmaiofgnbgboaaWFour
import Derived.Test.YtpmaiofgnbgboaaWQPut
import Derived.Test.YtpmaiofgnbgboaaWApart
import Derived.Test.YtpmaiofgnbgboaaWArr
import Derived.Test.YtpmaiofgnbgboaaWZeros
import Derived.Test.YtpmaiofgnbgboaaWFoot
import Derived.Test.YtpmaiofgnbgboaaWKept
import Derived.Test.YtpmaiofgnbgboaaWShare
import Derived.Test.YtpmaiofgnbgboaaWN
import Derived.Test.YtpmaiofgnbgboaaWFootNe
import Derived.Test.YtpmaiofgnbgboaaWAt
import Derived.Test.YtpmaiofgnbgboaaWEqStruct
import Derived.Test.YtpmaiofgnbgboaaWRepsOne
import Derived.Test.YtpmaiofgnbgboaaWInv
import Derived.Test.YtpmaiofgnbgboaaWInvWords
import Derived.Test.YtpmaiofgnbgboaaWGuard
import Derived.Test.YtpmaiofgnbgboaaWNEv
import Derived.Test.YtpmaiofgnbgboaaWMore
namespace Go.Proofs.Ytpmaiofgnbgboaa.PGovernorSays
open Go.RowKit Go.Proofs.YtpmaiofgnbgboaaW.PrintWords Go.Proofs.YtpmaiofgnbgboaaW.PrintLast Go.Proofs.YtpmaiofgnbgboaaW.PrintMore
attribute [local go_sem] max2_int min2_int max_two min_two max_three min_three max_four min_four   -- for this text's walks alone
set_option linter.unusedVariables false
set_option linter.unusedSimpArgs false



def errW : Option Int → Value
  | none => .nilIface
  | some c => .iface 0 (.int .i64 c)
theorem errW_none : errW none = .nilIface := rfl
theorem errW_some (c : Int) : errW (some c) = .iface 0 (.int .i64 c) := rfl

-- the values' own types

end Go.Proofs.Ytpmaiofgnbgboaa.PGovernorSays
