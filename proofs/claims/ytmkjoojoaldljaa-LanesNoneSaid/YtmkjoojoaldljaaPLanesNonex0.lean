-- PRINTED BY print.sh 35421559b90ae4d0a3588c463048766b98c2df88dd9212a6774a882060cdf62d: not written by this session
import Derived.Test.YtmkjoojoaldljaaProg
import Derived.Below
import Derived.Deep.Draws
import Derived.Deep.AppendLies
import Derived.Maps.AppendAt
import Derived.OwnWalk
import Derived.Laws.BytesArg
import Derived.Laws.MakeOwn
import Derived.Laws.OwnMore
import Derived.Deep.OwnRows
import Derived.Tactics
import Derived.Lib.ConvBytes
import Derived.Laws.Slices
import Derived.WalkKit
import Derived.KernelRfl
import Derived.RowKit3
import Derived.Deep.LoopGhost
import Derived.Deep.QuietTactic
import Derived.BigQuiet
import Derived.WideLaws
import Derived.Deep.DeepCutAuto
import Derived.Deep.CutBlock
import Derived.Deep.RegionHeld3
import Derived.Laws.Rows
import Derived.Lib.AppendStr
import Derived.ArgAppend
import Derived.Laws.IdiomCopy
import Derived.OrdersHeld
import Derived.Laws.BitsLemmas
import Derived.RowKit
import Derived.Test.YtmkjoojoaldljaaWWords
import Derived.Test.YtmkjoojoaldljaaWLast
import Derived.Test.YtmkjoojoaldljaaWTab
import Derived.Test.YtmkjoojoaldljaaWFour
import Derived.Test.YtmkjoojoaldljaaWQPut
import Derived.Test.YtmkjoojoaldljaaWApart
import Derived.Test.YtmkjoojoaldljaaWArr
import Derived.Test.YtmkjoojoaldljaaWZeros
import Derived.Test.YtmkjoojoaldljaaWFoot
import Derived.Test.YtmkjoojoaldljaaWKept
import Derived.Test.YtmkjoojoaldljaaWShare
import Derived.Test.YtmkjoojoaldljaaWN
import Derived.Test.YtmkjoojoaldljaaWFootNe
import Derived.Test.YtmkjoojoaldljaaWAt
import Derived.Test.YtmkjoojoaldljaaWEqStruct
import Derived.Test.YtmkjoojoaldljaaWRepsOne
import Derived.Test.YtmkjoojoaldljaaWInv
import Derived.Test.YtmkjoojoaldljaaWInvWords
import Derived.Test.YtmkjoojoaldljaaWGuard
import Derived.Test.YtmkjoojoaldljaaWNEv
import Derived.Test.YtmkjoojoaldljaaWMore
namespace Go.Proofs.Ytmkjoojoaldljaa.PLanesNone
open Go.RowKit Go.Proofs.YtmkjoojoaldljaaW.PrintWords Go.Proofs.YtmkjoojoaldljaaW.PrintLast Go.Proofs.YtmkjoojoaldljaaW.PrintMore
attribute [local go_sem] max2_int min2_int max_two min_two max_three min_three max_four min_four   -- for this text's walks alone
set_option linter.unusedVariables false
set_option linter.unusedSimpArgs false



def errW : Option Int → Value
  | none => .nilIface
  | some c => .iface 0 (.int .i64 c)
theorem errW_none : errW none = .nilIface := rfl
theorem errW_some (c : Int) : errW (some c) = .iface 0 (.int .i64 c) := rfl

theorem info3 : (Try.prog.info? 3).map (fun i => (i.zero, i.size, i.bytes)) = some (some (.int .i64 0), 1, 8) := by kernel_rfl
-- the values' own types

end Go.Proofs.Ytmkjoojoaldljaa.PLanesNone
