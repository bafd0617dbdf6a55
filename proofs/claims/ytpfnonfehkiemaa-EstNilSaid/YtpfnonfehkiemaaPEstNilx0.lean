-- WRITTEN BY wip/tools/aprint.py of this claim's repository over the kit's words: not typed by hand
import Derived.Test.YtpfnonfehkiemaaProg
import Derived.Below
import Derived.Deep.Draws
import Derived.Deep.AppendLies
import Derived.Maps.AppendAt
import Derived.OwnWalk
import Derived.Laws.BytesArg
import Derived.Laws.MakeOwn
import Derived.Laws.OwnMore
import Derived.Deep.OwnRows
import Derived.Tactics
import Derived.Lib.ConvBytes
import Derived.Laws.Slices
import Derived.WalkKit
import Derived.KernelRfl
import Derived.RowKit3
import Derived.Deep.LoopGhost
import Derived.Deep.QuietTactic
import Derived.BigQuiet
import Derived.WideLaws
import Derived.Deep.DeepCutAuto
import Derived.Deep.CutBlock
import Derived.Deep.RegionHeld3
import Derived.Laws.Rows
import Derived.Lib.AppendStr
import Derived.ArgAppend
import Derived.Laws.IdiomCopy
import Derived.OrdersHeld
import Derived.Laws.BitsLemmas
import Derived.RowKit
import Derived.Test.YtpfnonfehkiemaaWWords
import Derived.Test.YtpfnonfehkiemaaWLast
import Derived.Test.YtpfnonfehkiemaaWTab
import Derived.Test.YtpfnonfehkiemaaWFour
import Derived.Test.YtpfnonfehkiemaaWQPut
import Derived.Test.YtpfnonfehkiemaaWApart
import Derived.Test.YtpfnonfehkiemaaWArr
import Derived.Test.YtpfnonfehkiemaaWZeros
import Derived.Test.YtpfnonfehkiemaaWFoot
import Derived.Test.YtpfnonfehkiemaaWKept
import Derived.Test.YtpfnonfehkiemaaWShare
import Derived.Test.YtpfnonfehkiemaaWN
import Derived.Test.YtpfnonfehkiemaaWFootNe
import Derived.Test.YtpfnonfehkiemaaWAt
import Derived.Test.YtpfnonfehkiemaaWEqStruct
import Derived.Test.YtpfnonfehkiemaaWRepsOne
import Derived.Test.YtpfnonfehkiemaaWInv
import Derived.Test.YtpfnonfehkiemaaWInvWords
import Derived.Test.YtpfnonfehkiemaaWGuard
import Derived.Test.YtpfnonfehkiemaaWNEv
import Derived.Test.YtpfnonfehkiemaaWMore
import Derived.Test.YtpfnonfehkiemaaWAX
namespace Go.Proofs.Ytpfnonfehkiemaa.PEstNil
open Go.RowKit Go.Proofs.YtpfnonfehkiemaaW.PrintWords Go.Proofs.YtpfnonfehkiemaaW.PrintLast Go.Proofs.YtpfnonfehkiemaaW.PrintMore
attribute [local go_sem] max2_int min2_int max_two min_two max_three min_three max_four min_four   -- for this text's walks alone
set_option linter.unusedVariables false
set_option linter.unusedSimpArgs false



def errW : Option Int → Value
  | none => .nilIface
  | some c => .iface 0 (.int .i64 c)
theorem errW_none : errW none = .nilIface := rfl
theorem errW_some (c : Int) : errW (some c) = .iface 0 (.int .i64 c) := rfl

-- the values' own types

end Go.Proofs.Ytpfnonfehkiemaa.PEstNil
