-- WRITTEN BY wip/tools/aprint.py of this claim's repository over the kit's words: not typed by hand
import Derived.Test.YtplfcbbaanjdgaaProg
import Derived.Below
import Derived.Deep.Draws
import Derived.Deep.AppendLies
import Derived.Maps.AppendAt
import Derived.OwnWalk
import Derived.Laws.BytesArg
import Derived.Laws.MakeOwn
import Derived.Laws.OwnMore
import Derived.Deep.OwnRows
import Derived.Tactics
import Derived.Lib.ConvBytes
import Derived.Laws.Slices
import Derived.WalkKit
import Derived.KernelRfl
import Derived.RowKit3
import Derived.Deep.LoopGhost
import Derived.Deep.QuietTactic
import Derived.BigQuiet
import Derived.WideLaws
import Derived.Deep.DeepCutAuto
import Derived.Deep.CutBlock
import Derived.Deep.RegionHeld3
import Derived.Laws.Rows
import Derived.Lib.AppendStr
import Derived.ArgAppend
import Derived.Laws.IdiomCopy
import Derived.OrdersHeld
import Derived.Laws.BitsLemmas
import Derived.RowKit
import Derived.Test.YtplfcbbaanjdgaaWWords
import Derived.Test.YtplfcbbaanjdgaaWLast
import Derived.Test.YtplfcbbaanjdgaaWTab
import Derived.Test.YtplfcbbaanjdgaaWFour
import Derived.Test.YtplfcbbaanjdgaaWQPut
import Derived.Test.YtplfcbbaanjdgaaWApart
import Derived.Test.YtplfcbbaanjdgaaWArr
import Derived.Test.YtplfcbbaanjdgaaWZeros
import Derived.Test.YtplfcbbaanjdgaaWFoot
import Derived.Test.YtplfcbbaanjdgaaWKept
import Derived.Test.YtplfcbbaanjdgaaWShare
import Derived.Test.YtplfcbbaanjdgaaWN
import Derived.Test.YtplfcbbaanjdgaaWFootNe
import Derived.Test.YtplfcbbaanjdgaaWAt
import Derived.Test.YtplfcbbaanjdgaaWEqStruct
import Derived.Test.YtplfcbbaanjdgaaWRepsOne
import Derived.Test.YtplfcbbaanjdgaaWInv
import Derived.Test.YtplfcbbaanjdgaaWInvWords
import Derived.Test.YtplfcbbaanjdgaaWGuard
import Derived.Test.YtplfcbbaanjdgaaWNEv
import Derived.Test.YtplfcbbaanjdgaaWMore
import Derived.Test.YtplfcbbaanjdgaaWAX
namespace Go.Proofs.Ytplfcbbaanjdgaa.PTrigAtans
open Go.RowKit Go.Proofs.YtplfcbbaanjdgaaW.PrintWords Go.Proofs.YtplfcbbaanjdgaaW.PrintLast Go.Proofs.YtplfcbbaanjdgaaW.PrintMore
attribute [local go_sem] max2_int min2_int max_two min_two max_three min_three max_four min_four   -- for this text's walks alone
set_option linter.unusedVariables false
set_option linter.unusedSimpArgs false



def errW : Option Int → Value
  | none => .nilIface
  | some c => .iface 0 (.int .i64 c)
theorem errW_none : errW none = .nilIface := rfl
theorem errW_some (c : Int) : errW (some c) = .iface 0 (.int .i64 c) := rfl

theorem info3 : (Try.prog.info? 3).map (fun i => (i.zero, i.size, i.bytes)) = some (some (.int .i64 0), 1, 8) := by kernel_rfl
-- the values' own types

end Go.Proofs.Ytplfcbbaanjdgaa.PTrigAtans
