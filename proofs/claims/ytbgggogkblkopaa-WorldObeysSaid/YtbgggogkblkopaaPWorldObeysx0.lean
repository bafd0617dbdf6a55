-- WRITTEN BY wip/tools/aprint.py of this claim's repository over the kit's words: not typed by hand
import Derived.Test.YtbgggogkblkopaaProg
import Derived.Below
import Derived.Deep.Draws
import Derived.Deep.AppendLies
import Derived.Maps.AppendAt
import Derived.OwnWalk
import Derived.Laws.BytesArg
import Derived.Laws.MakeOwn
import Derived.Laws.OwnMore
import Derived.Deep.OwnRows
import Derived.Tactics
import Derived.Lib.ConvBytes
import Derived.Laws.Slices
import Derived.WalkKit
import Derived.KernelRfl
import Derived.RowKit3
import Derived.Deep.LoopGhost
import Derived.Deep.QuietTactic
import Derived.BigQuiet
import Derived.WideLaws
import Derived.Deep.DeepCutAuto
import Derived.Deep.CutBlock
import Derived.Deep.RegionHeld3
import Derived.Laws.Rows
import Derived.Lib.AppendStr
import Derived.ArgAppend
import Derived.Laws.IdiomCopy
import Derived.OrdersHeld
import Derived.Laws.BitsLemmas
import Derived.RowKit
import Derived.Test.YtbgggogkblkopaaWWords
import Derived.Test.YtbgggogkblkopaaWLast
import Derived.Test.YtbgggogkblkopaaWTab
import Derived.Test.YtbgggogkblkopaaWFour
import Derived.Test.YtbgggogkblkopaaWQPut
import Derived.Test.YtbgggogkblkopaaWApart
import Derived.Test.YtbgggogkblkopaaWArr
import Derived.Test.YtbgggogkblkopaaWZeros
import Derived.Test.YtbgggogkblkopaaWFoot
import Derived.Test.YtbgggogkblkopaaWKept
import Derived.Test.YtbgggogkblkopaaWShare
import Derived.Test.YtbgggogkblkopaaWN
import Derived.Test.YtbgggogkblkopaaWFootNe
import Derived.Test.YtbgggogkblkopaaWAt
import Derived.Test.YtbgggogkblkopaaWEqStruct
import Derived.Test.YtbgggogkblkopaaWRepsOne
import Derived.Test.YtbgggogkblkopaaWInv
import Derived.Test.YtbgggogkblkopaaWInvWords
import Derived.Test.YtbgggogkblkopaaWGuard
import Derived.Test.YtbgggogkblkopaaWNEv
import Derived.Test.YtbgggogkblkopaaWMore
import Derived.Test.YtbgggogkblkopaaWAX
namespace Go.Proofs.Ytbgggogkblkopaa.PWorldObeys
open Go.RowKit Go.Proofs.YtbgggogkblkopaaW.PrintWords Go.Proofs.YtbgggogkblkopaaW.PrintLast Go.Proofs.YtbgggogkblkopaaW.PrintMore
attribute [local go_sem] max2_int min2_int max_two min_two max_three min_three max_four min_four   -- for this text's walks alone
set_option linter.unusedVariables false
set_option linter.unusedSimpArgs false



def errW : Option Int → Value
  | none => .nilIface
  | some c => .iface 0 (.int .i64 c)
theorem errW_none : errW none = .nilIface := rfl
theorem errW_some (c : Int) : errW (some c) = .iface 0 (.int .i64 c) := rfl

-- the values' own types

end Go.Proofs.Ytbgggogkblkopaa.PWorldObeys
