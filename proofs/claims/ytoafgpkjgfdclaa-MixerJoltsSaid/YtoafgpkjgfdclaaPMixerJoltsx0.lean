-- WRITTEN BY wip/tools/aprint.py of this claim's repository over the kit's words: not typed by hand
import Derived.Test.YtoafgpkjgfdclaaProg
import Derived.Below
import Derived.Deep.Draws
import Derived.Deep.AppendLies
import Derived.Maps.AppendAt
import Derived.OwnWalk
import Derived.Laws.BytesArg
import Derived.Laws.MakeOwn
import Derived.Laws.OwnMore
import Derived.Deep.OwnRows
import Derived.Tactics
import Derived.Lib.ConvBytes
import Derived.Laws.Slices
import Derived.WalkKit
import Derived.KernelRfl
import Derived.RowKit3
import Derived.Deep.LoopGhost
import Derived.Deep.QuietTactic
import Derived.BigQuiet
import Derived.WideLaws
import Derived.Deep.DeepCutAuto
import Derived.Deep.CutBlock
import Derived.Deep.RegionHeld3
import Derived.Laws.Rows
import Derived.Lib.AppendStr
import Derived.ArgAppend
import Derived.Laws.IdiomCopy
import Derived.OrdersHeld
import Derived.Laws.BitsLemmas
import Derived.RowKit
import Derived.Test.YtoafgpkjgfdclaaWWords
import Derived.Test.YtoafgpkjgfdclaaWLast
import Derived.Test.YtoafgpkjgfdclaaWTab
import Derived.Test.YtoafgpkjgfdclaaWFour
import Derived.Test.YtoafgpkjgfdclaaWQPut
import Derived.Test.YtoafgpkjgfdclaaWApart
import Derived.Test.YtoafgpkjgfdclaaWArr
import Derived.Test.YtoafgpkjgfdclaaWZeros
import Derived.Test.YtoafgpkjgfdclaaWFoot
import Derived.Test.YtoafgpkjgfdclaaWKept
import Derived.Test.YtoafgpkjgfdclaaWShare
import Derived.Test.YtoafgpkjgfdclaaWN
import Derived.Test.YtoafgpkjgfdclaaWFootNe
import Derived.Test.YtoafgpkjgfdclaaWAt
import Derived.Test.YtoafgpkjgfdclaaWEqStruct
import Derived.Test.YtoafgpkjgfdclaaWRepsOne
import Derived.Test.YtoafgpkjgfdclaaWInv
import Derived.Test.YtoafgpkjgfdclaaWInvWords
import Derived.Test.YtoafgpkjgfdclaaWGuard
import Derived.Test.YtoafgpkjgfdclaaWNEv
import Derived.Test.YtoafgpkjgfdclaaWMore
import Derived.Test.YtoafgpkjgfdclaaWAX
namespace Go.Proofs.Ytoafgpkjgfdclaa.PMixerJolts
open Go.RowKit Go.Proofs.YtoafgpkjgfdclaaW.PrintWords Go.Proofs.YtoafgpkjgfdclaaW.PrintLast Go.Proofs.YtoafgpkjgfdclaaW.PrintMore
attribute [local go_sem] max2_int min2_int max_two min_two max_three min_three max_four min_four   -- for this text's walks alone
set_option linter.unusedVariables false
set_option linter.unusedSimpArgs false



def errW : Option Int → Value
  | none => .nilIface
  | some c => .iface 0 (.int .i64 c)
theorem errW_none : errW none = .nilIface := rfl
theorem errW_some (c : Int) : errW (some c) = .iface 0 (.int .i64 c) := rfl

-- the values' own types

end Go.Proofs.Ytoafgpkjgfdclaa.PMixerJolts
