-- Written by a program of this session's (wip/tools) out of the translation. Not trusted: Lean checks it.
import Derived.Test.YtgcmpckfmpfnkaaProg
import Derived.Below
import Derived.Deep.Draws
import Derived.Deep.AppendLies
import Derived.Maps.AppendAt
import Derived.OwnWalk
import Derived.Laws.BytesArg
import Derived.Laws.MakeOwn
import Derived.Laws.OwnMore
import Derived.Deep.OwnRows
import Derived.Tactics
import Derived.Lib.ConvBytes
import Derived.Laws.Slices
import Derived.WalkKit
import Derived.KernelRfl
import Derived.RowKit3
import Derived.Deep.LoopGhost
import Derived.Deep.QuietTactic
import Derived.BigQuiet
import Derived.WideLaws
import Derived.Deep.DeepCutAuto
import Derived.Deep.CutBlock
import Derived.Deep.RegionHeld3
import Derived.Laws.Rows
import Derived.Lib.AppendStr
import Derived.ArgAppend
import Derived.Laws.IdiomCopy
import Derived.OrdersHeld
import Derived.Laws.BitsLemmas
import Derived.RowKit
import Derived.Lib.Bytealg
import Derived.Laws.Externs
import Derived.Test.YtgcmpckfmpfnkaaWWords
import Derived.Test.YtgcmpckfmpfnkaaWLast
import Derived.Test.YtgcmpckfmpfnkaaWTab
import Derived.Test.YtgcmpckfmpfnkaaWFour
import Derived.Test.YtgcmpckfmpfnkaaWQPut
import Derived.Test.YtgcmpckfmpfnkaaWApart
import Derived.Test.YtgcmpckfmpfnkaaWArr
import Derived.Test.YtgcmpckfmpfnkaaWZeros
import Derived.Test.YtgcmpckfmpfnkaaWFoot
import Derived.Test.YtgcmpckfmpfnkaaWKept
import Derived.Test.YtgcmpckfmpfnkaaWShare
import Derived.Test.YtgcmpckfmpfnkaaWN
import Derived.Test.YtgcmpckfmpfnkaaWFootNe
import Derived.Test.YtgcmpckfmpfnkaaWAt
import Derived.Test.YtgcmpckfmpfnkaaWEqStruct
import Derived.Test.YtgcmpckfmpfnkaaWRepsOne
import Derived.Test.YtgcmpckfmpfnkaaWInv
import Derived.Test.YtgcmpckfmpfnkaaWInvWords
import Derived.Test.YtgcmpckfmpfnkaaWGuard
import Derived.Test.YtgcmpckfmpfnkaaWNEv
import Derived.Test.YtgcmpckfmpfnkaaWMore
namespace Go.Proofs.Ytgcmpckfmpfnkaa.X
open Go.RowKit Go.Proofs.YtgcmpckfmpfnkaaW.PrintWords Go.Proofs.YtgcmpckfmpfnkaaW.PrintLast Go.Proofs.YtgcmpckfmpfnkaaW.PrintMore
attribute [local go_sem] max2_int min2_int max_two min_two max_three min_three max_four min_four   -- for this text's walks alone
set_option linter.unusedVariables false
set_option linter.unusedSimpArgs false



def errW : Option Int → Value
  | none => .nilIface
  | some c => .iface 0 (.int .i64 c)
theorem errW_none : errW none = .nilIface := rfl
theorem errW_some (c : Int) : errW (some c) = .iface 0 (.int .i64 c) := rfl

-- the values' own types

end Go.Proofs.Ytgcmpckfmpfnkaa.X
