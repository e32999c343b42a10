-- Written by a program of this session's (wip/tools) out of the translation. Not trusted: Lean checks it.
import Derived.Test.YtngmpffcgglngaaProg
import Derived.Below
import Derived.Deep.Draws
import Derived.Deep.AppendLies
import Derived.Maps.AppendAt
import Derived.OwnWalk
import Derived.Laws.BytesArg
import Derived.Laws.MakeOwn
import Derived.Laws.OwnMore
import Derived.Deep.OwnRows
import Derived.Tactics
import Derived.Lib.ConvBytes
import Derived.Laws.Slices
import Derived.WalkKit
import Derived.KernelRfl
import Derived.RowKit3
import Derived.Deep.LoopGhost
import Derived.Deep.QuietTactic
import Derived.BigQuiet
import Derived.WideLaws
import Derived.Deep.DeepCutAuto
import Derived.Deep.CutBlock
import Derived.Deep.RegionHeld3
import Derived.Laws.Rows
import Derived.Lib.AppendStr
import Derived.ArgAppend
import Derived.Laws.IdiomCopy
import Derived.OrdersHeld
import Derived.Laws.BitsLemmas
import Derived.RowKit
import Derived.Lib.Bytealg
import Derived.Laws.Externs
import Derived.Test.YtngmpffcgglngaaWWords
import Derived.Test.YtngmpffcgglngaaWLast
import Derived.Test.YtngmpffcgglngaaWTab
import Derived.Test.YtngmpffcgglngaaWFour
import Derived.Test.YtngmpffcgglngaaWQPut
import Derived.Test.YtngmpffcgglngaaWApart
import Derived.Test.YtngmpffcgglngaaWArr
import Derived.Test.YtngmpffcgglngaaWZeros
import Derived.Test.YtngmpffcgglngaaWFoot
import Derived.Test.YtngmpffcgglngaaWKept
import Derived.Test.YtngmpffcgglngaaWShare
import Derived.Test.YtngmpffcgglngaaWN
import Derived.Test.YtngmpffcgglngaaWFootNe
import Derived.Test.YtngmpffcgglngaaWAt
import Derived.Test.YtngmpffcgglngaaWEqStruct
import Derived.Test.YtngmpffcgglngaaWRepsOne
import Derived.Test.YtngmpffcgglngaaWInv
import Derived.Test.YtngmpffcgglngaaWInvWords
import Derived.Test.YtngmpffcgglngaaWGuard
import Derived.Test.YtngmpffcgglngaaWNEv
import Derived.Test.YtngmpffcgglngaaWMore
namespace Go.Proofs.Ytngmpffcgglngaa.X
open Go.RowKit Go.Proofs.YtngmpffcgglngaaW.PrintWords Go.Proofs.YtngmpffcgglngaaW.PrintLast Go.Proofs.YtngmpffcgglngaaW.PrintMore
attribute [local go_sem] max2_int min2_int max_two min_two max_three min_three max_four min_four   -- for this text's walks alone
set_option linter.unusedVariables false
set_option linter.unusedSimpArgs false



def errW : Option Int → Value
  | none => .nilIface
  | some c => .iface 0 (.int .i64 c)
theorem errW_none : errW none = .nilIface := rfl
theorem errW_some (c : Int) : errW (some c) = .iface 0 (.int .i64 c) := rfl

theorem info5 : (Try.prog.info? 5).map (fun i => (i.zero, i.size, i.bytes)) = some (some (.int .u8 0), 1, 1) := by kernel_rfl
theorem info9 : (Try.prog.info? 9).map (fun i => (i.zero, i.size, i.bytes)) = some (some (.string ⟨#[]⟩), 1, 16) := by kernel_rfl
-- the values' own types

end Go.Proofs.Ytngmpffcgglngaa.X
