-- Written by a program of this session (wip/tools/pp.py over the kit's print).
import Derived.Test.YtgpofolfflfgiaaProg
import Derived.Test.YtgpofolfflfgiaaExtra
import Derived.Below
import Derived.Deep.Draws
import Derived.Deep.AppendLies
import Derived.Maps.AppendAt
import Derived.OwnWalk
import Derived.Laws.BytesArg
import Derived.Laws.MakeOwn
import Derived.Laws.OwnMore
import Derived.Deep.OwnRows
import Derived.Tactics
import Derived.Lib.ConvBytes
import Derived.Laws.Slices
import Derived.WalkKit
import Derived.KernelRfl
import Derived.RowKit3
import Derived.Deep.LoopGhost
import Derived.Deep.QuietTactic
import Derived.BigQuiet
import Derived.WideLaws
import Derived.Deep.DeepCutAuto
import Derived.Deep.CutBlock
import Derived.Deep.RegionHeld3
import Derived.Laws.Rows
import Derived.Lib.AppendStr
import Derived.ArgAppend
import Derived.Laws.IdiomCopy
import Derived.OrdersHeld
import Derived.Laws.BitsLemmas
import Derived.RowKit
import Derived.Laws.CopyOwn
import Derived.Test.YtgpofolfflfgiaaWWords
import Derived.Test.YtgpofolfflfgiaaWLast
import Derived.Test.YtgpofolfflfgiaaWTab
import Derived.Test.YtgpofolfflfgiaaWFour
import Derived.Test.YtgpofolfflfgiaaWQPut
import Derived.Test.YtgpofolfflfgiaaWApart
import Derived.Test.YtgpofolfflfgiaaWArr
import Derived.Test.YtgpofolfflfgiaaWZeros
import Derived.Test.YtgpofolfflfgiaaWFoot
import Derived.Test.YtgpofolfflfgiaaWKept
import Derived.Test.YtgpofolfflfgiaaWShare
import Derived.Test.YtgpofolfflfgiaaWN
import Derived.Test.YtgpofolfflfgiaaWFootNe
import Derived.Test.YtgpofolfflfgiaaWAt
import Derived.Test.YtgpofolfflfgiaaWEqStruct
import Derived.Test.YtgpofolfflfgiaaWRepsOne
import Derived.Test.YtgpofolfflfgiaaWInv
import Derived.Test.YtgpofolfflfgiaaWInvWords
import Derived.Test.YtgpofolfflfgiaaWGuard
import Derived.Test.YtgpofolfflfgiaaWNEv
import Derived.Test.YtgpofolfflfgiaaWMore
namespace Go.Proofs.Ytgpofolfflfgiaa.PFnExactNewBank
open Go.RowKit Go.Proofs.YtgpofolfflfgiaaW.PrintWords Go.Proofs.YtgpofolfflfgiaaW.PrintLast Go.Proofs.YtgpofolfflfgiaaW.PrintMore
attribute [local go_sem] max2_int min2_int max_two min_two max_three min_three max_four min_four
attribute [local go_sem high] str_gtr str_leq str_geq
set_option linter.unusedVariables false
set_option linter.unusedSimpArgs false



def errW : Option Int → Value
  | none => .nilIface
  | some c => .iface 0 (.int .i64 c)
theorem errW_none : errW none = .nilIface := rfl
theorem errW_some (c : Int) : errW (some c) = .iface 0 (.int .i64 c) := rfl

theorem info2 : (Try.prog.info? 2).map (fun i => (i.zero, i.size, i.bytes)) = some (some (.int .i64 0), 1, 8) := by kernel_rfl
-- the values' own types

end Go.Proofs.Ytgpofolfflfgiaa.PFnExactNewBank
