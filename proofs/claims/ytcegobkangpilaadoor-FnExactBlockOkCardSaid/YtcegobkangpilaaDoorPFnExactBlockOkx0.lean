-- Written by a program of this session (wip/tools/pp.py over the kit's print).
import Derived.Test.YtcegobkangpilaaDoorTab
import Derived.Test.YtcegobkangpilaaDoorSq
import Derived.Test.YtcegobkangpilaaDoorProg
import Derived.Test.YtcegobkangpilaaDoorExtra
import Derived.Below
import Derived.Deep.Draws
import Derived.Deep.AppendLies
import Derived.Maps.AppendAt
import Derived.OwnWalk
import Derived.Laws.BytesArg
import Derived.Laws.MakeOwn
import Derived.Laws.OwnMore
import Derived.Deep.OwnRows
import Derived.Tactics
import Derived.Lib.ConvBytes
import Derived.Laws.Slices
import Derived.WalkKit
import Derived.KernelRfl
import Derived.RowKit3
import Derived.Deep.LoopGhost
import Derived.Deep.QuietTactic
import Derived.BigQuiet
import Derived.WideLaws
import Derived.Deep.DeepCutAuto
import Derived.Deep.CutBlock
import Derived.Deep.RegionHeld3
import Derived.Laws.Rows
import Derived.Lib.AppendStr
import Derived.ArgAppend
import Derived.Laws.IdiomCopy
import Derived.OrdersHeld
import Derived.Laws.BitsLemmas
import Derived.RowKit
import Derived.Test.YtcegobkangpilaaDoorWWords
import Derived.Test.YtcegobkangpilaaDoorWLast
import Derived.Test.YtcegobkangpilaaDoorWTab
import Derived.Test.YtcegobkangpilaaDoorWFour
import Derived.Test.YtcegobkangpilaaDoorWQPut
import Derived.Test.YtcegobkangpilaaDoorWApart
import Derived.Test.YtcegobkangpilaaDoorWArr
import Derived.Test.YtcegobkangpilaaDoorWZeros
import Derived.Test.YtcegobkangpilaaDoorWFoot
import Derived.Test.YtcegobkangpilaaDoorWKept
import Derived.Test.YtcegobkangpilaaDoorWShare
import Derived.Test.YtcegobkangpilaaDoorWN
import Derived.Test.YtcegobkangpilaaDoorWFootNe
import Derived.Test.YtcegobkangpilaaDoorWAt
import Derived.Test.YtcegobkangpilaaDoorWEqStruct
import Derived.Test.YtcegobkangpilaaDoorWRepsOne
import Derived.Test.YtcegobkangpilaaDoorWInv
import Derived.Test.YtcegobkangpilaaDoorWInvWords
import Derived.Test.YtcegobkangpilaaDoorWGuard
import Derived.Test.YtcegobkangpilaaDoorWNEv
import Derived.Test.YtcegobkangpilaaDoorWMore
namespace Go.Proofs.YtcegobkangpilaaDoor.PFnExactBlockOk
open Go.RowKit Go.Proofs.YtcegobkangpilaaDoorW.PrintWords Go.Proofs.YtcegobkangpilaaDoorW.PrintLast Go.Proofs.YtcegobkangpilaaDoorW.PrintMore
attribute [local go_sem] max2_int min2_int max_two min_two max_three min_three max_four min_four
attribute [local go_sem high] str_gtr str_leq str_geq
set_option linter.unusedVariables false
set_option linter.unusedSimpArgs false



def errW : Option Int → Value
 | none => .nilIface
 | some c => .iface 0 (.int .i64 c)
theorem errW_none : errW none = .nilIface := rfl
theorem errW_some (c : Int) : errW (some c) = .iface 0 (.int .i64 c) := rfl

theorem info2 : (Tryd.prog.info? 2).map (fun i => (i.zero, i.size, i.bytes)) = some (some (.int .i64 0), 1, 8) := by kernel_rfl
theorem info5 : (Tryd.prog.info? 5).map (fun i => (i.zero, i.size, i.bytes)) = some (some (.int .u8 0), 1, 1) := by kernel_rfl
theorem info9 : (Tryd.prog.info? 9).map (fun i => (i.zero, i.size, i.bytes)) = some (some (.string ⟨#[]⟩), 1, 16) := by kernel_rfl
-- the values' own types

end Go.Proofs.YtcegobkangpilaaDoor.PFnExactBlockOk
