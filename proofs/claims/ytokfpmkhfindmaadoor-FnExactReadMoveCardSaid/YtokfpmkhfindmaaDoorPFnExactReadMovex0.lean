-- Written by a program of this session (wip/tools/pp.py over the kit's print).
import Derived.Test.YtokfpmkhfindmaaDoorTab
import Derived.Test.YtokfpmkhfindmaaDoorProg
import Derived.Test.YtokfpmkhfindmaaDoorExtra
import Derived.Test.YtokfpmkhfindmaaDoorBeside
import Derived.Below
import Derived.Deep.Draws
import Derived.Deep.AppendLies
import Derived.Maps.AppendAt
import Derived.OwnWalk
import Derived.Laws.BytesArg
import Derived.Laws.MakeOwn
import Derived.Laws.OwnMore
import Derived.Deep.OwnRows
import Derived.Tactics
import Derived.Lib.ConvBytes
import Derived.Laws.Slices
import Derived.WalkKit
import Derived.KernelRfl
import Derived.RowKit3
import Derived.Deep.LoopGhost
import Derived.Deep.QuietTactic
import Derived.BigQuiet
import Derived.WideLaws
import Derived.Deep.DeepCutAuto
import Derived.Deep.CutBlock
import Derived.Deep.RegionHeld3
import Derived.Laws.Rows
import Derived.Lib.AppendStr
import Derived.ArgAppend
import Derived.Laws.IdiomCopy
import Derived.OrdersHeld
import Derived.Laws.BitsLemmas
import Derived.RowKit
import Derived.Test.YtokfpmkhfindmaaDoorWWords
import Derived.Test.YtokfpmkhfindmaaDoorWLast
import Derived.Test.YtokfpmkhfindmaaDoorWTab
import Derived.Test.YtokfpmkhfindmaaDoorWFour
import Derived.Test.YtokfpmkhfindmaaDoorWQPut
import Derived.Test.YtokfpmkhfindmaaDoorWApart
import Derived.Test.YtokfpmkhfindmaaDoorWArr
import Derived.Test.YtokfpmkhfindmaaDoorWZeros
import Derived.Test.YtokfpmkhfindmaaDoorWFoot
import Derived.Test.YtokfpmkhfindmaaDoorWKept
import Derived.Test.YtokfpmkhfindmaaDoorWShare
import Derived.Test.YtokfpmkhfindmaaDoorWN
import Derived.Test.YtokfpmkhfindmaaDoorWFootNe
import Derived.Test.YtokfpmkhfindmaaDoorWAt
import Derived.Test.YtokfpmkhfindmaaDoorWEqStruct
import Derived.Test.YtokfpmkhfindmaaDoorWRepsOne
import Derived.Test.YtokfpmkhfindmaaDoorWInv
import Derived.Test.YtokfpmkhfindmaaDoorWInvWords
import Derived.Test.YtokfpmkhfindmaaDoorWGuard
import Derived.Test.YtokfpmkhfindmaaDoorWNEv
import Derived.Test.YtokfpmkhfindmaaDoorWMore
namespace Go.Proofs.YtokfpmkhfindmaaDoor.PFnExactReadMove
open Go.RowKit Go.Proofs.YtokfpmkhfindmaaDoorW.PrintWords Go.Proofs.YtokfpmkhfindmaaDoorW.PrintLast Go.Proofs.YtokfpmkhfindmaaDoorW.PrintMore
attribute [local go_sem] max2_int min2_int max_two min_two max_three min_three max_four min_four
attribute [local go_sem high] str_gtr str_leq str_geq
set_option linter.unusedVariables false
set_option linter.unusedSimpArgs false



def errW : Option Int → Value
  | none => .nilIface
  | some c => .iface 0 (.int .i64 c)
theorem errW_none : errW none = .nilIface := rfl
theorem errW_some (c : Int) : errW (some c) = .iface 0 (.int .i64 c) := rfl

theorem info2 : (Tryd.prog.info? 2).map (fun i => (i.zero, i.size, i.bytes)) = some (some (.int .i64 0), 1, 8) := by kernel_rfl
theorem info5 : (Tryd.prog.info? 5).map (fun i => (i.zero, i.size, i.bytes)) = some (some (.int .u8 0), 1, 1) := by kernel_rfl
theorem info9 : (Tryd.prog.info? 9).map (fun i => (i.zero, i.size, i.bytes)) = some (some (.string ⟨#[]⟩), 1, 16) := by kernel_rfl
-- the values' own types

end Go.Proofs.YtokfpmkhfindmaaDoor.PFnExactReadMove
