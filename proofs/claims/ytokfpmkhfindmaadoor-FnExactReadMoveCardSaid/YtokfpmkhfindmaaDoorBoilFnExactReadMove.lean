-- Written by a program of this session (wip/tools/pp.py over the kit's print).
import Derived.Test.YtokfpmkhfindmaaDoorPFnExactReadMovex0
import Derived.Test.YtokfpmkhfindmaaDoorPFnExactReadMovex5
import Derived.Test.YtokfpmkhfindmaaDoorAskFnExactReadMove
import Derived.Test.YtokfpmkhfindmaaDoorOpens
import Derived.Test.YtokfpmkhfindmaaDoorBase
namespace Go.Proofs.YtokfpmkhfindmaaDoor.PFnExactReadMove
open Go.RowKit Go.Proofs.YtokfpmkhfindmaaDoor.PFnExactReadMove Go.Proofs.YtokfpmkhfindmaaDoorW.PrintWords Go.Proofs.YtokfpmkhfindmaaDoorW.PrintLast Go.Proofs.YtokfpmkhfindmaaDoorW.PrintMore
set_option linter.unusedVariables false
set_option linter.unusedSimpArgs false
theorem laws_eqMove_ev (a_0 : Int) (a_1 : Int) (a_2 : Int) (a_3 : Int) (ha_0 : smAny a_0) (ha_1 : smAny a_1) (ha_2 : smAny a_2) (ha_3 : smAny a_3) : Ev (fun _ => laws_eqMove.f a_0 a_1 a_2 a_3 a_0 a_1 a_2 a_3) true := by
  unfold laws_eqMove.f
  refine Ev.pos rfl ?_
  refine Ev.pos rfl ?_
  refine Ev.pos rfl ?_
  refine Ev.pos rfl ?_
  exact Ev.now _
end Go.Proofs.YtokfpmkhfindmaaDoor.PFnExactReadMove
