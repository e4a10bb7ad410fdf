-- Written by a program of this session (wip/tools/pp.py over the kit's print).
import Derived.Test.YtcegobkangpilaaDoorPFnExactVotedx0
import Derived.Test.YtcegobkangpilaaDoorPFnExactVotedx2
import Derived.Test.YtcegobkangpilaaDoorAskFnExactVoted
import Derived.Test.YtcegobkangpilaaDoorOpens
import Derived.Test.YtcegobkangpilaaDoorBase
namespace Go.Proofs.YtcegobkangpilaaDoor.PFnExactVoted
open Go.RowKit Go.Proofs.YtcegobkangpilaaDoor.PFnExactVoted Go.Proofs.YtcegobkangpilaaDoorW.PrintWords Go.Proofs.YtcegobkangpilaaDoorW.PrintLast Go.Proofs.YtcegobkangpilaaDoorW.PrintMore
set_option linter.unusedVariables false
set_option linter.unusedSimpArgs false
theorem laws_eqVote_ev (a_0 : Int) (a_1 : Int) (a_2 : Int) (a_3 : Int) (ha_0 : smAny a_0) (ha_1 : smAny a_1) (ha_2 : smAny a_2) (ha_3 : smAny a_3) : Ev (fun _ => laws_eqVote.f a_0 a_1 a_2 a_3 a_0 a_1 a_2 a_3) true := by
  unfold laws_eqVote.f
  refine Ev.pos rfl ?_
  refine Ev.pos rfl ?_
  refine Ev.pos rfl ?_
  refine Ev.pos rfl ?_
  exact Ev.now _
end Go.Proofs.YtcegobkangpilaaDoor.PFnExactVoted
