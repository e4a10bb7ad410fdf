-- Written by a program of this session (wip/tools/pp.py over the kit's print).
import Derived.Test.YtcegobkangpilaaDoorPFnExactVoteOkx6
import Derived.Test.YtcegobkangpilaaDoorPFnExactVoteOkx0
import Derived.Test.YtcegobkangpilaaDoorOpens
namespace Go.Proofs.YtcegobkangpilaaDoor.PFnExactVoteOk
open Go.RowKit Go.Proofs.YtcegobkangpilaaDoor.PFnExactVoteOk Go.Proofs.YtcegobkangpilaaDoorW.PrintWords Go.Proofs.YtcegobkangpilaaDoorW.PrintLast Go.Proofs.YtcegobkangpilaaDoorW.PrintMore
/-- The pure statement of laws_FnExactVoteOk. -/
def laws_FnExactVoteOk.Pure : Prop := ∀ (a0_0 : Int) (a0_1 : Int) (a0_2 : Int) (a0_3 : Int) (a1 : Int), (okInt .i64) a0_0 → (okInt .i64) a0_1 → (okInt .i64) a0_2 → (okInt .i64) a0_3 → (okInt .i64) a1 → ∃ k, laws_FnExactVoteOk.f k a0_0 a0_1 a0_2 a0_3 a1 = some true
end Go.Proofs.YtcegobkangpilaaDoor.PFnExactVoteOk
