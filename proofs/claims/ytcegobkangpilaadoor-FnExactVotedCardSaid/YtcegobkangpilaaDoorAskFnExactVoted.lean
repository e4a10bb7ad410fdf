-- Written by a program of this session (wip/tools/pp.py over the kit's print).
import Derived.Test.YtcegobkangpilaaDoorPFnExactVotedx2
import Derived.Test.YtcegobkangpilaaDoorPFnExactVotedx0
import Derived.Test.YtcegobkangpilaaDoorOpens
namespace Go.Proofs.YtcegobkangpilaaDoor.PFnExactVoted
open Go.RowKit Go.Proofs.YtcegobkangpilaaDoor.PFnExactVoted Go.Proofs.YtcegobkangpilaaDoorW.PrintWords Go.Proofs.YtcegobkangpilaaDoorW.PrintLast Go.Proofs.YtcegobkangpilaaDoorW.PrintMore
/-- The pure statement of laws_FnExactVoted. -/
def laws_FnExactVoted.Pure : Prop := ∀ (a0 : Int) (a1 : Int) (a2 : Int), (okInt .i64) a0 → (okInt .i64) a1 → (okInt .i64) a2 → ∃ k, laws_FnExactVoted.f k a0 a1 a2 = some true
end Go.Proofs.YtcegobkangpilaaDoor.PFnExactVoted
