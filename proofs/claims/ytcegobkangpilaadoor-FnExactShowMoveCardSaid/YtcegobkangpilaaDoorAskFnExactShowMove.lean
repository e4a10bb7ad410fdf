-- Written by a program of this session (wip/tools/pp.py over the kit's print).
import Derived.Test.YtcegobkangpilaaDoorPFnExactShowMovex2
import Derived.Test.YtcegobkangpilaaDoorPFnExactShowMovex0
import Derived.Test.YtcegobkangpilaaDoorOpens
namespace Go.Proofs.YtcegobkangpilaaDoor.PFnExactShowMove
open Go.RowKit Go.Proofs.YtcegobkangpilaaDoor.PFnExactShowMove Go.Proofs.YtcegobkangpilaaDoorW.PrintWords Go.Proofs.YtcegobkangpilaaDoorW.PrintLast Go.Proofs.YtcegobkangpilaaDoorW.PrintMore
/-- The pure statement of laws_FnExactShowMove. -/
def laws_FnExactShowMove.Pure : Prop := ∀ (a0_0 : Int) (a0_1 : Int) (a0_2 : Int) (a0_3 : Int), (okInt .i64) a0_0 → (okInt .i64) a0_1 → (okInt .i64) a0_2 → (okInt .i64) a0_3 → ∃ k, laws_FnExactShowMove.f k a0_0 a0_1 a0_2 a0_3 = some true
end Go.Proofs.YtcegobkangpilaaDoor.PFnExactShowMove
