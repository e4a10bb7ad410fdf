-- Written by a program of this session (wip/tools/pp.py over the kit's print).
import Derived.Test.YtcegobkangpilaaDoorPFnExactHoldsx3
import Derived.Test.YtcegobkangpilaaDoorPFnExactHoldsx0
import Derived.Test.YtcegobkangpilaaDoorOpens
namespace Go.Proofs.YtcegobkangpilaaDoor.PFnExactHolds
open Go.RowKit Go.Proofs.YtcegobkangpilaaDoor.PFnExactHolds Go.Proofs.YtcegobkangpilaaDoorW.PrintWords Go.Proofs.YtcegobkangpilaaDoorW.PrintLast Go.Proofs.YtcegobkangpilaaDoorW.PrintMore
/-- The pure statement of laws_FnExactHolds. -/
def laws_FnExactHolds.Pure : Prop := ∀ (a0 : Int) (a1 : Int) (a2 : Int) (l3 : List Int), (okInt .i64) a0 → (okInt .i64) a1 → (okInt .i64) a2 → (okList (okInt .i64)) l3 → ∃ k, laws_FnExactHolds.f k a0 a1 a2 l3 = some true
end Go.Proofs.YtcegobkangpilaaDoor.PFnExactHolds
