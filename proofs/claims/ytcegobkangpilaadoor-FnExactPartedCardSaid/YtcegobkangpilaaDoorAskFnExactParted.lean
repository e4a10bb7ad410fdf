-- Written by a program of this session (wip/tools/pp.py over the kit's print).
import Derived.Test.YtcegobkangpilaaDoorPFnExactPartedx6
import Derived.Test.YtcegobkangpilaaDoorPFnExactPartedx0
import Derived.Test.YtcegobkangpilaaDoorOpens
namespace Go.Proofs.YtcegobkangpilaaDoor.PFnExactParted
open Go.RowKit Go.Proofs.YtcegobkangpilaaDoor.PFnExactParted Go.Proofs.YtcegobkangpilaaDoorW.PrintWords Go.Proofs.YtcegobkangpilaaDoorW.PrintLast Go.Proofs.YtcegobkangpilaaDoorW.PrintMore
/-- The pure statement of laws_FnExactParted. -/
def laws_FnExactParted.Pure : Prop := ∀ (a0 : Int) (a1 : Int) (l2 : List Int) (a3 : Int) (l4 : List Int), (okInt .i64) a0 → (okInt .i64) a1 → (okList (okInt .i64)) l2 → (okInt .i64) a3 → (okList (okInt .i64)) l4 → ∃ k, laws_FnExactParted.f k a0 a1 l2 a3 l4 = some true
end Go.Proofs.YtcegobkangpilaaDoor.PFnExactParted
