-- Written by a program of this session (wip/tools/pp.py over the kit's print).
import Derived.Test.YtcegobkangpilaaDoorPFnExactProofOkx10
import Derived.Test.YtcegobkangpilaaDoorPFnExactProofOkx0
import Derived.Test.YtcegobkangpilaaDoorOpens
namespace Go.Proofs.YtcegobkangpilaaDoor.PFnExactProofOk
open Go.RowKit Go.Proofs.YtcegobkangpilaaDoor.PFnExactProofOk Go.Proofs.YtcegobkangpilaaDoorW.PrintWords Go.Proofs.YtcegobkangpilaaDoorW.PrintLast Go.Proofs.YtcegobkangpilaaDoorW.PrintMore
/-- The pure statement of laws_FnExactProofOk. -/
def laws_FnExactProofOk.Pure : Prop := ∀ (a0_0 : Int) (a0_1 : Int) (l0_2 : List Int) (l0_3 : List Int) (a1 : Int), (okInt .i64) a0_0 → (okInt .i64) a0_1 → (okList (okInt .i64)) l0_2 → (okList (okInt .i64)) l0_3 → (okInt .i64) a1 → ∃ k, laws_FnExactProofOk.f k a0_0 a0_1 l0_2 l0_3 a1 = some true
end Go.Proofs.YtcegobkangpilaaDoor.PFnExactProofOk
