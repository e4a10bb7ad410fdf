-- Written by a program of this session (wip/tools/pp.py over the kit's print).
import Derived.Test.YtgpofolfflfgiaaPFnExactMoveOkx1
import Derived.Test.YtgpofolfflfgiaaPFnExactMoveOkx0
import Derived.Test.YtgpofolfflfgiaaOpens
namespace Go.Proofs.Ytgpofolfflfgiaa.PFnExactMoveOk
open Go.RowKit Go.Proofs.Ytgpofolfflfgiaa.PFnExactMoveOk Go.Proofs.YtgpofolfflfgiaaW.PrintWords Go.Proofs.YtgpofolfflfgiaaW.PrintLast Go.Proofs.YtgpofolfflfgiaaW.PrintMore
/-- The pure statement of laws_FnExactMoveOk. -/
def laws_FnExactMoveOk.Pure : Prop := ∀ (a0_0 : Int) (a0_1 : Int) (a0_2 : Int) (a0_3 : Int), (okInt .i64) a0_0 → (okInt .i64) a0_1 → (okInt .i64) a0_2 → (okInt .i64) a0_3 → laws_FnExactMoveOk.f a0_0 a0_1 a0_2 a0_3 = some true
end Go.Proofs.Ytgpofolfflfgiaa.PFnExactMoveOk
