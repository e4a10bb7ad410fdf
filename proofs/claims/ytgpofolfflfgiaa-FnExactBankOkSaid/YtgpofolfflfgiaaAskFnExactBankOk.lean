-- Written by a program of this session (wip/tools/pp.py over the kit's print).
import Derived.Test.YtgpofolfflfgiaaPFnExactBankOkx2
import Derived.Test.YtgpofolfflfgiaaPFnExactBankOkx0
import Derived.Test.YtgpofolfflfgiaaOpens
namespace Go.Proofs.Ytgpofolfflfgiaa.PFnExactBankOk
open Go.RowKit Go.Proofs.Ytgpofolfflfgiaa.PFnExactBankOk Go.Proofs.YtgpofolfflfgiaaW.PrintWords Go.Proofs.YtgpofolfflfgiaaW.PrintLast Go.Proofs.YtgpofolfflfgiaaW.PrintMore
/-- The pure statement of laws_FnExactBankOk. -/
def laws_FnExactBankOk.Pure : Prop := ∀ (l0_0 : List Int) (l0_1 : List Int), (okList (okInt .i64)) l0_0 → (okList (okInt .i64)) l0_1 → ∃ k, laws_FnExactBankOk.f k l0_0 l0_1 = some true
end Go.Proofs.Ytgpofolfflfgiaa.PFnExactBankOk
