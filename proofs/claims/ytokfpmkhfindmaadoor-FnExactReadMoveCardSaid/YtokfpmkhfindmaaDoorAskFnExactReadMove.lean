-- Written by a program of this session (wip/tools/pp.py over the kit's print).
import Derived.Test.YtokfpmkhfindmaaDoorPFnExactReadMovex5
import Derived.Test.YtokfpmkhfindmaaDoorPFnExactReadMovex0
import Derived.Test.YtokfpmkhfindmaaDoorOpens
namespace Go.Proofs.YtokfpmkhfindmaaDoor.PFnExactReadMove
open Go.RowKit Go.Proofs.YtokfpmkhfindmaaDoor.PFnExactReadMove Go.Proofs.YtokfpmkhfindmaaDoorW.PrintWords Go.Proofs.YtokfpmkhfindmaaDoorW.PrintLast Go.Proofs.YtokfpmkhfindmaaDoorW.PrintMore
/-- The pure statement of laws_FnExactReadMove. -/
def laws_FnExactReadMove.Pure : Prop := ∀ (a0 : ByteArray), okStr a0 → ∃ k, laws_FnExactReadMove.f k a0 = some true
end Go.Proofs.YtokfpmkhfindmaaDoor.PFnExactReadMove
