-- Written by a program of this session (wip/tools/pp.py over the kit's print).
import Derived.Test.YtgpofolfflfgiaaDoorPFnProvedx16
import Derived.Test.YtgpofolfflfgiaaDoorPFnProvedx0
import Derived.Test.YtgpofolfflfgiaaDoorVFnProved
namespace Go.Proofs.YtgpofolfflfgiaaDoor.PFnProved
open Go.RowKit Go.Proofs.YtgpofolfflfgiaaDoor.PFnProved Go.Proofs.YtgpofolfflfgiaaDoorW.PrintWords Go.Proofs.YtgpofolfflfgiaaDoorW.PrintLast Go.Proofs.YtgpofolfflfgiaaDoorW.PrintMore
/-- The pure statement of laws_FnProved. -/
def laws_FnProved.Pure : Prop := ∀ (l0 : List Int), (okList (okInt .u8)) l0 → ∃ k, laws_FnProved.f k l0 = some true
end Go.Proofs.YtgpofolfflfgiaaDoor.PFnProved
