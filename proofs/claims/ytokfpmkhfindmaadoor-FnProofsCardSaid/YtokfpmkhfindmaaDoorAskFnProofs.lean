-- Written by a program of this session (wip/tools/pp.py over the kit's print).
import Derived.Test.YtokfpmkhfindmaaDoorPFnProofsx17
import Derived.Test.YtokfpmkhfindmaaDoorPFnProofsx0
import Derived.Test.YtokfpmkhfindmaaDoorVFnProofs
namespace Go.Proofs.YtokfpmkhfindmaaDoor.PFnProofs
open Go.RowKit Go.Proofs.YtokfpmkhfindmaaDoor.PFnProofs Go.Proofs.YtokfpmkhfindmaaDoorW.PrintWords Go.Proofs.YtokfpmkhfindmaaDoorW.PrintLast Go.Proofs.YtokfpmkhfindmaaDoorW.PrintMore
/-- The pure statement of laws_FnProofs. -/
def laws_FnProofs.Pure : Prop := ∀ (l0 : List Int), (okList (okInt .u8)) l0 → ∃ k, laws_FnProofs.f k l0 = some true
end Go.Proofs.YtokfpmkhfindmaaDoor.PFnProofs
