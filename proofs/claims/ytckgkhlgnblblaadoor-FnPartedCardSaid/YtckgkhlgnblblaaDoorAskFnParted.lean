-- Written by a program of this session (wip/tools/pp.py over the kit's print).
import Derived.Test.YtckgkhlgnblblaaDoorPFnPartedx11
import Derived.Test.YtckgkhlgnblblaaDoorPFnPartedx0
import Derived.Test.YtckgkhlgnblblaaDoorOpens
namespace Go.Proofs.YtckgkhlgnblblaaDoor.PFnParted
open Go.RowKit Go.Proofs.YtckgkhlgnblblaaDoor.PFnParted Go.Proofs.YtckgkhlgnblblaaDoorW.PrintWords Go.Proofs.YtckgkhlgnblblaaDoorW.PrintLast Go.Proofs.YtckgkhlgnblblaaDoorW.PrintMore
/-- The pure statement of laws_FnParted. -/
def laws_FnParted.Pure : Prop := ∀ (l0 : List Int), (okList (okInt .u8)) l0 → ∃ k, laws_FnParted.f k l0 = some true
end Go.Proofs.YtckgkhlgnblblaaDoor.PFnParted
