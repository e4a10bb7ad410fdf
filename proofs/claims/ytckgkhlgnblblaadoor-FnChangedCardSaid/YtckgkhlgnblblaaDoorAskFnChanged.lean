-- Written by a program of this session (wip/tools/pp.py over the kit's print).
import Derived.Test.YtckgkhlgnblblaaDoorPFnChangedx11
import Derived.Test.YtckgkhlgnblblaaDoorPFnChangedx0
import Derived.Test.YtckgkhlgnblblaaDoorOpens
namespace Go.Proofs.YtckgkhlgnblblaaDoor.PFnChanged
open Go.RowKit Go.Proofs.YtckgkhlgnblblaaDoor.PFnChanged Go.Proofs.YtckgkhlgnblblaaDoorW.PrintWords Go.Proofs.YtckgkhlgnblblaaDoorW.PrintLast Go.Proofs.YtckgkhlgnblblaaDoorW.PrintMore
/-- The pure statement of laws_FnChanged. -/
def laws_FnChanged.Pure : Prop := ∀ (l0 : List Int), (okList (okInt .u8)) l0 → ∃ k, laws_FnChanged.f k l0 = some true
end Go.Proofs.YtckgkhlgnblblaaDoor.PFnChanged
