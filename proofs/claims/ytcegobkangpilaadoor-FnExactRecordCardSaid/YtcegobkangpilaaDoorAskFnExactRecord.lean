-- Written by a program of this session (wip/tools/pp.py over the kit's print).
import Derived.Test.YtcegobkangpilaaDoorPFnExactRecordx1
import Derived.Test.YtcegobkangpilaaDoorPFnExactRecordx0
import Derived.Test.YtcegobkangpilaaDoorOpens
namespace Go.Proofs.YtcegobkangpilaaDoor.PFnExactRecord
open Go.RowKit Go.Proofs.YtcegobkangpilaaDoor.PFnExactRecord Go.Proofs.YtcegobkangpilaaDoorW.PrintWords Go.Proofs.YtcegobkangpilaaDoorW.PrintLast Go.Proofs.YtcegobkangpilaaDoorW.PrintMore
/-- The pure statement of laws_FnExactRecord. -/
def laws_FnExactRecord.Pure : Prop := ∀ (a0 : ByteArray), okStr a0 → ∃ k, laws_FnExactRecord.f k a0 = some true
end Go.Proofs.YtcegobkangpilaaDoor.PFnExactRecord
