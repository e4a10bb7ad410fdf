-- Written by a program of this session (wip/tools/pp.py over the kit's print).
import Derived.Test.YtokfpmkhfindmaaDoorPFnExactRecordsx4
import Derived.Test.YtokfpmkhfindmaaDoorPFnExactRecordsx0
import Derived.Test.YtokfpmkhfindmaaDoorOpens
namespace Go.Proofs.YtokfpmkhfindmaaDoor.PFnExactRecords
open Go.RowKit Go.Proofs.YtokfpmkhfindmaaDoor.PFnExactRecords Go.Proofs.YtokfpmkhfindmaaDoorW.PrintWords Go.Proofs.YtokfpmkhfindmaaDoorW.PrintLast Go.Proofs.YtokfpmkhfindmaaDoorW.PrintMore
/-- The pure statement of laws_FnExactRecords. -/
def laws_FnExactRecords.Pure : Prop := ∀ (a0 : ByteArray), okStr a0 → ∃ k, laws_FnExactRecords.f k a0 = some true
end Go.Proofs.YtokfpmkhfindmaaDoor.PFnExactRecords
