-- Written by a program of this session (wip/tools/pp.py over the kit's print).
import Derived.Test.YtcegobkangpilaaDoorPFnExactRecordx0
import Derived.Test.YtcegobkangpilaaDoorAskFnExactRecord
import Derived.Test.YtcegobkangpilaaDoorOpens
import Derived.Test.YtcegobkangpilaaDoorBase
namespace Go.Proofs.YtcegobkangpilaaDoor.PFnExactRecord
open Go.RowKit Go.Proofs.YtcegobkangpilaaDoor.PFnExactRecord Go.Proofs.YtcegobkangpilaaDoorW.PrintWords Go.Proofs.YtcegobkangpilaaDoorW.PrintLast Go.Proofs.YtcegobkangpilaaDoorW.PrintMore
set_option linter.unusedVariables false
set_option linter.unusedSimpArgs false
end Go.Proofs.YtcegobkangpilaaDoor.PFnExactRecord
