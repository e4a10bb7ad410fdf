-- Written by a program of this session (wip/tools/pp.py over the kit's print).
import Derived.Test.YtgpofolfflfgiaaDoorPFnProvedx0
import Derived.Test.YtgpofolfflfgiaaDoorAskFnProved
import Derived.Test.YtgpofolfflfgiaaDoorVFnProved
namespace Go.Proofs.YtgpofolfflfgiaaDoor.PFnProved
open Go.RowKit Go.Proofs.YtgpofolfflfgiaaDoor.PFnProved Go.Proofs.YtgpofolfflfgiaaDoorW.PrintWords Go.Proofs.YtgpofolfflfgiaaDoorW.PrintLast Go.Proofs.YtgpofolfflfgiaaDoorW.PrintMore
set_option linter.unusedVariables false
set_option linter.unusedSimpArgs false
end Go.Proofs.YtgpofolfflfgiaaDoor.PFnProved
