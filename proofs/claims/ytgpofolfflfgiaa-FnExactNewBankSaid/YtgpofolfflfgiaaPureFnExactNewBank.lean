/- The program's NewBank returns what the reference's NewBank returns. No condition. -/
import Derived.Test.YtgpofolfflfgiaaPFnExactNewBankx2
namespace Go.Proofs.Ytgpofolfflfgiaa.Pure
open Go.RowKit Go.Proofs.Ytgpofolfflfgiaa.PFnExactNewBank Go.Proofs.YtgpofolfflfgiaaW.PrintWords Go.Proofs.YtgpofolfflfgiaaW.PrintLast

theorem FnExactNewBank : laws_FnExactNewBank.Pure := ⟨30, by decide +kernel⟩

end Go.Proofs.Ytgpofolfflfgiaa.Pure
