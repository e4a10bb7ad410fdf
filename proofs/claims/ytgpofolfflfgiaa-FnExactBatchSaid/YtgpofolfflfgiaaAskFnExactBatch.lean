-- Written by a program of this session (wip/tools/pp.py over the kit's print).
import Derived.Test.YtgpofolfflfgiaaPFnExactBatchx4
import Derived.Test.YtgpofolfflfgiaaPFnExactBatchx0
import Derived.Test.YtgpofolfflfgiaaOpens
namespace Go.Proofs.Ytgpofolfflfgiaa.PFnExactBatch
open Go.RowKit Go.Proofs.Ytgpofolfflfgiaa.PFnExactBatch Go.Proofs.YtgpofolfflfgiaaW.PrintWords Go.Proofs.YtgpofolfflfgiaaW.PrintLast Go.Proofs.YtgpofolfflfgiaaW.PrintMore
def ok103 : S103 → Prop := fun x => (okPair okStr (okPair okStr okBool)) (x.f0, x.f1, x.f2)
theorem opens_103 : Opens Try.prog 103 k103 ok103 := opens_iso (g := fun x : S103 => (x.f0, x.f1, x.f2)) (mk := fun p => ⟨p.1, p.2.1, p.2.2⟩) (opens_struct Try.underlying103 (by kernel_rfl) (fields_cons rfl (by kernel_rfl) (opens_string Try.underlying9) (fields_cons rfl (by kernel_rfl) (opens_string Try.underlying9) (fields_one rfl (by kernel_rfl) (opens_bool Try.underlying4))))) (fun _ => rfl)
/-- The pure statement of laws_FnExactBatch. -/
def laws_FnExactBatch.Pure : Prop := ∀ (l0 : List (S103)), (okList ok103) l0 → ∃ k, laws_FnExactBatch.f k l0 = some true
end Go.Proofs.Ytgpofolfflfgiaa.PFnExactBatch
