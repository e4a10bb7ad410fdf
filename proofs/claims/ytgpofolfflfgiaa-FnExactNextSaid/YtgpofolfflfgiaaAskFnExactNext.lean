-- Written by a program of this session (wip/tools/pp.py over the kit's print).
import Derived.Test.YtgpofolfflfgiaaPFnExactNextx7
import Derived.Test.YtgpofolfflfgiaaPFnExactNextx0
import Derived.Test.YtgpofolfflfgiaaOpens
namespace Go.Proofs.Ytgpofolfflfgiaa.PFnExactNext
open Go.RowKit Go.Proofs.Ytgpofolfflfgiaa.PFnExactNext Go.Proofs.YtgpofolfflfgiaaW.PrintWords Go.Proofs.YtgpofolfflfgiaaW.PrintLast Go.Proofs.YtgpofolfflfgiaaW.PrintMore
def ok63 : S63 → Prop := fun x => (okPair (okInt .i64) okStr) (x.f0, x.f1)
theorem opens_63 : Opens Try.prog 63 k63 ok63 := opens_iso (g := fun x : S63 => (x.f0, x.f1)) (mk := fun p => ⟨p.1, p.2⟩) (opens_struct Try.underlying63 (by kernel_rfl) (fields_cons rfl (by kernel_rfl) (opens_int Try.underlying2) (fields_one rfl (by kernel_rfl) (opens_string Try.underlying9)))) (fun _ => rfl)
/-- The pure statement of laws_FnExactNext. -/
def laws_FnExactNext.Pure : Prop := ∀ (l0 : List (S63)), (okList ok63) l0 → ∃ k, laws_FnExactNext.f k l0 = some true
end Go.Proofs.Ytgpofolfflfgiaa.PFnExactNext
