-- Written by a program of this session (wip/tools/pp.py over the kit's print).
import Derived.Test.YtgpofolfflfgiaaPFnExactLeavesOkx4
import Derived.Test.YtgpofolfflfgiaaPFnExactLeavesOkx0
import Derived.Test.YtgpofolfflfgiaaOpens
namespace Go.Proofs.Ytgpofolfflfgiaa.PFnExactLeavesOk
open Go.RowKit Go.Proofs.Ytgpofolfflfgiaa.PFnExactLeavesOk Go.Proofs.YtgpofolfflfgiaaW.PrintWords Go.Proofs.YtgpofolfflfgiaaW.PrintLast Go.Proofs.YtgpofolfflfgiaaW.PrintMore
def ok88 : S88 → Prop := fun x => (okPair (okInt .i64) (okInt .i64)) (x.f0, x.f1)
theorem opens_88 : Opens Try.prog 88 k88 ok88 := opens_iso (g := fun x : S88 => (x.f0, x.f1)) (mk := fun p => ⟨p.1, p.2⟩) (opens_struct Try.underlying88 (by kernel_rfl) (fields_cons rfl (by kernel_rfl) (opens_int Try.underlying2) (fields_one rfl (by kernel_rfl) (opens_int Try.underlying2)))) (fun _ => rfl)
/-- The pure statement of laws_FnExactLeavesOk. -/
def laws_FnExactLeavesOk.Pure : Prop := ∀ (l0 : List (S88)), (okList ok88) l0 → ∃ k, laws_FnExactLeavesOk.f k l0 = some true
end Go.Proofs.Ytgpofolfflfgiaa.PFnExactLeavesOk
