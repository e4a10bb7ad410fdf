-- Written by a program of this session (wip/tools/pp.py over the kit's print).
import Derived.Test.YtcegobkangpilaaDoorPFnExactPeakx7
import Derived.Test.YtcegobkangpilaaDoorPFnExactPeakx0
import Derived.Test.YtcegobkangpilaaDoorOpens
namespace Go.Proofs.YtcegobkangpilaaDoor.PFnExactPeak
open Go.RowKit Go.Proofs.YtcegobkangpilaaDoor.PFnExactPeak Go.Proofs.YtcegobkangpilaaDoorW.PrintWords Go.Proofs.YtcegobkangpilaaDoorW.PrintLast Go.Proofs.YtcegobkangpilaaDoorW.PrintMore
def ok115 : S115 → Prop := fun x => (okPair (okInt .i64) (okInt .i64)) (x.f0, x.f1)
theorem opens_115 : Opens Tryd.prog 115 k115 ok115 := opens_iso (g := fun x : S115 => (x.f0, x.f1)) (mk := fun p => ⟨p.1, p.2⟩) (opens_struct Tryd.underlying115 (by kernel_rfl) (fields_cons rfl (by kernel_rfl) (opens_int Tryd.underlying2) (fields_one rfl (by kernel_rfl) (opens_int Tryd.underlying2)))) (fun _ => rfl)
/-- The pure statement of laws_FnExactPeak. -/
def laws_FnExactPeak.Pure : Prop := ∀ (l0 : List (S115)), (okList ok115) l0 → ∃ k, laws_FnExactPeak.f k l0 = some true
end Go.Proofs.YtcegobkangpilaaDoor.PFnExactPeak
