-- Written by a program of this session (wip/tools/pp.py over the kit's print).
import Derived.Test.YtcegobkangpilaaDoorPFnExactWayx7
import Derived.Test.YtcegobkangpilaaDoorPFnExactWayx0
import Derived.Test.YtcegobkangpilaaDoorOpens
namespace Go.Proofs.YtcegobkangpilaaDoor.PFnExactWay
open Go.RowKit Go.Proofs.YtcegobkangpilaaDoor.PFnExactWay Go.Proofs.YtcegobkangpilaaDoorW.PrintWords Go.Proofs.YtcegobkangpilaaDoorW.PrintLast Go.Proofs.YtcegobkangpilaaDoorW.PrintMore
def ok115 : S115 → Prop := fun x => (okPair (okInt .i64) (okInt .i64)) (x.f0, x.f1)
theorem opens_115 : Opens Tryd.prog 115 k115 ok115 := opens_iso (g := fun x : S115 => (x.f0, x.f1)) (mk := fun p => ⟨p.1, p.2⟩) (opens_struct Tryd.underlying115 (by kernel_rfl) (fields_cons rfl (by kernel_rfl) (opens_int Tryd.underlying2) (fields_one rfl (by kernel_rfl) (opens_int Tryd.underlying2)))) (fun _ => rfl)
/-- The pure statement of laws_FnExactWay. -/
def laws_FnExactWay.Pure : Prop := ∀ (l0 : List (S115)) (a1 : Int), (okList ok115) l0 → (okInt .i64) a1 → ∃ k, laws_FnExactWay.f k l0 a1 = some true
end Go.Proofs.YtcegobkangpilaaDoor.PFnExactWay
