-- Written by a program of this session (wip/tools/pp.py over the kit's print).
import Derived.Test.YtokfpmkhfindmaaDoorPFnExactGatheredx10
import Derived.Test.YtokfpmkhfindmaaDoorPFnExactGatheredx0
import Derived.Test.YtokfpmkhfindmaaDoorOpens
namespace Go.Proofs.YtokfpmkhfindmaaDoor.PFnExactGathered
open Go.RowKit Go.Proofs.YtokfpmkhfindmaaDoor.PFnExactGathered Go.Proofs.YtokfpmkhfindmaaDoorW.PrintWords Go.Proofs.YtokfpmkhfindmaaDoorW.PrintLast Go.Proofs.YtokfpmkhfindmaaDoorW.PrintMore
def ok65 : S65 → Prop := fun x => (okPair (okInt .i64) (okPair (okInt .i64) (okPair (okInt .i64) (okInt .i64)))) (x.f0, x.f1, x.f2, x.f3)
theorem opens_65 : Opens Tryd.prog 65 k65 ok65 := opens_iso (g := fun x : S65 => (x.f0, x.f1, x.f2, x.f3)) (mk := fun p => ⟨p.1, p.2.1, p.2.2.1, p.2.2.2⟩) (opens_struct Tryd.underlying65 (by kernel_rfl) (fields_cons rfl (by kernel_rfl) (opens_int Tryd.underlying2) (fields_cons rfl (by kernel_rfl) (opens_int Tryd.underlying2) (fields_cons rfl (by kernel_rfl) (opens_int Tryd.underlying2) (fields_one rfl (by kernel_rfl) (opens_int Tryd.underlying2)))))) (fun _ => rfl)
/-- The pure statement of laws_FnExactGathered. -/
def laws_FnExactGathered.Pure : Prop := ∀ (l0 : List (S65)) (a1 : Int), (okList ok65) l0 → (okInt .i64) a1 → ∃ k, laws_FnExactGathered.f k l0 a1 = some true
end Go.Proofs.YtokfpmkhfindmaaDoor.PFnExactGathered
