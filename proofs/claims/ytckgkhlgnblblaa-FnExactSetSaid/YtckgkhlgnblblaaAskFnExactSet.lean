-- Written by a program of this session (wip/tools/pp.py over the kit's print).
import Derived.Test.YtckgkhlgnblblaaPFnExactSetx6
import Derived.Test.YtckgkhlgnblblaaPFnExactSetx0
import Derived.Test.YtckgkhlgnblblaaOpens
namespace Go.Proofs.Ytckgkhlgnblblaa.PFnExactSet
open Go.RowKit Go.Proofs.Ytckgkhlgnblblaa.PFnExactSet Go.Proofs.YtckgkhlgnblblaaW.PrintWords Go.Proofs.YtckgkhlgnblblaaW.PrintLast Go.Proofs.YtckgkhlgnblblaaW.PrintMore
def ok116 : S116 → Prop := fun x => (okPair (okInt .i64) (okInt .i64)) (x.f0, x.f1)
theorem opens_116 : Opens Try.prog 116 k116 ok116 := opens_iso (g := fun x : S116 => (x.f0, x.f1)) (mk := fun p => ⟨p.1, p.2⟩) (opens_struct Try.underlying116 (by kernel_rfl) (fields_cons rfl (by kernel_rfl) (opens_int Try.underlying2) (fields_one rfl (by kernel_rfl) (opens_int Try.underlying2)))) (fun _ => rfl)
/-- The pure statement of laws_FnExactSet. -/
def laws_FnExactSet.Pure : Prop := ∀ (l0 : List (S116)) (a1 : Int) (a2 : Int), (okList ok116) l0 → (okInt .i64) a1 → (okInt .i64) a2 → ∃ k, laws_FnExactSet.f k l0 a1 a2 = some true
end Go.Proofs.Ytckgkhlgnblblaa.PFnExactSet
