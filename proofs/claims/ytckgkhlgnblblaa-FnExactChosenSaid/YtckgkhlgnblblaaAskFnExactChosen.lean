-- Written by a program of this session (wip/tools/pp.py over the kit's print).
import Derived.Test.YtckgkhlgnblblaaPFnExactChosenx8
import Derived.Test.YtckgkhlgnblblaaPFnExactChosenx0
import Derived.Test.YtckgkhlgnblblaaOpens
namespace Go.Proofs.Ytckgkhlgnblblaa.PFnExactChosen
open Go.RowKit Go.Proofs.Ytckgkhlgnblblaa.PFnExactChosen Go.Proofs.YtckgkhlgnblblaaW.PrintWords Go.Proofs.YtckgkhlgnblblaaW.PrintLast Go.Proofs.YtckgkhlgnblblaaW.PrintMore
def ok98 : S98 → Prop := fun x => (okPair (okInt .i64) okStr) (x.f0, x.f1)
theorem opens_98 : Opens Try.prog 98 k98 ok98 := opens_iso (g := fun x : S98 => (x.f0, x.f1)) (mk := fun p => ⟨p.1, p.2⟩) (opens_struct Try.underlying98 (by kernel_rfl) (fields_cons rfl (by kernel_rfl) (opens_int Try.underlying2) (fields_one rfl (by kernel_rfl) (opens_string Try.underlying9)))) (fun _ => rfl)
/-- The pure statement of laws_FnExactChosen. -/
def laws_FnExactChosen.Pure : Prop := ∀ (l0 : List (S98)) (a1 : Int), (okList ok98) l0 → (okInt .i64) a1 → ∃ k, laws_FnExactChosen.f k l0 a1 = some true
end Go.Proofs.Ytckgkhlgnblblaa.PFnExactChosen
