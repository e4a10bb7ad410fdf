-- Written by a program of this session (wip/tools/pp.py over the kit's print).
import Derived.Test.YtckgkhlgnblblaaPFnExactNamex6
import Derived.Test.YtckgkhlgnblblaaPFnExactNamex0
import Derived.Test.YtckgkhlgnblblaaVFnExactName
namespace Go.Proofs.Ytckgkhlgnblblaa.PFnExactName
open Go.RowKit Go.Proofs.Ytckgkhlgnblblaa.PFnExactName Go.Proofs.YtckgkhlgnblblaaW.PrintWords Go.Proofs.YtckgkhlgnblblaaW.PrintLast Go.Proofs.YtckgkhlgnblblaaW.PrintMore
/-- The pure statement of laws_FnExactName. -/
def laws_FnExactName.Pure : Prop := ∀ (a0_0 : Int) (a0_1 : Int) (a0_2 : Int) (a0_3 : Int) (l0_4 : List Int) (l0_5 : List Int) (l0_6 : List ByteArray) (a0_7 : Int), (okInt .i64) a0_0 → (okInt .i64) a0_1 → (okInt .i64) a0_2 → (okInt .i64) a0_3 → (okList (okInt .i64)) l0_4 → (okList (okInt .i64)) l0_5 → (okList okStr) l0_6 → (okInt .i64) a0_7 → ∃ k, laws_FnExactName.f k a0_0 a0_1 a0_2 a0_3 l0_4 l0_5 l0_6 a0_7 = some true
end Go.Proofs.Ytckgkhlgnblblaa.PFnExactName
