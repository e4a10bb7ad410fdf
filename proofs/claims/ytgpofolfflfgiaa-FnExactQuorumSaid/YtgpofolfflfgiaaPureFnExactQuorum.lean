/- The program's Quorum returns what the reference's Quorum returns, for every int64. No condition. -/
import Derived.Test.YtgpofolfflfgiaaPFnExactQuorumx1
namespace Go.Proofs.Ytgpofolfflfgiaa.Pure
open Go.RowKit Go.Proofs.Ytgpofolfflfgiaa.PFnExactQuorum Go.Proofs.YtgpofolfflfgiaaW.PrintWords Go.Proofs.YtgpofolfflfgiaaW.PrintLast

theorem FnExactQuorum : laws_FnExactQuorum.Pure := by
  intro a _
  unfold laws_FnExactQuorum.f spec_Quorum.f impl_Quorum.f spec_l15Servers.f
  by_cases h1 : a = 1
  · subst h1; simp [wrap64]
  · by_cases h4 : a = 4
    · subst h4; simp [wrap64]
    · by_cases h7 : a = 7
      · subst h7; simp [wrap64]
      · simp [h1, h4, h7]

end Go.Proofs.Ytgpofolfflfgiaa.Pure
