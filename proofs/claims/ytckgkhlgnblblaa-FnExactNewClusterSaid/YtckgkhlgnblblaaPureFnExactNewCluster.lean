/- The program's NewCluster returns what the reference's NewCluster returns, for every number. No condition. -/
import Derived.Test.YtckgkhlgnblblaaPFnExactNewClusterx8
namespace Go.Proofs.Ytckgkhlgnblblaa.Pure
open Go.RowKit Go.Proofs.Ytckgkhlgnblblaa.PFnExactNewCluster Go.Proofs.YtckgkhlgnblblaaW.PrintWords Go.Proofs.YtckgkhlgnblblaaW.PrintLast
set_option maxRecDepth 100000
set_option linter.unusedVariables false
set_option linter.unusedSimpArgs false
theorem at_1 : laws_FnExactNewCluster.f 40 1 = some true := by decide +kernel
theorem at_4 : laws_FnExactNewCluster.f 40 4 = some true := by decide +kernel
theorem at_7 : laws_FnExactNewCluster.f 40 7 = some true := by decide +kernel
theorem FnExactNewCluster : laws_FnExactNewCluster.Pure := by
  intro m _
  by_cases h : m = 1 ∨ m = 4 ∨ m = 7
  · rcases h with rfl | rfl | rfl
    · exact ⟨40, at_1⟩
    · exact ⟨40, at_4⟩
    · exact ⟨40, at_7⟩
  · have e1 : spec_l15Servers.f m = some false := by
      unfold spec_l15Servers.f
      rw [if_neg (fun e => h (Or.inl e)), if_neg (fun e => h (Or.inr (Or.inl e)))]
      congr 1
      simpa using fun e => h (Or.inr (Or.inr e))
    have e2 : impl_Quorum.f m = some (-1) := by
      unfold impl_Quorum.f
      rw [if_neg (fun e => h (Or.inl e)), if_neg (fun e => h (Or.inr (Or.inl e))), if_neg (fun e => h (Or.inr (Or.inr e)))]
    have e3 : spec_NewCluster.f 40 m = some ([], [], false) := by
      unfold spec_NewCluster.f
      rw [e1]
      rfl
    have e4 : impl_NewCluster.f 40 m = some ([], [], false) := by
      unfold impl_NewCluster.f
      rw [e2]
      rfl
    refine ⟨40, ?_⟩
    unfold laws_FnExactNewCluster.f
    rw [e3, e4]
    decide +kernel
end Go.Proofs.Ytckgkhlgnblblaa.Pure
