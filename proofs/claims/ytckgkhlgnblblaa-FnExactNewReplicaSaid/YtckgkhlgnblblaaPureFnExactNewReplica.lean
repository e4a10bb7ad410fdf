/- The program's NewReplica returns what the reference's returns, for all arguments. No condition. -/
import Derived.Test.YtckgkhlgnblblaaPFnExactNewReplicax5
import Derived.Test.YtckgkhlgnblblaaPFnExactNewReplicax0
namespace Go.Proofs.Ytckgkhlgnblblaa.Pure
open Go.RowKit Go.Proofs.Ytckgkhlgnblblaa.PFnExactNewReplica Go.Proofs.YtckgkhlgnblblaaW.PrintWords Go.Proofs.YtckgkhlgnblblaaW.PrintLast
set_option maxRecDepth 100000
set_option linter.unusedVariables false
set_option linter.unusedSimpArgs false
theorem new_ev (a m : Int) (hm : -9223372036854775808 ≤ m ∧ m ≤ 9223372036854775807) : ∃ r, spec_NewReplica.f a m = some r ∧ impl_NewReplica.f a m = some r ∧ (r = (a, m, 1, 0, 0, 0, 0, 0, ([] : List Int), ([] : List Int), ([] : List (S42)), ([] : List (S176)), ([] : List (S179)), ([] : List Int), true) ∨ r = (0, 0, 0, 0, 0, 0, 0, 0, ([] : List Int), ([] : List Int), ([] : List (S42)), ([] : List (S176)), ([] : List (S179)), ([] : List Int), false)) := by
  have hw : ∀ b c d, impl_within.f b c d = spec_l1In.f b c d := fun _ _ _ => rfl
  have hin : ∀ b c d, ∃ r, spec_l1In.f b c d = some r := by
    intro b c d
    unfold spec_l1In.f
    split <;> exact ⟨_, rfl⟩
  obtain ⟨t, ht⟩ := hin a 0 (wrap64 (m - 1))
  by_cases h : m = 1 ∨ m = 4 ∨ m = 7
  · have e1 : spec_l15Servers.f m = some true := by rcases h with h | h | h <;> subst h <;> rfl
    have e2 : ∃ q, impl_Quorum.f m = some q ∧ ¬ q < 0 := by rcases h with h | h | h <;> subst h <;> exact ⟨_, rfl, by decide +kernel⟩
    obtain ⟨q, e2, hq⟩ := e2
    unfold spec_NewReplica.f impl_NewReplica.f
    simp only [e1, e2, hw, ht, Option.bind_some, if_true, if_neg hq]
    cases t
    · exact ⟨_, rfl, rfl, Or.inr rfl⟩
    · exact ⟨_, rfl, rfl, Or.inl rfl⟩
  · have e1 : spec_l15Servers.f m = some false := by
      unfold spec_l15Servers.f
      rw [if_neg (fun e => h (Or.inl e)), if_neg (fun e => h (Or.inr (Or.inl e)))]
      congr 1
      simpa using fun e => h (Or.inr (Or.inr e))
    have e2 : impl_Quorum.f m = some (-1) := by
      unfold impl_Quorum.f
      rw [if_neg (fun e => h (Or.inl e)), if_neg (fun e => h (Or.inr (Or.inl e))), if_neg (fun e => h (Or.inr (Or.inr e)))]
    unfold spec_NewReplica.f impl_NewReplica.f
    simp only [e1, e2, Option.bind_some]
    exact ⟨_, rfl, rfl, Or.inr rfl⟩
theorem FnExactNewReplica : laws_FnExactNewReplica.Pure := by
  intro a m ha hm
  have hb : -9223372036854775808 ≤ m ∧ m ≤ 9223372036854775807 := by
    simp [Lit.wf, IntKind.min, IntKind.max, IntKind.bits, IntKind.signed] at hm
    omega
  obtain ⟨r, e1, e2, h⟩ := new_ev a m hb
  refine ⟨2, ?_⟩
  unfold laws_FnExactNewReplica.f
  rw [e1, e2]
  rcases h with rfl | rfl <;> simp [laws_eqInt64S.l0, laws_eqInt64S.f, laws_eqProof.f, laws_eqStringS.l0, laws_eqStringS.f, laws_eqBlockS.l0, laws_eqBlockS.f, laws_eqVoteS.l0, laws_eqVoteS.f, laws_eqNewsS.l0, laws_eqNewsS.f, laws_eqReplica.f, laws_markInt64S.l0, laws_markInt64S.f, laws_markProof.f, laws_markStringS.l0, laws_markStringS.f, laws_markBlockS.f, laws_markVoteS.l0, laws_markVoteS.f, laws_markNewsS.l0, laws_markNewsS.f, laws_markReplica.f, laws_heldInt64S.l0, laws_heldInt64S.f, laws_heldProof.f, laws_heldStringS.l0, laws_heldStringS.f, laws_heldBlockS.l0, laws_heldBlockS.f, laws_heldVoteS.l0, laws_heldVoteS.f, laws_heldNewsS.l0, laws_heldNewsS.f, laws_heldReplica.f]

end Go.Proofs.Ytckgkhlgnblblaa.Pure
