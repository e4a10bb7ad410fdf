/- The program's MoveOk returns what the reference's MoveOk returns, for every move. No condition. -/
import Derived.Test.YtgpofolfflfgiaaAskFnExactMoveOk
namespace Go.Proofs.Ytgpofolfflfgiaa.Pure
open Go.RowKit Go.Proofs.Ytgpofolfflfgiaa.PFnExactMoveOk Go.Proofs.YtgpofolfflfgiaaW.PrintWords Go.Proofs.YtgpofolfflfgiaaW.PrintLast Go.Proofs.YtgpofolfflfgiaaW.PrintMore

theorem in_some (a b c : Int) : ∃ r, spec_l1In.f a b c = some r ∧ impl_within.f a b c = some r := by
  unfold spec_l1In.f impl_within.f
  split <;> exact ⟨_, rfl, rfl⟩
theorem FnExactMoveOk : laws_FnExactMoveOk.Pure := by
  intro a b c d _ _ _ _
  obtain ⟨r1, e1, f1⟩ := in_some a 0 7
  obtain ⟨r2, e2, f2⟩ := in_some b 0 7
  obtain ⟨r3, e3, f3⟩ := in_some c 1 1000000000
  obtain ⟨r4, e4, f4⟩ := in_some d 0 999999
  simp only [laws_FnExactMoveOk.f, laws_toMove.f, Option.bind_some, spec_MoveOk.f, impl_MoveOk.f, impl_isAccount.f, e1, f1, e2, f2, e3, f3, e4, f4]
  cases r1 <;> cases r2 <;> cases r3 <;> cases r4 <;> rfl

end Go.Proofs.Ytgpofolfflfgiaa.Pure
