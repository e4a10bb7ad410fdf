/- The program's PoolOk returns what the reference's PoolOk returns, for every list of offers. No condition. -/
import Derived.Test.YtgpofolfflfgiaaBoilFnExactPoolOk
namespace Go.Proofs.Ytgpofolfflfgiaa.Pure
open Go.RowKit Go.Proofs.Ytgpofolfflfgiaa.PFnExactPoolOk Go.Proofs.YtgpofolfflfgiaaW.PrintWords Go.Proofs.YtgpofolfflfgiaaW.PrintLast Go.Proofs.YtgpofolfflfgiaaW.PrintMore

theorem in_some (a b c : Int) : ∃ r, spec_l1In.f a b c = some r ∧ impl_within.f a b c = some r := by
  unfold spec_l1In.f impl_within.f
  split <;> exact ⟨_, rfl, rfl⟩
theorem offer_ok (a : Int) (s : ByteArray) : ∃ r, spec_l14Offer.f a s = some r ∧ impl_offerOk.f a s = some r := by
  obtain ⟨r, e, f⟩ := in_some a 0 1000000000
  simp only [spec_l14Offer.f, spec_l12Value.f, impl_offerOk.f, e, f, Option.bind_some]
  cases r <;> exact ⟨_, rfl, rfl⟩
theorem ahead_ok (a : Int) (s : ByteArray) (b : Int) (t : ByteArray) : ∃ r, spec_l14Ahead.f a s b t = some r ∧ impl_Offer_ahead.f a s b t = some r := by
  unfold spec_l14Ahead.f impl_Offer_ahead.f
  split
  · exact ⟨_, rfl, rfl⟩
  · split <;> exact ⟨_, rfl, rfl⟩
theorem pool_l0 (l : List S67) (hl : l.length ≤ 4611686018427387904) : ∀ (d i : Nat), i + d = l.length → ∃ r, Ev (fun k => spec_PoolOk.l0 k l i) r ∧ Ev (fun k => impl_PoolOk.l0 k l l (l.length : Int) i) (r && decide ((l.length : Int) ≤ 50))
  | 0, i, hi => by
    refine ⟨true, Ev.succ ?_, Ev.succ ?_⟩
    · simp only [spec_PoolOk.l0]
      exact Ev.neg (by omega) (Ev.now _)
    · simp only [impl_PoolOk.l0]
      exact Ev.neg (by omega) (Ev.now _)
  | d + 1, i, hi => by
    obtain ⟨x, hx⟩ := get_some (l := l) (i := i) (by omega)
    obtain ⟨r, h1, h2⟩ := pool_l0 l hl d (i + 1) (by omega)
    obtain ⟨b1, e1, f1⟩ := offer_ok x.f0 x.f1
    have key : ∃ r, Ev (fun k => spec_PoolOk.l0 (k + 1) l i) r ∧ Ev (fun k => impl_PoolOk.l0 (k + 1) l l (l.length : Int) i) (r && decide ((l.length : Int) ≤ 50)) := by
      simp only [spec_PoolOk.l0, impl_PoolOk.l0, rdS_T67 hx, e1, f1, Option.bind_some]
      rw [w64 (x := (i : Int) + 1) (by omega) (by omega), w64 (x := (i : Int) - 1) (by omega) (by omega), cast_succ]
      cases b1 with
      | false => exact ⟨false, Ev.pos (by omega) (Ev.pos (by omega) (Ev.neg (by decide) (Ev.now _))), Ev.pos (by omega) (Ev.pos (by omega) (Ev.pos (by omega) (Ev.neg (by decide) (Ev.now _))))⟩
      | true =>
        by_cases h0 : (i : Int) > 0
        · have hd : Int.tdiv ((i : Int) - 1) 2 = ((i : Int) - 1) / 2 := Int.tdiv_eq_ediv_of_nonneg (by omega)
          rw [hd, w64 (x := ((i : Int) - 1) / 2) (by omega) (by omega)]
          obtain ⟨b2, e2, f2⟩ := ahead_ok x.f0 x.f1 (rd_T67 l (((i : Int) - 1) / 2)).f0 (rd_T67 l (((i : Int) - 1) / 2)).f1
          simp only [e2, f2, Option.bind_some]
          cases b2 with
          | true => exact ⟨false, Ev.pos (by omega) (Ev.pos (by omega) (Ev.pos (by simp) (Ev.pos h0 (Ev.pos (by omega) (Ev.pos (by omega) (Ev.pos (by simp) (Ev.now _))))))), Ev.pos (by omega) (Ev.pos (by omega) (Ev.pos (by omega) (Ev.pos (by simp) (Ev.pos h0 (Ev.pos (by omega) (Ev.pos (by omega) (Ev.pos (by simp) (Ev.now _))))))))⟩
          | false => exact ⟨r, Ev.pos (by omega) (Ev.pos (by omega) (Ev.pos (by simp) (Ev.pos h0 (Ev.pos (by omega) (Ev.pos (by omega) (Ev.neg (by simp) h1)))))), Ev.pos (by omega) (Ev.pos (by omega) (Ev.pos (by omega) (Ev.pos (by simp) (Ev.pos h0 (Ev.pos (by omega) (Ev.pos (by omega) (Ev.neg (by simp) h2)))))))⟩
        · exact ⟨r, Ev.pos (by omega) (Ev.pos (by omega) (Ev.pos (by simp) (Ev.neg h0 h1))), Ev.pos (by omega) (Ev.pos (by omega) (Ev.pos (by omega) (Ev.pos (by simp) (Ev.neg h0 h2))))⟩
    obtain ⟨r, k1, k2⟩ := key
    exact ⟨r, Ev.succ k1, Ev.succ k2⟩
theorem pool_ok (l : List S67) (hl : l.length ≤ 4611686018427387904) : ∃ r, Ev (fun k => spec_PoolOk.f k l) r ∧ Ev (fun k => impl_PoolOk.f k l) r := by
  obtain ⟨r, h1, h2⟩ := pool_l0 l hl l.length 0 (by omega)
  refine ⟨r && decide ((l.length : Int) ≤ 50), ?_, h2⟩
  unfold spec_PoolOk.f
  by_cases h : (l.length : Int) > 50
  · refine Ev.pos h ?_
    have : decide ((l.length : Int) ≤ 50) = false := decide_eq_false (by omega)
    rw [this, Bool.and_false]
    exact Ev.now _
  · refine Ev.neg h ?_
    have : decide ((l.length : Int) ≤ 50) = true := decide_eq_true (by omega)
    rw [this, Bool.and_true]
    exact h1

theorem FnExactPoolOk : laws_FnExactPoolOk.Pure := by
  intro l hok
  refine Ev.rounds (g := fun k => laws_FnExactPoolOk.f k l) ?_
  unfold laws_FnExactPoolOk.f
  obtain ⟨s, hs, _, _, hp⟩ := laws_szOfferS_ev l 1048576 (by omega) (by omega) hok
  refine Ev.bind hs (Ev.ite (fun _ => Ev.now _) (fun h => ?_))
  have hsm := hp (by omega)
  have hl1 := hsm.1
  have ht := laws_toOfferS_ev l hsm
  have hm : (l.map cv63).length = l.length := by simp
  obtain ⟨r, h1, h2⟩ := pool_ok (l.map cv63) (by omega)
  exact Ev.bind ht (Ev.bind h1 (Ev.bind ht (Ev.bind h2 (Ev.neg (by simp) (Ev.bind ht (Ev.bind (laws_eqOfferS_ev _ ⟨by omega, fun _ _ => ⟨trivial, trivial⟩⟩) (Ev.pos rfl (Ev.now _))))))))

end Go.Proofs.Ytgpofolfflfgiaa.Pure
