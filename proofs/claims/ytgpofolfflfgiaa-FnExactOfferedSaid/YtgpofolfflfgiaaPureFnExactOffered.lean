/- The program's Offered returns what the reference's Offered returns, for every pool and every offer. No condition. -/
import Derived.Test.YtgpofolfflfgiaaBoilFnExactOffered
namespace Go.Proofs.Ytgpofolfflfgiaa.Pure
open Go.RowKit Go.Proofs.Ytgpofolfflfgiaa.PFnExactOffered Go.Proofs.YtgpofolfflfgiaaW.PrintWords Go.Proofs.YtgpofolfflfgiaaW.PrintLast Go.Proofs.YtgpofolfflfgiaaW.PrintMore
set_option linter.unusedVariables false

theorem in_some (a b c : Int) : ∃ r, spec_l1In.f a b c = some r ∧ impl_within.f a b c = some r := by
  unfold spec_l1In.f impl_within.f
  split <;> exact ⟨_, rfl, rfl⟩
theorem offer_ok (a : Int) (s : ByteArray) : ∃ r, spec_l14Offer.f a s = some r ∧ impl_offerOk.f a s = some r := by
  obtain ⟨r, e, f⟩ := in_some a 0 1000000000
  simp only [spec_l14Offer.f, spec_l12Value.f, impl_offerOk.f, e, f, Option.bind_some]
  cases r <;> exact ⟨_, rfl, rfl⟩
theorem ahead_ok (a : Int) (s : ByteArray) (b : Int) (t : ByteArray) : ∃ r, spec_l14Ahead.f a s b t = some r ∧ impl_Offer_ahead.f a s b t = some r := by
  unfold spec_l14Ahead.f impl_Offer_ahead.f
  split
  · exact ⟨_, rfl, rfl⟩
  · split <;> exact ⟨_, rfl, rfl⟩
theorem half {i : Nat} (h0 : (i : Int) > 0) (h : i ≤ 4611686018427387904) : wrap64 (Int.tdiv (wrap64 ((i : Int) - 1)) 2) = (((i - 1) / 2 : Nat) : Int) := by
  rw [w64 (x := (i : Int) - 1) (by omega) (by omega), show Int.tdiv ((i : Int) - 1) 2 = ((i : Int) - 1) / 2 from Int.tdiv_eq_ediv_of_nonneg (by omega), w64 (by omega) (by omega)]
  omega
theorem pool_l0 (l : List S67) (hl : l.length ≤ 4611686018427387904) : ∀ (d i : Nat), i + d = l.length → ∃ r, Ev (fun k => spec_PoolOk.l0 k l i) r ∧ Ev (fun k => impl_PoolOk.l0 k l l (l.length : Int) i) (r && decide ((l.length : Int) ≤ 50))
  | 0, i, hi => by
    refine ⟨true, Ev.succ ?_, Ev.succ ?_⟩
    · simp only [spec_PoolOk.l0]
      exact Ev.neg (by omega) (Ev.now _)
    · simp only [impl_PoolOk.l0]
      exact Ev.neg (by omega) (Ev.now _)
  | d + 1, i, hi => by
    obtain ⟨x, hx⟩ := get_some (l := l) (i := i) (by omega)
    obtain ⟨r, h1, h2⟩ := pool_l0 l hl d (i + 1) (by omega)
    obtain ⟨b1, e1, f1⟩ := offer_ok x.f0 x.f1
    have key : ∃ r, Ev (fun k => spec_PoolOk.l0 (k + 1) l i) r ∧ Ev (fun k => impl_PoolOk.l0 (k + 1) l l (l.length : Int) i) (r && decide ((l.length : Int) ≤ 50)) := by
      simp only [spec_PoolOk.l0, impl_PoolOk.l0, rdS_T67 hx, e1, f1, Option.bind_some]
      rw [w64 (x := (i : Int) + 1) (by omega) (by omega), cast_succ]
      cases b1 with
      | false => exact ⟨false, Ev.pos (by omega) (Ev.pos (by omega) (Ev.neg (by decide) (Ev.now _))), Ev.pos (by omega) (Ev.pos (by omega) (Ev.pos (by omega) (Ev.neg (by decide) (Ev.now _))))⟩
      | true =>
        by_cases h0 : (i : Int) > 0
        · rw [half h0 (by omega)]
          obtain ⟨b2, e2, f2⟩ := ahead_ok x.f0 x.f1 (rd_T67 l (((i - 1) / 2 : Nat) : Int)).f0 (rd_T67 l (((i - 1) / 2 : Nat) : Int)).f1
          simp only [e2, f2, Option.bind_some]
          cases b2 with
          | true => exact ⟨false, Ev.pos (by omega) (Ev.pos (by omega) (Ev.pos (by simp) (Ev.pos h0 (Ev.pos (by omega) (Ev.pos (by omega) (Ev.pos (by simp) (Ev.now _))))))), Ev.pos (by omega) (Ev.pos (by omega) (Ev.pos (by omega) (Ev.pos (by simp) (Ev.pos h0 (Ev.pos (by omega) (Ev.pos (by omega) (Ev.pos (by simp) (Ev.now _))))))))⟩
          | false => exact ⟨r, Ev.pos (by omega) (Ev.pos (by omega) (Ev.pos (by simp) (Ev.pos h0 (Ev.pos (by omega) (Ev.pos (by omega) (Ev.neg (by simp) h1)))))), Ev.pos (by omega) (Ev.pos (by omega) (Ev.pos (by omega) (Ev.pos (by simp) (Ev.pos h0 (Ev.pos (by omega) (Ev.pos (by omega) (Ev.neg (by simp) h2)))))))⟩
        · exact ⟨r, Ev.pos (by omega) (Ev.pos (by omega) (Ev.pos (by simp) (Ev.neg h0 h1))), Ev.pos (by omega) (Ev.pos (by omega) (Ev.pos (by omega) (Ev.pos (by simp) (Ev.neg h0 h2))))⟩
    obtain ⟨r, k1, k2⟩ := key
    exact ⟨r, Ev.succ k1, Ev.succ k2⟩
theorem pool_ok (l : List S67) (hl : l.length ≤ 4611686018427387904) : ∃ r, Ev (fun k => spec_PoolOk.f k l) r ∧ Ev (fun k => impl_PoolOk.f k l) r ∧ (r = true → l.length ≤ 50) := by
  obtain ⟨r, h1, h2⟩ := pool_l0 l hl l.length 0 (by omega)
  refine ⟨r && decide ((l.length : Int) ≤ 50), ?_, h2, fun h => ?_⟩
  · unfold spec_PoolOk.f
    by_cases h : (l.length : Int) > 50
    · refine Ev.pos h ?_
      have : decide ((l.length : Int) ≤ 50) = false := decide_eq_false (by omega)
      rw [this, Bool.and_false]
      exact Ev.now _
    · refine Ev.neg h ?_
      have : decide ((l.length : Int) ≤ 50) = true := decide_eq_true (by omega)
      rw [this, Bool.and_true]
      exact h1
  · simp only [Bool.and_eq_true, decide_eq_true_eq] at h
    omega
theorem ln_any (l : List S67) (h : l.length ≤ 4611686018427387904) : (lnList lnS67) l := ⟨h, fun _ _ => ⟨trivial, trivial⟩⟩
theorem ct_le : ∀ y : List S67, (ctList ctS67) y ≤ 2 * y.length
  | [] => by simp [ctList]
  | x :: y => by
    have := ct_le y
    simp only [ctList, ctS67, ctOne, List.map_cons, List.sum_cons, List.length_cons] at this ⊢
    omega
theorem mark_ev (y : List S67) (h : y.length ≤ 1048577) : ∃ r z, 0 ≤ r ∧ Ev (fun k => laws_markOfferS.f k y 1) (r, z) ∧ Ev (fun k => laws_heldOfferS.f k z 1) r := by
  have hc := ct_le y
  obtain ⟨r, z, e, h1, h2, _⟩ := laws_markOfferS_ev y 1 (by omega) (by omega) (ln_any y (by omega))
  exact ⟨r, z, by omega, h1, h2⟩
theorem lift_l0 (o : S67) : ∀ (n i : Nat) (x : List S67), i < n → i < x.length → x.length ≤ 4611686018427387904 → x[i]? = some o →
    ∃ out, out.length = x.length ∧ Ev (fun k => spec_Offered.l0 k x i o.f0 o.f1) (out, true) ∧ Ev (fun k => impl_Offered.l0 k x i) (out, true)
  | 0, i, x, h, _, _, _ => absurd h (by omega)
  | n + 1, i, x, h, hi, hl, hx => by
    by_cases h0 : (i : Int) > 0
    · obtain ⟨y, hy⟩ := get_some (l := x) (i := (i - 1) / 2) (by omega)
      obtain ⟨r, e, f⟩ := ahead_ok o.f0 o.f1 y.f0 y.f1
      have key : ∃ out, out.length = x.length ∧ Ev (fun k => spec_Offered.l0 (k + 1) x i o.f0 o.f1) (out, true) ∧ Ev (fun k => impl_Offered.l0 (k + 1) x i) (out, true) := by
        simp only [spec_Offered.l0, impl_Offered.l0]
        rw [half h0 (by omega)]
        simp only [rdS_T67 hx, rdS_T67 hy, e, f, Option.bind_some, Int.toNat_natCast]
        cases r with
        | false => exact ⟨x, rfl, Ev.pos h0 (Ev.pos (by omega) (Ev.pos (by omega) (Ev.neg (by simp) (Ev.now _)))), Ev.pos h0 (Ev.pos (by omega) (Ev.pos (by omega) (Ev.pos (by omega) (Ev.pos (by omega) (Ev.neg (by simp) (Ev.now _))))))⟩
        | true =>
          obtain ⟨out, h1, h2, h3⟩ := lift_l0 o n ((i - 1) / 2) ((x.set i y).set ((i - 1) / 2) o) (by omega) (by simp; omega) (by simpa using hl) (set_get (by simp; omega))
          exact ⟨out, by simpa using h1, Ev.pos h0 (Ev.pos (by omega) (Ev.pos (by omega) (Ev.pos (by simp) (Ev.pos (by omega) (Ev.pos (by omega) h2))))), Ev.pos h0 (Ev.pos (by omega) (Ev.pos (by omega) (Ev.pos (by omega) (Ev.pos (by omega) (Ev.pos (by simp) h3)))))⟩
      obtain ⟨out, h1, h2, h3⟩ := key
      exact ⟨out, h1, Ev.succ h2, Ev.succ h3⟩
    · refine ⟨x, rfl, Ev.succ ?_, Ev.succ ?_⟩
      · simp only [spec_Offered.l0]
        exact Ev.neg h0 (Ev.now _)
      · simp only [impl_Offered.l0]
        exact Ev.neg h0 (Ev.now _)
theorem off_j0 (x : List S67) (b : Bool) (o : S67) (hl : x.length ≤ 1048576) : ∃ out c, out.length ≤ 1048577 ∧ Ev (fun k => spec_Offered.j0 k x b o.f0 o.f1) (out, c) ∧ Ev (fun k => impl_Offered.j0 k x b o.f0 o.f1) (out, c) := by
  cases b with
  | true =>
    refine ⟨[], false, by simp, Ev.succ ?_, Ev.succ ?_⟩
    · simp only [spec_Offered.j0]
      exact Ev.pos (by simp) (Ev.now _)
    · simp only [impl_Offered.j0]
      exact Ev.pos (by simp) (Ev.now _)
  | false =>
    obtain ⟨out, h1, h2, h3⟩ := lift_l0 o (x.length + 1) x.length (x ++ [o]) (by omega) (by simp) (by simp; omega) (by simp)
    refine ⟨out, true, by rw [h1]; simp; omega, Ev.succ ?_, Ev.succ ?_⟩
    · simp only [spec_Offered.j0, Option.bind_some, List.nil_append]
      exact Ev.neg (by simp) (Ev.pos (by simp; omega) (Ev.pos (by simp; omega) h2))
    · simp only [impl_Offered.j0, impl_Offer.f, Option.bind_some, List.nil_append]
      have e : wrap64 (((x ++ [o]).length : Int) - 1) = (x.length : Int) := by simp only [List.length_append, List.length_singleton]; rw [w64 (by omega) (by omega)]; omega
      rw [if_pos (by simp; omega)]
      simp only [Option.bind_some, show (⟨o.f0, o.f1⟩ : S67) = o from rfl, e]
      exact Ev.neg (by simp) (Ev.pos (by simp; omega) h3)
theorem off_ev (x : List S67) (o : S67) (hl : x.length ≤ 1048576) : ∃ out c, out.length ≤ 1048577 ∧ Ev (fun k => spec_Offered.f k x o.f0 o.f1) (out, c) ∧ Ev (fun k => impl_Offered.f k x o.f0 o.f1) (out, c) := by
  obtain ⟨r, e, f, _⟩ := pool_ok x (by omega)
  obtain ⟨s, e2, f2⟩ := offer_ok o.f0 o.f1
  unfold spec_Offered.f impl_Offered.f
  simp only [e2, f2, Option.bind_some]
  have key : ∀ b, ∃ out c, out.length ≤ 1048577 ∧ Ev (fun k => spec_Offered.j0 k x b o.f0 o.f1) (out, c) ∧ Ev (fun k => impl_Offered.j0 k x b o.f0 o.f1) (out, c) := fun b => off_j0 x b o hl
  cases r with
  | false =>
    obtain ⟨out, c, h1, h2, h3⟩ := key true
    exact ⟨out, c, h1, Ev.bind e (Ev.neg (by simp) h2), Ev.bind f (Ev.neg (by simp) h3)⟩
  | true =>
    cases s with
    | false =>
      obtain ⟨out, c, h1, h2, h3⟩ := key true
      exact ⟨out, c, h1, Ev.bind e (Ev.pos rfl (Ev.neg (by simp) h2)), Ev.bind f (Ev.pos rfl (Ev.neg (by simp) h3))⟩
    | true =>
      obtain ⟨out, c, h1, h2, h3⟩ := key ((x.length : Int) == 50)
      exact ⟨out, c, h1, Ev.bind e (Ev.pos rfl (Ev.pos rfl h2)), Ev.bind f (Ev.pos rfl (Ev.pos rfl h3))⟩
theorem FnExactOffered : laws_FnExactOffered.Pure := by
  intro l a s hok ha hs
  refine Ev.rounds (g := fun k => laws_FnExactOffered.f k l a s) ?_
  unfold laws_FnExactOffered.f
  obtain ⟨u, hu, _, hu1, hp⟩ := laws_szOfferS_ev l 1048576 (by omega) (by omega) hok
  refine Ev.bind hu (Ev.ite (fun _ => Ev.now _) (fun h => ?_))
  obtain ⟨v, hv, _, hv1, hq⟩ := laws_szOffer_ev a s u (by omega) (by omega) ha hs
  refine Ev.bind hv (Ev.ite (fun _ => Ev.now _) (fun h' => ?_))
  have hsm := hp (by omega)
  have hl1 := hsm.1
  have ht := laws_toOfferS_ev l hsm
  have hm : (l.map cv63).length ≤ 1048576 := by simpa using hl1
  have ho := laws_toOffer_ev a s (hq (by omega)).1 (hq (by omega)).2
  generalize l.map cv63 = x at ht hm
  obtain ⟨out, c, h1, h2, h3⟩ := off_ev x ⟨a, s⟩ hm
  obtain ⟨r1, z1, p1, m1, _⟩ := mark_ev x (by omega)
  obtain ⟨r2, z2, p2, m2, q2⟩ := mark_ev out h1
  have ex := laws_eqOfferS_ev x (ln_any x (by omega))
  have eo := laws_eqOfferS_ev out (ln_any out (by omega))
  have nb : ¬ (c != c) = true := by simp
  exact Ev.bind ht (Ev.bind ho (Ev.bind h2 (Ev.bind ht (Ev.bind ho (Ev.bind h3 (Ev.bind eo (Ev.pos rfl (Ev.neg nb (Ev.bind ht (Ev.bind ex (Ev.pos rfl (Ev.bind m1 (Ev.neg (by simpa using p1) (Ev.bind eo (Ev.pos rfl (Ev.bind m2 (Ev.bind q2 (Ev.neg (by simpa using p2) (Ev.pos rfl (Ev.bind ht (Ev.bind ho (Ev.bind h3 (Ev.bind eo (Ev.pos rfl (Ev.neg nb (Ev.bind q2 (Ev.neg (by simpa using p2) (Ev.pos rfl (Ev.now _)))))))))))))))))))))))))))))

end Go.Proofs.Ytgpofolfflfgiaa.Pure
