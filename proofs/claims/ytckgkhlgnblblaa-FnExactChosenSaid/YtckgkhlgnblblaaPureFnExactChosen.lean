/- The program's Chosen returns what the reference's Chosen returns, for every pool and every number. No condition. -/
import Derived.Test.YtckgkhlgnblblaaBoilFnExactChosen
namespace Go.Proofs.Ytckgkhlgnblblaa.Pure
open Go.RowKit Go.Proofs.Ytckgkhlgnblblaa.PFnExactChosen Go.Proofs.YtckgkhlgnblblaaW.PrintWords Go.Proofs.YtckgkhlgnblblaaW.PrintLast Go.Proofs.YtckgkhlgnblblaaW.PrintMore
set_option linter.unusedVariables false

theorem in_some (a b c : Int) : ∃ r, spec_l1In.f a b c = some r ∧ impl_within.f a b c = some r := by
  unfold spec_l1In.f impl_within.f
  split <;> exact ⟨_, rfl, rfl⟩
theorem offer_ok (a : Int) (s : ByteArray) : ∃ r, spec_l14Offer.f a s = some r ∧ impl_offerOk.f a s = some r := by
  obtain ⟨r, e, f⟩ := in_some a 0 1000000000
  simp only [spec_l14Offer.f, spec_l12Value.f, impl_offerOk.f, e, f, Option.bind_some]
  cases r <;> exact ⟨_, rfl, rfl⟩
theorem ahead_ok (a : Int) (s : ByteArray) (b : Int) (t : ByteArray) : ∃ r, spec_l14Ahead.f a s b t = some r ∧ impl_Offer_ahead.f a s b t = some r := by
  unfold spec_l14Ahead.f impl_Offer_ahead.f
  split
  · exact ⟨_, rfl, rfl⟩
  · split <;> exact ⟨_, rfl, rfl⟩
theorem half {i : Nat} (h0 : (i : Int) > 0) (h : i ≤ 4611686018427387904) : wrap64 (Int.tdiv (wrap64 ((i : Int) - 1)) 2) = (((i - 1) / 2 : Nat) : Int) := by
  rw [w64 (x := (i : Int) - 1) (by omega) (by omega), show Int.tdiv ((i : Int) - 1) 2 = ((i : Int) - 1) / 2 from Int.tdiv_eq_ediv_of_nonneg (by omega), w64 (by omega) (by omega)]
  omega
theorem pool_l0 (l : List S86) (hl : l.length ≤ 4611686018427387904) : ∀ (d i : Nat), i + d = l.length → ∃ r, Ev (fun k => spec_PoolOk.l0 k l i) r ∧ Ev (fun k => impl_PoolOk.l0 k l l (l.length : Int) i) (r && decide ((l.length : Int) ≤ 50))
  | 0, i, hi => by
    refine ⟨true, Ev.succ ?_, Ev.succ ?_⟩
    · simp only [spec_PoolOk.l0]
      exact Ev.neg (by omega) (Ev.now _)
    · simp only [impl_PoolOk.l0]
      exact Ev.neg (by omega) (Ev.now _)
  | d + 1, i, hi => by
    obtain ⟨x, hx⟩ := get_some (l := l) (i := i) (by omega)
    obtain ⟨r, h1, h2⟩ := pool_l0 l hl d (i + 1) (by omega)
    obtain ⟨b1, e1, f1⟩ := offer_ok x.f0 x.f1
    have key : ∃ r, Ev (fun k => spec_PoolOk.l0 (k + 1) l i) r ∧ Ev (fun k => impl_PoolOk.l0 (k + 1) l l (l.length : Int) i) (r && decide ((l.length : Int) ≤ 50)) := by
      simp only [spec_PoolOk.l0, impl_PoolOk.l0, rdS_T86 hx, e1, f1, Option.bind_some]
      rw [w64 (x := (i : Int) + 1) (by omega) (by omega), cast_succ]
      cases b1 with
      | false => exact ⟨false, Ev.pos (by omega) (Ev.pos (by omega) (Ev.neg (by decide) (Ev.now _))), Ev.pos (by omega) (Ev.pos (by omega) (Ev.pos (by omega) (Ev.neg (by decide) (Ev.now _))))⟩
      | true =>
        by_cases h0 : (i : Int) > 0
        · rw [half h0 (by omega)]
          obtain ⟨b2, e2, f2⟩ := ahead_ok x.f0 x.f1 (rd_T86 l (((i - 1) / 2 : Nat) : Int)).f0 (rd_T86 l (((i - 1) / 2 : Nat) : Int)).f1
          simp only [e2, f2, Option.bind_some]
          cases b2 with
          | true => exact ⟨false, Ev.pos (by omega) (Ev.pos (by omega) (Ev.pos (by simp) (Ev.pos h0 (Ev.pos (by omega) (Ev.pos (by omega) (Ev.pos (by simp) (Ev.now _))))))), Ev.pos (by omega) (Ev.pos (by omega) (Ev.pos (by omega) (Ev.pos (by simp) (Ev.pos h0 (Ev.pos (by omega) (Ev.pos (by omega) (Ev.pos (by simp) (Ev.now _))))))))⟩
          | false => exact ⟨r, Ev.pos (by omega) (Ev.pos (by omega) (Ev.pos (by simp) (Ev.pos h0 (Ev.pos (by omega) (Ev.pos (by omega) (Ev.neg (by simp) h1)))))), Ev.pos (by omega) (Ev.pos (by omega) (Ev.pos (by omega) (Ev.pos (by simp) (Ev.pos h0 (Ev.pos (by omega) (Ev.pos (by omega) (Ev.neg (by simp) h2)))))))⟩
        · exact ⟨r, Ev.pos (by omega) (Ev.pos (by omega) (Ev.pos (by simp) (Ev.neg h0 h1))), Ev.pos (by omega) (Ev.pos (by omega) (Ev.pos (by omega) (Ev.pos (by simp) (Ev.neg h0 h2))))⟩
    obtain ⟨r, k1, k2⟩ := key
    exact ⟨r, Ev.succ k1, Ev.succ k2⟩
theorem pool_ok (l : List S86) (hl : l.length ≤ 4611686018427387904) : ∃ r, Ev (fun k => spec_PoolOk.f k l) r ∧ Ev (fun k => impl_PoolOk.f k l) r ∧ (r = true → l.length ≤ 50) := by
  obtain ⟨r, h1, h2⟩ := pool_l0 l hl l.length 0 (by omega)
  refine ⟨r && decide ((l.length : Int) ≤ 50), ?_, h2, fun h => ?_⟩
  · unfold spec_PoolOk.f
    by_cases h : (l.length : Int) > 50
    · refine Ev.pos h ?_
      have : decide ((l.length : Int) ≤ 50) = false := decide_eq_false (by omega)
      rw [this, Bool.and_false]
      exact Ev.now _
    · refine Ev.neg h ?_
      have : decide ((l.length : Int) ≤ 50) = true := decide_eq_true (by omega)
      rw [this, Bool.and_true]
      exact h1
  · simp only [Bool.and_eq_true, decide_eq_true_eq] at h
    omega
theorem ln_any (l : List S86) (h : l.length ≤ 4611686018427387904) : (lnList lnS86) l := ⟨h, fun _ _ => ⟨trivial, trivial⟩⟩
theorem ct_le : ∀ y : List S86, (ctList ctS86) y ≤ 2 * y.length
  | [] => by simp [ctList]
  | x :: y => by
    have := ct_le y
    simp only [ctList, ctS86, ctOne, List.map_cons, List.sum_cons, List.length_cons] at this ⊢
    omega
theorem mark_ev (y : List S86) (h : y.length ≤ 1048577) : ∃ r z, 0 ≤ r ∧ Ev (fun k => laws_markOfferS.f k y 1) (r, z) := by
  have hc := ct_le y
  obtain ⟨r, z, e, h1, _, _⟩ := laws_markOfferS_ev y 1 (by omega) (by omega) (ln_any y (by omega))
  exact ⟨r, z, by omega, h1⟩
theorem ct_one : ∀ y : List ByteArray, (ctList ctOne) y = y.length
  | [] => by simp [ctList]
  | x :: y => by
    have := ct_one y
    simp only [ctList, ctOne, List.map_cons, List.sum_cons, List.length_cons] at this ⊢
    omega
theorem marks_ev (y : List ByteArray) (h : y.length ≤ 1048577) : ∃ r z, 0 ≤ r ∧ Ev (fun k => laws_markStringS.f k y 1) (r, z) ∧ Ev (fun k => laws_heldStringS.f k z 1) r := by
  have hc := ct_one y
  obtain ⟨r, z, e, h1, h2, _⟩ := laws_markStringS_ev y 1 (by omega) (by omega) ⟨by omega, fun _ _ => trivial⟩
  exact ⟨r, z, by omega, h1, h2⟩
def ahd (a b : S86) : Bool := if a.f0 > b.f0 then true else if a.f0 = b.f0 then Op.bytesLess a.f1.toList b.f1.toList else false
theorem ahd_spec (a b : S86) : spec_l14Ahead.f a.f0 a.f1 b.f0 b.f1 = some (ahd a b) := by
  unfold spec_l14Ahead.f ahd
  split
  · rfl
  · split <;> rfl
theorem ahd_impl (a b : S86) : impl_Offer_ahead.f a.f0 a.f1 b.f0 b.f1 = some (ahd a b) := by
  unfold impl_Offer_ahead.f ahd
  split
  · rfl
  · split <;> rfl
theorem rd_nat (x : List S86) (j : Nat) : rd_T86 x (j : Int) = x.getD j z86 := rfl
/-- What is out of its place goes down. -/
def sift : Nat → List S86 → Nat → List S86
  | 0, x, _ => x
  | f + 1, x, i =>
    if 2 * i + 1 < x.length then
      if 2 * i + 2 < x.length ∧ ahd (x.getD (2 * i + 2) z86) (x.getD (2 * i + 1) z86) = true then
        if ahd (x.getD (2 * i + 2) z86) (x.getD i z86) = true then sift f ((x.set i (x.getD (2 * i + 2) z86)).set (2 * i + 2) (x.getD i z86)) (2 * i + 2) else x
      else if ahd (x.getD (2 * i + 1) z86) (x.getD i z86) = true then sift f ((x.set i (x.getD (2 * i + 1) z86)).set (2 * i + 1) (x.getD i z86)) (2 * i + 1) else x
    else x
theorem sift_len : ∀ (f : Nat) (x : List S86) (i : Nat), (sift f x i).length = x.length
  | 0, x, i => rfl
  | f + 1, x, i => by
    unfold sift
    repeat' split
    all_goals first | rfl | (rw [sift_len]; simp)
theorem sift_ev (L : List S86) (hL : 0 < L.length) (a : Int) (c : ByteArray) (n : Nat) (hn : n ≤ 1048576) : ∀ (f : Nat) (x : List S86) (i : Nat) (o : S86), x.length = n → n ≤ f + i → i < n → x.getD i z86 = o →
    Ev (fun k => spec_l14Next.l0 k (n : Int) x i a c o.f0 o.f1) (a, c, sift f x i) ∧ Ev (fun k => impl_next.l0 k L (n : Int) x i) ((rd_T86 L 0).f0, (rd_T86 L 0).f1, sift f x i)
  | 0, x, i, o, hx, hf, hi, ho => absurd hf (by omega)
  | f + 1, x, i, o, hx, hf, hi, ho => by
    have w0 : wrap64 (2 * (i : Int)) = ((2 * i : Nat) : Int) := by rw [w64 (by omega) (by omega)]; omega
    have w1 : wrap64 (((2 * i : Nat) : Int) + 1) = ((2 * i + 1 : Nat) : Int) := by rw [w64 (by omega) (by omega)]; omega
    have w2 : wrap64 (((2 * i + 1 : Nat) : Int) + 1) = ((2 * i + 2 : Nat) : Int) := by rw [w64 (by omega) (by omega)]; omega
    have J : ∀ (b : Bool) (q : Nat), q = (if b = true then 2 * i + 2 else 2 * i + 1) → q < n →
        Ev (fun k => spec_l14Next.j1 k (n : Int) x i ((2 * i + 1 : Nat) : Int) b a c o.f0 o.f1) (a, c, if ahd (x.getD q z86) (x.getD i z86) = true then sift f ((x.set i (x.getD q z86)).set q (x.getD i z86)) q else x) ∧
        Ev (fun k => impl_next.j1 k L (n : Int) x i ((2 * i + 1 : Nat) : Int) b) ((rd_T86 L 0).f0, (rd_T86 L 0).f1, if ahd (x.getD q z86) (x.getD i z86) = true then sift f ((x.set i (x.getD q z86)).set q (x.getD i z86)) q else x) := by
      intro b q hq hqn
      have hqi : i < q := by rw [hq]; split <;> omega
      have ih := sift_ev L hL a c n hn f ((x.set i (x.getD q z86)).set q (x.getD i z86)) q o (by simpa using hx) (by omega) hqn (by rw [getD_lt (set_get (by simp; omega))]; exact ho)
      have es := ahd_spec (x.getD q z86) o
      have ei := ahd_impl (x.getD q z86) o
      rw [ho] at ih ⊢
      cases b with
      | true =>
        obtain rfl : q = 2 * i + 2 := by simpa using hq
        constructor
        · refine Ev.succ ?_
          simp only [spec_l14Next.j1, w2, rd_nat, es, Option.bind_some, Int.toNat_natCast, if_true]
          refine Ev.neg (by omega) (Ev.pos (by omega) (Ev.pos (by omega) ?_))
          cases ahd (x.getD (2 * i + 2) z86) o with
          | true => exact Ev.pos rfl (Ev.pos (by omega) (Ev.pos (by omega) ih.1))
          | false => exact Ev.neg (by simp) (Ev.now _)
        · refine Ev.succ ?_
          simp only [impl_next.j1, w2, rd_nat, ho, ei, Option.bind_some, Int.toNat_natCast, if_true]
          refine Ev.pos (by omega) (Ev.pos (by omega) (Ev.pos (by omega) (Ev.pos (by omega) ?_)))
          cases ahd (x.getD (2 * i + 2) z86) o with
          | true => exact Ev.pos rfl ih.2
          | false => exact Ev.neg (by simp) (Ev.pos (by omega) (Ev.now _))
      | false =>
        obtain rfl : q = 2 * i + 1 := by simpa using hq
        have nf : ¬ (false = true) := by simp
        constructor
        · refine Ev.succ ?_
          simp only [spec_l14Next.j1, rd_nat, es, Option.bind_some, Int.toNat_natCast, if_neg nf]
          refine Ev.neg (by omega) (Ev.pos (by omega) (Ev.pos (by omega) ?_))
          cases ahd (x.getD (2 * i + 1) z86) o with
          | true => exact Ev.pos rfl (Ev.pos (by omega) (Ev.pos (by omega) ih.1))
          | false => exact Ev.neg (by simp) (Ev.now _)
        · refine Ev.succ ?_
          simp only [impl_next.j1, rd_nat, ho, ei, Option.bind_some, Int.toNat_natCast, if_neg nf]
          refine Ev.pos (by omega) (Ev.pos (by omega) (Ev.pos (by omega) (Ev.pos (by omega) ?_)))
          cases ahd (x.getD (2 * i + 1) z86) o with
          | true => exact Ev.pos rfl ih.2
          | false => exact Ev.neg (by simp) (Ev.pos (by omega) (Ev.now _))
    have es := ahd_spec (x.getD (2 * i + 2) z86) (x.getD (2 * i + 1) z86)
    have ei := ahd_impl (x.getD (2 * i + 2) z86) (x.getD (2 * i + 1) z86)
    have key : Ev (fun k => spec_l14Next.l0 (k + 1) (n : Int) x i a c o.f0 o.f1) (a, c, sift (f + 1) x i) ∧ Ev (fun k => impl_next.l0 (k + 1) L (n : Int) x i) ((rd_T86 L 0).f0, (rd_T86 L 0).f1, sift (f + 1) x i) := by
      simp only [spec_l14Next.l0, impl_next.l0, sift, w0, w1, w2, rd_nat, es, ei, Option.bind_some, hx]
      by_cases h1 : 2 * i + 1 < n
      · rw [if_pos h1]
        by_cases h2 : 2 * i + 2 < n
        · cases hb : ahd (x.getD (2 * i + 2) z86) (x.getD (2 * i + 1) z86) with
          | true =>
            obtain ⟨j1, j2⟩ := J true (2 * i + 2) (by simp) h2
            rw [if_pos ⟨h2, rfl⟩]
            exact ⟨Ev.pos (by omega) (Ev.pos (by omega) (Ev.pos (by omega) (Ev.pos (by omega) (Ev.pos (by omega) j1)))), Ev.pos (by omega) (Ev.pos (by omega) (Ev.pos (by omega) (Ev.pos (by omega) (Ev.pos (by omega) (Ev.pos (by omega) j2)))))⟩
          | false =>
            obtain ⟨j1, j2⟩ := J false (2 * i + 1) (by simp) h1
            rw [if_neg (fun h => by simp at h)]
            exact ⟨Ev.pos (by omega) (Ev.pos (by omega) (Ev.pos (by omega) (Ev.pos (by omega) (Ev.pos (by omega) j1)))), Ev.pos (by omega) (Ev.pos (by omega) (Ev.pos (by omega) (Ev.pos (by omega) (Ev.pos (by omega) (Ev.pos (by omega) j2)))))⟩
        · obtain ⟨j1, j2⟩ := J false (2 * i + 1) (by simp) h1
          rw [if_neg (fun h => h2 h.1)]
          exact ⟨Ev.neg (by omega) j1, Ev.pos (by omega) (Ev.neg (by omega) j2)⟩
      · rw [if_neg h1]
        refine ⟨Ev.neg (by omega) (Ev.succ ?_), Ev.neg (by omega) (Ev.pos (by omega) (Ev.now _))⟩
        simp only [spec_l14Next.j1]
        exact Ev.neg (by simp) (Ev.pos (by omega) (Ev.now _))
    exact ⟨Ev.succ key.1, Ev.succ key.2⟩
/-- A pool without its first offer. -/
def rest (L : List S86) : List S86 := if L.length = 1 then [] else sift L.length ((L.take (L.length - 1)).set 0 (L.getD (L.length - 1) z86)) 0
theorem rest_len (L : List S86) : (rest L).length = L.length - 1 := by
  unfold rest
  split
  · simp; omega
  · rw [sift_len]; simp
theorem next_ev (L : List S86) (h0 : 0 < L.length) (h1 : L.length ≤ 1048576) :
    Ev (fun k => spec_l14Next.f k L) ((L.getD 0 z86).f0, (L.getD 0 z86).f1, rest L) ∧ Ev (fun k => impl_next.f k L) ((L.getD 0 z86).f0, (L.getD 0 z86).f1, rest L) := by
  have w : wrap64 ((L.length : Int) - 1) = ((L.length - 1 : Nat) : Int) := by rw [w64 (by omega) (by omega)]; omega
  have r0 : rd_T86 L 0 = L.getD 0 z86 := rfl
  unfold spec_l14Next.f impl_next.f impl_Offer.f
  simp only [w, rd_nat, r0, Option.bind_some, List.nil_append, Int.toNat_natCast]
  by_cases h : L.length = 1
  · have er : rest L = [] := by unfold rest; rw [if_pos h]
    have et : L.take (L.length - 1) = [] := by rw [h]; rfl
    rw [er, et]
    refine ⟨Ev.pos (by omega) (Ev.pos (by omega) (Ev.pos (by omega) (Ev.pos (by omega) (Ev.pos (by simp) (Ev.pos (by omega) (Ev.now _)))))), Ev.pos (by omega) (Ev.pos (by omega) ?_)⟩
    rw [if_pos (by simp)]
    simp only [Option.bind_some]
    exact Ev.pos (by omega) (Ev.pos (by omega) (Ev.now _))
  · have hl : (L.take (L.length - 1)).length = L.length - 1 := by simp
    obtain ⟨j1, j2⟩ := sift_ev L h0 (L.getD 0 z86).f0 (L.getD 0 z86).f1 (L.length - 1) (by omega) L.length ((L.take (L.length - 1)).set 0 (L.getD (L.length - 1) z86)) 0 (L.getD (L.length - 1) z86) (by simp) (by omega) (by omega) (getD_lt (set_get (by omega)))
    have er : rest L = sift L.length ((L.take (L.length - 1)).set 0 (L.getD (L.length - 1) z86)) 0 := by unfold rest; rw [if_neg h]
    rw [er]
    refine ⟨Ev.pos (by omega) (Ev.pos (by omega) (Ev.pos (by omega) (Ev.pos (by omega) (Ev.pos (by simp; omega) (Ev.neg (by omega) (Ev.pos (by omega) j1)))))), Ev.pos (by omega) (Ev.pos (by omega) ?_)⟩
    rw [if_pos (by simp; omega)]
    simp only [Option.bind_some]
    exact Ev.neg (by omega) (Ev.pos (by omega) (Ev.pos (by omega) j2))
theorem chosen_l0 : ∀ (d : Nat) (x : List S86) (n : Int) (acc : List ByteArray), x.length = d → x.length + acc.length ≤ 1048576 → n ≤ 9223372036854775807 →
    ∃ out y, out.length ≤ 1048576 ∧ Ev (fun k => spec_l14Chosen.l0 k x n acc) out ∧ Ev (fun k => impl_chosen.l0 k x n acc) (out, y)
  | 0, x, n, acc, hd, hl, hn => by
    refine ⟨acc, x, by omega, Ev.succ ?_, Ev.succ ?_⟩
    · simp only [spec_l14Chosen.l0]
      by_cases h : n > 0
      · exact Ev.pos h (Ev.neg (by omega) (Ev.now _))
      · exact Ev.neg h (Ev.now _)
    · simp only [impl_chosen.l0]
      by_cases h : n > 0
      · exact Ev.pos h (Ev.neg (by omega) (Ev.now _))
      · exact Ev.neg h (Ev.now _)
  | d + 1, x, n, acc, hd, hl, hn => by
    by_cases h : n > 0
    · obtain ⟨j1, j2⟩ := next_ev x (by omega) (by omega)
      obtain ⟨out, y, h1, h2, h3⟩ := chosen_l0 d (rest x) (n - 1) (acc ++ [(x.getD 0 z86).f1]) (by rw [rest_len]; omega) (by rw [rest_len]; simp; omega) (by omega)
      have w : wrap64 (n - 1) = n - 1 := w64 (by omega) (by omega)
      refine ⟨out, y, h1, Ev.succ ?_, Ev.succ ?_⟩
      · simp only [spec_l14Chosen.l0, w]
        exact Ev.pos h (Ev.pos (by omega) (Ev.bind j1 (Ev.pos (by omega) h2)))
      · simp only [impl_chosen.l0, w]
        exact Ev.pos h (Ev.pos (by omega) (Ev.bind j2 (Ev.pos (by omega) h3)))
    · refine ⟨acc, x, by omega, Ev.succ ?_, Ev.succ ?_⟩
      · simp only [spec_l14Chosen.l0]
        exact Ev.neg h (Ev.now _)
      · simp only [impl_chosen.l0]
        exact Ev.neg h (Ev.now _)
theorem Chosen_ev (x : List S86) (n : Int) (hl : x.length ≤ 1048576) (hn : n ≤ 9223372036854775807) : ∃ out, out.length ≤ 1048576 ∧ Ev (fun k => spec_Chosen.f k x n) out ∧ Ev (fun k => impl_Chosen.f k x n) out := by
  obtain ⟨r, e, f, _⟩ := pool_ok x (by omega)
  unfold spec_Chosen.f impl_Chosen.f
  cases r with
  | false => exact ⟨[], by simp, Ev.bind e (Ev.neg (by simp) (Ev.now _)), Ev.bind f (Ev.neg (by simp) (Ev.now _))⟩
  | true =>
    obtain ⟨out, y, h1, h2, h3⟩ := chosen_l0 x.length x n [] rfl (by simpa using hl) hn
    exact ⟨out, h1, Ev.bind e (Ev.pos rfl (Ev.bind h2 (Ev.now _))), Ev.bind f (Ev.pos rfl (Ev.bind (show Ev (fun k => impl_chosen.f k x n) (out, y) from h3) (Ev.now _)))⟩
theorem FnExactChosen : laws_FnExactChosen.Pure := by
  intro l n hok hn
  refine Ev.rounds (g := fun k => laws_FnExactChosen.f k l n) ?_
  unfold laws_FnExactChosen.f
  obtain ⟨u, hu, _, hu1, hp⟩ := laws_szOfferS_ev l 1048576 (by omega) (by omega) hok
  refine Ev.bind hu (Ev.ite (fun _ => Ev.now _) (fun h => ?_))
  have hsm := hp (by omega)
  have hl1 := hsm.1
  have ht := laws_toOfferS_ev l hsm
  have hm : (l.map cv98).length ≤ 1048576 := by simpa using hl1
  have hb : n ≤ 9223372036854775807 := by
    simp [okInt, Lit.wf, IntKind.min, IntKind.max, IntKind.bits, IntKind.signed] at hn
    omega
  generalize l.map cv98 = x at ht hm
  obtain ⟨out, h1, h2, h3⟩ := Chosen_ev x n hm hb
  obtain ⟨r1, z1, p1, m1⟩ := mark_ev x (by omega)
  obtain ⟨r2, z2, p2, m2, q2⟩ := marks_ev out (by omega)
  have ex := laws_eqOfferS_ev x (ln_any x (by omega))
  have eo := laws_eqStringS_ev out ⟨by omega, fun _ _ => trivial⟩
  exact Ev.bind ht (Ev.bind h2 (Ev.bind ht (Ev.bind h3 (Ev.bind eo (Ev.pos rfl (Ev.bind ht (Ev.bind ex (Ev.pos rfl (Ev.bind m1 (Ev.neg (by simpa using p1) (Ev.bind eo (Ev.pos rfl (Ev.bind m2 (Ev.bind q2 (Ev.neg (by simpa using p2) (Ev.pos rfl (Ev.bind ht (Ev.bind h3 (Ev.bind eo (Ev.pos rfl (Ev.bind q2 (Ev.neg (by simpa using p2) (Ev.pos rfl (Ev.now _))))))))))))))))))))))))

end Go.Proofs.Ytckgkhlgnblblaa.Pure
