/- The program's LeavesOk returns what the reference's LeavesOk returns, for every list of leaves. No condition. -/
import Derived.Test.YtgpofolfflfgiaaAskFnExactLeavesOk
import Derived.Test.YtgpofolfflfgiaaBase
namespace Go.Proofs.Ytgpofolfflfgiaa.Pure
open Go.RowKit Go.Proofs.Ytgpofolfflfgiaa.PFnExactLeavesOk Go.Proofs.YtgpofolfflfgiaaW.PrintWords Go.Proofs.YtgpofolfflfgiaaW.PrintLast Go.Proofs.YtgpofolfflfgiaaW.PrintMore

def cv88 (x : S88) : S86 := ⟨x.f0, x.f1⟩
theorem rd86 {l : List S86} {i : Nat} {x : S86} (h : l[i]? = some x) : rd_T86 l (i : Int) = x := getD_lt h
theorem rd88 {l : List S88} {i : Nat} {x : S88} (h : l[i]? = some x) : rd_T88 l (i : Int) = x := getD_lt h

theorem toLeafS_l0 (l : List S88) (hl : l.length ≤ 1048576) : ∀ (d i : Nat) (y : List S86), i + d = l.length → y.length = l.length → (∀ j, j < i → y[j]? = (l.map cv88)[j]?) → Ev (fun k => laws_toLeafS.l0 k l y i) (l.map cv88)
  | 0, i, y, hi, hy, hp => by
    have e : y = l.map cv88 := List.ext_getElem? fun j => by
      rcases Nat.lt_or_ge j i with h | h
      · exact hp j h
      · rw [List.getElem?_eq_none (by omega), List.getElem?_eq_none (by simp; omega)]
    refine Ev.succ ?_
    simp only [laws_toLeafS.l0]
    exact Ev.neg (by omega) (e ▸ Ev.now _)
  | d + 1, i, y, hi, hy, hp => by
    obtain ⟨x, hx⟩ := get_some (l := l) (i := i) (by omega)
    refine Ev.succ ?_
    simp only [laws_toLeafS.l0, laws_toLeaf.f, Option.bind_some, rd88 hx]
    refine Ev.pos (by omega) (Ev.pos (by omega) (Ev.pos (by omega) ?_))
    rw [w64 (by omega) (by omega), cast_succ, Int.toNat_natCast]
    refine toLeafS_l0 l hl d (i + 1) _ (by omega) (by simpa using hy) (fun j hj => ?_)
    rw [List.getElem?_set]
    by_cases h : i = j
    · subst h
      rw [if_pos rfl, if_pos (by omega), List.getElem?_map, hx]
      rfl
    · rw [if_neg h]
      exact hp j (by omega)
theorem toLeafS_ev (l : List S88) (hl : l.length ≤ 1048576) : Ev (fun k => laws_toLeafS.f k l) (l.map cv88) := by
  simp only [laws_toLeafS.f]
  refine Ev.pos (by omega) (Ev.pos (by omega) ?_)
  exact toLeafS_l0 l hl l.length 0 _ (by omega) (by simp) (fun j h => by omega)

theorem eqLeafS_l0 (l : List S86) (hl : l.length ≤ 1048577) : ∀ (d i : Nat), i + d = l.length → Ev (fun k => laws_eqLeafS.l0 k l l i) true
  | 0, i, hi => by
    refine Ev.succ ?_
    simp only [laws_eqLeafS.l0]
    exact Ev.neg (by omega) (Ev.now _)
  | d + 1, i, hi => by
    obtain ⟨x, hx⟩ := get_some (l := l) (i := i) (by omega)
    refine Ev.succ ?_
    simp only [laws_eqLeafS.l0, laws_eqLeaf.f, rd86 hx, if_true, Option.bind_some]
    refine Ev.pos (by omega) (Ev.pos (by omega) (Ev.pos (by omega) ?_))
    rw [w64 (by omega) (by omega), cast_succ]
    exact eqLeafS_l0 l hl d (i + 1) (by omega)
theorem eqLeafS_ev (l : List S86) (hl : l.length ≤ 1048577) : Ev (fun k => laws_eqLeafS.f k l l) true := by
  simp only [laws_eqLeafS.f, if_true]
  exact eqLeafS_l0 l hl l.length 0 (by omega)

theorem in_some (a b c : Int) : ∃ r, spec_l1In.f a b c = some r ∧ impl_within.f a b c = some r := by
  unfold spec_l1In.f impl_within.f
  split <;> exact ⟨_, rfl, rfl⟩
/-- Both tell the same, from place i on. -/
theorem leaves_l0 (l : List S86) (hl : l.length ≤ 1048577) : ∀ (d i : Nat), i + d = l.length → ∃ r, Ev (fun k => spec_LeavesOk.l0 k l i) r ∧ Ev (fun k => impl_LeavesOk.l0 k l l (l.length : Int) i) r
  | 0, i, hi => by
    refine ⟨true, Ev.succ ?_, Ev.succ ?_⟩
    · simp only [spec_LeavesOk.l0]
      exact Ev.neg (by omega) (Ev.now _)
    · simp only [impl_LeavesOk.l0]
      exact Ev.neg (by omega) (Ev.now _)
  | d + 1, i, hi => by
    obtain ⟨x, hx⟩ := get_some (l := l) (i := i) (by omega)
    obtain ⟨r, h1, h2⟩ := leaves_l0 l hl d (i + 1) (by omega)
    obtain ⟨b1, e1, f1⟩ := in_some x.f0 0 255
    obtain ⟨b2, e2, f2⟩ := in_some x.f1 0 1000000000
    have key : ∃ r, Ev (fun k => spec_LeavesOk.l0 (k + 1) l i) r ∧ Ev (fun k => impl_LeavesOk.l0 (k + 1) l l (l.length : Int) i) r := by
      simp only [spec_LeavesOk.l0, impl_LeavesOk.l0, spec_l12Value.f, impl_isPlace.f, rd86 hx, e1, f1, e2, f2, Option.bind_some]
      rw [w64 (x := (i : Int) + 1) (by omega) (by omega), w64 (x := (i : Int) - 1) (by omega) (by omega), cast_succ]
      cases b1 with
      | false => exact ⟨false, Ev.pos (by omega) (Ev.pos (by omega) (Ev.neg (by decide) (Ev.now _))), Ev.pos (by omega) (Ev.pos (by omega) (Ev.pos (by omega) (Ev.neg (by decide) (Ev.now _))))⟩
      | true =>
        cases b2 with
        | false => exact ⟨false, Ev.pos (by omega) (Ev.pos (by omega) (Ev.pos rfl (Ev.neg (by decide) (Ev.now _)))), Ev.pos (by omega) (Ev.pos (by omega) (Ev.pos (by omega) (Ev.pos rfl (Ev.neg (by decide) (Ev.now _)))))⟩
        | true =>
          by_cases h0 : (i : Int) > 0
          · by_cases hc : x.f0 ≤ (rd_T86 l ((i : Int) - 1)).f0
            · exact ⟨false, Ev.pos (by omega) (Ev.pos (by omega) (Ev.pos rfl (Ev.pos rfl (Ev.pos h0 (Ev.pos (by omega) (Ev.pos (by omega) (Ev.pos hc (Ev.now _)))))))), Ev.pos (by omega) (Ev.pos (by omega) (Ev.pos (by omega) (Ev.pos rfl (Ev.pos rfl (Ev.pos h0 (Ev.pos (by omega) (Ev.pos (by omega) (Ev.pos (by omega) (Ev.now _)))))))))⟩
            · exact ⟨r, Ev.pos (by omega) (Ev.pos (by omega) (Ev.pos rfl (Ev.pos rfl (Ev.pos h0 (Ev.pos (by omega) (Ev.pos (by omega) (Ev.neg hc h1))))))), Ev.pos (by omega) (Ev.pos (by omega) (Ev.pos (by omega) (Ev.pos rfl (Ev.pos rfl (Ev.pos h0 (Ev.pos (by omega) (Ev.pos (by omega) (Ev.neg (by omega) h2))))))))⟩
          · exact ⟨r, Ev.pos (by omega) (Ev.pos (by omega) (Ev.pos rfl (Ev.pos rfl (Ev.neg h0 h1)))), Ev.pos (by omega) (Ev.pos (by omega) (Ev.pos (by omega) (Ev.pos rfl (Ev.pos rfl (Ev.neg h0 h2)))))⟩
    obtain ⟨r, k1, k2⟩ := key
    exact ⟨r, Ev.succ k1, Ev.succ k2⟩

theorem FnExactLeavesOk : laws_FnExactLeavesOk.Pure := by
  intro l hok
  have hl := hok.1
  refine Ev.rounds (g := fun k => laws_FnExactLeavesOk.f k l) ?_
  simp only [laws_FnExactLeavesOk.f, laws_szLeafS.f]
  rw [w64 (by omega) (by omega)]
  by_cases hs : 1048576 - (l.length : Int) < 0
  · rw [if_pos hs]
    simp only [Option.bind_some]
    exact Ev.pos (by omega) (Ev.now _)
  · rw [if_neg hs]
    simp only [Option.bind_some]
    refine Ev.neg hs ?_
    have ht := toLeafS_ev l (by omega)
    have hm : (l.map cv88).length = l.length := by simp
    obtain ⟨r, h1, h2⟩ := leaves_l0 (l.map cv88) (by omega) l.length 0 (by omega)
    refine Ev.bind ht (Ev.bind h1 (Ev.bind ht (Ev.bind h2 (Ev.neg (by simp) (Ev.bind ht (Ev.bind (eqLeafS_ev _ (by omega)) (Ev.pos rfl (Ev.now _))))))))

end Go.Proofs.Ytgpofolfflfgiaa.Pure
