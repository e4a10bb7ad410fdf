-- Written by a program of this session (wip/tools/pp.py over the kit's print).
import Derived.Test.YtcegobkangpilaaDoorPFnExactPartedx0
import Derived.Test.YtcegobkangpilaaDoorPFnExactPartedx1
import Derived.Test.YtcegobkangpilaaDoorPFnExactPartedx6
import Derived.Test.YtcegobkangpilaaDoorAskFnExactParted
import Derived.Test.YtcegobkangpilaaDoorOpens
import Derived.Test.YtcegobkangpilaaDoorBase
namespace Go.Proofs.YtcegobkangpilaaDoor.PFnExactParted
open Go.RowKit Go.Proofs.YtcegobkangpilaaDoor.PFnExactParted Go.Proofs.YtcegobkangpilaaDoorW.PrintWords Go.Proofs.YtcegobkangpilaaDoorW.PrintLast Go.Proofs.YtcegobkangpilaaDoorW.PrintMore
set_option linter.unusedVariables false
set_option linter.unusedSimpArgs false
theorem laws_toInt64S_l0 (l : List Int) (hl : (smList smAny) l) : ∀ (d i : Nat) (y : List Int), i + d = l.length → y.length = l.length → (∀ j, j < i → y[j]? = l[j]?) → Ev (fun k => laws_toInt64S.l0 k l y i) l
  | 0, i, y, hi, hy, hp => by
    have hl1 := hl.1
    have e : y = l := fill_done (by omega) (by exact hy) hp
    refine Ev.succ ?_
    simp only [laws_toInt64S.l0]
    exact Ev.neg (by omega) (e ▸ Ev.now _)
  | d + 1, i, y, hi, hy, hp => by
    have hl1 := hl.1
    obtain ⟨x, hx⟩ := get_some (l := l) (i := i) (by omega)
    have hs := all_get hl.2 hx
    refine Ev.succ ?_
    simp only [laws_toInt64S.l0, rd_get hx]
    refine Ev.pos (by omega) (Ev.pos (by omega) ?_)
    refine Ev.pos (by omega) ?_
    rw [w64 (by omega) (by omega), cast_succ, Int.toNat_natCast]
    exact laws_toInt64S_l0 l hl d (i + 1) _ (by omega) (by simpa using hy) (fill_step (by omega) (by exact hx) hp)
theorem laws_toInt64S_ev (l : List Int) (hl : (smList smAny) l) : Ev (fun k => laws_toInt64S.f k l) l := by
  have hl1 := hl.1
  unfold laws_toInt64S.f
  refine Ev.pos (by omega) (Ev.pos (by omega) ?_)
  exact laws_toInt64S_l0 l hl l.length 0 _ (by omega) (by simp) (fun j h => by omega)
theorem laws_eqInt64S_l0 (l : List Int) (hl : (lnList smAny) l) : ∀ (d i : Nat), i + d = l.length → Ev (fun k => laws_eqInt64S.l0 k l l i) true
  | 0, i, hi => by
    have hl1 := hl.1
    refine Ev.succ ?_
    simp only [laws_eqInt64S.l0]
    exact Ev.neg (by omega) (Ev.now _)
  | d + 1, i, hi => by
    have hl1 := hl.1
    obtain ⟨x, hx⟩ := get_some (l := l) (i := i) (by omega)
    have hs := all_get hl.2 hx
    refine Ev.succ ?_
    have e := rd_get hx
    unfold laws_eqInt64S.l0
    rw [e, w64 (by omega) (by omega), cast_succ]
    refine Ev.pos (by omega) (Ev.pos (by omega) (Ev.pos (by omega) ?_))
    refine Ev.pos rfl ?_
    exact laws_eqInt64S_l0 l hl d (i + 1) (by omega)
theorem laws_eqInt64S_ev (l : List Int) (hl : (lnList smAny) l) : Ev (fun k => laws_eqInt64S.f k l l) true := by
  unfold laws_eqInt64S.f
  exact Ev.pos rfl (laws_eqInt64S_l0 l hl l.length 0 (by omega))
theorem laws_markInt64S_l0 (n : Nat) (hn : n ≤ 4611686018427387904) : ∀ (d i : Nat) (y : List Int) (c : Int), y.length = n → i + d = n → 1 ≤ c → c + ((ctList ctOne) (y.drop i) : Int) ≤ 2305843009213693952 → ((lnList smAny) y) → ∃ r z, r = c + ((ctList ctOne) (y.drop i) : Int) ∧ Ev (fun k => laws_markInt64S.l0 k y c i) (r, z) ∧ z.length = n ∧ (∀ j, j < i → z[j]? = y[j]?) ∧ Ev (fun k => laws_heldInt64S.l0 k z c i) r
  | 0, i, y, c, hy, hi, h1, hc, hL => by
    refine ⟨c, y, by rw [ct_end (by omega)]; simp, Ev.succ ?_, hy, fun _ _ => rfl, Ev.succ ?_⟩
    · simp only [laws_markInt64S.l0]
      exact Ev.neg (by omega) (Ev.now _)
    · simp only [laws_heldInt64S.l0]
      exact Ev.neg (by omega) (Ev.now _)
  | d + 1, i, y, c, hy, hi, h1, hc, hL => by
    obtain ⟨x, hx⟩ := get_some (l := y) (i := i) (by omega)
    have hs := all_get hL.2 hx
    have hcd := ct_drop (ct := ctOne) hx
    have hcx : ctOne x = ctOne x := rfl
    have o0 : ctOne x = 1 := rfl
    obtain ⟨r, z, e, m, l, p, g⟩ := laws_markInt64S_l0 n hn d (i + 1) (y.set i c) (c + 1) (by simpa using hy) (by omega) (by omega) (by rw [ct_set]; omega) ⟨by rw [List.length_set]; exact hL.1, fun v hv => by
      rcases List.mem_or_eq_of_mem_set hv with h | h
      · exact hL.2 v h
      · subst h
        exact trivial⟩
    have hz : z[i]? = some c := by rw [p i (by omega)]; exact set_get (by omega)
    rw [ct_set] at e
    refine ⟨r, z, by omega, Ev.succ ?_, l, set_below p, Ev.succ ?_⟩
    · have hlt : i < y.length := by omega
      simp only [laws_markInt64S.l0, rd_get hx, Option.bind_some, Int.toNat_natCast, rdset_int hlt, List.set_set]
      refine Ev.pos (by omega) (Ev.pos (by omega) ?_)
      simp (disch := omega) only [w64]
      rw [cast_succ]
      exact m
    · simp only [laws_heldInt64S.l0, rd_get hz]
      refine Ev.pos (by omega) (Ev.pos (by omega) ?_)
      simp (disch := omega) only [w64]
      refine Ev.pos (by first | rfl | trivial | simp) ?_
      rw [cast_succ]
      exact g
theorem laws_markInt64S_ev (y : List Int) (c : Int) (h1 : 1 ≤ c) (hc : c + ((ctList ctOne) y : Int) ≤ 2305843009213693952) (hL : (lnList smAny) y) : ∃ r z, r = c + ((ctList ctOne) y : Int) ∧ Ev (fun k => laws_markInt64S.f k y c) (r, z) ∧ Ev (fun k => laws_heldInt64S.f k z c) r ∧ z.length = y.length := by
  obtain ⟨r, z, e, m, l, _, g⟩ := laws_markInt64S_l0 y.length hL.1 y.length 0 y c rfl (by omega) h1 (by simpa using hc) hL
  exact ⟨r, z, by simpa using e, m, g, l⟩
end Go.Proofs.YtcegobkangpilaaDoor.PFnExactParted
