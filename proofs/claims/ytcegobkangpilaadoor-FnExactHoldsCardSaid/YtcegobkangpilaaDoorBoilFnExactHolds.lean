-- Written by a program of this session (wip/tools/pp.py over the kit's print).
import Derived.Test.YtcegobkangpilaaDoorPFnExactHoldsx0
import Derived.Test.YtcegobkangpilaaDoorPFnExactHoldsx1
import Derived.Test.YtcegobkangpilaaDoorPFnExactHoldsx3
import Derived.Test.YtcegobkangpilaaDoorAskFnExactHolds
import Derived.Test.YtcegobkangpilaaDoorOpens
import Derived.Test.YtcegobkangpilaaDoorBase
namespace Go.Proofs.YtcegobkangpilaaDoor.PFnExactHolds
open Go.RowKit Go.Proofs.YtcegobkangpilaaDoor.PFnExactHolds Go.Proofs.YtcegobkangpilaaDoorW.PrintWords Go.Proofs.YtcegobkangpilaaDoorW.PrintLast Go.Proofs.YtcegobkangpilaaDoorW.PrintMore
set_option linter.unusedVariables false
set_option linter.unusedSimpArgs false
theorem laws_toInt64S_l0 (l : List Int) (hl : (smList smAny) l) : ∀ (d i : Nat) (y : List Int), i + d = l.length → y.length = l.length → (∀ j, j < i → y[j]? = l[j]?) → Ev (fun k => laws_toInt64S.l0 k l y i) l
  | 0, i, y, hi, hy, hp => by
    have hl1 := hl.1
    have e : y = l := fill_done (by omega) (by exact hy) hp
    refine Ev.succ ?_
    simp only [laws_toInt64S.l0]
    exact Ev.neg (by omega) (e ▸ Ev.now _)
  | d + 1, i, y, hi, hy, hp => by
    have hl1 := hl.1
    obtain ⟨x, hx⟩ := get_some (l := l) (i := i) (by omega)
    have hs := all_get hl.2 hx
    refine Ev.succ ?_
    simp only [laws_toInt64S.l0, rd_get hx]
    refine Ev.pos (by omega) (Ev.pos (by omega) ?_)
    refine Ev.pos (by omega) ?_
    rw [w64 (by omega) (by omega), cast_succ, Int.toNat_natCast]
    exact laws_toInt64S_l0 l hl d (i + 1) _ (by omega) (by simpa using hy) (fill_step (by omega) (by exact hx) hp)
theorem laws_toInt64S_ev (l : List Int) (hl : (smList smAny) l) : Ev (fun k => laws_toInt64S.f k l) l := by
  have hl1 := hl.1
  unfold laws_toInt64S.f
  refine Ev.pos (by omega) (Ev.pos (by omega) ?_)
  exact laws_toInt64S_l0 l hl l.length 0 _ (by omega) (by simp) (fun j h => by omega)
theorem laws_eqInt64S_l0 (l : List Int) (hl : (lnList smAny) l) : ∀ (d i : Nat), i + d = l.length → Ev (fun k => laws_eqInt64S.l0 k l l i) true
  | 0, i, hi => by
    have hl1 := hl.1
    refine Ev.succ ?_
    simp only [laws_eqInt64S.l0]
    exact Ev.neg (by omega) (Ev.now _)
  | d + 1, i, hi => by
    have hl1 := hl.1
    obtain ⟨x, hx⟩ := get_some (l := l) (i := i) (by omega)
    have hs := all_get hl.2 hx
    refine Ev.succ ?_
    have e := rd_get hx
    unfold laws_eqInt64S.l0
    rw [e, w64 (by omega) (by omega), cast_succ]
    refine Ev.pos (by omega) (Ev.pos (by omega) (Ev.pos (by omega) ?_))
    refine Ev.pos rfl ?_
    exact laws_eqInt64S_l0 l hl d (i + 1) (by omega)
theorem laws_eqInt64S_ev (l : List Int) (hl : (lnList smAny) l) : Ev (fun k => laws_eqInt64S.f k l l) true := by
  unfold laws_eqInt64S.f
  exact Ev.pos rfl (laws_eqInt64S_l0 l hl l.length 0 (by omega))
end Go.Proofs.YtcegobkangpilaaDoor.PFnExactHolds
