-- Written by a program of this session (wip/tools/pp.py over the kit's print).
import Derived.Test.YtgpofolfflfgiaaPFnExactBankOkx0
import Derived.Test.YtgpofolfflfgiaaPFnExactBankOkx1
import Derived.Test.YtgpofolfflfgiaaPFnExactBankOkx2
import Derived.Test.YtgpofolfflfgiaaAskFnExactBankOk
import Derived.Test.YtgpofolfflfgiaaOpens
import Derived.Test.YtgpofolfflfgiaaBase
namespace Go.Proofs.Ytgpofolfflfgiaa.PFnExactBankOk
open Go.RowKit Go.Proofs.Ytgpofolfflfgiaa.PFnExactBankOk Go.Proofs.YtgpofolfflfgiaaW.PrintWords Go.Proofs.YtgpofolfflfgiaaW.PrintLast Go.Proofs.YtgpofolfflfgiaaW.PrintMore
set_option linter.unusedVariables false
set_option linter.unusedSimpArgs false
theorem laws_toInt64S_l0 (l : List Int) (hl : (smList smAny) l) : ∀ (d i : Nat) (y : List Int), i + d = l.length → y.length = l.length → (∀ j, j < i → y[j]? = l[j]?) → Ev (fun k => laws_toInt64S.l0 k l y i) l
  | 0, i, y, hi, hy, hp => by
    have hl1 := hl.1
    have e : y = l := fill_done (by omega) (by exact hy) hp
    refine Ev.succ ?_
    simp only [laws_toInt64S.l0]
    exact Ev.neg (by omega) (e ▸ Ev.now _)
  | d + 1, i, y, hi, hy, hp => by
    have hl1 := hl.1
    obtain ⟨x, hx⟩ := get_some (l := l) (i := i) (by omega)
    have hs := all_get hl.2 hx
    refine Ev.succ ?_
    simp only [laws_toInt64S.l0, rd_get hx]
    refine Ev.pos (by omega) (Ev.pos (by omega) ?_)
    refine Ev.pos (by omega) ?_
    rw [w64 (by omega) (by omega), cast_succ, Int.toNat_natCast]
    exact laws_toInt64S_l0 l hl d (i + 1) _ (by omega) (by simpa using hy) (fill_step (by omega) (by exact hx) hp)
theorem laws_toInt64S_ev (l : List Int) (hl : (smList smAny) l) : Ev (fun k => laws_toInt64S.f k l) l := by
  have hl1 := hl.1
  unfold laws_toInt64S.f
  refine Ev.pos (by omega) (Ev.pos (by omega) ?_)
  exact laws_toInt64S_l0 l hl l.length 0 _ (by omega) (by simp) (fun j h => by omega)
theorem laws_toBank_ev (a_0 : List Int) (a_1 : List Int) (ha_0 : (smList smAny) a_0) (ha_1 : (smList smAny) a_1) : Ev (fun k => laws_toBank.f k a_0 a_1) (a_0, a_1) := by
  unfold laws_toBank.f
  refine Ev.bind (laws_toInt64S_ev a_0 ha_0) ?_
  refine Ev.bind (laws_toInt64S_ev a_1 ha_1) ?_
  exact Ev.now _
theorem laws_szInt64S_ev (l : List Int) (a : Int) (h0 : 0 ≤ a) (h1 : a ≤ 1048576) (hl : (okList (okInt .i64)) l) : SzOk (fun _ => laws_szInt64S.f l a) ((smList smAny) l) := by
  have hl1 := hl.1
  unfold laws_szInt64S.f
  rw [w64 (x := a - (l.length : Int)) (by omega) (by omega)]
  refine SzOk.ite (fun _ => SzOk.bad _) (fun c => ?_)
  exact SzOk.now _ (by omega) (by omega) (fun _ => ⟨by omega, fun y _ => trivial⟩)
theorem laws_szBank_ev (a_0 : List Int) (a_1 : List Int) (a : Int) (h0 : 0 ≤ a) (h1 : a ≤ 1048576) (ha_0 : (okList (okInt .i64)) a_0) (ha_1 : (okList (okInt .i64)) a_1) : SzOk (fun _ => laws_szBank.f a_0 a_1 a) ((smList smAny) a_0 ∧ (smList smAny) a_1) := by
  unfold laws_szBank.f
  refine SzOk.bind (laws_szInt64S_ev a_0 (a) (by omega) (by omega) ha_0) (fun t0 u0 v0 p0 => ?_)
  refine SzOk.ite (fun _ => SzOk.bad _) (fun c0 => ?_)
  refine SzOk.bind (laws_szInt64S_ev a_1 (t0) (by omega) (by omega) ha_1) (fun t1 u1 v1 p1 => ?_)
  refine SzOk.ite (fun _ => SzOk.bad _) (fun c1 => ?_)
  exact SzOk.now _ (by omega) (by omega) (fun _ => ⟨(p0 (by omega)), (p1 (by omega))⟩)
theorem laws_eqInt64S_l0 (l : List Int) (hl : (lnList smAny) l) : ∀ (d i : Nat), i + d = l.length → Ev (fun k => laws_eqInt64S.l0 k l l i) true
  | 0, i, hi => by
    have hl1 := hl.1
    refine Ev.succ ?_
    simp only [laws_eqInt64S.l0]
    exact Ev.neg (by omega) (Ev.now _)
  | d + 1, i, hi => by
    have hl1 := hl.1
    obtain ⟨x, hx⟩ := get_some (l := l) (i := i) (by omega)
    have hs := all_get hl.2 hx
    refine Ev.succ ?_
    have e := rd_get hx
    unfold laws_eqInt64S.l0
    rw [e, w64 (by omega) (by omega), cast_succ]
    refine Ev.pos (by omega) (Ev.pos (by omega) (Ev.pos (by omega) ?_))
    refine Ev.pos rfl ?_
    exact laws_eqInt64S_l0 l hl d (i + 1) (by omega)
theorem laws_eqInt64S_ev (l : List Int) (hl : (lnList smAny) l) : Ev (fun k => laws_eqInt64S.f k l l) true := by
  unfold laws_eqInt64S.f
  exact Ev.pos rfl (laws_eqInt64S_l0 l hl l.length 0 (by omega))
theorem laws_eqBank_ev (a_0 : List Int) (a_1 : List Int) (ha_0 : (lnList smAny) a_0) (ha_1 : (lnList smAny) a_1) : Ev (fun k => laws_eqBank.f k a_0 a_1 a_0 a_1) true := by
  unfold laws_eqBank.f
  refine Ev.bind (laws_eqInt64S_ev a_0 ha_0) ?_
  refine Ev.pos rfl ?_
  refine Ev.bind (laws_eqInt64S_ev a_1 ha_1) ?_
  refine Ev.pos rfl ?_
  exact Ev.now _
end Go.Proofs.Ytgpofolfflfgiaa.PFnExactBankOk
