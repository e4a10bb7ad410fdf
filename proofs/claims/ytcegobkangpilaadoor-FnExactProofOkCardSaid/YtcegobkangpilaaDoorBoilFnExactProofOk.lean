-- Written by a program of this session (wip/tools/pp.py over the kit's print).
import Derived.Test.YtcegobkangpilaaDoorPFnExactProofOkx0
import Derived.Test.YtcegobkangpilaaDoorPFnExactProofOkx2
import Derived.Test.YtcegobkangpilaaDoorPFnExactProofOkx6
import Derived.Test.YtcegobkangpilaaDoorPFnExactProofOkx10
import Derived.Test.YtcegobkangpilaaDoorAskFnExactProofOk
import Derived.Test.YtcegobkangpilaaDoorOpens
import Derived.Test.YtcegobkangpilaaDoorBase
namespace Go.Proofs.YtcegobkangpilaaDoor.PFnExactProofOk
open Go.RowKit Go.Proofs.YtcegobkangpilaaDoor.PFnExactProofOk Go.Proofs.YtcegobkangpilaaDoorW.PrintWords Go.Proofs.YtcegobkangpilaaDoorW.PrintLast Go.Proofs.YtcegobkangpilaaDoorW.PrintMore
set_option linter.unusedVariables false
set_option linter.unusedSimpArgs false
theorem laws_toInt64S_l0 (l : List Int) (hl : (smList smAny) l) : ∀ (d i : Nat) (y : List Int), i + d = l.length → y.length = l.length → (∀ j, j < i → y[j]? = l[j]?) → Ev (fun k => laws_toInt64S.l0 k l y i) l
  | 0, i, y, hi, hy, hp => by
    have hl1 := hl.1
    have e : y = l := fill_done (by omega) (by exact hy) hp
    refine Ev.succ ?_
    simp only [laws_toInt64S.l0]
    exact Ev.neg (by omega) (e ▸ Ev.now _)
  | d + 1, i, y, hi, hy, hp => by
    have hl1 := hl.1
    obtain ⟨x, hx⟩ := get_some (l := l) (i := i) (by omega)
    have hs := all_get hl.2 hx
    refine Ev.succ ?_
    simp only [laws_toInt64S.l0, rd_get hx]
    refine Ev.pos (by omega) (Ev.pos (by omega) ?_)
    refine Ev.pos (by omega) ?_
    rw [w64 (by omega) (by omega), cast_succ, Int.toNat_natCast]
    exact laws_toInt64S_l0 l hl d (i + 1) _ (by omega) (by simpa using hy) (fill_step (by omega) (by exact hx) hp)
theorem laws_toInt64S_ev (l : List Int) (hl : (smList smAny) l) : Ev (fun k => laws_toInt64S.f k l) l := by
  have hl1 := hl.1
  unfold laws_toInt64S.f
  refine Ev.pos (by omega) (Ev.pos (by omega) ?_)
  exact laws_toInt64S_l0 l hl l.length 0 _ (by omega) (by simp) (fun j h => by omega)
theorem laws_toProof_ev (a_0 : Int) (a_1 : Int) (a_2 : List Int) (a_3 : List Int) (ha_0 : smAny a_0) (ha_1 : smAny a_1) (ha_2 : (smList smAny) a_2) (ha_3 : (smList smAny) a_3) : Ev (fun k => laws_toProof.f k a_0 a_1 a_2 a_3) (a_0, a_1, a_2, a_3) := by
  unfold laws_toProof.f
  refine Ev.bind (laws_toInt64S_ev a_2 ha_2) ?_
  refine Ev.bind (laws_toInt64S_ev a_3 ha_3) ?_
  exact Ev.now _
theorem laws_szInt64S_ev (l : List Int) (a : Int) (h0 : 0 ≤ a) (h1 : a ≤ 1048576) (hl : (okList (okInt .i64)) l) : SzOk (fun _ => laws_szInt64S.f l a) ((smList smAny) l) := by
  have hl1 := hl.1
  unfold laws_szInt64S.f
  rw [w64 (x := a - (l.length : Int)) (by omega) (by omega)]
  refine SzOk.ite (fun _ => SzOk.bad _) (fun c => ?_)
  exact SzOk.now _ (by omega) (by omega) (fun _ => ⟨by omega, fun y _ => trivial⟩)
theorem laws_szProof_ev (a_0 : Int) (a_1 : Int) (a_2 : List Int) (a_3 : List Int) (a : Int) (h0 : 0 ≤ a) (h1 : a ≤ 1048576) (ha_0 : (okInt .i64) a_0) (ha_1 : (okInt .i64) a_1) (ha_2 : (okList (okInt .i64)) a_2) (ha_3 : (okList (okInt .i64)) a_3) : SzOk (fun _ => laws_szProof.f a_0 a_1 a_2 a_3 a) (smAny a_0 ∧ smAny a_1 ∧ (smList smAny) a_2 ∧ (smList smAny) a_3) := by
  unfold laws_szProof.f
  refine SzOk.bind (laws_szInt64S_ev a_2 (a) (by omega) (by omega) ha_2) (fun t2 u2 v2 p2 => ?_)
  refine SzOk.ite (fun _ => SzOk.bad _) (fun c2 => ?_)
  refine SzOk.bind (laws_szInt64S_ev a_3 (t2) (by omega) (by omega) ha_3) (fun t3 u3 v3 p3 => ?_)
  refine SzOk.ite (fun _ => SzOk.bad _) (fun c3 => ?_)
  exact SzOk.now _ (by omega) (by omega) (fun _ => ⟨trivial, trivial, (p2 (by omega)), (p3 (by omega))⟩)
theorem laws_eqInt64S_l0 (l : List Int) (hl : (lnList smAny) l) : ∀ (d i : Nat), i + d = l.length → Ev (fun k => laws_eqInt64S.l0 k l l i) true
  | 0, i, hi => by
    have hl1 := hl.1
    refine Ev.succ ?_
    simp only [laws_eqInt64S.l0]
    exact Ev.neg (by omega) (Ev.now _)
  | d + 1, i, hi => by
    have hl1 := hl.1
    obtain ⟨x, hx⟩ := get_some (l := l) (i := i) (by omega)
    have hs := all_get hl.2 hx
    refine Ev.succ ?_
    have e := rd_get hx
    unfold laws_eqInt64S.l0
    rw [e, w64 (by omega) (by omega), cast_succ]
    refine Ev.pos (by omega) (Ev.pos (by omega) (Ev.pos (by omega) ?_))
    refine Ev.pos rfl ?_
    exact laws_eqInt64S_l0 l hl d (i + 1) (by omega)
theorem laws_eqInt64S_ev (l : List Int) (hl : (lnList smAny) l) : Ev (fun k => laws_eqInt64S.f k l l) true := by
  unfold laws_eqInt64S.f
  exact Ev.pos rfl (laws_eqInt64S_l0 l hl l.length 0 (by omega))
theorem laws_eqProof_ev (a_0 : Int) (a_1 : Int) (a_2 : List Int) (a_3 : List Int) (ha_0 : smAny a_0) (ha_1 : smAny a_1) (ha_2 : (lnList smAny) a_2) (ha_3 : (lnList smAny) a_3) : Ev (fun k => laws_eqProof.f k a_0 a_1 a_2 a_3 a_0 a_1 a_2 a_3) true := by
  unfold laws_eqProof.f
  refine Ev.pos rfl ?_
  refine Ev.pos rfl ?_
  refine Ev.bind (laws_eqInt64S_ev a_2 ha_2) ?_
  refine Ev.pos rfl ?_
  refine Ev.bind (laws_eqInt64S_ev a_3 ha_3) ?_
  refine Ev.pos rfl ?_
  exact Ev.now _
end Go.Proofs.YtcegobkangpilaaDoor.PFnExactProofOk
