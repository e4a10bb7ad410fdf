-- Written by a program of this session (wip/tools/pp.py over the kit's print).
import Derived.Test.YtcegobkangpilaaDoorPFnExactPeakx0
import Derived.Test.YtcegobkangpilaaDoorPFnExactPeakx1
import Derived.Test.YtcegobkangpilaaDoorPFnExactPeakx4
import Derived.Test.YtcegobkangpilaaDoorPFnExactPeakx6
import Derived.Test.YtcegobkangpilaaDoorPFnExactPeakx7
import Derived.Test.YtcegobkangpilaaDoorAskFnExactPeak
import Derived.Test.YtcegobkangpilaaDoorOpens
import Derived.Test.YtcegobkangpilaaDoorBase
namespace Go.Proofs.YtcegobkangpilaaDoor.PFnExactPeak
open Go.RowKit Go.Proofs.YtcegobkangpilaaDoor.PFnExactPeak Go.Proofs.YtcegobkangpilaaDoorW.PrintWords Go.Proofs.YtcegobkangpilaaDoorW.PrintLast Go.Proofs.YtcegobkangpilaaDoorW.PrintMore
set_option linter.unusedVariables false
set_option linter.unusedSimpArgs false
def smS113 : S113 → Prop := fun x => smAny x.f0 ∧ smAny x.f1
def lnS113 : S113 → Prop := fun x => smAny x.f0 ∧ smAny x.f1
def smS115 : S115 → Prop := fun x => smAny x.f0 ∧ smAny x.f1
def lnS115 : S115 → Prop := fun x => smAny x.f0 ∧ smAny x.f1
theorem rdS_T113 {l : List (S113)} {i : Nat} {x : S113} (h : l[i]? = some x) : rd_T113 l (i : Int) = x := getD_lt h
theorem rdset_T113 {l : List (S113)} {i : Nat} {x : S113} (h : i < l.length) : rd_T113 (l.set i x) (i : Int) = x := getD_lt (set_get h)
theorem rdS_T115 {l : List (S115)} {i : Nat} {x : S115} (h : l[i]? = some x) : rd_T115 l (i : Int) = x := getD_lt h
theorem rdset_T115 {l : List (S115)} {i : Nat} {x : S115} (h : i < l.length) : rd_T115 (l.set i x) (i : Int) = x := getD_lt (set_get h)
def cv115 (x : S115) : S113 := (⟨x.f0, x.f1⟩ : S113)
theorem laws_toLeaf_ev (a_0 : Int) (a_1 : Int) (ha_0 : smAny a_0) (ha_1 : smAny a_1) : Ev (fun _ => laws_toLeaf.f a_0 a_1) (a_0, a_1) := by
  unfold laws_toLeaf.f
  exact Ev.now _
theorem laws_toLeafS_l0 (l : List (S115)) (hl : (smList smS115) l) : ∀ (d i : Nat) (y : List (S113)), i + d = l.length → y.length = l.length → (∀ j, j < i → y[j]? = ((l.map cv115))[j]?) → Ev (fun k => laws_toLeafS.l0 k l y i) ((l.map cv115))
  | 0, i, y, hi, hy, hp => by
    have hl1 := hl.1
    have e : y = ((l.map cv115)) := fill_done (by omega) (by simpa using hy) hp
    refine Ev.succ ?_
    simp only [laws_toLeafS.l0]
    exact Ev.neg (by omega) (e ▸ Ev.now _)
  | d + 1, i, y, hi, hy, hp => by
    have hl1 := hl.1
    obtain ⟨x, hx⟩ := get_some (l := l) (i := i) (by omega)
    have hs := all_get hl.2 hx
    refine Ev.succ ?_
    simp only [laws_toLeafS.l0, rdS_T115 hx]
    refine Ev.pos (by omega) (Ev.pos (by omega) ?_)
    refine Ev.bind (laws_toLeaf_ev (x.f0) (x.f1) hs.1 hs.2) ?_
    dsimp only
    refine Ev.pos (by omega) ?_
    rw [w64 (by omega) (by omega), cast_succ, Int.toNat_natCast]
    exact laws_toLeafS_l0 l hl d (i + 1) _ (by omega) (by simpa using hy) (fill_step (by omega) (by rw [List.getElem?_map, hx]; rfl) hp)
theorem laws_toLeafS_ev (l : List (S115)) (hl : (smList smS115) l) : Ev (fun k => laws_toLeafS.f k l) ((l.map cv115)) := by
  have hl1 := hl.1
  unfold laws_toLeafS.f
  refine Ev.pos (by omega) (Ev.pos (by omega) ?_)
  exact laws_toLeafS_l0 l hl l.length 0 _ (by omega) (by simp) (fun j h => by omega)
theorem laws_szLeafS_ev (l : List (S115)) (a : Int) (h0 : 0 ≤ a) (h1 : a ≤ 1048576) (hl : (okList ok115) l) : SzOk (fun _ => laws_szLeafS.f l a) ((smList smS115) l) := by
  have hl1 := hl.1
  unfold laws_szLeafS.f
  rw [w64 (x := a - (l.length : Int)) (by omega) (by omega)]
  refine SzOk.ite (fun _ => SzOk.bad _) (fun c => ?_)
  exact SzOk.now _ (by omega) (by omega) (fun _ => ⟨by omega, fun y _ => ⟨trivial, trivial⟩⟩)
theorem laws_eqLeaf_ev (a_0 : Int) (a_1 : Int) (ha_0 : smAny a_0) (ha_1 : smAny a_1) : Ev (fun _ => laws_eqLeaf.f a_0 a_1 a_0 a_1) true := by
  unfold laws_eqLeaf.f
  refine Ev.pos rfl ?_
  refine Ev.pos rfl ?_
  exact Ev.now _
theorem laws_eqLeafS_l0 (l : List (S113)) (hl : (lnList lnS113) l) : ∀ (d i : Nat), i + d = l.length → Ev (fun k => laws_eqLeafS.l0 k l l i) true
  | 0, i, hi => by
    have hl1 := hl.1
    refine Ev.succ ?_
    simp only [laws_eqLeafS.l0]
    exact Ev.neg (by omega) (Ev.now _)
  | d + 1, i, hi => by
    have hl1 := hl.1
    obtain ⟨x, hx⟩ := get_some (l := l) (i := i) (by omega)
    have hs := all_get hl.2 hx
    refine Ev.succ ?_
    have e := rdS_T113 hx
    unfold laws_eqLeafS.l0
    rw [e, w64 (by omega) (by omega), cast_succ]
    refine Ev.pos (by omega) (Ev.pos (by omega) (Ev.pos (by omega) ?_))
    refine Ev.bind (laws_eqLeaf_ev (x.f0) (x.f1) hs.1 hs.2) (Ev.pos rfl ?_)
    exact laws_eqLeafS_l0 l hl d (i + 1) (by omega)
theorem laws_eqLeafS_ev (l : List (S113)) (hl : (lnList lnS113) l) : Ev (fun k => laws_eqLeafS.f k l l) true := by
  unfold laws_eqLeafS.f
  exact Ev.pos rfl (laws_eqLeafS_l0 l hl l.length 0 (by omega))
end Go.Proofs.YtcegobkangpilaaDoor.PFnExactPeak
