-- Written by a program of this session (wip/tools/pp.py over the kit's print).
import Derived.Test.YtgpofolfflfgiaaPFnExactPoolOkx0
import Derived.Test.YtgpofolfflfgiaaPFnExactPoolOkx1
import Derived.Test.YtgpofolfflfgiaaPFnExactPoolOkx3
import Derived.Test.YtgpofolfflfgiaaPFnExactPoolOkx4
import Derived.Test.YtgpofolfflfgiaaPFnExactPoolOkx5
import Derived.Test.YtgpofolfflfgiaaAskFnExactPoolOk
import Derived.Test.YtgpofolfflfgiaaOpens
import Derived.Test.YtgpofolfflfgiaaBase
namespace Go.Proofs.Ytgpofolfflfgiaa.PFnExactPoolOk
open Go.RowKit Go.Proofs.Ytgpofolfflfgiaa.PFnExactPoolOk Go.Proofs.YtgpofolfflfgiaaW.PrintWords Go.Proofs.YtgpofolfflfgiaaW.PrintLast Go.Proofs.YtgpofolfflfgiaaW.PrintMore
set_option linter.unusedVariables false
set_option linter.unusedSimpArgs false
def smS67 : S67 → Prop := fun x => smAny x.f0 ∧ smStr x.f1
def lnS67 : S67 → Prop := fun x => smAny x.f0 ∧ smAny x.f1
def smS63 : S63 → Prop := fun x => smAny x.f0 ∧ smStr x.f1
def lnS63 : S63 → Prop := fun x => smAny x.f0 ∧ smAny x.f1
theorem rdS_T67 {l : List (S67)} {i : Nat} {x : S67} (h : l[i]? = some x) : rd_T67 l (i : Int) = x := getD_lt h
theorem rdS_T63 {l : List (S63)} {i : Nat} {x : S63} (h : l[i]? = some x) : rd_T63 l (i : Int) = x := getD_lt h
def cv63 (x : S63) : S67 := (⟨x.f0, x.f1⟩ : S67)
theorem laws_toOffer_ev (a_0 : Int) (a_1 : ByteArray) (ha_0 : smAny a_0) (ha_1 : smStr a_1) : Ev (fun _ => laws_toOffer.f a_0 a_1) (a_0, a_1) := by
  unfold laws_toOffer.f
  exact Ev.now _
theorem laws_toOfferS_l0 (l : List (S63)) (hl : (smList smS63) l) : ∀ (d i : Nat) (y : List (S67)), i + d = l.length → y.length = l.length → (∀ j, j < i → y[j]? = ((l.map cv63))[j]?) → Ev (fun k => laws_toOfferS.l0 k l y i) ((l.map cv63))
  | 0, i, y, hi, hy, hp => by
    have hl1 := hl.1
    have e : y = ((l.map cv63)) := fill_done (by omega) (by simpa using hy) hp
    refine Ev.succ ?_
    simp only [laws_toOfferS.l0]
    exact Ev.neg (by omega) (e ▸ Ev.now _)
  | d + 1, i, y, hi, hy, hp => by
    have hl1 := hl.1
    obtain ⟨x, hx⟩ := get_some (l := l) (i := i) (by omega)
    have hs := all_get hl.2 hx
    refine Ev.succ ?_
    simp only [laws_toOfferS.l0, rdS_T63 hx]
    refine Ev.pos (by omega) (Ev.pos (by omega) ?_)
    refine Ev.bind (laws_toOffer_ev (x.f0) (x.f1) hs.1 hs.2) ?_
    dsimp only
    refine Ev.pos (by omega) ?_
    rw [w64 (by omega) (by omega), cast_succ, Int.toNat_natCast]
    exact laws_toOfferS_l0 l hl d (i + 1) _ (by omega) (by simpa using hy) (fill_step (by omega) (by rw [List.getElem?_map, hx]; rfl) hp)
theorem laws_toOfferS_ev (l : List (S63)) (hl : (smList smS63) l) : Ev (fun k => laws_toOfferS.f k l) ((l.map cv63)) := by
  have hl1 := hl.1
  unfold laws_toOfferS.f
  refine Ev.pos (by omega) (Ev.pos (by omega) ?_)
  exact laws_toOfferS_l0 l hl l.length 0 _ (by omega) (by simp) (fun j h => by omega)
theorem laws_szOffer_ev (a_0 : Int) (a_1 : ByteArray) (a : Int) (h0 : 0 ≤ a) (h1 : a ≤ 1048576) (ha_0 : (okInt .i64) a_0) (ha_1 : okStr a_1) : SzOk (fun _ => laws_szOffer.f a_0 a_1 a) (smAny a_0 ∧ smStr a_1) := by
  unfold laws_szOffer.f
  have b1 : a_1.size ≤ 9223372036854775807 := ha_1
  rw [w64 (x := a - (a_1.size : Int)) (by omega) (by omega)]
  refine SzOk.ite (fun _ => SzOk.bad _) (fun c1 => ?_)
  exact SzOk.now _ (by omega) (by omega) (fun _ => ⟨trivial, (show a_1.size ≤ 1048576 by omega)⟩)
theorem laws_szOfferS_l0 (l : List (S63)) (hl : (okList ok63) l) (hl2 : l.length ≤ 1048576) : ∀ (d i : Nat) (a : Int), i + d = l.length → 0 ≤ a → a ≤ 1048576 → SzOk (fun k => laws_szOfferS.l0 k l a i) (∀ j y, i ≤ j → l[j]? = some y → smS63 y)
  | 0, i, a, hi, h0, h1 => by
    refine SzOk.succ ?_
    simp only [laws_szOfferS.l0]
    exact SzOk.neg (by omega) (SzOk.now _ (by omega) (by omega) (fun _ => from_end (by omega)))
  | d + 1, i, a, hi, h0, h1 => by
    obtain ⟨x, hx⟩ := get_some (l := l) (i := i) (by omega)
    have ho := all_get hl.2 hx
    refine SzOk.succ ?_
    simp only [laws_szOfferS.l0, rdS_T63 hx]
    refine SzOk.pos (by omega) (SzOk.pos (by omega) ?_)
    rw [w64 (x := (i : Int) + 1) (by omega) (by omega), cast_succ]
    refine SzOk.bind (laws_szOffer_ev (x.f0) (x.f1) a (by omega) (by omega) ho.1 ho.2) (fun t u v p => ?_)
    refine SzOk.ite (fun _ => SzOk.bad _) (fun c => ?_)
    exact SzOk.imp (laws_szOfferS_l0 l hl hl2 d (i + 1) _ (by omega) (by omega) (by omega)) (fun q => from_get hx (p (by omega)) q)
theorem laws_szOfferS_ev (l : List (S63)) (a : Int) (h0 : 0 ≤ a) (h1 : a ≤ 1048576) (hl : (okList ok63) l) : SzOk (fun k => laws_szOfferS.f k l a) ((smList smS63) l) := by
  have hl1 := hl.1
  unfold laws_szOfferS.f
  rw [w64 (x := a - (l.length : Int)) (by omega) (by omega)]
  refine SzOk.ite (fun _ => SzOk.bad _) (fun c => ?_)
  exact SzOk.imp (laws_szOfferS_l0 l hl (by omega) l.length 0 _ (by omega) (by omega) (by omega)) (fun q => ⟨by omega, from_all q⟩)
theorem laws_eqOffer_ev (a_0 : Int) (a_1 : ByteArray) (ha_0 : smAny a_0) (ha_1 : smAny a_1) : Ev (fun _ => laws_eqOffer.f a_0 a_1 a_0 a_1) true := by
  unfold laws_eqOffer.f
  refine Ev.pos rfl ?_
  refine Ev.pos rfl ?_
  exact Ev.now _
theorem laws_eqOfferS_l0 (l : List (S67)) (hl : (lnList lnS67) l) : ∀ (d i : Nat), i + d = l.length → Ev (fun k => laws_eqOfferS.l0 k l l i) true
  | 0, i, hi => by
    have hl1 := hl.1
    refine Ev.succ ?_
    simp only [laws_eqOfferS.l0]
    exact Ev.neg (by omega) (Ev.now _)
  | d + 1, i, hi => by
    have hl1 := hl.1
    obtain ⟨x, hx⟩ := get_some (l := l) (i := i) (by omega)
    have hs := all_get hl.2 hx
    refine Ev.succ ?_
    have e := rdS_T67 hx
    unfold laws_eqOfferS.l0
    rw [e, w64 (by omega) (by omega), cast_succ]
    refine Ev.pos (by omega) (Ev.pos (by omega) (Ev.pos (by omega) ?_))
    refine Ev.bind (laws_eqOffer_ev (x.f0) (x.f1) hs.1 hs.2) (Ev.pos rfl ?_)
    exact laws_eqOfferS_l0 l hl d (i + 1) (by omega)
theorem laws_eqOfferS_ev (l : List (S67)) (hl : (lnList lnS67) l) : Ev (fun k => laws_eqOfferS.f k l l) true := by
  unfold laws_eqOfferS.f
  exact Ev.pos rfl (laws_eqOfferS_l0 l hl l.length 0 (by omega))
end Go.Proofs.Ytgpofolfflfgiaa.PFnExactPoolOk
