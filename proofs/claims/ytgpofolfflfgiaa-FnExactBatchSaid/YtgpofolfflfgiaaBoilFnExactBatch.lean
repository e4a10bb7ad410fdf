-- Written by a program of this session (wip/tools/pp.py over the kit's print).
import Derived.Test.YtgpofolfflfgiaaPFnExactBatchx0
import Derived.Test.YtgpofolfflfgiaaPFnExactBatchx1
import Derived.Test.YtgpofolfflfgiaaPFnExactBatchx2
import Derived.Test.YtgpofolfflfgiaaPFnExactBatchx4
import Derived.Test.YtgpofolfflfgiaaAskFnExactBatch
import Derived.Test.YtgpofolfflfgiaaOpens
import Derived.Test.YtgpofolfflfgiaaBase
namespace Go.Proofs.Ytgpofolfflfgiaa.PFnExactBatch
open Go.RowKit Go.Proofs.Ytgpofolfflfgiaa.PFnExactBatch Go.Proofs.YtgpofolfflfgiaaW.PrintWords Go.Proofs.YtgpofolfflfgiaaW.PrintLast Go.Proofs.YtgpofolfflfgiaaW.PrintMore
set_option linter.unusedVariables false
set_option linter.unusedSimpArgs false
def smS105 : S105 → Prop := fun x => smStr x.f0 ∧ smStr x.f1 ∧ smAny x.f2
def lnS105 : S105 → Prop := fun x => smAny x.f0 ∧ smAny x.f1 ∧ smAny x.f2
def smS103 : S103 → Prop := fun x => smStr x.f0 ∧ smStr x.f1 ∧ smAny x.f2
def lnS103 : S103 → Prop := fun x => smAny x.f0 ∧ smAny x.f1 ∧ smAny x.f2
theorem rdS_T105 {l : List (S105)} {i : Nat} {x : S105} (h : l[i]? = some x) : rd_T105 l (i : Int) = x := getD_lt h
theorem rdset_T105 {l : List (S105)} {i : Nat} {x : S105} (h : i < l.length) : rd_T105 (l.set i x) (i : Int) = x := getD_lt (set_get h)
theorem rdS_T103 {l : List (S103)} {i : Nat} {x : S103} (h : l[i]? = some x) : rd_T103 l (i : Int) = x := getD_lt h
theorem rdset_T103 {l : List (S103)} {i : Nat} {x : S103} (h : i < l.length) : rd_T103 (l.set i x) (i : Int) = x := getD_lt (set_get h)
def cv103 (x : S103) : S105 := (⟨x.f0, x.f1, x.f2⟩ : S105)
theorem laws_toWrite_ev (a_0 : ByteArray) (a_1 : ByteArray) (a_2 : Bool) (ha_0 : smStr a_0) (ha_1 : smStr a_1) (ha_2 : smAny a_2) : Ev (fun _ => laws_toWrite.f a_0 a_1 a_2) (a_0, a_1, a_2) := by
  unfold laws_toWrite.f
  exact Ev.now _
theorem laws_toWriteS_l0 (l : List (S103)) (hl : (smList smS103) l) : ∀ (d i : Nat) (y : List (S105)), i + d = l.length → y.length = l.length → (∀ j, j < i → y[j]? = ((l.map cv103))[j]?) → Ev (fun k => laws_toWriteS.l0 k l y i) ((l.map cv103))
  | 0, i, y, hi, hy, hp => by
    have hl1 := hl.1
    have e : y = ((l.map cv103)) := fill_done (by omega) (by simpa using hy) hp
    refine Ev.succ ?_
    simp only [laws_toWriteS.l0]
    exact Ev.neg (by omega) (e ▸ Ev.now _)
  | d + 1, i, y, hi, hy, hp => by
    have hl1 := hl.1
    obtain ⟨x, hx⟩ := get_some (l := l) (i := i) (by omega)
    have hs := all_get hl.2 hx
    refine Ev.succ ?_
    simp only [laws_toWriteS.l0, rdS_T103 hx]
    refine Ev.pos (by omega) (Ev.pos (by omega) ?_)
    refine Ev.bind (laws_toWrite_ev (x.f0) (x.f1) (x.f2) hs.1 hs.2.1 hs.2.2) ?_
    dsimp only
    refine Ev.pos (by omega) ?_
    rw [w64 (by omega) (by omega), cast_succ, Int.toNat_natCast]
    exact laws_toWriteS_l0 l hl d (i + 1) _ (by omega) (by simpa using hy) (fill_step (by omega) (by rw [List.getElem?_map, hx]; rfl) hp)
theorem laws_toWriteS_ev (l : List (S103)) (hl : (smList smS103) l) : Ev (fun k => laws_toWriteS.f k l) ((l.map cv103)) := by
  have hl1 := hl.1
  unfold laws_toWriteS.f
  refine Ev.pos (by omega) (Ev.pos (by omega) ?_)
  exact laws_toWriteS_l0 l hl l.length 0 _ (by omega) (by simp) (fun j h => by omega)
theorem laws_szWrite_ev (a_0 : ByteArray) (a_1 : ByteArray) (a_2 : Bool) (a : Int) (h0 : 0 ≤ a) (h1 : a ≤ 1048576) (ha_0 : okStr a_0) (ha_1 : okStr a_1) (ha_2 : okBool a_2) : SzOk (fun _ => laws_szWrite.f a_0 a_1 a_2 a) (smStr a_0 ∧ smStr a_1 ∧ smAny a_2) := by
  unfold laws_szWrite.f
  have b0 : a_0.size ≤ 9223372036854775807 := ha_0
  rw [w64 (x := a - (a_0.size : Int)) (by omega) (by omega)]
  refine SzOk.ite (fun _ => SzOk.bad _) (fun c0 => ?_)
  have b1 : a_1.size ≤ 9223372036854775807 := ha_1
  rw [w64 (x := a - (a_0.size : Int) - (a_1.size : Int)) (by omega) (by omega)]
  refine SzOk.ite (fun _ => SzOk.bad _) (fun c1 => ?_)
  exact SzOk.now _ (by omega) (by omega) (fun _ => ⟨(show a_0.size ≤ 1048576 by omega), (show a_1.size ≤ 1048576 by omega), trivial⟩)
theorem laws_szWriteS_l0 (l : List (S103)) (hl : (okList ok103) l) (hl2 : l.length ≤ 1048576) : ∀ (d i : Nat) (a : Int), i + d = l.length → 0 ≤ a → a ≤ 1048576 → SzOk (fun k => laws_szWriteS.l0 k l a i) (∀ j y, i ≤ j → l[j]? = some y → smS103 y)
  | 0, i, a, hi, h0, h1 => by
    refine SzOk.succ ?_
    simp only [laws_szWriteS.l0]
    exact SzOk.neg (by omega) (SzOk.now _ (by omega) (by omega) (fun _ => from_end (by omega)))
  | d + 1, i, a, hi, h0, h1 => by
    obtain ⟨x, hx⟩ := get_some (l := l) (i := i) (by omega)
    have ho := all_get hl.2 hx
    refine SzOk.succ ?_
    simp only [laws_szWriteS.l0, rdS_T103 hx]
    refine SzOk.pos (by omega) (SzOk.pos (by omega) ?_)
    rw [w64 (x := (i : Int) + 1) (by omega) (by omega), cast_succ]
    refine SzOk.bind (laws_szWrite_ev (x.f0) (x.f1) (x.f2) a (by omega) (by omega) ho.1 ho.2.1 ho.2.2) (fun t u v p => ?_)
    refine SzOk.ite (fun _ => SzOk.bad _) (fun c => ?_)
    exact SzOk.imp (laws_szWriteS_l0 l hl hl2 d (i + 1) _ (by omega) (by omega) (by omega)) (fun q => from_get hx (p (by omega)) q)
theorem laws_szWriteS_ev (l : List (S103)) (a : Int) (h0 : 0 ≤ a) (h1 : a ≤ 1048576) (hl : (okList ok103) l) : SzOk (fun k => laws_szWriteS.f k l a) ((smList smS103) l) := by
  have hl1 := hl.1
  unfold laws_szWriteS.f
  rw [w64 (x := a - (l.length : Int)) (by omega) (by omega)]
  refine SzOk.ite (fun _ => SzOk.bad _) (fun c => ?_)
  exact SzOk.imp (laws_szWriteS_l0 l hl (by omega) l.length 0 _ (by omega) (by omega) (by omega)) (fun q => ⟨by omega, from_all q⟩)
theorem laws_eqWrite_ev (a_0 : ByteArray) (a_1 : ByteArray) (a_2 : Bool) (ha_0 : smAny a_0) (ha_1 : smAny a_1) (ha_2 : smAny a_2) : Ev (fun _ => laws_eqWrite.f a_0 a_1 a_2 a_0 a_1 a_2) true := by
  unfold laws_eqWrite.f
  refine Ev.pos rfl ?_
  refine Ev.pos rfl ?_
  refine Ev.neg (by simp) ?_
  exact Ev.now _
theorem laws_eqWriteS_l0 (l : List (S105)) (hl : (lnList lnS105) l) : ∀ (d i : Nat), i + d = l.length → Ev (fun k => laws_eqWriteS.l0 k l l i) true
  | 0, i, hi => by
    have hl1 := hl.1
    refine Ev.succ ?_
    simp only [laws_eqWriteS.l0]
    exact Ev.neg (by omega) (Ev.now _)
  | d + 1, i, hi => by
    have hl1 := hl.1
    obtain ⟨x, hx⟩ := get_some (l := l) (i := i) (by omega)
    have hs := all_get hl.2 hx
    refine Ev.succ ?_
    have e := rdS_T105 hx
    unfold laws_eqWriteS.l0
    rw [e, w64 (by omega) (by omega), cast_succ]
    refine Ev.pos (by omega) (Ev.pos (by omega) (Ev.pos (by omega) ?_))
    refine Ev.bind (laws_eqWrite_ev (x.f0) (x.f1) (x.f2) hs.1 hs.2.1 hs.2.2) (Ev.pos rfl ?_)
    exact laws_eqWriteS_l0 l hl d (i + 1) (by omega)
theorem laws_eqWriteS_ev (l : List (S105)) (hl : (lnList lnS105) l) : Ev (fun k => laws_eqWriteS.f k l l) true := by
  unfold laws_eqWriteS.f
  exact Ev.pos rfl (laws_eqWriteS_l0 l hl l.length 0 (by omega))
end Go.Proofs.Ytgpofolfflfgiaa.PFnExactBatch
