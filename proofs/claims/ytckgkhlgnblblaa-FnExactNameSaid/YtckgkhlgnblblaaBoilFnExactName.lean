-- Written by a program of this session (wip/tools/pp.py over the kit's print).
import Derived.Test.YtckgkhlgnblblaaPFnExactNamex0
import Derived.Test.YtckgkhlgnblblaaPFnExactNamex1
import Derived.Test.YtckgkhlgnblblaaPFnExactNamex2
import Derived.Test.YtckgkhlgnblblaaAskFnExactName
import Derived.Test.YtckgkhlgnblblaaVFnExactName
namespace Go.Proofs.Ytckgkhlgnblblaa.PFnExactName
open Go.RowKit Go.Proofs.Ytckgkhlgnblblaa.PFnExactName Go.Proofs.YtckgkhlgnblblaaW.PrintWords Go.Proofs.YtckgkhlgnblblaaW.PrintLast Go.Proofs.YtckgkhlgnblblaaW.PrintMore
set_option linter.unusedVariables false
set_option linter.unusedSimpArgs false
theorem laws_toInt64S_l0 (l : List Int) (hl : (smList smAny) l) : ∀ (d i : Nat) (y : List Int), i + d = l.length → y.length = l.length → (∀ j, j < i → y[j]? = l[j]?) → Ev (fun k => laws_toInt64S.l0 k l y i) l
  | 0, i, y, hi, hy, hp => by
    have hl1 := hl.1
    have e : y = l := fill_done (by omega) (by exact hy) hp
    refine Ev.succ ?_
    simp only [laws_toInt64S.l0]
    exact Ev.neg (by omega) (e ▸ Ev.now _)
  | d + 1, i, y, hi, hy, hp => by
    have hl1 := hl.1
    obtain ⟨x, hx⟩ := get_some (l := l) (i := i) (by omega)
    have hs := all_get hl.2 hx
    refine Ev.succ ?_
    simp only [laws_toInt64S.l0, rd_get hx]
    refine Ev.pos (by omega) (Ev.pos (by omega) ?_)
    refine Ev.pos (by omega) ?_
    rw [w64 (by omega) (by omega), cast_succ, Int.toNat_natCast]
    exact laws_toInt64S_l0 l hl d (i + 1) _ (by omega) (by simpa using hy) (fill_step (by omega) (by exact hx) hp)
theorem laws_toInt64S_ev (l : List Int) (hl : (smList smAny) l) : Ev (fun k => laws_toInt64S.f k l) l := by
  have hl1 := hl.1
  unfold laws_toInt64S.f
  refine Ev.pos (by omega) (Ev.pos (by omega) ?_)
  exact laws_toInt64S_l0 l hl l.length 0 _ (by omega) (by simp) (fun j h => by omega)
theorem laws_toProof_ev (a_0 : Int) (a_1 : Int) (a_2 : List Int) (a_3 : List Int) (ha_0 : smAny a_0) (ha_1 : smAny a_1) (ha_2 : (smList smAny) a_2) (ha_3 : (smList smAny) a_3) : Ev (fun k => laws_toProof.f k a_0 a_1 a_2 a_3) (a_0, a_1, a_2, a_3) := by
  unfold laws_toProof.f
  refine Ev.bind (laws_toInt64S_ev a_2 ha_2) ?_
  refine Ev.bind (laws_toInt64S_ev a_3 ha_3) ?_
  exact Ev.now _
theorem laws_toStringS_l0 (l : List ByteArray) (hl : (smList smStr) l) : ∀ (d i : Nat) (y : List ByteArray), i + d = l.length → y.length = l.length → (∀ j, j < i → y[j]? = l[j]?) → Ev (fun k => laws_toStringS.l0 k l y i) l
  | 0, i, y, hi, hy, hp => by
    have hl1 := hl.1
    have e : y = l := fill_done (by omega) (by exact hy) hp
    refine Ev.succ ?_
    simp only [laws_toStringS.l0]
    exact Ev.neg (by omega) (e ▸ Ev.now _)
  | d + 1, i, y, hi, hy, hp => by
    have hl1 := hl.1
    obtain ⟨x, hx⟩ := get_some (l := l) (i := i) (by omega)
    have hs := all_get hl.2 hx
    refine Ev.succ ?_
    simp only [laws_toStringS.l0, rdOf_get (z := ByteArray.empty) hx]
    refine Ev.pos (by omega) (Ev.pos (by omega) ?_)
    refine Ev.pos (by omega) ?_
    rw [w64 (by omega) (by omega), cast_succ, Int.toNat_natCast]
    exact laws_toStringS_l0 l hl d (i + 1) _ (by omega) (by simpa using hy) (fill_step (by omega) (by exact hx) hp)
theorem laws_toStringS_ev (l : List ByteArray) (hl : (smList smStr) l) : Ev (fun k => laws_toStringS.f k l) l := by
  have hl1 := hl.1
  unfold laws_toStringS.f
  refine Ev.pos (by omega) (Ev.pos (by omega) ?_)
  exact laws_toStringS_l0 l hl l.length 0 _ (by omega) (by simp) (fun j h => by omega)
theorem laws_toBlock_ev (a_0 : Int) (a_1 : Int) (a_2 : Int) (a_3 : Int) (a_4 : List Int) (a_5 : List Int) (a_6 : List ByteArray) (a_7 : Int) (ha_0 : smAny a_0) (ha_1 : smAny a_1) (ha_2 : smAny a_2) (ha_3 : smAny a_3) (ha_4 : (smList smAny) a_4) (ha_5 : (smList smAny) a_5) (ha_6 : (smList smStr) a_6) (ha_7 : smAny a_7) : Ev (fun k => laws_toBlock.f k a_0 a_1 a_2 a_3 a_4 a_5 a_6 a_7) (a_0, a_1, a_2, a_3, a_4, a_5, a_6, a_7) := by
  unfold laws_toBlock.f
  refine Ev.bind (laws_toProof_ev a_2 a_3 a_4 a_5 ha_2 ha_3 ha_4 ha_5) ?_
  dsimp only
  refine Ev.bind (laws_toStringS_ev a_6 ha_6) ?_
  exact Ev.now _
theorem laws_szInt64S_ev (l : List Int) (a : Int) (h0 : 0 ≤ a) (h1 : a ≤ 1048576) (hl : (okList (okInt .i64)) l) : SzOk (fun _ => laws_szInt64S.f l a) ((smList smAny) l) := by
  have hl1 := hl.1
  unfold laws_szInt64S.f
  rw [w64 (x := a - (l.length : Int)) (by omega) (by omega)]
  refine SzOk.ite (fun _ => SzOk.bad _) (fun c => ?_)
  exact SzOk.now _ (by omega) (by omega) (fun _ => ⟨by omega, fun y _ => trivial⟩)
theorem laws_szProof_ev (a_0 : Int) (a_1 : Int) (a_2 : List Int) (a_3 : List Int) (a : Int) (h0 : 0 ≤ a) (h1 : a ≤ 1048576) (ha_0 : (okInt .i64) a_0) (ha_1 : (okInt .i64) a_1) (ha_2 : (okList (okInt .i64)) a_2) (ha_3 : (okList (okInt .i64)) a_3) : SzOk (fun _ => laws_szProof.f a_0 a_1 a_2 a_3 a) (smAny a_0 ∧ smAny a_1 ∧ (smList smAny) a_2 ∧ (smList smAny) a_3) := by
  unfold laws_szProof.f
  refine SzOk.bind (laws_szInt64S_ev a_2 (a) (by omega) (by omega) ha_2) (fun t2 u2 v2 p2 => ?_)
  refine SzOk.ite (fun _ => SzOk.bad _) (fun c2 => ?_)
  refine SzOk.bind (laws_szInt64S_ev a_3 (t2) (by omega) (by omega) ha_3) (fun t3 u3 v3 p3 => ?_)
  refine SzOk.ite (fun _ => SzOk.bad _) (fun c3 => ?_)
  exact SzOk.now _ (by omega) (by omega) (fun _ => ⟨trivial, trivial, (p2 (by omega)), (p3 (by omega))⟩)
theorem laws_szStringS_l0 (l : List ByteArray) (hl : (okList okStr) l) (hl2 : l.length ≤ 1048576) : ∀ (d i : Nat) (a : Int), i + d = l.length → 0 ≤ a → a ≤ 1048576 → SzOk (fun k => laws_szStringS.l0 k l a i) (∀ j y, i ≤ j → l[j]? = some y → smStr y)
  | 0, i, a, hi, h0, h1 => by
    refine SzOk.succ ?_
    simp only [laws_szStringS.l0]
    exact SzOk.neg (by omega) (SzOk.now _ (by omega) (by omega) (fun _ => from_end (by omega)))
  | d + 1, i, a, hi, h0, h1 => by
    obtain ⟨x, hx⟩ := get_some (l := l) (i := i) (by omega)
    have ho := all_get hl.2 hx
    refine SzOk.succ ?_
    simp only [laws_szStringS.l0, rdOf_get (z := ByteArray.empty) hx]
    refine SzOk.pos (by omega) (SzOk.pos (by omega) ?_)
    rw [w64 (x := (i : Int) + 1) (by omega) (by omega), cast_succ]
    have b0 : x.size ≤ 9223372036854775807 := ho
    rw [w64 (x := a - (x.size : Int)) (by omega) (by omega)]
    refine SzOk.ite (fun _ => SzOk.bad _) (fun c => ?_)
    exact SzOk.imp (laws_szStringS_l0 l hl hl2 d (i + 1) _ (by omega) (by omega) (by omega)) (fun q => from_get hx (show x.size ≤ 1048576 by omega) q)
theorem laws_szStringS_ev (l : List ByteArray) (a : Int) (h0 : 0 ≤ a) (h1 : a ≤ 1048576) (hl : (okList okStr) l) : SzOk (fun k => laws_szStringS.f k l a) ((smList smStr) l) := by
  have hl1 := hl.1
  unfold laws_szStringS.f
  rw [w64 (x := a - (l.length : Int)) (by omega) (by omega)]
  refine SzOk.ite (fun _ => SzOk.bad _) (fun c => ?_)
  exact SzOk.imp (laws_szStringS_l0 l hl (by omega) l.length 0 _ (by omega) (by omega) (by omega)) (fun q => ⟨by omega, from_all q⟩)
theorem laws_szBlock_ev (a_0 : Int) (a_1 : Int) (a_2 : Int) (a_3 : Int) (a_4 : List Int) (a_5 : List Int) (a_6 : List ByteArray) (a_7 : Int) (a : Int) (h0 : 0 ≤ a) (h1 : a ≤ 1048576) (ha_0 : (okInt .i64) a_0) (ha_1 : (okInt .i64) a_1) (ha_2 : (okInt .i64) a_2) (ha_3 : (okInt .i64) a_3) (ha_4 : (okList (okInt .i64)) a_4) (ha_5 : (okList (okInt .i64)) a_5) (ha_6 : (okList okStr) a_6) (ha_7 : (okInt .i64) a_7) : SzOk (fun k => laws_szBlock.f k a_0 a_1 a_2 a_3 a_4 a_5 a_6 a_7 a) (smAny a_0 ∧ smAny a_1 ∧ smAny a_2 ∧ smAny a_3 ∧ (smList smAny) a_4 ∧ (smList smAny) a_5 ∧ (smList smStr) a_6 ∧ smAny a_7) := by
  unfold laws_szBlock.f
  refine SzOk.bind (laws_szProof_ev a_2 a_3 a_4 a_5 (a) (by omega) (by omega) ha_2 ha_3 ha_4 ha_5) (fun t2 u2 v2 p2 => ?_)
  refine SzOk.ite (fun _ => SzOk.bad _) (fun c2 => ?_)
  refine SzOk.bind (laws_szStringS_ev a_6 (t2) (by omega) (by omega) ha_6) (fun t6 u6 v6 p6 => ?_)
  refine SzOk.ite (fun _ => SzOk.bad _) (fun c6 => ?_)
  exact SzOk.now _ (by omega) (by omega) (fun _ => ⟨trivial, trivial, (p2 (by omega)).1, (p2 (by omega)).2.1, (p2 (by omega)).2.2.1, (p2 (by omega)).2.2.2, (p6 (by omega)), trivial⟩)
theorem laws_eqStringS_l0 (l : List ByteArray) (hl : (lnList smAny) l) : ∀ (d i : Nat), i + d = l.length → Ev (fun k => laws_eqStringS.l0 k l l i) true
  | 0, i, hi => by
    have hl1 := hl.1
    refine Ev.succ ?_
    simp only [laws_eqStringS.l0]
    exact Ev.neg (by omega) (Ev.now _)
  | d + 1, i, hi => by
    have hl1 := hl.1
    obtain ⟨x, hx⟩ := get_some (l := l) (i := i) (by omega)
    have hs := all_get hl.2 hx
    refine Ev.succ ?_
    have e := rdOf_get (z := ByteArray.empty) hx
    unfold laws_eqStringS.l0
    rw [e, w64 (by omega) (by omega), cast_succ]
    refine Ev.pos (by omega) (Ev.pos (by omega) (Ev.pos (by omega) ?_))
    refine Ev.pos rfl ?_
    exact laws_eqStringS_l0 l hl d (i + 1) (by omega)
theorem laws_eqStringS_ev (l : List ByteArray) (hl : (lnList smAny) l) : Ev (fun k => laws_eqStringS.f k l l) true := by
  unfold laws_eqStringS.f
  exact Ev.pos rfl (laws_eqStringS_l0 l hl l.length 0 (by omega))
theorem laws_eqInt64S_l0 (l : List Int) (hl : (lnList smAny) l) : ∀ (d i : Nat), i + d = l.length → Ev (fun k => laws_eqInt64S.l0 k l l i) true
  | 0, i, hi => by
    have hl1 := hl.1
    refine Ev.succ ?_
    simp only [laws_eqInt64S.l0]
    exact Ev.neg (by omega) (Ev.now _)
  | d + 1, i, hi => by
    have hl1 := hl.1
    obtain ⟨x, hx⟩ := get_some (l := l) (i := i) (by omega)
    have hs := all_get hl.2 hx
    refine Ev.succ ?_
    have e := rd_get hx
    unfold laws_eqInt64S.l0
    rw [e, w64 (by omega) (by omega), cast_succ]
    refine Ev.pos (by omega) (Ev.pos (by omega) (Ev.pos (by omega) ?_))
    refine Ev.pos rfl ?_
    exact laws_eqInt64S_l0 l hl d (i + 1) (by omega)
theorem laws_eqInt64S_ev (l : List Int) (hl : (lnList smAny) l) : Ev (fun k => laws_eqInt64S.f k l l) true := by
  unfold laws_eqInt64S.f
  exact Ev.pos rfl (laws_eqInt64S_l0 l hl l.length 0 (by omega))
theorem laws_eqProof_ev (a_0 : Int) (a_1 : Int) (a_2 : List Int) (a_3 : List Int) (ha_0 : smAny a_0) (ha_1 : smAny a_1) (ha_2 : (lnList smAny) a_2) (ha_3 : (lnList smAny) a_3) : Ev (fun k => laws_eqProof.f k a_0 a_1 a_2 a_3 a_0 a_1 a_2 a_3) true := by
  unfold laws_eqProof.f
  refine Ev.pos rfl ?_
  refine Ev.pos rfl ?_
  refine Ev.bind (laws_eqInt64S_ev a_2 ha_2) ?_
  refine Ev.pos rfl ?_
  refine Ev.bind (laws_eqInt64S_ev a_3 ha_3) ?_
  refine Ev.pos rfl ?_
  exact Ev.now _
theorem laws_eqBlock_ev (a_0 : Int) (a_1 : Int) (a_2 : Int) (a_3 : Int) (a_4 : List Int) (a_5 : List Int) (a_6 : List ByteArray) (a_7 : Int) (ha_0 : smAny a_0) (ha_1 : smAny a_1) (ha_2 : smAny a_2) (ha_3 : smAny a_3) (ha_4 : (lnList smAny) a_4) (ha_5 : (lnList smAny) a_5) (ha_6 : (lnList smAny) a_6) (ha_7 : smAny a_7) : Ev (fun k => laws_eqBlock.f k a_0 a_1 a_2 a_3 a_4 a_5 a_6 a_7 a_0 a_1 a_2 a_3 a_4 a_5 a_6 a_7) true := by
  unfold laws_eqBlock.f
  refine Ev.pos rfl ?_
  refine Ev.pos rfl ?_
  refine Ev.bind (laws_eqProof_ev a_2 a_3 a_4 a_5 ha_2 ha_3 ha_4 ha_5) ?_
  refine Ev.pos rfl ?_
  refine Ev.bind (laws_eqStringS_ev a_6 ha_6) ?_
  refine Ev.pos rfl ?_
  refine Ev.pos rfl ?_
  exact Ev.now _
end Go.Proofs.Ytckgkhlgnblblaa.PFnExactName
