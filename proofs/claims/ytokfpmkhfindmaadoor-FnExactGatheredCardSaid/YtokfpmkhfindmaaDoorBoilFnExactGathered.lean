-- Written by a program of this session (wip/tools/pp.py over the kit's print).
import Derived.Test.YtokfpmkhfindmaaDoorPFnExactGatheredx0
import Derived.Test.YtokfpmkhfindmaaDoorPFnExactGatheredx2
import Derived.Test.YtokfpmkhfindmaaDoorPFnExactGatheredx4
import Derived.Test.YtokfpmkhfindmaaDoorPFnExactGatheredx5
import Derived.Test.YtokfpmkhfindmaaDoorPFnExactGatheredx9
import Derived.Test.YtokfpmkhfindmaaDoorPFnExactGatheredx10
import Derived.Test.YtokfpmkhfindmaaDoorAskFnExactGathered
import Derived.Test.YtokfpmkhfindmaaDoorOpens
import Derived.Test.YtokfpmkhfindmaaDoorBase
namespace Go.Proofs.YtokfpmkhfindmaaDoor.PFnExactGathered
open Go.RowKit Go.Proofs.YtokfpmkhfindmaaDoor.PFnExactGathered Go.Proofs.YtokfpmkhfindmaaDoorW.PrintWords Go.Proofs.YtokfpmkhfindmaaDoorW.PrintLast Go.Proofs.YtokfpmkhfindmaaDoorW.PrintMore
set_option linter.unusedVariables false
set_option linter.unusedSimpArgs false
def smS43 : S43 → Prop := fun x => smAny x.f0 ∧ smAny x.f1 ∧ smAny x.f2 ∧ smAny x.f3
def lnS43 : S43 → Prop := fun x => smAny x.f0 ∧ smAny x.f1 ∧ smAny x.f2 ∧ smAny x.f3
def smS65 : S65 → Prop := fun x => smAny x.f0 ∧ smAny x.f1 ∧ smAny x.f2 ∧ smAny x.f3
def lnS65 : S65 → Prop := fun x => smAny x.f0 ∧ smAny x.f1 ∧ smAny x.f2 ∧ smAny x.f3
theorem rdS_T43 {l : List (S43)} {i : Nat} {x : S43} (h : l[i]? = some x) : rd_T43 l (i : Int) = x := getD_lt h
theorem rdset_T43 {l : List (S43)} {i : Nat} {x : S43} (h : i < l.length) : rd_T43 (l.set i x) (i : Int) = x := getD_lt (set_get h)
theorem rdS_T65 {l : List (S65)} {i : Nat} {x : S65} (h : l[i]? = some x) : rd_T65 l (i : Int) = x := getD_lt h
theorem rdset_T65 {l : List (S65)} {i : Nat} {x : S65} (h : i < l.length) : rd_T65 (l.set i x) (i : Int) = x := getD_lt (set_get h)
def cv65 (x : S65) : S43 := (⟨x.f0, x.f1, x.f2, x.f3⟩ : S43)
theorem laws_toVote_ev (a_0 : Int) (a_1 : Int) (a_2 : Int) (a_3 : Int) (ha_0 : smAny a_0) (ha_1 : smAny a_1) (ha_2 : smAny a_2) (ha_3 : smAny a_3) : Ev (fun _ => laws_toVote.f a_0 a_1 a_2 a_3) (a_0, a_1, a_2, a_3) := by
 unfold laws_toVote.f
 exact Ev.now _
theorem laws_toVoteS_l0 (l : List (S65)) (hl : (smList smS65) l) : ∀ (d i : Nat) (y : List (S43)), i + d = l.length → y.length = l.length → (∀ j, j < i → y[j]? = ((l.map cv65))[j]?) → Ev (fun k => laws_toVoteS.l0 k l y i) ((l.map cv65))
 | 0, i, y, hi, hy, hp => by
  have hl1 := hl.1
  have e : y = ((l.map cv65)) := fill_done (by omega) (by simpa using hy) hp
  refine Ev.succ ?_
  simp only [laws_toVoteS.l0]
  exact Ev.neg (by omega) (e ▸ Ev.now _)
 | d + 1, i, y, hi, hy, hp => by
  have hl1 := hl.1
  obtain ⟨x, hx⟩ := get_some (l := l) (i := i) (by omega)
  have hs := all_get hl.2 hx
  refine Ev.succ ?_
  simp only [laws_toVoteS.l0, rdS_T65 hx]
  refine Ev.pos (by omega) (Ev.pos (by omega) ?_)
  refine Ev.bind (laws_toVote_ev (x.f0) (x.f1) (x.f2) (x.f3) hs.1 hs.2.1 hs.2.2.1 hs.2.2.2) ?_
  dsimp only
  refine Ev.pos (by omega) ?_
  rw [w64 (by omega) (by omega), cast_succ, Int.toNat_natCast]
  exact laws_toVoteS_l0 l hl d (i + 1) _ (by omega) (by simpa using hy) (fill_step (by omega) (by rw [List.getElem?_map, hx]; rfl) hp)
theorem laws_toVoteS_ev (l : List (S65)) (hl : (smList smS65) l) : Ev (fun k => laws_toVoteS.f k l) ((l.map cv65)) := by
 have hl1 := hl.1
 unfold laws_toVoteS.f
 refine Ev.pos (by omega) (Ev.pos (by omega) ?_)
 exact laws_toVoteS_l0 l hl l.length 0 _ (by omega) (by simp) (fun j h => by omega)
theorem laws_szVoteS_ev (l : List (S65)) (a : Int) (h0 : 0 ≤ a) (h1 : a ≤ 1048576) (hl : (okList ok65) l) : SzOk (fun _ => laws_szVoteS.f l a) ((smList smS65) l) := by
 have hl1 := hl.1
 unfold laws_szVoteS.f
 rw [w64 (x := a - (l.length : Int)) (by omega) (by omega)]
 refine SzOk.ite (fun _ => SzOk.bad _) (fun c => ?_)
 exact SzOk.now _ (by omega) (by omega) (fun _ => ⟨by omega, fun y _ => ⟨trivial, trivial, trivial, trivial⟩⟩)
theorem laws_eqInt64S_l0 (l : List Int) (hl : (lnList smAny) l) : ∀ (d i : Nat), i + d = l.length → Ev (fun k => laws_eqInt64S.l0 k l l i) true
 | 0, i, hi => by
  have hl1 := hl.1
  refine Ev.succ ?_
  simp only [laws_eqInt64S.l0]
  exact Ev.neg (by omega) (Ev.now _)
 | d + 1, i, hi => by
  have hl1 := hl.1
  obtain ⟨x, hx⟩ := get_some (l := l) (i := i) (by omega)
  have hs := all_get hl.2 hx
  refine Ev.succ ?_
  have e := rd_get hx
  unfold laws_eqInt64S.l0
  rw [e, w64 (by omega) (by omega), cast_succ]
  refine Ev.pos (by omega) (Ev.pos (by omega) (Ev.pos (by omega) ?_))
  refine Ev.pos rfl ?_
  exact laws_eqInt64S_l0 l hl d (i + 1) (by omega)
theorem laws_eqInt64S_ev (l : List Int) (hl : (lnList smAny) l) : Ev (fun k => laws_eqInt64S.f k l l) true := by
 unfold laws_eqInt64S.f
 exact Ev.pos rfl (laws_eqInt64S_l0 l hl l.length 0 (by omega))
theorem laws_eqProof_ev (a_0 : Int) (a_1 : Int) (a_2 : List Int) (a_3 : List Int) (ha_0 : smAny a_0) (ha_1 : smAny a_1) (ha_2 : (lnList smAny) a_2) (ha_3 : (lnList smAny) a_3) : Ev (fun k => laws_eqProof.f k a_0 a_1 a_2 a_3 a_0 a_1 a_2 a_3) true := by
 unfold laws_eqProof.f
 refine Ev.pos rfl ?_
 refine Ev.pos rfl ?_
 refine Ev.bind (laws_eqInt64S_ev a_2 ha_2) ?_
 refine Ev.pos rfl ?_
 refine Ev.bind (laws_eqInt64S_ev a_3 ha_3) ?_
 refine Ev.pos rfl ?_
 exact Ev.now _
theorem laws_eqVote_ev (a_0 : Int) (a_1 : Int) (a_2 : Int) (a_3 : Int) (ha_0 : smAny a_0) (ha_1 : smAny a_1) (ha_2 : smAny a_2) (ha_3 : smAny a_3) : Ev (fun _ => laws_eqVote.f a_0 a_1 a_2 a_3 a_0 a_1 a_2 a_3) true := by
 unfold laws_eqVote.f
 refine Ev.pos rfl ?_
 refine Ev.pos rfl ?_
 refine Ev.pos rfl ?_
 refine Ev.pos rfl ?_
 exact Ev.now _
theorem laws_eqVoteS_l0 (l : List (S43)) (hl : (lnList lnS43) l) : ∀ (d i : Nat), i + d = l.length → Ev (fun k => laws_eqVoteS.l0 k l l i) true
 | 0, i, hi => by
  have hl1 := hl.1
  refine Ev.succ ?_
  simp only [laws_eqVoteS.l0]
  exact Ev.neg (by omega) (Ev.now _)
 | d + 1, i, hi => by
  have hl1 := hl.1
  obtain ⟨x, hx⟩ := get_some (l := l) (i := i) (by omega)
  have hs := all_get hl.2 hx
  refine Ev.succ ?_
  have e := rdS_T43 hx
  unfold laws_eqVoteS.l0
  rw [e, w64 (by omega) (by omega), cast_succ]
  refine Ev.pos (by omega) (Ev.pos (by omega) (Ev.pos (by omega) ?_))
  refine Ev.bind (laws_eqVote_ev (x.f0) (x.f1) (x.f2) (x.f3) hs.1 hs.2.1 hs.2.2.1 hs.2.2.2) (Ev.pos rfl ?_)
  exact laws_eqVoteS_l0 l hl d (i + 1) (by omega)
theorem laws_eqVoteS_ev (l : List (S43)) (hl : (lnList lnS43) l) : Ev (fun k => laws_eqVoteS.f k l l) true := by
 unfold laws_eqVoteS.f
 exact Ev.pos rfl (laws_eqVoteS_l0 l hl l.length 0 (by omega))
def ctS43 : S43 → Nat := fun x => ctOne x.f0 + ctOne x.f1 + ctOne x.f2 + ctOne x.f3
theorem laws_markVoteS_l0 (n : Nat) (hn : n ≤ 4611686018427387904) : ∀ (d i : Nat) (y : List (S43)) (c : Int), y.length = n → i + d = n → 1 ≤ c → c + ((ctList ctS43) (y.drop i) : Int) ≤ 2305843009213693952 → ((lnList lnS43) y) → ∃ r z, r = c + ((ctList ctS43) (y.drop i) : Int) ∧ Ev (fun k => laws_markVoteS.l0 k y c i) (r, z) ∧ z.length = n ∧ (∀ j, j < i → z[j]? = y[j]?) ∧ True
 | 0, i, y, c, hy, hi, h1, hc, hL => by
  refine ⟨c, y, by rw [ct_end (by omega)]; simp, Ev.succ ?_, hy, fun _ _ => rfl, trivial⟩
  ·simp only [laws_markVoteS.l0]
   exact Ev.neg (by omega) (Ev.now _)
 | d + 1, i, y, c, hy, hi, h1, hc, hL => by
  obtain ⟨x, hx⟩ := get_some (l := y) (i := i) (by omega)
  have hs := all_get hL.2 hx
  have hcd := ct_drop (ct := ctS43) hx
  have hcx : ctS43 x = ctOne x.f0 + ctOne x.f1 + ctOne x.f2 + ctOne x.f3 := rfl
  have o0 : ctOne x.f0 = 1 := rfl
  have o1 : ctOne x.f1 = 1 := rfl
  have o2 : ctOne x.f2 = 1 := rfl
  have o3 : ctOne x.f3 = 1 := rfl
  obtain ⟨r, z, e, m, l, p, g⟩ := laws_markVoteS_l0 n hn d (i + 1) (y.set i ((⟨c, c + 1, c + 1 + 1, c + 1 + 1 + 1⟩ : S43))) (c + 1 + 1 + 1 + 1) (by simpa using hy) (by omega) (by omega) (by rw [ct_set]; omega) ⟨by rw [List.length_set]; exact hL.1, fun v hv => by
   rcases List.mem_or_eq_of_mem_set hv with h | h
   ·exact hL.2 v h
   ·subst h
    exact ⟨trivial, trivial, trivial, trivial⟩⟩
  have hz : z[i]? = some ((⟨c, c + 1, c + 1 + 1, c + 1 + 1 + 1⟩ : S43)) := by rw [p i (by omega)]; exact set_get (by omega)
  rw [ct_set] at e
  refine ⟨r, z, by omega, Ev.succ ?_, l, set_below p, trivial⟩
  ·have hlt : i < y.length := by omega
   simp only [laws_markVoteS.l0, rdS_T43 hx, Option.bind_some, Int.toNat_natCast, rdset_T43 hlt, List.set_set]
   refine Ev.pos (by omega) (Ev.pos (by omega) ?_)
   simp (disch := omega) only [w64]
   rw [cast_succ]
   exact m
theorem laws_markVoteS_ev (y : List (S43)) (c : Int) (h1 : 1 ≤ c) (hc : c + ((ctList ctS43) y : Int) ≤ 2305843009213693952) (hL : (lnList lnS43) y) : ∃ r z, r = c + ((ctList ctS43) y : Int) ∧ Ev (fun k => laws_markVoteS.f k y c) (r, z) ∧ True ∧ z.length = y.length := by
 obtain ⟨r, z, e, m, l, _, g⟩ := laws_markVoteS_l0 y.length hL.1 y.length 0 y c rfl (by omega) h1 (by simpa using hc) hL
 exact ⟨r, z, by simpa using e, m, g, l⟩
theorem laws_markInt64S_l0 (n : Nat) (hn : n ≤ 4611686018427387904) : ∀ (d i : Nat) (y : List Int) (c : Int), y.length = n → i + d = n → 1 ≤ c → c + ((ctList ctOne) (y.drop i) : Int) ≤ 2305843009213693952 → ((lnList smAny) y) → ∃ r z, r = c + ((ctList ctOne) (y.drop i) : Int) ∧ Ev (fun k => laws_markInt64S.l0 k y c i) (r, z) ∧ z.length = n ∧ (∀ j, j < i → z[j]? = y[j]?) ∧ Ev (fun k => laws_heldInt64S.l0 k z c i) r
 | 0, i, y, c, hy, hi, h1, hc, hL => by
  refine ⟨c, y, by rw [ct_end (by omega)]; simp, Ev.succ ?_, hy, fun _ _ => rfl, Ev.succ ?_⟩
  ·simp only [laws_markInt64S.l0]
   exact Ev.neg (by omega) (Ev.now _)
  ·simp only [laws_heldInt64S.l0]
   exact Ev.neg (by omega) (Ev.now _)
 | d + 1, i, y, c, hy, hi, h1, hc, hL => by
  obtain ⟨x, hx⟩ := get_some (l := y) (i := i) (by omega)
  have hs := all_get hL.2 hx
  have hcd := ct_drop (ct := ctOne) hx
  have hcx : ctOne x = ctOne x := rfl
  have o0 : ctOne x = 1 := rfl
  obtain ⟨r, z, e, m, l, p, g⟩ := laws_markInt64S_l0 n hn d (i + 1) (y.set i c) (c + 1) (by simpa using hy) (by omega) (by omega) (by rw [ct_set]; omega) ⟨by rw [List.length_set]; exact hL.1, fun v hv => by
   rcases List.mem_or_eq_of_mem_set hv with h | h
   ·exact hL.2 v h
   ·subst h
    exact trivial⟩
  have hz : z[i]? = some c := by rw [p i (by omega)]; exact set_get (by omega)
  rw [ct_set] at e
  refine ⟨r, z, by omega, Ev.succ ?_, l, set_below p, Ev.succ ?_⟩
  ·have hlt : i < y.length := by omega
   simp only [laws_markInt64S.l0, rd_get hx, Option.bind_some, Int.toNat_natCast, rdset_int hlt, List.set_set]
   refine Ev.pos (by omega) (Ev.pos (by omega) ?_)
   simp (disch := omega) only [w64]
   rw [cast_succ]
   exact m
  ·simp only [laws_heldInt64S.l0, rd_get hz]
   refine Ev.pos (by omega) (Ev.pos (by omega) ?_)
   simp (disch := omega) only [w64]
   refine Ev.pos (by first | rfl | trivial | simp) ?_
   rw [cast_succ]
   exact g
theorem laws_markInt64S_ev (y : List Int) (c : Int) (h1 : 1 ≤ c) (hc : c + ((ctList ctOne) y : Int) ≤ 2305843009213693952) (hL : (lnList smAny) y) : ∃ r z, r = c + ((ctList ctOne) y : Int) ∧ Ev (fun k => laws_markInt64S.f k y c) (r, z) ∧ Ev (fun k => laws_heldInt64S.f k z c) r ∧ z.length = y.length := by
 obtain ⟨r, z, e, m, l, _, g⟩ := laws_markInt64S_l0 y.length hL.1 y.length 0 y c rfl (by omega) h1 (by simpa using hc) hL
 exact ⟨r, z, by simpa using e, m, g, l⟩
theorem laws_markProof_ev (a_0 : Int) (a_1 : Int) (a_2 : List Int) (a_3 : List Int) (c : Int) (h1 : 1 ≤ c) (hc : c + ((((ctList ctOne) a_2 : Nat) + ((ctList ctOne) a_3 : Nat) : Nat) : Int) ≤ 2305843009213693952) (ha_2 : (lnList smAny) a_2) (ha_3 : (lnList smAny) a_3) : ∃ r za_2 za_3, r = c + ((((ctList ctOne) a_2 : Nat) + ((ctList ctOne) a_3 : Nat) : Nat) : Int) ∧ Ev (fun k => laws_markProof.f k a_0 a_1 a_2 a_3 c) (r, za_2, za_3) ∧ Ev (fun k => laws_heldProof.f k a_0 a_1 za_2 za_3 c) r ∧ za_2.length = a_2.length ∧ za_3.length = a_3.length := by
 obtain ⟨r0, z0, e0, m0, g0, l0⟩ := laws_markInt64S_ev a_2 c (by omega) (by omega) ha_2
 obtain ⟨r1, z1, e1, m1, g1, l1⟩ := laws_markInt64S_ev a_3 r0 (by omega) (by omega) ha_3
 refine ⟨r1, z0, z1, by omega, ?_, ?_, l0, l1⟩
 ·unfold laws_markProof.f
  refine Ev.bind m0 ?_
  dsimp only
  refine Ev.bind m1 ?_
  dsimp only
  exact Ev.now _
 ·unfold laws_heldProof.f
  refine Ev.bind g0 (Ev.neg (by omega) ?_)
  refine Ev.bind g1 (Ev.neg (by omega) ?_)
  exact Ev.now _
end Go.Proofs.YtokfpmkhfindmaaDoor.PFnExactGathered
