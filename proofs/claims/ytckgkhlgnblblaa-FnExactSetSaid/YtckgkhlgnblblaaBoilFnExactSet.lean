-- Written by a program of this session (wip/tools/pp.py over the kit's print).
import Derived.Test.YtckgkhlgnblblaaPFnExactSetx0
import Derived.Test.YtckgkhlgnblblaaPFnExactSetx1
import Derived.Test.YtckgkhlgnblblaaPFnExactSetx3
import Derived.Test.YtckgkhlgnblblaaPFnExactSetx6
import Derived.Test.YtckgkhlgnblblaaAskFnExactSet
import Derived.Test.YtckgkhlgnblblaaOpens
import Derived.Test.YtckgkhlgnblblaaBase
namespace Go.Proofs.Ytckgkhlgnblblaa.PFnExactSet
open Go.RowKit Go.Proofs.Ytckgkhlgnblblaa.PFnExactSet Go.Proofs.YtckgkhlgnblblaaW.PrintWords Go.Proofs.YtckgkhlgnblblaaW.PrintLast Go.Proofs.YtckgkhlgnblblaaW.PrintMore
set_option linter.unusedVariables false
set_option linter.unusedSimpArgs false
def smS114 : S114 → Prop := fun x => smAny x.f0 ∧ smAny x.f1
def lnS114 : S114 → Prop := fun x => smAny x.f0 ∧ smAny x.f1
def smS116 : S116 → Prop := fun x => smAny x.f0 ∧ smAny x.f1
def lnS116 : S116 → Prop := fun x => smAny x.f0 ∧ smAny x.f1
theorem rdS_T114 {l : List (S114)} {i : Nat} {x : S114} (h : l[i]? = some x) : rd_T114 l (i : Int) = x := getD_lt h
theorem rdset_T114 {l : List (S114)} {i : Nat} {x : S114} (h : i < l.length) : rd_T114 (l.set i x) (i : Int) = x := getD_lt (set_get h)
theorem rdS_T116 {l : List (S116)} {i : Nat} {x : S116} (h : l[i]? = some x) : rd_T116 l (i : Int) = x := getD_lt h
theorem rdset_T116 {l : List (S116)} {i : Nat} {x : S116} (h : i < l.length) : rd_T116 (l.set i x) (i : Int) = x := getD_lt (set_get h)
def cv116 (x : S116) : S114 := (⟨x.f0, x.f1⟩ : S114)
theorem laws_toLeaf_ev (a_0 : Int) (a_1 : Int) (ha_0 : smAny a_0) (ha_1 : smAny a_1) : Ev (fun _ => laws_toLeaf.f a_0 a_1) (a_0, a_1) := by
  unfold laws_toLeaf.f
  exact Ev.now _
theorem laws_toLeafS_l0 (l : List (S116)) (hl : (smList smS116) l) : ∀ (d i : Nat) (y : List (S114)), i + d = l.length → y.length = l.length → (∀ j, j < i → y[j]? = ((l.map cv116))[j]?) → Ev (fun k => laws_toLeafS.l0 k l y i) ((l.map cv116))
  | 0, i, y, hi, hy, hp => by
    have hl1 := hl.1
    have e : y = ((l.map cv116)) := fill_done (by omega) (by simpa using hy) hp
    refine Ev.succ ?_
    simp only [laws_toLeafS.l0]
    exact Ev.neg (by omega) (e ▸ Ev.now _)
  | d + 1, i, y, hi, hy, hp => by
    have hl1 := hl.1
    obtain ⟨x, hx⟩ := get_some (l := l) (i := i) (by omega)
    have hs := all_get hl.2 hx
    refine Ev.succ ?_
    simp only [laws_toLeafS.l0, rdS_T116 hx]
    refine Ev.pos (by omega) (Ev.pos (by omega) ?_)
    refine Ev.bind (laws_toLeaf_ev (x.f0) (x.f1) hs.1 hs.2) ?_
    dsimp only
    refine Ev.pos (by omega) ?_
    rw [w64 (by omega) (by omega), cast_succ, Int.toNat_natCast]
    exact laws_toLeafS_l0 l hl d (i + 1) _ (by omega) (by simpa using hy) (fill_step (by omega) (by rw [List.getElem?_map, hx]; rfl) hp)
theorem laws_toLeafS_ev (l : List (S116)) (hl : (smList smS116) l) : Ev (fun k => laws_toLeafS.f k l) ((l.map cv116)) := by
  have hl1 := hl.1
  unfold laws_toLeafS.f
  refine Ev.pos (by omega) (Ev.pos (by omega) ?_)
  exact laws_toLeafS_l0 l hl l.length 0 _ (by omega) (by simp) (fun j h => by omega)
theorem laws_szLeafS_ev (l : List (S116)) (a : Int) (h0 : 0 ≤ a) (h1 : a ≤ 1048576) (hl : (okList ok116) l) : SzOk (fun _ => laws_szLeafS.f l a) ((smList smS116) l) := by
  have hl1 := hl.1
  unfold laws_szLeafS.f
  rw [w64 (x := a - (l.length : Int)) (by omega) (by omega)]
  refine SzOk.ite (fun _ => SzOk.bad _) (fun c => ?_)
  exact SzOk.now _ (by omega) (by omega) (fun _ => ⟨by omega, fun y _ => ⟨trivial, trivial⟩⟩)
theorem laws_eqLeaf_ev (a_0 : Int) (a_1 : Int) (ha_0 : smAny a_0) (ha_1 : smAny a_1) : Ev (fun _ => laws_eqLeaf.f a_0 a_1 a_0 a_1) true := by
  unfold laws_eqLeaf.f
  refine Ev.pos rfl ?_
  refine Ev.pos rfl ?_
  exact Ev.now _
theorem laws_eqLeafS_l0 (l : List (S114)) (hl : (lnList lnS114) l) : ∀ (d i : Nat), i + d = l.length → Ev (fun k => laws_eqLeafS.l0 k l l i) true
  | 0, i, hi => by
    have hl1 := hl.1
    refine Ev.succ ?_
    simp only [laws_eqLeafS.l0]
    exact Ev.neg (by omega) (Ev.now _)
  | d + 1, i, hi => by
    have hl1 := hl.1
    obtain ⟨x, hx⟩ := get_some (l := l) (i := i) (by omega)
    have hs := all_get hl.2 hx
    refine Ev.succ ?_
    have e := rdS_T114 hx
    unfold laws_eqLeafS.l0
    rw [e, w64 (by omega) (by omega), cast_succ]
    refine Ev.pos (by omega) (Ev.pos (by omega) (Ev.pos (by omega) ?_))
    refine Ev.bind (laws_eqLeaf_ev (x.f0) (x.f1) hs.1 hs.2) (Ev.pos rfl ?_)
    exact laws_eqLeafS_l0 l hl d (i + 1) (by omega)
theorem laws_eqLeafS_ev (l : List (S114)) (hl : (lnList lnS114) l) : Ev (fun k => laws_eqLeafS.f k l l) true := by
  unfold laws_eqLeafS.f
  exact Ev.pos rfl (laws_eqLeafS_l0 l hl l.length 0 (by omega))
def ctS114 : S114 → Nat := fun x => ctOne x.f0 + ctOne x.f1
theorem laws_markLeafS_l0 (n : Nat) (hn : n ≤ 4611686018427387904) : ∀ (d i : Nat) (y : List (S114)) (c : Int), y.length = n → i + d = n → 1 ≤ c → c + ((ctList ctS114) (y.drop i) : Int) ≤ 2305843009213693952 → ((lnList lnS114) y) → ∃ r z, r = c + ((ctList ctS114) (y.drop i) : Int) ∧ Ev (fun k => laws_markLeafS.l0 k y c i) (r, z) ∧ z.length = n ∧ (∀ j, j < i → z[j]? = y[j]?) ∧ Ev (fun k => laws_heldLeafS.l0 k z c i) r
  | 0, i, y, c, hy, hi, h1, hc, hL => by
    refine ⟨c, y, by rw [ct_end (by omega)]; simp, Ev.succ ?_, hy, fun _ _ => rfl, Ev.succ ?_⟩
    · simp only [laws_markLeafS.l0]
      exact Ev.neg (by omega) (Ev.now _)
    · simp only [laws_heldLeafS.l0]
      exact Ev.neg (by omega) (Ev.now _)
  | d + 1, i, y, c, hy, hi, h1, hc, hL => by
    obtain ⟨x, hx⟩ := get_some (l := y) (i := i) (by omega)
    have hs := all_get hL.2 hx
    have hcd := ct_drop (ct := ctS114) hx
    have hcx : ctS114 x = ctOne x.f0 + ctOne x.f1 := rfl
    have o0 : ctOne x.f0 = 1 := rfl
    have o1 : ctOne x.f1 = 1 := rfl
    obtain ⟨r, z, e, m, l, p, g⟩ := laws_markLeafS_l0 n hn d (i + 1) (y.set i ((⟨c, c + 1⟩ : S114))) (c + 1 + 1) (by simpa using hy) (by omega) (by omega) (by rw [ct_set]; omega) ⟨by rw [List.length_set]; exact hL.1, fun v hv => by
      rcases List.mem_or_eq_of_mem_set hv with h | h
      · exact hL.2 v h
      · subst h
        exact ⟨trivial, trivial⟩⟩
    have hz : z[i]? = some ((⟨c, c + 1⟩ : S114)) := by rw [p i (by omega)]; exact set_get (by omega)
    rw [ct_set] at e
    refine ⟨r, z, by omega, Ev.succ ?_, l, set_below p, Ev.succ ?_⟩
    · have hlt : i < y.length := by omega
      simp only [laws_markLeafS.l0, rdS_T114 hx, Option.bind_some, Int.toNat_natCast, rdset_T114 hlt, List.set_set]
      refine Ev.pos (by omega) (Ev.pos (by omega) ?_)
      simp (disch := omega) only [w64]
      rw [cast_succ]
      exact m
    · simp only [laws_heldLeafS.l0, rdS_T114 hz]
      refine Ev.pos (by omega) (Ev.pos (by omega) ?_)
      simp (disch := omega) only [w64]
      refine Ev.pos (by first | rfl | trivial | simp) ?_
      refine Ev.pos (by first | rfl | trivial | simp) ?_
      rw [cast_succ]
      exact g
theorem laws_markLeafS_ev (y : List (S114)) (c : Int) (h1 : 1 ≤ c) (hc : c + ((ctList ctS114) y : Int) ≤ 2305843009213693952) (hL : (lnList lnS114) y) : ∃ r z, r = c + ((ctList ctS114) y : Int) ∧ Ev (fun k => laws_markLeafS.f k y c) (r, z) ∧ Ev (fun k => laws_heldLeafS.f k z c) r ∧ z.length = y.length := by
  obtain ⟨r, z, e, m, l, _, g⟩ := laws_markLeafS_l0 y.length hL.1 y.length 0 y c rfl (by omega) h1 (by simpa using hc) hL
  exact ⟨r, z, by simpa using e, m, g, l⟩
end Go.Proofs.Ytckgkhlgnblblaa.PFnExactSet
