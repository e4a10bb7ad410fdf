-- Written by a program of this session (wip/tools/pp.py over the kit's print).
import Derived.Test.YtckgkhlgnblblaaPFnExactChosenx0
import Derived.Test.YtckgkhlgnblblaaPFnExactChosenx1
import Derived.Test.YtckgkhlgnblblaaPFnExactChosenx4
import Derived.Test.YtckgkhlgnblblaaPFnExactChosenx7
import Derived.Test.YtckgkhlgnblblaaPFnExactChosenx8
import Derived.Test.YtckgkhlgnblblaaAskFnExactChosen
import Derived.Test.YtckgkhlgnblblaaOpens
import Derived.Test.YtckgkhlgnblblaaBase
namespace Go.Proofs.Ytckgkhlgnblblaa.PFnExactChosen
open Go.RowKit Go.Proofs.Ytckgkhlgnblblaa.PFnExactChosen Go.Proofs.YtckgkhlgnblblaaW.PrintWords Go.Proofs.YtckgkhlgnblblaaW.PrintLast Go.Proofs.YtckgkhlgnblblaaW.PrintMore
set_option linter.unusedVariables false
set_option linter.unusedSimpArgs false
def smS86 : S86 → Prop := fun x => smAny x.f0 ∧ smStr x.f1
def lnS86 : S86 → Prop := fun x => smAny x.f0 ∧ smAny x.f1
def smS98 : S98 → Prop := fun x => smAny x.f0 ∧ smStr x.f1
def lnS98 : S98 → Prop := fun x => smAny x.f0 ∧ smAny x.f1
theorem rdS_T86 {l : List (S86)} {i : Nat} {x : S86} (h : l[i]? = some x) : rd_T86 l (i : Int) = x := getD_lt h
theorem rdset_T86 {l : List (S86)} {i : Nat} {x : S86} (h : i < l.length) : rd_T86 (l.set i x) (i : Int) = x := getD_lt (set_get h)
theorem rdS_T98 {l : List (S98)} {i : Nat} {x : S98} (h : l[i]? = some x) : rd_T98 l (i : Int) = x := getD_lt h
theorem rdset_T98 {l : List (S98)} {i : Nat} {x : S98} (h : i < l.length) : rd_T98 (l.set i x) (i : Int) = x := getD_lt (set_get h)
def cv98 (x : S98) : S86 := (⟨x.f0, x.f1⟩ : S86)
theorem laws_toOffer_ev (a_0 : Int) (a_1 : ByteArray) (ha_0 : smAny a_0) (ha_1 : smStr a_1) : Ev (fun _ => laws_toOffer.f a_0 a_1) (a_0, a_1) := by
  unfold laws_toOffer.f
  exact Ev.now _
theorem laws_toOfferS_l0 (l : List (S98)) (hl : (smList smS98) l) : ∀ (d i : Nat) (y : List (S86)), i + d = l.length → y.length = l.length → (∀ j, j < i → y[j]? = ((l.map cv98))[j]?) → Ev (fun k => laws_toOfferS.l0 k l y i) ((l.map cv98))
  | 0, i, y, hi, hy, hp => by
    have hl1 := hl.1
    have e : y = ((l.map cv98)) := fill_done (by omega) (by simpa using hy) hp
    refine Ev.succ ?_
    simp only [laws_toOfferS.l0]
    exact Ev.neg (by omega) (e ▸ Ev.now _)
  | d + 1, i, y, hi, hy, hp => by
    have hl1 := hl.1
    obtain ⟨x, hx⟩ := get_some (l := l) (i := i) (by omega)
    have hs := all_get hl.2 hx
    refine Ev.succ ?_
    simp only [laws_toOfferS.l0, rdS_T98 hx]
    refine Ev.pos (by omega) (Ev.pos (by omega) ?_)
    refine Ev.bind (laws_toOffer_ev (x.f0) (x.f1) hs.1 hs.2) ?_
    dsimp only
    refine Ev.pos (by omega) ?_
    rw [w64 (by omega) (by omega), cast_succ, Int.toNat_natCast]
    exact laws_toOfferS_l0 l hl d (i + 1) _ (by omega) (by simpa using hy) (fill_step (by omega) (by rw [List.getElem?_map, hx]; rfl) hp)
theorem laws_toOfferS_ev (l : List (S98)) (hl : (smList smS98) l) : Ev (fun k => laws_toOfferS.f k l) ((l.map cv98)) := by
  have hl1 := hl.1
  unfold laws_toOfferS.f
  refine Ev.pos (by omega) (Ev.pos (by omega) ?_)
  exact laws_toOfferS_l0 l hl l.length 0 _ (by omega) (by simp) (fun j h => by omega)
theorem laws_szOffer_ev (a_0 : Int) (a_1 : ByteArray) (a : Int) (h0 : 0 ≤ a) (h1 : a ≤ 1048576) (ha_0 : (okInt .i64) a_0) (ha_1 : okStr a_1) : SzOk (fun _ => laws_szOffer.f a_0 a_1 a) (smAny a_0 ∧ smStr a_1) := by
  unfold laws_szOffer.f
  have b1 : a_1.size ≤ 9223372036854775807 := ha_1
  rw [w64 (x := a - (a_1.size : Int)) (by omega) (by omega)]
  refine SzOk.ite (fun _ => SzOk.bad _) (fun c1 => ?_)
  exact SzOk.now _ (by omega) (by omega) (fun _ => ⟨trivial, (show a_1.size ≤ 1048576 by omega)⟩)
theorem laws_szOfferS_l0 (l : List (S98)) (hl : (okList ok98) l) (hl2 : l.length ≤ 1048576) : ∀ (d i : Nat) (a : Int), i + d = l.length → 0 ≤ a → a ≤ 1048576 → SzOk (fun k => laws_szOfferS.l0 k l a i) (∀ j y, i ≤ j → l[j]? = some y → smS98 y)
  | 0, i, a, hi, h0, h1 => by
    refine SzOk.succ ?_
    simp only [laws_szOfferS.l0]
    exact SzOk.neg (by omega) (SzOk.now _ (by omega) (by omega) (fun _ => from_end (by omega)))
  | d + 1, i, a, hi, h0, h1 => by
    obtain ⟨x, hx⟩ := get_some (l := l) (i := i) (by omega)
    have ho := all_get hl.2 hx
    refine SzOk.succ ?_
    simp only [laws_szOfferS.l0, rdS_T98 hx]
    refine SzOk.pos (by omega) (SzOk.pos (by omega) ?_)
    rw [w64 (x := (i : Int) + 1) (by omega) (by omega), cast_succ]
    refine SzOk.bind (laws_szOffer_ev (x.f0) (x.f1) a (by omega) (by omega) ho.1 ho.2) (fun t u v p => ?_)
    refine SzOk.ite (fun _ => SzOk.bad _) (fun c => ?_)
    exact SzOk.imp (laws_szOfferS_l0 l hl hl2 d (i + 1) _ (by omega) (by omega) (by omega)) (fun q => from_get hx (p (by omega)) q)
theorem laws_szOfferS_ev (l : List (S98)) (a : Int) (h0 : 0 ≤ a) (h1 : a ≤ 1048576) (hl : (okList ok98) l) : SzOk (fun k => laws_szOfferS.f k l a) ((smList smS98) l) := by
  have hl1 := hl.1
  unfold laws_szOfferS.f
  rw [w64 (x := a - (l.length : Int)) (by omega) (by omega)]
  refine SzOk.ite (fun _ => SzOk.bad _) (fun c => ?_)
  exact SzOk.imp (laws_szOfferS_l0 l hl (by omega) l.length 0 _ (by omega) (by omega) (by omega)) (fun q => ⟨by omega, from_all q⟩)
theorem laws_eqStringS_l0 (l : List ByteArray) (hl : (lnList smAny) l) : ∀ (d i : Nat), i + d = l.length → Ev (fun k => laws_eqStringS.l0 k l l i) true
  | 0, i, hi => by
    have hl1 := hl.1
    refine Ev.succ ?_
    simp only [laws_eqStringS.l0]
    exact Ev.neg (by omega) (Ev.now _)
  | d + 1, i, hi => by
    have hl1 := hl.1
    obtain ⟨x, hx⟩ := get_some (l := l) (i := i) (by omega)
    have hs := all_get hl.2 hx
    refine Ev.succ ?_
    have e := rdOf_get (z := ByteArray.empty) hx
    unfold laws_eqStringS.l0
    rw [e, w64 (by omega) (by omega), cast_succ]
    refine Ev.pos (by omega) (Ev.pos (by omega) (Ev.pos (by omega) ?_))
    refine Ev.pos rfl ?_
    exact laws_eqStringS_l0 l hl d (i + 1) (by omega)
theorem laws_eqStringS_ev (l : List ByteArray) (hl : (lnList smAny) l) : Ev (fun k => laws_eqStringS.f k l l) true := by
  unfold laws_eqStringS.f
  exact Ev.pos rfl (laws_eqStringS_l0 l hl l.length 0 (by omega))
theorem laws_eqOffer_ev (a_0 : Int) (a_1 : ByteArray) (ha_0 : smAny a_0) (ha_1 : smAny a_1) : Ev (fun _ => laws_eqOffer.f a_0 a_1 a_0 a_1) true := by
  unfold laws_eqOffer.f
  refine Ev.pos rfl ?_
  refine Ev.pos rfl ?_
  exact Ev.now _
theorem laws_eqOfferS_l0 (l : List (S86)) (hl : (lnList lnS86) l) : ∀ (d i : Nat), i + d = l.length → Ev (fun k => laws_eqOfferS.l0 k l l i) true
  | 0, i, hi => by
    have hl1 := hl.1
    refine Ev.succ ?_
    simp only [laws_eqOfferS.l0]
    exact Ev.neg (by omega) (Ev.now _)
  | d + 1, i, hi => by
    have hl1 := hl.1
    obtain ⟨x, hx⟩ := get_some (l := l) (i := i) (by omega)
    have hs := all_get hl.2 hx
    refine Ev.succ ?_
    have e := rdS_T86 hx
    unfold laws_eqOfferS.l0
    rw [e, w64 (by omega) (by omega), cast_succ]
    refine Ev.pos (by omega) (Ev.pos (by omega) (Ev.pos (by omega) ?_))
    refine Ev.bind (laws_eqOffer_ev (x.f0) (x.f1) hs.1 hs.2) (Ev.pos rfl ?_)
    exact laws_eqOfferS_l0 l hl d (i + 1) (by omega)
theorem laws_eqOfferS_ev (l : List (S86)) (hl : (lnList lnS86) l) : Ev (fun k => laws_eqOfferS.f k l l) true := by
  unfold laws_eqOfferS.f
  exact Ev.pos rfl (laws_eqOfferS_l0 l hl l.length 0 (by omega))
theorem markText_l0 : ∀ (n : Nat) (x : Int) (s : ByteArray), 0 ≤ x → x < 2 ^ n → n ≤ 62 → s.size + n ≤ 1000 → ∃ r, Ev (fun k => laws_markText.l0 k x s) r
  | 0, x, s, h0, h1, h2, h3 => by
    have hx : x = 0 := by simp at h1; omega
    subst hx
    refine ⟨(⟨#[109]⟩ : ByteArray) ++ s, Ev.succ ?_⟩
    simp only [laws_markText.l0]
    exact Ev.neg (by omega) (Ev.pos (by omega) (Ev.now _))
  | n + 1, x, s, h0, h1, h2, h3 => by
    have hb : (2 : Int) ^ (n + 1) ≤ 2 ^ 62 := by exact_mod_cast Nat.pow_le_pow_right (by omega) h2
    by_cases hx : x > 0
    · have hd : Int.tdiv x 10 = x / 10 := Int.tdiv_eq_ediv_of_nonneg h0
      have hp : (2 : Int) ^ (n + 1) = 2 ^ n * 2 := by rw [Int.pow_succ]
      obtain ⟨r, hr⟩ := markText_l0 n (x / 10) (strOfNums [(wrap64 (48 + (Int.tmod x 10))) % 256] ++ s) (by omega) (by omega) (by omega) (by rw [ByteArray.size_append, strOfNums_size]; simp; omega)
      refine ⟨r, Ev.succ ?_⟩
      simp only [laws_markText.l0, Option.bind_some]
      refine Ev.pos hx (Ev.pos (by rw [strOfNums_size]; simp; omega) ?_)
      rw [hd, w64 (x := x / 10) (by omega) (by omega)]
      exact hr
    · refine ⟨(⟨#[109]⟩ : ByteArray) ++ s, Ev.succ ?_⟩
      simp only [laws_markText.l0]
      exact Ev.neg hx (Ev.pos (by omega) (Ev.now _))
theorem markText_ev (c : Int) (h1 : c < 4611686018427387904) : ∃ r, Ev (fun k => laws_markText.f k c) r := by
  unfold laws_markText.f
  by_cases h : c ≤ 0
  · exact ⟨_, Ev.pos h (Ev.now _)⟩
  · obtain ⟨r, hr⟩ := markText_l0 62 c (⟨#[]⟩ : ByteArray) (by omega) (by omega) (by omega) (by decide)
    exact ⟨r, Ev.neg h hr⟩
def ctS86 : S86 → Nat := fun x => ctOne x.f0 + ctOne x.f1
theorem laws_markOfferS_l0 (n : Nat) (hn : n ≤ 4611686018427387904) : ∀ (d i : Nat) (y : List (S86)) (c : Int), y.length = n → i + d = n → 1 ≤ c → c + ((ctList ctS86) (y.drop i) : Int) ≤ 2305843009213693952 → ((lnList lnS86) y) → ∃ r z, r = c + ((ctList ctS86) (y.drop i) : Int) ∧ Ev (fun k => laws_markOfferS.l0 k y c i) (r, z) ∧ z.length = n ∧ (∀ j, j < i → z[j]? = y[j]?) ∧ True
  | 0, i, y, c, hy, hi, h1, hc, hL => by
    refine ⟨c, y, by rw [ct_end (by omega)]; simp, Ev.succ ?_, hy, fun _ _ => rfl, trivial⟩
    · simp only [laws_markOfferS.l0]
      exact Ev.neg (by omega) (Ev.now _)
  | d + 1, i, y, c, hy, hi, h1, hc, hL => by
    obtain ⟨x, hx⟩ := get_some (l := y) (i := i) (by omega)
    have hs := all_get hL.2 hx
    have hcd := ct_drop (ct := ctS86) hx
    have hcx : ctS86 x = ctOne x.f0 + ctOne x.f1 := rfl
    have o0 : ctOne x.f0 = 1 := rfl
    have o1 : ctOne x.f1 = 1 := rfl
    obtain ⟨s1, hs1⟩ := markText_ev (c + 1) (by omega)
    obtain ⟨r, z, e, m, l, p, g⟩ := laws_markOfferS_l0 n hn d (i + 1) (y.set i ((⟨c, s1⟩ : S86))) (c + 1 + 1) (by simpa using hy) (by omega) (by omega) (by rw [ct_set]; omega) ⟨by rw [List.length_set]; exact hL.1, fun v hv => by
      rcases List.mem_or_eq_of_mem_set hv with h | h
      · exact hL.2 v h
      · subst h
        exact ⟨trivial, trivial⟩⟩
    have hz : z[i]? = some ((⟨c, s1⟩ : S86)) := by rw [p i (by omega)]; exact set_get (by omega)
    rw [ct_set] at e
    refine ⟨r, z, by omega, Ev.succ ?_, l, set_below p, trivial⟩
    · have hlt : i < y.length := by omega
      simp only [laws_markOfferS.l0, rdS_T86 hx, Option.bind_some, Int.toNat_natCast, rdset_T86 hlt, List.set_set]
      refine Ev.pos (by omega) (Ev.pos (by omega) ?_)
      simp (disch := omega) only [w64]
      refine Ev.bind hs1 ?_
      (try simp only [Option.bind_some, Int.toNat_natCast, rdset_T86 hlt, List.set_set])
      rw [cast_succ]
      exact m
theorem laws_markOfferS_ev (y : List (S86)) (c : Int) (h1 : 1 ≤ c) (hc : c + ((ctList ctS86) y : Int) ≤ 2305843009213693952) (hL : (lnList lnS86) y) : ∃ r z, r = c + ((ctList ctS86) y : Int) ∧ Ev (fun k => laws_markOfferS.f k y c) (r, z) ∧ True ∧ z.length = y.length := by
  obtain ⟨r, z, e, m, l, _, g⟩ := laws_markOfferS_l0 y.length hL.1 y.length 0 y c rfl (by omega) h1 (by simpa using hc) hL
  exact ⟨r, z, by simpa using e, m, g, l⟩
theorem laws_markStringS_l0 (n : Nat) (hn : n ≤ 4611686018427387904) : ∀ (d i : Nat) (y : List ByteArray) (c : Int), y.length = n → i + d = n → 1 ≤ c → c + ((ctList ctOne) (y.drop i) : Int) ≤ 2305843009213693952 → ((lnList smAny) y) → ∃ r z, r = c + ((ctList ctOne) (y.drop i) : Int) ∧ Ev (fun k => laws_markStringS.l0 k y c i) (r, z) ∧ z.length = n ∧ (∀ j, j < i → z[j]? = y[j]?) ∧ Ev (fun k => laws_heldStringS.l0 k z c i) r
  | 0, i, y, c, hy, hi, h1, hc, hL => by
    refine ⟨c, y, by rw [ct_end (by omega)]; simp, Ev.succ ?_, hy, fun _ _ => rfl, Ev.succ ?_⟩
    · simp only [laws_markStringS.l0]
      exact Ev.neg (by omega) (Ev.now _)
    · simp only [laws_heldStringS.l0]
      exact Ev.neg (by omega) (Ev.now _)
  | d + 1, i, y, c, hy, hi, h1, hc, hL => by
    obtain ⟨x, hx⟩ := get_some (l := y) (i := i) (by omega)
    have hs := all_get hL.2 hx
    have hcd := ct_drop (ct := ctOne) hx
    have hcx : ctOne x = ctOne x := rfl
    have o0 : ctOne x = 1 := rfl
    obtain ⟨s0, hs0⟩ := markText_ev (c) (by omega)
    obtain ⟨r, z, e, m, l, p, g⟩ := laws_markStringS_l0 n hn d (i + 1) (y.set i s0) (c + 1) (by simpa using hy) (by omega) (by omega) (by rw [ct_set]; omega) ⟨by rw [List.length_set]; exact hL.1, fun v hv => by
      rcases List.mem_or_eq_of_mem_set hv with h | h
      · exact hL.2 v h
      · subst h
        exact trivial⟩
    have hz : z[i]? = some s0 := by rw [p i (by omega)]; exact set_get (by omega)
    rw [ct_set] at e
    refine ⟨r, z, by omega, Ev.succ ?_, l, set_below p, Ev.succ ?_⟩
    · have hlt : i < y.length := by omega
      simp only [laws_markStringS.l0, rdOf_get (z := ByteArray.empty) hx, Option.bind_some, Int.toNat_natCast, rdset_of hlt, List.set_set]
      refine Ev.pos (by omega) ?_
      simp (disch := omega) only [w64]
      refine Ev.bind hs0 (Ev.pos (by omega) ?_)
      rw [cast_succ]
      exact m
    · simp only [laws_heldStringS.l0, rdOf_get (z := ByteArray.empty) hz]
      refine Ev.pos (by omega) (Ev.pos (by omega) ?_)
      simp (disch := omega) only [w64]
      refine Ev.bind hs0 (Ev.pos rfl ?_)
      rw [cast_succ]
      exact g
theorem laws_markStringS_ev (y : List ByteArray) (c : Int) (h1 : 1 ≤ c) (hc : c + ((ctList ctOne) y : Int) ≤ 2305843009213693952) (hL : (lnList smAny) y) : ∃ r z, r = c + ((ctList ctOne) y : Int) ∧ Ev (fun k => laws_markStringS.f k y c) (r, z) ∧ Ev (fun k => laws_heldStringS.f k z c) r ∧ z.length = y.length := by
  obtain ⟨r, z, e, m, l, _, g⟩ := laws_markStringS_l0 y.length hL.1 y.length 0 y c rfl (by omega) h1 (by simpa using hc) hL
  exact ⟨r, z, by simpa using e, m, g, l⟩
end Go.Proofs.Ytckgkhlgnblblaa.PFnExactChosen
