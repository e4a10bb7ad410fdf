-- Written by a program of this session (wip/tools/pp.py over the kit's print).
import Derived.Test.YtckgkhlgnblblaaPFnExactReadBatchx0
import Derived.Test.YtckgkhlgnblblaaPFnExactReadBatchx7
import Derived.Test.YtckgkhlgnblblaaPFnExactReadBatchx8
import Derived.Test.YtckgkhlgnblblaaOpens
import Derived.Test.YtckgkhlgnblblaaBase
namespace Go.Proofs.Ytckgkhlgnblblaa.PFnExactReadBatch
open Go.RowKit Go.Proofs.Ytckgkhlgnblblaa.PFnExactReadBatch Go.Proofs.YtckgkhlgnblblaaW.PrintWords Go.Proofs.YtckgkhlgnblblaaW.PrintLast Go.Proofs.YtckgkhlgnblblaaW.PrintMore
set_option linter.unusedVariables false
set_option linter.unusedSimpArgs false
def smS127 : S127 → Prop := fun x => smStr x.f0 ∧ smStr x.f1 ∧ smAny x.f2
def lnS127 : S127 → Prop := fun x => smAny x.f0 ∧ smAny x.f1 ∧ smAny x.f2
theorem rdS_T127 {l : List (S127)} {i : Nat} {x : S127} (h : l[i]? = some x) : rd_T127 l (i : Int) = x := getD_lt h
theorem rdset_T127 {l : List (S127)} {i : Nat} {x : S127} (h : i < l.length) : rd_T127 (l.set i x) (i : Int) = x := getD_lt (set_get h)
theorem laws_eqWrite_ev (a_0 : ByteArray) (a_1 : ByteArray) (a_2 : Bool) (ha_0 : smAny a_0) (ha_1 : smAny a_1) (ha_2 : smAny a_2) : Ev (fun _ => laws_eqWrite.f a_0 a_1 a_2 a_0 a_1 a_2) true := by
  unfold laws_eqWrite.f
  refine Ev.pos rfl ?_
  refine Ev.pos rfl ?_
  refine Ev.neg (by simp) ?_
  exact Ev.now _
theorem laws_eqWriteS_l0 (l : List (S127)) (hl : (lnList lnS127) l) : ∀ (d i : Nat), i + d = l.length → Ev (fun k => laws_eqWriteS.l0 k l l i) true
  | 0, i, hi => by
    have hl1 := hl.1
    refine Ev.succ ?_
    simp only [laws_eqWriteS.l0]
    exact Ev.neg (by omega) (Ev.now _)
  | d + 1, i, hi => by
    have hl1 := hl.1
    obtain ⟨x, hx⟩ := get_some (l := l) (i := i) (by omega)
    have hs := all_get hl.2 hx
    refine Ev.succ ?_
    have e := rdS_T127 hx
    unfold laws_eqWriteS.l0
    rw [e, w64 (by omega) (by omega), cast_succ]
    refine Ev.pos (by omega) (Ev.pos (by omega) (Ev.pos (by omega) ?_))
    refine Ev.bind (laws_eqWrite_ev (x.f0) (x.f1) (x.f2) hs.1 hs.2.1 hs.2.2) (Ev.pos rfl ?_)
    exact laws_eqWriteS_l0 l hl d (i + 1) (by omega)
theorem laws_eqWriteS_ev (l : List (S127)) (hl : (lnList lnS127) l) : Ev (fun k => laws_eqWriteS.f k l l) true := by
  unfold laws_eqWriteS.f
  exact Ev.pos rfl (laws_eqWriteS_l0 l hl l.length 0 (by omega))
theorem markText_l0 : ∀ (n : Nat) (x : Int) (s : ByteArray), 0 ≤ x → x < 2 ^ n → n ≤ 62 → s.size + n ≤ 1000 → ∃ r, Ev (fun k => laws_markText.l0 k x s) r
  | 0, x, s, h0, h1, h2, h3 => by
    have hx : x = 0 := by simp at h1; omega
    subst hx
    refine ⟨(⟨#[109]⟩ : ByteArray) ++ s, Ev.succ ?_⟩
    simp only [laws_markText.l0]
    exact Ev.neg (by omega) (Ev.pos (by omega) (Ev.now _))
  | n + 1, x, s, h0, h1, h2, h3 => by
    have hb : (2 : Int) ^ (n + 1) ≤ 2 ^ 62 := by exact_mod_cast Nat.pow_le_pow_right (by omega) h2
    by_cases hx : x > 0
    · have hd : Int.tdiv x 10 = x / 10 := Int.tdiv_eq_ediv_of_nonneg h0
      have hp : (2 : Int) ^ (n + 1) = 2 ^ n * 2 := by rw [Int.pow_succ]
      obtain ⟨r, hr⟩ := markText_l0 n (x / 10) (strOfNums [(wrap64 (48 + (Int.tmod x 10))) % 256] ++ s) (by omega) (by omega) (by omega) (by rw [ByteArray.size_append, strOfNums_size]; simp; omega)
      refine ⟨r, Ev.succ ?_⟩
      simp only [laws_markText.l0, Option.bind_some]
      refine Ev.pos hx (Ev.pos (by rw [strOfNums_size]; simp; omega) ?_)
      rw [hd, w64 (x := x / 10) (by omega) (by omega)]
      exact hr
    · refine ⟨(⟨#[109]⟩ : ByteArray) ++ s, Ev.succ ?_⟩
      simp only [laws_markText.l0]
      exact Ev.neg hx (Ev.pos (by omega) (Ev.now _))
theorem markText_ev (c : Int) (h1 : c < 4611686018427387904) : ∃ r, Ev (fun k => laws_markText.f k c) r := by
  unfold laws_markText.f
  by_cases h : c ≤ 0
  · exact ⟨_, Ev.pos h (Ev.now _)⟩
  · obtain ⟨r, hr⟩ := markText_l0 62 c (⟨#[]⟩ : ByteArray) (by omega) (by omega) (by omega) (by decide)
    exact ⟨r, Ev.neg h hr⟩
def ctS127 : S127 → Nat := fun x => ctOne x.f0 + ctOne x.f1 + ctOne x.f2
theorem laws_markWriteS_l0 (n : Nat) (hn : n ≤ 4611686018427387904) : ∀ (d i : Nat) (y : List (S127)) (c : Int), y.length = n → i + d = n → 1 ≤ c → c + ((ctList ctS127) (y.drop i) : Int) ≤ 2305843009213693952 → ((lnList lnS127) y) → ∃ r z, r = c + ((ctList ctS127) (y.drop i) : Int) ∧ Ev (fun k => laws_markWriteS.l0 k y c i) (r, z) ∧ z.length = n ∧ (∀ j, j < i → z[j]? = y[j]?) ∧ Ev (fun k => laws_heldWriteS.l0 k z c i) r
  | 0, i, y, c, hy, hi, h1, hc, hL => by
    refine ⟨c, y, by rw [ct_end (by omega)]; simp, Ev.succ ?_, hy, fun _ _ => rfl, Ev.succ ?_⟩
    · simp only [laws_markWriteS.l0]
      exact Ev.neg (by omega) (Ev.now _)
    · simp only [laws_heldWriteS.l0]
      exact Ev.neg (by omega) (Ev.now _)
  | d + 1, i, y, c, hy, hi, h1, hc, hL => by
    obtain ⟨x, hx⟩ := get_some (l := y) (i := i) (by omega)
    have hs := all_get hL.2 hx
    have hcd := ct_drop (ct := ctS127) hx
    have hcx : ctS127 x = ctOne x.f0 + ctOne x.f1 + ctOne x.f2 := rfl
    have o0 : ctOne x.f0 = 1 := rfl
    have o1 : ctOne x.f1 = 1 := rfl
    have o2 : ctOne x.f2 = 1 := rfl
    obtain ⟨s0, hs0⟩ := markText_ev (c) (by omega)
    obtain ⟨s1, hs1⟩ := markText_ev (c + 1) (by omega)
    obtain ⟨r, z, e, m, l, p, g⟩ := laws_markWriteS_l0 n hn d (i + 1) (y.set i ((⟨s0, s1, (Int.tmod (c + 1 + 1) 3 == 0)⟩ : S127))) (c + 1 + 1 + 1) (by simpa using hy) (by omega) (by omega) (by rw [ct_set]; omega) ⟨by rw [List.length_set]; exact hL.1, fun v hv => by
      rcases List.mem_or_eq_of_mem_set hv with h | h
      · exact hL.2 v h
      · subst h
        exact ⟨trivial, trivial, trivial⟩⟩
    have hz : z[i]? = some ((⟨s0, s1, (Int.tmod (c + 1 + 1) 3 == 0)⟩ : S127)) := by rw [p i (by omega)]; exact set_get (by omega)
    rw [ct_set] at e
    refine ⟨r, z, by omega, Ev.succ ?_, l, set_below p, Ev.succ ?_⟩
    · have hlt : i < y.length := by omega
      simp only [laws_markWriteS.l0, rdS_T127 hx, Option.bind_some, Int.toNat_natCast, rdset_T127 hlt, List.set_set]
      refine Ev.pos (by omega) ?_
      simp (disch := omega) only [w64]
      refine Ev.bind hs0 (Ev.pos (by omega) ?_)
      (try simp only [Option.bind_some, Int.toNat_natCast, rdset_T127 hlt, List.set_set])
      refine Ev.bind hs1 ?_
      (try simp only [Option.bind_some, Int.toNat_natCast, rdset_T127 hlt, List.set_set])
      rw [cast_succ]
      exact m
    · simp only [laws_heldWriteS.l0, rdS_T127 hz]
      refine Ev.pos (by omega) (Ev.pos (by omega) ?_)
      simp (disch := omega) only [w64]
      refine Ev.bind hs0 (Ev.pos rfl ?_)
      refine Ev.bind hs1 (Ev.pos rfl ?_)
      refine Ev.neg (by simp) ?_
      rw [cast_succ]
      exact g
theorem laws_markWriteS_ev (y : List (S127)) (c : Int) (h1 : 1 ≤ c) (hc : c + ((ctList ctS127) y : Int) ≤ 2305843009213693952) (hL : (lnList lnS127) y) : ∃ r z, r = c + ((ctList ctS127) y : Int) ∧ Ev (fun k => laws_markWriteS.f k y c) (r, z) ∧ Ev (fun k => laws_heldWriteS.f k z c) r ∧ z.length = y.length := by
  obtain ⟨r, z, e, m, l, _, g⟩ := laws_markWriteS_l0 y.length hL.1 y.length 0 y c rfl (by omega) h1 (by simpa using hc) hL
  exact ⟨r, z, by simpa using e, m, g, l⟩
end Go.Proofs.Ytckgkhlgnblblaa.PFnExactReadBatch
