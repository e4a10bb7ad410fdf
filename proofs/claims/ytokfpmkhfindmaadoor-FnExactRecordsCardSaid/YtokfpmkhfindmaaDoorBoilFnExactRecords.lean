-- Written by a program of this session (wip/tools/pp.py over the kit's print).
import Derived.Test.YtokfpmkhfindmaaDoorPFnExactRecordsx0
import Derived.Test.YtokfpmkhfindmaaDoorPFnExactRecordsx4
import Derived.Test.YtokfpmkhfindmaaDoorAskFnExactRecords
import Derived.Test.YtokfpmkhfindmaaDoorOpens
import Derived.Test.YtokfpmkhfindmaaDoorBase
namespace Go.Proofs.YtokfpmkhfindmaaDoor.PFnExactRecords
open Go.RowKit Go.Proofs.YtokfpmkhfindmaaDoor.PFnExactRecords Go.Proofs.YtokfpmkhfindmaaDoorW.PrintWords Go.Proofs.YtokfpmkhfindmaaDoorW.PrintLast Go.Proofs.YtokfpmkhfindmaaDoorW.PrintMore
set_option linter.unusedVariables false
set_option linter.unusedSimpArgs false
theorem laws_eqStringS_l0 (l : List ByteArray) (hl : (lnList smAny) l) : ∀ (d i : Nat), i + d = l.length → Ev (fun k => laws_eqStringS.l0 k l l i) true
 | 0, i, hi => by
  have hl1 := hl.1
  refine Ev.succ ?_
  simp only [laws_eqStringS.l0]
  exact Ev.neg (by omega) (Ev.now _)
 | d + 1, i, hi => by
  have hl1 := hl.1
  obtain ⟨x, hx⟩ := get_some (l := l) (i := i) (by omega)
  have hs := all_get hl.2 hx
  refine Ev.succ ?_
  have e := rdOf_get (z := ByteArray.empty) hx
  unfold laws_eqStringS.l0
  rw [e, w64 (by omega) (by omega), cast_succ]
  refine Ev.pos (by omega) (Ev.pos (by omega) (Ev.pos (by omega) ?_))
  refine Ev.pos rfl ?_
  exact laws_eqStringS_l0 l hl d (i + 1) (by omega)
theorem laws_eqStringS_ev (l : List ByteArray) (hl : (lnList smAny) l) : Ev (fun k => laws_eqStringS.f k l l) true := by
 unfold laws_eqStringS.f
 exact Ev.pos rfl (laws_eqStringS_l0 l hl l.length 0 (by omega))
theorem markText_l0 : ∀ (n : Nat) (x : Int) (s : ByteArray), 0 ≤ x → x < 2 ^ n → n ≤ 62 → s.size + n ≤ 1000 → ∃ r, Ev (fun k => laws_markText.l0 k x s) r
 | 0, x, s, h0, h1, h2, h3 => by
  have hx : x = 0 := by simp at h1; omega
  subst hx
  refine ⟨(⟨#[109]⟩ : ByteArray) ++ s, Ev.succ ?_⟩
  simp only [laws_markText.l0]
  exact Ev.neg (by omega) (Ev.pos (by omega) (Ev.now _))
 | n + 1, x, s, h0, h1, h2, h3 => by
  have hb : (2 : Int) ^ (n + 1) ≤ 2 ^ 62 := by exact_mod_cast Nat.pow_le_pow_right (by omega) h2
  by_cases hx : x > 0
  ·have hd : Int.tdiv x 10 = x / 10 := Int.tdiv_eq_ediv_of_nonneg h0
   have hp : (2 : Int) ^ (n + 1) = 2 ^ n * 2 := by rw [Int.pow_succ]
   obtain ⟨r, hr⟩ := markText_l0 n (x / 10) (strOfNums [(wrap64 (48 + (Int.tmod x 10))) % 256] ++ s) (by omega) (by omega) (by omega) (by rw [ByteArray.size_append, strOfNums_size]; simp; omega)
   refine ⟨r, Ev.succ ?_⟩
   simp only [laws_markText.l0, Option.bind_some]
   refine Ev.pos hx (Ev.pos (by rw [strOfNums_size]; simp; omega) ?_)
   rw [hd, w64 (x := x / 10) (by omega) (by omega)]
   exact hr
  ·refine ⟨(⟨#[109]⟩ : ByteArray) ++ s, Ev.succ ?_⟩
   simp only [laws_markText.l0]
   exact Ev.neg hx (Ev.pos (by omega) (Ev.now _))
theorem markText_ev (c : Int) (h1 : c < 4611686018427387904) : ∃ r, Ev (fun k => laws_markText.f k c) r := by
 unfold laws_markText.f
 by_cases h : c ≤ 0
 ·exact ⟨_, Ev.pos h (Ev.now _)⟩
 ·obtain ⟨r, hr⟩ := markText_l0 62 c (⟨#[]⟩ : ByteArray) (by omega) (by omega) (by omega) (by decide)
  exact ⟨r, Ev.neg h hr⟩
theorem laws_markStringS_l0 (n : Nat) (hn : n ≤ 4611686018427387904) : ∀ (d i : Nat) (y : List ByteArray) (c : Int), y.length = n → i + d = n → 1 ≤ c → c + ((ctList ctOne) (y.drop i) : Int) ≤ 2305843009213693952 → ((lnList smAny) y) → ∃ r z, r = c + ((ctList ctOne) (y.drop i) : Int) ∧ Ev (fun k => laws_markStringS.l0 k y c i) (r, z) ∧ z.length = n ∧ (∀ j, j < i → z[j]? = y[j]?) ∧ Ev (fun k => laws_heldStringS.l0 k z c i) r
 | 0, i, y, c, hy, hi, h1, hc, hL => by
  refine ⟨c, y, by rw [ct_end (by omega)]; simp, Ev.succ ?_, hy, fun _ _ => rfl, Ev.succ ?_⟩
  ·simp only [laws_markStringS.l0]
   exact Ev.neg (by omega) (Ev.now _)
  ·simp only [laws_heldStringS.l0]
   exact Ev.neg (by omega) (Ev.now _)
 | d + 1, i, y, c, hy, hi, h1, hc, hL => by
  obtain ⟨x, hx⟩ := get_some (l := y) (i := i) (by omega)
  have hs := all_get hL.2 hx
  have hcd := ct_drop (ct := ctOne) hx
  have hcx : ctOne x = ctOne x := rfl
  have o0 : ctOne x = 1 := rfl
  obtain ⟨s0, hs0⟩ := markText_ev (c) (by omega)
  obtain ⟨r, z, e, m, l, p, g⟩ := laws_markStringS_l0 n hn d (i + 1) (y.set i s0) (c + 1) (by simpa using hy) (by omega) (by omega) (by rw [ct_set]; omega) ⟨by rw [List.length_set]; exact hL.1, fun v hv => by
   rcases List.mem_or_eq_of_mem_set hv with h | h
   ·exact hL.2 v h
   ·subst h
    exact trivial⟩
  have hz : z[i]? = some s0 := by rw [p i (by omega)]; exact set_get (by omega)
  rw [ct_set] at e
  refine ⟨r, z, by omega, Ev.succ ?_, l, set_below p, Ev.succ ?_⟩
  ·have hlt : i < y.length := by omega
   simp only [laws_markStringS.l0, rdOf_get (z := ByteArray.empty) hx, Option.bind_some, Int.toNat_natCast, rdset_of hlt, List.set_set]
   refine Ev.pos (by omega) ?_
   simp (disch := omega) only [w64]
   refine Ev.bind hs0 (Ev.pos (by omega) ?_)
   rw [cast_succ]
   exact m
  ·simp only [laws_heldStringS.l0, rdOf_get (z := ByteArray.empty) hz]
   refine Ev.pos (by omega) (Ev.pos (by omega) ?_)
   simp (disch := omega) only [w64]
   refine Ev.bind hs0 (Ev.pos rfl ?_)
   rw [cast_succ]
   exact g
theorem laws_markStringS_ev (y : List ByteArray) (c : Int) (h1 : 1 ≤ c) (hc : c + ((ctList ctOne) y : Int) ≤ 2305843009213693952) (hL : (lnList smAny) y) : ∃ r z, r = c + ((ctList ctOne) y : Int) ∧ Ev (fun k => laws_markStringS.f k y c) (r, z) ∧ Ev (fun k => laws_heldStringS.f k z c) r ∧ z.length = y.length := by
 obtain ⟨r, z, e, m, l, _, g⟩ := laws_markStringS_l0 y.length hL.1 y.length 0 y c rfl (by omega) h1 (by simpa using hc) hL
 exact ⟨r, z, by simpa using e, m, g, l⟩
end Go.Proofs.YtokfpmkhfindmaaDoor.PFnExactRecords
