/- The program's BankOk returns what the reference's returns, for every bank. No condition. -/
import Derived.Test.YtgpofolfflfgiaaBoilFnExactBankOk
namespace Go.Proofs.Ytgpofolfflfgiaa.Pure
open Go.RowKit Go.Proofs.Ytgpofolfflfgiaa.PFnExactBankOk Go.Proofs.YtgpofolfflfgiaaW.PrintWords Go.Proofs.YtgpofolfflfgiaaW.PrintLast Go.Proofs.YtgpofolfflfgiaaW.PrintMore

theorem drop_sum {l : List Int} {i : Nat} {x : Int} (h : l[i]? = some x) : (l.drop i).sum = x + (l.drop (i + 1)).sum := by
  obtain ⟨hi, rfl⟩ := List.getElem?_eq_some_iff.1 h
  rw [List.drop_eq_getElem_cons hi, List.sum_cons]
theorem drop_all {l : List Int} {p : Int → Bool} {i : Nat} {x : Int} (h : l[i]? = some x) : (l.drop i).all p = (p x && (l.drop (i + 1)).all p) := by
  obtain ⟨hi, rfl⟩ := List.getElem?_eq_some_iff.1 h
  rw [List.drop_eq_getElem_cons hi, List.all_cons]
def btw (b c x : Int) : Bool := decide (x ≥ b) && decide (x ≤ c)
theorem in_some (a b c : Int) : spec_l1In.f a b c = some (btw b c a) := by
  unfold spec_l1In.f btw
  by_cases h : a ≥ b <;> simp [h]
theorem any_not (l : List Int) (c : Int) : (!(l.any fun x => !(decide (x ≥ 0) && decide (x ≤ c)))) = l.all (btw 0 c) := by
  induction l with
  | nil => rfl
  | cons x l ih => simp only [List.any_cons, List.all_cons, btw, ← ih, Bool.not_or, Bool.not_not]
theorem sum_l0 (l : List Int) (hl : l.length = 8) : ∀ (d i : Nat) (s : Int), i + d = l.length → (l.drop i).all (btw 0 1000000000) = true → 0 ≤ s → s ≤ i * 1000000000 → Ev (fun k => impl_sumOf.l0 k s l (l.length : Int) i) (s + (l.drop i).sum) := by
  intro d
  induction d with
  | zero =>
    intro i s hi _ _ _
    refine Ev.succ ?_
    simp only [impl_sumOf.l0]
    refine Ev.neg (by omega) ?_
    rw [List.drop_of_length_le (by omega)]
    simpa using Ev.now s
  | succ d ih =>
    intro i s hi ha h0 h1
    obtain ⟨x, hx⟩ := get_some (l := l) (i := i) (by omega)
    rw [drop_all hx, Bool.and_eq_true] at ha
    obtain ⟨a1, a2⟩ := ha
    simp only [btw, Bool.and_eq_true, decide_eq_true_eq] at a1
    refine Ev.succ ?_
    simp only [impl_sumOf.l0, rd_get hx]
    refine Ev.pos (by omega) (Ev.pos (by omega) (Ev.pos (by omega) ?_))
    rw [w64 (x := (i : Int) + 1) (by omega) (by omega), w64 (by omega) (by omega), cast_succ, drop_sum hx, ← Int.add_assoc]
    exact ih (i + 1) _ (by omega) a2 (by omega) (by omega)
theorem bank_l0 (m c : List Int) (hm : m.length = 8) (hc : c.length = 8) : ∀ (d i : Nat) (s : Int), i + d = 8 → 0 ≤ s → s ≤ i * 1000000000 → Ev (fun k => spec_BankOk.l0 k s i m c) ((m.drop i).all (btw 0 1000000000) && ((c.drop i).all (btw 0 1000000) && decide (s + (m.drop i).sum ≤ 1000000000))) := by
  intro d
  induction d with
  | zero =>
    intro i s hi _ _
    refine Ev.succ ?_
    simp only [spec_BankOk.l0]
    refine Ev.neg (by omega) ?_
    rw [List.drop_of_length_le (by omega), List.drop_of_length_le (by omega)]
    simpa using Ev.now (decide (s ≤ 1000000000))
  | succ d ih =>
    intro i s hi h0 h1
    obtain ⟨x, hx⟩ := get_some (l := m) (i := i) (by omega)
    obtain ⟨y, hy⟩ := get_some (l := c) (i := i) (by omega)
    rw [drop_all hx, drop_all hy, drop_sum hx]
    refine Ev.succ ?_
    simp only [spec_BankOk.l0, spec_l12Value.f, rd_get hx, rd_get hy, in_some, Option.bind_some]
    refine Ev.pos (by omega) (Ev.pos (by omega) (Ev.pos (by omega) ?_))
    cases b1 : btw 0 1000000000 x with
    | false => exact Ev.neg (by decide) (Ev.now _)
    | true =>
      refine Ev.pos rfl (Ev.pos (by omega) ?_)
      cases b2 : btw 0 1000000 y with
      | false =>
        refine Ev.neg (by decide) ?_
        simp only [Bool.false_and, Bool.and_false]
        exact Ev.now _
      | true =>
        refine Ev.pos rfl ?_
        simp only [btw, Bool.and_eq_true, decide_eq_true_eq] at b1
        rw [w64 (x := (i : Int) + 1) (by omega) (by omega), w64 (by omega) (by omega), cast_succ, ← Int.add_assoc]
        simp only [Bool.true_and]
        exact ih (i + 1) _ (by omega) (by omega) (by omega)
def okBank (m c : List Int) : Bool := if m.length = 8 ∧ c.length = 8 then (m.all (btw 0 1000000000) && (c.all (btw 0 1000000) && decide (m.sum ≤ 1000000000))) else false
theorem spec_ok (m c : List Int) : Ev (fun k => spec_BankOk.f k m c) (okBank m c) := by
  unfold spec_BankOk.f okBank
  by_cases hm : m.length = 8
  · by_cases hc : c.length = 8
    · rw [if_pos ⟨hm, hc⟩]
      refine Ev.pos (by omega) (Ev.succ ?_)
      simp only [spec_BankOk.j0]
      refine Ev.neg (by simp [hc]) ?_
      have := bank_l0 m c hm hc 8 0 0 (by omega) (by omega) (by omega)
      simpa using this
    · rw [if_neg (by omega)]
      refine Ev.pos (by omega) (Ev.succ ?_)
      simp only [spec_BankOk.j0]
      exact Ev.pos (by simp; omega) (Ev.now _)
  · rw [if_neg (by omega)]
    refine Ev.neg (by omega) (Ev.succ ?_)
    simp only [spec_BankOk.j0]
    exact Ev.pos (by simp) (Ev.now _)
theorem are (l : List Int) (c : Int) : impl_areWithin.f l c = some (if l.length = 8 then l.all (btw 0 c) else false) := by
  unfold impl_areWithin.f
  rw [any_not]
  by_cases h : l.length = 8
  · rw [if_pos h, if_pos (by omega)]
  · rw [if_neg h, if_neg (by omega)]
theorem sum_ev (m : List Int) (hm : m.length = 8) (ha : m.all (btw 0 1000000000) = true) : Ev (fun k => impl_sumOf.f k m) m.sum := by
  unfold impl_sumOf.f
  have := sum_l0 m hm 8 0 0 (by omega) (by simpa using ha) (by omega) (by omega)
  simpa using this
theorem impl_ok (m c : List Int) : Ev (fun k => impl_BankOk.f k m c) (okBank m c) := by
  unfold impl_BankOk.f okBank
  simp only [are, Option.bind_some]
  by_cases hm : m.length = 8
  · rw [if_pos hm]
    cases b1 : m.all (btw 0 1000000000) with
    | false =>
      refine Ev.neg (by decide) ?_
      simp only [Bool.false_and, ite_self]
      exact Ev.now _
    | true =>
      refine Ev.pos rfl ?_
      by_cases hc : c.length = 8
      · rw [if_pos hc, if_pos ⟨hm, hc⟩]
        cases b2 : c.all (btw 0 1000000) with
        | false => exact Ev.neg (by decide) (Ev.now _)
        | true => exact Ev.pos rfl (Ev.bind (sum_ev m hm b1) (Ev.now _))
      · rw [if_neg hc, if_neg (show ¬ (m.length = 8 ∧ c.length = 8) by omega)]
        exact Ev.neg (by decide) (Ev.now _)
  · rw [if_neg hm, if_neg (show ¬ (m.length = 8 ∧ c.length = 8) by omega)]
    exact Ev.neg (by decide) (Ev.now _)
theorem FnExactBankOk : laws_FnExactBankOk.Pure := by
  intro m c hm hc
  refine Ev.rounds (g := fun k => laws_FnExactBankOk.f k m c) ?_
  unfold laws_FnExactBankOk.f
  obtain ⟨t, e, l0, l1, hs⟩ := laws_szBank_ev m c 1048576 (by omega) (by omega) hm hc
  refine Ev.bind e ?_
  by_cases ht : t < 0
  · exact Ev.pos ht (Ev.now _)
  · refine Ev.neg ht ?_
    obtain ⟨sm, sc⟩ := hs (by omega)
    have hto := laws_toBank_ev m c sm sc
    have heq := laws_eqBank_ev m c ⟨by have := sm.1; omega, sm.2⟩ ⟨by have := sc.1; omega, sc.2⟩
    exact Ev.bind hto (Ev.bind (spec_ok m c) (Ev.bind hto (Ev.bind (impl_ok m c) (Ev.neg (by simp) (Ev.bind hto (Ev.bind heq (Ev.pos rfl (Ev.now _))))))))

end Go.Proofs.Ytgpofolfflfgiaa.Pure
