/- The program's Set returns what the reference's Set returns, for every list of leaves, place and value. No condition. -/
import Derived.Test.YtckgkhlgnblblaaBoilFnExactSet
namespace Go.Proofs.Ytckgkhlgnblblaa.Pure
open Go.RowKit Go.Proofs.Ytckgkhlgnblblaa.PFnExactSet Go.Proofs.YtckgkhlgnblblaaW.PrintWords Go.Proofs.YtckgkhlgnblblaaW.PrintLast Go.Proofs.YtckgkhlgnblblaaW.PrintMore
set_option maxRecDepth 100000
set_option linter.unusedVariables false
set_option linter.unusedSimpArgs false
theorem bound_i64 {x : Int} (h : okInt .i64 x) : -9223372036854775808 ≤ x ∧ x ≤ 9223372036854775807 := by
  have h : (Lit.int .i64 x).wf = true := h
  simp [Lit.wf, IntKind.min, IntKind.max, IntKind.bits, IntKind.signed] at h
  omega
theorem within_eq (a b c : Int) : impl_within.f a b c = some (decide (b ≤ a ∧ a ≤ c)) := by
  unfold impl_within.f
  by_cases h : a ≥ b
  · rw [if_pos h]; congr 1; simp; omega
  · rw [if_neg h]; congr 1; simp; omega
theorem in_eq (a b c : Int) : spec_l1In.f a b c = some (decide (b ≤ a ∧ a ≤ c)) := within_eq a b c
/-! leaves -/
theorem rd_nat (x : List S114) (j : Nat) : rd_T114 x (j : Int) = x.getD j z114 := rfl
theorem g_get {x : List S114} {i : Nat} (hi : i < x.length) : x.getD i z114 = x[i] := by
  rw [List.getD_eq_getElem?_getD, List.getElem?_eq_getElem hi]; rfl
def LOk (l : List S114) : Prop := ∀ j, j < l.length → (0 ≤ (l.getD j z114).f0 ∧ (l.getD j z114).f0 ≤ 255) ∧ (0 ≤ (l.getD j z114).f1 ∧ (l.getD j z114).f1 ≤ 1000000000) ∧ (0 < j → (l.getD (j - 1) z114).f0 < (l.getD j z114).f0)
theorem leaves_l0 (l : List S114) (hl : l.length ≤ 4611686018427387904) : ∀ (d i : Nat), i + d = l.length → ∃ r, Ev (fun k => spec_LeavesOk.l0 k l i) r ∧ Ev (fun k => impl_LeavesOk.l0 k l l (l.length : Int) i) r ∧
    (r = true ↔ ∀ j, i ≤ j → j < l.length → (0 ≤ (l.getD j z114).f0 ∧ (l.getD j z114).f0 ≤ 255) ∧ (0 ≤ (l.getD j z114).f1 ∧ (l.getD j z114).f1 ≤ 1000000000) ∧ (0 < j → (l.getD (j - 1) z114).f0 < (l.getD j z114).f0))
  | 0, i, hi => by
    refine ⟨true, Ev.succ ?_, Ev.succ ?_, ⟨fun _ j a b => absurd b (by omega), fun _ => rfl⟩⟩
    · simp only [spec_LeavesOk.l0]
      exact Ev.neg (by omega) (Ev.now _)
    · simp only [impl_LeavesOk.l0]
      exact Ev.neg (by omega) (Ev.now _)
  | d + 1, i, hi => by
    obtain ⟨r, h1, h2, h3⟩ := leaves_l0 l hl d (i + 1) (by omega)
    have key : ∃ r, Ev (fun k => spec_LeavesOk.l0 (k + 1) l i) r ∧ Ev (fun k => impl_LeavesOk.l0 (k + 1) l l (l.length : Int) i) r ∧
        (r = true ↔ ∀ j, i ≤ j → j < l.length → (0 ≤ (l.getD j z114).f0 ∧ (l.getD j z114).f0 ≤ 255) ∧ (0 ≤ (l.getD j z114).f1 ∧ (l.getD j z114).f1 ≤ 1000000000) ∧ (0 < j → (l.getD (j - 1) z114).f0 < (l.getD j z114).f0)) := by
      simp only [spec_LeavesOk.l0, impl_LeavesOk.l0, rd_nat, in_eq, within_eq, spec_l12Value.f, impl_isPlace.f, Option.bind_some]
      rw [w64 (x := (i : Int) + 1) (by omega) (by omega), cast_succ]
      by_cases c1 : 0 ≤ (l.getD i z114).f0 ∧ (l.getD i z114).f0 ≤ 255
      · by_cases c2 : 0 ≤ (l.getD i z114).f1 ∧ (l.getD i z114).f1 ≤ 1000000000
        · rw [decide_eq_true c1, decide_eq_true c2]
          by_cases h0 : (i : Int) > 0
          · have w : wrap64 ((i : Int) - 1) = ((i - 1 : Nat) : Int) := by rw [w64 (by omega) (by omega)]; omega
            rw [w]
            simp only [rd_nat]
            by_cases c3 : (l.getD i z114).f0 ≤ (l.getD (i - 1) z114).f0
            · refine ⟨false, Ev.pos (by omega) (Ev.pos (by omega) (Ev.pos (by simp) (Ev.pos (by simp) (Ev.pos h0 (Ev.pos (by omega) (Ev.pos (by omega) (Ev.pos c3 (Ev.now _)))))))), Ev.pos (by omega) (Ev.pos (by omega) (Ev.pos (by omega) (Ev.pos (by simp) (Ev.pos (by simp) (Ev.pos h0 (Ev.pos (by omega) (Ev.pos (by omega) (Ev.pos c3 (Ev.now _))))))))), ⟨fun z => by simp at z, fun z => ?_⟩⟩
              have := (z i (by omega) (by omega)).2.2 (by omega)
              omega
            · refine ⟨r, Ev.pos (by omega) (Ev.pos (by omega) (Ev.pos (by simp) (Ev.pos (by simp) (Ev.pos h0 (Ev.pos (by omega) (Ev.pos (by omega) (Ev.neg c3 h1))))))), Ev.pos (by omega) (Ev.pos (by omega) (Ev.pos (by omega) (Ev.pos (by simp) (Ev.pos (by simp) (Ev.pos h0 (Ev.pos (by omega) (Ev.pos (by omega) (Ev.neg c3 h2)))))))), h3.trans ⟨fun z j j1 j2 => ?_, fun z j j1 j2 => z j (by omega) j2⟩⟩
              by_cases e : j = i
              · subst e; exact ⟨c1, c2, fun _ => by omega⟩
              · exact z j (by omega) j2
          · refine ⟨r, Ev.pos (by omega) (Ev.pos (by omega) (Ev.pos (by simp) (Ev.pos (by simp) (Ev.neg h0 h1)))), Ev.pos (by omega) (Ev.pos (by omega) (Ev.pos (by omega) (Ev.pos (by simp) (Ev.pos (by simp) (Ev.neg h0 h2))))), h3.trans ⟨fun z j j1 j2 => ?_, fun z j j1 j2 => z j (by omega) j2⟩⟩
            by_cases e : j = i
            · subst e; exact ⟨c1, c2, fun h => absurd h (by omega)⟩
            · exact z j (by omega) j2
        · rw [decide_eq_true c1, decide_eq_false c2]
          exact ⟨false, Ev.pos (by omega) (Ev.pos (by omega) (Ev.pos (by simp) (Ev.neg (by simp) (Ev.now _)))), Ev.pos (by omega) (Ev.pos (by omega) (Ev.pos (by omega) (Ev.pos (by simp) (Ev.neg (by simp) (Ev.now _))))), ⟨fun z => by simp at z, fun z => absurd (z i (by omega) (by omega)).2.1 c2⟩⟩
      · rw [decide_eq_false c1]
        exact ⟨false, Ev.pos (by omega) (Ev.pos (by omega) (Ev.neg (by simp) (Ev.now _))), Ev.pos (by omega) (Ev.pos (by omega) (Ev.pos (by omega) (Ev.neg (by simp) (Ev.now _)))), ⟨fun z => by simp at z, fun z => absurd (z i (by omega) (by omega)).1 c1⟩⟩
    obtain ⟨r, k1, k2, k3⟩ := key
    exact ⟨r, Ev.succ k1, Ev.succ k2, k3⟩
theorem leaves_iff (l : List S114) (hl : l.length ≤ 4611686018427387904) : ∃ r, Ev (fun k => spec_LeavesOk.f k l) r ∧ Ev (fun k => impl_LeavesOk.f k l) r ∧ (r = true ↔ LOk l) := by
  obtain ⟨r, h1, h2, h3⟩ := leaves_l0 l hl l.length 0 (by omega)
  exact ⟨r, h1, h2, h3.trans ⟨fun z j jl => z j (by omega) jl, fun z j _ jl => z j jl⟩⟩

theorem lok_mono {l : List S114} (h : LOk l) : ∀ j, j < l.length → ∀ i, i < j → (l.getD i z114).f0 < (l.getD j z114).f0
  | 0, _, i, hi => by omega
  | j + 1, hj, i, hi => by
    have h1 := (h (j + 1) hj).2.2 (by omega)
    rw [Nat.add_sub_cancel] at h1
    rcases Nat.lt_or_ge i j with c | c
    · have := lok_mono h j (by omega) i c
      omega
    · have : i = j := by omega
      subst this
      exact h1
theorem lok_ge {l : List S114} (h : LOk l) : ∀ j, j < l.length → (j : Int) ≤ (l.getD j z114).f0
  | 0, hj => by have := (h 0 hj).1.1; omega
  | j + 1, hj => by
    have h1 := (h (j + 1) hj).2.2 (by omega)
    rw [Nat.add_sub_cancel] at h1
    have := lok_ge h j (by omega)
    omega
theorem lok_len {l : List S114} (h : LOk l) : l.length ≤ 256 := by
  rcases Nat.eq_zero_or_pos l.length with c | c
  · omega
  · have h1 := lok_ge h (l.length - 1) (by omega)
    have h2 := (h (l.length - 1) (by omega)).1.2
    omega
theorem lok_pw {l : List S114} (h : LOk l) : l.Pairwise (fun x y => x.f0 < y.f0) := by
  rw [List.pairwise_iff_getElem]
  intro i j hi hj hij
  have := lok_mono h j hj i hij
  rw [g_get hi, g_get hj] at this
  exact this
theorem lok_setP {l : List S114} (h : LOk l) {a : Int} (ha : 0 ≤ a ∧ a ≤ 255) : setP l a := ⟨by have := lok_len h; omega, fun i hi => (h i hi).1, lok_mono h, ha.1, ha.2⟩
def putL (a v : Int) : List S114 → List S114
  | [] => [⟨a, v⟩]
  | x :: r => if x.f0 ≥ a then ⟨a, v⟩ :: (x :: r).filter (fun y => decide (y.f0 ≠ a)) else x :: putL a v r
theorem big_filter {a : Int} : ∀ {r : List S114}, (∀ y, y ∈ r → a < y.f0) → r.filter (fun y => decide (y.f0 ≠ a)) = r := fun h => List.filter_eq_self.2 (fun y hy => by have := h y hy; simp; omega)
theorem bsN_zero {a : Int} {r : List S114} (h : ∀ y, y ∈ r → a ≤ y.f0) : bsN a r = 0 := List.countP_eq_zero.2 (fun y hy => by have := h y hy; simp; omega)
theorem bsN_cons {a : Int} {x : S114} {r : List S114} (h : x.f0 < a) : bsN a (x :: r) = bsN a r + 1 := List.countP_cons_of_pos (by simpa using h)
theorem bsF_cons {a : Int} {x : S114} {r : List S114} (h : x.f0 < a) : bsF a (x :: r) = bsF a r := by
  unfold bsF
  rw [bsN_cons h]
  simp
theorem setD_eq (a : Int) : ∀ l : List S114, l.Pairwise (fun x y => x.f0 < y.f0) → setD l a = l.filter (fun y => decide (y.f0 ≠ a))
  | [], _ => by simp [setD]
  | x :: r, h => by
    obtain ⟨h1, h2⟩ := List.pairwise_cons.1 h
    by_cases c : x.f0 < a
    · have ih := setD_eq a r h2
      have e : setD (x :: r) a = x :: setD r a := by
        unfold setD
        rw [bsF_cons c, bsN_cons c]
        split <;> simp
      rw [e, ih, List.filter_cons_of_pos (by simp; omega)]
    · have z0 : bsN a (x :: r) = 0 := bsN_zero (fun y hy => by
        rcases List.mem_cons.1 hy with rfl | hy
        · omega
        · have := h1 y hy; omega)
      have hr := big_filter (a := a) (r := r) (fun y hy => by have := h1 y hy; omega)
      unfold setD bsF
      rw [z0]
      by_cases e : x.f0 = a
      · rw [List.filter_cons_of_neg (by simp; omega), hr]
        simp [e]
      · rw [List.filter_cons_of_pos (by simp; omega), hr]
        simp [e]
theorem setF_put (a v : Int) (hv : v ≥ 0) : ∀ l : List S114, l.Pairwise (fun x y => x.f0 < y.f0) → setF l a v = putL a v l
  | [], _ => by simp [setF, setD, putL, hv, bsN]
  | x :: r, h => by
    obtain ⟨h1, h2⟩ := List.pairwise_cons.1 h
    have sd := setD_eq a (x :: r) h
    by_cases c : x.f0 < a
    · have ih := setF_put a v hv r h2
      have e : setD (x :: r) a = x :: setD r a := by
        unfold setD
        rw [bsF_cons c, bsN_cons c]
        split <;> simp
      unfold setF at ih ⊢
      rw [if_pos hv] at ih ⊢
      rw [e, bsN_cons c, List.take_succ_cons, List.drop_succ_cons, List.cons_append, ih]
      show x :: putL a v r = if x.f0 ≥ a then _ else x :: putL a v r
      rw [if_neg (by omega)]
    · have z0 : bsN a (x :: r) = 0 := bsN_zero (fun y hy => by
        rcases List.mem_cons.1 hy with rfl | hy
        · omega
        · have := h1 y hy; omega)
      unfold setF
      rw [if_pos hv, sd, z0]
      unfold putL
      rw [if_pos (by omega)]
      rfl
theorem put_len (a v : Int) : ∀ l : List S114, (putL a v l).length ≤ l.length + 1
  | [] => by simp [putL]
  | x :: r => by
    unfold putL
    split
    · have := List.length_filter_le (fun y : S114 => decide (y.f0 ≠ a)) (x :: r)
      simp only [List.length_cons] at this ⊢
      omega
    · have := put_len a v r
      simp only [List.length_cons]
      omega
theorem set_t (x : List S114) (hx : x.length ≤ 256) (a v : Int) : ∀ (d i : Nat) (out : List S114), i + d = x.length → out.length ≤ i + 1 → Ev (fun k => spec_Set.l0 k x a v out true i) (out ++ (x.drop i).filter (fun y => decide (y.f0 ≠ a)))
  | 0, i, out, hi, hb => by
    rw [List.drop_eq_nil_of_le (by omega)]
    refine Ev.succ ?_
    simp only [spec_Set.l0, List.filter_nil, List.append_nil]
    exact Ev.neg (by omega) (Ev.pos (by simp) (Ev.now _))
  | d + 1, i, out, hi, hb => by
    have w : wrap64 ((i : Int) + 1) = ((i + 1 : Nat) : Int) := by rw [w64 (by omega) (by omega), cast_succ]
    have hl : i < x.length := by omega
    refine Ev.succ ?_
    simp only [spec_Set.l0]
    refine Ev.pos (by omega) (Ev.pos (by simp) (Ev.succ ?_))
    simp only [spec_Set.j2, w, rd_nat]
    rw [List.drop_eq_getElem_cons hl, ← g_get hl]
    by_cases e : (x.getD i z114).f0 = a
    · rw [List.filter_cons_of_neg (by rw [decide_eq_true_iff]; exact fun h => h e)]
      exact Ev.neg (by simp) (Ev.pos (by omega) (Ev.pos (by omega) (Ev.pos e (set_t x hx a v d (i + 1) out (by omega) (by omega)))))
    · rw [List.filter_cons_of_pos (by rw [decide_eq_true_iff]; exact e)]
      have := set_t x hx a v d (i + 1) (out ++ [x.getD i z114]) (by omega) (by simp; omega)
      rw [List.append_assoc] at this
      exact Ev.neg (by simp) (Ev.pos (by omega) (Ev.pos (by omega) (Ev.neg e (Ev.pos (by omega) this))))
theorem set_f (x : List S114) (hx : x.length ≤ 256) (a v : Int) : ∀ (d i : Nat) (out : List S114), i + d = x.length → out.length ≤ i → Ev (fun k => spec_Set.l0 k x a v out false i) (out ++ putL a v (x.drop i))
  | 0, i, out, hi, hb => by
    rw [List.drop_eq_nil_of_le (by omega)]
    refine Ev.succ ?_
    simp only [spec_Set.l0, putL]
    exact Ev.neg (by omega) (Ev.neg (by simp) (Ev.pos (by omega) (Ev.now _)))
  | d + 1, i, out, hi, hb => by
    have w : wrap64 ((i : Int) + 1) = ((i + 1 : Nat) : Int) := by rw [w64 (by omega) (by omega), cast_succ]
    have hl : i < x.length := by omega
    refine Ev.succ ?_
    simp only [spec_Set.l0, rd_nat]
    refine Ev.pos (by omega) (Ev.neg (by simp) (Ev.pos (by omega) (Ev.succ ?_)))
    simp only [spec_Set.j2, w, rd_nat, Option.bind_some]
    rw [List.drop_eq_getElem_cons hl, ← g_get hl]
    by_cases c : (x.getD i z114).f0 ≥ a
    · unfold putL
      rw [if_pos c]
      refine Ev.pos (decide_eq_true c) (Ev.pos (by omega) (Ev.pos (by omega) (Ev.pos (by omega) ?_)))
      by_cases e : (x.getD i z114).f0 = a
      · rw [List.filter_cons_of_neg (by rw [decide_eq_true_iff]; exact fun h => h e)]
        have := set_t x hx a v d (i + 1) (out ++ [⟨a, v⟩]) (by omega) (by simp; omega)
        rw [List.append_assoc] at this
        exact Ev.pos e this
      · rw [List.filter_cons_of_pos (by rw [decide_eq_true_iff]; exact e)]
        have := set_t x hx a v d (i + 1) ((out ++ [⟨a, v⟩]) ++ [x.getD i z114]) (by omega) (by simp; omega)
        have e0 : ((out ++ [(⟨a, v⟩ : S114)]) ++ [x.getD i z114]) ++ (x.drop (i + 1)).filter (fun y => decide (y.f0 ≠ a)) = out ++ (⟨a, v⟩ :: x.getD i z114 :: (x.drop (i + 1)).filter (fun y => decide (y.f0 ≠ a))) := by
          simp only [List.append_assoc, List.cons_append, List.nil_append]
        rw [e0] at this
        exact Ev.neg e (Ev.pos (by simp; omega) this)
    · unfold putL
      rw [if_neg c]
      have := set_f x hx a v d (i + 1) (out ++ [x.getD i z114]) (by omega) (by simp; omega)
      rw [List.append_assoc] at this
      exact Ev.neg (fun h => c (of_decide_eq_true h)) (Ev.pos (by omega) (Ev.pos (by omega) (Ev.neg (by omega) (Ev.pos (by omega) this))))
theorem set_ev (l : List S114) (a v : Int) (hl : l.length ≤ 1048576) : ∃ out : List S114, out.length ≤ 257 ∧ Ev (fun k => spec_Set.f k l a v) out ∧ Ev (fun k => impl_Set.f k l a v) out := by
  obtain ⟨r, e1, e2, e3⟩ := leaves_iff l (by omega)
  unfold spec_Set.f impl_Set.f impl_isPlace.f spec_l12Value.f
  simp only [in_eq, within_eq, Option.bind_some]
  have no1 : Ev (fun k => spec_Set.j0 k l a v [] true) [] := Ev.succ (by simp only [spec_Set.j0]; exact Ev.pos (by simp) (Ev.now _))
  cases r with
  | false => exact ⟨[], by simp, Ev.bind e1 (Ev.neg (by simp) no1), Ev.bind e2 (Ev.neg (by simp) (Ev.now _))⟩
  | true =>
    have h := e3.1 rfl
    have hn := lok_len h
    by_cases c : 0 ≤ a ∧ a ≤ 255
    · rw [decide_eq_true c]
      by_cases q : -1 ≤ v ∧ v ≤ 1000000000
      · rw [decide_eq_true q]
        by_cases n : v = -1
        · have hset : setF l a v = l.filter (fun y => decide (y.f0 ≠ a)) := by unfold setF; rw [if_neg (by omega), setD_eq a l (lok_pw h)]
          refine ⟨setF l a v, by rw [hset]; have := List.length_filter_le (fun y : S114 => decide (y.f0 ≠ a)) l; omega, Ev.bind e1 (Ev.pos (by simp) (Ev.pos (by simp) (Ev.pos n (Ev.succ ?_)))), Ev.bind e2 (Ev.pos (by simp) (Ev.pos (by simp) (Ev.pos (by simp) (Ev.pos (lok_setP h c) (Ev.now _)))))⟩
          simp only [spec_Set.j0]
          rw [hset]
          have hb : (v == -1) = true := by simpa using n
          rw [hb]
          exact Ev.neg (by simp) (set_t l hn a v l.length 0 [] (by omega) (by simp))
        · have hv : v ≥ 0 := by omega
          have hset := setF_put a v hv l (lok_pw h)
          refine ⟨setF l a v, by rw [hset]; have := put_len a v l; omega, Ev.bind e1 (Ev.pos (by simp) (Ev.pos (by simp) (Ev.neg n ?_))), Ev.bind e2 (Ev.pos (by simp) (Ev.pos (by simp) (Ev.pos (by simp) (Ev.pos (lok_setP h c) (Ev.now _)))))⟩
          rw [decide_eq_true (show 0 ≤ v ∧ v ≤ 1000000000 by omega)]
          refine Ev.succ ?_
          simp only [spec_Set.j0]
          rw [hset]
          have hb : (v == -1) = false := by simpa using n
          rw [hb]
          exact Ev.neg (by simp) (set_f l hn a v l.length 0 [] (by omega) (by simp))
      · rw [decide_eq_false q]
        refine ⟨[], by simp, Ev.bind e1 (Ev.pos (by simp) (Ev.pos (by simp) (Ev.neg (by omega) ?_))), Ev.bind e2 (Ev.pos (by simp) (Ev.pos (by simp) (Ev.neg (by simp) (Ev.now _))))⟩
        rw [decide_eq_false (show ¬ (0 ≤ v ∧ v ≤ 1000000000) by omega)]
        exact no1
    · rw [decide_eq_false c]
      exact ⟨[], by simp, Ev.bind e1 (Ev.pos (by simp) (Ev.neg (by simp) no1)), Ev.bind e2 (Ev.pos (by simp) (Ev.neg (by simp) (Ev.now _)))⟩
theorem ct_le : ∀ y : List S114, (ctList ctS114) y ≤ 2 * y.length
  | [] => by simp [ctList]
  | x :: y => by
    have := ct_le y
    simp only [ctList, ctS114, ctOne, List.map_cons, List.sum_cons, List.length_cons] at this ⊢
    omega
theorem FnExactSet : laws_FnExactSet.Pure := by
  intro l a v hok _ _
  refine Ev.rounds (g := fun k => laws_FnExactSet.f k l a v) ?_
  unfold laws_FnExactSet.f
  obtain ⟨u, hu, _, hu1, hp⟩ := laws_szLeafS_ev l 1048576 (by omega) (by omega) hok
  refine Ev.bind hu (Ev.ite (fun _ => Ev.now _) (fun h => ?_))
  have hsm := hp (by omega)
  have hl1 := hsm.1
  have ht := laws_toLeafS_ev l hsm
  have hm : (l.map cv116).length ≤ 1048576 := by simpa using hl1
  generalize l.map cv116 = x at ht hm
  obtain ⟨out, ho, h1, h2⟩ := set_ev x a v hm
  have hc := ct_le x
  have hd := ct_le out
  obtain ⟨r1, z1, q1, m1, _, _⟩ := laws_markLeafS_ev x 1 (by omega) (by omega) ⟨by omega, fun _ _ => ⟨trivial, trivial⟩⟩
  obtain ⟨r2, z2, q2, m2, g2, _⟩ := laws_markLeafS_ev out 1 (by omega) (by omega) ⟨by omega, fun _ _ => ⟨trivial, trivial⟩⟩
  have p1 : ¬ r1 < 0 := by omega
  have p2 : ¬ r2 < 0 := by omega
  have ex := laws_eqLeafS_ev x ⟨by omega, fun _ _ => ⟨trivial, trivial⟩⟩
  have eo := laws_eqLeafS_ev out ⟨by omega, fun _ _ => ⟨trivial, trivial⟩⟩
  exact Ev.bind ht (Ev.bind h1 (Ev.bind ht (Ev.bind h2 (Ev.bind eo (Ev.pos rfl (Ev.bind ht (Ev.bind ex (Ev.pos rfl (Ev.bind m1 (Ev.neg p1 (Ev.bind eo (Ev.pos rfl (Ev.bind m2 (Ev.bind g2 (Ev.neg p2 (Ev.pos rfl (Ev.bind ht (Ev.bind h2 (Ev.bind eo (Ev.pos rfl (Ev.bind g2 (Ev.neg p2 (Ev.pos rfl (Ev.now _))))))))))))))))))))))))
end Go.Proofs.Ytckgkhlgnblblaa.Pure
