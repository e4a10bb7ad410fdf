/- The pool tells its offers in order, each once, and what is offered is told (the statement FnPool, for every code). No condition. -/
import Derived.Test.YtckgkhlgnblblaaBoilFnPool
import Derived.Test.YtckgkhlgnblblaaPFnPoolx13
namespace Go.Proofs.Ytckgkhlgnblblaa.Pure
open Go.RowKit Go.Proofs.Ytckgkhlgnblblaa.PFnPool Go.Proofs.YtckgkhlgnblblaaW.PrintWords Go.Proofs.YtckgkhlgnblblaaW.PrintLast Go.Proofs.YtckgkhlgnblblaaW.PrintMore
set_option linter.unusedVariables false
set_option linter.unusedSimpArgs false

theorem rdS_T86 {l : List (S86)} {i : Nat} {x : S86} (h : l[i]? = some x) : rd_T86 l (i : Int) = x := getD_lt h
theorem g_of {x : List S86} {i : Nat} {a : S86} (h : x[i]? = some a) : x.getD i z86 = a := getD_lt h
theorem in_some (a b c : Int) : ∃ r, spec_l1In.f a b c = some r ∧ impl_within.f a b c = some r ∧ (r = true ↔ b ≤ a ∧ a ≤ c) := by
  unfold spec_l1In.f impl_within.f
  split
  · exact ⟨_, rfl, rfl, by simp; omega⟩
  · exact ⟨_, rfl, rfl, by simp; omega⟩
def OkO (o : S86) : Prop := 0 ≤ o.f0 ∧ o.f0 ≤ 1000000000 ∧ (o.f1.size : Int) ≤ 60
theorem offer_ok (o : S86) : ∃ r, spec_l14Offer.f o.f0 o.f1 = some r ∧ impl_offerOk.f o.f0 o.f1 = some r ∧ (r = true ↔ OkO o) := by
  obtain ⟨r, e, f, h⟩ := in_some o.f0 0 1000000000
  simp only [spec_l14Offer.f, spec_l12Value.f, impl_offerOk.f, e, f, Option.bind_some]
  cases r with
  | false => exact ⟨_, rfl, rfl, ⟨fun z => by simp at z, fun z => absurd (h.2 ⟨z.1, z.2.1⟩) (by simp)⟩⟩
  | true =>
    have := h.1 rfl
    exact ⟨_, rfl, rfl, by rw [decide_eq_true_iff]; exact ⟨fun z => ⟨this.1, this.2, z⟩, fun z => z.2.2⟩⟩
theorem half {i : Nat} (h0 : (i : Int) > 0) (h : i ≤ 4611686018427387904) : wrap64 (Int.tdiv (wrap64 ((i : Int) - 1)) 2) = (((i - 1) / 2 : Nat) : Int) := by
  rw [w64 (x := (i : Int) - 1) (by omega) (by omega), show Int.tdiv ((i : Int) - 1) 2 = ((i : Int) - 1) / 2 from Int.tdiv_eq_ediv_of_nonneg (by omega), w64 (by omega) (by omega)]
  omega
def ahd (a b : S86) : Bool := if a.f0 > b.f0 then true else if a.f0 = b.f0 then Op.bytesLess a.f1.toList b.f1.toList else false
theorem ahd_spec (a b : S86) : spec_l14Ahead.f a.f0 a.f1 b.f0 b.f1 = some (ahd a b) := by
  unfold spec_l14Ahead.f ahd
  split
  · rfl
  · split <;> rfl
theorem ahd_impl (a b : S86) : impl_Offer_ahead.f a.f0 a.f1 b.f0 b.f1 = some (ahd a b) := by
  unfold impl_Offer_ahead.f ahd
  split
  · rfl
  · split <;> rfl
theorem rd_nat (x : List S86) (j : Nat) : rd_T86 x (j : Int) = x.getD j z86 := rfl
/-- What is out of its place goes down. -/
def sift : Nat → List S86 → Nat → List S86
  | 0, x, _ => x
  | f + 1, x, i =>
    if 2 * i + 1 < x.length then
      if 2 * i + 2 < x.length ∧ ahd (x.getD (2 * i + 2) z86) (x.getD (2 * i + 1) z86) = true then
        if ahd (x.getD (2 * i + 2) z86) (x.getD i z86) = true then sift f ((x.set i (x.getD (2 * i + 2) z86)).set (2 * i + 2) (x.getD i z86)) (2 * i + 2) else x
      else if ahd (x.getD (2 * i + 1) z86) (x.getD i z86) = true then sift f ((x.set i (x.getD (2 * i + 1) z86)).set (2 * i + 1) (x.getD i z86)) (2 * i + 1) else x
    else x
theorem sift_len : ∀ (f : Nat) (x : List S86) (i : Nat), (sift f x i).length = x.length
  | 0, x, i => rfl
  | f + 1, x, i => by
    unfold sift
    repeat' split
    all_goals first | rfl | (rw [sift_len]; simp)
theorem sift_ev (L : List S86) (hL : 0 < L.length) (a : Int) (c : ByteArray) (n : Nat) (hn : n ≤ 1048576) : ∀ (f : Nat) (x : List S86) (i : Nat) (o : S86), x.length = n → n ≤ f + i → i < n → x.getD i z86 = o →
    Ev (fun k => spec_l14Next.l0 k (n : Int) x i a c o.f0 o.f1) (a, c, sift f x i) ∧ Ev (fun k => impl_next.l0 k L (n : Int) x i) ((rd_T86 L 0).f0, (rd_T86 L 0).f1, sift f x i)
  | 0, x, i, o, hx, hf, hi, ho => absurd hf (by omega)
  | f + 1, x, i, o, hx, hf, hi, ho => by
    have w0 : wrap64 (2 * (i : Int)) = ((2 * i : Nat) : Int) := by rw [w64 (by omega) (by omega)]; omega
    have w1 : wrap64 (((2 * i : Nat) : Int) + 1) = ((2 * i + 1 : Nat) : Int) := by rw [w64 (by omega) (by omega)]; omega
    have w2 : wrap64 (((2 * i + 1 : Nat) : Int) + 1) = ((2 * i + 2 : Nat) : Int) := by rw [w64 (by omega) (by omega)]; omega
    have J : ∀ (b : Bool) (q : Nat), q = (if b = true then 2 * i + 2 else 2 * i + 1) → q < n →
        Ev (fun k => spec_l14Next.j1 k (n : Int) x i ((2 * i + 1 : Nat) : Int) b a c o.f0 o.f1) (a, c, if ahd (x.getD q z86) (x.getD i z86) = true then sift f ((x.set i (x.getD q z86)).set q (x.getD i z86)) q else x) ∧
        Ev (fun k => impl_next.j1 k L (n : Int) x i ((2 * i + 1 : Nat) : Int) b) ((rd_T86 L 0).f0, (rd_T86 L 0).f1, if ahd (x.getD q z86) (x.getD i z86) = true then sift f ((x.set i (x.getD q z86)).set q (x.getD i z86)) q else x) := by
      intro b q hq hqn
      have hqi : i < q := by rw [hq]; split <;> omega
      have ih := sift_ev L hL a c n hn f ((x.set i (x.getD q z86)).set q (x.getD i z86)) q o (by simpa using hx) (by omega) hqn (by rw [getD_lt (set_get (by simp; omega))]; exact ho)
      have es := ahd_spec (x.getD q z86) o
      have ei := ahd_impl (x.getD q z86) o
      rw [ho] at ih ⊢
      cases b with
      | true =>
        obtain rfl : q = 2 * i + 2 := by simpa using hq
        constructor
        · refine Ev.succ ?_
          simp only [spec_l14Next.j1, w2, rd_nat, es, Option.bind_some, Int.toNat_natCast, if_true]
          refine Ev.neg (by omega) (Ev.pos (by omega) (Ev.pos (by omega) ?_))
          cases ahd (x.getD (2 * i + 2) z86) o with
          | true => exact Ev.pos rfl (Ev.pos (by omega) (Ev.pos (by omega) ih.1))
          | false => exact Ev.neg (by simp) (Ev.now _)
        · refine Ev.succ ?_
          simp only [impl_next.j1, w2, rd_nat, ho, ei, Option.bind_some, Int.toNat_natCast, if_true]
          refine Ev.pos (by omega) (Ev.pos (by omega) (Ev.pos (by omega) (Ev.pos (by omega) ?_)))
          cases ahd (x.getD (2 * i + 2) z86) o with
          | true => exact Ev.pos rfl ih.2
          | false => exact Ev.neg (by simp) (Ev.pos (by omega) (Ev.now _))
      | false =>
        obtain rfl : q = 2 * i + 1 := by simpa using hq
        have nf : ¬ (false = true) := by simp
        constructor
        · refine Ev.succ ?_
          simp only [spec_l14Next.j1, rd_nat, es, Option.bind_some, Int.toNat_natCast, if_neg nf]
          refine Ev.neg (by omega) (Ev.pos (by omega) (Ev.pos (by omega) ?_))
          cases ahd (x.getD (2 * i + 1) z86) o with
          | true => exact Ev.pos rfl (Ev.pos (by omega) (Ev.pos (by omega) ih.1))
          | false => exact Ev.neg (by simp) (Ev.now _)
        · refine Ev.succ ?_
          simp only [impl_next.j1, rd_nat, ho, ei, Option.bind_some, Int.toNat_natCast, if_neg nf]
          refine Ev.pos (by omega) (Ev.pos (by omega) (Ev.pos (by omega) (Ev.pos (by omega) ?_)))
          cases ahd (x.getD (2 * i + 1) z86) o with
          | true => exact Ev.pos rfl ih.2
          | false => exact Ev.neg (by simp) (Ev.pos (by omega) (Ev.now _))
    have es := ahd_spec (x.getD (2 * i + 2) z86) (x.getD (2 * i + 1) z86)
    have ei := ahd_impl (x.getD (2 * i + 2) z86) (x.getD (2 * i + 1) z86)
    have key : Ev (fun k => spec_l14Next.l0 (k + 1) (n : Int) x i a c o.f0 o.f1) (a, c, sift (f + 1) x i) ∧ Ev (fun k => impl_next.l0 (k + 1) L (n : Int) x i) ((rd_T86 L 0).f0, (rd_T86 L 0).f1, sift (f + 1) x i) := by
      simp only [spec_l14Next.l0, impl_next.l0, sift, w0, w1, w2, rd_nat, es, ei, Option.bind_some, hx]
      by_cases h1 : 2 * i + 1 < n
      · rw [if_pos h1]
        by_cases h2 : 2 * i + 2 < n
        · cases hb : ahd (x.getD (2 * i + 2) z86) (x.getD (2 * i + 1) z86) with
          | true =>
            obtain ⟨j1, j2⟩ := J true (2 * i + 2) (by simp) h2
            rw [if_pos ⟨h2, rfl⟩]
            exact ⟨Ev.pos (by omega) (Ev.pos (by omega) (Ev.pos (by omega) (Ev.pos (by omega) (Ev.pos (by omega) j1)))), Ev.pos (by omega) (Ev.pos (by omega) (Ev.pos (by omega) (Ev.pos (by omega) (Ev.pos (by omega) (Ev.pos (by omega) j2)))))⟩
          | false =>
            obtain ⟨j1, j2⟩ := J false (2 * i + 1) (by simp) h1
            rw [if_neg (fun h => by simp at h)]
            exact ⟨Ev.pos (by omega) (Ev.pos (by omega) (Ev.pos (by omega) (Ev.pos (by omega) (Ev.pos (by omega) j1)))), Ev.pos (by omega) (Ev.pos (by omega) (Ev.pos (by omega) (Ev.pos (by omega) (Ev.pos (by omega) (Ev.pos (by omega) j2)))))⟩
        · obtain ⟨j1, j2⟩ := J false (2 * i + 1) (by simp) h1
          rw [if_neg (fun h => h2 h.1)]
          exact ⟨Ev.neg (by omega) j1, Ev.pos (by omega) (Ev.neg (by omega) j2)⟩
      · rw [if_neg h1]
        refine ⟨Ev.neg (by omega) (Ev.succ ?_), Ev.neg (by omega) (Ev.pos (by omega) (Ev.now _))⟩
        simp only [spec_l14Next.j1]
        exact Ev.neg (by simp) (Ev.pos (by omega) (Ev.now _))
    exact ⟨Ev.succ key.1, Ev.succ key.2⟩
/-- A pool without its first offer. -/
def rest (L : List S86) : List S86 := if L.length = 1 then [] else sift L.length ((L.take (L.length - 1)).set 0 (L.getD (L.length - 1) z86)) 0
theorem rest_len (L : List S86) : (rest L).length = L.length - 1 := by
  unfold rest
  split
  · simp; omega
  · rw [sift_len]; simp
theorem next_ev (L : List S86) (h0 : 0 < L.length) (h1 : L.length ≤ 1048576) :
    Ev (fun k => spec_l14Next.f k L) ((L.getD 0 z86).f0, (L.getD 0 z86).f1, rest L) ∧ Ev (fun k => impl_next.f k L) ((L.getD 0 z86).f0, (L.getD 0 z86).f1, rest L) := by
  have w : wrap64 ((L.length : Int) - 1) = ((L.length - 1 : Nat) : Int) := by rw [w64 (by omega) (by omega)]; omega
  have r0 : rd_T86 L 0 = L.getD 0 z86 := rfl
  unfold spec_l14Next.f impl_next.f impl_Offer.f
  simp only [w, rd_nat, r0, Option.bind_some, List.nil_append, Int.toNat_natCast]
  by_cases h : L.length = 1
  · have er : rest L = [] := by unfold rest; rw [if_pos h]
    have et : L.take (L.length - 1) = [] := by rw [h]; rfl
    rw [er, et]
    refine ⟨Ev.pos (by omega) (Ev.pos (by omega) (Ev.pos (by omega) (Ev.pos (by omega) (Ev.pos (by simp) (Ev.pos (by omega) (Ev.now _)))))), Ev.pos (by omega) (Ev.pos (by omega) ?_)⟩
    rw [if_pos (by simp)]
    simp only [Option.bind_some]
    exact Ev.pos (by omega) (Ev.pos (by omega) (Ev.now _))
  · have hl : (L.take (L.length - 1)).length = L.length - 1 := by simp
    obtain ⟨j1, j2⟩ := sift_ev L h0 (L.getD 0 z86).f0 (L.getD 0 z86).f1 (L.length - 1) (by omega) L.length ((L.take (L.length - 1)).set 0 (L.getD (L.length - 1) z86)) 0 (L.getD (L.length - 1) z86) (by simp) (by omega) (by omega) (getD_lt (set_get (by omega)))
    have er : rest L = sift L.length ((L.take (L.length - 1)).set 0 (L.getD (L.length - 1) z86)) 0 := by unfold rest; rw [if_neg h]
    rw [er]
    refine ⟨Ev.pos (by omega) (Ev.pos (by omega) (Ev.pos (by omega) (Ev.pos (by omega) (Ev.pos (by simp; omega) (Ev.neg (by omega) (Ev.pos (by omega) j1)))))), Ev.pos (by omega) (Ev.pos (by omega) ?_)⟩
    rw [if_pos (by simp; omega)]
    simp only [Option.bind_some]
    exact Ev.neg (by omega) (Ev.pos (by omega) (Ev.pos (by omega) j2))

/-! the order of offers -/
theorem bl_irr : ∀ a : List UInt8, Op.bytesLess a a = false
  | [] => rfl
  | x :: a => by simp [Op.bytesLess, bl_irr a, UInt8.lt_irrefl]
theorem bl_cons (x y : UInt8) (a b : List UInt8) : Op.bytesLess (x :: a) (y :: b) = true ↔ x.toNat < y.toNat ∨ x = y ∧ Op.bytesLess a b = true := by
  rcases Nat.lt_trichotomy x.toNat y.toNat with h | h | h
  · have h1 : x < y := h
    simp [Op.bytesLess, h1, h]
  · have h1 : x = y := UInt8.toNat_inj.1 h
    subst h1
    simp [Op.bytesLess, UInt8.lt_irrefl]
  · have h1 : y < x := h
    have h2 : ¬ x < y := by simp only [UInt8.lt_iff_toNat_lt]; omega
    have h3 : x ≠ y := by intro e; subst e; omega
    have h4 : ¬ x.toNat < y.toNat := by omega
    simp [Op.bytesLess, h2, h3, h4]
theorem bl_tr : ∀ a b c : List UInt8, Op.bytesLess a b = false → Op.bytesLess b c = false → Op.bytesLess a c = false
  | a, b, [], _, _ => by cases a <;> rfl
  | [], [], _ :: _, _, h => by simp [Op.bytesLess] at h
  | [], _ :: _, _ :: _, h, _ => by simp [Op.bytesLess] at h
  | _ :: _, [], _ :: _, _, h => by simp [Op.bytesLess] at h
  | x :: a, y :: b, z :: c, h, k => by
    rw [← Bool.not_eq_true, bl_cons] at h k ⊢
    rintro (q | ⟨q, r⟩)
    · apply h
      rcases Nat.lt_or_ge x.toNat y.toNat with w | w
      · exact .inl w
      · exact absurd (.inl (by omega)) k
    · subst q
      rcases Nat.lt_trichotomy x.toNat y.toNat with w | w | w
      · exact h (.inl w)
      · have e : x = y := UInt8.toNat_inj.1 w
        subst e
        have h' : Op.bytesLess a b = false := by rw [← Bool.not_eq_true]; exact fun t => h (.inr ⟨rfl, t⟩)
        have k' : Op.bytesLess b c = false := by rw [← Bool.not_eq_true]; exact fun t => k (.inr ⟨rfl, t⟩)
        rw [bl_tr a b c h' k'] at r
        exact absurd r (by simp)
      · exact k (.inl w)
theorem bl_as : ∀ a b : List UInt8, Op.bytesLess a b = true → Op.bytesLess b a = false
  | [], [], _ => rfl
  | [], _ :: _, _ => rfl
  | _ :: _, [], h => by simp [Op.bytesLess] at h
  | x :: a, y :: b, h => by
    rw [← Bool.not_eq_true, bl_cons]
    rw [bl_cons] at h
    rintro (q | ⟨q, r⟩)
    · rcases h with w | ⟨w, _⟩
      · omega
      · subst w; omega
    · subst q
      rcases h with w | ⟨_, w⟩
      · omega
      · rw [bl_as _ _ w] at r; exact absurd r (by simp)
theorem ah_no {a b : S86} : ahd a b = false ↔ a.f0 ≤ b.f0 ∧ (a.f0 = b.f0 → Op.bytesLess a.f1.toList b.f1.toList = false) := by
  unfold ahd
  by_cases h : a.f0 > b.f0
  · simp [h]; omega
  · by_cases e : a.f0 = b.f0
    · simp [e]
    · simp [h, e]; omega
theorem ah_irr (a : S86) : ahd a a = false := ah_no.2 ⟨by omega, fun _ => bl_irr _⟩
theorem ah_tr {a b c : S86} (h : ahd a b = false) (k : ahd b c = false) : ahd a c = false := by
  rw [ah_no] at h k ⊢
  exact ⟨by omega, fun e => bl_tr _ _ _ (h.2 (by omega)) (k.2 (by omega))⟩
theorem ah_as {a b : S86} (h : ahd a b = true) : ahd b a = false := by
  rw [ah_no]
  unfold ahd at h
  by_cases c : a.f0 > b.f0
  · exact ⟨by omega, by omega⟩
  · rw [if_neg c] at h
    by_cases e : a.f0 = b.f0
    · rw [if_pos e] at h
      exact ⟨by omega, fun _ => bl_as _ _ h⟩
    · rw [if_neg e] at h
      exact absurd h (by simp)
/-! heaps -/
theorem g_set {x : List S86} {i : Nat} (v : S86) (j : Nat) (hi : i < x.length) : (x.set i v).getD j z86 = if i = j then v else x.getD j z86 := by
  rw [List.getD_eq_getElem?_getD, List.getElem?_set, List.getD_eq_getElem?_getD]
  by_cases h : i = j
  · subst h; simp [hi]
  · simp [h]
def swp (x : List S86) (i p : Nat) : List S86 := (x.set i (x.getD p z86)).set p (x.getD i z86)
theorem swp_len (x : List S86) (i p : Nat) : (swp x i p).length = x.length := by simp [swp]
theorem g_swp {x : List S86} {i p : Nat} (hi : i < x.length) (hp : p < x.length) (j : Nat) : (swp x i p).getD j z86 = if p = j then x.getD i z86 else if i = j then x.getD p z86 else x.getD j z86 := by
  unfold swp
  rw [g_set _ _ (by simpa using hp), g_set _ _ hi]
theorem g_get {x : List S86} {i : Nat} (hi : i < x.length) : x.getD i z86 = x[i] := by
  rw [List.getD_eq_getElem?_getD, List.getElem?_eq_getElem hi]; rfl
theorem swp_perm {x : List S86} {i p : Nat} (hi : i < x.length) (hp : p < x.length) : (swp x i p).Perm x := by
  unfold swp
  rw [g_get hi, g_get hp]
  exact List.set_set_perm hi hp
def HP (x : List S86) : Prop := ∀ j, 0 < j → j < x.length → ahd (x.getD j z86) (x.getD ((j - 1) / 2) z86) = false
theorem top {x : List S86} (h : HP x) : ∀ n j, j < n → j < x.length → ahd (x.getD j z86) (x.getD 0 z86) = false
  | 0, j, hn, _ => absurd hn (by omega)
  | n + 1, j, hn, hj => by
    by_cases h0 : j = 0
    · subst h0; exact ah_irr _
    · exact ah_tr (h j (by omega) hj) (top h n ((j - 1) / 2) (by omega) (by omega))
def lift : Nat → List S86 → Nat → List S86
  | 0, x, _ => x
  | n + 1, x, i => if 0 < i then if ahd (x.getD i z86) (x.getD ((i - 1) / 2) z86) = true then lift n (swp x i ((i - 1) / 2)) ((i - 1) / 2) else x else x
theorem lift_ok : ∀ (n : Nat) (x : List S86) (i : Nat), i < n → i < x.length → (∀ j, 0 < j → j < x.length → j ≠ i → ahd (x.getD j z86) (x.getD ((j - 1) / 2) z86) = false) →
    (0 < i → ∀ j, 0 < j → j < x.length → (j - 1) / 2 = i → ahd (x.getD j z86) (x.getD ((i - 1) / 2) z86) = false) → HP (lift n x i) ∧ (lift n x i).Perm x
  | 0, x, i, hn, _, _, _ => absurd hn (by omega)
  | n + 1, x, i, hn, hi, h1, h2 => by
    unfold lift
    by_cases h0 : 0 < i
    · rw [if_pos h0]
      by_cases ha : ahd (x.getD i z86) (x.getD ((i - 1) / 2) z86) = true
      · rw [if_pos ha]
        have hp : (i - 1) / 2 < x.length := by omega
        have ha' := ah_as ha
        obtain ⟨a, b⟩ := lift_ok n (swp x i ((i - 1) / 2)) ((i - 1) / 2) (by omega) (by rw [swp_len]; omega) (fun j j0 jl jn => by
          rw [swp_len] at jl
          rw [g_swp hi hp, g_swp hi hp]
          by_cases e : i = j
          · subst e
            rw [if_neg (by omega), if_pos rfl, if_pos rfl]
            exact ha'
          · rw [if_neg (by omega), if_neg e]
            by_cases e2 : (i - 1) / 2 = (j - 1) / 2
            · rw [if_pos e2]
              exact ah_tr (e2 ▸ h1 j j0 jl (by omega)) ha'
            · rw [if_neg e2]
              by_cases e3 : i = (j - 1) / 2
              · rw [if_pos e3]
                exact h2 h0 j j0 jl e3.symm
              · rw [if_neg e3]
                exact h1 j j0 jl (by omega)) (fun p0 j j0 jl je => by
          rw [swp_len] at jl
          rw [g_swp hi hp, g_swp hi hp]
          rw [if_neg (show ¬ (i - 1) / 2 = j by omega), if_neg (show ¬ (i - 1) / 2 = ((i - 1) / 2 - 1) / 2 by omega), if_neg (show ¬ i = ((i - 1) / 2 - 1) / 2 by omega)]
          have hq := h1 ((i - 1) / 2) p0 hp (by omega)
          by_cases e : i = j
          · rw [if_pos e]; exact hq
          · rw [if_neg e]
            have := h1 j j0 jl (by omega)
            rw [je] at this
            exact ah_tr this hq)
        exact ⟨a, b.trans (swp_perm hi hp)⟩
      · rw [if_neg ha]
        refine ⟨fun j j0 jl => ?_, List.Perm.refl _⟩
        by_cases e : j = i
        · subst e; simpa using ha
        · exact h1 j j0 jl e
    · rw [if_neg h0]
      exact ⟨fun j j0 jl => h1 j j0 jl (by omega), List.Perm.refl _⟩
theorem sift_ok : ∀ (f : Nat) (x : List S86) (i : Nat), x.length ≤ f + i → i < x.length → (∀ j, 0 < j → j < x.length → (j - 1) / 2 ≠ i → ahd (x.getD j z86) (x.getD ((j - 1) / 2) z86) = false) →
    (0 < i → ∀ j, 0 < j → j < x.length → (j - 1) / 2 = i → ahd (x.getD j z86) (x.getD ((i - 1) / 2) z86) = false) → HP (sift f x i) ∧ (sift f x i).Perm x
  | 0, x, i, hf, hi, _, _ => absurd hf (by omega)
  | f + 1, x, i, hf, hi, h1, h2 => by
    have go : ∀ q, q < x.length → 0 < q → (q - 1) / 2 = i → (∀ j, 0 < j → j < x.length → (j - 1) / 2 = i → ahd (x.getD j z86) (x.getD q z86) = false) →
        HP (if ahd (x.getD q z86) (x.getD i z86) = true then sift f (swp x i q) q else x) ∧ (if ahd (x.getD q z86) (x.getD i z86) = true then sift f (swp x i q) q else x).Perm x := by
      intro q hq q0 qi hb
      by_cases ha : ahd (x.getD q z86) (x.getD i z86) = true
      · rw [if_pos ha]
        have ha' := ah_as ha
        obtain ⟨a, b⟩ := sift_ok f (swp x i q) q (by rw [swp_len]; omega) (by rw [swp_len]; exact hq) (fun j j0 jl jn => by
          rw [swp_len] at jl
          rw [g_swp hi hq, g_swp hi hq]
          by_cases e : q = j
          · subst e
            rw [if_pos rfl, if_neg (by omega), if_pos (by omega)]
            exact ha'
          · rw [if_neg e]
            by_cases e2 : i = j
            · subst e2
              rw [if_pos rfl, if_neg (by omega), if_neg (by omega)]
              exact h2 j0 q q0 hq qi
            · rw [if_neg e2, if_neg (by omega)]
              by_cases e3 : i = (j - 1) / 2
              · rw [if_pos e3]
                exact hb j j0 jl e3.symm
              · rw [if_neg e3]
                exact h1 j j0 jl (by omega)) (fun _ j j0 jl je => by
          rw [swp_len] at jl
          rw [g_swp hi hq, g_swp hi hq, qi]
          rw [if_neg (by omega), if_neg (by omega), if_neg (by omega), if_pos rfl]
          have := h1 j j0 jl (by omega)
          rw [je] at this
          exact this)
        exact ⟨a, b.trans (swp_perm hi hq)⟩
      · rw [if_neg ha]
        have ha' : ahd (x.getD q z86) (x.getD i z86) = false := by simpa using ha
        refine ⟨fun j j0 jl => ?_, List.Perm.refl _⟩
        by_cases e : (j - 1) / 2 = i
        · rw [e]; exact ah_tr (hb j j0 jl e) ha'
        · exact h1 j j0 jl e
    unfold sift
    by_cases c1 : 2 * i + 1 < x.length
    · rw [if_pos c1]
      by_cases c2 : 2 * i + 2 < x.length ∧ ahd (x.getD (2 * i + 2) z86) (x.getD (2 * i + 1) z86) = true
      · rw [if_pos c2]
        refine go (2 * i + 2) c2.1 (by omega) (by omega) (fun j j0 jl je => ?_)
        obtain rfl | rfl : j = 2 * i + 1 ∨ j = 2 * i + 2 := by omega
        · exact ah_as c2.2
        · exact ah_irr _
      · rw [if_neg c2]
        refine go (2 * i + 1) c1 (by omega) (by omega) (fun j j0 jl je => ?_)
        obtain rfl | rfl : j = 2 * i + 1 ∨ j = 2 * i + 2 := by omega
        · exact ah_irr _
        · rw [← Bool.not_eq_true]; exact fun t => c2 ⟨jl, t⟩
    · rw [if_neg c1]
      exact ⟨fun j j0 jl => h1 j j0 jl (by omega), List.Perm.refl _⟩
theorem rest_ok {L : List S86} (h : HP L) (h0 : 0 < L.length) : HP (rest L) ∧ (L.getD 0 z86 :: rest L).Perm L := by
  unfold rest
  by_cases h1 : L.length = 1
  · rw [if_pos h1]
    obtain ⟨a, rfl⟩ := List.length_eq_one_iff.1 h1
    exact ⟨fun j _ jl => absurd jl (by simp), List.Perm.refl _⟩
  · rw [if_neg h1]
    have hl : ((L.take (L.length - 1)).set 0 (L.getD (L.length - 1) z86)).length = L.length - 1 := by simp
    have hg : ∀ j, 0 < j → j < L.length - 1 → ((L.take (L.length - 1)).set 0 (L.getD (L.length - 1) z86)).getD j z86 = L.getD j z86 := by
      intro j j0 jl
      rw [g_set _ _ (by simp; omega), if_neg (by omega), List.getD_eq_getElem?_getD, List.getD_eq_getElem?_getD, List.getElem?_take, if_pos jl]
    obtain ⟨a, b⟩ := sift_ok L.length ((L.take (L.length - 1)).set 0 (L.getD (L.length - 1) z86)) 0 (by omega) (by omega) (fun j j0 jl jn => by
      rw [hg j j0 (by omega), hg _ (by omega) (by omega)]
      exact h j j0 (by omega)) (fun h => absurd h (by omega))
    refine ⟨a, (List.Perm.cons _ b).trans ?_⟩
    obtain ⟨x, M, rfl⟩ : ∃ x M, L = x :: M := by
      cases L with
      | nil => simp at h0
      | cons x M => exact ⟨x, M, rfl⟩
    have hM : 0 < M.length := by simp at h1; exact Nat.pos_of_ne_zero (fun z => h1 (List.length_eq_zero_iff.1 z))
    obtain ⟨P, y, rfl⟩ : ∃ P y, M = P ++ [y] := ⟨M.dropLast, M.getLast (by intro e; subst e; simp at hM), (List.dropLast_concat_getLast _).symm⟩
    have e1 : (x :: (P ++ [y])).length - 1 = P.length + 1 := by simp
    have e2 : (x :: (P ++ [y])).getD (P.length + 1) z86 = y := by simp
    rw [e1, e2]
    simp only [List.take_succ_cons, List.take_left', List.set_cons_zero, List.getD_cons_zero]
    exact List.Perm.cons _ (List.perm_append_singleton y P).symm
/-! what the program and the reference answer -/
def PoolP (x : List S86) : Prop := x.length ≤ 50 ∧ (∀ o, o ∈ x → OkO o) ∧ HP x
theorem pool_l0 (l : List S86) (hl : l.length ≤ 4611686018427387904) : ∀ (d i : Nat), i + d = l.length → ∃ r, Ev (fun k => spec_PoolOk.l0 k l i) r ∧ Ev (fun k => impl_PoolOk.l0 k l l (l.length : Int) i) (r && decide ((l.length : Int) ≤ 50)) ∧
      (r = true ↔ ∀ j, i ≤ j → j < l.length → OkO (l.getD j z86) ∧ (0 < j → ahd (l.getD j z86) (l.getD ((j - 1) / 2) z86) = false))
  | 0, i, hi => by
    refine ⟨true, Ev.succ ?_, Ev.succ ?_, ⟨fun _ j h1 h2 => absurd h2 (by omega), fun _ => rfl⟩⟩
    · simp only [spec_PoolOk.l0]
      exact Ev.neg (by omega) (Ev.now _)
    · simp only [impl_PoolOk.l0]
      exact Ev.neg (by omega) (Ev.now _)
  | d + 1, i, hi => by
    obtain ⟨r, h1, h2, h3⟩ := pool_l0 l hl d (i + 1) (by omega)
    obtain ⟨b1, e1, f1, c1⟩ := offer_ok (l.getD i z86)
    have key : ∃ r, Ev (fun k => spec_PoolOk.l0 (k + 1) l i) r ∧ Ev (fun k => impl_PoolOk.l0 (k + 1) l l (l.length : Int) i) (r && decide ((l.length : Int) ≤ 50)) ∧
        (r = true ↔ ∀ j, i ≤ j → j < l.length → OkO (l.getD j z86) ∧ (0 < j → ahd (l.getD j z86) (l.getD ((j - 1) / 2) z86) = false)) := by
      simp only [spec_PoolOk.l0, impl_PoolOk.l0, rd_nat, e1, f1, Option.bind_some]
      rw [w64 (x := (i : Int) + 1) (by omega) (by omega), cast_succ]
      cases b1 with
      | false => exact ⟨false, Ev.pos (by omega) (Ev.pos (by omega) (Ev.neg (by decide) (Ev.now _))), Ev.pos (by omega) (Ev.pos (by omega) (Ev.pos (by omega) (Ev.neg (by decide) (Ev.now _)))), ⟨fun z => by simp at z, fun z => absurd (c1.2 (z i (by omega) (by omega)).1) (by simp)⟩⟩
      | true =>
        by_cases h0 : (i : Int) > 0
        · rw [half h0 (by omega)]
          have e2 := ahd_spec (l.getD i z86) (l.getD ((i - 1) / 2) z86)
          have f2 := ahd_impl (l.getD i z86) (l.getD ((i - 1) / 2) z86)
          simp only [rd_nat, e2, f2, Option.bind_some]
          cases hb : ahd (l.getD i z86) (l.getD ((i - 1) / 2) z86) with
          | true => exact ⟨false, Ev.pos (by omega) (Ev.pos (by omega) (Ev.pos (by simp) (Ev.pos h0 (Ev.pos (by omega) (Ev.pos (by omega) (Ev.pos (by simp) (Ev.now _))))))), Ev.pos (by omega) (Ev.pos (by omega) (Ev.pos (by omega) (Ev.pos (by simp) (Ev.pos h0 (Ev.pos (by omega) (Ev.pos (by omega) (Ev.pos (by simp) (Ev.now _)))))))), ⟨fun z => by simp at z, fun z => by have := (z i (by omega) (by omega)).2 (by omega); rw [hb] at this; exact absurd this (by simp)⟩⟩
          | false =>
            refine ⟨r, Ev.pos (by omega) (Ev.pos (by omega) (Ev.pos (by simp) (Ev.pos h0 (Ev.pos (by omega) (Ev.pos (by omega) (Ev.neg (by simp) h1)))))), Ev.pos (by omega) (Ev.pos (by omega) (Ev.pos (by omega) (Ev.pos (by simp) (Ev.pos h0 (Ev.pos (by omega) (Ev.pos (by omega) (Ev.neg (by simp) h2))))))), h3.trans ⟨fun z j j1 j2 => ?_, fun z j j1 j2 => z j (by omega) j2⟩⟩
            by_cases e : j = i
            · subst e; exact ⟨c1.1 rfl, fun _ => hb⟩
            · exact z j (by omega) j2
        · refine ⟨r, Ev.pos (by omega) (Ev.pos (by omega) (Ev.pos (by simp) (Ev.neg h0 h1))), Ev.pos (by omega) (Ev.pos (by omega) (Ev.pos (by omega) (Ev.pos (by simp) (Ev.neg h0 h2)))), h3.trans ⟨fun z j j1 j2 => ?_, fun z j j1 j2 => z j (by omega) j2⟩⟩
          by_cases e : j = i
          · subst e; exact ⟨c1.1 rfl, fun h => absurd h (by omega)⟩
          · exact z j (by omega) j2
    obtain ⟨r, k1, k2, k3⟩ := key
    exact ⟨r, Ev.succ k1, Ev.succ k2, k3⟩
theorem pool_iff (l : List S86) (hl : l.length ≤ 4611686018427387904) : ∃ r, Ev (fun k => spec_PoolOk.f k l) r ∧ Ev (fun k => impl_PoolOk.f k l) r ∧ (r = true ↔ PoolP l) := by
  obtain ⟨r, h1, h2, h3⟩ := pool_l0 l hl l.length 0 (by omega)
  refine ⟨r && decide ((l.length : Int) ≤ 50), ?_, h2, ?_⟩
  · unfold spec_PoolOk.f
    by_cases h : (l.length : Int) > 50
    · refine Ev.pos h ?_
      have : decide ((l.length : Int) ≤ 50) = false := decide_eq_false (by omega)
      rw [this, Bool.and_false]
      exact Ev.now _
    · refine Ev.neg h ?_
      have : decide ((l.length : Int) ≤ 50) = true := decide_eq_true (by omega)
      rw [this, Bool.and_true]
      exact h1
  · rw [Bool.and_eq_true, decide_eq_true_iff, h3]
    constructor
    · rintro ⟨a, b⟩
      refine ⟨by omega, fun o ho => ?_, fun j j0 jl => (a j (by omega) jl).2 j0⟩
      obtain ⟨j, hj⟩ := List.getElem?_of_mem ho
      rw [← g_of hj]
      exact (a j (by omega) (List.getElem?_eq_some_iff.1 hj).1).1
    · rintro ⟨a, b, c⟩
      exact ⟨fun j _ jl => ⟨b _ (by rw [g_get jl]; exact List.getElem_mem _), fun j0 => c j j0 jl⟩, by omega⟩
theorem pool_ok (l : List S86) (hl : l.length ≤ 4611686018427387904) : ∃ r, Ev (fun k => spec_PoolOk.f k l) r ∧ Ev (fun k => impl_PoolOk.f k l) r ∧ (r = true → l.length ≤ 50) := by
  obtain ⟨r, a, b, c⟩ := pool_iff l hl
  exact ⟨r, a, b, fun h => (c.1 h).1⟩
theorem lift_ev (o : S86) : ∀ (n i : Nat) (x : List S86), i < n → i < x.length → x.length ≤ 4611686018427387904 → x.getD i z86 = o →
    Ev (fun k => spec_Offered.l0 k x i o.f0 o.f1) (lift n x i, true) ∧ Ev (fun k => impl_Offered.l0 k x i) (lift n x i, true)
  | 0, i, x, h, _, _, _ => absurd h (by omega)
  | n + 1, i, x, h, hi, hl, hx => by
    have key : Ev (fun k => spec_Offered.l0 (k + 1) x i o.f0 o.f1) (lift (n + 1) x i, true) ∧ Ev (fun k => impl_Offered.l0 (k + 1) x i) (lift (n + 1) x i, true) := by
      simp only [spec_Offered.l0, impl_Offered.l0, lift]
      by_cases h0 : (i : Int) > 0
      · have es := ahd_spec o (x.getD ((i - 1) / 2) z86)
        have ei := ahd_impl o (x.getD ((i - 1) / 2) z86)
        rw [half h0 (by omega), if_pos (show 0 < i by omega)]
        simp only [rd_nat, hx, es, ei, Option.bind_some, Int.toNat_natCast]
        cases ahd o (x.getD ((i - 1) / 2) z86) with
        | false => exact ⟨Ev.pos h0 (Ev.pos (by omega) (Ev.pos (by omega) (Ev.neg (by simp) (Ev.now _)))), Ev.pos h0 (Ev.pos (by omega) (Ev.pos (by omega) (Ev.pos (by omega) (Ev.pos (by omega) (Ev.neg (by simp) (Ev.now _))))))⟩
        | true =>
          have e : (x.set i (x.getD ((i - 1) / 2) z86)).set ((i - 1) / 2) o = swp x i ((i - 1) / 2) := by unfold swp; rw [hx]
          obtain ⟨j1, j2⟩ := lift_ev o n ((i - 1) / 2) (swp x i ((i - 1) / 2)) (by omega) (by rw [swp_len]; omega) (by rw [swp_len]; exact hl) (by rw [g_swp hi (by omega), if_pos rfl]; exact hx)
          rw [if_pos rfl]
          refine ⟨Ev.pos h0 (Ev.pos (by omega) (Ev.pos (by omega) (Ev.pos (by simp) (Ev.pos (by omega) (Ev.pos (by omega) ?_))))), Ev.pos h0 (Ev.pos (by omega) (Ev.pos (by omega) (Ev.pos (by omega) (Ev.pos (by omega) (Ev.pos (by simp) ?_)))))⟩
          · rw [e]; exact j1
          · rw [e]; exact j2
      · rw [if_neg (show ¬ 0 < i by omega)]
        exact ⟨Ev.neg h0 (Ev.now _), Ev.neg h0 (Ev.now _)⟩
    exact ⟨Ev.succ key.1, Ev.succ key.2⟩
def more (x : List S86) (o : S86) : List S86 := lift (x.length + 1) (x ++ [o]) x.length
theorem g_app {x : List S86} {o : S86} {j : Nat} (h : j < x.length) : (x ++ [o]).getD j z86 = x.getD j z86 := by
  rw [List.getD_eq_getElem?_getD, List.getD_eq_getElem?_getD, List.getElem?_append_left h]
theorem more_ok {x : List S86} (o : S86) (h : HP x) : HP (more x o) ∧ (more x o).Perm (x ++ [o]) :=
  lift_ok (x.length + 1) (x ++ [o]) x.length (by omega) (by simp) (fun j j0 jl jn => by
    simp at jl
    rw [g_app (by omega), g_app (by omega)]
    exact h j j0 (by omega)) (fun _ j j0 jl je => absurd jl (by simp; omega))
theorem off_j0 (x : List S86) (b : Bool) (o : S86) (hl : x.length ≤ 1048576) : Ev (fun k => spec_Offered.j0 k x b o.f0 o.f1) (if b then [] else more x o, !b) ∧ Ev (fun k => impl_Offered.j0 k x b o.f0 o.f1) (if b then [] else more x o, !b) := by
  cases b with
  | true =>
    refine ⟨Ev.succ ?_, Ev.succ ?_⟩
    · simp only [spec_Offered.j0]
      exact Ev.pos (by simp) (Ev.now _)
    · simp only [impl_Offered.j0]
      exact Ev.pos (by simp) (Ev.now _)
  | false =>
    obtain ⟨h2, h3⟩ := lift_ev o (x.length + 1) x.length (x ++ [o]) (by omega) (by simp) (by simp; omega) (g_of (by simp))
    refine ⟨Ev.succ ?_, Ev.succ ?_⟩
    · simp only [spec_Offered.j0, Option.bind_some, List.nil_append]
      exact Ev.neg (by simp) (Ev.pos (by simp; omega) (Ev.pos (by simp; omega) h2))
    · simp only [impl_Offered.j0, impl_Offer.f, Option.bind_some, List.nil_append]
      have e : wrap64 (((x ++ [o]).length : Int) - 1) = (x.length : Int) := by simp only [List.length_append, List.length_singleton]; rw [w64 (by omega) (by omega)]; omega
      rw [if_pos (by simp; omega)]
      simp only [Option.bind_some, show (⟨o.f0, o.f1⟩ : S86) = o from rfl, e]
      exact Ev.neg (by simp) (Ev.pos (by simp; omega) h3)
theorem off_ev (x : List S86) (o : S86) (hl : x.length ≤ 1048576) : ∃ out c, Ev (fun k => spec_Offered.f k x o.f0 o.f1) (out, c) ∧ Ev (fun k => impl_Offered.f k x o.f0 o.f1) (out, c) ∧ (c = false → out = []) ∧ (c = true → PoolP x ∧ OkO o ∧ x.length < 50 ∧ out = more x o) := by
  obtain ⟨r, e, f, h⟩ := pool_iff x (by omega)
  obtain ⟨s, e2, f2, h2⟩ := offer_ok o
  unfold spec_Offered.f impl_Offered.f
  simp only [e2, f2, Option.bind_some]
  have key := fun b => off_j0 x b o hl
  cases r with
  | false => exact ⟨[], false, Ev.bind e (Ev.neg (by simp) (key true).1), Ev.bind f (Ev.neg (by simp) (key true).2), fun _ => rfl, fun z => by simp at z⟩
  | true =>
    cases s with
    | false => exact ⟨[], false, Ev.bind e (Ev.pos rfl (Ev.neg (by simp) (key true).1)), Ev.bind f (Ev.pos rfl (Ev.neg (by simp) (key true).2)), fun _ => rfl, fun z => by simp at z⟩
    | true =>
      refine ⟨_, _, Ev.bind e (Ev.pos rfl (Ev.pos rfl (key ((x.length : Int) == 50)).1)), Ev.bind f (Ev.pos rfl (Ev.pos rfl (key ((x.length : Int) == 50)).2)), fun z => ?_, fun z => ?_⟩
      · have : ((x.length : Int) == 50) = true := by simpa using z
        rw [this]; rfl
      · have hb : ((x.length : Int) == 50) = false := by simpa using z
        have hn : ¬ (x.length : Int) = 50 := by simpa using hb
        have hp := h.1 rfl
        have := hp.1
        rw [hb]
        exact ⟨hp, h2.1 rfl, by omega, rfl⟩
theorem more_len (x : List S86) (o : S86) : ∀ (n : Nat) (y : List S86) (i : Nat), (lift n y i).length = y.length
  | 0, y, i => rfl
  | n + 1, y, i => by
    unfold lift
    split
    · split
      · rw [more_len x o n, swp_len]
      · rfl
    · rfl
theorem next_pool {L : List S86} (h : PoolP L) (h0 : 0 < L.length) : PoolP (rest L) := by
  obtain ⟨a, b⟩ := rest_ok h.2.2 h0
  exact ⟨by rw [rest_len]; have := h.1; omega, fun o ho => h.2.1 o (b.subset (List.mem_cons_of_mem _ ho)), a⟩
theorem chosen_l0 : ∀ (d : Nat) (x : List S86) (n : Int) (acc : List ByteArray), x.length = d → x.length + acc.length ≤ 1048576 → n ≤ 9223372036854775807 →
    ∃ out y, out.length ≤ 1048576 ∧ Ev (fun k => spec_l14Chosen.l0 k x n acc) out ∧ Ev (fun k => impl_chosen.l0 k x n acc) (out, y)
  | 0, x, n, acc, hd, hl, hn => by
    refine ⟨acc, x, by omega, Ev.succ ?_, Ev.succ ?_⟩
    · simp only [spec_l14Chosen.l0]
      by_cases h : n > 0
      · exact Ev.pos h (Ev.neg (by omega) (Ev.now _))
      · exact Ev.neg h (Ev.now _)
    · simp only [impl_chosen.l0]
      by_cases h : n > 0
      · exact Ev.pos h (Ev.neg (by omega) (Ev.now _))
      · exact Ev.neg h (Ev.now _)
  | d + 1, x, n, acc, hd, hl, hn => by
    by_cases h : n > 0
    · obtain ⟨j1, j2⟩ := next_ev x (by omega) (by omega)
      obtain ⟨out, y, h1, h2, h3⟩ := chosen_l0 d (rest x) (n - 1) (acc ++ [(x.getD 0 z86).f1]) (by rw [rest_len]; omega) (by rw [rest_len]; simp; omega) (by omega)
      have w : wrap64 (n - 1) = n - 1 := w64 (by omega) (by omega)
      refine ⟨out, y, h1, Ev.succ ?_, Ev.succ ?_⟩
      · simp only [spec_l14Chosen.l0, w]
        exact Ev.pos h (Ev.pos (by omega) (Ev.bind j1 (Ev.pos (by omega) h2)))
      · simp only [impl_chosen.l0, w]
        exact Ev.pos h (Ev.pos (by omega) (Ev.bind j2 (Ev.pos (by omega) h3)))
    · refine ⟨acc, x, by omega, Ev.succ ?_, Ev.succ ?_⟩
      · simp only [spec_l14Chosen.l0]
        exact Ev.neg h (Ev.now _)
      · simp only [impl_chosen.l0]
        exact Ev.neg h (Ev.now _)
theorem Chosen_ev (x : List S86) (n : Int) (hl : x.length ≤ 1048576) (hn : n ≤ 9223372036854775807) : ∃ out, out.length ≤ 1048576 ∧ Ev (fun k => spec_Chosen.f k x n) out ∧ Ev (fun k => impl_Chosen.f k x n) out := by
  obtain ⟨r, e, f, _⟩ := pool_ok x (by omega)
  unfold spec_Chosen.f impl_Chosen.f
  cases r with
  | false => exact ⟨[], by simp, Ev.bind e (Ev.neg (by simp) (Ev.now _)), Ev.bind f (Ev.neg (by simp) (Ev.now _))⟩
  | true =>
    obtain ⟨out, y, h1, h2, h3⟩ := chosen_l0 x.length x n [] rfl (by simpa using hl) hn
    exact ⟨out, h1, Ev.bind e (Ev.pos rfl (Ev.bind h2 (Ev.now _))), Ev.bind f (Ev.pos rfl (Ev.bind (show Ev (fun k => impl_chosen.f k x n) (out, y) from h3) (Ev.now _)))⟩

/-! like -/
theorem likeO_l0 (l : List S86) (hl : l.length ≤ 1048577) : ∀ (d i : Nat), i + d = l.length → Ev (fun k => laws_likeOffers.l0 k l l i) true
  | 0, i, hi => by
    refine Ev.succ ?_
    simp only [laws_likeOffers.l0]
    exact Ev.neg (by omega) (Ev.now _)
  | d + 1, i, hi => by
    refine Ev.succ ?_
    simp only [laws_likeOffers.l0]
    rw [w64 (by omega) (by omega), cast_succ]
    exact Ev.pos (by omega) (Ev.pos (by omega) (Ev.pos (by omega) (Ev.neg (by simp) (likeO_l0 l hl d (i + 1) (by omega)))))
theorem likeO (l : List S86) (hl : l.length ≤ 1048577) : Ev (fun k => laws_likeOffers.f k l l) true := by
  unfold laws_likeOffers.f
  exact Ev.pos rfl (likeO_l0 l hl l.length 0 (by omega))
theorem likeT_l0 (l : List ByteArray) (hl : l.length ≤ 1048577) : ∀ (d i : Nat), i + d = l.length → Ev (fun k => laws_likeTexts.l0 k l l i) true
  | 0, i, hi => by
    refine Ev.succ ?_
    simp only [laws_likeTexts.l0]
    exact Ev.neg (by omega) (Ev.now _)
  | d + 1, i, hi => by
    refine Ev.succ ?_
    simp only [laws_likeTexts.l0]
    rw [w64 (by omega) (by omega), cast_succ]
    exact Ev.pos (by omega) (Ev.pos (by omega) (Ev.pos (by omega) (Ev.pos (by simp) (likeT_l0 l hl d (i + 1) (by omega)))))
theorem likeT (l : List ByteArray) (hl : l.length ≤ 1048577) : Ev (fun k => laws_likeTexts.f k l l) true := by
  unfold laws_likeTexts.f
  exact Ev.pos rfl (likeT_l0 l hl l.length 0 (by omega))
/-! draws -/
theorem and255 (n : Int) : 0 ≤ Go.bits .and .i64 n 255 ∧ Go.bits .and .i64 n 255 ≤ 255 := by
  have h : (BitVec.ofInt 64 255).toNat = 2 ^ 8 - 1 := by decide
  have key : (BitVec.ofInt 64 n &&& BitVec.ofInt 64 255).toNat = (n % ((2 ^ 64 : Nat) : Int)).toNat % 2 ^ 8 := by
    rw [BitVec.toNat_and, BitVec.toNat_ofInt, h, Nat.and_two_pow_sub_one_eq_mod]
  have e : Go.bits .and .i64 n 255 = IntKind.i64.wrap ((BitVec.ofInt 64 n &&& BitVec.ofInt 64 255).toNat : Nat) := rfl
  rw [e, key, IntKind.wrap_i64]
  omega
theorem new_l0 (x0 : List Int) : ∀ (d k : Nat) (x3 x4 : Int), 0 ≤ x4 → x4 ≤ (x0.length : Int) → (x0.length : Int) - x4 = d → d < k → (x0.length : Int) < 9223372036854775807 → ∃ h, spec_l1New.l0 k x0 x3 x4 = some (x0, 0, h)
  | 0, k, x3, x4, h0, h1, h2, h3, h4 => by
    obtain ⟨k, rfl⟩ : ∃ m, k = m + 1 := ⟨k - 1, by omega⟩
    simp only [spec_l1New.l0]
    rw [if_neg (by omega)]
    exact ⟨_, rfl⟩
  | d + 1, k, x3, x4, h0, h1, h2, h3, h4 => by
    obtain ⟨k, rfl⟩ : ∃ m, k = m + 1 := ⟨k - 1, by omega⟩
    simp only [spec_l1New.l0]
    rw [if_pos (by omega), if_pos h0, w64 (x := x4 + 1) (by omega) (by omega)]
    exact new_l0 x0 d k _ _ (by omega) (by omega) (by omega) (by omega) h4
theorem new_l0_same (x0 : List Int) : ∀ (k k' : Nat) (x3 x4 : Int) (r r'), spec_l1New.l0 k x0 x3 x4 = some r → spec_l1New.l0 k' x0 x3 x4 = some r' → r = r'
  | 0, _, _, _, _, _, h, _ => by simp [spec_l1New.l0] at h
  | _, 0, _, _, _, _, _, h => by simp [spec_l1New.l0] at h
  | k + 1, k' + 1, x3, x4, r, r', h, h' => by
    simp only [spec_l1New.l0] at h h'
    split at h
    · rename_i c
      rw [if_pos c] at h'
      split at h
      · rename_i c2
        rw [if_pos c2] at h'
        exact new_l0_same x0 k k' _ _ _ _ h h'
      · simp at h
    · rename_i c
      rw [if_neg c] at h'
      simp_all
theorem new_ev (x0 : List Int) (hl : (x0.length : Int) < 9223372036854775807) : ∃ h, Ev (fun k => spec_l1New.f k x0) (x0, 0, h) := by
  obtain ⟨h, e⟩ := new_l0 x0 x0.length (x0.length + 1) (wrap64 (111029 + (x0.length : Int))) 0 (by omega) (by omega) (by omega) (by omega) hl
  refine ⟨h, x0.length + 1, fun k hk => ?_⟩
  obtain ⟨h', e'⟩ := new_l0 x0 x0.length k (wrap64 (111029 + (x0.length : Int))) 0 (by omega) (by omega) (by omega) (by omega) hl
  show spec_l1New.l0 k x0 (wrap64 (111029 + (x0.length : Int))) 0 = some (x0, 0, h)
  rw [e', ← new_l0_same _ _ _ _ _ _ _ e e']
theorem byte_some (l : List Int) (hl : (l.length : Int) < 9223372036854775807) (i h : Int) (h0 : 0 ≤ i) (h1 : i ≤ l.length) : ∃ b i' h', spec_l1Byte.f l i h = some (b, i', h') ∧ 0 ≤ b ∧ b ≤ 255 ∧ 0 ≤ i' ∧ i' ≤ l.length := by
  unfold spec_l1Byte.f
  by_cases hlt : i < (l.length : Int)
  · rw [if_pos hlt, if_pos h0]
    exact ⟨_, _, _, rfl, (and255 _).1, (and255 _).2, by rw [w64 (by omega) (by omega)]; omega, by rw [w64 (by omega) (by omega)]; omega⟩
  · rw [if_neg hlt]
    exact ⟨_, _, _, rfl, (and255 _).1, (and255 _).2, h0, h1⟩
theorem tmod_in {a b : Int} (h0 : 0 ≤ a) (h1 : 0 < b) : 0 ≤ Int.tmod a b ∧ Int.tmod a b < b := by
  rw [Int.tmod_eq_emod_of_nonneg h0]
  exact ⟨Int.emod_nonneg _ (by omega), Int.emod_lt_of_pos _ h1⟩
theorem below_some (l : List Int) (hl : (l.length : Int) < 9223372036854775807) (i h n : Int) (h0 : 0 ≤ i) (h1 : i ≤ l.length) : ∃ b i' h', spec_l1Below.f l i h n = some (b, i', h') ∧ 0 ≤ b ∧ (0 < n → b < n) ∧ (n ≤ 0 → b = 0) ∧ 0 ≤ i' ∧ i' ≤ l.length := by
  unfold spec_l1Below.f
  by_cases hn : n ≤ 0
  · rw [if_pos hn]
    exact ⟨_, _, _, rfl, by omega, by omega, fun _ => rfl, h0, h1⟩
  · rw [if_neg hn]
    by_cases hn2 : n ≤ 256
    · rw [if_pos hn2]
      obtain ⟨b, i', h', e, hb0, hb1, hi0, hi1⟩ := byte_some l hl i h h0 h1
      rw [e]
      simp only [Option.bind_some]
      rw [if_neg (by omega)]
      have := tmod_in hb0 (b := n) (by omega)
      exact ⟨_, _, _, rfl, this.1, fun _ => this.2, by omega, hi0, hi1⟩
    · rw [if_neg hn2]
      obtain ⟨b1, i1, h1', e1, _, _, hi0, hi1⟩ := byte_some l hl i h h0 h1
      obtain ⟨b2, i2, h2', e2, _, _, hi0, hi1⟩ := byte_some l hl i1 h1' hi0 hi1
      obtain ⟨b3, i3, h3', e3, _, _, hi0, hi1⟩ := byte_some l hl i2 h2' hi0 hi1
      obtain ⟨b4, i4, h4', e4, _, _, hi0, hi1⟩ := byte_some l hl i3 h3' hi0 hi1
      rw [e1]; simp only [Option.bind_some]
      rw [e2]; simp only [Option.bind_some]
      rw [e3]; simp only [Option.bind_some]
      rw [e4]; simp only [Option.bind_some]
      rw [if_neg (by omega)]
      rw [w64 (x := b1 * 16777216) (by omega) (by omega), w64 (x := b2 * 65536) (by omega) (by omega), w64 (x := b3 * 256) (by omega) (by omega), w64 (x := b1 * 16777216 + b2 * 65536) (by omega) (by omega), w64 (x := b1 * 16777216 + b2 * 65536 + b3 * 256) (by omega) (by omega), w64 (x := b1 * 16777216 + b2 * 65536 + b3 * 256 + b4) (by omega) (by omega)]
      have := tmod_in (a := b1 * 16777216 + b2 * 65536 + b3 * 256 + b4) (by omega) (b := n) (by omega)
      exact ⟨_, _, _, rfl, this.1, fun _ => this.2, by omega, hi0, hi1⟩
theorem once_some (l : List Int) (hl : (l.length : Int) < 9223372036854775807) (i h n : Int) (h0 : 0 ≤ i) (h1 : i ≤ l.length) : ∃ b i' h', spec_l1Once.f l i h n = some (b, i', h') ∧ 0 ≤ i' ∧ i' ≤ l.length := by
  obtain ⟨b, i', h', e, _, _, _, a, c⟩ := below_some l hl i h n h0 h1
  exact ⟨_, _, _, by unfold spec_l1Once.f; rw [e]; rfl, a, c⟩
theorem text_l0 (l : List Int) (hl : (l.length : Int) < 9223372036854775807) : ∀ (d : Nat) (x : List Int) (i h : Int), x.length + d ≤ 1000 → 0 ≤ i → i ≤ l.length → ∃ s i' h', Ev (fun k => spec_l1DrawText.l0 k x d l i h) (s, i', h') ∧ 0 ≤ i' ∧ i' ≤ l.length
  | 0, x, i, h, hd, h0, h1 => by
    obtain ⟨b, i1, h1', e1, a1, c1⟩ := once_some l hl i h 6 h0 h1
    cases b with
    | true =>
      obtain ⟨b2, i2, h2', e2, _, _, a2, c2⟩ := byte_some l hl i1 h1' a1 c1
      refine ⟨strOfNums (x ++ [b2 % 256]), i2, h2', Ev.succ ?_, a2, c2⟩
      simp only [spec_l1DrawText.l0, e1, e2, Option.bind_some]
      exact Ev.neg (by omega) (Ev.pos (by simp) (Ev.pos (by omega) (Ev.now _)))
    | false =>
      refine ⟨strOfNums x, i1, h1', Ev.succ ?_, a1, c1⟩
      simp only [spec_l1DrawText.l0, e1, Option.bind_some]
      exact Ev.neg (by omega) (Ev.neg (by simp) (Ev.now _))
  | d + 1, x, i, h, hd, h0, h1 => by
    obtain ⟨b, i1, h1', e1, _, _, _, a1, c1⟩ := below_some l hl i h 4 h0 h1
    obtain ⟨s, i2, h2, e, a, c⟩ := text_l0 l hl d (x ++ [(wrap64 (97 + b)) % 256]) i1 h1' (by simp; omega) a1 c1
    refine ⟨s, i2, h2, Ev.succ ?_, a, c⟩
    simp only [spec_l1DrawText.l0, e1, Option.bind_some]
    rw [w64 (x := ((d + 1 : Nat) : Int) - 1) (by omega) (by omega), show ((d + 1 : Nat) : Int) - 1 = (d : Int) by omega]
    exact Ev.pos (by omega) (Ev.pos (by omega) e)
theorem text_ev (l : List Int) (hl : (l.length : Int) < 9223372036854775807) (i h : Int) (h0 : 0 ≤ i) (h1 : i ≤ l.length) : ∃ s i' h', Ev (fun k => spec_l1DrawText.f k l i h) (s, i', h') ∧ 0 ≤ i' ∧ i' ≤ l.length := by
  obtain ⟨b, i1, h1', e1, b0, b1, _, a1, c1⟩ := below_some l hl i h 8 h0 h1
  obtain ⟨d, rfl⟩ := Int.eq_ofNat_of_zero_le b0
  have := b1 (by omega)
  obtain ⟨s, i2, h2, e, a, c⟩ := text_l0 l hl d [] i1 h1' (by simp; omega) a1 c1
  refine ⟨s, i2, h2, ?_, a, c⟩
  unfold spec_l1DrawText.f
  rw [e1]
  exact e
theorem draw_j1 (l : List Int) (hl : (l.length : Int) < 9223372036854775807) (x : List S86) (hx : x.length ≤ 100) (b : Bool) (hb : b = true → 0 < x.length) (i h : Int) (h0 : 0 ≤ i) (h1 : i ≤ l.length) : ∃ y i' h', Ev (fun k => spec_l14Draw.j1 k x b l i h) (y, i', h') ∧ y.length ≤ 100 ∧ 0 ≤ i' ∧ i' ≤ l.length := by
  cases b with
  | false =>
    refine ⟨x, i, h, Ev.succ ?_, hx, h0, h1⟩
    simp only [spec_l14Draw.j1]
    exact Ev.neg (by simp) (Ev.now _)
  | true =>
    have hx0 := hb rfl
    obtain ⟨b1, i1, h1', e1, p1, q1, _, a1, c1⟩ := below_some l hl i h (x.length : Int) h0 h1
    have := q1 (by omega)
    obtain ⟨b2, i2, h2', e2, p2, q2, _, a2, c2⟩ := below_some l hl i1 h1' 3 a1 c1
    have := q2 (by omega)
    by_cases d0 : b2 = 0
    · obtain ⟨b3, i3, h3', e3, p3, q3, _, a3, c3⟩ := below_some l hl i2 h2' 4 a2 c2
      have := q3 (by omega)
      refine ⟨x.set b1.toNat ⟨rd [(-1), 9, 1000000000, 1000000001] b3, (rd_T86 x b1).f1⟩, i3, h3', Ev.succ ?_, ?_, a3, c3⟩
      · simp only [spec_l14Draw.j1, e1, e2, e3, Option.bind_some]
        exact Ev.pos (by simp) (Ev.pos (by omega) (Ev.pos (by omega) (Ev.pos d0 (Ev.pos (by omega) (Ev.pos (by simp; omega) (Ev.now _))))))
      · simpa using hx
    · by_cases d1 : b2 = 1
      · obtain ⟨b3, i3, h3', e3, p3, q3, _, a3, c3⟩ := below_some l hl i2 h2' 2 a2 c2
        have := q3 (by omega)
        refine ⟨x.set b1.toNat ⟨(rd_T86 x b1).f0, strOfNums (List.replicate (60 + b3).toNat 0)⟩, i3, h3', Ev.succ ?_, ?_, a3, c3⟩
        · simp only [spec_l14Draw.j1, e1, e2, e3, Option.bind_some]
          rw [w64 (x := 60 + b3) (by omega) (by omega)]
          exact Ev.pos (by simp) (Ev.pos (by omega) (Ev.pos (by omega) (Ev.neg d0 (Ev.pos d1 (Ev.pos (by omega) (Ev.pos (by omega) (Ev.now _)))))))
        · simpa using hx
      · obtain ⟨b3, i3, h3', e3, p3, q3, _, a3, c3⟩ := below_some l hl i2 h2' 2 a2 c2
        have := q3 (by omega)
        refine ⟨List.replicate (50 + b3).toNat z86, i3, h3', Ev.succ ?_, ?_, a3, c3⟩
        · simp only [spec_l14Draw.j1, e1, e2, e3, Option.bind_some]
          rw [w64 (x := 50 + b3) (by omega) (by omega)]
          exact Ev.pos (by simp) (Ev.pos (by omega) (Ev.pos (by omega) (Ev.neg d0 (Ev.neg d1 (Ev.pos (by omega) (Ev.pos (by omega) (Ev.pos (by omega) (Ev.now _))))))))
        · simp; omega
theorem draw_l0 (l : List Int) (hl : (l.length : Int) < 9223372036854775807) : ∀ (d : Nat) (x : List S86) (i h : Int), x.length + d ≤ 100 → 0 ≤ i → i ≤ l.length → ∃ y i' h', Ev (fun k => spec_l14Draw.l0 k x d l i h) (y, i', h') ∧ y.length ≤ 100 ∧ 0 ≤ i' ∧ i' ≤ l.length
  | 0, x, i, h, hd, h0, h1 => by
    obtain ⟨b, i1, h1', e1, a1, c1⟩ := once_some l hl i h 12 h0 h1
    obtain ⟨y, i2, h2, e, z, a, c⟩ := draw_j1 l hl x (by omega) (b && decide ((x.length : Int) > 0)) (by simp) i1 h1' a1 c1
    refine ⟨y, i2, h2, Ev.succ ?_, z, a, c⟩
    simp only [spec_l14Draw.l0, e1, Option.bind_some]
    cases b with
    | true => exact Ev.neg (by omega) (Ev.pos rfl (by simpa using e))
    | false => exact Ev.neg (by omega) (Ev.neg (by simp) (by simpa using e))
  | d + 1, x, i, h, hd, h0, h1 => by
    obtain ⟨b, i1, h1', e1, _, _, _, a1, c1⟩ := below_some l hl i h 6 h0 h1
    obtain ⟨s, i2, h2, e2, a2, c2⟩ := text_ev l hl i1 h1' a1 c1
    obtain ⟨out, cc, o1, _, o2, o3⟩ := off_ev x ⟨b, s⟩ (by omega)
    have ho : out.length ≤ x.length + 1 := by
      cases cc with
      | false => rw [o2 rfl]; simp
      | true => rw [(o3 rfl).2.2.2]; unfold more; rw [more_len x ⟨b, s⟩]; simp
    obtain ⟨y, i3, h3, e, z, a, c⟩ := draw_l0 l hl d out i2 h2 (by omega) a2 c2
    refine ⟨y, i3, h3, Ev.succ ?_, z, a, c⟩
    simp only [spec_l14Draw.l0, e1, Option.bind_some]
    rw [w64 (x := ((d + 1 : Nat) : Int) - 1) (by omega) (by omega), show ((d + 1 : Nat) : Int) - 1 = (d : Int) by omega]
    exact Ev.pos (by omega) (Ev.bind e2 (Ev.bind o1 e))
theorem draw_ev (l : List Int) (hl : (l.length : Int) < 9223372036854775807) (i h : Int) (h0 : 0 ≤ i) (h1 : i ≤ l.length) : ∃ y i' h', Ev (fun k => spec_l14Draw.f k l i h) (y, i', h') ∧ y.length ≤ 100 ∧ 0 ≤ i' ∧ i' ≤ l.length := by
  obtain ⟨b, i1, h1', e1, b0, b1, _, a1, c1⟩ := below_some l hl i h 12 h0 h1
  obtain ⟨d, rfl⟩ := Int.eq_ofNat_of_zero_le b0
  have := b1 (by omega)
  obtain ⟨y, i2, h2, e, z, a, c⟩ := draw_l0 l hl d [] i1 h1' (by simp; omega) a1 c1
  refine ⟨y, i2, h2, ?_, z, a, c⟩
  unfold spec_l14Draw.f
  rw [e1]
  exact e
theorem DrawOffered_ev (l : List Int) (hl : (l.length : Int) < 9223372036854775807) : ∃ x a s, Ev (fun k => spec_DrawOffered.f k l) (x, a, s) ∧ x.length ≤ 100 := by
  obtain ⟨h, e0⟩ := new_ev l hl
  obtain ⟨x, i1, h1, e1, hx, a1, c1⟩ := draw_ev l hl 0 h (by omega) (by omega)
  obtain ⟨b2, i2, h2, e2, _, _, _, a2, c2⟩ := below_some l hl i1 h1 8 a1 c1
  obtain ⟨s, i3, h3, e3, a3, c3⟩ := text_ev l hl i2 h2 a2 c2
  obtain ⟨b4, i4, h4, e4, a4, c4⟩ := once_some l hl i3 h3 12 a3 c3
  unfold spec_DrawOffered.f
  cases b4 with
  | false =>
    refine ⟨x, b2, s, Ev.bind e0 (Ev.bind e1 ?_), hx⟩
    simp only [e2, Option.bind_some]
    refine Ev.bind e3 ?_
    simp only [e4, Option.bind_some]
    exact Ev.neg (by simp) (Ev.now _)
  | true =>
    obtain ⟨b5, i5, h5, e5, p5, q5, _, a5, c5⟩ := below_some l hl i4 h4 3 a4 c4
    have := q5 (by omega)
    refine ⟨x, rd [(-1), 1000000000, 1000000001] b5, s, Ev.bind e0 (Ev.bind e1 ?_), hx⟩
    simp only [e2, Option.bind_some]
    refine Ev.bind e3 ?_
    simp only [e4, e5, Option.bind_some]
    exact Ev.pos (by simp) (Ev.pos (by omega) (Ev.pos (by simp; omega) (Ev.now _)))
theorem DrawNext_ev (l : List Int) (hl : (l.length : Int) < 9223372036854775807) : ∃ x, Ev (fun k => spec_DrawNext.f k l) x ∧ x.length ≤ 100 := by
  obtain ⟨h, e0⟩ := new_ev l hl
  obtain ⟨x, i1, h1, e1, hx, a1, c1⟩ := draw_ev l hl 0 h (by omega) (by omega)
  refine ⟨x, ?_, hx⟩
  unfold spec_DrawNext.f spec_DrawPoolOk.f
  exact Ev.bind (Ev.bind e0 (Ev.bind e1 (Ev.now _))) (Ev.now _)
theorem DrawChosen_ev (l : List Int) (hl : (l.length : Int) < 9223372036854775807) : ∃ x n, Ev (fun k => spec_DrawChosen.f k l) (x, n) ∧ x.length ≤ 100 ∧ n ≤ 9223372036854775807 := by
  obtain ⟨h, e0⟩ := new_ev l hl
  obtain ⟨x, i1, h1, e1, hx, a1, c1⟩ := draw_ev l hl 0 h (by omega) (by omega)
  obtain ⟨b2, i2, h2, e2, p2, q2, _, a2, c2⟩ := below_some l hl i1 h1 7 a1 c1
  have := q2 (by omega)
  refine ⟨x, rd [(-1), 0, 1, 3, 9, 4611686018427387904, (-9223372036854775808)] b2, ?_, hx, ?_⟩
  · unfold spec_DrawChosen.f
    refine Ev.bind e0 (Ev.bind e1 ?_)
    simp only [e2, Option.bind_some]
    exact Ev.pos (by omega) (Ev.pos (by simp; omega) (Ev.now _))
  · obtain ⟨d, rfl⟩ := Int.eq_ofNat_of_zero_le p2
    have : d < 7 := by omega
    match d, this with
    | 0, _ => decide
    | 1, _ => decide
    | 2, _ => decide
    | 3, _ => decide
    | 4, _ => decide
    | 5, _ => decide
    | 6, _ => decide
/-! the law -/
def eqO (o y : S86) : Bool := y.f0 == o.f0 && y.f1.toList == o.f1.toList
theorem had_l1 (x : List S86) (hx : x.length ≤ 100) (o : S86) (seen : Int) (q : List S86) (hq : q = []) : ∀ (d i : Nat) (had : Nat), i + d = x.length → had ≤ i → seen = ((had + (x.drop i).countP (eqO o) : Nat) : Int) + 1 → Ev (fun k => laws_FnPool.l1 k x seen q had i o.f0 o.f1) true
  | 0, i, had, hi, hh, hs => by
    rw [List.drop_eq_nil_of_le (by omega)] at hs
    simp at hs
    refine Ev.succ ?_
    simp only [laws_FnPool.l1]
    rw [w64 (x := (had : Int) + 1) (by omega) (by omega), hq]
    exact Ev.neg (by omega) (Ev.pos (by omega) (Ev.now _))
  | d + 1, i, had, hi, hh, hs => by
    have hd : x.drop i = x.getD i z86 :: x.drop (i + 1) := by rw [g_get (by omega)]; exact List.drop_eq_getElem_cons (by omega)
    rw [hd, List.countP_cons] at hs
    refine Ev.succ ?_
    simp only [laws_FnPool.l1, rd_nat]
    rw [w64 (x := (had : Int) + 1) (by omega) (by omega), w64 (x := (i : Int) + 1) (by omega) (by omega), cast_succ]
    refine Ev.pos (by omega) (Ev.pos (by omega) ?_)
    by_cases h : eqO o (x.getD i z86) = true
    · rw [if_pos h] at hs
      refine Ev.pos h ?_
      rw [cast_succ]
      exact had_l1 x hx o seen q hq d (i + 1) (had + 1) (by omega) (by omega) (by omega)
    · rw [if_neg h] at hs
      exact Ev.neg h (had_l1 x hx o seen q hq d (i + 1) had (by omega) (by omega) (by omega))
theorem tells_l0 (x out : List S86) (hx : x.length ≤ 100) (ho : out.length ≤ 100) (o : S86) : ∀ (d i seen : Nat) (q : List S86) (last : S86), q.length = d → i + d = out.length → seen ≤ i → PoolP q → (∀ y, y ∈ q → ahd y last = false) →
    seen + q.countP (eqO o) = x.countP (eqO o) + 1 → Ev (fun k => laws_FnPool.l0 k x out seen q i o.f0 o.f1 last.f0 last.f1) true
  | 0, i, seen, q, last, hq, hi, hs, hp, hy, hc => by
    obtain rfl := List.length_eq_zero_iff.1 hq
    refine Ev.succ ?_
    simp only [laws_FnPool.l0]
    refine Ev.neg (by omega) ?_
    exact had_l1 x hx o seen [] rfl x.length 0 0 (by omega) (by omega) (by simp at hc; simp; omega)
  | d + 1, i, seen, q, last, hq, hi, hs, hp, hy, hc => by
    obtain ⟨_, j2⟩ := next_ev q (by omega) (by omega)
    obtain ⟨r, _, e2, e3⟩ := pool_iff q (by omega)
    obtain rfl := e3.2 hp
    have hp' := next_pool hp (by omega)
    obtain ⟨r', _, e5, e6⟩ := pool_iff (rest q) (by rw [rest_len]; omega)
    obtain rfl := e6.2 hp'
    obtain ⟨_, hperm⟩ := rest_ok hp.2.2 (show 0 < q.length by omega)
    have hN : Ev (fun k => impl_Next.f k q) ((q.getD 0 z86).f0, (q.getD 0 z86).f1, rest q, true) := by
      unfold impl_Next.f
      exact Ev.bind e2 (Ev.pos rfl (Ev.neg (by omega) (Ev.bind j2 (Ev.now _))))
    have htop := ah_no.1 (hy (q.getD 0 z86) (by rw [g_get (by omega)]; exact List.getElem_mem _))
    have hnext : ∀ y, y ∈ rest q → ahd y (q.getD 0 z86) = false := fun y hm => by
      have := hperm.subset (List.mem_cons_of_mem _ hm)
      obtain ⟨j, hj⟩ := List.getElem?_of_mem this
      rw [← g_of hj]
      exact top hp.2.2 (j + 1) j (by omega) (List.getElem?_eq_some_iff.1 hj).1
    have hcnt := hperm.countP_eq (eqO o)
    rw [List.countP_cons] at hcnt
    have hl := rest_len q
    have key : Ev (fun k => laws_FnPool.j2 k x out seen i (rest q) false o.f0 o.f1 (q.getD 0 z86).f0 (q.getD 0 z86).f1) true := by
      refine Ev.succ ?_
      simp only [laws_FnPool.j2]
      rw [w64 (x := (seen : Int) + 1) (by omega) (by omega), w64 (x := (i : Int) + 1) (by omega) (by omega), cast_succ]
      refine Ev.neg (by simp) ?_
      by_cases h : eqO o (q.getD 0 z86) = true
      · rw [if_pos h] at hcnt
        refine Ev.pos h ?_
        rw [cast_succ]
        exact tells_l0 x out hx ho o d (i + 1) (seen + 1) (rest q) (q.getD 0 z86) (by omega) (by omega) (by omega) hp' hnext (by omega)
      · rw [if_neg h] at hcnt
        exact Ev.neg h (tells_l0 x out hx ho o d (i + 1) seen (rest q) (q.getD 0 z86) (by omega) (by omega) (by omega) hp' hnext (by omega))
    refine Ev.succ ?_
    simp only [laws_FnPool.l0]
    refine Ev.pos (by omega) (Ev.bind hN (Ev.pos rfl (Ev.bind e5 (Ev.pos rfl (Ev.pos ?_ (Ev.neg (by omega) ?_))))))
    · dsimp only
      rw [w64 (by omega) (by omega), hl]
      omega
    · by_cases he : (q.getD 0 z86).f0 = last.f0
      · refine Ev.pos he ?_
        dsimp only
        rw [htop.2 he]
        exact key
      · exact Ev.neg he key
theorem eqO_self (o : S86) : eqO o o = true := by simp [eqO]
theorem FnPool : laws_FnPool.Pure := by
  intro l hl1 hl2 hu
  refine Ev.rounds (g := fun k => laws_FnPool.f k l) ?_
  have hl : (l.length : Int) < 9223372036854775807 := by omega
  unfold laws_FnPool.f laws_big.f
  simp only [Option.bind_some]
  refine Ev.ite (fun _ => Ev.now _) (fun _ => ?_)
  obtain ⟨x, a, s, d1, hx⟩ := DrawOffered_ev l hl
  obtain ⟨p, d2, hp⟩ := DrawNext_ev l hl
  obtain ⟨c, n, d3, hc, hn⟩ := DrawChosen_ev l hl
  obtain ⟨out, b, o1, o2, o3, o4⟩ := off_ev x ⟨a, s⟩ (by omega)
  obtain ⟨r, e1, e2, e3⟩ := pool_iff p (by omega)
  obtain ⟨t, ht, t1, t2⟩ := Chosen_ev c n (by omega) hn
  have hout : out.length ≤ 101 := by
    cases b with
    | false => rw [o3 rfl]; simp
    | true => rw [(o4 rfl).2.2.2]; unfold more; rw [more_len x ⟨a, s⟩]; simp; omega
  obtain ⟨na, ns, nr, nb, hnr, n1, n2⟩ : ∃ na ns nr nb, nr.length ≤ 100 ∧ Ev (fun k => spec_Next.f k p) (na, ns, nr, nb) ∧ Ev (fun k => impl_Next.f k p) (na, ns, nr, nb) := by
    unfold spec_Next.f impl_Next.f
    cases r with
    | false => exact ⟨0, (⟨#[]⟩ : ByteArray), [], false, by simp, Ev.bind e1 (Ev.neg (by simp) (Ev.now _)), Ev.bind e2 (Ev.neg (by simp) (Ev.now _))⟩
    | true =>
      by_cases h : (p.length : Int) = 0
      · exact ⟨0, (⟨#[]⟩ : ByteArray), [], false, by simp, Ev.bind e1 (Ev.pos rfl (Ev.pos h (Ev.now _))), Ev.bind e2 (Ev.pos rfl (Ev.pos h (Ev.now _)))⟩
      · obtain ⟨j1, j2⟩ := next_ev p (by omega) (by omega)
        exact ⟨(p.getD 0 z86).f0, (p.getD 0 z86).f1, rest p, true, by rw [rest_len]; omega, Ev.bind e1 (Ev.pos rfl (Ev.neg h (Ev.bind j1 (Ev.now _)))), Ev.bind e2 (Ev.pos rfl (Ev.neg h (Ev.bind j2 (Ev.now _))))⟩
  have l1 := likeO out (by omega)
  have l2 := likeT t (by omega)
  have l3 := likeO nr (by omega)
  refine Ev.bind d1 (Ev.bind o2 (Ev.bind d2 (Ev.bind n2 (Ev.bind d3 (Ev.bind t2 (Ev.bind o1 (Ev.neg (by simp) (Ev.bind l1 (Ev.pos rfl (Ev.bind e2 (Ev.bind e1 (Ev.neg (by simp) (Ev.bind t1 (Ev.bind l2 (Ev.pos rfl (Ev.bind n1 (Ev.neg (by simp) (Ev.neg (by simp) (Ev.bind l3 (Ev.pos rfl ?_))))))))))))))))))))
  dsimp only
  cases b with
  | false =>
    have := o3 rfl
    subst this
    refine Ev.neg (by simp) (Ev.succ ?_)
    simp only [laws_FnPool.j0]
    exact Ev.neg (by simp) (Ev.neg (by simp) (Ev.now _))
  | true =>
    obtain ⟨q1, q2, q3, q4⟩ := o4 rfl
    obtain ⟨m1, m2⟩ := more_ok ⟨a, s⟩ q1.2.2
    rw [← q4] at m1 m2
    have hlen : out.length = x.length + 1 := by rw [m2.length_eq]; simp
    have hP : PoolP out := ⟨by omega, fun o ho => by
      have := m2.subset ho
      rw [List.mem_append] at this
      rcases this with h | h
      · exact q1.2.1 o h
      · rw [List.mem_singleton.1 h]; exact q2, m1⟩
    obtain ⟨r2, _, g2, g3⟩ := pool_iff out (by omega)
    obtain rfl := g3.2 hP
    refine Ev.pos rfl (Ev.bind g2 (Ev.pos rfl (Ev.succ ?_)))
    simp only [laws_FnPool.j0]
    have w : wrap64 ((x.length : Int) + 1) = (out.length : Int) := by rw [w64 (by omega) (by omega)]; omega
    rw [w]
    refine Ev.neg (by simp) (Ev.pos (by simp) ?_)
    have hcnt := m2.countP_eq (eqO ⟨a, s⟩)
    rw [List.countP_append, List.countP_singleton, eqO_self] at hcnt
    exact tells_l0 x out (by omega) (by omega) ⟨a, s⟩ out.length 0 0 out ⟨1000000001, (⟨#[]⟩ : ByteArray)⟩ rfl (by omega) (by omega) hP (fun y hy => ah_no.2 (by
      have := (hP.2.1 y hy).2.1
      dsimp only
      exact ⟨by omega, fun e => absurd e (by omega)⟩)) (by simpa using hcnt)

end Go.Proofs.Ytckgkhlgnblblaa.Pure
