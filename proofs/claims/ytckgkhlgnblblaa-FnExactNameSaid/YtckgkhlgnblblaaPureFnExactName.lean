/- The program's Name returns what the reference's Name returns, for every block. No condition. -/
import Derived.Test.YtckgkhlgnblblaaBoilFnExactName
namespace Go.Proofs.Ytckgkhlgnblblaa.Pure
open Go.RowKit Go.Proofs.Ytckgkhlgnblblaa.PFnExactName Go.Proofs.YtckgkhlgnblblaaW.PrintWords Go.Proofs.YtckgkhlgnblblaaW.PrintLast Go.Proofs.YtckgkhlgnblblaaW.PrintMore
set_option maxRecDepth 100000
set_option linter.unusedVariables false
set_option linter.unusedSimpArgs false
theorem within_eq (a b c : Int) : impl_within.f a b c = some (decide (b ≤ a ∧ a ≤ c)) := by
  unfold impl_within.f
  split
  · rename_i h; congr 1; simp; omega
  · rename_i h; congr 1; simp; omega
theorem in_eq (a b c : Int) : spec_l1In.f a b c = some (decide (b ≤ a ∧ a ≤ c)) := by
  unfold spec_l1In.f
  split
  · rename_i h; congr 1; simp; omega
  · rename_i h; congr 1; simp; omega
/-! a number, seven bits to a byte -/
def numF : Nat → Nat → List Int
  | 0, n => [((n % 256 : Nat) : Int)]
  | f + 1, n => if n < 128 then [(n : Int)] else ((n % 128 + 128 : Nat) : Int) :: numF f (n / 128)
def numB (n : Nat) : List Int := numF 8 n
theorem numF_len : ∀ f n, 1 ≤ (numF f n).length ∧ (numF f n).length ≤ f + 1
  | 0, n => by simp [numF]
  | f + 1, n => by
    unfold numF
    split
    · simp
    · have := numF_len f (n / 128)
      simp only [List.length_cons]
      omega
theorem numB_len (n : Nat) : 1 ≤ (numB n).length ∧ (numB n).length ≤ 9 := numF_len 8 n
theorem or_all : ∀ b : Fin 256, Go.bits .or .u8 ((b.val : Nat) : Int) 128 = ((b.val % 128 + 128 : Nat) : Int) := by decide +kernel
theorem snum_l0 : ∀ (f n : Nat) (acc : List Int), n < 128 ^ (f + 1) → n ≤ 4611686018427387904 → acc.length + f ≤ 1000000 → Ev (fun k => spec_l1Number.l0 k n acc) (acc ++ numF f n)
  | 0, n, acc, h, hn, ha => by
    refine Ev.succ ?_
    simp only [spec_l1Number.l0, numF]
    rw [show (n : Int) % 256 = ((n % 256 : Nat) : Int) by omega]
    exact Ev.neg (by omega) (Ev.pos (by omega) (Ev.now _))
  | f + 1, n, acc, h, hn, ha => by
    refine Ev.succ ?_
    simp only [spec_l1Number.l0, numF]
    by_cases c : n < 128
    · rw [if_pos c, show (n : Int) % 256 = (n : Int) by omega]
      exact Ev.neg (by omega) (Ev.pos (by omega) (Ev.now _))
    · rw [if_neg c, show Int.tdiv (n : Int) 128 = ((n / 128 : Nat) : Int) from rfl, show Int.tmod (n : Int) 128 = ((n % 128 : Nat) : Int) from rfl]
      rw [w64 (x := ((n / 128 : Nat) : Int)) (by omega) (by omega), w64 (x := ((n % 128 : Nat) : Int) + 128) (by omega) (by omega)]
      have hd : n / 128 < 128 ^ (f + 1) := Nat.div_lt_of_lt_mul (by rw [Nat.pow_succ] at h; omega)
      have ih := snum_l0 f (n / 128) (acc ++ [((n % 128 + 128 : Nat) : Int)]) hd (by omega) (by simp; omega)
      rw [List.append_assoc] at ih
      refine Ev.pos (by omega) (Ev.pos (by omega) ?_)
      rw [show (((n % 128 : Nat) : Int) + 128) % 256 = ((n % 128 + 128 : Nat) : Int) by omega]
      exact ih
theorem inum_l0 : ∀ (f n : Nat) (acc : List Int), n < 128 ^ (f + 1) → n ≤ 4611686018427387904 → acc.length + f ≤ 1000000 → Ev (fun k => impl_Number.l0 k n acc) (acc ++ numF f n)
  | 0, n, acc, h, hn, ha => by
    refine Ev.succ ?_
    simp only [impl_Number.l0, numF]
    rw [show (n : Int) % 256 = ((n % 256 : Nat) : Int) by omega]
    exact Ev.neg (by omega) (Ev.pos (by omega) (Ev.now _))
  | f + 1, n, acc, h, hn, ha => by
    refine Ev.succ ?_
    simp only [impl_Number.l0, numF]
    by_cases c : n < 128
    · rw [if_pos c, show (n : Int) % 256 = (n : Int) by omega]
      exact Ev.neg (by omega) (Ev.pos (by omega) (Ev.now _))
    · have ho := or_all ⟨n % 256, by omega⟩
      rw [if_neg c, show (n : Int) / 128 = ((n / 128 : Nat) : Int) by omega, show (n : Int) % 256 = ((n % 256 : Nat) : Int) by omega, ho, show n % 256 % 128 = n % 128 by omega]
      have hd : n / 128 < 128 ^ (f + 1) := Nat.div_lt_of_lt_mul (by rw [Nat.pow_succ] at h; omega)
      have ih := inum_l0 f (n / 128) (acc ++ [((n % 128 + 128 : Nat) : Int)]) hd (by omega) (by simp; omega)
      rw [List.append_assoc] at ih
      exact Ev.pos (by omega) (Ev.pos (by omega) ih)
theorem snumber (n : Nat) (h : n ≤ 4611686018427387904) : Ev (fun k => spec_l1Number.f k n) (numB n) := by
  unfold spec_l1Number.f
  exact snum_l0 8 n [] (by omega) h (by simp)
theorem inumber (n : Nat) (h : n ≤ 1099511627776) : Ev (fun k => impl_Number.f k n) (numB n) := by
  unfold impl_Number.f
  have c : (0 : Int) ≤ (n : Int) ∧ (n : Int) ≤ 1099511627776 := ⟨by omega, by omega⟩
  simp only [within_eq, decide_eq_true c, Option.bind_some]
  exact Ev.pos (by simp) (inum_l0 8 n [] (by omega) (by omega) (by simp))
/-! texts behind how many there are -/
def textB (s : ByteArray) : List Int := numB s.size ++ bytesOf s
theorem textB_len (s : ByteArray) : (textB s).length ≤ s.size + 9 := by
  have := numB_len s.size
  simp only [textB, List.length_append, bytesOf_length]
  omega
theorem stext (s : ByteArray) (h : s.size ≤ 3000) : Ev (fun k => spec_l1Text.f k s) (textB s) := by
  have := numB_len s.size
  unfold spec_l1Text.f
  exact Ev.bind (snumber s.size (by omega)) (Ev.pos (by omega) (Ev.now _))
theorem itext (s : ByteArray) (h : s.size ≤ 3000) : Ev (fun k => impl_Text.f k s) (textB s) := by
  have := numB_len s.size
  unfold impl_Text.f
  exact Ev.neg (by omega) (Ev.bind (inumber s.size (by omega)) (Ev.pos (by omega) (Ev.now _)))
def fitT (l : List ByteArray) : Bool := l.all fun s => decide (s.size ≤ 3000)
def flatT (l : List ByteArray) : List Int := l.flatMap textB
theorem fitT_cons (s : ByteArray) (l : List ByteArray) : fitT (s :: l) = (decide (s.size ≤ 3000) && fitT l) := rfl
theorem flatT_cons (s : ByteArray) (l : List ByteArray) : flatT (s :: l) = textB s ++ flatT l := by simp [flatT]
theorem flatT_len : ∀ l : List ByteArray, fitT l = true → (flatT l).length ≤ 3009 * l.length
  | [], _ => by simp [flatT]
  | s :: l, h => by
    simp only [fitT, List.all_cons, Bool.and_eq_true, decide_eq_true_eq] at h
    have h1 := flatT_len l h.2
    have h2 := textB_len s
    simp only [flatT, List.flatMap_cons, List.length_append, List.length_cons] at h1 ⊢
    omega
theorem rdS {l : List ByteArray} {i : Nat} (hi : i < l.length) : rdOf ByteArray.empty l (i : Int) = l[i] := rdOf_get (List.getElem?_eq_getElem hi)
theorem texts_l0 (l : List ByteArray) (hl : l.length ≤ 200) : ∀ (d i : Nat) (acc : List Int), i + d = l.length → acc.length + 3009 * d ≤ 1000000 →
    Ev (fun k => spec_Texts.l0 k l acc i) (if fitT (l.drop i) then acc ++ flatT (l.drop i) else []) ∧ Ev (fun k => impl_Texts.l0 k acc l (l.length : Int) i) (if fitT (l.drop i) then acc ++ flatT (l.drop i) else [])
  | 0, i, acc, hi, ha => by
    rw [List.drop_eq_nil_of_le (by omega)]
    refine ⟨Ev.succ ?_, Ev.succ ?_⟩
    · simp only [spec_Texts.l0, fitT, flatT, List.all_nil, if_true, List.flatMap_nil, List.append_nil]
      exact Ev.neg (by omega) (Ev.now _)
    · simp only [impl_Texts.l0, fitT, flatT, List.all_nil, if_true, List.flatMap_nil, List.append_nil]
      exact Ev.neg (by omega) (Ev.now _)
  | d + 1, i, acc, hi, ha => by
    have hd : l.drop i = l[i]'(by omega) :: l.drop (i + 1) := List.drop_eq_getElem_cons (by omega)
    have hr := rdS (l := l) (i := i) (by omega)
    rw [hd]
    by_cases c : l[i].size ≤ 3000
    · have e1 := stext l[i] c
      have e2 := itext l[i] c
      have hb := textB_len l[i]
      have hf : fitT (l[i] :: l.drop (i + 1)) = fitT (l.drop (i + 1)) := by rw [fitT_cons, decide_eq_true c, Bool.true_and]
      obtain ⟨j1, j2⟩ := texts_l0 l hl d (i + 1) (acc ++ textB l[i]) (by omega) (by simp; omega)
      rw [hf, show acc ++ flatT (l[i] :: l.drop (i + 1)) = (acc ++ textB l[i]) ++ flatT (l.drop (i + 1)) by rw [flatT_cons, List.append_assoc]]
      refine ⟨Ev.succ ?_, Ev.succ ?_⟩
      · simp only [spec_Texts.l0, hr]
        rw [w64 (x := (i : Int) + 1) (by omega) (by omega), cast_succ]
        exact Ev.pos (by omega) (Ev.pos (by omega) (Ev.neg (by omega) (Ev.bind e1 (Ev.pos (by omega) j1))))
      · simp only [impl_Texts.l0, hr]
        rw [w64 (x := (i : Int) + 1) (by omega) (by omega), cast_succ]
        exact Ev.pos (by omega) (Ev.pos (by omega) (Ev.pos (by omega) (Ev.neg (by omega) (Ev.bind e2 (Ev.pos (by omega) j2)))))
    · have hf : fitT (l[i] :: l.drop (i + 1)) = false := by rw [fitT_cons, decide_eq_false c, Bool.false_and]
      rw [hf]
      refine ⟨Ev.succ ?_, Ev.succ ?_⟩
      · simp only [spec_Texts.l0, hr]
        exact Ev.pos (by omega) (Ev.pos (by omega) (Ev.pos (by omega) (Ev.now _)))
      · simp only [impl_Texts.l0, hr]
        exact Ev.pos (by omega) (Ev.pos (by omega) (Ev.pos (by omega) (Ev.pos (by omega) (Ev.now _))))
/-- The bytes of texts; none if they are too many or too long. -/
def textsB (l : List ByteArray) : List Int := if l.length ≤ 200 ∧ fitT l = true then numB l.length ++ flatT l else []
theorem textsB_len (l : List ByteArray) : (textsB l).length ≤ 700000 := by
  unfold textsB
  split
  · rename_i h
    have h1 := numB_len l.length
    have h2 := flatT_len l h.2
    simp only [List.length_append]
    omega
  · simp
theorem texts_ev (l : List ByteArray) (hl : l.length ≤ 4611686018427387904) : Ev (fun k => spec_Texts.f k l) (textsB l) ∧ Ev (fun k => impl_Texts.f k l) (textsB l) := by
  unfold spec_Texts.f impl_Texts.f
  by_cases c : (l.length : Int) > 200
  · have : textsB l = [] := by unfold textsB; rw [if_neg (fun h => by omega)]
    rw [this]
    exact ⟨Ev.pos c (Ev.now _), Ev.pos c (Ev.now _)⟩
  · have h1 := numB_len l.length
    obtain ⟨j1, j2⟩ := texts_l0 l (by omega) l.length 0 (numB l.length) (by omega) (by omega)
    have : (if fitT (l.drop 0) = true then numB l.length ++ flatT (l.drop 0) else []) = textsB l := by
      unfold textsB
      rw [List.drop_zero]
      by_cases f : fitT l = true
      · rw [if_pos f, if_pos ⟨by omega, f⟩]
      · rw [if_neg f, if_neg (fun h => f h.2)]
    rw [this] at j1 j2
    exact ⟨Ev.neg c (Ev.bind (snumber l.length (by omega)) j1), Ev.neg c (Ev.bind (inumber l.length (by omega)) j2)⟩
/-! a block as a text -/
def okN (n : Int) : Prop := 0 ≤ n ∧ n ≤ 1099511627776
def nums (l : List Int) : List Int := l.flatMap fun n => numB n.toNat
theorem nums_cons (n : Int) (l : List Int) : nums (n :: l) = numB n.toNat ++ nums l := by simp [nums]
theorem nums_len : ∀ l : List Int, (nums l).length ≤ 9 * l.length
  | [] => by simp [nums]
  | n :: l => by
    have h1 := nums_len l
    have h2 := numB_len n.toNat
    simp only [nums, List.flatMap_cons, List.length_append, List.length_cons] at h1 ⊢
    omega
theorem rdI {l : List Int} {i : Nat} (hi : i < l.length) : rd l (i : Int) = l[i] := rd_get (List.getElem?_eq_getElem hi)
def btl (bys ts : List Int) : Nat → Nat → List Int
  | 0, _ => []
  | d + 1, i => rd bys (i : Int) :: rd ts (i : Int) :: btl bys ts d (i + 1)
theorem btl_len (bys ts : List Int) : ∀ d i, (btl bys ts d i).length = 2 * d
  | 0, i => rfl
  | d + 1, i => by simp only [btl, List.length_cons, btl_len bys ts d]; omega
section
variable (v p pv pn : Int) (bys ts : List Int) (ms : List ByteArray) (by_ : Int)
theorem sb_l0 (ht : ts.length = bys.length) (h7 : bys.length ≤ 7) (R : ByteArray) : ∀ (d i : Nat) (acc : List Int), i + d = bys.length → acc.length + 2 * d ≤ 100 →
    Ev (fun k => spec_ShowBlock.l1 k (acc ++ btl bys ts d i) [] 0 v p pv pn bys ts ms by_) R → Ev (fun k => spec_ShowBlock.l0 k acc i v p pv pn bys ts ms by_) R
  | 0, i, acc, hi, ha, he => by
    simp only [btl, List.append_nil] at he
    refine Ev.succ ?_
    simp only [spec_ShowBlock.l0]
    exact Ev.neg (by omega) he
  | d + 1, i, acc, hi, ha, he => by
    have ih := sb_l0 ht h7 R d (i + 1) (acc ++ [rd bys (i : Int), rd ts (i : Int)]) (by omega) (by simp; omega) (by rw [List.append_assoc]; exact he)
    refine Ev.succ ?_
    simp only [spec_ShowBlock.l0, Option.bind_some]
    rw [w64 (x := (i : Int) + 1) (by omega) (by omega), cast_succ]
    exact Ev.pos (by omega) (Ev.pos (by omega) (Ev.pos (by omega) (Ev.pos (by simp; omega) ih)))
theorem ib_l0 (M : List Int) (ht : ts.length = bys.length) (h7 : bys.length ≤ 7) (R : ByteArray) : ∀ (d i : Nat) (acc : List Int), i + d = bys.length → acc.length + 2 * d ≤ 100 →
    Ev (fun k => impl_ShowBlock.l1 k M (acc ++ btl bys ts d i) [] ((acc ++ btl bys ts d i) ++ [by_]) (((acc ++ btl bys ts d i) ++ [by_]).length : Int) 0 v p pv pn bys ts ms by_) R → Ev (fun k => impl_ShowBlock.l0 k M acc bys (bys.length : Int) i v p pv pn bys ts ms by_) R
  | 0, i, acc, hi, ha, he => by
    simp only [btl, List.append_nil] at he
    refine Ev.succ ?_
    simp only [impl_ShowBlock.l0, Option.bind_some]
    exact Ev.neg (by omega) (Ev.pos (by omega) he)
  | d + 1, i, acc, hi, ha, he => by
    have ih := ib_l0 M ht h7 R d (i + 1) (acc ++ [rd bys (i : Int), rd ts (i : Int)]) (by omega) (by simp; omega) (by
      have e : (acc ++ [rd bys (i : Int), rd ts (i : Int)]) ++ btl bys ts d (i + 1) = acc ++ btl bys ts (d + 1) i := by rw [List.append_assoc]; rfl
      rw [e]; exact he)
    refine Ev.succ ?_
    simp only [impl_ShowBlock.l0, Option.bind_some]
    rw [w64 (x := (i : Int) + 1) (by omega) (by omega), cast_succ]
    exact Ev.pos (by omega) (Ev.pos (by omega) (Ev.pos (by omega) (Ev.pos (by omega) (Ev.pos (by simp; omega) ih))))
def okL (l : List Int) : Bool := l.all fun n => decide (0 ≤ n ∧ n ≤ 1099511627776)
theorem okL_cons (n : Int) (l : List Int) : okL (n :: l) = (decide (0 ≤ n ∧ n ≤ 1099511627776) && okL l) := rfl
/-- The reference: the numbers shown, unless one of them can't be. -/
theorem sb_l1 (L : List Int) (hL : L.length ≤ 100) (R : ByteArray) : ∀ (d i : Nat) (acc : List Int), i + d = L.length → acc.length + 9 * d ≤ 1000 →
    ((okL (L.drop i) = false ∧ R = (⟨#[]⟩ : ByteArray)) ∨ (okL (L.drop i) = true ∧ Ev (fun k => spec_ShowBlock.l1 k L (acc ++ nums (L.drop i)) (L.length : Int) v p pv pn bys ts ms by_) R)) → Ev (fun k => spec_ShowBlock.l1 k L acc i v p pv pn bys ts ms by_) R
  | 0, i, acc, hi, ha, he => by
    rw [List.drop_eq_nil_of_le (by omega)] at he
    obtain rfl : i = L.length := by omega
    rcases he with ⟨h, _⟩ | ⟨_, h⟩
    · simp [okL] at h
    · simpa [nums] using h
  | d + 1, i, acc, hi, ha, he => by
    have hd : L.drop i = L[i]'(by omega) :: L.drop (i + 1) := List.drop_eq_getElem_cons (by omega)
    rw [hd, okL_cons] at he
    have hr := rdI (l := L) (i := i) (by omega)
    refine Ev.succ ?_
    simp only [spec_ShowBlock.l1, hr, in_eq, Option.bind_some]
    rw [w64 (x := (i : Int) + 1) (by omega) (by omega), cast_succ]
    refine Ev.pos (by omega) (Ev.pos (by omega) ?_)
    by_cases c : 0 ≤ L[i] ∧ L[i] ≤ 1099511627776
    · rw [decide_eq_true c, Bool.true_and] at he
      have hn := numB_len L[i].toNat
      have e := snumber L[i].toNat (by omega)
      rw [Int.toNat_of_nonneg c.1] at e
      refine Ev.pos (by simpa using c) (Ev.bind e (Ev.pos (by omega) ?_))
      refine sb_l1 L hL R d (i + 1) (acc ++ numB L[i].toNat) (by omega) (by simp; omega) ?_
      rcases he with h | ⟨h, he⟩
      · exact .inl h
      · refine .inr ⟨h, ?_⟩
        rw [List.append_assoc]
        exact he
    · rw [decide_eq_false c, Bool.false_and] at he
      rcases he with ⟨_, h⟩ | ⟨h, _⟩
      · rw [h]
        exact Ev.neg (by simpa using c) (Ev.now _)
      · simp at h
theorem ib_l1 (M L y : List Int) (hL : y.length ≤ 100) (R : ByteArray) : ∀ (d i : Nat), i + d = y.length →
    ((okL (y.drop i) = false ∧ R = (⟨#[]⟩ : ByteArray)) ∨ (okL (y.drop i) = true ∧ Ev (fun k => impl_ShowBlock.l2 k M [] L (L.length : Int) 0 v p pv pn bys ts ms by_) R)) → Ev (fun k => impl_ShowBlock.l1 k M L [] y (y.length : Int) i v p pv pn bys ts ms by_) R
  | 0, i, hi, he => by
    rw [List.drop_eq_nil_of_le (by omega)] at he
    refine Ev.succ ?_
    simp only [impl_ShowBlock.l1]
    rcases he with ⟨h, _⟩ | ⟨_, h⟩
    · simp [okL] at h
    · exact Ev.neg (by omega) h
  | d + 1, i, hi, he => by
    have hd : y.drop i = y[i]'(by omega) :: y.drop (i + 1) := List.drop_eq_getElem_cons (by omega)
    rw [hd, okL_cons] at he
    have hr := rdI (l := y) (i := i) (by omega)
    refine Ev.succ ?_
    simp only [impl_ShowBlock.l1, hr, within_eq, Option.bind_some]
    rw [w64 (x := (i : Int) + 1) (by omega) (by omega), cast_succ]
    refine Ev.pos (by omega) (Ev.pos (by omega) (Ev.pos (by omega) ?_))
    by_cases c : 0 ≤ y[i] ∧ y[i] ≤ 1099511627776
    · rw [decide_eq_true c, Bool.true_and] at he
      exact Ev.pos (by simpa using c) (ib_l1 M L y hL R d (i + 1) (by omega) he)
    · rw [decide_eq_false c, Bool.false_and] at he
      rcases he with ⟨_, h⟩ | ⟨h, _⟩
      · rw [h]
        exact Ev.neg (by simpa using c) (Ev.now _)
      · simp at h
theorem ib_l2 (M L : List Int) (hM : M.length ≤ 700000) (hL : L.length ≤ 100) (ho : okL L = true) (hb : 0 ≤ by_ ∧ by_ ≤ 1099511627776) : ∀ (d i : Nat) (acc : List Int), i + d = L.length → acc.length + 9 * d ≤ 1000 →
    Ev (fun k => impl_ShowBlock.l2 k M acc L (L.length : Int) i v p pv pn bys ts ms by_) (strOfNums ((acc ++ nums (L.drop i) ++ M) ++ numB by_.toNat))
  | 0, i, acc, hi, ha => by
    rw [List.drop_eq_nil_of_le (by omega)]
    have hn := numB_len by_.toNat
    have e := inumber by_.toNat (by omega)
    rw [Int.toNat_of_nonneg hb.1] at e
    refine Ev.succ ?_
    simp only [impl_ShowBlock.l2, nums, List.flatMap_nil, List.append_nil, Option.bind_some]
    exact Ev.neg (by omega) (Ev.pos (by omega) (Ev.bind e (Ev.pos (by simp; omega) (Ev.now _))))
  | d + 1, i, acc, hi, ha => by
    have hd : L.drop i = L[i]'(by omega) :: L.drop (i + 1) := List.drop_eq_getElem_cons (by omega)
    have hr := rdI (l := L) (i := i) (by omega)
    have c : 0 ≤ L[i] ∧ L[i] ≤ 1099511627776 := by
      have := List.all_eq_true.1 ho L[i] (List.getElem_mem _)
      simpa using this
    have hn := numB_len L[i].toNat
    have e := inumber L[i].toNat (by omega)
    rw [Int.toNat_of_nonneg c.1] at e
    have ih := ib_l2 M L hM hL ho hb d (i + 1) (acc ++ numB L[i].toNat) (by omega) (by simp; omega)
    rw [hd, show acc ++ nums (L[i] :: L.drop (i + 1)) = (acc ++ numB L[i].toNat) ++ nums (L.drop (i + 1)) by rw [nums_cons, List.append_assoc]]
    refine Ev.succ ?_
    simp only [impl_ShowBlock.l2, hr]
    rw [w64 (x := (i : Int) + 1) (by omega) (by omega), cast_succ]
    exact Ev.pos (by omega) (Ev.pos (by omega) (Ev.pos (by omega) (Ev.bind e (Ev.pos (by omega) ih))))
def lst : List Int := [v, p, pv, pn, (bys.length : Int)] ++ btl bys ts bys.length 0
/-- A block as a text. -/
def shown : ByteArray :=
  if ts.length = bys.length ∧ bys.length ≤ 7 ∧ textsB ms ≠ [] ∧ okL (lst v p pv pn bys ts) = true ∧ (0 ≤ by_ ∧ by_ ≤ 1099511627776) then strOfNums ((nums (lst v p pv pn bys ts) ++ textsB ms) ++ numB by_.toNat) else (⟨#[]⟩ : ByteArray)
theorem show_ev (h4 : bys.length ≤ 4611686018427387904) (h5 : ts.length ≤ 4611686018427387904) (h6 : ms.length ≤ 4611686018427387904) :
    Ev (fun k => spec_ShowBlock.f k v p pv pn bys ts ms by_) (shown v p pv pn bys ts ms by_) ∧ Ev (fun k => impl_ShowBlock.f k v p pv pn bys ts ms by_) (shown v p pv pn bys ts ms by_) := by
  obtain ⟨t1, t2⟩ := texts_ev ms h6
  have tl := textsB_len ms
  have bl := btl_len bys ts bys.length 0
  have no1 : Ev (fun k => spec_ShowBlock.j0 k [v, p, pv, pn, (bys.length : Int)] true v p pv pn bys ts ms by_) (⟨#[]⟩ : ByteArray) := Ev.succ (by simp only [spec_ShowBlock.j0]; exact Ev.pos (by simp) (Ev.now _))
  have no2 : Ev (fun k => impl_ShowBlock.j0 k (textsB ms) true v p pv pn bys ts ms by_) (⟨#[]⟩ : ByteArray) := Ev.succ (by simp only [impl_ShowBlock.j0]; exact Ev.pos (by simp) (Ev.now _))
  unfold spec_ShowBlock.f impl_ShowBlock.f
  simp only [Option.bind_some]
  by_cases c7 : bys.length ≤ 7
  · by_cases ct : ts.length = bys.length
    · have ne : ((bys.length : Int) != (ts.length : Int)) = false := by simp [ct]
      rw [ne]
      have hl : (lst v p pv pn bys ts).length ≤ 19 := by simp only [lst, List.length_append, bl, List.length_cons, List.length_nil]; omega
      have hnl := nums_len (lst v p pv pn bys ts)
      have S : Ev (fun k => spec_ShowBlock.j0 k [v, p, pv, pn, (bys.length : Int)] false v p pv pn bys ts ms by_) (shown v p pv pn bys ts ms by_) := by
        refine Ev.succ ?_
        simp only [spec_ShowBlock.j0]
        refine Ev.neg (by simp) (sb_l0 v p pv pn bys ts ms by_ ct c7 _ bys.length 0 [v, p, pv, pn, (bys.length : Int)] (by omega) (by simp; omega) ?_)
        refine sb_l1 v p pv pn bys ts ms by_ (lst v p pv pn bys ts) (by omega) _ (lst v p pv pn bys ts).length 0 [] (by omega) (by simp; omega) ?_
        rw [List.drop_zero, List.nil_append]
        cases ho : okL (lst v p pv pn bys ts) with
        | false =>
          refine .inl ⟨rfl, ?_⟩
          unfold shown
          rw [if_neg (fun h => by rw [ho] at h; simp at h)]
        | true =>
          refine .inr ⟨rfl, Ev.succ ?_⟩
          simp only [spec_ShowBlock.l1, in_eq, Option.bind_some]
          refine Ev.neg (by omega) (Ev.bind t1 ?_)
          by_cases ce : textsB ms = []
          · have : shown v p pv pn bys ts ms by_ = (⟨#[]⟩ : ByteArray) := by unfold shown; rw [if_neg (fun h => h.2.2.1 ce)]
            rw [this, ce]
            exact Ev.pos rfl (Ev.now _)
          · have hz : ¬ ((textsB ms).length : Int) = 0 := by
              intro h
              exact ce (List.length_eq_zero_iff.1 (by omega))
            refine Ev.neg hz ?_
            by_cases cb : 0 ≤ by_ ∧ by_ ≤ 1099511627776
            · have hn := numB_len by_.toNat
              have e := snumber by_.toNat (by omega)
              rw [Int.toNat_of_nonneg cb.1] at e
              have : shown v p pv pn bys ts ms by_ = strOfNums ((nums (lst v p pv pn bys ts) ++ textsB ms) ++ numB by_.toNat) := by unfold shown; rw [if_pos ⟨ct, c7, ce, ho, cb⟩]
              rw [this]
              exact Ev.pos (by simpa using cb) (Ev.pos (by omega) (Ev.bind e (Ev.pos (by simp; omega) (Ev.now _))))
            · have : shown v p pv pn bys ts ms by_ = (⟨#[]⟩ : ByteArray) := by unfold shown; rw [if_neg (fun h => cb h.2.2.2.2)]
              rw [this]
              exact Ev.neg (by simpa using cb) (Ev.now _)
      have I : Ev (fun k => impl_ShowBlock.j0 k (textsB ms) (((textsB ms).length : Int) == 0) v p pv pn bys ts ms by_) (shown v p pv pn bys ts ms by_) := by
        by_cases ce : textsB ms = []
        · have : shown v p pv pn bys ts ms by_ = (⟨#[]⟩ : ByteArray) := by unfold shown; rw [if_neg (fun h => h.2.2.1 ce)]
          rw [this]
          have hz : (((textsB ms).length : Int) == 0) = true := by rw [ce]; rfl
          rw [hz]
          exact no2
        · have hz : (((textsB ms).length : Int) == 0) = false := by
            rw [beq_eq_false_iff_ne]
            intro h
            exact ce (List.length_eq_zero_iff.1 (by omega))
          rw [hz]
          refine Ev.succ ?_
          simp only [impl_ShowBlock.j0]
          refine Ev.neg (by simp) (ib_l0 v p pv pn bys ts ms by_ (textsB ms) ct c7 _ bys.length 0 [v, p, pv, pn, (bys.length : Int)] (by omega) (by simp; omega) ?_)
          refine ib_l1 v p pv pn bys ts ms by_ (textsB ms) (lst v p pv pn bys ts) (lst v p pv pn bys ts ++ [by_]) (by simp; omega) _ (lst v p pv pn bys ts ++ [by_]).length 0 (by omega) ?_
          rw [List.drop_zero]
          have hoo : okL (lst v p pv pn bys ts ++ [by_]) = (okL (lst v p pv pn bys ts) && decide (0 ≤ by_ ∧ by_ ≤ 1099511627776)) := by simp [okL]
          rw [hoo]
          by_cases cb : okL (lst v p pv pn bys ts) = true ∧ (0 ≤ by_ ∧ by_ ≤ 1099511627776)
          · refine .inr ⟨by rw [cb.1, decide_eq_true cb.2]; rfl, ?_⟩
            have : shown v p pv pn bys ts ms by_ = strOfNums ((nums (lst v p pv pn bys ts) ++ textsB ms) ++ numB by_.toNat) := by unfold shown; rw [if_pos ⟨ct, c7, ce, cb.1, cb.2⟩]
            rw [this]
            have := ib_l2 v p pv pn bys ts ms by_ (textsB ms) (lst v p pv pn bys ts) tl (by omega) cb.1 cb.2 (lst v p pv pn bys ts).length 0 [] (by omega) (by simp; omega)
            simpa using this
          · refine .inl ⟨?_, ?_⟩
            · rw [← Bool.not_eq_true, Bool.and_eq_true, decide_eq_true_iff]
              exact cb
            · unfold shown
              rw [if_neg (fun h => cb ⟨h.2.2.2.1, h.2.2.2.2⟩)]
      exact ⟨Ev.neg (by omega) S, Ev.bind t2 (Ev.pos (by omega) (Ev.neg (by omega) I))⟩
    · have : shown v p pv pn bys ts ms by_ = (⟨#[]⟩ : ByteArray) := by unfold shown; rw [if_neg (fun h => ct h.1)]
      rw [this]
      have ne : ((bys.length : Int) != (ts.length : Int)) = true := by
        rw [bne_iff_ne]
        intro h
        exact ct (by omega)
      rw [ne]
      exact ⟨Ev.neg (by omega) no1, Ev.bind t2 (Ev.neg (by omega) no2)⟩
  · have : shown v p pv pn bys ts ms by_ = (⟨#[]⟩ : ByteArray) := by unfold shown; rw [if_neg (fun h => c7 h.2.1)]
    rw [this]
    refine ⟨Ev.pos (by omega) no1, Ev.bind t2 (Ev.ite (fun _ => Ev.pos (by omega) no2) (fun _ => no2))⟩
theorem shown_size : (shown v p pv pn bys ts ms by_).size ≤ 1000000 := by
  unfold shown
  split
  · rename_i h
    have h1 := nums_len (lst v p pv pn bys ts)
    have h2 := textsB_len ms
    have h3 := numB_len by_.toNat
    have bl := btl_len bys ts bys.length 0
    have hl : (lst v p pv pn bys ts).length ≤ 19 := by simp only [lst, List.length_append, bl, List.length_cons, List.length_nil]; omega
    rw [strOfNums_size]
    simp only [List.length_append]
    omega
  · decide
end
theorem size_data (s : ByteArray) : s.data.toList.length = s.size := by simp only [ByteArray.size, Array.length_toList]
def dstep (h : Int) (b : UInt8) : Int := Int.tmod (h * 1000003 + (b.toNat : Int) + 1) 2147483647
def dg (s : ByteArray) : Int := s.data.toList.foldl dstep 1
theorem dstep_in {h : Int} {b : UInt8} (h0 : 0 ≤ h) : 0 ≤ dstep h b ∧ dstep h b < 2147483647 := by
  unfold dstep
  have hb : (0 : Int) ≤ (b.toNat : Int) := by omega
  generalize (b.toNat : Int) = v at *
  rw [Int.tmod_eq_emod_of_nonneg (by omega)]
  omega
theorem bt_data {s : ByteArray} {i : Nat} {b : UInt8} (h : s.data.toList[i]? = some b) : bt s (i : Int) = (b.toNat : Int) := by
  obtain ⟨hi, rfl⟩ := List.getElem?_eq_some_iff.1 h
  have hs : i < s.size := by rw [← size_data]; exact hi
  unfold bt
  rw [dif_pos (by simpa using hs)]
  simp [ByteArray.getElem_eq_getElem_data]
theorem dwrap {h v : Int} (h0 : 0 ≤ h) (h1 : h < 2147483647) (v0 : 0 ≤ v) (v1 : v ≤ 255) : wrap64 ((wrap64 ((wrap64 (h * 1000003)) + (wrap64 v))) + 1) = h * 1000003 + v + 1 := by
  rw [w64 (x := h * 1000003) (by omega) (by omega), w64 (x := v) (by omega) (by omega), w64 (x := h * 1000003 + v) (by omega) (by omega), w64 (by omega) (by omega)]
theorem sdig_l0 (s : ByteArray) (hs : s.size < 9223372036854775807) : ∀ (d i : Nat) (h : Int), i + d = s.size → 0 ≤ h → h < 2147483647 → Ev (fun k => spec_Digest.l0 k s h i) ((s.data.toList.drop i).foldl dstep h)
  | 0, i, h, hi, _, _ => by
    refine Ev.succ ?_
    simp only [spec_Digest.l0]
    refine Ev.neg (by omega) ?_
    rw [List.drop_of_length_le (by rw [size_data]; omega)]
    exact Ev.now _
  | d + 1, i, h, hi, h0, h1 => by
    obtain ⟨b, hb⟩ := get_some (l := s.data.toList) (i := i) (by rw [size_data]; omega)
    have hr := bt_range s i
    refine Ev.succ ?_
    simp only [spec_Digest.l0]
    refine Ev.pos (by omega) (Ev.pos (by omega) ?_)
    rw [dwrap h0 h1 hr.1 hr.2, bt_data hb, w64 (x := (i : Int) + 1) (by omega) (by omega), cast_succ]
    have := sdig_l0 s hs d (i + 1) (dstep h b) (by omega) (dstep_in h0).1 (dstep_in h0).2
    obtain ⟨hi', rfl⟩ := List.getElem?_eq_some_iff.1 hb
    rw [List.drop_eq_getElem_cons hi']
    exact this
theorem idig_l0 (s : ByteArray) (hs : s.size < 9223372036854775807) : ∀ (d i : Nat) (h : Int), i + d = s.size → 0 ≤ h → h < 2147483647 → Ev (fun k => impl_Digest.l0 k s h (s.size : Int) i) ((s.data.toList.drop i).foldl dstep h)
  | 0, i, h, hi, _, _ => by
    refine Ev.succ ?_
    simp only [impl_Digest.l0]
    refine Ev.neg (by omega) ?_
    rw [List.drop_of_length_le (by rw [size_data]; omega)]
    exact Ev.now _
  | d + 1, i, h, hi, h0, h1 => by
    obtain ⟨b, hb⟩ := get_some (l := s.data.toList) (i := i) (by rw [size_data]; omega)
    have hr := bt_range s i
    refine Ev.succ ?_
    simp only [impl_Digest.l0]
    refine Ev.pos (by omega) (Ev.pos (by omega) (Ev.pos (by omega) ?_))
    rw [dwrap h0 h1 hr.1 hr.2, bt_data hb, w64 (x := (i : Int) + 1) (by omega) (by omega), cast_succ]
    have := idig_l0 s hs d (i + 1) (dstep h b) (by omega) (dstep_in h0).1 (dstep_in h0).2
    obtain ⟨hi', rfl⟩ := List.getElem?_eq_some_iff.1 hb
    rw [List.drop_eq_getElem_cons hi']
    exact this
theorem sdig_ev (s : ByteArray) (hs : s.size < 9223372036854775807) : Ev (fun k => spec_Digest.f k s) (dg s) := sdig_l0 s hs s.size 0 1 (by omega) (by decide) (by decide)
theorem idig_ev (s : ByteArray) (hs : s.size < 9223372036854775807) : Ev (fun k => impl_Digest.f k s) (dg s) := idig_l0 s hs s.size 0 1 (by omega) (by decide) (by decide)
theorem name_ev (v p pv pn : Int) (bys ts : List Int) (ms : List ByteArray) (by_ : Int) (h4 : bys.length ≤ 4611686018427387904) (h5 : ts.length ≤ 4611686018427387904) (h6 : ms.length ≤ 4611686018427387904) :
    ∃ r, Ev (fun k => spec_Name.f k v p pv pn bys ts ms by_) r ∧ Ev (fun k => impl_Name.f k v p pv pn bys ts ms by_) r := by
  obtain ⟨e1, e2⟩ := show_ev v p pv pn bys ts ms by_ h4 h5 h6
  have hs := shown_size v p pv pn bys ts ms by_
  have d1 := sdig_ev (shown v p pv pn bys ts ms by_) (by omega)
  have d2 := idig_ev (shown v p pv pn bys ts ms by_) (by omega)
  unfold spec_Name.f impl_Name.f spec_l15NameOf.f
  by_cases c : (shown v p pv pn bys ts ms by_).toList = ([] : List UInt8)
  · exact ⟨-1, Ev.bind e1 (Ev.pos c (Ev.now _)), Ev.bind e2 (Ev.pos c (Ev.now _))⟩
  · have m : spec_l1Max.f 1 (dg (shown v p pv pn bys ts ms by_)) = some (mx (dg (shown v p pv pn bys ts ms by_)) 1) := by
      unfold spec_l1Max.f mx
      repeat' split
      all_goals first | rfl | (congr 1; omega)
    refine ⟨_, Ev.bind e1 (Ev.neg c (Ev.bind (Ev.bind e1 (Ev.bind d1 (Ev.bind (Ev.const m) (Ev.now _)))) (Ev.now _))), Ev.bind e2 (Ev.neg c (Ev.bind d2 (Ev.now _)))⟩
theorem FnExactName : laws_FnExactName.Pure := by
  intro a0 a1 a2 a3 l4 l5 l6 a7 h0 h1 h2 h3 h4 h5 h6 h7
  refine Ev.rounds (g := fun k => laws_FnExactName.f k a0 a1 a2 a3 l4 l5 l6 a7) ?_
  unfold laws_FnExactName.f
  obtain ⟨u, hu, _, hu1, hp⟩ := laws_szBlock_ev a0 a1 a2 a3 l4 l5 l6 a7 1048576 (by omega) (by omega) h0 h1 h2 h3 h4 h5 h6 h7
  refine Ev.bind hu (Ev.ite (fun _ => Ev.now _) (fun h => ?_))
  obtain ⟨s0, s1, s2, s3, s4, s5, s6, s7⟩ := hp (by omega)
  have b4 := s4.1
  have b5 := s5.1
  have b6 := s6.1
  have ht := laws_toBlock_ev a0 a1 a2 a3 l4 l5 l6 a7 s0 s1 s2 s3 s4 s5 s6 s7
  obtain ⟨r, e1, e2⟩ := name_ev a0 a1 a2 a3 l4 l5 l6 a7 (by omega) (by omega) (by omega)
  have ex := laws_eqBlock_ev a0 a1 a2 a3 l4 l5 l6 a7 trivial trivial trivial trivial ⟨by omega, fun _ _ => trivial⟩ ⟨by omega, fun _ _ => trivial⟩ ⟨by omega, fun _ _ => trivial⟩ trivial
  exact Ev.bind ht (Ev.bind e1 (Ev.bind ht (Ev.bind e2 (Ev.pos rfl (Ev.bind ht (Ev.bind ex (Ev.pos rfl (Ev.now _))))))))

end Go.Proofs.Ytckgkhlgnblblaa.Pure
