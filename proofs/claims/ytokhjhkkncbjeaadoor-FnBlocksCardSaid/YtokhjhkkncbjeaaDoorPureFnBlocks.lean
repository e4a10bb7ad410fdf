/- A block is read from what it is shown as, and its name hangs on that alone: what the printed functions compute, in plain Lean. No condition. -/
import Derived.Test.YtokhjhkkncbjeaaDoorBoilFnBlocks
import Derived.Test.YtokhjhkkncbjeaaDoorPFnBlocksx10
import Derived.Test.YtokhjhkkncbjeaaDoorPFnBlocksx12
import Derived.Test.YtokhjhkkncbjeaaDoorPFnBlocksx14
import Derived.Test.YtokhjhkkncbjeaaDoorPFnBlocksx15
import Derived.Test.YtokhjhkkncbjeaaDoorPFnBlocksx16
import Derived.Test.YtokhjhkkncbjeaaDoorPFnBlocksx17
import Derived.Test.YtokhjhkkncbjeaaDoorPFnBlocksx18
import Derived.Test.YtokhjhkkncbjeaaDoorPFnBlocksx19
import Derived.Test.YtokhjhkkncbjeaaDoorPFnBlocksx20
import Derived.Test.YtokhjhkkncbjeaaDoorPFnBlocksx22
import Derived.Test.YtokhjhkkncbjeaaDoorPFnBlocksx24
import Derived.Test.YtokhjhkkncbjeaaDoorPFnBlocksx26
import Derived.Test.YtokhjhkkncbjeaaDoorPFnBlocksx96
import Derived.Test.YtokhjhkkncbjeaaDoorPFnBlocksx97
namespace Go.Proofs.YtokhjhkkncbjeaaDoor.Pure
open Go.RowKit Go.Proofs.YtokhjhkkncbjeaaDoorW.PrintWords Go.Proofs.YtokhjhkkncbjeaaDoorW.PrintLast Go.Proofs.YtokhjhkkncbjeaaDoorW.PrintMore
open Go.Proofs.YtokhjhkkncbjeaaDoor.PFnBlocks hiding w64
set_option maxRecDepth 100000
set_option linter.unusedVariables false
set_option linter.unusedSimpArgs false
theorem within_eq (a b c : Int) : impl_within.f a b c = some (decide (b ≤ a ∧ a ≤ c)) := by
 unfold impl_within.f
 split
 ·rename_i h; congr 1; simp; omega
 ·rename_i h; congr 1; simp; omega
theorem in_eq (a b c : Int) : spec_l1In.f a b c = some (decide (b ≤ a ∧ a ≤ c)) := by
 unfold spec_l1In.f
 split
 ·rename_i h; congr 1; simp; omega
 ·rename_i h; congr 1; simp; omega
/-! a number, seven bits to a byte -/
def numF : Nat → Nat → List Int
 | 0, n => [((n % 256 : Nat) : Int)]
 | f + 1, n => if n < 128 then [(n : Int)] else ((n % 128 + 128 : Nat) : Int) :: numF f (n / 128)
def numB (n : Nat) : List Int := numF 8 n
theorem numF_len : ∀ f n, 1 ≤ (numF f n).length ∧ (numF f n).length ≤ f + 1
 | 0, n => by simp [numF]
 | f + 1, n => by
  unfold numF
  split
  ·simp
  ·have := numF_len f (n / 128)
   simp only [List.length_cons]
   omega
theorem numB_len (n : Nat) : 1 ≤ (numB n).length ∧ (numB n).length ≤ 9 := numF_len 8 n
theorem or_all : ∀ b : Fin 256, Go.bits .or .u8 ((b.val : Nat) : Int) 128 = ((b.val % 128 + 128 : Nat) : Int) := by decide +kernel
theorem snum_l0 : ∀ (f n : Nat) (acc : List Int), n < 128 ^ (f + 1) → n ≤ 4611686018427387904 → acc.length + f ≤ 1000000 → Ev (fun k => spec_l1Number.l0 k n acc) (acc ++ numF f n)
 | 0, n, acc, h, hn, ha => by
  refine Ev.succ ?_
  simp only [spec_l1Number.l0, numF]
  rw [show (n : Int) % 256 = ((n % 256 : Nat) : Int) by omega]
  exact Ev.neg (by omega) (Ev.pos (by omega) (Ev.now _))
 | f + 1, n, acc, h, hn, ha => by
  refine Ev.succ ?_
  simp only [spec_l1Number.l0, numF]
  by_cases c : n < 128
  ·rw [if_pos c, show (n : Int) % 256 = (n : Int) by omega]
   exact Ev.neg (by omega) (Ev.pos (by omega) (Ev.now _))
  ·rw [if_neg c, show Int.tdiv (n : Int) 128 = ((n / 128 : Nat) : Int) from rfl, show Int.tmod (n : Int) 128 = ((n % 128 : Nat) : Int) from rfl]
   rw [w64 (x := ((n / 128 : Nat) : Int)) (by omega) (by omega), w64 (x := ((n % 128 : Nat) : Int) + 128) (by omega) (by omega)]
   have hd : n / 128 < 128 ^ (f + 1) := Nat.div_lt_of_lt_mul (by rw [Nat.pow_succ] at h; omega)
   have ih := snum_l0 f (n / 128) (acc ++ [((n % 128 + 128 : Nat) : Int)]) hd (by omega) (by simp; omega)
   rw [List.append_assoc] at ih
   refine Ev.pos (by omega) (Ev.pos (by omega) ?_)
   rw [show (((n % 128 : Nat) : Int) + 128) % 256 = ((n % 128 + 128 : Nat) : Int) by omega]
   exact ih
theorem inum_l0 : ∀ (f n : Nat) (acc : List Int), n < 128 ^ (f + 1) → n ≤ 4611686018427387904 → acc.length + f ≤ 1000000 → Ev (fun k => impl_Number.l0 k n acc) (acc ++ numF f n)
 | 0, n, acc, h, hn, ha => by
  refine Ev.succ ?_
  simp only [impl_Number.l0, numF]
  rw [show (n : Int) % 256 = ((n % 256 : Nat) : Int) by omega]
  exact Ev.neg (by omega) (Ev.pos (by omega) (Ev.now _))
 | f + 1, n, acc, h, hn, ha => by
  refine Ev.succ ?_
  simp only [impl_Number.l0, numF]
  by_cases c : n < 128
  ·rw [if_pos c, show (n : Int) % 256 = (n : Int) by omega]
   exact Ev.neg (by omega) (Ev.pos (by omega) (Ev.now _))
  ·have ho := or_all ⟨n % 256, by omega⟩
   rw [if_neg c, show (n : Int) / 128 = ((n / 128 : Nat) : Int) by omega, show (n : Int) % 256 = ((n % 256 : Nat) : Int) by omega, ho, show n % 256 % 128 = n % 128 by omega]
   have hd : n / 128 < 128 ^ (f + 1) := Nat.div_lt_of_lt_mul (by rw [Nat.pow_succ] at h; omega)
   have ih := inum_l0 f (n / 128) (acc ++ [((n % 128 + 128 : Nat) : Int)]) hd (by omega) (by simp; omega)
   rw [List.append_assoc] at ih
   exact Ev.pos (by omega) (Ev.pos (by omega) ih)
theorem snumber (n : Nat) (h : n ≤ 4611686018427387904) : Ev (fun k => spec_l1Number.f k n) (numB n) := by
 unfold spec_l1Number.f
 exact snum_l0 8 n [] (by omega) h (by simp)
theorem inumber (n : Nat) (h : n ≤ 1099511627776) : Ev (fun k => impl_Number.f k n) (numB n) := by
 unfold impl_Number.f
 have c : (0 : Int) ≤ (n : Int) ∧ (n : Int) ≤ 1099511627776 := ⟨by omega, by omega⟩
 simp only [within_eq, decide_eq_true c, Option.bind_some]
 exact Ev.pos (by simp) (inum_l0 8 n [] (by omega) (by omega) (by simp))
/-! texts behind how many there are -/
def textB (s : ByteArray) : List Int := numB s.size ++ bytesOf s
theorem textB_len (s : ByteArray) : (textB s).length ≤ s.size + 9 := by
 have := numB_len s.size
 simp only [textB, List.length_append, bytesOf_length]
 omega
theorem stext (s : ByteArray) (h : s.size ≤ 3000) : Ev (fun k => spec_l1Text.f k s) (textB s) := by
 have := numB_len s.size
 unfold spec_l1Text.f
 exact Ev.bind (snumber s.size (by omega)) (Ev.pos (by omega) (Ev.now _))
theorem itext (s : ByteArray) (h : s.size ≤ 3000) : Ev (fun k => impl_Text.f k s) (textB s) := by
 have := numB_len s.size
 unfold impl_Text.f
 exact Ev.neg (by omega) (Ev.bind (inumber s.size (by omega)) (Ev.pos (by omega) (Ev.now _)))
def fitT (l : List ByteArray) : Bool := l.all fun s => decide (s.size ≤ 3000)
def flatT (l : List ByteArray) : List Int := l.flatMap textB
theorem fitT_cons (s : ByteArray) (l : List ByteArray) : fitT (s :: l) = (decide (s.size ≤ 3000) && fitT l) := rfl
theorem flatT_cons (s : ByteArray) (l : List ByteArray) : flatT (s :: l) = textB s ++ flatT l := by simp [flatT]
theorem flatT_len : ∀ l : List ByteArray, fitT l = true → (flatT l).length ≤ 3009 * l.length
 | [], _ => by simp [flatT]
 | s :: l, h => by
  simp only [fitT, List.all_cons, Bool.and_eq_true, decide_eq_true_eq] at h
  have h1 := flatT_len l h.2
  have h2 := textB_len s
  simp only [flatT, List.flatMap_cons, List.length_append, List.length_cons] at h1 ⊢
  omega
theorem rdS {l : List ByteArray} {i : Nat} (hi : i < l.length) : rdOf ByteArray.empty l (i : Int) = l[i] := rdOf_get (List.getElem?_eq_getElem hi)
theorem texts_l0 (l : List ByteArray) (hl : l.length ≤ 200) : ∀ (d i : Nat) (acc : List Int), i + d = l.length → acc.length + 3009 * d ≤ 1000000 →
  Ev (fun k => spec_Texts.l0 k l acc i) (if fitT (l.drop i) then acc ++ flatT (l.drop i) else []) ∧ Ev (fun k => impl_Texts.l0 k acc l (l.length : Int) i) (if fitT (l.drop i) then acc ++ flatT (l.drop i) else [])
 | 0, i, acc, hi, ha => by
  rw [List.drop_eq_nil_of_le (by omega)]
  refine ⟨Ev.succ ?_, Ev.succ ?_⟩
  ·simp only [spec_Texts.l0, fitT, flatT, List.all_nil, if_true, List.flatMap_nil, List.append_nil]
   exact Ev.neg (by omega) (Ev.now _)
  ·simp only [impl_Texts.l0, fitT, flatT, List.all_nil, if_true, List.flatMap_nil, List.append_nil]
   exact Ev.neg (by omega) (Ev.now _)
 | d + 1, i, acc, hi, ha => by
  have hd : l.drop i = l[i]'(by omega) :: l.drop (i + 1) := List.drop_eq_getElem_cons (by omega)
  have hr := rdS (l := l) (i := i) (by omega)
  rw [hd]
  by_cases c : l[i].size ≤ 3000
  ·have e1 := stext l[i] c
   have e2 := itext l[i] c
   have hb := textB_len l[i]
   have hf : fitT (l[i] :: l.drop (i + 1)) = fitT (l.drop (i + 1)) := by rw [fitT_cons, decide_eq_true c, Bool.true_and]
   obtain ⟨j1, j2⟩ := texts_l0 l hl d (i + 1) (acc ++ textB l[i]) (by omega) (by simp; omega)
   rw [hf, show acc ++ flatT (l[i] :: l.drop (i + 1)) = (acc ++ textB l[i]) ++ flatT (l.drop (i + 1)) by rw [flatT_cons, List.append_assoc]]
   refine ⟨Ev.succ ?_, Ev.succ ?_⟩
   ·simp only [spec_Texts.l0, hr]
    rw [w64 (x := (i : Int) + 1) (by omega) (by omega), cast_succ]
    exact Ev.pos (by omega) (Ev.pos (by omega) (Ev.neg (by omega) (Ev.bind e1 (Ev.pos (by omega) j1))))
   ·simp only [impl_Texts.l0, hr]
    rw [w64 (x := (i : Int) + 1) (by omega) (by omega), cast_succ]
    exact Ev.pos (by omega) (Ev.pos (by omega) (Ev.pos (by omega) (Ev.neg (by omega) (Ev.bind e2 (Ev.pos (by omega) j2)))))
  ·have hf : fitT (l[i] :: l.drop (i + 1)) = false := by rw [fitT_cons, decide_eq_false c, Bool.false_and]
   rw [hf]
   refine ⟨Ev.succ ?_, Ev.succ ?_⟩
   ·simp only [spec_Texts.l0, hr]
    exact Ev.pos (by omega) (Ev.pos (by omega) (Ev.pos (by omega) (Ev.now _)))
   ·simp only [impl_Texts.l0, hr]
    exact Ev.pos (by omega) (Ev.pos (by omega) (Ev.pos (by omega) (Ev.pos (by omega) (Ev.now _))))
/-- The bytes of texts; none if they are too many or too long. -/
def textsB (l : List ByteArray) : List Int := if l.length ≤ 200 ∧ fitT l = true then numB l.length ++ flatT l else []
theorem textsB_len (l : List ByteArray) : (textsB l).length ≤ 700000 := by
 unfold textsB
 split
 ·rename_i h
  have h1 := numB_len l.length
  have h2 := flatT_len l h.2
  simp only [List.length_append]
  omega
 ·simp
theorem texts_ev (l : List ByteArray) (hl : l.length ≤ 4611686018427387904) : Ev (fun k => spec_Texts.f k l) (textsB l) ∧ Ev (fun k => impl_Texts.f k l) (textsB l) := by
 unfold spec_Texts.f impl_Texts.f
 by_cases c : (l.length : Int) > 200
 ·have : textsB l = [] := by unfold textsB; rw [if_neg (fun h => by omega)]
  rw [this]
  exact ⟨Ev.pos c (Ev.now _), Ev.pos c (Ev.now _)⟩
 ·have h1 := numB_len l.length
  obtain ⟨j1, j2⟩ := texts_l0 l (by omega) l.length 0 (numB l.length) (by omega) (by omega)
  have : (if fitT (l.drop 0) = true then numB l.length ++ flatT (l.drop 0) else []) = textsB l := by
   unfold textsB
   rw [List.drop_zero]
   by_cases f : fitT l = true
   ·rw [if_pos f, if_pos ⟨by omega, f⟩]
   ·rw [if_neg f, if_neg (fun h => f h.2)]
  rw [this] at j1 j2
  exact ⟨Ev.neg c (Ev.bind (snumber l.length (by omega)) j1), Ev.neg c (Ev.bind (inumber l.length (by omega)) j2)⟩
/-! a block as a text -/
def okN (n : Int) : Prop := 0 ≤ n ∧ n ≤ 1099511627776
def nums (l : List Int) : List Int := l.flatMap fun n => numB n.toNat
theorem nums_cons (n : Int) (l : List Int) : nums (n :: l) = numB n.toNat ++ nums l := by simp [nums]
theorem nums_len : ∀ l : List Int, (nums l).length ≤ 9 * l.length
 | [] => by simp [nums]
 | n :: l => by
  have h1 := nums_len l
  have h2 := numB_len n.toNat
  simp only [nums, List.flatMap_cons, List.length_append, List.length_cons] at h1 ⊢
  omega
theorem rdI {l : List Int} {i : Nat} (hi : i < l.length) : rd l (i : Int) = l[i] := rd_get (List.getElem?_eq_getElem hi)
def btl (bys ts : List Int) : Nat → Nat → List Int
 | 0, _ => []
 | d + 1, i => rd bys (i : Int) :: rd ts (i : Int) :: btl bys ts d (i + 1)
theorem btl_len (bys ts : List Int) : ∀ d i, (btl bys ts d i).length = 2 * d
 | 0, i => rfl
 | d + 1, i => by simp only [btl, List.length_cons, btl_len bys ts d]; omega
section
variable (v p pv pn : Int) (bys ts : List Int) (ms : List ByteArray) (by_ : Int)
theorem sb_l0 (ht : ts.length = bys.length) (h7 : bys.length ≤ 7) (R : ByteArray) : ∀ (d i : Nat) (acc : List Int), i + d = bys.length → acc.length + 2 * d ≤ 100 →
  Ev (fun k => spec_ShowBlock.l1 k (acc ++ btl bys ts d i) [] 0 v p pv pn bys ts ms by_) R → Ev (fun k => spec_ShowBlock.l0 k acc i v p pv pn bys ts ms by_) R
 | 0, i, acc, hi, ha, he => by
  simp only [btl, List.append_nil] at he
  refine Ev.succ ?_
  simp only [spec_ShowBlock.l0]
  exact Ev.neg (by omega) he
 | d + 1, i, acc, hi, ha, he => by
  have ih := sb_l0 ht h7 R d (i + 1) (acc ++ [rd bys (i : Int), rd ts (i : Int)]) (by omega) (by simp; omega) (by rw [List.append_assoc]; exact he)
  refine Ev.succ ?_
  simp only [spec_ShowBlock.l0, Option.bind_some]
  rw [w64 (x := (i : Int) + 1) (by omega) (by omega), cast_succ]
  exact Ev.pos (by omega) (Ev.pos (by omega) (Ev.pos (by omega) (Ev.pos (by simp; omega) ih)))
theorem ib_l0 (M : List Int) (ht : ts.length = bys.length) (h7 : bys.length ≤ 7) (R : ByteArray) : ∀ (d i : Nat) (acc : List Int), i + d = bys.length → acc.length + 2 * d ≤ 100 →
  Ev (fun k => impl_ShowBlock.l1 k M (acc ++ btl bys ts d i) [] ((acc ++ btl bys ts d i) ++ [by_]) (((acc ++ btl bys ts d i) ++ [by_]).length : Int) 0 v p pv pn bys ts ms by_) R → Ev (fun k => impl_ShowBlock.l0 k M acc bys (bys.length : Int) i v p pv pn bys ts ms by_) R
 | 0, i, acc, hi, ha, he => by
  simp only [btl, List.append_nil] at he
  refine Ev.succ ?_
  simp only [impl_ShowBlock.l0, Option.bind_some]
  exact Ev.neg (by omega) (Ev.pos (by omega) he)
 | d + 1, i, acc, hi, ha, he => by
  have ih := ib_l0 M ht h7 R d (i + 1) (acc ++ [rd bys (i : Int), rd ts (i : Int)]) (by omega) (by simp; omega) (by
   have e : (acc ++ [rd bys (i : Int), rd ts (i : Int)]) ++ btl bys ts d (i + 1) = acc ++ btl bys ts (d + 1) i := by rw [List.append_assoc]; rfl
   rw [e]; exact he)
  refine Ev.succ ?_
  simp only [impl_ShowBlock.l0, Option.bind_some]
  rw [w64 (x := (i : Int) + 1) (by omega) (by omega), cast_succ]
  exact Ev.pos (by omega) (Ev.pos (by omega) (Ev.pos (by omega) (Ev.pos (by omega) (Ev.pos (by simp; omega) ih))))
def okL (l : List Int) : Bool := l.all fun n => decide (0 ≤ n ∧ n ≤ 1099511627776)
theorem okL_cons (n : Int) (l : List Int) : okL (n :: l) = (decide (0 ≤ n ∧ n ≤ 1099511627776) && okL l) := rfl
/-- The reference: the numbers shown, unless one of them can't be. -/
theorem sb_l1 (L : List Int) (hL : L.length ≤ 100) (R : ByteArray) : ∀ (d i : Nat) (acc : List Int), i + d = L.length → acc.length + 9 * d ≤ 1000 →
  ((okL (L.drop i) = false ∧ R = (⟨#[]⟩ : ByteArray)) ∨ (okL (L.drop i) = true ∧ Ev (fun k => spec_ShowBlock.l1 k L (acc ++ nums (L.drop i)) (L.length : Int) v p pv pn bys ts ms by_) R)) → Ev (fun k => spec_ShowBlock.l1 k L acc i v p pv pn bys ts ms by_) R
 | 0, i, acc, hi, ha, he => by
  rw [List.drop_eq_nil_of_le (by omega)] at he
  obtain rfl : i = L.length := by omega
  rcases he with ⟨h, _⟩ | ⟨_, h⟩
  ·simp [okL] at h
  ·simpa [nums] using h
 | d + 1, i, acc, hi, ha, he => by
  have hd : L.drop i = L[i]'(by omega) :: L.drop (i + 1) := List.drop_eq_getElem_cons (by omega)
  rw [hd, okL_cons] at he
  have hr := rdI (l := L) (i := i) (by omega)
  refine Ev.succ ?_
  simp only [spec_ShowBlock.l1, hr, in_eq, Option.bind_some]
  rw [w64 (x := (i : Int) + 1) (by omega) (by omega), cast_succ]
  refine Ev.pos (by omega) (Ev.pos (by omega) ?_)
  by_cases c : 0 ≤ L[i] ∧ L[i] ≤ 1099511627776
  ·rw [decide_eq_true c, Bool.true_and] at he
   have hn := numB_len L[i].toNat
   have e := snumber L[i].toNat (by omega)
   rw [Int.toNat_of_nonneg c.1] at e
   refine Ev.pos (by simpa using c) (Ev.bind e (Ev.pos (by omega) ?_))
   refine sb_l1 L hL R d (i + 1) (acc ++ numB L[i].toNat) (by omega) (by simp; omega) ?_
   rcases he with h | ⟨h, he⟩
   ·exact .inl h
   ·refine .inr ⟨h, ?_⟩
    rw [List.append_assoc]
    exact he
  ·rw [decide_eq_false c, Bool.false_and] at he
   rcases he with ⟨_, h⟩ | ⟨h, _⟩
   ·rw [h]
    exact Ev.neg (by simpa using c) (Ev.now _)
   ·simp at h
theorem ib_l1 (M L y : List Int) (hL : y.length ≤ 100) (R : ByteArray) : ∀ (d i : Nat), i + d = y.length →
  ((okL (y.drop i) = false ∧ R = (⟨#[]⟩ : ByteArray)) ∨ (okL (y.drop i) = true ∧ Ev (fun k => impl_ShowBlock.l2 k M [] L (L.length : Int) 0 v p pv pn bys ts ms by_) R)) → Ev (fun k => impl_ShowBlock.l1 k M L [] y (y.length : Int) i v p pv pn bys ts ms by_) R
 | 0, i, hi, he => by
  rw [List.drop_eq_nil_of_le (by omega)] at he
  refine Ev.succ ?_
  simp only [impl_ShowBlock.l1]
  rcases he with ⟨h, _⟩ | ⟨_, h⟩
  ·simp [okL] at h
  ·exact Ev.neg (by omega) h
 | d + 1, i, hi, he => by
  have hd : y.drop i = y[i]'(by omega) :: y.drop (i + 1) := List.drop_eq_getElem_cons (by omega)
  rw [hd, okL_cons] at he
  have hr := rdI (l := y) (i := i) (by omega)
  refine Ev.succ ?_
  simp only [impl_ShowBlock.l1, hr, within_eq, Option.bind_some]
  rw [w64 (x := (i : Int) + 1) (by omega) (by omega), cast_succ]
  refine Ev.pos (by omega) (Ev.pos (by omega) (Ev.pos (by omega) ?_))
  by_cases c : 0 ≤ y[i] ∧ y[i] ≤ 1099511627776
  ·rw [decide_eq_true c, Bool.true_and] at he
   exact Ev.pos (by simpa using c) (ib_l1 M L y hL R d (i + 1) (by omega) he)
  ·rw [decide_eq_false c, Bool.false_and] at he
   rcases he with ⟨_, h⟩ | ⟨h, _⟩
   ·rw [h]
    exact Ev.neg (by simpa using c) (Ev.now _)
   ·simp at h
theorem ib_l2 (M L : List Int) (hM : M.length ≤ 700000) (hL : L.length ≤ 100) (ho : okL L = true) (hb : 0 ≤ by_ ∧ by_ ≤ 1099511627776) : ∀ (d i : Nat) (acc : List Int), i + d = L.length → acc.length + 9 * d ≤ 1000 →
  Ev (fun k => impl_ShowBlock.l2 k M acc L (L.length : Int) i v p pv pn bys ts ms by_) (strOfNums ((acc ++ nums (L.drop i) ++ M) ++ numB by_.toNat))
 | 0, i, acc, hi, ha => by
  rw [List.drop_eq_nil_of_le (by omega)]
  have hn := numB_len by_.toNat
  have e := inumber by_.toNat (by omega)
  rw [Int.toNat_of_nonneg hb.1] at e
  refine Ev.succ ?_
  simp only [impl_ShowBlock.l2, nums, List.flatMap_nil, List.append_nil, Option.bind_some]
  exact Ev.neg (by omega) (Ev.pos (by omega) (Ev.bind e (Ev.pos (by simp; omega) (Ev.now _))))
 | d + 1, i, acc, hi, ha => by
  have hd : L.drop i = L[i]'(by omega) :: L.drop (i + 1) := List.drop_eq_getElem_cons (by omega)
  have hr := rdI (l := L) (i := i) (by omega)
  have c : 0 ≤ L[i] ∧ L[i] ≤ 1099511627776 := by
   have := List.all_eq_true.1 ho L[i] (List.getElem_mem _)
   simpa using this
  have hn := numB_len L[i].toNat
  have e := inumber L[i].toNat (by omega)
  rw [Int.toNat_of_nonneg c.1] at e
  have ih := ib_l2 M L hM hL ho hb d (i + 1) (acc ++ numB L[i].toNat) (by omega) (by simp; omega)
  rw [hd, show acc ++ nums (L[i] :: L.drop (i + 1)) = (acc ++ numB L[i].toNat) ++ nums (L.drop (i + 1)) by rw [nums_cons, List.append_assoc]]
  refine Ev.succ ?_
  simp only [impl_ShowBlock.l2, hr]
  rw [w64 (x := (i : Int) + 1) (by omega) (by omega), cast_succ]
  exact Ev.pos (by omega) (Ev.pos (by omega) (Ev.pos (by omega) (Ev.bind e (Ev.pos (by omega) ih))))
def lst : List Int := [v, p, pv, pn, (bys.length : Int)] ++ btl bys ts bys.length 0
/-- A block as a text. -/
def shown : ByteArray :=
 if ts.length = bys.length ∧ bys.length ≤ 7 ∧ textsB ms ≠ [] ∧ okL (lst v p pv pn bys ts) = true ∧ (0 ≤ by_ ∧ by_ ≤ 1099511627776) then strOfNums ((nums (lst v p pv pn bys ts) ++ textsB ms) ++ numB by_.toNat) else (⟨#[]⟩ : ByteArray)
theorem show_ev (h4 : bys.length ≤ 4611686018427387904) (h5 : ts.length ≤ 4611686018427387904) (h6 : ms.length ≤ 4611686018427387904) :
  Ev (fun k => spec_ShowBlock.f k v p pv pn bys ts ms by_) (shown v p pv pn bys ts ms by_) ∧ Ev (fun k => impl_ShowBlock.f k v p pv pn bys ts ms by_) (shown v p pv pn bys ts ms by_) := by
 obtain ⟨t1, t2⟩ := texts_ev ms h6
 have tl := textsB_len ms
 have bl := btl_len bys ts bys.length 0
 have no1 : Ev (fun k => spec_ShowBlock.j0 k [v, p, pv, pn, (bys.length : Int)] true v p pv pn bys ts ms by_) (⟨#[]⟩ : ByteArray) := Ev.succ (by simp only [spec_ShowBlock.j0]; exact Ev.pos (by simp) (Ev.now _))
 have no2 : Ev (fun k => impl_ShowBlock.j0 k (textsB ms) true v p pv pn bys ts ms by_) (⟨#[]⟩ : ByteArray) := Ev.succ (by simp only [impl_ShowBlock.j0]; exact Ev.pos (by simp) (Ev.now _))
 unfold spec_ShowBlock.f impl_ShowBlock.f
 simp only [Option.bind_some]
 by_cases c7 : bys.length ≤ 7
 ·by_cases ct : ts.length = bys.length
  ·have ne : ((bys.length : Int) != (ts.length : Int)) = false := by simp [ct]
   rw [ne]
   have hl : (lst v p pv pn bys ts).length ≤ 19 := by simp only [lst, List.length_append, bl, List.length_cons, List.length_nil]; omega
   have hnl := nums_len (lst v p pv pn bys ts)
   have S : Ev (fun k => spec_ShowBlock.j0 k [v, p, pv, pn, (bys.length : Int)] false v p pv pn bys ts ms by_) (shown v p pv pn bys ts ms by_) := by
    refine Ev.succ ?_
    simp only [spec_ShowBlock.j0]
    refine Ev.neg (by simp) (sb_l0 v p pv pn bys ts ms by_ ct c7 _ bys.length 0 [v, p, pv, pn, (bys.length : Int)] (by omega) (by simp; omega) ?_)
    refine sb_l1 v p pv pn bys ts ms by_ (lst v p pv pn bys ts) (by omega) _ (lst v p pv pn bys ts).length 0 [] (by omega) (by simp; omega) ?_
    rw [List.drop_zero, List.nil_append]
    cases ho : okL (lst v p pv pn bys ts) with
    | false =>
     refine .inl ⟨rfl, ?_⟩
     unfold shown
     rw [if_neg (fun h => by rw [ho] at h; simp at h)]
    | true =>
     refine .inr ⟨rfl, Ev.succ ?_⟩
     simp only [spec_ShowBlock.l1, in_eq, Option.bind_some]
     refine Ev.neg (by omega) (Ev.bind t1 ?_)
     by_cases ce : textsB ms = []
     ·have : shown v p pv pn bys ts ms by_ = (⟨#[]⟩ : ByteArray) := by unfold shown; rw [if_neg (fun h => h.2.2.1 ce)]
      rw [this, ce]
      exact Ev.pos rfl (Ev.now _)
     ·have hz : ¬ ((textsB ms).length : Int) = 0 := by
       intro h
       exact ce (List.length_eq_zero_iff.1 (by omega))
      refine Ev.neg hz ?_
      by_cases cb : 0 ≤ by_ ∧ by_ ≤ 1099511627776
      ·have hn := numB_len by_.toNat
       have e := snumber by_.toNat (by omega)
       rw [Int.toNat_of_nonneg cb.1] at e
       have : shown v p pv pn bys ts ms by_ = strOfNums ((nums (lst v p pv pn bys ts) ++ textsB ms) ++ numB by_.toNat) := by unfold shown; rw [if_pos ⟨ct, c7, ce, ho, cb⟩]
       rw [this]
       exact Ev.pos (by simpa using cb) (Ev.pos (by omega) (Ev.bind e (Ev.pos (by simp; omega) (Ev.now _))))
      ·have : shown v p pv pn bys ts ms by_ = (⟨#[]⟩ : ByteArray) := by unfold shown; rw [if_neg (fun h => cb h.2.2.2.2)]
       rw [this]
       exact Ev.neg (by simpa using cb) (Ev.now _)
   have I : Ev (fun k => impl_ShowBlock.j0 k (textsB ms) (((textsB ms).length : Int) == 0) v p pv pn bys ts ms by_) (shown v p pv pn bys ts ms by_) := by
    by_cases ce : textsB ms = []
    ·have : shown v p pv pn bys ts ms by_ = (⟨#[]⟩ : ByteArray) := by unfold shown; rw [if_neg (fun h => h.2.2.1 ce)]
     rw [this]
     have hz : (((textsB ms).length : Int) == 0) = true := by rw [ce]; rfl
     rw [hz]
     exact no2
    ·have hz : (((textsB ms).length : Int) == 0) = false := by
      rw [beq_eq_false_iff_ne]
      intro h
      exact ce (List.length_eq_zero_iff.1 (by omega))
     rw [hz]
     refine Ev.succ ?_
     simp only [impl_ShowBlock.j0]
     refine Ev.neg (by simp) (ib_l0 v p pv pn bys ts ms by_ (textsB ms) ct c7 _ bys.length 0 [v, p, pv, pn, (bys.length : Int)] (by omega) (by simp; omega) ?_)
     refine ib_l1 v p pv pn bys ts ms by_ (textsB ms) (lst v p pv pn bys ts) (lst v p pv pn bys ts ++ [by_]) (by simp; omega) _ (lst v p pv pn bys ts ++ [by_]).length 0 (by omega) ?_
     rw [List.drop_zero]
     have hoo : okL (lst v p pv pn bys ts ++ [by_]) = (okL (lst v p pv pn bys ts) && decide (0 ≤ by_ ∧ by_ ≤ 1099511627776)) := by simp [okL]
     rw [hoo]
     by_cases cb : okL (lst v p pv pn bys ts) = true ∧ (0 ≤ by_ ∧ by_ ≤ 1099511627776)
     ·refine .inr ⟨by rw [cb.1, decide_eq_true cb.2]; rfl, ?_⟩
      have : shown v p pv pn bys ts ms by_ = strOfNums ((nums (lst v p pv pn bys ts) ++ textsB ms) ++ numB by_.toNat) := by unfold shown; rw [if_pos ⟨ct, c7, ce, cb.1, cb.2⟩]
      rw [this]
      have := ib_l2 v p pv pn bys ts ms by_ (textsB ms) (lst v p pv pn bys ts) tl (by omega) cb.1 cb.2 (lst v p pv pn bys ts).length 0 [] (by omega) (by simp; omega)
      simpa using this
     ·refine .inl ⟨?_, ?_⟩
      ·rw [← Bool.not_eq_true, Bool.and_eq_true, decide_eq_true_iff]
       exact cb
      ·unfold shown
       rw [if_neg (fun h => cb ⟨h.2.2.2.1, h.2.2.2.2⟩)]
   exact ⟨Ev.neg (by omega) S, Ev.bind t2 (Ev.pos (by omega) (Ev.neg (by omega) I))⟩
  ·have : shown v p pv pn bys ts ms by_ = (⟨#[]⟩ : ByteArray) := by unfold shown; rw [if_neg (fun h => ct h.1)]
   rw [this]
   have ne : ((bys.length : Int) != (ts.length : Int)) = true := by
    rw [bne_iff_ne]
    intro h
    exact ct (by omega)
   rw [ne]
   exact ⟨Ev.neg (by omega) no1, Ev.bind t2 (Ev.neg (by omega) no2)⟩
 ·have : shown v p pv pn bys ts ms by_ = (⟨#[]⟩ : ByteArray) := by unfold shown; rw [if_neg (fun h => c7 h.2.1)]
  rw [this]
  refine ⟨Ev.pos (by omega) no1, Ev.bind t2 (Ev.ite (fun _ => Ev.pos (by omega) no2) (fun _ => no2))⟩
theorem shown_size : (shown v p pv pn bys ts ms by_).size ≤ 1000000 := by
 unfold shown
 split
 ·rename_i h
  have h1 := nums_len (lst v p pv pn bys ts)
  have h2 := textsB_len ms
  have h3 := numB_len by_.toNat
  have bl := btl_len bys ts bys.length 0
  have hl : (lst v p pv pn bys ts).length ≤ 19 := by simp only [lst, List.length_append, bl, List.length_cons, List.length_nil]; omega
  rw [strOfNums_size]
  simp only [List.length_append]
  omega
 ·decide
end
/-! how many bytes a number takes -/
theorem numF_log : ∀ (f i N : Nat), i ≤ f → N < 128 ^ (i + 1) → (i = 0 ∨ 128 ^ i ≤ N) → (numF f N).length = i + 1
 | 0, i, N, hi, hN, h => by
  obtain rfl : i = 0 := by omega
  simp [numF]
 | f + 1, 0, N, hi, hN, h => by
  have : N < 128 := by simpa using hN
  simp [numF, this]
 | f + 1, i + 1, N, hi, hN, h => by
  have h1 : 128 ^ (i + 1) ≤ N := h.resolve_left (by omega)
  have h2 : 128 ≤ N := Nat.le_trans (by rw [Nat.pow_succ]; exact Nat.le_mul_of_pos_left _ (Nat.pow_pos (by decide))) h1
  have ih := numF_log f i (N / 128) (by omega) (by rw [Nat.pow_succ] at hN; exact Nat.div_lt_of_lt_mul (by omega)) (by
   right
   rw [Nat.pow_succ] at h1
   exact (Nat.le_div_iff_mul_le (by decide)).2 h1)
  unfold numF
  rw [if_neg (by omega)]
  simp [ih]
theorem numB_at (n i b : Nat) (hi : i ≤ 5) (hn : n < 2 ^ (7 * i)) (hb : b < 128) (h0 : i = 0 ∨ b ≠ 0) : (numB (n + b % 128 * 2 ^ (7 * i))).length = i + 1 := by
 have e : 2 ^ (7 * i) = 128 ^ i := by rw [Nat.pow_mul]
 rw [e] at hn ⊢
 rw [Nat.mod_eq_of_lt hb]
 refine numF_log 8 i _ (by omega) ?_ ?_
 ·have : b * 128 ^ i ≤ 127 * 128 ^ i := Nat.mul_le_mul_right _ (by omega)
  rw [Nat.pow_succ]
  omega
 ·rcases h0 with h0 | h0
  ·exact .inl h0
  ·right
   have : 1 * 128 ^ i ≤ b * 128 ^ i := Nat.mul_le_mul_right _ (by omega)
   omega
/-! reading -/
def byteL (xs : List Int) : Prop := ∀ y, y ∈ xs → 0 ≤ y ∧ y ≤ 255
theorem byteL_drop {xs : List Int} (h : byteL xs) (n : Nat) : byteL (xs.drop n) := fun y hy => h y (List.mem_of_mem_drop hy)
theorem byteL_of (s : ByteArray) : byteL (bytesOf s) := by
 intro y hy
 unfold bytesOf at hy
 obtain ⟨b, _, rfl⟩ := List.mem_map.1 hy
 have := b.toNat_lt
 omega
theorem and_all : ∀ b : Fin 256, Go.bits .and .u8 ((b.val : Nat) : Int) 127 = ((b.val % 128 : Nat) : Int) := by decide +kernel
theorem shl_all : ∀ c : Fin 128, ∀ i : Fin 6, shl .i64 ((c.val : Nat) : Int) ((7 * i.val : Nat) : Int) = ((c.val * 2 ^ (7 * i.val) : Nat) : Int) := by decide +kernel
theorem pow_le {i : Nat} (h : i ≤ 5) : 2 ^ (7 * i) ≤ 34359738368 := Nat.le_trans (Nat.pow_le_pow_right (by decide) (show 7 * i ≤ 35 by omega)) (by decide)
theorem or_nat (n c i : Nat) (hi : i ≤ 5) (hn : n < 2 ^ (7 * i)) (hc : c < 128) : Go.bits .or .i64 (n : Int) ((c * 2 ^ (7 * i) : Nat) : Int) = ((n + c * 2 ^ (7 * i) : Nat) : Int) := by
 have hp := pow_le hi
 have hor : n ||| c * 2 ^ (7 * i) = n + c * 2 ^ (7 * i) := by
  rw [Nat.mul_comm c, Nat.or_comm, ← Nat.two_pow_add_eq_or_of_lt hn]
  omega
 have hq : c * 2 ^ (7 * i) ≤ 127 * 2 ^ (7 * i) := Nat.mul_le_mul_right _ (by omega)
 generalize 2 ^ (7 * i) = p at *
 generalize c * p = q at *
 have key : (BitVec.ofInt 64 (n : Int) ||| BitVec.ofInt 64 (q : Int)).toNat = n + q := by
  rw [BitVec.toNat_or, BitVec.toNat_ofInt, BitVec.toNat_ofInt, ← hor]
  have h1 : ((n : Int) % ((2 ^ 64 : Nat) : Int)).toNat = n := by omega
  have h2 : ((q : Int) % ((2 ^ 64 : Nat) : Int)).toNat = q := by omega
  rw [h1, h2]
 have e : Go.bits .or .i64 (n : Int) (q : Int) = IntKind.i64.wrap ((BitVec.ofInt 64 (n : Int) ||| BitVec.ofInt 64 (q : Int)).toNat : Nat) := rfl
 rw [e, key, IntKind.wrap_i64]
 omega
def RN (xs : List Int) (r : Int × Int) : Prop := r = (0, 0) ∨ (0 < r.2 ∧ r.2 ≤ xs.length ∧ 0 ≤ r.1 ∧ r.1 ≤ 1099511627776 ∧ r.2 = ((numB r.1.toNat).length : Int))
theorem rnum_step (xs : List Int) (hl : xs.length ≤ 4611686018427387904) (i b : Nat) (n p N P' : Int) (hi5 : i ≤ 5) (hlt : i < xs.length) (hb : b ≤ 255) (hv : rd xs (i : Int) = (b : Int))
  (eo : Go.bits .or .i64 n (shl .i64 (wrap64 (Go.bits .and .u8 (b : Int) 127)) (wrap64 (7 * (i : Int)))) = N) (esp : wrap64 (n + wrap64 (Int.tmod (wrap64 (b : Int)) 128 * p)) = N) (ew : wrap64 (p * 128) = P') (hN0 : 0 ≤ N) (hlen : b < 128 → (i = 0 ∨ b ≠ 0) → (numB N.toNat).length = i + 1)
  (H : ∃ r : Int × Int, Ev (fun k => spec_ReadNumber.l0 k xs N P' ((i + 1 : Nat) : Int)) r ∧ Ev (fun k => impl_ReadNumber.l0 k N xs (xs.length : Int) ((i + 1 : Nat) : Int)) r ∧ RN xs r) :
  ∃ r : Int × Int, Ev (fun k => spec_ReadNumber.l0 k xs n p (i : Int)) r ∧ Ev (fun k => impl_ReadNumber.l0 k n xs (xs.length : Int) (i : Int)) r ∧ RN xs r := by
 have e6 : wrap64 ((i : Int) + 1) = ((i + 1 : Nat) : Int) := by rw [w64 (by omega) (by omega), cast_succ]
 have w7 : (0 : Int) ≤ wrap64 (7 * (i : Int)) := by rw [w64 (by omega) (by omega)]; omega
 have wb : wrap64 (b : Int) = (b : Int) := w64 (by omega) (by omega)
 rw [wb] at esp
 have key : ∃ r : Int × Int, Ev (fun k => spec_ReadNumber.j1 (k + 1) xs n p (i : Int) true) r ∧ Ev (fun k => impl_ReadNumber.l0 (k + 1) n xs (xs.length : Int) (i : Int)) r ∧ RN xs r := by
  simp only [spec_ReadNumber.j1, impl_ReadNumber.l0, hv, eo, wb, esp, ew, e6]
  clear eo esp ew e6 wb hv
  have i0 : (0 : Int) ≤ (i : Int) := by omega
  have i1 : (i : Int) < (xs.length : Int) := by omega
  have i5 : ¬ (i : Int) > 5 := by omega
  by_cases c1 : (b : Int) < 128
  ·by_cases c2 : N > 1099511627776
   ·refine ⟨(0, 0), Ev.pos (by trivial) (Ev.pos i0 (Ev.pos i1 (Ev.pos c1 (Ev.pos c2 (Ev.now _))))), ?_, Or.inl rfl⟩
    refine Ev.pos i1 (Ev.pos i0 (Ev.pos i1 (Ev.neg i5 (Ev.pos w7 (Ev.pos c1 ?_)))))
    by_cases c3 : (i : Int) > 0
    ·refine Ev.pos c3 ?_
     by_cases c4 : (b : Int) = 0
     ·exact Ev.pos c4 (Ev.now _)
     ·exact Ev.neg c4 (Ev.pos c2 (Ev.now _))
    ·exact Ev.neg c3 (Ev.pos c2 (Ev.now _))
   ·have good : (i = 0 ∨ b ≠ 0) → RN xs (N, ((i + 1 : Nat) : Int)) := fun h0 => Or.inr ⟨by dsimp only; omega, by dsimp only; omega, hN0, by dsimp only; omega, by have := hlen (by omega) h0; dsimp only; rw [this]⟩
    by_cases c3 : (i : Int) > 0
    ·by_cases c4 : (b : Int) = 0
     ·exact ⟨(0, 0), Ev.pos (by trivial) (Ev.pos i0 (Ev.pos i1 (Ev.pos c1 (Ev.neg c2 (Ev.pos c3 (Ev.pos c4 (Ev.now _))))))), Ev.pos i1 (Ev.pos i0 (Ev.pos i1 (Ev.neg i5 (Ev.pos w7 (Ev.pos c1 (Ev.pos c3 (Ev.pos c4 (Ev.now _)))))))), Or.inl rfl⟩
     ·exact ⟨(N, ((i + 1 : Nat) : Int)), Ev.pos (by trivial) (Ev.pos i0 (Ev.pos i1 (Ev.pos c1 (Ev.neg c2 (Ev.pos c3 (Ev.neg c4 (Ev.now _))))))), Ev.pos i1 (Ev.pos i0 (Ev.pos i1 (Ev.neg i5 (Ev.pos w7 (Ev.pos c1 (Ev.pos c3 (Ev.neg c4 (Ev.neg c2 (Ev.now _))))))))), good (Or.inr (fun h => c4 (by omega)))⟩
    ·exact ⟨(N, ((i + 1 : Nat) : Int)), Ev.pos (by trivial) (Ev.pos i0 (Ev.pos i1 (Ev.pos c1 (Ev.neg c2 (Ev.neg c3 (Ev.now _)))))), Ev.pos i1 (Ev.pos i0 (Ev.pos i1 (Ev.neg i5 (Ev.pos w7 (Ev.pos c1 (Ev.neg c3 (Ev.neg c2 (Ev.now _)))))))), good (Or.inl (by omega))⟩
  ·obtain ⟨r, h1, h2, h3⟩ := H
   exact ⟨r, Ev.pos (by trivial) (Ev.pos i0 (Ev.pos i1 (Ev.neg c1 h1))), Ev.pos i1 (Ev.pos i0 (Ev.pos i1 (Ev.neg i5 (Ev.pos w7 (Ev.neg c1 h2))))), h3⟩
 obtain ⟨r, k1, k2, k3⟩ := key
 refine ⟨r, Ev.succ ?_, Ev.succ k2, k3⟩
 simp only [spec_ReadNumber.l0]
 refine Ev.pos (by omega) ?_
 rw [decide_eq_true (show (i : Int) < 6 by omega)]
 exact Ev.succ k1
theorem or_at (n i b : Nat) (hi : i ≤ 5) (hn : n < 2 ^ (7 * i)) (hb : b ≤ 255) : Go.bits .or .i64 (n : Int) (shl .i64 (wrap64 (Go.bits .and .u8 (b : Int) 127)) (wrap64 (7 * (i : Int)))) = ((n + b % 128 * 2 ^ (7 * i) : Nat) : Int) := by
 have ea := and_all ⟨b, by omega⟩
 have es := shl_all ⟨b % 128, by omega⟩ ⟨i, by omega⟩
 simp only at ea es
 have w1 : wrap64 ((b % 128 : Nat) : Int) = ((b % 128 : Nat) : Int) := w64 (by clear ea es; omega) (by clear ea es; omega)
 have w7 : wrap64 (7 * (i : Int)) = ((7 * i : Nat) : Int) := by clear ea es w1; rw [w64 (by omega) (by omega)]; omega
 rw [ea, w1, w7, es]
 exact or_nat n (b % 128) i hi hn (by clear ea es w1 w7; omega)
theorem sum_at (n i b : Nat) (hi : i ≤ 5) (hn : n < 2 ^ (7 * i)) (hb : b ≤ 255) : wrap64 ((n : Int) + wrap64 (Int.tmod (wrap64 (b : Int)) 128 * ((2 ^ (7 * i) : Nat) : Int))) = ((n + b % 128 * 2 ^ (7 * i) : Nat) : Int) ∧ n + b % 128 * 2 ^ (7 * i) < 2 ^ (7 * (i + 1)) ∧ wrap64 (((2 ^ (7 * i) : Nat) : Int) * 128) = ((2 ^ (7 * (i + 1)) : Nat) : Int) := by
 have hp := pow_le hi
 have wb : wrap64 (b : Int) = (b : Int) := w64 (by omega) (by omega)
 have tm : Int.tmod (b : Int) 128 = ((b % 128 : Nat) : Int) := rfl
 have hpow : 2 ^ (7 * (i + 1)) = 128 * 2 ^ (7 * i) := by rw [show 7 * (i + 1) = 7 * i + 7 by omega, Nat.pow_add]; exact Nat.mul_comm _ _
 rw [wb, tm, ← Int.natCast_mul, hpow]
 have hq : b % 128 * 2 ^ (7 * i) ≤ 127 * 2 ^ (7 * i) := Nat.mul_le_mul_right _ (by clear wb tm hpow; omega)
 clear wb tm hpow
 generalize 2 ^ (7 * i) = p at *
 generalize b % 128 * p = q at *
 refine ⟨?_, by omega, ?_⟩
 ·rw [w64 (x := (q : Int)) (by omega) (by omega), w64 (by omega) (by omega)]
  omega
 ·rw [w64 (by omega) (by omega)]
  omega
theorem rnum_l0 (xs : List Int) (hb : byteL xs) (hl : xs.length ≤ 4611686018427387904) : ∀ (d i n : Nat), i + d = 6 → i ≤ xs.length → n < 2 ^ (7 * i) →
  ∃ r : Int × Int, Ev (fun k => spec_ReadNumber.l0 k xs (n : Int) ((2 ^ (7 * i) : Nat) : Int) (i : Int)) r ∧ Ev (fun k => impl_ReadNumber.l0 k (n : Int) xs (xs.length : Int) (i : Int)) r ∧ RN xs r
 | 0, i, n, hi, hx, hn => by
  have i6 : ¬ (i : Int) < 6 := by clear hn; omega
  have i5 : (i : Int) > 5 := by clear hn; omega
  have i0 : (0 : Int) ≤ (i : Int) := by clear hn; omega
  clear hn
  generalize ((2 ^ (7 * i) : Nat) : Int) = p
  refine ⟨(0, 0), Ev.succ ?_, Ev.succ ?_, Or.inl rfl⟩
  ·simp only [spec_ReadNumber.l0]
   have hz : ∀ b, b = false → Ev (fun k => spec_ReadNumber.j1 k xs (n : Int) p (i : Int) b) ((0, 0) : Int × Int) := by
    intro b hb'
    subst hb'
    refine Ev.succ ?_
    simp only [spec_ReadNumber.j1]
    exact Ev.neg (by simp) (Ev.now _)
   by_cases c : (i : Int) < (xs.length : Int)
   ·exact Ev.pos c (hz _ (decide_eq_false i6))
   ·exact Ev.neg c (hz _ rfl)
  ·simp only [impl_ReadNumber.l0]
   by_cases c : (i : Int) < (xs.length : Int)
   ·exact Ev.pos c (Ev.pos i0 (Ev.pos c (Ev.pos i5 (Ev.now _))))
   ·exact Ev.neg c (Ev.now _)
 | d + 1, i, n, hi, hx, hn => by
  have hi5 : i ≤ 5 := by clear hn; omega
  by_cases c : i < xs.length
  ·have hy := hb _ (List.getElem_mem c)
   have hrd : rd xs (i : Int) = xs[i] := by
    show xs.getD i 0 = xs[i]
    rw [List.getD_eq_getElem?_getD, List.getElem?_eq_getElem c]
    rfl
   obtain ⟨b, hbv⟩ := Int.eq_ofNat_of_zero_le hy.1
   have hb255 : b ≤ 255 := by clear hn; omega
   have hv : rd xs (i : Int) = (b : Int) := by rw [hrd]; exact hbv
   obtain ⟨esp, hN, ew⟩ := sum_at n i b hi5 hn hb255
   exact rnum_step xs hl i b (n : Int) _ _ _ hi5 c hb255 hv (or_at n i b hi5 hn hb255) esp ew (Int.natCast_nonneg _) (fun h1 h2 => by rw [Int.toNat_natCast]; exact numB_at n i b hi5 hn h1 h2) (rnum_l0 xs hb hl d (i + 1) (n + b % 128 * 2 ^ (7 * i)) (by clear esp hN ew hn; omega) c hN)
  ·have i1 : ¬ (i : Int) < (xs.length : Int) := by clear hn; omega
   clear hn
   generalize ((2 ^ (7 * i) : Nat) : Int) = p
   refine ⟨(0, 0), Ev.succ ?_, Ev.succ ?_, Or.inl rfl⟩
   ·simp only [spec_ReadNumber.l0]
    refine Ev.neg i1 (Ev.succ ?_)
    simp only [spec_ReadNumber.j1]
    exact Ev.neg (by simp) (Ev.now _)
   ·simp only [impl_ReadNumber.l0]
    exact Ev.neg i1 (Ev.now _)
theorem rnum_ev (xs : List Int) (hb : byteL xs) (hl : xs.length ≤ 4611686018427387904) : ∃ r : Int × Int, Ev (fun k => spec_ReadNumber.f k xs) r ∧ Ev (fun k => impl_ReadNumber.f k xs) r ∧ RN xs r :=
 rnum_l0 xs hb hl 6 0 0 (by omega) (by omega) (by decide)
theorem rtext_ev (xs : List Int) (hb : byteL xs) (hl : xs.length ≤ 4611686018427387904) : ∃ r : ByteArray × Int, Ev (fun k => spec_ReadText.f k xs) r ∧ Ev (fun k => impl_ReadText.f k xs) r ∧ 0 ≤ r.2 ∧ r.2 ≤ xs.length ∧ (r.2 ≠ 0 → r.1.size ≤ 3000 ∧ r.2 = ((textB r.1).length : Int)) := by
 obtain ⟨⟨n, t⟩, h1, h2, h3⟩ := rnum_ev xs hb hl
 have key : ∃ r : ByteArray × Int, (∀ g : Nat → Option (ByteArray × Int), g = (fun _ => (if t = 0 then (some ((⟨#[]⟩ : ByteArray), 0)) else (if n > 3000 then (some ((⟨#[]⟩ : ByteArray), 0)) else (if n > (wrap64 ((xs.length : Int) - t)) then (some ((⟨#[]⟩ : ByteArray), 0)) else (if 0 ≤ t then (if t ≤ (wrap64 (t + n)) then (if (wrap64 (t + n)) ≤ (xs.length : Int) then (some (strOfNums ((xs.take ((wrap64 (t + n)) : Int).toNat).drop (t : Int).toNat), wrap64 (t + n))) else (none)) else (none)) else (none)))))) → Ev g r) ∧ 0 ≤ r.2 ∧ r.2 ≤ xs.length ∧ (r.2 ≠ 0 → r.1.size ≤ 3000 ∧ r.2 = ((textB r.1).length : Int)) := by
  by_cases c0 : t = 0
  ·exact ⟨((⟨#[]⟩ : ByteArray), 0), fun g hg => by subst hg; exact Ev.pos c0 (Ev.now _), by simp, by simp, by simp⟩
  ·rcases h3 with h3 | ⟨q1, q2, q3, q4, q5⟩
   ·have : t = 0 := congrArg Prod.snd h3
    exact absurd this c0
   ·dsimp only at q1 q2 q3 q4
    by_cases c1 : n > 3000
    ·exact ⟨((⟨#[]⟩ : ByteArray), 0), fun g hg => by subst hg; exact Ev.neg c0 (Ev.pos c1 (Ev.now _)), by simp, by simp, by simp⟩
    ·have w1 : wrap64 ((xs.length : Int) - t) = (xs.length : Int) - t := w64 (by omega) (by omega)
     have w2 : wrap64 (t + n) = t + n := w64 (by omega) (by omega)
     rw [w1, w2]
     by_cases c2 : n > (xs.length : Int) - t
     ·exact ⟨((⟨#[]⟩ : ByteArray), 0), fun g hg => by subst hg; exact Ev.neg c0 (Ev.neg c1 (Ev.pos c2 (Ev.now _))), by simp, by simp, by simp⟩
     ·refine ⟨_, fun g hg => by subst hg; exact Ev.neg c0 (Ev.neg c1 (Ev.neg c2 (Ev.pos (by omega) (Ev.pos (by omega) (Ev.pos (by omega) (Ev.now _)))))), by dsimp only; omega, by dsimp only; omega, fun _ => ?_⟩
      have hsz : (strOfNums ((xs.take ((t + n : Int)).toNat).drop (t : Int).toNat)).size = n.toNat := by rw [strOfNums_size, List.length_drop, List.length_take]; omega
      dsimp only
      try rw [w2]
      dsimp only at q5
      refine ⟨by rw [hsz]; omega, ?_⟩
      unfold textB
      rw [List.length_append, bytesOf_length, hsz]
      omega
 obtain ⟨r, k1, k2, k3⟩ := key
 unfold spec_ReadText.f impl_ReadText.f
 exact ⟨r, Ev.bind h1 (k1 _ rfl), Ev.bind h2 (k1 _ rfl), k2, k3⟩
theorem goes_some (xs : List Int) (bad : Bool) (t : Int) (h0 : 0 ≤ t) (h1 : t ≤ xs.length) : impl_cursor_goes.f xs bad t = some (xs.drop t.toNat, bad || (t == 0)) := by
 unfold impl_cursor_goes.f
 rw [if_pos ⟨h0, h1⟩]
theorem rtexts_l0 (D : List Int) (hb : byteL D) (hl : D.length ≤ 4611686018427387904) : ∀ (m at_ : Nat) (out : List ByteArray), 0 < at_ → at_ ≤ D.length → out.length + m ≤ 1000 →
  ∃ (r1 : List ByteArray × Int) (r2 : List ByteArray × List Int × Bool), Ev (fun k => spec_l1ReadTexts.l0 k D (m : Int) (at_ : Int) out) r1 ∧ Ev (fun k => impl_cursor_texts.l0 k (D.drop at_) false (m : Int) out) r2 ∧ r1.1.length ≤ 1000 ∧ ((r1.2 = 0 ∧ r2.2.2 = true ∧ ∃ a, r2.2.1 = D.drop a) ∨ (0 < r1.2 ∧ r1.2 ≤ D.length ∧ r2 = (r1.1, D.drop r1.2.toNat, false) ∧ r1.1.length = out.length + m ∧ (fitT out = true → fitT r1.1 = true) ∧ ((flatT r1.1).length : Int) = (flatT out).length + (r1.2 - at_)))
 | 0, at_, out, h0, h1, ho => by
  refine ⟨(out, (at_ : Int)), (out, D.drop at_, false), Ev.succ ?_, Ev.succ ?_, by dsimp only; omega, Or.inr ⟨by dsimp only; omega, by dsimp only; omega, by simp, by simp, id, by dsimp only; omega⟩⟩
  ·simp only [spec_l1ReadTexts.l0]
   exact Ev.neg (by omega) (Ev.now _)
  ·simp only [impl_cursor_texts.l0]
   exact Ev.neg (by omega) (Ev.now _)
 | m + 1, at_, out, h0, h1, ho => by
  have hdl : (D.drop at_).length = D.length - at_ := List.length_drop
  obtain ⟨⟨s, t⟩, e1, e2, t0, t1, t2⟩ := rtext_ev (D.drop at_) (byteL_drop hb at_) (by omega)
  dsimp only at t0 t1
  have wm : wrap64 (((m + 1 : Nat) : Int) - 1) = (m : Int) := by rw [w64 (by omega) (by omega)]; omega
  have eg := goes_some (D.drop at_) false t t0 t1
  have et : Ev (fun k => impl_cursor_text.f k (D.drop at_) false) (s, (D.drop at_).drop t.toNat, false || (t == 0)) := by
   unfold impl_cursor_text.f
   refine Ev.bind e2 ?_
   dsimp only
   rw [eg]
   exact Ev.now _
  by_cases c : t = 0
  ·subst c
   refine ⟨([], 0), (out ++ [s], (D.drop at_).drop (0 : Int).toNat, true), Ev.succ ?_, Ev.succ ?_, by simp, Or.inl ⟨rfl, rfl, _, by dsimp only; rw [List.drop_drop]⟩⟩
   ·simp only [spec_l1ReadTexts.l0, Int.toNat_natCast]
    exact Ev.pos (by omega) (Ev.pos (by omega) (Ev.pos (by omega) (Ev.bind e1 (Ev.pos rfl (Ev.now _)))))
   ·simp only [impl_cursor_texts.l0]
    refine Ev.pos (by omega) (Ev.neg (by simp) (Ev.bind et (Ev.pos (by omega) ?_)))
    dsimp only
    rw [wm]
    refine Ev.succ ?_
    simp only [impl_cursor_texts.l0]
    by_cases cm : (m : Int) > 0
    ·exact Ev.pos cm (Ev.pos rfl (Ev.now _))
    ·exact Ev.neg cm (Ev.now _)
  ·obtain ⟨tn, rfl⟩ := Int.eq_ofNat_of_zero_le t0
   have wt : wrap64 ((at_ : Int) + (tn : Int)) = ((at_ + tn : Nat) : Int) := by rw [w64 (by omega) (by omega)]; omega
   obtain ⟨r1, r2, j1, j2, j3⟩ := rtexts_l0 D hb hl m (at_ + tn) (out ++ [s]) (by omega) (by omega) (by simp; omega)
   obtain ⟨tz, tl⟩ := t2 c
   dsimp only at tz tl
   refine ⟨r1, r2, Ev.succ ?_, Ev.succ ?_, j3.1, j3.2.imp id (fun h => ⟨h.1, h.2.1, h.2.2.1, ?_, ?_, ?_⟩)⟩
   rotate_left 2
   ·have := h.2.2.2.1
    rw [List.length_append] at this
    simp only [List.length_cons, List.length_nil] at this
    omega
   ·refine fun hf => h.2.2.2.2.1 ?_
    unfold fitT at hf ⊢
    rw [List.all_append, hf]
    simp [tz]
   ·have := h.2.2.2.2.2
    have e : (flatT (out ++ [s])).length = (flatT out).length + (textB s).length := by unfold flatT; simp
    rw [e] at this
    omega
   ·simp only [spec_l1ReadTexts.l0, Int.toNat_natCast]
    refine Ev.pos (by omega) (Ev.pos (by omega) (Ev.pos (by omega) (Ev.bind e1 (Ev.neg c (Ev.pos (by omega) ?_)))))
    rw [wm]
    dsimp only
    rw [wt]
    exact j1
   ·simp only [impl_cursor_texts.l0]
    refine Ev.pos (by omega) (Ev.neg (by simp) (Ev.bind et (Ev.pos (by omega) ?_)))
    dsimp only
    rw [wm, Int.toNat_natCast, List.drop_drop, show (false || ((tn : Int) == 0)) = false by rw [Bool.false_or, beq_eq_false_iff_ne]; exact c]
    exact j2
theorem rt_ev (D : List Int) (hb : byteL D) (hl : D.length ≤ 4611686018427387904) : ∃ (r1 : List ByteArray × Int) (r2 : List ByteArray × List Int × Bool), Ev (fun k => spec_l1ReadTexts.f k D) r1 ∧ Ev (fun k => impl_cursor_texts.f k D false) r2 ∧ r1.1.length ≤ 1000 ∧ ((r1.2 = 0 ∧ r2.2.2 = true ∧ ∃ a, r2.2.1 = D.drop a) ∨ (0 < r1.2 ∧ r1.2 ≤ D.length ∧ r2 = (r1.1, D.drop r1.2.toNat, false) ∧ textsB r1.1 ≠ [] ∧ r1.2 = ((textsB r1.1).length : Int))) := by
 obtain ⟨⟨n, t⟩, h1, h2, h3⟩ := rnum_ev D hb hl
 unfold spec_l1ReadTexts.f impl_cursor_texts.f impl_cursor_number.f
 have t0 : 0 ≤ t ∧ t ≤ D.length := by
  rcases h3 with h3 | ⟨q1, q2, _⟩
  ·have : t = 0 := congrArg Prod.snd h3
   omega
  ·dsimp only at q1 q2
   omega
 have eg := goes_some D false t t0.1 t0.2
 have en : Ev (fun k => (impl_ReadNumber.f k D).bind fun p => (impl_cursor_goes.f D false p.2).bind fun q => some (p.1, q.1, q.2)) (n, D.drop t.toNat, false || (t == 0)) := by
  refine Ev.bind h2 ?_
  dsimp only
  rw [eg]
  exact Ev.now _
 have bad1 : ∀ (y : List ByteArray), Ev (fun k => spec_l1ReadTexts.j0 k D n t y true) (y, 0) := fun y => Ev.succ (by simp only [spec_l1ReadTexts.j0]; exact Ev.pos (by trivial) (Ev.now _))
 have bad2 : ∀ (xs : List Int) (m : Int) (o : List ByteArray), Ev (fun k => impl_cursor_texts.l0 k xs true m o) (o, xs, true) := fun xs m o => Ev.succ (by
  simp only [impl_cursor_texts.l0]
  by_cases cm : m > 0
  ·exact Ev.pos cm (Ev.pos (by trivial) (Ev.now _))
  ·exact Ev.neg cm (Ev.now _))
 by_cases c0 : t = 0
 ·refine ⟨([], 0), ([], D.drop t.toNat, true), Ev.bind h1 ?_, Ev.bind en ?_, by simp, Or.inl ⟨rfl, rfl, _, rfl⟩⟩
  ·simp only [Option.bind_some]
   exact Ev.pos c0 (bad1 _)
  ·dsimp only
   have : (false || (t == 0)) = true := by simp [c0]
   rw [this, ite_self]
   exact bad2 _ _ _
 ·rcases h3 with h3 | ⟨q1, q2, q3, q4, q5⟩
  ·have : t = 0 := congrArg Prod.snd h3
   exact absurd this c0
  ·dsimp only at q1 q2 q3 q4 q5
   have ez : (false || (t == 0)) = false := by rw [Bool.false_or, beq_eq_false_iff_ne]; exact c0
   rw [ez] at en
   by_cases c1 : n > 200
   ·refine ⟨([], 0), ([], D.drop t.toNat, true), Ev.bind h1 ?_, Ev.bind en ?_, by simp, Or.inl ⟨rfl, rfl, _, rfl⟩⟩
    ·simp only [Option.bind_some]
     refine Ev.neg c0 ?_
     rw [decide_eq_true c1]
     exact bad1 _
    ·dsimp only
     rw [if_pos c1]
     exact bad2 _ _ _
   ·obtain ⟨m, rfl⟩ := Int.eq_ofNat_of_zero_le q3
    obtain ⟨a, rfl⟩ := Int.eq_ofNat_of_zero_le t0.1
    obtain ⟨r1, r2, j1, j2, j3, j4⟩ := rtexts_l0 D hb hl m a [] (by omega) (by omega) (by simp; omega)
    refine ⟨r1, r2, Ev.bind h1 ?_, Ev.bind en ?_, j3, ?_⟩
    ·simp only [Option.bind_some]
     refine Ev.neg c0 ?_
     rw [decide_eq_false c1]
     refine Ev.succ ?_
     simp only [spec_l1ReadTexts.j0]
     exact Ev.neg (by simp) j1
    ·dsimp only
     rw [if_neg c1, Int.toNat_natCast]
     exact j2
    ·rcases j4 with j4 | ⟨k1, k2, k3, k4, k5, k6⟩
     ·exact Or.inl ⟨j4.1, j4.2.1, j4.2.2⟩
     ·have hz : textsB r1.1 = numB r1.1.length ++ flatT r1.1 := by unfold textsB; rw [if_pos ⟨by simp at k4; omega, k5 rfl⟩]
      have hn := numB_len r1.1.length
      have hm : r1.1.length = m := by simpa using k4
      refine Or.inr ⟨k1, k2, k3, ?_, ?_⟩
      ·rw [hz]
       intro h
       have := congrArg List.length h
       simp only [List.length_append, List.length_nil] at this
       omega
      ·rw [hz, List.length_append, hm]
       rw [Int.toNat_natCast] at q5
       simp only [flatT, List.flatMap_nil, List.length_nil] at k6
       simp only [flatT]
       omega
theorem ev_split {α β : Type} {g : Nat → Option α} {f : Nat → α → Option β} {r : β} (h : Ev (fun k => (g k).bind (f k)) r) (hg : ∀ k, LeO (g k) (g (k + 1))) : ∃ x, Ev g x ∧ Ev (fun k => f k x) r := by
 obtain ⟨K, hK⟩ := h
 obtain ⟨x, hx, _⟩ := Option.bind_eq_some_iff.1 (hK K (Nat.le_refl _))
 have e : Ev g x := Ev.of hg hx
 obtain ⟨K', hK'⟩ := e
 refine ⟨x, ⟨K', hK'⟩, max K K', fun k hk => ?_⟩
 have h1 := hK k (by omega)
 have h2 := hK' k (by omega)
 dsimp only at h1
 rw [h2] at h1
 exact h1
/-! a block, read -/
abbrev BR : Type := Int × Int × Int × Int × List Int × List Int × List ByteArray × Int × Bool
def NO : BR := (0, 0, 0, 0, [], [], [], 0, false)
def smallR (s : ByteArray) (r : BR) : Prop := (r.2.2.2.2.1.length ≤ 1000 ∧ r.2.2.2.2.2.1.length ≤ 1000 ∧ r.2.2.2.2.2.2.1.length ≤ 1000) ∧ (r = NO ∨ (r.2.2.2.2.2.2.2.2 = true ∧ (shown r.1 r.2.1 r.2.2.1 r.2.2.2.1 r.2.2.2.2.1 r.2.2.2.2.2.1 r.2.2.2.2.2.2.1 r.2.2.2.2.2.2.2.1).toList = s.toList))
theorem no_small {s : ByteArray} : smallR s NO := ⟨⟨by simp [NO], by simp [NO], by simp [NO]⟩, .inl rfl⟩
theorem rn_range {xs : List Int} {r : Int × Int} (h : RN xs r) : 0 ≤ r.2 ∧ r.2 ≤ xs.length ∧ 0 ≤ r.1 := by
 rcases h with h | ⟨q1, q2, q3, q4⟩
 ·subst h
  exact ⟨Int.le_refl _, by simp, Int.le_refl _⟩
 ·exact ⟨by omega, q2, q3⟩
theorem num_go {xs : List Int} (bad : Bool) {n t : Int} (h2 : Ev (fun k => impl_ReadNumber.f k xs) (n, t)) (h3 : RN xs (n, t)) : Ev (fun k => impl_cursor_number.f k xs bad) (n, xs.drop t.toNat, bad || (t == 0)) := by
 have t0 := rn_range h3
 dsimp only at t0
 have eg := goes_some xs bad t t0.1 t0.2.1
 unfold impl_cursor_number.f
 refine Ev.bind h2 ?_
 dsimp only
 rw [eg]
 exact Ev.now _
theorem num_bad (xs : List Int) (hb : byteL xs) (hl : xs.length ≤ 4611686018427387904) : ∃ n zs, Ev (fun k => impl_cursor_number.f k xs true) (n, zs, true) ∧ 0 ≤ n ∧ byteL zs ∧ zs.length ≤ 4611686018427387904 := by
 obtain ⟨⟨n, t⟩, _, h2, h3⟩ := rnum_ev xs hb hl
 exact ⟨n, _, num_go true h2 h3, (rn_range h3).2.2, byteL_drop hb _, by rw [List.length_drop]; omega⟩
theorem l0_bad (m : Nat) (hm : m ≤ 7) : ∀ (d i : Nat) (xs y u : List Int), i + d = m → y.length ≤ i → u.length ≤ i → byteL xs → xs.length ≤ 4611686018427387904 →
  ∃ y' u' zs, Ev (fun k => impl_ReadBlock.l0 k xs true (i : Int) (m : Int) y u) (y', u', zs, true) ∧ byteL zs ∧ zs.length ≤ 4611686018427387904
 | 0, i, xs, y, u, hi, hy, hu, hb, hl => ⟨y, u, xs, Ev.succ (by simp only [impl_ReadBlock.l0]; exact Ev.neg (by omega) (Ev.now _)), hb, hl⟩
 | d + 1, i, xs, y, u, hi, hy, hu, hb, hl => by
  obtain ⟨n1, z1, e1, _, b1, l1⟩ := num_bad xs hb hl
  obtain ⟨n2, z2, e2, _, b2, l2⟩ := num_bad z1 b1 l1
  obtain ⟨y', u', zs, j1, j2, j3⟩ := l0_bad m hm d (i + 1) z2 (y ++ [n1]) (u ++ [n2]) (by omega) (by simp; omega) (by simp; omega) b2 l2
  refine ⟨y', u', zs, Ev.succ ?_, j2, j3⟩
  simp only [impl_ReadBlock.l0]
  refine Ev.pos (by omega) (Ev.bind e1 (Ev.bind e2 (Ev.pos (by omega) ?_)))
  rw [w64 (x := (i : Int) + 1) (by omega) (by omega)]
  exact j1
theorem texts_bad (xs : List Int) (hb : byteL xs) (hl : xs.length ≤ 4611686018427387904) : ∃ o zs, Ev (fun k => impl_cursor_texts.f k xs true) (o, zs, true) ∧ byteL zs ∧ zs.length ≤ 4611686018427387904 := by
 obtain ⟨n, zs, e, _, b, l⟩ := num_bad xs hb hl
 refine ⟨[], zs, ?_, b, l⟩
 unfold impl_cursor_texts.f
 refine Ev.bind e ?_
 dsimp only
 rw [ite_self]
 refine Ev.succ ?_
 simp only [impl_cursor_texts.l0]
 by_cases cm : n > 0
 ·exact Ev.pos cm (Ev.pos (by trivial) (Ev.now _))
 ·exact Ev.neg cm (Ev.now _)
theorem ended_bad (zs : List Int) : impl_cursor_ended.f zs true = some (false, true) := by unfold impl_cursor_ended.f; rw [if_pos rfl]
theorem end_bad (s : ByteArray) (v p pv pn : Int) (y u xs : List Int) (hb : byteL xs) (hl : xs.length ≤ 4611686018427387904) : Ev (fun k => impl_ReadBlock.t k s v p pv pn (y, u, xs, true)) NO := by
 obtain ⟨o, z1, e1, b1, l1⟩ := texts_bad xs hb hl
 obtain ⟨n, z2, e2, _, b2, l2⟩ := num_bad z1 b1 l1
 unfold impl_ReadBlock.t
 exact Ev.bind e1 (Ev.bind e2 (Ev.bind (Ev.const (ended_bad _)) (Ev.neg (c := false = true) (by decide) (Ev.now _))))
/-! the numbers, one beside the other -/
def il : List Int → List Int → List Int
 | a :: y, b :: u => a :: b :: il y u
 | _, _ => []
theorem il_app : ∀ (y u : List Int) (a b : Int), y.length = u.length → il (y ++ [a]) (u ++ [b]) = il y u ++ [a, b]
 | [], [], a, b, _ => rfl
 | c :: y, d :: u, a, b, h => by
  show c :: d :: il (y ++ [a]) (u ++ [b]) = c :: d :: (il y u ++ [a, b])
  rw [il_app y u a b (by simpa using h)]
theorem il_len : ∀ (y u : List Int), y.length = u.length → (il y u).length = 2 * y.length
 | [], [], _ => rfl
 | c :: y, d :: u, h => by
  have := il_len y u (by simpa using h)
  simp only [il, List.length_cons]
  omega
theorem il_get : ∀ (y u : List Int) (j : Nat), y.length = u.length → (il y u)[2 * j]? = y[j]? ∧ (il y u)[2 * j + 1]? = u[j]?
 | [], [], j, _ => by simp [il]
 | c :: y, d :: u, 0, h => by simp [il]
 | c :: y, d :: u, j + 1, h => by
  have := il_get y u j (by simpa using h)
  simp only [il, show 2 * (j + 1) = 2 * j + 1 + 1 by omega, List.getElem?_cons_succ]
  exact this
theorem btl_il (y u : List Int) (h : y.length = u.length) : ∀ d i, i + d = y.length → btl y u d i = il (y.drop i) (u.drop i)
 | 0, i, hi => by rw [List.drop_eq_nil_of_le (by omega), List.drop_eq_nil_of_le (by omega)]; rfl
 | d + 1, i, hi => by
  have h1 : y.drop i = y[i]'(by omega) :: y.drop (i + 1) := List.drop_eq_getElem_cons (by omega)
  have h2 : u.drop i = u[i]'(by omega) :: u.drop (i + 1) := List.drop_eq_getElem_cons (by omega)
  rw [h1, h2]
  show rd y (i : Int) :: rd u (i : Int) :: btl y u d (i + 1) = y[i]'(by omega) :: u[i]'(by omega) :: il (y.drop (i + 1)) (u.drop (i + 1))
  rw [btl_il y u h d (i + 1) (by omega), rdI (l := y) (by omega), rdI (l := u) (by omega)]
def lm (v p pv pn : Int) (m : Nat) (y u : List Int) : List Int := [v, p, pv, pn, (m : Int)] ++ il y u
theorem lm_lst (v p pv pn : Int) (m : Nat) (y u : List Int) (hy : y.length = m) (hu : u.length = m) : lst v p pv pn y u = lm v p pv pn m y u := by
 unfold lst lm
 rw [btl_il y u (by omega) y.length 0 (by omega), hy, List.drop_zero, List.drop_zero]
theorem lm_len (v p pv pn : Int) (m : Nat) (y u : List Int) (h : y.length = u.length) : (lm v p pv pn m y u).length = 5 + 2 * y.length := by
 unfold lm
 rw [List.length_append, il_len y u h]
 simp
theorem lm_get (v p pv pn : Int) (m : Nat) (y u : List Int) (h : y.length = u.length) (j : Nat) (hj : j < y.length) : rd (lm v p pv pn m y u) ((5 + 2 * j : Nat) : Int) = y[j] ∧ rd (lm v p pv pn m y u) ((5 + 2 * j + 1 : Nat) : Int) = u[j]'(by omega) := by
 obtain ⟨g1, g2⟩ := il_get y u j h
 unfold lm
 constructor
 ·refine rd_get ?_
  rw [List.getElem?_append_right (by simp), show 5 + 2 * j - [v, p, pv, pn, (m : Int)].length = 2 * j by simp, g1]
  exact List.getElem?_eq_getElem hj
 ·refine rd_get ?_
  rw [List.getElem?_append_right (by simp; omega), show 5 + 2 * j + 1 - [v, p, pv, pn, (m : Int)].length = 2 * j + 1 by simp; omega, g2]
  exact List.getElem?_eq_getElem (by omega)
theorem take_add (y : List Int) (j : Nat) (hj : j < y.length) : y.take j ++ [y[j]] = y.take (j + 1) := by
 rw [List.take_add_one, List.getElem?_eq_getElem hj]
 rfl
section
variable (s : ByteArray)
def ans (v p pv pn : Int) (y u : List Int) (ms : List ByteArray) (b : Int) : BR :=
 if (shown v p pv pn y u ms b).toList = s.toList then (if s.toList = ([] : List UInt8) then NO else (v, p, pv, pn, y, u, ms, b, true)) else NO
theorem sl1_ev (v p pv pn : Int) (y u : List Int) (m : Nat) (hy : y.length = m) (hu : u.length = m) (hm : m ≤ 7) (ms : List ByteArray) (b : Int) (hms : ms.length ≤ 1000) : ∀ (d j : Nat), j + d = m →
  Ev (fun k => spec_ReadBlock.l1 k s (lm v p pv pn m y u) ((5 + 2 * j : Nat) : Int) v p pv pn (y.take j) (u.take j) ms b) (ans s v p pv pn y u ms b)
 | 0, j, hj => by
  have hl := lm_len v p pv pn m y u (by omega)
  obtain ⟨e1, _⟩ := show_ev v p pv pn y u ms b (by omega) (by omega) (by omega)
  rw [List.take_of_length_le (by omega), List.take_of_length_le (by omega)]
  refine Ev.succ ?_
  simp only [spec_ReadBlock.l1]
  refine Ev.neg (by omega) (Ev.bind e1 ?_)
  by_cases c1 : (shown v p pv pn y u ms b).toList = s.toList
  ·by_cases c2 : s.toList = ([] : List UInt8)
   ·have ea : ans s v p pv pn y u ms b = NO := by unfold ans; rw [if_pos c1, if_pos c2]
    rw [ea]
    exact Ev.pos c1 (Ev.pos c2 (Ev.now _))
   ·have ea : ans s v p pv pn y u ms b = (v, p, pv, pn, y, u, ms, b, true) := by unfold ans; rw [if_pos c1, if_neg c2]
    rw [ea]
    exact Ev.pos c1 (Ev.neg c2 (Ev.now _))
  ·have ea : ans s v p pv pn y u ms b = NO := by unfold ans; rw [if_neg c1]
   rw [ea]
   exact Ev.neg c1 (Ev.now _)
 | d + 1, j, hj => by
  have hl := lm_len v p pv pn m y u (by omega)
  obtain ⟨g1, g2⟩ := lm_get v p pv pn m y u (by omega) j (by omega)
  have ih := sl1_ev v p pv pn y u m hy hu hm ms b hms d (j + 1) (by omega)
  have w1 : wrap64 (((5 + 2 * j : Nat) : Int) + 1) = ((5 + 2 * j + 1 : Nat) : Int) := by rw [w64 (by omega) (by omega)]; omega
  have w2 : wrap64 (((5 + 2 * j : Nat) : Int) + 2) = ((5 + 2 * (j + 1) : Nat) : Int) := by rw [w64 (by omega) (by omega)]; omega
  have t1 : (y.take j).length ≤ j := by rw [List.length_take]; omega
  have t2 : (u.take j).length ≤ j := by rw [List.length_take]; omega
  refine Ev.succ ?_
  simp only [spec_ReadBlock.l1, w1, w2, g1, g2]
  refine Ev.pos (by omega) (Ev.pos (by omega) (Ev.pos (by omega) (Ev.pos (by omega) (Ev.pos (by omega) (Ev.pos (by omega) ?_)))))
  rw [take_add y j (by omega), take_add u j (by omega)]
  exact ih
theorem bytesOf_str (X : List Int) (hX : byteL X) : bytesOf (strOfNums X) = X := by
 unfold bytesOf strOfNums
 simp only [List.map_map]
 conv => rhs; rw [← List.map_id X]
 refine List.map_congr_left fun n hn => ?_
 have := hX n hn
 simp only [Function.comp_apply, id_eq, UInt8.toNat_ofNat']
 omega
theorem numF_byte : ∀ f n, byteL (numF f n)
 | 0, n => by
  intro y hy
  simp only [numF, List.mem_singleton] at hy
  omega
 | f + 1, n => by
  intro y hy
  unfold numF at hy
  split at hy
  ·simp only [List.mem_singleton] at hy
   omega
  ·rcases List.mem_cons.1 hy with h | h
   ·omega
   ·exact numF_byte f _ y h
theorem byteL_app {x y : List Int} (hx : byteL x) (hy : byteL y) : byteL (x ++ y) := fun n hn => (List.mem_append.1 hn).elim (hx n) (hy n)
theorem nums_byte (l : List Int) : byteL (nums l) := by
 intro y hy
 unfold nums at hy
 obtain ⟨n, _, h⟩ := List.mem_flatMap.1 hy
 exact numF_byte 8 _ y h
theorem texts_byte (l : List ByteArray) : byteL (textsB l) := by
 unfold textsB
 split
 ·refine byteL_app (numF_byte 8 _) ?_
  intro y hy
  unfold flatT at hy
  obtain ⟨x, _, h⟩ := List.mem_flatMap.1 hy
  exact byteL_app (numF_byte 8 _) (byteL_of x) y h
 ·intro y hy
  simp at hy
theorem read_zero : Ev (fun k => impl_ReadNumber.f k [0]) ((0, 1) : Int × Int) := by
 have hb : Go.bits .or .i64 0 (shl .i64 (wrap64 (Go.bits .and .u8 0 127)) (wrap64 (7 * 0))) = 0 := by decide +kernel
 have hr : rd [0] 0 = 0 := rfl
 have hw : wrap64 (0 + 1) = 1 := by decide +kernel
 have h7 : (0 : Int) ≤ wrap64 (7 * 0) := by decide +kernel
 refine Ev.succ ?_
 simp only [impl_ReadNumber.f, impl_ReadNumber.l0, hr, hb, hw]
 exact Ev.pos (by simp) (Ev.pos (by omega) (Ev.pos (by simp) (Ev.neg (by omega) (Ev.pos h7 (Ev.pos (by omega) (Ev.neg (by omega) (Ev.neg (by omega) (Ev.now _))))))))
theorem ev_uniq {α : Type} {g : Nat → Option α} {a b : α} (h : Ev g a) (h' : Ev g b) : a = b := by
 obtain ⟨k, hk⟩ := h
 obtain ⟨k', hk'⟩ := h'
 have h1 := hk (max k k') (Nat.le_max_left _ _)
 have h2 := hk' (max k k') (Nat.le_max_right _ _)
 rw [h1] at h2
 exact Option.some.inj h2
/-- What is left behind the texts, where the block is shown as it is read. -/
theorem rest_eq (v p pv pn : Int) (y u : List Int) (ms : List ByteArray) (b : Int) (h : (shown v p pv pn y u ms b).toList = s.toList) (hne : s.toList ≠ []) :
  (bytesOf s).drop ((nums (lst v p pv pn y u)).length + (textsB ms).length) = numB b.toNat := by
 have e : bytesOf (shown v p pv pn y u ms b) = bytesOf s := by
  unfold bytesOf
  rw [show (shown v p pv pn y u ms b).data.toList = s.data.toList by simpa [ByteArray.toList_eq] using h]
 rw [← e]
 unfold shown at h e ⊢
 split
 ·have hb : byteL ((nums (lst v p pv pn y u) ++ textsB ms) ++ numB b.toNat) := byteL_app (byteL_app (nums_byte _) (texts_byte _)) (numF_byte 8 _)
  rw [bytesOf_str _ hb, ← List.length_append, List.drop_left]
 ·rename_i hc
  rw [if_neg hc] at h
  exact absurd (by rw [← h]; simp [ByteArray.toList_eq]) hne
theorem fin_ev (hsz : s.size ≤ 4611686018427387904) (v p pv pn : Int) (y u : List Int) (m : Nat) (hy : y.length = m) (hu : u.length = m) (hm : m ≤ 7) (at_ : Nat) (h0 : 0 < at_) (h1 : at_ ≤ (bytesOf s).length) (ha : at_ = (nums (lm v p pv pn m y u)).length) :
  ∃ r : BR, Ev (fun k => spec_ReadBlock.l0 k s (bytesOf s) (lm v p pv pn m y u) (at_ : Int) ((5 + 2 * m : Nat) : Int)) r ∧ Ev (fun k => impl_ReadBlock.t k s v p pv pn (y, u, (bytesOf s).drop at_, false)) r ∧ smallR s r := by
 have hD := byteL_of s
 have hlD : (bytesOf s).length ≤ 4611686018427387904 := by rw [bytesOf_length]; exact hsz
 have hne : s.toList ≠ [] := by
  intro h
  have : bytesOf s = [] := by
   unfold bytesOf
   rw [show s.data.toList = [] by simpa [ByteArray.toList_eq] using h]
   rfl
  rw [this] at h1
  simp at h1
  omega
 have hlm := lm_len v p pv pn m y u (by omega)
 have hre := rest_eq s v p pv pn y u
 rw [lm_lst v p pv pn m y u hy hu, ← ha] at hre
 generalize bytesOf s = D at *
 have hdl : (D.drop at_).length = D.length - at_ := List.length_drop
 obtain ⟨⟨ms, t⟩, ⟨o2, z2, bd⟩, e1, e2, e3, e4⟩ := rt_ev (D.drop at_) (byteL_drop hD at_) (by omega)
 dsimp only at e3 e4
 have g0 : 0 < (lm v p pv pn m y u).length := by omega
 by_cases c0 : t = 0
 ·obtain ⟨k2, a, k3⟩ : bd = true ∧ ∃ a, z2 = (D.drop at_).drop a := by
   rcases e4 with e4 | e4
   ·exact e4.2
   ·exact absurd c0 (by omega)
  subst k2
  subst k3
  obtain ⟨n, z3, e5, _, b5, l5⟩ := num_bad ((D.drop at_).drop a) (byteL_drop (byteL_drop hD at_) a) (by rw [List.length_drop]; omega)
  refine ⟨NO, Ev.succ ?_, ?_, no_small⟩
  ·simp only [spec_ReadBlock.l0, Int.toNat_natCast]
   exact Ev.neg (by omega) (Ev.pos (by omega) (Ev.pos (by omega) (Ev.bind e1 (Ev.pos c0 (Ev.now _)))))
  ·unfold impl_ReadBlock.t
   exact Ev.bind e2 (Ev.bind e5 (Ev.bind (Ev.const (ended_bad _)) (Ev.neg (c := false = true) (by decide) (Ev.now _))))
 ·obtain ⟨q1, q2, q3, q4, q5⟩ : 0 < t ∧ t ≤ (D.drop at_).length ∧ (o2, z2, bd) = (ms, (D.drop at_).drop t.toNat, false) ∧ textsB ms ≠ [] ∧ t = ((textsB ms).length : Int) := by
   rcases e4 with e4 | e4
   ·exact absurd e4.1 c0
   ·exact e4
  obtain ⟨rfl, rfl, rfl⟩ : o2 = ms ∧ z2 = (D.drop at_).drop t.toNat ∧ bd = false := by simpa using q3
  clear q3 e4
  obtain ⟨tn, rfl⟩ := Int.eq_ofNat_of_zero_le (show 0 ≤ t by omega)
  rw [Int.toNat_natCast, List.drop_drop] at e2
  have hdl2 : (D.drop (at_ + tn)).length = D.length - (at_ + tn) := List.length_drop
  obtain ⟨⟨b, t8⟩, f1, f2, f3⟩ := rnum_ev (D.drop (at_ + tn)) (byteL_drop hD _) (by omega)
  have f4 := num_go false f2 f3
  have f5 := rn_range f3
  dsimp only at f5
  have sp := sl1_ev s v p pv pn y u m hy hu hm o2 b e3 m 0 (by omega)
  have hsp : Ev (fun k => spec_ReadBlock.l0 k s D (lm v p pv pn m y u) (at_ : Int) ((5 + 2 * m : Nat) : Int)) (ans s v p pv pn y u o2 b) := by
   refine Ev.succ ?_
   simp only [spec_ReadBlock.l0, Int.toNat_natCast]
   refine Ev.neg (by omega) (Ev.pos (by omega) (Ev.pos (by omega) (Ev.bind e1 ?_)))
   have w1 : wrap64 ((at_ : Int) + (tn : Int)) = ((at_ + tn : Nat) : Int) := by rw [w64 (by omega) (by omega)]; omega
   simp only [w1, Int.toNat_natCast]
   clear w1
   refine Ev.neg c0 (Ev.pos (by omega) (Ev.pos (by omega) (Ev.bind f1 (Ev.pos (by omega) (Ev.pos (by omega) (Ev.pos (by omega) (Ev.pos (by omega) ?_)))))))
   exact sp
  obtain ⟨_, si⟩ := show_ev v p pv pn y u o2 b (by omega) (by omega) (by omega)
  have hsm : smallR s (ans s v p pv pn y u o2 b) := by
   unfold ans
   by_cases c1 : (shown v p pv pn y u o2 b).toList = s.toList
   ·rw [if_pos c1, if_neg hne]
    exact ⟨⟨by dsimp only; omega, by dsimp only; omega, e3⟩, .inr ⟨rfl, c1⟩⟩
   ·rw [if_neg c1]
    exact no_small
  refine ⟨_, hsp, ?_, hsm⟩
  unfold impl_ReadBlock.t
  rw [Bool.false_or] at f4
  have hr := hre o2 b
  by_cases c8 : t8 = 0
  ·have hno : ans s v p pv pn y u o2 b = NO := by
    unfold ans
    rw [if_neg]
    intro hc
    have hb : b = 0 := by
     rcases f3 with f3 | f3
     ·exact congrArg Prod.fst f3
     ·exact absurd c8 (by dsimp only at f3; omega)
    have hr2 := hr hc hne
    rw [show at_ + (textsB o2).length = at_ + tn by omega, hb] at hr2
    rw [hr2] at f2
    have := ev_uniq f2 read_zero
    have := congrArg Prod.snd this
    dsimp only at this
    omega
   rw [show (t8 == 0) = true by rw [beq_iff_eq]; exact c8] at f4
   rw [hno]
   exact Ev.bind e2 (Ev.bind f4 (Ev.bind (Ev.const (ended_bad _)) (Ev.neg (c := false = true) (by decide) (Ev.now _))))
  ·have hz : (t8 == 0) = false := by rw [beq_eq_false_iff_ne]; exact c8
   rw [hz] at f4
   have hen : ∀ xs : List Int, impl_cursor_ended.f xs false = some (((xs.length : Int) == 0), false) := fun xs => by unfold impl_cursor_ended.f; rw [if_neg (by simp)]
   have hl8 : t8 = ((numB b.toNat).length : Int) := by
    rcases f3 with f3 | f3
    ·exact absurd (congrArg Prod.snd f3) c8
    ·exact f3.2.2.2.2
   by_cases ce : (((D.drop (at_ + tn)).drop t8.toNat).length : Int) = 0
   ·have hq : impl_cursor_ended.f ((D.drop (at_ + tn)).drop t8.toNat) false = some (true, false) := by rw [hen, show ((((D.drop (at_ + tn)).drop t8.toNat).length : Int) == 0) = true by rw [beq_iff_eq]; exact ce]
    refine Ev.bind e2 (Ev.bind f4 (Ev.bind (Ev.const hq) (Ev.pos rfl (Ev.bind si ?_))))
    by_cases c1 : (shown v p pv pn y u o2 b).toList = s.toList
    ·have ea : ans s v p pv pn y u o2 b = (v, p, pv, pn, y, u, o2, b, true) := by unfold ans; rw [if_pos c1, if_neg hne]
     rw [ea]
     exact Ev.pos c1 (Ev.now _)
    ·have ea : ans s v p pv pn y u o2 b = NO := by unfold ans; rw [if_neg c1]
     rw [ea]
     exact Ev.neg c1 (Ev.now _)
   ·have ce0 := ce
    have hno : ans s v p pv pn y u o2 b = NO := by
     unfold ans
     rw [if_neg]
     intro hc
     have hr2 := congrArg List.length (hr hc hne)
     rw [show at_ + (textsB o2).length = at_ + tn by omega] at hr2
     rw [List.length_drop] at ce
     omega
    have hq : impl_cursor_ended.f ((D.drop (at_ + tn)).drop t8.toNat) false = some (false, false) := by rw [hen, show ((((D.drop (at_ + tn)).drop t8.toNat).length : Int) == 0) = false by rw [beq_eq_false_iff_ne]; exact ce0]
    rw [hno]
    exact Ev.bind e2 (Ev.bind f4 (Ev.bind (Ev.const hq) (Ev.neg (c := false = true) (by decide) (Ev.now _))))
/-- One number more, by the reference. -/
theorem sstep (D : List Int) (hl : D.length ≤ 4611686018427387904) (l : List Int) (at_ : Nat) (want : Int) (hw : (l.length : Int) < want) (hln : l.length ≤ 100) (hat : at_ ≤ D.length) (n t : Int) (h1 : Ev (fun k => spec_ReadNumber.f k (D.drop at_)) (n, t)) (r : BR)
  (h : (t = 0 ∧ r = NO) ∨ (0 < t ∧ t ≤ (D.drop at_).length ∧ Ev (fun k => if ((l ++ [n]).length : Int) = 5 then (if n > 7 then some NO else spec_ReadBlock.l0 k s D (l ++ [n]) ((at_ + t.toNat : Nat) : Int) (wrap64 (5 + wrap64 (2 * n)))) else spec_ReadBlock.l0 k s D (l ++ [n]) ((at_ + t.toNat : Nat) : Int) want) r)) :
  Ev (fun k => spec_ReadBlock.l0 k s D l (at_ : Int) want) r := by
 refine Ev.succ ?_
 simp only [spec_ReadBlock.l0, Int.toNat_natCast]
 refine Ev.pos hw (Ev.pos (by omega) (Ev.pos (by omega) (Ev.bind h1 ?_)))
 rcases h with ⟨h2, rfl⟩ | ⟨h2, h3, h4⟩
 ·exact Ev.pos h2 (Ev.now _)
 ·have hdl : (D.drop at_).length = D.length - at_ := List.length_drop
  obtain ⟨tn, rfl⟩ := Int.eq_ofNat_of_zero_le (show 0 ≤ t by omega)
  have w1 : wrap64 ((at_ : Int) + (tn : Int)) = ((at_ + tn : Nat) : Int) := by rw [w64 (by omega) (by omega)]; omega
  rw [Int.toNat_natCast] at h4
  simp only [w1]
  exact Ev.neg (by omega) (Ev.pos (by omega) h4)
theorem loop2 (hsz : s.size ≤ 4611686018427387904) (v p pv pn : Int) (m : Nat) (hm : m ≤ 7) : ∀ (d i : Nat) (y u : List Int) (at_ : Nat), i + d = m → y.length = i → u.length = i → at_ = (nums (lm v p pv pn m y u)).length → 0 < at_ → at_ ≤ (bytesOf s).length →
  ∃ r : BR, Ev (fun k => spec_ReadBlock.l0 k s (bytesOf s) (lm v p pv pn m y u) (at_ : Int) ((5 + 2 * m : Nat) : Int)) r ∧ Ev (fun k => (impl_ReadBlock.l0 k ((bytesOf s).drop at_) false (i : Int) (m : Int) y u).bind fun x => impl_ReadBlock.t k s v p pv pn x) r ∧ smallR s r
 | 0, i, y, u, at_, hi, hy, hu, ha, h0, h1 => by
  obtain ⟨r, e1, e2, e3⟩ := fin_ev s hsz v p pv pn y u m (by omega) (by omega) hm at_ h0 h1 ha
  exact ⟨r, e1, Ev.bind (Ev.succ (by simp only [impl_ReadBlock.l0]; exact Ev.neg (by omega) (Ev.now _))) e2, e3⟩
 | d + 1, i, y, u, at_, hi, hy, hu, ha, h0, h1 => by
  have hD := byteL_of s
  have hlD : (bytesOf s).length ≤ 4611686018427387904 := by rw [bytesOf_length]; exact hsz
  have hlm := lm_len v p pv pn m y u (by omega)
  have hdl : ((bytesOf s).drop at_).length = (bytesOf s).length - at_ := List.length_drop
  have wi : Aside0 (wrap64 ((i : Int) + 1) = ((i + 1 : Nat) : Int)) := ⟨by rw [w64 (by omega) (by omega)]; omega⟩
  obtain ⟨⟨n1, t1⟩, a1, a2, a3⟩ := rnum_ev ((bytesOf s).drop at_) (byteL_drop hD at_) (by omega)
  have a4 := num_go false a2 a3
  have a5 := rn_range a3
  dsimp only at a5
  rw [Bool.false_or] at a4
  have hbad : ∀ (nn1 nn2 : Int) (z1 z2 : List Int) (bd : Bool), byteL z2 → z2.length ≤ 4611686018427387904 → Ev (fun k => impl_cursor_number.f k ((bytesOf s).drop at_) false) (nn1, z1, bd) → Ev (fun k => impl_cursor_number.f k z1 bd) (nn2, z2, true) →
    Ev (fun k => (impl_ReadBlock.l0 k ((bytesOf s).drop at_) false (i : Int) (m : Int) y u).bind fun x => impl_ReadBlock.t k s v p pv pn x) NO := by
   intro nn1 nn2 z1 z2 bd hb2 hl2 g1 g2
   obtain ⟨y', u', zs, j1, j2, j3⟩ := l0_bad m hm d (i + 1) z2 (y ++ [nn1]) (u ++ [nn2]) (by omega) (by simp; omega) (by simp; omega) hb2 hl2
   refine Ev.bind (a := (y', u', zs, true)) (Ev.succ ?_) (end_bad s v p pv pn y' u' zs j2 j3)
   simp only [impl_ReadBlock.l0]
   refine Ev.pos (by omega) (Ev.bind g1 (Ev.bind g2 (Ev.pos (by omega) ?_)))
   rw [wi.out]
   exact j1
  by_cases c1 : t1 = 0
  ·rw [show (t1 == 0) = true by rw [beq_iff_eq]; exact c1] at a4
   obtain ⟨n2, z2, b1, _, b3, b4⟩ := num_bad (((bytesOf s).drop at_).drop t1.toNat) (byteL_drop (byteL_drop hD at_) _) (by rw [List.length_drop]; omega)
   exact ⟨NO, sstep s _ hlD _ at_ _ (by omega) (by omega) h1 n1 t1 a1 _ (Or.inl ⟨c1, rfl⟩), hbad _ _ _ _ _ b3 b4 a4 b1, no_small⟩
  ·have r1 : n1 ≤ 1099511627776 ∧ t1 = ((numB n1.toNat).length : Int) := by
    rcases a3 with a3 | a3
    ·exact absurd (congrArg Prod.snd a3) c1
    ·exact ⟨a3.2.2.2.1, a3.2.2.2.2⟩
   rw [show (t1 == 0) = false by rw [beq_eq_false_iff_ne]; exact c1] at a4
   obtain ⟨tn, rfl⟩ := Int.eq_ofNat_of_zero_le a5.1
   rw [Int.toNat_natCast, List.drop_drop] at a4
   have hdl2 : ((bytesOf s).drop (at_ + tn)).length = (bytesOf s).length - (at_ + tn) := List.length_drop
   obtain ⟨⟨n2, t2⟩, b1, b2, b3⟩ := rnum_ev ((bytesOf s).drop (at_ + tn)) (byteL_drop hD _) (by omega)
   have b4 := num_go false b2 b3
   have b5 := rn_range b3
   dsimp only at b5
   rw [Bool.false_or] at b4
   have hl1 : (lm v p pv pn m y u ++ [n1]).length = 5 + 2 * i + 1 := by rw [List.length_append, hlm]; simp; omega
   by_cases c2 : t2 = 0
   ·rw [show (t2 == 0) = true by rw [beq_iff_eq]; exact c2] at b4
    refine ⟨NO, sstep s _ hlD _ at_ _ (by omega) (by omega) h1 n1 _ a1 _ (Or.inr ⟨by omega, by omega, Ev.neg (by omega) ?_⟩), hbad _ _ _ _ _ (byteL_drop (byteL_drop hD _) _) (by rw [List.length_drop]; omega) a4 b4, no_small⟩
    rw [Int.toNat_natCast]
    exact sstep s _ hlD _ (at_ + tn) _ (by omega) (by omega) (by omega) n2 t2 b1 _ (Or.inl ⟨c2, rfl⟩)
   ·have r2 : n2 ≤ 1099511627776 ∧ t2 = ((numB n2.toNat).length : Int) := by
     rcases b3 with b3 | b3
     ·exact absurd (congrArg Prod.snd b3) c2
     ·exact ⟨b3.2.2.2.1, b3.2.2.2.2⟩
    rw [show (t2 == 0) = false by rw [beq_eq_false_iff_ne]; exact c2] at b4
    obtain ⟨tm, rfl⟩ := Int.eq_ofNat_of_zero_le b5.1
    rw [Int.toNat_natCast, List.drop_drop] at b4
    have hlm2 : lm v p pv pn m (y ++ [n1]) (u ++ [n2]) = lm v p pv pn m y u ++ [n1] ++ [n2] := by
     unfold lm
     rw [il_app y u n1 n2 (by omega)]
     simp
    have hnum : (nums (lm v p pv pn m y u ++ [n1] ++ [n2])).length = at_ + tn + tm := by
     unfold nums at ha ⊢
     rw [List.flatMap_append, List.flatMap_append, List.length_append, List.length_append, ← ha]
     simp only [List.flatMap_cons, List.flatMap_nil, List.append_nil]
     omega
    obtain ⟨r, j1, j2, j3⟩ := loop2 hsz v p pv pn m hm d (i + 1) (y ++ [n1]) (u ++ [n2]) (at_ + tn + tm) (by omega) (by simp; omega) (by simp; omega) (by rw [hlm2, hnum]) (by omega) (by omega)
    rw [hlm2] at j1
    refine ⟨r, sstep s _ hlD _ at_ _ (by omega) (by omega) h1 n1 _ a1 _ (Or.inr ⟨by omega, by omega, Ev.neg (by omega) ?_⟩), ?_, j3⟩
    ·rw [Int.toNat_natCast]
     refine sstep s _ hlD _ (at_ + tn) _ (by omega) (by omega) (by omega) n2 _ b1 _ (Or.inr ⟨by omega, by omega, Ev.neg (by rw [List.length_append, hl1]; simp; omega) ?_⟩)
     rw [Int.toNat_natCast]
     exact j1
    ·obtain ⟨x, jx, jy⟩ : ∃ x, Ev (fun k => impl_ReadBlock.l0 k ((bytesOf s).drop (at_ + tn + tm)) false ((i + 1 : Nat) : Int) (m : Int) (y ++ [n1]) (u ++ [n2])) x ∧ Ev (fun k => impl_ReadBlock.t k s v p pv pn x) r := ev_split j2 (fun k => impl_ReadBlock.mono_l k _ _ _ _ _ _)
     refine Ev.bind (a := x) (Ev.succ ?_) jy
     simp only [impl_ReadBlock.l0]
     refine Ev.pos (by omega) (Ev.bind a4 (Ev.bind b4 (Ev.pos (by omega) ?_)))
     rw [wi.out]
     exact jx
/-- The program's first five numbers. -/
def HD : Nat → List Int → List Int → Bool → Nat → Option BR
 | 0, l, xs, bad, k => if rd l 4 > 7 then some NO else (impl_ReadBlock.l0 k xs bad 0 (rd l 4) [] []).bind fun x => impl_ReadBlock.t k s (rd l 0) (rd l 1) (rd l 2) (rd l 3) x
 | c + 1, l, xs, bad, k => (impl_cursor_number.f k xs bad).bind fun a => HD c (l ++ [a.1]) a.2.1 a.2.2 k
theorem HD_bad : ∀ (c : Nat) (l xs : List Int), l.length + c = 5 → (∀ n, n ∈ l → 0 ≤ n) → byteL xs → xs.length ≤ 4611686018427387904 → Ev (fun k => HD s c l xs true k) NO
 | 0, l, xs, hc, hn, hb, hl => by
  have h4 : rd l 4 = l[4]'(by omega) := rdI (l := l) (i := 4) (by omega)
  have h5 := hn _ (List.getElem_mem (l := l) (n := 4) (by omega))
  show Ev (fun k => if rd l 4 > 7 then some NO else (impl_ReadBlock.l0 k xs true 0 (rd l 4) [] []).bind fun x => impl_ReadBlock.t k s (rd l 0) (rd l 1) (rd l 2) (rd l 3) x) NO
  rw [h4]
  generalize l[4]'(by omega) = n at h5
  by_cases c7 : n > 7
  ·exact Ev.pos c7 (Ev.now _)
  ·obtain ⟨m, rfl⟩ := Int.eq_ofNat_of_zero_le h5
   obtain ⟨y', u', zs, j1, j2, j3⟩ := l0_bad m (by omega) m 0 xs [] [] (by omega) (by simp) (by simp) hb hl
   exact Ev.neg c7 (Ev.bind j1 (end_bad s _ _ _ _ _ _ _ j2 j3))
 | c + 1, l, xs, hc, hn, hb, hl => by
  obtain ⟨n, zs, e1, e2, e3, e4⟩ := num_bad xs hb hl
  show Ev (fun k => (impl_cursor_number.f k xs true).bind fun a => HD s c (l ++ [a.1]) a.2.1 a.2.2 k) NO
  refine Ev.bind e1 (HD_bad c (l ++ [n]) zs (by simp; omega) ?_ e3 e4)
  intro x hx
  rcases List.mem_append.1 hx with h | h
  ·exact hn x h
  ·simp only [List.mem_singleton] at h
   omega
theorem head_ev (hsz : s.size ≤ 4611686018427387904) : ∀ (c : Nat) (l : List Int) (at_ : Nat), l.length + (c + 1) = 5 → (∀ n, n ∈ l → 0 ≤ n) → at_ = (nums l).length → at_ ≤ (bytesOf s).length →
  ∃ r : BR, Ev (fun k => spec_ReadBlock.l0 k s (bytesOf s) l (at_ : Int) 5) r ∧ Ev (fun k => HD s (c + 1) l ((bytesOf s).drop at_) false k) r ∧ smallR s r := by
 intro c
 induction c with
 | zero => ?_
 | succ c ih => ?_
 all_goals
  intro l at_ hc hn ha h1
  have hD := byteL_of s
  have hlD : (bytesOf s).length ≤ 4611686018427387904 := by rw [bytesOf_length]; exact hsz
  have hdl : ((bytesOf s).drop at_).length = (bytesOf s).length - at_ := List.length_drop
  obtain ⟨⟨n1, t1⟩, a1, a2, a3⟩ := rnum_ev ((bytesOf s).drop at_) (byteL_drop hD at_) (by omega)
  have a4 := num_go false a2 a3
  have a5 := rn_range a3
  dsimp only at a5
  rw [Bool.false_or] at a4
  have hn2 : ∀ n, n ∈ l ++ [n1] → 0 ≤ n := by
   intro x hx
   rcases List.mem_append.1 hx with h | h
   ·exact hn x h
   ·simp only [List.mem_singleton] at h
    omega
  have hl1 : (l ++ [n1]).length = l.length + 1 := by simp
  by_cases c1 : t1 = 0
  ·rw [show (t1 == 0) = true by rw [beq_iff_eq]; exact c1] at a4
   exact ⟨NO, sstep s _ hlD _ at_ _ (by omega) (by omega) h1 n1 t1 a1 _ (Or.inl ⟨c1, rfl⟩), Ev.bind a4 (HD_bad s _ (l ++ [n1]) _ (by first | omega | (show (l ++ [n1]).length + 0 = 5; omega)) hn2 (byteL_drop (byteL_drop hD _) _) (by rw [List.length_drop]; omega)), no_small⟩
  have r1 : n1 ≤ 1099511627776 ∧ t1 = ((numB n1.toNat).length : Int) := by
   rcases a3 with a3 | a3
   ·exact absurd (congrArg Prod.snd a3) c1
   ·exact ⟨a3.2.2.2.1, a3.2.2.2.2⟩
  rw [show (t1 == 0) = false by rw [beq_eq_false_iff_ne]; exact c1] at a4
  obtain ⟨tn, rfl⟩ := Int.eq_ofNat_of_zero_le a5.1
  rw [Int.toNat_natCast, List.drop_drop] at a4
  have hnum : (nums (l ++ [n1])).length = at_ + tn := by
   unfold nums at ha ⊢
   rw [List.flatMap_append, List.length_append, ← ha]
   simp only [List.flatMap_cons, List.flatMap_nil, List.append_nil]
   omega
 ·-- the fifth
  obtain ⟨v, p, pv, pn, rfl⟩ : ∃ v p pv pn, l = [v, p, pv, pn] := by
   match l, hc with
   | [v, p, pv, pn], _ => exact ⟨v, p, pv, pn, rfl⟩
  have r4 : rd ([v, p, pv, pn] ++ [n1]) 4 = n1 := rfl
  by_cases c7 : n1 > 7
  ·refine ⟨NO, sstep s _ hlD _ at_ _ (by omega) (by omega) h1 n1 _ a1 _ (Or.inr ⟨by omega, by omega, Ev.pos (by omega) (Ev.pos c7 (Ev.now _))⟩), Ev.bind a4 ?_, no_small⟩
   exact Ev.pos c7 (Ev.now _)
  ·obtain ⟨m, rfl⟩ := Int.eq_ofNat_of_zero_le a5.2.2
   obtain ⟨r, j1, j2, j3⟩ := loop2 s hsz v p pv pn m (by omega) m 0 [] [] (at_ + tn) (by omega) rfl rfl (by rw [← hnum]; rfl) (by omega) (by omega)
   have w1 : Aside0 (wrap64 (5 + wrap64 (2 * (m : Int))) = ((5 + 2 * m : Nat) : Int)) := ⟨by rw [w64 (x := 2 * (m : Int)) (by omega) (by omega), w64 (by omega) (by omega)]; omega⟩
   refine ⟨r, sstep s _ hlD _ at_ _ (by omega) (by omega) h1 _ _ a1 _ (Or.inr ⟨by omega, by omega, Ev.pos (by omega) (Ev.neg c7 ?_)⟩), Ev.bind a4 (Ev.neg c7 j2), j3⟩
   rw [Int.toNat_natCast, w1.out]
   exact j1
 ·obtain ⟨r, j1, j2, j3⟩ := ih (l ++ [n1]) (at_ + tn) (by omega) hn2 hnum.symm (by omega)
  refine ⟨r, sstep s _ hlD _ at_ _ (by omega) (by omega) h1 n1 _ a1 _ (Or.inr ⟨by omega, by omega, Ev.neg (by omega) ?_⟩), Ev.bind a4 j2, j3⟩
  rw [Int.toNat_natCast]
  exact j1
theorem rdblk_ev (hsz : s.size ≤ 4611686018427387904) : ∃ r : BR, Ev (fun k => spec_ReadBlock.f k s) r ∧ Ev (fun k => impl_ReadBlock.f k s) r ∧ smallR s r := by
 obtain ⟨r, e1, e2, e3⟩ := head_ev s hsz 4 [] 0 rfl (by simp) rfl (by omega)
 unfold spec_ReadBlock.f impl_ReadBlock.f
 exact ⟨r, Ev.pos (by omega) e1, Ev.pos (by omega) e2, e3⟩
end
theorem size_data (s : ByteArray) : s.data.toList.length = s.size := by simp only [ByteArray.size, Array.length_toList]
def dstep (h : Int) (b : UInt8) : Int := Int.tmod (h * 1000003 + (b.toNat : Int) + 1) 2147483647
def dg (s : ByteArray) : Int := s.data.toList.foldl dstep 1
theorem dstep_in {h : Int} {b : UInt8} (h0 : 0 ≤ h) : 0 ≤ dstep h b ∧ dstep h b < 2147483647 := by
 unfold dstep
 have hb : (0 : Int) ≤ (b.toNat : Int) := by omega
 generalize (b.toNat : Int) = v at *
 rw [Int.tmod_eq_emod_of_nonneg (by omega)]
 omega
theorem bt_data {s : ByteArray} {i : Nat} {b : UInt8} (h : s.data.toList[i]? = some b) : bt s (i : Int) = (b.toNat : Int) := by
 obtain ⟨hi, rfl⟩ := List.getElem?_eq_some_iff.1 h
 have hs : i < s.size := by rw [← size_data]; exact hi
 unfold bt
 rw [dif_pos (by simpa using hs)]
 simp [ByteArray.getElem_eq_getElem_data]
theorem dwrap {h v : Int} (h0 : 0 ≤ h) (h1 : h < 2147483647) (v0 : 0 ≤ v) (v1 : v ≤ 255) : wrap64 ((wrap64 ((wrap64 (h * 1000003)) + (wrap64 v))) + 1) = h * 1000003 + v + 1 := by
 rw [w64 (x := h * 1000003) (by omega) (by omega), w64 (x := v) (by omega) (by omega), w64 (x := h * 1000003 + v) (by omega) (by omega), w64 (by omega) (by omega)]
theorem sdig_l0 (s : ByteArray) (hs : s.size < 9223372036854775807) : ∀ (d i : Nat) (h : Int), i + d = s.size → 0 ≤ h → h < 2147483647 → Ev (fun k => spec_Digest.l0 k s h i) ((s.data.toList.drop i).foldl dstep h)
 | 0, i, h, hi, _, _ => by
  refine Ev.succ ?_
  simp only [spec_Digest.l0]
  refine Ev.neg (by omega) ?_
  rw [List.drop_of_length_le (by rw [size_data]; omega)]
  exact Ev.now _
 | d + 1, i, h, hi, h0, h1 => by
  obtain ⟨b, hb⟩ := get_some (l := s.data.toList) (i := i) (by rw [size_data]; omega)
  have hr := bt_range s i
  refine Ev.succ ?_
  simp only [spec_Digest.l0]
  refine Ev.pos (by omega) (Ev.pos (by omega) ?_)
  rw [dwrap h0 h1 hr.1 hr.2, bt_data hb, w64 (x := (i : Int) + 1) (by omega) (by omega), cast_succ]
  have := sdig_l0 s hs d (i + 1) (dstep h b) (by omega) (dstep_in h0).1 (dstep_in h0).2
  obtain ⟨hi', rfl⟩ := List.getElem?_eq_some_iff.1 hb
  rw [List.drop_eq_getElem_cons hi']
  exact this
theorem idig_l0 (s : ByteArray) (hs : s.size < 9223372036854775807) : ∀ (d i : Nat) (h : Int), i + d = s.size → 0 ≤ h → h < 2147483647 → Ev (fun k => impl_Digest.l0 k s h (s.size : Int) i) ((s.data.toList.drop i).foldl dstep h)
 | 0, i, h, hi, _, _ => by
  refine Ev.succ ?_
  simp only [impl_Digest.l0]
  refine Ev.neg (by omega) ?_
  rw [List.drop_of_length_le (by rw [size_data]; omega)]
  exact Ev.now _
 | d + 1, i, h, hi, h0, h1 => by
  obtain ⟨b, hb⟩ := get_some (l := s.data.toList) (i := i) (by rw [size_data]; omega)
  have hr := bt_range s i
  refine Ev.succ ?_
  simp only [impl_Digest.l0]
  refine Ev.pos (by omega) (Ev.pos (by omega) (Ev.pos (by omega) ?_))
  rw [dwrap h0 h1 hr.1 hr.2, bt_data hb, w64 (x := (i : Int) + 1) (by omega) (by omega), cast_succ]
  have := idig_l0 s hs d (i + 1) (dstep h b) (by omega) (dstep_in h0).1 (dstep_in h0).2
  obtain ⟨hi', rfl⟩ := List.getElem?_eq_some_iff.1 hb
  rw [List.drop_eq_getElem_cons hi']
  exact this
theorem sdig_ev (s : ByteArray) (hs : s.size < 9223372036854775807) : Ev (fun k => spec_Digest.f k s) (dg s) := sdig_l0 s hs s.size 0 1 (by omega) (by decide) (by decide)
theorem idig_ev (s : ByteArray) (hs : s.size < 9223372036854775807) : Ev (fun k => impl_Digest.f k s) (dg s) := idig_l0 s hs s.size 0 1 (by omega) (by decide) (by decide)
theorem name_ev (v p pv pn : Int) (bys ts : List Int) (ms : List ByteArray) (by_ : Int) (h4 : bys.length ≤ 4611686018427387904) (h5 : ts.length ≤ 4611686018427387904) (h6 : ms.length ≤ 4611686018427387904) :
  ∃ r, Ev (fun k => spec_Name.f k v p pv pn bys ts ms by_) r ∧ Ev (fun k => impl_Name.f k v p pv pn bys ts ms by_) r := by
 obtain ⟨e1, e2⟩ := show_ev v p pv pn bys ts ms by_ h4 h5 h6
 have hs := shown_size v p pv pn bys ts ms by_
 have d1 := sdig_ev (shown v p pv pn bys ts ms by_) (by omega)
 have d2 := idig_ev (shown v p pv pn bys ts ms by_) (by omega)
 unfold spec_Name.f impl_Name.f spec_l15NameOf.f
 by_cases c : (shown v p pv pn bys ts ms by_).toList = ([] : List UInt8)
 ·exact ⟨-1, Ev.bind e1 (Ev.pos c (Ev.now _)), Ev.bind e2 (Ev.pos c (Ev.now _))⟩
 ·have m : spec_l1Max.f 1 (dg (shown v p pv pn bys ts ms by_)) = some (mx (dg (shown v p pv pn bys ts ms by_)) 1) := by
   unfold spec_l1Max.f mx
   repeat' split
   all_goals first | rfl | (congr 1; omega)
  refine ⟨_, Ev.bind e1 (Ev.neg c (Ev.bind (Ev.bind e1 (Ev.bind d1 (Ev.bind (Ev.const m) (Ev.now _)))) (Ev.now _))), Ev.bind e2 (Ev.neg c (Ev.bind d2 (Ev.now _)))⟩
theorem bound_i64 {x : Int} (h : okInt .i64 x) : -9223372036854775808 ≤ x ∧ x ≤ 9223372036854775807 := by
 have h : (Lit.int .i64 x).wf = true := h
 simp [Lit.wf, IntKind.min, IntKind.max, IntKind.bits, IntKind.signed] at h
 omega
def bs (l : List UInt8) : ByteArray := ⟨l.toArray⟩
theorem bs_data (l : List UInt8) : (bs l).data.toList = l := by simp [bs]
theorem bs_of (s : ByteArray) : bs s.data.toList = s := by cases s; simp [bs]
theorem bs_app (a b : List UInt8) : bs a ++ bs b = bs (a ++ b) := by
 apply bytes_inj
 simp [bs, ByteArray.toList_eq, ByteArray.data_append]
theorem bs_size (l : List UInt8) : (bs l).size = l.length := by simp [bs, ByteArray.size]
theorem tm_nat (m : Nat) : Int.tmod (m : Int) 10 = ((m % 10 : Nat) : Int) := rfl
theorem td_nat (m : Nat) : Int.tdiv (m : Int) 10 = ((m / 10 : Nat) : Int) := rfl
theorem dig_bytes (m : Nat) (v : Int) (s : ByteArray) (h : v = 48 + ((m % 10 : Nat) : Int)) : strOfNums [v % 256] ++ s = bs (UInt8.ofNat (48 + m % 10) :: s.data.toList) := by
 have e : (v % 256).toNat = 48 + m % 10 := by omega
 have e2 : strOfNums [v % 256] = bs [UInt8.ofNat (48 + m % 10)] := by simp [strOfNums, bs, e]
 rw [e2]
 conv => lhs; rhs; rw [← bs_of s]
 rw [bs_app]; rfl
theorem j1_step (n : Int) (s : ByteArray) (neg : Bool) (r : ByteArray) (h0 : -9223372036854775808 ≤ n) (h1 : n ≤ 9223372036854775807) (hs : s.size ≤ 1000)
  (h : Ev (fun k => spec_l2Int.l0 k (Int.tdiv n 10) (bs (UInt8.ofNat (48 + n.natAbs % 10) :: s.data.toList)) neg) r) : Ev (fun k => spec_l2Int.j1 k n s neg true) r := by
 refine Ev.succ ?_
 simp only [spec_l2Int.j1, Option.bind_some]
 refine Ev.pos (by trivial) ?_
 have sz : ∀ v : Int, (strOfNums [v]).size = 1 := fun v => by simp [strOfNums, ByteArray.size]
 simp only [sz]
 obtain ⟨m, hm | hm⟩ := Int.eq_nat_or_neg n
 ·subst hm
  rw [tm_nat, td_nat] at *
  rw [Int.natAbs_natCast] at h
  refine Ev.neg (by omega) (Ev.pos (by omega) ?_)
  rw [w64 (by omega) (by omega), w64 (by omega) (by omega), dig_bytes m _ s rfl]
  exact h
 ·subst hm
  rw [Int.neg_tmod, Int.neg_tdiv, tm_nat, td_nat] at *
  rw [Int.natAbs_neg, Int.natAbs_natCast] at h
  by_cases hz : m % 10 = 0
  ·refine Ev.neg (by omega) (Ev.pos (by omega) ?_)
   rw [w64 (x := -((m / 10 : Nat) : Int)) (by omega) (by omega), w64 (by omega) (by omega), dig_bytes m _ s (by omega)]
   exact h
  ·refine Ev.pos (by omega) (Ev.pos (by omega) ?_)
   rw [w64 (x := -((m / 10 : Nat) : Int)) (by omega) (by omega), w64 (x := -(-((m % 10 : Nat) : Int))) (by omega) (by omega), w64 (by omega) (by omega), dig_bytes m _ s (by omega)]
   exact h
def fin (neg : Bool) (s : ByteArray) : ByteArray := if neg = true then (⟨#[45]⟩ : ByteArray) ++ s else s
theorem l0_end (s : ByteArray) (neg : Bool) (h : s.toList ≠ []) (hs : s.size ≤ 1002) : Ev (fun k => spec_l2Int.l0 k 0 s neg) (fin neg s) := by
 refine Ev.succ ?_
 simp only [spec_l2Int.l0]
 refine Ev.neg h (Ev.succ ?_)
 simp only [spec_l2Int.j1, fin]
 refine Ev.neg (by simp) ?_
 cases neg with
 | true => exact Ev.pos rfl (Ev.pos (by omega) (Ev.now _))
 | false => exact Ev.neg (by decide) (Ev.now _)
theorem int_l0 : ∀ (d : Nat) (n : Int) (s : ByteArray) (neg : Bool), n.natAbs < 10 ^ (d + 1) → -9223372036854775808 ≤ n → n ≤ 9223372036854775807 → (s.toList = [] ∨ n ≠ 0) → s.size + d ≤ 1000 → Ev (fun k => spec_l2Int.l0 k n s neg) (fin neg (bs (Lib.decDigits n.natAbs ++ s.data.toList))) := by
 intro d
 induction d with
 | zero =>
  intro n s neg hd h0 h1 hn hs
  have hd' : n.natAbs < 10 := by simpa using hd
  have go : Ev (fun k => spec_l2Int.j1 k n s neg true) (fin neg (bs (Lib.decDigits n.natAbs ++ s.data.toList))) := by
   refine j1_step n s neg _ h0 h1 (by omega) ?_
   have e : Int.tdiv n 10 = 0 := by
    obtain ⟨m, hm | hm⟩ := Int.eq_nat_or_neg n
    ·subst hm; rw [td_nat]; rw [Int.natAbs_natCast] at hd'; omega
    ·subst hm; rw [Int.neg_tdiv, td_nat]; rw [Int.natAbs_neg, Int.natAbs_natCast] at hd'; omega
   rw [e, Lib.decDigits, dif_pos hd', Nat.mod_eq_of_lt hd']
   exact l0_end _ neg (by simp [bs, ByteArray.toList_eq]) (by rw [bs_size]; simp only [List.length_cons, size_data]; omega)
  refine Ev.succ ?_
  simp only [spec_l2Int.l0]
  by_cases he : s.toList = []
  ·exact Ev.pos he go
  ·have hb : (n != 0) = true := by simpa using hn.resolve_left he
   rw [hb]
   exact Ev.neg he go
 | succ d ih =>
  intro n s neg hd h0 h1 hn hs
  have go : Ev (fun k => spec_l2Int.j1 k n s neg true) (fin neg (bs (Lib.decDigits n.natAbs ++ s.data.toList))) := by
   refine j1_step n s neg _ h0 h1 (by omega) ?_
   have e : (Int.tdiv n 10).natAbs = n.natAbs / 10 ∧ -9223372036854775808 ≤ Int.tdiv n 10 ∧ Int.tdiv n 10 ≤ 9223372036854775807 := by
    obtain ⟨m, hm | hm⟩ := Int.eq_nat_or_neg n
    ·subst hm; rw [td_nat, Int.natAbs_natCast, Int.natAbs_natCast]; omega
    ·subst hm; rw [Int.neg_tdiv, td_nat, Int.natAbs_neg, Int.natAbs_natCast, Int.natAbs_neg, Int.natAbs_natCast]; omega
   by_cases hlt : n.natAbs < 10
   ·have e0 : Int.tdiv n 10 = 0 := by have := e.1; omega
    rw [e0, Lib.decDigits, dif_pos hlt, Nat.mod_eq_of_lt hlt]
    exact l0_end _ neg (by simp [bs, ByteArray.toList_eq]) (by rw [bs_size]; simp only [List.length_cons, size_data]; omega)
   ·have := ih (Int.tdiv n 10) (bs (UInt8.ofNat (48 + n.natAbs % 10) :: s.data.toList)) neg (by rw [e.1]; rw [Nat.pow_succ] at hd; omega) e.2.1 e.2.2 (Or.inr (by have := e.1; omega)) (by rw [bs_size]; simp only [List.length_cons, size_data]; omega)
    rw [e.1, bs_data] at this
    rw [Lib.decDigits, dif_neg hlt, List.append_assoc]
    exact this
  refine Ev.succ ?_
  simp only [spec_l2Int.l0]
  by_cases he : s.toList = []
  ·exact Ev.pos he go
  ·have hb : (n != 0) = true := by simpa using hn.resolve_left he
   rw [hb]
   exact Ev.neg he go
theorem int_ev (n : Int) (h0 : -9223372036854775808 ≤ n) (h1 : n ≤ 9223372036854775807) : Ev (fun k => spec_l2Int.f k n) (bs (Lib.itoa n)) := by
 unfold spec_l2Int.f
 have := int_l0 20 n ⟨#[]⟩ (decide (n < 0)) (by omega) h0 h1 (Or.inl (by simp [ByteArray.toList_eq])) (by simp [ByteArray.size])
 refine cast (congrArg _ ?_) this
 unfold fin Lib.itoa
 by_cases h : n < 0
 ·rw [if_pos (by simpa using h), if_pos h, show (⟨#[45]⟩ : ByteArray) = bs [45] from rfl, bs_app]
  simp
 ·rw [if_neg (by simpa using h), if_neg h, show n.natAbs = n.toNat by omega]
  simp
theorem dec_some (n : Int) (h0 : -9223372036854775808 ≤ n) (h1 : n ≤ 9223372036854775807) : impl_decimal.f n = some (bs (Lib.itoa n)) := by
 unfold impl_decimal.f strconv_FormatInt.f
 rw [if_pos ⟨h0, h1, rfl⟩]
 rfl
theorem dig_len : ∀ (d m : Nat), m < 10 ^ (d + 1) → (Lib.decDigits m).length ≤ d + 1 := by
 intro d
 induction d with
 | zero => intro m h; rw [Lib.decDigits, dif_pos (by simpa using h)]; simp
 | succ d ih =>
  intro m h
  rw [Lib.decDigits]
  by_cases hm : m < 10
  ·rw [dif_pos hm]; simp
  ·rw [dif_neg hm, List.length_append]
   have := ih (m / 10) (by rw [Nat.pow_succ] at h; omega)
   simp; omega
theorem itoa_len (n : Int) (h0 : -9223372036854775808 ≤ n) (h1 : n ≤ 9223372036854775807) : (bs (Lib.itoa n)).size ≤ 22 := by
 rw [bs_size]
 unfold Lib.itoa
 split
 ·have := dig_len 20 n.natAbs (by omega)
  simp; omega
 ·have := dig_len 20 n.toNat (by omega)
  omega
theorem dfold_in : ∀ (l : List UInt8) (h : Int), 0 ≤ h → h < 2147483647 → 0 ≤ l.foldl dstep h ∧ l.foldl dstep h < 2147483647
 | [], h, h0, h1 => ⟨h0, h1⟩
 | b :: l, h, h0, h1 => dfold_in l _ (dstep_in h0).1 (dstep_in h0).2
theorem dg_in (s : ByteArray) : 0 ≤ dg s ∧ dg s < 2147483647 := dfold_in _ 1 (by decide) (by decide)
def ballot (v n : Int) : ByteArray := (((⟨#[118, 111, 116, 101, 32]⟩ : ByteArray) ++ bs (Lib.itoa v)) ++ (⟨#[32]⟩ : ByteArray)) ++ bs (Lib.itoa n)
def tagText (b : Int) (t : ByteArray) : ByteArray := (((⟨#[115, 101, 99, 114, 101, 116]⟩ : ByteArray) ++ bs (Lib.itoa b)) ++ (⟨#[47]⟩ : ByteArray)) ++ t
theorem l1 : (⟨#[118, 111, 116, 101, 32]⟩ : ByteArray).size = 5 := rfl
theorem l2 : (⟨#[32]⟩ : ByteArray).size = 1 := rfl
theorem l3 : (⟨#[115, 101, 99, 114, 101, 116]⟩ : ByteArray).size = 6 := rfl
theorem l4 : (⟨#[47]⟩ : ByteArray).size = 1 := rfl
abbrev i64 (x : Int) : Prop := -9223372036854775808 ≤ x ∧ x ≤ 9223372036854775807
theorem ballot_len (v n : Int) (hv : i64 v) (hn : i64 n) : (ballot v n).size ≤ 50 := by
 unfold ballot
 have z1 := itoa_len v hv.1 hv.2
 have z2 := itoa_len n hn.1 hn.2
 simp only [ByteArray.size_append, l1, l2]; omega
theorem sballot (v n : Int) (hv : i64 v) (hn : i64 n) : Ev (fun k => spec_l15Ballot.f k v n) (ballot v n) := by
 unfold spec_l15Ballot.f ballot
 have z1 := itoa_len v hv.1 hv.2
 have z2 := itoa_len n hn.1 hn.2
 exact Ev.bind (int_ev v hv.1 hv.2) (Ev.pos (by omega) (Ev.pos (by simp only [ByteArray.size_append, l1, l2, l3, l4]; omega) (Ev.bind (int_ev n hn.1 hn.2) (Ev.pos (by simp only [ByteArray.size_append, l1, l2, l3, l4]; omega) (Ev.now _)))))
theorem iballot (v n : Int) (hv : i64 v) (hn : i64 n) : impl_ballot.f v n = some (ballot v n) := by
 unfold impl_ballot.f ballot
 have z1 := itoa_len v hv.1 hv.2
 have z2 := itoa_len n hn.1 hn.2
 simp only [dec_some v hv.1 hv.2, dec_some n hn.1 hn.2, Option.bind_some]
 rw [if_pos (by omega), if_pos (by simp only [ByteArray.size_append, l1, l2, l3, l4]; omega), if_pos (by simp only [ByteArray.size_append, l1, l2, l3, l4]; omega)]
theorem stag (b : Int) (t : ByteArray) (hb : i64 b) (ht : t.size ≤ 1000) : Ev (fun k => spec_l2Tag.f k b t) (dg (tagText b t)) := by
 unfold spec_l2Tag.f tagText
 have z1 := itoa_len b hb.1 hb.2
 exact Ev.bind (int_ev b hb.1 hb.2) (Ev.pos (by omega) (Ev.pos (by simp only [ByteArray.size_append, l1, l2, l3, l4]; omega) (Ev.pos (by simp only [ByteArray.size_append, l1, l2, l3, l4]; omega) (Ev.bind (sdig_ev _ (by simp only [ByteArray.size_append, l1, l2, l3, l4]; omega)) (Ev.now _)))))
theorem itag (b : Int) (t : ByteArray) (h0 : 0 ≤ b) (h1 : b ≤ 6) (ht : t.size ≤ 1000) : Ev (fun k => impl_Tag.f k b t) (dg (tagText b t)) := by
 unfold impl_Tag.f tagText
 have z1 := itoa_len b (by omega) (by omega)
 have e : impl_isServer.f b = some true := by unfold impl_isServer.f impl_within.f; rw [if_pos (by omega)]; simp; omega
 refine Ev.bind (Ev.const e) (Ev.pos rfl (Ev.bind (Ev.const (dec_some b (by omega) (by omega))) (Ev.pos (by omega) (Ev.pos (by simp only [ByteArray.size_append, l1, l2, l3, l4]; omega) (Ev.pos (by simp only [ByteArray.size_append, l1, l2, l3, l4]; omega) (Ev.bind (idig_ev _ (by simp only [ByteArray.size_append, l1, l2, l3, l4]; omega)) (Ev.now _)))))))
theorem quorum_eq (n : Int) : impl_Quorum.f n = some (if n = 1 then 1 else if n = 4 then 3 else if n = 7 then 5 else -1) := by
 unfold impl_Quorum.f
 by_cases h1 : n = 1
 ·subst h1; decide +kernel
 ·by_cases h4 : n = 4
  ·subst h4; decide +kernel
  ·by_cases h7 : n = 7
   ·subst h7; decide +kernel
   ·rw [if_neg h1, if_neg h4, if_neg h7, if_neg h1, if_neg h4, if_neg h7]
theorem servers_eq (n : Int) : spec_l15Servers.f n = some (decide (n = 1 ∨ n = 4 ∨ n = 7)) := by
 unfold spec_l15Servers.f
 by_cases h1 : n = 1
 ·subst h1; decide +kernel
 ·by_cases h4 : n = 4
  ·subst h4; decide +kernel
  ·by_cases h7 : n = 7
   ·subst h7; decide +kernel
   ·rw [if_neg h1, if_neg h4]; simp [h1, h4, h7]
/-- What both say of a vote. -/
def okVote (v n b t m : Int) : Bool := if (m = 1 ∨ m = 4 ∨ m = 7) ∧ (0 ≤ b ∧ b ≤ m - 1) ∧ (1 ≤ v ∧ v ≤ 100000) ∧ (0 ≤ n ∧ n ≤ 2147483646) then dg (tagText b (ballot v n)) == t else false
theorem svote (v n b t m : Int) (hb : i64 b) (hm : i64 m) : Ev (fun k => spec_VoteOk.f k v n b t m) (okVote v n b t m) := by
 unfold spec_VoteOk.f okVote spec_l15Name.f
 simp only [servers_eq, in_eq, Option.bind_some]
 by_cases c0 : m = 1 ∨ m = 4 ∨ m = 7
 ·rw [w64 (by omega) (by omega)]
  refine Ev.pos (by simpa using c0) ?_
  by_cases c1 : 0 ≤ b ∧ b ≤ m - 1
  ·refine Ev.pos (by simpa using c1) ?_
   by_cases c2 : 1 ≤ v ∧ v ≤ 100000
   ·refine Ev.pos (by simpa using c2) ?_
    by_cases c3 : 0 ≤ n ∧ n ≤ 2147483646
    ·refine Ev.pos (by simpa using c3) ?_
     rw [if_pos ⟨c0, c1, c2, c3⟩]
     have hv : i64 v := ⟨by omega, by omega⟩
     have hn : i64 n := ⟨by omega, by omega⟩
     have hl := ballot_len v n hv hn
     unfold spec_l15Voted.f
     refine Ev.bind (Ev.bind (sballot v n hv hn) (Ev.bind (stag b _ hb (by omega)) (Ev.now _))) ?_
     simp only [beq_self_eq_true, Bool.true_and]
     exact Ev.now _
    ·rw [if_neg (fun h => c3 h.2.2.2)]
     exact Ev.neg (by simpa using c3) (Ev.now _)
   ·rw [if_neg (fun h => c2 h.2.2.1)]
    exact Ev.neg (by simpa using c2) (Ev.now _)
  ·rw [if_neg (fun h => c1 h.2.1)]
   exact Ev.neg (by simpa using c1) (Ev.now _)
 ·rw [if_neg (show ¬((m = 1 ∨ m = 4 ∨ m = 7) ∧ (0 ≤ b ∧ b ≤ m - 1) ∧ (1 ≤ v ∧ v ≤ 100000) ∧ (0 ≤ n ∧ n ≤ 2147483646)) from fun h => c0 h.1)]
  exact Ev.neg (by simpa using c0) (Ev.now _)
theorem ivote (v n b t m : Int) (hm : i64 m) : Ev (fun k => impl_VoteOk.f k v n b t m) (okVote v n b t m) := by
 unfold impl_VoteOk.f okVote impl_isView.f impl_isName.f
 simp only [quorum_eq, within_eq, Option.bind_some]
 by_cases c0 : m = 1 ∨ m = 4 ∨ m = 7
 ·rw [w64 (by omega) (by omega)]
  refine Ev.pos (by rcases c0 with h | h | h <;> subst h <;> decide) ?_
  by_cases c1 : 0 ≤ b ∧ b ≤ m - 1
  ·refine Ev.pos (by simpa using c1) ?_
   by_cases c2 : 1 ≤ v ∧ v ≤ 100000
   ·refine Ev.pos (by simpa using c2) ?_
    by_cases c3 : 0 ≤ n ∧ n ≤ 2147483646
    ·refine Ev.pos (by simpa using c3) ?_
     rw [if_pos ⟨c0, c1, c2, c3⟩]
     have hv : i64 v := ⟨by omega, by omega⟩
     have hn : i64 n := ⟨by omega, by omega⟩
     have hl := ballot_len v n hv hn
     unfold impl_Signed.f
     have hd := dg_in (tagText b (ballot v n))
     refine Ev.bind (Ev.const (iballot v n hv hn)) ?_
     by_cases ht : t = -1
     ·refine Ev.bind (Ev.pos ht (Ev.now _)) ?_
      rw [show (dg (tagText b (ballot v n)) == t) = false by simp; omega]
      exact Ev.now _
     ·refine Ev.bind (Ev.neg ht (Ev.bind (itag b _ (by omega) (by omega) (by omega)) (Ev.now _))) ?_
      rw [show (t == dg (tagText b (ballot v n))) = (dg (tagText b (ballot v n)) == t) from Bool.beq_comm ..]
      exact Ev.now _
    ·rw [if_neg (fun h => c3 h.2.2.2)]
     exact Ev.neg (by simpa using c3) (Ev.now _)
   ·rw [if_neg (fun h => c2 h.2.2.1)]
    exact Ev.neg (by simpa using c2) (Ev.now _)
  ·rw [if_neg (fun h => c1 h.2.1)]
   exact Ev.neg (by simpa using c1) (Ev.now _)
 ·rw [if_neg (show ¬((m = 1 ∨ m = 4 ∨ m = 7) ∧ (0 ≤ b ∧ b ≤ m - 1) ∧ (1 ≤ v ∧ v ≤ 100000) ∧ (0 ≤ n ∧ n ≤ 2147483646)) from fun h => c0 h.1)]
  refine Ev.neg ?_ (Ev.now _)
  rw [if_neg (fun h => c0 (Or.inl h)), if_neg (fun h => c0 (Or.inr (Or.inl h))), if_neg (fun h => c0 (Or.inr (Or.inr h)))]
  decide
theorem loop_ev (v n m : Int) (bys ts : List Int) (hm : i64 m) (hb : okList (okInt .i64) bys) (hl : bys.length = ts.length) (hz : bys.length ≤ 1048576) : ∀ (d i : Nat), i + d = bys.length → ∃ r, Ev (fun k => spec_ProofOk.l0 k m i v n bys ts) r ∧ Ev (fun k => impl_ProofOk.l0 k m bys (bys.length : Int) i v n bys ts) r
 | 0, i, hi => by
  refine ⟨true, Ev.succ ?_, Ev.succ ?_⟩
  ·simp only [spec_ProofOk.l0]
   exact Ev.neg (by omega) (Ev.now _)
  ·simp only [impl_ProofOk.l0]
   exact Ev.neg (by omega) (Ev.now _)
 | d + 1, i, hi => by
  obtain ⟨x, hx⟩ := get_some (l := bys) (i := i) (by omega)
  obtain ⟨t, ht⟩ := get_some (l := ts) (i := i) (by omega)
  obtain ⟨r, h1, h2⟩ := loop_ev v n m bys ts hm hb hl hz d (i + 1) (by omega)
  have s1 := svote v n x t m (bound_i64 (all_get hb.2 hx)) hm
  have i1 := ivote v n x t m hm
  have key : ∃ r, Ev (fun k => spec_ProofOk.l0 (k + 1) m i v n bys ts) r ∧ Ev (fun k => impl_ProofOk.l0 (k + 1) m bys (bys.length : Int) i v n bys ts) r := by
   simp only [spec_ProofOk.l0, impl_ProofOk.l0, rd_get hx, rd_get ht]
   rw [w64 (x := (i : Int) + 1) (by omega) (by omega), w64 (x := (i : Int) - 1) (by omega) (by omega), cast_succ]
   cases hv : okVote v n x t m with
   | false =>
    rw [hv] at s1 i1
    refine ⟨false, Ev.pos (by omega) (Ev.pos (by omega) (Ev.pos (by omega) (Ev.bind s1 (Ev.neg (by decide) (Ev.now _))))), Ev.pos (by omega) (Ev.pos (by omega) (Ev.pos (by omega) ?_))⟩
    by_cases h0 : (i : Int) > 0
    ·refine Ev.pos h0 (Ev.pos (by omega) (Ev.pos (by omega) ?_))
     by_cases hc : rd bys ((i : Int) - 1) ≥ x
     ·exact Ev.pos hc (Ev.now _)
     ·exact Ev.neg hc (Ev.pos (by omega) (Ev.bind i1 (Ev.neg (by decide) (Ev.now _))))
    ·exact Ev.neg h0 (Ev.pos (by omega) (Ev.bind i1 (Ev.neg (by decide) (Ev.now _))))
   | true =>
    rw [hv] at s1 i1
    by_cases h0 : (i : Int) > 0
    ·by_cases hc : rd bys ((i : Int) - 1) ≥ x
     ·exact ⟨false, Ev.pos (by omega) (Ev.pos (by omega) (Ev.pos (by omega) (Ev.bind s1 (Ev.pos rfl (Ev.pos h0 (Ev.pos (by omega) (Ev.pos (by omega) (Ev.pos (by omega) (Ev.now _))))))))), Ev.pos (by omega) (Ev.pos (by omega) (Ev.pos (by omega) (Ev.pos h0 (Ev.pos (by omega) (Ev.pos (by omega) (Ev.pos hc (Ev.now _)))))))⟩
     ·exact ⟨r, Ev.pos (by omega) (Ev.pos (by omega) (Ev.pos (by omega) (Ev.bind s1 (Ev.pos rfl (Ev.pos h0 (Ev.pos (by omega) (Ev.pos (by omega) (Ev.neg (by omega) h1)))))))), Ev.pos (by omega) (Ev.pos (by omega) (Ev.pos (by omega) (Ev.pos h0 (Ev.pos (by omega) (Ev.pos (by omega) (Ev.neg hc (Ev.pos (by omega) (Ev.bind i1 (Ev.pos rfl h2)))))))))⟩
    ·exact ⟨r, Ev.pos (by omega) (Ev.pos (by omega) (Ev.pos (by omega) (Ev.bind s1 (Ev.pos rfl (Ev.neg h0 h1))))), Ev.pos (by omega) (Ev.pos (by omega) (Ev.pos (by omega) (Ev.neg h0 (Ev.pos (by omega) (Ev.bind i1 (Ev.pos rfl h2))))))⟩
  obtain ⟨r, k1, k2⟩ := key
  exact ⟨r, Ev.succ k1, Ev.succ k2⟩
theorem loop_bad (v n m : Int) (bys ts : List Int) (hm : i64 m) (hl : bys.length = ts.length) (h0 : 0 < bys.length) (hz : bys.length ≤ 1048576) (hc : ¬ ((1 ≤ v ∧ v ≤ 100000) ∧ (0 ≤ n ∧ n ≤ 2147483646))) : Ev (fun k => impl_ProofOk.l0 k m bys (bys.length : Int) 0 v n bys ts) false := by
 obtain ⟨x, hx⟩ := get_some (l := bys) (i := 0) (by omega)
 obtain ⟨t, ht⟩ := get_some (l := ts) (i := 0) (by omega)
 have i1 := ivote v n x t m hm
 have hv : okVote v n x t m = false := by
  unfold okVote
  rw [if_neg (fun h => hc h.2.2)]
 rw [hv] at i1
 have e1 : rd bys 0 = x := rd_get (i := 0) hx
 have e2 : rd ts 0 = t := rd_get (i := 0) ht
 refine Ev.succ ?_
 simp only [impl_ProofOk.l0, e1, e2]
 exact Ev.pos (by omega) (Ev.pos (by omega) (Ev.pos (by omega) (Ev.neg (by omega) (Ev.pos (by omega) (Ev.bind i1 (Ev.neg (by decide) (Ev.now _)))))))
def qm (m : Int) : Int := if m = 1 then 1 else if m = 4 then 3 else if m = 7 then 5 else -1
theorem iq (m : Int) : impl_Quorum.f m = some (qm m) := quorum_eq m
theorem sq (m : Int) (h : m = 1 ∨ m = 4 ∨ m = 7) : spec_Quorum.f m = some (qm m) := by
 unfold spec_Quorum.f
 rw [servers_eq]
 rcases h with h | h | h <;> subst h <;> decide +kernel
theorem qm_pos {m : Int} (h : m = 1 ∨ m = 4 ∨ m = 7) : 1 ≤ qm m := by rcases h with h | h | h <;> subst h <;> decide
theorem qm_neg {m : Int} (h : ¬ (m = 1 ∨ m = 4 ∨ m = 7)) : qm m = -1 := by
 unfold qm
 rw [if_neg (fun e => h (Or.inl e)), if_neg (fun e => h (Or.inr (Or.inl e))), if_neg (fun e => h (Or.inr (Or.inr e)))]
def isF (v n : Int) (bys ts : List Int) : Bool := decide (v = 0 ∧ n = 0 ∧ bys.length = 0 ∧ ts.length = 0)
theorem sF (v n : Int) (bys ts : List Int) (h1 : bys.length ≤ 1048576) (h2 : ts.length ≤ 1048576) : spec_l15First.f v n bys ts = some (isF v n bys ts) := by
 unfold spec_l15First.f isF
 rw [w64 (by omega) (by omega)]
 by_cases c1 : v = 0
 ·by_cases c2 : n = 0
  ·rw [if_pos c1, if_pos c2]; congr 1; rw [Bool.eq_iff_iff, beq_iff_eq, decide_eq_true_iff]; omega
  ·rw [if_pos c1, if_neg c2]; simp [c2]
 ·rw [if_neg c1]; simp [c1]
theorem iF (v n : Int) (bys ts : List Int) : impl_Proof_isFirst.f v n bys ts = some (isF v n bys ts) := by
 unfold impl_Proof_isFirst.f isF
 by_cases c1 : v = 0
 ·by_cases c2 : n = 0
  ·rw [if_pos c1, if_pos c2]
   by_cases c3 : (bys.length : Int) = 0
   ·rw [if_pos c3]; congr 1; rw [Bool.eq_iff_iff, beq_iff_eq, decide_eq_true_iff]; omega
   ·rw [if_neg c3]; congr 1; symm; exact decide_eq_false (by omega)
  ·rw [if_pos c1, if_neg c2]; simp [c2]
 ·rw [if_neg c1]; simp [c1]
theorem proof_ev (v n m : Int) (bys ts : List Int) (hm : i64 m) (hb : okList (okInt .i64) bys) (h1 : bys.length ≤ 1048576) (h2 : ts.length ≤ 1048576) : ∃ r, Ev (fun k => spec_ProofOk.f k v n bys ts m) r ∧ Ev (fun k => impl_ProofOk.f k v n bys ts m) r := by
 unfold spec_ProofOk.f impl_ProofOk.f spec_l15Name.f
 simp only [servers_eq, iq, sF v n bys ts h1 h2, iF, in_eq, Option.bind_some]
 by_cases c0 : m = 1 ∨ m = 4 ∨ m = 7
 ·have hq := qm_pos c0
  simp only [sq m c0, Option.bind_some]
  cases hF : isF v n bys ts with
  | true =>
   refine ⟨true, Ev.pos (by simpa using c0) (Ev.pos rfl (Ev.now _)), Ev.neg (by omega) (Ev.succ ?_)⟩
   simp only [impl_ProofOk.j0]
   rw [show decide (qm m > 0) = true by simp; omega]
   exact Ev.pos (by trivial) (Ev.now _)
  | false =>
   have sbad : ∀ b, b = true → Ev (fun k => spec_ProofOk.j0 k m b v n bys ts) false := by
    intro b hb'
    refine Ev.succ ?_
    simp only [spec_ProofOk.j0]
    exact Ev.pos hb' (Ev.now _)
   have ibad : ∀ b, b = true → Ev (fun k => impl_ProofOk.j1 k m b v n bys ts) false := by
    intro b hb'
    refine Ev.succ ?_
    simp only [impl_ProofOk.j1]
    exact Ev.pos hb' (Ev.now _)
   -- what comes behind the first test
   have rest : ∃ r, Ev (fun k => if (bys.length : Int) < qm m then spec_ProofOk.j0 k m true v n bys ts else spec_ProofOk.j0 k m ((bys.length : Int) != (ts.length : Int)) v n bys ts) r ∧ Ev (fun k => if (bys.length : Int) < qm m then impl_ProofOk.j1 k m true v n bys ts else impl_ProofOk.j1 k m ((ts.length : Int) != (bys.length : Int)) v n bys ts) r := by
    by_cases c3 : (bys.length : Int) < qm m
    ·exact ⟨false, Ev.pos c3 (sbad _ rfl), Ev.pos c3 (ibad _ rfl)⟩
    ·by_cases c4 : bys.length = ts.length
     ·obtain ⟨r, e1, e2⟩ := loop_ev v n m bys ts hm hb c4 h1 bys.length 0 (by omega)
      refine ⟨r, Ev.neg c3 (Ev.succ ?_), Ev.neg c3 (Ev.succ ?_)⟩
      ·simp only [spec_ProofOk.j0]
       exact Ev.neg (by simp [c4]) e1
      ·simp only [impl_ProofOk.j1]
       exact Ev.neg (by simp [c4]) e2
     ·exact ⟨false, Ev.neg c3 (sbad _ (by simp; omega)), Ev.neg c3 (ibad _ (by simp; omega))⟩
   have irest : ∀ r, Ev (fun k => if (bys.length : Int) < qm m then impl_ProofOk.j1 k m true v n bys ts else impl_ProofOk.j1 k m ((ts.length : Int) != (bys.length : Int)) v n bys ts) r → Ev (fun k => impl_ProofOk.j0 k m (qm m) false v n bys ts) r := by
    intro r h
    refine Ev.succ ?_
    simp only [impl_ProofOk.j0]
    exact Ev.neg (by decide) h
   by_cases hc : (1 ≤ v ∧ v ≤ 100000) ∧ (0 ≤ n ∧ n ≤ 2147483646)
   ·obtain ⟨r, e1, e2⟩ := rest
    exact ⟨r, Ev.pos (by simpa using c0) (Ev.neg (by decide) (Ev.pos (by simpa using hc.1) (Ev.pos (by simpa using hc.2) e1))), Ev.neg (by omega) (irest r e2)⟩
   ·refine ⟨false, Ev.pos (by simpa using c0) (Ev.neg (by decide) ?_), Ev.neg (by omega) (irest false ?_)⟩
    ·by_cases c1 : 1 ≤ v ∧ v ≤ 100000
     ·exact Ev.pos (by simpa using c1) (Ev.neg (by simpa using fun h1 => (fun h2 => hc ⟨c1, h1, h2⟩)) (sbad _ rfl))
     ·exact Ev.neg (by simpa using c1) (sbad _ rfl)
    ·by_cases c3 : (bys.length : Int) < qm m
     ·exact Ev.pos c3 (ibad _ rfl)
     ·by_cases c4 : bys.length = ts.length
      ·refine Ev.neg c3 (Ev.succ ?_)
       simp only [impl_ProofOk.j1]
       exact Ev.neg (by simp [c4]) (loop_bad v n m bys ts hm c4 (by omega) h1 hc)
      ·exact Ev.neg c3 (ibad _ (by simp; omega))
 ·have hq := qm_neg c0
  refine ⟨false, Ev.neg (by simpa using c0) (Ev.now _), Ev.pos (by omega) (Ev.succ ?_)⟩
  simp only [impl_ProofOk.j0]
  rw [show decide (qm m > 0) = false by simp; omega]
  exact Ev.pos (by trivial) (Ev.now _)
theorem Ev.rpos {α : Type} {c : Prop} [Decidable c] {g : Nat → Option α} {x y : α} (h : c) (k : Ev g x) : Ev g (if c then x else y) := by rw [if_pos h]; exact k
theorem Ev.rneg {α : Type} {c : Prop} [Decidable c] {g : Nat → Option α} {x y : α} (h : ¬ c) (k : Ev g y) : Ev g (if c then x else y) := by rw [if_neg h]; exact k
theorem moves_l0 (l : List ByteArray) (hz : l.length ≤ 1048576) : ∀ (d i : Nat), i + d = l.length → Ev (fun k => spec_l15Moves.l0 k l i) (!((l.drop i).any fun s => decide ((s.size : Int) > 60)))
 | 0, i, hi => by
  refine Ev.succ ?_
  simp only [spec_l15Moves.l0]
  refine Ev.neg (by omega) ?_
  rw [List.drop_of_length_le (by omega)]
  exact Ev.now _
 | d + 1, i, hi => by
  obtain ⟨s, hs⟩ := get_some (l := l) (i := i) (by omega)
  have ih := moves_l0 l hz d (i + 1) (by omega)
  obtain ⟨hi', rfl⟩ := List.getElem?_eq_some_iff.1 hs
  rw [List.drop_eq_getElem_cons hi', List.any_cons]
  refine Ev.succ ?_
  simp only [spec_l15Moves.l0, rdOf_get hs]
  rw [w64 (by omega) (by omega), cast_succ]
  refine Ev.pos (by omega) (Ev.pos (by omega) ?_)
  by_cases h : (l[i].size : Int) > 60
  ·rw [show decide ((l[i].size : Int) > 60) = true from decide_eq_true h, Bool.true_or]
   exact Ev.pos h (Ev.now _)
  ·rw [show decide ((l[i].size : Int) > 60) = false from decide_eq_false h, Bool.false_or]
   exact Ev.neg h ih
def okMoves (l : List ByteArray) : Bool := if (l.length : Int) ≤ 10 then !(l.any fun s => decide ((s.size : Int) > 60)) else false
theorem moves_ev (l : List ByteArray) (hz : l.length ≤ 1048576) : Ev (fun k => spec_l15Moves.f k l) (okMoves l) := by
 unfold spec_l15Moves.f okMoves
 by_cases h : (l.length : Int) ≤ 10
 ·rw [if_pos h]
  exact Ev.neg (by omega) (moves_l0 l hz l.length 0 (by omega))
 ·rw [if_neg h]
  exact Ev.pos (by omega) (Ev.now _)
theorem block_ev (v p pv pn by_ m : Int) (bys ts : List Int) (mv : List ByteArray) (hm : i64 m) (hb : okList (okInt .i64) bys) (h1 : bys.length ≤ 1048576) (h2 : ts.length ≤ 1048576) (h3 : mv.length ≤ 1048576) : ∃ r, Ev (fun k => spec_BlockOk.f k v p pv pn bys ts mv by_ m) r ∧ Ev (fun k => impl_BlockOk.f k v p pv pn bys ts mv by_ m) r := by
 obtain ⟨t, s1, i1⟩ := proof_ev pv pn m bys ts hm hb h1 h2
 unfold spec_BlockOk.f impl_BlockOk.f impl_isView.f
 simp only [servers_eq, within_eq, in_eq, Option.bind_some]
 by_cases c0 : m = 1 ∨ m = 4 ∨ m = 7
 ·have m0 : ¬ m = 0 := by omega
  cases t with
  | false =>
   refine ⟨false, Ev.pos (by simpa using c0) ?_, Ev.bind i1 (Ev.neg (by decide) (Ev.now _))⟩
   by_cases c1 : 1 ≤ v ∧ v ≤ 100000
   ·refine Ev.pos (by simpa using c1) (Ev.neg m0 ?_)
    by_cases c2 : by_ = Int.tmod v m
    ·exact Ev.pos c2 (Ev.bind s1 (Ev.neg (by decide) (Ev.now _)))
    ·exact Ev.neg c2 (Ev.now _)
   ·exact Ev.neg (by simpa using c1) (Ev.now _)
  | true =>
   by_cases c1 : 1 ≤ v ∧ v ≤ 100000
   ·by_cases c2 : by_ = Int.tmod v m
    ·by_cases c3 : pv < v
     ·by_cases c4 : p = pn
      ·refine ⟨okMoves mv, Ev.pos (by simpa using c0) (Ev.pos (by simpa using c1) (Ev.neg m0 (Ev.pos c2 (Ev.bind s1 (Ev.pos rfl (Ev.pos c3 (Ev.pos c4 (Ev.bind (moves_ev mv h3) (Ev.now _))))))))), Ev.bind i1 (Ev.pos rfl (Ev.pos (by simpa using c1) (Ev.pos c3 (Ev.pos c4 (Ev.neg m0 (Ev.pos c2 ?_))))))⟩
       unfold okMoves slices_ContainsFunc_string_string.f
       by_cases c5 : (mv.length : Int) ≤ 10
       ·exact Ev.pos c5 (Ev.rpos c5 (Ev.bind (Ev.now _) (Ev.now _)))
       ·exact Ev.neg c5 (Ev.rneg c5 (Ev.now _))
      ·exact ⟨false, Ev.pos (by simpa using c0) (Ev.pos (by simpa using c1) (Ev.neg m0 (Ev.pos c2 (Ev.bind s1 (Ev.pos rfl (Ev.pos c3 (Ev.neg c4 (Ev.now _)))))))), Ev.bind i1 (Ev.pos rfl (Ev.pos (by simpa using c1) (Ev.pos c3 (Ev.neg c4 (Ev.now _)))))⟩
     ·exact ⟨false, Ev.pos (by simpa using c0) (Ev.pos (by simpa using c1) (Ev.neg m0 (Ev.pos c2 (Ev.bind s1 (Ev.pos rfl (Ev.neg c3 (Ev.now _))))))), Ev.bind i1 (Ev.pos rfl (Ev.pos (by simpa using c1) (Ev.neg c3 (Ev.now _))))⟩
    ·refine ⟨false, Ev.pos (by simpa using c0) (Ev.pos (by simpa using c1) (Ev.neg m0 (Ev.neg c2 (Ev.now _)))), Ev.bind i1 (Ev.pos rfl (Ev.pos (by simpa using c1) ?_))⟩
     by_cases c3 : pv < v
     ·by_cases c4 : p = pn
      ·exact Ev.pos c3 (Ev.pos c4 (Ev.neg m0 (Ev.neg c2 (Ev.now _))))
      ·exact Ev.pos c3 (Ev.neg c4 (Ev.now _))
     ·exact Ev.neg c3 (Ev.now _)
   ·exact ⟨false, Ev.pos (by simpa using c0) (Ev.neg (by simpa using c1) (Ev.now _)), Ev.bind i1 (Ev.pos rfl (Ev.neg (by simpa using c1) (Ev.now _)))⟩
 ·have sf : Ev (fun k => spec_ProofOk.f k pv pn bys ts m) false := by
   unfold spec_ProofOk.f
   simp only [servers_eq, Option.bind_some]
   exact Ev.neg (by simpa using c0) (Ev.now _)
  obtain rfl := Ev.uniq s1 sf
  exact ⟨false, Ev.neg (by simpa using c0) (Ev.now _), Ev.bind i1 (Ev.neg (by decide) (Ev.now _))⟩
/-! what is shown is read again -/
theorem rd_at {xs : List Int} {i : Nat} {b : Int} {t : List Int} (h : xs.drop i = b :: t) : i < xs.length ∧ rd xs (i : Int) = b := by
 have hl : i < xs.length := by
  have := congrArg List.length h
  rw [List.length_drop, List.length_cons] at this
  omega
 refine ⟨hl, ?_⟩
 rw [List.drop_eq_getElem_cons hl] at h
 injection h with h _
 show xs.getD i 0 = b
 rw [List.getD_eq_getElem?_getD, List.getElem?_eq_getElem hl]
 exact h
theorem rnum_one (xs : List Int) (hl : xs.length ≤ 4611686018427387904) (i b : Nat) (n p N P' : Int) (hi5 : i ≤ 5) (hlt : i < xs.length) (hb : b ≤ 255) (hv : rd xs (i : Int) = (b : Int))
  (esp : wrap64 (n + wrap64 (Int.tmod (wrap64 (b : Int)) 128 * p)) = N) (ew : wrap64 (p * 128) = P') (r : Int × Int)
  (H : (b < 128 ∧ (i = 0 ∨ b ≠ 0) ∧ N ≤ 1099511627776 ∧ r = (N, ((i + 1 : Nat) : Int))) ∨ (128 ≤ b ∧ Ev (fun k => spec_ReadNumber.l0 k xs N P' ((i + 1 : Nat) : Int)) r)) :
  Ev (fun k => spec_ReadNumber.l0 k xs n p (i : Int)) r := by
 have e6 : wrap64 ((i : Int) + 1) = ((i + 1 : Nat) : Int) := by clear esp ew H; rw [w64 (by omega) (by omega), cast_succ]
 have wb : wrap64 (b : Int) = (b : Int) := by clear esp ew H; exact w64 (by omega) (by omega)
 rw [wb] at esp
 have key : Ev (fun k => spec_ReadNumber.j1 (k + 1) xs n p (i : Int) true) r := by
  simp only [spec_ReadNumber.j1, hv, wb, esp, ew, e6]
  clear esp ew e6 wb hv
  refine Ev.pos (by trivial) (Ev.pos (by omega) (Ev.pos (by omega) ?_))
  rcases H with ⟨h1, h2, h3, rfl⟩ | ⟨h1, h2⟩
  ·refine Ev.pos (by omega) (Ev.neg (by omega) ?_)
   by_cases c3 : (i : Int) > 0
   ·exact Ev.pos c3 (Ev.neg (by omega) (Ev.now _))
   ·exact Ev.neg c3 (Ev.now _)
  ·exact Ev.neg (by omega) h2
 refine Ev.succ ?_
 simp only [spec_ReadNumber.l0]
 clear esp ew H
 refine Ev.pos (by omega) ?_
 rw [decide_eq_true (show (i : Int) < 6 by omega)]
 exact Ev.succ key
theorem rdn_l0 (xs rest : List Int) (hl : xs.length ≤ 4611686018427387904) (N : Nat) (hN : N ≤ 1099511627776) : ∀ (f i n M : Nat), xs.drop i = numF f M ++ rest → n < 2 ^ (7 * i) → n + M * 2 ^ (7 * i) = N → (i = 0 ∨ M ≠ 0) → i ≤ 5 → M < 128 ^ (f + 1) →
  Ev (fun k => spec_ReadNumber.l0 k xs (n : Int) ((2 ^ (7 * i) : Nat) : Int) (i : Int)) ((N : Int), ((i + (numF f M).length : Nat) : Int))
 | 0, i, n, M, hx, hn, he, h0, hi, hM => by
  have hM : M < 128 := by simpa using hM
  have hnf : numF 0 M = [(M : Int)] := by unfold numF; rw [Nat.mod_eq_of_lt (by omega)]
  rw [hnf, List.cons_append] at hx
  obtain ⟨hlt, hv⟩ := rd_at hx
  obtain ⟨esp, hN', ew⟩ := sum_at n i M hi hn (by clear hn he; omega)
  rw [Nat.mod_eq_of_lt hM, he] at esp
  rw [hnf]
  exact rnum_one xs hl i M n _ N _ hi hlt (by clear hn he hN' esp ew; omega) hv esp ew _ (.inl ⟨hM, h0, by clear hn he hN' esp ew; omega, rfl⟩)
 | f + 1, i, n, M, hx, hn, he, h0, hi, hM => by
  by_cases c : M < 128
  ·have hnf : numF (f + 1) M = [(M : Int)] := by unfold numF; rw [if_pos c]
   rw [hnf, List.cons_append] at hx
   obtain ⟨hlt, hv⟩ := rd_at hx
   obtain ⟨esp, hN', ew⟩ := sum_at n i M hi hn (by clear hn he; omega)
   rw [Nat.mod_eq_of_lt c, he] at esp
   rw [hnf]
   exact rnum_one xs hl i M n _ N _ hi hlt (by clear hn he hN' esp ew; omega) hv esp ew _ (.inl ⟨c, h0, by clear hn he hN' esp ew; omega, rfl⟩)
  ·have hnf : numF (f + 1) M = ((M % 128 + 128 : Nat) : Int) :: numF f (M / 128) := by rw [numF, if_neg c]
   rw [hnf, List.cons_append] at hx
   obtain ⟨hlt, hv⟩ := rd_at hx
   have hb : M % 128 + 128 ≤ 255 := by clear hn he; omega
   obtain ⟨esp, hN', ew⟩ := sum_at n i (M % 128 + 128) hi hn hb
   have hbm : (M % 128 + 128) % 128 = M % 128 := by clear hn he hN' esp ew; omega
   rw [hbm] at esp hN'
   have hx2 : xs.drop (i + 1) = numF f (M / 128) ++ rest := by
    rw [← List.drop_drop, hx]
    rfl
   have hp : 2 ^ (7 * (i + 1)) = 128 * 2 ^ (7 * i) := by rw [show 7 * (i + 1) = 7 * i + 7 by clear hn he hN' esp ew; omega, Nat.pow_add]; exact Nat.mul_comm _ _
   have he2 : n + M % 128 * 2 ^ (7 * i) + M / 128 * 2 ^ (7 * (i + 1)) = N := by
    rw [hp, ← he]
    have hd : M = 128 * (M / 128) + M % 128 := (Nat.div_add_mod M 128).symm
    have e2 : M / 128 * (128 * 2 ^ (7 * i)) = 128 * (M / 128) * 2 ^ (7 * i) := by rw [Nat.mul_comm 128 (M / 128), Nat.mul_assoc]
    conv => rhs; rw [hd, Nat.add_mul]
    rw [e2]
    omega
   have hM2 : M / 128 ≠ 0 := by clear hn he hN' esp ew he2; omega
   have hi2 : i + 1 ≤ 5 := by
    rcases Nat.lt_or_ge i 5 with h | h
    ·clear hn he hN' esp ew he2; omega
    ·obtain rfl : i = 5 := by clear hn he hN' esp ew he2; omega
     have h1 : 1 * 2 ^ (7 * (5 + 1)) ≤ M / 128 * 2 ^ (7 * (5 + 1)) := Nat.mul_le_mul_right _ (Nat.pos_of_ne_zero hM2)
     clear hn he hN' esp ew
     have h2 : (2 : Nat) ^ (7 * (5 + 1)) = 4398046511104 := by decide
     rw [h2] at h1 he2
     omega
   have ih := rdn_l0 xs rest hl N hN f (i + 1) (n + M % 128 * 2 ^ (7 * i)) (M / 128) hx2 hN' he2 (.inr hM2) hi2 (by rw [Nat.pow_succ] at hM; exact Nat.div_lt_of_lt_mul (by clear hn he hN' esp ew he2; omega))
   have hlen : ((i + 1 + (numF f (M / 128)).length : Nat) : Int) = ((i + (numF (f + 1) M).length : Nat) : Int) := by rw [hnf, List.length_cons]; congr 1; clear hn he hN' esp ew he2; omega
   rw [hlen] at ih
   exact rnum_one xs hl i (M % 128 + 128) n _ _ _ hi hlt hb hv esp ew _ (.inr ⟨by clear hn he hN' esp ew he2; omega, ih⟩)
theorem rdn_ev (N : Nat) (hN : N ≤ 1099511627776) (rest : List Int) (hl : (numB N ++ rest).length ≤ 4611686018427387904) : Ev (fun k => spec_ReadNumber.f k (numB N ++ rest)) ((N : Int), ((numB N).length : Int)) := by
 have h := rdn_l0 (numB N ++ rest) rest hl N hN 8 0 0 N rfl (by decide) (by simp) (.inl rfl) (by decide) (by omega)
 rw [Nat.zero_add] at h
 exact h
theorem str_bytes (s : ByteArray) : strOfNums (bytesOf s) = s := by
 apply bytes_inj
 have e : (fun n : Int => UInt8.ofNat n.toNat) ∘ (fun b : UInt8 => (b.toNat : Int)) = id := by funext b; simp
 simp [strOfNums, bytesOf, ByteArray.toList_eq, e]
theorem rdt_ev (s : ByteArray) (hs : s.size ≤ 3000) (rest : List Int) (hl : (textB s ++ rest).length ≤ 4611686018427387904) : Ev (fun k => spec_ReadText.f k (textB s ++ rest)) (s, ((textB s).length : Int)) := by
 have e : textB s ++ rest = numB s.size ++ (bytesOf s ++ rest) := by unfold textB; rw [List.append_assoc]
 have hb := numB_len s.size
 have hz := bytesOf_length s
 have h1 := rdn_ev s.size (by omega) (bytesOf s ++ rest) (by rw [← e]; exact hl)
 have ht : (textB s).length = (numB s.size).length + s.size := by unfold textB; rw [List.length_append, hz]
 rw [← e] at h1
 have hxl : (textB s ++ rest).length = (numB s.size).length + s.size + rest.length := by rw [List.length_append, ht]
 have w1 : wrap64 (((textB s ++ rest).length : Int) - ((numB s.size).length : Int)) = ((textB s ++ rest).length : Int) - ((numB s.size).length : Int) := w64 (by omega) (by omega)
 have w2 : wrap64 (((numB s.size).length : Int) + (s.size : Int)) = ((textB s).length : Int) := by rw [w64 (by omega) (by omega)]; omega
 unfold spec_ReadText.f
 refine Ev.bind h1 ?_
 simp only [w1, w2]
 clear w1 w2 h1
 refine Ev.neg (by omega) (Ev.neg (by omega) (Ev.neg (by omega) (Ev.pos (by omega) (Ev.pos (by omega) (Ev.pos (by omega) ?_)))))
 have ex : strOfNums (((textB s ++ rest).take ((textB s).length : Int).toNat).drop ((numB s.size).length : Int).toNat) = s := by
  rw [Int.toNat_natCast, Int.toNat_natCast, List.take_left]
  unfold textB
  rw [List.drop_left, str_bytes]
 rw [ex]
 exact Ev.now _
theorem rdts_l0 (D rest : List Int) (hl : D.length ≤ 4611686018427387904) : ∀ (ms : List ByteArray) (at_ : Nat) (out : List ByteArray), D.drop at_ = flatT ms ++ rest → at_ ≤ D.length → fitT ms = true → out.length + ms.length ≤ 1000 →
  Ev (fun k => spec_l1ReadTexts.l0 k D (ms.length : Int) (at_ : Int) out) (out ++ ms, ((at_ + (flatT ms).length : Nat) : Int))
 | [], at_, out, hd, ha, hf, ho => by
  refine Ev.succ ?_
  simp only [spec_l1ReadTexts.l0, List.append_nil, List.length_nil]
  exact Ev.neg (by simp) (by rw [show (flatT []).length = 0 from rfl, Nat.add_zero]; exact Ev.now _)
 | s :: ms, at_, out, hd, ha, hf, ho => by
  rw [fitT_cons, Bool.and_eq_true, decide_eq_true_iff] at hf
  rw [flatT_cons, List.append_assoc] at hd
  have hdl : (D.drop at_).length = D.length - at_ := List.length_drop
  have h1 := rdt_ev s hf.1 (flatT ms ++ rest) (by rw [← hd]; omega)
  rw [← hd] at h1
  have hlt : (textB s).length ≤ (D.drop at_).length := by rw [hd, List.length_append]; omega
  have hnb := numB_len s.size
  have htl : 1 ≤ (textB s).length := by unfold textB; rw [List.length_append]; omega
  have hd2 : D.drop (at_ + (textB s).length) = flatT ms ++ rest := by rw [← List.drop_drop, hd, List.drop_left]
  have ih := rdts_l0 D rest hl ms (at_ + (textB s).length) (out ++ [s]) hd2 (by omega) hf.2 (by rw [List.length_append]; simp only [List.length_cons, List.length_nil] at ho ⊢; omega)
  have wm := Aside0.mk (show wrap64 (((ms.length + 1 : Nat) : Int) - 1) = (ms.length : Int) from by simp only [List.length_cons] at ho; rw [w64 (by omega) (by omega)]; omega)
  have wt := Aside0.mk (show wrap64 ((at_ : Int) + ((textB s).length : Int)) = ((at_ + (textB s).length : Nat) : Int) from by rw [w64 (by omega) (by omega)]; omega)
  rw [List.append_assoc] at ih
  rw [flatT_cons, List.length_append, ← Nat.add_assoc]
  refine Ev.succ ?_
  simp only [spec_l1ReadTexts.l0, Int.toNat_natCast, List.length_cons]
  simp only [List.length_cons] at ho
  refine Ev.pos (by omega) (Ev.pos (by omega) (Ev.pos (by omega) (Ev.bind h1 ?_)))
  simp only [wm.out, wt.out]
  exact Ev.neg (by omega) (Ev.pos (by omega) ih)
theorem rdts_ev (ms : List ByteArray) (hne : textsB ms ≠ []) (rest : List Int) (hl : (textsB ms ++ rest).length ≤ 4611686018427387904) : Ev (fun k => spec_l1ReadTexts.f k (textsB ms ++ rest)) (ms, ((textsB ms).length : Int)) := by
 unfold textsB at hne
 split at hne
 case isFalse => exact absurd rfl hne
 case isTrue h =>
 have e : textsB ms = numB ms.length ++ flatT ms := by unfold textsB; rw [if_pos h]
 have e2 : textsB ms ++ rest = numB ms.length ++ (flatT ms ++ rest) := by rw [e, List.append_assoc]
 have hb := numB_len ms.length
 have h1 := rdn_ev ms.length (by omega) (flatT ms ++ rest) (by rw [← e2]; exact hl)
 rw [← e2] at h1
 have h2 := rdts_l0 (textsB ms ++ rest) rest hl ms (numB ms.length).length [] (by rw [e2, List.drop_left]) (by rw [e2, List.length_append]; omega) h.2 (by simp; omega)
 rw [List.nil_append, ← List.length_append, ← e] at h2
 unfold spec_l1ReadTexts.f
 refine Ev.bind h1 (Ev.bind (Ev.now _) (Ev.neg (by dsimp only; omega) (Ev.succ ?_)))
 simp only [spec_l1ReadTexts.j0]
 exact Ev.neg (by simp; omega) h2
theorem nums_app (a b : List Int) : nums (a ++ b) = nums a ++ nums b := by simp [nums]
section
variable (s : ByteArray)
theorem rdb_l0 (L R : List Int) (m : Nat) (hm : m ≤ 7) (hL : L.length = 5 + 2 * m) (h5 : L[4]? = some (m : Int)) (hok : okL L = true) (hD : bytesOf s = nums L ++ R) (hsz : s.size ≤ 4611686018427387904) (r : BR)
  (hr : Ev (fun k => spec_ReadBlock.l0 k s (bytesOf s) L ((nums L).length : Int) (L.length : Int)) r) : ∀ (d j : Nat), j + d = L.length →
  Ev (fun k => spec_ReadBlock.l0 k s (bytesOf s) (L.take j) ((nums (L.take j)).length : Int) (if j < 5 then 5 else (L.length : Int))) r
 | 0, j, hj => by
  rw [List.take_of_length_le (by omega), if_neg (by omega)]
  exact hr
 | d + 1, j, hj => by
  have ih := rdb_l0 L R m hm hL h5 hok hD hsz r hr d (j + 1) (by omega)
  have hlt : j < L.length := by omega
  have hn : 0 ≤ L[j] ∧ L[j] ≤ 1099511627776 := by
   have := List.all_eq_true.1 hok L[j] (List.getElem_mem _)
   simpa using this
  have hsp : nums L = nums (L.take j) ++ (numB L[j].toNat ++ nums (L.drop (j + 1))) := by
   rw [← nums_cons, ← nums_app, ← List.drop_eq_getElem_cons hlt, List.take_append_drop]
  have hdr : (bytesOf s).drop (nums (L.take j)).length = numB L[j].toNat ++ (nums (L.drop (j + 1)) ++ R) := by
   rw [hD, hsp, List.append_assoc, List.drop_left, List.append_assoc]
  have hlD : (bytesOf s).length ≤ 4611686018427387904 := by rw [bytesOf_length]; exact hsz
  have hdl : ((bytesOf s).drop (nums (L.take j)).length).length = (bytesOf s).length - (nums (L.take j)).length := List.length_drop
  have h1 := rdn_ev L[j].toNat (by omega) (nums (L.drop (j + 1)) ++ R) (by rw [← hdr]; omega)
  rw [← hdr, Int.toNat_of_nonneg hn.1] at h1
  have hb := numB_len L[j].toNat
  have hat : (nums (L.take j)).length ≤ (bytesOf s).length := by rw [hD, hsp]; simp only [List.length_append]; omega
  have ht : (numB L[j].toNat).length ≤ ((bytesOf s).drop (nums (L.take j)).length).length := by rw [hdr, List.length_append]; omega
  have htk : (L.take j).length = j := by rw [List.length_take]; omega
  have ea : L.take j ++ [L[j]] = L.take (j + 1) := take_add L j hlt
  have en : (nums (L.take (j + 1))).length = (nums (L.take j)).length + (numB L[j].toNat).length := by
   rw [← ea, nums_app, List.length_append]
   simp [nums]
  have htk2 : (L.take (j + 1)).length = j + 1 := by rw [List.length_take]; omega
  rw [en] at ih
  refine sstep s (bytesOf s) hlD (L.take j) (nums (L.take j)).length _ (by rw [htk]; split <;> omega) (by omega) hat L[j] ((numB L[j].toNat).length : Int) h1 r (.inr ⟨by omega, by omega, ?_⟩)
  rw [ea, htk2, Int.toNat_natCast]
  by_cases c : j = 4
  ·subst c
   have hm4 : L[4] = (m : Int) := by
    rw [List.getElem?_eq_getElem hlt] at h5
    exact Option.some.inj h5
   rw [hm4] at ih ⊢
   refine Ev.pos (by omega) (Ev.neg (by omega) ?_)
   rw [if_neg (by omega)] at ih
   rw [show wrap64 (5 + wrap64 (2 * (m : Int))) = (L.length : Int) by rw [w64 (x := 2 * (m : Int)) (by omega) (by omega), w64 (by omega) (by omega)]; omega]
   exact ih
  ·refine Ev.neg (by omega) ?_
   by_cases c5 : j < 5
   ·rw [if_pos c5]
    rw [if_pos (by omega)] at ih
    exact ih
   ·rw [if_neg c5]
    rw [if_neg (by omega)] at ih
    exact ih
end
/-- A block is read from what it is shown as. -/
theorem round_ev (v p pv pn : Int) (bys ts : List Int) (ms : List ByteArray) (b : Int) (hne : (shown v p pv pn bys ts ms b).toList.isEmpty = false) :
  Ev (fun k => spec_ReadBlock.f k (shown v p pv pn bys ts ms b)) (v, p, pv, pn, bys, ts, ms, b, true) := by
 have hz := shown_size v p pv pn bys ts ms b
 have hne2 : ¬ (shown v p pv pn bys ts ms b).toList = [] := fun h => by rw [h] at hne; cases hne
 have hcond : ts.length = bys.length ∧ bys.length ≤ 7 ∧ textsB ms ≠ [] ∧ okL (lst v p pv pn bys ts) = true ∧ (0 ≤ b ∧ b ≤ 1099511627776) := by
  apply Decidable.byContradiction
  intro h
  apply hne2
  unfold shown
  rw [if_neg h]
  simp [ByteArray.toList_eq]
 obtain ⟨h1, h2, h3, h4, h5⟩ := hcond
 have hB : bytesOf (shown v p pv pn bys ts ms b) = nums (lst v p pv pn bys ts) ++ (textsB ms ++ numB b.toNat) := by
  have hb : byteL ((nums (lst v p pv pn bys ts) ++ textsB ms) ++ numB b.toNat) := byteL_app (byteL_app (nums_byte _) (texts_byte _)) (numF_byte 8 _)
  unfold shown
  rw [if_pos ⟨h1, h2, h3, h4, h5⟩, bytesOf_str _ hb, List.append_assoc]
 have hans : ans (shown v p pv pn bys ts ms b) v p pv pn bys ts ms b = (v, p, pv, pn, bys, ts, ms, b, true) := by
  unfold ans
  rw [if_pos rfl, if_neg hne2]
 generalize hS : shown v p pv pn bys ts ms b = S at *
 have hl := lm_lst v p pv pn bys.length bys ts rfl h1
 have hll := lm_len v p pv pn bys.length bys ts h1.symm
 rw [hl] at hB h4
 have hlB := bytesOf_length S
 have hmsl : ms.length ≤ 200 := by
  unfold textsB at h3
  split at h3
  ·rename_i h; exact h.1
  ·exact absurd rfl h3
 have hfin : Ev (fun k => spec_ReadBlock.l0 k S (bytesOf S) (lm v p pv pn bys.length bys ts) ((nums (lm v p pv pn bys.length bys ts)).length : Int) ((lm v p pv pn bys.length bys ts).length : Int)) (v, p, pv, pn, bys, ts, ms, b, true) := by
  have sp := sl1_ev S v p pv pn bys ts bys.length rfl h1 h2 ms b (by omega) bys.length 0 (by omega)
  rw [hans] at sp
  have hd1 : (bytesOf S).drop (nums (lm v p pv pn bys.length bys ts)).length = textsB ms ++ numB b.toNat := by rw [hB, List.drop_left]
  have hd2 : (bytesOf S).drop ((nums (lm v p pv pn bys.length bys ts)).length + (textsB ms).length) = numB b.toNat := by rw [← List.drop_drop, hd1, List.drop_left]
  have hlb : (bytesOf S).length = (nums (lm v p pv pn bys.length bys ts)).length + ((textsB ms).length + (numB b.toNat).length) := by rw [hB, List.length_append, List.length_append]
  have e1 := rdts_ev ms h3 (numB b.toNat) (by rw [List.length_append]; omega)
  rw [← hd1] at e1
  have f1 := rdn_ev b.toNat (by omega) [] (by rw [List.append_nil]; omega)
  rw [List.append_nil, ← hd2, Int.toNat_of_nonneg h5.1] at f1
  have tpos : 0 < (textsB ms).length := List.length_pos_iff.2 h3
  generalize (nums (lm v p pv pn bys.length bys ts)).length = at_ at *
  generalize (textsB ms).length = tn at *
  generalize bytesOf S = D at *
  have w1 := Aside0.mk (show wrap64 ((at_ : Int) + (tn : Int)) = ((at_ + tn : Nat) : Int) from by rw [w64 (by omega) (by omega)]; omega)
  refine Ev.succ ?_
  simp only [spec_ReadBlock.l0, Int.toNat_natCast]
  refine Ev.neg (by omega) (Ev.pos (by omega) (Ev.pos (by omega) (Ev.bind e1 ?_)))
  simp only [w1.out, Int.toNat_natCast]
  clear w1
  refine Ev.neg (by omega) (Ev.pos (by omega) (Ev.pos (by omega) (Ev.bind f1 (Ev.pos (by omega) (Ev.pos (by omega) (Ev.pos (by omega) (Ev.pos (by omega) ?_)))))))
  exact sp
 have hok5 : (lm v p pv pn bys.length bys ts)[4]? = some (bys.length : Int) := rfl
 have h0 := rdb_l0 S (lm v p pv pn bys.length bys ts) (textsB ms ++ numB b.toNat) bys.length h2 hll hok5 h4 hB (by omega) _ hfin (lm v p pv pn bys.length bys ts).length 0 (by omega)
 unfold spec_ReadBlock.f
 refine Ev.pos (by omega) ?_
 rw [if_pos (by decide)] at h0
 exact h0
/-! a block that is right can be shown -/
theorem vote_true {k : Nat} {v n b t m : Int} (hb : i64 b) (hm : i64 m) (h : spec_VoteOk.f k v n b t m = some true) : 0 ≤ b ∧ b ≤ 6 ∧ 0 ≤ t ∧ t ≤ 1099511627776 := by
 have e := Ev.uniq (Ev.of (g := fun k => spec_VoteOk.f k v n b t m) (fun k => spec_VoteOk.mono v n b t m k) h) (svote v n b t m hb hm)
 unfold okVote at e
 split at e
 ·rename_i hc
  have ht : dg (tagText b (ballot v n)) = t := by simpa using e.symm
  have hd := dg_in (tagText b (ballot v n))
  rcases hc.1 with h | h | h <;> subst h <;> omega
 ·cases e
def goodP (bys ts : List Int) (j : Nat) : Prop := (0 ≤ rd bys (j : Int) ∧ rd bys (j : Int) ≤ 6) ∧ (0 ≤ rd ts (j : Int) ∧ rd ts (j : Int) ≤ 1099511627776)
theorem pl0_true (m v n : Int) (bys ts : List Int) (hm : i64 m) (hb : ∀ x ∈ bys, i64 x) (hz : bys.length ≤ 1048576) : ∀ (k i : Nat), spec_ProofOk.l0 k m (i : Int) v n bys ts = some true → ∀ j, i ≤ j → j < bys.length → goodP bys ts j
 | 0, i, h => by simp [spec_ProofOk.l0] at h
 | k + 1, i, h => by
  intro j hij hj
  simp only [spec_ProofOk.l0] at h
  rw [if_pos (by omega), if_pos (by omega)] at h
  split at h
  case isFalse => cases h
  case isTrue hts =>
  rw [Option.bind_eq_some_iff] at h
  obtain ⟨t, h1, h⟩ := h
  split at h
  case isFalse => cases h
  case isTrue ht =>
  subst ht
  have hil : i < bys.length := by omega
  have hbi : i64 (rd bys (i : Int)) := by
   rw [rd_get (List.getElem?_eq_getElem hil)]
   exact hb _ (List.getElem_mem _)
  have g := vote_true hbi hm h1
  have rec_ : ∀ h : spec_ProofOk.l0 k m (wrap64 ((i : Int) + 1)) v n bys ts = some true, i + 1 ≤ j → goodP bys ts j := fun h hle => by
   rw [w64 (x := (i : Int) + 1) (by omega) (by omega), cast_succ] at h
   exact pl0_true m v n bys ts hm hb hz k (i + 1) h j hle hj
  rcases Nat.lt_or_ge i j with hlt | hge
  ·split at h
   ·split at h
    ·split at h
     ·split at h
      ·cases h
      ·exact rec_ h hlt
     ·cases h
    ·cases h
   ·exact rec_ h hlt
  ·obtain rfl : j = i := by omega
   exact ⟨⟨g.1, g.2.1⟩, g.2.2⟩
theorem proof_true (k : Nat) (v n m : Int) (bys ts : List Int) (hm : i64 m) (hb : ∀ x ∈ bys, i64 x) (h1 : bys.length ≤ 1048576) (h2 : ts.length ≤ 1048576) (h : spec_ProofOk.f k v n bys ts m = some true) :
  (0 ≤ v ∧ v ≤ 100000) ∧ (0 ≤ n ∧ n ≤ 2147483646) ∧ ts.length = bys.length ∧ ∀ j, j < bys.length → goodP bys ts j := by
 unfold spec_ProofOk.f spec_l15Name.f at h
 simp only [servers_eq, sF v n bys ts h1 h2, in_eq, Option.bind_some] at h
 split at h
 case isFalse => cases h
 case isTrue c0 =>
 have c0 : m = 1 ∨ m = 4 ∨ m = 7 := by simpa using c0
 simp only [sq m c0, Option.bind_some] at h
 split at h
 case isTrue hF =>
  unfold isF at hF
  have hF := of_decide_eq_true hF
  exact ⟨by omega, by omega, by omega, fun j hj => by omega⟩
 case isFalse hF =>
 have bad : ∀ b, spec_ProofOk.j0 k m b v n bys ts = some true → b = false ∧ spec_ProofOk.l0 (k - 1) m 0 v n bys ts = some true := fun b hj => by
  cases k with
  | zero => simp [spec_ProofOk.j0] at hj
  | succ k =>
   simp only [spec_ProofOk.j0] at hj
   cases b with
   | true => rw [if_pos rfl] at hj; cases hj
   | false => exact ⟨rfl, by rw [if_neg (by decide)] at hj; exact hj⟩
 split at h
 case isFalse => exact absurd (bad _ h).1 (by decide)
 case isTrue c1 =>
 split at h
 case isFalse => exact absurd (bad _ h).1 (by decide)
 case isTrue c2 =>
 split at h
 ·exact absurd (bad _ h).1 (by decide)
 ·obtain ⟨e, hl⟩ := bad _ h
  have c1 := of_decide_eq_true c1
  have c2 := of_decide_eq_true c2
  have e : bys.length = ts.length := by
   simp only [bne_eq_false_iff_eq] at e
   omega
  exact ⟨by omega, by omega, by omega, fun j hj => pl0_true m v n bys ts hm hb h1 (k - 1) 0 hl j (by omega) hj⟩
theorem btl_ok (bys ts : List Int) (h : ∀ j, j < bys.length → goodP bys ts j) : ∀ d i, i + d = bys.length → okL (btl bys ts d i) = true
 | 0, i, hi => rfl
 | d + 1, i, hi => by
  have g := h i (by omega)
  have ih := btl_ok bys ts h d (i + 1) (by omega)
  unfold goodP at g
  rw [btl, okL_cons, okL_cons, ih]
  simp only [Bool.and_eq_true, decide_eq_true_iff, and_true]
  exact ⟨by omega, by omega⟩
theorem block_true (k : Nat) (v p pv pn m b : Int) (bys ts : List Int) (ms : List ByteArray) (hm : i64 m) (hb : ∀ x ∈ bys, i64 x) (h1 : bys.length ≤ 4) (h2 : ts.length ≤ 1048576) (h3 : ms.length ≤ 200) (h : spec_BlockOk.f k v p pv pn bys ts ms b m = some true) :
  (shown v p pv pn bys ts ms b).toList.isEmpty = false ∧ p = pn ∧ pv < v := by
 unfold spec_BlockOk.f at h
 simp only [servers_eq, in_eq, Option.bind_some] at h
 split at h
 case isFalse => cases h
 case isTrue c0 =>
 have c0 : m = 1 ∨ m = 4 ∨ m = 7 := by simpa using c0
 split at h
 case isFalse => cases h
 case isTrue c1 =>
 have c1 := of_decide_eq_true c1
 rw [if_neg (by omega)] at h
 split at h
 case isFalse => cases h
 case isTrue c2 =>
 rw [Option.bind_eq_some_iff] at h
 obtain ⟨t, hp, h⟩ := h
 split at h
 case isFalse => cases h
 case isTrue ht =>
 subst ht
 split at h
 case isFalse => cases h
 case isTrue c3 =>
 split at h
 case isFalse => cases h
 case isTrue c4 =>
 rw [Option.bind_eq_some_iff] at h
 obtain ⟨o, ho, h⟩ := h
 obtain rfl : o = true := Option.some.inj h
 obtain ⟨p1, p2, p3, p4⟩ := proof_true k pv pn m bys ts hm hb (by omega) h2 hp
 have hmv : okMoves ms = true := by
  obtain ⟨K, hK⟩ := moves_ev ms (by omega)
  have e := Ev.uniq (Ev.of (g := fun k => spec_l15Moves.f k ms) (fun k => spec_l15Moves.mono ms k) ho) ⟨K, hK⟩
  exact e.symm
 have hfit : fitT ms = true := by
  unfold okMoves at hmv
  split at hmv
  ·unfold fitT
   rw [List.all_eq_true]
   intro s hs
   rw [Bool.not_eq_true', List.any_eq_false] at hmv
   have := hmv s hs
   simp only [decide_eq_true_iff] at this ⊢
   omega
  ·cases hmv
 have htx : textsB ms ≠ [] := by
  unfold textsB
  rw [if_pos ⟨h3, hfit⟩]
  have := numB_len ms.length
  intro hn
  have := congrArg List.length hn
  rw [List.length_append, List.length_nil] at this
  omega
 have hok : okL (lst v p pv pn bys ts) = true := by
  unfold lst
  show okL (v :: p :: pv :: pn :: (bys.length : Int) :: btl bys ts bys.length 0) = true
  rw [okL_cons, okL_cons, okL_cons, okL_cons, okL_cons, btl_ok bys ts p4 bys.length 0 (by omega)]
  simp only [Bool.and_eq_true, decide_eq_true_iff, and_true]
  exact ⟨by omega, by omega, by omega, by omega, by omega⟩
 have hbb : 0 ≤ b ∧ b ≤ 1099511627776 := by
  have := tmod_in (a := v) (b := m) (by omega) (by omega)
  rw [c2]
  omega
 refine ⟨?_, c4, c3⟩
 unfold shown
 rw [if_pos ⟨p3, by omega, htx, hok, hbb⟩]
 have hsz : (strOfNums ((nums (lst v p pv pn bys ts) ++ textsB ms) ++ numB b.toNat)).size ≠ 0 := by
  rw [strOfNums_size]
  have := numB_len b.toNat
  simp only [List.length_append]
  omega
 generalize strOfNums ((nums (lst v p pv pn bys ts) ++ textsB ms) ++ numB b.toNat) = S at *
 cases hS : S.toList.isEmpty with
 | false => rfl
 | true =>
  exfalso
  apply hsz
  rw [← size_data, ← ByteArray.toList_eq, List.isEmpty_iff.1 hS]
  rfl
theorem small_i64 {q : Bq} (h : q.small) : okList (okInt .i64) q.bys := ⟨by have := h.n5; omega, fun x hx => by
 have := h.i5 x hx
 simp [okInt, Lit.wf, IntKind.min, IntKind.max, IntKind.bits, IntKind.signed]
 omega⟩
theorem p1 : P1 := fun q hs => by
 have s5 := hs.n5
 have s6 := hs.n6
 have sm := hs.nm
 obtain ⟨⟨k1, e1⟩, ⟨k2, e2⟩⟩ := show_ev q.v q.p q.pv q.pn q.bys q.ts q.ms q.b (by omega) (by omega) (by omega)
 obtain ⟨m, ⟨k3, e3⟩, ⟨k4, e4⟩⟩ := name_ev q.v q.p q.pv q.pn q.bys q.ts q.ms q.b (by omega) (by omega) (by omega)
 have hz := shown_size q.v q.p q.pv q.pn q.bys q.ts q.ms q.b
 have hr : ∃ K, (shown q.v q.p q.pv q.pn q.bys q.ts q.ms q.b).toList.isEmpty = false → ∀ k, K ≤ k → impl_ReadBlock.f k (shown q.v q.p q.pv q.pn q.bys q.ts q.ms q.b) = some (q.v, q.p, q.pv, q.pn, q.bys, q.ts, q.ms, q.b, true) := by
  cases hc : (shown q.v q.p q.pv q.pn q.bys q.ts q.ms q.b).toList.isEmpty with
  | true => exact ⟨0, fun h => by cases h⟩
  | false =>
   obtain ⟨r, r1, ⟨K, r2⟩, _⟩ := rdblk_ev (shown q.v q.p q.pv q.pn q.bys q.ts q.ms q.b) (by omega)
   have e := ev_uniq r1 (round_ev q.v q.p q.pv q.pn q.bys q.ts q.ms q.b hc)
   subst e
   exact ⟨K, fun _ => r2⟩
 obtain ⟨k6, e6⟩ := hr
 exact ⟨k1 + k2 + k3 + k4 + k6, _, m, e2 _ (by omega), e1 _ (by omega), by omega, e4 _ (by omega), e3 _ (by omega), fun h => e6 h _ (by omega)⟩
theorem p2 : P2 := fun t ht => by
 obtain ⟨⟨v, p, pv, pn, bys, ts, ms, b, is⟩, ⟨k1, e1⟩, ⟨k2, e2⟩, hs, hg⟩ := rdblk_ev t (by omega)
 dsimp only at hs hg
 obtain ⟨_, ⟨k4, e4⟩⟩ := show_ev v p pv pn bys ts ms b (by omega) (by omega) (by omega)
 refine ⟨k1 + k2 + k4, v, p, pv, pn, bys, ts, ms, b, is, e2 _ (by omega), e1 _ (by omega), hs, fun h => ?_, fun h => ?_⟩
 ·rcases hg with hg | hg
  ·unfold NO at hg
   simp only [Prod.mk.injEq] at hg
   obtain ⟨rfl, rfl, rfl, rfl, rfl, rfl, rfl, rfl, _⟩ := hg
   exact ⟨rfl, rfl, rfl, rfl, rfl, rfl, rfl, rfl⟩
  ·rw [h] at hg
   exact absurd hg.1 (by decide)
 ·rcases hg with hg | hg
  ·unfold NO at hg
   simp only [Prod.mk.injEq] at hg
   rw [h] at hg
   exact absurd hg.2.2.2.2.2.2.2.2 (by decide)
  ·rw [← bytes_inj hg.2]
   exact e4 _ (by omega)
theorem p3 : P3 := fun q n hs n0 n1 => by
 have s5 := hs.n5
 have s6 := hs.n6
 have sm := hs.nm
 obtain ⟨o, ⟨k1, e1⟩, ⟨k2, e2⟩⟩ := block_ev q.v q.p q.pv q.pn q.b n q.bys q.ts q.ms ⟨by omega, by omega⟩ (small_i64 hs) (by omega) (by omega) (by omega)
 obtain ⟨_, ⟨k3, e3⟩⟩ := show_ev q.v q.p q.pv q.pn q.bys q.ts q.ms q.b (by omega) (by omega) (by omega)
 refine ⟨k1 + k2 + k3, o, e2 _ (by omega), e1 _ (by omega), fun ho => ?_⟩
 have g := block_true (k1 + k2 + k3) q.v q.p q.pv q.pn n q.b q.bys q.ts q.ms ⟨by omega, by omega⟩ hs.i5 s5 (by omega) (by omega) (by have h_ := e1 (k1 + k2 + k3) (by omega); rw [ho] at h_; exact h_)
 exact ⟨_, e3 _ (by omega), g⟩
end Go.Proofs.YtokhjhkkncbjeaaDoor.Pure
