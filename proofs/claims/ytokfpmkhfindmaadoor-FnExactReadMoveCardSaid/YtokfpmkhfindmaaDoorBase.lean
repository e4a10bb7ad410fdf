/- Small laws for the pure statements: rounds, wraps, lists. No condition. -/
import Derived.Test.YtokfpmkhfindmaaDoorWWords
import Derived.Test.YtokfpmkhfindmaaDoorWMore
import Derived.Laws.BitsLemmas
import Derived.Laws.BytesArg
namespace Go.Proofs.YtokfpmkhfindmaaDoorW.PrintWords
open Go.RowKit

theorem w64 {x : Int} (h0 : -9223372036854775808 ≤ x) (h1 : x < 9223372036854775808) : wrap64 x = x := by
  unfold wrap64
  omega
theorem Ev.pos {α : Type} {c : Prop} [Decidable c] {g f : Nat → Option α} {r : α} (h : c) (k : Ev g r) : Ev (fun n => if c then g n else f n) r := by
  simp only [if_pos h]
  exact k
theorem Ev.neg {α : Type} {c : Prop} [Decidable c] {g f : Nat → Option α} {r : α} (h : ¬ c) (k : Ev f r) : Ev (fun n => if c then g n else f n) r := by
  simp only [if_neg h]
  exact k
theorem Ev.succ {α : Type} {g : Nat → Option α} {r : α} (k : Ev (fun n => g (n + 1)) r) : Ev g r := Ev.step (fun _ => rfl) k
theorem Ev.const {α : Type} {x : Option α} {r : α} (h : x = some r) : Ev (fun _ => x) r := ⟨0, fun _ _ => h⟩
theorem Ev.uniq {α : Type} {g : Nat → Option α} {r s : α} (h : Ev g r) (k : Ev g s) : r = s := by
  obtain ⟨K, h⟩ := h
  obtain ⟨K', k⟩ := k
  have h1 := h (max K K') (by omega)
  have h2 := k (max K K') (by omega)
  rw [h1] at h2
  exact Option.some.inj h2
/-- A value that a test hangs on, whichever it is. -/
theorem Ev.ite {α : Type} {c : Prop} [Decidable c] {g f : Nat → Option α} {r : α} (h1 : c → Ev g r) (h2 : ¬ c → Ev f r) : Ev (fun n => if c then g n else f n) r := by
  by_cases h : c
  · exact Ev.pos h (h1 h)
  · exact Ev.neg h (h2 h)
theorem cast_succ (i : Nat) : (i : Int) + 1 = ((i + 1 : Nat) : Int) := by omega
theorem getD_lt {α : Type} {l : List α} {z : α} {i : Nat} {x : α} (h : l[i]? = some x) : l.getD i z = x := by
  rw [List.getD_eq_getElem?_getD, h]; rfl
theorem get_some {α : Type} {l : List α} {i : Nat} (h : i < l.length) : ∃ x, l[i]? = some x := ⟨l[i], List.getElem?_eq_getElem h⟩
theorem all_get {α : Type} {l : List α} {p : α → Prop} (h : ∀ x, x ∈ l → p x) {i : Nat} {x : α} (hx : l[i]? = some x) : p x := h x (List.mem_of_getElem? hx)
theorem bytes_inj {a b : ByteArray} (h : a.toList = b.toList) : a = b := by
  have h' : a.data.toList = b.data.toList := by simpa [ByteArray.toList_eq] using h
  cases a; cases b
  simp only [ByteArray.mk.injEq]
  exact Array.toList_inj.1 h'

/-! sizes: what the statements' own measure says; small lists -/
def smAny {α : Type} (_ : α) : Prop := True
def smStr (s : ByteArray) : Prop := s.size ≤ 1048576
def smList {α : Type} (sm : α → Prop) (l : List α) : Prop := l.length ≤ 1048576 ∧ ∀ x, x ∈ l → sm x
def lnList {α : Type} (ln : α → Prop) (l : List α) : Prop := l.length ≤ 4611686018427387904 ∧ ∀ x, x ∈ l → ln x
def SzOk (g : Nat → Option Int) (P : Prop) : Prop := ∃ r, Ev g r ∧ -1 ≤ r ∧ r ≤ 1048576 ∧ (0 ≤ r → P)
theorem SzOk.now {P : Prop} (r : Int) (h0 : -1 ≤ r) (h1 : r ≤ 1048576) (h : 0 ≤ r → P) : SzOk (fun _ => some r) P := ⟨r, Ev.now r, h0, h1, h⟩
theorem SzOk.bad (P : Prop) : SzOk (fun _ => some (-1)) P := SzOk.now _ (by omega) (by omega) (fun h => absurd h (by omega))
theorem SzOk.ite {c : Prop} [Decidable c] {g f : Nat → Option Int} {P : Prop} (h1 : c → SzOk g P) (h2 : ¬ c → SzOk f P) : SzOk (fun n => if c then g n else f n) P := by
  by_cases h : c
  · obtain ⟨r, e, k⟩ := h1 h
    exact ⟨r, Ev.pos h e, k⟩
  · obtain ⟨r, e, k⟩ := h2 h
    exact ⟨r, Ev.neg h e, k⟩
theorem SzOk.pos {c : Prop} [Decidable c] {g f : Nat → Option Int} {P : Prop} (h : c) (h1 : SzOk g P) : SzOk (fun n => if c then g n else f n) P := SzOk.ite (fun _ => h1) (fun h2 => absurd h h2)
theorem SzOk.neg {c : Prop} [Decidable c] {g f : Nat → Option Int} {P : Prop} (h : ¬ c) (h1 : SzOk f P) : SzOk (fun n => if c then g n else f n) P := SzOk.ite (fun h2 => absurd h2 h) (fun _ => h1)
theorem SzOk.bind {g : Nat → Option Int} {f : Nat → Int → Option Int} {P Q : Prop} (h : SzOk g P) (k : ∀ t, -1 ≤ t → t ≤ 1048576 → (0 ≤ t → P) → SzOk (fun n => f n t) Q) : SzOk (fun n => (g n).bind (f n)) Q := by
  obtain ⟨t, e, h0, h1, h2⟩ := h
  obtain ⟨r, e', k'⟩ := k t h0 h1 h2
  exact ⟨r, Ev.bind e e', k'⟩
theorem SzOk.succ {g : Nat → Option Int} {P : Prop} (h : SzOk (fun n => g (n + 1)) P) : SzOk g P := by
  obtain ⟨r, e, k⟩ := h
  exact ⟨r, Ev.succ e, k⟩
theorem SzOk.imp {g : Nat → Option Int} {P Q : Prop} (h : SzOk g P) (hq : P → Q) : SzOk g Q := by
  obtain ⟨r, e, h0, h1, h2⟩ := h
  exact ⟨r, e, h0, h1, fun z => hq (h2 z)⟩
/-- What is small from place i on, an element at a time. -/
theorem from_get {α : Type} {l : List α} {i : Nat} {x : α} {p : α → Prop} (hx : l[i]? = some x) (h : p x) (hr : ∀ j y, i + 1 ≤ j → l[j]? = some y → p y) : ∀ j y, i ≤ j → l[j]? = some y → p y := by
  intro j y hj hy
  rcases Nat.lt_or_ge i j with h1 | h1
  · exact hr j y h1 hy
  · obtain rfl : j = i := by omega
    rw [hx] at hy
    exact Option.some.inj hy ▸ h
theorem from_all {α : Type} {l : List α} {p : α → Prop} (h : ∀ j y, 0 ≤ j → l[j]? = some y → p y) : ∀ x, x ∈ l → p x := by
  intro x hx
  obtain ⟨j, hj⟩ := List.getElem?_of_mem hx
  exact h j x (Nat.zero_le _) hj
theorem from_end {α : Type} {l : List α} {i : Nat} {p : α → Prop} (hi : l.length ≤ i) : ∀ j y, i ≤ j → l[j]? = some y → p y := by
  intro j y hj hy
  rw [List.getElem?_eq_none (by omega)] at hy
  exact absurd hy (by simp)
/-- A list that is filled element by element. -/
theorem fill_done {α : Type} {y z : List α} {i : Nat} (hi : y.length ≤ i) (hl : y.length = z.length) (hp : ∀ j, j < i → y[j]? = z[j]?) : y = z :=
  List.ext_getElem? fun j => by
    rcases Nat.lt_or_ge j i with h | h
    · exact hp j h
    · rw [List.getElem?_eq_none (by omega), List.getElem?_eq_none (by omega)]
theorem fill_step {α : Type} {y z : List α} {i : Nat} {v : α} (hi : i < y.length) (hz : z[i]? = some v) (hp : ∀ j, j < i → y[j]? = z[j]?) : ∀ j, j < i + 1 → (y.set i v)[j]? = z[j]? := by
  intro j hj
  rw [List.getElem?_set]
  by_cases h : i = j
  · subst h
    rw [if_pos rfl, if_pos hi, hz]
  · rw [if_neg h]
    exact hp j (by omega)
theorem rd_get {l : List Int} {i : Nat} {x : Int} (h : l[i]? = some x) : rd l (i : Int) = x := getD_lt h
theorem rdOf_get {α : Type} {z : α} {l : List α} {i : Nat} {x : α} (h : l[i]? = some x) : rdOf z l (i : Int) = x := getD_lt h
/-! how many marks a value bears -/
def ctOne {α : Type} (_ : α) : Nat := 1
def ctList {α : Type} (ct : α → Nat) (l : List α) : Nat := (l.map ct).sum
theorem ct_drop {α : Type} {ct : α → Nat} {l : List α} {i : Nat} {x : α} (h : l[i]? = some x) : ctList ct (l.drop i) = ct x + ctList ct (l.drop (i + 1)) := by
  have hi := (List.getElem?_eq_some_iff.1 h).1
  rw [List.drop_eq_getElem_cons hi]
  have : l[i] = x := (List.getElem?_eq_some_iff.1 h).2
  simp [ctList, this]
theorem ct_end {α : Type} {ct : α → Nat} {l : List α} {i : Nat} (h : l.length ≤ i) : ctList ct (l.drop i) = 0 := by
  rw [List.drop_eq_nil_of_le h]; rfl
theorem ct_set {α : Type} {ct : α → Nat} {l : List α} {i : Nat} {v : α} : ctList ct ((l.set i v).drop (i + 1)) = ctList ct (l.drop (i + 1)) := by
  rw [List.drop_set_of_lt (by omega)]
theorem set_get {α : Type} {l : List α} {i : Nat} {v : α} (h : i < l.length) : (l.set i v)[i]? = some v := by
  rw [List.getElem?_set, if_pos rfl, if_pos h]
theorem set_below {α : Type} {l y : List α} {i : Nat} {v : α} (h : ∀ j, j < i + 1 → y[j]? = (l.set i v)[j]?) : ∀ j, j < i → y[j]? = l[j]? := by
  intro j hj
  rw [h j (by omega), List.getElem?_set, if_neg (by omega)]
theorem rdset_int {l : List Int} {i : Nat} {x : Int} (h : i < l.length) : rd (l.set i x) (i : Int) = x := getD_lt (set_get h)
theorem rdset_of {α : Type} {z : α} {l : List α} {i : Nat} {x : α} (h : i < l.length) : rdOf z (l.set i x) (i : Int) = x := getD_lt (set_get h)
end Go.Proofs.YtokfpmkhfindmaaDoorW.PrintWords
