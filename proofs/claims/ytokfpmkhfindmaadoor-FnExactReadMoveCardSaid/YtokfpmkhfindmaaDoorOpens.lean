/- What an argument's reading says of its cells, kind by kind, for rows of laws over structs and slices of structs. No condition. -/
import Derived.Test.YtokfpmkhfindmaaDoorWWords
import Derived.ChangeArms
import Derived.Deep.Slices
import Derived.DataReads
import Derived.WideShapes
namespace Go.Proofs.YtokfpmkhfindmaaDoorW.PrintWords
open Go.ChangeShapes Go.WideShapes

/-- Cells that read at type t say a value of the kind d. -/
def Opens {α : Type} (P : Program) (t : TypeId) (d : Kd α) (ok : α → Prop) : Prop :=
  ∀ (H : Type) (enc : TypeId × Value → H) (w : World) (base : Nat) (spare : Nat → Bool) (held : Bool) (fuel : Nat) (cs : List Value) (y : DataW H × List MemPlace),
    DataW.trod enc P w base spare held fuel t cs = some y → ∃ x, d.K w x cs ∧ ok x
/-- The same of a struct's fields from one on, which begins at cell off. -/
def FieldsOpen {α : Type} (P : Program) (fs : List Field) (off : Nat) (d : Kd α) (ok : α → Prop) : Prop :=
  ∀ (H : Type) (enc : TypeId × Value → H) (w : World) (base : Nat) (spare : Nat → Bool) (held : Bool) (n : Nat) (cs : List Value),
    cs.length = off + d.sz → (∀ f, f ∈ fs → ∃ y, DataW.trod enc P w base spare held n f.type ((cs.drop f.offset).take (P.cellsOf f.type)) = some y) → ∃ x, d.K w x (cs.drop off) ∧ ok x

def okInt (k : IntKind) (x : Int) : Prop := (Lit.int k x).wf = true
def okStr (s : ByteArray) : Prop := s.size ≤ 9223372036854775807
def okBool (_ : Bool) : Prop := True
def okList {α : Type} (ok : α → Prop) (l : List α) : Prop := l.length ≤ 9223372036854775807 ∧ ∀ x, x ∈ l → ok x
def okPair {α β : Type} (ok0 : α → Prop) (ok1 : β → Prop) (x : α × β) : Prop := ok0 x.1 ∧ ok1 x.2

theorem opens_int {P : Program} {t : TypeId} {k : IntKind} (h : P.underlying t = some (.int k)) : Opens P t (Kd.int k) (okInt k) := by
  intro H enc w base spare held fuel cs y hy
  obtain ⟨n, rfl, _, hw⟩ := DataW.trod_int h hy
  exact ⟨n, rfl, hw⟩
theorem opens_bool {P : Program} {t : TypeId} (h : P.underlying t = some .bool) : Opens P t Kd.bool okBool := by
  intro H enc w base spare held fuel cs y hy
  obtain ⟨b, rfl, _⟩ := DataW.trod_bool h hy
  exact ⟨b, rfl, trivial⟩
theorem opens_string {P : Program} {t : TypeId} (h : P.underlying t = some .string) : Opens P t Kd.string okStr := by
  intro H enc w base spare held fuel cs y hy
  obtain ⟨s, rfl, _, hs⟩ := DataW.trod_string h hy
  exact ⟨s, rfl, by unfold okStr; simpa [maxLen] using hs⟩

theorem list_of_fun {α : Type} {p : Nat → α → Prop} : ∀ n : Nat, (∀ i, i < n → ∃ x, p i x) → ∃ l : List α, l.length = n ∧ ∀ i x, l[i]? = some x → p i x
  | 0, _ => ⟨[], rfl, fun i x h => by simp at h⟩
  | n + 1, h => by
    obtain ⟨l, hl, hp⟩ := list_of_fun n (fun i hi => h i (by omega))
    obtain ⟨x, hx⟩ := h n (by omega)
    refine ⟨l ++ [x], by simp [hl], fun i y hy => ?_⟩
    rcases Nat.lt_or_ge i n with hi | hi
    · rw [List.getElem?_append_left (by omega)] at hy
      exact hp i y hy
    · have h1 := (List.getElem?_eq_some_iff.1 hy).1
      rw [List.length_append, hl, List.length_singleton] at h1
      obtain rfl : i = n := by omega
      rw [List.getElem?_append_right (by omega), hl, Nat.sub_self] at hy
      simp at hy
      exact hy ▸ hx

theorem opens_slice {α : Type} {P : Program} {t e : TypeId} {d : Kd α} {ok : α → Prop} (h : P.underlying t = some (.slice e)) (hc : P.cellsOf e = d.sz) (he : Opens P e d ok) : Opens P t (Kd.slice e d) (okList ok) := by
  intro H enc w base spare held fuel cs y hy
  rcases Go.Deep.open_slice h hy with ⟨rfl, _⟩ | ⟨a, len, cap, m, n, D, Pl, rfl, hb, hl, hm, hmm, _, hx⟩
  · exact ⟨[], ⟨none, 0, rfl, Nat.le_refl _, Kd.C_nil _ _⟩, by simp [okList]⟩
  · have hlm : len ≤ m := by rw [hmm]; split <;> omega
    obtain ⟨l, hll, hp⟩ := list_of_fun (p := fun i x => ok x ∧ ∃ c, c.length = d.sz ∧ d.K w x c ∧ ∀ j u, c[j]? = some u → w.cell? (a.add (i * d.sz + j)) = some u) len (fun i hi => by
      obtain ⟨cs', h1, h2⟩ := hx i (by omega)
      obtain ⟨x, hK, hok⟩ := he H enc w base spare held n cs' _ h2
      obtain ⟨_, hlen, hcell⟩ := World.cells?_some h1
      refine ⟨x, hok, cs', by rw [hlen, hc], hK, fun j u hu => ?_⟩
      have hj := (List.getElem?_eq_some_iff.1 hu).1
      have := hcell j (by omega)
      rw [Go.Deep.add_add, hc] at this
      rw [this, hu])
    have hmax : len ≤ 9223372036854775807 := Nat.le_trans hl (by simpa [maxLen] using hm)
    refine ⟨l, ⟨some a, cap, by rw [hll], by omega, ?_⟩, by rw [hll]; exact hmax, fun x hx => ?_⟩
    · rw [hll]
      exact ⟨hll, hmax, fun _ => ⟨a, rfl, fun j p hj => by
        obtain ⟨_, c, h1, h2, h3⟩ := hp j p hj
        exact ⟨c, h1, h2, h3⟩⟩⟩
    · obtain ⟨i, hi⟩ := List.getElem?_of_mem hx
      exact (hp i x hi).1

theorem fields_one {α : Type} {P : Program} {f : Field} {off : Nat} {d : Kd α} {ok : α → Prop} (ho : f.offset = off) (hc : P.cellsOf f.type = d.sz) (h : Opens P f.type d ok) : FieldsOpen P [f] off d ok := by
  intro H enc w base spare held n cs hl hf
  obtain ⟨y, hy⟩ := hf f (List.mem_singleton.2 rfl)
  rw [ho, hc, List.take_of_length_le (by rw [List.length_drop]; omega)] at hy
  exact h H enc w base spare held n _ y hy
theorem fields_cons {α β : Type} {P : Program} {f : Field} {fs : List Field} {off : Nat} {d0 : Kd α} {d1 : Kd β} {ok0 : α → Prop} {ok1 : β → Prop} (ho : f.offset = off) (hc : P.cellsOf f.type = d0.sz) (h : Opens P f.type d0 ok0) (hr : FieldsOpen P fs (off + d0.sz) d1 ok1) :
    FieldsOpen P (f :: fs) off (Kd.pair d0 d1) (okPair ok0 ok1) := by
  intro H enc w base spare held n cs hl hf
  have hl' : cs.length = off + (d0.sz + d1.sz) := hl
  obtain ⟨y, hy⟩ := hf f List.mem_cons_self
  rw [ho, hc] at hy
  obtain ⟨x, hK, hok⟩ := h H enc w base spare held n _ y hy
  obtain ⟨x', hK', hok'⟩ := hr H enc w base spare held n cs (by omega) (fun g hg => hf g (List.mem_cons_of_mem _ hg))
  refine ⟨(x, x'), ⟨_, _, ?_, hK, hK'⟩, hok, hok'⟩
  rw [← List.drop_drop]
  exact (List.take_append_drop d0.sz (cs.drop off)).symm
theorem opens_struct {α : Type} {P : Program} {t : TypeId} {fs : Array Field} {d : Kd α} {ok : α → Prop} (h : P.underlying t = some (.struct fs)) (hc : P.cellsOf t = d.sz) (hf : FieldsOpen P fs.toList 0 d ok) : Opens P t d ok := by
  intro H enc w base spare held fuel cs y hy
  obtain ⟨xs, n, _, _, hl, hlen, hx⟩ := DataW.trod_struct h hy
  obtain ⟨x, hK, hok⟩ := hf H enc w base spare held n cs (by omega) (fun f hf => by
    obtain ⟨i, hi⟩ := List.getElem?_of_mem hf
    have hil := (List.getElem?_eq_some_iff.1 hi).1
    rw [hx i f (by simpa using hi)]
    exact ⟨_, List.getElem?_eq_getElem (by simpa [hlen] using hil)⟩)
  exact ⟨x, by simpa using hK, hok⟩
theorem opens_iso {α β : Type} {P : Program} {t : TypeId} {d : Kd α} {ok : α → Prop} {g : β → α} {mk : α → β} (h : Opens P t d ok) (hg : ∀ p, g (mk p) = p) : Opens P t (Kd.iso d g) (fun x => ok (g x)) := by
  intro H enc w base spare held fuel cs y hy
  obtain ⟨x, hK, hok⟩ := h H enc w base spare held fuel cs y hy
  refine ⟨mk x, ?_, ?_⟩
  · show d.K w (g (mk x)) cs
    rw [hg]; exact hK
  · show ok (g (mk x))
    rw [hg]; exact hok
end Go.Proofs.YtokfpmkhfindmaaDoorW.PrintWords
