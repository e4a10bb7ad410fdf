-- Written by a program of this session (wip/tools/pp.py over the kit's print).
import Derived.Test.YtckgkhlgnblblaaPFnExactReadBatchx0
import Derived.Test.YtckgkhlgnblblaaPFnExactReadBatchx4
namespace Go.Proofs.Ytckgkhlgnblblaa.PFnExactReadBatch
open Go.RowKit Go.Proofs.YtckgkhlgnblblaaW.PrintWords Go.Proofs.YtckgkhlgnblblaaW.PrintLast Go.Proofs.YtckgkhlgnblblaaW.PrintMore
attribute [local go_sem] max2_int min2_int max_two min_two max_three min_three max_four min_four
attribute [local go_sem high] str_gtr str_leq str_geq
set_option linter.unusedVariables false
set_option linter.unusedSimpArgs false

/-- A state of type 135 at block g of W; what its slices lead to came in by w0. -/
def IsS135 (w0 W : World) (g : Nat) (f0 : List Int) (f1 : Bool) : Prop := ∃ A0 c0, W.heap[g]? = some (.cells #[.slice A0 f0.length c0, .bool f1] 135 (0, 0)) ∧ w0.heap.size ≤ g ∧ Kd.C (Kd.int .u8) w0 A0 f0.length f0
theorem IsS135.grown {w0 W : World} {g : Nat} {f0 : List Int} {f1 : Bool} {W1 : World} {row : Option Nat} (h : IsS135 w0 W g f0 f1) (hw : W.grownBy W1 row) (hne : some g ≠ row) : IsS135 w0 W1 g f0 f1 := by
  obtain ⟨A0, c0, hb, hg, hr0⟩ := h
  exact ⟨A0, c0, blk_grown hb hw hne, hg, hr0⟩
theorem IsS135.own_neN {w0 W : World} {g : Nat} {f0 : List Int} {f1 : Bool} {α : Type} {d : Kd α} {e : Nat} {base : Nat} {ok : Nat → Prop} {v : Value} {xs : List α} (h : IsS135 w0 W g f0 f1) (ho : Kd.N d e W base ok v xs) (ht : e ≠ 135) : some g ≠ v.ownBlock := by
  obtain ⟨A0, c0, hb, hg, hr0⟩ := h
  exact Kd.N_ne ho hb ht
theorem IsS135.fresh {w0 W : World} {g : Nat} {f0 : List Int} {f1 : Bool} (h : IsS135 w0 W g f0 f1) : ∀ k, W.heap.size ≤ k → k ≠ g := by
  obtain ⟨A0, c0, hb, hg, hr0⟩ := h
  exact Kd.freshB hb
theorem IsS135.kept {w0 W : World} {g : Nat} {f0 : List Int} {f1 : Bool} {W1 : World} {S : Nat → Prop} (h : IsS135 w0 W g f0 f1) (hk : Kept W W1 S) (hne : ¬ S g) : IsS135 w0 W1 g f0 f1 := by
  obtain ⟨A0, c0, hb, hg, hr0⟩ := h
  exact ⟨A0, c0, blk_kept hb hk hne, hg, hr0⟩
theorem IsS135.below {w0 W : World} {g : Nat} {f0 : List Int} {f1 : Bool} {W1 : World} (h : IsS135 w0 W g f0 f1) (hw : Below W.heap.size W W1) : IsS135 w0 W1 g f0 f1 := h.grown (grown_of_below hw none) (by simp)
theorem IsS135.alloc {w0 W : World} {g : Nat} {f0 : List Int} {f1 : Bool} (h : IsS135 w0 W g f0 f1) (o : Obj) : IsS135 w0 (W.alloc o) g f0 f1 := h.below (below_alloc (Below.refl _ _) o)
theorem IsS135.drewN {w0 W : World} {g : Nat} {f0 : List Int} {f1 : Bool} (h : IsS135 w0 W g f0 f1) (m : Nat) : IsS135 w0 (W.drewN m) g f0 f1 := h
theorem IsS135.drew {w0 W : World} {g : Nat} {f0 : List Int} {f1 : Bool} (h : IsS135 w0 W g f0 f1) : IsS135 w0 W.drew g f0 f1 := h
theorem IsS135.at_ {w0 W : World} {g : Nat} {f0 : List Int} {f1 : Bool} {w' : World} {m : Nat} (hq : W.drewN m = w') (h : IsS135 w0 W g f0 f1) : IsS135 w0 w' g f0 f1 := by subst hq; exact IsS135.drewN h m
theorem IsS135.apart {w0 W : World} {g : Nat} {f0 : List Int} {f1 : Bool} {α : Type} {d : Kd α} {e : Nat} {base : Nat} {ok : Nat → Prop} {v : Value} {xs : List α} (h : IsS135 w0 W g f0 f1) (ho : d.R e W base ok v xs) (ht : ∀ q, q ∈ e :: d.E → q ≠ 135) : d.R e W base (fun k => ok k ∧ k ≠ g) v xs := by
  obtain ⟨A0, c0, hb, hg, hr0⟩ := h
  exact Kd.R_types ho hb ht
theorem IsS135.own_ne {w0 W : World} {g : Nat} {f0 : List Int} {f1 : Bool} {α : Type} {d : Kd α} {e : Nat} {base : Nat} {ok : Nat → Prop} {v : Value} {xs : List α} (h : IsS135 w0 W g f0 f1) (ho : d.R e W base ok v xs) (ht : e ≠ 135) : some g ≠ v.ownBlock := by
  obtain ⟨A0, c0, hb, hg, hr0⟩ := h
  exact Kd.R_ne ho hb ht
theorem IsS135.apartQ {w0 W : World} {g : Nat} {f0 : List Int} {f1 : Bool} {α : Type} {d : Kd α} {e : Nat} {base : Nat} {ok : Nat → Prop} {v : Value} {xs : List α} (h : IsS135 w0 W g f0 f1) (ho : d.Q e W base ok v xs) (ht : ∀ q, q ∈ e :: d.E → q ≠ 135) : d.Q e W base (fun k => ok k ∧ k ≠ g) v xs := by
  obtain ⟨A0, c0, hb, hg, hr0⟩ := h
  exact Kd.Q_types ho hb ht
theorem IsS135.own_neQ {w0 W : World} {g : Nat} {f0 : List Int} {f1 : Bool} {α : Type} {d : Kd α} {e : Nat} {base : Nat} {ok : Nat → Prop} {v : Value} {xs : List α} (h : IsS135 w0 W g f0 f1) (ho : d.Q e W base ok v xs) (ht : e ≠ 135) : some g ≠ v.ownBlock := by
  obtain ⟨A0, c0, hb, hg, hr0⟩ := h
  exact Kd.Q_ne ho hb ht
theorem IsS135.apartS {w0 W : World} {g : Nat} {f0 : List Int} {f1 : Bool} {α : Type} {d : Kd α} {e : Nat} {base : Nat} {ok : Nat → Prop} {v : Value} {xs : List α} (h : IsS135 w0 W g f0 f1) (ho : d.S e W base ok v xs) (ht : ∀ q, q ∈ e :: d.E → q ≠ 135) : d.S e W base (fun k => ok k ∧ k ≠ g) v xs := by
  obtain ⟨A0, c0, hb, hg, hr0⟩ := h
  exact Kd.S_types ho hb ht
theorem IsS135.own_neS {w0 W : World} {g : Nat} {f0 : List Int} {f1 : Bool} {α : Type} {d : Kd α} {e : Nat} {base : Nat} {ok : Nat → Prop} {v : Value} {xs : List α} (h : IsS135 w0 W g f0 f1) (ho : d.S e W base ok v xs) (ht : e ≠ 135) : some g ≠ v.ownBlock := by
  obtain ⟨A0, c0, hb, hg, hr0⟩ := h
  exact Kd.S_ne ho hb ht
theorem IsS135.lt {w0 W : World} {g : Nat} {f0 : List Int} {f1 : Bool} (h : IsS135 w0 W g f0 f1) : g < W.heap.size := by
  obtain ⟨A0, c0, hb, hg, hr0⟩ := h
  exact blk_lt hb
theorem IsS135.ge {w0 W : World} {g : Nat} {f0 : List Int} {f1 : Bool} (h : IsS135 w0 W g f0 f1) : w0.heap.size ≤ g := by
  obtain ⟨A0, c0, hb, hg, hr0⟩ := h
  exact hg
theorem IsS135.ne_blk {w0 W : World} {g : Nat} {f0 : List Int} {f1 : Bool} {a : Nat} {cs : Array Value} {t : TypeId} {fr : Nat × Nat} (h : IsS135 w0 W g f0 f1) (hb2 : W.heap[a]? = some (.cells cs t fr)) (ht : t ≠ 135) : g ≠ a := by
  obtain ⟨A0, c0, hb, hg, hr0⟩ := h
  rintro rfl
  rw [hb] at hb2
  injection hb2 with hb2
  injection hb2 with _ ht2
  exact ht ht2.symm
theorem IsS135.far {w0 W : World} {g : Nat} {f0 : List Int} {f1 : Bool} {p : Addr} (h : IsS135 w0 W g f0 f1) (hne : g ≠ p.block) (u : Value) : IsS135 w0 (W.setCell p u) g f0 f1 := by
  obtain ⟨A0, c0, hb, hg, hr0⟩ := h
  exact ⟨A0, c0, blk_far hb hne u, hg, hr0⟩
theorem cellS135_0 {W : World} {g : Nat} {A0 : Option Addr} {c0 : Nat} {f0 : List Int} {f1 : Bool} (h : W.heap[g]? = some (.cells #[.slice A0 f0.length c0, .bool f1] 135 (0, 0))) : W.cell? ⟨g, 0, none⟩ = some (.slice A0 f0.length c0) := (blk_cell h 0).trans rfl
theorem cellS135_1 {W : World} {g : Nat} {A0 : Option Addr} {c0 : Nat} {f0 : List Int} {f1 : Bool} (h : W.heap[g]? = some (.cells #[.slice A0 f0.length c0, .bool f1] 135 (0, 0))) : W.cell? ⟨g, 1, none⟩ = some (.bool f1) := (blk_cell h 1).trans rfl
theorem IsS135.set_1 {w0 W : World} {g : Nat} {f0 : List Int} {f1 : Bool} (h : IsS135 w0 W g f0 f1) (x : Bool) : IsS135 w0 (W.setCell ⟨g, 1, none⟩ (.bool x)) g f0 x := by
  obtain ⟨A0, c0, hb, hg, hr0⟩ := h
  exact ⟨A0, c0, by simpa using blk_set hb 1 (.bool x), hg, hr0⟩
theorem IsS135.new (w0 W : World) (A0 : Option Addr) (c0 : Nat) (f0 : List Int) (f1 : Bool) (hB : Below w0.heap.size w0 W) (hr0 : Kd.C (Kd.int .u8) w0 A0 f0.length f0) : IsS135 w0 (W.alloc (.cells #[.slice A0 f0.length c0, .bool f1] 135)) W.heap.size f0 f1 := ⟨A0, c0, by simpa using heap_alloc_new W _, hB.size, hr0⟩

/-! ### impl_cursor_ended: function 105 -/
def impl_cursor_ended.f (s0_0 : List Int) (s0_1 : Bool) : Option (Bool × Bool) := if s0_1 = true then (some (false, s0_1)) else (some (((s0_0.length : Int) == 0), s0_1))
set_option maxHeartbeats 8000000 in
set_option maxRecDepth 100000 in
theorem impl_cursor_ended.calls (g : Nat) (s0_0 : List Int) (s0_1 : Bool) (r1 : Bool) (r2 : Bool) (w0 w : World) (hI : IsS135 w0 w g s0_0 s0_1) (hB : Below w0.heap.size w0 w) (h : impl_cursor_ended.f s0_0 s0_1 = some (r1, r2)) :
    Calls Try.prog 105 #[.pointer (some ⟨g, 0, none⟩)] w fun e w' => e = .returned (.bool r1) ∧ IsS135 w0 w' g s0_0 r2 ∧ Below w0.heap.size w0 w' ∧ KeepBut w w' g none := by
  have HI0 := Aside0.mk hI
  have HK := Aside0.mk (KeepBut.refl w g none)
  have HL := Aside0.mk hB.size
  clear hI
  have HW0 := Aside0.mk hB.size
  have HB := Aside0.mk hB
  clear hB
  have H : (if s0_1 = true then (some (false, s0_1)) else (some (((s0_0.length : Int) == 0), s0_1))) = some (r1, r2) := h
  clear h
  by_cases c2 : s0_1 = true
  · subst c2
    have H1 : (some (false, true)) = some (r1, r2) := by rw [if_pos rfl] at H; exact H
    clear H
    have H := H1
    clear H1
    simp only [Option.some.injEq, Prod.mk.injEq] at H
    obtain ⟨rfl, rfl⟩ := H
    obtain ⟨ASz3_0, cSz3_0, HGz3, hgz3, HSz3_0⟩ := HI0.out
    have hcz3_0 := cellS135_0 HGz3
    have hcz3_1 := cellS135_1 HGz3
    have hfz3_1 := blk_frozen HGz3 1
    clear HGz3 hgz3
    go_enter Try.func105, Try.ntmps105
    go_wp2
    go_ret
    exact ⟨by first | rfl | (simp [errW_none, errW_some] <;> rfl) | (simp [*, errW_none, errW_some] <;> rfl), by repeat (first | (with_reducible first | exact HI0.out | apply IsS135.alloc | apply IsS135.drewN | apply IsS135.drew | apply IsS135.set_1) | exact HI0.out), by repeat (first | (with_reducible first | exact HB.out | apply below_alloc | apply pw_below_drewN | apply below_drew1 | refine below_set ?_ (IsS135.ge HI0.out)) | exact HB.out), by repeat (first | (with_reducible first | exact HK.out | apply KeepBut.set_ | apply keep_drewN | apply keep_drew | apply keep_alloc) | exact HK.out)⟩
  · replace c2 := Bool.eq_false_iff.mpr c2
    subst c2
    have H1 : (some (((s0_0.length : Int) == 0), false)) = some (r1, r2) := by rw [if_neg (show ¬ (false = true) by decide)] at H; exact H
    clear H
    have H := H1
    clear H1
    simp only [Option.some.injEq, Prod.mk.injEq] at H
    obtain ⟨rfl, rfl⟩ := H
    obtain ⟨ASz4_0, cSz4_0, HGz4, hgz4, HSz4_0⟩ := HI0.out
    have hcz4_0 := cellS135_0 HGz4
    have hcz4_1 := cellS135_1 HGz4
    have hfz4_1 := blk_frozen HGz4 1
    clear HGz4 hgz4
    go_enter Try.func105, Try.ntmps105
    go_wp2
    go_ret
    exact ⟨by first | rfl | (simp [errW_none, errW_some] <;> rfl) | (simp [*, errW_none, errW_some] <;> rfl), by repeat (first | (with_reducible first | exact HI0.out | apply IsS135.alloc | apply IsS135.drewN | apply IsS135.drew | apply IsS135.set_1) | exact HI0.out), by repeat (first | (with_reducible first | exact HB.out | apply below_alloc | apply pw_below_drewN | apply below_drew1 | refine below_set ?_ (IsS135.ge HI0.out)) | exact HB.out), by repeat (first | (with_reducible first | exact HK.out | apply KeepBut.set_ | apply keep_drewN | apply keep_drew | apply keep_alloc) | exact HK.out)⟩

/-! ### impl_ReadTexts: function 98 -/
def idxP {α : Type} (p : α → Bool) (l : List α) : Int := match l.findIdx? p with | some i => (i : Int) | none => -1
/-- what is asked of a predicate that is handed over -/
def PredOk {α : Type} (P : Program) (d : Kd α) (g : Nat) (lb : Array Value) (val : List Value → Value) (p : α → Bool) (l : List α) (w : World) : Prop :=
  ∀ (W : World) (x : α) (cs : List Value), x ∈ l → Below w.heap.size w W → d.K W x cs → Calls P g (#[val cs] ++ lb) W fun e w' => e = .returned (.bool (p x)) ∧ Below W.heap.size W w'
theorem idxP_hit {α : Type} {p : α → Bool} {l : List α} {i : Nat} {x : α} (h : l[i]? = some x) (hx : p x = true) (hb : ∀ j y, j < i → l[j]? = some y → p y = false) : idxP p l = (i : Int) := by
  have : l.findIdx? p = some i := by
    rw [List.findIdx?_eq_some_iff_getElem]
    obtain ⟨hi, he⟩ := List.getElem?_eq_some_iff.1 h
    refine ⟨hi, by rw [he]; exact hx, fun j hj => ?_⟩
    have := hb j l[j] hj (List.getElem?_eq_getElem (by omega))
    simp [this]
  simp [idxP, this]
theorem idxP_miss {α : Type} {p : α → Bool} {l : List α} (hb : ∀ j y, j < l.length → l[j]? = some y → p y = false) : idxP p l = -1 := by
  have : l.findIdx? p = none := by
    rw [List.findIdx?_eq_none_iff]
    intro x hx
    obtain ⟨j, hj⟩ := List.getElem?_of_mem hx
    have := hb j x (List.getElem?_eq_some_iff.1 hj).1 hj
    simp [this]
  simp [idxP, this]
theorem idxP_any {α : Type} (p : α → Bool) (l : List α) : decide (0 ≤ idxP p l) = l.any p := by
  unfold idxP
  cases h : l.findIdx? p with
  | none =>
    rw [List.findIdx?_eq_none_iff] at h
    have : l.any p = false := by rw [List.any_eq_false]; intro x hx; simp [h x hx]
    rw [this]; decide
  | some i =>
    rw [List.findIdx?_eq_some_iff_getElem] at h
    obtain ⟨hi, hp, _⟩ := h
    have : l.any p = true := List.any_eq_true.2 ⟨l[i], List.getElem_mem hi, hp⟩
    rw [this]; simp
theorem enters_ {P : Program} {f : FuncId} {fn : Func} {c : Code} (hf : P.funcs[f]? = some fn) (hname : (fn.name == "runtime.NumGoroutine") = false) (hb : fn.body = some c) : ∀ (args : Array Value) (w : World), (callFunc f args).run P w = .ok (.enter f args) w := by
  intro args w
  have h1 : fn.name ≠ "runtime.NumGoroutine" := by simpa using hname
  simp [callFunc, hf, h1, hb, mark]
def CurAt (w0 W : World) (g : Nat) (xs : List Int) (bad : Bool) : Prop := ∃ (A : Option Addr) (c : Nat), W.heap[g]? = some (.cells #[.slice A xs.length c, .bool bad] 135 (0, 0)) ∧ w0.heap.size ≤ g ∧ xs.length ≤ c ∧ Kd.C (Kd.int .u8) w0 A xs.length xs
def impl_cursor_goes.f (xs : List Int) (bad : Bool) (t : Int) : Option (List Int × Bool) := if 0 ≤ t ∧ t ≤ (xs.length : Int) then some (xs.drop t.toNat, bad || (t == 0)) else none
set_option maxHeartbeats 8000000 in
set_option maxRecDepth 100000 in
theorem impl_cursor_goes.calls (g : Nat) (xs : List Int) (bad : Bool) (t : Int) (ys : List Int) (b : Bool) (w0 w : World) (hI : CurAt w0 w g xs bad) (hB : Below w0.heap.size w0 w) (h : impl_cursor_goes.f xs bad t = some (ys, b)) :
    Calls Try.prog 154 #[.pointer (some ⟨g, 0, none⟩), .int .i64 t] w fun e w' => e = .returned (.tuple #[]) ∧ CurAt w0 w' g ys b ∧ Below w0.heap.size w0 w' ∧ KeepBut w w' g none := by
  unfold impl_cursor_goes.f at h
  by_cases ht : 0 ≤ t ∧ t ≤ (xs.length : Int)
  · rw [if_pos ht] at h
    obtain ⟨rfl, rfl⟩ : xs.drop t.toNat = ys ∧ (bad || (t == 0)) = b := by simpa using h
    clear h
    obtain ⟨h0, h1⟩ := ht
    obtain ⟨A, c, HG, hg, hcc, HC⟩ := hI
    have hc0 : w.cell? ⟨g, 0, none⟩ = some (.slice A xs.length c) := (blk_cell HG 0).trans rfl
    have hc1 : w.cell? ⟨g, 1, none⟩ = some (.bool bad) := (blk_cell HG 1).trans rfl
    have hf0 := blk_frozen HG 0
    have hf1 := blk_frozen HG 1
    obtain ⟨i0, hi0, _, hsz, _⟩ := info_parts info5
    obtain ⟨A', hcut, hA, hC'⟩ := print_drop_of (P := Try.prog) (Value.int .u8) 0 83 5 .i64 Try.underlying83 hi0 hsz A c xs t h0 h1 hcc
    have HG' := Aside0.mk HG
    have HC' := Aside0.mk (Kd.C_of_reads (h1 := fun _ => rfl) (hA _ (Kd.reads_of_C HC)))
    have HL := Aside0.mk hC'
    have HB := Aside0.mk hB
    have HK := Aside0.mk (KeepBut.refl w g none)
    have HGE := Aside0.mk hg
    clear hA hC' hi0 hsz hB hg HC hcc HG
    have p1 : decide (0 ≤ t) = true := decide_eq_true h0
    have p2 : decide (t ≤ (xs.length : Int)) = true := decide_eq_true h1
    have hlen : (xs.drop t.toNat).length = xs.length - t.toNat := List.length_drop
    rw [hlen] at hcut HC' HL
    cases bad with
    | true =>
      go_enter Try.func154, Try.ntmps154
      go_wp2
      go_end0
      refine ⟨rfl, ⟨A', c - t.toNat, ?_, HGE.out, by rw [hlen]; exact HL.out, by rw [hlen]; exact HC'.out⟩, below_set (below_set HB.out HGE.out) HGE.out, (HK.out.set_ 1 _).set_ 0 _⟩
      rw [hlen]
      exact blk_set (blk_set HG'.out 1 _) 0 _
    | false =>
      go_enter Try.func154, Try.ntmps154
      go_wp2
      go_end0
      refine ⟨rfl, ⟨A', c - t.toNat, ?_, HGE.out, by rw [hlen]; exact HL.out, by rw [hlen]; exact HC'.out⟩, below_set (below_set HB.out HGE.out) HGE.out, (HK.out.set_ 1 _).set_ 0 _⟩
      rw [hlen]
      exact blk_set (blk_set HG'.out 1 _) 0 _
  · rw [if_neg ht] at h
    cases h
theorem CurAt.below {w0 W W1 : World} {g : Nat} {xs : List Int} {bad : Bool} (h : CurAt w0 W g xs bad) (hb : Below W.heap.size W W1) : CurAt w0 W1 g xs bad := by
  obtain ⟨A, c, HG, hg, hc, HC⟩ := h
  exact ⟨A, c, blk_below HG hb, hg, hc, HC⟩
theorem CurAt.drewN {w0 W : World} {g : Nat} {xs : List Int} {bad : Bool} (h : CurAt w0 W g xs bad) (n : Nat) : CurAt w0 (W.drewN n) g xs bad := h
def impl_cursor_number.f (k : Nat) (xs : List Int) (bad : Bool) : Option (Int × List Int × Bool) := (impl_ReadNumber.f k xs).bind fun p => (impl_cursor_goes.f xs bad p.2).bind fun q => some (p.1, q.1, q.2)
set_option maxHeartbeats 8000000 in
set_option maxRecDepth 100000 in
theorem impl_cursor_number.calls (k : Nat) (g : Nat) (xs : List Int) (bad : Bool) (r : Int) (ys : List Int) (b : Bool) (w0 w : World) (hI : CurAt w0 w g xs bad) (hB : Below w0.heap.size w0 w) (h : impl_cursor_number.f k xs bad = some (r, ys, b)) :
    Calls Try.prog 103 #[.pointer (some ⟨g, 0, none⟩)] w fun e w' => e = .returned (.int .i64 r) ∧ CurAt w0 w' g ys b ∧ Below w0.heap.size w0 w' ∧ KeepBut w w' g none := by
  have eg1 : ∀ args w, (callFunc 153 args).run Try.prog w = .ok (.enter 153 args) w := enters_ Try.func153 (by kernel_rfl) rfl
  have eg2 : ∀ args w, (callFunc 154 args).run Try.prog w = .ok (.enter 154 args) w := enters_ Try.func154 (by kernel_rfl) rfl
  unfold impl_cursor_number.f at h
  obtain ⟨⟨n, t⟩, h1, h⟩ := Option.bind_eq_some_iff.1 h
  obtain ⟨⟨ys', b'⟩, h2, h⟩ := Option.bind_eq_some_iff.1 h
  obtain ⟨rfl, rfl, rfl⟩ : n = r ∧ ys' = ys ∧ b' = b := by simpa using h
  clear h
  have HI := Aside0.mk hI
  have HB := Aside0.mk hB
  have H1 := Aside0.mk h1
  have H2 := Aside0.mk h2
  clear h1 h2 hB
  obtain ⟨A, c, HG, hg, hcc, HC⟩ := hI
  have hc0 : w.cell? ⟨g, 0, none⟩ = some (.slice A xs.length c) := (blk_cell HG 0).trans rfl
  have HC := Aside0.mk (Kd.C_below HC HB.out)
  have HCC := Aside0.mk hcc
  clear HG hg hcc
  go_enter Try.func103, Try.ntmps103
  go_wp2_with fail
  refine (impl_ReadNumber.calls k A c xs n t _ HC.out HCC.out H1.out).mono ?_
  rintro e w' ⟨rfl, ⟨nd, rfl⟩⟩
  go_wp2_with fail
  refine (impl_cursor_goes.calls g xs bad t ys' b' w0 _ (CurAt.drewN HI.out nd) (pw_below_drewN HB.out nd) H2.out).mono ?_
  rintro e w' ⟨rfl, hI, hB, hK⟩
  have HI2 := Aside0.mk hI
  have HB2 := Aside0.mk hB
  have HK2 := Aside0.mk hK
  clear hI hB hK
  go_wp2
  go_ret
  exact ⟨rfl, HI2.out, HB2.out, HK2.out⟩
def impl_cursor_text.f (k : Nat) (xs : List Int) (bad : Bool) : Option (ByteArray × List Int × Bool) := (impl_ReadText.f k xs).bind fun p => (impl_cursor_goes.f xs bad p.2).bind fun q => some (p.1, q.1, q.2)
set_option maxHeartbeats 8000000 in
set_option maxRecDepth 100000 in
theorem impl_cursor_text.calls (k : Nat) (g : Nat) (xs : List Int) (bad : Bool) (r : ByteArray) (ys : List Int) (b : Bool) (w0 w : World) (hI : CurAt w0 w g xs bad) (hB : Below w0.heap.size w0 w) (h : impl_cursor_text.f k xs bad = some (r, ys, b)) :
    Calls Try.prog 155 #[.pointer (some ⟨g, 0, none⟩)] w fun e w' => e = .returned (.string r) ∧ CurAt w0 w' g ys b ∧ Below w0.heap.size w0 w' ∧ KeepBut w w' g none := by
  have eg1 : ∀ args w, (callFunc 167 args).run Try.prog w = .ok (.enter 167 args) w := enters_ Try.func167 (by kernel_rfl) rfl
  have eg2 : ∀ args w, (callFunc 154 args).run Try.prog w = .ok (.enter 154 args) w := enters_ Try.func154 (by kernel_rfl) rfl
  unfold impl_cursor_text.f at h
  obtain ⟨⟨n, t⟩, h1, h⟩ := Option.bind_eq_some_iff.1 h
  obtain ⟨⟨ys', b'⟩, h2, h⟩ := Option.bind_eq_some_iff.1 h
  obtain ⟨rfl, rfl, rfl⟩ : n = r ∧ ys' = ys ∧ b' = b := by simpa using h
  clear h
  have HI := Aside0.mk hI
  have HB := Aside0.mk hB
  have H1 := Aside0.mk h1
  have H2 := Aside0.mk h2
  clear h1 h2 hB
  obtain ⟨A, c, HG, hg, hcc, HC⟩ := hI
  have hc0 : w.cell? ⟨g, 0, none⟩ = some (.slice A xs.length c) := (blk_cell HG 0).trans rfl
  have HC := Aside0.mk (Kd.C_below HC HB.out)
  have HCC := Aside0.mk hcc
  clear HG hg hcc
  go_enter Try.func155, Try.ntmps155
  go_wp2_with fail
  refine (impl_ReadText.calls k A c xs n t _ HC.out HCC.out H1.out).mono ?_
  rintro e w' ⟨rfl, ⟨nd, rfl⟩⟩
  go_wp2_with fail
  refine (impl_cursor_goes.calls g xs bad t ys' b' w0 _ (CurAt.drewN HI.out nd) (pw_below_drewN HB.out nd) H2.out).mono ?_
  rintro e w' ⟨rfl, hI, hB, hK⟩
  have HI2 := Aside0.mk hI
  have HB2 := Aside0.mk hB
  have HK2 := Aside0.mk hK
  clear hI hB hK
  go_wp2
  go_ret
  exact ⟨rfl, HI2.out, HB2.out, HK2.out⟩
def impl_cursor_texts.l0 : Nat → List Int → Bool → Int → List ByteArray → Option (List ByteArray × List Int × Bool)
  | 0, _, _, _, _ => none
  | k + 1, xs, bad, m, out => if m > 0 then (if bad = true then some (out, xs, bad) else (impl_cursor_text.f k xs bad).bind fun t => if out.length < 8796093022208 then impl_cursor_texts.l0 k t.2.1 t.2.2 (wrap64 (m - 1)) (out ++ [t.1]) else none) else some (out, xs, bad)
def impl_cursor_texts.f (k : Nat) (xs : List Int) (bad : Bool) : Option (List ByteArray × List Int × Bool) := (impl_cursor_number.f k xs bad).bind fun m => impl_cursor_texts.l0 k m.2.1 (if m.1 > 200 then true else m.2.2) m.1 []
theorem CurAt.set_1 {w0 W : World} {g : Nat} {xs : List Int} {bad : Bool} (h : CurAt w0 W g xs bad) (x : Bool) : CurAt w0 (W.setCell ⟨g, 1, none⟩ (.bool x)) g xs x := by
  obtain ⟨A, c, HG, hg, hc, HC⟩ := h
  exact ⟨A, c, blk_set HG 1 _, hg, hc, HC⟩
theorem CurAt.ge {w0 W : World} {g : Nat} {xs : List Int} {bad : Bool} (h : CurAt w0 W g xs bad) : w0.heap.size ≤ g := by
  obtain ⟨A, c, HG, hg, hc, HC⟩ := h
  exact hg
theorem CurAt.lt {w0 W : World} {g : Nat} {xs : List Int} {bad : Bool} (h : CurAt w0 W g xs bad) : g < W.heap.size := by
  obtain ⟨A, c, HG, hg, hc, HC⟩ := h
  exact blk_lt HG
theorem CurAt.cell1 {w0 W : World} {g : Nat} {xs : List Int} {bad : Bool} (h : CurAt w0 W g xs bad) : W.cell? ⟨g, 1, none⟩ = some (.bool bad) ∧ W.frozen? ⟨g, 1, none⟩ = false := by
  obtain ⟨A, c, HG, hg, hc, HC⟩ := h
  exact ⟨(blk_cell HG 1).trans rfl, blk_frozen HG 1⟩
set_option maxHeartbeats 8000000 in
set_option maxRecDepth 100000 in
theorem impl_cursor_texts.calls (k : Nat) (g : Nat) (xs : List Int) (bad : Bool) (r : List ByteArray) (ys : List Int) (b : Bool) (w0 w : World) (hI : CurAt w0 w g xs bad) (hB : Below w0.heap.size w0 w) (h : impl_cursor_texts.f k xs bad = some (r, ys, b)) :
    Calls Try.prog 104 #[.pointer (some ⟨g, 0, none⟩)] w fun e w' => ∃ v : Value, e = .returned v ∧ Kd.R Kd.string 9 w' w.heap.size (fun k => k ≠ g) v r ∧ CurAt w0 w' g ys b ∧ Below w0.heap.size w0 w' ∧ KeepBut w w' g none := by
  have eg1 : ∀ args w, (callFunc 103 args).run Try.prog w = .ok (.enter 103 args) w := enters_ Try.func103 (by kernel_rfl) rfl
  have eg2 : ∀ args w, (callFunc 155 args).run Try.prog w = .ok (.enter 155 args) w := enters_ Try.func155 (by kernel_rfl) rfl
  unfold impl_cursor_texts.f at h
  obtain ⟨⟨m, xs1, bad1⟩, h1, h⟩ := Option.bind_eq_some_iff.1 h
  have h : impl_cursor_texts.l0 k xs1 (if m > 200 then true else bad1) m [] = some (r, ys, b) := h
  have HI := Aside0.mk hI
  have HB := Aside0.mk hB
  have H1 := Aside0.mk h1
  have H := Aside0.mk h
  have HL := Aside0.mk hI.lt
  clear h1 hB h hI
  go_enter Try.func104, Try.ntmps104
  go_wp2_with fail
  refine (impl_cursor_number.calls k g xs bad m xs1 bad1 w0 _ HI.out HB.out H1.out).mono ?_
  rintro e w' ⟨rfl, hI, hB, hK⟩
  have HI2 := Aside0.mk hI
  have HB2 := Aside0.mk hB
  have HK2 := Aside0.mk hK
  clear hI hB hK HI HB H1
  by_cases c2 : m > 200
  · have c2b : decide (200 < m) = true := decide_eq_true c2
    have H2 : Aside0 (impl_cursor_texts.l0 k xs1 true m [] = some (r, ys, b)) := ⟨by have := H.out; rw [if_pos c2] at this; exact this⟩
    clear c2 H
    go_wp2_with (first | ((with_reducible refine gate_dst (N := 7) rfl ?_); refine Kd.R_lit Kd.string _ 9 ?hg (N := 7) ?hd (xs := ([] : List ByteArray)) (inner := []) (ok := fun _ => True) (okp := fun _ => True) ?hr ?hp (fun _ hk => hk) trivial (Below.refl _ _) (Nat.le_refl _) (by simp) ?_; (case hd => rfl); (case hg => rfl); (case hr => first | (go_simp; done) | (go_simp; rfl)); (case hp => exact (Reps.none _ _)); intro v4 w4 ho hb hg_ hnew_; clear hg_ hnew_; have HO := Aside0.mk (Kd.R_lower (Kd.R_mono (Kd.R_bound ho) (fun k_ hk_ => (by have := hk_.2.1; have := HI2.out.lt; omega : k_ ≠ g))) (below_size HB2.out |> fun _ => Nat.le_trans (keep_size HK2.out) (Nat.le_refl _))); have HI3 := Aside0.mk (HI2.out.below hb); have HB3 := Aside0.mk (below_then HB2.out (below_size HB2.out) hb); have HK3 := Aside0.mk (HK2.out.trans (KeepBut.of_below hb g none) (.inl rfl)); have hcell := HI3.out.cell1.1; have hfro := HI3.out.cell1.2; clear hb ho))
    go_loopg [3, 4] k (fun kq v3 v4 w' => ∃ (m : Int) (out : List ByteArray) (xs : List Int) (bad : Bool), v3 = .int .i64 m ∧ Aside0 (impl_cursor_texts.l0 kq xs bad m out = some (r, ys, b)) ∧ Aside0 (kq ≤ k) ∧ Aside0 (CurAt w0 w' g xs bad) ∧ Aside0 (Kd.R Kd.string 9 w' w.heap.size (fun k => k ≠ g) v4 out) ∧ Aside0 (Below w0.heap.size w0 w') ∧ Aside0 (KeepBut w w' g none))
    case atStart => exact ⟨m, [], xs1, true, rfl, H2, ⟨Nat.le_refl _⟩, ⟨HI3.out.set_1 true⟩, ⟨Kd.R_keep HO.out ((KeepBut.refl w4 g none).set_ 1 _) (fun _ h => h)⟩, ⟨below_set HB3.out HI3.out.ge⟩, ⟨HK3.out.set_ 1 _⟩⟩
    case round =>
      clear H2 HI2 HB2 HK2 c2b HO HI3 HB3 HK3 hcell hfro
      obtain ⟨m, out, xs, bad, rfl, HA, HKQ, HI, HO, HB, HK⟩ := hrel
      have hcell := HI.out.cell1.1
      have hfro := HI.out.cell1.2
      cases gk with
      | zero => exact absurd HA.out (by simp [impl_cursor_texts.l0])
      | succ kq =>
        have H := HA.out
        clear HA
        simp only [impl_cursor_texts.l0] at H
        by_cases c3 : m > 0
        · rw [if_pos c3] at H
          have c3b : decide (0 < m) = true := decide_eq_true c3
          clear c3
          cases bad with
          | true =>
            rw [if_pos rfl] at H
            obtain ⟨rfl, rfl, rfl⟩ : out = r ∧ xs = ys ∧ true = b := by simpa using H
            clear H
            go_wp2
            go_ret
            exact ⟨_, rfl, HO.out, HI.out, HB.out, HK.out⟩
          | false =>
            rw [if_neg (by simp)] at H
            obtain ⟨⟨s, xs2, bad2⟩, h1, H⟩ := Option.bind_eq_some_iff.1 H
            have H1 := Aside0.mk h1
            clear h1
            by_cases c4 : out.length < 8796093022208
            · have H : impl_cursor_texts.l0 kq xs2 bad2 (wrap64 (m - 1)) (out ++ [s]) = some (r, ys, b) := by rw [if_pos c4] at H; exact H
              have HA := Aside0.mk H
              have LM := Aside0.mk c4
              clear c4 H
              go_wp2_with fail
              refine (impl_cursor_text.calls kq g xs false s xs2 bad2 w0 _ HI.out HB.out H1.out).mono ?_
              rintro e w' ⟨rfl, hI, hB, hK⟩
              have HI2 := Aside0.mk hI
              have HB2 := Aside0.mk hB
              have HO2 := Aside0.mk (Kd.R_keep HO.out hK (fun _ h => h))
              have HK2 := Aside0.mk (HK.out.trans hK (.inl rfl))
              clear hI hB hK HI HB HK HO
              go_wp2_with (first | ((with_reducible refine gate_builtin (b := .append) (xs := #[.tmp 24, .tmp 27]) rfl ?_); at_builtin; refine Kd.R_append Kd.string (w0 := w') w.heap.size rfl (.tmp 24) (.tmp 27) 24 9 (.string ⟨#[]⟩) 16 rfl Try.underlying24 info9 rfl (by decide) (by omega) u4 out s [.string s] (fun k_ => k_ ≠ g) (fun _ => False) rfl rfl ?aP (fun _ hk => hk.elim) ?aF ?aO ?aB ?aS ?aL ?_; (case aP => exact rfl); (case aB => exact Below.refl _ _); (case aF => exact (fun k_ hk_ => Nat.ne_of_gt (Nat.lt_of_lt_of_le HI2.out.lt hk_))); (case aO => exact HO2.out); (case aS => exact keep_size HK2.out); (case aL => have := LM.out; omega); intro v5 w5 ho hb hg hat; have HO3 := Aside0.mk ho; have HG3 := Aside0.mk hg; have HB8 := Aside0.mk hb; clear ho hb hg hat))
              have HB4 : Aside0 (Below w0.heap.size w0 w5) := ⟨HB2.out.trans ⟨HB8.out.os, HB8.out.tape, HB8.out.output, HB8.out.size, fun i hi => HB8.out.block i (by have := HI2.out.ge; have := HL.out; omega)⟩⟩
              have HK4 : Aside0 (KeepBut w w5 g none) := ⟨⟨Nat.le_trans (keep_size HK2.out) HB8.out.size, fun i hi hg hr => (HB8.out.block i hi).trans (HK2.out.2 i hi hg hr)⟩⟩
              have HI4 : Aside0 (CurAt w0 w5 g xs2 bad2) := ⟨by obtain ⟨A, c, h1, h2⟩ := HI2.out; exact ⟨A, c, (HB8.out.block g HL.out).trans h1, h2⟩⟩
              go_roundg kq
              case measure => have := HKQ.out; omega
              case rel => exact ⟨wrap64 (m - 1), out ++ [s], xs2, bad2, (by first | rfl | (simp; done)), HA, ⟨by have := HKQ.out; omega⟩, HI4, HO3, HB4, HK4⟩
            · rw [if_neg c4] at H
              cases H
        · rw [if_neg c3] at H
          have c3b : decide (0 < m) = false := decide_eq_false c3
          clear c3
          obtain ⟨rfl, rfl, rfl⟩ : out = r ∧ xs = ys ∧ bad = b := by simpa using H
          clear H
          go_wp2
          go_ret
          exact ⟨_, rfl, HO.out, HI.out, HB.out, HK.out⟩
  · have c2b : decide (200 < m) = false := decide_eq_false c2
    have H2 : Aside0 (impl_cursor_texts.l0 k xs1 bad1 m [] = some (r, ys, b)) := ⟨by have := H.out; rw [if_neg c2] at this; exact this⟩
    clear c2 H
    go_wp2_with (first | ((with_reducible refine gate_dst (N := 7) rfl ?_); refine Kd.R_lit Kd.string _ 9 ?hg (N := 7) ?hd (xs := ([] : List ByteArray)) (inner := []) (ok := fun _ => True) (okp := fun _ => True) ?hr ?hp (fun _ hk => hk) trivial (Below.refl _ _) (Nat.le_refl _) (by simp) ?_; (case hd => rfl); (case hg => rfl); (case hr => first | (go_simp; done) | (go_simp; rfl)); (case hp => exact (Reps.none _ _)); intro v4 w4 ho hb hg_ hnew_; clear hg_ hnew_; have HO := Aside0.mk (Kd.R_lower (Kd.R_mono (Kd.R_bound ho) (fun k_ hk_ => (by have := hk_.2.1; have := HI2.out.lt; omega : k_ ≠ g))) (below_size HB2.out |> fun _ => Nat.le_trans (keep_size HK2.out) (Nat.le_refl _))); have HI3 := Aside0.mk (HI2.out.below hb); have HB3 := Aside0.mk (below_then HB2.out (below_size HB2.out) hb); have HK3 := Aside0.mk (HK2.out.trans (KeepBut.of_below hb g none) (.inl rfl)); have hcell := HI3.out.cell1.1; have hfro := HI3.out.cell1.2; clear hb ho))
    go_loopg [3, 4] k (fun kq v3 v4 w' => ∃ (m : Int) (out : List ByteArray) (xs : List Int) (bad : Bool), v3 = .int .i64 m ∧ Aside0 (impl_cursor_texts.l0 kq xs bad m out = some (r, ys, b)) ∧ Aside0 (kq ≤ k) ∧ Aside0 (CurAt w0 w' g xs bad) ∧ Aside0 (Kd.R Kd.string 9 w' w.heap.size (fun k => k ≠ g) v4 out) ∧ Aside0 (Below w0.heap.size w0 w') ∧ Aside0 (KeepBut w w' g none))
    case atStart => exact ⟨m, [], xs1, bad1, rfl, H2, ⟨Nat.le_refl _⟩, HI3, HO, HB3, HK3⟩
    case round =>
      clear H2 HI2 HB2 HK2 c2b HO HI3 HB3 HK3 hcell hfro
      obtain ⟨m, out, xs, bad, rfl, HA, HKQ, HI, HO, HB, HK⟩ := hrel
      have hcell := HI.out.cell1.1
      have hfro := HI.out.cell1.2
      cases gk with
      | zero => exact absurd HA.out (by simp [impl_cursor_texts.l0])
      | succ kq =>
        have H := HA.out
        clear HA
        simp only [impl_cursor_texts.l0] at H
        by_cases c3 : m > 0
        · rw [if_pos c3] at H
          have c3b : decide (0 < m) = true := decide_eq_true c3
          clear c3
          cases bad with
          | true =>
            rw [if_pos rfl] at H
            obtain ⟨rfl, rfl, rfl⟩ : out = r ∧ xs = ys ∧ true = b := by simpa using H
            clear H
            go_wp2
            go_ret
            exact ⟨_, rfl, HO.out, HI.out, HB.out, HK.out⟩
          | false =>
            rw [if_neg (by simp)] at H
            obtain ⟨⟨s, xs2, bad2⟩, h1, H⟩ := Option.bind_eq_some_iff.1 H
            have H1 := Aside0.mk h1
            clear h1
            by_cases c4 : out.length < 8796093022208
            · have H : impl_cursor_texts.l0 kq xs2 bad2 (wrap64 (m - 1)) (out ++ [s]) = some (r, ys, b) := by rw [if_pos c4] at H; exact H
              have HA := Aside0.mk H
              have LM := Aside0.mk c4
              clear c4 H
              go_wp2_with fail
              refine (impl_cursor_text.calls kq g xs false s xs2 bad2 w0 _ HI.out HB.out H1.out).mono ?_
              rintro e w' ⟨rfl, hI, hB, hK⟩
              have HI2 := Aside0.mk hI
              have HB2 := Aside0.mk hB
              have HO2 := Aside0.mk (Kd.R_keep HO.out hK (fun _ h => h))
              have HK2 := Aside0.mk (HK.out.trans hK (.inl rfl))
              clear hI hB hK HI HB HK HO
              go_wp2_with (first | ((with_reducible refine gate_builtin (b := .append) (xs := #[.tmp 24, .tmp 27]) rfl ?_); at_builtin; refine Kd.R_append Kd.string (w0 := w') w.heap.size rfl (.tmp 24) (.tmp 27) 24 9 (.string ⟨#[]⟩) 16 rfl Try.underlying24 info9 rfl (by decide) (by omega) u4 out s [.string s] (fun k_ => k_ ≠ g) (fun _ => False) rfl rfl ?aP (fun _ hk => hk.elim) ?aF ?aO ?aB ?aS ?aL ?_; (case aP => exact rfl); (case aB => exact Below.refl _ _); (case aF => exact (fun k_ hk_ => Nat.ne_of_gt (Nat.lt_of_lt_of_le HI2.out.lt hk_))); (case aO => exact HO2.out); (case aS => exact keep_size HK2.out); (case aL => have := LM.out; omega); intro v5 w5 ho hb hg hat; have HO3 := Aside0.mk ho; have HG3 := Aside0.mk hg; have HB8 := Aside0.mk hb; clear ho hb hg hat))
              have HB4 : Aside0 (Below w0.heap.size w0 w5) := ⟨HB2.out.trans ⟨HB8.out.os, HB8.out.tape, HB8.out.output, HB8.out.size, fun i hi => HB8.out.block i (by have := HI2.out.ge; have := HL.out; omega)⟩⟩
              have HK4 : Aside0 (KeepBut w w5 g none) := ⟨⟨Nat.le_trans (keep_size HK2.out) HB8.out.size, fun i hi hg hr => (HB8.out.block i hi).trans (HK2.out.2 i hi hg hr)⟩⟩
              have HI4 : Aside0 (CurAt w0 w5 g xs2 bad2) := ⟨by obtain ⟨A, c, h1, h2⟩ := HI2.out; exact ⟨A, c, (HB8.out.block g HL.out).trans h1, h2⟩⟩
              go_roundg kq
              case measure => have := HKQ.out; omega
              case rel => exact ⟨wrap64 (m - 1), out ++ [s], xs2, bad2, (by first | rfl | (simp; done)), HA, ⟨by have := HKQ.out; omega⟩, HI4, HO3, HB4, HK4⟩
            · rw [if_neg c4] at H
              cases H
        · rw [if_neg c3] at H
          have c3b : decide (0 < m) = false := decide_eq_false c3
          clear c3
          obtain ⟨rfl, rfl, rfl⟩ : out = r ∧ xs = ys ∧ bad = b := by simpa using H
          clear H
          go_wp2
          go_ret
          exact ⟨_, rfl, HO.out, HI.out, HB.out, HK.out⟩
theorem CurAt.isS {w0 W : World} {g : Nat} {xs : List Int} {bad : Bool} (h : CurAt w0 W g xs bad) : IsS135 w0 W g xs bad := by
  obtain ⟨A, c, HG, hg, hc, HC⟩ := h
  exact ⟨A, c, HG, hg, HC⟩
theorem impl_cursor_number.mono : ∀ a0 a1 k, LeO (impl_cursor_number.f k a0 a1) (impl_cursor_number.f (k + 1) a0 a1) := by
  intro a0 a1 k
  unfold impl_cursor_number.f
  exact LeO.bind (impl_ReadNumber.mono _ _) (fun _ => LeO.refl _)
theorem impl_cursor_text.mono : ∀ a0 a1 k, LeO (impl_cursor_text.f k a0 a1) (impl_cursor_text.f (k + 1) a0 a1) := by
  intro a0 a1 k
  unfold impl_cursor_text.f
  exact LeO.bind (impl_ReadText.mono _ _) (fun _ => LeO.refl _)
theorem impl_cursor_texts.mono_l : ∀ k a0 a1 a2 a3, LeO (impl_cursor_texts.l0 k a0 a1 a2 a3) (impl_cursor_texts.l0 (k + 1) a0 a1 a2 a3)
  | 0, _, _, _, _ => fun r h => by simp [impl_cursor_texts.l0] at h
  | k + 1, a0, a1, a2, a3 => by
    unfold impl_cursor_texts.l0
    exact LeO.ite (LeO.ite (LeO.refl _) (LeO.bind (impl_cursor_text.mono _ _ _) (fun _ => LeO.ite (impl_cursor_texts.mono_l k _ _ _ _) (LeO.none _)))) (LeO.refl _)
theorem impl_cursor_texts.mono : ∀ a0 a1 k, LeO (impl_cursor_texts.f k a0 a1) (impl_cursor_texts.f (k + 1) a0 a1) := by
  intro a0 a1 k
  unfold impl_cursor_texts.f
  exact LeO.bind (impl_cursor_number.mono _ _ _) (fun _ => impl_cursor_texts.mono_l _ _ _ _ _)
def impl_ReadTextsL.f (k : Nat) (l0 : List Int) : Option (List ByteArray × Bool) := (impl_cursor_texts.f k l0 false).bind fun t => (impl_cursor_ended.f t.2.1 t.2.2).bind fun q => if q.1 = true then some (t.1, true) else some ([], false)
set_option maxHeartbeats 8000000 in
set_option maxRecDepth 100000 in
theorem impl_ReadTextsL.calls (k : Nat) (A0 : Option Addr) (c0 : Nat) (l0 : List Int) (r1 : List ByteArray) (r2 : Bool) (w : World) (hr0 : Kd.C (Kd.int .u8) w A0 l0.length l0) (hc0 : l0.length ≤ c0) (h : impl_ReadTextsL.f k l0 = some (r1, r2)) :
    Calls Try.prog 98 #[.slice A0 l0.length c0] w fun e w' => ∃ v0_ : Value, e = .returned (.tuple #[v0_, .bool r2]) ∧ Kd.R Kd.string 9 w' w.heap.size (fun _ => True) v0_ r1 ∧ Below w.heap.size w w' := by
  have eg1 : ∀ args w, (callFunc 104 args).run Try.prog w = .ok (.enter 104 args) w := enters_ Try.func104 (by kernel_rfl) rfl
  have eg2 : ∀ args w, (callFunc 105 args).run Try.prog w = .ok (.enter 105 args) w := enters_ Try.func105 (by kernel_rfl) rfl
  unfold impl_ReadTextsL.f at h
  obtain ⟨⟨o, xs, bad⟩, h1, h⟩ := Option.bind_eq_some_iff.1 h
  obtain ⟨⟨q1, q2⟩, h2, h⟩ := Option.bind_eq_some_iff.1 h
  have H1 := Aside0.mk h1
  have H2 := Aside0.mk h2
  have HC := Aside0.mk hr0
  have HCC := Aside0.mk hc0
  clear h1 h2 hr0 hc0
  have HI : Aside0 (CurAt w (w.alloc (.cells #[.slice A0 l0.length c0, .bool false] 135)) w.heap.size l0 false) := ⟨⟨A0, c0, by simpa using heap_alloc_new w _, Nat.le_refl _, HCC.out, HC.out⟩⟩
  have HB : Aside0 (Below w.heap.size w (w.alloc (.cells #[.slice A0 l0.length c0, .bool false] 135))) := ⟨below_alloc (Below.refl _ _) _⟩
  cases q1 with
  | true =>
    obtain ⟨rfl, rfl⟩ : o = r1 ∧ true = r2 := by simpa using h
    clear h
    go_enter Try.func98, Try.ntmps98
    go_wp2_with fail
    refine (impl_cursor_texts.calls k w.heap.size l0 false o xs bad w _ HI.out HB.out H1.out).mono ?_
    rintro e w' ⟨v, rfl, hR, hI, hB, hK⟩
    have HR := Aside0.mk hR
    have HI2 := Aside0.mk hI
    have HB2 := Aside0.mk hB
    clear hR hI hB hK
    go_wp2_with fail
    refine (impl_cursor_ended.calls w.heap.size xs bad true q2 w _ HI2.out.isS HB2.out H2.out).mono ?_
    rintro e w' ⟨rfl, hI, hB, hK⟩
    have HR3 := Aside0.mk (Kd.R_lower (Kd.R_keep HR.out hK (fun _ h => h)) (below_size HB.out))
    have HB3 := Aside0.mk hB
    clear hI hB hK
    go_wp2
    go_ret2
    exact ⟨_, rfl, Kd.R_mono HR3.out (fun _ _ => trivial), HB3.out⟩
  | false =>
    obtain ⟨rfl, rfl⟩ : ([] : List ByteArray) = r1 ∧ false = r2 := by simpa using h
    clear h
    go_enter Try.func98, Try.ntmps98
    go_wp2_with fail
    refine (impl_cursor_texts.calls k w.heap.size l0 false o xs bad w _ HI.out HB.out H1.out).mono ?_
    rintro e w' ⟨v, rfl, hR, hI, hB, hK⟩
    have HI2 := Aside0.mk hI
    have HB2 := Aside0.mk hB
    clear hR hI hB hK
    go_wp2_with fail
    refine (impl_cursor_ended.calls w.heap.size xs bad false q2 w _ HI2.out.isS HB2.out H2.out).mono ?_
    rintro e w' ⟨rfl, hI, hB, hK⟩
    have HB3 := Aside0.mk hB
    clear hI hB hK
    go_wp2
    go_ret2
    exact ⟨_, rfl, Kd.R_nil _ _ _ _ _, HB3.out⟩
theorem impl_ReadTextsL.mono : ∀ a0 k, LeO (impl_ReadTextsL.f k a0) (impl_ReadTextsL.f (k + 1) a0) := by
  intro a0 k
  unfold impl_ReadTextsL.f
  exact LeO.bind (impl_cursor_texts.mono _ _ _) (fun _ => LeO.refl _)
def impl_ReadTexts.f (k : Nat) (s0 : ByteArray) : Option (List ByteArray × Bool) := if s0.size ≤ 9223372036854775807 then impl_ReadTextsL.f k (bytesOf s0) else none
theorem impl_ReadTexts.mono : ∀ a0 k, LeO (impl_ReadTexts.f k a0) (impl_ReadTexts.f (k + 1) a0) := by
  intro a0 k
  unfold impl_ReadTexts.f
  exact LeO.ite (impl_ReadTextsL.mono _ _) (LeO.none _)
theorem impl_ReadTexts.calls (k : Nat) (s0 : ByteArray) (r1 : List ByteArray) (r2 : Bool) (w : World) (h : impl_ReadTexts.f k s0 = some (r1, r2)) :
    Calls Try.prog 98 #[.slice (some ⟨w.heap.size, 0, none⟩) s0.size (grownCap w s0.size 0 5)] (Lib.bytesWorld w 5 s0) fun e w' => ∃ v0_ : Value, e = .returned (.tuple #[v0_, .bool r2]) ∧ Kd.R Kd.string 9 w' w.heap.size (fun _ => True) v0_ r1 ∧ Below w.heap.size w w' := by
  unfold impl_ReadTexts.f at h
  by_cases hs : s0.size ≤ 9223372036854775807
  · rw [if_pos hs] at h
    have hl := bytesOf_length s0
    have hC : Kd.C (Kd.int .u8) (Lib.bytesWorld w 5 s0) (some ⟨w.heap.size, 0, none⟩) (bytesOf s0).length (bytesOf s0) := by
      rw [hl]
      exact Kd.C_of_reads (enc := Value.int .u8) (d := (0 : Int)) (h1 := fun _ => rfl) (bytes_reads w 5 s0 hs)
    have hc := impl_ReadTextsL.calls k (some ⟨w.heap.size, 0, none⟩) (grownCap w s0.size 0 5) (bytesOf s0) r1 r2 (Lib.bytesWorld w 5 s0) hC (by rw [hl]; exact grownCap_ge _ _ _ _) h
    rw [hl] at hc
    have hb := bytes_below (Below.refl w.heap.size w) (Nat.le_refl _) 5 s0
    refine hc.mono ?_
    rintro e w' ⟨v, rfl, h1, h2⟩
    exact ⟨v, rfl, Kd.R_lower h1 hb.size, below_then hb hb.size h2⟩
  · rw [if_neg hs] at h
    cases h

/-! ### impl_within: function 80 -/
def impl_within.f (a0 : Int) (a1 : Int) (a2 : Int) : Option (Bool) := if a0 ≥ a1 then (some (decide (a0 ≤ a2))) else (some false)
set_option maxHeartbeats 8000000 in
set_option maxRecDepth 100000 in
theorem impl_within.calls (a0 : Int) (a1 : Int) (a2 : Int) (r : Bool) (w : World) (h : impl_within.f a0 a1 a2 = some r) :
    Calls Try.prog 80 #[.int .i64 a0, .int .i64 a1, .int .i64 a2] w fun e w' => e = .returned (.bool r) ∧ Drawn0 w w' := by
  have H : (if a0 ≥ a1 then (some (decide (a0 ≤ a2))) else (some false)) = some r := h
  clear h
  by_cases c4 : a0 ≥ a1
  · rw [if_pos c4] at H
    have c4b0 : decide (a1 ≤ a0) = true := decide_eq_true c4
    clear c4
    obtain rfl := Option.some.inj H
    go_enter Try.func80, Try.ntmps80
    go_wp2
    go_ret
    exact ⟨by first | rfl | (simp; done) | (simp [*]; done), by repeat (first | exact Drawn0.refl _ | apply Drawn0.step)⟩
  · rw [if_neg c4] at H
    have c4b0 : decide (a1 ≤ a0) = false := decide_eq_false c4
    clear c4
    obtain rfl := Option.some.inj H
    go_enter Try.func80, Try.ntmps80
    go_wp2
    go_ret
    exact ⟨by first | rfl | (simp; done) | (simp [*]; done), by repeat (first | exact Drawn0.refl _ | apply Drawn0.step)⟩

/-! ### impl_Number: function 81 -/
def impl_Number.l0 : Nat → Int → List Int → Option (List Int)
  | 0, _, _ => none
  | k + 1, x0, x3 => if x0 > 127 then (if x3.length < 140737488355328 then (impl_Number.l0 k (x0 / 128) (x3 ++ [Go.bits .or .u8 ((x0) % 256) 128])) else (none)) else (if x3.length < 140737488355328 then (some (x3 ++ [(x0) % 256])) else (none))
def impl_Number.f (k : Nat) (a0 : Int) : Option (List Int) := (impl_within.f a0 0 1099511627776).bind fun t220 => (if t220 = true then (impl_Number.l0 k a0 (([] : List Int))) else (some ([] : List Int)))
theorem impl_Number.mono_l : ∀ k, (∀ y0 y1, LeO (impl_Number.l0 k y0 y1) (impl_Number.l0 (k + 1) y0 y1))
  | 0 => fun _ _ r h => by simp [impl_Number.l0] at h
  | k + 1 => by
    have ih0 := impl_Number.mono_l k
    · intro y0 y1
      unfold impl_Number.l0
      repeat' first
      | (with_reducible exact ih0 _ _)
      | (with_reducible exact LeO.refl _)
      | (with_reducible exact LeO.none _)
      | (with_reducible refine LeO.ite ?_ ?_)
      | (with_reducible refine LeO.bind ?_ (fun _ => ?_))
      | exact ih0 _ _
      | exact LeO.none _
      | refine LeO.ite ?_ ?_
      | refine LeO.bind ?_ (fun _ => ?_)
theorem impl_Number.mono : ∀ a0 k, LeO (impl_Number.f k a0) (impl_Number.f (k + 1) a0) := by
  intro a0 k
  have ih0 := impl_Number.mono_l k
  unfold impl_Number.f
  repeat' first
      | (with_reducible exact ih0 _ _)
      | (with_reducible exact LeO.refl _)
      | (with_reducible exact LeO.none _)
      | (with_reducible refine LeO.ite ?_ ?_)
      | (with_reducible refine LeO.bind ?_ (fun _ => ?_))
      | exact ih0 _ _
      | exact LeO.none _
      | refine LeO.ite ?_ ?_
      | refine LeO.bind ?_ (fun _ => ?_)
set_option maxHeartbeats 8000000 in
set_option maxRecDepth 100000 in
theorem impl_Number.calls (k : Nat) (a0 : Int) (r : List Int) (w : World) (h : impl_Number.f k a0 = some r) :
    Calls Try.prog 81 #[.int .i64 a0] w fun e w' => ∃ v0_ : Value, e = .returned (v0_) ∧ Kd.R (Kd.int .u8) 5 w' w.heap.size (fun _ => True) v0_ r ∧ Below w.heap.size w w' := by
  have HB := Aside0.mk (Below.refl w.heap.size w)
  have H : ((impl_within.f a0 0 1099511627776).bind fun t220 => (if t220 = true then (impl_Number.l0 k a0 (([] : List Int))) else (some ([] : List Int)))) = some r := h
  clear h
  replace H := Option.bind_eq_some_iff.mp H
  obtain ⟨t220, A20, H⟩ := H
  replace H : (if t220 = true then (impl_Number.l0 k a0 (([] : List Int))) else (some ([] : List Int))) = some r := H
  have A2 := Aside0.mk A20
  clear A20
  have HC3 := Aside0.mk H
  clear H
  go_enter Try.func81, Try.ntmps81
  go_upto_if 6 with (first | ((with_reducible refine gate_callee (f := 80) rfl ?_); refine goesL_ (some 5) rfl rfl Try.func80 (by kernel_rfl) rfl #[.int .i64 a0, .int .i64 0, .int .i64 1099511627776] rfl (by (try simp only [List.map_toArray, List.map_cons, List.map_nil]); first | done | rfl | (simp only [List.length_drop, List.length_take]; rfl)) ?_; (with_reducible refine (impl_within.calls a0 0 1099511627776 t220 _ A2.out).mono ?_); rintro e w' ⟨rfl, ⟨nd, rfl⟩⟩; refine ⟨_, rfl, ?_⟩))
  (try simp only [Act.put, List.setIfInBounds_toArray, List.set_cons_zero, List.set_cons_succ])
  have H := HC3.out
  clear HC3
  by_cases c4 : t220 = true
  · subst c4
    have H1 : (impl_Number.l0 k a0 (([] : List Int))) = some r := by rw [if_pos rfl] at H; exact H
    clear H
    have H := H1
    clear H1
    obtain ⟨y221, hy221⟩ : ∃ y_ : List Int, y_ = (([] : List Int)) := ⟨_, rfl⟩
    replace H : (impl_Number.l0 k a0 y221) = some r := by first | (rw [hy221]; with_reducible exact H) | (have H2_ := (Option.bind_some _ _).symm.trans H; rw [hy221]; with_reducible exact H2_) | (have H2_ := (Option.bind_some _ _).symm.trans H; with_reducible exact H2_) | with_reducible exact H | (rw [hy221]; exact H) | exact H
    have Ny221 := Aside0.mk hy221
    clear hy221
    have H' := Aside0.mk H
    clear H
    go_wp2_with (first | ((with_reducible refine gate_dst (N := 7) rfl ?_); refine Kd.R_lit (Kd.int .u8) _ 5 ?hg (N := 7) ?hd (xs := ([] : List Int)) (inner := []) (ok := fun _ => True) (okp := fun _ => True) ?hr ?hp (fun _ hk => hk) trivial (Below.refl _ _) (Nat.le_refl _) (by simp) ?_; (case hd => rfl); (case hg => rfl); (case hr => first | (go_simp; done) | (go_simp; rfl)); (case hp => exact (Reps.none _ _)); intro v222 w5 ho6 hb hg_ hnew_; clear hg_ hnew_; (first | rw [← Ny221.out] at ho6 | (simp only [Int.reduceToNat] at ho6; rw [← Ny221.out] at ho6)); have n0_ := Aside0.mk (Kd.R_lower ho6 (below_size (by repeat (first | (with_reducible first | exact HB.out | apply below_alloc | apply pw_below_drewN | apply below_drew1) | exact HB.out)))); have n1_ := Aside0.mk (below_step (by repeat (first | (with_reducible first | exact HB.out | apply below_alloc | apply pw_below_drewN | apply below_drew1) | exact HB.out)) hb); clear HB; have HO223 := n0_; have HB := n1_; clear n0_ n1_; clear hb ho6))
    go_loopg [0, 3] k (fun kq v0 v3 w' => ∃ (x0_1 : Int) (x3_1 : List Int), v0 = .int .i64 x0_1 ∧ Aside0 (impl_Number.l0 kq x0_1 x3_1 = some r) ∧ Aside0 (kq ≤ k) ∧ Aside0 (Kd.R (Kd.int .u8) 5 w' w.heap.size (fun _ => True) v3 x3_1) ∧ Aside0 (Below w.heap.size w w'))
    case atStart => exact ⟨(a0), (y221), (by first | rfl | (simp; done) | (simp [*]; done)), H', ⟨Nat.le_refl _⟩, ⟨by (with_reducible repeat (first | apply Kd.R_alloc | apply Kd.R_drewN | apply Kd.R_drew)); exact HO223.out⟩, ⟨by repeat (first | (with_reducible first | exact HB.out | apply below_alloc | apply pw_below_drewN | apply below_drew1) | exact HB.out)⟩⟩
    case round =>
      clear H'
      try clear p2
      try clear c4
      obtain ⟨x0_1, x3_1, rfl, HA, HK1, HO_3, HB⟩ := hrel
      cases gk with
      | zero => exact absurd HA.out (by simp [impl_Number.l0])
      | succ k1 =>
        have H := HA.out
        clear HA
        simp only [impl_Number.l0] at H
        by_cases c7 : x0_1 > 127
        · rw [if_pos c7] at H
          have c7b0 : decide (127 < x0_1) = true := decide_eq_true c7
          clear c7
          (first | rw [c7b0] | (simp only [i64_w, i32_w]; rw [c7b0]) | skip)
          by_cases c8 : x3_1.length < 140737488355328
          · rw [if_pos c8] at H
            have LMc8 := Aside0.mk c8
            clear c8
            obtain ⟨y224, hy224⟩ : ∃ y_ : List Int, y_ = (x3_1 ++ [Go.bits .or .u8 ((x0_1) % 256) 128]) := ⟨_, rfl⟩
            replace H : (impl_Number.l0 k1 (x0_1 / 128) y224) = some r := by first | (rw [hy224]; with_reducible exact H) | (have H2_ := (Option.bind_some _ _).symm.trans H; rw [hy224]; with_reducible exact H2_) | (have H2_ := (Option.bind_some _ _).symm.trans H; with_reducible exact H2_) | with_reducible exact H | (rw [hy224]; exact H) | exact H
            have Ny224 := Aside0.mk hy224
            clear hy224
            have H' := Aside0.mk H
            clear H
            go_wp2_with (first | ((with_reducible refine gate_builtin (b := .append) (xs := #[.tmp 12, .tmp 16]) rfl ?_); at_builtin; refine Kd.R_append (Kd.int .u8) (w0 := w) w.heap.size rfl (.tmp 12) (.tmp 16) 83 5 (.int .u8 0) 1 rfl Try.underlying83 info5 rfl (by decide) (by omega) u3 x3_1 (Go.bits .or .u8 ((x0_1) % 256) 128) [.int .u8 (Go.bits .or .u8 ((x0_1) % 256) 128)] (fun _ => True) (fun _ => False) rfl rfl ?aP (fun _ hk => hk.elim) ?aF ?aO ?aB ?aS ?aL ?_; (case aP => exact rfl); (case aB => exact (by repeat (first | (with_reducible first | exact HB.out | apply below_alloc | apply pw_below_drewN | apply below_drew1) | exact HB.out))); (case aF => exact (fun _ _ => trivial)); (case aO => exact (by (with_reducible repeat (first | apply Kd.R_alloc | apply Kd.R_drewN | apply Kd.R_drew)); exact HO_3.out)); (case aS => exact (below_size (by repeat (first | (with_reducible first | exact HB.out | apply below_alloc | apply pw_below_drewN | apply below_drew1) | exact HB.out)))); (case aL => have := LMc8.out; omega); intro v225 w9 ho hb hg hat; rw [← Ny224.out] at ho; have n0_ := Aside0.mk (hb); have n1_ := Aside0.mk (ho); clear HB; clear HO_3; have HB := n0_; have HO226 := n1_; clear n0_ n1_; clear ho hb hg hat))
            go_roundg k1
            case measure => have := HK1.out; omega
            case rel => exact ⟨(x0_1 / 128), (y224), (by first | rfl | (simp; done) | (simp [*]; done)), H', ⟨by have := HK1.out; omega⟩, ⟨by (with_reducible repeat (first | apply Kd.R_alloc | apply Kd.R_drewN | apply Kd.R_drew)); exact HO226.out⟩, ⟨by repeat (first | (with_reducible first | exact HB.out | apply below_alloc | apply pw_below_drewN | apply below_drew1) | exact HB.out)⟩⟩
          · rw [if_neg c8] at H
            exact absurd H (by simp)
        · rw [if_neg c7] at H
          have c7b0 : decide (127 < x0_1) = false := decide_eq_false c7
          clear c7
          (first | rw [c7b0] | (simp only [i64_w, i32_w]; rw [c7b0]) | skip)
          by_cases c10 : x3_1.length < 140737488355328
          · rw [if_pos c10] at H
            have LMc10 := Aside0.mk c10
            clear c10
            obtain ⟨y227, hy227⟩ : ∃ y_ : List Int, y_ = (x3_1 ++ [(x0_1) % 256]) := ⟨_, rfl⟩
            replace H : (some y227) = some r := by first | (rw [hy227]; with_reducible exact H) | (have H2_ := (Option.bind_some _ _).symm.trans H; rw [hy227]; with_reducible exact H2_) | (have H2_ := (Option.bind_some _ _).symm.trans H; with_reducible exact H2_) | with_reducible exact H | (rw [hy227]; exact H) | exact H
            have Ny227 := Aside0.mk hy227
            clear hy227
            obtain rfl := Option.some.inj H
            go_wp2_with (first | ((with_reducible refine gate_builtin (b := .append) (xs := #[.tmp 18, .tmp 21]) rfl ?_); at_builtin; refine Kd.R_append (Kd.int .u8) (w0 := w) w.heap.size rfl (.tmp 18) (.tmp 21) 83 5 (.int .u8 0) 1 rfl Try.underlying83 info5 rfl (by decide) (by omega) u3 x3_1 ((x0_1) % 256) [.int .u8 ((x0_1) % 256)] (fun _ => True) (fun _ => False) rfl rfl ?aP (fun _ hk => hk.elim) ?aF ?aO ?aB ?aS ?aL ?_; (case aP => exact rfl); (case aB => exact (by repeat (first | (with_reducible first | exact HB.out | apply below_alloc | apply pw_below_drewN | apply below_drew1) | exact HB.out))); (case aF => exact (fun _ _ => trivial)); (case aO => exact (by (with_reducible repeat (first | apply Kd.R_alloc | apply Kd.R_drewN | apply Kd.R_drew)); exact HO_3.out)); (case aS => exact (below_size (by repeat (first | (with_reducible first | exact HB.out | apply below_alloc | apply pw_below_drewN | apply below_drew1) | exact HB.out)))); (case aL => have := LMc10.out; omega); intro v228 w11 ho hb hg hat; rw [← Ny227.out] at ho; have n0_ := Aside0.mk (hb); have n1_ := Aside0.mk (ho); clear HB; clear HO_3; have HB := n0_; have HO229 := n1_; clear n0_ n1_; clear ho hb hg hat))
            go_ret
            exact ⟨_, by first | rfl | (simp [errW_none, errW_some] <;> rfl) | (simp [*, errW_none, errW_some] <;> rfl), by (with_reducible repeat (first | apply Kd.R_alloc | apply Kd.R_drewN | apply Kd.R_drew)); exact HO229.out, by repeat (first | (with_reducible first | exact HB.out | apply below_alloc | apply pw_below_drewN | apply below_drew1) | exact HB.out)⟩
          · rw [if_neg c10] at H
            exact absurd H (by simp)
  · replace c4 := Bool.eq_false_iff.mpr c4
    subst c4
    have H1 : (some ([] : List Int)) = some r := by rw [if_neg (show ¬ (false = true) by decide)] at H; exact H
    clear H
    have H := H1
    clear H1
    obtain rfl := Option.some.inj H
    go_wp2
    go_ret
    exact ⟨_, by first | rfl | (simp [errW_none, errW_some] <;> rfl) | (simp [*, errW_none, errW_some] <;> rfl), by first | exact Kd.R_nil _ _ _ _ _ | exact Kd.N_nil _ _ _ _ _ | exact Kd.V_nil _ _ _ _ _ | exact Kd.Q_nil _ _ _ _ _ | exact Kd.S_nil _ _ _ _ _, by repeat (first | (with_reducible first | exact HB.out | apply below_alloc | apply pw_below_drewN | apply below_drew1) | exact HB.out)⟩

/-! ### impl_Text: function 144 -/
def impl_Text.f (k : Nat) (a0 : ByteArray) : Option (List Int) := if (a0.size : Int) > 3000 then (some ([] : List Int)) else ((impl_Number.f k (a0.size : Int)).bind fun t230 => (if t230.length + a0.size < 140737488355328 then (some (t230 ++ bytesOf a0)) else (none)))
theorem impl_Text.mono : ∀ a0 k, LeO (impl_Text.f k a0) (impl_Text.f (k + 1) a0) := by
  intro a0 k
  unfold impl_Text.f
  repeat' first
      | (with_reducible exact impl_Number.mono _ _)
      | (with_reducible exact LeO.refl _)
      | (with_reducible exact LeO.none _)
      | (with_reducible refine LeO.ite ?_ ?_)
      | (with_reducible refine LeO.bind ?_ (fun _ => ?_))
      | exact impl_Number.mono _ _
      | exact LeO.none _
      | refine LeO.ite ?_ ?_
      | refine LeO.bind ?_ (fun _ => ?_)
set_option maxHeartbeats 8000000 in
set_option maxRecDepth 100000 in
theorem impl_Text.calls (k : Nat) (a0 : ByteArray) (r : List Int) (w : World) (h : impl_Text.f k a0 = some r) :
    Calls Try.prog 144 #[.string a0] w fun e w' => ∃ v0_ : Value, e = .returned (v0_) ∧ Kd.R (Kd.int .u8) 5 w' w.heap.size (fun _ => True) v0_ r ∧ Below w.heap.size w w' := by
  have HB := Aside0.mk (Below.refl w.heap.size w)
  have H : (if (a0.size : Int) > 3000 then (some ([] : List Int)) else ((impl_Number.f k (a0.size : Int)).bind fun t230 => (if t230.length + a0.size < 140737488355328 then (some (t230 ++ bytesOf a0)) else (none)))) = some r := h
  clear h
  by_cases c2 : (a0.size : Int) > 3000
  · rw [if_pos c2] at H
    have c2b0 : decide (3000 < (a0.size : Int)) = true := decide_eq_true c2
    have c2b1 : decide (3000 < a0.size) = true := decide_eq_true (by omega)
    clear c2
    obtain rfl := Option.some.inj H
    go_enter Try.func144, Try.ntmps144
    go_wp2
    go_ret
    exact ⟨_, by first | rfl | (simp [errW_none, errW_some] <;> rfl) | (simp [*, errW_none, errW_some] <;> rfl), by first | exact Kd.R_nil _ _ _ _ _ | exact Kd.N_nil _ _ _ _ _ | exact Kd.V_nil _ _ _ _ _ | exact Kd.Q_nil _ _ _ _ _ | exact Kd.S_nil _ _ _ _ _, by repeat (first | (with_reducible first | exact HB.out | apply below_alloc | apply pw_below_drewN | apply below_drew1) | exact HB.out)⟩
  · rw [if_neg c2] at H
    have c2b0 : decide (3000 < (a0.size : Int)) = false := decide_eq_false c2
    have c2b1 : decide (3000 < a0.size) = false := decide_eq_false (by omega)
    clear c2
    replace H := Option.bind_eq_some_iff.mp H
    obtain ⟨t230, A30, H⟩ := H
    replace H : (if t230.length + a0.size < 140737488355328 then (some (t230 ++ bytesOf a0)) else (none)) = some r := H
    have A3 := Aside0.mk A30
    clear A30
    by_cases c4 : t230.length + a0.size < 140737488355328
    · rw [if_pos c4] at H
      have LMc4 := Aside0.mk c4
      clear c4
      obtain ⟨y233, hy233⟩ : ∃ y_ : List Int, y_ = (t230 ++ bytesOf a0) := ⟨_, rfl⟩
      replace H : (some y233) = some r := by first | (rw [hy233]; with_reducible exact H) | (have H2_ := (Option.bind_some _ _).symm.trans H; rw [hy233]; with_reducible exact H2_) | (have H2_ := (Option.bind_some _ _).symm.trans H; with_reducible exact H2_) | with_reducible exact H | (rw [hy233]; exact H) | exact H
      have Ny233 := Aside0.mk hy233
      clear hy233
      obtain rfl := Option.some.inj H
      go_enter Try.func144, Try.ntmps144
      go_wp2_with (first | ((with_reducible refine gate_callee (f := 81) rfl ?_); refine goesL_ (some 8) rfl rfl Try.func81 (by kernel_rfl) rfl #[.int .i64 (a0.size : Int)] rfl (by (try simp only [List.map_toArray, List.map_cons, List.map_nil]); first | done | rfl | (simp only [List.length_drop, List.length_take]; rfl)) ?_; (with_reducible refine (impl_Number.calls k (a0.size : Int) t230 _ A3.out).mono ?_); rintro e w5 ⟨v231, rfl, ho0, hb⟩; refine ⟨_, rfl, ?_⟩; have n0_ := Aside0.mk (Kd.R_lower ho0 (below_size (by repeat (first | (with_reducible first | exact HB.out | apply below_alloc | apply pw_below_drewN | apply below_drew1) | exact HB.out)))); have n1_ := Aside0.mk (below_step (by repeat (first | (with_reducible first | exact HB.out | apply below_alloc | apply pw_below_drewN | apply below_drew1) | exact HB.out)) hb); clear HB; have HO232 := n0_; have HB := n1_; clear n0_ n1_; (try clear hb); (try clear hb2); (try clear hk); (try clear hi); (try clear ho0)) | (at_builtin; refine print_append_str (w0 := w) w.heap.size rfl (.tmp 8) _ 83 9 5 rfl Try.underlying83 Try.underlying9 info5 v231 t230 a0 rfl rfl ?aO ?aB ?aS ?aL ?_; (case aB => exact (by repeat (first | (with_reducible first | exact HB.out | apply below_alloc | apply pw_below_drewN | apply below_drew1) | exact HB.out))); (case aO => exact (Kd.own_of_R (by (with_reducible repeat (first | apply Kd.R_alloc | apply Kd.R_drewN | apply Kd.R_drew)); exact HO232.out))); (case aS => exact (below_size (by repeat (first | (with_reducible first | exact HB.out | apply below_alloc | apply pw_below_drewN | apply below_drew1) | exact HB.out)))); (case aL => have := LMc4.out; omega); intro v234 w6 ho0 hb hg; have ho := Kd.R_of_own (h1 := fun _ => rfl) (ok := fun _ => True) ho0 (fun _ _ => trivial); clear ho0; have hat := True.intro; rw [← Ny233.out] at ho; change Kd.R (Kd.int .u8) 5 w6 w.heap.size (fun _ => True) v234 y233 at ho; have n0_ := Aside0.mk (hb); have n1_ := Aside0.mk (ho); clear HB; clear HO232; have HB := n0_; have HO235 := n1_; clear n0_ n1_; clear ho hb hg hat))
      go_ret
      exact ⟨_, by first | rfl | (simp [errW_none, errW_some] <;> rfl) | (simp [*, errW_none, errW_some] <;> rfl), by (with_reducible repeat (first | apply Kd.R_alloc | apply Kd.R_drewN | apply Kd.R_drew)); exact HO235.out, by repeat (first | (with_reducible first | exact HB.out | apply below_alloc | apply pw_below_drewN | apply below_drew1) | exact HB.out)⟩
    · rw [if_neg c4] at H
      exact absurd H (by simp)

end Go.Proofs.Ytckgkhlgnblblaa.PFnExactReadBatch
