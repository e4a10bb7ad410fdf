import Derived.Test.YtokhjhkkncbjeaaDoorPFnBlocksx0
import Derived.Test.YtokhjhkkncbjeaaDoorPFnBlocksx2
import Derived.Test.YtokhjhkkncbjeaaDoorPFnBlocksx4
import Derived.Test.YtokhjhkkncbjeaaDoorPFnBlocksx5
import Derived.Test.YtokhjhkkncbjeaaDoorPFnBlocksx6
import Derived.Test.YtokhjhkkncbjeaaDoorPFnBlocksx7
namespace Go.Proofs.YtokhjhkkncbjeaaDoor.PFnBlocks
open Go.RowKit Go.Proofs.YtokhjhkkncbjeaaDoorW.PrintWords Go.Proofs.YtokhjhkkncbjeaaDoorW.PrintLast Go.Proofs.YtokhjhkkncbjeaaDoorW.PrintMore
attribute [local go_sem] max2_int min2_int max_two min_two max_three min_three max_four min_four
attribute [local go_sem high] str_gtr str_leq str_geq
set_option linter.unusedVariables false
set_option linter.unusedSimpArgs false
theorem w64 {x : Int} (h0 : -9223372036854775808 ≤ x) (h1 : x < 9223372036854775808) : wrap64 x = x := by
 simp only [wrap64]
 omega
theorem and255 (n : Int) : 0 ≤ Go.bits .and .i64 n 255 ∧ Go.bits .and .i64 n 255 ≤ 255 := by
 have h : (BitVec.ofInt 64 255).toNat = 2 ^ 8 - 1 := by decide
 have key : (BitVec.ofInt 64 n &&& BitVec.ofInt 64 255).toNat = (n % ((2 ^ 64 : Nat) : Int)).toNat % 2 ^ 8 := by
  rw [BitVec.toNat_and, BitVec.toNat_ofInt, h, Nat.and_two_pow_sub_one_eq_mod]
 have e : Go.bits .and .i64 n 255 = IntKind.i64.wrap ((BitVec.ofInt 64 n &&& BitVec.ofInt 64 255).toNat : Nat) := rfl
 rw [e, key, IntKind.wrap_i64]
 omega
theorem new_l0 (x0 : List Int) : ∀ (d k : Nat) (x3 x4 : Int), 0 ≤ x4 → x4 ≤ (x0.length : Int) → (x0.length : Int) - x4 = d → d < k → (x0.length : Int) < 9223372036854775807 → ∃ h, spec_l1New.l0 k x0 x3 x4 = some (x0, 0, h)
 | 0, k, x3, x4, h0, h1, h2, h3, h4 => by
  obtain ⟨k, rfl⟩ : ∃ m, k = m + 1 := ⟨k - 1, (by omega)⟩
  simp only [spec_l1New.l0]
  rw [if_neg (by omega)]
  exact ⟨_, rfl⟩
 | d + 1, k, x3, x4, h0, h1, h2, h3, h4 => by
  obtain ⟨k, rfl⟩ : ∃ m, k = m + 1 := ⟨k - 1, (by omega)⟩
  simp only [spec_l1New.l0]
  rw [if_pos (by omega), if_pos h0, w64 (x := x4 + 1) (by omega) (by omega)]
  exact new_l0 x0 d k _ _ (by omega) (by omega) (by omega) (by omega) h4
theorem byte_some (l : List Int) (hl : (l.length : Int) < 9223372036854775807) (i h : Int) (h0 : 0 ≤ i) (h1 : i ≤ l.length) : ∃ b i' h', spec_l1Byte.f l i h = some (b, i', h') ∧ 0 ≤ b ∧ b ≤ 255 ∧ 0 ≤ i' ∧ i' ≤ l.length := by
 unfold spec_l1Byte.f
 by_cases hlt : i < (l.length : Int)
 ·rw [if_pos hlt, if_pos h0]
  exact ⟨_, _, _, rfl, (and255 _).1, (and255 _).2, (by rw [w64 (by omega) (by omega)]; omega), (by rw [w64 (by omega) (by omega)]; omega)⟩
 ·rw [if_neg hlt]
  exact ⟨_, _, _, rfl, (and255 _).1, (and255 _).2, h0, h1⟩
theorem tmod_in {a b : Int} (h0 : 0 ≤ a) (h1 : 0 < b) : 0 ≤ Int.tmod a b ∧ Int.tmod a b < b := by
 rw [Int.tmod_eq_emod_of_nonneg h0]
 exact ⟨Int.emod_nonneg _ (by omega), Int.emod_lt_of_pos _ h1⟩
theorem below_some (l : List Int) (hl : (l.length : Int) < 9223372036854775807) (i h n : Int) (h0 : 0 ≤ i) (h1 : i ≤ l.length) : ∃ b i' h', spec_l1Below.f l i h n = some (b, i', h') ∧ 0 ≤ b ∧ (0 < n → b < n) ∧ (n ≤ 0 → b = 0) ∧ 0 ≤ i' ∧ i' ≤ l.length := by
 unfold spec_l1Below.f
 by_cases hn : n ≤ 0
 ·rw [if_pos hn]
  exact ⟨_, _, _, rfl, (by omega), (by omega), fun _ => rfl, h0, h1⟩
 ·rw [if_neg hn]
  by_cases hn2 : n ≤ 256
  ·rw [if_pos hn2]
   obtain ⟨b, i', h', e, hb0, hb1, hi0, hi1⟩ := byte_some l hl i h h0 h1
   rw [e]
   simp only [Option.bind_some]
   rw [if_neg (by omega)]
   have := tmod_in hb0 (b := n) (by omega)
   exact ⟨_, _, _, rfl, this.1, fun _ => this.2, (by omega), hi0, hi1⟩
  ·rw [if_neg hn2]
   obtain ⟨b1, i1, h1', e1, _, _, hi0, hi1⟩ := byte_some l hl i h h0 h1
   obtain ⟨b2, i2, h2', e2, _, _, hi0, hi1⟩ := byte_some l hl i1 h1' hi0 hi1
   obtain ⟨b3, i3, h3', e3, _, _, hi0, hi1⟩ := byte_some l hl i2 h2' hi0 hi1
   obtain ⟨b4, i4, h4', e4, _, _, hi0, hi1⟩ := byte_some l hl i3 h3' hi0 hi1
   rw [e1]; simp only [Option.bind_some]
   rw [e2]; simp only [Option.bind_some]
   rw [e3]; simp only [Option.bind_some]
   rw [e4]; simp only [Option.bind_some]
   rw [if_neg (by omega)]
   rw [w64 (x := b1 * 16777216) (by omega) (by omega), w64 (x := b2 * 65536) (by omega) (by omega), w64 (x := b3 * 256) (by omega) (by omega), w64 (x := b1 * 16777216 + b2 * 65536) (by omega) (by omega), w64 (x := b1 * 16777216 + b2 * 65536 + b3 * 256) (by omega) (by omega), w64 (x := b1 * 16777216 + b2 * 65536 + b3 * 256 + b4) (by omega) (by omega)]
   have := tmod_in (a := b1 * 16777216 + b2 * 65536 + b3 * 256 + b4) (by omega) (b := n) (by omega)
   exact ⟨_, _, _, rfl, this.1, fun _ => this.2, (by omega), hi0, hi1⟩
theorem once_some (l : List Int) (hl : (l.length : Int) < 9223372036854775807) (i h n : Int) (h0 : 0 ≤ i) (h1 : i ≤ l.length) : ∃ b i' h', spec_l1Once.f l i h n = some (b, i', h') ∧ 0 ≤ i' ∧ i' ≤ l.length := by
 obtain ⟨b, i', h', e, _, _, _, a, c⟩ := below_some l hl i h n h0 h1
 exact ⟨_, _, _, (by unfold spec_l1Once.f; rw [e]; rfl), a, c⟩
/-- Some row of bytes of one's own that may be written. -/
def Bs (W : World) (base : Nat) (v : Value) (xs : List Int) : Prop :=
 ∃ A c, v = .slice A xs.length c ∧ xs.length ≤ c ∧ c ≤ 9223372036854775807 ∧ (0 < xs.length → ∃ g cs fz, A = some ⟨g, 0, none⟩ ∧ base ≤ g ∧ W.heap[g]? = some (.cells cs 5 fz) ∧ (cs.size ≤ fz.1 ∨ fz.2 ≤ fz.1) ∧ cs.toList.take xs.length = nums .u8 xs)
theorem Bs.keep {W W1 : World} {base g : Nat} {v : Value} {xs : List Int} (h : Bs W base v xs) {cs : Array Value} (hg : W.heap[g]? = some (.cells cs 67 (0, 0))) (hk : KeepBut W W1 g none) : Bs W1 base v xs := by
 obtain ⟨A, c, hv, hc, hm, h⟩ := h
 refine ⟨A, c, hv, hc, hm, fun hp => ?_⟩
 obtain ⟨g', cs', fz, hA, hb, hh, hz, ht⟩ := h hp
 refine ⟨g', cs', fz, hA, hb, (hk.2 g' (blk_lt hh) ?_ (by simp)).trans hh, hz, ht⟩
 rintro rfl
 rw [hh] at hg
 injection hg with hg
 injection hg with _ hg
 exact absurd hg (by decide)
theorem Bs.below {W W1 : World} {base : Nat} {v : Value} {xs : List Int} (h : Bs W base v xs) (hk : Below W.heap.size W W1) : Bs W1 base v xs := by
 obtain ⟨A, c, hv, hc, hm, h⟩ := h
 refine ⟨A, c, hv, hc, hm, fun hp => ?_⟩
 obtain ⟨g', cs', fz, hA, hb, hh, hz, ht⟩ := h hp
 exact ⟨g', cs', fz, hA, hb, blk_below hh hk, hz, ht⟩
theorem Bs.reads {W : World} {base : Nat} {v : Value} {xs : List Int} (h : Bs W base v xs) : ∃ A c, v = .slice A xs.length c ∧ xs.length ≤ c ∧ Kd.C (Kd.int .u8) W A xs.length xs := by
 obtain ⟨A, c, hv, hc, hm, h⟩ := h
 refine ⟨A, c, hv, hc, Kd.C_of_reads (h1 := fun _ => rfl) (d := (0 : Int)) ⟨rfl, (by omega), fun hp => ?_⟩⟩
 obtain ⟨g', cs', fz, hA, hb, hh, hz, ht⟩ := h hp
 refine ⟨_, hA, fun j hj => ?_⟩
 rw [add_plain, cell_of_row W g' j cs' 5 fz hh]
 have h1 : (nums .u8 xs)[j]? = cs'[j]? := by rw [← ht, List.getElem?_take, if_pos hj, Array.getElem?_toList]
 rw [← h1]
 simp [nums, List.getD_eq_getElem?_getD, List.getElem?_eq_getElem hj]
/-- The element that is stored into: its cell, and it is not frozen. -/
theorem Bs.at_ {W : World} {base : Nat} {v : Value} {xs : List Int} (h : Bs W base v xs) (i : Int) (h0 : 0 ≤ i) (h1 : i < xs.length) : ∃ g c, v = .slice (some ⟨g, 0, none⟩) xs.length c ∧ base ≤ g ∧ W.cell? ⟨g, i.toNat, none⟩ = some (.int .u8 (xs.getD i.toNat 0)) ∧ W.frozen? ⟨g, i.toNat, none⟩ = false ∧
  (∃ cs fz, W.heap[g]? = some (.cells cs 5 fz)) ∧ ∀ x, Bs (W.setCell ⟨g, i.toNat, none⟩ (.int .u8 x)) base v (xs.set i.toNat x) := by
 obtain ⟨A, c, hv, hc, hm, h⟩ := h
 obtain ⟨g', cs', fz, hA, hb, hh, hz, ht⟩ := h (by omega)
 subst hA
 have hi : i.toNat < xs.length := by omega
 have h2 : (nums .u8 xs)[i.toNat]? = cs'[i.toNat]? := by rw [← ht, List.getElem?_take, if_pos hi, Array.getElem?_toList]
 have hlt : i.toNat < cs'.size := by
  rcases Nat.lt_or_ge i.toNat cs'.size with h3 | h3
  ·exact h3
  ·rw [Array.getElem?_eq_none h3] at h2
   simp [nums, List.getElem?_eq_getElem hi] at h2
 refine ⟨g', c, hv, hb, ?_, ?_, ⟨_, _, hh⟩, fun x => ⟨_, c, (by rw [hv, List.length_set]), (by rw [List.length_set]; exact hc), hm, fun _ => ⟨g', cs'.setIfInBounds i.toNat (.int .u8 x), fz, rfl, hb, ?_, ?_, ?_⟩⟩⟩
 ·rw [cell_of_row W g' _ cs' 5 fz hh, ← h2]
  simp [nums, List.getD_eq_getElem?_getD, List.getElem?_eq_getElem hi]
 ·simp only [World.frozen?, hh, Bool.and_eq_false_iff, decide_eq_false_iff_not]
  clear h2 ht hh
  rcases hz with hz | hz
  ·exact .inl (by omega)
  ·exact (Nat.lt_or_ge i.toNat fz.1).elim (fun h => .inl (by omega)) (fun h => .inr (by omega))
 ·simp [World.setCell, Array.getElem?_modify, hh]
 ·rw [Array.size_setIfInBounds]; exact hz
 ·rw [List.length_set, Array.toList_setIfInBounds, List.take_set, ht]
  simp [nums, List.map_set]
theorem Bs.take {W : World} {base : Nat} {v : Value} {xs : List Int} (h : Bs W base v xs) (m : Nat) (hm : m ≤ xs.length) : ∃ A c, v = .slice A xs.length c ∧ xs.length ≤ c ∧ Bs W base (.slice A m c) (xs.take m) := by
 obtain ⟨A, c, hv, hc, hx, h⟩ := h
 refine ⟨A, c, hv, hc, A, c, (by rw [List.length_take]; congr 1; omega), (by rw [List.length_take]; omega), hx, fun hp => ?_⟩
 rw [List.length_take] at hp
 obtain ⟨g', cs', fz, hA, hb, hh, hz, ht⟩ := h (by omega)
 refine ⟨g', cs', fz, hA, hb, hh, hz, ?_⟩
 rw [List.length_take, ← List.take_take, Nat.min_eq_left hm] at *
 simp only [nums] at ht ⊢
 rw [List.map_take, ← ht, List.take_take, Nat.min_eq_left hm]
theorem Bs.of_R {W : World} {base : Nat} {ok : Nat → Prop} {v : Value} {xs : List Int} (h : Kd.R (Kd.int .u8) 5 W base ok v xs) : Bs W base v xs := by
 have ho := Kd.own_of_R (enc := Value.int .u8) (h1 := fun _ => rfl) h
 obtain ⟨h1, h2⟩ := ho
 rcases h2 with ⟨rfl, hn⟩ | ⟨g, cap, cur, rfl, hb, hh, hc, hm, hs, ht⟩
 ·exact ⟨none, 0, (by rw [hn]), (by omega), (by omega), fun hp => by omega⟩
 ·refine ⟨_, cap, rfl, hc, (by simp only [maxLen] at hm; omega), fun _ => ⟨g, cur, (0, 0), rfl, hb, hh, .inr (Nat.le_refl _), ?_⟩⟩
  rw [Nat.mul_one] at ht
  exact ht
theorem Bs.ne67 {W : World} {base g : Nat} {v : Value} {xs : List Int} {cs : Array Value} (hg : W.heap[g]? = some (.cells cs 67 (0, 0))) {g' : Nat} {cs' : Array Value} {fz : Nat × Nat} (h : W.heap[g']? = some (.cells cs' 5 fz)) : g ≠ g' := by
 rintro rfl
 rw [h] at hg
 injection hg with hg
 injection hg with _ hg
 exact absurd hg (by decide)
theorem bytes_capm (W : World) (e n : Nat) (h : n ≤ 1099511627776) : grownCap W n 0 e ≤ 9223372036854775807 := by
 have := grownCap_le_maxLen W n 0 e (by simp only [maxLen]; omega)
 simp only [maxLen] at this
 omega
/-- []byte(s) as a row that may be written. -/
theorem Bs_conv {P : Program} {ops : Array Oper} {rest : List Oper} {Q : Exit → Act → World → Prop} {o : Oper} {a : Act} {W : World} (base : Nat) (hgd : o.guard = none) {N : Tmp} (_hd : o.dst = some N) (s : ByteArray)
  {src dst : TypeId} {u : TypeDesc} (h1_ : P.underlying src = some u) (h2_ : P.underlying dst = some (.slice 5)) (h3_ : P.underlying 5 = some (.int .u8)) (hex : execOp a.eval o = (convert src dst (.string s) >>= fun v => pure (Next.value v)))
  (hbase : base ≤ W.heap.size) (hs : s.size ≤ 1099511627776)
  (h : ∀ v1 w1, Bs w1 base v1 (bytesOf s) → Below W.heap.size W w1 → wpList P ops Q rest (a.put o.dst v1) w1) : wpList P ops Q (o :: rest) a W := by
 have hrun : (execOp a.eval o).run P W = .ok (.value (.slice (some ⟨W.heap.size, 0, none⟩) s.size (grownCap W s.size 0 5))) (Lib.bytesWorld W 5 s) := by
  have kb_ := print_bytes (P := P) src dst 5 h1_ h2_ h3_ s W
  rw [hex]
  rw [Sem.run_bind, kb_]; rfl
 have hcap : s.size ≤ grownCap W s.size 0 5 := grownCap_ge _ _ _ _
 refine Kd.event_run hgd hrun (h _ _ ⟨_, grownCap W s.size 0 5, (by rw [bytesOf_length]), (by rw [bytesOf_length]; exact hcap), bytes_capm _ _ _ hs, fun hp => ⟨W.heap.size, _, _, rfl, hbase, Lib.bytesWorld_at_new W 5 s, .inl (Nat.le_refl _), ?_⟩⟩ (bytes_below (Below.refl W.heap.size W) (Nat.le_refl _) 5 s))
 rw [Lib.bytesCells, Array.toList_append, List.take_append_of_le_length (by rw [bytesOf_length]; simp), List.take_of_length_le (by rw [bytesOf_length]; simp)]
 simp [nums, bytesOf]
/-- Some state of the cursor of draws. -/
def Cs (w0 W : World) (g : Nat) : Prop := ∃ (l : List Int) (i h : Int), (l.length : Int) < 9223372036854775807 ∧ 0 ≤ i ∧ i ≤ l.length ∧ IsS67 w0 W g l i h
theorem Cs.below {w0 W W1 : World} {g : Nat} (h : Cs w0 W g) (hw : Below W.heap.size W W1) : Cs w0 W1 g := let ⟨l, i, x, a, b, c, d⟩ := h; ⟨l, i, x, a, b, c, d.below hw⟩
theorem Cs.grown {w0 W W1 : World} {g : Nat} {row : Option Nat} (h : Cs w0 W g) (hw : W.grownBy W1 row) (hne : some g ≠ row) : Cs w0 W1 g := let ⟨l, i, x, a, b, c, d⟩ := h; ⟨l, i, x, a, b, c, d.grown hw hne⟩
theorem Cs.far {w0 W : World} {g : Nat} {p : Addr} (h : Cs w0 W g) (hne : g ≠ p.block) (u : Value) : Cs w0 (W.setCell p u) g := let ⟨l, i, x, a, b, c, d⟩ := h; ⟨l, i, x, a, b, c, d.far hne u⟩
theorem Cs.blk {w0 W : World} {g : Nat} (h : Cs w0 W g) : ∃ cs, W.heap[g]? = some (.cells cs 67 (0, 0)) := by
 obtain ⟨l, i, x, a, b, c, A0, c0, hb, hg, hr0⟩ := h
 exact ⟨_, hb⟩
theorem Cs.ge {w0 W : World} {g : Nat} (h : Cs w0 W g) : w0.heap.size ≤ g := let ⟨l, i, x, a, b, c, d⟩ := h; d.ge
theorem Cs.lt {w0 W : World} {g : Nat} (h : Cs w0 W g) : g < W.heap.size := let ⟨l, i, x, a, b, c, d⟩ := h; d.lt
theorem below_c {w0 w : World} {g : Nat} (n : Int) (hI : Cs w0 w g) (hB : Below w0.heap.size w0 w) : Calls Tryd.prog 46 #[.pointer (some ⟨g, 0, none⟩), .int .i64 n] w fun e w' => ∃ r : Int, e = .returned (.int .i64 r) ∧ 0 ≤ r ∧ (0 < n → r < n) ∧ Cs w0 w' g ∧ Below w0.heap.size w0 w' ∧ KeepBut w w' g none := by
 obtain ⟨l, i, x, a, b, c, d⟩ := hI
 obtain ⟨r, i', h', e, r0, r1, _, i0, i1⟩ := below_some l a i x n b c
 refine (spec_l1Below.calls g l i x n r i' h' w0 w d hB e).mono ?_
 rintro e w' ⟨rfl, h1, h2, h3⟩
 exact ⟨r, rfl, r0, r1, ⟨l, i', h', a, i0, i1, h1⟩, h2, h3⟩
theorem once_c {w0 w : World} {g : Nat} (n : Int) (hI : Cs w0 w g) (hB : Below w0.heap.size w0 w) : Calls Tryd.prog 22 #[.pointer (some ⟨g, 0, none⟩), .int .i64 n] w fun e w' => ∃ r : Bool, e = .returned (.bool r) ∧ Cs w0 w' g ∧ Below w0.heap.size w0 w' ∧ KeepBut w w' g none := by
 obtain ⟨l, i, x, a, b, c, d⟩ := hI
 obtain ⟨r, i', h', e, i0, i1⟩ := once_some l a i x n b c
 refine (spec_l1Once.calls g l i x n r i' h' w0 w d hB e).mono ?_
 rintro e w' ⟨rfl, h1, h2, h3⟩
 exact ⟨r, rfl, ⟨l, i', h', a, i0, i1, h1⟩, h2, h3⟩
theorem new_c (A0 : Option Addr) (c0 : Nat) (l0 : List Int) (w : World) (hl : (l0.length : Int) < 9223372036854775807) (hr0 : Kd.C (Kd.int .u8) w A0 l0.length l0) (hc0 : l0.length ≤ c0) :
  Calls Tryd.prog 17 #[.slice A0 l0.length c0] w fun e w' => ∃ g : Nat, e = .returned (.pointer (some ⟨g, 0, none⟩)) ∧ Cs w w' g ∧ Below w.heap.size w w' := by
 obtain ⟨h, e⟩ := new_l0 l0 l0.length (l0.length + 1) (wrap64 (111029 + (l0.length : Int))) 0 (by omega) (by omega) (by omega) (by omega) hl
 refine (spec_l1New.calls (l0.length + 1) A0 c0 l0 l0 0 h w w (Below.refl _ _) hr0 hc0 e).mono ?_
 rintro e w' ⟨g, rfl, h1, h2, h3⟩
 exact ⟨g, rfl, ⟨l0, 0, h, hl, (by omega), (by omega), h1⟩, h2⟩
theorem enters_ {P : Program} {f : FuncId} {fn : Func} {c : Code} (hf : P.funcs[f]? = some fn) (hname : (fn.name == "runtime.NumGoroutine") = false) (hb : fn.body = some c) : ∀ (args : Array Value) (w : World), (callFunc f args).run P w = .ok (.enter f args) w := by
 intro args w
 have h1 : fn.name ≠ "runtime.NumGoroutine" := by simpa using hname
 simp [callFunc, hf, h1, hb, mark]
/-- Two rows that are made side by side, and the cursor. -/
def G2 {α : Type} (d : Kd α) (e : Nat) (w0 wr W : World) (g : Nat) (u : Value) (x : List α) (y : Value) (yy : List α) : Prop :=
 Kd.R d e W wr.heap.size (fun k => some k ≠ y.ownBlock) u x ∧ Kd.R d e W wr.heap.size (fun k => some k ≠ u.ownBlock) y yy ∧ Cs w0 W g ∧ Below w0.heap.size w0 W ∧ KeepBut wr W g none ∧ w0.heap.size ≤ wr.heap.size
section
variable {α : Type} {d : Kd α} {e : Nat} {w0 wr W w1 : World} {g : Nat} {u y v1 : Value} {x yy x' : List α}
theorem G2.swap (h : G2 d e w0 wr W g u x y yy) : G2 d e w0 wr W g y yy u x := ⟨h.2.1, h.1, h.2.2⟩
theorem G2.start0 (d : Kd α) (e : Nat) (hi : Cs w0 wr g) (hb : Below w0.heap.size w0 wr) : G2 d e w0 wr wr g (.slice none 0 0) [] (.slice none 0 0) [] :=
 ⟨Kd.R_nil _ _ _ _ _, Kd.R_nil _ _ _ _ _, hi, hb, KeepBut.refl _ _ _, hb.size⟩
theorem G2.start (d : Kd α) (e : Nat) (hi : Cs w0 wr g) (hb : Below w0.heap.size w0 wr) : G2 d e w0 wr wr.drew g (.slice none 0 0) [] (.slice none 0 0) [] :=
 ⟨Kd.R_nil _ _ _ _ _, Kd.R_nil _ _ _ _ _, hi.below (below_drew (Below.refl _ _)), below_drew hb, KeepBut.of_below (below_drew (Below.refl _ _)) g none, hb.size⟩
theorem G2.app (h : G2 d e w0 wr W g u x y yy) (h1 : Kd.R d e w1 wr.heap.size (fun k => some k ≠ y.ownBlock) v1 x') (hb : Below wr.heap.size W w1) (hg : W.grownBy w1 u.ownBlock) (hat : v1.ownBlock = u.ownBlock ∨ ∃ b, v1.ownBlock = some b ∧ W.heap.size ≤ b) (he : ∀ q, q ∈ e :: d.E → q ≠ 67 := by decide) : G2 d e w0 wr w1 g v1 x' y yy := by
 obtain ⟨a1, a2, a3, a4, a5, a6⟩ := h
 obtain ⟨cs, hcs⟩ := a3.blk
 refine ⟨h1, ?_, a3.grown hg (Kd.R_ne a1 hcs (he e List.mem_cons_self)), below_weaken a4 a6 hb, a5.trans (KeepBut.of_grown hg g) (Kd.R_base2 a1), a6⟩
 exact Kd.R_mono (Kd.R_after (ok := fun _ => True) (Kd.R_mono a2 (fun _ hk => ⟨trivial, hk⟩)) hg hat) (fun _ hk => hk.2)
theorem G2.call (h : G2 d e w0 wr W g u x y yy) (hi : Cs w0 w1 g) (hb : Below w0.heap.size w0 w1) (hk : KeepBut W w1 g none) (he : ∀ q, q ∈ e :: d.E → q ≠ 67 := by decide) : G2 d e w0 wr w1 g u x y yy := by
 obtain ⟨a1, a2, a3, a4, a5, a6⟩ := h
 obtain ⟨cs, hcs⟩ := a3.blk
 exact ⟨Kd.R_mono (Kd.R_keep (Kd.R_types a1 hcs he) hk (fun _ h => h.2)) (fun _ h => h.1), Kd.R_mono (Kd.R_keep (Kd.R_types a2 hcs he) hk (fun _ h => h.2)) (fun _ h => h.1), hi, hb, a5.trans hk (.inl rfl), a6⟩
theorem G2.below (h : G2 d e w0 wr W g u x y yy) (hw : Below W.heap.size W w1) (he : ∀ q, q ∈ e :: d.E → q ≠ 67 := by decide) : G2 d e w0 wr w1 g u x y yy :=
 h.call (h.2.2.1.below hw) (below_weaken h.2.2.2.1 h.2.2.2.1.size hw) (KeepBut.of_below hw g none) he
theorem G2.fresh (h : G2 d e w0 wr W g u x y yy) : ∀ k, W.heap.size ≤ k → some k ≠ y.ownBlock := Kd.fresh' (Kd.R_lt h.2.1)
theorem G2.size (h : G2 d e w0 wr W g u x y yy) : wr.heap.size ≤ W.heap.size := h.2.2.2.2.1.1
theorem G2.cs (h : G2 d e w0 wr W g u x y yy) : Cs w0 W g := h.2.2.1
theorem G2.bel (h : G2 d e w0 wr W g u x y yy) : Below w0.heap.size w0 W := h.2.2.2.1
/-- What lay there before lies there as it did. -/
theorem G2.blk (h : G2 d e w0 wr W g u x y yy) {k : Nat} {o : Obj} (hb : wr.heap[k]? = some o) (hn : k ≠ g) : W.heap[k]? = some o := h.2.2.2.2.1.blk hb hn (by simp)
end
/-- b, which lay there before, is read as it was. -/
theorem G2.reads {w0 wr W : World} {g base : Nat} {u y v : Value} {x yy xs : List Int} (h : G2 (Kd.int .u8) 5 w0 wr W g u x y yy) (hi : Cs w0 wr g) (hb : Bs wr base v xs) : Bs W base v xs := by
 obtain ⟨cs, hcs⟩ := hi.blk
 exact hb.keep hcs h.2.2.2.2.1
theorem Bs.lower {W : World} {base base' : Nat} {v : Value} {xs : List Int} (h : Bs W base v xs) (hb : base' ≤ base) : Bs W base' v xs := by
 obtain ⟨A, c, hv, hc, hm, h⟩ := h
 refine ⟨A, c, hv, hc, hm, fun hp => ?_⟩
 obtain ⟨g', cs', fz, hA, hl, r⟩ := h hp
 exact ⟨g', cs', fz, hA, Nat.le_trans hb hl, r⟩
theorem Bs.C {W : World} {base n c : Nat} {A : Option Addr} {xs : List Int} (h : Bs W base (.slice A n c) xs) : n = xs.length ∧ n ≤ c ∧ Kd.C (Kd.int .u8) W A xs.length xs := by
 obtain ⟨A', c', hv, hc, hr⟩ := h.reads
 injection hv with h1 h2 h3
 subst h1 h2 h3
 exact ⟨rfl, hc, hr⟩
/-- Two rows of numbers that are only read. -/
def Pf (W : World) (ok : Nat → Prop) (V5 V6 : Value) : Prop := ∃ bys ts : List Int, Kd.V (Kd.int .i64) 2 W 0 ok V5 bys ∧ Kd.V (Kd.int .i64) 2 W 0 ok V6 ts ∧ bys.length ≤ 4 ∧ ts.length ≤ 4 ∧ ∀ x ∈ bys, -9223372036854775808 ≤ x ∧ x ≤ 9223372036854775807
theorem Pf.step {W W1 : World} {ok : Nat → Prop} {V5 V6 : Value} (h : Pf W ok V5 V6) (hm : ∀ k, ok k → k < W.heap.size → W1.heap[k]? = W.heap[k]?) : Pf W1 ok V5 V6 :=
 let ⟨a, b, c, d, e⟩ := h; ⟨a, b, Kd.V_step c hm, Kd.V_step d hm, e⟩
theorem Pf.mono {W : World} {ok ok' : Nat → Prop} {V5 V6 : Value} (h : Pf W ok V5 V6) (hm : ∀ k, ok k → k < W.heap.size → ok' k) : Pf W ok' V5 V6 :=
 let ⟨a, b, c, d, e⟩ := h; ⟨a, b, Kd.V_mono (Kd.V_bound c) (fun k hk => hm k hk.1 hk.2), Kd.V_mono (Kd.V_bound d) (fun k hk => hm k hk.1 hk.2), e⟩
/-- The cursor, beside what was made since wb (WN: the world behind which it is kept). -/
structure Cx (w0 wb WN W : World) (g : Nat) : Prop where
 old : ∀ k, wb.heap.size ≤ k → k < WN.heap.size → W.heap[k]? = WN.heap[k]?
 cs_ : Cs w0 W g
 bel : Below w0.heap.size w0 W
 kb : KeepBut wb W g none
 lt : g < wb.heap.size
 le : wb.heap.size ≤ WN.heap.size
 sz : WN.heap.size ≤ W.heap.size
 le0 : w0.heap.size ≤ wb.heap.size
section
variable {w0 wb WN W W1 w1 : World} {g gb m m' : Nat} {cs : Array Value} {mv v1 : Value}
theorem Cx.keep (h : Cx w0 wb WN W g) (hi : Cs w0 W1 g) (hb : Below w0.heap.size w0 W1) (hk : KeepBut W W1 g none) : Cx w0 wb WN W1 g :=
 ⟨fun k h1 h2 => (hk.2 k (by have := h.sz; omega) (by have := h.lt; omega) (by simp)).trans (h.old k h1 h2), hi, hb, h.kb.trans hk (.inl rfl), h.lt, h.le, Nat.le_trans h.sz hk.1, h.le0⟩
theorem Cx.below (h : Cx w0 wb WN W g) (hw : Below W.heap.size W W1) : Cx w0 wb WN W1 g :=
 h.keep (h.cs_.below hw) (below_weaken h.bel h.bel.size hw) (KeepBut.of_below hw g none)
theorem Cx.put (h : Cx w0 wb WN W g) {p : Addr} (hp : WN.heap.size ≤ p.block) (u : Value) : Cx w0 wb WN (W.setCell p u) g :=
 ⟨fun k h1 h2 => (Below.heap_setCell W p u k (by omega)).trans (h.old k h1 h2), h.cs_.far (by have := h.lt; have := h.le; omega) u, h.bel.setCell (by have := h.le; have := h.le0; omega) u, keep_far h.kb (Nat.le_trans h.le hp) u, h.lt, h.le, (by simpa [World.setCell] using h.sz), h.le0⟩
theorem Cx.grown {row : Option Nat} (h : Cx w0 wb WN W g) (hb : Below WN.heap.size W w1) (hg : W.grownBy w1 row) (hr : ∀ k, row = some k → WN.heap.size ≤ k) : Cx w0 wb WN w1 g := by
 have hn : ∀ k, k < WN.heap.size → some k ≠ row := fun k hk he => by have := hr k he.symm; omega
 refine ⟨fun k h1 h2 => (hg.block k (by have := h.sz; omega) (hn k h2)).trans (h.old k h1 h2), h.cs_.grown hg (hn g (by have := h.lt; have := h.le; omega)), below_weaken h.bel (Nat.le_trans h.le0 h.le) hb, h.kb.trans (KeepBut.of_grown hg g) ?_, h.lt, h.le, Nat.le_trans h.sz hg.size, h.le0⟩
 cases row with
 | none => exact .inl rfl
 | some k => exact .inr ⟨k, rfl, Nat.le_trans h.le (hr k rfl)⟩
theorem Cx.pf {V5 V6 : Value} {g2 : Nat} (h : Cx w0 wb WN W g) (hp : Pf WN (fun k => wb.heap.size ≤ k ∧ k ≠ g2) V5 V6) : Pf W (fun k => wb.heap.size ≤ k ∧ k ≠ g2) V5 V6 := hp.step (fun k h1 h2 => h.old k h1.1 h2)
/-- The block that is drawn, in its box; its moves. -/
structure Bx (w0 wb WN W : World) (g gb : Nat) (cs : Array Value) (mv : Value) (m : Nat) : Prop where
 cx : Cx w0 wb WN W g
 bk : W.heap[gb]? = some (.cells cs 29 (0, 0))
 ge : WN.heap.size ≤ gb
 mvs : ∃ ms, Kd.R Kd.string 9 W WN.heap.size (fun _ => True) mv ms ∧ ms.length ≤ m
theorem Bx.keep (h : Bx w0 wb WN W g gb cs mv m) (hi : Cs w0 W1 g) (hb : Below w0.heap.size w0 W1) (hk : KeepBut W W1 g none) : Bx w0 wb WN W1 g gb cs mv m := by
 obtain ⟨ms, hm, hl⟩ := h.mvs
 obtain ⟨c0, hc0⟩ := h.cx.cs_.blk
 exact ⟨h.cx.keep hi hb hk, hk.blk h.bk (by have := h.cx.lt; have := h.cx.le; have := h.ge; omega) (by simp), h.ge, ms, Kd.R_mono (Kd.R_keep (Kd.R_types hm hc0 (by decide)) hk (fun _ h => h.2)) (fun _ _ => trivial), hl⟩
theorem Bx.below (h : Bx w0 wb WN W g gb cs mv m) (hw : Below W.heap.size W W1) : Bx w0 wb WN W1 g gb cs mv m :=
 h.keep (h.cx.cs_.below hw) (below_weaken h.cx.bel h.cx.bel.size hw) (KeepBut.of_below hw g none)
theorem Bx.put (h : Bx w0 wb WN W g gb cs mv m) (j : Nat) (u : Value) {cs' : Array Value} (hc : cs.setIfInBounds j u = cs') : Bx w0 wb WN (W.setCell ⟨gb, j, none⟩ u) g gb cs' mv m := by
 obtain ⟨ms, hm, hl⟩ := h.mvs
 exact ⟨h.cx.put h.ge u, hc ▸ blk_set h.bk j u, h.ge, ms, Kd.R_mono (Kd.R_far (Kd.R_types hm h.bk (by decide)) (p := ⟨gb, j, none⟩) (fun _ h => h.2) u) (fun _ _ => trivial), hl⟩
theorem Bx.app {ms' : List ByteArray} (h : Bx w0 wb WN W g gb cs mv m) (h1 : Kd.R Kd.string 9 w1 WN.heap.size (fun _ => True) v1 ms') (hl : ms'.length ≤ m') (hb : Below WN.heap.size W w1) (hg : W.grownBy w1 mv.ownBlock) : Bx w0 wb WN w1 g gb cs v1 m' := by
 obtain ⟨ms, hm, _⟩ := h.mvs
 exact ⟨h.cx.grown hb hg (Kd.R_base hm), blk_grown h.bk hg (Kd.R_ne hm h.bk (by decide)), h.ge, ms', h1, hl⟩
theorem Bx.grown0 (h : Bx w0 wb WN W g gb cs mv m) (hb : Below WN.heap.size W w1) (hg : W.grownBy w1 none) : Bx w0 wb WN w1 g gb cs mv m := by
 obtain ⟨ms, hm, hl⟩ := h.mvs
 exact ⟨h.cx.grown hb hg (by simp), blk_grown h.bk hg (by simp), h.ge, ms, Kd.R_grown hm hg (fun _ _ => by simp), hl⟩
theorem Bx.new (h : Cx w0 wb WN W g) (cs : Array Value) : Bx w0 wb WN (W.alloc (.cells cs 29)) g W.heap.size cs (.slice none 0 0) 0 :=
 ⟨h.below (below_alloc (Below.refl _ _) _), heap_alloc_new W _, h.sz, [], Kd.R_nil _ _ _ _ _, Nat.le_refl _⟩
theorem Bx.at_ (h : Bx w0 wb WN W g gb cs mv m) (j : Nat) : W.cell? ⟨gb, j, none⟩ = cs[j]? := blk_cell h.bk j
/-- What is handed back, while the result's box is written. -/
structure Fin (w0 wb W : World) (g g2 : Nat) (V5 V6 mv : Value) (ms : List ByteArray) : Prop where
 pf : Pf W (fun k => wb.heap.size ≤ k ∧ k ≠ g2) V5 V6
 mv : Kd.R Kd.string 9 W wb.heap.size (fun k => k ≠ g2) mv ms
 cs_ : Cs w0 W g
 bel : Below w0.heap.size w0 W
 kb : KeepBut wb W g none
 lt : g < wb.heap.size
 ge : wb.heap.size ≤ g2
 le0 : w0.heap.size ≤ wb.heap.size
theorem Fin.put {V5 V6 : Value} {g2 : Nat} {ms : List ByteArray} (h : Fin w0 wb W g g2 V5 V6 mv ms) (j : Nat) (u : Value) : Fin w0 wb (W.setCell ⟨g2, j, none⟩ u) g g2 V5 V6 mv ms :=
 ⟨h.pf.step (fun k h1 _ => Below.heap_setCell W ⟨g2, j, none⟩ u k h1.2), Kd.R_far h.mv (p := ⟨g2, j, none⟩) (fun _ h => h) u, h.cs_.far (p := ⟨g2, j, none⟩) (by have := h.lt; have := h.ge; show g ≠ g2; omega) u, h.bel.setCell (p := ⟨g2, j, none⟩) (Nat.le_trans h.le0 h.ge) u, keep_far h.kb (p := ⟨g2, j, none⟩) h.ge u, h.lt, h.ge, h.le0⟩
end
/-- An element of a row of numbers of one's own: its cell, and what a store makes of the row. -/
theorem R_at2 {W : World} {base : Nat} {ok : Nat → Prop} {v : Value} {xs : List Int} (h : Kd.R (Kd.int .i64) 2 W base ok v xs) (i : Nat) (hi : i < xs.length) : ∃ g c, v = .slice (some ⟨g, 0, none⟩) xs.length c ∧ base ≤ g ∧ ok g ∧ W.cell? ⟨g, i, none⟩ = some (.int .i64 (xs.getD i 0)) ∧ W.frozen? ⟨g, i, none⟩ = false ∧
  (∃ cs, W.heap[g]? = some (.cells cs 2 (0, 0))) ∧ ∀ y, Kd.R (Kd.int .i64) 2 (W.setCell ⟨g, i, none⟩ (.int .i64 y)) base ok v (xs.set i y) := by
 have h0 := h.1
 obtain ⟨h1, h2⟩ := Kd.own_of_R (enc := Value.int .i64) (h1 := fun _ => rfl) h
 rcases h2 with ⟨_, hn⟩ | ⟨g, cap, cur, rfl, hb, hh, hc, hm, hs, ht⟩
 ·omega
 ·rw [Nat.mul_one] at ht hs
  have h3 : (nums .i64 xs)[i]? = cur[i]? := by rw [show nums .i64 xs = encs (Value.int .i64) xs from rfl, ← ht, List.getElem?_take, if_pos hi, Array.getElem?_toList]
  refine ⟨g, cap, rfl, hb, h0 g (by simp [Value.ownBlock]), ?_, blk_frozen hh i, ⟨_, hh⟩, fun y => Kd.R_of_own (enc := Value.int .i64) (h1 := fun _ => rfl) ⟨(by simp [encs]), .inr ⟨g, cap, cur.setIfInBounds i (.int .i64 y), (by rw [List.length_set]), hb, blk_set hh i _, (by rw [List.length_set]; exact hc), hm, (by rw [Array.size_setIfInBounds, Nat.mul_one]; exact hs), ?_⟩⟩ h0⟩
  ·rw [blk_cell hh i, ← h3]
   simp [nums, List.getD_eq_getElem?_getD, List.getElem?_eq_getElem hi]
  ·rw [List.length_set, Nat.mul_one, Array.toList_setIfInBounds, List.take_set, ht]
   simp [encs, List.map_set]
/-- What DrawProof has in hand behind Gathered: the proof in its box, its two rows, the result's box. -/
structure Ex (w0 wb W : World) (g g2 gp : Nat) (cs : Array Value) (V5 V6 : Value) (bys ts : List Int) : Prop where
 r5 : Kd.R (Kd.int .i64) 2 W wb.heap.size (fun k => some k ≠ V6.ownBlock) V5 bys
 r6 : Kd.R (Kd.int .i64) 2 W wb.heap.size (fun k => some k ≠ V5.ownBlock) V6 ts
 bp : W.heap[gp]? = some (.cells cs 26 (0, 0))
 b2 : W.heap[g2]? = some (.cells #[.int .i64 0, .int .i64 0, .slice none 0 0, .slice none 0 0] 26 (0, 0))
 cs_ : Cs w0 W g
 bel : Below w0.heap.size w0 W
 kb : KeepBut wb W g none
 lt : g < wb.heap.size
 gpl : wb.heap.size ≤ gp
 g2l : wb.heap.size ≤ g2
 ne : gp ≠ g2
 le0 : w0.heap.size ≤ wb.heap.size
section
variable {w0 wb W W1 : World} {g g2 gp : Nat} {cs : Array Value} {V5 V6 : Value} {bys ts : List Int}
theorem Ex.keep (h : Ex w0 wb W g g2 gp cs V5 V6 bys ts) (hi : Cs w0 W1 g) (hb : Below w0.heap.size w0 W1) (hk : KeepBut W W1 g none) : Ex w0 wb W1 g g2 gp cs V5 V6 bys ts := by
 obtain ⟨c0, hc0⟩ := h.cs_.blk
 exact ⟨Kd.R_mono (Kd.R_keep (Kd.R_types h.r5 hc0 (by decide)) hk (fun _ h => h.2)) (fun _ h => h.1), Kd.R_mono (Kd.R_keep (Kd.R_types h.r6 hc0 (by decide)) hk (fun _ h => h.2)) (fun _ h => h.1),
  hk.blk h.bp (by have := h.lt; have := h.gpl; omega) (by simp), hk.blk h.b2 (by have := h.lt; have := h.g2l; omega) (by simp), hi, hb, h.kb.trans hk (.inl rfl), h.lt, h.gpl, h.g2l, h.ne, h.le0⟩
theorem Ex.below (h : Ex w0 wb W g g2 gp cs V5 V6 bys ts) (hw : Below W.heap.size W W1) : Ex w0 wb W1 g g2 gp cs V5 V6 bys ts :=
 h.keep (h.cs_.below hw) (below_weaken h.bel h.bel.size hw) (KeepBut.of_below hw g none)
theorem Ex.put (h : Ex w0 wb W g g2 gp cs V5 V6 bys ts) (j : Nat) (u : Value) {cs' : Array Value} (hc : cs.setIfInBounds j u = cs') : Ex w0 wb (W.setCell ⟨gp, j, none⟩ u) g g2 gp cs' V5 V6 bys ts :=
 ⟨Kd.R_mono (Kd.R_far (Kd.R_types h.r5 h.bp (by decide)) (p := ⟨gp, j, none⟩) (fun _ h => h.2) u) (fun _ h => h.1), Kd.R_mono (Kd.R_far (Kd.R_types h.r6 h.bp (by decide)) (p := ⟨gp, j, none⟩) (fun _ h => h.2) u) (fun _ h => h.1),
  hc ▸ blk_set h.bp j u, blk_far h.b2 (p := ⟨gp, j, none⟩) (fun e => h.ne e.symm) u, h.cs_.far (p := ⟨gp, j, none⟩) (by have := h.lt; have := h.gpl; show g ≠ gp; omega) u, h.bel.setCell (p := ⟨gp, j, none⟩) (Nat.le_trans h.le0 h.gpl) u, keep_far h.kb (p := ⟨gp, j, none⟩) h.gpl u, h.lt, h.gpl, h.g2l, h.ne, h.le0⟩
theorem Ex.swap5 (h : Ex w0 wb W g g2 gp cs V5 V6 bys ts) : Ex w0 wb W g g2 gp cs V6 V5 ts bys := ⟨h.r6, h.r5, h.bp, h.b2, h.cs_, h.bel, h.kb, h.lt, h.gpl, h.g2l, h.ne, h.le0⟩
/-- A store into the first row. -/
theorem Ex.set5 (h : Ex w0 wb W g g2 gp cs V5 V6 bys ts) (i : Nat) (hi : i < bys.length) : ∃ q c, V5 = .slice (some ⟨q, 0, none⟩) bys.length c ∧ W.cell? ⟨q, i, none⟩ = some (.int .i64 (bys.getD i 0)) ∧ W.frozen? ⟨q, i, none⟩ = false ∧
  ∀ y, Ex w0 wb (W.setCell ⟨q, i, none⟩ (.int .i64 y)) g g2 gp cs V5 V6 (bys.set i y) ts := by
 obtain ⟨q, c, hv, hb, _, hx, hf, ⟨cq, hq⟩, hs⟩ := R_at2 h.r5 i hi
 obtain ⟨c0, hc0⟩ := h.cs_.blk
 have ow : V5.ownBlock = some q := by rw [hv]; rfl
 exact ⟨q, c, hv, hx, hf, fun y => ⟨hs y, Kd.R_far h.r6 (p := ⟨q, i, none⟩) (fun k hk e => hk (by rw [ow]; exact congrArg some e)) _, blk_far h.bp (p := ⟨q, i, none⟩) (blk_ne h.bp hq (by decide)) _, blk_far h.b2 (p := ⟨q, i, none⟩) (blk_ne h.b2 hq (by decide)) _,
  h.cs_.far (p := ⟨q, i, none⟩) (blk_ne hc0 hq (by decide)) _, h.bel.setCell (p := ⟨q, i, none⟩) (Nat.le_trans h.le0 hb) _, keep_far h.kb (p := ⟨q, i, none⟩) hb _, h.lt, h.gpl, h.g2l, h.ne, h.le0⟩⟩
theorem Ex.v5 (h : Ex w0 wb W g g2 gp cs V5 V6 bys ts) : Kd.V (Kd.int .i64) 2 W 0 (fun k => wb.heap.size ≤ k ∧ k ≠ g2) V5 bys :=
 Kd.R_V (base := wb.heap.size) (Kd.R_mono (Kd.R_types (Kd.R_bound h.r5) h.b2 (by decide)) (fun k hk => ⟨hk.1.2.1, hk.2⟩))
theorem Ex.fin (h : Ex w0 wb W g g2 gp cs V5 V6 bys ts) {V5' : Value} {bys' : List Int} (h5 : Kd.V (Kd.int .i64) 2 W 0 (fun k => wb.heap.size ≤ k ∧ k ≠ g2) V5' bys') (hl : bys'.length ≤ 4) (hl2 : ts.length ≤ 4) (hb : ∀ x ∈ bys', -9223372036854775808 ≤ x ∧ x ≤ 9223372036854775807) : Fin w0 wb W g g2 V5' V6 (.slice none 0 0) [] :=
 ⟨⟨bys', ts, h5, h.swap5.v5, hl, hl2, hb⟩, Kd.R_nil _ _ _ _ _, h.cs_, h.bel, h.kb, h.lt, h.g2l, h.le0⟩
theorem V_drop1 {W : World} {ok : Nat → Prop} {A : Option Addr} {n c : Nat} {xs : List Int} (h : Kd.V (Kd.int .i64) 2 W 0 ok (.slice A n c) xs) (hn : 1 ≤ xs.length) : Kd.V (Kd.int .i64) 2 W 0 ok (.slice (if c = (1 : Int).toNat then A else A.map (·.add ((1 : Int).toNat * 1))) (n - (1 : Int).toNat) (c - (1 : Int).toNat)) (xs.drop 1) := by
 obtain ⟨h1, h2, h3⟩ := Kd.V_at h
 have h4 := Kd.F_cut (m := 1) (c := c) h3 hn (by omega)
 have e : n - (1 : Int).toNat = (xs.drop 1).length := by rw [List.length_drop]; omega
 rw [e]
 exact Kd.V_mk (by rw [List.length_drop]; omega) h4
end
/-- What Gathered has in hand: the proof in its box, its two rows, the result's box. -/
structure Gx (wb W : World) (gr gp : Nat) (cs : Array Value) (V5 V6 : Value) (bys ts : List Int) : Prop where
 r5 : Kd.R (Kd.int .i64) 2 W wb.heap.size (fun k => some k ≠ V6.ownBlock) V5 bys
 r6 : Kd.R (Kd.int .i64) 2 W wb.heap.size (fun k => some k ≠ V5.ownBlock) V6 ts
 bp : W.heap[gp]? = some (.cells cs 26 (0, 0))
 b2 : W.heap[gr]? = some (.cells #[.int .i64 0, .int .i64 0, .slice none 0 0, .slice none 0 0] 26 (0, 0))
 bel : Below wb.heap.size wb W
 gpl : wb.heap.size ≤ gp
 g2l : wb.heap.size ≤ gr
 ne : gp ≠ gr
section
variable {wb W W1 w1 : World} {gr gp : Nat} {cs : Array Value} {V5 V6 v1 : Value} {bys ts bys' : List Int}
theorem Gx.below (h : Gx wb W gr gp cs V5 V6 bys ts) (hw : Below W.heap.size W W1) : Gx wb W1 gr gp cs V5 V6 bys ts :=
 ⟨Kd.R_below h.r5 hw, Kd.R_below h.r6 hw, blk_below h.bp hw, blk_below h.b2 hw, below_step h.bel hw, h.gpl, h.g2l, h.ne⟩
theorem Gx.swap (h : Gx wb W gr gp cs V5 V6 bys ts) : Gx wb W gr gp cs V6 V5 ts bys := ⟨h.r6, h.r5, h.bp, h.b2, h.bel, h.gpl, h.g2l, h.ne⟩
theorem Gx.put (h : Gx wb W gr gp cs V5 V6 bys ts) (j : Nat) (u : Value) {cs' : Array Value} (hc : cs.setIfInBounds j u = cs') : Gx wb (W.setCell ⟨gp, j, none⟩ u) gr gp cs' V5 V6 bys ts :=
 ⟨Kd.R_mono (Kd.R_far (Kd.R_types h.r5 h.bp (by decide)) (p := ⟨gp, j, none⟩) (fun _ h => h.2) u) (fun _ h => h.1), Kd.R_mono (Kd.R_far (Kd.R_types h.r6 h.bp (by decide)) (p := ⟨gp, j, none⟩) (fun _ h => h.2) u) (fun _ h => h.1),
  hc ▸ blk_set h.bp j u, blk_far h.b2 (p := ⟨gp, j, none⟩) (fun e => h.ne e.symm) u, h.bel.setCell (p := ⟨gp, j, none⟩) h.gpl u, h.gpl, h.g2l, h.ne⟩
theorem Gx.app (h : Gx wb W gr gp cs V5 V6 bys ts) (h1 : Kd.R (Kd.int .i64) 2 w1 wb.heap.size (fun k => some k ≠ V6.ownBlock) v1 bys') (hb : Below wb.heap.size W w1) (hg : W.grownBy w1 V5.ownBlock) (hat : v1.ownBlock = V5.ownBlock ∨ ∃ b, v1.ownBlock = some b ∧ W.heap.size ≤ b) : Gx wb w1 gr gp cs v1 V6 bys' ts :=
 ⟨h1, Kd.R_mono (Kd.R_after (ok := fun _ => True) (Kd.R_mono h.r6 (fun _ hk => ⟨trivial, hk⟩)) hg hat) (fun _ hk => hk.2), blk_grown h.bp hg (Kd.R_ne h.r5 h.bp (by decide)), blk_grown h.b2 hg (Kd.R_ne h.r5 h.b2 (by decide)), below_weaken h.bel (Nat.le_refl _) hb, h.gpl, h.g2l, h.ne⟩
theorem Gx.fresh (h : Gx wb W gr gp cs V5 V6 bys ts) : ∀ k, W.heap.size ≤ k → some k ≠ V6.ownBlock := Kd.fresh' (Kd.R_lt h.r6)
theorem Gx.C (h : Gx wb W gr gp cs V5 V6 bys ts) {A : Option Addr} {n : Nat} {l : List S86} (hr : Kd.C k86 wb A n l) : Kd.C k86 W A n l := Kd.C_below hr h.bel
end
/-- A vote that VoteOk can be told of. -/
def VT (v : S86) : Prop := (spec_VoteOk.f 100 v.f0 v.f1 v.f2 v.f3 4).isSome = true
theorem vote_c (v : S86) (hv : VT v) (w : World) : Calls Tryd.prog 64 #[.agg #[.int .i64 v.f0, .int .i64 v.f1, .int .i64 v.f2, .int .i64 v.f3], .int .i64 4] w fun e w' => ∃ r : Bool, e = .returned (.bool r) ∧ Below w.heap.size w w' := by
 obtain ⟨r, h⟩ := Option.isSome_iff_exists.1 hv
 refine (spec_VoteOk.calls 100 v.f0 v.f1 v.f2 v.f3 4 r w h).mono ?_
 rintro e w' ⟨rfl, hb⟩
 exact ⟨r, rfl, hb⟩
end Go.Proofs.YtokhjhkkncbjeaaDoor.PFnBlocks
