/- An append beside which the elder row is read still: both rows are told. No condition. -/
import Derived.Test.YtokfpmkhfindmaaDoorWWords
import Derived.ArgAppend
namespace Go.Proofs.YtokfpmkhfindmaaDoorW.PrintWords.Kd
open Go.RowKit

theorem grown_weaken {w w1 : World} (h : w.grownBy w1 none) (row : Option Nat) : w.grownBy w1 row := ⟨h.os, h.tape, h.output, h.size, fun i hi _ => h.block i hi (by simp)⟩
theorem R_append_beside {P : Program} {ops : Array Oper} {rest : List Oper} {o : Oper} {a : Act} {Q : Exit → Act → World → Prop} (k : IntKind) {w0 W : World} (base : Nat) (hgd : o.guard = none) (s x : Operand) (t e : TypeId) (z : Value) (bytes : Nat)
    (ho : o.op = .call { callee := .builtin .append, args := #[s, x], argTypes := #[t, t] })
    (ht : P.underlying t = some (.slice e)) (hinfo : (P.info? e).map (fun i => (i.zero, i.size, i.bytes)) = some (some z, (Kd.int k).sz, bytes)) (hz : z.cells.size = (Kd.int k).sz) (hs0 : 0 < (Kd.int k).sz) (hb0 : 0 < bytes)
    (v : Value) (xs : List Int) (p : Int) (cs : List Value) (ok okp : Nat → Prop) (hs : a.eval s = v) (hx : a.eval x = .slice (some ⟨W.heap.size, 0, none⟩) 1 1) (hp : (Kd.int k).M W base okp p cs) (hokp : ∀ k, okp k → ok k ∧ some k ≠ v.ownBlock) (hfresh : ∀ k, W.heap.size ≤ k → ok k)
    (HO : (Kd.int k).R e W base ok v xs) (HB : Below base w0 W) (hbase : base ≤ W.heap.size) (hl : (xs.length + 1) * bytes ≤ 140737488355328)
    (h : ∀ v1 w1, (Kd.int k).R e w1 base ok v1 (xs ++ [p]) → (Kd.int k).R e w1 base ok v xs → Below base w0 w1 → W.grownBy w1 v.ownBlock → (v1.ownBlock = v.ownBlock ∨ ∃ b, v1.ownBlock = some b ∧ W.heap.size ≤ b) → wpList P ops Q rest (a.put o.dst v1) w1) :
    wpList P ops Q (o :: rest) a (W.alloc (.cells cs.toArray e)) := by
  have own := own_of_R (enc := Value.int k) (h1 := fun _ => rfl) HO
  have hok := HO.1
  rcases own.2 with ⟨rfl, h0⟩ | ⟨g, cap, cur, rfl, hb, hh, hn, hm, hsz, htk⟩
  · obtain rfl := List.length_eq_zero_iff.1 h0
    exact R_append (Kd.int k) base hgd s x t e z bytes ho ht hinfo hz hs0 hb0 _ [] p cs ok okp hs hx hp hokp hfresh HO HB hbase hl (fun v1 w1 a b c d => h v1 w1 a (R_nil _ _ _ _ _) b c d)
  · obtain rfl : cs = [.int k p] := hp
    obtain ⟨i, hi, hzz⟩ := Option.map_eq_some_iff.1 hinfo
    simp only [Prod.mk.injEq] at hzz
    obtain ⟨hz0, hz1, hz2⟩ := hzz
    have hgl : g < W.heap.size := (Array.getElem?_eq_some_iff.1 hh).1
    have hcl : xs.length ≤ cur.size := by omega
    have hrow : (W.alloc (.cells #[.int k p] e)).heap[g]? = some (.cells cur e (0, 0)) := blk_alloc hh _
    have hga : W.grownBy (W.alloc (.cells #[.int k p] e)) none := grown_of_below (below_alloc (Below.refl _ _) _) none
    have hlen : (encs (Value.int k) xs).length = xs.length := by simp [encs]
    refine wpList_append_arg (W.alloc (.cells #[.int k p] e)) hgd s x t ho e i z 1 bytes ht hi hz0 hz1 hz2 hz (by decide) g 0 xs.length cap (encs (Value.int k) xs) hs (by rw [hlen]; omega) ?_ ⟨W.heap.size, 0, none⟩ 1 1 [.int k p] hx rfl ?_ (by simp [Value.oneCell']) ?_ ?_ hl ?_ ?_
    · intro j u hj
      rw [Nat.zero_add, blk_cell hrow j]
      have : (cur.toList.take (xs.length * 1))[j]? = some u := by rw [htk]; exact hj
      rw [List.getElem?_take] at this
      split at this
      · simpa using this
      · simp at this
    · intro j u hj
      have hj' : j = 0 := by
        have := (List.getElem?_eq_some_iff.1 hj).1
        simp at this; exact this
      subst hj'
      rw [add_plain]
      have := blk_cell (blk_new W (.cells #[.int k p] e)) 0
      rw [this]
      simpa using hj
    · intro hr j hj
      have hj' : j = 0 := by simpa using hj
      subst hj'
      rw [blk_cell hrow, blk_frozen hrow]
      refine ⟨?_, rfl⟩
      rw [Array.getElem?_eq_getElem (by omega)]
      rfl
    · simp only [maxLen]
      have : xs.length + 1 ≤ (xs.length + 1) * bytes := Nat.le_mul_of_pos_right _ hb0
      omega
    · intro hr
      obtain ⟨cur', h3, h4, h5⟩ := setCells_row [.int k p] (0 + xs.length * 1) (W.alloc (.cells #[.int k p] e)) cur hrow (by simp; omega)
      have e1 : cur'.toList.take ((xs.length + 1) * 1) = encs (Value.int k) (xs ++ [p]) := by
        rw [h5, show 0 + xs.length * 1 = xs.length * 1 by omega, htk, encs_append, List.take_append_of_le_length (by simp [encs])]
        rw [List.take_of_length_le (by simp [encs])]
        rfl
      have e2 : cur'.toList.take (xs.length * 1) = encs (Value.int k) xs := by
        rw [h5, show 0 + xs.length * 1 = xs.length * 1 by omega, htk, List.append_assoc, List.take_append_of_le_length (by simp [encs]), List.take_of_length_le (by simp [encs])]
      have hg : W.grownBy ((W.alloc (.cells #[.int k p] e)).setCells g (0 + xs.length * 1) [.int k p]) (some g) := by
        obtain ⟨s1, s2, s3, s4⟩ := setCells_same g [.int k p] (0 + xs.length * 1) (W.alloc (.cells #[.int k p] e))
        exact ⟨s1, s2, s3, by rw [s4]; exact hga.size, fun j hj hjn => by
          rw [setCells_far _ _ j (fun e => hjn (by rw [e]))]
          exact hga.block j hj (by simp)⟩
      refine h _ _ (R_of_own (enc := Value.int k) (h1 := fun _ => rfl) ⟨by simp [encs], .inr ⟨g, cap, cur', by simp, hb, h3, by simp; omega, hm, by omega, by simpa using e1⟩⟩ (fun q hq => hok q hq)) (R_of_own (enc := Value.int k) (h1 := fun _ => rfl) ⟨by simp [encs], .inr ⟨g, cap, cur', rfl, hb, h3, hn, hm, by omega, e2⟩⟩ hok) (pw_below_grown HB (some g) hbase hg (fun q hq => by cases hq; exact hb)) hg (.inl rfl)
    · intro hr v' w' own' hg'
      have hW : W.grownBy w' none := ⟨hg'.os.trans hga.os, hg'.tape.trans hga.tape, hg'.output.trans hga.output, Nat.le_trans hga.size hg'.size, fun j hj hn => (hg'.block j (Nat.lt_of_lt_of_le hj hga.size) hn).trans (hga.block j hj hn)⟩
      have hbb : ∀ q, v'.ownBlock = some q → W.heap.size ≤ q := fun q hq => Nat.le_trans hga.size (own_base own' q hq)
      have e3 : encs (Value.int k) xs ++ [.int k p] = encs (Value.int k) (xs ++ [p]) := by rw [encs_append]; rfl
      refine h v' w' (R_of_own (enc := Value.int k) (h1 := fun _ => rfl) (by rw [← e3]; simpa using own_weaken own' (Nat.le_trans hbase hga.size)) (fun q hq => hfresh q (hbb q hq))) (R_of_own (enc := Value.int k) (h1 := fun _ => rfl) (own_other own hW (.inr (by simp [Value.ownBlock]))) hok) (pw_below_grown HB none hbase hW (by simp)) (grown_weaken hW _) ?_
      obtain ⟨q, c, hv, _⟩ := own'.form (by omega)
      exact .inr ⟨q, by rw [hv]; rfl, hbb q (by rw [hv]; rfl)⟩
end Go.Proofs.YtokfpmkhfindmaaDoorW.PrintWords.Kd
