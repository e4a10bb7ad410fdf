-- Written by a program of this session (wip/tools/pp.py over the kit's print).
import Derived.Test.YtokhjhkkncbjeaaDoorPFnBlocksx0
import Derived.Test.YtokhjhkkncbjeaaDoorPFnBlocksx10
import Derived.Test.YtokhjhkkncbjeaaDoorPFnBlocksx13
namespace Go.Proofs.YtokhjhkkncbjeaaDoor.PFnBlocks
open Go.RowKit Go.Proofs.YtokhjhkkncbjeaaDoorW.PrintWords Go.Proofs.YtokhjhkkncbjeaaDoorW.PrintLast Go.Proofs.YtokhjhkkncbjeaaDoorW.PrintMore
attribute [local go_sem] max2_int min2_int max_two min_two max_three min_three max_four min_four
attribute [local go_sem high] str_gtr str_leq str_geq
set_option linter.unusedVariables false
set_option linter.unusedSimpArgs false

/-! ### impl_ReadBlock: function 8 -/
def idxP {α : Type} (p : α → Bool) (l : List α) : Int := match l.findIdx? p with | some i => (i : Int) | none => -1
/-- what is asked of a predicate that is handed over -/
def PredOk {α : Type} (P : Program) (d : Kd α) (g : Nat) (lb : Array Value) (val : List Value → Value) (p : α → Bool) (l : List α) (w : World) : Prop :=
 ∀ (W : World) (x : α) (cs : List Value), x ∈ l → Below w.heap.size w W → d.K W x cs → Calls P g (#[val cs] ++ lb) W fun e w' => e = .returned (.bool (p x)) ∧ Below W.heap.size W w'
theorem idxP_hit {α : Type} {p : α → Bool} {l : List α} {i : Nat} {x : α} (h : l[i]? = some x) (hx : p x = true) (hb : ∀ j y, j < i → l[j]? = some y → p y = false) : idxP p l = (i : Int) := by
 have : l.findIdx? p = some i := by
  rw [List.findIdx?_eq_some_iff_getElem]
  obtain ⟨hi, he⟩ := List.getElem?_eq_some_iff.1 h
  refine ⟨hi, (by rw [he]; exact hx), fun j hj => ?_⟩
  have := hb j l[j] hj (List.getElem?_eq_getElem (by omega))
  simp [this]
 simp [idxP, this]
theorem idxP_miss {α : Type} {p : α → Bool} {l : List α} (hb : ∀ j y, j < l.length → l[j]? = some y → p y = false) : idxP p l = -1 := by
 have : l.findIdx? p = none := by
  rw [List.findIdx?_eq_none_iff]
  intro x hx
  obtain ⟨j, hj⟩ := List.getElem?_of_mem hx
  have := hb j x (List.getElem?_eq_some_iff.1 hj).1 hj
  simp [this]
 simp [idxP, this]
theorem idxP_any {α : Type} (p : α → Bool) (l : List α) : decide (0 ≤ idxP p l) = l.any p := by
 unfold idxP
 cases h : l.findIdx? p with
 | none =>
  rw [List.findIdx?_eq_none_iff] at h
  have : l.any p = false := by rw [List.any_eq_false]; intro x hx; simp [h x hx]
  rw [this]; decide
 | some i =>
  rw [List.findIdx?_eq_some_iff_getElem] at h
  obtain ⟨hi, hp, _⟩ := h
  have : l.any p = true := List.any_eq_true.2 ⟨l[i], List.getElem_mem hi, hp⟩
  rw [this]; simp
theorem enters_ {P : Program} {f : FuncId} {fn : Func} {c : Code} (hf : P.funcs[f]? = some fn) (hname : (fn.name == "runtime.NumGoroutine") = false) (hb : fn.body = some c) : ∀ (args : Array Value) (w : World), (callFunc f args).run P w = .ok (.enter f args) w := by
 intro args w
 have h1 : fn.name ≠ "runtime.NumGoroutine" := by simpa using hname
 simp [callFunc, hf, h1, hb, mark]
def CurAt (w0 W : World) (g : Nat) (xs : List Int) (bad : Bool) : Prop := ∃ (A : Option Addr) (c : Nat), W.heap[g]? = some (.cells #[.slice A xs.length c, .bool bad] 49 (0, 0)) ∧ w0.heap.size ≤ g ∧ xs.length ≤ c ∧ Kd.C (Kd.int .u8) w0 A xs.length xs
def impl_cursor_goes.f (xs : List Int) (bad : Bool) (t : Int) : Option (List Int × Bool) := if 0 ≤ t ∧ t ≤ (xs.length : Int) then some (xs.drop t.toNat, bad || (t == 0)) else none
set_option maxHeartbeats 8000000 in
set_option maxRecDepth 100000 in
theorem impl_cursor_goes.calls (g : Nat) (xs : List Int) (bad : Bool) (t : Int) (ys : List Int) (b : Bool) (w0 w : World) (hI : CurAt w0 w g xs bad) (hB : Below w0.heap.size w0 w) (h : impl_cursor_goes.f xs bad t = some (ys, b)) :
  Calls Tryd.prog 51 #[.pointer (some ⟨g, 0, none⟩), .int .i64 t] w fun e w' => e = .returned (.tuple #[]) ∧ CurAt w0 w' g ys b ∧ Below w0.heap.size w0 w' ∧ KeepBut w w' g none := by
 unfold impl_cursor_goes.f at h
 by_cases ht : 0 ≤ t ∧ t ≤ (xs.length : Int)
 ·rw [if_pos ht] at h
  obtain ⟨rfl, rfl⟩ : xs.drop t.toNat = ys ∧ (bad || (t == 0)) = b := by simpa using h
  clear h
  obtain ⟨h0, h1⟩ := ht
  obtain ⟨A, c, HG, hg, hcc, HC⟩ := hI
  have hc0 : w.cell? ⟨g, 0, none⟩ = some (.slice A xs.length c) := (blk_cell HG 0).trans rfl
  have hc1 : w.cell? ⟨g, 1, none⟩ = some (.bool bad) := (blk_cell HG 1).trans rfl
  have hf0 := blk_frozen HG 0
  have hf1 := blk_frozen HG 1
  obtain ⟨i0, hi0, _, hsz, _⟩ := info_parts info5
  obtain ⟨A', hcut, hA, hC'⟩ := print_drop_of (P := Tryd.prog) (Value.int .u8) 0 22 5 .i64 Tryd.underlying22 hi0 hsz A c xs t h0 h1 hcc
  have HG' := Aside0.mk HG
  have HC' := Aside0.mk (Kd.C_of_reads (h1 := fun _ => rfl) (hA _ (Kd.reads_of_C HC)))
  have HL := Aside0.mk hC'
  have HB := Aside0.mk hB
  have HK := Aside0.mk (KeepBut.refl w g none)
  have HGE := Aside0.mk hg
  clear hA hC' hi0 hsz hB hg HC hcc HG
  have p1 : decide (0 ≤ t) = true := decide_eq_true h0
  have p2 : decide (t ≤ (xs.length : Int)) = true := decide_eq_true h1
  have hlen : (xs.drop t.toNat).length = xs.length - t.toNat := List.length_drop
  rw [hlen] at hcut HC' HL
  cases bad with
  | true =>
   go_enter Tryd.func51, Tryd.ntmps51
   go_wp2
   go_end0
   refine ⟨rfl, ⟨A', c - t.toNat, ?_, HGE.out, (by rw [hlen]; exact HL.out), (by rw [hlen]; exact HC'.out)⟩, below_set (below_set HB.out HGE.out) HGE.out, (HK.out.set_ 1 _).set_ 0 _⟩
   rw [hlen]
   exact blk_set (blk_set HG'.out 1 _) 0 _
  | false =>
   go_enter Tryd.func51, Tryd.ntmps51
   go_wp2
   go_end0
   refine ⟨rfl, ⟨A', c - t.toNat, ?_, HGE.out, (by rw [hlen]; exact HL.out), (by rw [hlen]; exact HC'.out)⟩, below_set (below_set HB.out HGE.out) HGE.out, (HK.out.set_ 1 _).set_ 0 _⟩
   rw [hlen]
   exact blk_set (blk_set HG'.out 1 _) 0 _
 ·rw [if_neg ht] at h
  cases h
theorem CurAt.below {w0 W W1 : World} {g : Nat} {xs : List Int} {bad : Bool} (h : CurAt w0 W g xs bad) (hb : Below W.heap.size W W1) : CurAt w0 W1 g xs bad := by
 obtain ⟨A, c, HG, hg, hc, HC⟩ := h
 exact ⟨A, c, blk_below HG hb, hg, hc, HC⟩
theorem CurAt.drewN {w0 W : World} {g : Nat} {xs : List Int} {bad : Bool} (h : CurAt w0 W g xs bad) (n : Nat) : CurAt w0 (W.drewN n) g xs bad := h
def impl_cursor_number.f (k : Nat) (xs : List Int) (bad : Bool) : Option (Int × List Int × Bool) := (impl_ReadNumber.f k xs).bind fun p => (impl_cursor_goes.f xs bad p.2).bind fun q => some (p.1, q.1, q.2)
set_option maxHeartbeats 8000000 in
set_option maxRecDepth 100000 in
theorem impl_cursor_number.calls (k : Nat) (g : Nat) (xs : List Int) (bad : Bool) (r : Int) (ys : List Int) (b : Bool) (w0 w : World) (hI : CurAt w0 w g xs bad) (hB : Below w0.heap.size w0 w) (h : impl_cursor_number.f k xs bad = some (r, ys, b)) :
  Calls Tryd.prog 24 #[.pointer (some ⟨g, 0, none⟩)] w fun e w' => e = .returned (.int .i64 r) ∧ CurAt w0 w' g ys b ∧ Below w0.heap.size w0 w' ∧ KeepBut w w' g none := by
 have eg1 : ∀ args w, (callFunc 50 args).run Tryd.prog w = .ok (.enter 50 args) w := enters_ Tryd.func50 (by kernel_rfl) rfl
 have eg2 : ∀ args w, (callFunc 51 args).run Tryd.prog w = .ok (.enter 51 args) w := enters_ Tryd.func51 (by kernel_rfl) rfl
 unfold impl_cursor_number.f at h
 obtain ⟨⟨n, t⟩, h1, h⟩ := Option.bind_eq_some_iff.1 h
 obtain ⟨⟨ys', b'⟩, h2, h⟩ := Option.bind_eq_some_iff.1 h
 obtain ⟨rfl, rfl, rfl⟩ : n = r ∧ ys' = ys ∧ b' = b := by simpa using h
 clear h
 have HI := Aside0.mk hI
 have HB := Aside0.mk hB
 have H1 := Aside0.mk h1
 have H2 := Aside0.mk h2
 clear h1 h2 hB
 obtain ⟨A, c, HG, hg, hcc, HC⟩ := hI
 have hc0 : w.cell? ⟨g, 0, none⟩ = some (.slice A xs.length c) := (blk_cell HG 0).trans rfl
 have HC := Aside0.mk (Kd.C_below HC HB.out)
 have HCC := Aside0.mk hcc
 clear HG hg hcc
 go_enter Tryd.func24, Tryd.ntmps24
 go_wp2_with fail
 refine (impl_ReadNumber.calls k A c xs n t _ HC.out HCC.out H1.out).mono ?_
 rintro e w' ⟨rfl, ⟨nd, rfl⟩⟩
 go_wp2_with fail
 refine (impl_cursor_goes.calls g xs bad t ys' b' w0 _ (CurAt.drewN HI.out nd) (pw_below_drewN HB.out nd) H2.out).mono ?_
 rintro e w' ⟨rfl, hI, hB, hK⟩
 have HI2 := Aside0.mk hI
 have HB2 := Aside0.mk hB
 have HK2 := Aside0.mk hK
 clear hI hB hK
 go_wp2
 go_ret
 exact ⟨rfl, HI2.out, HB2.out, HK2.out⟩
def impl_cursor_text.f (k : Nat) (xs : List Int) (bad : Bool) : Option (ByteArray × List Int × Bool) := (impl_ReadText.f k xs).bind fun p => (impl_cursor_goes.f xs bad p.2).bind fun q => some (p.1, q.1, q.2)
set_option maxHeartbeats 8000000 in
set_option maxRecDepth 100000 in
theorem impl_cursor_text.calls (k : Nat) (g : Nat) (xs : List Int) (bad : Bool) (r : ByteArray) (ys : List Int) (b : Bool) (w0 w : World) (hI : CurAt w0 w g xs bad) (hB : Below w0.heap.size w0 w) (h : impl_cursor_text.f k xs bad = some (r, ys, b)) :
  Calls Tryd.prog 52 #[.pointer (some ⟨g, 0, none⟩)] w fun e w' => e = .returned (.string r) ∧ CurAt w0 w' g ys b ∧ Below w0.heap.size w0 w' ∧ KeepBut w w' g none := by
 have eg1 : ∀ args w, (callFunc 70 args).run Tryd.prog w = .ok (.enter 70 args) w := enters_ Tryd.func70 (by kernel_rfl) rfl
 have eg2 : ∀ args w, (callFunc 51 args).run Tryd.prog w = .ok (.enter 51 args) w := enters_ Tryd.func51 (by kernel_rfl) rfl
 unfold impl_cursor_text.f at h
 obtain ⟨⟨n, t⟩, h1, h⟩ := Option.bind_eq_some_iff.1 h
 obtain ⟨⟨ys', b'⟩, h2, h⟩ := Option.bind_eq_some_iff.1 h
 obtain ⟨rfl, rfl, rfl⟩ : n = r ∧ ys' = ys ∧ b' = b := by simpa using h
 clear h
 have HI := Aside0.mk hI
 have HB := Aside0.mk hB
 have H1 := Aside0.mk h1
 have H2 := Aside0.mk h2
 clear h1 h2 hB
 obtain ⟨A, c, HG, hg, hcc, HC⟩ := hI
 have hc0 : w.cell? ⟨g, 0, none⟩ = some (.slice A xs.length c) := (blk_cell HG 0).trans rfl
 have HC := Aside0.mk (Kd.C_below HC HB.out)
 have HCC := Aside0.mk hcc
 clear HG hg hcc
 go_enter Tryd.func52, Tryd.ntmps52
 go_wp2_with fail
 refine (impl_ReadText.calls k A c xs n t _ HC.out HCC.out H1.out).mono ?_
 rintro e w' ⟨rfl, ⟨nd, rfl⟩⟩
 go_wp2_with fail
 refine (impl_cursor_goes.calls g xs bad t ys' b' w0 _ (CurAt.drewN HI.out nd) (pw_below_drewN HB.out nd) H2.out).mono ?_
 rintro e w' ⟨rfl, hI, hB, hK⟩
 have HI2 := Aside0.mk hI
 have HB2 := Aside0.mk hB
 have HK2 := Aside0.mk hK
 clear hI hB hK
 go_wp2
 go_ret
 exact ⟨rfl, HI2.out, HB2.out, HK2.out⟩
def impl_cursor_texts.l0 : Nat → List Int → Bool → Int → List ByteArray → Option (List ByteArray × List Int × Bool)
 | 0, _, _, _, _ => none
 | k + 1, xs, bad, m, out => if m > 0 then (if bad = true then some (out, xs, bad) else (impl_cursor_text.f k xs bad).bind fun t => if out.length < 8796093022208 then impl_cursor_texts.l0 k t.2.1 t.2.2 (wrap64 (m - 1)) (out ++ [t.1]) else none) else some (out, xs, bad)
def impl_cursor_texts.f (k : Nat) (xs : List Int) (bad : Bool) : Option (List ByteArray × List Int × Bool) := (impl_cursor_number.f k xs bad).bind fun m => impl_cursor_texts.l0 k m.2.1 (if m.1 > 200 then true else m.2.2) m.1 []
theorem CurAt.set_1 {w0 W : World} {g : Nat} {xs : List Int} {bad : Bool} (h : CurAt w0 W g xs bad) (x : Bool) : CurAt w0 (W.setCell ⟨g, 1, none⟩ (.bool x)) g xs x := by
 obtain ⟨A, c, HG, hg, hc, HC⟩ := h
 exact ⟨A, c, blk_set HG 1 _, hg, hc, HC⟩
theorem CurAt.ge {w0 W : World} {g : Nat} {xs : List Int} {bad : Bool} (h : CurAt w0 W g xs bad) : w0.heap.size ≤ g := by
 obtain ⟨A, c, HG, hg, hc, HC⟩ := h
 exact hg
theorem CurAt.lt {w0 W : World} {g : Nat} {xs : List Int} {bad : Bool} (h : CurAt w0 W g xs bad) : g < W.heap.size := by
 obtain ⟨A, c, HG, hg, hc, HC⟩ := h
 exact blk_lt HG
theorem CurAt.cell1 {w0 W : World} {g : Nat} {xs : List Int} {bad : Bool} (h : CurAt w0 W g xs bad) : W.cell? ⟨g, 1, none⟩ = some (.bool bad) ∧ W.frozen? ⟨g, 1, none⟩ = false := by
 obtain ⟨A, c, HG, hg, hc, HC⟩ := h
 exact ⟨(blk_cell HG 1).trans rfl, blk_frozen HG 1⟩
set_option maxHeartbeats 8000000 in
set_option maxRecDepth 100000 in
theorem impl_cursor_texts.calls (k : Nat) (g : Nat) (xs : List Int) (bad : Bool) (r : List ByteArray) (ys : List Int) (b : Bool) (w0 w : World) (hI : CurAt w0 w g xs bad) (hB : Below w0.heap.size w0 w) (h : impl_cursor_texts.f k xs bad = some (r, ys, b)) :
  Calls Tryd.prog 25 #[.pointer (some ⟨g, 0, none⟩)] w fun e w' => ∃ v : Value, e = .returned v ∧ Kd.R Kd.string 9 w' w.heap.size (fun k => k ≠ g) v r ∧ CurAt w0 w' g ys b ∧ Below w0.heap.size w0 w' ∧ KeepBut w w' g none := by
 have eg1 : ∀ args w, (callFunc 24 args).run Tryd.prog w = .ok (.enter 24 args) w := enters_ Tryd.func24 (by kernel_rfl) rfl
 have eg2 : ∀ args w, (callFunc 52 args).run Tryd.prog w = .ok (.enter 52 args) w := enters_ Tryd.func52 (by kernel_rfl) rfl
 unfold impl_cursor_texts.f at h
 obtain ⟨⟨m, xs1, bad1⟩, h1, h⟩ := Option.bind_eq_some_iff.1 h
 have h : impl_cursor_texts.l0 k xs1 (if m > 200 then true else bad1) m [] = some (r, ys, b) := h
 have HI := Aside0.mk hI
 have HB := Aside0.mk hB
 have H1 := Aside0.mk h1
 have H := Aside0.mk h
 have HL := Aside0.mk hI.lt
 clear h1 hB h hI
 go_enter Tryd.func25, Tryd.ntmps25
 go_wp2_with fail
 refine (impl_cursor_number.calls k g xs bad m xs1 bad1 w0 _ HI.out HB.out H1.out).mono ?_
 rintro e w' ⟨rfl, hI, hB, hK⟩
 have HI2 := Aside0.mk hI
 have HB2 := Aside0.mk hB
 have HK2 := Aside0.mk hK
 clear hI hB hK HI HB H1
 by_cases c2 : m > 200
 ·have c2b : decide (200 < m) = true := decide_eq_true c2
  have H2 : Aside0 (impl_cursor_texts.l0 k xs1 true m [] = some (r, ys, b)) := ⟨(by have := H.out; rw [if_pos c2] at this; exact this)⟩
  clear c2 H
  go_wp2_with (first | ((with_reducible refine gate_dst (N := 7) rfl ?_); refine Kd.R_lit Kd.string _ 9 ?hg (N := 7) ?hd (xs := ([] : List ByteArray)) (inner := []) (ok := fun _ => True) (okp := fun _ => True) ?hr ?hp (fun _ hk => hk) trivial (Below.refl _ _) (Nat.le_refl _) (by simp) ?_; (case hd => rfl); (case hg => rfl); (case hr => first | (go_simp; done) | (go_simp; rfl)); (case hp => exact (Reps.none _ _)); intro v4 w4 ho hb hg_ hnew_; clear hg_ hnew_; have HO := Aside0.mk (Kd.R_lower (Kd.R_mono (Kd.R_bound ho) (fun k_ hk_ => (by have := hk_.2.1; have := HI2.out.lt; omega : k_ ≠ g))) (below_size HB2.out |> fun _ => Nat.le_trans (keep_size HK2.out) (Nat.le_refl _))); have HI3 := Aside0.mk (HI2.out.below hb); have HB3 := Aside0.mk (below_then HB2.out (below_size HB2.out) hb); have HK3 := Aside0.mk (HK2.out.trans (KeepBut.of_below hb g none) (.inl rfl)); have hcell := HI3.out.cell1.1; have hfro := HI3.out.cell1.2; clear hb ho))
  go_loopg [3, 4] k (fun kq v3 v4 w' => ∃ (m : Int) (out : List ByteArray) (xs : List Int) (bad : Bool), v3 = .int .i64 m ∧ Aside0 (impl_cursor_texts.l0 kq xs bad m out = some (r, ys, b)) ∧ Aside0 (kq ≤ k) ∧ Aside0 (CurAt w0 w' g xs bad) ∧ Aside0 (Kd.R Kd.string 9 w' w.heap.size (fun k => k ≠ g) v4 out) ∧ Aside0 (Below w0.heap.size w0 w') ∧ Aside0 (KeepBut w w' g none))
  case atStart => exact ⟨m, [], xs1, true, rfl, H2, ⟨Nat.le_refl _⟩, ⟨HI3.out.set_1 true⟩, ⟨Kd.R_keep HO.out ((KeepBut.refl w4 g none).set_ 1 _) (fun _ h => h)⟩, ⟨below_set HB3.out HI3.out.ge⟩, ⟨HK3.out.set_ 1 _⟩⟩
  case round =>
   clear H2 HI2 HB2 HK2 c2b HO HI3 HB3 HK3 hcell hfro
   obtain ⟨m, out, xs, bad, rfl, HA, HKQ, HI, HO, HB, HK⟩ := hrel
   have hcell := HI.out.cell1.1
   have hfro := HI.out.cell1.2
   cases gk with
   | zero => exact absurd HA.out (by simp [impl_cursor_texts.l0])
   | succ kq =>
    have H := HA.out
    clear HA
    simp only [impl_cursor_texts.l0] at H
    by_cases c3 : m > 0
    ·rw [if_pos c3] at H
     have c3b : decide (0 < m) = true := decide_eq_true c3
     clear c3
     cases bad with
     | true =>
      rw [if_pos rfl] at H
      obtain ⟨rfl, rfl, rfl⟩ : out = r ∧ xs = ys ∧ true = b := by simpa using H
      clear H
      go_wp2
      go_ret
      exact ⟨_, rfl, HO.out, HI.out, HB.out, HK.out⟩
     | false =>
      rw [if_neg (by simp)] at H
      obtain ⟨⟨s, xs2, bad2⟩, h1, H⟩ := Option.bind_eq_some_iff.1 H
      have H1 := Aside0.mk h1
      clear h1
      by_cases c4 : out.length < 8796093022208
      ·have H : impl_cursor_texts.l0 kq xs2 bad2 (wrap64 (m - 1)) (out ++ [s]) = some (r, ys, b) := by rw [if_pos c4] at H; exact H
       have HA := Aside0.mk H
       have LM := Aside0.mk c4
       clear c4 H
       go_wp2_with fail
       refine (impl_cursor_text.calls kq g xs false s xs2 bad2 w0 _ HI.out HB.out H1.out).mono ?_
       rintro e w' ⟨rfl, hI, hB, hK⟩
       have HI2 := Aside0.mk hI
       have HB2 := Aside0.mk hB
       have HO2 := Aside0.mk (Kd.R_keep HO.out hK (fun _ h => h))
       have HK2 := Aside0.mk (HK.out.trans hK (.inl rfl))
       clear hI hB hK HI HB HK HO
       go_wp2_with (first | ((with_reducible refine gate_builtin (b := .append) (xs := #[.tmp 24, .tmp 27]) rfl ?_); at_builtin; refine Kd.R_append Kd.string (w0 := w') w.heap.size rfl (.tmp 24) (.tmp 27) 27 9 (.string ⟨#[]⟩) 16 rfl Tryd.underlying27 info9 rfl (by decide) (by omega) u4 out s [.string s] (fun k_ => k_ ≠ g) (fun _ => False) rfl rfl ?aP (fun _ hk => hk.elim) ?aF ?aO ?aB ?aS ?aL ?_; (case aP => exact rfl); (case aB => exact Below.refl _ _); (case aF => exact (fun k_ hk_ => Nat.ne_of_gt (Nat.lt_of_lt_of_le HI2.out.lt hk_))); (case aO => exact HO2.out); (case aS => exact keep_size HK2.out); (case aL => have := LM.out; omega); intro v5 w5 ho hb hg hat; have HO3 := Aside0.mk ho; have HG3 := Aside0.mk hg; have HB8 := Aside0.mk hb; clear ho hb hg hat))
       have HB4 : Aside0 (Below w0.heap.size w0 w5) := ⟨HB2.out.trans ⟨HB8.out.os, HB8.out.tape, HB8.out.output, HB8.out.size, fun i hi => HB8.out.block i (by have := HI2.out.ge; have := HL.out; omega)⟩⟩
       have HK4 : Aside0 (KeepBut w w5 g none) := ⟨⟨Nat.le_trans (keep_size HK2.out) HB8.out.size, fun i hi hg hr => (HB8.out.block i hi).trans (HK2.out.2 i hi hg hr)⟩⟩
       have HI4 : Aside0 (CurAt w0 w5 g xs2 bad2) := ⟨(by obtain ⟨A, c, h1, h2⟩ := HI2.out; exact ⟨A, c, (HB8.out.block g HL.out).trans h1, h2⟩)⟩
       go_roundg kq
       case measure => have := HKQ.out; omega
       case rel => exact ⟨wrap64 (m - 1), out ++ [s], xs2, bad2, (by first | rfl | (simp; done)), HA, ⟨(by have := HKQ.out; omega)⟩, HI4, HO3, HB4, HK4⟩
      ·rw [if_neg c4] at H
       cases H
    ·rw [if_neg c3] at H
     have c3b : decide (0 < m) = false := decide_eq_false c3
     clear c3
     obtain ⟨rfl, rfl, rfl⟩ : out = r ∧ xs = ys ∧ bad = b := by simpa using H
     clear H
     go_wp2
     go_ret
     exact ⟨_, rfl, HO.out, HI.out, HB.out, HK.out⟩
 ·have c2b : decide (200 < m) = false := decide_eq_false c2
  have H2 : Aside0 (impl_cursor_texts.l0 k xs1 bad1 m [] = some (r, ys, b)) := ⟨(by have := H.out; rw [if_neg c2] at this; exact this)⟩
  clear c2 H
  go_wp2_with (first | ((with_reducible refine gate_dst (N := 7) rfl ?_); refine Kd.R_lit Kd.string _ 9 ?hg (N := 7) ?hd (xs := ([] : List ByteArray)) (inner := []) (ok := fun _ => True) (okp := fun _ => True) ?hr ?hp (fun _ hk => hk) trivial (Below.refl _ _) (Nat.le_refl _) (by simp) ?_; (case hd => rfl); (case hg => rfl); (case hr => first | (go_simp; done) | (go_simp; rfl)); (case hp => exact (Reps.none _ _)); intro v4 w4 ho hb hg_ hnew_; clear hg_ hnew_; have HO := Aside0.mk (Kd.R_lower (Kd.R_mono (Kd.R_bound ho) (fun k_ hk_ => (by have := hk_.2.1; have := HI2.out.lt; omega : k_ ≠ g))) (below_size HB2.out |> fun _ => Nat.le_trans (keep_size HK2.out) (Nat.le_refl _))); have HI3 := Aside0.mk (HI2.out.below hb); have HB3 := Aside0.mk (below_then HB2.out (below_size HB2.out) hb); have HK3 := Aside0.mk (HK2.out.trans (KeepBut.of_below hb g none) (.inl rfl)); have hcell := HI3.out.cell1.1; have hfro := HI3.out.cell1.2; clear hb ho))
  go_loopg [3, 4] k (fun kq v3 v4 w' => ∃ (m : Int) (out : List ByteArray) (xs : List Int) (bad : Bool), v3 = .int .i64 m ∧ Aside0 (impl_cursor_texts.l0 kq xs bad m out = some (r, ys, b)) ∧ Aside0 (kq ≤ k) ∧ Aside0 (CurAt w0 w' g xs bad) ∧ Aside0 (Kd.R Kd.string 9 w' w.heap.size (fun k => k ≠ g) v4 out) ∧ Aside0 (Below w0.heap.size w0 w') ∧ Aside0 (KeepBut w w' g none))
  case atStart => exact ⟨m, [], xs1, bad1, rfl, H2, ⟨Nat.le_refl _⟩, HI3, HO, HB3, HK3⟩
  case round =>
   clear H2 HI2 HB2 HK2 c2b HO HI3 HB3 HK3 hcell hfro
   obtain ⟨m, out, xs, bad, rfl, HA, HKQ, HI, HO, HB, HK⟩ := hrel
   have hcell := HI.out.cell1.1
   have hfro := HI.out.cell1.2
   cases gk with
   | zero => exact absurd HA.out (by simp [impl_cursor_texts.l0])
   | succ kq =>
    have H := HA.out
    clear HA
    simp only [impl_cursor_texts.l0] at H
    by_cases c3 : m > 0
    ·rw [if_pos c3] at H
     have c3b : decide (0 < m) = true := decide_eq_true c3
     clear c3
     cases bad with
     | true =>
      rw [if_pos rfl] at H
      obtain ⟨rfl, rfl, rfl⟩ : out = r ∧ xs = ys ∧ true = b := by simpa using H
      clear H
      go_wp2
      go_ret
      exact ⟨_, rfl, HO.out, HI.out, HB.out, HK.out⟩
     | false =>
      rw [if_neg (by simp)] at H
      obtain ⟨⟨s, xs2, bad2⟩, h1, H⟩ := Option.bind_eq_some_iff.1 H
      have H1 := Aside0.mk h1
      clear h1
      by_cases c4 : out.length < 8796093022208
      ·have H : impl_cursor_texts.l0 kq xs2 bad2 (wrap64 (m - 1)) (out ++ [s]) = some (r, ys, b) := by rw [if_pos c4] at H; exact H
       have HA := Aside0.mk H
       have LM := Aside0.mk c4
       clear c4 H
       go_wp2_with fail
       refine (impl_cursor_text.calls kq g xs false s xs2 bad2 w0 _ HI.out HB.out H1.out).mono ?_
       rintro e w' ⟨rfl, hI, hB, hK⟩
       have HI2 := Aside0.mk hI
       have HB2 := Aside0.mk hB
       have HO2 := Aside0.mk (Kd.R_keep HO.out hK (fun _ h => h))
       have HK2 := Aside0.mk (HK.out.trans hK (.inl rfl))
       clear hI hB hK HI HB HK HO
       go_wp2_with (first | ((with_reducible refine gate_builtin (b := .append) (xs := #[.tmp 24, .tmp 27]) rfl ?_); at_builtin; refine Kd.R_append Kd.string (w0 := w') w.heap.size rfl (.tmp 24) (.tmp 27) 27 9 (.string ⟨#[]⟩) 16 rfl Tryd.underlying27 info9 rfl (by decide) (by omega) u4 out s [.string s] (fun k_ => k_ ≠ g) (fun _ => False) rfl rfl ?aP (fun _ hk => hk.elim) ?aF ?aO ?aB ?aS ?aL ?_; (case aP => exact rfl); (case aB => exact Below.refl _ _); (case aF => exact (fun k_ hk_ => Nat.ne_of_gt (Nat.lt_of_lt_of_le HI2.out.lt hk_))); (case aO => exact HO2.out); (case aS => exact keep_size HK2.out); (case aL => have := LM.out; omega); intro v5 w5 ho hb hg hat; have HO3 := Aside0.mk ho; have HG3 := Aside0.mk hg; have HB8 := Aside0.mk hb; clear ho hb hg hat))
       have HB4 : Aside0 (Below w0.heap.size w0 w5) := ⟨HB2.out.trans ⟨HB8.out.os, HB8.out.tape, HB8.out.output, HB8.out.size, fun i hi => HB8.out.block i (by have := HI2.out.ge; have := HL.out; omega)⟩⟩
       have HK4 : Aside0 (KeepBut w w5 g none) := ⟨⟨Nat.le_trans (keep_size HK2.out) HB8.out.size, fun i hi hg hr => (HB8.out.block i hi).trans (HK2.out.2 i hi hg hr)⟩⟩
       have HI4 : Aside0 (CurAt w0 w5 g xs2 bad2) := ⟨(by obtain ⟨A, c, h1, h2⟩ := HI2.out; exact ⟨A, c, (HB8.out.block g HL.out).trans h1, h2⟩)⟩
       go_roundg kq
       case measure => have := HKQ.out; omega
       case rel => exact ⟨wrap64 (m - 1), out ++ [s], xs2, bad2, (by first | rfl | (simp; done)), HA, ⟨(by have := HKQ.out; omega)⟩, HI4, HO3, HB4, HK4⟩
      ·rw [if_neg c4] at H
       cases H
    ·rw [if_neg c3] at H
     have c3b : decide (0 < m) = false := decide_eq_false c3
     clear c3
     obtain ⟨rfl, rfl, rfl⟩ : out = r ∧ xs = ys ∧ bad = b := by simpa using H
     clear H
     go_wp2
     go_ret
     exact ⟨_, rfl, HO.out, HI.out, HB.out, HK.out⟩
theorem CurAt.isS {w0 W : World} {g : Nat} {xs : List Int} {bad : Bool} (h : CurAt w0 W g xs bad) : IsS49 w0 W g xs bad := by
 obtain ⟨A, c, HG, hg, hc, HC⟩ := h
 exact ⟨A, c, HG, hg, HC⟩
theorem impl_cursor_number.mono : ∀ a0 a1 k, LeO (impl_cursor_number.f k a0 a1) (impl_cursor_number.f (k + 1) a0 a1) := by
 intro a0 a1 k
 unfold impl_cursor_number.f
 exact LeO.bind (impl_ReadNumber.mono _ _) (fun _ => LeO.refl _)
theorem impl_cursor_text.mono : ∀ a0 a1 k, LeO (impl_cursor_text.f k a0 a1) (impl_cursor_text.f (k + 1) a0 a1) := by
 intro a0 a1 k
 unfold impl_cursor_text.f
 exact LeO.bind (impl_ReadText.mono _ _) (fun _ => LeO.refl _)
theorem impl_cursor_texts.mono_l : ∀ k a0 a1 a2 a3, LeO (impl_cursor_texts.l0 k a0 a1 a2 a3) (impl_cursor_texts.l0 (k + 1) a0 a1 a2 a3)
 | 0, _, _, _, _ => fun r h => by simp [impl_cursor_texts.l0] at h
 | k + 1, a0, a1, a2, a3 => by
  unfold impl_cursor_texts.l0
  exact LeO.ite (LeO.ite (LeO.refl _) (LeO.bind (impl_cursor_text.mono _ _ _) (fun _ => LeO.ite (impl_cursor_texts.mono_l k _ _ _ _) (LeO.none _)))) (LeO.refl _)
theorem impl_cursor_texts.mono : ∀ a0 a1 k, LeO (impl_cursor_texts.f k a0 a1) (impl_cursor_texts.f (k + 1) a0 a1) := by
 intro a0 a1 k
 unfold impl_cursor_texts.f
 exact LeO.bind (impl_cursor_number.mono _ _ _) (fun _ => impl_cursor_texts.mono_l _ _ _ _ _)
theorem conv_objR (W : World) (e : TypeId) (s : ByteArray) (hs : s.size ≤ 9223372036854775807) :
  ∃ cs fr, (Lib.bytesWorld W e s).heap[W.heap.size]? = some (.cells cs e fr) ∧ ∀ W1 : World, W1.heap[W.heap.size]? = some (.cells cs e fr) →
   Kd.C (Kd.int .u8) W1 (some ⟨W.heap.size, 0, none⟩) (bytesOf s).length (bytesOf s) := by
 have hlt : W.heap.size < (Lib.bytesWorld W e s).heap.size := by rw [Lib.bytesWorld_size]; omega
 have hfz : ∃ cs fr, (Lib.bytesWorld W e s).heap[W.heap.size]? = some (.cells cs e fr) := by
  simp only [Lib.bytesWorld, World.freeze, World.alloc, World.drew, show ¬ (1 = 0) from by decide, if_false, Array.getElem?_modify, Array.getElem?_push_size, if_true, Option.map_some]
  exact ⟨_, _, rfl⟩
 obtain ⟨cs, fr, h0⟩ := hfz
 refine ⟨cs, fr, h0, fun W1 h1 => ?_⟩
 have hr := bytes_reads W e s hs
 refine Kd.C_of_reads (h1 := fun _ => rfl) (d := 0) ⟨rfl, (by rw [bytesOf_length]; exact hs), fun hp => ⟨_, rfl, fun j hj => ?_⟩⟩
 obtain ⟨ad, ea, hc⟩ := hr.2.2 (by rw [bytesOf_length] at hp; exact hp)
 cases ea
 have h2 := hc j (by rw [bytesOf_length] at hj; exact hj)
 rw [add_plain] at h2 ⊢
 rw [← h2]
 simp only [World.cell?, h1, h0]
theorem Kd.V_convR {P : Program} {ops : Array Oper} {rest : List Oper} {Q : Exit → Act → World → Prop} {o : Oper} {a : Act} {w0 W : World} (base e : Nat) (hgd : o.guard = none) {N : Tmp} (_hd : o.dst = some N) (s : ByteArray) {ok : Nat → Prop}
  {src dst : TypeId} {u : TypeDesc} (h1_ : P.underlying src = some u) (h2_ : P.underlying dst = some (.slice e)) (h3_ : P.underlying e = some (.int .u8)) (hex : execOp a.eval o = (convert src dst (.string s) >>= fun v => pure (Next.value v)))
  (hfresh : ok W.heap.size) (HB : Below base w0 W) (hbase : base ≤ W.heap.size) (hs : (s.size : Int) ≤ 9223372036854775807)
  (h : ∀ v1 w1, Kd.V (Kd.int .u8) e w1 base ok v1 (bytesOf s) → Below base w0 w1 → W.grownBy w1 none → (∃ b, v1.ownBlock = some b ∧ W.heap.size ≤ b) → wpList P ops Q rest (a.put o.dst v1) w1) : wpList P ops Q (o :: rest) a W := by
 have hrun : (execOp a.eval o).run P W = .ok (.value (.slice (some ⟨W.heap.size, 0, none⟩) s.size (grownCap W s.size 0 e))) (Lib.bytesWorld W e s) := by
  have kb_ := print_bytes (P := P) src dst e h1_ h2_ h3_ s W
  rw [hex]
  rw [Sem.run_bind, kb_]; rfl
 obtain ⟨cs, fr, h1, h2⟩ := conv_objR W e s (by omega)
 have hb := bytes_below (Below.refl W.heap.size W) (Nat.le_refl _) e s
 have hcap : s.size ≤ grownCap W s.size 0 e := grownCap_ge _ _ _ _
 refine Kd.event_run hgd hrun (h _ _ ⟨_, grownCap W s.size 0 e, (by rw [bytesOf_length]), (by rw [bytesOf_length]; exact hcap), fun W' hW => ?_⟩ (bytes_below HB hbase e s) (grown_of_below hb none) ⟨W.heap.size, (by simp [Value.ownBlock]), Nat.le_refl _⟩)
 have hlt : W.heap.size < (Lib.bytesWorld W e s).heap.size := by rw [Lib.bytesWorld_size]; omega
 exact h2 W' ((hW _ hfresh hlt).trans h1)
theorem CurAt.far {w0 W : World} {g : Nat} {xs : List Int} {bad : Bool} (h : CurAt w0 W g xs bad) {p : Addr} (hp : g ≠ p.block) (u : Value) : CurAt w0 (W.setCell p u) g xs bad := by
 obtain ⟨A, c, HG, hg, hc, HC⟩ := h
 exact ⟨A, c, blk_far HG hp u, hg, hc, HC⟩
theorem CurAt.grown {w0 W W1 : World} {g : Nat} {xs : List Int} {bad : Bool} {row : Option Nat} (h : CurAt w0 W g xs bad) (hw : W.grownBy W1 row) (hn : some g ≠ row) : CurAt w0 W1 g xs bad := by
 obtain ⟨A, c, HG, hg, hc, HC⟩ := h
 exact ⟨A, c, blk_grown HG hw hn, hg, hc, HC⟩
theorem CurAt.ne_own {w0 W : World} {g : Nat} {xs : List Int} {bad : Bool} {α : Type} {d : Kd α} {e base : Nat} {ok : Nat → Prop} {v : Value} {ys : List α} (h : CurAt w0 W g xs bad) (hR : Kd.R d e W base ok v ys) (he : e ≠ 49) : some g ≠ v.ownBlock := by
 obtain ⟨A, c, HG, hg, hc, HC⟩ := h
 exact Kd.R_ne hR HG he
theorem Kd.R_cur {w0 W W1 : World} {g : Nat} {xs : List Int} {bad : Bool} {α : Type} {d : Kd α} {e base : Nat} {ok : Nat → Prop} {v : Value} {ys : List α} (hR : Kd.R d e W base ok v ys) (h : CurAt w0 W g xs bad) (he : ∀ q, q ∈ e :: d.E → q ≠ 49) (hk : KeepBut W W1 g none) : Kd.R d e W1 base ok v ys := by
 obtain ⟨A, c, HG, hg, hc, HC⟩ := h
 exact Kd.R_mono (Kd.R_keep (Kd.R_types hR HG he) hk (fun _ h => h.2)) (fun _ h => h.1)
theorem Kd.R_put {W : World} {α : Type} {d : Kd α} {e base : Nat} {ok : Nat → Prop} {v : Value} {ys : List α} {gb i t : Nat} {cs : Array Value} (hR : Kd.R d e W base ok v ys) (hb : W.heap[gb]? = some (.cells cs t (0, 0))) (he : ∀ q, q ∈ e :: d.E → q ≠ t) (u : Value) : Kd.R d e (W.setCell ⟨gb, i, none⟩ u) base ok v ys :=
 Kd.R_mono (Kd.R_far (Kd.R_types hR hb he) (p := ⟨gb, i, none⟩) (fun _ h => h.2) u) (fun _ h => h.1)
def impl_ReadBlock.l0 : Nat → List Int → Bool → Int → Int → List Int → List Int → Option (List Int × List Int × List Int × Bool)
 | 0, _, _, _, _, _, _ => none
 | k + 1, xs, bad, i, m, by_, tags => if i < m then (impl_cursor_number.f k xs bad).bind fun a => (impl_cursor_number.f k a.2.1 a.2.2).bind fun b => if by_.length < 17592186044416 ∧ tags.length < 17592186044416 then impl_ReadBlock.l0 k b.2.1 b.2.2 (wrap64 (i + 1)) m (by_ ++ [a.1]) (tags ++ [b.1]) else none else some (by_, tags, xs, bad)
def impl_ReadBlock.t (k : Nat) (s : ByteArray) (v p pv pn : Int) (x : List Int × List Int × List Int × Bool) : Option (Int × Int × Int × Int × List Int × List Int × List ByteArray × Int × Bool) :=
 (impl_cursor_texts.f k x.2.2.1 x.2.2.2).bind fun t => (impl_cursor_number.f k t.2.1 t.2.2).bind fun z => (impl_cursor_ended.f z.2.1 z.2.2).bind fun q => if q.1 = true then (impl_ShowBlock.f k v p pv pn x.1 x.2.1 t.1 z.1).bind fun sh => if sh.toList = s.toList then some (v, p, pv, pn, x.1, x.2.1, t.1, z.1, true) else some (0, 0, 0, 0, ([] : List Int), ([] : List Int), ([] : List ByteArray), 0, false) else some (0, 0, 0, 0, ([] : List Int), ([] : List Int), ([] : List ByteArray), 0, false)
def impl_ReadBlock.f (k : Nat) (s : ByteArray) : Option (Int × Int × Int × Int × List Int × List Int × List ByteArray × Int × Bool) :=
 if (s.size : Int) ≤ 9223372036854775807 then (impl_cursor_number.f k (bytesOf s) false).bind fun a => (impl_cursor_number.f k a.2.1 a.2.2).bind fun b => (impl_cursor_number.f k b.2.1 b.2.2).bind fun c => (impl_cursor_number.f k c.2.1 c.2.2).bind fun d => (impl_cursor_number.f k d.2.1 d.2.2).bind fun e => if e.1 > 7 then some (0, 0, 0, 0, ([] : List Int), ([] : List Int), ([] : List ByteArray), 0, false) else (impl_ReadBlock.l0 k e.2.1 e.2.2 0 e.1 [] []).bind fun x => impl_ReadBlock.t k s a.1 b.1 c.1 d.1 x else none

theorem impl_ReadBlock.mono_l : ∀ k a0 a1 a2 a3 a4 a5, LeO (impl_ReadBlock.l0 k a0 a1 a2 a3 a4 a5) (impl_ReadBlock.l0 (k + 1) a0 a1 a2 a3 a4 a5)
 | 0, _, _, _, _, _, _ => fun r h => by simp [impl_ReadBlock.l0] at h
 | k + 1, a0, a1, a2, a3, a4, a5 => by
  unfold impl_ReadBlock.l0
  exact LeO.ite (LeO.bind (impl_cursor_number.mono _ _ _) (fun _ => LeO.bind (impl_cursor_number.mono _ _ _) (fun _ => LeO.ite (impl_ReadBlock.mono_l k _ _ _ _ _ _) (LeO.none _)))) (LeO.refl _)
theorem impl_ReadBlock.mono_t : ∀ a0 a1 a2 a3 a4 a5 k, LeO (impl_ReadBlock.t k a0 a1 a2 a3 a4 a5) (impl_ReadBlock.t (k + 1) a0 a1 a2 a3 a4 a5) := by
 intro a0 a1 a2 a3 a4 a5 k
 unfold impl_ReadBlock.t
 exact LeO.bind (impl_cursor_texts.mono _ _ _) (fun _ => LeO.bind (impl_cursor_number.mono _ _ _) (fun _ => LeO.bind (LeO.refl _) (fun _ => LeO.ite (LeO.bind (impl_ShowBlock.mono _ _ _ _ _ _ _ _ _) (fun _ => LeO.refl _)) (LeO.refl _))))
theorem impl_ReadBlock.mono : ∀ a0 k, LeO (impl_ReadBlock.f k a0) (impl_ReadBlock.f (k + 1) a0) := by
 intro a0 k
 unfold impl_ReadBlock.f
 exact LeO.ite (LeO.bind (impl_cursor_number.mono _ _ _) (fun _ => LeO.bind (impl_cursor_number.mono _ _ _) (fun _ => LeO.bind (impl_cursor_number.mono _ _ _) (fun _ => LeO.bind (impl_cursor_number.mono _ _ _) (fun _ => LeO.bind (impl_cursor_number.mono _ _ _) (fun _ => LeO.ite (LeO.refl _) (LeO.bind (impl_ReadBlock.mono_l _ _ _ _ _ _ _) (fun _ => impl_ReadBlock.mono_t _ _ _ _ _ _ _)))))))) (LeO.none _)
set_option maxHeartbeats 16000000 in
set_option maxRecDepth 100000 in
theorem impl_ReadBlock.calls (k : Nat) (a0 : ByteArray) (r1 : Int) (r2 : Int) (r3 : Int) (r4 : Int) (r5 : List Int) (r6 : List Int) (r7 : List ByteArray) (r8 : Int) (r9 : Bool) (w : World) (h : impl_ReadBlock.f k a0 = some (r1, r2, r3, r4, r5, r6, r7, r8, r9)) :
  Calls Tryd.prog 8 #[.string a0] w fun e w' => ∃ v4_ v5_ v6_ : Value, e = .returned (.tuple #[.agg #[.int .i64 r1, .int .i64 r2, .int .i64 r3, .int .i64 r4, v4_, v5_, v6_, .int .i64 r8], .bool r9]) ∧ Kd.R (Kd.int .i64) 2 w' w.heap.size (fun k_ => some k_ ≠ (v5_ : Value).ownBlock) v4_ r5 ∧ Kd.R (Kd.int .i64) 2 w' w.heap.size (fun k_ => some k_ ≠ (v4_ : Value).ownBlock) v5_ r6 ∧ Kd.R Kd.string 9 w' w.heap.size (fun _ => True) v6_ r7 ∧ Below w.heap.size w w' := by
 have eg1 : ∀ args w, (callFunc 24 args).run Tryd.prog w = .ok (.enter 24 args) w := enters_ Tryd.func24 (by kernel_rfl) rfl
 have eg2 : ∀ args w, (callFunc 25 args).run Tryd.prog w = .ok (.enter 25 args) w := enters_ Tryd.func25 (by kernel_rfl) rfl
 have eg3 : ∀ args w, (callFunc 26 args).run Tryd.prog w = .ok (.enter 26 args) w := enters_ Tryd.func26 (by kernel_rfl) rfl
 have eg4 : ∀ args w, (callFunc 6 args).run Tryd.prog w = .ok (.enter 6 args) w := enters_ Tryd.func6 (by kernel_rfl) rfl
 have hu42 := Tryd.underlying29
 have hu40 := Tryd.underlying26
 unfold impl_ReadBlock.f at h
 by_cases hs : (a0.size : Int) ≤ 9223372036854775807
 ·rw [if_pos hs] at h
  have hsb : decide ((a0.size : Int) ≤ 9223372036854775807) = true := decide_eq_true hs
  obtain ⟨⟨n1, xs1, b1⟩, h1, h⟩ := Option.bind_eq_some_iff.1 h
  obtain ⟨⟨n2, xs2, b2⟩, h2, h⟩ := Option.bind_eq_some_iff.1 h
  obtain ⟨⟨n3, xs3, b3⟩, h3, h⟩ := Option.bind_eq_some_iff.1 h
  obtain ⟨⟨n4, xs4, b4⟩, h4, h⟩ := Option.bind_eq_some_iff.1 h
  obtain ⟨⟨n5, xs5, b5⟩, h5, h⟩ := Option.bind_eq_some_iff.1 h
  dsimp only at h h1 h2 h3 h4 h5
  have H := Aside0.mk h
  have H1 := Aside0.mk h1
  have H2 := Aside0.mk h2
  have H3 := Aside0.mk h3
  have H4 := Aside0.mk h4
  have H5 := Aside0.mk h5
  clear h h1 h2 h3 h4 h5
  go_enter Tryd.func8, Tryd.ntmps8
  go_wp2_with (first | ((with_reducible refine gate_dst (N := 2) rfl ?_); refine box_event ?hg (N := 2) ?hd (cs := #[.int .i64 0, .int .i64 0, .int .i64 0, .int .i64 0, .slice none 0 0, .slice none 0 0, .slice none 0 0, .int .i64 0]) (t := 29) ?hr ?_; (case hd => rfl); (case hg => rfl); (case hr => first | (go_simp; done) | (go_simp; rfl)); intro g2 hg w1 hbox hb; have BK2 := Aside0.mk hbox; have HB1 := Aside0.mk hb; have GE2 := Aside0.mk (Nat.le_of_eq hg.symm); clear hg hbox hb) | ((with_reducible refine gate_dst (N := 8) rfl ?_); refine Kd.V_convR _ 5 ?hg (N := 8) ?hd a0 (ok := fun _ => True) Tryd.underlying9 Tryd.underlying22 Tryd.underlying5 ?hr trivial (Below.refl _ _) (Nat.le_refl _) (od_) ?_; (case hd => rfl); (case hg => rfl); (case hr => rfl); intro v2 wc ho hb hg_ hnew_; obtain ⟨A0, c0, rfl⟩ : ∃ A c, v2 = .slice A (bytesOf a0).length c := (by obtain ⟨A, c, e, _⟩ := ho; exact ⟨A, c, e⟩); have HC := Aside0.mk (Kd.V_reads' ho); have n1_ := Aside0.mk (blk_below BK2.out hb); have n2_ := Aside0.mk (below_step HB1.out hb); clear BK2 HB1 ho hb hg_ hnew_; have BK2 := n1_; have B2_ := n1_; have HB1 := n2_; clear n1_ n2_) | fail)

  have HI : Aside0 (CurAt wc (wc.alloc (.cells #[.slice A0 (bytesOf a0).length c0, .bool false] 49)) wc.heap.size (bytesOf a0) false) := ⟨⟨A0, c0, (by simpa using heap_alloc_new wc _), Nat.le_refl _, HC.out.2.1, HC.out.2.2⟩⟩
  have HB : Aside0 (Below wc.heap.size wc (wc.alloc (.cells #[.slice A0 (bytesOf a0).length c0, .bool false] 49))) := ⟨below_alloc (Below.refl _ _) _⟩
  generalize wc.heap.size = g at HI ⊢
  refine (impl_cursor_number.calls k g (bytesOf a0) false n1 xs1 b1 wc _ HI.out HB.out H1.out).mono ?_
  rintro e w2 ⟨rfl, hI, hB, hk_⟩
  clear HI HB
  have HI := Aside0.mk hI
  have HB := Aside0.mk hB
  clear hI hB hk_
  go_wp2_with fail
  refine (impl_cursor_number.calls k g xs1 b1 n2 xs2 b2 wc _ HI.out HB.out H2.out).mono ?_
  rintro e w3 ⟨rfl, hI, hB, hk_⟩
  clear HI HB
  have HI := Aside0.mk hI
  have HB := Aside0.mk hB
  clear hI hB hk_
  go_wp2_with fail
  have NGB := Aside0.mk (Nat.ne_of_lt HI.out.lt)
  have NBG := Aside0.mk (Nat.ne_of_gt HI.out.lt)
  have GEb := Aside0.mk (below_size HB.out)
  have BKB : Aside0 ((w3.alloc (.cells #[.int .i64 n1, .int .i64 n2, .int .i64 0, .int .i64 0, .slice none 0 0, .slice none 0 0, .slice none 0 0, .int .i64 0] 29)).heap[w3.heap.size]? = some (.cells #[.int .i64 n1, .int .i64 n2, .int .i64 0, .int .i64 0, .slice none 0 0, .slice none 0 0, .slice none 0 0, .int .i64 0] 29 (0, 0))) := ⟨heap_alloc_new w3 _⟩
  have n1_ := Aside0.mk (HI.out.below (below_alloc (Below.refl w3.heap.size w3) (.cells #[.int .i64 n1, .int .i64 n2, .int .i64 0, .int .i64 0, .slice none 0 0, .slice none 0 0, .slice none 0 0, .int .i64 0] 29)))
  have n2_ := Aside0.mk (below_alloc HB.out (.cells #[.int .i64 n1, .int .i64 n2, .int .i64 0, .int .i64 0, .slice none 0 0, .slice none 0 0, .slice none 0 0, .int .i64 0] 29))
  clear HI HB
  have HI := n1_
  have HB := n2_
  clear n1_ n2_
  generalize w3.heap.size = gb at NGB NBG GEb BKB ⊢
  generalize w3.alloc (.cells #[.int .i64 n1, .int .i64 n2, .int .i64 0, .int .i64 0, .slice none 0 0, .slice none 0 0, .slice none 0 0, .int .i64 0] 29) = w4 at HI HB BKB ⊢
  refine (impl_cursor_number.calls k g xs2 b2 n3 xs3 b3 wc _ HI.out HB.out H3.out).mono ?_
  rintro e w5 ⟨rfl, hI, hB, hk_⟩
  have mB_ := Aside0.mk (hk_.blk BKB.out NBG.out (by simp))
  clear HI HB BKB
  have HI := Aside0.mk hI
  have HB := Aside0.mk hB
  have BKB := mB_
  clear hI hB hk_ mB_
  go_wp2_with fail
  refine (impl_cursor_number.calls k g xs3 b3 n4 xs4 b4 wc _ HI.out HB.out H4.out).mono ?_
  rintro e w6 ⟨rfl, hI, hB, hk_⟩
  have mB_ := Aside0.mk (hk_.blk BKB.out NBG.out (by simp))
  clear HI HB BKB
  have HI := Aside0.mk hI
  have HB := Aside0.mk hB
  have BKB := mB_
  clear hI hB hk_ mB_
  have hs2 : w6.cell? ⟨gb, 2, none⟩ = some (.int .i64 0) := (blk_cell BKB.out 2).trans rfl
  have hsf2 := blk_frozen BKB.out 2
  have hs3 : w6.cell? ⟨gb, 3, none⟩ = some (.int .i64 0) := (blk_cell BKB.out 3).trans rfl
  have hsf3 := blk_frozen BKB.out 3
  go_wp2_with fail
  clear hs2 hs3 hsf2 hsf3
  have mI_ := Aside0.mk (HI.out.far (p := ⟨gb, 2, none⟩) NGB.out (.int .i64 n3))
  have mB_ := Aside0.mk (blk_put (cs' := #[.int .i64 n1, .int .i64 n2, .int .i64 n3, .int .i64 0, .slice none 0 0, .slice none 0 0, .slice none 0 0, .int .i64 0]) BKB.out 2 (.int .i64 n3) rfl)
  have mH_ := Aside0.mk (below_set (g := gb) (j := 2) (v := .int .i64 n3) HB.out GEb.out)
  clear HB BKB HI
  generalize w6.setCell ⟨gb, 2, none⟩ (.int .i64 n3) = w7 at mB_ mH_ mI_ ⊢
  have HI := mI_
  have BKB := mB_
  have HB := mH_
  clear mB_ mH_ mI_
  have mI_ := Aside0.mk (HI.out.far (p := ⟨gb, 3, none⟩) NGB.out (.int .i64 n4))
  have mB_ := Aside0.mk (blk_put (cs' := #[.int .i64 n1, .int .i64 n2, .int .i64 n3, .int .i64 n4, .slice none 0 0, .slice none 0 0, .slice none 0 0, .int .i64 0]) BKB.out 3 (.int .i64 n4) rfl)
  have mH_ := Aside0.mk (below_set (g := gb) (j := 3) (v := .int .i64 n4) HB.out GEb.out)
  clear HB BKB HI
  generalize w7.setCell ⟨gb, 3, none⟩ (.int .i64 n4) = w8 at mB_ mH_ mI_ ⊢
  have HI := mI_
  have BKB := mB_
  have HB := mH_
  clear mB_ mH_ mI_
  refine (impl_cursor_number.calls k g xs4 b4 n5 xs5 b5 wc _ HI.out HB.out H5.out).mono ?_
  rintro e w9 ⟨rfl, hI, hB, hk_⟩
  have mB_ := Aside0.mk (hk_.blk BKB.out NBG.out (by simp))
  clear HI HB BKB
  have HI := Aside0.mk hI
  have HB := Aside0.mk hB
  have BKB := mB_
  clear hI hB hk_ mB_
  by_cases c5 : n5 > 7
  ·have H_ := H.out
   rw [if_pos c5] at H_
   have c5b : decide (7 < n5) = true := decide_eq_true c5
   simp only [Option.some.injEq, Prod.mk.injEq] at H_
   obtain ⟨rfl, rfl, rfl, rfl, rfl, rfl, rfl, rfl, rfl⟩ := H_
   clear H
   have BK2 := Aside0.mk ((HB.out.block g2 (blk_lt BK2.out)).trans BK2.out)
   have hz0 : w9.cell? ⟨g2, 0, none⟩ = some (.int .i64 0) := (blk_cell BK2.out 0).trans rfl
   have hzf0 := blk_frozen BK2.out 0
   have hz1 : w9.cell? ⟨g2, 1, none⟩ = some (.int .i64 0) := (blk_cell BK2.out 1).trans rfl
   have hzf1 := blk_frozen BK2.out 1
   have hz2 : w9.cell? ⟨g2, 2, none⟩ = some (.int .i64 0) := (blk_cell BK2.out 2).trans rfl
   have hzf2 := blk_frozen BK2.out 2
   have hz3 : w9.cell? ⟨g2, 3, none⟩ = some (.int .i64 0) := (blk_cell BK2.out 3).trans rfl
   have hzf3 := blk_frozen BK2.out 3
   have hz4 : w9.cell? ⟨g2, 4, none⟩ = some (.slice none 0 0) := (blk_cell BK2.out 4).trans rfl
   have hzf4 := blk_frozen BK2.out 4
   have hz5 : w9.cell? ⟨g2, 5, none⟩ = some (.slice none 0 0) := (blk_cell BK2.out 5).trans rfl
   have hzf5 := blk_frozen BK2.out 5
   have hz6 : w9.cell? ⟨g2, 6, none⟩ = some (.slice none 0 0) := (blk_cell BK2.out 6).trans rfl
   have hzf6 := blk_frozen BK2.out 6
   have hz7 : w9.cell? ⟨g2, 7, none⟩ = some (.int .i64 0) := (blk_cell BK2.out 7).trans rfl
   have hzf7 := blk_frozen BK2.out 7
   go_wp2
   refine bodyPost_ret (results_ct rfl _ _ g2 29 #[.int .i64 0, .int .i64 0, .int .i64 0, .int .i64 0, .slice none 0 0, .slice none 0 0, .slice none 0 0, .int .i64 0] (0, 0) _ rfl Z9 Tryd.underlying29 rfl (by kernel_rfl)) rfl ?_
   have HBW := Aside0.mk (below_step HB1.out HB.out)
   exact ⟨_, _, _, rfl, Kd.R_nil _ _ _ _ _, Kd.R_nil _ _ _ _ _, Kd.R_nil _ _ _ _ _, J40⟩
  ·have H_ := H.out
   rw [if_neg c5] at H_
   have c5b : decide (7 < n5) = false := decide_eq_false c5
   clear c5 H
   obtain ⟨⟨y1, y2, y3, y4⟩, hx, h⟩ := Option.bind_eq_some_iff.1 H_
   unfold impl_ReadBlock.t at h
   obtain ⟨⟨tl, xs7, b7⟩, h7, h⟩ := Option.bind_eq_some_iff.1 h
   obtain ⟨⟨n8, xs8, b8⟩, h8, h⟩ := Option.bind_eq_some_iff.1 h
   obtain ⟨⟨q1, q2⟩, h9, h⟩ := Option.bind_eq_some_iff.1 h
   dsimp only at h h7 h8 h9
   have H := Aside0.mk h
   have HX := Aside0.mk hx
   have H7 := Aside0.mk h7
   have H8 := Aside0.mk h8
   have H9 := Aside0.mk h9
   clear h hx h7 h8 h9 H_
   try go_wp2
   go_loopg [24] k (fun kq v24 w' => ∃ (i : Int) (xs : List Int) (bad : Bool) (y u : List Int) (u4 u5 : Value), v24 = .int .i64 i ∧ Aside0 (impl_ReadBlock.l0 kq xs bad i n5 y u = some (y1, y2, y3, y4)) ∧ Aside0 (kq ≤ k) ∧ Aside0 (CurAt wc w' g xs bad) ∧ Aside0 (Kd.R (Kd.int .i64) 2 w' wc.heap.size (fun k_ => some k_ ≠ u5.ownBlock) u4 y) ∧ Aside0 (Kd.R (Kd.int .i64) 2 w' wc.heap.size (fun k_ => some k_ ≠ u4.ownBlock) u5 u) ∧ Aside0 (w'.heap[gb]? = some (.cells #[.int .i64 n1, .int .i64 n2, .int .i64 n3, .int .i64 n4, u4, u5, .slice none 0 0, .int .i64 0] 29 (0, 0))) ∧ Aside0 (Below wc.heap.size wc w'))
   case atStart => exact ⟨0, xs5, b5, [], [], .slice none 0 0, .slice none 0 0, rfl, HX, ⟨Nat.le_refl _⟩, HI, ⟨Kd.R_nil _ _ _ _ _⟩, ⟨Kd.R_nil _ _ _ _ _⟩, BKB, HB⟩
   case round =>
    clear HX HI HB BKB
    obtain ⟨i, xs, bad, y, u, u4, u5, rfl, HA, HKQ, HI, HOA, HOB, BKB, HB⟩ := hrel
    cases gk with
    | zero => exact absurd HA.out (by simp [impl_ReadBlock.l0])
    | succ kq =>
     have hh := HA.out
     clear HA
     simp only [impl_ReadBlock.l0] at hh
     by_cases c : i < n5
     ·rw [if_pos c] at hh
      have cb : decide (i < n5) = true := decide_eq_true c
      clear c
      obtain ⟨⟨m1, xsa, ba⟩, g1, hh⟩ := Option.bind_eq_some_iff.1 hh
      obtain ⟨⟨m2, xsb, bb⟩, g2_, hh⟩ := Option.bind_eq_some_iff.1 hh
      dsimp only at hh g1 g2_
      by_cases cl : y.length < 17592186044416 ∧ u.length < 17592186044416
      ·rw [if_pos cl] at hh
       obtain ⟨ya, hya⟩ : ∃ z, z = y ++ [m1] := ⟨_, rfl⟩
       obtain ⟨ua, hua⟩ : ∃ z, z = u ++ [m2] := ⟨_, rfl⟩
       rw [← hya, ← hua] at hh
       have NYA := Aside0.mk hya
       have NUA := Aside0.mk hua
       clear hya hua
       have HA := Aside0.mk hh
       have G1 := Aside0.mk g1
       have G2 := Aside0.mk g2_
       have L1 := Aside0.mk cl.1
       have L2 := Aside0.mk cl.2
       clear hh g1 g2_ cl
       try go_wp2
       have n1_ := Aside0.mk (show CurAt wc (World.drew _) g _ _ from HI.out)
       have n2_ := Aside0.mk (Kd.R_drew HOA.out)
       have n3_ := Aside0.mk (Kd.R_drew HOB.out)
       have n4_ := Aside0.mk (blk_drew BKB.out)
       have n5_ := Aside0.mk (below_drew1 HB.out)
       clear HI HOA HOB BKB HB
       have HI := n1_
       have HOA := n2_
       have HOB := n3_
       have BKB := n4_
       have HB := n5_
       clear n1_ n2_ n3_ n4_ n5_
       refine start_ (n := 9) (S := fun w' => w'.cell? ⟨gb, 4, none⟩ = some (u4)) (ds := [5, 8]) (bA 9 0) (by kernel_rfl) rfl rfl ((blk_cell BKB.out 4).trans rfl) (fun hHeld => ?_)
       generalize wr.drew = wd at HI HB HOA HOB BKB hHeld ⊢
       refine pure_ (i := 0) (N := some 26) (v := ?_) (a' := ?_) (bA 9 1) rfl rfl (by kernel_rfl) (fun _ _ _ h => h) (Or.inl ⟨(by rfl), ?_⟩) ?_ ?_
       rotate_left
       ·intro w'
        go_simp
        with_reducible rfl
       rotate_left
       ·simp only [sp_]
        rfl
       refine pure_ (i := 1) (N := some 27) (v := ?_) (a' := ?_) (bA 9 3) rfl rfl (by kernel_rfl) (fun _ _ _ h => h) (Or.inl ⟨(by rfl), ?_⟩) ?_ ?_
       rotate_left
       ·intro w'
        go_simp
        with_reducible rfl
       rotate_left
       ·simp only [sp_]
        rfl
       refine take_ (i := 2) (N := some 28) (v := ?_) (a' := ?_) (bA 9 7) rfl rfl (by kernel_rfl) (fun _ _ _ h => h) (Or.inl ⟨(by rfl), ?_⟩) hHeld ?_ ?_
       rotate_left
       ·intro w' s0
        go_simp
        with_reducible rfl
       rotate_left
       ·simp only [sp_]
        rfl
       refine one_ (i := 3) (N := some 29) (bA 9 15) rfl rfl (by kernel_rfl) (by decide) (fun K hK => ?_)
       refine goes_ Tryd.func24 (by kernel_rfl) rfl #[.pointer (some ⟨g, 0, none⟩)] (by rfl) rfl rfl Z18 ?_
       with_reducible refine (impl_cursor_number.calls kq g xs bad m1 xsa ba wc _ HI.out HB.out G1.out).mono ?_
       rintro e w5 ⟨rfl, hI, hB, hk_⟩
       refine ⟨_, rfl, ?_⟩
       have n1_ := Aside0.mk (Kd.R_cur HOA.out HI.out (by decide) hk_)
       have n2_ := Aside0.mk (Kd.R_cur HOB.out HI.out (by decide) hk_)
       have n3_ := Aside0.mk (hk_.blk BKB.out NBG.out (by simp))
       clear HI HB HOA HOB BKB hk_
       have HI := Aside0.mk hI
       have HB := Aside0.mk hB
       have HOA := n1_
       have HOB := n2_
       have BKB := n3_
       clear n1_ n2_ n3_ hI hB
       refine hK.out _ _ ((blk_cell BKB.out 4).trans rfl) (fun hHeld => ?_)
       clear hK K
       refine norm_ (a' := ?_) ?_ ?_
       rotate_left
       ·show Act.put _ (some 29) _ = _
        simp only [sp_]
        rfl
       refine one_ (i := 4) (N := some 30) (bA 9 31) rfl rfl (by kernel_rfl) (by decide) (fun K hK => ?_)
       refine value_ (w1 := ?_) (v := ?_) (by rfl) rfl ?_ ?_
       rotate_left 2
       ·go_simp
        constructor
        ·rfl
        ·rfl
       refine hK.out _ _ ((blk_cell (blk_alloc BKB.out _) 4).trans rfl) (fun hHeld => ?_)
       clear hK K
       refine norm_ (a' := ?_) ?_ ?_
       rotate_left
       ·show Act.put _ (some 30) _ = _
        simp only [sp_]
        rfl
       refine last_ (i := 5) (N := some 31) (bA 9 63) rfl rfl (by kernel_rfl) (by decide) (fun K hK => ?_)
       refine Kd.R_append_step (Kd.int .i64) (w0 := wc) wc.heap.size (by rfl) (.tmp 28) (.tmp 30) 24 2 (.int .i64 0) 8 rfl Tryd.underlying24 info2 rfl (by decide) (by omega) u4 y m1 [.int .i64 m1] (fun k_ => some k_ ≠ (u5 : Value).ownBlock) (fun _ => False) rfl rfl ?aP (fun _ hk => hk.elim) ?aF ?aO ?aB ?aS ?aL ?_
       (case aP => exact rfl)
       (case aB => exact Z0)
       (case aF => exact (fun k_ hk => Kd.fresh' (Kd.R_lt (by (with_reducible repeat (first | apply Kd.R_alloc | apply Kd.R_drewN | apply Kd.R_drew)); exact HOB.out)) k_ hk))
       (case aO => exact (by (with_reducible repeat (first | apply Kd.R_alloc | apply Kd.R_drewN | apply Kd.R_drew)); exact HOA.out))
       (case aS => exact (below_size Z0))
       (case aL => have := L1.out; omega)
       intro v6 w6 ho hb hg hat
       rw [← NYA.out] at ho
       obtain ⟨Ao, co, rfl⟩ := Kd.R_slice ho
       have n1_ := Aside0.mk (CurAt.grown HI.out hg (CurAt.ne_own HI.out HOA.out (by decide)))
       have n2_ := Aside0.mk (Kd.R_mono (Kd.R_after (ok := fun _ => True) (Kd.R_mono HOB.out (fun _ hk => ⟨trivial, hk⟩)) hg hat) (fun _ hk => hk.2))
       have n3_ := Aside0.mk (blk_grown BKB.out hg (Kd.R_ne HOA.out BKB.out (by decide)))
       clear HI HB HOA HOB BKB
       have HI := n1_
       have HB := Aside0.mk hb
       have HOB := n2_
       have HOA := Aside0.mk ho
       have BKB := n3_
       clear n1_ n2_ n3_ ho hb hg hat
       have hs_ : w6.cell? ⟨gb, 4, none⟩ = some (u4) := (blk_cell BKB.out 4).trans rfl
       have hf_ := blk_frozen BKB.out 4
       refine hK.out _ _ ?_
       clear hK K
       refine norm_ (a' := ?_) ?_ ?_
       rotate_left
       ·show Act.put _ (some 31) _ = _
        simp only [sp_]
        rfl
       refine pure_ (i := 6) (N := some 32) (v := ?_) (a' := ?_) (bA 9 127) rfl rfl (by kernel_rfl) (fun _ _ _ h => h) (Or.inl ⟨(by rfl), ?_⟩) ?_ ?_
       rotate_left
       ·intro w'
        go_simp
        with_reducible rfl
       rotate_left
       ·simp only [sp_]
        rfl
       refine pure_ (i := 7) (N := some 33) (v := ?_) (a' := ?_) (bA 9 255) rfl rfl (by kernel_rfl) (fun _ _ _ h => h) (Or.inl ⟨(by rfl), ?_⟩) ?_ ?_
       rotate_left
       ·intro w'
        go_simp
        with_reducible rfl
       rotate_left
       ·simp only [sp_]
        rfl
       refine last_ (i := 8) (N := none) (bA 9 511) rfl rfl (by kernel_rfl) (by decide) (fun K hK => ?_)
       refine skip_ (w1 := ?_) (by rfl) rfl ?_ ?_
       rotate_left
       ·go_simp
        rfl
       refine hK.out _ _ ?_
       clear hK K
       refine done_ (by kernel_rfl) ?_
       try go_wp2
       have mI_ := Aside0.mk (HI.out.far (p := ⟨gb, 4, none⟩) NGB.out (.slice Ao ya.length co))
       have mHOA_ := Aside0.mk (Kd.R_put (gb := gb) (i := 4) HOA.out BKB.out (by decide) (.slice Ao ya.length co))
       have mHOB_ := Aside0.mk (Kd.R_put (gb := gb) (i := 4) HOB.out BKB.out (by decide) (.slice Ao ya.length co))
       have mB_ := Aside0.mk (blk_put (cs' := #[.int .i64 n1, .int .i64 n2, .int .i64 n3, .int .i64 n4, .slice Ao ya.length co, u5, .slice none 0 0, .int .i64 0]) BKB.out 4 (.slice Ao ya.length co) rfl)
       have mH_ := Aside0.mk (below_set (g := gb) (j := 4) (v := .slice Ao ya.length co) HB.out GEb.out)
       clear HB BKB HOA HOB HI
       generalize w6.setCell ⟨gb, 4, none⟩ (.slice Ao ya.length co) = w7 at mB_ mH_ mHOA_ mHOB_ mI_ ⊢
       have HI := mI_
       have HOA := mHOA_
       have HOB := mHOB_
       have BKB := mB_
       have HB := mH_
       clear mB_ mH_ mHOA_ mHOB_ mI_
       have n1_ := Aside0.mk (show CurAt wc (World.drew _) g _ _ from HI.out)
       have n2_ := Aside0.mk (Kd.R_drew HOA.out)
       have n3_ := Aside0.mk (Kd.R_drew HOB.out)
       have n4_ := Aside0.mk (blk_drew BKB.out)
       have n5_ := Aside0.mk (below_drew1 HB.out)
       clear HI HOA HOB BKB HB
       have HI := n1_
       have HOA := n2_
       have HOB := n3_
       have BKB := n4_
       have HB := n5_
       clear n1_ n2_ n3_ n4_ n5_
       refine start_ (n := 9) (S := fun w' => w'.cell? ⟨gb, 5, none⟩ = some (u5)) (ds := [5, 8]) (bA 9 0) (by kernel_rfl) rfl rfl ((blk_cell BKB.out 5).trans rfl) (fun hHeld => ?_)
       generalize w7.drew = wdb at HI HB HOA HOB BKB hHeld ⊢
       refine pure_ (i := 0) (N := some 34) (v := ?_) (a' := ?_) (bA 9 1) rfl rfl (by kernel_rfl) (fun _ _ _ h => h) (Or.inl ⟨(by rfl), ?_⟩) ?_ ?_
       rotate_left
       ·intro w'
        go_simp
        with_reducible rfl
       rotate_left
       ·simp only [sp_]
        rfl
       refine pure_ (i := 1) (N := some 35) (v := ?_) (a' := ?_) (bA 9 3) rfl rfl (by kernel_rfl) (fun _ _ _ h => h) (Or.inl ⟨(by rfl), ?_⟩) ?_ ?_
       rotate_left
       ·intro w'
        go_simp
        with_reducible rfl
       rotate_left
       ·simp only [sp_]
        rfl
       refine take_ (i := 2) (N := some 36) (v := ?_) (a' := ?_) (bA 9 7) rfl rfl (by kernel_rfl) (fun _ _ _ h => h) (Or.inl ⟨(by rfl), ?_⟩) hHeld ?_ ?_
       rotate_left
       ·intro w' s0
        go_simp
        with_reducible rfl
       rotate_left
       ·simp only [sp_]
        rfl
       refine one_ (i := 3) (N := some 37) (bA 9 15) rfl rfl (by kernel_rfl) (by decide) (fun K hK => ?_)
       refine goes_ Tryd.func24 (by kernel_rfl) rfl #[.pointer (some ⟨g, 0, none⟩)] (by rfl) rfl rfl Z18 ?_
       with_reducible refine (impl_cursor_number.calls kq g xsa ba m2 xsb bb wc _ HI.out HB.out G2.out).mono ?_
       rintro e w5b ⟨rfl, hI, hB, hk_⟩
       refine ⟨_, rfl, ?_⟩
       have n1_ := Aside0.mk (Kd.R_cur HOA.out HI.out (by decide) hk_)
       have n2_ := Aside0.mk (Kd.R_cur HOB.out HI.out (by decide) hk_)
       have n3_ := Aside0.mk (hk_.blk BKB.out NBG.out (by simp))
       clear HI HB HOA HOB BKB hk_
       have HI := Aside0.mk hI
       have HB := Aside0.mk hB
       have HOA := n1_
       have HOB := n2_
       have BKB := n3_
       clear n1_ n2_ n3_ hI hB
       refine hK.out _ _ ((blk_cell BKB.out 5).trans rfl) (fun hHeld => ?_)
       clear hK K
       refine norm_ (a' := ?_) ?_ ?_
       rotate_left
       ·show Act.put _ (some 37) _ = _
        simp only [sp_]
        rfl
       refine one_ (i := 4) (N := some 38) (bA 9 31) rfl rfl (by kernel_rfl) (by decide) (fun K hK => ?_)
       refine value_ (w1 := ?_) (v := ?_) (by rfl) rfl ?_ ?_
       rotate_left 2
       ·go_simp
        constructor
        ·rfl
        ·rfl
       refine hK.out _ _ ((blk_cell (blk_alloc BKB.out _) 5).trans rfl) (fun hHeld => ?_)
       clear hK K
       refine norm_ (a' := ?_) ?_ ?_
       rotate_left
       ·show Act.put _ (some 38) _ = _
        simp only [sp_]
        rfl
       refine last_ (i := 5) (N := some 39) (bA 9 63) rfl rfl (by kernel_rfl) (by decide) (fun K hK => ?_)
       refine Kd.R_append_step (Kd.int .i64) (w0 := wc) wc.heap.size (by rfl) (.tmp 36) (.tmp 38) 24 2 (.int .i64 0) 8 rfl Tryd.underlying24 info2 rfl (by decide) (by omega) u5 u m2 [.int .i64 m2] (fun k_ => some k_ ≠ (.slice Ao ya.length co : Value).ownBlock) (fun _ => False) rfl rfl ?aP (fun _ hk => hk.elim) ?aF ?aO ?aB ?aS ?aL ?_
       (case aP => exact rfl)
       (case aB => exact Z0)
       (case aF => exact (fun k_ hk => Kd.fresh' (Kd.R_lt (by (with_reducible repeat (first | apply Kd.R_alloc | apply Kd.R_drewN | apply Kd.R_drew)); exact HOA.out)) k_ hk))
       (case aO => exact (by (with_reducible repeat (first | apply Kd.R_alloc | apply Kd.R_drewN | apply Kd.R_drew)); exact HOB.out))
       (case aS => exact (below_size Z0))
       (case aL => have := L2.out; omega)
       intro v6b w6b ho hb hg hat
       rw [← NUA.out] at ho
       obtain ⟨Aob, cob, rfl⟩ := Kd.R_slice ho
       have n1_ := Aside0.mk (CurAt.grown HI.out hg (CurAt.ne_own HI.out HOB.out (by decide)))
       have n2_ := Aside0.mk (Kd.R_mono (Kd.R_after (ok := fun _ => True) (Kd.R_mono HOA.out (fun _ hk => ⟨trivial, hk⟩)) hg hat) (fun _ hk => hk.2))
       have n3_ := Aside0.mk (blk_grown BKB.out hg (Kd.R_ne HOB.out BKB.out (by decide)))
       clear HI HB HOA HOB BKB
       have HI := n1_
       have HB := Aside0.mk hb
       have HOA := n2_
       have HOB := Aside0.mk ho
       have BKB := n3_
       clear n1_ n2_ n3_ ho hb hg hat
       have hs_ : w6b.cell? ⟨gb, 5, none⟩ = some (u5) := (blk_cell BKB.out 5).trans rfl
       have hf_ := blk_frozen BKB.out 5
       refine hK.out _ _ ?_
       clear hK K
       refine norm_ (a' := ?_) ?_ ?_
       rotate_left
       ·show Act.put _ (some 39) _ = _
        simp only [sp_]
        rfl
       refine pure_ (i := 6) (N := some 40) (v := ?_) (a' := ?_) (bA 9 127) rfl rfl (by kernel_rfl) (fun _ _ _ h => h) (Or.inl ⟨(by rfl), ?_⟩) ?_ ?_
       rotate_left
       ·intro w'
        go_simp
        with_reducible rfl
       rotate_left
       ·simp only [sp_]
        rfl
       refine pure_ (i := 7) (N := some 41) (v := ?_) (a' := ?_) (bA 9 255) rfl rfl (by kernel_rfl) (fun _ _ _ h => h) (Or.inl ⟨(by rfl), ?_⟩) ?_ ?_
       rotate_left
       ·intro w'
        go_simp
        with_reducible rfl
       rotate_left
       ·simp only [sp_]
        rfl
       refine last_ (i := 8) (N := none) (bA 9 511) rfl rfl (by kernel_rfl) (by decide) (fun K hK => ?_)
       refine skip_ (w1 := ?_) (by rfl) rfl ?_ ?_
       rotate_left
       ·go_simp
        rfl
       refine hK.out _ _ ?_
       clear hK K
       refine done_ (by kernel_rfl) ?_
       try go_wp2
       have mI_ := Aside0.mk (HI.out.far (p := ⟨gb, 5, none⟩) NGB.out (.slice Aob ua.length cob))
       have mHOA_ := Aside0.mk (Kd.R_put (gb := gb) (i := 5) HOA.out BKB.out (by decide) (.slice Aob ua.length cob))
       have mHOB_ := Aside0.mk (Kd.R_put (gb := gb) (i := 5) HOB.out BKB.out (by decide) (.slice Aob ua.length cob))
       have mB_ := Aside0.mk (blk_put (cs' := #[.int .i64 n1, .int .i64 n2, .int .i64 n3, .int .i64 n4, .slice Ao ya.length co, .slice Aob ua.length cob, .slice none 0 0, .int .i64 0]) BKB.out 5 (.slice Aob ua.length cob) rfl)
       have mH_ := Aside0.mk (below_set (g := gb) (j := 5) (v := .slice Aob ua.length cob) HB.out GEb.out)
       clear HB BKB HOA HOB HI
       generalize w6b.setCell ⟨gb, 5, none⟩ (.slice Aob ua.length cob) = w8b at mB_ mH_ mHOA_ mHOB_ mI_ ⊢
       have HI := mI_
       have HOA := mHOA_
       have HOB := mHOB_
       have BKB := mB_
       have HB := mH_
       clear mB_ mH_ mHOA_ mHOB_ mI_
       go_roundg kq
       case measure => have := HKQ.out; omega
       case rel => exact ⟨wrap64 (i + 1), xsb, bb, ya, ua, _, _, (by first | rfl | (simp; done)), HA, ⟨(by have := HKQ.out; omega)⟩, HI, HOA, HOB, BKB, HB⟩
      ·rw [if_neg cl] at hh
       cases hh
     ·rw [if_neg c] at hh
      have cb : decide (i < n5) = false := decide_eq_false c
      clear c
      obtain ⟨rfl, rfl, rfl, rfl⟩ : y = y1 ∧ u = y2 ∧ xs = y3 ∧ bad = y4 := by simpa using hh
      clear hh
      go_wp2_with fail
      have HIo := HI
      have HBo := HB
      refine (impl_cursor_texts.calls k g xs bad tl xs7 b7 wc _ HI.out HB.out H7.out).mono ?_
      rintro e w9 ⟨vt, rfl, hR, hI, hB, hk_⟩
      have mHOA_ := Aside0.mk (Kd.R_cur HOA.out HI.out (by decide) hk_)
      have mHOB_ := Aside0.mk (Kd.R_cur HOB.out HI.out (by decide) hk_)
      have mB_ := Aside0.mk (hk_.blk BKB.out NBG.out (by simp))
      clear HI HB HOA HOB BKB
      have HI := Aside0.mk hI
      have HB := Aside0.mk hB
      have HOA := mHOA_
      have HOB := mHOB_
      have BKB := mB_
      clear hI hB hk_ mHOA_ mHOB_ mB_
      have HR := Aside0.mk (Kd.R_mono (Kd.R_lower hR (below_size HBo.out)) (ok' := fun _ => True) (fun _ _ => trivial))
      clear HIo HBo hR
      obtain ⟨At, ct_, rfl⟩ := Kd.R_slice HR.out
      have hs6 : w9.cell? ⟨gb, 6, none⟩ = some (.slice none 0 0) := (blk_cell BKB.out 6).trans rfl
      have hsf6 := blk_frozen BKB.out 6
      go_wp2_with fail
      clear hs6 hsf6
      have mI_ := Aside0.mk (HI.out.far (p := ⟨gb, 6, none⟩) NGB.out (.slice At tl.length ct_))
      have mHOA_ := Aside0.mk (Kd.R_put (gb := gb) (i := 6) HOA.out BKB.out (by decide) (.slice At tl.length ct_))
      have mHOB_ := Aside0.mk (Kd.R_put (gb := gb) (i := 6) HOB.out BKB.out (by decide) (.slice At tl.length ct_))
      have mHR_ := Aside0.mk (Kd.R_put (gb := gb) (i := 6) HR.out BKB.out (by decide) (.slice At tl.length ct_))
      have mB_ := Aside0.mk (blk_put (cs' := #[.int .i64 n1, .int .i64 n2, .int .i64 n3, .int .i64 n4, u4, u5, .slice At tl.length ct_, .int .i64 0]) BKB.out 6 (.slice At tl.length ct_) rfl)
      have mH_ := Aside0.mk (below_set (g := gb) (j := 6) (v := .slice At tl.length ct_) HB.out GEb.out)
      clear HB BKB HOA HOB HR HI
      generalize w9.setCell ⟨gb, 6, none⟩ (.slice At tl.length ct_) = w10 at mB_ mH_ mHOA_ mHOB_ mHR_ mI_ ⊢
      have HI := mI_
      have HOA := mHOA_
      have HOB := mHOB_
      have HR := mHR_
      have BKB := mB_
      have HB := mH_
      clear mB_ mH_ mHOA_ mHOB_ mHR_ mI_
      refine (impl_cursor_number.calls k g xs7 b7 n8 xs8 b8 wc _ HI.out HB.out H8.out).mono ?_
      rintro e w11 ⟨rfl, hI, hB, hk_⟩
      have mHOA_ := Aside0.mk (Kd.R_cur HOA.out HI.out (by decide) hk_)
      have mHOB_ := Aside0.mk (Kd.R_cur HOB.out HI.out (by decide) hk_)
      have mHR_ := Aside0.mk (Kd.R_cur HR.out HI.out (by decide) hk_)
      have mB_ := Aside0.mk (hk_.blk BKB.out NBG.out (by simp))
      clear HI HB HOA HOB HR BKB
      have HI := Aside0.mk hI
      have HB := Aside0.mk hB
      have HOA := mHOA_
      have HOB := mHOB_
      have HR := mHR_
      have BKB := mB_
      clear hI hB hk_ mHOA_ mHOB_ mHR_ mB_
      have hs7 : w11.cell? ⟨gb, 7, none⟩ = some (.int .i64 0) := (blk_cell BKB.out 7).trans rfl
      have hsf7 := blk_frozen BKB.out 7
      go_wp2_with fail
      clear hs7 hsf7
      have mI_ := Aside0.mk (HI.out.far (p := ⟨gb, 7, none⟩) NGB.out (.int .i64 n8))
      have mHOA_ := Aside0.mk (Kd.R_put (gb := gb) (i := 7) HOA.out BKB.out (by decide) (.int .i64 n8))
      have mHOB_ := Aside0.mk (Kd.R_put (gb := gb) (i := 7) HOB.out BKB.out (by decide) (.int .i64 n8))
      have mHR_ := Aside0.mk (Kd.R_put (gb := gb) (i := 7) HR.out BKB.out (by decide) (.int .i64 n8))
      have mB_ := Aside0.mk (blk_put (cs' := #[.int .i64 n1, .int .i64 n2, .int .i64 n3, .int .i64 n4, u4, u5, .slice At tl.length ct_, .int .i64 n8]) BKB.out 7 (.int .i64 n8) rfl)
      have mH_ := Aside0.mk (below_set (g := gb) (j := 7) (v := .int .i64 n8) HB.out GEb.out)
      clear HB BKB HOA HOB HR HI
      generalize w11.setCell ⟨gb, 7, none⟩ (.int .i64 n8) = w12 at mB_ mH_ mHOA_ mHOB_ mHR_ mI_ ⊢
      have HI := mI_
      have HOA := mHOA_
      have HOB := mHOB_
      have HR := mHR_
      have BKB := mB_
      have HB := mH_
      clear mB_ mH_ mHOA_ mHOB_ mHR_ mI_
      refine (impl_cursor_ended.calls g xs8 b8 q1 q2 wc _ HI.out.isS HB.out H9.out).mono ?_
      rintro e w13 ⟨rfl, hI, hB, hk_⟩
      have mHOA_ := Aside0.mk (Kd.R_cur HOA.out HI.out (by decide) hk_)
      have mHOB_ := Aside0.mk (Kd.R_cur HOB.out HI.out (by decide) hk_)
      have mHR_ := Aside0.mk (Kd.R_cur HR.out HI.out (by decide) hk_)
      have mB_ := Aside0.mk (hk_.blk BKB.out NBG.out (by simp))
      clear HI HB HOA HOB HR BKB
      have HB := Aside0.mk hB
      have HOA := mHOA_
      have HOB := mHOB_
      have HR := mHR_
      have BKB := mB_
      clear hI hB hk_ mHOA_ mHOB_ mHR_ mB_
      have h_ := H.out
      clear H
      cases q1 with
      | false =>
       have h_ : some (0, 0, 0, 0, ([] : List Int), ([] : List Int), ([] : List ByteArray), 0, false) = some (r1, r2, r3, r4, r5, r6, r7, r8, r9) := h_
       simp only [Option.some.injEq, Prod.mk.injEq] at h_
       obtain ⟨rfl, rfl, rfl, rfl, rfl, rfl, rfl, rfl, rfl⟩ := h_
       have BK2 := Aside0.mk ((HB.out.block g2 (blk_lt BK2.out)).trans BK2.out)
       have hz0 : w13.cell? ⟨g2, 0, none⟩ = some (.int .i64 0) := (blk_cell BK2.out 0).trans rfl
       have hzf0 := blk_frozen BK2.out 0
       have hz1 : w13.cell? ⟨g2, 1, none⟩ = some (.int .i64 0) := (blk_cell BK2.out 1).trans rfl
       have hzf1 := blk_frozen BK2.out 1
       have hz2 : w13.cell? ⟨g2, 2, none⟩ = some (.int .i64 0) := (blk_cell BK2.out 2).trans rfl
       have hzf2 := blk_frozen BK2.out 2
       have hz3 : w13.cell? ⟨g2, 3, none⟩ = some (.int .i64 0) := (blk_cell BK2.out 3).trans rfl
       have hzf3 := blk_frozen BK2.out 3
       have hz4 : w13.cell? ⟨g2, 4, none⟩ = some (.slice none 0 0) := (blk_cell BK2.out 4).trans rfl
       have hzf4 := blk_frozen BK2.out 4
       have hz5 : w13.cell? ⟨g2, 5, none⟩ = some (.slice none 0 0) := (blk_cell BK2.out 5).trans rfl
       have hzf5 := blk_frozen BK2.out 5
       have hz6 : w13.cell? ⟨g2, 6, none⟩ = some (.slice none 0 0) := (blk_cell BK2.out 6).trans rfl
       have hzf6 := blk_frozen BK2.out 6
       have hz7 : w13.cell? ⟨g2, 7, none⟩ = some (.int .i64 0) := (blk_cell BK2.out 7).trans rfl
       have hzf7 := blk_frozen BK2.out 7
       go_wp2
       refine bodyPost_ret (results_ct rfl _ _ g2 29 #[.int .i64 0, .int .i64 0, .int .i64 0, .int .i64 0, .slice none 0 0, .slice none 0 0, .slice none 0 0, .int .i64 0] (0, 0) _ rfl Z9 Tryd.underlying29 rfl (by kernel_rfl)) rfl ?_
       have HBW := Aside0.mk (below_step HB1.out HB.out)
       exact ⟨_, _, _, rfl, Kd.R_nil _ _ _ _ _, Kd.R_nil _ _ _ _ _, Kd.R_nil _ _ _ _ _, J40⟩
      | true =>
       rw [if_pos rfl] at h_
       obtain ⟨sh, hsh, h_⟩ := Option.bind_eq_some_iff.1 h_
       try dsimp only at h_ hsh
       have HSH := Aside0.mk hsh
       clear hsh
       obtain ⟨Aa, ca, rfl⟩ := Kd.R_slice HOA.out
       obtain ⟨Ab, cb_, rfl⟩ := Kd.R_slice HOB.out
       have hs0 : w13.cell? ⟨gb, 0, none⟩ = some (.int .i64 n1) := (blk_cell BKB.out 0).trans rfl
       have hsf0 := blk_frozen BKB.out 0
       have hs1 : w13.cell? ⟨gb, 1, none⟩ = some (.int .i64 n2) := (blk_cell BKB.out 1).trans rfl
       have hsf1 := blk_frozen BKB.out 1
       have hs2 : w13.cell? ⟨gb, 2, none⟩ = some (.int .i64 n3) := (blk_cell BKB.out 2).trans rfl
       have hsf2 := blk_frozen BKB.out 2
       have hs3 : w13.cell? ⟨gb, 3, none⟩ = some (.int .i64 n4) := (blk_cell BKB.out 3).trans rfl
       have hsf3 := blk_frozen BKB.out 3
       have hs4 : w13.cell? ⟨gb, 4, none⟩ = some (.slice Aa y.length ca) := (blk_cell BKB.out 4).trans rfl
       have hsf4 := blk_frozen BKB.out 4
       have hs5 : w13.cell? ⟨gb, 5, none⟩ = some (.slice Ab u.length cb_) := (blk_cell BKB.out 5).trans rfl
       have hsf5 := blk_frozen BKB.out 5
       have hs6 : w13.cell? ⟨gb, 6, none⟩ = some (.slice At tl.length ct_) := (blk_cell BKB.out 6).trans rfl
       have hsf6 := blk_frozen BKB.out 6
       have hs7 : w13.cell? ⟨gb, 7, none⟩ = some (.int .i64 n8) := (blk_cell BKB.out 7).trans rfl
       have hsf7 := blk_frozen BKB.out 7
       have H_ := Aside0.mk h_
       clear h_
       go_wp2_with fail
       clear hs0 hsf0 hs1 hsf1 hs2 hsf2 hs3 hsf3 hs4 hsf4 hs5 hsf5 hs6 hsf6 hs7 hsf7
       refine (impl_ShowBlock.calls k n1 n2 n3 n4 Aa ca y Ab cb_ u At ct_ tl n8 sh _ (Kd.R_reads' HOA.out).2.2 (Kd.R_reads' HOA.out).2.1 (Kd.R_reads' HOB.out).2.2 (Kd.R_reads' HOB.out).2.1 (Kd.R_reads' HR.out).2.2 (Kd.R_reads' HR.out).2.1 HSH.out).mono ?_
       rintro e w14 ⟨rfl, hb⟩
       have mHOA_ := Aside0.mk (Kd.R_below HOA.out hb)
       have mHOB_ := Aside0.mk (Kd.R_below HOB.out hb)
       have mHR_ := Aside0.mk (Kd.R_below HR.out hb)
       have mB_ := Aside0.mk (blk_below BKB.out hb)
       have mH_ := Aside0.mk (below_step HB.out hb)
       clear HOA HOB HR BKB HB hb
       have HOA := mHOA_
       have HOB := mHOB_
       have HR := mHR_
       have BKB := mB_
       have HB := mH_
       clear mHOA_ mHOB_ mHR_ mB_ mH_
       have h_ := H_.out
       clear H_
       by_cases c9 : sh.toList = a0.toList
       ·rw [if_pos c9] at h_
        have c9a : (sh.toList == a0.toList) = true := beq_iff_eq.mpr c9
        have c9b : (sh.toList != a0.toList) = false := bne_eq_false_iff_eq.mpr c9
        clear c9
        simp only [Option.some.injEq, Prod.mk.injEq] at h_
        obtain ⟨rfl, rfl, rfl, rfl, rfl, rfl, rfl, rfl, rfl⟩ := h_
        have BK2 := Aside0.mk ((HB.out.block g2 (blk_lt BK2.out)).trans BK2.out)
        have N2 : g2 ≠ gb := Nat.ne_of_lt (Nat.lt_of_lt_of_le (blk_lt B2_.out) GEb.out)
        have N2b : gb ≠ g2 := fun h => N2 h.symm
        have hs0 : w14.cell? ⟨gb, 0, none⟩ = some (.int .i64 n1) := (blk_cell BKB.out 0).trans rfl
        have hsf0 := blk_frozen BKB.out 0
        have hs1 : w14.cell? ⟨gb, 1, none⟩ = some (.int .i64 n2) := (blk_cell BKB.out 1).trans rfl
        have hsf1 := blk_frozen BKB.out 1
        have hs2 : w14.cell? ⟨gb, 2, none⟩ = some (.int .i64 n3) := (blk_cell BKB.out 2).trans rfl
        have hsf2 := blk_frozen BKB.out 2
        have hs3 : w14.cell? ⟨gb, 3, none⟩ = some (.int .i64 n4) := (blk_cell BKB.out 3).trans rfl
        have hsf3 := blk_frozen BKB.out 3
        have hs4 : w14.cell? ⟨gb, 4, none⟩ = some (.slice Aa y.length ca) := (blk_cell BKB.out 4).trans rfl
        have hsf4 := blk_frozen BKB.out 4
        have hs5 : w14.cell? ⟨gb, 5, none⟩ = some (.slice Ab u.length cb_) := (blk_cell BKB.out 5).trans rfl
        have hsf5 := blk_frozen BKB.out 5
        have hs6 : w14.cell? ⟨gb, 6, none⟩ = some (.slice At tl.length ct_) := (blk_cell BKB.out 6).trans rfl
        have hsf6 := blk_frozen BKB.out 6
        have hs7 : w14.cell? ⟨gb, 7, none⟩ = some (.int .i64 n8) := (blk_cell BKB.out 7).trans rfl
        have hsf7 := blk_frozen BKB.out 7
        have hz0 : w14.cell? ⟨g2, 0, none⟩ = some (.int .i64 0) := (blk_cell BK2.out 0).trans rfl
        have hzf0 := blk_frozen BK2.out 0
        have hz1 : w14.cell? ⟨g2, 1, none⟩ = some (.int .i64 0) := (blk_cell BK2.out 1).trans rfl
        have hzf1 := blk_frozen BK2.out 1
        have hz2 : w14.cell? ⟨g2, 2, none⟩ = some (.int .i64 0) := (blk_cell BK2.out 2).trans rfl
        have hzf2 := blk_frozen BK2.out 2
        have hz3 : w14.cell? ⟨g2, 3, none⟩ = some (.int .i64 0) := (blk_cell BK2.out 3).trans rfl
        have hzf3 := blk_frozen BK2.out 3
        have hz4 : w14.cell? ⟨g2, 4, none⟩ = some (.slice none 0 0) := (blk_cell BK2.out 4).trans rfl
        have hzf4 := blk_frozen BK2.out 4
        have hz5 : w14.cell? ⟨g2, 5, none⟩ = some (.slice none 0 0) := (blk_cell BK2.out 5).trans rfl
        have hzf5 := blk_frozen BK2.out 5
        have hz6 : w14.cell? ⟨g2, 6, none⟩ = some (.slice none 0 0) := (blk_cell BK2.out 6).trans rfl
        have hzf6 := blk_frozen BK2.out 6
        have hz7 : w14.cell? ⟨g2, 7, none⟩ = some (.int .i64 0) := (blk_cell BK2.out 7).trans rfl
        have hzf7 := blk_frozen BK2.out 7
        go_wp2
        refine bodyPost_ret (results_ct rfl _ _ g2 29 #[.int .i64 n1, .int .i64 n2, .int .i64 n3, .int .i64 n4, .slice Aa y.length ca, .slice Ab u.length cb_, .slice At tl.length ct_, .int .i64 n8] (0, 0) _ rfl (by refine blk_put (cs := #[.int .i64 n1, .int .i64 n2, .int .i64 n3, .int .i64 n4, .slice Aa y.length ca, .slice Ab u.length cb_, .slice At tl.length ct_, .int .i64 0]) ?_ 7 _ rfl; refine blk_put (cs := #[.int .i64 n1, .int .i64 n2, .int .i64 n3, .int .i64 n4, .slice Aa y.length ca, .slice Ab u.length cb_, .slice none 0 0, .int .i64 0]) ?_ 6 _ rfl; refine blk_put (cs := #[.int .i64 n1, .int .i64 n2, .int .i64 n3, .int .i64 n4, .slice Aa y.length ca, .slice none 0 0, .slice none 0 0, .int .i64 0]) ?_ 5 _ rfl; refine blk_put (cs := #[.int .i64 n1, .int .i64 n2, .int .i64 n3, .int .i64 n4, .slice none 0 0, .slice none 0 0, .slice none 0 0, .int .i64 0]) ?_ 4 _ rfl; refine blk_put (cs := #[.int .i64 n1, .int .i64 n2, .int .i64 n3, .int .i64 0, .slice none 0 0, .slice none 0 0, .slice none 0 0, .int .i64 0]) ?_ 3 _ rfl; refine blk_put (cs := #[.int .i64 n1, .int .i64 n2, .int .i64 0, .int .i64 0, .slice none 0 0, .slice none 0 0, .slice none 0 0, .int .i64 0]) ?_ 2 _ rfl; refine blk_put (cs := #[.int .i64 n1, .int .i64 0, .int .i64 0, .int .i64 0, .slice none 0 0, .slice none 0 0, .slice none 0 0, .int .i64 0]) ?_ 1 _ rfl; refine blk_put (cs := #[.int .i64 0, .int .i64 0, .int .i64 0, .int .i64 0, .slice none 0 0, .slice none 0 0, .slice none 0 0, .int .i64 0]) ?_ 0 _ rfl; exact BK2.out) Tryd.underlying29 rfl (by kernel_rfl)) rfl ?_
        have HBW := Aside0.mk (below_step HB1.out HB.out)
        exact ⟨_, _, _, rfl, Kd.R_mono (Kd.R_far (p := ⟨g2, 7, none⟩) (Kd.R_far (p := ⟨g2, 6, none⟩) (Kd.R_far (p := ⟨g2, 5, none⟩) (Kd.R_far (p := ⟨g2, 4, none⟩) (Kd.R_far (p := ⟨g2, 3, none⟩) (Kd.R_far (p := ⟨g2, 2, none⟩) (Kd.R_far (p := ⟨g2, 1, none⟩) (Kd.R_far (p := ⟨g2, 0, none⟩) (Kd.R_types (Kd.R_lower HOA.out (below_size HB1.out)) BK2.out (by decide)) (fun _ h => h.2) _) (fun _ h => h.2) _) (fun _ h => h.2) _) (fun _ h => h.2) _) (fun _ h => h.2) _) (fun _ h => h.2) _) (fun _ h => h.2) _) (fun _ h => h.2) _) (fun _ h => h.1), Kd.R_mono (Kd.R_far (p := ⟨g2, 7, none⟩) (Kd.R_far (p := ⟨g2, 6, none⟩) (Kd.R_far (p := ⟨g2, 5, none⟩) (Kd.R_far (p := ⟨g2, 4, none⟩) (Kd.R_far (p := ⟨g2, 3, none⟩) (Kd.R_far (p := ⟨g2, 2, none⟩) (Kd.R_far (p := ⟨g2, 1, none⟩) (Kd.R_far (p := ⟨g2, 0, none⟩) (Kd.R_types (Kd.R_lower HOB.out (below_size HB1.out)) BK2.out (by decide)) (fun _ h => h.2) _) (fun _ h => h.2) _) (fun _ h => h.2) _) (fun _ h => h.2) _) (fun _ h => h.2) _) (fun _ h => h.2) _) (fun _ h => h.2) _) (fun _ h => h.2) _) (fun _ h => h.1), Kd.R_mono (Kd.R_far (p := ⟨g2, 7, none⟩) (Kd.R_far (p := ⟨g2, 6, none⟩) (Kd.R_far (p := ⟨g2, 5, none⟩) (Kd.R_far (p := ⟨g2, 4, none⟩) (Kd.R_far (p := ⟨g2, 3, none⟩) (Kd.R_far (p := ⟨g2, 2, none⟩) (Kd.R_far (p := ⟨g2, 1, none⟩) (Kd.R_far (p := ⟨g2, 0, none⟩) (Kd.R_types (Kd.R_lower HR.out (below_size HB1.out)) BK2.out (by decide)) (fun _ h => h.2) _) (fun _ h => h.2) _) (fun _ h => h.2) _) (fun _ h => h.2) _) (fun _ h => h.2) _) (fun _ h => h.2) _) (fun _ h => h.2) _) (fun _ h => h.2) _) (fun _ h => h.1), J40⟩
       ·rw [if_neg c9] at h_
        have c9a : (sh.toList == a0.toList) = false := beq_eq_false_iff_ne.mpr c9
        have c9b : (sh.toList != a0.toList) = true := bne_iff_ne.mpr c9
        clear c9
        simp only [Option.some.injEq, Prod.mk.injEq] at h_
        obtain ⟨rfl, rfl, rfl, rfl, rfl, rfl, rfl, rfl, rfl⟩ := h_
        have BK2 := Aside0.mk ((HB.out.block g2 (blk_lt BK2.out)).trans BK2.out)
        have hz0 : w14.cell? ⟨g2, 0, none⟩ = some (.int .i64 0) := (blk_cell BK2.out 0).trans rfl
        have hzf0 := blk_frozen BK2.out 0
        have hz1 : w14.cell? ⟨g2, 1, none⟩ = some (.int .i64 0) := (blk_cell BK2.out 1).trans rfl
        have hzf1 := blk_frozen BK2.out 1
        have hz2 : w14.cell? ⟨g2, 2, none⟩ = some (.int .i64 0) := (blk_cell BK2.out 2).trans rfl
        have hzf2 := blk_frozen BK2.out 2
        have hz3 : w14.cell? ⟨g2, 3, none⟩ = some (.int .i64 0) := (blk_cell BK2.out 3).trans rfl
        have hzf3 := blk_frozen BK2.out 3
        have hz4 : w14.cell? ⟨g2, 4, none⟩ = some (.slice none 0 0) := (blk_cell BK2.out 4).trans rfl
        have hzf4 := blk_frozen BK2.out 4
        have hz5 : w14.cell? ⟨g2, 5, none⟩ = some (.slice none 0 0) := (blk_cell BK2.out 5).trans rfl
        have hzf5 := blk_frozen BK2.out 5
        have hz6 : w14.cell? ⟨g2, 6, none⟩ = some (.slice none 0 0) := (blk_cell BK2.out 6).trans rfl
        have hzf6 := blk_frozen BK2.out 6
        have hz7 : w14.cell? ⟨g2, 7, none⟩ = some (.int .i64 0) := (blk_cell BK2.out 7).trans rfl
        have hzf7 := blk_frozen BK2.out 7
        go_wp2
        refine bodyPost_ret (results_ct rfl _ _ g2 29 #[.int .i64 0, .int .i64 0, .int .i64 0, .int .i64 0, .slice none 0 0, .slice none 0 0, .slice none 0 0, .int .i64 0] (0, 0) _ rfl Z9 Tryd.underlying29 rfl (by kernel_rfl)) rfl ?_
        have HBW := Aside0.mk (below_step HB1.out HB.out)
        exact ⟨_, _, _, rfl, Kd.R_nil _ _ _ _ _, Kd.R_nil _ _ _ _ _, Kd.R_nil _ _ _ _ _, J40⟩

 ·rw [if_neg hs] at h
  cases h


end Go.Proofs.YtokhjhkkncbjeaaDoor.PFnBlocks
