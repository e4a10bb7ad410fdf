-- Written by a program of this session (wip/tools/pp.py over the kit's print).
import Derived.Test.YtgpofolfflfgiaaDoorPFnProvedx0
import Derived.Test.YtgpofolfflfgiaaDoorPFnProvedx5
namespace Go.Proofs.YtgpofolfflfgiaaDoor.PFnProved
open Go.RowKit Go.Proofs.YtgpofolfflfgiaaDoorW.PrintWords Go.Proofs.YtgpofolfflfgiaaDoorW.PrintLast Go.Proofs.YtgpofolfflfgiaaDoorW.PrintMore
attribute [local go_sem] max2_int min2_int max_two min_two max_three min_three max_four min_four
attribute [local go_sem high] str_gtr str_leq str_geq
set_option linter.unusedVariables false
set_option linter.unusedSimpArgs false

/-! ### impl_Set: function 6 -/
def lc : List S42 → List Value
 | [] => []
 | x :: xs => .int .i64 x.f0 :: .int .i64 x.f1 :: lc xs
theorem lc_len : ∀ xs, (lc xs).length = xs.length * 2
 | [] => rfl
 | x :: xs => by simp [lc, lc_len xs]; omega
theorem lc_app : ∀ xs ys, lc (xs ++ ys) = lc xs ++ lc ys
 | [], ys => rfl
 | x :: xs, ys => by simp [lc, lc_app xs ys]
theorem lc_drop : ∀ (k : Nat) xs, (lc xs).drop (k * 2) = lc (xs.drop k)
 | 0, xs => by simp
 | k + 1, [] => by simp [lc]
 | k + 1, x :: xs => by
  rw [show (k + 1) * 2 = k * 2 + 1 + 1 by omega]
  simp only [lc, List.drop_succ_cons]
  exact lc_drop k xs
theorem lc_take : ∀ (k : Nat) xs, (lc xs).take (k * 2) = lc (xs.take k)
 | 0, xs => by simp [lc]
 | k + 1, [] => by simp [lc]
 | k + 1, x :: xs => by
  rw [show (k + 1) * 2 = k * 2 + 1 + 1 by omega]
  simp only [lc, List.take_succ_cons, lc_take k xs]
theorem lc_one : ∀ xs, ∀ v ∈ lc xs, v.oneCell' = true
 | [], v, h => by simp [lc] at h
 | x :: xs, v, h => by
  simp only [lc, List.mem_cons] at h
  rcases h with rfl | rfl | h
  ·rfl
  ·rfl
  ·exact lc_one xs v h
theorem setCells_heap (g : Nat) (t : TypeId) (fr : Nat × Nat) : ∀ (vs : List Value) (o : Nat) (cur : Array Value) (w : World), w.heap[g]? = some (.cells cur t fr) → o + vs.length ≤ cur.size →
  (w.setCells g o vs).heap[g]? = some (.cells (cur.toList.take o ++ vs ++ cur.toList.drop (o + vs.length)).toArray t fr)
 | [], o, cur, w, hg, _ => by simp [World.setCells, hg]
 | v :: r, o, cur, w, hg, hl => by
  rw [World.setCells, setCell_eq_setRow w g o cur t fr v hg]
  rw [setCells_heap g t fr r (o + 1) (cur.setIfInBounds o v) (w.setRow g (cur.setIfInBounds o v)) (setRow_heap w g cur _ t _ hg) (by simp at hl ⊢; omega)]
  have e := list_seg_step cur.toList o v r (by simp at hl ⊢; omega)
  rw [Array.toList_setIfInBounds, List.length_cons, e]
theorem setCells_below {B g : Nat} (hg : B ≤ g) {a : World} : ∀ (vs : List Value) (o : Nat) (w : World), Below B a w → Below B a (w.setCells g o vs)
 | [], o, w, h => h
 | v :: r, o, w, h => by
  rw [World.setCells]
  exact setCells_below hg r (o + 1) _ (h.setCell hg v)
theorem own_cells {w : World} {g : Nat} {cur : Array Value} {t : TypeId} {cs : List Value} {m : Nat} (hg : w.heap[g]? = some (.cells cur t (0, 0))) (hc : cur.toList.take m = cs) : ∀ j v, cs[j]? = some v → w.cell? ⟨g, j, none⟩ = some v := by
 intro j v h
 subst hc
 rw [List.getElem?_take] at h
 split at h
 ·have : cur[j]? = some v := by rw [← Array.getElem?_toList]; exact h
  simp [World.cell?, hg, this]
 ·cases h
theorem own_frozen {w : World} {g : Nat} {cur : Array Value} {t : TypeId} (hg : w.heap[g]? = some (.cells cur t (0, 0))) (j : Nat) : w.frozen? ⟨g, j, none⟩ = false := by
 simp [World.frozen?, hg]
theorem own_some {w : World} {g : Nat} {cur : Array Value} {t : TypeId} (hg : w.heap[g]? = some (.cells cur t (0, 0))) (j : Nat) (h : j < cur.size) : (w.cell? ⟨g, j, none⟩).isSome = true := by
 simp [World.cell?, hg, h]
theorem reps_lc {R : S42 → List Value → Prop} (hR : ∀ x c, R x c → c = [.int .i64 x.f0, .int .i64 x.f1]) : ∀ (xs : List S42) (inner : List Value), Reps R 2 xs inner → inner = lc xs
 | [], inner, h => by
  have := h.1
  simp at this
  subst this
  rfl
 | x :: xs, inner, h => by
  obtain ⟨hl, hg⟩ := h
  match inner, hl, hg with
  | a :: b :: rest, hl, hg =>
   have h0 := hR _ _ (hg 0 x rfl)
   simp at h0
   have ih := reps_lc hR xs rest ⟨by simp at hl ⊢; omega, fun j p hj => by
    have := hg (j + 1) p (by simpa using hj)
    rw [show (j + 1) * 2 = j * 2 + 1 + 1 by omega] at this
    simpa using this⟩
   rw [ih, h0.1, h0.2]
   rfl
  | [a], hl, hg => simp at hl; omega
  | [], hl, hg => simp at hl
theorem lc_reps {R : S42 → List Value → Prop} (hR : ∀ x, R x [.int .i64 x.f0, .int .i64 x.f1]) (xs : List S42) : Reps R 2 xs (lc xs) := by
 refine ⟨lc_len xs, fun j p hj => ?_⟩
 rw [lc_drop]
 obtain ⟨hl, rfl⟩ := List.getElem?_eq_some_iff.1 hj
 rw [List.drop_eq_getElem_cons hl]
 exact hR _
theorem R_to {W : World} {base : Nat} {ok : Nat → Prop} {v : Value} {xs : List S42} (h : Kd.R k42 42 W base ok v xs) : W.ownsRow base 42 2 v xs.length (lc xs) := by
 obtain ⟨h0, inner, ho, hr⟩ := h
 have := reps_lc (fun x c hc => k42_openM hc) xs inner hr
 subst this
 exact ho
theorem R_of {W : World} {base : Nat} {v : Value} {xs : List S42} (h : W.ownsRow base 42 2 v xs.length (lc xs)) : Kd.R k42 42 W base (fun _ => True) v xs :=
 ⟨fun _ _ => trivial, lc xs, h, lc_reps (fun x => k42_mkM _ _ _ x) xs⟩
/-- What an own row that is not empty is. -/
theorem own_form {w : World} {base n : Nat} {v : Value} {cs : List Value} (h : w.ownsRow base 42 2 v n cs) (hn : 0 < n) : ∃ g cap cur, v = .slice (some ⟨g, 0, none⟩) n cap ∧ base ≤ g ∧ w.heap[g]? = some (.cells cur 42 (0, 0)) ∧ n ≤ cap ∧ cap ≤ maxLen ∧ cur.size = cap * 2 ∧ cur.toList.take (n * 2) = cs := by
 rcases h.2 with ⟨_, h0⟩ | h
 ·omega
 ·exact h
theorem del_own {w : World} {base g n cap k : Nat} {cur : Array Value} {xs : List S42} (hx : xs.length = n) (hk : k < n) (hb : base ≤ g) (hh : w.heap[g]? = some (.cells cur 42 (0, 0))) (hnc : n ≤ cap) (hm : cap ≤ maxLen) (hsz : cur.size = cap * 2) (ht : cur.toList.take (n * 2) = lc xs) :
  ((w.drew.setCells g (k * 2) ((lc xs).drop ((k + 1) * 2))).setCells g ((n - 1) * 2) [.int .i64 0, .int .i64 0]).ownsRow base 42 2 (.slice (some ⟨g, 0, none⟩) (n - 1) cap) (n - 1) (lc (xs.take k ++ xs.drop (k + 1))) := by
 have l1 : ((lc xs).drop ((k + 1) * 2)).length = (n - (k + 1)) * 2 := by rw [List.length_drop, lc_len, hx]; omega
 have hcl : cur.toList.length = cap * 2 := by rw [Array.length_toList, hsz]
 have s1 := setCells_heap g 42 (0, 0) ((lc xs).drop ((k + 1) * 2)) (k * 2) cur w.drew hh (by rw [l1, hsz]; omega)
 have s2 := setCells_heap g 42 (0, 0) [.int .i64 0, .int .i64 0] ((n - 1) * 2) _ _ s1 (by simp [hcl, l1]; omega)
 refine ⟨by rw [lc_len]; simp [hx]; omega, .inr ⟨g, cap, _, rfl, hb, s2, by omega, hm, by simp [hcl, l1]; omega, ?_⟩⟩
 have e1 : cur.toList.take (k * 2) = lc (xs.take k) := by
  rw [← lc_take, ← ht, List.take_take, Nat.min_eq_left (by omega)]
 have l2 : (lc (xs.take k)).length = k * 2 := by rw [lc_len, List.length_take, hx]; omega
 rw [e1, lc_drop, lc_app]
 have l3 : (lc (xs.take k) ++ lc (xs.drop (k + 1))).length = (n - 1) * 2 := by
  rw [List.length_append, l2, ← lc_drop, l1]; omega
 rw [List.append_assoc, List.take_append_of_le_length (by rw [List.length_take, List.length_append, l3]; omega), List.take_take, Nat.min_self, List.take_append_of_le_length (by omega), List.take_of_length_le (by omega)]
abbrev lx (x : S42) : List Value := [.int .i64 x.f0, .int .i64 x.f1]
theorem lc_mid (xs : List S42) (k : Nat) (x : S42) : lc (xs.take k ++ x :: xs.drop k) = lc (xs.take k) ++ (lx x ++ lc (xs.drop k)) := by
 rw [lc_app]; rfl
theorem ins_shift_own {w : World} {base g n cap k : Nat} {cur : Array Value} {xs : List S42} (x : S42) (hx : xs.length = n) (hk : k < n) (hb : base ≤ g) (hh : w.heap[g]? = some (.cells cur 42 (0, 0))) (hnc : n + 1 ≤ cap) (hm : cap ≤ maxLen) (hsz : cur.size = cap * 2) (ht : cur.toList.take (n * 2) = lc xs) :
  ((w.drew.setCells g ((k + 1) * 2) ((lc xs).drop (k * 2))).setCells g (k * 2) (lx x)).ownsRow base 42 2 (.slice (some ⟨g, 0, none⟩) (n + 1) cap) (n + 1) (lc (xs.take k ++ x :: xs.drop k)) := by
 have l1 : ((lc xs).drop (k * 2)).length = (n - k) * 2 := by rw [List.length_drop, lc_len, hx]; omega
 have hcl : cur.toList.length = cap * 2 := by rw [Array.length_toList, hsz]
 have s1 := setCells_heap g 42 (0, 0) ((lc xs).drop (k * 2)) ((k + 1) * 2) cur w.drew hh (by rw [l1, hsz]; omega)
 have s2 := setCells_heap g 42 (0, 0) (lx x) (k * 2) _ _ s1 (by simp [hcl, l1]; omega)
 refine ⟨by rw [lc_len]; simp [hx]; omega, .inr ⟨g, cap, _, rfl, hb, s2, by omega, hm, by simp [hcl, l1]; omega, ?_⟩⟩
 have e1 : cur.toList.take (k * 2) = lc (xs.take k) := by
  rw [← lc_take, ← ht, List.take_take, Nat.min_eq_left (by omega)]
 have l2 : (lc (xs.take k)).length = k * 2 := by rw [lc_len, List.length_take, hx]; omega
 have l0 : (cur.toList.take ((k + 1) * 2)).length = (k + 1) * 2 := by rw [List.length_take, hcl]; omega
 have l4 : (lx x).length = 2 := rfl
 have hd : ((cur.toList.take ((k + 1) * 2) ++ (lc xs).drop (k * 2)) ++ cur.toList.drop ((k + 1) * 2 + ((lc xs).drop (k * 2)).length)).drop (k * 2 + 2) = (lc xs).drop (k * 2) ++ cur.toList.drop ((k + 1) * 2 + ((lc xs).drop (k * 2)).length) := by
  rw [List.append_assoc, show k * 2 + 2 = (cur.toList.take ((k + 1) * 2)).length by rw [l0]; omega, List.drop_left]
 have hp : ((cur.toList.take ((k + 1) * 2) ++ (lc xs).drop (k * 2)) ++ cur.toList.drop ((k + 1) * 2 + ((lc xs).drop (k * 2)).length)).take (k * 2) = lc (xs.take k) := by
  rw [List.append_assoc, List.take_append_of_le_length (by omega), List.take_take, Nat.min_eq_left (by omega), e1]
 show ((((cur.toList.take ((k + 1) * 2) ++ (lc xs).drop (k * 2)) ++ cur.toList.drop ((k + 1) * 2 + ((lc xs).drop (k * 2)).length)).take (k * 2) ++ lx x ++ ((cur.toList.take ((k + 1) * 2) ++ (lc xs).drop (k * 2)) ++ cur.toList.drop ((k + 1) * 2 + ((lc xs).drop (k * 2)).length)).drop (k * 2 + 2))).take ((n + 1) * 2) = _
 rw [hd, hp, lc_drop, lc_mid, ← List.append_assoc, ← List.append_assoc]
 rw [List.take_append_of_le_length (by rw [List.length_append, List.length_append, l2, l4, ← lc_drop, l1]; omega), List.take_of_length_le (by rw [List.length_append, List.length_append, l2, l4, ← lc_drop, l1]; omega)]
theorem ins_grow_own {w : World} {base n G k : Nat} {ROW : Array Value} {xs : List S42} (x : S42) (hx : xs.length = n) (hk : k < n) (hb : base ≤ w.heap.size) (hnG : n + 1 ≤ G) (hm : G ≤ maxLen) (hsz : ROW.size = G * 2) (ht : ROW.toList.take (k * 2) = lc (xs.take k)) :
  (((w.alloc (.cells ROW 42)).drew.setCells w.heap.size (k * 2) (lx x)).drew.setCells w.heap.size ((k + 1) * 2) ((lc xs).drop (k * 2))).ownsRow base 42 2 (.slice (some ⟨w.heap.size, 0, none⟩) (n + 1) G) (n + 1) (lc (xs.take k ++ x :: xs.drop k)) := by
 have l1 : ((lc xs).drop (k * 2)).length = (n - k) * 2 := by rw [List.length_drop, lc_len, hx]; omega
 have hcl : ROW.toList.length = G * 2 := by rw [Array.length_toList, hsz]
 have h0 : (w.alloc (.cells ROW 42)).drew.heap[w.heap.size]? = some (.cells ROW 42 (0, 0)) := by
  show (w.heap.push (.cells ROW 42 (0, 0)))[w.heap.size]? = _
  simp
 have s1 := setCells_heap w.heap.size 42 (0, 0) (lx x) (k * 2) ROW _ h0 (by simp [hsz]; omega)
 have l4 : (lx x).length = 2 := rfl
 have s2 := setCells_heap w.heap.size 42 (0, 0) ((lc xs).drop (k * 2)) ((k + 1) * 2) _ ((w.alloc (.cells ROW 42)).drew.setCells w.heap.size (k * 2) (lx x)).drew s1 (by rw [l1]; simp only [List.size_toArray, List.length_append, List.length_take, List.length_drop, hcl, l4]; omega)
 refine ⟨by rw [lc_len]; simp [hx]; omega, .inr ⟨w.heap.size, G, _, rfl, hb, s2, hnG, hm, by simp only [List.size_toArray, List.length_append, List.length_take, List.length_drop, hcl, l4, lc_len, hx]; omega, ?_⟩⟩
 have l2 : (lc (xs.take k)).length = k * 2 := by rw [lc_len, List.length_take, hx]; omega
 have l4 : (lx x).length = 2 := rfl
 have hp : ((ROW.toList.take (k * 2) ++ lx x) ++ ROW.toList.drop (k * 2 + (lx x).length)).take ((k + 1) * 2) = lc (xs.take k) ++ lx x := by
  rw [ht, List.take_append_of_le_length (by rw [List.length_append, l2, l4]; omega), List.take_of_length_le (by rw [List.length_append, l2, l4]; omega)]
 show (((ROW.toList.take (k * 2) ++ lx x) ++ ROW.toList.drop (k * 2 + (lx x).length)).take ((k + 1) * 2) ++ (lc xs).drop (k * 2) ++ _).take ((n + 1) * 2) = _
 rw [hp, lc_mid, lc_drop, List.append_assoc (lc (xs.take k))]
 rw [List.take_append_of_le_length (by rw [List.length_append, List.length_append, l2, l4, ← lc_drop, l1]; omega), List.take_of_length_le (by rw [List.length_append, List.length_append, l2, l4, ← lc_drop, l1]; omega)]
theorem enters_ {P : Program} {f : FuncId} {fn : Func} {c : Code} (hf : P.funcs[f]? = some fn) (hname : (fn.name == "runtime.NumGoroutine") = false) (hb : fn.body = some c) : ∀ (args : Array Value) (w : World), (callFunc f args).run P w = .ok (.enter f args) w := by
 intro args w
 have h1 : fn.name ≠ "runtime.NumGoroutine" := by simpa using hname
 simp [callFunc, hf, h1, hb, mark]
def bsN (a : Int) (l : List S42) : Nat := l.countP fun x => decide (x.f0 < a)
def bsF (a : Int) (l : List S42) : Bool := decide (bsN a l < l.length) && decide ((l.getD (bsN a l) z42).f0 = a)
theorem bs_at (a : Int) : ∀ (l : List S42) (n : Nat), n ≤ l.length → (∀ t, t < n → (l.getD t z42).f0 < a) → (∀ t, n ≤ t → t < l.length → a ≤ (l.getD t z42).f0) → bsN a l = n
 | [], n, h, _, _ => by simp at h; subst h; rfl
 | x :: l, 0, h, _, h2 => by
  have h0 := h2 0 (Nat.le_refl _) (by simp)
  have ih := bs_at a l 0 (Nat.zero_le _) (fun t h => by omega) (fun t _ ht => h2 (t + 1) (by omega) (by simpa using ht))
  have e : (x :: l).getD 0 z42 = x := rfl
  rw [e] at h0
  unfold bsN at ih ⊢
  rw [List.countP_cons_of_neg (by simp; omega), ih]
 | x :: l, n + 1, h, h1, h2 => by
  have h0 := h1 0 (by omega)
  have ih := bs_at a l n (by simpa using h) (fun t h => h1 (t + 1) (by omega)) (fun t hn ht => h2 (t + 1) (by omega) (by simpa using ht))
  have e : (x :: l).getD 0 z42 = x := rfl
  rw [e] at h0
  unfold bsN at ih ⊢
  rw [List.countP_cons_of_pos (by simp; omega), ih]
set_option maxHeartbeats 8000000 in
set_option maxRecDepth 100000 in
theorem bs.calls (A0 : Option Addr) (c0 : Nat) (l0 : List S42) (a : Int) (w : World) (hr0 : Kd.C k42 w A0 l0.length l0) (hc0 : l0.length ≤ c0) (hlen : l0.length ≤ 1000)
  (hs : ∀ i j, i < j → j < l0.length → (l0.getD i z42).f0 < (l0.getD j z42).f0) (hin : ∀ i, i < l0.length → 0 ≤ (l0.getD i z42).f0 ∧ (l0.getD i z42).f0 ≤ 255) (ha : 0 ≤ a ∧ a ≤ 255) :
  Calls Tryd.prog 29 #[.slice A0 l0.length c0, .int .i64 a, .func (.func 30) #[] #[]] w fun e w' => e = .returned (.tuple #[.int .i64 (bsN a l0 : Nat), .bool (bsF a l0)]) ∧ Below w.heap.size w w' := by
 have eg : ∀ args w, (callFunc 30 args).run Tryd.prog w = .ok (.enter 30 args) w := enters_ Tryd.func30 (by kernel_rfl) rfl
 have HR0 := Aside0.mk hr0
 have HC0 := Aside0.mk hc0
 have HS := Aside0.mk hs
 have HI := Aside0.mk hin
 have HA := Aside0.mk ha
 have HB := Aside0.mk (Below.refl w.heap.size w)
 have HN := Aside0.mk (bs_at a l0)
 have HF : Aside0 (bsF a l0 = (decide (bsN a l0 < l0.length) && decide ((l0.getD (bsN a l0) z42).f0 = a))) := ⟨rfl⟩
 generalize bsN a l0 = N at HN HF
 generalize bsF a l0 = F at HF
 have HL := Aside0.mk hlen
 clear hr0 hc0 hs hin ha hlen
 go_enter Tryd.func29, Tryd.ntmps29
 go_wp2
 go_loopg [9, 10] l0.length (fun kq v9 v10 w' => ∃ lo hi : Nat, v9 = .int .i64 lo ∧ v10 = .int .i64 hi ∧ Aside0 (lo ≤ hi ∧ hi ≤ l0.length ∧ hi - lo ≤ kq) ∧ Aside0 ((∀ t, t < lo → (l0.getD t z42).f0 < a) ∧ (∀ t, hi ≤ t → t < l0.length → a ≤ (l0.getD t z42).f0)) ∧ Aside0 (Below w.heap.size w w'))
 case atStart => exact ⟨0, l0.length, rfl, rfl, ⟨by omega, by omega, by omega⟩, ⟨fun t h => by omega, fun t h h' => by omega⟩, ⟨by repeat (first | (with_reducible first | exact HB.out | apply below_alloc | apply pw_below_drewN | apply below_drew1) | exact HB.out)⟩⟩
 case round =>
  clear HB
  obtain ⟨lo, hi, rfl, rfl, HO, HJ, HB⟩ := hrel
  by_cases hlt : lo < hi
  ·have c1 : decide ((lo : Int) < (hi : Int)) = true := decide_eq_true (by omega)
   have o1 : lo ≤ hi := HO.out.1
   have o2 : hi ≤ l0.length := HO.out.2.1
   have o3 : l0.length ≤ 1000 := HL.out
   have p1 : 0 ≤ ((lo : Int) + (hi : Int)) / 2 := by omega
   have p2 : ((lo : Int) + (hi : Int)) / 2 < (l0.length : Int) := by omega
   obtain ⟨ad, ea, hx_0, hx_1⟩ := at_T42 HR0.out (((lo : Int) + (hi : Int)) / 2) p1 p2
   cases ea
   have em : (((lo : Int) + (hi : Int)) / 2).toNat = (lo + hi) / 2 := by omega
   rw [em] at hx_0 hx_1
   have hgx : rd_T42 l0 (((lo : Int) + (hi : Int)) / 2) = l0.getD ((lo + hi) / 2) z42 := by unfold rd_T42; rw [em]
   rw [hgx] at hx_0 hx_1
   replace hx_0 := pw_cell_below HB.out hx_0
   replace hx_1 := pw_cell_below HB.out hx_1
   clear hgx em
   generalize hx : l0.getD ((lo + hi) / 2) z42 = x at hx_0 hx_1
   have HX := Aside0.mk hx
   clear hx
   have hb1 := HI.out ((lo + hi) / 2) (by omega)
   rw [HX.out] at hb1
   have ha := HA.out
   have hw : wrap64 (x.f0 - a) = x.f0 - a := by unfold wrap64; omega
   have HC := Aside0.mk (impl_Set_1.calls x.f0 x.f1 a (x.f0 - a) wr (by unfold impl_Set_1.f; rw [hw]))
   clear hb1 ha hw
   by_cases hxa : x.f0 < a
   ·have c3 : decide (x.f0 - a < 0) = true := decide_eq_true (by omega)
    have HXA := Aside0.mk hxa
    clear hxa
    go_wp2_with fail
    refine HC.out.mono ?_
    rintro e w' ⟨rfl, hb⟩
    have n0_ := Aside0.mk (below_step HB.out hb)
    clear HB hx_0 hx_1 hb
    have HB := n0_
    clear n0_ HC
    go_wp2
    go_roundg (hi - ((lo + hi) / 2 + 1))
    case measure => have := HO.out; omega
    case rel =>
     have hO := HO.out
     refine ⟨(lo + hi) / 2 + 1, hi, by rw [show ((lo : Int) + (hi : Int)) / 2 + 1 = (((lo + hi) / 2 + 1 : Nat) : Int) by omega], rfl, ⟨by omega, by omega, by omega⟩, ⟨fun t ht => ?_, HJ.out.2⟩, HB⟩
     rcases Nat.lt_or_ge t ((lo + hi) / 2) with h | h
     ·have := HS.out t ((lo + hi) / 2) h (by omega)
      rw [HX.out] at this
      have := HXA.out
      omega
     ·have e : t = (lo + hi) / 2 := by omega
      rw [e, HX.out]
      exact HXA.out
   ·have c3 : decide (x.f0 - a < 0) = false := decide_eq_false (by omega)
    have HXA := Aside0.mk hxa
    clear hxa
    go_wp2_with fail
    refine HC.out.mono ?_
    rintro e w' ⟨rfl, hb⟩
    have n0_ := Aside0.mk (below_step HB.out hb)
    clear HB hx_0 hx_1 hb
    have HB := n0_
    clear n0_ HC
    go_wp2
    go_roundg ((lo + hi) / 2 - lo)
    case measure => have := HO.out; omega
    case rel =>
     have hO := HO.out
     refine ⟨lo, (lo + hi) / 2, rfl, by rw [show ((lo : Int) + (hi : Int)) / 2 = (((lo + hi) / 2 : Nat) : Int) by omega], ⟨by omega, by omega, by omega⟩, ⟨HJ.out.1, fun t ht htn => ?_⟩, HB⟩
     rcases Nat.lt_or_ge ((lo + hi) / 2) t with h | h
     ·have := HS.out ((lo + hi) / 2) t h htn
      rw [HX.out] at this
      have := HXA.out
      omega
     ·have e : t = (lo + hi) / 2 := by omega
      rw [e, HX.out]
      have := HXA.out
      omega
  ·have c1 : decide ((lo : Int) < (hi : Int)) = false := decide_eq_false (by omega)
   have hO := HO.out
   obtain rfl : hi = lo := by omega
   have eN := HN.out hi (by omega) HJ.out.1 HJ.out.2
   clear hO hlt
   subst eN
   by_cases hn : N < l0.length
   ·have c2 : decide ((N : Int) < (l0.length : Int)) = true := decide_eq_true (by omega)
    have p1 : (0 : Int) ≤ (N : Int) := by omega
    have p2 : (N : Int) < (l0.length : Int) := by omega
    obtain ⟨ad, ea, hx_0, hx_1⟩ := at_T42 HR0.out (N : Int) p1 p2
    cases ea
    have em : ((N : Int)).toNat = N := by omega
    rw [em] at hx_0 hx_1
    have hgx : rd_T42 l0 (N : Int) = l0.getD N z42 := rfl
    rw [hgx] at hx_0 hx_1
    replace hx_0 := pw_cell_below HB.out hx_0
    replace hx_1 := pw_cell_below HB.out hx_1
    clear hgx em
    generalize hx : l0.getD N z42 = x at hx_0 hx_1
    have HX := Aside0.mk hx
    clear hx
    have hb1 := HI.out N hn
    rw [HX.out] at hb1
    have ha := HA.out
    have hw : wrap64 (x.f0 - a) = x.f0 - a := by unfold wrap64; omega
    have HC := Aside0.mk (impl_Set_1.calls x.f0 x.f1 a (x.f0 - a) wr (by unfold impl_Set_1.f; rw [hw]))
    clear hb1 ha hw
    have hf := HF.out
    rw [HX.out, decide_eq_true hn, Bool.true_and] at hf
    by_cases hxa : x.f0 = a
    ·have C3 : Aside0 ((x.f0 - a == 0) = true) := ⟨by rw [beq_iff_eq]; omega⟩
     rw [decide_eq_true hxa] at hf
     subst hf
     clear hxa HF
     go_wp2_with fail
     refine HC.out.mono ?_
     rintro e w' ⟨rfl, hb⟩
     have n0_ := Aside0.mk (below_step HB.out hb)
     clear HB hx_0 hx_1 hb
     have HB := n0_
     clear n0_ HC
     go_wp2
     go_ret2
     refine ⟨?_, HB.out⟩
     show Ending.returned (.tuple #[.int .i64 (N : Int), .bool (x.f0 - a == 0)]) = _
     rw [C3.out]
    ·have C3 : Aside0 ((x.f0 - a == 0) = false) := ⟨by rw [beq_eq_false_iff_ne]; omega⟩
     rw [decide_eq_false hxa] at hf
     subst hf
     clear hxa HF
     go_wp2_with fail
     refine HC.out.mono ?_
     rintro e w' ⟨rfl, hb⟩
     have n0_ := Aside0.mk (below_step HB.out hb)
     clear HB hx_0 hx_1 hb
     have HB := n0_
     clear n0_ HC
     go_wp2
     go_ret2
     refine ⟨?_, HB.out⟩
     show Ending.returned (.tuple #[.int .i64 (N : Int), .bool (x.f0 - a == 0)]) = _
     rw [C3.out]
   ·have c2 : decide ((N : Int) < (l0.length : Int)) = false := decide_eq_false (by omega)
    have hf := HF.out
    rw [decide_eq_false hn, Bool.false_and] at hf
    subst hf
    clear HF
    go_wp2
    go_ret2
    exact ⟨rfl, HB.out⟩
/-- clear(s) at an element of many cells. -/
theorem run_clear_cells {P : Program} (w : World) (t e ty : TypeId) (z : Value) (ht : P.underlying t = some (.slice e)) (hv : ∀ w, (zeroValue e).run P w = .ok z w) (b o n c : Nat) (zs : List Value) (hn : 0 < n)
  (hz : (Builtin.zeroCells z.cells n).toList = zs) (h1 : ∀ v ∈ zs, v.oneCell' = true)
  (hc : ∀ j, j < zs.length → (w.cell? ⟨b, o + j, none⟩).isSome = true) (hf : ∀ j, j < zs.length → w.frozen? ⟨b, o + j, none⟩ = false) :
  (Builtin.clear_ #[t] ty #[.slice (some ⟨b, o, none⟩) n c]).run P w = .ok (.tuple #[]) (w.setCells b o zs) := by
 have hst := run_storeCells_cells (P := P) b o zs 0 w (by simpa using hc) (by simpa using hf) h1
 simp only [Nat.add_zero] at hst
 obtain ⟨m, rfl⟩ : ∃ m, n = m + 1 := ⟨n - 1, by omega⟩
 simp [Builtin.clear_, run_underlying ht, hv, hz, hst]
/-- copy(d, s) at an element of many cells. -/
theorem run_copy_cellsN {P : Program} (w : World) (dT sT ty elem : TypeId) (sz b o dLen dCap : Nat) (a : Addr) (sLen sCap m : Nat) (cs : List Value)
  (hu : P.underlying dT = some (.slice elem)) (hs : (P.info? elem).map (·.size) = some sz) (hm : Nat.min sLen dLen = m) (hn : cs.length = m * sz)
  (hsrc : ∀ j v, cs[j]? = some v → w.cell? (a.add j) = some v) (hc : ∀ j, j < cs.length → (w.cell? ⟨b, o + j, none⟩).isSome = true) (hf : ∀ j, j < cs.length → w.frozen? ⟨b, o + j, none⟩ = false) (h1 : ∀ v ∈ cs, v.oneCell' = true) :
  (Builtin.copy_ #[dT, sT] ty #[.slice (some ⟨b, o, none⟩) dLen dCap, .slice (some a) sLen sCap]).run P w = .ok (goInt m) (w.setCells b o cs) := by
 have hl := run_loadCells_list (P := P) w a cs hsrc
 have hst := run_storeCells_cells (P := P) b o cs 0 w (by simpa using hc) (by simpa using hf) h1
 cases hq : P.info? elem with
 | none => simp [hq] at hs
 | some i =>
  have hi : i.size = sz := by simpa [hq] using hs
  simp [Builtin.copy_, run_underlying hu, Builtin.lenOf, Builtin.firstCells, sizeOf, typeInfo, hq, hi, hm, ← hn, hl, hst]
theorem inf42 : (Tryd.prog.info? 42).map (fun i => (i.zero, i.size, i.bytes)) = some (some (.agg #[.int .i64 0, .int .i64 0]), 2, 16) := by kernel_rfl
set_option maxHeartbeats 8000000 in
set_option maxRecDepth 100000 in
theorem del.calls (g cap n k : Nat) (cs : List Value) (w : World) (hk : k < n) (hn : n ≤ cap) (hcap : cap ≤ 9223372036854775807) (hlen : cs.length = n * 2)
  (hcs : ∀ j v, cs[j]? = some v → w.cell? ⟨g, j, none⟩ = some v) (hfz : ∀ j, w.frozen? ⟨g, j, none⟩ = false) (h1 : ∀ v ∈ cs, v.oneCell' = true) :
  Calls Tryd.prog 32 #[.slice (some ⟨g, 0, none⟩) n cap, .int .i64 k, .int .i64 ((k : Int) + 1)] w fun e w' => e = .returned (.slice (some ⟨g, 0, none⟩) (n - 1) cap) ∧ w' = (w.drew.setCells g (k * 2) (cs.drop ((k + 1) * 2))).setCells g ((n - 1) * 2) [.int .i64 0, .int .i64 0] := by
 have hu42 := Tryd.underlying42
 have t24 := Tryd.underlying24
 obtain ⟨i0, hi0, hz0, hz1, hz2⟩ := info_parts inf42
 obtain ⟨news, hnews⟩ : ∃ news, news = cs.drop ((k + 1) * 2) := ⟨_, rfl⟩
 have hnl : news.length = (n - (k + 1)) * 2 := by rw [hnews, List.length_drop, hlen]; omega
 have hsp : ∀ j, j < n * 2 → (w.cell? ⟨g, j, none⟩).isSome = true := fun j hj => by
  rw [hcs j _ (List.getElem?_eq_getElem (by omega))]; rfl
 obtain ⟨A, hA, hsrc⟩ : ∃ A : Addr, (if cap = k + 1 then some (⟨g, 0, none⟩ : Addr) else some ⟨g, (k + 1) * 2, none⟩) = some A ∧ Aside0 (∀ t u, news[t]? = some u → w.drew.cell? (A.add t) = some u) := by
  by_cases h : cap = k + 1
  ·refine ⟨⟨g, 0, none⟩, by simp [h], ⟨fun t u hu => ?_⟩⟩
   have h0 : news.length = 0 := by rw [hnl]; omega
   rw [List.length_eq_zero_iff.1 h0] at hu
   simp at hu
  ·refine ⟨⟨g, (k + 1) * 2, none⟩, by simp [h], ⟨fun t u hu => ?_⟩⟩
   rw [hnews, List.getElem?_drop] at hu
   have := hcs _ _ hu
   rw [Addr.add_lit]
   exact this
 have s1 : Aside0 (news.length = (n - (k + 1)) * 2) := ⟨hnl⟩
 have s2 : Aside0 (∀ u ∈ news, u.oneCell' = true) := ⟨fun u hu => h1 u (List.mem_of_mem_drop (hnews ▸ hu))⟩
 have s3 : Aside0 (∀ t, t < news.length → (w.drew.cell? ⟨g, 0 + k * 2 + t, none⟩).isSome = true ∧ w.drew.frozen? ⟨g, 0 + k * 2 + t, none⟩ = false) := ⟨fun t ht => by
  rw [hnl] at ht
  exact ⟨hsp _ (by omega), hfz _⟩⟩
 obtain ⟨W1, hW1⟩ : ∃ W1, W1 = w.drew.setCells g (0 + k * 2) news := ⟨_, rfl⟩
 have hc1 : ∀ j, j < n * 2 → (W1.cell? ⟨g, j, none⟩).isSome = true := fun j hj => by
  rw [hW1]
  by_cases hin : k * 2 ≤ j ∧ j < k * 2 + news.length
  ·have := World.cell?_setCells_in g news (0 + k * 2) w.drew (fun t ht => by have := s3.out t ht; exact this.1) (j - k * 2) (by omega)
   rw [show 0 + k * 2 + (j - k * 2) = j by omega] at this
   rw [this]
   simp [List.getElem?_eq_getElem (show j - k * 2 < news.length by omega)]
  ·rw [World.cell?_setCells_out g news _ w.drew ⟨g, j, none⟩ (fun _ _ => by show j < 0 + k * 2 ∨ 0 + k * 2 + news.length ≤ j; omega)]
   exact hsp j hj
 have hcl : ∀ ty, (Builtin.clear_ #[24] ty #[.slice (some ⟨g, (n - 1) * 2, none⟩) 1 (cap - (n - 1))]).run Tryd.prog W1 = .ok (.tuple #[]) (W1.setCells g ((n - 1) * 2) [.int .i64 0, .int .i64 0]) :=
  fun ty => run_clear_cells W1 24 42 ty (.agg #[.int .i64 0, .int .i64 0]) t24 (fun w => by first | exact run_zeroValue_info hi0 hz0 w | (simp [zeroValue, typeInfo, hi0, hz0]; done)) g ((n - 1) * 2) 1 _ _ (by omega) (by simp [Builtin.zeroCells, Value.cells]; first | done | rfl | decide) (by simp [Value.oneCell']) (fun t ht => hc1 _ (by simp at ht; omega)) (fun t ht => by rw [hW1, World.frozen?_setCells]; exact hfz _)
 have e1 : k + (n - (k + 1)) = n - 1 := by omega
 have hcl2 : ∀ ty, (Builtin.clear_ #[24] ty #[.slice (some ⟨g, (k + (n - (k + 1))) * 2, none⟩) (n - (k + (n - (k + 1)))) (cap - (k + (n - (k + 1))))]).run Tryd.prog W1 = .ok (.tuple #[]) (W1.setCells g ((n - 1) * 2) [.int .i64 0, .int .i64 0]) := fun ty => by
  rw [e1, show n - (n - 1) = 1 by omega]; exact hcl ty
 have E1 := Aside0.mk e1
 have hW := Aside0.mk hW1
 have HN := Aside0.mk hnews
 have hA' := Aside0.mk hA
 have mixed : Tryd.prog.follows Departure.mixedOrders = true := by kernel_rfl
 have hb1 : (0 : Int) ≤ (k : Int) + 1 := by omega
 have hb2 : (k : Int) + 1 ≤ (n : Int) := by omega
 have hb3 : (k : Int) ≤ (n : Int) := by omega
 have hic : k ≤ cap := by omega
 have hjc : k + 1 ≤ cap := by omega
 clear hW1 hc1 hcl e1 hsp hcs hfz h1 hnl hnews
 go_enter Tryd.func32, Tryd.ntmps32
 go_wp2_with fail
 go_region_law_o (refine step_append_room rfl (.tmp 22) (.tmp 25) 24 rfl 42 i0 2 t24 hi0 hz1 g 0 k cap (by simp [Act.eval, Act.put]) A (n - (k + 1)) (cap - (k + 1)) news (by simp [Act.eval, Act.put]) s1.out hsrc.out s2.out (by omega) s3.out ?_; rw [← hW.out])
 go_wp2
 go_ret
 refine ⟨by rw [E1.out]; rfl, ?_⟩
 rw [hW.out, ← HN.out, Nat.zero_add]
set_option maxHeartbeats 8000000 in
set_option maxRecDepth 100000 in
theorem ins.shift (g cap n k vb : Nat) (cs vs : List Value) (w : World) (hk : k < n) (hroom : n + 1 ≤ cap) (hcap : cap ≤ 9223372036854775807) (hvb : vb ≠ g) (hlen : cs.length = n * 2) (hvl : vs.length = 2)
  (hcs : ∀ j v, cs[j]? = some v → w.cell? ⟨g, j, none⟩ = some v) (hsp : ∀ j, j < (n + 1) * 2 → (w.cell? ⟨g, j, none⟩).isSome = true) (hfz : ∀ j, w.frozen? ⟨g, j, none⟩ = false)
  (hvs : ∀ j v, vs[j]? = some v → w.cell? ⟨vb, j, none⟩ = some v) (h1c : ∀ v ∈ cs, v.oneCell' = true) (h1v : ∀ v ∈ vs, v.oneCell' = true)
  (tA tB : TypeId) (kA kB : Nat) (hsa : w.shape? vb = some (tA, kA)) (hsb : w.shape? g = some (tB, kB)) (hkB : kB ≠ 0) (hfa : w.frozen? ⟨vb, 0, none⟩ = false) (hfe : w.frozen? ⟨vb, kA, none⟩ = false) :
  Calls Tryd.prog 33 #[.slice (some ⟨g, 0, none⟩) n cap, .int .i64 k, .slice (some ⟨vb, 0, none⟩) 1 1] w fun e w' => e = .returned (.slice (some ⟨g, 0, none⟩) (n + 1) cap) ∧ w' = (w.drew.setCells g ((k + 1) * 2) (cs.drop (k * 2))).setCells g (k * 2) vs := by
 have hu42 := Tryd.underlying42
 have t24 := Tryd.underlying24
 obtain ⟨i0, hi0, hz0, hz1, hz2⟩ := info_parts inf42
 have mixed : Tryd.prog.follows Departure.mixedOrders = true := by kernel_rfl
 have hsz : (Tryd.prog.info? 42).map (·.size) = some 2 := by rw [hi0]; simp [hz1]
 have hov : ∀ lb cb, (callFunc 51 #[.slice (some ⟨vb, 0, none⟩) 1 1, .slice (some ⟨g, (k + 1) * 2, none⟩) lb cb]).run Tryd.prog w = .ok (.value (.bool false)) w := fun lb cb => by
  rw [run_callFunc_extern Tryd.func51 (by kernel_rfl) (by kernel_rfl) (by kernel_rfl) (e := Extern.SlicesOverlaps.overlaps #[24, 24] #[4]) (by kernel_rfl),
   Lib.run_overlaps_apart w 24 4 42 t24 2 (fun w => by simp [sizeOf, typeInfo, hi0, hz1]) ⟨vb, 0, none⟩ ⟨g, (k + 1) * 2, none⟩ 1 1 lb cb hvb tA tB kA kB hsa hsb hkB hfa hfe]
  rfl
 have hdl : (cs.drop (k * 2)).length = (n - k) * 2 := by rw [List.length_drop, hlen]; omega
 have hz3 : ¬ ((k : Int) = (n : Int)) := by omega
 have hb1 : (0 : Int) ≤ (k : Int) + 1 := by omega
 have htn : ((k : Int) + 1).toNat = k + 1 := by omega
 have hin : k ≤ n := by omega
 have hb2 : ¬ (cap = k + 1) := by omega
 have hb3 : (k : Int) ≤ (n : Int) + 1 := by omega
 have hb4 : ¬ (cap = k) := by omega
 have hb5 : ¬ ((cap : Int) < (n : Int) + 1) := by omega
 have hb6 : (k : Int) + 1 ≤ (n : Int) + 1 := by omega
 have hw1 : IntKind.i64.wrap ((k : Int) + 1) = (k : Int) + 1 := by rw [IntKind.wrap_i64]; omega
 have hb7 : k ≤ n + 1 := by omega
 have hb8 : k + 1 ≤ n + 1 := by omega
 have hcp1 : ∀ ty dc sc, (Builtin.copy_ #[24, 24] ty #[.slice (some ⟨g, (k + 1) * 2, none⟩) (n - k) dc, .slice (some ⟨g, k * 2, none⟩) (n + 1 - k) sc]).run Tryd.prog w.drew = .ok (goInt ((n - k : Nat) : Int)) (w.drew.setCells g ((k + 1) * 2) (cs.drop (k * 2))) := fun ty dc sc =>
  run_copy_cellsN w.drew 24 24 ty 42 2 g ((k + 1) * 2) (n - k) dc ⟨g, k * 2, none⟩ (n + 1 - k) sc (n - k) (cs.drop (k * 2)) t24 hsz (by simp only [Nat.min_def]; split <;> omega) hdl
   (fun j v hj => by rw [Addr.add_lit]; exact hcs (k * 2 + j) v (by rwa [List.getElem?_drop] at hj))
   (fun j hj => hsp _ (by rw [hdl] at hj; omega)) (fun j hj => hfz _) (fun v hv => h1c v (List.mem_of_mem_drop hv))
 obtain ⟨W1, hW1⟩ : ∃ W1, W1 = w.drew.setCells g ((k + 1) * 2) (cs.drop (k * 2)) := ⟨_, rfl⟩
 have hsp1 : ∀ j, j < (n + 1) * 2 → (W1.cell? ⟨g, j, none⟩).isSome = true := fun j hj => by
  rw [hW1]
  exact Go.Proofs.isSome_setCells g (cs.drop (k * 2)) ((k + 1) * 2) w.drew (fun t ht => hsp _ (by rw [hdl] at ht; omega)) _ (hsp j hj)
 have hcp2 : ∀ (W : World), (∀ x, W.cell? x = W1.cell? x) → (∀ x, W.frozen? x = W1.frozen? x) → ∀ ty dc, (Builtin.copy_ #[24, 24] ty #[.slice (some ⟨g, k * 2, none⟩) (n + 1 - k) dc, .slice (some ⟨vb, 0, none⟩) 1 1]).run Tryd.prog W = .ok (goInt 1) (W.setCells g (k * 2) vs) := fun W hWc hWf ty dc =>
  run_copy_cellsN W 24 24 ty 42 2 g (k * 2) (n + 1 - k) dc ⟨vb, 0, none⟩ 1 1 1 vs t24 hsz (Nat.min_eq_left (by omega)) (by rw [hvl])
   (fun j v hj => by
    rw [Addr.add_lit, hWc, hW1, World.cell?_setCells_out g _ _ _ _ (fun h _ => absurd h hvb), Nat.zero_add]
    exact hvs j v hj)
   (fun j hj => by rw [hWc]; exact hsp1 _ (by rw [hvl] at hj; omega)) (fun j hj => by rw [hWf, hW1, World.frozen?_setCells]; exact hfz _) h1v
 rw [← hW1] at hcp1
 have hW := Aside0.mk hW1
 clear hW1 hsp1 hsp hcs hvs hfz h1c h1v hlen hdl
 go_enter Tryd.func33, Tryd.ntmps33
 go_wp2_with (simp only [hov])
 go_region_law_o (refine Go.Proofs.step_copy_runI rfl _ _ 24 24 rfl _ _ (by simp [Act.eval, Act.put]) (by simp [Act.eval, Act.put]) (hcp1 _ _ _) ?_)
 go_wp2_with (at_builtin; refine Go.Proofs.wpList_copy_runI _ rfl _ _ 24 24 rfl _ _ rfl rfl (hcp2 _ (fun _ => rfl) (fun _ => rfl) _ _) ?_)
 go_ret
 first | exact ⟨rfl, rfl⟩ | exact ⟨rfl, by rw [hW.out]⟩
abbrev zc : Array Value := (Value.agg #[.int .i64 0, .int .i64 0]).cells
set_option maxHeartbeats 8000000 in
set_option maxRecDepth 100000 in
theorem ins.grow (g cap n k vb : Nat) (cs vs : List Value) (w : World) (hk : k < n) (hn : n ≤ cap) (hroom : cap < n + 1) (hbig : n ≤ 1000000) (hlen : cs.length = n * 2) (hvl : vs.length = 2)
  (hcs : ∀ j v, cs[j]? = some v → w.cell? ⟨g, j, none⟩ = some v)
  (hvs : ∀ j v, vs[j]? = some v → w.cell? ⟨vb, j, none⟩ = some v) (h1c : ∀ v ∈ cs, v.oneCell' = true) (h1v : ∀ v ∈ vs, v.oneCell' = true) :
  Calls Tryd.prog 33 #[.slice (some ⟨g, 0, none⟩) n cap, .int .i64 k, .slice (some ⟨vb, 0, none⟩) 1 1] w fun e w' =>
   e = .returned (.slice (some ⟨w.heap.size, 0, none⟩) (n + 1) (grownCap w (n + 1) cap 42)) ∧
   w' = (((w.alloc (.cells ((cs.take (k * 2)).toArray ++ Builtin.zeroCells zc (n + 1 - k) ++ Builtin.zeroCells zc (grownCap w (n + 1) cap 42 - (n + 1))) 42)).drew.setCells w.heap.size (k * 2) vs).drew).setCells w.heap.size ((k + 1) * 2) (cs.drop (k * 2)) := by
 have hu42 := Tryd.underlying42
 have t24 := Tryd.underlying24
 have t3 := Tryd.underlying3
 obtain ⟨i0, hi0, hz0, hz1, hz2⟩ := info_parts inf42
 have mixed : Tryd.prog.follows Departure.mixedOrders = true := by kernel_rfl
 have hsz : (Tryd.prog.info? 42).map (·.size) = some 2 := by rw [hi0]; simp [hz1]
 have hz3 : ¬ ((k : Int) = (n : Int)) := by omega
 have hz4 : (cap : Int) < (n : Int) + 1 := by omega
 have hgw : g < w.heap.size := block_lt_of_cell (hcs 0 _ (List.getElem?_eq_getElem (by omega)))
 have hvw : vb < w.heap.size := block_lt_of_cell (hvs 0 _ (List.getElem?_eq_getElem (by omega)))
 have hkk : (n : Int) + 1 - (k : Int) = ((n + 1 - k : Nat) : Int) := by omega
 have hik : k + (n + 1 - k) = n + 1 := by omega
 have hold : (Builtin.firstCells i0.size k (.slice (some ⟨g, 0, none⟩) k cap)).run Tryd.prog w.drew = .ok (cs.take (k * 2)).toArray w.drew := by
  rw [hz1]
  exact run_firstCells_some w.drew 2 k ⟨g, 0, none⟩ k cap (cs.take (k * 2)) (by rw [List.length_take]; omega) (fun j v hj => by
   rw [Addr.add_lit, Nat.zero_add]
   rw [List.getElem?_take] at hj
   split at hj
   ·exact hcs j v hj
   ·cases hj)
 have hrz : ∀ ty, (Builtin.append_ #[24, 3] ty #[.slice (some ⟨g, 0, none⟩) k cap, .int .i64 ((n : Int) + 1 - (k : Int))]).run Tryd.prog w =
   .ok (.slice (some ⟨w.heap.size, 0, none⟩) (n + 1) (grownCap w (n + 1) cap 42)) (w.drew.alloc (.cells ((cs.take (k * 2)).toArray ++ Builtin.zeroCells zc (n + 1 - k) ++ Builtin.zeroCells zc (grownCap w (n + 1) cap 42 - (n + 1))) 42)) := fun ty => by
  have h := Lib.run_append_grow_zeros w 24 3 ty 42 i0 _ .i64 .i64 t24 t3 hi0 hz0 (some ⟨g, 0, none⟩) k cap (cs.take (k * 2)) hold (n + 1 - k) (by omega) (by omega) (by omega) (by omega) (by rw [hz2]; omega) (by rw [hz2, hik]; exact growslice_fits hroom (by omega))
  rw [hik] at h
  rw [hkk]
  exact h
 obtain ⟨G, hG⟩ : ∃ G, G = grownCap w (n + 1) cap 42 := ⟨_, rfl⟩
 obtain ⟨ROW, hROW⟩ : ∃ ROW : Array Value, ROW = (cs.take (k * 2)).toArray ++ Builtin.zeroCells zc (n + 1 - k) ++ Builtin.zeroCells zc (G - (n + 1)) := ⟨_, rfl⟩
 rw [← hG] at hrz ⊢
 rw [← hROW] at hrz ⊢
 have hRl : (n + 1) * 2 ≤ ROW.size := by
  rw [hROW]
  simp [Builtin.zeroCells, Value.cells, hlen]
  omega
 obtain ⟨W1, hW1⟩ : ∃ W1, W1 = w.drew.alloc (.cells ROW 42) := ⟨_, rfl⟩
 rw [← hW1] at hrz
 have hN : ∀ j, j < (n + 1) * 2 → (W1.cell? ⟨w.heap.size, j, none⟩).isSome = true := fun j hj => by
  rw [hW1, World.cell?_alloc_at (w := w.drew) ROW _ w.heap.size j rfl, Array.getElem?_eq_getElem (by omega)]; rfl
 have hNf : ∀ j, W1.frozen? ⟨w.heap.size, j, none⟩ = false := fun j => by rw [hW1]; exact World.frozen?_alloc_at (w := w.drew) ROW _ w.heap.size j rfl
 have hOb : ∀ j v, w.cell? ⟨g, j, none⟩ = some v → W1.cell? ⟨g, j, none⟩ = some v := fun j v h => by rw [hW1, World.cell?_alloc_past (w := w.drew) _ g j hgw]; exact h
 have hOv : ∀ j v, w.cell? ⟨vb, j, none⟩ = some v → W1.cell? ⟨vb, j, none⟩ = some v := fun j v h => by rw [hW1, World.cell?_alloc_past (w := w.drew) _ vb j hvw]; exact h
 have hcpA : ∀ (W : World), (∀ x, W.cell? x = W1.cell? x) → (∀ x, W.frozen? x = W1.frozen? x) → ∀ ty dc, (Builtin.copy_ #[24, 24] ty #[.slice (some ⟨w.heap.size, k * 2, none⟩) (n + 1 - k) dc, .slice (some ⟨vb, 0, none⟩) 1 1]).run Tryd.prog W = .ok (goInt 1) (W.setCells w.heap.size (k * 2) vs) := fun W hWc hWf ty dc =>
  run_copy_cellsN W 24 24 ty 42 2 w.heap.size (k * 2) (n + 1 - k) dc ⟨vb, 0, none⟩ 1 1 1 vs t24 hsz (Nat.min_eq_left (by omega)) (by rw [hvl])
   (fun j v hj => by rw [Addr.add_lit, hWc, Nat.zero_add]; exact hOv _ v (hvs j v hj))
   (fun j hj => by rw [hWc]; exact hN _ (by rw [hvl] at hj; omega)) (fun j hj => by rw [hWf]; exact hNf _) h1v
 have hGn : n + 1 ≤ G := by rw [hG]; exact grownCap_ge w _ _ _
 have hG63 : G ≤ 9223372036854775807 := by
  have := grownCap_le_maxLen w (n + 1) cap 42 (by unfold maxLen; omega)
  rw [← hG] at this
  unfold maxLen at this
  omega
 have hGi : ¬ (G = k) := by omega
 have hGim : ¬ (G = k + 1) := by omega
 have hci : ¬ (cap = k) := by omega
 have hbN : g ≠ w.heap.size := by omega
 have hdl : (cs.drop (k * 2)).length = (n - k) * 2 := by rw [List.length_drop, hlen]; omega
 have hcpB : ∀ (W : World), (∀ x, W.cell? x = (W1.setCells w.heap.size (k * 2) vs).cell? x) → (∀ x, W.frozen? x = (W1.setCells w.heap.size (k * 2) vs).frozen? x) → ∀ ty dc sc, (Builtin.copy_ #[24, 24] ty #[.slice (some ⟨w.heap.size, (k + 1) * 2, none⟩) (n - k) dc, .slice (some ⟨g, k * 2, none⟩) (n - k) sc]).run Tryd.prog W = .ok (goInt ((n - k : Nat) : Int)) (W.setCells w.heap.size ((k + 1) * 2) (cs.drop (k * 2))) := fun W hWc hWf ty dc sc =>
  run_copy_cellsN W 24 24 ty 42 2 w.heap.size ((k + 1) * 2) (n - k) dc ⟨g, k * 2, none⟩ (n - k) sc (n - k) (cs.drop (k * 2)) t24 hsz (Nat.min_self _) hdl
   (fun j v hj => by
    rw [Addr.add_lit, hWc, World.cell?_setCells_out _ _ _ _ _ (fun h _ => absurd h hbN)]
    exact hOb _ v (hcs (k * 2 + j) v (by rwa [List.getElem?_drop] at hj)))
   (fun j hj => by rw [hWc]; exact Go.Proofs.isSome_setCells w.heap.size vs (k * 2) W1 (fun t ht => hN _ (by rw [hvl] at ht; omega)) _ (hN _ (by rw [hdl] at hj; omega)))
   (fun j hj => by rw [hWf, World.frozen?_setCells]; exact hNf _) (fun v hv => h1c v (List.mem_of_mem_drop hv))
 subst hW1
 have hE1 : ∀ x, ((w.alloc (.cells ROW 42)).drew).cell? x = (w.drew.alloc (.cells ROW 42)).cell? x := fun x => rfl
 have hE2 : ∀ x, ((w.alloc (.cells ROW 42)).drew).frozen? x = (w.drew.alloc (.cells ROW 42)).frozen? x := fun x => rfl
 have hF1 : ∀ x, (((w.alloc (.cells ROW 42)).drew.setCells w.heap.size (k * 2) vs).drew).cell? x = ((w.drew.alloc (.cells ROW 42)).setCells w.heap.size (k * 2) vs).cell? x := fun x => rfl
 have hF2 : ∀ x, (((w.alloc (.cells ROW 42)).drew.setCells w.heap.size (k * 2) vs).drew).frozen? x = ((w.drew.alloc (.cells ROW 42)).setCells w.heap.size (k * 2) vs).frozen? x := fun x => rfl
 have hb1 : (0 : Int) ≤ (k : Int) + 1 := by omega
 have htn : ((k : Int) + 1).toNat = k + 1 := by omega
 have hin : k ≤ n := by omega
 have hb3 : (k : Int) ≤ (n : Int) := by omega
 have hb6 : (k : Int) + 1 ≤ (n : Int) + 1 := by omega
 have hw1 : IntKind.i64.wrap ((k : Int) + 1) = (k : Int) + 1 := by rw [IntKind.wrap_i64]; omega
 have hw2 : IntKind.i64.wrap ((n : Int) + 1) = (n : Int) + 1 := by rw [IntKind.wrap_i64]; omega
 have hw3 : IntKind.i64.wrap ((n : Int) + 1 - (k : Int)) = (n : Int) + 1 - (k : Int) := by rw [IntKind.wrap_i64]; omega
 have hb7 : k ≤ n + 1 := by omega
 have hb8 : k + 1 ≤ n + 1 := by omega
 clear hkk hik hold hROW hG hRl hN hNf hOb hOv hcs hvs h1c h1v hlen hdl
 go_enter Tryd.func33, Tryd.ntmps33
 go_wp2_with (first
  | (at_builtin; refine Lib.wpList_append_run _ rfl _ _ _ _ rfl _ _ rfl rfl _ _ (hrz _) ?_)
  | (at_builtin; refine Go.Proofs.wpList_copy_runI _ rfl _ _ 24 24 rfl _ _ rfl rfl (hcpA _ hE1 hE2 _ _) ?_)
  | (at_builtin; refine Go.Proofs.wpList_copy_runI _ rfl _ _ 24 24 rfl _ _ rfl rfl (hcpB _ (fun _ => rfl) (fun _ => rfl) _ _ _) ?_))
 go_region_law_o (refine Go.Proofs.step_copy_runI rfl _ _ 24 24 rfl (.slice (some ⟨w.heap.size, (k + 1) * 2, none⟩) (n - k) (G - (k + 1))) (.slice (some ⟨g, k * 2, none⟩) (n - k) (cap - k)) (by simp [Act.eval, Act.put]) (by simp [Act.eval, Act.put]) (hcpB _ hF1 hF2 3 (G - (k + 1)) (cap - k)) ?_)
 go_wp2
 go_ret
 exact ⟨rfl, rfl⟩
set_option maxHeartbeats 8000000 in
set_option maxRecDepth 100000 in
theorem ins.fin (base vb : Nat) (v : Value) (xs : List S42) (x : S42) (w : World) (hR : Kd.R k42 42 w base (fun _ => True) v xs) (hx : Kd.C k42 w (some ⟨vb, 0, none⟩) 1 [x]) (hlen : xs.length ≤ 1000) (hb : base ≤ w.heap.size) :
  Calls Tryd.prog 33 #[v, .int .i64 (xs.length : Nat), .slice (some ⟨vb, 0, none⟩) 1 1] w fun e w' => ∃ v' : Value, e = .returned v' ∧ Kd.R k42 42 w' base (fun _ => True) v' (xs ++ [x]) ∧ Below base w w' := by
 have hu42 := Tryd.underlying42
 have HR := Aside0.mk hR
 have HX := Aside0.mk hx
 have HL := Aside0.mk hlen
 have HBS := Aside0.mk hb
 have HB := Aside0.mk (Below.refl base w)
 have ho := (R_to hR).2
 clear hR hx hlen hb
 rcases ho with ⟨hv, hn⟩ | ⟨g, cap, cur, hv, hbg, hh, hnc, hm, hsz, ht⟩
 ·subst hv
  have h0 : xs = [] := List.length_eq_zero_iff.1 hn
  subst h0
  go_enter Tryd.func33, Tryd.ntmps33
  go_wp2_with (at_builtin; refine Kd.R_append_rows k42 (w0 := w) base rfl (.tmp 23) (.tmp 24) 24 42 (.agg #[(.int .i64 0), (.int .i64 0)]) 16 rfl Tryd.underlying24 info42 rfl (by decide) (by omega) _ ([] : List S42) [x] _ _ _ (fun _ => True) (fun _ => False) rfl rfl HR.out HX.out (fun _ _ h => h) (fun _ h => h.elim) (fun _ _ => trivial) HB.out HBS.out (by simp) ?_; intro v1 w1 hR1 hb1 _ _)
  go_ret
  exact ⟨_, rfl, hR1, hb1⟩
 ·subst hv
  have HN := Aside0.mk hnc
  have hic : xs.length ≤ cap := hnc
  have hb3 : (xs.length : Int) ≤ (xs.length : Int) := Int.le_refl _
  clear hbg hh hm hsz ht hnc
  go_enter Tryd.func33, Tryd.ntmps33
  go_wp2_with (at_builtin; refine Kd.R_append_rows k42 (w0 := w) base rfl (.tmp 23) (.tmp 24) 24 42 (.agg #[(.int .i64 0), (.int .i64 0)]) 16 rfl Tryd.underlying24 info42 rfl (by decide) (by omega) _ xs [x] _ _ _ (fun _ => True) (fun _ => False) rfl rfl HR.out HX.out (fun _ _ h => h) (fun _ h => h.elim) (fun _ _ => trivial) HB.out HBS.out (by have := HL.out; omega) ?_; intro v1 w1 hR1 hb1 _ _)
  all_goals (go_ret; exact ⟨_, rfl, hR1, hb1⟩)
theorem del.R (base : Nat) (v : Value) (xs : List S42) (k : Nat) (w : World) (hR : Kd.R k42 42 w base (fun _ => True) v xs) (hk : k < xs.length) :
  Calls Tryd.prog 32 #[v, .int .i64 (k : Nat), .int .i64 ((k : Int) + 1)] w fun e w' => ∃ v' : Value, e = .returned v' ∧ Kd.R k42 42 w' base (fun _ => True) v' (xs.take k ++ xs.drop (k + 1)) ∧ Below base w w' := by
 obtain ⟨g, cap, cur, rfl, hbg, hh, hnc, hm, hsz, ht⟩ := own_form (R_to hR) (by omega)
 have hm' : cap ≤ 9223372036854775807 := by unfold maxLen at hm; omega
 refine (del.calls g cap xs.length k (lc xs) w hk hnc hm' (lc_len xs) (own_cells hh ht) (own_frozen hh) (lc_one xs)).mono ?_
 rintro e w' ⟨rfl, rfl⟩
 refine ⟨_, rfl, R_of ?_, setCells_below hbg _ _ _ (setCells_below hbg _ _ _ (Below.drew (Below.refl base w)))⟩
 have := del_own (base := base) rfl hk hbg hh hnc hm hsz ht
 rwa [show (xs.take k ++ xs.drop (k + 1)).length = xs.length - 1 by simp; omega]
theorem ins.R (base vb : Nat) (v : Value) (xs : List S42) (x : S42) (k : Nat) (w : World) (hR : Kd.R k42 42 w base (fun _ => True) v xs) (hk : k ≤ xs.length) (hlen : xs.length ≤ 1000) (hb : base ≤ w.heap.size)
  (hv : w.heap[vb]? = some (.cells #[.int .i64 x.f0, .int .i64 x.f1] 42 (0, 0))) (hne : ∀ g, v.ownBlock = some g → vb ≠ g) :
  Calls Tryd.prog 33 #[v, .int .i64 (k : Nat), .slice (some ⟨vb, 0, none⟩) 1 1] w fun e w' => ∃ v' : Value, e = .returned v' ∧ Kd.R k42 42 w' base (fun _ => True) v' (xs.take k ++ x :: xs.drop k) ∧ Below base w w' := by
 have hvs : ∀ j u, (lx x)[j]? = some u → w.cell? ⟨vb, j, none⟩ = some u := own_cells hv (by rfl : (#[Value.int .i64 x.f0, .int .i64 x.f1] : Array Value).toList.take 2 = lx x)
 have h1v : ∀ u ∈ lx x, u.oneCell' = true := fun u hu => by
  simp only [lx, List.mem_cons, List.not_mem_nil, or_false] at hu
  rcases hu with rfl | rfl <;> rfl
 by_cases hkn : k < xs.length
 ·obtain ⟨g, cap, cur, rfl, hbg, hh, hnc, hm, hsz, ht⟩ := own_form (R_to hR) (by omega)
  have hm' : cap ≤ 9223372036854775807 := by unfold maxLen at hm; omega
  by_cases hroom : xs.length + 1 ≤ cap
  ·refine (ins.shift g cap xs.length k vb (lc xs) (lx x) w hkn hroom hm' (hne g rfl) (lc_len xs) rfl (own_cells hh ht) (fun j hj => own_some hh j (by rw [hsz]; omega)) (own_frozen hh) hvs (lc_one xs) h1v 42 42 2 cur.size
    (by simp [World.shape?, hv]) (by simp [World.shape?, hh]) (by rw [hsz]; omega) (own_frozen hv 0) (own_frozen hv 2)).mono ?_
   rintro e w' ⟨rfl, rfl⟩
   refine ⟨_, rfl, R_of ?_, setCells_below hbg _ _ _ (setCells_below hbg _ _ _ (Below.drew (Below.refl base w)))⟩
   have := ins_shift_own (base := base) x rfl hkn hbg hh hroom hm hsz ht
   rwa [show (xs.take k ++ x :: xs.drop k).length = xs.length + 1 by simp; omega]
  ·have hge : xs.length + 1 ≤ grownCap w (xs.length + 1) cap 42 := grownCap_ge w _ _ _
   have hle := grownCap_le_maxLen w (xs.length + 1) cap 42 (by unfold maxLen; omega)
   refine (ins.grow g cap xs.length k vb (lc xs) (lx x) w hkn hnc (by omega) (by omega) (lc_len xs) rfl (own_cells hh ht) hvs (lc_one xs) h1v).mono ?_
   rintro e w' ⟨rfl, rfl⟩
   generalize hG : grownCap w (xs.length + 1) cap 42 = G at hge hle
   generalize hROW : ((lc xs).take (k * 2)).toArray ++ Builtin.zeroCells zc (xs.length + 1 - k) ++ Builtin.zeroCells zc (G - (xs.length + 1)) = ROW
   have zl : ∀ m, (Builtin.zeroCells zc m).size = m * 2 := fun m => by simp [Builtin.zeroCells, Value.cells]
   have tl : ((lc xs).take (k * 2)).length = k * 2 := by rw [List.length_take, lc_len]; omega
   have hs : ROW.size = G * 2 := by
    rw [← hROW, Array.size_append, Array.size_append, zl, zl, List.size_toArray, tl]
    omega
   have htk : ROW.toList.take (k * 2) = lc (xs.take k) := by
    rw [← hROW, Array.toList_append, Array.toList_append, List.append_assoc, List.take_append_of_le_length (by rw [tl]; omega), List.take_of_length_le (by rw [tl]; omega), lc_take]
   refine ⟨_, rfl, R_of ?_, ?_⟩
   ·have := ins_grow_own (base := base) (w := w) x rfl hkn hb hge hle hs htk
    rwa [show (xs.take k ++ x :: xs.drop k).length = xs.length + 1 by simp; omega]
   ·exact setCells_below hb _ _ _ (Below.drew (setCells_below hb _ _ _ (Below.drew (Below.alloc (Below.refl base w) hb _))))
 ·obtain rfl : k = xs.length := by omega
  have hC : Kd.C k42 w (some ⟨vb, 0, none⟩) 1 [x] := ⟨rfl, by omega, fun _ => ⟨_, rfl, fun j p hj => by
   match j, hj with
   | 0, hj =>
    obtain rfl : x = p := by simpa using hj
    refine ⟨lx x, rfl, k42_mk _ _, fun i u hu => ?_⟩
    have := hvs i u hu
    rw [Addr.add_lit]
    simpa using this⟩⟩
  have := ins.fin base vb v xs x w hR hC hlen hb
  rw [List.take_length, List.drop_length]
  exact this
def setP (l : List S42) (a : Int) : Prop := l.length ≤ 1000 ∧ (∀ i, i < l.length → 0 ≤ (l.getD i z42).f0 ∧ (l.getD i z42).f0 ≤ 255) ∧ (∀ j, j < l.length → ∀ i, i < j → (l.getD i z42).f0 < (l.getD j z42).f0) ∧ 0 ≤ a ∧ a ≤ 255
instance (l : List S42) (a : Int) : Decidable (setP l a) := by unfold setP; infer_instance
def setD (l : List S42) (a : Int) : List S42 := if bsF a l = true then l.take (bsN a l) ++ l.drop (bsN a l + 1) else l
def setF (l : List S42) (a v : Int) : List S42 := if v ≥ 0 then (setD l a).take (bsN a l) ++ ⟨a, v⟩ :: (setD l a).drop (bsN a l) else setD l a
def impl_Set.f (k : Nat) (l0 : List S42) (a1 a2 : Int) : Option (List S42) := (impl_LeavesOk.f k l0).bind fun t => if t = true then ((impl_isPlace.f a1).bind fun p => if p = true then ((impl_within.f a2 (-1) 1000000000).bind fun q => if q = true then (if setP l0 a1 then some (setF l0 a1 a2) else none) else some []) else some []) else some []
theorem bsN_le (a : Int) (l : List S42) : bsN a l ≤ l.length := List.countP_le_length
theorem bsF_lt {a : Int} {l : List S42} (h : bsF a l = true) : bsN a l < l.length := by
 unfold bsF at h
 simp at h
 exact h.1
theorem setD_len (l : List S42) (a : Int) : bsN a l ≤ (setD l a).length ∧ (setD l a).length ≤ l.length := by
 unfold setD
 have h1 := bsN_le a l
 by_cases h : bsF a l = true
 ·rw [if_pos h]
  have := bsF_lt h
  simp
  omega
 ·rw [if_neg h]
  omega
theorem ins.here (base : Nat) (v : Value) (xs : List S42) (x : S42) (k : Nat) (w : World) (hR : Kd.R k42 42 w base (fun _ => True) v xs) (hk : k ≤ xs.length) (hlen : xs.length ≤ 1000) (hb : base ≤ w.heap.size) :
  Calls Tryd.prog 33 #[v, .int .i64 (k : Nat), .slice (some ⟨w.heap.size, 0, none⟩) 1 1] (w.alloc (.cells #[.int .i64 x.f0, .int .i64 x.f1] 42)) fun e w' => ∃ v' : Value, e = .returned v' ∧ Kd.R k42 42 w' base (fun _ => True) v' (xs.take k ++ x :: xs.drop k) ∧ Below base w w' := by
 have ha : (w.alloc (.cells #[.int .i64 x.f0, .int .i64 x.f1] 42)).heap[w.heap.size]? = some (.cells #[.int .i64 x.f0, .int .i64 x.f1] 42 (0, 0)) := by
  show (w.heap.push (.cells #[.int .i64 x.f0, .int .i64 x.f1] 42 (0, 0)))[w.heap.size]? = _
  simp
 have hsz : base ≤ (w.alloc (.cells #[.int .i64 x.f0, .int .i64 x.f1] 42)).heap.size := by
  show base ≤ (w.heap.push (.cells #[.int .i64 x.f0, .int .i64 x.f1] 42 (0, 0))).size
  simp
  omega
 refine (ins.R base w.heap.size v xs x k _ (Kd.R_alloc hR _) hk hlen hsz ha (fun g hg => Nat.ne_of_gt (own_lt (R_to hR) g hg))).mono ?_
 rintro e w' ⟨v', rfl, h1, h2⟩
 exact ⟨v', rfl, h1, (Below.alloc (Below.refl base w) hb _).trans h2⟩
set_option maxHeartbeats 8000000 in
set_option maxRecDepth 100000 in
theorem impl_Set.calls (k : Nat) (A0 : Option Addr) (c0 : Nat) (l0 : List S42) (a1 a2 : Int) (r : List S42) (w : World) (hr0 : Kd.C k42 w A0 l0.length l0) (hc0 : l0.length ≤ c0) (h : impl_Set.f k l0 a1 a2 = some r) :
  Calls Tryd.prog 6 #[.slice A0 l0.length c0, .int .i64 a1, .int .i64 a2] w fun e w' => ∃ v0_ : Value, e = .returned v0_ ∧ Kd.R k42 42 w' w.heap.size (fun _ => True) v0_ r ∧ Below w.heap.size w w' := by
 have hu42 := Tryd.underlying42
 have eg19 : ∀ args w, (callFunc 19 args).run Tryd.prog w = .ok (.enter 19 args) w := enters_ Tryd.func19 (by kernel_rfl) rfl
 have eg27 : ∀ args w, (callFunc 27 args).run Tryd.prog w = .ok (.enter 27 args) w := enters_ Tryd.func27 (by kernel_rfl) rfl
 have eg28 : ∀ args w, (callFunc 28 args).run Tryd.prog w = .ok (.enter 28 args) w := enters_ Tryd.func28 (by kernel_rfl) rfl
 have eg29 : ∀ args w, (callFunc 29 args).run Tryd.prog w = .ok (.enter 29 args) w := enters_ Tryd.func29 (by kernel_rfl) rfl
 have eg31 : ∀ args w, (callFunc 31 args).run Tryd.prog w = .ok (.enter 31 args) w := enters_ Tryd.func31 (by kernel_rfl) rfl
 have eg32 : ∀ args w, (callFunc 32 args).run Tryd.prog w = .ok (.enter 32 args) w := enters_ Tryd.func32 (by kernel_rfl) rfl
 have eg33 : ∀ args w, (callFunc 33 args).run Tryd.prog w = .ok (.enter 33 args) w := enters_ Tryd.func33 (by kernel_rfl) rfl
 have HR0 := Aside0.mk hr0
 have HC0 := Aside0.mk hc0
 clear hr0 hc0
 unfold impl_Set.f at h
 obtain ⟨t, ht, h⟩ := Option.bind_eq_some_iff.1 h
 have HT := Aside0.mk ht
 clear ht
 cases t with
 | false =>
  rw [if_neg (by simp)] at h
  obtain rfl := Option.some.inj h
  clear h
  go_enter Tryd.func6, Tryd.ntmps6
  go_wp2_with fail
  refine (impl_LeavesOk.calls k A0 c0 l0 false _ HR0.out HC0.out HT.out).mono ?_
  rintro e w' ⟨rfl, hb⟩
  have HB := Aside0.mk hb
  clear hb
  go_wp2
  go_ret
  exact ⟨_, rfl, Kd.R_nil _ _ _ _ _, HB.out⟩
 | true =>
  rw [if_pos rfl] at h
  obtain ⟨p, hp, h⟩ := Option.bind_eq_some_iff.1 h
  have HP := Aside0.mk hp
  clear hp
  cases p with
  | false =>
   rw [if_neg (by simp)] at h
   obtain rfl := Option.some.inj h
   clear h
   go_enter Tryd.func6, Tryd.ntmps6
   go_wp2_with fail
   refine (impl_LeavesOk.calls k A0 c0 l0 true _ HR0.out HC0.out HT.out).mono ?_
   rintro e w' ⟨rfl, hb⟩
   have HB := Aside0.mk hb
   clear hb
   go_wp2_with fail
   refine (impl_isPlace.calls a1 false _ HP.out).mono ?_
   rintro e w2 ⟨rfl, m1, rfl⟩
   go_wp2
   go_ret
   exact ⟨_, rfl, Kd.R_nil _ _ _ _ _, pw_below_drewN HB.out _⟩
  | true =>
   rw [if_pos rfl] at h
   obtain ⟨q, hq, h⟩ := Option.bind_eq_some_iff.1 h
   have HQ := Aside0.mk hq
   clear hq
   cases q with
   | false =>
    rw [if_neg (by simp)] at h
    obtain rfl := Option.some.inj h
    clear h
    go_enter Tryd.func6, Tryd.ntmps6
    go_wp2_with fail
    refine (impl_LeavesOk.calls k A0 c0 l0 true _ HR0.out HC0.out HT.out).mono ?_
    rintro e w' ⟨rfl, hb⟩
    have HB := Aside0.mk hb
    clear hb
    go_wp2_with fail
    refine (impl_isPlace.calls a1 true _ HP.out).mono ?_
    rintro e w2 ⟨rfl, m1, rfl⟩
    go_wp2_with fail
    refine (impl_within.calls a2 (-1) 1000000000 false _ HQ.out).mono ?_
    rintro e w2 ⟨rfl, m2, rfl⟩
    go_wp2
    go_ret
    exact ⟨_, rfl, Kd.R_nil _ _ _ _ _, by first | exact pw_below_drewN HB.out _ | exact pw_below_drewN (pw_below_drewN HB.out _) _⟩
   | true =>
    rw [if_pos rfl] at h
    by_cases hs : setP l0 a1
    ·rw [if_pos hs] at h
     obtain rfl := Option.some.inj h
     clear h
     have HS := Aside0.mk hs
     clear hs
     go_enter Tryd.func6, Tryd.ntmps6
     go_wp2_with fail
     refine (impl_LeavesOk.calls k A0 c0 l0 true _ HR0.out HC0.out HT.out).mono ?_
     rintro e w' ⟨rfl, hb⟩
     have HB0 := Aside0.mk hb
     clear hb
     go_wp2_with fail
     refine (impl_isPlace.calls a1 true _ HP.out).mono ?_
     rintro e w2 ⟨rfl, m1, rfl⟩
     go_wp2_with fail
     refine (impl_within.calls a2 (-1) 1000000000 true _ HQ.out).mono ?_
     rintro e w2 ⟨rfl, m2, rfl⟩
     have HB : Aside0 (Below w.heap.size w ((w'.drewN m1).drewN m2)) := ⟨pw_below_drewN (pw_below_drewN HB0.out _) _⟩
     clear HB0
     generalize (World.drewN (World.drewN w' m1) m2) = W at HB ⊢
     go_wp2_with fail
     refine (bs.calls A0 c0 l0 a1 _ (Kd.C_below HR0.out HB.out) HC0.out HS.out.1 (fun i j hij hj => HS.out.2.2.1 j hj i hij) HS.out.2.1 HS.out.2.2.2).mono ?_
     rintro e w3 ⟨rfl, hb⟩
     have HB3 := Aside0.mk (below_step HB.out hb)
     clear HB hb
     go_wp2_with fail
     refine (impl_Leaf_31.calls A0 c0 l0 l0 _ (Kd.C_below HR0.out HB3.out) HC0.out (by have := HS.out.1; simp [impl_Leaf_31.f]; omega)).mono ?_
     rintro e w4 ⟨v0, rfl, hr, hb⟩
     have HR4 := Aside0.mk (Kd.R_lower hr (below_size HB3.out))
     have HB4 := Aside0.mk (below_step HB3.out hb)
     clear HB3 hb hr
     have key : ∀ (v5 : Value) (w5 : World), Kd.R k42 42 w5 w.heap.size (fun _ => True) v5 (setD l0 a1) → Below w.heap.size w w5 → True := fun _ _ _ _ => trivial
     cases hF : bsF a1 l0 with
     | true =>
      have hN := bsF_lt hF
      have hL := HS.out.1
      have hw : wrap64 ((bsN a1 l0 : Int) + 1) = (bsN a1 l0 : Int) + 1 := by unfold wrap64; omega
      have HW := Aside0.mk hw
      have HN := Aside0.mk hN
      clear hN hL hw
      have eD : setD l0 a1 = l0.take (bsN a1 l0) ++ l0.drop (bsN a1 l0 + 1) := by unfold setD; rw [hF]; rfl
      have ED := Aside0.mk eD
      clear eD
      by_cases hv : a2 ≥ 0
      ·have c1 : decide (0 ≤ a2) = true := decide_eq_true hv
       go_wp2_with fail
       rw [HW.out]
       refine (del.R w.heap.size v0 l0 (bsN a1 l0) _ HR4.out HN.out).mono ?_
       rintro e w5 ⟨v5, rfl, hr, hb⟩
       rw [← ED.out] at hr
       have HR5 := Aside0.mk hr
       have HB5 := Aside0.mk (HB4.out.trans hb)
       clear HB4 HR4 hb hr
       go_wp2_with fail
       refine (ins.here w.heap.size v5 (setD l0 a1) ⟨a1, a2⟩ (bsN a1 l0) w5 HR5.out (setD_len l0 a1).1 (Nat.le_trans (setD_len l0 a1).2 HS.out.1) (below_size HB5.out)).mono ?_
       rintro e w6 ⟨v6, rfl, hr, hb⟩
       have HR6 := Aside0.mk hr
       have HB6 := Aside0.mk (HB5.out.trans hb)
       clear HB5 HR5 hb hr
       go_wp2
       go_ret
       refine ⟨_, rfl, ?_, HB6.out⟩
       unfold setF
       rw [if_pos hv]
       exact HR6.out
      ·have c1 : decide (0 ≤ a2) = false := decide_eq_false hv
       have HV := Aside0.mk hv
       clear hv
       go_wp2_with fail
       rw [HW.out]
       refine (del.R w.heap.size v0 l0 (bsN a1 l0) _ HR4.out HN.out).mono ?_
       rintro e w5 ⟨v5, rfl, hr, hb⟩
       rw [← ED.out] at hr
       have HR5 := Aside0.mk hr
       have HB5 := Aside0.mk (HB4.out.trans hb)
       clear HB4 HR4 hb hr
       go_wp2
       go_ret
       refine ⟨_, rfl, ?_, HB5.out⟩
       unfold setF
       rw [if_neg (show ¬ (a2 ≥ 0) by have := HV.out; omega)]
       exact HR5.out
     | false =>
      have eD : setD l0 a1 = l0 := by unfold setD; rw [hF]; rfl
      by_cases hv : a2 ≥ 0
      ·have c1 : decide (0 ≤ a2) = true := decide_eq_true hv
       have HR5 : Aside0 (Kd.R k42 42 w4 w.heap.size (fun _ => True) v0 (setD l0 a1)) := ⟨by rw [eD]; exact HR4.out⟩
       clear eD
       go_wp2_with fail
       refine (ins.here w.heap.size v0 (setD l0 a1) ⟨a1, a2⟩ (bsN a1 l0) w4 HR5.out (setD_len l0 a1).1 (Nat.le_trans (setD_len l0 a1).2 HS.out.1) (below_size HB4.out)).mono ?_
       rintro e w6 ⟨v6, rfl, hr, hb⟩
       have HR6 := Aside0.mk hr
       have HB6 := Aside0.mk (HB4.out.trans hb)
       clear HB4 HR5 HR4 hb hr
       go_wp2
       go_ret
       refine ⟨_, rfl, ?_, HB6.out⟩
       unfold setF
       rw [if_pos hv]
       exact HR6.out
      ·have c1 : decide (0 ≤ a2) = false := decide_eq_false hv
       have HV := Aside0.mk hv
       clear hv
       go_wp2
       go_ret
       refine ⟨_, rfl, ?_, HB4.out⟩
       unfold setF
       rw [if_neg (show ¬ (a2 ≥ 0) by have := HV.out; omega), eD]
       exact HR4.out
    ·rw [if_neg hs] at h
     cases h
theorem impl_Set.mono : ∀ a0 a1 a2 k, LeO (impl_Set.f k a0 a1 a2) (impl_Set.f (k + 1) a0 a1 a2) := by
 intro a0 a1 a2 k
 unfold impl_Set.f
 exact LeO.bind (impl_LeavesOk.mono _ _) (fun _ => LeO.refl _)

end Go.Proofs.YtgpofolfflfgiaaDoor.PFnProved
