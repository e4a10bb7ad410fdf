-- Written by a program of this session (wip/tools/pp.py over the kit's print).
import Derived.Test.YtokfpmkhfindmaaDoorPFnProofsx0
import Derived.Test.YtokfpmkhfindmaaDoorPFnProofsx2
import Derived.Test.YtokfpmkhfindmaaDoorPFnProofsx4
import Derived.Test.YtokfpmkhfindmaaDoorPFnProofsx9
namespace Go.Proofs.YtokfpmkhfindmaaDoor.PFnProofs
open Go.RowKit Go.Proofs.YtokfpmkhfindmaaDoorW.PrintWords Go.Proofs.YtokfpmkhfindmaaDoorW.PrintLast Go.Proofs.YtokfpmkhfindmaaDoorW.PrintMore
attribute [local go_sem] max2_int min2_int max_two min_two max_three min_three max_four min_four
attribute [local go_sem high] str_gtr str_leq str_geq
set_option linter.unusedVariables false
set_option linter.unusedSimpArgs false

/-! ### spec_l15DrawProof: function 49 -/
mutual
def spec_l15DrawProof.l0 : Nat → List (S43) → Int → List Int → Int → Int → Option (Int × Int × List Int × List Int × Int × Int)
 | 0, _, _, _, _, _ => none
 | k + 1, x3, x4, x1000, x1001, x1002 => if x4 < 4 then ((spec_l15Voted.f k x4 2 5).bind fun bt284 => (if x3.length < 4398046511104 then (spec_l15DrawProof.l0 k (x3 ++ [(⟨bt284.1, bt284.2.1, bt284.2.2.1, bt284.2.2.2⟩ : S43)]) (wrap64 (x4 + 1)) x1000 x1001 x1002) else (none))) else ((spec_l1Below.f x1000 x1001 x1002 4).bind fun bt291 => ((some (([] : List (S43)) : List (S43))).bind fun y294 => (if 0 ≤ bt291.1 then (if bt291.1 ≤ (x3.length : Int) then ((some (x3.take (bt291.1 : Int).toNat : List (S43))).bind fun y297 => (if y294.length + y297.length < 4398046511104 then ((some (y294 ++ y297 : List (S43))).bind fun y301 => ((spec_l1Below.f x1000 bt291.2.1 bt291.2.2 2).bind fun bt304 => (if 0 ≤ (wrap64 (bt291.1 + bt304.1)) then (if (wrap64 (bt291.1 + bt304.1)) ≤ (x3.length : Int) then ((some (x3.drop ((wrap64 (bt291.1 + bt304.1)) : Int).toNat : List (S43))).bind fun y307 => (if y301.length + y307.length < 4398046511104 then ((spec_Gathered.f k (y301 ++ y307) 4).bind fun bt314 => ((spec_l1Once.f x1000 bt304.2.1 bt304.2.2 10).bind fun bt324 => (if bt324.1 = true then (spec_l15DrawProof.j1 k (decide ((bt314.2.2.1.length : Int) > 0)) x1000 bt324.2.1 bt324.2.2 bt314.1 bt314.2.1 bt314.2.2.1 bt314.2.2.2.1) else (spec_l15DrawProof.j1 k false x1000 bt324.2.1 bt324.2.2 bt314.1 bt314.2.1 bt314.2.2.1 bt314.2.2.2.1)))) else (none))) else (none)) else (none)))) else (none))) else (none)) else (none))))
def spec_l15DrawProof.j1 : Nat → Bool → List Int → Int → Int → Int → Int → List Int → List Int → Option (Int × Int × List Int × List Int × Int × Int)
 | 0, _, _, _, _, _, _, _, _ => none
 | k + 1, x46, x1000, x1001, x1002, x324000, x324001, x324002, x324003 => if x46 = true then ((spec_l1Below.f x1000 x1001 x1002 4).bind fun bt327 => (if bt327.1 = 0 then (if 0 < (x324003.length : Int) then (some (x324000, x324001, x324002, (x324003.set (0 : Int).toNat (wrap64 ((rd x324003 0) + 1))), bt327.2.1, bt327.2.2)) else (none)) else (if bt327.1 = 1 then (if 1 ≤ (x324002.length : Int) then (some (x324000, x324001, (x324002.drop (1 : Int).toNat), x324003, bt327.2.1, bt327.2.2)) else (none)) else (if bt327.1 = 2 then ((some (([(-1), 0, 3, 100000, 100001] : List Int) : List Int)).bind fun y335 => ((spec_l1Below.f x1000 bt327.2.1 bt327.2.2 5).bind fun bt338 => (if 0 ≤ bt338.1 then (if bt338.1 < (y335.length : Int) then (some (rd y335 bt338.1, x324001, x324002, x324003, bt338.2.1, bt338.2.2)) else (none)) else (none)))) else (if bt327.1 = 3 then (if 1 < (x324002.length : Int) then (if 0 < (x324002.length : Int) then (some (x324000, x324001, (x324002.set (0 : Int).toNat (rd x324002 1)), x324003, bt327.2.1, bt327.2.2)) else (none)) else (none)) else (some (x324000, x324001, x324002, x324003, bt327.2.1, bt327.2.2))))))) else (some (x324000, x324001, x324002, x324003, x1001, x1002))
end
def spec_l15DrawProof.f (k : Nat) (s0_0 : List Int) (s0_1 : Int) (s0_2 : Int) : Option (Int × Int × List Int × List Int × Int × Int) := (spec_l1Once.f s0_0 s0_1 s0_2 4).bind fun bt278 => (if bt278.1 = true then (some (0, 0, ([] : List Int), ([] : List Int), bt278.2.1, bt278.2.2)) else (spec_l15DrawProof.l0 k (([] : List (S43))) 0 s0_0 bt278.2.1 bt278.2.2))
theorem spec_l15DrawProof.mono_l : ∀ k, (∀ y0 y1 y2 y3 y4, LeO (spec_l15DrawProof.l0 k y0 y1 y2 y3 y4) (spec_l15DrawProof.l0 (k + 1) y0 y1 y2 y3 y4)) ∧ (∀ y0 y1 y2 y3 y4 y5 y6 y7, LeO (spec_l15DrawProof.j1 k y0 y1 y2 y3 y4 y5 y6 y7) (spec_l15DrawProof.j1 (k + 1) y0 y1 y2 y3 y4 y5 y6 y7))
 | 0 => ⟨fun _ _ _ _ _ r h => by simp [spec_l15DrawProof.l0] at h, fun _ _ _ _ _ _ _ _ r h => by simp [spec_l15DrawProof.j1] at h⟩
 | k + 1 => by
  obtain ⟨ih0, ih1⟩ := spec_l15DrawProof.mono_l k
  refine ⟨?_, ?_⟩
  ·intro y0 y1 y2 y3 y4
   unfold spec_l15DrawProof.l0
   repeat' first
   | (with_reducible exact ih0 _ _ _ _ _)
   | (with_reducible exact ih1 _ _ _ _ _ _ _ _)
   | (with_reducible exact spec_Gathered.mono _ _ _)
   | (with_reducible exact spec_l15Voted.mono _ _ _ _)
   | (with_reducible exact LeO.refl _)
   | (with_reducible exact LeO.none _)
   | (with_reducible refine LeO.ite ?_ ?_)
   | (with_reducible refine LeO.bind ?_ (fun _ => ?_))
   | exact ih0 _ _ _ _ _
   | exact ih1 _ _ _ _ _ _ _ _
   | exact spec_Gathered.mono _ _ _
   | exact spec_l15Voted.mono _ _ _ _
   | exact LeO.none _
   | refine LeO.ite ?_ ?_
   | refine LeO.bind ?_ (fun _ => ?_)
  ·intro y0 y1 y2 y3 y4 y5 y6 y7
   unfold spec_l15DrawProof.j1
   repeat' first
   | (with_reducible exact ih0 _ _ _ _ _)
   | (with_reducible exact ih1 _ _ _ _ _ _ _ _)
   | (with_reducible exact spec_Gathered.mono _ _ _)
   | (with_reducible exact spec_l15Voted.mono _ _ _ _)
   | (with_reducible exact LeO.refl _)
   | (with_reducible exact LeO.none _)
   | (with_reducible refine LeO.ite ?_ ?_)
   | (with_reducible refine LeO.bind ?_ (fun _ => ?_))
   | exact ih0 _ _ _ _ _
   | exact ih1 _ _ _ _ _ _ _ _
   | exact spec_Gathered.mono _ _ _
   | exact spec_l15Voted.mono _ _ _ _
   | exact LeO.none _
   | refine LeO.ite ?_ ?_
   | refine LeO.bind ?_ (fun _ => ?_)
theorem spec_l15DrawProof.mono : ∀ a0 a1 a2 k, LeO (spec_l15DrawProof.f k a0 a1 a2) (spec_l15DrawProof.f (k + 1) a0 a1 a2) := by
 intro a0 a1 a2 k
 obtain ⟨ih0, ih1⟩ := spec_l15DrawProof.mono_l k
 unfold spec_l15DrawProof.f
 repeat' first
   | (with_reducible exact ih0 _ _ _ _ _)
   | (with_reducible exact ih1 _ _ _ _ _ _ _ _)
   | (with_reducible exact spec_Gathered.mono _ _ _)
   | (with_reducible exact spec_l15Voted.mono _ _ _ _)
   | (with_reducible exact LeO.refl _)
   | (with_reducible exact LeO.none _)
   | (with_reducible refine LeO.ite ?_ ?_)
   | (with_reducible refine LeO.bind ?_ (fun _ => ?_))
   | exact ih0 _ _ _ _ _
   | exact ih1 _ _ _ _ _ _ _ _
   | exact spec_Gathered.mono _ _ _
   | exact spec_l15Voted.mono _ _ _ _
   | exact LeO.none _
   | refine LeO.ite ?_ ?_
   | refine LeO.bind ?_ (fun _ => ?_)
def spec_l15DrawProof.T13 : Bool × List (List Nat × List Nat) := (true, [([], []), ([0], [0]), ([], []), ([2], [2]), ([3], [3]), ([4], [4]), ([5], [5]), ([1, 0, 1, 2, 3, 4, 5, 6], [1]), ([7, 6, 0, 1, 2, 3, 4, 5, 6], [6, 7])])
def spec_l15DrawProof.B13 : List Nat := [0, 1, 0, 4, 12, 28, 60, 127, 255]
theorem spec_l15DrawProof.tab13 : rtab .any (opsOf Tryd.f49 13) = spec_l15DrawProof.T13 := by kernel_rfl
theorem spec_l15DrawProof.bits13 : waitsOk spec_l15DrawProof.T13.2 spec_l15DrawProof.B13 = true := by kernel_rfl
def spec_l15DrawProof.T19 : Bool × List (List Nat × List Nat) := (true, [([], []), ([0], [0]), ([], []), ([2], [2]), ([3], [3]), ([4], [4]), ([1, 0, 1, 2, 3, 4, 5], [1]), ([6, 5, 0, 1, 2, 3, 4, 5], [5, 6])])
def spec_l15DrawProof.B19 : List Nat := [0, 1, 0, 4, 12, 28, 63, 127]
theorem spec_l15DrawProof.tab19 : rtab .any (opsOf Tryd.f49 19) = spec_l15DrawProof.T19 := by kernel_rfl
theorem spec_l15DrawProof.bits19 : waitsOk spec_l15DrawProof.T19.2 spec_l15DrawProof.B19 = true := by kernel_rfl
set_option maxHeartbeats 8000000 in
set_option maxRecDepth 100000 in
theorem spec_l15DrawProof.calls (k : Nat) (g : Nat) (s0_0 : List Int) (s0_1 : Int) (s0_2 : Int) (r1 : Int) (r2 : Int) (r3 : List Int) (r4 : List Int) (r5 : Int) (r6 : Int) (w0 w : World) (hI : IsS96 w0 w g s0_0 s0_1 s0_2) (hB : Below w0.heap.size w0 w) (h : spec_l15DrawProof.f k s0_0 s0_1 s0_2 = some (r1, r2, r3, r4, r5, r6)) :
  Calls Tryd.prog 49 #[.pointer (some ⟨g, 0, none⟩)] w fun e w' => ∃ v2_ v3_ : Value, e = .returned (.agg #[.int .i64 r1, .int .i64 r2, v2_, v3_]) ∧ Kd.Q (Kd.int .i64) 2 w' w.heap.size (fun k_ => some k_ ≠ (v3_ : Value).ownBlock) v2_ r3 ∧ Kd.R (Kd.int .i64) 2 w' w.heap.size (fun k_ => some k_ ≠ (v2_ : Value).ownBlock) v3_ r4 ∧ IsS96 w0 w' g s0_0 r5 r6 ∧ Below w0.heap.size w0 w' ∧ KeepBut w w' g none := by
 have hu26 := Tryd.underlying26
 have HI0 := Aside0.mk hI
 have HK := Aside0.mk (KeepBut.refl w g none)
 have HL := Aside0.mk hB.size
 clear hI
 have HW0 := Aside0.mk hB.size
 have HB := Aside0.mk hB
 clear hB
 have H : ((spec_l1Once.f s0_0 s0_1 s0_2 4).bind fun bt278 => (if bt278.1 = true then (some (0, 0, ([] : List Int), ([] : List Int), bt278.2.1, bt278.2.2)) else (spec_l15DrawProof.l0 k (([] : List (S43))) 0 s0_0 bt278.2.1 bt278.2.2))) = some (r1, r2, r3, r4, r5, r6) := h
 clear h
 replace H := Option.bind_eq_some_iff.mp H
 obtain ⟨⟨t278, t279, t280⟩, A20, H⟩ := H
 replace H : (if t278 = true then (some (0, 0, ([] : List Int), ([] : List Int), t279, t280)) else (spec_l15DrawProof.l0 k (([] : List (S43))) 0 s0_0 t279 t280)) = some (r1, r2, r3, r4, r5, r6) := H
 have A2 := Aside0.mk A20
 clear A20
 by_cases c3 : t278 = true
 ·subst c3
  have H1 : (some (0, 0, ([] : List Int), ([] : List Int), t279, t280)) = some (r1, r2, r3, r4, r5, r6) := by rw [if_pos rfl] at H; exact H
  clear H
  have H := H1
  clear H1
  simp only [Option.some.injEq, Prod.mk.injEq] at H
  obtain ⟨rfl, rfl, rfl, rfl, rfl, rfl⟩ := H
  go_enter Tryd.func49, Tryd.ntmps49
  go_wp2_with (first | ((with_reducible refine gate_dst (N := 2) rfl ?_); (try (refine gate_guard (by rfl) ?_; dsimp only)); refine box_event ?hg (N := 2) ?hd (cs := #[.int .i64 0, .int .i64 0, .slice none 0 0, .slice none 0 0]) (t := 26) ?hr ?_; (case hd => rfl); (case hg => rfl); (case hr => first | (go_simp; done) | (go_simp; rfl)); intro gb277 hg w4 hbox hb; have n0_ := Aside0.mk (IsS96.below d55 hb); have n1_ := Aside0.mk (KeepBut.trans d3 (KeepBut.of_below hb g none) (.inl rfl)); have n2_ := Aside0.mk (below_step d54 hb); have n3_ := Aside0.mk (hbox); have n4_ := Aside0.mk ((by rw [hg]; exact (keep_size (w := w) (g := g) (row := none) d3) : w.heap.size ≤ gb277)); have n5_ := Aside0.mk ((Nat.le_trans HW0.out (by rw [hg]; exact (keep_size (w := w) (g := g) (row := none) d3) : w.heap.size ≤ gb277) : w0.heap.size ≤ gb277)); have n6_ := Aside0.mk ((by rw [hg]; exact Nat.ne_of_lt (IsS96.lt (show IsS96 w0 _ g s0_0 s0_1 s0_2 from o3)) : g ≠ gb277)); have n7_ := Aside0.mk ((by rw [hg]; exact Nat.ne_of_gt (IsS96.lt (show IsS96 w0 _ g s0_0 s0_1 s0_2 from o3)) : gb277 ≠ g)); clear HI0; clear HK; clear HB; have HI0 := n0_; have HK := n1_; have HB := n2_; have BK277 := n3_; have GW277 := n4_; have GE277 := n5_; have NB0_277 := n6_; have NB277_0 := n7_; clear n0_ n1_ n2_ n3_ n4_ n5_ n6_ n7_; clear hb hbox hg) | ((with_reducible refine gate_callee (f := 76) rfl ?_); refine goesL_ (some 9) rfl rfl Tryd.func76 (by kernel_rfl) rfl #[.pointer (some ⟨g, 0, none⟩), .int .i64 4] rfl d0 ?_; (with_reducible refine (spec_l1Once.calls g s0_0 s0_1 s0_2 4 true t279 t280 w0 _ ?side1 ?side2 A2.out).mono ?_); (case side1 => exact o8); (case side2 => exact o23); rintro e w5 ⟨rfl, hi, hb, hk⟩; refine ⟨_, rfl, ?_⟩; have n0_ := Aside0.mk (KeepBut.blk hk (g' := gb277) (o := .cells #[.int .i64 0, .int .i64 0, .slice none 0 0, .slice none 0 0] 26 (0, 0)) d11 NB277_0.out (by simp)); have n1_ := Aside0.mk (KeepBut.trans d4 hk (.inl rfl)); have n2_ := Aside0.mk (hb); have n3_ := Aside0.mk (hi); clear BK277; clear HK; clear HB; clear HI0; have BK277 := n0_; have HK := n1_; have HB := n2_; have HI0 := n3_; clear n0_ n1_ n2_ n3_; (try clear hb); (try clear hb2); (try clear hk); (try clear hi); have hnb6 := NB277_0.out; have hnc6 := NB0_277.out; have hcz7_0 : w5.cell? ⟨gb277, 0, none⟩ = some (.int .i64 0) := (blk_cell BK277.out 0).trans rfl; have hcz7_1 : w5.cell? ⟨gb277, 1, none⟩ = some (.int .i64 0) := (blk_cell BK277.out 1).trans rfl; have hcz7_2 : w5.cell? ⟨gb277, 2, none⟩ = some (.slice none 0 0) := (blk_cell BK277.out 2).trans rfl; have hcz7_3 : w5.cell? ⟨gb277, 3, none⟩ = some (.slice none 0 0) := (blk_cell BK277.out 3).trans rfl; have hfz7_0 := blk_frozen BK277.out 0; have hfz7_1 := blk_frozen BK277.out 1; have hfz7_2 := blk_frozen BK277.out 2; have hfz7_3 := blk_frozen BK277.out 3))
  refine bodyPost_ret (results_cell_row rfl _ _ gb277 26 #[.int .i64 0, .int .i64 0, .slice none 0 0, .slice none 0 0] (0, 0) _ rfl (by (with_reducible repeat (first | refine blk_drewN ?_ _ | refine blk_drew ?_ | refine blk_alloc ?_ _)); refine blk_put (cs := #[.int .i64 0, .int .i64 0, .slice none 0 0, .slice none 0 0]) ?_ 3 _ rfl; (with_reducible repeat (first | refine blk_drewN ?_ _ | refine blk_drew ?_ | refine blk_alloc ?_ _)); refine blk_put (cs := #[.int .i64 0, .int .i64 0, .slice none 0 0, .slice none 0 0]) ?_ 2 _ rfl; (with_reducible repeat (first | refine blk_drewN ?_ _ | refine blk_drew ?_ | refine blk_alloc ?_ _)); refine blk_put (cs := #[.int .i64 0, .int .i64 0, .slice none 0 0, .slice none 0 0]) ?_ 1 _ rfl; (with_reducible repeat (first | refine blk_drewN ?_ _ | refine blk_drew ?_ | refine blk_alloc ?_ _)); refine blk_put (cs := #[.int .i64 0, .int .i64 0, .slice none 0 0, .slice none 0 0]) ?_ 0 _ rfl; (with_reducible repeat (first | refine blk_drewN ?_ _ | refine blk_drew ?_ | refine blk_alloc ?_ _)); exact BK277.out) Tryd.underlying26 rfl (by kernel_rfl)) rfl ?_
  exact ⟨_, _, o2, Kd.Q_of_R o17, o17, o8, o23, o61⟩
 ·replace c3 := Bool.eq_false_iff.mpr c3
  subst c3
  have H1 : (spec_l15DrawProof.l0 k (([] : List (S43))) 0 s0_0 t279 t280) = some (r1, r2, r3, r4, r5, r6) := by rw [if_neg (show ¬ (false = true) by decide)] at H; exact H
  clear H
  have H := H1
  clear H1
  obtain ⟨y281, hy281⟩ : ∃ y_ : List (S43), y_ = (([] : List (S43))) := ⟨_, rfl⟩
  replace H : (spec_l15DrawProof.l0 k y281 0 s0_0 t279 t280) = some (r1, r2, r3, r4, r5, r6) := by first | (rw [hy281]; with_reducible exact H) | (have H2_ := (Option.bind_some _ _).symm.trans H; rw [hy281]; with_reducible exact H2_) | (have H2_ := (Option.bind_some _ _).symm.trans H; with_reducible exact H2_) | with_reducible exact H | (rw [hy281]; exact H) | exact H
  have Ny281 := Aside0.mk hy281
  clear hy281
  have H' := Aside0.mk H
  clear H
  go_enter Tryd.func49, Tryd.ntmps49
  go_wp2_with (first | ((with_reducible refine gate_dst (N := 2) rfl ?_); (try (refine gate_guard (by rfl) ?_; dsimp only)); refine box_event ?hg (N := 2) ?hd (cs := #[.int .i64 0, .int .i64 0, .slice none 0 0, .slice none 0 0]) (t := 26) ?hr ?_; (case hd => rfl); (case hg => rfl); (case hr => first | (go_simp; done) | (go_simp; rfl)); intro gb277 hg w8 hbox hb; have n0_ := Aside0.mk (IsS96.below d55 hb); have n1_ := Aside0.mk (KeepBut.trans d3 (KeepBut.of_below hb g none) (.inl rfl)); have n2_ := Aside0.mk (below_step d54 hb); have n3_ := Aside0.mk (hbox); have n4_ := Aside0.mk ((by rw [hg]; exact (keep_size (w := w) (g := g) (row := none) d3) : w.heap.size ≤ gb277)); have n5_ := Aside0.mk ((Nat.le_trans HW0.out (by rw [hg]; exact (keep_size (w := w) (g := g) (row := none) d3) : w.heap.size ≤ gb277) : w0.heap.size ≤ gb277)); have n6_ := Aside0.mk ((by rw [hg]; exact Nat.ne_of_lt (IsS96.lt (show IsS96 w0 _ g s0_0 s0_1 s0_2 from o3)) : g ≠ gb277)); have n7_ := Aside0.mk ((by rw [hg]; exact Nat.ne_of_gt (IsS96.lt (show IsS96 w0 _ g s0_0 s0_1 s0_2 from o3)) : gb277 ≠ g)); clear HI0; clear HK; clear HB; have HI0 := n0_; have HK := n1_; have HB := n2_; have BK277 := n3_; have GW277 := n4_; have GE277 := n5_; have NB0_277 := n6_; have NB277_0 := n7_; clear n0_ n1_ n2_ n3_ n4_ n5_ n6_ n7_; clear hb hbox hg) | ((with_reducible refine gate_callee (f := 76) rfl ?_); refine goesL_ (some 9) rfl rfl Tryd.func76 (by kernel_rfl) rfl #[.pointer (some ⟨g, 0, none⟩), .int .i64 4] rfl d0 ?_; (with_reducible refine (spec_l1Once.calls g s0_0 s0_1 s0_2 4 false t279 t280 w0 _ ?side1 ?side2 A2.out).mono ?_); (case side1 => exact o8); (case side2 => exact o23); rintro e w9 ⟨rfl, hi, hb, hk⟩; refine ⟨_, rfl, ?_⟩; have n0_ := Aside0.mk (KeepBut.blk hk (g' := gb277) (o := .cells #[.int .i64 0, .int .i64 0, .slice none 0 0, .slice none 0 0] 26 (0, 0)) d11 NB277_0.out (by simp)); have n1_ := Aside0.mk (KeepBut.trans d4 hk (.inl rfl)); have n2_ := Aside0.mk (hb); have n3_ := Aside0.mk (hi); clear BK277; clear HK; clear HB; clear HI0; have BK277 := n0_; have HK := n1_; have HB := n2_; have HI0 := n3_; clear n0_ n1_ n2_ n3_; (try clear hb); (try clear hb2); (try clear hk); (try clear hi)) | ((with_reducible refine gate_dst (N := 11) rfl ?_); (try (refine gate_guard (by rfl) ?_; dsimp only)); refine Kd.R_lit k43 _ 43 ?hg (N := 11) ?hd (xs := ([] : List (S43))) (inner := []) (ok := fun _ => True) (okp := fun _ => True) ?hr ?hp (fun _ hk => hk) trivial (Below.refl _ _) (Nat.le_refl _) (by simp) ?_; (case hd => rfl); (case hg => rfl); (case hr => first | (go_simp; done) | (go_simp; rfl)); (case hp => exact (Reps.none _ _)); intro v282 w10 ho11 hb hg_ hnew_; clear hg_ hnew_; (first | rw [← Ny281.out] at ho11 | (simp only [Int.reduceToNat] at ho11; rw [← Ny281.out] at ho11)); have n0_ := Aside0.mk (Kd.R_lower ho11 (keep_size (w := w) (g := g) (row := none) d4)); have n1_ := Aside0.mk (IsS96.below d67 hb); have n2_ := Aside0.mk (blk_below (g := gb277) (o := .cells #[.int .i64 0, .int .i64 0, .slice none 0 0, .slice none 0 0] 26 (0, 0)) d11 hb); have n3_ := Aside0.mk (KeepBut.trans d4 (KeepBut.of_below hb g none) (.inl rfl)); have n4_ := Aside0.mk (below_step d38 hb); clear HI0; clear BK277; clear HK; clear HB; have HO283 := n0_; have HI0 := n1_; have BK277 := n2_; have HK := n3_; have HB := n4_; clear n0_ n1_ n2_ n3_ n4_; clear hb ho11))
  go_loopg [3, 4] k (fun kq v3 v4 w' => ∃ (x3_1 : List (S43)) (x4_1 : Int), v4 = .int .i64 x4_1 ∧ Aside0 (spec_l15DrawProof.l0 kq x3_1 x4_1 s0_0 t279 t280 = some (r1, r2, r3, r4, r5, r6)) ∧ Aside0 (kq ≤ k) ∧ Aside0 (Kd.R k43 43 w' w.heap.size (fun _ => True) v3 x3_1) ∧ Aside0 (w'.heap[gb277]? = some (.cells #[.int .i64 0, .int .i64 0, (.slice none 0 0), (.slice none 0 0)] 26 (0, 0))) ∧ Aside0 (IsS96 w0 w' g s0_0 t279 t280) ∧ Aside0 (KeepBut w w' g none) ∧ Aside0 (Below w0.heap.size w0 w'))
  case atStart => exact ⟨(y281), (0), d9, H', ⟨Nat.le_refl _⟩, ⟨(by (with_reducible repeat (first | apply Kd.R_alloc | apply Kd.R_drewN | apply Kd.R_drew)); exact HO283.out)⟩, ⟨o62⟩, ⟨o8⟩, ⟨o61⟩, ⟨o23⟩⟩
  case round =>
   clear H'
   try clear p2
   try clear c3
   try clear c4
   try clear c6
   try clear c7
   try clear hcz7_0
   try clear hcz7_1
   try clear hcz7_2
   try clear hcz7_3
   try clear hfz7_0
   try clear hfz7_1
   try clear hfz7_2
   try clear hfz7_3
   obtain ⟨x3_1, x4_1, rfl, HA, HK1, HO_3, BK277, HI0, HK, HB⟩ := hrel
   cases gk with
   | zero => exact absurd HA.out (by simp [spec_l15DrawProof.l0])
   | succ k1 =>
    have H := HA.out
    clear HA
    simp only [spec_l15DrawProof.l0] at H
    by_cases c12 : x4_1 < 4
    ·rw [if_pos c12] at H
     have c12b0 : decide (x4_1 < 4) = true := decide_eq_true c12
     clear c12
     replace H := Option.bind_eq_some_iff.mp H
     obtain ⟨⟨t284, t285, t286, t287⟩, A130, H⟩ := H
     replace H : (if x3_1.length < 4398046511104 then (spec_l15DrawProof.l0 k1 (x3_1 ++ [(⟨t284, t285, t286, t287⟩ : S43)]) (wrap64 (x4_1 + 1)) s0_0 t279 t280) else (none)) = some (r1, r2, r3, r4, r5, r6) := H
     have A13 := Aside0.mk A130
     clear A130
     by_cases c14 : x3_1.length < 4398046511104
     ·rw [if_pos c14] at H
      have LMc14 := Aside0.mk c14
      clear c14
      obtain ⟨y288, hy288⟩ : ∃ y_ : List (S43), y_ = (x3_1 ++ [(⟨t284, t285, t286, t287⟩ : S43)]) := ⟨_, rfl⟩
      replace H : (spec_l15DrawProof.l0 k1 y288 (wrap64 (x4_1 + 1)) s0_0 t279 t280) = some (r1, r2, r3, r4, r5, r6) := by first | (rw [hy288]; with_reducible exact H) | (have H2_ := (Option.bind_some _ _).symm.trans H; rw [hy288]; with_reducible exact H2_) | (have H2_ := (Option.bind_some _ _).symm.trans H; with_reducible exact H2_) | with_reducible exact H | (rw [hy288]; exact H) | exact H
      have Ny288 := Aside0.mk hy288
      clear hy288
      have H' := Aside0.mk H
      clear H
      go_wp2_with (first | ((with_reducible refine gate_callee (f := 65) rfl ?_); refine goesL_ (some 18) rfl rfl Tryd.func65 (by kernel_rfl) rfl #[.int .i64 x4_1, .int .i64 2, .int .i64 5] rfl d0 ?_; (with_reducible refine (spec_l15Voted.calls k1 x4_1 2 5 t284 t285 t286 t287 _ A13.out).mono ?_); rintro e w15 ⟨rfl, hb⟩; refine ⟨_, rfl, ?_⟩; have n0_ := Aside0.mk (Kd.R_below d35 hb); have n1_ := Aside0.mk (blk_below (g := gb277) (o := .cells #[.int .i64 0, .int .i64 0, .slice none 0 0, .slice none 0 0] 26 (0, 0)) d11 hb); have n2_ := Aside0.mk (IsS96.below d67 hb); have n3_ := Aside0.mk (KeepBut.trans d4 (KeepBut.of_below hb g none) (.inl rfl)); have n4_ := Aside0.mk (below_step d38 hb); clear HO_3; clear BK277; clear HI0; clear HK; clear HB; have HO_3 := n0_; have BK277 := n1_; have HI0 := n2_; have HK := n3_; have HB := n4_; clear n0_ n1_ n2_ n3_ n4_; (try clear hb); (try clear hb2); (try clear hk); (try clear hi)) | ((with_reducible refine gate_builtin (b := .append) (xs := #[.tmp 16, .tmp 19]) rfl ?_); (try (refine gate_guard (by rfl) ?_; dsimp only)); at_builtin; refine Kd.R_append k43 w.heap.size rfl (.tmp 16) (.tmp 19) 29 43 (.agg #[(.int .i64 0), (.int .i64 0), (.int .i64 0), (.int .i64 0)]) 32 rfl Tryd.underlying29 info43 rfl (by decide) (by omega) u3 x3_1 (⟨t284, t285, t286, t287⟩ : S43) [.int .i64 t284, .int .i64 t285, .int .i64 t286, .int .i64 t287] (fun _ => True) (fun _ => False) rfl rfl ?aP (fun _ hk => hk.elim) ?aF ?aO (Below.refl _ _) ?aS ?aL ?_; (case aP => exact k43_mkM _ _ _ (⟨t284, t285, t286, t287⟩ : S43)); (case aF => exact (fun _ _ => trivial)); (case aO => exact d35); (case aS => exact (keep_size (w := w) (g := g) (row := none) d4)); (case aL => have := LMc14.out; omega); intro v289 w16 ho hb hg hat; rw [← Ny288.out] at ho; have n0_ := Aside0.mk (blk_grown (g := gb277) (o := .cells #[.int .i64 0, .int .i64 0, .slice none 0 0, .slice none 0 0] 26 (0, 0)) d11 hg (Kd.R_ne HO_3.out BK277.out (by decide))); have n1_ := Aside0.mk (IsS96.grown (show IsS96 w0 _ g s0_0 t279 t280 from o8) hg (IsS96.own_ne HI0.out HO_3.out (by decide))); have n2_ := Aside0.mk (below_weaken d38 HL.out hb); have n3_ := Aside0.mk (KeepBut.trans d4 (KeepBut.of_grown hg g) (Kd.R_base2 HO_3.out)); have n4_ := Aside0.mk (ho); clear BK277; clear HI0; clear HB; clear HK; clear HO_3; have BK277 := n0_; have HI0 := n1_; have HB := n2_; have HK := n3_; have HO290 := n4_; clear n0_ n1_ n2_ n3_ n4_; clear ho hb hg hat))
      go_roundg k1
      case measure => have := HK1.out; omega
      case rel => exact ⟨(y288), (wrap64 (x4_1 + 1)), d9, H', ⟨(by have := HK1.out; omega)⟩, ⟨(by (with_reducible repeat (first | apply Kd.R_alloc | apply Kd.R_drewN | apply Kd.R_drew)); exact HO290.out)⟩, ⟨o62⟩, ⟨o8⟩, ⟨o61⟩, ⟨o23⟩⟩
     ·rw [if_neg c14] at H
      exact absurd H (by simp)
    ·rw [if_neg c12] at H
     have c12b0 : decide (x4_1 < 4) = false := decide_eq_false c12
     clear c12
     replace H := Option.bind_eq_some_iff.mp H
     obtain ⟨⟨t291, t292, t293⟩, A170, H⟩ := H
     replace H : ((some (([] : List (S43)) : List (S43))).bind fun y294 => (if 0 ≤ t291 then (if t291 ≤ (x3_1.length : Int) then ((some (x3_1.take (t291 : Int).toNat : List (S43))).bind fun y297 => (if y294.length + y297.length < 4398046511104 then ((some (y294 ++ y297 : List (S43))).bind fun y301 => ((spec_l1Below.f s0_0 t292 t293 2).bind fun bt304 => (if 0 ≤ (wrap64 (t291 + bt304.1)) then (if (wrap64 (t291 + bt304.1)) ≤ (x3_1.length : Int) then ((some (x3_1.drop ((wrap64 (t291 + bt304.1)) : Int).toNat : List (S43))).bind fun y307 => (if y301.length + y307.length < 4398046511104 then ((spec_Gathered.f k1 (y301 ++ y307) 4).bind fun bt314 => ((spec_l1Once.f s0_0 bt304.2.1 bt304.2.2 10).bind fun bt324 => (if bt324.1 = true then (spec_l15DrawProof.j1 k1 (decide ((bt314.2.2.1.length : Int) > 0)) s0_0 bt324.2.1 bt324.2.2 bt314.1 bt314.2.1 bt314.2.2.1 bt314.2.2.2.1) else (spec_l15DrawProof.j1 k1 false s0_0 bt324.2.1 bt324.2.2 bt314.1 bt314.2.1 bt314.2.2.1 bt314.2.2.2.1)))) else (none))) else (none)) else (none)))) else (none))) else (none)) else (none))) = some (r1, r2, r3, r4, r5, r6) := H
     have A17 := Aside0.mk A170
     clear A170
     obtain ⟨y294, hy294⟩ : ∃ y_ : List (S43), y_ = (([] : List (S43))) := ⟨_, rfl⟩
     replace H : (if 0 ≤ t291 then (if t291 ≤ (x3_1.length : Int) then ((some (x3_1.take (t291 : Int).toNat : List (S43))).bind fun y297 => (if y294.length + y297.length < 4398046511104 then ((some (y294 ++ y297 : List (S43))).bind fun y301 => ((spec_l1Below.f s0_0 t292 t293 2).bind fun bt304 => (if 0 ≤ (wrap64 (t291 + bt304.1)) then (if (wrap64 (t291 + bt304.1)) ≤ (x3_1.length : Int) then ((some (x3_1.drop ((wrap64 (t291 + bt304.1)) : Int).toNat : List (S43))).bind fun y307 => (if y301.length + y307.length < 4398046511104 then ((spec_Gathered.f k1 (y301 ++ y307) 4).bind fun bt314 => ((spec_l1Once.f s0_0 bt304.2.1 bt304.2.2 10).bind fun bt324 => (if bt324.1 = true then (spec_l15DrawProof.j1 k1 (decide ((bt314.2.2.1.length : Int) > 0)) s0_0 bt324.2.1 bt324.2.2 bt314.1 bt314.2.1 bt314.2.2.1 bt314.2.2.2.1) else (spec_l15DrawProof.j1 k1 false s0_0 bt324.2.1 bt324.2.2 bt314.1 bt314.2.1 bt314.2.2.1 bt314.2.2.2.1)))) else (none))) else (none)) else (none)))) else (none))) else (none)) else (none)) = some (r1, r2, r3, r4, r5, r6) := by first | (rw [hy294]; with_reducible exact H) | (have H2_ := (Option.bind_some _ _).symm.trans H; rw [hy294]; with_reducible exact H2_) | (have H2_ := (Option.bind_some _ _).symm.trans H; with_reducible exact H2_) | with_reducible exact H | (rw [hy294]; exact H) | exact H
     have Ny294 := Aside0.mk hy294
     clear hy294
     by_cases c18 : 0 ≤ t291
     ·rw [if_pos c18] at H
      have c18b0 := eq_true c18
      have c18b1 : decide (0 ≤ t291) = true := decide_eq_true c18
      clear c18
      by_cases c19 : t291 ≤ (x3_1.length : Int)
      ·rw [if_pos c19] at H
       have c19b0 := eq_true c19
       have c19b1 : decide (t291 ≤ (x3_1.length : Int)) = true := decide_eq_true c19
       clear c19
       obtain ⟨y297, hy297⟩ : ∃ y_ : List (S43), y_ = (x3_1.take (t291 : Int).toNat) := ⟨_, rfl⟩
       replace H : (if y294.length + y297.length < 4398046511104 then ((some (y294 ++ y297 : List (S43))).bind fun y301 => ((spec_l1Below.f s0_0 t292 t293 2).bind fun bt304 => (if 0 ≤ (wrap64 (t291 + bt304.1)) then (if (wrap64 (t291 + bt304.1)) ≤ (x3_1.length : Int) then ((some (x3_1.drop ((wrap64 (t291 + bt304.1)) : Int).toNat : List (S43))).bind fun y307 => (if y301.length + y307.length < 4398046511104 then ((spec_Gathered.f k1 (y301 ++ y307) 4).bind fun bt314 => ((spec_l1Once.f s0_0 bt304.2.1 bt304.2.2 10).bind fun bt324 => (if bt324.1 = true then (spec_l15DrawProof.j1 k1 (decide ((bt314.2.2.1.length : Int) > 0)) s0_0 bt324.2.1 bt324.2.2 bt314.1 bt314.2.1 bt314.2.2.1 bt314.2.2.2.1) else (spec_l15DrawProof.j1 k1 false s0_0 bt324.2.1 bt324.2.2 bt314.1 bt314.2.1 bt314.2.2.1 bt314.2.2.2.1)))) else (none))) else (none)) else (none)))) else (none)) = some (r1, r2, r3, r4, r5, r6) := by first | (rw [hy297]; with_reducible exact H) | (have H2_ := (Option.bind_some _ _).symm.trans H; rw [hy297]; with_reducible exact H2_) | (have H2_ := (Option.bind_some _ _).symm.trans H; with_reducible exact H2_) | with_reducible exact H | (rw [hy297]; exact H) | exact H
       have Ny297 := Aside0.mk hy297
       clear hy297
       by_cases c20 : y294.length + y297.length < 4398046511104
       ·rw [if_pos c20] at H
        have LMc20 := Aside0.mk c20
        clear c20
        obtain ⟨y301, hy301⟩ : ∃ y_ : List (S43), y_ = (y294 ++ y297) := ⟨_, rfl⟩
        replace H : ((spec_l1Below.f s0_0 t292 t293 2).bind fun bt304 => (if 0 ≤ (wrap64 (t291 + bt304.1)) then (if (wrap64 (t291 + bt304.1)) ≤ (x3_1.length : Int) then ((some (x3_1.drop ((wrap64 (t291 + bt304.1)) : Int).toNat : List (S43))).bind fun y307 => (if y301.length + y307.length < 4398046511104 then ((spec_Gathered.f k1 (y301 ++ y307) 4).bind fun bt314 => ((spec_l1Once.f s0_0 bt304.2.1 bt304.2.2 10).bind fun bt324 => (if bt324.1 = true then (spec_l15DrawProof.j1 k1 (decide ((bt314.2.2.1.length : Int) > 0)) s0_0 bt324.2.1 bt324.2.2 bt314.1 bt314.2.1 bt314.2.2.1 bt314.2.2.2.1) else (spec_l15DrawProof.j1 k1 false s0_0 bt324.2.1 bt324.2.2 bt314.1 bt314.2.1 bt314.2.2.1 bt314.2.2.2.1)))) else (none))) else (none)) else (none))) = some (r1, r2, r3, r4, r5, r6) := by first | (rw [hy301]; with_reducible exact H) | (have H2_ := (Option.bind_some _ _).symm.trans H; rw [hy301]; with_reducible exact H2_) | (have H2_ := (Option.bind_some _ _).symm.trans H; with_reducible exact H2_) | with_reducible exact H | (rw [hy301]; exact H) | exact H
        have Ny301 := Aside0.mk hy301
        clear hy301
        replace H := Option.bind_eq_some_iff.mp H
        obtain ⟨⟨t304, t305, t306⟩, A210, H⟩ := H
        replace H : (if 0 ≤ (wrap64 (t291 + t304)) then (if (wrap64 (t291 + t304)) ≤ (x3_1.length : Int) then ((some (x3_1.drop ((wrap64 (t291 + t304)) : Int).toNat : List (S43))).bind fun y307 => (if y301.length + y307.length < 4398046511104 then ((spec_Gathered.f k1 (y301 ++ y307) 4).bind fun bt314 => ((spec_l1Once.f s0_0 t305 t306 10).bind fun bt324 => (if bt324.1 = true then (spec_l15DrawProof.j1 k1 (decide ((bt314.2.2.1.length : Int) > 0)) s0_0 bt324.2.1 bt324.2.2 bt314.1 bt314.2.1 bt314.2.2.1 bt314.2.2.2.1) else (spec_l15DrawProof.j1 k1 false s0_0 bt324.2.1 bt324.2.2 bt314.1 bt314.2.1 bt314.2.2.1 bt314.2.2.2.1)))) else (none))) else (none)) else (none)) = some (r1, r2, r3, r4, r5, r6) := H
        have A21 := Aside0.mk A210
        clear A210
        obtain ⟨ji22, hji22⟩ : ∃ j_ : Int, (wrap64 (t291 + t304)) = j_ := ⟨_, rfl⟩
        replace H : (if 0 ≤ (ji22) then (if (ji22) ≤ (x3_1.length : Int) then ((some (x3_1.drop ((ji22) : Int).toNat : List (S43))).bind fun y307 => (if y301.length + y307.length < 4398046511104 then ((spec_Gathered.f k1 (y301 ++ y307) 4).bind fun bt314 => ((spec_l1Once.f s0_0 t305 t306 10).bind fun bt324 => (if bt324.1 = true then (spec_l15DrawProof.j1 k1 (decide ((bt314.2.2.1.length : Int) > 0)) s0_0 bt324.2.1 bt324.2.2 bt314.1 bt314.2.1 bt314.2.2.1 bt314.2.2.2.1) else (spec_l15DrawProof.j1 k1 false s0_0 bt324.2.1 bt324.2.2 bt314.1 bt314.2.1 bt314.2.2.1 bt314.2.2.2.1)))) else (none))) else (none)) else (none)) = some (r1, r2, r3, r4, r5, r6) := by first | (rw [hji22] at H; exact H) | (simp only [hji22] at H ⊢; exact H)
        (try rw [hji22] at A17)
        (try rw [hji22] at A21)
        have hji22w : (IntKind.i64.wrap (t291 + t304)) = ji22 := (i64_w _).trans hji22
        by_cases c23 : 0 ≤ (ji22)
        ·rw [if_pos c23] at H
         have c23b0 := eq_true c23
         have c23b1 : decide (0 ≤ (ji22)) = true := decide_eq_true c23
         clear c23
         by_cases c24 : (ji22) ≤ (x3_1.length : Int)
         ·rw [if_pos c24] at H
          have c24b0 := eq_true c24
          have c24b1 : decide ((ji22) ≤ (x3_1.length : Int)) = true := decide_eq_true c24
          clear c24
          obtain ⟨y307, hy307⟩ : ∃ y_ : List (S43), y_ = (x3_1.drop ((ji22) : Int).toNat) := ⟨_, rfl⟩
          replace H : (if y301.length + y307.length < 4398046511104 then ((spec_Gathered.f k1 (y301 ++ y307) 4).bind fun bt314 => ((spec_l1Once.f s0_0 t305 t306 10).bind fun bt324 => (if bt324.1 = true then (spec_l15DrawProof.j1 k1 (decide ((bt314.2.2.1.length : Int) > 0)) s0_0 bt324.2.1 bt324.2.2 bt314.1 bt314.2.1 bt314.2.2.1 bt314.2.2.2.1) else (spec_l15DrawProof.j1 k1 false s0_0 bt324.2.1 bt324.2.2 bt314.1 bt314.2.1 bt314.2.2.1 bt314.2.2.2.1)))) else (none)) = some (r1, r2, r3, r4, r5, r6) := by first | (rw [hy307]; with_reducible exact H) | (have H2_ := (Option.bind_some _ _).symm.trans H; rw [hy307]; with_reducible exact H2_) | (have H2_ := (Option.bind_some _ _).symm.trans H; with_reducible exact H2_) | with_reducible exact H | (rw [hy307]; exact H) | exact H
          have Ny307 := Aside0.mk hy307
          clear hy307
          by_cases c25 : y301.length + y307.length < 4398046511104
          ·rw [if_pos c25] at H
           have LMc25 := Aside0.mk c25
           clear c25
           obtain ⟨y311, hy311⟩ : ∃ y_ : List (S43), y_ = (y301 ++ y307) := ⟨_, rfl⟩
           replace H : ((spec_Gathered.f k1 y311 4).bind fun bt314 => ((spec_l1Once.f s0_0 t305 t306 10).bind fun bt324 => (if bt324.1 = true then (spec_l15DrawProof.j1 k1 (decide ((bt314.2.2.1.length : Int) > 0)) s0_0 bt324.2.1 bt324.2.2 bt314.1 bt314.2.1 bt314.2.2.1 bt314.2.2.2.1) else (spec_l15DrawProof.j1 k1 false s0_0 bt324.2.1 bt324.2.2 bt314.1 bt314.2.1 bt314.2.2.1 bt314.2.2.2.1)))) = some (r1, r2, r3, r4, r5, r6) := by first | (rw [hy311]; with_reducible exact H) | (have H2_ := (Option.bind_some _ _).symm.trans H; rw [hy311]; with_reducible exact H2_) | (have H2_ := (Option.bind_some _ _).symm.trans H; with_reducible exact H2_) | with_reducible exact H | (rw [hy311]; exact H) | exact H
           have Ny311 := Aside0.mk hy311
           clear hy311
           replace H := Option.bind_eq_some_iff.mp H
           obtain ⟨⟨t314, t315, t316, t319, t322⟩, A260, H⟩ := H
           replace H : ((spec_l1Once.f s0_0 t305 t306 10).bind fun bt324 => (if bt324.1 = true then (spec_l15DrawProof.j1 k1 (decide ((t316.length : Int) > 0)) s0_0 bt324.2.1 bt324.2.2 t314 t315 t316 t319) else (spec_l15DrawProof.j1 k1 false s0_0 bt324.2.1 bt324.2.2 t314 t315 t316 t319))) = some (r1, r2, r3, r4, r5, r6) := H
           have A26 := Aside0.mk A260
           clear A260
           have HC27 := Aside0.mk H
           clear H
           go_upto_region 10 with (first | ((with_reducible refine gate_callee (f := 52) rfl ?_); refine goesL_ (some 22) rfl rfl Tryd.func52 (by kernel_rfl) rfl #[.pointer (some ⟨g, 0, none⟩), .int .i64 4] rfl d0 ?_; (with_reducible refine (spec_l1Below.calls g s0_0 t279 t280 4 t291 t292 t293 w0 _ ?side1 ?side2 A17.out).mono ?_); (case side1 => exact o8); (case side2 => exact o23); rintro e w28 ⟨rfl, hi, hb, hk⟩; refine ⟨_, rfl, ?_⟩; have n0_ := Aside0.mk (Kd.R_mono (Kd.R_keep (IsS96.apart (show IsS96 w0 _ g s0_0 t279 t280 from o8) d35 (by decide)) hk (fun _ h => h.2)) (fun _ h => h.1)); have n1_ := Aside0.mk (KeepBut.blk hk (g' := gb277) (o := .cells #[.int .i64 0, .int .i64 0, .slice none 0 0, .slice none 0 0] 26 (0, 0)) d11 NB277_0.out (by simp)); have n2_ := Aside0.mk (KeepBut.trans d4 hk (.inl rfl)); have n3_ := Aside0.mk (hb); have n4_ := Aside0.mk (hi); clear HO_3; clear BK277; clear HK; clear HB; clear HI0; have HO_3 := n0_; have BK277 := n1_; have HK := n2_; have HB := n3_; have HI0 := n4_; clear n0_ n1_ n2_ n3_ n4_; (try clear hb); (try clear hb2); (try clear hk); (try clear hi)) | ((with_reducible refine gate_dst (N := 24) rfl ?_); (try (refine gate_guard (by rfl) ?_; dsimp only)); refine Kd.R_lit k43 _ 43 ?hg (N := 24) ?hd (xs := ([] : List (S43))) (inner := []) (ok := fun _ => True) (okp := fun _ => True) ?hr ?hp (fun _ hk => hk) trivial (Below.refl _ _) (Nat.le_refl _) (by simp) ?_; (case hd => rfl); (case hg => rfl); (case hr => first | (go_simp; done) | (go_simp; rfl)); (case hp => exact (Reps.none _ _)); intro v295 w29 ho30 hb hg_ hnew_; clear hg_ hnew_; (first | rw [← Ny294.out] at ho30 | (simp only [Int.reduceToNat] at ho30; rw [← Ny294.out] at ho30)); have n0_ := Aside0.mk (Kd.R_elder' d35 (Kd.R_base ho30) hb); have n1_ := Aside0.mk (Kd.R_lower (Kd.R_new' ho30 (Kd.R_lt d35)) (keep_size (w := w) (g := g) (row := none) d4)); have n2_ := Aside0.mk (blk_below (g := gb277) (o := .cells #[.int .i64 0, .int .i64 0, .slice none 0 0, .slice none 0 0] 26 (0, 0)) d11 hb); have n3_ := Aside0.mk (IsS96.below d67 hb); have n4_ := Aside0.mk (KeepBut.trans d4 (KeepBut.of_below hb g none) (.inl rfl)); have n5_ := Aside0.mk (below_step d38 hb); clear HO_3; clear BK277; clear HI0; clear HK; clear HB; have HO_3 := n0_; have HO296 := n1_; have BK277 := n2_; have HI0 := n3_; have HK := n4_; have HB := n5_; clear n0_ n1_ n2_ n3_ n4_ n5_; clear hb ho30; obtain ⟨Ao32, co32, eo32⟩ := Kd.R_slice HO_3.out; subst eo32; have q31 : (t291 : Int) ≤ ((x3_1.length : Int) : Int) := od_; obtain ⟨i031, hi031, _, hsz31, _⟩ := info_parts info43; have hroom31 : x3_1.length ≤ co32 := (Kd.R_reads' HO_3.out).2.1; have hC31 : Kd.C k43 _ Ao32 x3_1.length x3_1 := (Kd.R_reads' HO_3.out).2.2; have hcut31 := cut_to (P := Tryd.prog) 29 43 .i64 Tryd.underlying29 hi031 Ao32 x3_1.length co32 t291 (od_) q31 hroom31; have hr31 := Kd.C_take (m := (t291 : Int).toNat) hC31 (by omega); have hy31 : y297.length = (t291 : Int).toNat := (by rw [Ny297.out, List.length_take]; omega); rw [← Ny297.out] at hr31; rw [← hy31] at hcut31; have HR300 := Aside0.mk hr31; have HC300 := Aside0.mk (show y297.length ≤ co32 from (by omega)); clear hr31 hC31 hroom31 hi031 hsz31; have KY31 := Aside0.mk hy31; clear hy31; have KL31 := Aside0.mk (show (t291 : Int).toNat ≤ x3_1.length from (by omega)); replace q31 := eq_true q31) | ((with_reducible refine gate_builtin (b := .append) (xs := #[.tmp 24, .tmp 27]) rfl ?_); (try (refine gate_guard (by rfl) ?_; dsimp only)); at_builtin; refine Kd.R_append_rows k43 w.heap.size rfl (.tmp 24) (.tmp 27) 29 43 (.agg #[(.int .i64 0), (.int .i64 0), (.int .i64 0), (.int .i64 0)]) 32 rfl Tryd.underlying29 info43 rfl (by decide) (by omega) v295 y294 y297 _ _ _ (fun k_ => some k_ ≠ (.slice Ao32 x3_1.length co32 : Value).ownBlock) (fun _ => False) rfl rfl ?aO ?aR (fun _ _ h => h) (fun _ h => h.elim) ?aF (Below.refl _ _) ?aS ?aL ?_; (case aR => repeat (first | exact (by repeat (first | (with_reducible exact HR300.out) | (with_reducible refine Kd.C_alloc ?_ _) | (with_reducible refine Kd.C_drewN ?_ _) | (with_reducible refine Kd.C_drew ?_) | exact HR300.out)) | (with_reducible refine Kd.C_alloc ?_ _) | (with_reducible refine Kd.C_drewN ?_ _) | (with_reducible refine Kd.C_drew ?_))); (case aF => exact (fun k_ hk => Kd.fresh' (Kd.R_lt d35) k_ hk)); (case aO => exact (by (with_reducible repeat (first | apply Kd.R_alloc | apply Kd.R_drewN | apply Kd.R_drew)); exact Kd.R_mono HO296.out (fun _ hk => hk.2))); (case aS => exact (keep_size (w := w) (g := g) (row := none) d4)); (case aL => have := LMc20.out; omega); intro v302 w33 ho hb hg hat; rw [← Ny301.out] at ho; have n0_ := Aside0.mk (Kd.R_after (ok := (fun _ => True)) d35 hg hat); have n1_ := Aside0.mk (blk_grown (g := gb277) (o := .cells #[.int .i64 0, .int .i64 0, .slice none 0 0, .slice none 0 0] 26 (0, 0)) d11 hg (Kd.R_ne HO296.out BK277.out (by decide))); have n2_ := Aside0.mk (IsS96.grown (show IsS96 w0 _ g s0_0 t292 t293 from o8) hg (IsS96.own_ne HI0.out HO296.out (by decide))); have n3_ := Aside0.mk (below_weaken d38 HL.out hb); have n4_ := Aside0.mk (KeepBut.trans d4 (KeepBut.of_grown hg g) (Kd.R_base2 HO296.out)); have n5_ := Aside0.mk ((show Kd.C k43 w33 Ao32 y297.length y297 from (by rw [Ny297.out]; exact Kd.C_take (m := (t291 : Int).toNat) ((Kd.R_reads' (Kd.R_after (ok := (fun _ => True)) d35 hg hat)).2.2) KL31.out))); have n6_ := Aside0.mk (ho); clear HO_3; clear BK277; clear HI0; clear HB; clear HK; clear HR300; clear HO296; have HO_3 := n0_; have BK277 := n1_; have HI0 := n2_; have HB := n3_; have HK := n4_; have HR300 := n5_; have HO303 := n6_; clear n0_ n1_ n2_ n3_ n4_ n5_ n6_; clear ho hb hg hat) | ((with_reducible refine gate_callee (f := 52) rfl ?_); refine goesL_ (some 32) rfl rfl Tryd.func52 (by kernel_rfl) rfl #[.pointer (some ⟨g, 0, none⟩), .int .i64 2] rfl d0 ?_; (with_reducible refine (spec_l1Below.calls g s0_0 t292 t293 2 t304 t305 t306 w0 _ ?side1 ?side2 A21.out).mono ?_); (case side1 => exact o8); (case side2 => exact o23); rintro e w34 ⟨rfl, hi, hb, hk⟩; refine ⟨_, rfl, ?_⟩; have n0_ := Aside0.mk (Kd.R_mono (Kd.R_keep (IsS96.apart (show IsS96 w0 _ g s0_0 t292 t293 from o8) d35 (by decide)) hk (fun _ h => h.2)) (fun _ h => h.1)); have n1_ := Aside0.mk (KeepBut.blk hk (g' := gb277) (o := .cells #[.int .i64 0, .int .i64 0, .slice none 0 0, .slice none 0 0] 26 (0, 0)) d11 NB277_0.out (by simp)); have n2_ := Aside0.mk (Kd.R_mono (Kd.R_keep (IsS96.apart (show IsS96 w0 _ g s0_0 t292 t293 from o8) (by (with_reducible repeat (first | apply Kd.R_alloc | apply Kd.R_drewN | apply Kd.R_drew)); exact HO303.out) (by decide)) hk (fun _ h => h.2)) (fun _ h => h.1)); have n3_ := Aside0.mk (KeepBut.trans d4 hk (.inl rfl)); have n4_ := Aside0.mk (hb); have n5_ := Aside0.mk (hi); clear HO_3; clear BK277; clear HO303; clear HK; clear HB; clear HI0; have HO_3 := n0_; have BK277 := n1_; have HO303 := n2_; have HK := n3_; have HB := n4_; have HI0 := n5_; clear n0_ n1_ n2_ n3_ n4_ n5_; (try clear hb); (try clear hb2); (try clear hk); (try clear hi); have q35 : ((ji22) : Int) ≤ ((x3_1.length : Int) : Int) := od_; obtain ⟨i035, hi035, _, hsz35, _⟩ := info_parts info43; have hroom35 : x3_1.length ≤ co32 := (Kd.R_reads' HO_3.out).2.1; have hC35 : Kd.C k43 _ Ao32 x3_1.length x3_1 := (Kd.R_reads' HO_3.out).2.2; have q035 : (0 : Int) ≤ ((ji22) : Int) := od_; have hcut35 := cut_from (P := Tryd.prog) 29 43 .i64 Tryd.underlying29 hi035 4 hsz35 Ao32 x3_1.length co32 (ji22) q035 q35; have hr35 := Kd.C_drop (m := ((ji22) : Int).toNat) (c := co32) hC35 (by omega) hroom35; obtain ⟨A35, hA35⟩ : ∃ A1, A1 = (if co32 = ((ji22) : Int).toNat then Ao32 else (Ao32 : Option Addr).map (·.add (((ji22) : Int).toNat * 4))) := ⟨_, rfl⟩; obtain ⟨c35, hc35⟩ : ∃ c1, c1 = co32 - ((ji22) : Int).toNat := ⟨_, rfl⟩; have hy35 : y307.length = x3_1.length - ((ji22) : Int).toNat := (by rw [Ny307.out, List.length_drop] <;> omega); rw [show (x3_1).drop ((ji22) : Int).toNat = y307 from Ny307.out.symm] at hr35; replace hr35 : Kd.C k43 _ A35 y307.length y307 := (by rw [hA35]; exact hr35); rw [← hy35, ← hA35, ← hc35] at hcut35; have HR310 := Aside0.mk hr35; have HC310 := Aside0.mk (show y307.length ≤ c35 from (by rw [hy35, hc35]; exact Nat.sub_le_sub_right hroom35 _)); clear hr35 hC35 hroom35 hi035 hsz35 hc35; have KY35 := Aside0.mk hy35; have KA35 := Aside0.mk hA35; clear hy35 hA35; have KL35 := Aside0.mk (show ((ji22) : Int).toNat ≤ x3_1.length from (by omega)); replace q35 := eq_true q35) | ((with_reducible refine gate_builtin (b := .append) (xs := #[.tmp 28, .tmp 34]) rfl ?_); (try (refine gate_guard (by rfl) ?_; dsimp only)); at_builtin; refine Kd.R_append_rows k43 w.heap.size rfl (.tmp 28) (.tmp 34) 29 43 (.agg #[(.int .i64 0), (.int .i64 0), (.int .i64 0), (.int .i64 0)]) 32 rfl Tryd.underlying29 info43 rfl (by decide) (by omega) v302 y301 y307 _ _ _ (fun k_ => some k_ ≠ (.slice Ao32 x3_1.length co32 : Value).ownBlock) (fun _ => False) rfl rfl ?aO ?aR (fun _ _ h => h) (fun _ h => h.elim) ?aF (Below.refl _ _) ?aS ?aL ?_; (case aR => repeat (first | exact (by repeat (first | (with_reducible exact HR310.out) | (with_reducible refine Kd.C_alloc ?_ _) | (with_reducible refine Kd.C_drewN ?_ _) | (with_reducible refine Kd.C_drew ?_) | exact HR310.out)) | (with_reducible refine Kd.C_alloc ?_ _) | (with_reducible refine Kd.C_drewN ?_ _) | (with_reducible refine Kd.C_drew ?_))); (case aF => exact (fun k_ hk => Kd.fresh' (Kd.R_lt d35) k_ hk)); (case aO => exact (by (with_reducible repeat (first | apply Kd.R_alloc | apply Kd.R_drewN | apply Kd.R_drew)); exact HO303.out)); (case aS => exact (keep_size (w := w) (g := g) (row := none) d4)); (case aL => have := LMc25.out; omega); intro v312 w36 ho hb hg hat; rw [← Ny311.out] at ho; have n0_ := Aside0.mk (Kd.R_after (ok := (fun _ => True)) d35 hg hat); have n1_ := Aside0.mk (blk_grown (g := gb277) (o := .cells #[.int .i64 0, .int .i64 0, .slice none 0 0, .slice none 0 0] 26 (0, 0)) d11 hg (Kd.R_ne HO303.out BK277.out (by decide))); have n2_ := Aside0.mk (IsS96.grown (show IsS96 w0 _ g s0_0 t305 t306 from o8) hg (IsS96.own_ne HI0.out HO303.out (by decide))); have n3_ := Aside0.mk (below_weaken d38 HL.out hb); have n4_ := Aside0.mk (KeepBut.trans d4 (KeepBut.of_grown hg g) (Kd.R_base2 HO303.out)); have n5_ := Aside0.mk ((show Kd.C k43 w36 A35 y307.length y307 from (by rw [Ny307.out, KA35.out]; exact Kd.C_drop (m := ((ji22) : Int).toNat) (c := co32) ((Kd.R_reads' (Kd.R_after (ok := (fun _ => True)) d35 hg hat)).2.2) KL35.out ((Kd.R_reads' (Kd.R_after (ok := (fun _ => True)) d35 hg hat)).2.1)))); have n6_ := Aside0.mk (ho); clear HO_3; clear BK277; clear HI0; clear HB; clear HK; clear HR310; clear HO303; have HO_3 := n0_; have BK277 := n1_; have HI0 := n2_; have HB := n3_; have HK := n4_; have HR310 := n5_; have HO313 := n6_; clear n0_ n1_ n2_ n3_ n4_ n5_ n6_; clear ho hb hg hat; obtain ⟨Ao37, co37, eo37⟩ := Kd.R_slice HO313.out; subst eo37) | ((with_reducible refine gate_callee (f := 8) rfl ?_); refine goesL_ (some 36) rfl rfl Tryd.func8 (by kernel_rfl) rfl #[.slice Ao37 y311.length co37, .int .i64 4] rfl d0 ?_; (with_reducible refine (spec_Gathered.calls k1 _ _ y311 4 t314 t315 t316 t319 t322 _ ?side1 ?side2 A26.out).mono ?_); (case side1 => exact (by repeat (first | exact (Kd.R_reads' HO313.out).2.2 | (with_reducible refine Kd.C_alloc ?_ _) | (with_reducible refine Kd.C_drewN ?_ _) | (with_reducible refine Kd.C_drew ?_)))); (case side2 => exact (Kd.R_reads' HO313.out).2.1); rintro e w38 ⟨v317, v320, rfl, ho0, ho1, hb⟩; refine ⟨_, rfl, ?_⟩; have n0_ := Aside0.mk (Kd.R_below (by (with_reducible repeat (first | apply Kd.R_alloc | apply Kd.R_drewN | apply Kd.R_drew)); exact HO313.out) hb); have n1_ := Aside0.mk (Kd.R_lower ho0 (keep_size (w := w) (g := g) (row := none) d4)); have n2_ := Aside0.mk (Kd.R_lower ho1 (keep_size (w := w) (g := g) (row := none) d4)); have n3_ := Aside0.mk (blk_below (g := gb277) (o := .cells #[.int .i64 0, .int .i64 0, .slice none 0 0, .slice none 0 0] 26 (0, 0)) d11 hb); have n4_ := Aside0.mk (IsS96.below d67 hb); have n5_ := Aside0.mk (KeepBut.trans d4 (KeepBut.of_below hb g none) (.inl rfl)); have n6_ := Aside0.mk (below_step d38 hb); clear HO313; clear BK277; clear HI0; clear HK; clear HB; have HO313 := n0_; have HO318 := n1_; have HO321 := n2_; have BK277 := n3_; have HI0 := n4_; have HK := n5_; have HB := n6_; clear n0_ n1_ n2_ n3_ n4_ n5_ n6_; (try clear hb); (try clear hb2); (try clear hk); (try clear hi); (try clear ho0); (try clear ho1)) | ((with_reducible refine gate_dst (N := 6) rfl ?_); (try (refine gate_guard (by rfl) ?_; dsimp only)); refine box_event ?hg (N := 6) ?hd (cs := #[.int .i64 0, .int .i64 0, .slice none 0 0, .slice none 0 0]) (t := 26) ?hr ?_; (case hd => rfl); (case hg => rfl); (case hr => first | (go_simp; done) | (go_simp; rfl)); intro gb323 hg w39 hbox hb; have n0_ := Aside0.mk (Kd.R_below d103 hb); have n1_ := Aside0.mk (Kd.R_below o89 hb); have n2_ := Aside0.mk (blk_below (g := gb277) (o := .cells #[.int .i64 0, .int .i64 0, .slice none 0 0, .slice none 0 0] 26 (0, 0)) d11 hb); have n3_ := Aside0.mk (IsS96.below d67 hb); have n4_ := Aside0.mk (KeepBut.trans d4 (KeepBut.of_below hb g none) (.inl rfl)); have n5_ := Aside0.mk (below_step d38 hb); have n6_ := Aside0.mk (hbox); have n7_ := Aside0.mk ((by rw [hg]; exact (keep_size (w := w) (g := g) (row := none) d4) : w.heap.size ≤ gb323)); have n8_ := Aside0.mk ((Nat.le_trans HW0.out (by rw [hg]; exact (keep_size (w := w) (g := g) (row := none) d4) : w.heap.size ≤ gb323) : w0.heap.size ≤ gb323)); have n9_ := Aside0.mk ((by rw [hg]; exact Nat.ne_of_lt (blk_lt (g := gb277) (o := .cells #[.int .i64 0, .int .i64 0, .slice none 0 0, .slice none 0 0] 26 (0, 0)) d11) : gb277 ≠ gb323)); have n10_ := Aside0.mk ((by rw [hg]; exact Nat.ne_of_gt (blk_lt (g := gb277) (o := .cells #[.int .i64 0, .int .i64 0, .slice none 0 0, .slice none 0 0] 26 (0, 0)) d11) : gb323 ≠ gb277)); have n11_ := Aside0.mk ((by rw [hg]; exact Nat.ne_of_lt (IsS96.lt (show IsS96 w0 _ g s0_0 t305 t306 from o8)) : g ≠ gb323)); have n12_ := Aside0.mk ((by rw [hg]; exact Nat.ne_of_gt (IsS96.lt (show IsS96 w0 _ g s0_0 t305 t306 from o8)) : gb323 ≠ g)); clear HO318; clear HO321; clear BK277; clear HI0; clear HK; clear HB; have HO318 := n0_; have HO321 := n1_; have BK277 := n2_; have HI0 := n3_; have HK := n4_; have HB := n5_; have BK323 := n6_; have GW323 := n7_; have GE323 := n8_; have NB277_323 := n9_; have NB323_277 := n10_; have NB0_323 := n11_; have NB323_0 := n12_; clear n0_ n1_ n2_ n3_ n4_ n5_ n6_ n7_ n8_ n9_ n10_ n11_ n12_; clear hb hbox hg; have hnb40 := NB323_277.out; have hnc40 := NB277_323.out; have hnb41 := NB323_0.out; have hnc41 := NB0_323.out; have hcz42_0 : w39.cell? ⟨gb323, 0, none⟩ = some (.int .i64 0) := (blk_cell BK323.out 0).trans rfl; have hcz42_1 : w39.cell? ⟨gb323, 1, none⟩ = some (.int .i64 0) := (blk_cell BK323.out 1).trans rfl; have hcz42_2 : w39.cell? ⟨gb323, 2, none⟩ = some (.slice none 0 0) := (blk_cell BK323.out 2).trans rfl; have hcz42_3 : w39.cell? ⟨gb323, 3, none⟩ = some (.slice none 0 0) := (blk_cell BK323.out 3).trans rfl; have hfz42_0 := blk_frozen BK323.out 0; have hfz42_1 := blk_frozen BK323.out 1; have hfz42_2 := blk_frozen BK323.out 2; have hfz42_3 := blk_frozen BK323.out 3; obtain ⟨Ao43, co43, eo43⟩ := Kd.R_slice HO318.out; subst eo43; obtain ⟨Ao44, co44, eo44⟩ := Kd.R_slice HO321.out; subst eo44))
           (try simp only [Act.put, List.setIfInBounds_toArray, List.set_cons_zero, List.set_cons_succ])
           go_cut [46] (fun v46 wc => ∃ (kq : Nat) (x46_26 : Bool) (x1001_26 : Int) (x1002_26 : Int), v46 = .bool x46_26 ∧ Aside0 (spec_l15DrawProof.j1 kq x46_26 s0_0 x1001_26 x1002_26 t314 t315 t316 t319 = some (r1, r2, r3, r4, r5, r6)) ∧ Aside0 (kq ≤ k1) ∧ Aside0 (Kd.Q (Kd.int .i64) 2 wc w.heap.size (fun k_ => some k_ ≠ ((.slice Ao44 t319.length co44) : Value).ownBlock) (.slice Ao43 t316.length co43) t316) ∧ Aside0 (Kd.R (Kd.int .i64) 2 wc w.heap.size (fun k_ => some k_ ≠ ((.slice Ao43 t316.length co43) : Value).ownBlock) (.slice Ao44 t319.length co44) t319) ∧ Aside0 (wc.heap[gb277]? = some (.cells #[.int .i64 0, .int .i64 0, (.slice none 0 0), (.slice none 0 0)] 26 (0, 0))) ∧ Aside0 (wc.heap[gb323]? = some (.cells #[.int .i64 t314, .int .i64 t315, (.slice Ao43 t316.length co43), (.slice Ao44 t319.length co44)] 26 (0, 0))) ∧ Aside0 (IsS96 w0 wc g s0_0 x1001_26 x1002_26) ∧ Aside0 (KeepBut w wc g none) ∧ Aside0 (Below w0.heap.size w0 wc))
           case first =>
            have H := HC27.out
            clear HC27
            replace H := Option.bind_eq_some_iff.mp H
            obtain ⟨⟨t324, t325, t326⟩, A450, H⟩ := H
            replace H : (if t324 = true then (spec_l15DrawProof.j1 k1 (decide ((t316.length : Int) > 0)) s0_0 t325 t326 t314 t315 t316 t319) else (spec_l15DrawProof.j1 k1 false s0_0 t325 t326 t314 t315 t316 t319)) = some (r1, r2, r3, r4, r5, r6) := H
            have A45 := Aside0.mk A450
            clear A450
            by_cases c46 : t324 = true
            ·subst c46
             have H1 : (spec_l15DrawProof.j1 k1 (decide ((t316.length : Int) > 0)) s0_0 t325 t326 t314 t315 t316 t319) = some (r1, r2, r3, r4, r5, r6) := by rw [if_pos rfl] at H; exact H
             clear H
             have H := H1
             clear H1
             have H' := Aside0.mk H
             clear H
             go_wp2_with (first | ((with_reducible refine gate_callee (f := 76) rfl ?_); refine goesL_ (some 40) rfl rfl Tryd.func76 (by kernel_rfl) rfl #[.pointer (some ⟨g, 0, none⟩), .int .i64 10] rfl d0 ?_; (with_reducible refine (spec_l1Once.calls g s0_0 t305 t306 10 true t325 t326 w0 _ ?side1 ?side2 A45.out).mono ?_); (case side1 => exact o1); (case side2 => exact o6); rintro e w47 ⟨rfl, hi, hb, hk⟩; refine ⟨_, rfl, ?_⟩; have n0_ := Aside0.mk (KeepBut.blk hk (g' := gb277) (o := .cells #[.int .i64 0, .int .i64 0, .slice none 0 0, .slice none 0 0] 26 (0, 0)) (by (with_reducible repeat (first | refine blk_drewN ?_ _ | refine blk_drew ?_ | refine blk_alloc ?_ _)); refine blk_far ?_ NB277_323.out _; (with_reducible repeat (first | refine blk_drewN ?_ _ | refine blk_drew ?_ | refine blk_alloc ?_ _)); refine blk_far ?_ NB277_323.out _; (with_reducible repeat (first | refine blk_drewN ?_ _ | refine blk_drew ?_ | refine blk_alloc ?_ _)); refine blk_far ?_ NB277_323.out _; (with_reducible repeat (first | refine blk_drewN ?_ _ | refine blk_drew ?_ | refine blk_alloc ?_ _)); refine blk_far ?_ NB277_323.out _; (with_reducible repeat (first | refine blk_drewN ?_ _ | refine blk_drew ?_ | refine blk_alloc ?_ _)); exact BK277.out) NB277_0.out (by simp)); have n1_ := Aside0.mk (Kd.R_mono (Kd.R_keep (IsS96.apart (show IsS96 w0 _ g s0_0 t305 t306 from o1) (by (with_reducible repeat (first | apply Kd.R_alloc | apply Kd.R_drewN | apply Kd.R_drew)); exact (Kd.R_mono (Kd.R_far (p := ⟨gb323, 3, none⟩) (Kd.R_far (p := ⟨gb323, 2, none⟩) (Kd.R_far (p := ⟨gb323, 1, none⟩) (Kd.R_far (p := ⟨gb323, 0, none⟩) (Kd.R_types HO318.out BK323.out (by decide)) (fun _ hk => hk.2) (.int .i64 t314)) (fun _ hk => hk.2) (.int .i64 t315)) (fun _ hk => hk.2) (.slice Ao43 t316.length co43)) (fun _ hk => hk.2) (.slice Ao44 t319.length co44)) (fun _ h_ => h_.1))) (by decide)) hk (fun _ h => h.2)) (fun _ h => h.1)); have n2_ := Aside0.mk (Kd.R_mono (Kd.R_keep (IsS96.apart (show IsS96 w0 _ g s0_0 t305 t306 from o1) (by (with_reducible repeat (first | apply Kd.R_alloc | apply Kd.R_drewN | apply Kd.R_drew)); exact (Kd.R_mono (Kd.R_far (p := ⟨gb323, 3, none⟩) (Kd.R_far (p := ⟨gb323, 2, none⟩) (Kd.R_far (p := ⟨gb323, 1, none⟩) (Kd.R_far (p := ⟨gb323, 0, none⟩) (Kd.R_types HO321.out BK323.out (by decide)) (fun _ hk => hk.2) (.int .i64 t314)) (fun _ hk => hk.2) (.int .i64 t315)) (fun _ hk => hk.2) (.slice Ao43 t316.length co43)) (fun _ hk => hk.2) (.slice Ao44 t319.length co44)) (fun _ h_ => h_.1))) (by decide)) hk (fun _ h => h.2)) (fun _ h => h.1)); have n3_ := Aside0.mk (KeepBut.blk hk (g' := gb323) (o := .cells #[.int .i64 t314, .int .i64 t315, .slice Ao43 t316.length co43, .slice Ao44 t319.length co44] 26 (0, 0)) (by (with_reducible repeat (first | refine blk_drewN ?_ _ | refine blk_drew ?_ | refine blk_alloc ?_ _)); refine blk_put (cs := #[.int .i64 t314, .int .i64 t315, .slice Ao43 t316.length co43, .slice none 0 0]) ?_ 3 _ rfl; (with_reducible repeat (first | refine blk_drewN ?_ _ | refine blk_drew ?_ | refine blk_alloc ?_ _)); refine blk_put (cs := #[.int .i64 t314, .int .i64 t315, .slice none 0 0, .slice none 0 0]) ?_ 2 _ rfl; (with_reducible repeat (first | refine blk_drewN ?_ _ | refine blk_drew ?_ | refine blk_alloc ?_ _)); refine blk_put (cs := #[.int .i64 t314, .int .i64 0, .slice none 0 0, .slice none 0 0]) ?_ 1 _ rfl; (with_reducible repeat (first | refine blk_drewN ?_ _ | refine blk_drew ?_ | refine blk_alloc ?_ _)); refine blk_put (cs := #[.int .i64 0, .int .i64 0, .slice none 0 0, .slice none 0 0]) ?_ 0 _ rfl; (with_reducible repeat (first | refine blk_drewN ?_ _ | refine blk_drew ?_ | refine blk_alloc ?_ _)); exact BK323.out) NB323_0.out (by simp)); have n4_ := Aside0.mk (KeepBut.trans d29 hk (.inl rfl)); have n5_ := Aside0.mk (hb); have n6_ := Aside0.mk (hi); clear BK277; clear HO318; clear HO321; clear BK323; clear HK; clear HB; clear HI0; have BK277 := n0_; have HO318 := n1_; have HO321 := n2_; have BK323 := n3_; have HK := n4_; have HB := n5_; have HI0 := n6_; clear n0_ n1_ n2_ n3_ n4_ n5_ n6_; (try clear hb); (try clear hb2); (try clear hk); (try clear hi); have hnb48 := NB323_277.out; have hnc48 := NB277_323.out; have hnb49 := NB323_0.out; have hnc49 := NB0_323.out; have hcz50_0 : w47.cell? ⟨gb323, 0, none⟩ = some (.int .i64 t314) := (blk_cell BK323.out 0).trans rfl; have hcz50_1 : w47.cell? ⟨gb323, 1, none⟩ = some (.int .i64 t315) := (blk_cell BK323.out 1).trans rfl; have hcz50_2 : w47.cell? ⟨gb323, 2, none⟩ = some (.slice Ao43 t316.length co43) := (blk_cell BK323.out 2).trans rfl; have hcz50_3 : w47.cell? ⟨gb323, 3, none⟩ = some (.slice Ao44 t319.length co44) := (blk_cell BK323.out 3).trans rfl; have hfz50_0 := blk_frozen BK323.out 0; have hfz50_1 := blk_frozen BK323.out 1; have hfz50_2 := blk_frozen BK323.out 2; have hfz50_3 := blk_frozen BK323.out 3))
             go_meet
             case rel => exact ⟨_, (decide ((t316.length : Int) > 0)), (t325), (t326), d9, H', ⟨(by have := HK1.out; first | omega | exact Nat.le_refl _)⟩, ⟨Kd.Q_of_R d103⟩, ⟨o89⟩, ⟨o62⟩, ⟨(by (with_reducible repeat (first | refine blk_drewN ?_ _ | refine blk_drew ?_ | refine blk_alloc ?_ _)); exact BK323.out)⟩, ⟨o1⟩, ⟨o19⟩, ⟨o6⟩⟩
            ·replace c46 := Bool.eq_false_iff.mpr c46
             subst c46
             have H1 : (spec_l15DrawProof.j1 k1 false s0_0 t325 t326 t314 t315 t316 t319) = some (r1, r2, r3, r4, r5, r6) := by rw [if_neg (show ¬ (false = true) by decide)] at H; exact H
             clear H
             have H := H1
             clear H1
             have H' := Aside0.mk H
             clear H
             go_wp2_with (first | ((with_reducible refine gate_callee (f := 76) rfl ?_); refine goesL_ (some 40) rfl rfl Tryd.func76 (by kernel_rfl) rfl #[.pointer (some ⟨g, 0, none⟩), .int .i64 10] rfl d0 ?_; (with_reducible refine (spec_l1Once.calls g s0_0 t305 t306 10 false t325 t326 w0 _ ?side1 ?side2 A45.out).mono ?_); (case side1 => exact o1); (case side2 => exact o6); rintro e w51 ⟨rfl, hi, hb, hk⟩; refine ⟨_, rfl, ?_⟩; have n0_ := Aside0.mk (KeepBut.blk hk (g' := gb277) (o := .cells #[.int .i64 0, .int .i64 0, .slice none 0 0, .slice none 0 0] 26 (0, 0)) (by (with_reducible repeat (first | refine blk_drewN ?_ _ | refine blk_drew ?_ | refine blk_alloc ?_ _)); refine blk_far ?_ NB277_323.out _; (with_reducible repeat (first | refine blk_drewN ?_ _ | refine blk_drew ?_ | refine blk_alloc ?_ _)); refine blk_far ?_ NB277_323.out _; (with_reducible repeat (first | refine blk_drewN ?_ _ | refine blk_drew ?_ | refine blk_alloc ?_ _)); refine blk_far ?_ NB277_323.out _; (with_reducible repeat (first | refine blk_drewN ?_ _ | refine blk_drew ?_ | refine blk_alloc ?_ _)); refine blk_far ?_ NB277_323.out _; (with_reducible repeat (first | refine blk_drewN ?_ _ | refine blk_drew ?_ | refine blk_alloc ?_ _)); exact BK277.out) NB277_0.out (by simp)); have n1_ := Aside0.mk (Kd.R_mono (Kd.R_keep (IsS96.apart (show IsS96 w0 _ g s0_0 t305 t306 from o1) (by (with_reducible repeat (first | apply Kd.R_alloc | apply Kd.R_drewN | apply Kd.R_drew)); exact (Kd.R_mono (Kd.R_far (p := ⟨gb323, 3, none⟩) (Kd.R_far (p := ⟨gb323, 2, none⟩) (Kd.R_far (p := ⟨gb323, 1, none⟩) (Kd.R_far (p := ⟨gb323, 0, none⟩) (Kd.R_types HO318.out BK323.out (by decide)) (fun _ hk => hk.2) (.int .i64 t314)) (fun _ hk => hk.2) (.int .i64 t315)) (fun _ hk => hk.2) (.slice Ao43 t316.length co43)) (fun _ hk => hk.2) (.slice Ao44 t319.length co44)) (fun _ h_ => h_.1))) (by decide)) hk (fun _ h => h.2)) (fun _ h => h.1)); have n2_ := Aside0.mk (Kd.R_mono (Kd.R_keep (IsS96.apart (show IsS96 w0 _ g s0_0 t305 t306 from o1) (by (with_reducible repeat (first | apply Kd.R_alloc | apply Kd.R_drewN | apply Kd.R_drew)); exact (Kd.R_mono (Kd.R_far (p := ⟨gb323, 3, none⟩) (Kd.R_far (p := ⟨gb323, 2, none⟩) (Kd.R_far (p := ⟨gb323, 1, none⟩) (Kd.R_far (p := ⟨gb323, 0, none⟩) (Kd.R_types HO321.out BK323.out (by decide)) (fun _ hk => hk.2) (.int .i64 t314)) (fun _ hk => hk.2) (.int .i64 t315)) (fun _ hk => hk.2) (.slice Ao43 t316.length co43)) (fun _ hk => hk.2) (.slice Ao44 t319.length co44)) (fun _ h_ => h_.1))) (by decide)) hk (fun _ h => h.2)) (fun _ h => h.1)); have n3_ := Aside0.mk (KeepBut.blk hk (g' := gb323) (o := .cells #[.int .i64 t314, .int .i64 t315, .slice Ao43 t316.length co43, .slice Ao44 t319.length co44] 26 (0, 0)) (by (with_reducible repeat (first | refine blk_drewN ?_ _ | refine blk_drew ?_ | refine blk_alloc ?_ _)); refine blk_put (cs := #[.int .i64 t314, .int .i64 t315, .slice Ao43 t316.length co43, .slice none 0 0]) ?_ 3 _ rfl; (with_reducible repeat (first | refine blk_drewN ?_ _ | refine blk_drew ?_ | refine blk_alloc ?_ _)); refine blk_put (cs := #[.int .i64 t314, .int .i64 t315, .slice none 0 0, .slice none 0 0]) ?_ 2 _ rfl; (with_reducible repeat (first | refine blk_drewN ?_ _ | refine blk_drew ?_ | refine blk_alloc ?_ _)); refine blk_put (cs := #[.int .i64 t314, .int .i64 0, .slice none 0 0, .slice none 0 0]) ?_ 1 _ rfl; (with_reducible repeat (first | refine blk_drewN ?_ _ | refine blk_drew ?_ | refine blk_alloc ?_ _)); refine blk_put (cs := #[.int .i64 0, .int .i64 0, .slice none 0 0, .slice none 0 0]) ?_ 0 _ rfl; (with_reducible repeat (first | refine blk_drewN ?_ _ | refine blk_drew ?_ | refine blk_alloc ?_ _)); exact BK323.out) NB323_0.out (by simp)); have n4_ := Aside0.mk (KeepBut.trans d29 hk (.inl rfl)); have n5_ := Aside0.mk (hb); have n6_ := Aside0.mk (hi); clear BK277; clear HO318; clear HO321; clear BK323; clear HK; clear HB; clear HI0; have BK277 := n0_; have HO318 := n1_; have HO321 := n2_; have BK323 := n3_; have HK := n4_; have HB := n5_; have HI0 := n6_; clear n0_ n1_ n2_ n3_ n4_ n5_ n6_; (try clear hb); (try clear hb2); (try clear hk); (try clear hi)))
             go_meet
             case rel => exact ⟨_, (false), (t325), (t326), d9, H', ⟨(by have := HK1.out; first | omega | exact Nat.le_refl _)⟩, ⟨Kd.Q_of_R d103⟩, ⟨o89⟩, ⟨o62⟩, ⟨(by (with_reducible repeat (first | refine blk_drewN ?_ _ | refine blk_drew ?_ | refine blk_alloc ?_ _)); exact BK323.out)⟩, ⟨o1⟩, ⟨o19⟩, ⟨o6⟩⟩
           case rest =>
            clear HC27
            try clear c1
            try clear c2
            try clear p2
            try clear c3
            try clear q3
            try clear c4
            try clear c5
            try clear c6
            try clear p6
            try clear c7
            try clear c8
            try clear c12
            try clear c12b0
            try clear c14
            try clear c18
            try clear c18b0
            try clear c18b1
            try clear c19
            try clear c19b0
            try clear c19b1
            try clear c20
            try clear c23
            try clear c23b0
            try clear c23b1
            try clear c24
            try clear c24b0
            try clear c24b1
            try clear c25
            try clear q31
            try clear c35
            try clear q35
            try clear c40
            try clear c41
            try clear c46
            try clear c48
            try clear c49
            try clear hcz42_0
            try clear hcz42_1
            try clear hcz42_2
            try clear hcz42_3
            try clear hcz50_0
            try clear hcz50_1
            try clear hcz50_2
            try clear hcz50_3
            try clear hcz7_0
            try clear hcz7_1
            try clear hcz7_2
            try clear hcz7_3
            try clear hfz42_0
            try clear hfz42_1
            try clear hfz42_2
            try clear hfz42_3
            try clear hfz50_0
            try clear hfz50_1
            try clear hfz50_2
            try clear hfz50_3
            try clear hfz7_0
            try clear hfz7_1
            try clear hfz7_2
            try clear hfz7_3
            try clear p2
            try clear q035
            try clear q31
            try clear q35
            obtain ⟨kq, x46_26, x1001_26, x1002_26, rfl, HA, HJ26, HO_324002, HO_324003, BK277, BK323, HI0, HK, HB⟩ := hcut
            cases kq with
            | zero => exact absurd HA.out (by simp [spec_l15DrawProof.j1])
            | succ kj26 =>
             have H := HA.out
             clear HA
             simp only [spec_l15DrawProof.j1] at H
             by_cases c52 : x46_26 = true
             ·subst c52
              have H1 : ((spec_l1Below.f s0_0 x1001_26 x1002_26 4).bind fun bt327 => (if bt327.1 = 0 then (if 0 < (t319.length : Int) then (some (t314, t315, t316, (t319.set (0 : Int).toNat (wrap64 ((rd t319 0) + 1))), bt327.2.1, bt327.2.2)) else (none)) else (if bt327.1 = 1 then (if 1 ≤ (t316.length : Int) then (some (t314, t315, (t316.drop (1 : Int).toNat), t319, bt327.2.1, bt327.2.2)) else (none)) else (if bt327.1 = 2 then ((some (([(-1), 0, 3, 100000, 100001] : List Int) : List Int)).bind fun y335 => ((spec_l1Below.f s0_0 bt327.2.1 bt327.2.2 5).bind fun bt338 => (if 0 ≤ bt338.1 then (if bt338.1 < (y335.length : Int) then (some (rd y335 bt338.1, t315, t316, t319, bt338.2.1, bt338.2.2)) else (none)) else (none)))) else (if bt327.1 = 3 then (if 1 < (t316.length : Int) then (if 0 < (t316.length : Int) then (some (t314, t315, (t316.set (0 : Int).toNat (rd t316 1)), t319, bt327.2.1, bt327.2.2)) else (none)) else (none)) else (some (t314, t315, t316, t319, bt327.2.1, bt327.2.2))))))) = some (r1, r2, r3, r4, r5, r6) := by rw [if_pos rfl] at H; exact H
              clear H
              have H := H1
              clear H1
              replace H := Option.bind_eq_some_iff.mp H
              obtain ⟨⟨t327, t328, t329⟩, A530, H⟩ := H
              replace H : (if t327 = 0 then (if 0 < (t319.length : Int) then (some (t314, t315, t316, (t319.set (0 : Int).toNat (wrap64 ((rd t319 0) + 1))), t328, t329)) else (none)) else (if t327 = 1 then (if 1 ≤ (t316.length : Int) then (some (t314, t315, (t316.drop (1 : Int).toNat), t319, t328, t329)) else (none)) else (if t327 = 2 then ((some (([(-1), 0, 3, 100000, 100001] : List Int) : List Int)).bind fun y335 => ((spec_l1Below.f s0_0 t328 t329 5).bind fun bt338 => (if 0 ≤ bt338.1 then (if bt338.1 < (y335.length : Int) then (some (rd y335 bt338.1, t315, t316, t319, bt338.2.1, bt338.2.2)) else (none)) else (none)))) else (if t327 = 3 then (if 1 < (t316.length : Int) then (if 0 < (t316.length : Int) then (some (t314, t315, (t316.set (0 : Int).toNat (rd t316 1)), t319, t328, t329)) else (none)) else (none)) else (some (t314, t315, t316, t319, t328, t329)))))) = some (r1, r2, r3, r4, r5, r6) := H
              have A53 := Aside0.mk A530
              clear A530
              by_cases c54 : t327 = 0
              ·rw [if_pos c54] at H
               have c54b0 : (t327 == 0) = true := beq_iff_eq.mpr c54
               have c54b1 : (t327 != 0) = false := bne_eq_false_iff_eq.mpr c54
               clear c54
               by_cases c55 : 0 < (t319.length : Int)
               ·rw [if_pos c55] at H
                have c55b0 : decide (0 < (t319.length : Int)) = true := decide_eq_true c55
                have c55b1 : decide (0 < t319.length) = true := decide_eq_true (by omega)
                clear c55
                obtain ⟨y331, hy331⟩ : ∃ y_ : List Int, y_ = (t319.set (0 : Int).toNat (wrap64 ((rd t319 0) + 1))) := ⟨_, rfl⟩
                replace H : (some (t314, t315, t316, y331, t328, t329)) = some (r1, r2, r3, r4, r5, r6) := by first | (rw [hy331]; with_reducible exact H) | (have H2_ := (Option.bind_some _ _).symm.trans H; rw [hy331]; with_reducible exact H2_) | (have H2_ := (Option.bind_some _ _).symm.trans H; with_reducible exact H2_) | with_reducible exact H | (rw [hy331]; exact H) | exact H
                have Ny331 := Aside0.mk hy331
                clear hy331
                simp only [Option.some.injEq, Prod.mk.injEq] at H
                obtain ⟨rfl, rfl, rfl, rfl, rfl, rfl⟩ := H
                try go_wp2_with (first | ((with_reducible refine gate_callee (f := 52) rfl ?_); refine goesL_ (some 48) rfl rfl Tryd.func52 (by kernel_rfl) rfl #[.pointer (some ⟨g, 0, none⟩), .int .i64 4] rfl d0 ?_; (with_reducible refine (spec_l1Below.calls g s0_0 x1001_26 x1002_26 4 t327 t328 t329 w0 _ ?side1 ?side2 A53.out).mono ?_); (case side1 => exact o1); (case side2 => exact o6); rintro e w57 ⟨rfl, hi, hb, hk⟩; refine ⟨_, rfl, ?_⟩; have n0_ := Aside0.mk (Kd.Q_mono (Kd.Q_keep (IsS96.apartQ (show IsS96 w0 _ g s0_0 x1001_26 x1002_26 from o1) d72 (by decide)) hk (fun _ h => h.2)) (fun _ h => h.1)); have n1_ := Aside0.mk (Kd.R_mono (Kd.R_keep (IsS96.apart (show IsS96 w0 _ g s0_0 x1001_26 x1002_26 from o1) d73 (by decide)) hk (fun _ h => h.2)) (fun _ h => h.1)); have n2_ := Aside0.mk (KeepBut.blk hk (g' := gb277) (o := .cells #[.int .i64 0, .int .i64 0, .slice none 0 0, .slice none 0 0] 26 (0, 0)) d11 NB277_0.out (by simp)); have n3_ := Aside0.mk (KeepBut.blk hk (g' := gb323) (o := .cells #[.int .i64 t314, .int .i64 t315, .slice Ao43 t316.length co43, .slice Ao44 t319.length co44] 26 (0, 0)) d77 NB323_0.out (by simp)); have n4_ := Aside0.mk (KeepBut.trans d29 hk (.inl rfl)); have n5_ := Aside0.mk (hb); have n6_ := Aside0.mk (hi); clear HO_324002; clear HO_324003; clear BK277; clear BK323; clear HK; clear HB; clear HI0; have HO_324002 := n0_; have HO_324003 := n1_; have BK277 := n2_; have BK323 := n3_; have HK := n4_; have HB := n5_; have HI0 := n6_; clear n0_ n1_ n2_ n3_ n4_ n5_ n6_; (try clear hb); (try clear hb2); (try clear hk); (try clear hi)))
                have n0_ := Aside0.mk (Kd.Q_drew HO_324002.out)
                have n1_ := Aside0.mk (Kd.R_drew HO_324003.out)
                have n2_ := Aside0.mk (blk_drew BK277.out)
                have n3_ := Aside0.mk (blk_drew BK323.out)
                have n4_ := Aside0.mk (IsS96.drew HI0.out)
                have n5_ := Aside0.mk (keep_drew HK.out)
                have n6_ := Aside0.mk (below_drew1 HB.out)
                clear HO_324002
                clear HO_324003
                clear BK277
                clear BK323
                clear HI0
                clear HK
                clear HB
                have HO_324002 := n0_
                have HO_324003 := n1_
                have BK277 := n2_
                have BK323 := n3_
                have HI0 := n4_
                have HK := n5_
                have HB := n6_
                clear n0_ n1_ n2_ n3_ n4_ n5_ n6_
                have p330 : 0 ≤ (0 : Int) := (by omega)
                have q330 : 0 < (t319.length : Int) := od_
                obtain ⟨ad330, e330, hx330_0⟩ := Kd.at_int (Kd.R_reads' HO_324003.out).2.2 0 p330 q330
                cases e330
                have qi330 : (0 < t319.length) = True := eq_true (by omega)
                (try rw [show ((0 : Int)).toNat = 0 from rfl] at hx330_0)
                (try rw [Addr.add_zero'] at hx330_0)
                replace p330 := eq_true p330
                replace q330 := eq_true q330
                have p56 : 0 ≤ (0 : Int) := (by omega)
                have q56 : (0 : Int) < ((t319.length : Int) : Int) := od_
                have qi56 : (0 < t319.length) = True := eq_true (by omega)
                obtain ⟨go56, co56, eo56, gb56, gl56, cl56, HG56⟩ := Kd.R_form HO_324003.out (by omega)
                (first | cases eo56 | (injection eo56 with ea_ en_ ec_; (first | subst ea_ | (injection ea_ with ea_; subst ea_)); subst ec_; clear en_))
                have GB56 := Aside0.mk gb56
                have GG56 := Aside0.mk HG56
                clear gb56 gl56 HG56
                (first | simp only [add_plain] at hx330_0 | skip)
                obtain ⟨hx56_0, hf56_0⟩ := Kd.R_celln 0 HO_324003.out (0 : Int) p56 q56
                (try rw [show ((0 : Int)).toNat = 0 from rfl] at hx56_0)
                (try simp only [Nat.reduceMul, Nat.zero_mul, Nat.zero_add, Nat.add_zero, Nat.reduceAdd] at hx56_0)
                (try rw [show ((0 : Int)).toNat = 0 from rfl] at hf56_0)
                (try simp only [Nat.reduceMul, Nat.zero_mul, Nat.zero_add, Nat.add_zero, Nat.reduceAdd] at hf56_0)
                replace p56 := eq_true p56
                replace q56 := eq_true q56
                have HN0_go56 := Aside0.mk (show g ≠ go56 from (by have h_ := IsS96.own_ne HI0.out HO_324003.out (by decide); intro e_; exact h_ (by rw [e_]; rfl)))
                have HP59 := Kd.R_putn HO_324003.out (0 : Int) (wrap64 ((rd t319 0) + 1))
                rw [← Ny331.out] at HP59
                have HQ59 := Aside0.mk HP59
                clear HP59
                refine start_ (n := 9) (S := fun w' => w'.cell? ⟨gb323, 0, none⟩ = some (.int .i64 t314) ∧ w'.cell? ⟨gb323, 1, none⟩ = some (.int .i64 t315) ∧ w'.cell? ⟨gb323, 2, none⟩ = some (.slice Ao43 t316.length co43) ∧ w'.cell? ⟨gb323, 3, none⟩ = some (.slice (some ⟨go56, 0, none⟩) t319.length co44) ∧ w'.cell? ⟨go56, 0, none⟩ = some (.int .i64 (rd t319 0))) (ds := [8]) (bA 9 0) (by kernel_rfl) rfl rfl ⟨(blk_cell BK323.out 0).trans rfl, (blk_cell BK323.out 1).trans rfl, (blk_cell BK323.out 2).trans rfl, (blk_cell BK323.out 3).trans rfl, hx330_0⟩ (fun hHeld => ?_); refine with_tabW spec_l15DrawProof.tab13 spec_l15DrawProof.bits13 (fun HT_ HW_ => ?_)
                generalize w57.drew = w58 at HO_324002 HO_324003 BK277 BK323 HI0 HK HB GG56 HQ59 hf56_0 hx330_0 hx56_0 hHeld ⊢
                refine pv (i := 0) (N := some 51) (bA 9 1) rfl rfl o0 ?_
                refine pv (i := 2) (N := some 53) (bA 9 5) rfl rfl o0 ?_
                refine take_ (i := 1) (N := some 52) (v := ?_) (a' := ?_) (bA 9 7) rfl rfl o5 (fun _ _ _ h => h) (Or.inl ⟨(by rfl), ?_⟩) hHeld ?_ ?_
                rotate_left
                ·rintro w' ⟨s0, s1, s2, s3, s4⟩
                 go_simp
                 with_reducible rfl
                rotate_left
                ·simp only [sp_]
                 rfl
                refine take_ (i := 3) (N := some 54) (v := ?_) (a' := ?_) (bA 9 15) rfl rfl o5 (fun _ _ _ h => h) (Or.inl ⟨(by rfl), ?_⟩) hHeld ?_ ?_
                rotate_left
                ·rintro w' ⟨s0, s1, s2, s3, s4⟩
                 go_simp
                 with_reducible rfl
                rotate_left
                ·simp only [sp_]
                 rfl
                refine pv (i := 4) (N := some 55) (bA 9 31) rfl rfl o0 ?_
                refine take_ (i := 5) (N := some 56) (v := ?_) (a' := ?_) (bA 9 63) rfl rfl o5 (fun _ _ _ h => h) (Or.inl ⟨(by rfl), ?_⟩) hHeld ?_ ?_
                rotate_left
                ·rintro w' ⟨s0, s1, s2, s3, s4⟩
                 go_simp
                 with_reducible rfl
                rotate_left
                ·simp only [sp_]
                 rfl
                refine pv (i := 6) (N := some 57) (bA 9 127) rfl rfl o0 ?_
                refine pv (i := 7) (N := some 58) (bA 9 255) rfl rfl o0 ?_
                refine last_ (i := 8) (N := none) (bA 9 511) rfl rfl (one_of HT_.out (by kernel_rfl)) (by decide) (fun K hK => ?_)
                refine skip_ (w1 := ?_) (by rfl) rfl ?_ ?_
                rotate_left
                ·go_simp
                 rfl
                refine hK.out _ _ ?_
                clear hK K
                refine done_ (done_of HT_.out (by kernel_rfl)) ?_
                have n0_ : Aside0 (Kd.Q (Kd.int .i64) 2 (w58.setCell ⟨go56, 0, none⟩ (.int .i64 (wrap64 ((rd t319 0) + 1)))) w.heap.size (fun k_ => some k_ ≠ (.slice (some ⟨go56, 0, none⟩) t319.length co44 : Value).ownBlock) (.slice Ao43 t316.length co43) t316) := ⟨(by (with_reducible repeat (first | apply Kd.Q_alloc | apply Kd.Q_drewN | apply Kd.Q_drew)); exact Kd.Q_mono (Kd.Q_far (p := ⟨go56, 0, none⟩) (Kd.Q_mono HO_324002.out (fun k_ hk => (⟨hk, fun e_ => hk (by rw [e_]; rfl)⟩ : _ ∧ k_ ≠ go56))) (fun _ hk => hk.2) (.int .i64 (wrap64 ((rd t319 0) + 1)))) (fun _ hk => hk.1))⟩
                have n1_ : Aside0 (Kd.R (Kd.int .i64) 2 (w58.setCell ⟨go56, 0, none⟩ (.int .i64 (wrap64 ((rd t319 0) + 1)))) w.heap.size (fun k_ => some k_ ≠ (.slice Ao43 t316.length co43 : Value).ownBlock) (.slice (some ⟨go56, 0, none⟩) t319.length co44) y331) := ⟨(by (with_reducible repeat (first | apply Kd.R_alloc | apply Kd.R_drewN | apply Kd.R_drew)); exact HQ59.out)⟩
                have n2_ : Aside0 ((w58.setCell ⟨go56, 0, none⟩ (.int .i64 (wrap64 ((rd t319 0) + 1)))).heap[gb277]? = some (.cells #[.int .i64 0, .int .i64 0, .slice none 0 0, .slice none 0 0] 26 (0, 0))) := ⟨(by (with_reducible repeat (first | refine blk_drewN ?_ _ | refine blk_drew ?_ | refine blk_alloc ?_ _)); refine blk_far ?_ (by have h_ := Kd.R_ne HO_324003.out BK277.out (by decide); intro e_; exact h_ (by rw [e_]; rfl)) _; (with_reducible repeat (first | refine blk_drewN ?_ _ | refine blk_drew ?_ | refine blk_alloc ?_ _)); exact BK277.out)⟩
                have n3_ : Aside0 ((w58.setCell ⟨go56, 0, none⟩ (.int .i64 (wrap64 ((rd t319 0) + 1)))).heap[gb323]? = some (.cells #[.int .i64 t314, .int .i64 t315, .slice Ao43 t316.length co43, .slice (some ⟨go56, 0, none⟩) t319.length co44] 26 (0, 0))) := ⟨(by (with_reducible repeat (first | refine blk_drewN ?_ _ | refine blk_drew ?_ | refine blk_alloc ?_ _)); refine blk_far ?_ (by have h_ := Kd.R_ne HO_324003.out BK323.out (by decide); intro e_; exact h_ (by rw [e_]; rfl)) _; (with_reducible repeat (first | refine blk_drewN ?_ _ | refine blk_drew ?_ | refine blk_alloc ?_ _)); exact BK323.out)⟩
                have n4_ : Aside0 (IsS96 w0 (w58.setCell ⟨go56, 0, none⟩ (.int .i64 (wrap64 ((rd t319 0) + 1)))) g s0_0 t328 t329) := ⟨(by repeat (first | (with_reducible first | exact HI0.out | apply IsS96.alloc | apply IsS96.drewN | apply IsS96.drew | apply IsS96.set_1 | apply IsS96.set_2 | refine IsS96.far ?_ HN0_go56.out _ | refine IsS96.far ?_ NB0_277.out _ | refine IsS96.far ?_ NB0_323.out _) | exact HI0.out))⟩
                have n5_ : Aside0 (KeepBut w (w58.setCell ⟨go56, 0, none⟩ (.int .i64 (wrap64 ((rd t319 0) + 1)))) g none) := ⟨(by repeat (first | (with_reducible first | exact HK.out | apply KeepBut.set_ | apply keep_drewN | apply keep_drew | apply keep_alloc | refine keep_far ?_ GB56.out _ | refine keep_far ?_ GW277.out _ | refine keep_far ?_ GW323.out _) | exact HK.out))⟩
                have n6_ : Aside0 (Below w0.heap.size w0 (w58.setCell ⟨go56, 0, none⟩ (.int .i64 (wrap64 ((rd t319 0) + 1))))) := ⟨(by repeat (first | (with_reducible first | exact HB.out | apply below_alloc | apply pw_below_drewN | apply below_drew1 | refine below_set ?_ (Nat.le_trans HL.out GB56.out) | refine below_set ?_ (IsS96.ge HI0.out) | refine below_set ?_ GE277.out | refine below_set ?_ GE323.out) | exact HB.out))⟩
                (try clear HO_324002)
                (try clear HO_324003)
                (try clear BK277)
                (try clear BK323)
                (try clear HI0)
                (try clear HK)
                (try clear HB)
                generalize (w58.setCell ⟨go56, 0, none⟩ (.int .i64 (wrap64 ((rd t319 0) + 1)))) = w60 at n0_ n1_ n2_ n3_ n4_ n5_ n6_ ⊢
                have HO_324002 := n0_
                have HO_324003 := n1_
                have BK277 := n2_
                have BK323 := n3_
                have HI0 := n4_
                have HK := n5_
                have HB := n6_
                clear n0_ n1_ n2_ n3_ n4_ n5_ n6_
                have hnb61 := NB323_277.out
                have hnc61 := NB277_323.out
                have hnb62 := NB323_0.out
                have hnc62 := NB0_323.out
                have hcz63_0 : w60.cell? ⟨gb323, 0, none⟩ = some (.int .i64 t314) := (blk_cell BK323.out 0).trans rfl
                have hcz63_1 : w60.cell? ⟨gb323, 1, none⟩ = some (.int .i64 t315) := (blk_cell BK323.out 1).trans rfl
                have hcz63_2 : w60.cell? ⟨gb323, 2, none⟩ = some (.slice Ao43 t316.length co43) := (blk_cell BK323.out 2).trans rfl
                have hcz63_3 : w60.cell? ⟨gb323, 3, none⟩ = some (.slice (some ⟨go56, 0, none⟩) t319.length co44) := (blk_cell BK323.out 3).trans rfl
                have hfz63_0 := blk_frozen BK323.out 0
                have hfz63_1 := blk_frozen BK323.out 1
                have hfz63_2 := blk_frozen BK323.out 2
                have hfz63_3 := blk_frozen BK323.out 3
                have hnb64 := NB277_0.out
                have hnc64 := NB0_277.out
                have hcz65_0 : w60.cell? ⟨gb277, 0, none⟩ = some (.int .i64 0) := (blk_cell BK277.out 0).trans rfl
                have hcz65_1 : w60.cell? ⟨gb277, 1, none⟩ = some (.int .i64 0) := (blk_cell BK277.out 1).trans rfl
                have hcz65_2 : w60.cell? ⟨gb277, 2, none⟩ = some (.slice none 0 0) := (blk_cell BK277.out 2).trans rfl
                have hcz65_3 : w60.cell? ⟨gb277, 3, none⟩ = some (.slice none 0 0) := (blk_cell BK277.out 3).trans rfl
                have hfz65_0 := blk_frozen BK277.out 0
                have hfz65_1 := blk_frozen BK277.out 1
                have hfz65_2 := blk_frozen BK277.out 2
                have hfz65_3 := blk_frozen BK277.out 3
                try go_wp2
                refine bodyPost_ret (results_cell_row rfl _ _ gb277 26 #[.int .i64 t314, .int .i64 t315, .slice Ao43 t316.length co43, .slice (some ⟨go56, 0, none⟩) t319.length co44] (0, 0) _ rfl d31 Tryd.underlying26 rfl (by kernel_rfl)) rfl ?_
                exact ⟨_, _, o30, (by (with_reducible repeat (first | apply Kd.Q_alloc | apply Kd.Q_drewN | apply Kd.Q_drew)); exact Kd.Q_mono (Kd.Q_far (p := ⟨gb277, 3, none⟩) (Kd.Q_far (p := ⟨gb277, 2, none⟩) (Kd.Q_far (p := ⟨gb277, 1, none⟩) (Kd.Q_far (p := ⟨gb277, 0, none⟩) (Kd.Q_types HO_324002.out BK277.out (by decide)) (fun _ hk => hk.2) (.int .i64 t314)) (fun _ hk => hk.2) (.int .i64 t315)) (fun _ hk => hk.2) (.slice Ao43 t316.length co43)) (fun _ hk => hk.2) (.slice (some ⟨go56, 0, none⟩) t319.length co44)) (fun _ hk => hk.1)), (by (with_reducible repeat (first | apply Kd.R_alloc | apply Kd.R_drewN | apply Kd.R_drew)); exact Kd.R_mono (Kd.R_far (p := ⟨gb277, 3, none⟩) (Kd.R_far (p := ⟨gb277, 2, none⟩) (Kd.R_far (p := ⟨gb277, 1, none⟩) (Kd.R_far (p := ⟨gb277, 0, none⟩) (Kd.R_types HO_324003.out BK277.out (by decide)) (fun _ hk => hk.2) (.int .i64 t314)) (fun _ hk => hk.2) (.int .i64 t315)) (fun _ hk => hk.2) (.slice Ao43 t316.length co43)) (fun _ hk => hk.2) (.slice (some ⟨go56, 0, none⟩) t319.length co44)) (fun _ hk => hk.1)), o1, o6, o19⟩
               ·rw [if_neg c55] at H
                exact absurd H (by simp)
              ·rw [if_neg c54] at H
               have c54b0 : (t327 == 0) = false := beq_eq_false_iff_ne.mpr c54
               have c54b1 : (t327 != 0) = true := bne_iff_ne.mpr c54
               by_cases c66 : t327 = 1
               ·rw [if_pos c66] at H
                have c66b0 : (t327 == 1) = true := beq_iff_eq.mpr c66
                have c66b1 : (t327 != 1) = false := bne_eq_false_iff_eq.mpr c66
                clear c66
                by_cases c67 : 1 ≤ (t316.length : Int)
                ·rw [if_pos c67] at H
                 have c67b0 := eq_true c67
                 have c67b1 : decide (1 ≤ (t316.length : Int)) = true := decide_eq_true c67
                 clear c67
                 obtain ⟨y332, hy332⟩ : ∃ y_ : List Int, y_ = (t316.drop (1 : Int).toNat) := ⟨_, rfl⟩
                 replace H : (some (t314, t315, y332, t319, t328, t329)) = some (r1, r2, r3, r4, r5, r6) := by first | (rw [hy332]; with_reducible exact H) | (have H2_ := (Option.bind_some _ _).symm.trans H; rw [hy332]; with_reducible exact H2_) | (have H2_ := (Option.bind_some _ _).symm.trans H; with_reducible exact H2_) | with_reducible exact H | (rw [hy332]; exact H) | exact H
                 have Ny332 := Aside0.mk hy332
                 clear hy332
                 simp only [Option.some.injEq, Prod.mk.injEq] at H
                 obtain ⟨rfl, rfl, rfl, rfl, rfl, rfl⟩ := H
                 go_wp2_with (first | ((with_reducible refine gate_callee (f := 52) rfl ?_); refine goesL_ (some 48) rfl rfl Tryd.func52 (by kernel_rfl) rfl #[.pointer (some ⟨g, 0, none⟩), .int .i64 4] rfl d0 ?_; (with_reducible refine (spec_l1Below.calls g s0_0 x1001_26 x1002_26 4 t327 t328 t329 w0 _ ?side1 ?side2 A53.out).mono ?_); (case side1 => exact o1); (case side2 => exact o6); rintro e w68 ⟨rfl, hi, hb, hk⟩; refine ⟨_, rfl, ?_⟩; have n0_ := Aside0.mk (Kd.Q_mono (Kd.Q_keep (IsS96.apartQ (show IsS96 w0 _ g s0_0 x1001_26 x1002_26 from o1) d72 (by decide)) hk (fun _ h => h.2)) (fun _ h => h.1)); have n1_ := Aside0.mk (Kd.R_mono (Kd.R_keep (IsS96.apart (show IsS96 w0 _ g s0_0 x1001_26 x1002_26 from o1) d73 (by decide)) hk (fun _ h => h.2)) (fun _ h => h.1)); have n2_ := Aside0.mk (KeepBut.blk hk (g' := gb277) (o := .cells #[.int .i64 0, .int .i64 0, .slice none 0 0, .slice none 0 0] 26 (0, 0)) d11 NB277_0.out (by simp)); have n3_ := Aside0.mk (KeepBut.blk hk (g' := gb323) (o := .cells #[.int .i64 t314, .int .i64 t315, .slice Ao43 t316.length co43, .slice Ao44 t319.length co44] 26 (0, 0)) d77 NB323_0.out (by simp)); have n4_ := Aside0.mk (KeepBut.trans d29 hk (.inl rfl)); have n5_ := Aside0.mk (hb); have n6_ := Aside0.mk (hi); clear HO_324002; clear HO_324003; clear BK277; clear BK323; clear HK; clear HB; clear HI0; have HO_324002 := n0_; have HO_324003 := n1_; have BK277 := n2_; have BK323 := n3_; have HK := n4_; have HB := n5_; have HI0 := n6_; clear n0_ n1_ n2_ n3_ n4_ n5_ n6_; (try clear hb); (try clear hb2); (try clear hk); (try clear hi); have hnb69 := NB323_277.out; have hnc69 := NB277_323.out; have hnb70 := NB323_0.out; have hnc70 := NB0_323.out; have hcz71_0 : w68.cell? ⟨gb323, 0, none⟩ = some (.int .i64 t314) := (blk_cell BK323.out 0).trans rfl; have hcz71_1 : w68.cell? ⟨gb323, 1, none⟩ = some (.int .i64 t315) := (blk_cell BK323.out 1).trans rfl; have hcz71_2 : w68.cell? ⟨gb323, 2, none⟩ = some (.slice Ao43 t316.length co43) := (blk_cell BK323.out 2).trans rfl; have hcz71_3 : w68.cell? ⟨gb323, 3, none⟩ = some (.slice Ao44 t319.length co44) := (blk_cell BK323.out 3).trans rfl; have hfz71_0 := blk_frozen BK323.out 0; have hfz71_1 := blk_frozen BK323.out 1; have hfz71_2 := blk_frozen BK323.out 2; have hfz71_3 := blk_frozen BK323.out 3; have q72 : (1 : Int) ≤ ((t316.length : Int) : Int) := od_; obtain ⟨i072, hi072, _, hsz72, _⟩ := info_parts info2; have hcut72 := cut_from (P := Tryd.prog) 24 2 .i64 Tryd.underlying24 hi072 1 hsz72 Ao43 t316.length co43 1 (by omega) q72; have hr72 := Kd.Q_drop (k := (1 : Int).toNat) HO_324002.out (by omega); obtain ⟨A72, hA72⟩ : ∃ A1, A1 = (if co43 = (1 : Int).toNat then Ao43 else (Ao43 : Option Addr).map (·.add ((1 : Int).toNat * 1))) := ⟨_, rfl⟩; obtain ⟨c72, hc72⟩ : ∃ c1, c1 = co43 - (1 : Int).toNat := ⟨_, rfl⟩; have hy72 : y332.length = t316.length - (1 : Int).toNat := (by rw [Ny332.out, List.length_drop]); rw [← Ny332.out] at hr72; rw [← hy72, ← hA72, ← hc72] at hcut72; replace hr72 : Kd.Q (Kd.int .i64) 2 w68 w.heap.size (fun k_ => some k_ ≠ (.slice Ao44 t319.length co44 : Value).ownBlock) (.slice A72 y332.length c72) y332 := (by rw [hA72, hc72, hy72]; exact hr72); have HE72 : Aside0 ((Value.slice A72 y332.length c72).ownBlock = (.slice Ao43 t316.length co43 : Value).ownBlock) := ⟨(by rw [hA72]; split <;> (cases (Ao43 : Option Addr) <;> rfl))⟩; clear hy72 hi072 hsz72 HO_324002 hA72 hc72; have HO334 := Aside0.mk hr72; clear hr72; replace q72 := eq_true q72; have n_ := Aside0.mk (Kd.R_mono (ok' := fun k_ => some k_ ≠ (.slice A72 y332.length c72 : Value).ownBlock) HO_324003.out (fun k_ hk => (by rw [HE72.out]; exact hk))); clear HO_324003; have HO_324003 := n_; clear n_; have hnb73 := NB277_0.out; have hnc73 := NB0_277.out; have hcz74_0 : w68.cell? ⟨gb277, 0, none⟩ = some (.int .i64 0) := (blk_cell BK277.out 0).trans rfl; have hcz74_1 : w68.cell? ⟨gb277, 1, none⟩ = some (.int .i64 0) := (blk_cell BK277.out 1).trans rfl; have hcz74_2 : w68.cell? ⟨gb277, 2, none⟩ = some (.slice none 0 0) := (blk_cell BK277.out 2).trans rfl; have hcz74_3 : w68.cell? ⟨gb277, 3, none⟩ = some (.slice none 0 0) := (blk_cell BK277.out 3).trans rfl; have hfz74_0 := blk_frozen BK277.out 0; have hfz74_1 := blk_frozen BK277.out 1; have hfz74_2 := blk_frozen BK277.out 2; have hfz74_3 := blk_frozen BK277.out 3))
                 refine bodyPost_ret (results_cell_row rfl _ _ gb277 26 #[.int .i64 t314, .int .i64 t315, .slice A72 y332.length c72, .slice Ao44 t319.length co44] (0, 0) _ rfl (by (with_reducible repeat (first | refine blk_drewN ?_ _ | refine blk_drew ?_ | refine blk_alloc ?_ _)); refine blk_put (cs := #[.int .i64 t314, .int .i64 t315, .slice A72 y332.length c72, .slice none 0 0]) ?_ 3 _ rfl; (with_reducible repeat (first | refine blk_drewN ?_ _ | refine blk_drew ?_ | refine blk_alloc ?_ _)); refine blk_put (cs := #[.int .i64 t314, .int .i64 t315, .slice none 0 0, .slice none 0 0]) ?_ 2 _ rfl; (with_reducible repeat (first | refine blk_drewN ?_ _ | refine blk_drew ?_ | refine blk_alloc ?_ _)); refine blk_put (cs := #[.int .i64 t314, .int .i64 0, .slice none 0 0, .slice none 0 0]) ?_ 1 _ rfl; (with_reducible repeat (first | refine blk_drewN ?_ _ | refine blk_drew ?_ | refine blk_alloc ?_ _)); refine blk_put (cs := #[.int .i64 0, .int .i64 0, .slice none 0 0, .slice none 0 0]) ?_ 0 _ rfl; (with_reducible repeat (first | refine blk_drewN ?_ _ | refine blk_drew ?_ | refine blk_alloc ?_ _)); refine blk_far ?_ NB277_323.out _; (with_reducible repeat (first | refine blk_drewN ?_ _ | refine blk_drew ?_ | refine blk_alloc ?_ _)); exact BK277.out) Tryd.underlying26 rfl (by kernel_rfl)) rfl ?_
                 exact ⟨_, _, o30, (by (with_reducible repeat (first | apply Kd.Q_alloc | apply Kd.Q_drewN | apply Kd.Q_drew)); exact Kd.Q_mono (Kd.Q_far (p := ⟨gb277, 3, none⟩) (Kd.Q_far (p := ⟨gb277, 2, none⟩) (Kd.Q_far (p := ⟨gb277, 1, none⟩) (Kd.Q_far (p := ⟨gb277, 0, none⟩) (Kd.Q_far (p := ⟨gb323, 2, none⟩) (Kd.Q_types (Kd.Q_types HO334.out BK323.out (by decide)) BK277.out (by decide)) (fun _ hk => hk.1.2) (.slice A72 y332.length c72)) (fun _ hk => hk.2) (.int .i64 t314)) (fun _ hk => hk.2) (.int .i64 t315)) (fun _ hk => hk.2) (.slice A72 y332.length c72)) (fun _ hk => hk.2) (.slice Ao44 t319.length co44)) (fun _ hk => hk.1.1)), (by (with_reducible repeat (first | apply Kd.R_alloc | apply Kd.R_drewN | apply Kd.R_drew)); exact Kd.R_mono (Kd.R_far (p := ⟨gb277, 3, none⟩) (Kd.R_far (p := ⟨gb277, 2, none⟩) (Kd.R_far (p := ⟨gb277, 1, none⟩) (Kd.R_far (p := ⟨gb277, 0, none⟩) (Kd.R_far (p := ⟨gb323, 2, none⟩) (Kd.R_types (Kd.R_types HO_324003.out BK323.out (by decide)) BK277.out (by decide)) (fun _ hk => hk.1.2) (.slice A72 y332.length c72)) (fun _ hk => hk.2) (.int .i64 t314)) (fun _ hk => hk.2) (.int .i64 t315)) (fun _ hk => hk.2) (.slice A72 y332.length c72)) (fun _ hk => hk.2) (.slice Ao44 t319.length co44)) (fun _ hk => hk.1.1)), o1, o6, o19⟩
                ·rw [if_neg c67] at H
                 exact absurd H (by simp)
               ·rw [if_neg c66] at H
                have c66b0 : (t327 == 1) = false := beq_eq_false_iff_ne.mpr c66
                have c66b1 : (t327 != 1) = true := bne_iff_ne.mpr c66
                by_cases c75 : t327 = 2
                ·rw [if_pos c75] at H
                 have c75b0 : (t327 == 2) = true := beq_iff_eq.mpr c75
                 have c75b1 : (t327 != 2) = false := bne_eq_false_iff_eq.mpr c75
                 clear c75
                 obtain ⟨y335, hy335⟩ : ∃ y_ : List Int, y_ = (([(-1), 0, 3, 100000, 100001] : List Int)) := ⟨_, rfl⟩
                 replace H : ((spec_l1Below.f s0_0 t328 t329 5).bind fun bt338 => (if 0 ≤ bt338.1 then (if bt338.1 < (y335.length : Int) then (some (rd y335 bt338.1, t315, t316, t319, bt338.2.1, bt338.2.2)) else (none)) else (none))) = some (r1, r2, r3, r4, r5, r6) := by first | (rw [hy335]; with_reducible exact H) | (have H2_ := (Option.bind_some _ _).symm.trans H; rw [hy335]; with_reducible exact H2_) | (have H2_ := (Option.bind_some _ _).symm.trans H; with_reducible exact H2_) | with_reducible exact H | (rw [hy335]; exact H) | exact H
                 have Ny335 := Aside0.mk hy335
                 clear hy335
                 replace H := Option.bind_eq_some_iff.mp H
                 obtain ⟨⟨t338, t339, t340⟩, A760, H⟩ := H
                 replace H : (if 0 ≤ t338 then (if t338 < (y335.length : Int) then (some (rd y335 t338, t315, t316, t319, t339, t340)) else (none)) else (none)) = some (r1, r2, r3, r4, r5, r6) := H
                 have A76 := Aside0.mk A760
                 clear A760
                 by_cases c77 : 0 ≤ t338
                 ·rw [if_pos c77] at H
                  have c77b0 : decide (0 ≤ t338) = true := decide_eq_true c77
                  clear c77
                  by_cases c78 : t338 < (y335.length : Int)
                  ·rw [if_pos c78] at H
                   have c78b0 : decide (t338 < (y335.length : Int)) = true := decide_eq_true c78
                   clear c78
                   simp only [Option.some.injEq, Prod.mk.injEq] at H
                   obtain ⟨rfl, rfl, rfl, rfl, rfl, rfl⟩ := H
                   go_wp2_with (first | ((with_reducible refine gate_callee (f := 52) rfl ?_); refine goesL_ (some 48) rfl rfl Tryd.func52 (by kernel_rfl) rfl #[.pointer (some ⟨g, 0, none⟩), .int .i64 4] rfl d0 ?_; (with_reducible refine (spec_l1Below.calls g s0_0 x1001_26 x1002_26 4 t327 t328 t329 w0 _ ?side1 ?side2 A53.out).mono ?_); (case side1 => exact o1); (case side2 => exact o6); rintro e w79 ⟨rfl, hi, hb, hk⟩; refine ⟨_, rfl, ?_⟩; have n0_ := Aside0.mk (Kd.Q_mono (Kd.Q_keep (IsS96.apartQ (show IsS96 w0 _ g s0_0 x1001_26 x1002_26 from o1) d72 (by decide)) hk (fun _ h => h.2)) (fun _ h => h.1)); have n1_ := Aside0.mk (Kd.R_mono (Kd.R_keep (IsS96.apart (show IsS96 w0 _ g s0_0 x1001_26 x1002_26 from o1) d73 (by decide)) hk (fun _ h => h.2)) (fun _ h => h.1)); have n2_ := Aside0.mk (KeepBut.blk hk (g' := gb277) (o := .cells #[.int .i64 0, .int .i64 0, .slice none 0 0, .slice none 0 0] 26 (0, 0)) d11 NB277_0.out (by simp)); have n3_ := Aside0.mk (KeepBut.blk hk (g' := gb323) (o := .cells #[.int .i64 t314, .int .i64 t315, .slice Ao43 t316.length co43, .slice Ao44 t319.length co44] 26 (0, 0)) d77 NB323_0.out (by simp)); have n4_ := Aside0.mk (KeepBut.trans d29 hk (.inl rfl)); have n5_ := Aside0.mk (hb); have n6_ := Aside0.mk (hi); clear HO_324002; clear HO_324003; clear BK277; clear BK323; clear HK; clear HB; clear HI0; have HO_324002 := n0_; have HO_324003 := n1_; have BK277 := n2_; have BK323 := n3_; have HK := n4_; have HB := n5_; have HI0 := n6_; clear n0_ n1_ n2_ n3_ n4_ n5_ n6_; (try clear hb); (try clear hb2); (try clear hk); (try clear hi)) | ((with_reducible refine gate_dst (N := 67) rfl ?_); (try (refine gate_guard (by rfl) ?_; dsimp only)); refine Kd.R_lit (Kd.int .i64) _ 2 ?hg (N := 67) ?hd (xs := ([(-1), 0, 3, 100000, 100001] : List Int)) (inner := [.int .i64 (-1), .int .i64 0, .int .i64 3, .int .i64 100000, .int .i64 100001]) (ok := fun _ => True) (okp := fun _ => True) ?hr ?hp (fun _ hk => hk) trivial (Below.refl _ _) (Nat.le_refl _) (by simp) ?_; (case hd => rfl); (case hg => rfl); (case hr => first | (go_simp; done) | (go_simp; rfl)); (case hp => exact (Reps.one (show Kd.M (Kd.int .i64) _ _ _ (-1) [.int .i64 (-1)] from rfl) (Reps.one (show Kd.M (Kd.int .i64) _ _ _ 0 [.int .i64 0] from rfl) (Reps.one (show Kd.M (Kd.int .i64) _ _ _ 3 [.int .i64 3] from rfl) (Reps.one (show Kd.M (Kd.int .i64) _ _ _ 100000 [.int .i64 100000] from rfl) (Reps.one (show Kd.M (Kd.int .i64) _ _ _ 100001 [.int .i64 100001] from rfl) (Reps.none _ _))))))); intro v336 w80 ho81 hb hg_ hnew_; clear hg_ hnew_; (first | rw [← Ny335.out] at ho81 | (simp only [Int.reduceToNat] at ho81; rw [← Ny335.out] at ho81)); have n0_ := Aside0.mk (Kd.Q_elder' d72 (Kd.R_base ho81) hb); have n1_ := Aside0.mk (Kd.R_elder' d73 (Kd.R_base ho81) hb); have n2_ := Aside0.mk (Kd.R_lower (Kd.R_new' (Kd.R_new' ho81 (Kd.Q_lt d72)) (Kd.R_lt d73)) (keep_size (w := w) (g := g) (row := none) d29)); have n3_ := Aside0.mk (blk_below (g := gb277) (o := .cells #[.int .i64 0, .int .i64 0, .slice none 0 0, .slice none 0 0] 26 (0, 0)) d11 hb); have n4_ := Aside0.mk (blk_below (g := gb323) (o := .cells #[.int .i64 t314, .int .i64 t315, .slice Ao43 t316.length co43, .slice Ao44 t319.length co44] 26 (0, 0)) d77 hb); have n5_ := Aside0.mk (IsS96.below o1 hb); have n6_ := Aside0.mk (KeepBut.trans d29 (KeepBut.of_below hb g none) (.inl rfl)); have n7_ := Aside0.mk (below_step o6 hb); clear HO_324002; clear HO_324003; clear BK277; clear BK323; clear HI0; clear HK; clear HB; have HO_324002 := n0_; have HO_324003 := n1_; have HO337 := n2_; have BK277 := n3_; have BK323 := n4_; have HI0 := n5_; have HK := n6_; have HB := n7_; clear n0_ n1_ n2_ n3_ n4_ n5_ n6_ n7_; clear hb ho81) | ((with_reducible refine gate_callee (f := 52) rfl ?_); refine goesL_ (some 69) rfl rfl Tryd.func52 (by kernel_rfl) rfl #[.pointer (some ⟨g, 0, none⟩), .int .i64 5] rfl d0 ?_; (with_reducible refine (spec_l1Below.calls g s0_0 t328 t329 5 t338 t339 t340 w0 _ ?side1 ?side2 A76.out).mono ?_); (case side1 => exact o1); (case side2 => exact o6); rintro e w82 ⟨rfl, hi, hb, hk⟩; refine ⟨_, rfl, ?_⟩; have n0_ := Aside0.mk (Kd.Q_mono (Kd.Q_keep (IsS96.apartQ (show IsS96 w0 _ g s0_0 t328 t329 from o1) d72 (by decide)) hk (fun _ h => h.2)) (fun _ h => h.1)); have n1_ := Aside0.mk (Kd.R_mono (Kd.R_keep (IsS96.apart (show IsS96 w0 _ g s0_0 t328 t329 from o1) d73 (by decide)) hk (fun _ h => h.2)) (fun _ h => h.1)); have n2_ := Aside0.mk (KeepBut.blk hk (g' := gb277) (o := .cells #[.int .i64 0, .int .i64 0, .slice none 0 0, .slice none 0 0] 26 (0, 0)) d11 NB277_0.out (by simp)); have n3_ := Aside0.mk (KeepBut.blk hk (g' := gb323) (o := .cells #[.int .i64 t314, .int .i64 t315, .slice Ao43 t316.length co43, .slice Ao44 t319.length co44] 26 (0, 0)) d77 NB323_0.out (by simp)); have n4_ := Aside0.mk (Kd.R_mono (Kd.R_keep (IsS96.apart (show IsS96 w0 _ g s0_0 t328 t329 from o1) (by (with_reducible repeat (first | apply Kd.R_alloc | apply Kd.R_drewN | apply Kd.R_drew)); exact HO337.out) (by decide)) hk (fun _ h => h.2)) (fun _ h => h.1)); have n5_ := Aside0.mk (KeepBut.trans d29 hk (.inl rfl)); have n6_ := Aside0.mk (hb); have n7_ := Aside0.mk (hi); clear HO_324002; clear HO_324003; clear BK277; clear BK323; clear HO337; clear HK; clear HB; clear HI0; have HO_324002 := n0_; have HO_324003 := n1_; have BK277 := n2_; have BK323 := n3_; have HO337 := n4_; have HK := n5_; have HB := n6_; have HI0 := n7_; clear n0_ n1_ n2_ n3_ n4_ n5_ n6_ n7_; (try clear hb); (try clear hb2); (try clear hk); (try clear hi); obtain ⟨Ao83, co83, eo83⟩ := Kd.R_slice HO337.out; subst eo83; have p341 : 0 ≤ (t338 : Int) := od_; have q341 : t338 < (y335.length : Int) := od_; obtain ⟨ad341, e341, hx341_0⟩ := Kd.at_int (Kd.R_reads' HO337.out).2.2 t338 p341 q341; cases e341; replace p341 := eq_true p341; replace q341 := eq_true q341; have hnb84 := NB323_277.out; have hnc84 := NB277_323.out; have hnb85 := NB323_0.out; have hnc85 := NB0_323.out; have hcz86_0 : w82.cell? ⟨gb323, 0, none⟩ = some (.int .i64 t314) := (blk_cell BK323.out 0).trans rfl; have hcz86_1 : w82.cell? ⟨gb323, 1, none⟩ = some (.int .i64 t315) := (blk_cell BK323.out 1).trans rfl; have hcz86_2 : w82.cell? ⟨gb323, 2, none⟩ = some (.slice Ao43 t316.length co43) := (blk_cell BK323.out 2).trans rfl; have hcz86_3 : w82.cell? ⟨gb323, 3, none⟩ = some (.slice Ao44 t319.length co44) := (blk_cell BK323.out 3).trans rfl; have hfz86_0 := blk_frozen BK323.out 0; have hfz86_1 := blk_frozen BK323.out 1; have hfz86_2 := blk_frozen BK323.out 2; have hfz86_3 := blk_frozen BK323.out 3; have hnb87 := NB277_0.out; have hnc87 := NB0_277.out; have hcz88_0 : w82.cell? ⟨gb277, 0, none⟩ = some (.int .i64 0) := (blk_cell BK277.out 0).trans rfl; have hcz88_1 : w82.cell? ⟨gb277, 1, none⟩ = some (.int .i64 0) := (blk_cell BK277.out 1).trans rfl; have hcz88_2 : w82.cell? ⟨gb277, 2, none⟩ = some (.slice none 0 0) := (blk_cell BK277.out 2).trans rfl; have hcz88_3 : w82.cell? ⟨gb277, 3, none⟩ = some (.slice none 0 0) := (blk_cell BK277.out 3).trans rfl; have hfz88_0 := blk_frozen BK277.out 0; have hfz88_1 := blk_frozen BK277.out 1; have hfz88_2 := blk_frozen BK277.out 2; have hfz88_3 := blk_frozen BK277.out 3))
                   refine bodyPost_ret (results_cell_row rfl _ _ gb277 26 #[.int .i64 (rd y335 t338), .int .i64 t315, .slice Ao43 t316.length co43, .slice Ao44 t319.length co44] (0, 0) _ rfl (by (with_reducible repeat (first | refine blk_drewN ?_ _ | refine blk_drew ?_ | refine blk_alloc ?_ _)); refine blk_put (cs := #[.int .i64 (rd y335 t338), .int .i64 t315, .slice Ao43 t316.length co43, .slice none 0 0]) ?_ 3 _ rfl; (with_reducible repeat (first | refine blk_drewN ?_ _ | refine blk_drew ?_ | refine blk_alloc ?_ _)); refine blk_put (cs := #[.int .i64 (rd y335 t338), .int .i64 t315, .slice none 0 0, .slice none 0 0]) ?_ 2 _ rfl; (with_reducible repeat (first | refine blk_drewN ?_ _ | refine blk_drew ?_ | refine blk_alloc ?_ _)); refine blk_put (cs := #[.int .i64 (rd y335 t338), .int .i64 0, .slice none 0 0, .slice none 0 0]) ?_ 1 _ rfl; (with_reducible repeat (first | refine blk_drewN ?_ _ | refine blk_drew ?_ | refine blk_alloc ?_ _)); refine blk_put (cs := #[.int .i64 0, .int .i64 0, .slice none 0 0, .slice none 0 0]) ?_ 0 _ rfl; (with_reducible repeat (first | refine blk_drewN ?_ _ | refine blk_drew ?_ | refine blk_alloc ?_ _)); refine blk_far ?_ NB277_323.out _; (with_reducible repeat (first | refine blk_drewN ?_ _ | refine blk_drew ?_ | refine blk_alloc ?_ _)); exact BK277.out) Tryd.underlying26 rfl (by kernel_rfl)) rfl ?_
                   exact ⟨_, _, o30, (by (with_reducible repeat (first | apply Kd.Q_alloc | apply Kd.Q_drewN | apply Kd.Q_drew)); exact Kd.Q_mono (Kd.Q_far (p := ⟨gb277, 3, none⟩) (Kd.Q_far (p := ⟨gb277, 2, none⟩) (Kd.Q_far (p := ⟨gb277, 1, none⟩) (Kd.Q_far (p := ⟨gb277, 0, none⟩) (Kd.Q_far (p := ⟨gb323, 0, none⟩) (Kd.Q_types (Kd.Q_types HO_324002.out BK323.out (by decide)) BK277.out (by decide)) (fun _ hk => hk.1.2) (.int .i64 (rd y335 t338))) (fun _ hk => hk.2) (.int .i64 (rd y335 t338))) (fun _ hk => hk.2) (.int .i64 t315)) (fun _ hk => hk.2) (.slice Ao43 t316.length co43)) (fun _ hk => hk.2) (.slice Ao44 t319.length co44)) (fun _ hk => hk.1.1.1)), (by (with_reducible repeat (first | apply Kd.R_alloc | apply Kd.R_drewN | apply Kd.R_drew)); exact Kd.R_mono (Kd.R_far (p := ⟨gb277, 3, none⟩) (Kd.R_far (p := ⟨gb277, 2, none⟩) (Kd.R_far (p := ⟨gb277, 1, none⟩) (Kd.R_far (p := ⟨gb277, 0, none⟩) (Kd.R_far (p := ⟨gb323, 0, none⟩) (Kd.R_types (Kd.R_types HO_324003.out BK323.out (by decide)) BK277.out (by decide)) (fun _ hk => hk.1.2) (.int .i64 (rd y335 t338))) (fun _ hk => hk.2) (.int .i64 (rd y335 t338))) (fun _ hk => hk.2) (.int .i64 t315)) (fun _ hk => hk.2) (.slice Ao43 t316.length co43)) (fun _ hk => hk.2) (.slice Ao44 t319.length co44)) (fun _ hk => hk.1.1.1)), o1, o6, o19⟩
                  ·rw [if_neg c78] at H
                   exact absurd H (by simp)
                 ·rw [if_neg c77] at H
                  exact absurd H (by simp)
                ·rw [if_neg c75] at H
                 have c75b0 : (t327 == 2) = false := beq_eq_false_iff_ne.mpr c75
                 have c75b1 : (t327 != 2) = true := bne_iff_ne.mpr c75
                 by_cases c89 : t327 = 3
                 ·rw [if_pos c89] at H
                  have c89b0 : (t327 == 3) = true := beq_iff_eq.mpr c89
                  have c89b1 : (t327 != 3) = false := bne_eq_false_iff_eq.mpr c89
                  clear c89
                  by_cases c90 : 1 < (t316.length : Int)
                  ·rw [if_pos c90] at H
                   have c90b0 : decide (1 < (t316.length : Int)) = true := decide_eq_true c90
                   have c90b1 : decide (1 < t316.length) = true := decide_eq_true (by omega)
                   clear c90
                   by_cases c91 : 0 < (t316.length : Int)
                   ·rw [if_pos c91] at H
                    have c91b0 : decide (0 < (t316.length : Int)) = true := decide_eq_true c91
                    have c91b1 : decide (0 < t316.length) = true := decide_eq_true (by omega)
                    clear c91
                    obtain ⟨y343, hy343⟩ : ∃ y_ : List Int, y_ = (t316.set (0 : Int).toNat (rd t316 1)) := ⟨_, rfl⟩
                    replace H : (some (t314, t315, y343, t319, t328, t329)) = some (r1, r2, r3, r4, r5, r6) := by first | (rw [hy343]; with_reducible exact H) | (have H2_ := (Option.bind_some _ _).symm.trans H; rw [hy343]; with_reducible exact H2_) | (have H2_ := (Option.bind_some _ _).symm.trans H; with_reducible exact H2_) | with_reducible exact H | (rw [hy343]; exact H) | exact H
                    have Ny343 := Aside0.mk hy343
                    clear hy343
                    simp only [Option.some.injEq, Prod.mk.injEq] at H
                    obtain ⟨rfl, rfl, rfl, rfl, rfl, rfl⟩ := H
                    try go_wp2_with (first | ((with_reducible refine gate_callee (f := 52) rfl ?_); refine goesL_ (some 48) rfl rfl Tryd.func52 (by kernel_rfl) rfl #[.pointer (some ⟨g, 0, none⟩), .int .i64 4] rfl d0 ?_; (with_reducible refine (spec_l1Below.calls g s0_0 x1001_26 x1002_26 4 t327 t328 t329 w0 _ ?side1 ?side2 A53.out).mono ?_); (case side1 => exact o1); (case side2 => exact o6); rintro e w93 ⟨rfl, hi, hb, hk⟩; refine ⟨_, rfl, ?_⟩; have n0_ := Aside0.mk (Kd.Q_mono (Kd.Q_keep (IsS96.apartQ (show IsS96 w0 _ g s0_0 x1001_26 x1002_26 from o1) d72 (by decide)) hk (fun _ h => h.2)) (fun _ h => h.1)); have n1_ := Aside0.mk (Kd.R_mono (Kd.R_keep (IsS96.apart (show IsS96 w0 _ g s0_0 x1001_26 x1002_26 from o1) d73 (by decide)) hk (fun _ h => h.2)) (fun _ h => h.1)); have n2_ := Aside0.mk (KeepBut.blk hk (g' := gb277) (o := .cells #[.int .i64 0, .int .i64 0, .slice none 0 0, .slice none 0 0] 26 (0, 0)) d11 NB277_0.out (by simp)); have n3_ := Aside0.mk (KeepBut.blk hk (g' := gb323) (o := .cells #[.int .i64 t314, .int .i64 t315, .slice Ao43 t316.length co43, .slice Ao44 t319.length co44] 26 (0, 0)) d77 NB323_0.out (by simp)); have n4_ := Aside0.mk (KeepBut.trans d29 hk (.inl rfl)); have n5_ := Aside0.mk (hb); have n6_ := Aside0.mk (hi); clear HO_324002; clear HO_324003; clear BK277; clear BK323; clear HK; clear HB; clear HI0; have HO_324002 := n0_; have HO_324003 := n1_; have BK277 := n2_; have BK323 := n3_; have HK := n4_; have HB := n5_; have HI0 := n6_; clear n0_ n1_ n2_ n3_ n4_ n5_ n6_; (try clear hb); (try clear hb2); (try clear hk); (try clear hi)))
                    have n0_ := Aside0.mk (Kd.Q_drew HO_324002.out)
                    have n1_ := Aside0.mk (Kd.R_drew HO_324003.out)
                    have n2_ := Aside0.mk (blk_drew BK277.out)
                    have n3_ := Aside0.mk (blk_drew BK323.out)
                    have n4_ := Aside0.mk (IsS96.drew HI0.out)
                    have n5_ := Aside0.mk (keep_drew HK.out)
                    have n6_ := Aside0.mk (below_drew1 HB.out)
                    clear HO_324002
                    clear HO_324003
                    clear BK277
                    clear BK323
                    clear HI0
                    clear HK
                    clear HB
                    have HO_324002 := n0_
                    have HO_324003 := n1_
                    have BK277 := n2_
                    have BK323 := n3_
                    have HI0 := n4_
                    have HK := n5_
                    have HB := n6_
                    clear n0_ n1_ n2_ n3_ n4_ n5_ n6_
                    have p342 : 0 ≤ (1 : Int) := (by omega)
                    have q342 : 1 < (t316.length : Int) := od_
                    obtain ⟨ad342, e342, hx342_0⟩ := Kd.at_int (Kd.Q_reads' HO_324002.out).2.2 1 p342 q342
                    cases e342
                    (try simp only [show (1 : Int).toNat = 1 from rfl, Nat.reduceMul, Nat.reduceEqDiff, Go.Addr.add, ↓reduceIte] at hx342_0)
                    have qi342 : (1 < t316.length) = True := eq_true (by omega)
                    (try rw [show ((1 : Int)).toNat = 1 from rfl] at hx342_0)
                    replace p342 := eq_true p342
                    replace q342 := eq_true q342
                    have p92 : 0 ≤ (0 : Int) := (by omega)
                    have q92 : (0 : Int) < ((t316.length : Int) : Int) := od_
                    have qi92 : (0 < t316.length) = True := eq_true (by omega)
                    obtain ⟨go92, oo92, co92, eo92, gb92, gl92, cl92, HG92⟩ := Kd.Q_form HO_324002.out (by omega)
                    (first | cases eo92 | (injection eo92 with ea_ en_ ec_; (first | subst ea_ | (injection ea_ with ea_; subst ea_)); subst ec_; clear en_))
                    have GB92 := Aside0.mk gb92
                    have GG92 := Aside0.mk HG92
                    clear gb92 gl92 HG92
                    (first | simp only [add_at] at hx342_0 | skip)
                    obtain ⟨hx92_0, hf92_0⟩ := Kd.Q_cell 0 HO_324002.out (0 : Int) p92 q92
                    (try rw [show ((0 : Int)).toNat = 0 from rfl] at hx92_0)
                    (try simp only [Nat.reduceMul, Nat.zero_mul, Nat.zero_add, Nat.add_zero, Nat.reduceAdd] at hx92_0)
                    (try rw [show ((0 : Int)).toNat = 0 from rfl] at hf92_0)
                    (try simp only [Nat.reduceMul, Nat.zero_mul, Nat.zero_add, Nat.add_zero, Nat.reduceAdd] at hf92_0)
                    replace p92 := eq_true p92
                    replace q92 := eq_true q92
                    have HN0_go92 := Aside0.mk (show g ≠ go92 from (by have h_ := IsS96.own_neQ HI0.out HO_324002.out (by decide); intro e_; exact h_ (by rw [e_]; rfl)))
                    have HP95 := (Kd.Q_putg HO_324002.out (0 : Int) (by omega) (by have h_ : (0 : Int) < ((t316.length : Int) : Int) := od_; first | exact h_ | (have e_ := (Kd.Q_reads' HO_324002.out).1; omega) | simpa using h_) (rd t316 1)).1
                    rw [← Ny343.out] at HP95
                    have HQ95 := Aside0.mk HP95
                    clear HP95
                    refine start_ (n := 8) (S := fun w' => w'.cell? ⟨gb323, 0, none⟩ = some (.int .i64 t314) ∧ w'.cell? ⟨gb323, 1, none⟩ = some (.int .i64 t315) ∧ w'.cell? ⟨gb323, 2, none⟩ = some (.slice (some ⟨go92, oo92, none⟩) t316.length co43) ∧ w'.cell? ⟨gb323, 3, none⟩ = some (.slice Ao44 t319.length co44) ∧ w'.cell? ⟨go92, oo92 + 1, none⟩ = some (.int .i64 (rd t316 1))) (ds := [7]) (bA 8 0) (by kernel_rfl) rfl rfl ⟨(blk_cell BK323.out 0).trans rfl, (blk_cell BK323.out 1).trans rfl, (blk_cell BK323.out 2).trans rfl, (blk_cell BK323.out 3).trans rfl, hx342_0⟩ (fun hHeld => ?_); refine with_tabW spec_l15DrawProof.tab19 spec_l15DrawProof.bits19 (fun HT_ HW_ => ?_)
                    generalize w93.drew = w94 at HO_324002 HO_324003 BK277 BK323 HI0 HK HB GG92 HQ95 hf92_0 hx342_0 hx92_0 hHeld ⊢
                    refine pv (i := 0) (N := some 75) (bA 8 1) rfl rfl o0 ?_
                    refine pv (i := 2) (N := some 77) (bA 8 5) rfl rfl o0 ?_
                    refine take_ (i := 1) (N := some 76) (v := ?_) (a' := ?_) (bA 8 7) rfl rfl o5 (fun _ _ _ h => h) (Or.inl ⟨(by rfl), ?_⟩) hHeld ?_ ?_
                    rotate_left
                    ·rintro w' ⟨s0, s1, s2, s3, s4⟩
                     go_simp
                     with_reducible rfl
                    rotate_left
                    ·simp only [sp_]
                     rfl
                    refine take_ (i := 3) (N := some 78) (v := ?_) (a' := ?_) (bA 8 15) rfl rfl o5 (fun _ _ _ h => h) (Or.inl ⟨(by rfl), ?_⟩) hHeld ?_ ?_
                    rotate_left
                    ·rintro w' ⟨s0, s1, s2, s3, s4⟩
                     go_simp
                     with_reducible rfl
                    rotate_left
                    ·simp only [sp_]
                     rfl
                    refine pv (i := 4) (N := some 79) (bA 8 31) rfl rfl o0 ?_
                    refine take_ (i := 5) (N := some 80) (v := ?_) (a' := ?_) (bA 8 63) rfl rfl o5 (fun _ _ _ h => h) (Or.inl ⟨(by rfl), ?_⟩) hHeld ?_ ?_
                    rotate_left
                    ·rintro w' ⟨s0, s1, s2, s3, s4⟩
                     go_simp
                     with_reducible rfl
                    rotate_left
                    ·simp only [sp_]
                     rfl
                    refine pv (i := 6) (N := some 81) (bA 8 127) rfl rfl o0 ?_
                    refine last_ (i := 7) (N := none) (bA 8 255) rfl rfl (one_of HT_.out (by kernel_rfl)) (by decide) (fun K hK => ?_)
                    refine skip_ (w1 := ?_) (by rfl) rfl ?_ ?_
                    rotate_left
                    ·go_simp
                     rfl
                    refine hK.out _ _ ?_
                    clear hK K
                    refine done_ (done_of HT_.out (by kernel_rfl)) ?_
                    have n0_ : Aside0 (Kd.Q (Kd.int .i64) 2 (w94.setCell ⟨go92, oo92, none⟩ (.int .i64 (rd t316 1))) w.heap.size (fun k_ => some k_ ≠ (.slice Ao44 t319.length co44 : Value).ownBlock) (.slice (some ⟨go92, oo92, none⟩) t316.length co43) y343) := ⟨(by (with_reducible repeat (first | apply Kd.Q_alloc | apply Kd.Q_drewN | apply Kd.Q_drew)); exact HQ95.out)⟩
                    have n1_ : Aside0 (Kd.R (Kd.int .i64) 2 (w94.setCell ⟨go92, oo92, none⟩ (.int .i64 (rd t316 1))) w.heap.size (fun k_ => some k_ ≠ (.slice (some ⟨go92, oo92, none⟩) t316.length co43 : Value).ownBlock) (.slice Ao44 t319.length co44) t319) := ⟨(by (with_reducible repeat (first | apply Kd.R_alloc | apply Kd.R_drewN | apply Kd.R_drew)); exact Kd.R_mono (Kd.R_far (p := ⟨go92, oo92, none⟩) (Kd.R_mono HO_324003.out (fun k_ hk => (⟨hk, fun e_ => hk (by rw [e_]; rfl)⟩ : _ ∧ k_ ≠ go92))) (fun _ hk => hk.2) (.int .i64 (rd t316 1))) (fun _ hk => hk.1))⟩
                    have n2_ : Aside0 ((w94.setCell ⟨go92, oo92, none⟩ (.int .i64 (rd t316 1))).heap[gb277]? = some (.cells #[.int .i64 0, .int .i64 0, .slice none 0 0, .slice none 0 0] 26 (0, 0))) := ⟨(by (with_reducible repeat (first | refine blk_drewN ?_ _ | refine blk_drew ?_ | refine blk_alloc ?_ _)); refine blk_far ?_ (by have h_ := Kd.Q_ne HO_324002.out BK277.out (by decide); intro e_; exact h_ (by rw [e_]; rfl)) _; (with_reducible repeat (first | refine blk_drewN ?_ _ | refine blk_drew ?_ | refine blk_alloc ?_ _)); exact BK277.out)⟩
                    have n3_ : Aside0 ((w94.setCell ⟨go92, oo92, none⟩ (.int .i64 (rd t316 1))).heap[gb323]? = some (.cells #[.int .i64 t314, .int .i64 t315, .slice (some ⟨go92, oo92, none⟩) t316.length co43, .slice Ao44 t319.length co44] 26 (0, 0))) := ⟨(by (with_reducible repeat (first | refine blk_drewN ?_ _ | refine blk_drew ?_ | refine blk_alloc ?_ _)); refine blk_far ?_ (by have h_ := Kd.Q_ne HO_324002.out BK323.out (by decide); intro e_; exact h_ (by rw [e_]; rfl)) _; (with_reducible repeat (first | refine blk_drewN ?_ _ | refine blk_drew ?_ | refine blk_alloc ?_ _)); exact BK323.out)⟩
                    have n4_ : Aside0 (IsS96 w0 (w94.setCell ⟨go92, oo92, none⟩ (.int .i64 (rd t316 1))) g s0_0 t328 t329) := ⟨(by repeat (first | (with_reducible first | exact HI0.out | apply IsS96.alloc | apply IsS96.drewN | apply IsS96.drew | apply IsS96.set_1 | apply IsS96.set_2 | refine IsS96.far ?_ HN0_go92.out _ | refine IsS96.far ?_ NB0_277.out _ | refine IsS96.far ?_ NB0_323.out _) | exact HI0.out))⟩
                    have n5_ : Aside0 (KeepBut w (w94.setCell ⟨go92, oo92, none⟩ (.int .i64 (rd t316 1))) g none) := ⟨(by repeat (first | (with_reducible first | exact HK.out | apply KeepBut.set_ | apply keep_drewN | apply keep_drew | apply keep_alloc | refine keep_far ?_ GB92.out _ | refine keep_far ?_ GW277.out _ | refine keep_far ?_ GW323.out _) | exact HK.out))⟩
                    have n6_ : Aside0 (Below w0.heap.size w0 (w94.setCell ⟨go92, oo92, none⟩ (.int .i64 (rd t316 1)))) := ⟨(by repeat (first | (with_reducible first | exact HB.out | apply below_alloc | apply pw_below_drewN | apply below_drew1 | refine below_set ?_ (Nat.le_trans HL.out GB92.out) | refine below_set ?_ (IsS96.ge HI0.out) | refine below_set ?_ GE277.out | refine below_set ?_ GE323.out) | exact HB.out))⟩
                    (try clear HO_324002)
                    (try clear HO_324003)
                    (try clear BK277)
                    (try clear BK323)
                    (try clear HI0)
                    (try clear HK)
                    (try clear HB)
                    generalize (w94.setCell ⟨go92, oo92, none⟩ (.int .i64 (rd t316 1))) = w96 at n0_ n1_ n2_ n3_ n4_ n5_ n6_ ⊢
                    have HO_324002 := n0_
                    have HO_324003 := n1_
                    have BK277 := n2_
                    have BK323 := n3_
                    have HI0 := n4_
                    have HK := n5_
                    have HB := n6_
                    clear n0_ n1_ n2_ n3_ n4_ n5_ n6_
                    have hnb97 := NB323_277.out
                    have hnc97 := NB277_323.out
                    have hnb98 := NB323_0.out
                    have hnc98 := NB0_323.out
                    have hcz99_0 : w96.cell? ⟨gb323, 0, none⟩ = some (.int .i64 t314) := (blk_cell BK323.out 0).trans rfl
                    have hcz99_1 : w96.cell? ⟨gb323, 1, none⟩ = some (.int .i64 t315) := (blk_cell BK323.out 1).trans rfl
                    have hcz99_2 : w96.cell? ⟨gb323, 2, none⟩ = some (.slice (some ⟨go92, oo92, none⟩) t316.length co43) := (blk_cell BK323.out 2).trans rfl
                    have hcz99_3 : w96.cell? ⟨gb323, 3, none⟩ = some (.slice Ao44 t319.length co44) := (blk_cell BK323.out 3).trans rfl
                    have hfz99_0 := blk_frozen BK323.out 0
                    have hfz99_1 := blk_frozen BK323.out 1
                    have hfz99_2 := blk_frozen BK323.out 2
                    have hfz99_3 := blk_frozen BK323.out 3
                    have hnb100 := NB277_0.out
                    have hnc100 := NB0_277.out
                    have hcz101_0 : w96.cell? ⟨gb277, 0, none⟩ = some (.int .i64 0) := (blk_cell BK277.out 0).trans rfl
                    have hcz101_1 : w96.cell? ⟨gb277, 1, none⟩ = some (.int .i64 0) := (blk_cell BK277.out 1).trans rfl
                    have hcz101_2 : w96.cell? ⟨gb277, 2, none⟩ = some (.slice none 0 0) := (blk_cell BK277.out 2).trans rfl
                    have hcz101_3 : w96.cell? ⟨gb277, 3, none⟩ = some (.slice none 0 0) := (blk_cell BK277.out 3).trans rfl
                    have hfz101_0 := blk_frozen BK277.out 0
                    have hfz101_1 := blk_frozen BK277.out 1
                    have hfz101_2 := blk_frozen BK277.out 2
                    have hfz101_3 := blk_frozen BK277.out 3
                    try go_wp2
                    refine bodyPost_ret (results_cell_row rfl _ _ gb277 26 #[.int .i64 t314, .int .i64 t315, .slice (some ⟨go92, oo92, none⟩) t316.length co43, .slice Ao44 t319.length co44] (0, 0) _ rfl (by (with_reducible repeat (first | refine blk_drewN ?_ _ | refine blk_drew ?_ | refine blk_alloc ?_ _)); refine blk_put (cs := #[.int .i64 t314, .int .i64 t315, .slice (some ⟨go92, oo92, none⟩) t316.length co43, .slice none 0 0]) ?_ 3 _ rfl; (with_reducible repeat (first | refine blk_drewN ?_ _ | refine blk_drew ?_ | refine blk_alloc ?_ _)); refine blk_put (cs := #[.int .i64 t314, .int .i64 t315, .slice none 0 0, .slice none 0 0]) ?_ 2 _ rfl; (with_reducible repeat (first | refine blk_drewN ?_ _ | refine blk_drew ?_ | refine blk_alloc ?_ _)); refine blk_put (cs := #[.int .i64 t314, .int .i64 0, .slice none 0 0, .slice none 0 0]) ?_ 1 _ rfl; (with_reducible repeat (first | refine blk_drewN ?_ _ | refine blk_drew ?_ | refine blk_alloc ?_ _)); refine blk_put (cs := #[.int .i64 0, .int .i64 0, .slice none 0 0, .slice none 0 0]) ?_ 0 _ rfl; (with_reducible repeat (first | refine blk_drewN ?_ _ | refine blk_drew ?_ | refine blk_alloc ?_ _)); exact BK277.out) Tryd.underlying26 rfl (by kernel_rfl)) rfl ?_
                    exact ⟨_, _, o30, (by (with_reducible repeat (first | apply Kd.Q_alloc | apply Kd.Q_drewN | apply Kd.Q_drew)); exact Kd.Q_mono (Kd.Q_far (p := ⟨gb277, 3, none⟩) (Kd.Q_far (p := ⟨gb277, 2, none⟩) (Kd.Q_far (p := ⟨gb277, 1, none⟩) (Kd.Q_far (p := ⟨gb277, 0, none⟩) (Kd.Q_types HO_324002.out BK277.out (by decide)) (fun _ hk => hk.2) (.int .i64 t314)) (fun _ hk => hk.2) (.int .i64 t315)) (fun _ hk => hk.2) (.slice (some ⟨go92, oo92, none⟩) t316.length co43)) (fun _ hk => hk.2) (.slice Ao44 t319.length co44)) (fun _ hk => hk.1)), (by (with_reducible repeat (first | apply Kd.R_alloc | apply Kd.R_drewN | apply Kd.R_drew)); exact Kd.R_mono (Kd.R_far (p := ⟨gb277, 3, none⟩) (Kd.R_far (p := ⟨gb277, 2, none⟩) (Kd.R_far (p := ⟨gb277, 1, none⟩) (Kd.R_far (p := ⟨gb277, 0, none⟩) (Kd.R_types HO_324003.out BK277.out (by decide)) (fun _ hk => hk.2) (.int .i64 t314)) (fun _ hk => hk.2) (.int .i64 t315)) (fun _ hk => hk.2) (.slice (some ⟨go92, oo92, none⟩) t316.length co43)) (fun _ hk => hk.2) (.slice Ao44 t319.length co44)) (fun _ hk => hk.1)), o1, o6, o19⟩
                   ·rw [if_neg c91] at H
                    exact absurd H (by simp)
                  ·rw [if_neg c90] at H
                   exact absurd H (by simp)
                 ·rw [if_neg c89] at H
                  have c89b0 : (t327 == 3) = false := beq_eq_false_iff_ne.mpr c89
                  have c89b1 : (t327 != 3) = true := bne_iff_ne.mpr c89
                  simp only [Option.some.injEq, Prod.mk.injEq] at H
                  obtain ⟨rfl, rfl, rfl, rfl, rfl, rfl⟩ := H
                  go_wp2_with (first | ((with_reducible refine gate_callee (f := 52) rfl ?_); refine goesL_ (some 48) rfl rfl Tryd.func52 (by kernel_rfl) rfl #[.pointer (some ⟨g, 0, none⟩), .int .i64 4] rfl d0 ?_; (with_reducible refine (spec_l1Below.calls g s0_0 x1001_26 x1002_26 4 t327 t328 t329 w0 _ ?side1 ?side2 A53.out).mono ?_); (case side1 => exact o1); (case side2 => exact o6); rintro e w102 ⟨rfl, hi, hb, hk⟩; refine ⟨_, rfl, ?_⟩; have n0_ := Aside0.mk (Kd.Q_mono (Kd.Q_keep (IsS96.apartQ (show IsS96 w0 _ g s0_0 x1001_26 x1002_26 from o1) d72 (by decide)) hk (fun _ h => h.2)) (fun _ h => h.1)); have n1_ := Aside0.mk (Kd.R_mono (Kd.R_keep (IsS96.apart (show IsS96 w0 _ g s0_0 x1001_26 x1002_26 from o1) d73 (by decide)) hk (fun _ h => h.2)) (fun _ h => h.1)); have n2_ := Aside0.mk (KeepBut.blk hk (g' := gb277) (o := .cells #[.int .i64 0, .int .i64 0, .slice none 0 0, .slice none 0 0] 26 (0, 0)) d11 NB277_0.out (by simp)); have n3_ := Aside0.mk (KeepBut.blk hk (g' := gb323) (o := .cells #[.int .i64 t314, .int .i64 t315, .slice Ao43 t316.length co43, .slice Ao44 t319.length co44] 26 (0, 0)) d77 NB323_0.out (by simp)); have n4_ := Aside0.mk (KeepBut.trans d29 hk (.inl rfl)); have n5_ := Aside0.mk (hb); have n6_ := Aside0.mk (hi); clear HO_324002; clear HO_324003; clear BK277; clear BK323; clear HK; clear HB; clear HI0; have HO_324002 := n0_; have HO_324003 := n1_; have BK277 := n2_; have BK323 := n3_; have HK := n4_; have HB := n5_; have HI0 := n6_; clear n0_ n1_ n2_ n3_ n4_ n5_ n6_; (try clear hb); (try clear hb2); (try clear hk); (try clear hi); have hnb103 := NB323_277.out; have hnc103 := NB277_323.out; have hnb104 := NB323_0.out; have hnc104 := NB0_323.out; have hcz105_0 : w102.cell? ⟨gb323, 0, none⟩ = some (.int .i64 t314) := (blk_cell BK323.out 0).trans rfl; have hcz105_1 : w102.cell? ⟨gb323, 1, none⟩ = some (.int .i64 t315) := (blk_cell BK323.out 1).trans rfl; have hcz105_2 : w102.cell? ⟨gb323, 2, none⟩ = some (.slice Ao43 t316.length co43) := (blk_cell BK323.out 2).trans rfl; have hcz105_3 : w102.cell? ⟨gb323, 3, none⟩ = some (.slice Ao44 t319.length co44) := (blk_cell BK323.out 3).trans rfl; have hfz105_0 := blk_frozen BK323.out 0; have hfz105_1 := blk_frozen BK323.out 1; have hfz105_2 := blk_frozen BK323.out 2; have hfz105_3 := blk_frozen BK323.out 3; have hnb106 := NB277_0.out; have hnc106 := NB0_277.out; have hcz107_0 : w102.cell? ⟨gb277, 0, none⟩ = some (.int .i64 0) := (blk_cell BK277.out 0).trans rfl; have hcz107_1 : w102.cell? ⟨gb277, 1, none⟩ = some (.int .i64 0) := (blk_cell BK277.out 1).trans rfl; have hcz107_2 : w102.cell? ⟨gb277, 2, none⟩ = some (.slice none 0 0) := (blk_cell BK277.out 2).trans rfl; have hcz107_3 : w102.cell? ⟨gb277, 3, none⟩ = some (.slice none 0 0) := (blk_cell BK277.out 3).trans rfl; have hfz107_0 := blk_frozen BK277.out 0; have hfz107_1 := blk_frozen BK277.out 1; have hfz107_2 := blk_frozen BK277.out 2; have hfz107_3 := blk_frozen BK277.out 3))
                  refine bodyPost_ret (results_cell_row rfl _ _ gb277 26 #[.int .i64 t314, .int .i64 t315, .slice Ao43 t316.length co43, .slice Ao44 t319.length co44] (0, 0) _ rfl d31 Tryd.underlying26 rfl (by kernel_rfl)) rfl ?_
                  exact ⟨_, _, o30, (by (with_reducible repeat (first | apply Kd.Q_alloc | apply Kd.Q_drewN | apply Kd.Q_drew)); exact Kd.Q_mono (Kd.Q_far (p := ⟨gb277, 3, none⟩) (Kd.Q_far (p := ⟨gb277, 2, none⟩) (Kd.Q_far (p := ⟨gb277, 1, none⟩) (Kd.Q_far (p := ⟨gb277, 0, none⟩) (Kd.Q_types HO_324002.out BK277.out (by decide)) (fun _ hk => hk.2) (.int .i64 t314)) (fun _ hk => hk.2) (.int .i64 t315)) (fun _ hk => hk.2) (.slice Ao43 t316.length co43)) (fun _ hk => hk.2) (.slice Ao44 t319.length co44)) (fun _ hk => hk.1)), (by (with_reducible repeat (first | apply Kd.R_alloc | apply Kd.R_drewN | apply Kd.R_drew)); exact Kd.R_mono (Kd.R_far (p := ⟨gb277, 3, none⟩) (Kd.R_far (p := ⟨gb277, 2, none⟩) (Kd.R_far (p := ⟨gb277, 1, none⟩) (Kd.R_far (p := ⟨gb277, 0, none⟩) (Kd.R_types HO_324003.out BK277.out (by decide)) (fun _ hk => hk.2) (.int .i64 t314)) (fun _ hk => hk.2) (.int .i64 t315)) (fun _ hk => hk.2) (.slice Ao43 t316.length co43)) (fun _ hk => hk.2) (.slice Ao44 t319.length co44)) (fun _ hk => hk.1)), o1, o6, o19⟩
             ·replace c52 := Bool.eq_false_iff.mpr c52
              subst c52
              have H1 : (some (t314, t315, t316, t319, x1001_26, x1002_26)) = some (r1, r2, r3, r4, r5, r6) := by rw [if_neg (show ¬ (false = true) by decide)] at H; exact H
              clear H
              have H := H1
              clear H1
              simp only [Option.some.injEq, Prod.mk.injEq] at H
              obtain ⟨rfl, rfl, rfl, rfl, rfl, rfl⟩ := H
              have hnb108 := NB323_277.out
              have hnc108 := NB277_323.out
              have hnb109 := NB323_0.out
              have hnc109 := NB0_323.out
              have hcz110_0 : wc.cell? ⟨gb323, 0, none⟩ = some (.int .i64 t314) := (blk_cell BK323.out 0).trans rfl
              have hcz110_1 : wc.cell? ⟨gb323, 1, none⟩ = some (.int .i64 t315) := (blk_cell BK323.out 1).trans rfl
              have hcz110_2 : wc.cell? ⟨gb323, 2, none⟩ = some (.slice Ao43 t316.length co43) := (blk_cell BK323.out 2).trans rfl
              have hcz110_3 : wc.cell? ⟨gb323, 3, none⟩ = some (.slice Ao44 t319.length co44) := (blk_cell BK323.out 3).trans rfl
              have hfz110_0 := blk_frozen BK323.out 0
              have hfz110_1 := blk_frozen BK323.out 1
              have hfz110_2 := blk_frozen BK323.out 2
              have hfz110_3 := blk_frozen BK323.out 3
              have hnb111 := NB277_0.out
              have hnc111 := NB0_277.out
              have hcz112_0 : wc.cell? ⟨gb277, 0, none⟩ = some (.int .i64 0) := (blk_cell BK277.out 0).trans rfl
              have hcz112_1 : wc.cell? ⟨gb277, 1, none⟩ = some (.int .i64 0) := (blk_cell BK277.out 1).trans rfl
              have hcz112_2 : wc.cell? ⟨gb277, 2, none⟩ = some (.slice none 0 0) := (blk_cell BK277.out 2).trans rfl
              have hcz112_3 : wc.cell? ⟨gb277, 3, none⟩ = some (.slice none 0 0) := (blk_cell BK277.out 3).trans rfl
              have hfz112_0 := blk_frozen BK277.out 0
              have hfz112_1 := blk_frozen BK277.out 1
              have hfz112_2 := blk_frozen BK277.out 2
              have hfz112_3 := blk_frozen BK277.out 3
              go_wp2
              refine bodyPost_ret (results_cell_row rfl _ _ gb277 26 #[.int .i64 t314, .int .i64 t315, .slice Ao43 t316.length co43, .slice Ao44 t319.length co44] (0, 0) _ rfl d31 Tryd.underlying26 rfl (by kernel_rfl)) rfl ?_
              exact ⟨_, _, o30, (by (with_reducible repeat (first | apply Kd.Q_alloc | apply Kd.Q_drewN | apply Kd.Q_drew)); exact Kd.Q_mono (Kd.Q_far (p := ⟨gb277, 3, none⟩) (Kd.Q_far (p := ⟨gb277, 2, none⟩) (Kd.Q_far (p := ⟨gb277, 1, none⟩) (Kd.Q_far (p := ⟨gb277, 0, none⟩) (Kd.Q_types HO_324002.out BK277.out (by decide)) (fun _ hk => hk.2) (.int .i64 t314)) (fun _ hk => hk.2) (.int .i64 t315)) (fun _ hk => hk.2) (.slice Ao43 t316.length co43)) (fun _ hk => hk.2) (.slice Ao44 t319.length co44)) (fun _ hk => hk.1)), (by (with_reducible repeat (first | apply Kd.R_alloc | apply Kd.R_drewN | apply Kd.R_drew)); exact Kd.R_mono (Kd.R_far (p := ⟨gb277, 3, none⟩) (Kd.R_far (p := ⟨gb277, 2, none⟩) (Kd.R_far (p := ⟨gb277, 1, none⟩) (Kd.R_far (p := ⟨gb277, 0, none⟩) (Kd.R_types HO_324003.out BK277.out (by decide)) (fun _ hk => hk.2) (.int .i64 t314)) (fun _ hk => hk.2) (.int .i64 t315)) (fun _ hk => hk.2) (.slice Ao43 t316.length co43)) (fun _ hk => hk.2) (.slice Ao44 t319.length co44)) (fun _ hk => hk.1)), o1, o6, o19⟩
          ·rw [if_neg c25] at H
           exact absurd H (by simp)
         ·rw [if_neg c24] at H
          exact absurd H (by simp)
        ·rw [if_neg c23] at H
         exact absurd H (by simp)
       ·rw [if_neg c20] at H
        exact absurd H (by simp)
      ·rw [if_neg c19] at H
       exact absurd H (by simp)
     ·rw [if_neg c18] at H
      exact absurd H (by simp)

end Go.Proofs.YtokfpmkhfindmaaDoor.PFnProofs
