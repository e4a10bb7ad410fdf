-- Written by a program of this session (wip/tools/pp.py over the kit's print).
import Derived.Test.YtokfpmkhfindmaaDoorPFnProofsx0
import Derived.Test.YtokfpmkhfindmaaDoorPFnProofsx5
import Derived.Test.YtokfpmkhfindmaaDoorPFnProofsx7
namespace Go.Proofs.YtokfpmkhfindmaaDoor.PFnProofs
open Go.RowKit Go.Proofs.YtokfpmkhfindmaaDoorW.PrintWords Go.Proofs.YtokfpmkhfindmaaDoorW.PrintLast Go.Proofs.YtokfpmkhfindmaaDoorW.PrintMore
attribute [local go_sem] max2_int min2_int max_two min_two max_three min_three max_four min_four
attribute [local go_sem high] str_gtr str_leq str_geq
set_option linter.unusedVariables false
set_option linter.unusedSimpArgs false

/-! ### impl_Gathered: function 10 -/
mutual
def impl_Gathered.j0 : Nat → List (S43) → Bool → Int → Option (Int × Int × List Int × List Int × Bool)
 | 0, _, _, _ => none
 | k + 1, x0, x16, x158000 => if x16 = true then (some (0, 0, ([] : List Int), ([] : List Int), false)) else (if 0 < (x0.length : Int) then (impl_Gathered.l0 k x0 x158000 0 x158000 ((rd_T43 x0 0).f0) ((rd_T43 x0 0).f1) ([] : List Int) ([] : List Int)) else (none))
def impl_Gathered.l0 : Nat → List (S43) → Int → Int → Int → Int → Int → List Int → List Int → Option (Int × Int × List Int × List Int × Bool)
 | 0, _, _, _, _, _, _, _, _ => none
 | k + 1, x0, x27, x28, x158000, x163000, x163001, x163002, x163003 => if x28 < x27 then ((impl_Vote.f k x0 x28 x163000 x163001 x158000).bind fun t164 => (if t164 ≥ 0 then (if x163002.length < 17592186044416 then (if 0 ≤ t164 then (if t164 < (x0.length : Int) then (if x163003.length < 17592186044416 then (impl_Gathered.l0 k x0 x27 (wrap64 (x28 + 1)) x158000 x163000 x163001 (x163002 ++ [x28]) (x163003 ++ [(rd_T43 x0 t164).f3])) else (none)) else (none)) else (none)) else (none)) else (impl_Gathered.l0 k x0 x27 (wrap64 (x28 + 1)) x158000 x163000 x163001 x163002 x163003))) else ((impl_Quorum.f x158000).bind fun t172 => (if (x163002.length : Int) < t172 then (some (0, 0, ([] : List Int), ([] : List Int), false)) else (some (x163000, x163001, x163002, x163003, true))))
end
def impl_Gathered.f (k : Nat) (l0 : List (S43)) (a1 : Int) : Option (Int × Int × List Int × List Int × Bool) := if (l0.length : Int) = 0 then (impl_Gathered.j0 k l0 true a1) else ((impl_Quorum.f a1).bind fun t159 => (impl_Gathered.j0 k l0 (decide (t159 < 0)) a1))
theorem impl_Gathered.mono_l : ∀ k, (∀ y0 y1 y2, LeO (impl_Gathered.j0 k y0 y1 y2) (impl_Gathered.j0 (k + 1) y0 y1 y2)) ∧ (∀ y0 y1 y2 y3 y4 y5 y6 y7, LeO (impl_Gathered.l0 k y0 y1 y2 y3 y4 y5 y6 y7) (impl_Gathered.l0 (k + 1) y0 y1 y2 y3 y4 y5 y6 y7))
 | 0 => ⟨fun _ _ _ r h => by simp [impl_Gathered.j0] at h, fun _ _ _ _ _ _ _ _ r h => by simp [impl_Gathered.l0] at h⟩
 | k + 1 => by
  obtain ⟨ih0, ih1⟩ := impl_Gathered.mono_l k
  refine ⟨?_, ?_⟩
  ·intro y0 y1 y2
   unfold impl_Gathered.j0
   repeat' first
   | (with_reducible exact ih0 _ _ _)
   | (with_reducible exact ih1 _ _ _ _ _ _ _ _)
   | (with_reducible exact impl_Vote.mono _ _ _ _ _ _)
   | (with_reducible exact LeO.refl _)
   | (with_reducible exact LeO.none _)
   | (with_reducible refine LeO.ite ?_ ?_)
   | (with_reducible refine LeO.bind ?_ (fun _ => ?_))
   | exact ih0 _ _ _
   | exact ih1 _ _ _ _ _ _ _ _
   | exact impl_Vote.mono _ _ _ _ _ _
   | exact LeO.none _
   | refine LeO.ite ?_ ?_
   | refine LeO.bind ?_ (fun _ => ?_)
  ·intro y0 y1 y2 y3 y4 y5 y6 y7
   unfold impl_Gathered.l0
   repeat' first
   | (with_reducible exact ih0 _ _ _)
   | (with_reducible exact ih1 _ _ _ _ _ _ _ _)
   | (with_reducible exact impl_Vote.mono _ _ _ _ _ _)
   | (with_reducible exact LeO.refl _)
   | (with_reducible exact LeO.none _)
   | (with_reducible refine LeO.ite ?_ ?_)
   | (with_reducible refine LeO.bind ?_ (fun _ => ?_))
   | exact ih0 _ _ _
   | exact ih1 _ _ _ _ _ _ _ _
   | exact impl_Vote.mono _ _ _ _ _ _
   | exact LeO.none _
   | refine LeO.ite ?_ ?_
   | refine LeO.bind ?_ (fun _ => ?_)
theorem impl_Gathered.mono : ∀ a0 a1 k, LeO (impl_Gathered.f k a0 a1) (impl_Gathered.f (k + 1) a0 a1) := by
 intro a0 a1 k
 obtain ⟨ih0, ih1⟩ := impl_Gathered.mono_l k
 unfold impl_Gathered.f
 repeat' first
   | (with_reducible exact ih0 _ _ _)
   | (with_reducible exact ih1 _ _ _ _ _ _ _ _)
   | (with_reducible exact impl_Vote.mono _ _ _ _ _ _)
   | (with_reducible exact LeO.refl _)
   | (with_reducible exact LeO.none _)
   | (with_reducible refine LeO.ite ?_ ?_)
   | (with_reducible refine LeO.bind ?_ (fun _ => ?_))
   | exact ih0 _ _ _
   | exact ih1 _ _ _ _ _ _ _ _
   | exact impl_Vote.mono _ _ _ _ _ _
   | exact LeO.none _
   | refine LeO.ite ?_ ?_
   | refine LeO.bind ?_ (fun _ => ?_)
def impl_Gathered.T3 : Bool × List (List Nat × List Nat) := (true, [([], []), ([0], [0]), ([1], [1]), ([2], [2]), ([], []), ([4], [4]), ([5], [5]), ([6], [6]), ([3, 7], [3, 7]), ([], []), ([9, 8, 0, 1, 2, 3, 4, 5, 6, 7, 8, 9], [8, 9])])
def impl_Gathered.B3 : List Nat := [0, 1, 3, 7, 0, 16, 48, 112, 255, 0, 1023]
theorem impl_Gathered.tab3 : rtab .any (opsOf Tryd.f10 3) = impl_Gathered.T3 := by kernel_rfl
theorem impl_Gathered.bits3 : waitsOk impl_Gathered.T3.2 impl_Gathered.B3 = true := by kernel_rfl
def impl_Gathered.T10 : Bool × List (List Nat × List Nat) := (true, [([], []), ([0], [0]), ([], []), ([], []), ([2, 3], [2, 3]), ([4], [4]), ([5], [5]), ([6], [6]), ([1, 7], [1, 7]), ([0, 1, 2, 3, 4, 5, 6, 7, 8], []), ([9, 8, 8, 0, 1, 2, 3, 4, 5, 6, 7, 8], [8, 9])])
def impl_Gathered.B10 : List Nat := [0, 1, 0, 0, 12, 28, 60, 124, 255, 511, 1023]
theorem impl_Gathered.tab10 : rtab .any (opsOf Tryd.f10 10) = impl_Gathered.T10 := by kernel_rfl
theorem impl_Gathered.bits10 : waitsOk impl_Gathered.T10.2 impl_Gathered.B10 = true := by kernel_rfl
set_option maxHeartbeats 8000000 in
set_option maxRecDepth 100000 in
theorem impl_Gathered.calls (k : Nat) (A0 : Option Addr) (c0 : Nat) (l0 : List (S43)) (a1 : Int) (r1 : Int) (r2 : Int) (r3 : List Int) (r4 : List Int) (r5 : Bool) (w : World) (hr0 : Kd.C k43 w A0 l0.length l0) (hc0 : l0.length ≤ c0) (h : impl_Gathered.f k l0 a1 = some (r1, r2, r3, r4, r5)) (hT : TabOk w) :
  Calls Tryd.prog 10 #[.slice A0 l0.length c0, .int .i64 a1] w fun e w' => ∃ v2_ v3_ : Value, e = .returned (.tuple #[.agg #[.int .i64 r1, .int .i64 r2, v2_, v3_], .bool r5]) ∧ Kd.R (Kd.int .i64) 2 w' w.heap.size (fun k_ => some k_ ≠ (v3_ : Value).ownBlock) v2_ r3 ∧ Kd.R (Kd.int .i64) 2 w' w.heap.size (fun k_ => some k_ ≠ (v2_ : Value).ownBlock) v3_ r4 ∧ Below w.heap.size w w' := by
 have HT := Aside0.mk hT
 clear hT
 have hu26 := Tryd.underlying26
 have HR0 := Aside0.mk hr0
 have HC0 := Aside0.mk hc0
 clear hr0 hc0
 have HB := Aside0.mk (Below.refl w.heap.size w)
 have H : (if (l0.length : Int) = 0 then (impl_Gathered.j0 k l0 true a1) else ((impl_Quorum.f a1).bind fun t159 => (impl_Gathered.j0 k l0 (decide (t159 < 0)) a1))) = some (r1, r2, r3, r4, r5) := h
 clear h
 have HC3 := Aside0.mk H
 clear H
 go_enter Tryd.func10, Tryd.ntmps10
 go_upto_region 1 with (first | ((with_reducible refine gate_dst (N := 3) rfl ?_); refine box_event ?hg (N := 3) ?hd (cs := #[.int .i64 a1]) (t := 2) ?hr ?_; (case hd => rfl); (case hg => rfl); (case hr => first | (go_simp; done) | (go_simp; rfl)); intro gb157 hg w4 hbox hb; have n0_ := Aside0.mk (below_step d1 hb); have n1_ := Aside0.mk (hbox); have n2_ := Aside0.mk ((by rw [hg]; exact (below_size d1) : w.heap.size ≤ gb157)); have n3_ := Aside0.mk ((by rw [hg]; exact (below_size d1) : w.heap.size ≤ gb157)); clear HB; have HB := n0_; have BK157 := n1_; have GW157 := n2_; have GE157 := n3_; clear n0_ n1_ n2_ n3_; clear hb hbox hg) | ((with_reducible refine gate_dst (N := 4) rfl ?_); refine box_event ?hg (N := 4) ?hd (cs := #[.int .i64 0, .int .i64 0, .slice none 0 0, .slice none 0 0]) (t := 26) ?hr ?_; (case hd => rfl); (case hg => rfl); (case hr => first | (go_simp; done) | (go_simp; rfl)); intro gb158 hg w5 hbox hb; have n0_ := Aside0.mk (blk_below (g := gb157) (o := .cells #[.int .i64 a1] 2 (0, 0)) d40 hb); have n1_ := Aside0.mk (below_step d100 hb); have n2_ := Aside0.mk (hbox); have n3_ := Aside0.mk ((by rw [hg]; exact (below_size d100) : w.heap.size ≤ gb158)); have n4_ := Aside0.mk ((by rw [hg]; exact (below_size d100) : w.heap.size ≤ gb158)); have n5_ := Aside0.mk ((by rw [hg]; exact Nat.ne_of_lt (blk_lt (g := gb157) (o := .cells #[.int .i64 a1] 2 (0, 0)) d40) : gb157 ≠ gb158)); have n6_ := Aside0.mk ((by rw [hg]; exact Nat.ne_of_gt (blk_lt (g := gb157) (o := .cells #[.int .i64 a1] 2 (0, 0)) d40) : gb158 ≠ gb157)); clear BK157; clear HB; have BK157 := n0_; have HB := n1_; have BK158 := n2_; have GW158 := n3_; have GE158 := n4_; have NB157_158 := n5_; have NB158_157 := n6_; clear n0_ n1_ n2_ n3_ n4_ n5_ n6_; clear hb hbox hg))
 (try simp only [Act.put, List.setIfInBounds_toArray, List.set_cons_zero, List.set_cons_succ])
 go_cut [16] (fun v16 wc => ∃ (kq : Nat) (x16_2 : Bool), v16 = .bool x16_2 ∧ Aside0 (impl_Gathered.j0 kq l0 x16_2 a1 = some (r1, r2, r3, r4, r5)) ∧ Aside0 (kq ≤ k) ∧ Aside0 (wc.heap[gb157]? = some (.cells #[.int .i64 a1] 2 (0, 0))) ∧ Aside0 (wc.heap[gb158]? = some (.cells #[.int .i64 0, .int .i64 0, (.slice none 0 0), (.slice none 0 0)] 26 (0, 0))) ∧ Aside0 (Below w.heap.size w wc))
 case first =>
  have H := HC3.out
  clear HC3
  by_cases c6 : (l0.length : Int) = 0
  ·rw [if_pos c6] at H
   have c6b0 : ((l0.length : Int) == 0) = true := beq_iff_eq.mpr c6
   have c6b1 : ((l0.length : Int) != 0) = false := bne_eq_false_iff_eq.mpr c6
   clear c6
   (first | rw [c6b0] | (simp only [i64_w, i32_w]; rw [c6b0]) | skip)
   try rw [c6b1]
   have H' := Aside0.mk H
   clear H
   go_wp2
   go_meet
   case rel => exact ⟨_, (true), d9, H', ⟨o42⟩, ⟨o85⟩, ⟨o86⟩, ⟨o60⟩⟩
  ·rw [if_neg c6] at H
   have c6b0 : ((l0.length : Int) == 0) = false := beq_eq_false_iff_ne.mpr c6
   have c6b1 : ((l0.length : Int) != 0) = true := bne_iff_ne.mpr c6
   have c6b2 : ¬ (l0 = []) := fun h_ => c6 (by rw [h_]; rfl)
   (first | rw [c6b0] | (simp only [i64_w, i32_w]; rw [c6b0]) | skip)
   try rw [c6b1]
   replace H := Option.bind_eq_some_iff.mp H
   obtain ⟨t159, A70, H⟩ := H
   replace H : (impl_Gathered.j0 k l0 (decide (t159 < 0)) a1) = some (r1, r2, r3, r4, r5) := H
   have A7 := Aside0.mk A70
   clear A70
   have H' := Aside0.mk H
   clear H
   have hnb8 := NB157_158.out
   have hnc8 := NB158_157.out
   have hcz9_0 : w5.cell? ⟨gb157, 0, none⟩ = some (.int .i64 a1) := (blk_cell BK157.out 0).trans rfl
   have hfz9_0 := blk_frozen BK157.out 0
   go_wp2_with (first | (go_at_call 39; (with_reducible refine (impl_Quorum.calls a1 t159 _ A7.out).mono ?_); rintro e w' ⟨rfl, ⟨nd, rfl⟩⟩))
   go_meet
   case rel => exact ⟨_, (decide (t159 < 0)), d9, H', ⟨o42⟩, ⟨o85⟩, ⟨o86⟩, ⟨o60⟩⟩
 case rest =>
  clear HC3
  try clear c1
  try clear p2
  try clear c6
  try clear c6b0
  try clear c6b1
  try clear c6b2
  try clear c8
  try clear hcz9_0
  try clear hfz9_0
  obtain ⟨kq, x16_2, rfl, HA, HJ2, BK157, BK158, HB⟩ := hcut
  cases kq with
  | zero => exact absurd HA.out (by simp [impl_Gathered.j0])
  | succ kj2 =>
   have H := HA.out
   clear HA
   simp only [impl_Gathered.j0] at H
   by_cases c10 : x16_2 = true
   ·subst c10
    have H1 : (some (0, 0, ([] : List Int), ([] : List Int), false)) = some (r1, r2, r3, r4, r5) := by rw [if_pos rfl] at H; exact H
    clear H
    have H := H1
    clear H1
    simp only [Option.some.injEq, Prod.mk.injEq] at H
    obtain ⟨rfl, rfl, rfl, rfl, rfl⟩ := H
    have hnb11 := NB158_157.out
    have hnc11 := NB157_158.out
    have hcz12_0 : wc.cell? ⟨gb158, 0, none⟩ = some (.int .i64 0) := (blk_cell BK158.out 0).trans rfl
    have hcz12_1 : wc.cell? ⟨gb158, 1, none⟩ = some (.int .i64 0) := (blk_cell BK158.out 1).trans rfl
    have hcz12_2 : wc.cell? ⟨gb158, 2, none⟩ = some (.slice none 0 0) := (blk_cell BK158.out 2).trans rfl
    have hcz12_3 : wc.cell? ⟨gb158, 3, none⟩ = some (.slice none 0 0) := (blk_cell BK158.out 3).trans rfl
    have hfz12_0 := blk_frozen BK158.out 0
    have hfz12_1 := blk_frozen BK158.out 1
    have hfz12_2 := blk_frozen BK158.out 2
    have hfz12_3 := blk_frozen BK158.out 3
    go_wp2
    refine bodyPost_ret (results_ct rfl _ _ gb158 26 #[.int .i64 0, .int .i64 0, .slice none 0 0, .slice none 0 0] (0, 0) _ rfl (by (with_reducible repeat (first | refine blk_drewN ?_ _ | refine blk_drew ?_ | refine blk_alloc ?_ _)); refine blk_put (cs := #[.int .i64 0, .int .i64 0, .slice none 0 0, .slice none 0 0]) ?_ 3 _ rfl; (with_reducible repeat (first | refine blk_drewN ?_ _ | refine blk_drew ?_ | refine blk_alloc ?_ _)); refine blk_put (cs := #[.int .i64 0, .int .i64 0, .slice none 0 0, .slice none 0 0]) ?_ 2 _ rfl; (with_reducible repeat (first | refine blk_drewN ?_ _ | refine blk_drew ?_ | refine blk_alloc ?_ _)); refine blk_put (cs := #[.int .i64 0, .int .i64 0, .slice none 0 0, .slice none 0 0]) ?_ 1 _ rfl; (with_reducible repeat (first | refine blk_drewN ?_ _ | refine blk_drew ?_ | refine blk_alloc ?_ _)); refine blk_put (cs := #[.int .i64 0, .int .i64 0, .slice none 0 0, .slice none 0 0]) ?_ 0 _ rfl; (with_reducible repeat (first | refine blk_drewN ?_ _ | refine blk_drew ?_ | refine blk_alloc ?_ _)); exact BK158.out) Tryd.underlying26 rfl (by kernel_rfl)) rfl ?_
    exact ⟨_, _, o2, o17, o17, o60⟩
   ·replace c10 := Bool.eq_false_iff.mpr c10
    subst c10
    have H1 : (if 0 < (l0.length : Int) then (impl_Gathered.l0 kj2 l0 a1 0 a1 ((rd_T43 l0 0).f0) ((rd_T43 l0 0).f1) ([] : List Int) ([] : List Int)) else (none)) = some (r1, r2, r3, r4, r5) := by rw [if_neg (show ¬ (false = true) by decide)] at H; exact H
    clear H
    have H := H1
    clear H1
    by_cases c13 : 0 < (l0.length : Int)
    ·rw [if_pos c13] at H
     have c13b0 : decide (0 < (l0.length : Int)) = true := decide_eq_true c13
     have c13b1 : decide (0 < l0.length) = true := decide_eq_true (by omega)
     clear c13
     have H' := Aside0.mk H
     clear H
     try go_wp2
     have n0_ := Aside0.mk (blk_drew BK157.out)
     have n1_ := Aside0.mk (blk_drew BK158.out)
     have n2_ := Aside0.mk (below_drew1 HB.out)
     clear BK157
     clear BK158
     clear HB
     have BK157 := n0_
     have BK158 := n1_
     have HB := n2_
     clear n0_ n1_ n2_
     have p160 : 0 ≤ (0 : Int) := (by omega)
     have q160 : 0 < (l0.length : Int) := od_
     obtain ⟨ad160, e160, hx160_0, hx160_1, hx160_2, hx160_3⟩ := at_T43 HR0.out 0 p160 q160
     have hw160_3 := hx160_3
     (try rw [show ((0 : Int)).toNat = 0 from rfl] at hw160_3)
     (try rw [show 0 * 4 = 0 from rfl] at hw160_3)
     (try rw [Addr.add_zero'] at hw160_3)
     have hw160_2 := hx160_2
     (try rw [show ((0 : Int)).toNat = 0 from rfl] at hw160_2)
     (try rw [show 0 * 4 = 0 from rfl] at hw160_2)
     (try rw [Addr.add_zero'] at hw160_2)
     have hw160_1 := hx160_1
     (try rw [show ((0 : Int)).toNat = 0 from rfl] at hw160_1)
     (try rw [show 0 * 4 = 0 from rfl] at hw160_1)
     (try rw [Addr.add_zero'] at hw160_1)
     have hw160_0 := hx160_0
     (try rw [show ((0 : Int)).toNat = 0 from rfl] at hw160_0)
     (try rw [show 0 * 4 = 0 from rfl] at hw160_0)
     (try rw [Addr.add_zero'] at hw160_0)
     cases e160
     have qi160 : (0 < l0.length) = True := eq_true (by omega)
     (try rw [show ((0 : Int)).toNat = 0 from rfl] at hx160_0)
     (try rw [show 0 * 4 = 0 from rfl] at hx160_0)
     (try rw [Addr.add_zero'] at hx160_0)
     (try rw [show ((0 : Int)).toNat = 0 from rfl] at hx160_1)
     (try rw [show 0 * 4 = 0 from rfl] at hx160_1)
     (try rw [Addr.add_zero'] at hx160_1)
     (try rw [show ((0 : Int)).toNat = 0 from rfl] at hx160_2)
     (try rw [show 0 * 4 = 0 from rfl] at hx160_2)
     (try rw [Addr.add_zero'] at hx160_2)
     (try rw [show ((0 : Int)).toNat = 0 from rfl] at hx160_3)
     (try rw [show 0 * 4 = 0 from rfl] at hx160_3)
     (try rw [Addr.add_zero'] at hx160_3)
     replace hx160_0 := (HB.out.cell (World.block_lt_of_cell? w _ hx160_0)).trans hx160_0
     replace hx160_1 := (HB.out.cell (World.block_lt_of_cell? w _ hx160_1)).trans hx160_1
     replace hx160_2 := (HB.out.cell (World.block_lt_of_cell? w _ hx160_2)).trans hx160_2
     replace hx160_3 := (HB.out.cell (World.block_lt_of_cell? w _ hx160_3)).trans hx160_3
     replace p160 := eq_true p160
     replace q160 := eq_true q160
     have p161 : 0 ≤ (0 : Int) := (by omega)
     have q161 : 0 < (l0.length : Int) := od_
     obtain ⟨ad161, e161, hx161_0, hx161_1, hx161_2, hx161_3⟩ := at_T43 HR0.out 0 p161 q161
     have hw161_3 := hx161_3
     (try rw [show ((0 : Int)).toNat = 0 from rfl] at hw161_3)
     (try rw [show 0 * 4 = 0 from rfl] at hw161_3)
     (try rw [Addr.add_zero'] at hw161_3)
     have hw161_2 := hx161_2
     (try rw [show ((0 : Int)).toNat = 0 from rfl] at hw161_2)
     (try rw [show 0 * 4 = 0 from rfl] at hw161_2)
     (try rw [Addr.add_zero'] at hw161_2)
     have hw161_1 := hx161_1
     (try rw [show ((0 : Int)).toNat = 0 from rfl] at hw161_1)
     (try rw [show 0 * 4 = 0 from rfl] at hw161_1)
     (try rw [Addr.add_zero'] at hw161_1)
     have hw161_0 := hx161_0
     (try rw [show ((0 : Int)).toNat = 0 from rfl] at hw161_0)
     (try rw [show 0 * 4 = 0 from rfl] at hw161_0)
     (try rw [Addr.add_zero'] at hw161_0)
     obtain rfl : ad160 = ad161 := (by injection e161)
     have qi161 : (0 < l0.length) = True := eq_true (by omega)
     (try rw [show ((0 : Int)).toNat = 0 from rfl] at hx161_0)
     (try rw [show 0 * 4 = 0 from rfl] at hx161_0)
     (try rw [Addr.add_zero'] at hx161_0)
     (try rw [show ((0 : Int)).toNat = 0 from rfl] at hx161_1)
     (try rw [show 0 * 4 = 0 from rfl] at hx161_1)
     (try rw [Addr.add_zero'] at hx161_1)
     (try rw [show ((0 : Int)).toNat = 0 from rfl] at hx161_2)
     (try rw [show 0 * 4 = 0 from rfl] at hx161_2)
     (try rw [Addr.add_zero'] at hx161_2)
     (try rw [show ((0 : Int)).toNat = 0 from rfl] at hx161_3)
     (try rw [show 0 * 4 = 0 from rfl] at hx161_3)
     (try rw [Addr.add_zero'] at hx161_3)
     replace hx161_0 := (HB.out.cell (World.block_lt_of_cell? w _ hx161_0)).trans hx161_0
     replace hx161_1 := (HB.out.cell (World.block_lt_of_cell? w _ hx161_1)).trans hx161_1
     replace hx161_2 := (HB.out.cell (World.block_lt_of_cell? w _ hx161_2)).trans hx161_2
     replace hx161_3 := (HB.out.cell (World.block_lt_of_cell? w _ hx161_3)).trans hx161_3
     replace p161 := eq_true p161
     replace q161 := eq_true q161
     refine start_ (n := 11) (S := fun w' => w'.cell? ad160 = some (.int .i64 ((rd_T43 l0 0).f0)) ∧ w'.cell? ⟨ad160.block, ad160.off + 1, none⟩ = some (.int .i64 ((rd_T43 l0 0).f1)) ∧ w'.cell? ⟨ad160.block, ad160.off + 2, none⟩ = some (.int .i64 ((rd_T43 l0 0).f2)) ∧ w'.cell? ⟨ad160.block, ad160.off + 3, none⟩ = some (.int .i64 ((rd_T43 l0 0).f3)) ∧ w'.cell? ad160 = some (.int .i64 ((rd_T43 l0 0).f0)) ∧ w'.cell? ⟨ad160.block, ad160.off + 1, none⟩ = some (.int .i64 ((rd_T43 l0 0).f1)) ∧ w'.cell? ⟨ad160.block, ad160.off + 2, none⟩ = some (.int .i64 ((rd_T43 l0 0).f2)) ∧ w'.cell? ⟨ad160.block, ad160.off + 3, none⟩ = some (.int .i64 ((rd_T43 l0 0).f3))) (ds := []) (bA 11 0) (by kernel_rfl) rfl rfl ⟨((HB.out.cell (World.block_lt_of_cell? w _ hw160_0)).trans hw160_0), ((HB.out.cell (World.block_lt_of_cell? w _ hw160_1)).trans hw160_1), ((HB.out.cell (World.block_lt_of_cell? w _ hw160_2)).trans hw160_2), ((HB.out.cell (World.block_lt_of_cell? w _ hw160_3)).trans hw160_3), ((HB.out.cell (World.block_lt_of_cell? w _ hw161_0)).trans hw161_0), ((HB.out.cell (World.block_lt_of_cell? w _ hw161_1)).trans hw161_1), ((HB.out.cell (World.block_lt_of_cell? w _ hw161_2)).trans hw161_2), ((HB.out.cell (World.block_lt_of_cell? w _ hw161_3)).trans hw161_3)⟩ (fun hHeld => ?_); refine with_tabW impl_Gathered.tab3 impl_Gathered.bits3 (fun HT_ HW_ => ?_)
     generalize wc.drew = w14 at BK157 BK158 HB hx160_0 hx160_1 hx160_2 hx160_3 hx161_0 hx161_1 hx161_2 hx161_3 hHeld ⊢
     refine pv (i := 0) (N := some 18) (bA 11 1) rfl rfl o0 ?_
     refine pv (i := 1) (N := some 19) (bA 11 3) rfl rfl o0 ?_
     refine pv (i := 2) (N := some 20) (bA 11 7) rfl rfl o0 ?_
     refine pv (i := 4) (N := some 22) (bA 11 23) rfl rfl o0 ?_
     refine pv (i := 5) (N := some 23) (bA 11 55) rfl rfl o0 ?_
     refine pv (i := 6) (N := some 24) (bA 11 119) rfl rfl o0 ?_
     refine take_ (i := 3) (N := some 21) (v := ?_) (a' := ?_) (bA 11 127) rfl rfl o5 (fun _ _ _ h => h) (Or.inl ⟨(by rfl), ?_⟩) hHeld ?_ ?_
     rotate_left
     ·rintro w' ⟨s0, s1, s2, s3, s4, s5, s6, s7⟩
      go_simp
      with_reducible rfl
     rotate_left
     ·simp only [sp_]
      rfl
     refine take_ (i := 7) (N := some 25) (v := ?_) (a' := ?_) (bA 11 255) rfl rfl o5 (fun _ _ _ h => h) (Or.inl ⟨(by rfl), ?_⟩) hHeld ?_ ?_
     rotate_left
     ·rintro w' ⟨s0, s1, s2, s3, s4, s5, s6, s7⟩
      go_simp
      with_reducible rfl
     rotate_left
     ·simp only [sp_]
      rfl
     refine pv (i := 8) (N := some 26) (bA 11 511) rfl rfl o0 ?_
     refine one_ (i := 9) (N := some 6) (bA 11 1023) rfl rfl (one_of HT_.out (by kernel_rfl)) (by decide) (fun K hK => ?_)
     refine box_step ?hg (N := 6) ?hd (cs := #[.int .i64 0, .int .i64 0, .slice none 0 0, .slice none 0 0]) (t := 26) ?hr ?_; (case hd => rfl); (case hg => rfl); (case hr => first | (go_simp; done) | (go_simp; rfl))
     intro gb162 hg w15 hbox hb
     have n0_ := Aside0.mk (blk_below (g := gb157) (o := .cells #[.int .i64 a1] 2 (0, 0)) d40 hb)
     have n1_ := Aside0.mk (blk_below (g := gb158) (o := .cells #[.int .i64 0, .int .i64 0, .slice none 0 0, .slice none 0 0] 26 (0, 0)) d70 hb)
     have n2_ := Aside0.mk (below_step d90 hb)
     have n3_ := Aside0.mk (hbox)
     have n4_ := Aside0.mk ((by rw [hg]; exact (below_size d90) : w.heap.size ≤ gb162))
     have n5_ := Aside0.mk ((by rw [hg]; exact (below_size d90) : w.heap.size ≤ gb162))
     have n6_ := Aside0.mk ((by rw [hg]; exact Nat.ne_of_lt (blk_lt (g := gb157) (o := .cells #[.int .i64 a1] 2 (0, 0)) d40) : gb157 ≠ gb162))
     have n7_ := Aside0.mk ((by rw [hg]; exact Nat.ne_of_gt (blk_lt (g := gb157) (o := .cells #[.int .i64 a1] 2 (0, 0)) d40) : gb162 ≠ gb157))
     have n8_ := Aside0.mk ((by rw [hg]; exact Nat.ne_of_lt (blk_lt (g := gb158) (o := .cells #[.int .i64 0, .int .i64 0, .slice none 0 0, .slice none 0 0] 26 (0, 0)) d70) : gb158 ≠ gb162))
     have n9_ := Aside0.mk ((by rw [hg]; exact Nat.ne_of_gt (blk_lt (g := gb158) (o := .cells #[.int .i64 0, .int .i64 0, .slice none 0 0, .slice none 0 0] 26 (0, 0)) d70) : gb162 ≠ gb158))
     clear BK157
     clear BK158
     clear HB
     have BK157 := n0_
     have BK158 := n1_
     have HB := n2_
     have BK162 := n3_
     have GW162 := n4_
     have GE162 := n5_
     have NB157_162 := n6_
     have NB162_157 := n7_
     have NB158_162 := n8_
     have NB162_158 := n9_
     clear n0_ n1_ n2_ n3_ n4_ n5_ n6_ n7_ n8_ n9_
     clear hb hbox hg
     refine hK.out _ _ ⟨((HB.out.cell (World.block_lt_of_cell? w _ hw160_0)).trans hw160_0), ((HB.out.cell (World.block_lt_of_cell? w _ hw160_1)).trans hw160_1), ((HB.out.cell (World.block_lt_of_cell? w _ hw160_2)).trans hw160_2), ((HB.out.cell (World.block_lt_of_cell? w _ hw160_3)).trans hw160_3), ((HB.out.cell (World.block_lt_of_cell? w _ hw161_0)).trans hw161_0), ((HB.out.cell (World.block_lt_of_cell? w _ hw161_1)).trans hw161_1), ((HB.out.cell (World.block_lt_of_cell? w _ hw161_2)).trans hw161_2), ((HB.out.cell (World.block_lt_of_cell? w _ hw161_3)).trans hw161_3)⟩ (fun hHeld => ?_)
     clear hK K
     refine norm_ (a' := ?_) ?_ ?_
     rotate_left
     ·show Act.put _ (some 6) _ = _
      simp only [sp_]
      rfl
     refine one_ (i := 10) (N := none) (bA 11 2047) rfl rfl (one_of HT_.out (by kernel_rfl)) (by decide) (fun K hK => ?_)
     have hs16 : w15.cell? ⟨gb162, 0, none⟩ = some (.int .i64 0) := (blk_cell BK162.out 0).trans rfl
     have hfs16 := blk_frozen BK162.out 0
     have hns16_0 := NB157_162.out
     have hns16_1 := NB158_162.out
     have hms16_0 := NB162_157.out
     have hms16_1 := NB162_158.out
     have hs17 : w15.cell? ⟨gb162, 1, none⟩ = some (.int .i64 0) := (blk_cell BK162.out 1).trans rfl
     have hfs17 := blk_frozen BK162.out 1
     have hns17_0 := NB157_162.out
     have hns17_1 := NB158_162.out
     have hms17_0 := NB162_157.out
     have hms17_1 := NB162_158.out
     have hs18 : w15.cell? ⟨gb162, 2, none⟩ = some (.slice none 0 0) := (blk_cell BK162.out 2).trans rfl
     have hfs18 := blk_frozen BK162.out 2
     have hns18_0 := NB157_162.out
     have hns18_1 := NB158_162.out
     have hms18_0 := NB162_157.out
     have hms18_1 := NB162_158.out
     have hs19 : w15.cell? ⟨gb162, 3, none⟩ = some (.slice none 0 0) := (blk_cell BK162.out 3).trans rfl
     have hfs19 := blk_frozen BK162.out 3
     have hns19_0 := NB157_162.out
     have hns19_1 := NB158_162.out
     have hms19_0 := NB162_157.out
     have hms19_1 := NB162_158.out
     refine skip_ (w1 := ?_) (by rfl) rfl ?_ ?_
     rotate_left
     ·go_simp
      rfl
     refine hK.out _ _ ⟨((cell_far (p := ⟨gb162, _, none⟩) d21 _).trans (((cell_far (p := ⟨gb162, _, none⟩) d21 _).trans (((cell_far (p := ⟨gb162, _, none⟩) d21 _).trans (((cell_far (p := ⟨gb162, _, none⟩) d21 _).trans (hHeld.1)))))))), ((cell_far (p := ⟨gb162, _, none⟩) d22 _).trans (((cell_far (p := ⟨gb162, _, none⟩) d22 _).trans (((cell_far (p := ⟨gb162, _, none⟩) d22 _).trans (((cell_far (p := ⟨gb162, _, none⟩) d22 _).trans (hHeld.2.1)))))))), ((cell_far (p := ⟨gb162, _, none⟩) d23 _).trans (((cell_far (p := ⟨gb162, _, none⟩) d23 _).trans (((cell_far (p := ⟨gb162, _, none⟩) d23 _).trans (((cell_far (p := ⟨gb162, _, none⟩) d23 _).trans (hHeld.2.2.1)))))))), ((cell_far (p := ⟨gb162, _, none⟩) d24 _).trans (((cell_far (p := ⟨gb162, _, none⟩) d24 _).trans (((cell_far (p := ⟨gb162, _, none⟩) d24 _).trans (((cell_far (p := ⟨gb162, _, none⟩) d24 _).trans (hHeld.2.2.2.1)))))))), ((cell_far (p := ⟨gb162, _, none⟩) d25 _).trans (((cell_far (p := ⟨gb162, _, none⟩) d25 _).trans (((cell_far (p := ⟨gb162, _, none⟩) d25 _).trans (((cell_far (p := ⟨gb162, _, none⟩) d25 _).trans (hHeld.2.2.2.2.1)))))))), ((cell_far (p := ⟨gb162, _, none⟩) d26 _).trans (((cell_far (p := ⟨gb162, _, none⟩) d26 _).trans (((cell_far (p := ⟨gb162, _, none⟩) d26 _).trans (((cell_far (p := ⟨gb162, _, none⟩) d26 _).trans (hHeld.2.2.2.2.2.1)))))))), ((cell_far (p := ⟨gb162, _, none⟩) d27 _).trans (((cell_far (p := ⟨gb162, _, none⟩) d27 _).trans (((cell_far (p := ⟨gb162, _, none⟩) d27 _).trans (((cell_far (p := ⟨gb162, _, none⟩) d27 _).trans (hHeld.2.2.2.2.2.2.1)))))))), ((cell_far (p := ⟨gb162, _, none⟩) d28 _).trans (((cell_far (p := ⟨gb162, _, none⟩) d28 _).trans (((cell_far (p := ⟨gb162, _, none⟩) d28 _).trans (((cell_far (p := ⟨gb162, _, none⟩) d28 _).trans (hHeld.2.2.2.2.2.2.2))))))))⟩ (fun hHeld => ?_)
     clear hK K
     refine done_ (done_of HT_.out (by kernel_rfl)) ?_
     have hnb20 := NB157_158.out
     have hnc20 := NB158_157.out
     have hnb21 := NB157_162.out
     have hnc21 := NB162_157.out
     have hcz22_0 : w15.cell? ⟨gb157, 0, none⟩ = some (.int .i64 a1) := (blk_cell BK157.out 0).trans rfl
     have hfz22_0 := blk_frozen BK157.out 0
     try go_wp2
     go_loopg [28] kj2 (fun kq v28 w' => ∃ (x28_2 : Int) (x163002_2 : List Int) (x163003_2 : List Int) (u163002 : Value) (u163003 : Value), v28 = .int .i64 x28_2 ∧ Aside0 (impl_Gathered.l0 kq l0 a1 x28_2 a1 ((rd_T43 l0 0).f0) ((rd_T43 l0 0).f1) x163002_2 x163003_2 = some (r1, r2, r3, r4, r5)) ∧ Aside0 (kq ≤ kj2) ∧ Aside0 (Kd.R (Kd.int .i64) 2 w' w.heap.size (fun k_ => some k_ ≠ (u163003 : Value).ownBlock ∧ k_ ≠ gb157) u163002 x163002_2) ∧ Aside0 (Kd.R (Kd.int .i64) 2 w' w.heap.size (fun k_ => some k_ ≠ (u163002 : Value).ownBlock ∧ k_ ≠ gb157) u163003 x163003_2) ∧ Aside0 (w'.heap[gb157]? = some (.cells #[.int .i64 a1] 2 (0, 0))) ∧ Aside0 (w'.heap[gb158]? = some (.cells #[.int .i64 0, .int .i64 0, (.slice none 0 0), (.slice none 0 0)] 26 (0, 0))) ∧ Aside0 (w'.heap[gb162]? = some (.cells #[.int .i64 ((rd_T43 l0 0).f0), .int .i64 ((rd_T43 l0 0).f1), u163002, u163003] 26 (0, 0))) ∧ Aside0 (Below w.heap.size w w'))
     case atStart => exact ⟨(0), (([] : List Int)), (([] : List Int)), (.slice none 0 0), (.slice none 0 0), d9, H', ⟨Nat.le_refl _⟩, ⟨o17⟩, ⟨o17⟩, ⟨(by (with_reducible repeat (first | refine blk_drewN ?_ _ | refine blk_drew ?_ | refine blk_alloc ?_ _)); refine blk_far ?_ NB157_162.out _; (with_reducible repeat (first | refine blk_drewN ?_ _ | refine blk_drew ?_ | refine blk_alloc ?_ _)); refine blk_far ?_ NB157_162.out _; (with_reducible repeat (first | refine blk_drewN ?_ _ | refine blk_drew ?_ | refine blk_alloc ?_ _)); refine blk_far ?_ NB157_162.out _; (with_reducible repeat (first | refine blk_drewN ?_ _ | refine blk_drew ?_ | refine blk_alloc ?_ _)); refine blk_far ?_ NB157_162.out _; (with_reducible repeat (first | refine blk_drewN ?_ _ | refine blk_drew ?_ | refine blk_alloc ?_ _)); exact BK157.out)⟩, ⟨(by (with_reducible repeat (first | refine blk_drewN ?_ _ | refine blk_drew ?_ | refine blk_alloc ?_ _)); refine blk_far ?_ NB158_162.out _; (with_reducible repeat (first | refine blk_drewN ?_ _ | refine blk_drew ?_ | refine blk_alloc ?_ _)); refine blk_far ?_ NB158_162.out _; (with_reducible repeat (first | refine blk_drewN ?_ _ | refine blk_drew ?_ | refine blk_alloc ?_ _)); refine blk_far ?_ NB158_162.out _; (with_reducible repeat (first | refine blk_drewN ?_ _ | refine blk_drew ?_ | refine blk_alloc ?_ _)); refine blk_far ?_ NB158_162.out _; (with_reducible repeat (first | refine blk_drewN ?_ _ | refine blk_drew ?_ | refine blk_alloc ?_ _)); exact BK158.out)⟩, ⟨(by (with_reducible repeat (first | refine blk_drewN ?_ _ | refine blk_drew ?_ | refine blk_alloc ?_ _)); refine blk_put (cs := #[.int .i64 ((rd_T43 l0 0).f0), .int .i64 ((rd_T43 l0 0).f1), .slice none 0 0, .slice none 0 0]) ?_ 3 _ rfl; (with_reducible repeat (first | refine blk_drewN ?_ _ | refine blk_drew ?_ | refine blk_alloc ?_ _)); refine blk_put (cs := #[.int .i64 ((rd_T43 l0 0).f0), .int .i64 ((rd_T43 l0 0).f1), .slice none 0 0, .slice none 0 0]) ?_ 2 _ rfl; (with_reducible repeat (first | refine blk_drewN ?_ _ | refine blk_drew ?_ | refine blk_alloc ?_ _)); refine blk_put (cs := #[.int .i64 ((rd_T43 l0 0).f0), .int .i64 0, .slice none 0 0, .slice none 0 0]) ?_ 1 _ rfl; (with_reducible repeat (first | refine blk_drewN ?_ _ | refine blk_drew ?_ | refine blk_alloc ?_ _)); refine blk_put (cs := #[.int .i64 0, .int .i64 0, .slice none 0 0, .slice none 0 0]) ?_ 0 _ rfl; (with_reducible repeat (first | refine blk_drewN ?_ _ | refine blk_drew ?_ | refine blk_alloc ?_ _)); exact BK162.out)⟩, ⟨o58⟩⟩
     case round =>
      clear H'
      try clear c1
      try clear p1
      try clear q1
      try clear hx1
      try clear qi1
      try clear c2
      try clear p2
      try clear c6
      try clear c6b0
      try clear c6b1
      try clear c6b2
      try clear c8
      try clear c10
      try clear c11
      try clear c13
      try clear c13b0
      try clear c13b1
      try clear p16
      try clear q16
      try clear hx16
      try clear qi16
      try clear c20
      try clear c21
      try clear hcz12_0
      try clear hcz12_1
      try clear hcz12_2
      try clear hcz12_3
      try clear hcz22_0
      try clear hcz9_0
      try clear hfz12_0
      try clear hfz12_1
      try clear hfz12_2
      try clear hfz12_3
      try clear hfz22_0
      try clear hfz9_0
      try clear hx160_0
      try clear hx160_1
      try clear hx160_2
      try clear hx160_3
      try clear hx161_0
      try clear hx161_1
      try clear hx161_2
      try clear hx161_3
      try clear p160
      try clear p161
      try clear p2
      try clear q160
      try clear q161
      obtain ⟨x28_2, x163002_2, x163003_2, u163002, u163003, rfl, HA, HK2, HO_163002, HO_163003, BK157, BK158, BK162, HB⟩ := hrel
      cases gk with
      | zero => exact absurd HA.out (by simp [impl_Gathered.l0])
      | succ k2 =>
       have H := HA.out
       clear HA
       simp only [impl_Gathered.l0] at H
       by_cases c23 : x28_2 < a1
       ·rw [if_pos c23] at H
        have c23b0 : decide (x28_2 < a1) = true := decide_eq_true c23
        clear c23
        replace H := Option.bind_eq_some_iff.mp H
        obtain ⟨t164, A240, H⟩ := H
        replace H : (if t164 ≥ 0 then (if x163002_2.length < 17592186044416 then (if 0 ≤ t164 then (if t164 < (l0.length : Int) then (if x163003_2.length < 17592186044416 then (impl_Gathered.l0 k2 l0 a1 (wrap64 (x28_2 + 1)) a1 ((rd_T43 l0 0).f0) ((rd_T43 l0 0).f1) (x163002_2 ++ [x28_2]) (x163003_2 ++ [(rd_T43 l0 t164).f3])) else (none)) else (none)) else (none)) else (none)) else (impl_Gathered.l0 k2 l0 a1 (wrap64 (x28_2 + 1)) a1 ((rd_T43 l0 0).f0) ((rd_T43 l0 0).f1) x163002_2 x163003_2)) = some (r1, r2, r3, r4, r5) := H
        have A24 := Aside0.mk A240
        clear A240
        have HC25 := Aside0.mk H
        clear H
        go_upto_if 35 with (first | ((with_reducible refine gate_dst (N := 7) rfl ?_); refine box_event ?hg (N := 7) ?hd (cs := #[.int .i64 0]) (t := 2) ?hr ?_; (case hd => rfl); (case hg => rfl); (case hr => first | (go_simp; done) | (go_simp; rfl)); intro gb163 hg w26 hbox hb; have n0_ := Aside0.mk (Kd.R_below (Kd.R_elderB (by (with_reducible repeat (first | apply Kd.R_alloc | apply Kd.R_drewN | apply Kd.R_drew)); exact HO_163002.out) gb163 (Nat.le_of_eq hg.symm)) hb); have n1_ := Aside0.mk (Kd.R_below (Kd.R_elderB d102 gb163 (Nat.le_of_eq hg.symm)) hb); have n2_ := Aside0.mk (blk_below (g := gb157) (o := .cells #[.int .i64 a1] 2 (0, 0)) d40 hb); have n3_ := Aside0.mk (blk_below (g := gb158) (o := .cells #[.int .i64 0, .int .i64 0, .slice none 0 0, .slice none 0 0] 26 (0, 0)) d70 hb); have n4_ := Aside0.mk (blk_below (g := gb162) (o := .cells #[.int .i64 ((rd_T43 l0 0).f0), .int .i64 ((rd_T43 l0 0).f1), u163002, u163003] 26 (0, 0)) d80 hb); have n5_ := Aside0.mk (below_step d81 hb); have n6_ := Aside0.mk (hbox); have n7_ := Aside0.mk ((by rw [hg]; exact (below_size d81) : w.heap.size ≤ gb163)); have n8_ := Aside0.mk ((by rw [hg]; exact (below_size d81) : w.heap.size ≤ gb163)); have n9_ := Aside0.mk ((by rw [hg]; exact Nat.ne_of_lt (blk_lt (g := gb157) (o := .cells #[.int .i64 a1] 2 (0, 0)) d40) : gb157 ≠ gb163)); have n10_ := Aside0.mk ((by rw [hg]; exact Nat.ne_of_gt (blk_lt (g := gb157) (o := .cells #[.int .i64 a1] 2 (0, 0)) d40) : gb163 ≠ gb157)); have n11_ := Aside0.mk ((by rw [hg]; exact Nat.ne_of_lt (blk_lt (g := gb158) (o := .cells #[.int .i64 0, .int .i64 0, .slice none 0 0, .slice none 0 0] 26 (0, 0)) d70) : gb158 ≠ gb163)); have n12_ := Aside0.mk ((by rw [hg]; exact Nat.ne_of_gt (blk_lt (g := gb158) (o := .cells #[.int .i64 0, .int .i64 0, .slice none 0 0, .slice none 0 0] 26 (0, 0)) d70) : gb163 ≠ gb158)); have n13_ := Aside0.mk ((by rw [hg]; exact Nat.ne_of_lt (blk_lt (g := gb162) (o := .cells #[.int .i64 ((rd_T43 l0 0).f0), .int .i64 ((rd_T43 l0 0).f1), u163002, u163003] 26 (0, 0)) d80) : gb162 ≠ gb163)); have n14_ := Aside0.mk ((by rw [hg]; exact Nat.ne_of_gt (blk_lt (g := gb162) (o := .cells #[.int .i64 ((rd_T43 l0 0).f0), .int .i64 ((rd_T43 l0 0).f1), u163002, u163003] 26 (0, 0)) d80) : gb163 ≠ gb162)); clear HO_163002; clear HO_163003; clear BK157; clear BK158; clear BK162; clear HB; have HO_163002 := n0_; have HO_163003 := n1_; have BK157 := n2_; have BK158 := n3_; have BK162 := n4_; have HB := n5_; have BK163 := n6_; have GW163 := n7_; have GE163 := n8_; have NB157_163 := n9_; have NB163_157 := n10_; have NB158_163 := n11_; have NB163_158 := n12_; have NB162_163 := n13_; have NB163_162 := n14_; clear n0_ n1_ n2_ n3_ n4_ n5_ n6_ n7_ n8_ n9_ n10_ n11_ n12_ n13_ n14_; clear hb hbox hg; have hnb27 := NB163_157.out; have hnc27 := NB157_163.out; have hnb28 := NB163_158.out; have hnc28 := NB158_163.out; have hnb29 := NB163_162.out; have hnc29 := NB162_163.out; have hcz30_0 : w26.cell? ⟨gb163, 0, none⟩ = some (.int .i64 0) := (blk_cell BK163.out 0).trans rfl; have hfz30_0 := blk_frozen BK163.out 0; have hnb31 := NB162_157.out; have hnc31 := NB157_162.out; have hnb32 := NB162_158.out; have hnc32 := NB158_162.out; have hcz33_0 : w26.cell? ⟨gb162, 0, none⟩ = some (.int .i64 ((rd_T43 l0 0).f0)) := (blk_cell BK162.out 0).trans rfl; have hcz33_1 : w26.cell? ⟨gb162, 1, none⟩ = some (.int .i64 ((rd_T43 l0 0).f1)) := (blk_cell BK162.out 1).trans rfl; have hcz33_2 : w26.cell? ⟨gb162, 2, none⟩ = some (u163002) := (blk_cell BK162.out 2).trans rfl; have hcz33_3 : w26.cell? ⟨gb162, 3, none⟩ = some (u163003) := (blk_cell BK162.out 3).trans rfl; have hfz33_0 := blk_frozen BK162.out 0; have hfz33_1 := blk_frozen BK162.out 1; have hfz33_2 := blk_frozen BK162.out 2; have hfz33_3 := blk_frozen BK162.out 3; have hnb34 := NB157_158.out; have hnc34 := NB158_157.out; have hcz35_0 : w26.cell? ⟨gb157, 0, none⟩ = some (.int .i64 a1) := (blk_cell BK157.out 0).trans rfl; have hfz35_0 := blk_frozen BK157.out 0) | ((with_reducible refine gate_callee (f := 40) rfl ?_); refine goesL_ (some 33) rfl rfl Tryd.func40 (by kernel_rfl) rfl #[.slice (some ad160) l0.length c0, .func (.func 41) #[] #[.pointer (some ⟨gb163, 0, none⟩), .pointer (some ⟨gb162, 0, none⟩), .pointer (some ⟨gb157, 0, none⟩)]] rfl d0 ?_; (with_reducible refine (impl_Vote.calls k2 _ _ l0 x28_2 ((rd_T43 l0 0).f0) ((rd_T43 l0 0).f1) a1 t164 _ ?side1 ?side2 A24.out (tab_at HT.out d6) gb163 gb162 gb157 ((blk_cell (blk_set BK163.out 0 _) 0).trans rfl) ((blk_cell (blk_far BK162.out NB162_163.out _) 0).trans rfl) ((blk_cell (blk_far BK162.out NB162_163.out _) 1).trans rfl) ((blk_cell (blk_far BK157.out NB157_163.out _) 0).trans rfl)).mono ?_); (case side1 => exact Kd.C_below HR0.out d43); (case side2 => exact HC0.out); rintro e w36 ⟨rfl, hb⟩; refine ⟨_, rfl, ?_⟩; have n0_ := Aside0.mk (Kd.R_below (by (with_reducible repeat (first | apply Kd.R_alloc | apply Kd.R_drewN | apply Kd.R_drew)); exact (Kd.R_mono (Kd.R_far (p := ⟨gb163, 0, none⟩) (Kd.R_mono HO_163002.out (fun k_ hk => (⟨hk, hk.2⟩ : _ ∧ k_ ≠ gb163))) (fun _ hk => hk.2) (.int .i64 x28_2)) (fun _ h_ => h_.1))) hb); have n1_ := Aside0.mk (Kd.R_below (by (with_reducible repeat (first | apply Kd.R_alloc | apply Kd.R_drewN | apply Kd.R_drew)); exact (Kd.R_mono (Kd.R_far (p := ⟨gb163, 0, none⟩) (Kd.R_mono HO_163003.out (fun k_ hk => (⟨hk, hk.2⟩ : _ ∧ k_ ≠ gb163))) (fun _ hk => hk.2) (.int .i64 x28_2)) (fun _ h_ => h_.1))) hb); have n2_ := Aside0.mk (blk_below (g := gb157) (o := .cells #[.int .i64 a1] 2 (0, 0)) (by (with_reducible repeat (first | refine blk_drewN ?_ _ | refine blk_drew ?_ | refine blk_alloc ?_ _)); refine blk_far ?_ NB157_163.out _; (with_reducible repeat (first | refine blk_drewN ?_ _ | refine blk_drew ?_ | refine blk_alloc ?_ _)); exact BK157.out) hb); have n3_ := Aside0.mk (blk_below (g := gb158) (o := .cells #[.int .i64 0, .int .i64 0, .slice none 0 0, .slice none 0 0] 26 (0, 0)) (by (with_reducible repeat (first | refine blk_drewN ?_ _ | refine blk_drew ?_ | refine blk_alloc ?_ _)); refine blk_far ?_ NB158_163.out _; (with_reducible repeat (first | refine blk_drewN ?_ _ | refine blk_drew ?_ | refine blk_alloc ?_ _)); exact BK158.out) hb); have n4_ := Aside0.mk (blk_below (g := gb162) (o := .cells #[.int .i64 ((rd_T43 l0 0).f0), .int .i64 ((rd_T43 l0 0).f1), u163002, u163003] 26 (0, 0)) (by (with_reducible repeat (first | refine blk_drewN ?_ _ | refine blk_drew ?_ | refine blk_alloc ?_ _)); refine blk_far ?_ NB162_163.out _; (with_reducible repeat (first | refine blk_drewN ?_ _ | refine blk_drew ?_ | refine blk_alloc ?_ _)); exact BK162.out) hb); have n5_ := Aside0.mk (blk_below (g := gb163) (o := .cells #[.int .i64 x28_2] 2 (0, 0)) (by (with_reducible repeat (first | refine blk_drewN ?_ _ | refine blk_drew ?_ | refine blk_alloc ?_ _)); refine blk_put (cs := #[.int .i64 0]) ?_ 0 _ rfl; (with_reducible repeat (first | refine blk_drewN ?_ _ | refine blk_drew ?_ | refine blk_alloc ?_ _)); exact BK163.out) hb); have n6_ := Aside0.mk (below_step d43 hb); clear HO_163002; clear HO_163003; clear BK157; clear BK158; clear BK162; clear BK163; clear HB; have HO_163002 := n0_; have HO_163003 := n1_; have BK157 := n2_; have BK158 := n3_; have BK162 := n4_; have BK163 := n5_; have HB := n6_; clear n0_ n1_ n2_ n3_ n4_ n5_ n6_; (try clear hb); (try clear hb2); (try clear hk); (try clear hi)))
        (try simp only [Act.put, List.setIfInBounds_toArray, List.set_cons_zero, List.set_cons_succ])
        have H := HC25.out
        clear HC25
        by_cases c37 : t164 ≥ 0
        ·rw [if_pos c37] at H
         have c37b0 : decide (0 ≤ t164) = true := decide_eq_true c37
         clear c37
         (first | rw [c37b0] | (simp only [i64_w, i32_w]; rw [c37b0]) | skip)
         by_cases c38 : x163002_2.length < 17592186044416
         ·rw [if_pos c38] at H
          have LMc38 := Aside0.mk c38
          clear c38
          obtain ⟨y165, hy165⟩ : ∃ y_ : List Int, y_ = (x163002_2 ++ [x28_2]) := ⟨_, rfl⟩
          replace H : (if 0 ≤ t164 then (if t164 < (l0.length : Int) then (if x163003_2.length < 17592186044416 then (impl_Gathered.l0 k2 l0 a1 (wrap64 (x28_2 + 1)) a1 ((rd_T43 l0 0).f0) ((rd_T43 l0 0).f1) y165 (x163003_2 ++ [(rd_T43 l0 t164).f3])) else (none)) else (none)) else (none)) = some (r1, r2, r3, r4, r5) := by first | (rw [hy165]; with_reducible exact H) | (have H2_ := (Option.bind_some _ _).symm.trans H; rw [hy165]; with_reducible exact H2_) | (have H2_ := (Option.bind_some _ _).symm.trans H; with_reducible exact H2_) | with_reducible exact H | (rw [hy165]; exact H) | exact H
          have Ny165 := Aside0.mk hy165
          clear hy165
          by_cases c39 : 0 ≤ t164
          ·rw [if_pos c39] at H
           have c39b0 : decide (0 ≤ t164) = true := decide_eq_true c39
           clear c39
           by_cases c40 : t164 < (l0.length : Int)
           ·rw [if_pos c40] at H
            have c40b0 : decide (t164 < (l0.length : Int)) = true := decide_eq_true c40
            clear c40
            by_cases c41 : x163003_2.length < 17592186044416
            ·rw [if_pos c41] at H
             have LMc41 := Aside0.mk c41
             clear c41
             obtain ⟨y169, hy169⟩ : ∃ y_ : List Int, y_ = (x163003_2 ++ [(rd_T43 l0 t164).f3]) := ⟨_, rfl⟩
             replace H : (impl_Gathered.l0 k2 l0 a1 (wrap64 (x28_2 + 1)) a1 ((rd_T43 l0 0).f0) ((rd_T43 l0 0).f1) y165 y169) = some (r1, r2, r3, r4, r5) := by first | (rw [hy169]; with_reducible exact H) | (have H2_ := (Option.bind_some _ _).symm.trans H; rw [hy169]; with_reducible exact H2_) | (have H2_ := (Option.bind_some _ _).symm.trans H; with_reducible exact H2_) | with_reducible exact H | (rw [hy169]; exact H) | exact H
             have Ny169 := Aside0.mk hy169
             clear hy169
             have H' := Aside0.mk H
             clear H
             have hnb42 := NB162_157.out
             have hnc42 := NB157_162.out
             have hnb43 := NB162_158.out
             have hnc43 := NB158_162.out
             have hnb44 := NB162_163.out
             have hnc44 := NB163_162.out
             have hcz45_0 : w36.cell? ⟨gb162, 0, none⟩ = some (.int .i64 ((rd_T43 l0 0).f0)) := (blk_cell BK162.out 0).trans rfl
             have hcz45_1 : w36.cell? ⟨gb162, 1, none⟩ = some (.int .i64 ((rd_T43 l0 0).f1)) := (blk_cell BK162.out 1).trans rfl
             have hcz45_2 : w36.cell? ⟨gb162, 2, none⟩ = some (u163002) := (blk_cell BK162.out 2).trans rfl
             have hcz45_3 : w36.cell? ⟨gb162, 3, none⟩ = some (u163003) := (blk_cell BK162.out 3).trans rfl
             have hfz45_0 := blk_frozen BK162.out 0
             have hfz45_1 := blk_frozen BK162.out 1
             have hfz45_2 := blk_frozen BK162.out 2
             have hfz45_3 := blk_frozen BK162.out 3
             have hnb46 := NB163_157.out
             have hnc46 := NB157_163.out
             have hnb47 := NB163_158.out
             have hnc47 := NB158_163.out
             have hcz48_0 : w36.cell? ⟨gb163, 0, none⟩ = some (.int .i64 x28_2) := (blk_cell BK163.out 0).trans rfl
             have hfz48_0 := blk_frozen BK163.out 0
             try go_wp2_with (first | ((with_reducible refine gate_builtin (b := .append) (xs := #[.tmp 37, .tmp 39]) rfl ?_); at_builtin; refine Kd.R_append (Kd.int .i64) (w0 := w) w.heap.size rfl (.tmp 37) (.tmp 39) 24 2 (.int .i64 0) 8 rfl Tryd.underlying24 info2 rfl (by decide) (by omega) u163002 x163002_2 x28_2 [.int .i64 x28_2] (fun k_ => some k_ ≠ (u163003 : Value).ownBlock ∧ k_ ≠ gb157 ∧ k_ ≠ gb163) (fun _ => False) rfl rfl ?aP (fun _ hk => hk.elim) ?aF ?aO ?aB ?aS ?aL ?_; (case aP => exact rfl); (case aB => exact d43); (case aF => exact (fun k_ hk => ⟨Kd.fresh' (Kd.R_lt d102) k_ hk, Kd.freshB (g := gb157) (o := .cells #[.int .i64 a1] 2 (0, 0)) d40 k_ hk, Kd.freshB (g := gb163) (o := .cells #[.int .i64 x28_2] 2 (0, 0)) d93 k_ hk⟩)); (case aO => exact (by (with_reducible repeat (first | apply Kd.R_alloc | apply Kd.R_drewN | apply Kd.R_drew)); exact Kd.R_mono HO_163002.out (fun _ hk => by first | exact  ⟨hk.1.1, ⟨hk.1.2, hk.2⟩⟩ | simp_all))); (case aS => exact (below_size d43)); (case aL => have := LMc38.out; omega); intro v166 w49 ho hb hg hat; rw [← Ny165.out] at ho; have n0_ := Aside0.mk (Kd.R_after (ok := (fun k_ => k_ ≠ gb157 ∧ k_ ≠ gb163)) (by (with_reducible repeat (first | apply Kd.R_alloc | apply Kd.R_drewN | apply Kd.R_drew)); exact Kd.R_mono HO_163003.out (fun _ hk => ⟨⟨hk.1.2, hk.2⟩, hk.1.1⟩)) hg hat); have n1_ := Aside0.mk (blk_grown (g := gb157) (o := .cells #[.int .i64 a1] 2 (0, 0)) d40 hg (Kd.R_away HO_163002.out (fun _ hk => hk.1.2))); have n2_ := Aside0.mk (blk_grown (g := gb158) (o := .cells #[.int .i64 0, .int .i64 0, .slice none 0 0, .slice none 0 0] 26 (0, 0)) d70 hg (Kd.R_ne HO_163002.out BK158.out (by decide))); have n3_ := Aside0.mk (blk_grown (g := gb162) (o := .cells #[.int .i64 ((rd_T43 l0 0).f0), .int .i64 ((rd_T43 l0 0).f1), u163002, u163003] 26 (0, 0)) d80 hg (Kd.R_ne HO_163002.out BK162.out (by decide))); have n4_ := Aside0.mk (blk_grown (g := gb163) (o := .cells #[.int .i64 x28_2] 2 (0, 0)) d93 hg (Kd.R_away HO_163002.out (fun _ hk => hk.2))); have n5_ := Aside0.mk (hb); have n6_ := Aside0.mk (ho); clear HO_163003; clear BK157; clear BK158; clear BK162; clear BK163; clear HB; clear HO_163002; have HO_163003 := n0_; have BK157 := n1_; have BK158 := n2_; have BK162 := n3_; have BK163 := n4_; have HB := n5_; have HO167 := n6_; clear n0_ n1_ n2_ n3_ n4_ n5_ n6_; clear ho hb hg hat; obtain ⟨Ao50, co50, eo50⟩ := Kd.R_slice HO167.out; subst eo50; have hcz51_0 : w49.cell? ⟨gb162, 0, none⟩ = some (.int .i64 ((rd_T43 l0 0).f0)) := (blk_cell BK162.out 0).trans rfl; have hcz51_1 : w49.cell? ⟨gb162, 1, none⟩ = some (.int .i64 ((rd_T43 l0 0).f1)) := (blk_cell BK162.out 1).trans rfl; have hcz51_2 : w49.cell? ⟨gb162, 2, none⟩ = some (u163002) := (blk_cell BK162.out 2).trans rfl; have hcz51_3 : w49.cell? ⟨gb162, 3, none⟩ = some (u163003) := (blk_cell BK162.out 3).trans rfl; have hfz51_0 := blk_frozen BK162.out 0; have hfz51_1 := blk_frozen BK162.out 1; have hfz51_2 := blk_frozen BK162.out 2; have hfz51_3 := blk_frozen BK162.out 3))
             have n0_ : Aside0 (Kd.R (Kd.int .i64) 2 (w49.setCell ⟨gb162, 2, none⟩ (.slice Ao50 y165.length co50)) w.heap.size (fun k_ => some k_ ≠ (.slice Ao50 y165.length co50 : Value).ownBlock ∧ k_ ≠ gb157 ∧ k_ ≠ gb163) u163003 x163003_2) := ⟨(by (with_reducible repeat (first | apply Kd.R_alloc | apply Kd.R_drewN | apply Kd.R_drew)); exact Kd.R_mono (Kd.R_far (p := ⟨gb162, 2, none⟩) (Kd.R_types HO_163003.out BK162.out (by decide)) (fun _ hk => hk.2) (.slice Ao50 y165.length co50)) (fun _ hk => ⟨hk.1.2, ⟨hk.1.1.1, hk.1.1.2⟩⟩))⟩
             have n1_ : Aside0 (Kd.R (Kd.int .i64) 2 (w49.setCell ⟨gb162, 2, none⟩ (.slice Ao50 y165.length co50)) w.heap.size (fun k_ => some k_ ≠ (u163003 : Value).ownBlock ∧ k_ ≠ gb157 ∧ k_ ≠ gb163) (.slice Ao50 y165.length co50) y165) := ⟨(by (with_reducible repeat (first | apply Kd.R_alloc | apply Kd.R_drewN | apply Kd.R_drew)); exact Kd.R_mono (Kd.R_far (p := ⟨gb162, 2, none⟩) (Kd.R_types HO167.out BK162.out (by decide)) (fun _ hk => hk.2) (.slice Ao50 y165.length co50)) (fun _ hk => by first | exact  ⟨hk.1.1, ⟨hk.1.2.1, hk.1.2.2⟩⟩ | simp_all))⟩
             have n2_ : Aside0 ((w49.setCell ⟨gb162, 2, none⟩ (.slice Ao50 y165.length co50)).heap[gb157]? = some (.cells #[.int .i64 a1] 2 (0, 0))) := ⟨(by (with_reducible repeat (first | refine blk_drewN ?_ _ | refine blk_drew ?_ | refine blk_alloc ?_ _)); refine blk_far ?_ NB157_162.out _; (with_reducible repeat (first | refine blk_drewN ?_ _ | refine blk_drew ?_ | refine blk_alloc ?_ _)); exact BK157.out)⟩
             have n3_ : Aside0 ((w49.setCell ⟨gb162, 2, none⟩ (.slice Ao50 y165.length co50)).heap[gb158]? = some (.cells #[.int .i64 0, .int .i64 0, .slice none 0 0, .slice none 0 0] 26 (0, 0))) := ⟨(by (with_reducible repeat (first | refine blk_drewN ?_ _ | refine blk_drew ?_ | refine blk_alloc ?_ _)); refine blk_far ?_ NB158_162.out _; (with_reducible repeat (first | refine blk_drewN ?_ _ | refine blk_drew ?_ | refine blk_alloc ?_ _)); exact BK158.out)⟩
             have n4_ : Aside0 ((w49.setCell ⟨gb162, 2, none⟩ (.slice Ao50 y165.length co50)).heap[gb162]? = some (.cells #[.int .i64 ((rd_T43 l0 0).f0), .int .i64 ((rd_T43 l0 0).f1), .slice Ao50 y165.length co50, u163003] 26 (0, 0))) := ⟨(by (with_reducible repeat (first | refine blk_drewN ?_ _ | refine blk_drew ?_ | refine blk_alloc ?_ _)); refine blk_put (cs := #[.int .i64 ((rd_T43 l0 0).f0), .int .i64 ((rd_T43 l0 0).f1), u163002, u163003]) ?_ 2 _ rfl; (with_reducible repeat (first | refine blk_drewN ?_ _ | refine blk_drew ?_ | refine blk_alloc ?_ _)); exact BK162.out)⟩
             have n5_ : Aside0 ((w49.setCell ⟨gb162, 2, none⟩ (.slice Ao50 y165.length co50)).heap[gb163]? = some (.cells #[.int .i64 x28_2] 2 (0, 0))) := ⟨(by (with_reducible repeat (first | refine blk_drewN ?_ _ | refine blk_drew ?_ | refine blk_alloc ?_ _)); refine blk_far ?_ NB163_162.out _; (with_reducible repeat (first | refine blk_drewN ?_ _ | refine blk_drew ?_ | refine blk_alloc ?_ _)); exact BK163.out)⟩
             have n6_ : Aside0 (Below w.heap.size w (w49.setCell ⟨gb162, 2, none⟩ (.slice Ao50 y165.length co50))) := ⟨o46⟩
             (try clear HO_163003)
             (try clear HO167)
             (try clear BK157)
             (try clear BK158)
             (try clear BK162)
             (try clear BK163)
             (try clear HB)
             generalize (w49.setCell ⟨gb162, 2, none⟩ (.slice Ao50 y165.length co50)) = w52 at n0_ n1_ n2_ n3_ n4_ n5_ n6_ ⊢
             have HO_163003 := n0_
             have HO167 := n1_
             have BK157 := n2_
             have BK158 := n3_
             have BK162 := n4_
             have BK163 := n5_
             have HB := n6_
             clear n0_ n1_ n2_ n3_ n4_ n5_ n6_
             have n0_ := Aside0.mk (Kd.R_drew HO_163003.out)
             have n1_ := Aside0.mk (Kd.R_drew HO167.out)
             have n2_ := Aside0.mk (blk_drew BK157.out)
             have n3_ := Aside0.mk (blk_drew BK158.out)
             have n4_ := Aside0.mk (blk_drew BK162.out)
             have n5_ := Aside0.mk (blk_drew BK163.out)
             have n6_ := Aside0.mk (below_drew1 HB.out)
             clear HO_163003
             clear HO167
             clear BK157
             clear BK158
             clear BK162
             clear BK163
             clear HB
             have HO_163003 := n0_
             have HO167 := n1_
             have BK157 := n2_
             have BK158 := n3_
             have BK162 := n4_
             have BK163 := n5_
             have HB := n6_
             clear n0_ n1_ n2_ n3_ n4_ n5_ n6_
             have p168 : 0 ≤ (t164 : Int) := od_
             have q168 : t164 < (l0.length : Int) := od_
             obtain ⟨ad168, e168, hx168_0, hx168_1, hx168_2, hx168_3⟩ := at_T43 HR0.out t164 p168 q168
             have hw168_3 := hx168_3
             have hw168_2 := hx168_2
             have hw168_1 := hx168_1
             have hw168_0 := hx168_0
             obtain rfl : ad160 = ad168 := (by injection e168)
             replace hx168_0 := (HB.out.cell (World.block_lt_of_cell? w _ hx168_0)).trans hx168_0
             replace hx168_1 := (HB.out.cell (World.block_lt_of_cell? w _ hx168_1)).trans hx168_1
             replace hx168_2 := (HB.out.cell (World.block_lt_of_cell? w _ hx168_2)).trans hx168_2
             replace hx168_3 := (HB.out.cell (World.block_lt_of_cell? w _ hx168_3)).trans hx168_3
             replace p168 := eq_true p168
             replace q168 := eq_true q168
             refine start_ (n := 11) (S := fun w' => w'.cell? ⟨gb162, 0, none⟩ = some (.int .i64 ((rd_T43 l0 0).f0)) ∧ w'.cell? ⟨gb162, 1, none⟩ = some (.int .i64 ((rd_T43 l0 0).f1)) ∧ w'.cell? ⟨gb162, 2, none⟩ = some (.slice Ao50 y165.length co50) ∧ w'.cell? ⟨gb162, 3, none⟩ = some (u163003) ∧ w'.cell? (ad160.add ((t164).toNat * 4)) = some (.int .i64 ((rd_T43 l0 t164).f0)) ∧ w'.cell? ⟨(ad160.add ((t164).toNat * 4)).block, (ad160.add ((t164).toNat * 4)).off + 1, none⟩ = some (.int .i64 ((rd_T43 l0 t164).f1)) ∧ w'.cell? ⟨(ad160.add ((t164).toNat * 4)).block, (ad160.add ((t164).toNat * 4)).off + 2, none⟩ = some (.int .i64 ((rd_T43 l0 t164).f2)) ∧ w'.cell? ⟨(ad160.add ((t164).toNat * 4)).block, (ad160.add ((t164).toNat * 4)).off + 3, none⟩ = some (.int .i64 ((rd_T43 l0 t164).f3))) (ds := [10]) (bA 11 0) (by kernel_rfl) rfl rfl ⟨(blk_cell BK162.out 0).trans rfl, (blk_cell BK162.out 1).trans rfl, (blk_cell BK162.out 2).trans rfl, (blk_cell BK162.out 3).trans rfl, ((HB.out.cell (World.block_lt_of_cell? w _ hw168_0)).trans hw168_0), ((HB.out.cell (World.block_lt_of_cell? w _ hw168_1)).trans hw168_1), ((HB.out.cell (World.block_lt_of_cell? w _ hw168_2)).trans hw168_2), ((HB.out.cell (World.block_lt_of_cell? w _ hw168_3)).trans hw168_3)⟩ (fun hHeld => ?_); refine with_tabW impl_Gathered.tab10 impl_Gathered.bits10 (fun HT_ HW_ => ?_)
             generalize w52.drew = w53 at HO_163003 HO167 BK157 BK158 BK162 BK163 HB hx168_0 hx168_1 hx168_2 hx168_3 hHeld ⊢
             refine pv (i := 0) (N := some 42) (bA 11 1) rfl rfl o0 ?_
             refine pv (i := 2) (N := some 44) (bA 11 5) rfl rfl o0 ?_
             refine pv (i := 3) (N := some 45) (bA 11 13) rfl rfl o0 ?_
             refine pv (i := 4) (N := some 46) (bA 11 29) rfl rfl o0 ?_
             refine pv (i := 5) (N := some 47) (bA 11 61) rfl rfl o0 ?_
             refine take_ (i := 1) (N := some 43) (v := ?_) (a' := ?_) (bA 11 63) rfl rfl o5 (fun _ _ _ h => h) (Or.inl ⟨(by rfl), ?_⟩) hHeld ?_ ?_
             rotate_left
             ·rintro w' ⟨s0, s1, s2, s3, s4, s5, s6, s7⟩
              go_simp
              with_reducible rfl
             rotate_left
             ·simp only [sp_]
              rfl
             refine take_ (i := 6) (N := some 48) (v := ?_) (a' := ?_) (bA 11 127) rfl rfl o5 (fun _ _ _ h => h) (Or.inl ⟨(by rfl), ?_⟩) hHeld ?_ ?_
             rotate_left
             ·rintro w' ⟨s0, s1, s2, s3, s4, s5, s6, s7⟩
              go_simp
              with_reducible rfl
             rotate_left
             ·simp only [sp_]
              rfl
             refine one_ (i := 7) (N := some 49) (bA 11 255) rfl rfl (one_of HT_.out (by kernel_rfl)) (by decide) (fun K hK => ?_)
             refine value_ (w1 := ?_) (v := ?_) (by rfl) rfl ?_ ?_
             rotate_left 2
             ·go_simp
              constructor
              ·rfl
              ·rfl
             refine hK.out _ _ ⟨(blk_cell (blk_alloc BK162.out _) 0).trans rfl, (blk_cell (blk_alloc BK162.out _) 1).trans rfl, (blk_cell (blk_alloc BK162.out _) 2).trans rfl, (blk_cell (blk_alloc BK162.out _) 3).trans rfl, (World.cell?_alloc_lt _ _ _ (World.block_lt_of_cell? _ _ (((HB.out.cell (World.block_lt_of_cell? w _ hw168_0)).trans hw168_0)))).trans (((HB.out.cell (World.block_lt_of_cell? w _ hw168_0)).trans hw168_0)), (World.cell?_alloc_lt _ _ _ (World.block_lt_of_cell? _ _ (((HB.out.cell (World.block_lt_of_cell? w _ hw168_1)).trans hw168_1)))).trans (((HB.out.cell (World.block_lt_of_cell? w _ hw168_1)).trans hw168_1)), (World.cell?_alloc_lt _ _ _ (World.block_lt_of_cell? _ _ (((HB.out.cell (World.block_lt_of_cell? w _ hw168_2)).trans hw168_2)))).trans (((HB.out.cell (World.block_lt_of_cell? w _ hw168_2)).trans hw168_2)), (World.cell?_alloc_lt _ _ _ (World.block_lt_of_cell? _ _ (((HB.out.cell (World.block_lt_of_cell? w _ hw168_3)).trans hw168_3)))).trans (((HB.out.cell (World.block_lt_of_cell? w _ hw168_3)).trans hw168_3))⟩ (fun hHeld => ?_)
             clear hK K
             refine norm_ (a' := ?_) ?_ ?_
             rotate_left
             ·show Act.put _ (some 49) _ = _
              simp only [sp_]
              rfl
             refine one_ (i := 8) (N := some 50) (bA 11 511) rfl rfl (one_of HT_.out (by kernel_rfl)) (by decide) (fun K hK => ?_)
             refine Kd.R_append_step (Kd.int .i64) (w0 := w) w.heap.size (by rfl) (.tmp 43) (.tmp 49) 24 2 (.int .i64 0) 8 rfl Tryd.underlying24 info2 rfl (by decide) (by omega) u163003 x163003_2 ((rd_T43 l0 t164).f3) [.int .i64 ((rd_T43 l0 t164).f3)] (fun k_ => some k_ ≠ (.slice Ao50 y165.length co50 : Value).ownBlock ∧ k_ ≠ gb157 ∧ k_ ≠ gb163) (fun _ => False) rfl rfl ?aP (fun _ hk => hk.elim) ?aF ?aO ?aB ?aS ?aL ?_
             (case aP => exact rfl)
             (case aB => exact d43)
             (case aF => exact (fun k_ hk => ⟨Kd.fresh' (Kd.R_lt (by (with_reducible repeat (first | apply Kd.R_alloc | apply Kd.R_drewN | apply Kd.R_drew)); exact HO167.out)) k_ hk, Kd.freshB (g := gb157) (o := .cells #[.int .i64 a1] 2 (0, 0)) d40 k_ hk, Kd.freshB (g := gb163) (o := .cells #[.int .i64 x28_2] 2 (0, 0)) d93 k_ hk⟩))
             (case aO => exact d102)
             (case aS => exact (below_size d43))
             (case aL => have := LMc41.out; omega)
             intro v170 w54 ho hb hg hat
             rw [← Ny169.out] at ho
             have n0_ := Aside0.mk (blk_grown (g := gb157) (o := .cells #[.int .i64 a1] 2 (0, 0)) d40 hg (Kd.R_away HO_163003.out (fun _ hk => hk.2.1)))
             have n1_ := Aside0.mk (blk_grown (g := gb158) (o := .cells #[.int .i64 0, .int .i64 0, .slice none 0 0, .slice none 0 0] 26 (0, 0)) d70 hg (Kd.R_ne HO_163003.out BK158.out (by decide)))
             have n2_ := Aside0.mk (blk_grown (g := gb162) (o := .cells #[.int .i64 ((rd_T43 l0 0).f0), .int .i64 ((rd_T43 l0 0).f1), .slice Ao50 y165.length co50, u163003] 26 (0, 0)) d80 hg (Kd.R_ne HO_163003.out BK162.out (by decide)))
             have n3_ := Aside0.mk (blk_grown (g := gb163) (o := .cells #[.int .i64 x28_2] 2 (0, 0)) d93 hg (Kd.R_away HO_163003.out (fun _ hk => hk.2.2)))
             have n4_ := Aside0.mk (Kd.R_after (ok := (fun k_ => k_ ≠ gb157 ∧ k_ ≠ gb163)) (by (with_reducible repeat (first | apply Kd.R_alloc | apply Kd.R_drewN | apply Kd.R_drew)); exact Kd.R_mono HO167.out (fun _ hk => ⟨⟨hk.2.1, hk.2.2⟩, hk.1⟩)) hg hat)
             have n5_ := Aside0.mk (hb)
             have n6_ := Aside0.mk (ho)
             clear BK157
             clear BK158
             clear BK162
             clear BK163
             clear HO167
             clear HB
             clear HO_163003
             have BK157 := n0_
             have BK158 := n1_
             have BK162 := n2_
             have BK163 := n3_
             have HO167 := n4_
             have HB := n5_
             have HO171 := n6_
             clear n0_ n1_ n2_ n3_ n4_ n5_ n6_
             clear ho hb hg hat
             obtain ⟨Ao55, co55, eo55⟩ := Kd.R_slice HO171.out
             (first | subst eo55 | (injection eo55 with f1_ f2_ f3_; have f4_ := f1_.symm; have f5_ := f3_.symm; clear f1_ f2_ f3_; subst f4_; subst f5_))
             refine hK.out _ _ ⟨(blk_cell BK162.out 0).trans rfl, (blk_cell BK162.out 1).trans rfl, (blk_cell BK162.out 2).trans rfl, (blk_cell BK162.out 3).trans rfl, ((HB.out.cell (World.block_lt_of_cell? w _ hw168_0)).trans hw168_0), ((HB.out.cell (World.block_lt_of_cell? w _ hw168_1)).trans hw168_1), ((HB.out.cell (World.block_lt_of_cell? w _ hw168_2)).trans hw168_2), ((HB.out.cell (World.block_lt_of_cell? w _ hw168_3)).trans hw168_3)⟩ (fun hHeld => ?_)
             clear hK K
             refine norm_ (a' := ?_) ?_ ?_
             rotate_left
             ·show Act.put _ (some 50) _ = _
              simp only [sp_]
              rfl
             refine pv (i := 9) (N := some 51) (bA 11 1023) rfl rfl o0 ?_
             refine last_ (i := 10) (N := none) (bA 11 2047) rfl rfl (one_of HT_.out (by kernel_rfl)) (by decide) (fun K hK => ?_)
             have hs56 : w54.cell? ⟨gb162, 3, none⟩ = some (u163003) := (blk_cell BK162.out 3).trans rfl
             have hfs56 := blk_frozen BK162.out 3
             have hns56_0 := NB157_162.out
             have hns56_1 := NB158_162.out
             have hns56_3 := NB163_162.out
             have hms56_0 := NB162_157.out
             have hms56_1 := NB162_158.out
             have hms56_3 := NB162_163.out
             refine skip_ (w1 := ?_) (by rfl) rfl ?_ ?_
             rotate_left
             ·go_simp
              rfl
             refine hK.out _ _ ?_
             clear hK K
             refine done_ (done_of HT_.out (by kernel_rfl)) ?_
             try go_wp2
             go_roundg k2
             case measure => have := HJ2.out; have := HK2.out; omega
             case rel => exact ⟨(wrap64 (x28_2 + 1)), (y165), (y169), (.slice Ao50 y165.length co50), (.slice Ao55 y169.length co55), d9, H', ⟨(by have := HJ2.out; have := HK2.out; omega)⟩, ⟨(by (with_reducible repeat (first | apply Kd.R_alloc | apply Kd.R_drewN | apply Kd.R_drew)); exact Kd.R_mono (Kd.R_far (p := ⟨gb162, 3, none⟩) (Kd.R_types HO167.out BK162.out (by decide)) (fun _ hk => hk.2) (.slice Ao55 y169.length co55)) (fun _ hk => And.intro hk.1.2 hk.1.1.1))⟩, ⟨(by (with_reducible repeat (first | apply Kd.R_alloc | apply Kd.R_drewN | apply Kd.R_drew)); exact Kd.R_mono (Kd.R_far (p := ⟨gb162, 3, none⟩) (Kd.R_types HO171.out BK162.out (by decide)) (fun _ hk => hk.2) (.slice Ao55 y169.length co55)) (fun _ hk => And.intro hk.1.1 hk.1.2.1))⟩, ⟨(by (with_reducible repeat (first | refine blk_drewN ?_ _ | refine blk_drew ?_ | refine blk_alloc ?_ _)); refine blk_far ?_ NB157_162.out _; (with_reducible repeat (first | refine blk_drewN ?_ _ | refine blk_drew ?_ | refine blk_alloc ?_ _)); exact BK157.out)⟩, ⟨(by (with_reducible repeat (first | refine blk_drewN ?_ _ | refine blk_drew ?_ | refine blk_alloc ?_ _)); refine blk_far ?_ NB158_162.out _; (with_reducible repeat (first | refine blk_drewN ?_ _ | refine blk_drew ?_ | refine blk_alloc ?_ _)); exact BK158.out)⟩, ⟨(by (with_reducible repeat (first | refine blk_drewN ?_ _ | refine blk_drew ?_ | refine blk_alloc ?_ _)); refine blk_put (cs := #[.int .i64 ((rd_T43 l0 0).f0), .int .i64 ((rd_T43 l0 0).f1), .slice Ao50 y165.length co50, u163003]) ?_ 3 _ rfl; (with_reducible repeat (first | refine blk_drewN ?_ _ | refine blk_drew ?_ | refine blk_alloc ?_ _)); exact BK162.out)⟩, ⟨o46⟩⟩
            ·rw [if_neg c41] at H
             exact absurd H (by simp)
           ·rw [if_neg c40] at H
            exact absurd H (by simp)
          ·rw [if_neg c39] at H
           exact absurd H (by simp)
         ·rw [if_neg c38] at H
          exact absurd H (by simp)
        ·rw [if_neg c37] at H
         have c37b0 : decide (0 ≤ t164) = false := decide_eq_false c37
         clear c37
         (first | rw [c37b0] | (simp only [i64_w, i32_w]; rw [c37b0]) | skip)
         have H' := Aside0.mk H
         clear H
         go_wp2
         go_roundg k2
         case measure => have := HJ2.out; have := HK2.out; omega
         case rel => exact ⟨(wrap64 (x28_2 + 1)), (x163002_2), (x163003_2), (u163002), (u163003), d9, H', ⟨(by have := HJ2.out; have := HK2.out; omega)⟩, ⟨(by (with_reducible repeat (first | apply Kd.R_alloc | apply Kd.R_drewN | apply Kd.R_drew)); exact Kd.R_mono HO_163002.out (fun _ hk => And.intro hk.1.1 hk.1.2))⟩, ⟨(by (with_reducible repeat (first | apply Kd.R_alloc | apply Kd.R_drewN | apply Kd.R_drew)); exact Kd.R_mono HO_163003.out (fun _ hk => And.intro hk.1.1 hk.1.2))⟩, ⟨o85⟩, ⟨o86⟩, ⟨(by (with_reducible repeat (first | refine blk_drewN ?_ _ | refine blk_drew ?_ | refine blk_alloc ?_ _)); exact BK162.out)⟩, ⟨o46⟩⟩
       ·rw [if_neg c23] at H
        have c23b0 : decide (x28_2 < a1) = false := decide_eq_false c23
        clear c23
        replace H := Option.bind_eq_some_iff.mp H
        obtain ⟨t172, A570, H⟩ := H
        replace H : (if (x163002_2.length : Int) < t172 then (some (0, 0, ([] : List Int), ([] : List Int), false)) else (some (((rd_T43 l0 0).f0), ((rd_T43 l0 0).f1), x163002_2, x163003_2, true))) = some (r1, r2, r3, r4, r5) := H
        have A57 := Aside0.mk A570
        clear A570
        have HC58 := Aside0.mk H
        clear H
        try go_wp2
        have n0_ := Aside0.mk (Kd.R_drew HO_163002.out)
        have n1_ := Aside0.mk (Kd.R_drew HO_163003.out)
        have n2_ := Aside0.mk (blk_drew BK157.out)
        have n3_ := Aside0.mk (blk_drew BK158.out)
        have n4_ := Aside0.mk (blk_drew BK162.out)
        have n5_ := Aside0.mk (below_drew1 HB.out)
        clear HO_163002
        clear HO_163003
        clear BK157
        clear BK158
        clear BK162
        clear HB
        have HO_163002 := n0_
        have HO_163003 := n1_
        have BK157 := n2_
        have BK158 := n3_
        have BK162 := n4_
        have HB := n5_
        clear n0_ n1_ n2_ n3_ n4_ n5_
        obtain ⟨Ao60, co60, eo60⟩ := Kd.R_slice HO_163002.out
        (first | subst eo60 | (injection eo60 with f1_ f2_ f3_; have f4_ := f1_.symm; have f5_ := f3_.symm; clear f1_ f2_ f3_; subst f4_; subst f5_))
        refine start_ (n := 6) (S := fun w' => w'.cell? ⟨gb162, 0, none⟩ = some (.int .i64 ((rd_T43 l0 0).f0)) ∧ w'.cell? ⟨gb162, 1, none⟩ = some (.int .i64 ((rd_T43 l0 0).f1)) ∧ w'.cell? ⟨gb162, 2, none⟩ = some (.slice Ao60 x163002_2.length co60) ∧ w'.cell? ⟨gb162, 3, none⟩ = some (u163003) ∧ w'.cell? ⟨gb157, 0, none⟩ = some (.int .i64 a1)) (ds := []) #[false, false, false, false, false, false] (by kernel_rfl) rfl rfl ⟨(blk_cell BK162.out 0).trans rfl, (blk_cell BK162.out 1).trans rfl, (blk_cell BK162.out 2).trans rfl, (blk_cell BK162.out 3).trans rfl, (blk_cell BK157.out 0).trans rfl⟩ (fun hHeld => ?_)
        generalize wr.drew = w59 at HO_163002 HO_163003 BK157 BK158 BK162 HB hHeld ⊢
        refine pure_ (i := 0) (N := some 53) (v := ?_) (a' := ?_) #[true, false, false, false, false, false] rfl rfl (by kernel_rfl) (fun _ _ _ h => h) (Or.inl ⟨(by rfl), ?_⟩) ?_ ?_
        rotate_left
        ·intro w'
         go_simp
         with_reducible rfl
        rotate_left
        ·simp only [sp_]
         rfl
        refine take_ (i := 1) (N := some 54) (v := ?_) (a' := ?_) #[true, true, false, false, false, false] rfl rfl (by kernel_rfl) (fun _ _ _ h => h) (Or.inl ⟨(by rfl), ?_⟩) hHeld ?_ ?_
        rotate_left
        ·rintro w' ⟨s0, s1, s2, s3, s4⟩
         go_simp
         with_reducible rfl
        rotate_left
        ·simp only [sp_]
         rfl
        refine pure_ (i := 2) (N := some 55) (v := ?_) (a' := ?_) #[true, true, true, false, false, false] rfl rfl (by kernel_rfl) (fun _ _ _ h => h) (Or.inl ⟨(by rfl), ?_⟩) ?_ ?_
        rotate_left
        ·intro w'
         go_simp
         with_reducible rfl
        rotate_left
        ·simp only [sp_]
         rfl
        refine take_ (i := 3) (N := some 56) (v := ?_) (a' := ?_) #[true, true, true, true, false, false] rfl rfl (by kernel_rfl) (fun _ _ _ h => h) (Or.inl ⟨(by rfl), ?_⟩) hHeld ?_ ?_
        rotate_left
        ·rintro w' ⟨s0, s1, s2, s3, s4⟩
         go_simp
         with_reducible rfl
        rotate_left
        ·simp only [sp_]
         rfl
        refine one_ (i := 4) (N := some 57) #[true, true, true, true, true, false] rfl rfl (by kernel_rfl) (by decide) (fun K hK => ?_)
        refine goes_ Tryd.func39 (by kernel_rfl) rfl #[.int .i64 a1] (by rfl) rfl rfl d0 ?_
        with_reducible refine (impl_Quorum.calls a1 t172 _ A57.out).mono ?_
        rintro e w' ⟨rfl, ⟨nd, rfl⟩⟩
        refine ⟨_, rfl, ?_⟩
        refine hK.out _ _ ⟨(blk_cell BK162.out 0).trans rfl, (blk_cell BK162.out 1).trans rfl, (blk_cell BK162.out 2).trans rfl, (blk_cell BK162.out 3).trans rfl, (blk_cell BK157.out 0).trans rfl⟩ (fun hHeld => ?_)
        clear hK K
        refine norm_ (a' := ?_) ?_ ?_
        rotate_left
        ·show Act.put _ (some 57) _ = _
         simp only [sp_]
         rfl
        refine pure_ (i := 5) (N := some 58) (v := ?_) (a' := ?_) #[true, true, true, true, true, true] rfl rfl (by kernel_rfl) (fun _ _ _ h => h) (Or.inl ⟨(by rfl), ?_⟩) ?_ ?_
        rotate_left
        ·intro w'
         go_simp
         with_reducible rfl
        rotate_left
        ·simp only [sp_]
         rfl
        refine done_ (by kernel_rfl) ?_
        go_upto_if 58 with (fail)
        (try (rw [drewN_self w59]; generalize hq_ : World.drewN w59 _ = w59; have n0_ := Aside0.mk (Kd.R_at hq_ HO_163002.out); have n1_ := Aside0.mk (Kd.R_at hq_ HO_163003.out); have n2_ := Aside0.mk (blk_at hq_ BK157.out); have n3_ := Aside0.mk (blk_at hq_ BK158.out); have n4_ := Aside0.mk (blk_at hq_ BK162.out); have n5_ := Aside0.mk (below_at hq_ HB.out); clear hq_ HO_163002 HO_163003 BK157 BK158 BK162 HB; have HO_163002 := n0_; have HO_163003 := n1_; have BK157 := n2_; have BK158 := n3_; have BK162 := n4_; have HB := n5_; clear n0_ n1_ n2_ n3_ n4_ n5_))
        have H := HC58.out
        clear HC58
        by_cases c61 : (x163002_2.length : Int) < t172
        ·rw [if_pos c61] at H
         have c61b0 : decide ((x163002_2.length : Int) < t172) = true := decide_eq_true c61
         clear c61
         (first | rw [c61b0] | (simp only [i64_w, i32_w]; rw [c61b0]) | skip)
         simp only [Option.some.injEq, Prod.mk.injEq] at H
         obtain ⟨rfl, rfl, rfl, rfl, rfl⟩ := H
         have hnb62 := NB158_157.out
         have hnc62 := NB157_158.out
         have hnb63 := NB158_162.out
         have hnc63 := NB162_158.out
         have hcz64_0 : w59.cell? ⟨gb158, 0, none⟩ = some (.int .i64 0) := (blk_cell BK158.out 0).trans rfl
         have hcz64_1 : w59.cell? ⟨gb158, 1, none⟩ = some (.int .i64 0) := (blk_cell BK158.out 1).trans rfl
         have hcz64_2 : w59.cell? ⟨gb158, 2, none⟩ = some (.slice none 0 0) := (blk_cell BK158.out 2).trans rfl
         have hcz64_3 : w59.cell? ⟨gb158, 3, none⟩ = some (.slice none 0 0) := (blk_cell BK158.out 3).trans rfl
         have hfz64_0 := blk_frozen BK158.out 0
         have hfz64_1 := blk_frozen BK158.out 1
         have hfz64_2 := blk_frozen BK158.out 2
         have hfz64_3 := blk_frozen BK158.out 3
         go_wp2
         refine bodyPost_ret (results_ct rfl _ _ gb158 26 #[.int .i64 0, .int .i64 0, .slice none 0 0, .slice none 0 0] (0, 0) _ rfl (by (with_reducible repeat (first | refine blk_drewN ?_ _ | refine blk_drew ?_ | refine blk_alloc ?_ _)); refine blk_put (cs := #[.int .i64 0, .int .i64 0, .slice none 0 0, .slice none 0 0]) ?_ 3 _ rfl; (with_reducible repeat (first | refine blk_drewN ?_ _ | refine blk_drew ?_ | refine blk_alloc ?_ _)); refine blk_put (cs := #[.int .i64 0, .int .i64 0, .slice none 0 0, .slice none 0 0]) ?_ 2 _ rfl; (with_reducible repeat (first | refine blk_drewN ?_ _ | refine blk_drew ?_ | refine blk_alloc ?_ _)); refine blk_put (cs := #[.int .i64 0, .int .i64 0, .slice none 0 0, .slice none 0 0]) ?_ 1 _ rfl; (with_reducible repeat (first | refine blk_drewN ?_ _ | refine blk_drew ?_ | refine blk_alloc ?_ _)); refine blk_put (cs := #[.int .i64 0, .int .i64 0, .slice none 0 0, .slice none 0 0]) ?_ 0 _ rfl; (with_reducible repeat (first | refine blk_drewN ?_ _ | refine blk_drew ?_ | refine blk_alloc ?_ _)); exact BK158.out) Tryd.underlying26 rfl (by kernel_rfl)) rfl ?_
         exact ⟨_, _, o2, o17, o17, o58⟩
        ·rw [if_neg c61] at H
         have c61b0 : decide ((x163002_2.length : Int) < t172) = false := decide_eq_false c61
         clear c61
         (first | rw [c61b0] | (simp only [i64_w, i32_w]; rw [c61b0]) | skip)
         simp only [Option.some.injEq, Prod.mk.injEq] at H
         obtain ⟨rfl, rfl, rfl, rfl, rfl⟩ := H
         have hnb65 := NB162_157.out
         have hnc65 := NB157_162.out
         have hnb66 := NB162_158.out
         have hnc66 := NB158_162.out
         have hcz67_0 : w59.cell? ⟨gb162, 0, none⟩ = some (.int .i64 ((rd_T43 l0 0).f0)) := (blk_cell BK162.out 0).trans rfl
         have hcz67_1 : w59.cell? ⟨gb162, 1, none⟩ = some (.int .i64 ((rd_T43 l0 0).f1)) := (blk_cell BK162.out 1).trans rfl
         have hcz67_2 : w59.cell? ⟨gb162, 2, none⟩ = some (.slice Ao60 x163002_2.length co60) := (blk_cell BK162.out 2).trans rfl
         have hcz67_3 : w59.cell? ⟨gb162, 3, none⟩ = some (u163003) := (blk_cell BK162.out 3).trans rfl
         have hfz67_0 := blk_frozen BK162.out 0
         have hfz67_1 := blk_frozen BK162.out 1
         have hfz67_2 := blk_frozen BK162.out 2
         have hfz67_3 := blk_frozen BK162.out 3
         have hnb68 := NB158_157.out
         have hnc68 := NB157_158.out
         have hcz69_0 : w59.cell? ⟨gb158, 0, none⟩ = some (.int .i64 0) := (blk_cell BK158.out 0).trans rfl
         have hcz69_1 : w59.cell? ⟨gb158, 1, none⟩ = some (.int .i64 0) := (blk_cell BK158.out 1).trans rfl
         have hcz69_2 : w59.cell? ⟨gb158, 2, none⟩ = some (.slice none 0 0) := (blk_cell BK158.out 2).trans rfl
         have hcz69_3 : w59.cell? ⟨gb158, 3, none⟩ = some (.slice none 0 0) := (blk_cell BK158.out 3).trans rfl
         have hfz69_0 := blk_frozen BK158.out 0
         have hfz69_1 := blk_frozen BK158.out 1
         have hfz69_2 := blk_frozen BK158.out 2
         have hfz69_3 := blk_frozen BK158.out 3
         obtain ⟨Ao70, co70, eo70⟩ := Kd.R_slice HO_163003.out
         subst eo70
         go_wp2
         refine bodyPost_ret (results_ct rfl _ _ gb158 26 #[.int .i64 ((rd_T43 l0 0).f0), .int .i64 ((rd_T43 l0 0).f1), .slice Ao60 x163002_2.length co60, .slice Ao70 x163003_2.length co70] (0, 0) _ rfl (by (with_reducible repeat (first | refine blk_drewN ?_ _ | refine blk_drew ?_ | refine blk_alloc ?_ _)); refine blk_put (cs := #[.int .i64 ((rd_T43 l0 0).f0), .int .i64 ((rd_T43 l0 0).f1), .slice Ao60 x163002_2.length co60, .slice none 0 0]) ?_ 3 _ rfl; (with_reducible repeat (first | refine blk_drewN ?_ _ | refine blk_drew ?_ | refine blk_alloc ?_ _)); refine blk_put (cs := #[.int .i64 ((rd_T43 l0 0).f0), .int .i64 ((rd_T43 l0 0).f1), .slice none 0 0, .slice none 0 0]) ?_ 2 _ rfl; (with_reducible repeat (first | refine blk_drewN ?_ _ | refine blk_drew ?_ | refine blk_alloc ?_ _)); refine blk_put (cs := #[.int .i64 ((rd_T43 l0 0).f0), .int .i64 0, .slice none 0 0, .slice none 0 0]) ?_ 1 _ rfl; (with_reducible repeat (first | refine blk_drewN ?_ _ | refine blk_drew ?_ | refine blk_alloc ?_ _)); refine blk_put (cs := #[.int .i64 0, .int .i64 0, .slice none 0 0, .slice none 0 0]) ?_ 0 _ rfl; (with_reducible repeat (first | refine blk_drewN ?_ _ | refine blk_drew ?_ | refine blk_alloc ?_ _)); exact BK158.out) Tryd.underlying26 rfl (by kernel_rfl)) rfl ?_
         exact ⟨_, _, o2, (by (with_reducible repeat (first | apply Kd.R_alloc | apply Kd.R_drewN | apply Kd.R_drew)); exact Kd.R_mono (Kd.R_far (p := ⟨gb158, 3, none⟩) (Kd.R_far (p := ⟨gb158, 2, none⟩) (Kd.R_far (p := ⟨gb158, 1, none⟩) (Kd.R_far (p := ⟨gb158, 0, none⟩) (Kd.R_types HO_163002.out BK158.out (by decide)) (fun _ hk => hk.2) (.int .i64 ((rd_T43 l0 0).f0))) (fun _ hk => hk.2) (.int .i64 ((rd_T43 l0 0).f1))) (fun _ hk => hk.2) (.slice Ao60 x163002_2.length co60)) (fun _ hk => hk.2) (.slice Ao70 x163003_2.length co70)) (fun _ hk => hk.1.1)), (by (with_reducible repeat (first | apply Kd.R_alloc | apply Kd.R_drewN | apply Kd.R_drew)); exact Kd.R_mono (Kd.R_far (p := ⟨gb158, 3, none⟩) (Kd.R_far (p := ⟨gb158, 2, none⟩) (Kd.R_far (p := ⟨gb158, 1, none⟩) (Kd.R_far (p := ⟨gb158, 0, none⟩) (Kd.R_types HO_163003.out BK158.out (by decide)) (fun _ hk => hk.2) (.int .i64 ((rd_T43 l0 0).f0))) (fun _ hk => hk.2) (.int .i64 ((rd_T43 l0 0).f1))) (fun _ hk => hk.2) (.slice Ao60 x163002_2.length co60)) (fun _ hk => hk.2) (.slice Ao70 x163003_2.length co70)) (fun _ hk => hk.1.1)), o58⟩
    ·rw [if_neg c13] at H
     exact absurd H (by simp)

end Go.Proofs.YtokfpmkhfindmaaDoor.PFnProofs
