-- Written by a program of this session (wip/tools/pp.py over the kit's print).
import Derived.Test.YtckgkhlgnblblaaPFnPoolx0
import Derived.Test.YtckgkhlgnblblaaPFnPoolx4
import Derived.Test.YtckgkhlgnblblaaPFnPoolx5
namespace Go.Proofs.Ytckgkhlgnblblaa.PFnPool
open Go.RowKit Go.Proofs.YtckgkhlgnblblaaW.PrintWords Go.Proofs.YtckgkhlgnblblaaW.PrintLast Go.Proofs.YtckgkhlgnblblaaW.PrintMore
attribute [local go_sem] max2_int min2_int max_two min_two max_three min_three max_four min_four
attribute [local go_sem high] str_gtr str_leq str_geq
set_option linter.unusedVariables false
set_option linter.unusedSimpArgs false

/-! ### impl_Offered: function 56 -/
mutual
def impl_Offered.j0 : Nat → List (S86) → Bool → Int → ByteArray → Option ((List (S86)) × Bool)
 | 0, _, _, _, _ => none
 | k + 1, x0, x20, x364000, x364001 => if x20 = true then (some (([] : List (S86)), false)) else ((impl_Offer.f x0).bind fun t366 => ((some (([(⟨x364000, x364001⟩ : S86)] : List (S86)) : List (S86))).bind fun y369 => (if t366.length + y369.length < 5864062014805 then ((some (t366 ++ y369 : List (S86))).bind fun y372 => (impl_Offered.l0 k y372 (wrap64 ((y372.length : Int) - 1)))) else (none))))
def impl_Offered.l0 : Nat → List (S86) → Int → Option ((List (S86)) × Bool)
 | 0, _, _ => none
 | k + 1, x6, x7 => if x7 > 0 then (if 0 ≤ x7 then (if x7 < (x6.length : Int) then (if 0 ≤ (wrap64 (Int.tdiv (wrap64 (x7 - 1)) 2)) then (if (wrap64 (Int.tdiv (wrap64 (x7 - 1)) 2)) < (x6.length : Int) then ((impl_Offer_ahead.f ((rd_T86 x6 x7).f0) ((rd_T86 x6 x7).f1) ((rd_T86 x6 (wrap64 (Int.tdiv (wrap64 (x7 - 1)) 2))).f0) ((rd_T86 x6 (wrap64 (Int.tdiv (wrap64 (x7 - 1)) 2))).f1)).bind fun t377 => (if t377 = true then (impl_Offered.l0 k ((x6.set (x7 : Int).toNat (⟨(rd_T86 x6 (wrap64 (Int.tdiv (wrap64 (x7 - 1)) 2))).f0, (rd_T86 x6 (wrap64 (Int.tdiv (wrap64 (x7 - 1)) 2))).f1⟩ : S86)).set ((wrap64 (Int.tdiv (wrap64 (x7 - 1)) 2)) : Int).toNat (⟨(rd_T86 x6 x7).f0, (rd_T86 x6 x7).f1⟩ : S86)) (wrap64 (Int.tdiv (wrap64 (x7 - 1)) 2))) else (some (x6, true)))) else (none)) else (none)) else (none)) else (none)) else (some (x6, true))
end
def impl_Offered.f (k : Nat) (l0 : List (S86)) (a1_0 : Int) (a1_1 : ByteArray) : Option ((List (S86)) × Bool) := (impl_PoolOk.f k l0).bind fun t364 => (if t364 = true then ((impl_offerOk.f a1_0 a1_1).bind fun t365 => (if t365 = true then (impl_Offered.j0 k l0 ((l0.length : Int) == 50) a1_0 a1_1) else (impl_Offered.j0 k l0 true a1_0 a1_1))) else (impl_Offered.j0 k l0 true a1_0 a1_1))
theorem impl_Offered.mono_l : ∀ k, (∀ y0 y1 y2 y3, LeO (impl_Offered.j0 k y0 y1 y2 y3) (impl_Offered.j0 (k + 1) y0 y1 y2 y3)) ∧ (∀ y0 y1, LeO (impl_Offered.l0 k y0 y1) (impl_Offered.l0 (k + 1) y0 y1))
 | 0 => ⟨fun _ _ _ _ r h => by simp [impl_Offered.j0] at h, fun _ _ r h => by simp [impl_Offered.l0] at h⟩
 | k + 1 => by
  obtain ⟨ih0, ih1⟩ := impl_Offered.mono_l k
  refine ⟨?_, ?_⟩
  ·intro y0 y1 y2 y3
   unfold impl_Offered.j0
   repeat' first
   | (with_reducible exact ih0 _ _ _ _)
   | (with_reducible exact ih1 _ _)
   | (with_reducible exact impl_PoolOk.mono _ _)
   | (with_reducible exact LeO.refl _)
   | (with_reducible exact LeO.none _)
   | (with_reducible refine LeO.ite ?_ ?_)
   | (with_reducible refine LeO.bind ?_ (fun _ => ?_))
   | exact ih0 _ _ _ _
   | exact ih1 _ _
   | exact impl_PoolOk.mono _ _
   | exact LeO.none _
   | refine LeO.ite ?_ ?_
   | refine LeO.bind ?_ (fun _ => ?_)
  ·intro y0 y1
   unfold impl_Offered.l0
   repeat' first
   | (with_reducible exact ih0 _ _ _ _)
   | (with_reducible exact ih1 _ _)
   | (with_reducible exact impl_PoolOk.mono _ _)
   | (with_reducible exact LeO.refl _)
   | (with_reducible exact LeO.none _)
   | (with_reducible refine LeO.ite ?_ ?_)
   | (with_reducible refine LeO.bind ?_ (fun _ => ?_))
   | exact ih0 _ _ _ _
   | exact ih1 _ _
   | exact impl_PoolOk.mono _ _
   | exact LeO.none _
   | refine LeO.ite ?_ ?_
   | refine LeO.bind ?_ (fun _ => ?_)
theorem impl_Offered.mono : ∀ a0 a1 a2 k, LeO (impl_Offered.f k a0 a1 a2) (impl_Offered.f (k + 1) a0 a1 a2) := by
 intro a0 a1 a2 k
 obtain ⟨ih0, ih1⟩ := impl_Offered.mono_l k
 unfold impl_Offered.f
 repeat' first
   | (with_reducible exact ih0 _ _ _ _)
   | (with_reducible exact ih1 _ _)
   | (with_reducible exact impl_PoolOk.mono _ _)
   | (with_reducible exact LeO.refl _)
   | (with_reducible exact LeO.none _)
   | (with_reducible refine LeO.ite ?_ ?_)
   | (with_reducible refine LeO.bind ?_ (fun _ => ?_))
   | exact ih0 _ _ _ _
   | exact ih1 _ _
   | exact impl_PoolOk.mono _ _
   | exact LeO.none _
   | refine LeO.ite ?_ ?_
   | refine LeO.bind ?_ (fun _ => ?_)
def impl_Offered.T5 : Bool × List (List Nat × List Nat) := (true, [([], []), ([0], [0]), ([1], [1]), ([2], [2]), ([2], [2]), ([3, 4, 2], [2, 3, 4]), ([5, 2], [2, 5]), ([2], [2]), ([2], [2]), ([8, 2], [2, 8]), ([9, 2], [2, 9]), ([7, 10, 2], [2, 7, 10]), ([11, 2], [2, 11]), ([6, 12, 2, 2], [2, 6, 12]), ([2, 13], [2, 13])])
def impl_Offered.B5 : List Nat := [0, 1, 3, 7, 7, 31, 63, 7, 7, 263, 775, 1927, 3975, 8191, 16383]
theorem impl_Offered.tab5 : rtab .any (opsOf Try.f56 5) = impl_Offered.T5 := by kernel_rfl
theorem impl_Offered.bits5 : waitsOk impl_Offered.T5.2 impl_Offered.B5 = true := by kernel_rfl
def impl_Offered.T7 : Bool × List (List Nat × List Nat) := (true, [([], []), ([], []), ([], []), ([], []), ([3], [3]), ([4], [4]), ([], []), ([], []), ([7], [7]), ([8], [8]), ([6, 9], [6, 9]), ([10], [10]), ([], []), ([], []), ([12, 13], [12, 13]), ([14], [14]), ([0, 1, 0, 1, 6, 7, 8, 9, 10, 11, 15], [0, 1]), ([16, 11, 0, 1, 6, 7, 8, 9, 10, 11, 15], [11, 16]), ([2, 5, 0, 1, 2, 3, 4, 5, 6, 7, 8, 9, 10, 11, 12, 13, 14, 15, 16, 17], [2, 5]), ([18, 15, 17, 0, 1, 2, 3, 4, 5, 6, 7, 8, 9, 10, 11, 12, 13, 14, 15, 16, 17], [15, 18])])
def impl_Offered.B7 : List Nat := [0, 0, 0, 0, 8, 24, 0, 0, 128, 384, 960, 1984, 0, 0, 12288, 28672, 65475, 131011, 262143, 524287]
theorem impl_Offered.tab7 : rtab .any (opsOf Try.f56 7) = impl_Offered.T7 := by kernel_rfl
theorem impl_Offered.bits7 : waitsOk impl_Offered.T7.2 impl_Offered.B7 = true := by kernel_rfl
set_option maxHeartbeats 8000000 in
set_option maxRecDepth 100000 in
theorem impl_Offered.calls (k : Nat) (A0 : Option Addr) (c0 : Nat) (l0 : List (S86)) (a1_0 : Int) (a1_1 : ByteArray) (r1 : List (S86)) (r2 : Bool) (w : World) (hr0 : Kd.C k86 w A0 l0.length l0) (hc0 : l0.length ≤ c0) (h : impl_Offered.f k l0 a1_0 a1_1 = some (r1, r2)) :
  Calls Try.prog 56 #[.slice A0 l0.length c0, .agg #[.int .i64 a1_0, .string a1_1]] w fun e w' => ∃ v0_ : Value, e = .returned (.tuple #[v0_, .bool r2]) ∧ Kd.R k86 86 w' w.heap.size (fun _ => True) v0_ r1 ∧ Below w.heap.size w w' := by
 have hu86 := Try.underlying86
 have HR0 := Aside0.mk hr0
 have HC0 := Aside0.mk hc0
 clear hr0 hc0
 have HB := Aside0.mk (Below.refl w.heap.size w)
 have H : ((impl_PoolOk.f k l0).bind fun t364 => (if t364 = true then ((impl_offerOk.f a1_0 a1_1).bind fun t365 => (if t365 = true then (impl_Offered.j0 k l0 ((l0.length : Int) == 50) a1_0 a1_1) else (impl_Offered.j0 k l0 true a1_0 a1_1))) else (impl_Offered.j0 k l0 true a1_0 a1_1))) = some (r1, r2) := h
 clear h
 have HC3 := Aside0.mk H
 clear H
 go_enter Try.func56, Try.ntmps56
 go_upto_region 1 with (first | ((with_reducible refine gate_dst (N := 3) rfl ?_); (try (refine gate_guard (by rfl) ?_; dsimp only)); refine box_event ?hg (N := 3) ?hd (cs := #[.int .i64 a1_0, .string a1_1]) (t := 86) ?hr ?_; (case hd => rfl); (case hg => rfl); (case hr => first | (go_simp; done) | (go_simp; rfl)); intro gb363 hg w4 hbox hb; have n0_ := Aside0.mk (below_step (by repeat (first | (with_reducible first | exact HB.out | apply below_alloc | apply pw_below_drewN | apply below_drew1) | exact HB.out)) hb); have n1_ := Aside0.mk (hbox); have n2_ := Aside0.mk ((by rw [hg]; exact (below_size (by repeat (first | (with_reducible first | exact HB.out | apply below_alloc | apply pw_below_drewN | apply below_drew1) | exact HB.out))) : w.heap.size ≤ gb363)); have n3_ := Aside0.mk ((by rw [hg]; exact (below_size (by repeat (first | (with_reducible first | exact HB.out | apply below_alloc | apply pw_below_drewN | apply below_drew1) | exact HB.out))) : w.heap.size ≤ gb363)); clear HB; have HB := n0_; have BK363 := n1_; have GW363 := n2_; have GE363 := n3_; clear n0_ n1_ n2_ n3_; clear hb hbox hg))
 (try simp only [Act.put, List.setIfInBounds_toArray, List.set_cons_zero, List.set_cons_succ])
 go_cut [20] (fun v20 wc => ∃ (kq : Nat) (x20_2 : Bool), v20 = .bool x20_2 ∧ Aside0 (impl_Offered.j0 kq l0 x20_2 a1_0 a1_1 = some (r1, r2)) ∧ Aside0 (kq ≤ k) ∧ Aside0 (wc.heap[gb363]? = some (.cells #[.int .i64 a1_0, .string a1_1] 86 (0, 0))) ∧ Aside0 (Below w.heap.size w wc))
 case first =>
  have H := HC3.out
  clear HC3
  replace H := Option.bind_eq_some_iff.mp H
  obtain ⟨t364, A50, H⟩ := H
  replace H : (if t364 = true then ((impl_offerOk.f a1_0 a1_1).bind fun t365 => (if t365 = true then (impl_Offered.j0 k l0 ((l0.length : Int) == 50) a1_0 a1_1) else (impl_Offered.j0 k l0 true a1_0 a1_1))) else (impl_Offered.j0 k l0 true a1_0 a1_1)) = some (r1, r2) := H
  have A5 := Aside0.mk A50
  clear A50
  by_cases c6 : t364 = true
  ·subst c6
   have H1 : ((impl_offerOk.f a1_0 a1_1).bind fun t365 => (if t365 = true then (impl_Offered.j0 k l0 ((l0.length : Int) == 50) a1_0 a1_1) else (impl_Offered.j0 k l0 true a1_0 a1_1))) = some (r1, r2) := by rw [if_pos rfl] at H; exact H
   clear H
   have H := H1
   clear H1
   replace H := Option.bind_eq_some_iff.mp H
   obtain ⟨t365, A70, H⟩ := H
   replace H : (if t365 = true then (impl_Offered.j0 k l0 ((l0.length : Int) == 50) a1_0 a1_1) else (impl_Offered.j0 k l0 true a1_0 a1_1)) = some (r1, r2) := H
   have A7 := Aside0.mk A70
   clear A70
   by_cases c8 : t365 = true
   ·subst c8
    have H1 : (impl_Offered.j0 k l0 ((l0.length : Int) == 50) a1_0 a1_1) = some (r1, r2) := by rw [if_pos rfl] at H; exact H
    clear H
    have H := H1
    clear H1
    have H' := Aside0.mk H
    clear H
    go_wp2_with (first | ((with_reducible refine gate_callee (f := 62) rfl ?_); refine goesL_ (some 9) rfl rfl Try.func62 (by kernel_rfl) rfl #[.slice A0 l0.length c0] rfl (by (try simp only [List.map_toArray, List.map_cons, List.map_nil]); first | done | rfl | (simp only [List.length_drop, List.length_take]; rfl)) ?_; (with_reducible refine (impl_PoolOk.calls k _ _ l0 true _ ?side1 ?side2 A5.out).mono ?_); (case side1 => repeat (first | exact (Kd.C_below HR0.out HB.out) | (with_reducible refine Kd.C_alloc ?_ _) | (with_reducible refine Kd.C_drewN ?_ _) | (with_reducible refine Kd.C_drew ?_))); (case side2 => exact HC0.out); rintro e w9 ⟨rfl, hb⟩; refine ⟨_, rfl, ?_⟩; have n0_ := Aside0.mk (blk_below (g := gb363) (o := .cells #[.int .i64 a1_0, .string a1_1] 86 (0, 0)) (by (with_reducible repeat (first | refine blk_drewN ?_ _ | refine blk_drew ?_ | refine blk_alloc ?_ _)); exact BK363.out) hb); have n1_ := Aside0.mk (below_step (by repeat (first | (with_reducible first | exact HB.out | apply below_alloc | apply pw_below_drewN | apply below_drew1 | refine below_set ?_ GE363.out) | exact HB.out)) hb); clear BK363; clear HB; have BK363 := n0_; have HB := n1_; clear n0_ n1_; (try clear hb); (try clear hb2); (try clear hk); (try clear hi); have hcz10_0 : w9.cell? ⟨gb363, 0, none⟩ = some (.int .i64 a1_0) := (blk_cell BK363.out 0).trans rfl; have hcz10_1 : w9.cell? ⟨gb363, 1, none⟩ = some (.string a1_1) := (blk_cell BK363.out 1).trans rfl; have hfz10_0 := blk_frozen BK363.out 0; have hfz10_1 := blk_frozen BK363.out 1) | (go_at_call 133; (with_reducible refine (impl_offerOk.calls a1_0 a1_1 true _ A7.out).mono ?_); rintro e w11 ⟨rfl, hb⟩; have n0_ := Aside0.mk (blk_below (g := gb363) (o := .cells #[.int .i64 a1_0, .string a1_1] 86 (0, 0)) (by (with_reducible repeat (first | refine blk_drewN ?_ _ | refine blk_drew ?_ | refine blk_alloc ?_ _)); exact BK363.out) hb); have n1_ := Aside0.mk (below_step (by repeat (first | (with_reducible first | exact HB.out | apply below_alloc | apply pw_below_drewN | apply below_drew1 | refine below_set ?_ GE363.out) | exact HB.out)) hb); clear BK363; clear HB; have BK363 := n0_; have HB := n1_; clear n0_ n1_; (try clear hb); (try clear hb2); (try clear hk); (try clear hi)))
    go_meet
    case rel => exact ⟨_, (((l0.length : Int) == 50)), (by first | rfl | (simp; done) | (simp [*]; done)), H', ⟨by first | omega | exact Nat.le_refl _⟩, ⟨by (with_reducible repeat (first | refine blk_drewN ?_ _ | refine blk_drew ?_ | refine blk_alloc ?_ _)); exact BK363.out⟩, ⟨by repeat (first | (with_reducible first | exact HB.out | apply below_alloc | apply pw_below_drewN | apply below_drew1 | refine below_set ?_ GE363.out) | exact HB.out)⟩⟩
   ·replace c8 := Bool.eq_false_iff.mpr c8
    subst c8
    have H1 : (impl_Offered.j0 k l0 true a1_0 a1_1) = some (r1, r2) := by rw [if_neg (show ¬ (false = true) by decide)] at H; exact H
    clear H
    have H := H1
    clear H1
    have H' := Aside0.mk H
    clear H
    go_wp2_with (first | ((with_reducible refine gate_callee (f := 62) rfl ?_); refine goesL_ (some 9) rfl rfl Try.func62 (by kernel_rfl) rfl #[.slice A0 l0.length c0] rfl (by (try simp only [List.map_toArray, List.map_cons, List.map_nil]); first | done | rfl | (simp only [List.length_drop, List.length_take]; rfl)) ?_; (with_reducible refine (impl_PoolOk.calls k _ _ l0 true _ ?side1 ?side2 A5.out).mono ?_); (case side1 => repeat (first | exact (Kd.C_below HR0.out HB.out) | (with_reducible refine Kd.C_alloc ?_ _) | (with_reducible refine Kd.C_drewN ?_ _) | (with_reducible refine Kd.C_drew ?_))); (case side2 => exact HC0.out); rintro e w12 ⟨rfl, hb⟩; refine ⟨_, rfl, ?_⟩; have n0_ := Aside0.mk (blk_below (g := gb363) (o := .cells #[.int .i64 a1_0, .string a1_1] 86 (0, 0)) (by (with_reducible repeat (first | refine blk_drewN ?_ _ | refine blk_drew ?_ | refine blk_alloc ?_ _)); exact BK363.out) hb); have n1_ := Aside0.mk (below_step (by repeat (first | (with_reducible first | exact HB.out | apply below_alloc | apply pw_below_drewN | apply below_drew1 | refine below_set ?_ GE363.out) | exact HB.out)) hb); clear BK363; clear HB; have BK363 := n0_; have HB := n1_; clear n0_ n1_; (try clear hb); (try clear hb2); (try clear hk); (try clear hi); have hcz13_0 : w12.cell? ⟨gb363, 0, none⟩ = some (.int .i64 a1_0) := (blk_cell BK363.out 0).trans rfl; have hcz13_1 : w12.cell? ⟨gb363, 1, none⟩ = some (.string a1_1) := (blk_cell BK363.out 1).trans rfl; have hfz13_0 := blk_frozen BK363.out 0; have hfz13_1 := blk_frozen BK363.out 1) | (go_at_call 133; (with_reducible refine (impl_offerOk.calls a1_0 a1_1 false _ A7.out).mono ?_); rintro e w14 ⟨rfl, hb⟩; have n0_ := Aside0.mk (blk_below (g := gb363) (o := .cells #[.int .i64 a1_0, .string a1_1] 86 (0, 0)) (by (with_reducible repeat (first | refine blk_drewN ?_ _ | refine blk_drew ?_ | refine blk_alloc ?_ _)); exact BK363.out) hb); have n1_ := Aside0.mk (below_step (by repeat (first | (with_reducible first | exact HB.out | apply below_alloc | apply pw_below_drewN | apply below_drew1 | refine below_set ?_ GE363.out) | exact HB.out)) hb); clear BK363; clear HB; have BK363 := n0_; have HB := n1_; clear n0_ n1_; (try clear hb); (try clear hb2); (try clear hk); (try clear hi)))
    go_meet
    case rel => exact ⟨_, (true), (by first | rfl | (simp; done) | (simp [*]; done)), H', ⟨by first | omega | exact Nat.le_refl _⟩, ⟨by (with_reducible repeat (first | refine blk_drewN ?_ _ | refine blk_drew ?_ | refine blk_alloc ?_ _)); exact BK363.out⟩, ⟨by repeat (first | (with_reducible first | exact HB.out | apply below_alloc | apply pw_below_drewN | apply below_drew1 | refine below_set ?_ GE363.out) | exact HB.out)⟩⟩
  ·replace c6 := Bool.eq_false_iff.mpr c6
   subst c6
   have H1 : (impl_Offered.j0 k l0 true a1_0 a1_1) = some (r1, r2) := by rw [if_neg (show ¬ (false = true) by decide)] at H; exact H
   clear H
   have H := H1
   clear H1
   have H' := Aside0.mk H
   clear H
   go_wp2_with (first | ((with_reducible refine gate_callee (f := 62) rfl ?_); refine goesL_ (some 9) rfl rfl Try.func62 (by kernel_rfl) rfl #[.slice A0 l0.length c0] rfl (by (try simp only [List.map_toArray, List.map_cons, List.map_nil]); first | done | rfl | (simp only [List.length_drop, List.length_take]; rfl)) ?_; (with_reducible refine (impl_PoolOk.calls k _ _ l0 false _ ?side1 ?side2 A5.out).mono ?_); (case side1 => repeat (first | exact (Kd.C_below HR0.out HB.out) | (with_reducible refine Kd.C_alloc ?_ _) | (with_reducible refine Kd.C_drewN ?_ _) | (with_reducible refine Kd.C_drew ?_))); (case side2 => exact HC0.out); rintro e w15 ⟨rfl, hb⟩; refine ⟨_, rfl, ?_⟩; have n0_ := Aside0.mk (blk_below (g := gb363) (o := .cells #[.int .i64 a1_0, .string a1_1] 86 (0, 0)) (by (with_reducible repeat (first | refine blk_drewN ?_ _ | refine blk_drew ?_ | refine blk_alloc ?_ _)); exact BK363.out) hb); have n1_ := Aside0.mk (below_step (by repeat (first | (with_reducible first | exact HB.out | apply below_alloc | apply pw_below_drewN | apply below_drew1 | refine below_set ?_ GE363.out) | exact HB.out)) hb); clear BK363; clear HB; have BK363 := n0_; have HB := n1_; clear n0_ n1_; (try clear hb); (try clear hb2); (try clear hk); (try clear hi)))
   go_meet
   case rel => exact ⟨_, (true), (by first | rfl | (simp; done) | (simp [*]; done)), H', ⟨by first | omega | exact Nat.le_refl _⟩, ⟨by (with_reducible repeat (first | refine blk_drewN ?_ _ | refine blk_drew ?_ | refine blk_alloc ?_ _)); exact BK363.out⟩, ⟨by repeat (first | (with_reducible first | exact HB.out | apply below_alloc | apply pw_below_drewN | apply below_drew1 | refine below_set ?_ GE363.out) | exact HB.out)⟩⟩
 case rest =>
  clear HC3
  try clear p2
  try clear c5
  try clear c6
  try clear c8
  try clear hcz10_0
  try clear hcz10_1
  try clear hcz13_0
  try clear hcz13_1
  try clear hfz10_0
  try clear hfz10_1
  try clear hfz13_0
  try clear hfz13_1
  obtain ⟨kq, x20_2, rfl, HA, HJ2, BK363, HB⟩ := hcut
  cases kq with
  | zero => exact absurd HA.out (by simp [impl_Offered.j0])
  | succ kj2 =>
   have H := HA.out
   clear HA
   simp only [impl_Offered.j0] at H
   by_cases c16 : x20_2 = true
   ·subst c16
    have H1 : (some (([] : List (S86)), false)) = some (r1, r2) := by rw [if_pos rfl] at H; exact H
    clear H
    have H := H1
    clear H1
    simp only [Option.some.injEq, Prod.mk.injEq] at H
    obtain ⟨rfl, rfl⟩ := H
    go_wp2
    go_ret2
    exact ⟨_, by first | rfl | (simp [errW_none, errW_some] <;> rfl) | (simp [*, errW_none, errW_some] <;> rfl), by first | exact Kd.R_nil _ _ _ _ _ | exact Kd.N_nil _ _ _ _ _ | exact Kd.V_nil _ _ _ _ _ | exact Kd.Q_nil _ _ _ _ _ | exact Kd.S_nil _ _ _ _ _, by repeat (first | (with_reducible first | exact HB.out | apply below_alloc | apply pw_below_drewN | apply below_drew1 | refine below_set ?_ GE363.out) | exact HB.out)⟩
   ·replace c16 := Bool.eq_false_iff.mpr c16
    subst c16
    have H1 : ((impl_Offer.f l0).bind fun t366 => ((some (([(⟨a1_0, a1_1⟩ : S86)] : List (S86)) : List (S86))).bind fun y369 => (if t366.length + y369.length < 5864062014805 then ((some (t366 ++ y369 : List (S86))).bind fun y372 => (impl_Offered.l0 kj2 y372 (wrap64 ((y372.length : Int) - 1)))) else (none)))) = some (r1, r2) := by rw [if_neg (show ¬ (false = true) by decide)] at H; exact H
    clear H
    have H := H1
    clear H1
    replace H := Option.bind_eq_some_iff.mp H
    obtain ⟨t366, A170, H⟩ := H
    replace H : ((some (([(⟨a1_0, a1_1⟩ : S86)] : List (S86)) : List (S86))).bind fun y369 => (if t366.length + y369.length < 5864062014805 then ((some (t366 ++ y369 : List (S86))).bind fun y372 => (impl_Offered.l0 kj2 y372 (wrap64 ((y372.length : Int) - 1)))) else (none))) = some (r1, r2) := H
    have A17 := Aside0.mk A170
    clear A170
    obtain ⟨y369, hy369⟩ : ∃ y_ : List (S86), y_ = (([(⟨a1_0, a1_1⟩ : S86)] : List (S86))) := ⟨_, rfl⟩
    replace H : (if t366.length + y369.length < 5864062014805 then ((some (t366 ++ y369 : List (S86))).bind fun y372 => (impl_Offered.l0 kj2 y372 (wrap64 ((y372.length : Int) - 1)))) else (none)) = some (r1, r2) := by first | (rw [hy369]; with_reducible exact H) | (have H2_ := (Option.bind_some _ _).symm.trans H; rw [hy369]; with_reducible exact H2_) | (have H2_ := (Option.bind_some _ _).symm.trans H; with_reducible exact H2_) | with_reducible exact H | (rw [hy369]; exact H) | exact H
    have Ny369 := Aside0.mk hy369
    clear hy369
    by_cases c18 : t366.length + y369.length < 5864062014805
    ·rw [if_pos c18] at H
     have LMc18 := Aside0.mk c18
     clear c18
     obtain ⟨y372, hy372⟩ : ∃ y_ : List (S86), y_ = (t366 ++ y369) := ⟨_, rfl⟩
     replace H : (impl_Offered.l0 kj2 y372 (wrap64 ((y372.length : Int) - 1))) = some (r1, r2) := by first | (rw [hy372]; with_reducible exact H) | (have H2_ := (Option.bind_some _ _).symm.trans H; rw [hy372]; with_reducible exact H2_) | (have H2_ := (Option.bind_some _ _).symm.trans H; with_reducible exact H2_) | with_reducible exact H | (rw [hy372]; exact H) | exact H
     have Ny372 := Aside0.mk hy372
     clear hy372
     have H' := Aside0.mk H
     clear H
     try go_wp2
     have n0_ := Aside0.mk (blk_drew BK363.out)
     have n1_ := Aside0.mk (below_drew1 HB.out)
     clear BK363
     clear HB
     have BK363 := n0_
     have HB := n1_
     clear n0_ n1_
     refine start_ (n := 6) (S := fun w' => w'.cell? ⟨gb363, 0, none⟩ = some (.int .i64 a1_0) ∧ w'.cell? ⟨gb363, 1, none⟩ = some (.string a1_1)) (ds := []) #[false, false, false, false, false, false] (by kernel_rfl) rfl rfl ⟨(blk_cell BK363.out 0).trans rfl, (blk_cell BK363.out 1).trans rfl⟩ (fun hHeld => ?_)
     generalize wc.drew = w19 at BK363 HB hHeld ⊢
     refine pure_ (i := 0) (N := some 21) (v := ?_) (a' := ?_) #[true, false, false, false, false, false] rfl rfl (by kernel_rfl) (fun _ _ _ h => h) (Or.inl ⟨by rfl, ?_⟩) ?_ ?_
     rotate_left
     ·intro w'
      go_simp
      with_reducible rfl
     rotate_left
     ·simp only [sp_]
      rfl
     refine take_ (i := 2) (N := some 23) (v := ?_) (a' := ?_) #[true, false, true, false, false, false] rfl rfl (by kernel_rfl) (fun _ _ _ h => h) (Or.inl ⟨by rfl, ?_⟩) hHeld ?_ ?_
     rotate_left
     ·rintro w' ⟨s0, s1⟩
      go_simp
      with_reducible rfl
     rotate_left
     ·simp only [sp_]
      rfl
     refine join_ (σ := Value × Value) 2 #[true, true, true, true, false, false] (fun s_ => [(22, s_.1), (24, s_.2)]) (fun s_ w' => (w'.cell? ⟨gb363, 0, none⟩ = some (.int .i64 a1_0) ∧ w'.cell? ⟨gb363, 1, none⟩ = some (.string a1_1)) ∧ (Kd.R k86 86 w' w.heap.size (fun k_ => some k_ ≠ (s_.2 : Value).ownBlock ∧ k_ ≠ gb363) s_.1 t366) ∧ (Kd.R k86 86 w' w.heap.size (fun k_ => some k_ ≠ (s_.1 : Value).ownBlock ∧ k_ ≠ gb363) s_.2 y369) ∧ (w'.heap[gb363]? = some (.cells #[.int .i64 a1_0, .string a1_1] 86 (0, 0))) ∧ (Below w.heap.size w w')) ?_ ?_
     rotate_left
     ·intro hCont
      refine two_ (i := 1) (j := 3) (Ni := some 22) (Nj := some 24) #[true, true, true, false, false, false] #[true, false, true, true, false, false] rfl rfl rfl rfl (by kernel_rfl) (by decide) (by decide) (fun K hK => ?_) (fun K hK => ?_)
      ·skip
       refine goes_ Try.func134 (by kernel_rfl) rfl #[.slice A0 l0.length c0] (by rfl) rfl rfl (by (try simp only [List.map_toArray, List.map_cons, List.map_nil]); first | done | rfl | (simp only [List.length_drop, List.length_take]; rfl)) ?_
       with_reducible refine (impl_Offer.calls _ _ l0 t366 _ ?side1 ?side2 A17.out).mono ?_
       (case side1 => repeat (first | exact (Kd.C_below HR0.out HB.out) | (with_reducible refine Kd.C_alloc ?_ _) | (with_reducible refine Kd.C_drewN ?_ _) | (with_reducible refine Kd.C_drew ?_)))
       (case side2 => exact HC0.out)
       rintro e w20 ⟨v367, rfl, ho0, hb⟩
       refine ⟨_, rfl, ?_⟩
       have n0_ := Aside0.mk (Kd.R_lower (Kd.R_newB ho0 (g := gb363) (o := .cells #[.int .i64 a1_0, .string a1_1] 86 (0, 0)) (by (with_reducible repeat (first | refine blk_drewN ?_ _ | refine blk_drew ?_ | refine blk_alloc ?_ _)); exact BK363.out)) (below_size (by repeat (first | (with_reducible first | exact HB.out | apply below_alloc | apply pw_below_drewN | apply below_drew1 | refine below_set ?_ GE363.out) | exact HB.out))))
       have n1_ := Aside0.mk (blk_below (g := gb363) (o := .cells #[.int .i64 a1_0, .string a1_1] 86 (0, 0)) (by (with_reducible repeat (first | refine blk_drewN ?_ _ | refine blk_drew ?_ | refine blk_alloc ?_ _)); exact BK363.out) hb)
       have n2_ := Aside0.mk (below_step (by repeat (first | (with_reducible first | exact HB.out | apply below_alloc | apply pw_below_drewN | apply below_drew1 | refine below_set ?_ GE363.out) | exact HB.out)) hb)
       clear BK363
       clear HB
       have HO368 := n0_
       have BK363 := n1_
       have HB := n2_
       clear n0_ n1_ n2_
       (try clear hb)
       (try clear hb2)
       (try clear hk)
       (try clear hi)
       (try clear ho0)
       refine hK.out _ _ ⟨(blk_cell BK363.out 0).trans rfl, (blk_cell BK363.out 1).trans rfl⟩ (fun hHeld => ?_)
       clear hK K
       refine norm_ (a' := ?_) ?_ ?_
       rotate_left
       ·show Act.put _ (some 22) _ = _
        simp only [sp_]
        rfl
       refine one_ (i := 3) (N := some 24) #[true, true, true, true, false, false] rfl rfl (by kernel_rfl) (by decide) (fun K hK => ?_)
       refine Kd.R_lit_step k86 _ 86 ?hg (N := 24) ?hd (xs := ([(⟨a1_0, a1_1⟩ : S86)] : List (S86))) (inner := [.int .i64 a1_0, .string a1_1]) (ok := fun _ => True) (okp := fun _ => True) ?hr ?hp (fun _ hk => hk) trivial (Below.refl _ _) (Nat.le_refl _) (by simp) ?_; (case hd => rfl); (case hg => rfl); (case hr => first | (go_simp; done) | (go_simp; rfl)); (case hp => exact (Reps.c2 (show Kd.M k86 _ _ _ (⟨a1_0, a1_1⟩ : S86) [.int .i64 a1_0, .string a1_1] from (k86_mkM _ _ _ (⟨a1_0, a1_1⟩ : S86) )) (Reps.none _ _)))
       intro v370 w21 ho22 hb hg_ hnew_
       clear hg_ hnew_
       (first | rw [← Ny369.out] at ho22 | (simp only [Int.reduceToNat] at ho22; rw [← Ny369.out] at ho22))
       have n0_ := Aside0.mk (Kd.R_elder' (by (with_reducible repeat (first | apply Kd.R_alloc | apply Kd.R_drewN | apply Kd.R_drew)); exact HO368.out) (Kd.R_base ho22) hb)
       have n1_ := Aside0.mk (Kd.R_lower (Kd.R_newB (Kd.R_new' ho22 (Kd.R_lt (by (with_reducible repeat (first | apply Kd.R_alloc | apply Kd.R_drewN | apply Kd.R_drew)); exact HO368.out))) (g := gb363) (o := .cells #[.int .i64 a1_0, .string a1_1] 86 (0, 0)) (by (with_reducible repeat (first | refine blk_drewN ?_ _ | refine blk_drew ?_ | refine blk_alloc ?_ _)); exact BK363.out)) (below_size (by repeat (first | (with_reducible first | exact HB.out | apply below_alloc | apply pw_below_drewN | apply below_drew1 | refine below_set ?_ GE363.out) | exact HB.out))))
       have n2_ := Aside0.mk (blk_below (g := gb363) (o := .cells #[.int .i64 a1_0, .string a1_1] 86 (0, 0)) (by (with_reducible repeat (first | refine blk_drewN ?_ _ | refine blk_drew ?_ | refine blk_alloc ?_ _)); exact BK363.out) hb)
       have n3_ := Aside0.mk (below_step (by repeat (first | (with_reducible first | exact HB.out | apply below_alloc | apply pw_below_drewN | apply below_drew1 | refine below_set ?_ GE363.out) | exact HB.out)) hb)
       clear HO368
       clear BK363
       clear HB
       have HO368 := n0_
       have HO371 := n1_
       have BK363 := n2_
       have HB := n3_
       clear n0_ n1_ n2_ n3_
       clear hb ho22
       refine hK.out _ _ ⟨(blk_cell BK363.out 0).trans rfl, (blk_cell BK363.out 1).trans rfl⟩ (fun hHeld => ?_)
       clear hK K
       refine norm_ (a' := ?_) ?_ ?_
       rotate_left
       ·show Act.put _ (some 24) _ = _
        simp only [sp_]
        rfl
       exact norm_ (by simp only [putAll, Act.put, List.setIfInBounds_toArray, List.set_cons_zero, List.set_cons_succ]) (hCont (v367, v370) _ ⟨hHeld, (by (with_reducible repeat (first | apply Kd.R_alloc | apply Kd.R_drewN | apply Kd.R_drew)); exact Kd.R_mono HO368.out (fun _ hk => And.intro hk.2 hk.1.2)), (by (with_reducible repeat (first | apply Kd.R_alloc | apply Kd.R_drewN | apply Kd.R_drew)); exact Kd.R_mono HO371.out (fun _ hk => And.intro hk.1.2 hk.2)), (by (with_reducible repeat (first | refine blk_drewN ?_ _ | refine blk_drew ?_ | refine blk_alloc ?_ _)); exact BK363.out), (by repeat (first | (with_reducible first | exact HB.out | apply below_alloc | apply pw_below_drewN | apply below_drew1 | refine below_set ?_ GE363.out) | exact HB.out))⟩)
      ·skip
       refine Kd.R_lit_step k86 _ 86 ?hg (N := 24) ?hd (xs := ([(⟨a1_0, a1_1⟩ : S86)] : List (S86))) (inner := [.int .i64 a1_0, .string a1_1]) (ok := fun _ => True) (okp := fun _ => True) ?hr ?hp (fun _ hk => hk) trivial (Below.refl _ _) (Nat.le_refl _) (by simp) ?_; (case hd => rfl); (case hg => rfl); (case hr => first | (go_simp; done) | (go_simp; rfl)); (case hp => exact (Reps.c2 (show Kd.M k86 _ _ _ (⟨a1_0, a1_1⟩ : S86) [.int .i64 a1_0, .string a1_1] from (k86_mkM _ _ _ (⟨a1_0, a1_1⟩ : S86) )) (Reps.none _ _)))
       intro v370 w20 ho21 hb hg_ hnew_
       clear hg_ hnew_
       (first | rw [← Ny369.out] at ho21 | (simp only [Int.reduceToNat] at ho21; rw [← Ny369.out] at ho21))
       have n0_ := Aside0.mk (Kd.R_lower (Kd.R_newB ho21 (g := gb363) (o := .cells #[.int .i64 a1_0, .string a1_1] 86 (0, 0)) (by (with_reducible repeat (first | refine blk_drewN ?_ _ | refine blk_drew ?_ | refine blk_alloc ?_ _)); exact BK363.out)) (below_size (by repeat (first | (with_reducible first | exact HB.out | apply below_alloc | apply pw_below_drewN | apply below_drew1 | refine below_set ?_ GE363.out) | exact HB.out))))
       have n1_ := Aside0.mk (blk_below (g := gb363) (o := .cells #[.int .i64 a1_0, .string a1_1] 86 (0, 0)) (by (with_reducible repeat (first | refine blk_drewN ?_ _ | refine blk_drew ?_ | refine blk_alloc ?_ _)); exact BK363.out) hb)
       have n2_ := Aside0.mk (below_step (by repeat (first | (with_reducible first | exact HB.out | apply below_alloc | apply pw_below_drewN | apply below_drew1 | refine below_set ?_ GE363.out) | exact HB.out)) hb)
       clear BK363
       clear HB
       have HO371 := n0_
       have BK363 := n1_
       have HB := n2_
       clear n0_ n1_ n2_
       clear hb ho21
       refine hK.out _ _ ⟨(blk_cell BK363.out 0).trans rfl, (blk_cell BK363.out 1).trans rfl⟩ (fun hHeld => ?_)
       clear hK K
       refine norm_ (a' := ?_) ?_ ?_
       rotate_left
       ·show Act.put _ (some 24) _ = _
        simp only [sp_]
        rfl
       refine one_ (i := 1) (N := some 22) #[true, true, true, true, false, false] rfl rfl (by kernel_rfl) (by decide) (fun K hK => ?_)
       refine goes_ Try.func134 (by kernel_rfl) rfl #[.slice A0 l0.length c0] (by rfl) rfl rfl (by (try simp only [List.map_toArray, List.map_cons, List.map_nil]); first | done | rfl | (simp only [List.length_drop, List.length_take]; rfl)) ?_
       with_reducible refine (impl_Offer.calls _ _ l0 t366 _ ?side1 ?side2 A17.out).mono ?_
       (case side1 => repeat (first | exact (Kd.C_below HR0.out HB.out) | (with_reducible refine Kd.C_alloc ?_ _) | (with_reducible refine Kd.C_drewN ?_ _) | (with_reducible refine Kd.C_drew ?_)))
       (case side2 => exact HC0.out)
       rintro e w22 ⟨v367, rfl, ho0, hb⟩
       refine ⟨_, rfl, ?_⟩
       have n0_ := Aside0.mk (Kd.R_elder' (by (with_reducible repeat (first | apply Kd.R_alloc | apply Kd.R_drewN | apply Kd.R_drew)); exact HO371.out) (Kd.R_base ho0) hb)
       have n1_ := Aside0.mk (Kd.R_lower (Kd.R_newB (Kd.R_new' ho0 (Kd.R_lt (by (with_reducible repeat (first | apply Kd.R_alloc | apply Kd.R_drewN | apply Kd.R_drew)); exact HO371.out))) (g := gb363) (o := .cells #[.int .i64 a1_0, .string a1_1] 86 (0, 0)) (by (with_reducible repeat (first | refine blk_drewN ?_ _ | refine blk_drew ?_ | refine blk_alloc ?_ _)); exact BK363.out)) (below_size (by repeat (first | (with_reducible first | exact HB.out | apply below_alloc | apply pw_below_drewN | apply below_drew1 | refine below_set ?_ GE363.out) | exact HB.out))))
       have n2_ := Aside0.mk (blk_below (g := gb363) (o := .cells #[.int .i64 a1_0, .string a1_1] 86 (0, 0)) (by (with_reducible repeat (first | refine blk_drewN ?_ _ | refine blk_drew ?_ | refine blk_alloc ?_ _)); exact BK363.out) hb)
       have n3_ := Aside0.mk (below_step (by repeat (first | (with_reducible first | exact HB.out | apply below_alloc | apply pw_below_drewN | apply below_drew1 | refine below_set ?_ GE363.out) | exact HB.out)) hb)
       clear HO371
       clear BK363
       clear HB
       have HO371 := n0_
       have HO368 := n1_
       have BK363 := n2_
       have HB := n3_
       clear n0_ n1_ n2_ n3_
       (try clear hb)
       (try clear hb2)
       (try clear hk)
       (try clear hi)
       (try clear ho0)
       refine hK.out _ _ ⟨(blk_cell BK363.out 0).trans rfl, (blk_cell BK363.out 1).trans rfl⟩ (fun hHeld => ?_)
       clear hK K
       refine norm_ (a' := ?_) ?_ ?_
       rotate_left
       ·show Act.put _ (some 22) _ = _
        simp only [sp_]
        rfl
       exact norm_ (by simp only [putAll, Act.put, List.setIfInBounds_toArray, List.set_cons_zero, List.set_cons_succ]) (hCont (v367, v370) _ ⟨hHeld, (by (with_reducible repeat (first | apply Kd.R_alloc | apply Kd.R_drewN | apply Kd.R_drew)); exact Kd.R_mono HO368.out (fun _ hk => And.intro hk.1.2 hk.2)), (by (with_reducible repeat (first | apply Kd.R_alloc | apply Kd.R_drewN | apply Kd.R_drew)); exact Kd.R_mono HO371.out (fun _ hk => And.intro hk.2 hk.1.2)), (by (with_reducible repeat (first | refine blk_drewN ?_ _ | refine blk_drew ?_ | refine blk_alloc ?_ _)); exact BK363.out), (by repeat (first | (with_reducible first | exact HB.out | apply below_alloc | apply pw_below_drewN | apply below_drew1 | refine below_set ?_ GE363.out) | exact HB.out))⟩)
     rintro ⟨v367, v370⟩ w23 ⟨hS_, h0_, h1_, h2_, h3_⟩
     have n0_ : Aside0 (Kd.R k86 86 w23 w.heap.size (fun k_ => some k_ ≠ (v370 : Value).ownBlock ∧ k_ ≠ gb363) v367 t366) := ⟨h0_⟩
     have n1_ : Aside0 (Kd.R k86 86 w23 w.heap.size (fun k_ => some k_ ≠ (v367 : Value).ownBlock ∧ k_ ≠ gb363) v370 y369) := ⟨h1_⟩
     have n2_ : Aside0 (w23.heap[gb363]? = some (.cells #[.int .i64 a1_0, .string a1_1] 86 (0, 0))) := ⟨h2_⟩
     have n3_ : Aside0 (Below w.heap.size w w23) := ⟨h3_⟩
     clear BK363
     clear HB
     clear h0_ h1_ h2_ h3_
     have HO368 := n0_
     have HO371 := n1_
     have BK363 := n2_
     have HB := n3_
     clear n0_ n1_ n2_ n3_
     have hHeld : w23.cell? ⟨gb363, 0, none⟩ = some (.int .i64 a1_0) ∧ w23.cell? ⟨gb363, 1, none⟩ = some (.string a1_1) := hS_
     obtain ⟨Ao25, co25, eo25⟩ := Kd.R_slice HO371.out
     (first | subst eo25 | (injection eo25 with f1_ f2_ f3_; have f4_ := f1_.symm; have f5_ := f3_.symm; clear f1_ f2_ f3_; subst f4_; subst f5_))
     refine norm_ (a' := ?_) ?_ ?_
     rotate_left
     ·simp only [putAll, Act.put, List.setIfInBounds_toArray, List.set_cons_zero, List.set_cons_succ]
      rfl
     refine one_ (i := 4) (N := some 25) #[true, true, true, true, true, false] rfl rfl (by kernel_rfl) (by decide) (fun K hK => ?_)
     refine Kd.R_append_rows_step k86 (w0 := w) w.heap.size (by rfl) (.tmp 22) (.tmp 24) 26 86 (.agg #[(.int .i64 0), (.string ⟨#[]⟩)]) 24 rfl Try.underlying26 info86 rfl (by decide) (by omega) v367 t366 y369 _ _ _ (fun k_ => some k_ ≠ (.slice Ao25 y369.length co25 : Value).ownBlock ∧ k_ ≠ gb363) (fun _ => False) rfl rfl ?aO ?aR (fun _ _ h => h) (fun _ h => h.elim) ?aF ?aB ?aS ?aL ?_
     (case aR => repeat (first | exact (Kd.R_reads' HO371.out).2.2 | (with_reducible refine Kd.C_alloc ?_ _) | (with_reducible refine Kd.C_drewN ?_ _) | (with_reducible refine Kd.C_drew ?_)))
     (case aB => exact (by repeat (first | (with_reducible first | exact HB.out | apply below_alloc | apply pw_below_drewN | apply below_drew1 | refine below_set ?_ GE363.out) | exact HB.out)))
     (case aF => exact (fun k_ hk => ⟨Kd.fresh' (Kd.R_lt (by (with_reducible repeat (first | apply Kd.R_alloc | apply Kd.R_drewN | apply Kd.R_drew)); exact HO371.out)) k_ hk, Kd.freshB (g := gb363) (o := .cells #[.int .i64 a1_0, .string a1_1] 86 (0, 0)) (by (with_reducible repeat (first | refine blk_drewN ?_ _ | refine blk_drew ?_ | refine blk_alloc ?_ _)); exact BK363.out) k_ hk⟩))
     (case aO => exact (by (with_reducible repeat (first | apply Kd.R_alloc | apply Kd.R_drewN | apply Kd.R_drew)); exact HO368.out))
     (case aS => exact (below_size (by repeat (first | (with_reducible first | exact HB.out | apply below_alloc | apply pw_below_drewN | apply below_drew1 | refine below_set ?_ GE363.out) | exact HB.out))))
     (case aL => have := LMc18.out; omega)
     intro v373 w24 ho hb hg hat
     rw [← Ny372.out] at ho
     have n0_ := Aside0.mk (blk_grown (g := gb363) (o := .cells #[.int .i64 a1_0, .string a1_1] 86 (0, 0)) (by (with_reducible repeat (first | refine blk_drewN ?_ _ | refine blk_drew ?_ | refine blk_alloc ?_ _)); exact BK363.out) hg (Kd.R_away HO368.out (fun _ hk => hk.2)))
     have n1_ := Aside0.mk (Kd.R_after (ok := (fun k_ => k_ ≠ gb363)) (by (with_reducible repeat (first | apply Kd.R_alloc | apply Kd.R_drewN | apply Kd.R_drew)); exact Kd.R_mono HO371.out (fun _ hk => And.intro hk.2 hk.1)) hg hat)
     have n2_ := Aside0.mk (hb)
     have n3_ := Aside0.mk (ho)
     clear BK363
     clear HO371
     clear HB
     clear HO368
     have BK363 := n0_
     have HO371 := n1_
     have HB := n2_
     have HO374 := n3_
     clear n0_ n1_ n2_ n3_
     clear ho hb hg hat
     refine hK.out _ _ ⟨(blk_cell BK363.out 0).trans rfl, (blk_cell BK363.out 1).trans rfl⟩ (fun hHeld => ?_)
     clear hK K
     refine norm_ (a' := ?_) ?_ ?_
     rotate_left
     ·show Act.put _ (some 25) _ = _
      simp only [sp_]
      rfl
     refine pure_ (i := 5) (N := some 6) (v := ?_) (a' := ?_) #[true, true, true, true, true, true] rfl rfl (by kernel_rfl) (fun _ _ _ h => h) (Or.inl ⟨by rfl, ?_⟩) ?_ ?_
     rotate_left
     ·intro w'
      go_simp
      with_reducible rfl
     rotate_left
     ·simp only [sp_]
      rfl
     refine done_ (by kernel_rfl) ?_
     obtain ⟨Ao26, co26, eo26⟩ := Kd.R_slice HO374.out
     subst eo26
     try go_wp2
     go_loopg [7] kj2 (fun kq v7 w' => ∃ (x6_2 : List (S86)) (x7_2 : Int) (x364000_2 : Int) (x364001_2 : ByteArray), v7 = .int .i64 x7_2 ∧ Aside0 (impl_Offered.l0 kq x6_2 x7_2 = some (r1, r2)) ∧ Aside0 (kq ≤ kj2) ∧ Aside0 (Kd.R k86 86 w' w.heap.size (fun k_ => k_ ≠ gb363) (.slice Ao26 y372.length co26) x6_2) ∧ Aside0 (w'.heap[gb363]? = some (.cells #[.int .i64 x364000_2, .string x364001_2] 86 (0, 0))) ∧ Aside0 (Below w.heap.size w w'))
     case atStart => exact ⟨(y372), (wrap64 ((y372.length : Int) - 1)), (a1_0), (a1_1), (by first | rfl | (simp; done) | (simp [*]; done)), H', ⟨Nat.le_refl _⟩, ⟨by (with_reducible repeat (first | apply Kd.R_alloc | apply Kd.R_drewN | apply Kd.R_drew)); exact Kd.R_mono HO374.out (fun _ hk => hk.2)⟩, ⟨by (with_reducible repeat (first | refine blk_drewN ?_ _ | refine blk_drew ?_ | refine blk_alloc ?_ _)); exact BK363.out⟩, ⟨by repeat (first | (with_reducible first | exact HB.out | apply below_alloc | apply pw_below_drewN | apply below_drew1 | refine below_set ?_ GE363.out) | exact HB.out)⟩⟩
     case round =>
      clear H'
      try clear c1
      try clear c2
      try clear p2
      try clear c5
      try clear c6
      try clear p6
      try clear c8
      try clear c13
      try clear c16
      try clear c18
      try clear hcz10_0
      try clear hcz10_1
      try clear hcz13_0
      try clear hcz13_1
      try clear hfz10_0
      try clear hfz10_1
      try clear hfz13_0
      try clear hfz13_1
      try clear p2
      obtain ⟨x6_2, x7_2, x364000_2, x364001_2, rfl, HA, HK2, HO_6, BK363, HB⟩ := hrel
      have hl6_2 := (Kd.R_reads' HO_6.out).1
      rw [hl6_2] at HO_6
      (try simp only [hl6_2])
      (try simp only [hl6_2] at BK363)
      cases gk with
      | zero => exact absurd HA.out (by simp [impl_Offered.l0])
      | succ k2 =>
       have H := HA.out
       clear HA
       simp only [impl_Offered.l0] at H
       by_cases c27 : x7_2 > 0
       ·rw [if_pos c27] at H
        have c27b0 : decide (0 < x7_2) = true := decide_eq_true c27
        clear c27
        by_cases c28 : 0 ≤ x7_2
        ·rw [if_pos c28] at H
         have c28b0 : decide (0 ≤ x7_2) = true := decide_eq_true c28
         clear c28
         by_cases c29 : x7_2 < (x6_2.length : Int)
         ·rw [if_pos c29] at H
          have c29b0 : decide (x7_2 < (x6_2.length : Int)) = true := decide_eq_true c29
          clear c29
          obtain ⟨ji30, hji30⟩ : ∃ j_ : Int, (wrap64 (Int.tdiv (wrap64 (x7_2 - 1)) 2)) = j_ := ⟨_, rfl⟩
          replace H : (if 0 ≤ (ji30) then (if (ji30) < (x6_2.length : Int) then ((impl_Offer_ahead.f ((rd_T86 x6_2 x7_2).f0) ((rd_T86 x6_2 x7_2).f1) ((rd_T86 x6_2 (ji30)).f0) ((rd_T86 x6_2 (ji30)).f1)).bind fun t377 => (if t377 = true then (impl_Offered.l0 k2 ((x6_2.set (x7_2 : Int).toNat (⟨(rd_T86 x6_2 (ji30)).f0, (rd_T86 x6_2 (ji30)).f1⟩ : S86)).set ((ji30) : Int).toNat (⟨(rd_T86 x6_2 x7_2).f0, (rd_T86 x6_2 x7_2).f1⟩ : S86)) ji30) else (some (x6_2, true)))) else (none)) else (none)) = some (r1, r2) := by first | (rw [hji30] at H; exact H) | (simp only [hji30] at H ⊢; exact H)
          have hji30w : (IntKind.i64.wrap (Int.tdiv (wrap64 (x7_2 - 1)) 2)) = ji30 := (i64_w _).trans hji30
          by_cases c31 : 0 ≤ (ji30)
          ·rw [if_pos c31] at H
           have c31b0 : decide (0 ≤ (ji30)) = true := decide_eq_true c31
           clear c31
           by_cases c32 : (ji30) < (x6_2.length : Int)
           ·rw [if_pos c32] at H
            have c32b0 : decide ((ji30) < (x6_2.length : Int)) = true := decide_eq_true c32
            clear c32
            replace H := Option.bind_eq_some_iff.mp H
            obtain ⟨t377, A330, H⟩ := H
            replace H : (if t377 = true then (impl_Offered.l0 k2 ((x6_2.set (x7_2 : Int).toNat (⟨(rd_T86 x6_2 (ji30)).f0, (rd_T86 x6_2 (ji30)).f1⟩ : S86)).set ((ji30) : Int).toNat (⟨(rd_T86 x6_2 x7_2).f0, (rd_T86 x6_2 x7_2).f1⟩ : S86)) ji30) else (some (x6_2, true))) = some (r1, r2) := H
            have A33 := Aside0.mk A330
            clear A330
            by_cases c34 : t377 = true
            ·subst c34
             have H1 : (impl_Offered.l0 k2 ((x6_2.set (x7_2 : Int).toNat (⟨(rd_T86 x6_2 (ji30)).f0, (rd_T86 x6_2 (ji30)).f1⟩ : S86)).set ((ji30) : Int).toNat (⟨(rd_T86 x6_2 x7_2).f0, (rd_T86 x6_2 x7_2).f1⟩ : S86)) ji30) = some (r1, r2) := by rw [if_pos rfl] at H; exact H
             clear H
             have H := H1
             clear H1
             obtain ⟨y380, hy380⟩ : ∃ y_ : List (S86), y_ = (x6_2.set (x7_2 : Int).toNat (⟨(rd_T86 x6_2 (ji30)).f0, (rd_T86 x6_2 (ji30)).f1⟩ : S86)) := ⟨_, rfl⟩
             replace H : (impl_Offered.l0 k2 (y380.set ((ji30) : Int).toNat (⟨(rd_T86 x6_2 x7_2).f0, (rd_T86 x6_2 x7_2).f1⟩ : S86)) ji30) = some (r1, r2) := by first | (rw [hy380]; with_reducible exact H) | (have H2_ := (Option.bind_some _ _).symm.trans H; rw [hy380]; with_reducible exact H2_) | (have H2_ := (Option.bind_some _ _).symm.trans H; with_reducible exact H2_) | with_reducible exact H | (rw [hy380]; exact H) | exact H
             have Ny380 := Aside0.mk hy380
             clear hy380
             obtain ⟨y381, hy381⟩ : ∃ y_ : List (S86), y_ = (y380.set ((ji30) : Int).toNat (⟨(rd_T86 x6_2 x7_2).f0, (rd_T86 x6_2 x7_2).f1⟩ : S86)) := ⟨_, rfl⟩
             replace H : (impl_Offered.l0 k2 y381 ji30) = some (r1, r2) := by first | (rw [hy381]; with_reducible exact H) | (have H2_ := (Option.bind_some _ _).symm.trans H; rw [hy381]; with_reducible exact H2_) | (have H2_ := (Option.bind_some _ _).symm.trans H; with_reducible exact H2_) | with_reducible exact H | (rw [hy381]; exact H) | exact H
             have Ny381 := Aside0.mk hy381
             clear hy381
             have H' := Aside0.mk H
             clear H
             try go_wp2
             have n0_ := Aside0.mk (Kd.R_drew HO_6.out)
             have n1_ := Aside0.mk (blk_drew BK363.out)
             have n2_ := Aside0.mk (below_drew1 HB.out)
             clear HO_6
             clear BK363
             clear HB
             have HO_6 := n0_
             have BK363 := n1_
             have HB := n2_
             clear n0_ n1_ n2_
             have p375 : 0 ≤ (x7_2 : Int) := of_decide_eq_true (by first | (with_reducible assumption) | assumption)
             have q375 : x7_2 < (x6_2.length : Int) := of_decide_eq_true (by first | (with_reducible assumption) | assumption)
             obtain ⟨ad375, e375, hx375_0, hx375_1⟩ := at_T86 (Kd.R_reads' HO_6.out).2.2 x7_2 p375 q375
             cases e375
             replace p375 := eq_true p375
             replace q375 := eq_true q375
             have p376 : 0 ≤ ((ji30) : Int) := of_decide_eq_true (by first | (with_reducible assumption) | assumption)
             have q376 : (ji30) < (x6_2.length : Int) := of_decide_eq_true (by first | (with_reducible assumption) | assumption)
             obtain ⟨ad376, e376, hx376_0, hx376_1⟩ := at_T86 (Kd.R_reads' HO_6.out).2.2 (ji30) p376 q376
             obtain rfl : ad375 = ad376 := (by injection e376)
             replace p376 := eq_true p376
             replace q376 := eq_true q376
             refine start_ (n := 15) (S := fun w' => w'.cell? (ad375.add ((x7_2).toNat * 2)) = some (.int .i64 ((rd_T86 x6_2 x7_2).f0)) ∧ w'.cell? ⟨(ad375.add ((x7_2).toNat * 2)).block, (ad375.add ((x7_2).toNat * 2)).off + 1, none⟩ = some (.string ((rd_T86 x6_2 x7_2).f1)) ∧ w'.cell? (ad375.add (((ji30)).toNat * 2)) = some (.int .i64 ((rd_T86 x6_2 (ji30)).f0)) ∧ w'.cell? ⟨(ad375.add (((ji30)).toNat * 2)).block, (ad375.add (((ji30)).toNat * 2)).off + 1, none⟩ = some (.string ((rd_T86 x6_2 (ji30)).f1))) (ds := []) (bA 15 0) (by kernel_rfl) rfl rfl ⟨hx375_0, hx375_1, hx376_0, hx376_1⟩ (fun hHeld => ?_); refine with_tabW impl_Offered.tab5 impl_Offered.bits5 (fun HT_ HW_ => ?_)
             generalize wr.drew = w37 at HO_6 BK363 HB hx375_0 hx375_1 hx376_0 hx376_1 hHeld ⊢
             refine pv (i := 0) (N := some 29) (bA 15 1) rfl rfl (any_of HT_.out (by kernel_rfl)) ?_
             refine pv (i := 1) (N := some 30) (bA 15 3) rfl rfl (any_of HT_.out (by kernel_rfl)) ?_
             refine pv (i := 2) (N := some 31) (bA 15 7) rfl rfl (any_of HT_.out (by kernel_rfl)) ?_
             refine pv (i := 3) (N := some 32) (bA 15 15) rfl rfl (any_of HT_.out (by kernel_rfl)) ?_
             refine pv (i := 4) (N := some 33) (bA 15 31) rfl rfl (any_of HT_.out (by kernel_rfl)) ?_
             refine pv (i := 5) (N := some 34) (bA 15 63) rfl rfl (any_of HT_.out (by kernel_rfl)) ?_
             refine pv (i := 7) (N := some 36) (bA 15 191) rfl rfl (any_of HT_.out (by kernel_rfl)) ?_
             refine pv (i := 8) (N := some 37) (bA 15 447) rfl rfl (any_of HT_.out (by kernel_rfl)) ?_
             refine pv (i := 9) (N := some 38) (bA 15 959) rfl rfl (any_of HT_.out (by kernel_rfl)) ?_
             refine pv (i := 10) (N := some 39) (bA 15 1983) rfl rfl (any_of HT_.out (by kernel_rfl)) ?_
             refine pv (i := 11) (N := some 40) (bA 15 4031) rfl rfl (any_of HT_.out (by kernel_rfl)) ?_
             refine take_ (i := 6) (N := some 35) (v := ?_) (a' := ?_) (bA 15 4095) rfl rfl (take_ofW HT_.out HW_.out (by kernel_rfl)) (fun _ _ _ h => h) (Or.inl ⟨by rfl, ?_⟩) hHeld ?_ ?_
             rotate_left
             ·rintro w' ⟨s0, s1, s2, s3⟩
              go_simp
              with_reducible rfl
             rotate_left
             ·simp only [sp_]
              rfl
             refine take_ (i := 12) (N := some 41) (v := ?_) (a' := ?_) (bA 15 8191) rfl rfl (take_ofW HT_.out HW_.out (by kernel_rfl)) (fun _ _ _ h => h) (Or.inl ⟨by rfl, ?_⟩) hHeld ?_ ?_
             rotate_left
             ·rintro w' ⟨s0, s1, s2, s3⟩
              go_simp
              with_reducible rfl
             rotate_left
             ·simp only [sp_]
              rfl
             refine one_ (i := 13) (N := some 42) (bA 15 16383) rfl rfl (one_of HT_.out (by kernel_rfl)) (by decide) (fun K hK => ?_)
             refine goes_ Try.func135 (by kernel_rfl) rfl #[.agg #[.int .i64 ((rd_T86 x6_2 x7_2).f0), .string ((rd_T86 x6_2 x7_2).f1)], .agg #[.int .i64 ((rd_T86 x6_2 (ji30)).f0), .string ((rd_T86 x6_2 (ji30)).f1)]] (by rfl) rfl rfl (by (try simp only [List.map_toArray, List.map_cons, List.map_nil]); first | done | (simp only [hji30]; rfl) | rfl | (simp only [List.length_drop, List.length_take]; rfl)) ?_
             with_reducible refine (impl_Offer_ahead.calls ((rd_T86 x6_2 x7_2).f0) ((rd_T86 x6_2 x7_2).f1) ((rd_T86 x6_2 (ji30)).f0) ((rd_T86 x6_2 (ji30)).f1) true _ A33.out).mono ?_
             rintro e w38 ⟨rfl, hb⟩
             have HS0_ := (hb.cell (World.block_lt_of_cell? _ _ (hHeld.1))).trans (hHeld.1)
             have HS1_ := (hb.cell (World.block_lt_of_cell? _ _ (hHeld.2.1))).trans (hHeld.2.1)
             have HS2_ := (hb.cell (World.block_lt_of_cell? _ _ (hHeld.2.2.1))).trans (hHeld.2.2.1)
             have HS3_ := (hb.cell (World.block_lt_of_cell? _ _ (hHeld.2.2.2))).trans (hHeld.2.2.2)
             refine ⟨_, rfl, ?_⟩
             have n0_ := Aside0.mk (Kd.R_below (by (with_reducible repeat (first | apply Kd.R_alloc | apply Kd.R_drewN | apply Kd.R_drew)); exact HO_6.out) hb)
             have n1_ := Aside0.mk (blk_below (g := gb363) (o := .cells #[.int .i64 x364000_2, .string x364001_2] 86 (0, 0)) (by (with_reducible repeat (first | refine blk_drewN ?_ _ | refine blk_drew ?_ | refine blk_alloc ?_ _)); exact BK363.out) hb)
             have n2_ := Aside0.mk (below_step (by repeat (first | (with_reducible first | exact HB.out | apply below_alloc | apply pw_below_drewN | apply below_drew1 | refine below_set ?_ GE363.out) | exact HB.out)) hb)
             clear HO_6
             clear BK363
             clear HB
             have HO_6 := n0_
             have BK363 := n1_
             have HB := n2_
             clear n0_ n1_ n2_
             (try clear hb)
             (try clear hb2)
             (try clear hk)
             (try clear hi)
             refine hK.out _ _ ⟨HS0_, HS1_, HS2_, HS3_⟩ (fun hHeld => ?_)
             clear hK K
             refine norm_ (a' := ?_) ?_ ?_
             rotate_left
             ·show Act.put _ (some 42) _ = _
              simp only [sp_]
              rfl
             refine pv (i := 14) (N := some 43) (bA 15 32767) rfl rfl (any_of HT_.out (by kernel_rfl)) ?_
             refine done_ (done_of HT_.out (by kernel_rfl)) ?_
             try go_wp2
             have n0_ := Aside0.mk (Kd.R_drew HO_6.out)
             have n1_ := Aside0.mk (blk_drew BK363.out)
             have n2_ := Aside0.mk (below_drew1 HB.out)
             clear HO_6
             clear BK363
             clear HB
             have HO_6 := n0_
             have BK363 := n1_
             have HB := n2_
             clear n0_ n1_ n2_
             have p378 : 0 ≤ ((ji30) : Int) := of_decide_eq_true (by first | (with_reducible assumption) | assumption)
             have q378 : (ji30) < (x6_2.length : Int) := of_decide_eq_true (by first | (with_reducible assumption) | assumption)
             obtain ⟨ad378, e378, hx378_0, hx378_1⟩ := at_T86 (Kd.R_reads' HO_6.out).2.2 (ji30) p378 q378
             obtain rfl : ad375 = ad378 := (by injection e378)
             replace p378 := eq_true p378
             replace q378 := eq_true q378
             have p379 : 0 ≤ (x7_2 : Int) := of_decide_eq_true (by first | (with_reducible assumption) | assumption)
             have q379 : x7_2 < (x6_2.length : Int) := of_decide_eq_true (by first | (with_reducible assumption) | assumption)
             obtain ⟨ad379, e379, hx379_0, hx379_1⟩ := at_T86 (Kd.R_reads' HO_6.out).2.2 x7_2 p379 q379
             obtain rfl : ad375 = ad379 := (by injection e379)
             replace p379 := eq_true p379
             replace q379 := eq_true q379
             have p35 : 0 ≤ (x7_2 : Int) := of_decide_eq_true (by first | (with_reducible assumption) | assumption)
             have q35 : (x7_2 : Int) < ((x6_2.length : Int) : Int) := of_decide_eq_true (by first | (with_reducible assumption) | assumption)
             obtain ⟨go35, co35, eo35, gb35, gl35, cl35, HG35⟩ := Kd.R_form HO_6.out (by omega)
             (first | cases eo35 | (injection eo35 with ea_ en_ ec_; (first | subst ea_ | (injection ea_ with ea_; subst ea_)); subst ec_; clear en_))
             have GB35 := Aside0.mk gb35
             have GG35 := Aside0.mk HG35
             clear gb35 gl35 HG35
             (first | simp only [add_plain] at hx375_0 | skip)
             (first | simp only [add_plain] at hx375_1 | skip)
             (first | simp only [add_plain] at hx376_0 | skip)
             (first | simp only [add_plain] at hx376_1 | skip)
             (first | simp only [add_plain] at hx378_0 | skip)
             (first | simp only [add_plain] at hx378_1 | skip)
             (first | simp only [add_plain] at hx379_0 | skip)
             (first | simp only [add_plain] at hx379_1 | skip)
             obtain ⟨ce35, hcl35, hM35, hcc35, hfr35⟩ := Kd.R_elem HO_6.out z86 (x7_2 : Int) p35 q35
             obtain rfl := k86_openM hM35
             have hx35_0 : World.cell? _ ⟨go35, (x7_2 : Int).toNat * 2, none⟩ = some (.int .i64 ((rd_T86 x6_2 x7_2).f0)) := hcc35 0 _ rfl
             have hx35_1 : World.cell? _ ⟨go35, (x7_2 : Int).toNat * 2 + 1, none⟩ = some (.string ((rd_T86 x6_2 x7_2).f1)) := hcc35 1 _ rfl
             have hf35_0 : World.frozen? _ ⟨go35, (x7_2 : Int).toNat * 2, none⟩ = false := hfr35 0
             have hf35_1 : World.frozen? _ ⟨go35, (x7_2 : Int).toNat * 2 + 1, none⟩ = false := hfr35 1
             clear hcl35 hcc35 hfr35 hM35
             replace p35 := eq_true p35
             replace q35 := eq_true q35
             obtain ⟨ce40, hcl40, hM40, hcc40, hfr40⟩ := Kd.R_elem HO_6.out z86 (x7_2 : Int) (of_decide_eq_true (by first | (with_reducible assumption) | assumption)) (by have h_ : (x7_2 : Int) < ((x6_2.length : Int) : Int) := of_decide_eq_true (by first | (with_reducible assumption) | assumption); first | exact h_ | (have e_ := (Kd.R_reads' HO_6.out).1; omega) | simpa using h_)
             obtain rfl := k86_openM hM40
             have HP40 := (Kd.R_seg HO_6.out (x7_2 : Int) (of_decide_eq_true (by first | (with_reducible assumption) | assumption)) (by have h_ : (x7_2 : Int) < ((x6_2.length : Int) : Int) := of_decide_eq_true (by first | (with_reducible assumption) | assumption); first | exact h_ | (have e_ := (Kd.R_reads' HO_6.out).1; omega) | simpa using h_) (seg := [.int .i64 ((rd_T86 x6_2 (ji30)).f0), .string ((rd_T86 x6_2 (ji30)).f1)]) (j := 0) hcl40 hcc40 (show 2 ≤ 2 from by decide) (x' := (⟨(rd_T86 x6_2 (ji30)).f0, (rd_T86 x6_2 (ji30)).f1⟩ : S86)) (k86_mkM _ _ _ (⟨(rd_T86 x6_2 (ji30)).f0, (rd_T86 x6_2 (ji30)).f1⟩ : S86) ) (fun _ hk => hk)).1
             rw [← Ny380.out] at HP40
             have HQ40 := Aside0.mk HP40
             clear hcl40 hcc40 hfr40 hM40 HP40
             have p36 : 0 ≤ ((ji30) : Int) := of_decide_eq_true (by first | (with_reducible assumption) | assumption)
             have q36 : ((ji30) : Int) < ((x6_2.length : Int) : Int) := of_decide_eq_true (by first | (with_reducible assumption) | assumption)
             obtain ⟨ce36, hcl36, hM36, hcc36, hfr36⟩ := Kd.R_elem HQ40.out z86 ((ji30) : Int) p36 q36
             obtain rfl := k86_openM hM36
             have hx36_0 : World.cell? _ ⟨go35, ((ji30) : Int).toNat * 2, none⟩ = some (.int .i64 ((rd_T86 y380 (ji30)).f0)) := hcc36 0 _ rfl
             have hx36_1 : World.cell? _ ⟨go35, ((ji30) : Int).toNat * 2 + 1, none⟩ = some (.string ((rd_T86 y380 (ji30)).f1)) := hcc36 1 _ rfl
             have hf36_0 : World.frozen? _ ⟨go35, ((ji30) : Int).toNat * 2, none⟩ = false := hfr36 0
             have hf36_1 : World.frozen? _ ⟨go35, ((ji30) : Int).toNat * 2 + 1, none⟩ = false := hfr36 1
             clear hcl36 hcc36 hfr36 hM36
             replace p36 := eq_true p36
             replace q36 := eq_true q36
             obtain ⟨ce41, hcl41, hM41, hcc41, hfr41⟩ := Kd.R_elem HQ40.out z86 ((ji30) : Int) (of_decide_eq_true (by first | (with_reducible assumption) | assumption)) (by have h_ : ((ji30) : Int) < ((x6_2.length : Int) : Int) := of_decide_eq_true (by first | (with_reducible assumption) | assumption); first | exact h_ | (have e_ := (Kd.R_reads' HO_6.out).1; omega) | simpa using h_)
             obtain rfl := k86_openM hM41
             have HP41 := (Kd.R_seg HQ40.out ((ji30) : Int) (of_decide_eq_true (by first | (with_reducible assumption) | assumption)) (by have h_ : ((ji30) : Int) < ((x6_2.length : Int) : Int) := of_decide_eq_true (by first | (with_reducible assumption) | assumption); first | exact h_ | (have e_ := (Kd.R_reads' HO_6.out).1; omega) | simpa using h_) (seg := [.int .i64 ((rd_T86 x6_2 x7_2).f0), .string ((rd_T86 x6_2 x7_2).f1)]) (j := 0) hcl41 hcc41 (show 2 ≤ 2 from by decide) (x' := (⟨(rd_T86 x6_2 x7_2).f0, (rd_T86 x6_2 x7_2).f1⟩ : S86)) (k86_mkM _ _ _ (⟨(rd_T86 x6_2 x7_2).f0, (rd_T86 x6_2 x7_2).f1⟩ : S86) ) (fun _ hk => hk)).1
             rw [← Ny381.out] at HP41
             have HQ41 := Aside0.mk HP41
             clear hcl41 hcc41 hfr41 hM41 HP41
             refine start_ (n := 20) (S := fun w' => w'.cell? ⟨go35, ((ji30)).toNat * 2, none⟩ = some (.int .i64 ((rd_T86 x6_2 (ji30)).f0)) ∧ w'.cell? ⟨go35, ((ji30)).toNat * 2 + 1, none⟩ = some (.string ((rd_T86 x6_2 (ji30)).f1)) ∧ w'.cell? ⟨go35, ((x7_2).toNat * 2), none⟩ = some (.int .i64 ((rd_T86 x6_2 x7_2).f0)) ∧ w'.cell? ⟨go35, ((x7_2).toNat * 2) + 1, none⟩ = some (.string ((rd_T86 x6_2 x7_2).f1))) (ds := [17, 19]) (bA 20 0) (by kernel_rfl) rfl rfl ⟨hx378_0, hx378_1, hx379_0, hx379_1⟩ (fun hHeld => ?_); refine with_tabW impl_Offered.tab7 impl_Offered.bits7 (fun HT_ HW_ => ?_)
             generalize w38.drew = w39 at HO_6 BK363 HB GG35 HQ40 HQ41 hf35_0 hf35_1 hf36_0 hf36_1 hx35_0 hx35_1 hx36_0 hx36_1 hx375_0 hx375_1 hx376_0 hx376_1 hx378_0 hx378_1 hx379_0 hx379_1 hHeld ⊢
             try (have hf36_0b := hf36_0; simp [World.setCells, go_sem, show k86.sz = 2 from rfl] at hf36_0b)
             try (have hf36_1b := hf36_1; simp [World.setCells, go_sem, show k86.sz = 2 from rfl] at hf36_1b)
             try (have hx36_0b := hx36_0; simp [World.setCells, go_sem, show k86.sz = 2 from rfl] at hx36_0b)
             try (have hx36_1b := hx36_1; simp [World.setCells, go_sem, show k86.sz = 2 from rfl] at hx36_1b)
             refine pv (i := 0) (N := some 47) (bA 20 1) rfl rfl (any_of HT_.out (by kernel_rfl)) ?_
             refine pv (i := 1) (N := some 48) (bA 20 3) rfl rfl (any_of HT_.out (by kernel_rfl)) ?_
             refine pv (i := 2) (N := some 49) (bA 20 7) rfl rfl (any_of HT_.out (by kernel_rfl)) ?_
             refine pv (i := 3) (N := some 50) (bA 20 15) rfl rfl (any_of HT_.out (by kernel_rfl)) ?_
             refine pv (i := 4) (N := some 51) (bA 20 31) rfl rfl (any_of HT_.out (by kernel_rfl)) ?_
             refine pv (i := 5) (N := some 52) (bA 20 63) rfl rfl (any_of HT_.out (by kernel_rfl)) ?_
             refine pv (i := 6) (N := some 53) (bA 20 127) rfl rfl (any_of HT_.out (by kernel_rfl)) ?_
             refine pv (i := 7) (N := some 54) (bA 20 255) rfl rfl (any_of HT_.out (by kernel_rfl)) ?_
             refine pv (i := 8) (N := some 55) (bA 20 511) rfl rfl (any_of HT_.out (by kernel_rfl)) ?_
             refine pv (i := 9) (N := some 56) (bA 20 1023) rfl rfl (any_of HT_.out (by kernel_rfl)) ?_
             refine pv (i := 10) (N := some 57) (bA 20 2047) rfl rfl (any_of HT_.out (by kernel_rfl)) ?_
             refine pv (i := 12) (N := some 59) (bA 20 6143) rfl rfl (any_of HT_.out (by kernel_rfl)) ?_
             refine pv (i := 13) (N := some 60) (bA 20 14335) rfl rfl (any_of HT_.out (by kernel_rfl)) ?_
             refine pv (i := 14) (N := some 61) (bA 20 30719) rfl rfl (any_of HT_.out (by kernel_rfl)) ?_
             refine take_ (i := 11) (N := some 58) (v := ?_) (a' := ?_) (bA 20 32767) rfl rfl (take_ofW HT_.out HW_.out (by kernel_rfl)) (fun _ _ _ h => h) (Or.inl ⟨by rfl, ?_⟩) hHeld ?_ ?_
             rotate_left
             ·rintro w' ⟨s0, s1, s2, s3⟩
              go_simp
              with_reducible rfl
             rotate_left
             ·simp only [sp_]
              rfl
             refine take_ (i := 15) (N := some 62) (v := ?_) (a' := ?_) (bA 20 65535) rfl rfl (take_ofW HT_.out HW_.out (by kernel_rfl)) (fun _ _ _ h => h) (Or.inl ⟨by rfl, ?_⟩) hHeld ?_ ?_
             rotate_left
             ·rintro w' ⟨s0, s1, s2, s3⟩
              go_simp
              with_reducible rfl
             rotate_left
             ·simp only [sp_]
              rfl
             refine pv (i := 16) (N := some 63) (bA 20 131071) rfl rfl (any_of HT_.out (by kernel_rfl)) ?_
             refine last_ (i := 17) (N := none) (bA 20 262143) rfl rfl (one_of HT_.out (by kernel_rfl)) (by decide) (fun K hK => ?_)
             refine skip_ (w1 := ?_) (by rfl) rfl ?_ ?_
             rotate_left
             ·go_simp
              rfl
             refine hK.out _ _ ?_
             clear hK K
             refine pv (i := 18) (N := some 64) (bA 20 524287) rfl rfl (any_of HT_.out (by kernel_rfl)) ?_
             refine last_ (i := 19) (N := none) (bA 20 1048575) rfl rfl (one_of HT_.out (by kernel_rfl)) (by decide) (fun K hK => ?_)
             refine skip_ (w1 := ?_) (by rfl) rfl ?_ ?_
             rotate_left
             ·go_simp
              rfl
             refine hK.out _ _ ?_
             clear hK K
             refine done_ (done_of HT_.out (by kernel_rfl)) ?_
             try go_wp2
             (try simp only [← hl6_2])
             go_roundg k2
             case measure => have := HJ2.out; have := HK2.out; omega
             case rel => exact ⟨(y381), (ji30), (x364000_2), (x364001_2), (by first | rfl | (simp; done) | (simp only [← hji30] <;> (first | rfl | simp)) | (simp [*]; done)), H', ⟨by have := HJ2.out; have := HK2.out; omega⟩, ⟨by (try simp only [hl6_2]); (with_reducible repeat (first | apply Kd.R_alloc | apply Kd.R_drewN | apply Kd.R_drew)); exact HQ41.out⟩, ⟨by (try simp only [hl6_2]); (with_reducible repeat (first | refine blk_drewN ?_ _ | refine blk_drew ?_ | refine blk_alloc ?_ _)); refine blk_far ?_ (by have h_ := Kd.R_away HO_6.out (fun _ hk => hk); intro e_; exact h_ (by rw [e_]; rfl)) _; (with_reducible repeat (first | refine blk_drewN ?_ _ | refine blk_drew ?_ | refine blk_alloc ?_ _)); refine blk_far ?_ (by have h_ := Kd.R_away HO_6.out (fun _ hk => hk); intro e_; exact h_ (by rw [e_]; rfl)) _; (with_reducible repeat (first | refine blk_drewN ?_ _ | refine blk_drew ?_ | refine blk_alloc ?_ _)); refine blk_far ?_ (by have h_ := Kd.R_away HO_6.out (fun _ hk => hk); intro e_; exact h_ (by rw [e_]; rfl)) _; (with_reducible repeat (first | refine blk_drewN ?_ _ | refine blk_drew ?_ | refine blk_alloc ?_ _)); refine blk_far ?_ (by have h_ := Kd.R_away HO_6.out (fun _ hk => hk); intro e_; exact h_ (by rw [e_]; rfl)) _; (with_reducible repeat (first | refine blk_drewN ?_ _ | refine blk_drew ?_ | refine blk_alloc ?_ _)); exact BK363.out⟩, ⟨by repeat (first | (with_reducible first | exact HB.out | apply below_alloc | apply pw_below_drewN | apply below_drew1 | refine below_set ?_ GB35.out | refine below_set ?_ GB35.out | refine below_set ?_ GB35.out | refine below_set ?_ GB35.out | refine below_set ?_ GE363.out) | exact HB.out)⟩⟩
            ·replace c34 := Bool.eq_false_iff.mpr c34
             subst c34
             have H1 : (some (x6_2, true)) = some (r1, r2) := by rw [if_neg (show ¬ (false = true) by decide)] at H; exact H
             clear H
             have H := H1
             clear H1
             simp only [Option.some.injEq, Prod.mk.injEq] at H
             obtain ⟨rfl, rfl⟩ := H
             try go_wp2
             have n0_ := Aside0.mk (Kd.R_drew HO_6.out)
             have n1_ := Aside0.mk (blk_drew BK363.out)
             have n2_ := Aside0.mk (below_drew1 HB.out)
             clear HO_6
             clear BK363
             clear HB
             have HO_6 := n0_
             have BK363 := n1_
             have HB := n2_
             clear n0_ n1_ n2_
             have p375 : 0 ≤ (x7_2 : Int) := of_decide_eq_true (by first | (with_reducible assumption) | assumption)
             have q375 : x7_2 < (x6_2.length : Int) := of_decide_eq_true (by first | (with_reducible assumption) | assumption)
             obtain ⟨ad375, e375, hx375_0, hx375_1⟩ := at_T86 (Kd.R_reads' HO_6.out).2.2 x7_2 p375 q375
             cases e375
             replace p375 := eq_true p375
             replace q375 := eq_true q375
             have p376 : 0 ≤ ((ji30) : Int) := of_decide_eq_true (by first | (with_reducible assumption) | assumption)
             have q376 : (ji30) < (x6_2.length : Int) := of_decide_eq_true (by first | (with_reducible assumption) | assumption)
             obtain ⟨ad376, e376, hx376_0, hx376_1⟩ := at_T86 (Kd.R_reads' HO_6.out).2.2 (ji30) p376 q376
             obtain rfl : ad375 = ad376 := (by injection e376)
             replace p376 := eq_true p376
             replace q376 := eq_true q376
             refine start_ (n := 15) (S := fun w' => w'.cell? (ad375.add ((x7_2).toNat * 2)) = some (.int .i64 ((rd_T86 x6_2 x7_2).f0)) ∧ w'.cell? ⟨(ad375.add ((x7_2).toNat * 2)).block, (ad375.add ((x7_2).toNat * 2)).off + 1, none⟩ = some (.string ((rd_T86 x6_2 x7_2).f1)) ∧ w'.cell? (ad375.add (((ji30)).toNat * 2)) = some (.int .i64 ((rd_T86 x6_2 (ji30)).f0)) ∧ w'.cell? ⟨(ad375.add (((ji30)).toNat * 2)).block, (ad375.add (((ji30)).toNat * 2)).off + 1, none⟩ = some (.string ((rd_T86 x6_2 (ji30)).f1))) (ds := []) (bA 15 0) (by kernel_rfl) rfl rfl ⟨hx375_0, hx375_1, hx376_0, hx376_1⟩ (fun hHeld => ?_); refine with_tabW impl_Offered.tab5 impl_Offered.bits5 (fun HT_ HW_ => ?_)
             generalize wr.drew = w42 at HO_6 BK363 HB hx375_0 hx375_1 hx376_0 hx376_1 hHeld ⊢
             refine pv (i := 0) (N := some 29) (bA 15 1) rfl rfl (any_of HT_.out (by kernel_rfl)) ?_
             refine pv (i := 1) (N := some 30) (bA 15 3) rfl rfl (any_of HT_.out (by kernel_rfl)) ?_
             refine pv (i := 2) (N := some 31) (bA 15 7) rfl rfl (any_of HT_.out (by kernel_rfl)) ?_
             refine pv (i := 3) (N := some 32) (bA 15 15) rfl rfl (any_of HT_.out (by kernel_rfl)) ?_
             refine pv (i := 4) (N := some 33) (bA 15 31) rfl rfl (any_of HT_.out (by kernel_rfl)) ?_
             refine pv (i := 5) (N := some 34) (bA 15 63) rfl rfl (any_of HT_.out (by kernel_rfl)) ?_
             refine pv (i := 7) (N := some 36) (bA 15 191) rfl rfl (any_of HT_.out (by kernel_rfl)) ?_
             refine pv (i := 8) (N := some 37) (bA 15 447) rfl rfl (any_of HT_.out (by kernel_rfl)) ?_
             refine pv (i := 9) (N := some 38) (bA 15 959) rfl rfl (any_of HT_.out (by kernel_rfl)) ?_
             refine pv (i := 10) (N := some 39) (bA 15 1983) rfl rfl (any_of HT_.out (by kernel_rfl)) ?_
             refine pv (i := 11) (N := some 40) (bA 15 4031) rfl rfl (any_of HT_.out (by kernel_rfl)) ?_
             refine take_ (i := 6) (N := some 35) (v := ?_) (a' := ?_) (bA 15 4095) rfl rfl (take_ofW HT_.out HW_.out (by kernel_rfl)) (fun _ _ _ h => h) (Or.inl ⟨by rfl, ?_⟩) hHeld ?_ ?_
             rotate_left
             ·rintro w' ⟨s0, s1, s2, s3⟩
              go_simp
              with_reducible rfl
             rotate_left
             ·simp only [sp_]
              rfl
             refine take_ (i := 12) (N := some 41) (v := ?_) (a' := ?_) (bA 15 8191) rfl rfl (take_ofW HT_.out HW_.out (by kernel_rfl)) (fun _ _ _ h => h) (Or.inl ⟨by rfl, ?_⟩) hHeld ?_ ?_
             rotate_left
             ·rintro w' ⟨s0, s1, s2, s3⟩
              go_simp
              with_reducible rfl
             rotate_left
             ·simp only [sp_]
              rfl
             refine one_ (i := 13) (N := some 42) (bA 15 16383) rfl rfl (one_of HT_.out (by kernel_rfl)) (by decide) (fun K hK => ?_)
             refine goes_ Try.func135 (by kernel_rfl) rfl #[.agg #[.int .i64 ((rd_T86 x6_2 x7_2).f0), .string ((rd_T86 x6_2 x7_2).f1)], .agg #[.int .i64 ((rd_T86 x6_2 (ji30)).f0), .string ((rd_T86 x6_2 (ji30)).f1)]] (by rfl) rfl rfl (by (try simp only [List.map_toArray, List.map_cons, List.map_nil]); first | done | (simp only [hji30]; rfl) | rfl | (simp only [List.length_drop, List.length_take]; rfl)) ?_
             with_reducible refine (impl_Offer_ahead.calls ((rd_T86 x6_2 x7_2).f0) ((rd_T86 x6_2 x7_2).f1) ((rd_T86 x6_2 (ji30)).f0) ((rd_T86 x6_2 (ji30)).f1) false _ A33.out).mono ?_
             rintro e w43 ⟨rfl, hb⟩
             have HS0_ := (hb.cell (World.block_lt_of_cell? _ _ (hHeld.1))).trans (hHeld.1)
             have HS1_ := (hb.cell (World.block_lt_of_cell? _ _ (hHeld.2.1))).trans (hHeld.2.1)
             have HS2_ := (hb.cell (World.block_lt_of_cell? _ _ (hHeld.2.2.1))).trans (hHeld.2.2.1)
             have HS3_ := (hb.cell (World.block_lt_of_cell? _ _ (hHeld.2.2.2))).trans (hHeld.2.2.2)
             refine ⟨_, rfl, ?_⟩
             have n0_ := Aside0.mk (Kd.R_below (by (with_reducible repeat (first | apply Kd.R_alloc | apply Kd.R_drewN | apply Kd.R_drew)); exact HO_6.out) hb)
             have n1_ := Aside0.mk (blk_below (g := gb363) (o := .cells #[.int .i64 x364000_2, .string x364001_2] 86 (0, 0)) (by (with_reducible repeat (first | refine blk_drewN ?_ _ | refine blk_drew ?_ | refine blk_alloc ?_ _)); exact BK363.out) hb)
             have n2_ := Aside0.mk (below_step (by repeat (first | (with_reducible first | exact HB.out | apply below_alloc | apply pw_below_drewN | apply below_drew1 | refine below_set ?_ GE363.out) | exact HB.out)) hb)
             clear HO_6
             clear BK363
             clear HB
             have HO_6 := n0_
             have BK363 := n1_
             have HB := n2_
             clear n0_ n1_ n2_
             (try clear hb)
             (try clear hb2)
             (try clear hk)
             (try clear hi)
             refine hK.out _ _ ⟨HS0_, HS1_, HS2_, HS3_⟩ (fun hHeld => ?_)
             clear hK K
             refine norm_ (a' := ?_) ?_ ?_
             rotate_left
             ·show Act.put _ (some 42) _ = _
              simp only [sp_]
              rfl
             refine pv (i := 14) (N := some 43) (bA 15 32767) rfl rfl (any_of HT_.out (by kernel_rfl)) ?_
             refine done_ (done_of HT_.out (by kernel_rfl)) ?_
             try go_wp2
             go_ret2
             exact ⟨_, by first | rfl | (simp [errW_none, errW_some] <;> rfl) | (simp only [← hji30]; first | rfl | (simp [errW_none, errW_some] <;> rfl)) | (simp [*, errW_none, errW_some] <;> rfl), by (with_reducible repeat (first | apply Kd.R_alloc | apply Kd.R_drewN | apply Kd.R_drew)); exact Kd.R_mono HO_6.out (fun _ hk => trivial), by repeat (first | (with_reducible first | exact HB.out | apply below_alloc | apply pw_below_drewN | apply below_drew1 | refine below_set ?_ GE363.out) | exact HB.out)⟩
           ·rw [if_neg c32] at H
            exact absurd H (by simp)
          ·rw [if_neg c31] at H
           exact absurd H (by simp)
         ·rw [if_neg c29] at H
          exact absurd H (by simp)
        ·rw [if_neg c28] at H
         exact absurd H (by simp)
       ·rw [if_neg c27] at H
        have c27b0 : decide (0 < x7_2) = false := decide_eq_false c27
        clear c27
        simp only [Option.some.injEq, Prod.mk.injEq] at H
        obtain ⟨rfl, rfl⟩ := H
        try go_wp2
        have n0_ := Aside0.mk (Kd.R_drew HO_6.out)
        have n1_ := Aside0.mk (blk_drew BK363.out)
        have n2_ := Aside0.mk (below_drew1 HB.out)
        clear HO_6
        clear BK363
        clear HB
        have HO_6 := n0_
        have BK363 := n1_
        have HB := n2_
        clear n0_ n1_ n2_
        refine start_ (n := 15) (S := fun w' => True) (ds := []) (bA 15 0) (by kernel_rfl) rfl rfl trivial (fun hHeld => ?_); refine with_tabW impl_Offered.tab5 impl_Offered.bits5 (fun HT_ HW_ => ?_)
        generalize wr.drew = w44 at HO_6 BK363 HB hHeld ⊢
        refine pv (i := 0) (N := some 29) (bA 15 1) rfl rfl (any_of HT_.out (by kernel_rfl)) ?_
        refine pv (i := 1) (N := some 30) (bA 15 3) rfl rfl (any_of HT_.out (by kernel_rfl)) ?_
        refine pv (i := 2) (N := some 31) (bA 15 7) rfl rfl (any_of HT_.out (by kernel_rfl)) ?_
        refine pu (i := 3) (N := some 32) (bA 15 15) rfl rfl (any_of HT_.out (by kernel_rfl)) ?_
        refine pu (i := 4) (N := some 33) (bA 15 31) rfl rfl (any_of HT_.out (by kernel_rfl)) ?_
        refine pu (i := 5) (N := some 34) (bA 15 63) rfl rfl (any_of HT_.out (by kernel_rfl)) ?_
        refine pu (i := 6) (N := some 35) (bA 15 127) rfl rfl (any_of HT_.out (by kernel_rfl)) ?_
        refine pu (i := 7) (N := some 36) (bA 15 255) rfl rfl (any_of HT_.out (by kernel_rfl)) ?_
        refine pu (i := 8) (N := some 37) (bA 15 511) rfl rfl (any_of HT_.out (by kernel_rfl)) ?_
        refine pu (i := 9) (N := some 38) (bA 15 1023) rfl rfl (any_of HT_.out (by kernel_rfl)) ?_
        refine pu (i := 10) (N := some 39) (bA 15 2047) rfl rfl (any_of HT_.out (by kernel_rfl)) ?_
        refine pu (i := 11) (N := some 40) (bA 15 4095) rfl rfl (any_of HT_.out (by kernel_rfl)) ?_
        refine pu (i := 12) (N := some 41) (bA 15 8191) rfl rfl (any_of HT_.out (by kernel_rfl)) ?_
        refine pu (i := 13) (N := some 42) (bA 15 16383) rfl rfl (any_of HT_.out (by kernel_rfl)) ?_
        refine pv (i := 14) (N := some 43) (bA 15 32767) rfl rfl (any_of HT_.out (by kernel_rfl)) ?_
        refine done_ (done_of HT_.out (by kernel_rfl)) ?_
        try go_wp2
        go_ret2
        exact ⟨_, by first | rfl | (simp [errW_none, errW_some] <;> rfl) | (simp [*, errW_none, errW_some] <;> rfl), by (with_reducible repeat (first | apply Kd.R_alloc | apply Kd.R_drewN | apply Kd.R_drew)); exact Kd.R_mono HO_6.out (fun _ hk => trivial), by repeat (first | (with_reducible first | exact HB.out | apply below_alloc | apply pw_below_drewN | apply below_drew1 | refine below_set ?_ GE363.out) | exact HB.out)⟩
    ·rw [if_neg c18] at H
     exact absurd H (by simp)

end Go.Proofs.Ytckgkhlgnblblaa.PFnPool
