-- Written by a program of this session (wip/tools/pp.py over the kit's print).
import Derived.Test.YtckgkhlgnblblaaPFnPoolx0
import Derived.Test.YtckgkhlgnblblaaPFnPoolx2
namespace Go.Proofs.Ytckgkhlgnblblaa.PFnPool
open Go.RowKit Go.Proofs.YtckgkhlgnblblaaW.PrintWords Go.Proofs.YtckgkhlgnblblaaW.PrintLast Go.Proofs.YtckgkhlgnblblaaW.PrintMore
attribute [local go_sem] max2_int min2_int max_two min_two max_three min_three max_four min_four
attribute [local go_sem high] str_gtr str_leq str_geq
set_option linter.unusedVariables false
set_option linter.unusedSimpArgs false

/-! ### spec_Offered: function 60 -/
mutual
def spec_Offered.j0 : Nat → List (S86) → Bool → Int → ByteArray → Option ((List (S86)) × Bool)
 | 0, _, _, _, _ => none
 | k + 1, x0, x21, x227000, x227001 => if x21 = true then (some ((([] : List (S86))), false)) else ((some (([] : List (S86)) : List (S86))).bind fun y232 => (if y232.length + x0.length < 5864062014805 then ((some (y232 ++ x0 : List (S86))).bind fun y235 => ((some (([(⟨x227000, x227001⟩ : S86)] : List (S86)) : List (S86))).bind fun y238 => (if y235.length + y238.length < 5864062014805 then (spec_Offered.l0 k (y235 ++ y238) (x0.length : Int) x227000 x227001) else (none)))) else (none)))
def spec_Offered.l0 : Nat → List (S86) → Int → Int → ByteArray → Option ((List (S86)) × Bool)
 | 0, _, _, _, _ => none
 | k + 1, x6, x7, x227000, x227001 => if x7 > 0 then (if 0 ≤ (wrap64 (Int.tdiv (wrap64 (x7 - 1)) 2)) then (if (wrap64 (Int.tdiv (wrap64 (x7 - 1)) 2)) < (x6.length : Int) then ((spec_l14Ahead.f x227000 x227001 ((rd_T86 x6 (wrap64 (Int.tdiv (wrap64 (x7 - 1)) 2))).f0) ((rd_T86 x6 (wrap64 (Int.tdiv (wrap64 (x7 - 1)) 2))).f1)).bind fun t245 => (if t245 = true then (if 0 ≤ x7 then (if x7 < (x6.length : Int) then (spec_Offered.l0 k ((x6.set (x7 : Int).toNat (⟨(rd_T86 x6 (wrap64 (Int.tdiv (wrap64 (x7 - 1)) 2))).f0, (rd_T86 x6 (wrap64 (Int.tdiv (wrap64 (x7 - 1)) 2))).f1⟩ : S86)).set ((wrap64 (Int.tdiv (wrap64 (x7 - 1)) 2)) : Int).toNat (⟨x227000, x227001⟩ : S86)) (wrap64 (Int.tdiv (wrap64 (x7 - 1)) 2)) x227000 x227001) else (none)) else (none)) else (some (x6, true)))) else (none)) else (none)) else (some (x6, true))
end
def spec_Offered.f (k : Nat) (l0 : List (S86)) (a1_0 : Int) (a1_1 : ByteArray) : Option ((List (S86)) × Bool) := (spec_PoolOk.f k l0).bind fun t227 => (if t227 = true then ((spec_l14Offer.f a1_0 a1_1).bind fun t228 => (if t228 = true then (spec_Offered.j0 k l0 ((l0.length : Int) == 50) a1_0 a1_1) else (spec_Offered.j0 k l0 true a1_0 a1_1))) else (spec_Offered.j0 k l0 true a1_0 a1_1))
theorem spec_Offered.mono_l : ∀ k, (∀ y0 y1 y2 y3, LeO (spec_Offered.j0 k y0 y1 y2 y3) (spec_Offered.j0 (k + 1) y0 y1 y2 y3)) ∧ (∀ y0 y1 y2 y3, LeO (spec_Offered.l0 k y0 y1 y2 y3) (spec_Offered.l0 (k + 1) y0 y1 y2 y3))
 | 0 => ⟨fun _ _ _ _ r h => by simp [spec_Offered.j0] at h, fun _ _ _ _ r h => by simp [spec_Offered.l0] at h⟩
 | k + 1 => by
  obtain ⟨ih0, ih1⟩ := spec_Offered.mono_l k
  refine ⟨?_, ?_⟩
  ·intro y0 y1 y2 y3
   unfold spec_Offered.j0
   repeat' first
   | (with_reducible exact ih0 _ _ _ _)
   | (with_reducible exact ih1 _ _ _ _)
   | (with_reducible exact spec_PoolOk.mono _ _)
   | (with_reducible exact LeO.refl _)
   | (with_reducible exact LeO.none _)
   | (with_reducible refine LeO.ite ?_ ?_)
   | (with_reducible refine LeO.bind ?_ (fun _ => ?_))
   | exact ih0 _ _ _ _
   | exact ih1 _ _ _ _
   | exact spec_PoolOk.mono _ _
   | exact LeO.none _
   | refine LeO.ite ?_ ?_
   | refine LeO.bind ?_ (fun _ => ?_)
  ·intro y0 y1 y2 y3
   unfold spec_Offered.l0
   repeat' first
   | (with_reducible exact ih0 _ _ _ _)
   | (with_reducible exact ih1 _ _ _ _)
   | (with_reducible exact spec_PoolOk.mono _ _)
   | (with_reducible exact LeO.refl _)
   | (with_reducible exact LeO.none _)
   | (with_reducible refine LeO.ite ?_ ?_)
   | (with_reducible refine LeO.bind ?_ (fun _ => ?_))
   | exact ih0 _ _ _ _
   | exact ih1 _ _ _ _
   | exact spec_PoolOk.mono _ _
   | exact LeO.none _
   | refine LeO.ite ?_ ?_
   | refine LeO.bind ?_ (fun _ => ?_)
theorem spec_Offered.mono : ∀ a0 a1 a2 k, LeO (spec_Offered.f k a0 a1 a2) (spec_Offered.f (k + 1) a0 a1 a2) := by
 intro a0 a1 a2 k
 obtain ⟨ih0, ih1⟩ := spec_Offered.mono_l k
 unfold spec_Offered.f
 repeat' first
   | (with_reducible exact ih0 _ _ _ _)
   | (with_reducible exact ih1 _ _ _ _)
   | (with_reducible exact spec_PoolOk.mono _ _)
   | (with_reducible exact LeO.refl _)
   | (with_reducible exact LeO.none _)
   | (with_reducible refine LeO.ite ?_ ?_)
   | (with_reducible refine LeO.bind ?_ (fun _ => ?_))
   | exact ih0 _ _ _ _
   | exact ih1 _ _ _ _
   | exact spec_PoolOk.mono _ _
   | exact LeO.none _
   | refine LeO.ite ?_ ?_
   | refine LeO.bind ?_ (fun _ => ?_)
def spec_Offered.T5 : Bool × List (List Nat × List Nat) := (true, [([], []), ([0], [0]), ([1], [1]), ([2], [2]), ([2], [2]), ([2], [2]), ([5, 2], [2, 5]), ([6, 2], [2, 6]), ([4, 7, 2], [2, 4, 7]), ([8, 2], [2, 8]), ([3, 9, 2, 2], [2, 3, 9]), ([2, 10], [2, 10])])
def spec_Offered.B5 : List Nat := [0, 1, 3, 7, 7, 7, 39, 103, 247, 503, 1023, 2047]
theorem spec_Offered.tab5 : rtab .any (opsOf Try.f60 5) = spec_Offered.T5 := by kernel_rfl
theorem spec_Offered.bits5 : waitsOk spec_Offered.T5.2 spec_Offered.B5 = true := by kernel_rfl
set_option maxHeartbeats 8000000 in
set_option maxRecDepth 100000 in
theorem spec_Offered.calls (k : Nat) (A0 : Option Addr) (c0 : Nat) (l0 : List (S86)) (a1_0 : Int) (a1_1 : ByteArray) (r1 : List (S86)) (r2 : Bool) (w : World) (hr0 : Kd.C k86 w A0 l0.length l0) (hc0 : l0.length ≤ c0) (h : spec_Offered.f k l0 a1_0 a1_1 = some (r1, r2)) :
  Calls Try.prog 60 #[.slice A0 l0.length c0, .agg #[.int .i64 a1_0, .string a1_1]] w fun e w' => ∃ v0_ : Value, e = .returned (.tuple #[v0_, .bool r2]) ∧ Kd.R k86 86 w' w.heap.size (fun _ => True) v0_ r1 ∧ Below w.heap.size w w' := by
 have hu86 := Try.underlying86
 have HR0 := Aside0.mk hr0
 have HC0 := Aside0.mk hc0
 clear hr0 hc0
 have HB := Aside0.mk (Below.refl w.heap.size w)
 have H : ((spec_PoolOk.f k l0).bind fun t227 => (if t227 = true then ((spec_l14Offer.f a1_0 a1_1).bind fun t228 => (if t228 = true then (spec_Offered.j0 k l0 ((l0.length : Int) == 50) a1_0 a1_1) else (spec_Offered.j0 k l0 true a1_0 a1_1))) else (spec_Offered.j0 k l0 true a1_0 a1_1))) = some (r1, r2) := h
 clear h
 have HC3 := Aside0.mk H
 clear H
 go_enter Try.func60, Try.ntmps60
 go_upto_region 1 with (first | ((with_reducible refine gate_dst (N := 3) rfl ?_); (try (refine gate_guard (by rfl) ?_; dsimp only)); refine box_event ?hg (N := 3) ?hd (cs := #[.int .i64 a1_0, .string a1_1]) (t := 86) ?hr ?_; (case hd => rfl); (case hg => rfl); (case hr => first | (go_simp; done) | (go_simp; rfl)); intro gb226 hg w4 hbox hb; have n0_ := Aside0.mk (below_step (by repeat (first | (with_reducible first | exact HB.out | apply below_alloc | apply pw_below_drewN | apply below_drew1) | exact HB.out)) hb); have n1_ := Aside0.mk (hbox); have n2_ := Aside0.mk ((by rw [hg]; exact (below_size (by repeat (first | (with_reducible first | exact HB.out | apply below_alloc | apply pw_below_drewN | apply below_drew1) | exact HB.out))) : w.heap.size ≤ gb226)); have n3_ := Aside0.mk ((by rw [hg]; exact (below_size (by repeat (first | (with_reducible first | exact HB.out | apply below_alloc | apply pw_below_drewN | apply below_drew1) | exact HB.out))) : w.heap.size ≤ gb226)); clear HB; have HB := n0_; have BK226 := n1_; have GW226 := n2_; have GE226 := n3_; clear n0_ n1_ n2_ n3_; clear hb hbox hg))
 (try simp only [Act.put, List.setIfInBounds_toArray, List.set_cons_zero, List.set_cons_succ])
 go_cut [21] (fun v21 wc => ∃ (kq : Nat) (x21_2 : Bool), v21 = .bool x21_2 ∧ Aside0 (spec_Offered.j0 kq l0 x21_2 a1_0 a1_1 = some (r1, r2)) ∧ Aside0 (kq ≤ k) ∧ Aside0 (wc.heap[gb226]? = some (.cells #[.int .i64 a1_0, .string a1_1] 86 (0, 0))) ∧ Aside0 (Below w.heap.size w wc))
 case first =>
  have H := HC3.out
  clear HC3
  replace H := Option.bind_eq_some_iff.mp H
  obtain ⟨t227, A50, H⟩ := H
  replace H : (if t227 = true then ((spec_l14Offer.f a1_0 a1_1).bind fun t228 => (if t228 = true then (spec_Offered.j0 k l0 ((l0.length : Int) == 50) a1_0 a1_1) else (spec_Offered.j0 k l0 true a1_0 a1_1))) else (spec_Offered.j0 k l0 true a1_0 a1_1)) = some (r1, r2) := H
  have A5 := Aside0.mk A50
  clear A50
  by_cases c6 : t227 = true
  ·subst c6
   have H1 : ((spec_l14Offer.f a1_0 a1_1).bind fun t228 => (if t228 = true then (spec_Offered.j0 k l0 ((l0.length : Int) == 50) a1_0 a1_1) else (spec_Offered.j0 k l0 true a1_0 a1_1))) = some (r1, r2) := by rw [if_pos rfl] at H; exact H
   clear H
   have H := H1
   clear H1
   replace H := Option.bind_eq_some_iff.mp H
   obtain ⟨t228, A70, H⟩ := H
   replace H : (if t228 = true then (spec_Offered.j0 k l0 ((l0.length : Int) == 50) a1_0 a1_1) else (spec_Offered.j0 k l0 true a1_0 a1_1)) = some (r1, r2) := H
   have A7 := Aside0.mk A70
   clear A70
   by_cases c8 : t228 = true
   ·subst c8
    have H1 : (spec_Offered.j0 k l0 ((l0.length : Int) == 50) a1_0 a1_1) = some (r1, r2) := by rw [if_pos rfl] at H; exact H
    clear H
    have H := H1
    clear H1
    have H' := Aside0.mk H
    clear H
    go_wp2_with (first | ((with_reducible refine gate_callee (f := 63) rfl ?_); refine goesL_ (some 10) rfl rfl Try.func63 (by kernel_rfl) rfl #[.slice A0 l0.length c0] rfl (by (try simp only [List.map_toArray, List.map_cons, List.map_nil]); first | done | rfl | (simp only [List.length_drop, List.length_take]; rfl)) ?_; (with_reducible refine (spec_PoolOk.calls k _ _ l0 true _ ?side1 ?side2 A5.out).mono ?_); (case side1 => repeat (first | exact (Kd.C_below HR0.out HB.out) | (with_reducible refine Kd.C_alloc ?_ _) | (with_reducible refine Kd.C_drewN ?_ _) | (with_reducible refine Kd.C_drew ?_))); (case side2 => exact HC0.out); rintro e w9 ⟨rfl, hb⟩; refine ⟨_, rfl, ?_⟩; have n0_ := Aside0.mk (blk_below (g := gb226) (o := .cells #[.int .i64 a1_0, .string a1_1] 86 (0, 0)) (by (with_reducible repeat (first | refine blk_drewN ?_ _ | refine blk_drew ?_ | refine blk_alloc ?_ _)); exact BK226.out) hb); have n1_ := Aside0.mk (below_step (by repeat (first | (with_reducible first | exact HB.out | apply below_alloc | apply pw_below_drewN | apply below_drew1 | refine below_set ?_ GE226.out) | exact HB.out)) hb); clear BK226; clear HB; have BK226 := n0_; have HB := n1_; clear n0_ n1_; (try clear hb); (try clear hb2); (try clear hk); (try clear hi); have hcz10_0 : w9.cell? ⟨gb226, 0, none⟩ = some (.int .i64 a1_0) := (blk_cell BK226.out 0).trans rfl; have hcz10_1 : w9.cell? ⟨gb226, 1, none⟩ = some (.string a1_1) := (blk_cell BK226.out 1).trans rfl; have hfz10_0 := blk_frozen BK226.out 0; have hfz10_1 := blk_frozen BK226.out 1) | (go_at_call 138; (with_reducible refine (spec_l14Offer.calls a1_0 a1_1 true _ A7.out).mono ?_); rintro e w11 ⟨rfl, hb⟩; have n0_ := Aside0.mk (blk_below (g := gb226) (o := .cells #[.int .i64 a1_0, .string a1_1] 86 (0, 0)) (by (with_reducible repeat (first | refine blk_drewN ?_ _ | refine blk_drew ?_ | refine blk_alloc ?_ _)); exact BK226.out) hb); have n1_ := Aside0.mk (below_step (by repeat (first | (with_reducible first | exact HB.out | apply below_alloc | apply pw_below_drewN | apply below_drew1 | refine below_set ?_ GE226.out) | exact HB.out)) hb); clear BK226; clear HB; have BK226 := n0_; have HB := n1_; clear n0_ n1_; (try clear hb); (try clear hb2); (try clear hk); (try clear hi)))
    go_meet
    case rel => exact ⟨_, (((l0.length : Int) == 50)), (by first | rfl | (simp; done) | (simp [*]; done)), H', ⟨by first | omega | exact Nat.le_refl _⟩, ⟨by (with_reducible repeat (first | refine blk_drewN ?_ _ | refine blk_drew ?_ | refine blk_alloc ?_ _)); exact BK226.out⟩, ⟨by repeat (first | (with_reducible first | exact HB.out | apply below_alloc | apply pw_below_drewN | apply below_drew1 | refine below_set ?_ GE226.out) | exact HB.out)⟩⟩
   ·replace c8 := Bool.eq_false_iff.mpr c8
    subst c8
    have H1 : (spec_Offered.j0 k l0 true a1_0 a1_1) = some (r1, r2) := by rw [if_neg (show ¬ (false = true) by decide)] at H; exact H
    clear H
    have H := H1
    clear H1
    have H' := Aside0.mk H
    clear H
    go_wp2_with (first | ((with_reducible refine gate_callee (f := 63) rfl ?_); refine goesL_ (some 10) rfl rfl Try.func63 (by kernel_rfl) rfl #[.slice A0 l0.length c0] rfl (by (try simp only [List.map_toArray, List.map_cons, List.map_nil]); first | done | rfl | (simp only [List.length_drop, List.length_take]; rfl)) ?_; (with_reducible refine (spec_PoolOk.calls k _ _ l0 true _ ?side1 ?side2 A5.out).mono ?_); (case side1 => repeat (first | exact (Kd.C_below HR0.out HB.out) | (with_reducible refine Kd.C_alloc ?_ _) | (with_reducible refine Kd.C_drewN ?_ _) | (with_reducible refine Kd.C_drew ?_))); (case side2 => exact HC0.out); rintro e w12 ⟨rfl, hb⟩; refine ⟨_, rfl, ?_⟩; have n0_ := Aside0.mk (blk_below (g := gb226) (o := .cells #[.int .i64 a1_0, .string a1_1] 86 (0, 0)) (by (with_reducible repeat (first | refine blk_drewN ?_ _ | refine blk_drew ?_ | refine blk_alloc ?_ _)); exact BK226.out) hb); have n1_ := Aside0.mk (below_step (by repeat (first | (with_reducible first | exact HB.out | apply below_alloc | apply pw_below_drewN | apply below_drew1 | refine below_set ?_ GE226.out) | exact HB.out)) hb); clear BK226; clear HB; have BK226 := n0_; have HB := n1_; clear n0_ n1_; (try clear hb); (try clear hb2); (try clear hk); (try clear hi); have hcz13_0 : w12.cell? ⟨gb226, 0, none⟩ = some (.int .i64 a1_0) := (blk_cell BK226.out 0).trans rfl; have hcz13_1 : w12.cell? ⟨gb226, 1, none⟩ = some (.string a1_1) := (blk_cell BK226.out 1).trans rfl; have hfz13_0 := blk_frozen BK226.out 0; have hfz13_1 := blk_frozen BK226.out 1) | (go_at_call 138; (with_reducible refine (spec_l14Offer.calls a1_0 a1_1 false _ A7.out).mono ?_); rintro e w14 ⟨rfl, hb⟩; have n0_ := Aside0.mk (blk_below (g := gb226) (o := .cells #[.int .i64 a1_0, .string a1_1] 86 (0, 0)) (by (with_reducible repeat (first | refine blk_drewN ?_ _ | refine blk_drew ?_ | refine blk_alloc ?_ _)); exact BK226.out) hb); have n1_ := Aside0.mk (below_step (by repeat (first | (with_reducible first | exact HB.out | apply below_alloc | apply pw_below_drewN | apply below_drew1 | refine below_set ?_ GE226.out) | exact HB.out)) hb); clear BK226; clear HB; have BK226 := n0_; have HB := n1_; clear n0_ n1_; (try clear hb); (try clear hb2); (try clear hk); (try clear hi)))
    go_meet
    case rel => exact ⟨_, (true), (by first | rfl | (simp; done) | (simp [*]; done)), H', ⟨by first | omega | exact Nat.le_refl _⟩, ⟨by (with_reducible repeat (first | refine blk_drewN ?_ _ | refine blk_drew ?_ | refine blk_alloc ?_ _)); exact BK226.out⟩, ⟨by repeat (first | (with_reducible first | exact HB.out | apply below_alloc | apply pw_below_drewN | apply below_drew1 | refine below_set ?_ GE226.out) | exact HB.out)⟩⟩
  ·replace c6 := Bool.eq_false_iff.mpr c6
   subst c6
   have H1 : (spec_Offered.j0 k l0 true a1_0 a1_1) = some (r1, r2) := by rw [if_neg (show ¬ (false = true) by decide)] at H; exact H
   clear H
   have H := H1
   clear H1
   have H' := Aside0.mk H
   clear H
   go_wp2_with (first | ((with_reducible refine gate_callee (f := 63) rfl ?_); refine goesL_ (some 10) rfl rfl Try.func63 (by kernel_rfl) rfl #[.slice A0 l0.length c0] rfl (by (try simp only [List.map_toArray, List.map_cons, List.map_nil]); first | done | rfl | (simp only [List.length_drop, List.length_take]; rfl)) ?_; (with_reducible refine (spec_PoolOk.calls k _ _ l0 false _ ?side1 ?side2 A5.out).mono ?_); (case side1 => repeat (first | exact (Kd.C_below HR0.out HB.out) | (with_reducible refine Kd.C_alloc ?_ _) | (with_reducible refine Kd.C_drewN ?_ _) | (with_reducible refine Kd.C_drew ?_))); (case side2 => exact HC0.out); rintro e w15 ⟨rfl, hb⟩; refine ⟨_, rfl, ?_⟩; have n0_ := Aside0.mk (blk_below (g := gb226) (o := .cells #[.int .i64 a1_0, .string a1_1] 86 (0, 0)) (by (with_reducible repeat (first | refine blk_drewN ?_ _ | refine blk_drew ?_ | refine blk_alloc ?_ _)); exact BK226.out) hb); have n1_ := Aside0.mk (below_step (by repeat (first | (with_reducible first | exact HB.out | apply below_alloc | apply pw_below_drewN | apply below_drew1 | refine below_set ?_ GE226.out) | exact HB.out)) hb); clear BK226; clear HB; have BK226 := n0_; have HB := n1_; clear n0_ n1_; (try clear hb); (try clear hb2); (try clear hk); (try clear hi)))
   go_meet
   case rel => exact ⟨_, (true), (by first | rfl | (simp; done) | (simp [*]; done)), H', ⟨by first | omega | exact Nat.le_refl _⟩, ⟨by (with_reducible repeat (first | refine blk_drewN ?_ _ | refine blk_drew ?_ | refine blk_alloc ?_ _)); exact BK226.out⟩, ⟨by repeat (first | (with_reducible first | exact HB.out | apply below_alloc | apply pw_below_drewN | apply below_drew1 | refine below_set ?_ GE226.out) | exact HB.out)⟩⟩
 case rest =>
  clear HC3
  try clear p2
  try clear c6
  try clear c8
  try clear hcz10_0
  try clear hcz10_1
  try clear hcz13_0
  try clear hcz13_1
  try clear hfz10_0
  try clear hfz10_1
  try clear hfz13_0
  try clear hfz13_1
  obtain ⟨kq, x21_2, rfl, HA, HJ2, BK226, HB⟩ := hcut
  cases kq with
  | zero => exact absurd HA.out (by simp [spec_Offered.j0])
  | succ kj2 =>
   have H := HA.out
   clear HA
   simp only [spec_Offered.j0] at H
   by_cases c16 : x21_2 = true
   ·subst c16
    have H1 : (some ((([] : List (S86))), false)) = some (r1, r2) := by rw [if_pos rfl] at H; exact H
    clear H
    have H := H1
    clear H1
    obtain ⟨y229, hy229⟩ : ∃ y_ : List (S86), y_ = (([] : List (S86))) := ⟨_, rfl⟩
    replace H : (some (y229, false)) = some (r1, r2) := by first | (rw [hy229]; with_reducible exact H) | (have H2_ := (Option.bind_some _ _).symm.trans H; rw [hy229]; with_reducible exact H2_) | (have H2_ := (Option.bind_some _ _).symm.trans H; with_reducible exact H2_) | with_reducible exact H | (rw [hy229]; exact H) | exact H
    have Ny229 := Aside0.mk hy229
    clear hy229
    simp only [Option.some.injEq, Prod.mk.injEq] at H
    obtain ⟨rfl, rfl⟩ := H
    go_wp2_with (first | ((with_reducible refine gate_dst (N := 22) rfl ?_); (try (refine gate_guard (by rfl) ?_; dsimp only)); refine Kd.R_lit k86 _ 86 ?hg (N := 22) ?hd (xs := ([] : List (S86))) (inner := []) (ok := fun _ => True) (okp := fun _ => True) ?hr ?hp (fun _ hk => hk) trivial (Below.refl _ _) (Nat.le_refl _) (by simp) ?_; (case hd => rfl); (case hg => rfl); (case hr => first | (go_simp; done) | (go_simp; rfl)); (case hp => exact (Reps.none _ _)); intro v230 w17 ho18 hb hg_ hnew_; clear hg_ hnew_; (first | rw [← Ny229.out] at ho18 | (simp only [Int.reduceToNat] at ho18; rw [← Ny229.out] at ho18)); have n0_ := Aside0.mk (Kd.R_lower (Kd.R_newB ho18 (g := gb226) (o := .cells #[.int .i64 a1_0, .string a1_1] 86 (0, 0)) (by (with_reducible repeat (first | refine blk_drewN ?_ _ | refine blk_drew ?_ | refine blk_alloc ?_ _)); exact BK226.out)) (below_size (by repeat (first | (with_reducible first | exact HB.out | apply below_alloc | apply pw_below_drewN | apply below_drew1 | refine below_set ?_ GE226.out) | exact HB.out)))); have n1_ := Aside0.mk (blk_below (g := gb226) (o := .cells #[.int .i64 a1_0, .string a1_1] 86 (0, 0)) (by (with_reducible repeat (first | refine blk_drewN ?_ _ | refine blk_drew ?_ | refine blk_alloc ?_ _)); exact BK226.out) hb); have n2_ := Aside0.mk (below_step (by repeat (first | (with_reducible first | exact HB.out | apply below_alloc | apply pw_below_drewN | apply below_drew1 | refine below_set ?_ GE226.out) | exact HB.out)) hb); clear BK226; clear HB; have HO231 := n0_; have BK226 := n1_; have HB := n2_; clear n0_ n1_ n2_; clear hb ho18))
    go_ret2
    exact ⟨_, by first | rfl | (simp [errW_none, errW_some] <;> rfl) | (simp [*, errW_none, errW_some] <;> rfl), by (with_reducible repeat (first | apply Kd.R_alloc | apply Kd.R_drewN | apply Kd.R_drew)); exact Kd.R_mono HO231.out (fun _ hk => trivial), by repeat (first | (with_reducible first | exact HB.out | apply below_alloc | apply pw_below_drewN | apply below_drew1) | exact HB.out)⟩
   ·replace c16 := Bool.eq_false_iff.mpr c16
    subst c16
    have H1 : ((some (([] : List (S86)) : List (S86))).bind fun y232 => (if y232.length + l0.length < 5864062014805 then ((some (y232 ++ l0 : List (S86))).bind fun y235 => ((some (([(⟨a1_0, a1_1⟩ : S86)] : List (S86)) : List (S86))).bind fun y238 => (if y235.length + y238.length < 5864062014805 then (spec_Offered.l0 kj2 (y235 ++ y238) (l0.length : Int) a1_0 a1_1) else (none)))) else (none))) = some (r1, r2) := by rw [if_neg (show ¬ (false = true) by decide)] at H; exact H
    clear H
    have H := H1
    clear H1
    obtain ⟨y232, hy232⟩ : ∃ y_ : List (S86), y_ = (([] : List (S86))) := ⟨_, rfl⟩
    replace H : (if y232.length + l0.length < 5864062014805 then ((some (y232 ++ l0 : List (S86))).bind fun y235 => ((some (([(⟨a1_0, a1_1⟩ : S86)] : List (S86)) : List (S86))).bind fun y238 => (if y235.length + y238.length < 5864062014805 then (spec_Offered.l0 kj2 (y235 ++ y238) (l0.length : Int) a1_0 a1_1) else (none)))) else (none)) = some (r1, r2) := by first | (rw [hy232]; with_reducible exact H) | (have H2_ := (Option.bind_some _ _).symm.trans H; rw [hy232]; with_reducible exact H2_) | (have H2_ := (Option.bind_some _ _).symm.trans H; with_reducible exact H2_) | with_reducible exact H | (rw [hy232]; exact H) | exact H
    have Ny232 := Aside0.mk hy232
    clear hy232
    by_cases c19 : y232.length + l0.length < 5864062014805
    ·rw [if_pos c19] at H
     have LMc19 := Aside0.mk c19
     clear c19
     obtain ⟨y235, hy235⟩ : ∃ y_ : List (S86), y_ = (y232 ++ l0) := ⟨_, rfl⟩
     replace H : ((some (([(⟨a1_0, a1_1⟩ : S86)] : List (S86)) : List (S86))).bind fun y238 => (if y235.length + y238.length < 5864062014805 then (spec_Offered.l0 kj2 (y235 ++ y238) (l0.length : Int) a1_0 a1_1) else (none))) = some (r1, r2) := by first | (rw [hy235]; with_reducible exact H) | (have H2_ := (Option.bind_some _ _).symm.trans H; rw [hy235]; with_reducible exact H2_) | (have H2_ := (Option.bind_some _ _).symm.trans H; with_reducible exact H2_) | with_reducible exact H | (rw [hy235]; exact H) | exact H
     have Ny235 := Aside0.mk hy235
     clear hy235
     obtain ⟨y238, hy238⟩ : ∃ y_ : List (S86), y_ = (([(⟨a1_0, a1_1⟩ : S86)] : List (S86))) := ⟨_, rfl⟩
     replace H : (if y235.length + y238.length < 5864062014805 then (spec_Offered.l0 kj2 (y235 ++ y238) (l0.length : Int) a1_0 a1_1) else (none)) = some (r1, r2) := by first | (rw [hy238]; with_reducible exact H) | (have H2_ := (Option.bind_some _ _).symm.trans H; rw [hy238]; with_reducible exact H2_) | (have H2_ := (Option.bind_some _ _).symm.trans H; with_reducible exact H2_) | with_reducible exact H | (rw [hy238]; exact H) | exact H
     have Ny238 := Aside0.mk hy238
     clear hy238
     by_cases c20 : y235.length + y238.length < 5864062014805
     ·rw [if_pos c20] at H
      have LMc20 := Aside0.mk c20
      clear c20
      obtain ⟨y241, hy241⟩ : ∃ y_ : List (S86), y_ = (y235 ++ y238) := ⟨_, rfl⟩
      replace H : (spec_Offered.l0 kj2 y241 (l0.length : Int) a1_0 a1_1) = some (r1, r2) := by first | (rw [hy241]; with_reducible exact H) | (have H2_ := (Option.bind_some _ _).symm.trans H; rw [hy241]; with_reducible exact H2_) | (have H2_ := (Option.bind_some _ _).symm.trans H; with_reducible exact H2_) | with_reducible exact H | (rw [hy241]; exact H) | exact H
      have Ny241 := Aside0.mk hy241
      clear hy241
      have H' := Aside0.mk H
      clear H
      try go_wp2
      have n0_ := Aside0.mk (blk_drew BK226.out)
      have n1_ := Aside0.mk (below_drew1 HB.out)
      clear BK226
      clear HB
      have BK226 := n0_
      have HB := n1_
      clear n0_ n1_
      refine start_ (n := 7) (S := fun w' => w'.cell? ⟨gb226, 0, none⟩ = some (.int .i64 a1_0) ∧ w'.cell? ⟨gb226, 1, none⟩ = some (.string a1_1)) (ds := []) #[false, false, false, false, false, false, false] (by kernel_rfl) rfl rfl ⟨(blk_cell BK226.out 0).trans rfl, (blk_cell BK226.out 1).trans rfl⟩ (fun hHeld => ?_)
      generalize wc.drew = w21 at BK226 HB hHeld ⊢
      refine pure_ (i := 1) (N := some 24) (v := ?_) (a' := ?_) #[false, true, false, false, false, false, false] rfl rfl (by kernel_rfl) (fun _ _ _ h => h) (Or.inl ⟨by rfl, ?_⟩) ?_ ?_
      rotate_left
      ·intro w'
       go_simp
       with_reducible rfl
      rotate_left
      ·simp only [sp_]
       rfl
      refine take_ (i := 3) (N := some 26) (v := ?_) (a' := ?_) #[false, true, false, true, false, false, false] rfl rfl (by kernel_rfl) (fun _ _ _ h => h) (Or.inl ⟨by rfl, ?_⟩) hHeld ?_ ?_
      rotate_left
      ·rintro w' ⟨s0, s1⟩
       go_simp
       with_reducible rfl
      rotate_left
      ·simp only [sp_]
       rfl
      refine join_ (σ := Value × Value × Value) 2 #[true, true, true, true, true, false, false] (fun s_ => [(23, s_.1), (25, s_.2.1), (27, s_.2.2)]) (fun s_ w' => (w'.cell? ⟨gb226, 0, none⟩ = some (.int .i64 a1_0) ∧ w'.cell? ⟨gb226, 1, none⟩ = some (.string a1_1)) ∧ (Kd.R k86 86 w' w.heap.size (fun k_ => some k_ ≠ (s_.2.2 : Value).ownBlock ∧ k_ ≠ gb226) s_.2.1 y235) ∧ (Kd.R k86 86 w' w.heap.size (fun k_ => some k_ ≠ (s_.2.1 : Value).ownBlock ∧ k_ ≠ gb226) s_.2.2 y238) ∧ (w'.heap[gb226]? = some (.cells #[.int .i64 a1_0, .string a1_1] 86 (0, 0))) ∧ (Below w.heap.size w w')) ?_ ?_
      rotate_left
      ·intro hCont
       refine two_ (i := 0) (j := 4) (Ni := some 23) (Nj := some 27) #[true, true, false, true, false, false, false] #[false, true, false, true, true, false, false] rfl rfl rfl rfl (by kernel_rfl) (by decide) (by decide) (fun K hK => ?_) (fun K hK => ?_)
       ·skip
        refine Kd.R_lit_step k86 _ 86 ?hg (N := 23) ?hd (xs := ([] : List (S86))) (inner := []) (ok := fun _ => True) (okp := fun _ => True) ?hr ?hp (fun _ hk => hk) trivial (Below.refl _ _) (Nat.le_refl _) (by simp) ?_; (case hd => rfl); (case hg => rfl); (case hr => first | (go_simp; done) | (go_simp; rfl)); (case hp => exact (Reps.none _ _))
        intro v233 w22 ho23 hb hg_ hnew_
        clear hg_ hnew_
        (first | rw [← Ny232.out] at ho23 | (simp only [Int.reduceToNat] at ho23; rw [← Ny232.out] at ho23))
        have n0_ := Aside0.mk (Kd.R_lower (Kd.R_newB ho23 (g := gb226) (o := .cells #[.int .i64 a1_0, .string a1_1] 86 (0, 0)) (by (with_reducible repeat (first | refine blk_drewN ?_ _ | refine blk_drew ?_ | refine blk_alloc ?_ _)); exact BK226.out)) (below_size (by repeat (first | (with_reducible first | exact HB.out | apply below_alloc | apply pw_below_drewN | apply below_drew1 | refine below_set ?_ GE226.out) | exact HB.out))))
        have n1_ := Aside0.mk (blk_below (g := gb226) (o := .cells #[.int .i64 a1_0, .string a1_1] 86 (0, 0)) (by (with_reducible repeat (first | refine blk_drewN ?_ _ | refine blk_drew ?_ | refine blk_alloc ?_ _)); exact BK226.out) hb)
        have n2_ := Aside0.mk (below_step (by repeat (first | (with_reducible first | exact HB.out | apply below_alloc | apply pw_below_drewN | apply below_drew1 | refine below_set ?_ GE226.out) | exact HB.out)) hb)
        clear BK226
        clear HB
        have HO234 := n0_
        have BK226 := n1_
        have HB := n2_
        clear n0_ n1_ n2_
        clear hb ho23
        refine hK.out _ _ ⟨(blk_cell BK226.out 0).trans rfl, (blk_cell BK226.out 1).trans rfl⟩ (fun hHeld => ?_)
        clear hK K
        refine norm_ (a' := ?_) ?_ ?_
        rotate_left
        ·show Act.put _ (some 23) _ = _
         simp only [sp_]
         rfl
        refine two_ (i := 2) (j := 4) (Ni := some 25) (Nj := some 27) #[true, true, true, true, false, false, false] #[true, true, false, true, true, false, false] rfl rfl rfl rfl (by kernel_rfl) (by decide) (by decide) (fun K hK => ?_) (fun K hK => ?_)
        ·skip
         refine Kd.R_append_rows_step k86 (w0 := w) w.heap.size (by rfl) (.tmp 23) (.tmp 24) 26 86 (.agg #[(.int .i64 0), (.string ⟨#[]⟩)]) 24 rfl Try.underlying26 info86 rfl (by decide) (by omega) v233 y232 l0 _ _ _ (fun k_ => k_ ≠ gb226) (fun _ => False) rfl rfl ?aO ?aR (fun _ _ h => h) (fun _ h => h.elim) ?aF ?aB ?aS ?aL ?_
         (case aR => repeat (first | exact (Kd.C_below HR0.out HB.out) | (with_reducible refine Kd.C_alloc ?_ _) | (with_reducible refine Kd.C_drewN ?_ _) | (with_reducible refine Kd.C_drew ?_)))
         (case aB => exact (by repeat (first | (with_reducible first | exact HB.out | apply below_alloc | apply pw_below_drewN | apply below_drew1 | refine below_set ?_ GE226.out) | exact HB.out)))
         (case aF => exact (fun k_ hk => Kd.freshB (g := gb226) (o := .cells #[.int .i64 a1_0, .string a1_1] 86 (0, 0)) (by (with_reducible repeat (first | refine blk_drewN ?_ _ | refine blk_drew ?_ | refine blk_alloc ?_ _)); exact BK226.out) k_ hk))
         (case aO => exact (by (with_reducible repeat (first | apply Kd.R_alloc | apply Kd.R_drewN | apply Kd.R_drew)); exact Kd.R_mono HO234.out (fun _ hk => hk.2)))
         (case aS => exact (below_size (by repeat (first | (with_reducible first | exact HB.out | apply below_alloc | apply pw_below_drewN | apply below_drew1 | refine below_set ?_ GE226.out) | exact HB.out))))
         (case aL => have := LMc19.out; omega)
         intro v236 w24 ho hb hg hat
         rw [← Ny235.out] at ho
         have n0_ := Aside0.mk (blk_grown (g := gb226) (o := .cells #[.int .i64 a1_0, .string a1_1] 86 (0, 0)) (by (with_reducible repeat (first | refine blk_drewN ?_ _ | refine blk_drew ?_ | refine blk_alloc ?_ _)); exact BK226.out) hg (Kd.R_away HO234.out (fun _ hk => hk.2)))
         have n1_ := Aside0.mk (hb)
         have n2_ := Aside0.mk (ho)
         clear BK226
         clear HB
         clear HO234
         have BK226 := n0_
         have HB := n1_
         have HO237 := n2_
         clear n0_ n1_ n2_
         clear ho hb hg hat
         refine hK.out _ _ ⟨(blk_cell BK226.out 0).trans rfl, (blk_cell BK226.out 1).trans rfl⟩ (fun hHeld => ?_)
         clear hK K
         refine norm_ (a' := ?_) ?_ ?_
         rotate_left
         ·show Act.put _ (some 25) _ = _
          simp only [sp_]
          rfl
         refine one_ (i := 4) (N := some 27) #[true, true, true, true, true, false, false] rfl rfl (by kernel_rfl) (by decide) (fun K hK => ?_)
         refine Kd.R_lit_step k86 _ 86 ?hg (N := 27) ?hd (xs := ([(⟨a1_0, a1_1⟩ : S86)] : List (S86))) (inner := [.int .i64 a1_0, .string a1_1]) (ok := fun _ => True) (okp := fun _ => True) ?hr ?hp (fun _ hk => hk) trivial (Below.refl _ _) (Nat.le_refl _) (by simp) ?_; (case hd => rfl); (case hg => rfl); (case hr => first | (go_simp; done) | (go_simp; rfl)); (case hp => exact (Reps.c2 (show Kd.M k86 _ _ _ (⟨a1_0, a1_1⟩ : S86) [.int .i64 a1_0, .string a1_1] from (k86_mkM _ _ _ (⟨a1_0, a1_1⟩ : S86) )) (Reps.none _ _)))
         intro v239 w25 ho26 hb hg_ hnew_
         clear hg_ hnew_
         (first | rw [← Ny238.out] at ho26 | (simp only [Int.reduceToNat] at ho26; rw [← Ny238.out] at ho26))
         have n0_ := Aside0.mk (Kd.R_elder' (by (with_reducible repeat (first | apply Kd.R_alloc | apply Kd.R_drewN | apply Kd.R_drew)); exact HO237.out) (Kd.R_base ho26) hb)
         have n1_ := Aside0.mk (Kd.R_lower (Kd.R_newB (Kd.R_new' ho26 (Kd.R_lt (by (with_reducible repeat (first | apply Kd.R_alloc | apply Kd.R_drewN | apply Kd.R_drew)); exact HO237.out))) (g := gb226) (o := .cells #[.int .i64 a1_0, .string a1_1] 86 (0, 0)) (by (with_reducible repeat (first | refine blk_drewN ?_ _ | refine blk_drew ?_ | refine blk_alloc ?_ _)); exact BK226.out)) (below_size (by repeat (first | (with_reducible first | exact HB.out | apply below_alloc | apply pw_below_drewN | apply below_drew1 | refine below_set ?_ GE226.out) | exact HB.out))))
         have n2_ := Aside0.mk (blk_below (g := gb226) (o := .cells #[.int .i64 a1_0, .string a1_1] 86 (0, 0)) (by (with_reducible repeat (first | refine blk_drewN ?_ _ | refine blk_drew ?_ | refine blk_alloc ?_ _)); exact BK226.out) hb)
         have n3_ := Aside0.mk (below_step (by repeat (first | (with_reducible first | exact HB.out | apply below_alloc | apply pw_below_drewN | apply below_drew1 | refine below_set ?_ GE226.out) | exact HB.out)) hb)
         clear HO237
         clear BK226
         clear HB
         have HO237 := n0_
         have HO240 := n1_
         have BK226 := n2_
         have HB := n3_
         clear n0_ n1_ n2_ n3_
         clear hb ho26
         refine hK.out _ _ ⟨(blk_cell BK226.out 0).trans rfl, (blk_cell BK226.out 1).trans rfl⟩ (fun hHeld => ?_)
         clear hK K
         refine norm_ (a' := ?_) ?_ ?_
         rotate_left
         ·show Act.put _ (some 27) _ = _
          simp only [sp_]
          rfl
         exact norm_ (by simp only [putAll, Act.put, List.setIfInBounds_toArray, List.set_cons_zero, List.set_cons_succ]) (hCont (v233, v236, v239) _ ⟨hHeld, (by (with_reducible repeat (first | apply Kd.R_alloc | apply Kd.R_drewN | apply Kd.R_drew)); exact Kd.R_mono HO237.out (fun _ hk => And.intro hk.2 hk.1)), (by (with_reducible repeat (first | apply Kd.R_alloc | apply Kd.R_drewN | apply Kd.R_drew)); exact Kd.R_mono HO240.out (fun _ hk => And.intro hk.1.2 hk.2)), (by (with_reducible repeat (first | refine blk_drewN ?_ _ | refine blk_drew ?_ | refine blk_alloc ?_ _)); exact BK226.out), (by repeat (first | (with_reducible first | exact HB.out | apply below_alloc | apply pw_below_drewN | apply below_drew1 | refine below_set ?_ GE226.out) | exact HB.out))⟩)
        ·skip
         refine Kd.R_lit_step k86 _ 86 ?hg (N := 27) ?hd (xs := ([(⟨a1_0, a1_1⟩ : S86)] : List (S86))) (inner := [.int .i64 a1_0, .string a1_1]) (ok := fun _ => True) (okp := fun _ => True) ?hr ?hp (fun _ hk => hk) trivial (Below.refl _ _) (Nat.le_refl _) (by simp) ?_; (case hd => rfl); (case hg => rfl); (case hr => first | (go_simp; done) | (go_simp; rfl)); (case hp => exact (Reps.c2 (show Kd.M k86 _ _ _ (⟨a1_0, a1_1⟩ : S86) [.int .i64 a1_0, .string a1_1] from (k86_mkM _ _ _ (⟨a1_0, a1_1⟩ : S86) )) (Reps.none _ _)))
         intro v239 w24 ho25 hb hg_ hnew_
         clear hg_ hnew_
         (first | rw [← Ny238.out] at ho25 | (simp only [Int.reduceToNat] at ho25; rw [← Ny238.out] at ho25))
         have n0_ := Aside0.mk (Kd.R_elder' (by (with_reducible repeat (first | apply Kd.R_alloc | apply Kd.R_drewN | apply Kd.R_drew)); exact HO234.out) (Kd.R_base ho25) hb)
         have n1_ := Aside0.mk (Kd.R_lower (Kd.R_newB (Kd.R_new' ho25 (Kd.R_lt (by (with_reducible repeat (first | apply Kd.R_alloc | apply Kd.R_drewN | apply Kd.R_drew)); exact HO234.out))) (g := gb226) (o := .cells #[.int .i64 a1_0, .string a1_1] 86 (0, 0)) (by (with_reducible repeat (first | refine blk_drewN ?_ _ | refine blk_drew ?_ | refine blk_alloc ?_ _)); exact BK226.out)) (below_size (by repeat (first | (with_reducible first | exact HB.out | apply below_alloc | apply pw_below_drewN | apply below_drew1 | refine below_set ?_ GE226.out) | exact HB.out))))
         have n2_ := Aside0.mk (blk_below (g := gb226) (o := .cells #[.int .i64 a1_0, .string a1_1] 86 (0, 0)) (by (with_reducible repeat (first | refine blk_drewN ?_ _ | refine blk_drew ?_ | refine blk_alloc ?_ _)); exact BK226.out) hb)
         have n3_ := Aside0.mk (below_step (by repeat (first | (with_reducible first | exact HB.out | apply below_alloc | apply pw_below_drewN | apply below_drew1 | refine below_set ?_ GE226.out) | exact HB.out)) hb)
         clear HO234
         clear BK226
         clear HB
         have HO234 := n0_
         have HO240 := n1_
         have BK226 := n2_
         have HB := n3_
         clear n0_ n1_ n2_ n3_
         clear hb ho25
         refine hK.out _ _ ⟨(blk_cell BK226.out 0).trans rfl, (blk_cell BK226.out 1).trans rfl⟩ (fun hHeld => ?_)
         clear hK K
         refine norm_ (a' := ?_) ?_ ?_
         rotate_left
         ·show Act.put _ (some 27) _ = _
          simp only [sp_]
          rfl
         refine one_ (i := 2) (N := some 25) #[true, true, true, true, true, false, false] rfl rfl (by kernel_rfl) (by decide) (fun K hK => ?_)
         refine Kd.R_append_rows_step k86 (w0 := w) w.heap.size (by rfl) (.tmp 23) (.tmp 24) 26 86 (.agg #[(.int .i64 0), (.string ⟨#[]⟩)]) 24 rfl Try.underlying26 info86 rfl (by decide) (by omega) v233 y232 l0 _ _ _ (fun k_ => some k_ ≠ (v239 : Value).ownBlock ∧ k_ ≠ gb226) (fun _ => False) rfl rfl ?aO ?aR (fun _ _ h => h) (fun _ h => h.elim) ?aF ?aB ?aS ?aL ?_
         (case aR => repeat (first | exact (Kd.C_below HR0.out HB.out) | (with_reducible refine Kd.C_alloc ?_ _) | (with_reducible refine Kd.C_drewN ?_ _) | (with_reducible refine Kd.C_drew ?_)))
         (case aB => exact (by repeat (first | (with_reducible first | exact HB.out | apply below_alloc | apply pw_below_drewN | apply below_drew1 | refine below_set ?_ GE226.out) | exact HB.out)))
         (case aF => exact (fun k_ hk => ⟨Kd.fresh' (Kd.R_lt (by (with_reducible repeat (first | apply Kd.R_alloc | apply Kd.R_drewN | apply Kd.R_drew)); exact HO240.out)) k_ hk, Kd.freshB (g := gb226) (o := .cells #[.int .i64 a1_0, .string a1_1] 86 (0, 0)) (by (with_reducible repeat (first | refine blk_drewN ?_ _ | refine blk_drew ?_ | refine blk_alloc ?_ _)); exact BK226.out) k_ hk⟩))
         (case aO => exact (by (with_reducible repeat (first | apply Kd.R_alloc | apply Kd.R_drewN | apply Kd.R_drew)); exact Kd.R_mono HO234.out (fun _ hk => And.intro hk.2 hk.1.2)))
         (case aS => exact (below_size (by repeat (first | (with_reducible first | exact HB.out | apply below_alloc | apply pw_below_drewN | apply below_drew1 | refine below_set ?_ GE226.out) | exact HB.out))))
         (case aL => have := LMc19.out; omega)
         intro v236 w26 ho hb hg hat
         rw [← Ny235.out] at ho
         have n0_ := Aside0.mk (blk_grown (g := gb226) (o := .cells #[.int .i64 a1_0, .string a1_1] 86 (0, 0)) (by (with_reducible repeat (first | refine blk_drewN ?_ _ | refine blk_drew ?_ | refine blk_alloc ?_ _)); exact BK226.out) hg (Kd.R_away HO234.out (fun _ hk => hk.1.2)))
         have n1_ := Aside0.mk (Kd.R_after (ok := (fun k_ => k_ ≠ gb226)) (by (with_reducible repeat (first | apply Kd.R_alloc | apply Kd.R_drewN | apply Kd.R_drew)); exact Kd.R_mono HO240.out (fun _ hk => And.intro hk.2 hk.1.2)) hg hat)
         have n2_ := Aside0.mk (hb)
         have n3_ := Aside0.mk (ho)
         clear BK226
         clear HO240
         clear HB
         clear HO234
         have BK226 := n0_
         have HO240 := n1_
         have HB := n2_
         have HO237 := n3_
         clear n0_ n1_ n2_ n3_
         clear ho hb hg hat
         refine hK.out _ _ ⟨(blk_cell BK226.out 0).trans rfl, (blk_cell BK226.out 1).trans rfl⟩ (fun hHeld => ?_)
         clear hK K
         refine norm_ (a' := ?_) ?_ ?_
         rotate_left
         ·show Act.put _ (some 25) _ = _
          simp only [sp_]
          rfl
         exact norm_ (by simp only [putAll, Act.put, List.setIfInBounds_toArray, List.set_cons_zero, List.set_cons_succ]) (hCont (v233, v236, v239) _ ⟨hHeld, (by (with_reducible repeat (first | apply Kd.R_alloc | apply Kd.R_drewN | apply Kd.R_drew)); exact HO237.out), (by (with_reducible repeat (first | apply Kd.R_alloc | apply Kd.R_drewN | apply Kd.R_drew)); exact Kd.R_mono HO240.out (fun _ hk => And.intro hk.2 hk.1)), (by (with_reducible repeat (first | refine blk_drewN ?_ _ | refine blk_drew ?_ | refine blk_alloc ?_ _)); exact BK226.out), (by repeat (first | (with_reducible first | exact HB.out | apply below_alloc | apply pw_below_drewN | apply below_drew1 | refine below_set ?_ GE226.out) | exact HB.out))⟩)
       ·skip
        refine Kd.R_lit_step k86 _ 86 ?hg (N := 27) ?hd (xs := ([(⟨a1_0, a1_1⟩ : S86)] : List (S86))) (inner := [.int .i64 a1_0, .string a1_1]) (ok := fun _ => True) (okp := fun _ => True) ?hr ?hp (fun _ hk => hk) trivial (Below.refl _ _) (Nat.le_refl _) (by simp) ?_; (case hd => rfl); (case hg => rfl); (case hr => first | (go_simp; done) | (go_simp; rfl)); (case hp => exact (Reps.c2 (show Kd.M k86 _ _ _ (⟨a1_0, a1_1⟩ : S86) [.int .i64 a1_0, .string a1_1] from (k86_mkM _ _ _ (⟨a1_0, a1_1⟩ : S86) )) (Reps.none _ _)))
        intro v239 w22 ho23 hb hg_ hnew_
        clear hg_ hnew_
        (first | rw [← Ny238.out] at ho23 | (simp only [Int.reduceToNat] at ho23; rw [← Ny238.out] at ho23))
        have n0_ := Aside0.mk (Kd.R_lower (Kd.R_newB ho23 (g := gb226) (o := .cells #[.int .i64 a1_0, .string a1_1] 86 (0, 0)) (by (with_reducible repeat (first | refine blk_drewN ?_ _ | refine blk_drew ?_ | refine blk_alloc ?_ _)); exact BK226.out)) (below_size (by repeat (first | (with_reducible first | exact HB.out | apply below_alloc | apply pw_below_drewN | apply below_drew1 | refine below_set ?_ GE226.out) | exact HB.out))))
        have n1_ := Aside0.mk (blk_below (g := gb226) (o := .cells #[.int .i64 a1_0, .string a1_1] 86 (0, 0)) (by (with_reducible repeat (first | refine blk_drewN ?_ _ | refine blk_drew ?_ | refine blk_alloc ?_ _)); exact BK226.out) hb)
        have n2_ := Aside0.mk (below_step (by repeat (first | (with_reducible first | exact HB.out | apply below_alloc | apply pw_below_drewN | apply below_drew1 | refine below_set ?_ GE226.out) | exact HB.out)) hb)
        clear BK226
        clear HB
        have HO240 := n0_
        have BK226 := n1_
        have HB := n2_
        clear n0_ n1_ n2_
        clear hb ho23
        refine hK.out _ _ ⟨(blk_cell BK226.out 0).trans rfl, (blk_cell BK226.out 1).trans rfl⟩ (fun hHeld => ?_)
        clear hK K
        refine norm_ (a' := ?_) ?_ ?_
        rotate_left
        ·show Act.put _ (some 27) _ = _
         simp only [sp_]
         rfl
        refine one_ (i := 0) (N := some 23) #[true, true, false, true, true, false, false] rfl rfl (by kernel_rfl) (by decide) (fun K hK => ?_)
        refine Kd.R_lit_step k86 _ 86 ?hg (N := 23) ?hd (xs := ([] : List (S86))) (inner := []) (ok := fun _ => True) (okp := fun _ => True) ?hr ?hp (fun _ hk => hk) trivial (Below.refl _ _) (Nat.le_refl _) (by simp) ?_; (case hd => rfl); (case hg => rfl); (case hr => first | (go_simp; done) | (go_simp; rfl)); (case hp => exact (Reps.none _ _))
        intro v233 w24 ho25 hb hg_ hnew_
        clear hg_ hnew_
        (first | rw [← Ny232.out] at ho25 | (simp only [Int.reduceToNat] at ho25; rw [← Ny232.out] at ho25))
        have n0_ := Aside0.mk (Kd.R_elder' (by (with_reducible repeat (first | apply Kd.R_alloc | apply Kd.R_drewN | apply Kd.R_drew)); exact HO240.out) (Kd.R_base ho25) hb)
        have n1_ := Aside0.mk (Kd.R_lower (Kd.R_newB (Kd.R_new' ho25 (Kd.R_lt (by (with_reducible repeat (first | apply Kd.R_alloc | apply Kd.R_drewN | apply Kd.R_drew)); exact HO240.out))) (g := gb226) (o := .cells #[.int .i64 a1_0, .string a1_1] 86 (0, 0)) (by (with_reducible repeat (first | refine blk_drewN ?_ _ | refine blk_drew ?_ | refine blk_alloc ?_ _)); exact BK226.out)) (below_size (by repeat (first | (with_reducible first | exact HB.out | apply below_alloc | apply pw_below_drewN | apply below_drew1 | refine below_set ?_ GE226.out) | exact HB.out))))
        have n2_ := Aside0.mk (blk_below (g := gb226) (o := .cells #[.int .i64 a1_0, .string a1_1] 86 (0, 0)) (by (with_reducible repeat (first | refine blk_drewN ?_ _ | refine blk_drew ?_ | refine blk_alloc ?_ _)); exact BK226.out) hb)
        have n3_ := Aside0.mk (below_step (by repeat (first | (with_reducible first | exact HB.out | apply below_alloc | apply pw_below_drewN | apply below_drew1 | refine below_set ?_ GE226.out) | exact HB.out)) hb)
        clear HO240
        clear BK226
        clear HB
        have HO240 := n0_
        have HO234 := n1_
        have BK226 := n2_
        have HB := n3_
        clear n0_ n1_ n2_ n3_
        clear hb ho25
        refine hK.out _ _ ⟨(blk_cell BK226.out 0).trans rfl, (blk_cell BK226.out 1).trans rfl⟩ (fun hHeld => ?_)
        clear hK K
        refine norm_ (a' := ?_) ?_ ?_
        rotate_left
        ·show Act.put _ (some 23) _ = _
         simp only [sp_]
         rfl
        refine one_ (i := 2) (N := some 25) #[true, true, true, true, true, false, false] rfl rfl (by kernel_rfl) (by decide) (fun K hK => ?_)
        refine Kd.R_append_rows_step k86 (w0 := w) w.heap.size (by rfl) (.tmp 23) (.tmp 24) 26 86 (.agg #[(.int .i64 0), (.string ⟨#[]⟩)]) 24 rfl Try.underlying26 info86 rfl (by decide) (by omega) v233 y232 l0 _ _ _ (fun k_ => some k_ ≠ (v239 : Value).ownBlock ∧ k_ ≠ gb226) (fun _ => False) rfl rfl ?aO ?aR (fun _ _ h => h) (fun _ h => h.elim) ?aF ?aB ?aS ?aL ?_
        (case aR => repeat (first | exact (Kd.C_below HR0.out HB.out) | (with_reducible refine Kd.C_alloc ?_ _) | (with_reducible refine Kd.C_drewN ?_ _) | (with_reducible refine Kd.C_drew ?_)))
        (case aB => exact (by repeat (first | (with_reducible first | exact HB.out | apply below_alloc | apply pw_below_drewN | apply below_drew1 | refine below_set ?_ GE226.out) | exact HB.out)))
        (case aF => exact (fun k_ hk => ⟨Kd.fresh' (Kd.R_lt (by (with_reducible repeat (first | apply Kd.R_alloc | apply Kd.R_drewN | apply Kd.R_drew)); exact HO240.out)) k_ hk, Kd.freshB (g := gb226) (o := .cells #[.int .i64 a1_0, .string a1_1] 86 (0, 0)) (by (with_reducible repeat (first | refine blk_drewN ?_ _ | refine blk_drew ?_ | refine blk_alloc ?_ _)); exact BK226.out) k_ hk⟩))
        (case aO => exact (by (with_reducible repeat (first | apply Kd.R_alloc | apply Kd.R_drewN | apply Kd.R_drew)); exact Kd.R_mono HO234.out (fun _ hk => And.intro hk.1.2 hk.2)))
        (case aS => exact (below_size (by repeat (first | (with_reducible first | exact HB.out | apply below_alloc | apply pw_below_drewN | apply below_drew1 | refine below_set ?_ GE226.out) | exact HB.out))))
        (case aL => have := LMc19.out; omega)
        intro v236 w26 ho hb hg hat
        rw [← Ny235.out] at ho
        have n0_ := Aside0.mk (blk_grown (g := gb226) (o := .cells #[.int .i64 a1_0, .string a1_1] 86 (0, 0)) (by (with_reducible repeat (first | refine blk_drewN ?_ _ | refine blk_drew ?_ | refine blk_alloc ?_ _)); exact BK226.out) hg (Kd.R_away HO234.out (fun _ hk => hk.2)))
        have n1_ := Aside0.mk (Kd.R_after (ok := (fun k_ => k_ ≠ gb226)) (by (with_reducible repeat (first | apply Kd.R_alloc | apply Kd.R_drewN | apply Kd.R_drew)); exact Kd.R_mono HO240.out (fun _ hk => And.intro hk.1.2 hk.2)) hg hat)
        have n2_ := Aside0.mk (hb)
        have n3_ := Aside0.mk (ho)
        clear BK226
        clear HO240
        clear HB
        clear HO234
        have BK226 := n0_
        have HO240 := n1_
        have HB := n2_
        have HO237 := n3_
        clear n0_ n1_ n2_ n3_
        clear ho hb hg hat
        refine hK.out _ _ ⟨(blk_cell BK226.out 0).trans rfl, (blk_cell BK226.out 1).trans rfl⟩ (fun hHeld => ?_)
        clear hK K
        refine norm_ (a' := ?_) ?_ ?_
        rotate_left
        ·show Act.put _ (some 25) _ = _
         simp only [sp_]
         rfl
        exact norm_ (by simp only [putAll, Act.put, List.setIfInBounds_toArray, List.set_cons_zero, List.set_cons_succ]) (hCont (v233, v236, v239) _ ⟨hHeld, (by (with_reducible repeat (first | apply Kd.R_alloc | apply Kd.R_drewN | apply Kd.R_drew)); exact HO237.out), (by (with_reducible repeat (first | apply Kd.R_alloc | apply Kd.R_drewN | apply Kd.R_drew)); exact Kd.R_mono HO240.out (fun _ hk => And.intro hk.2 hk.1)), (by (with_reducible repeat (first | refine blk_drewN ?_ _ | refine blk_drew ?_ | refine blk_alloc ?_ _)); exact BK226.out), (by repeat (first | (with_reducible first | exact HB.out | apply below_alloc | apply pw_below_drewN | apply below_drew1 | refine below_set ?_ GE226.out) | exact HB.out))⟩)
      rintro ⟨v233, v236, v239⟩ w27 ⟨hS_, h0_, h1_, h2_, h3_⟩
      have n0_ : Aside0 (Kd.R k86 86 w27 w.heap.size (fun k_ => some k_ ≠ (v239 : Value).ownBlock ∧ k_ ≠ gb226) v236 y235) := ⟨h0_⟩
      have n1_ : Aside0 (Kd.R k86 86 w27 w.heap.size (fun k_ => some k_ ≠ (v236 : Value).ownBlock ∧ k_ ≠ gb226) v239 y238) := ⟨h1_⟩
      have n2_ : Aside0 (w27.heap[gb226]? = some (.cells #[.int .i64 a1_0, .string a1_1] 86 (0, 0))) := ⟨h2_⟩
      have n3_ : Aside0 (Below w.heap.size w w27) := ⟨h3_⟩
      clear BK226
      clear HB
      clear h0_ h1_ h2_ h3_
      have HO237 := n0_
      have HO240 := n1_
      have BK226 := n2_
      have HB := n3_
      clear n0_ n1_ n2_ n3_
      have hHeld : w27.cell? ⟨gb226, 0, none⟩ = some (.int .i64 a1_0) ∧ w27.cell? ⟨gb226, 1, none⟩ = some (.string a1_1) := hS_
      obtain ⟨Ao29, co29, eo29⟩ := Kd.R_slice HO240.out
      (first | subst eo29 | (injection eo29 with f1_ f2_ f3_; have f4_ := f1_.symm; have f5_ := f3_.symm; clear f1_ f2_ f3_; subst f4_; subst f5_))
      refine norm_ (a' := ?_) ?_ ?_
      rotate_left
      ·simp only [putAll, Act.put, List.setIfInBounds_toArray, List.set_cons_zero, List.set_cons_succ]
       rfl
      refine one_ (i := 5) (N := some 28) #[true, true, true, true, true, true, false] rfl rfl (by kernel_rfl) (by decide) (fun K hK => ?_)
      refine Kd.R_append_rows_step k86 (w0 := w) w.heap.size (by rfl) (.tmp 25) (.tmp 27) 26 86 (.agg #[(.int .i64 0), (.string ⟨#[]⟩)]) 24 rfl Try.underlying26 info86 rfl (by decide) (by omega) v236 y235 y238 _ _ _ (fun k_ => some k_ ≠ (.slice Ao29 y238.length co29 : Value).ownBlock ∧ k_ ≠ gb226) (fun _ => False) rfl rfl ?aO ?aR (fun _ _ h => h) (fun _ h => h.elim) ?aF ?aB ?aS ?aL ?_
      (case aR => repeat (first | exact (Kd.R_reads' HO240.out).2.2 | (with_reducible refine Kd.C_alloc ?_ _) | (with_reducible refine Kd.C_drewN ?_ _) | (with_reducible refine Kd.C_drew ?_)))
      (case aB => exact (by repeat (first | (with_reducible first | exact HB.out | apply below_alloc | apply pw_below_drewN | apply below_drew1 | refine below_set ?_ GE226.out) | exact HB.out)))
      (case aF => exact (fun k_ hk => ⟨Kd.fresh' (Kd.R_lt (by (with_reducible repeat (first | apply Kd.R_alloc | apply Kd.R_drewN | apply Kd.R_drew)); exact HO240.out)) k_ hk, Kd.freshB (g := gb226) (o := .cells #[.int .i64 a1_0, .string a1_1] 86 (0, 0)) (by (with_reducible repeat (first | refine blk_drewN ?_ _ | refine blk_drew ?_ | refine blk_alloc ?_ _)); exact BK226.out) k_ hk⟩))
      (case aO => exact (by (with_reducible repeat (first | apply Kd.R_alloc | apply Kd.R_drewN | apply Kd.R_drew)); exact HO237.out))
      (case aS => exact (below_size (by repeat (first | (with_reducible first | exact HB.out | apply below_alloc | apply pw_below_drewN | apply below_drew1 | refine below_set ?_ GE226.out) | exact HB.out))))
      (case aL => have := LMc20.out; omega)
      intro v242 w28 ho hb hg hat
      rw [← Ny241.out] at ho
      have n0_ := Aside0.mk (blk_grown (g := gb226) (o := .cells #[.int .i64 a1_0, .string a1_1] 86 (0, 0)) (by (with_reducible repeat (first | refine blk_drewN ?_ _ | refine blk_drew ?_ | refine blk_alloc ?_ _)); exact BK226.out) hg (Kd.R_away HO237.out (fun _ hk => hk.2)))
      have n1_ := Aside0.mk (Kd.R_after (ok := (fun k_ => k_ ≠ gb226)) (by (with_reducible repeat (first | apply Kd.R_alloc | apply Kd.R_drewN | apply Kd.R_drew)); exact Kd.R_mono HO240.out (fun _ hk => And.intro hk.2 hk.1)) hg hat)
      have n2_ := Aside0.mk (hb)
      have n3_ := Aside0.mk (ho)
      clear BK226
      clear HO240
      clear HB
      clear HO237
      have BK226 := n0_
      have HO240 := n1_
      have HB := n2_
      have HO243 := n3_
      clear n0_ n1_ n2_ n3_
      clear ho hb hg hat
      refine hK.out _ _ ⟨(blk_cell BK226.out 0).trans rfl, (blk_cell BK226.out 1).trans rfl⟩ (fun hHeld => ?_)
      clear hK K
      refine norm_ (a' := ?_) ?_ ?_
      rotate_left
      ·show Act.put _ (some 28) _ = _
       simp only [sp_]
       rfl
      refine pure_ (i := 6) (N := some 6) (v := ?_) (a' := ?_) #[true, true, true, true, true, true, true] rfl rfl (by kernel_rfl) (fun _ _ _ h => h) (Or.inl ⟨by rfl, ?_⟩) ?_ ?_
      rotate_left
      ·intro w'
       go_simp
       with_reducible rfl
      rotate_left
      ·simp only [sp_]
       rfl
      refine done_ (by kernel_rfl) ?_
      try go_wp2
      go_loopg [7] kj2 (fun kq v7 w' => ∃ (x6_2 : List (S86)) (x7_2 : Int) (x227000_2 : Int) (x227001_2 : ByteArray), v7 = .int .i64 x7_2 ∧ Aside0 (spec_Offered.l0 kq x6_2 x7_2 x227000_2 x227001_2 = some (r1, r2)) ∧ Aside0 (kq ≤ kj2) ∧ Aside0 (Kd.R k86 86 w' w.heap.size (fun k_ => k_ ≠ gb226) v242 x6_2) ∧ Aside0 (w'.heap[gb226]? = some (.cells #[.int .i64 x227000_2, .string x227001_2] 86 (0, 0))) ∧ Aside0 (Below w.heap.size w w'))
      case atStart => exact ⟨(y241), ((l0.length : Int)), (a1_0), (a1_1), (by first | rfl | (simp; done) | (simp [*]; done)), H', ⟨Nat.le_refl _⟩, ⟨by (with_reducible repeat (first | apply Kd.R_alloc | apply Kd.R_drewN | apply Kd.R_drew)); exact Kd.R_mono HO243.out (fun _ hk => hk.2)⟩, ⟨by (with_reducible repeat (first | refine blk_drewN ?_ _ | refine blk_drew ?_ | refine blk_alloc ?_ _)); exact BK226.out⟩, ⟨by repeat (first | (with_reducible first | exact HB.out | apply below_alloc | apply pw_below_drewN | apply below_drew1 | refine below_set ?_ GE226.out) | exact HB.out)⟩⟩
      case round =>
       clear H'
       try clear c1
       try clear c2
       try clear p2
       try clear c6
       try clear c8
       try clear c16
       try clear c19
       try clear c20
       try clear hcz10_0
       try clear hcz10_1
       try clear hcz13_0
       try clear hcz13_1
       try clear hfz10_0
       try clear hfz10_1
       try clear hfz13_0
       try clear hfz13_1
       try clear p2
       obtain ⟨x6_2, x7_2, x227000_2, x227001_2, rfl, HA, HK2, HO_6, BK226, HB⟩ := hrel
       cases gk with
       | zero => exact absurd HA.out (by simp [spec_Offered.l0])
       | succ k2 =>
        have H := HA.out
        clear HA
        simp only [spec_Offered.l0] at H
        by_cases c30 : x7_2 > 0
        ·rw [if_pos c30] at H
         have c30b0 : decide (0 < x7_2) = true := decide_eq_true c30
         clear c30
         obtain ⟨ji31, hji31⟩ : ∃ j_ : Int, (wrap64 (Int.tdiv (wrap64 (x7_2 - 1)) 2)) = j_ := ⟨_, rfl⟩
         replace H : (if 0 ≤ (ji31) then (if (ji31) < (x6_2.length : Int) then ((spec_l14Ahead.f x227000_2 x227001_2 ((rd_T86 x6_2 (ji31)).f0) ((rd_T86 x6_2 (ji31)).f1)).bind fun t245 => (if t245 = true then (if 0 ≤ x7_2 then (if x7_2 < (x6_2.length : Int) then (spec_Offered.l0 k2 ((x6_2.set (x7_2 : Int).toNat (⟨(rd_T86 x6_2 (ji31)).f0, (rd_T86 x6_2 (ji31)).f1⟩ : S86)).set ((ji31) : Int).toNat (⟨x227000_2, x227001_2⟩ : S86)) ji31 x227000_2 x227001_2) else (none)) else (none)) else (some (x6_2, true)))) else (none)) else (none)) = some (r1, r2) := by first | (rw [hji31] at H; exact H) | (simp only [hji31] at H ⊢; exact H)
         have hji31w : (IntKind.i64.wrap (Int.tdiv (wrap64 (x7_2 - 1)) 2)) = ji31 := (i64_w _).trans hji31
         by_cases c32 : 0 ≤ (ji31)
         ·rw [if_pos c32] at H
          have c32b0 : decide (0 ≤ (ji31)) = true := decide_eq_true c32
          clear c32
          by_cases c33 : (ji31) < (x6_2.length : Int)
          ·rw [if_pos c33] at H
           have c33b0 : decide ((ji31) < (x6_2.length : Int)) = true := decide_eq_true c33
           clear c33
           replace H := Option.bind_eq_some_iff.mp H
           obtain ⟨t245, A340, H⟩ := H
           replace H : (if t245 = true then (if 0 ≤ x7_2 then (if x7_2 < (x6_2.length : Int) then (spec_Offered.l0 k2 ((x6_2.set (x7_2 : Int).toNat (⟨(rd_T86 x6_2 (ji31)).f0, (rd_T86 x6_2 (ji31)).f1⟩ : S86)).set ((ji31) : Int).toNat (⟨x227000_2, x227001_2⟩ : S86)) ji31 x227000_2 x227001_2) else (none)) else (none)) else (some (x6_2, true))) = some (r1, r2) := H
           have A34 := Aside0.mk A340
           clear A340
           by_cases c35 : t245 = true
           ·subst c35
            have H1 : (if 0 ≤ x7_2 then (if x7_2 < (x6_2.length : Int) then (spec_Offered.l0 k2 ((x6_2.set (x7_2 : Int).toNat (⟨(rd_T86 x6_2 (ji31)).f0, (rd_T86 x6_2 (ji31)).f1⟩ : S86)).set ((ji31) : Int).toNat (⟨x227000_2, x227001_2⟩ : S86)) ji31 x227000_2 x227001_2) else (none)) else (none)) = some (r1, r2) := by rw [if_pos rfl] at H; exact H
            clear H
            have H := H1
            clear H1
            by_cases c36 : 0 ≤ x7_2
            ·rw [if_pos c36] at H
             have c36b0 : decide (0 ≤ x7_2) = true := decide_eq_true c36
             clear c36
             by_cases c37 : x7_2 < (x6_2.length : Int)
             ·rw [if_pos c37] at H
              have c37b0 : decide (x7_2 < (x6_2.length : Int)) = true := decide_eq_true c37
              clear c37
              obtain ⟨y247, hy247⟩ : ∃ y_ : List (S86), y_ = (x6_2.set (x7_2 : Int).toNat (⟨(rd_T86 x6_2 (ji31)).f0, (rd_T86 x6_2 (ji31)).f1⟩ : S86)) := ⟨_, rfl⟩
              replace H : (spec_Offered.l0 k2 (y247.set ((ji31) : Int).toNat (⟨x227000_2, x227001_2⟩ : S86)) ji31 x227000_2 x227001_2) = some (r1, r2) := by first | (rw [hy247]; with_reducible exact H) | (have H2_ := (Option.bind_some _ _).symm.trans H; rw [hy247]; with_reducible exact H2_) | (have H2_ := (Option.bind_some _ _).symm.trans H; with_reducible exact H2_) | with_reducible exact H | (rw [hy247]; exact H) | exact H
              have Ny247 := Aside0.mk hy247
              clear hy247
              obtain ⟨y248, hy248⟩ : ∃ y_ : List (S86), y_ = (y247.set ((ji31) : Int).toNat (⟨x227000_2, x227001_2⟩ : S86)) := ⟨_, rfl⟩
              replace H : (spec_Offered.l0 k2 y248 ji31 x227000_2 x227001_2) = some (r1, r2) := by first | (rw [hy248]; with_reducible exact H) | (have H2_ := (Option.bind_some _ _).symm.trans H; rw [hy248]; with_reducible exact H2_) | (have H2_ := (Option.bind_some _ _).symm.trans H; with_reducible exact H2_) | with_reducible exact H | (rw [hy248]; exact H) | exact H
              have Ny248 := Aside0.mk hy248
              clear hy248
              have H' := Aside0.mk H
              clear H
              try go_wp2
              have n0_ := Aside0.mk (Kd.R_drew HO_6.out)
              have n1_ := Aside0.mk (blk_drew BK226.out)
              have n2_ := Aside0.mk (below_drew1 HB.out)
              clear HO_6
              clear BK226
              clear HB
              have HO_6 := n0_
              have BK226 := n1_
              have HB := n2_
              clear n0_ n1_ n2_
              obtain ⟨Ao41, co41, eo41⟩ := Kd.R_slice HO_6.out
              (first | subst eo41 | (injection eo41 with f1_ f2_ f3_; have f4_ := f1_.symm; have f5_ := f3_.symm; clear f1_ f2_ f3_; subst f4_; subst f5_))
              have p244 : 0 ≤ ((ji31) : Int) := of_decide_eq_true (by first | (with_reducible assumption) | assumption)
              have q244 : (ji31) < (x6_2.length : Int) := of_decide_eq_true (by first | (with_reducible assumption) | assumption)
              obtain ⟨ad244, e244, hx244_0, hx244_1⟩ := at_T86 (Kd.R_reads' HO_6.out).2.2 (ji31) p244 q244
              cases e244
              replace p244 := eq_true p244
              replace q244 := eq_true q244
              refine start_ (n := 12) (S := fun w' => w'.cell? ⟨gb226, 0, none⟩ = some (.int .i64 x227000_2) ∧ w'.cell? ⟨gb226, 1, none⟩ = some (.string x227001_2) ∧ w'.cell? (ad244.add (((ji31)).toNat * 2)) = some (.int .i64 ((rd_T86 x6_2 (ji31)).f0)) ∧ w'.cell? ⟨(ad244.add (((ji31)).toNat * 2)).block, (ad244.add (((ji31)).toNat * 2)).off + 1, none⟩ = some (.string ((rd_T86 x6_2 (ji31)).f1))) (ds := []) (bA 12 0) (by kernel_rfl) rfl rfl ⟨(blk_cell BK226.out 0).trans rfl, (blk_cell BK226.out 1).trans rfl, hx244_0, hx244_1⟩ (fun hHeld => ?_); refine with_tabW spec_Offered.tab5 spec_Offered.bits5 (fun HT_ HW_ => ?_)
              generalize wr.drew = w40 at HO_6 BK226 HB hx244_0 hx244_1 hHeld ⊢
              refine pv (i := 0) (N := some 31) (bA 12 1) rfl rfl (any_of HT_.out (by kernel_rfl)) ?_
              refine pv (i := 1) (N := some 32) (bA 12 3) rfl rfl (any_of HT_.out (by kernel_rfl)) ?_
              refine pv (i := 2) (N := some 33) (bA 12 7) rfl rfl (any_of HT_.out (by kernel_rfl)) ?_
              refine pv (i := 4) (N := some 35) (bA 12 23) rfl rfl (any_of HT_.out (by kernel_rfl)) ?_
              refine pv (i := 5) (N := some 36) (bA 12 55) rfl rfl (any_of HT_.out (by kernel_rfl)) ?_
              refine pv (i := 6) (N := some 37) (bA 12 119) rfl rfl (any_of HT_.out (by kernel_rfl)) ?_
              refine pv (i := 7) (N := some 38) (bA 12 247) rfl rfl (any_of HT_.out (by kernel_rfl)) ?_
              refine pv (i := 8) (N := some 39) (bA 12 503) rfl rfl (any_of HT_.out (by kernel_rfl)) ?_
              refine take_ (i := 3) (N := some 34) (v := ?_) (a' := ?_) (bA 12 511) rfl rfl (take_ofW HT_.out HW_.out (by kernel_rfl)) (fun _ _ _ h => h) (Or.inl ⟨by rfl, ?_⟩) hHeld ?_ ?_
              rotate_left
              ·rintro w' ⟨s0, s1, s2, s3⟩
               go_simp
               with_reducible rfl
              rotate_left
              ·simp only [sp_]
               rfl
              refine take_ (i := 9) (N := some 40) (v := ?_) (a' := ?_) (bA 12 1023) rfl rfl (take_ofW HT_.out HW_.out (by kernel_rfl)) (fun _ _ _ h => h) (Or.inl ⟨by rfl, ?_⟩) hHeld ?_ ?_
              rotate_left
              ·rintro w' ⟨s0, s1, s2, s3⟩
               go_simp
               with_reducible rfl
              rotate_left
              ·simp only [sp_]
               rfl
              refine one_ (i := 10) (N := some 41) (bA 12 2047) rfl rfl (one_of HT_.out (by kernel_rfl)) (by decide) (fun K hK => ?_)
              refine goes_ Try.func139 (by kernel_rfl) rfl #[.agg #[.int .i64 x227000_2, .string x227001_2], .agg #[.int .i64 ((rd_T86 x6_2 (ji31)).f0), .string ((rd_T86 x6_2 (ji31)).f1)]] (by rfl) rfl rfl (by (try simp only [List.map_toArray, List.map_cons, List.map_nil]); first | done | (simp only [hji31]; rfl) | rfl | (simp only [List.length_drop, List.length_take]; rfl)) ?_
              with_reducible refine (spec_l14Ahead.calls x227000_2 x227001_2 ((rd_T86 x6_2 (ji31)).f0) ((rd_T86 x6_2 (ji31)).f1) true _ A34.out).mono ?_
              rintro e w42 ⟨rfl, hb⟩
              have HS2_ := (hb.cell (World.block_lt_of_cell? _ _ (hHeld.2.2.1))).trans (hHeld.2.2.1)
              have HS3_ := (hb.cell (World.block_lt_of_cell? _ _ (hHeld.2.2.2))).trans (hHeld.2.2.2)
              refine ⟨_, rfl, ?_⟩
              have n0_ := Aside0.mk (Kd.R_below (by (with_reducible repeat (first | apply Kd.R_alloc | apply Kd.R_drewN | apply Kd.R_drew)); exact HO_6.out) hb)
              have n1_ := Aside0.mk (blk_below (g := gb226) (o := .cells #[.int .i64 x227000_2, .string x227001_2] 86 (0, 0)) (by (with_reducible repeat (first | refine blk_drewN ?_ _ | refine blk_drew ?_ | refine blk_alloc ?_ _)); exact BK226.out) hb)
              have n2_ := Aside0.mk (below_step (by repeat (first | (with_reducible first | exact HB.out | apply below_alloc | apply pw_below_drewN | apply below_drew1 | refine below_set ?_ GE226.out) | exact HB.out)) hb)
              clear HO_6
              clear BK226
              clear HB
              have HO_6 := n0_
              have BK226 := n1_
              have HB := n2_
              clear n0_ n1_ n2_
              (try clear hb)
              (try clear hb2)
              (try clear hk)
              (try clear hi)
              refine hK.out _ _ ⟨(blk_cell BK226.out 0).trans rfl, (blk_cell BK226.out 1).trans rfl, HS2_, HS3_⟩ (fun hHeld => ?_)
              clear hK K
              refine norm_ (a' := ?_) ?_ ?_
              rotate_left
              ·show Act.put _ (some 41) _ = _
               simp only [sp_]
               rfl
              refine pv (i := 11) (N := some 42) (bA 12 4095) rfl rfl (any_of HT_.out (by kernel_rfl)) ?_
              refine done_ (done_of HT_.out (by kernel_rfl)) ?_
              have p246 : 0 ≤ ((ji31) : Int) := of_decide_eq_true (by first | (with_reducible assumption) | assumption)
              have q246 : (ji31) < (x6_2.length : Int) := of_decide_eq_true (by first | (with_reducible assumption) | assumption)
              obtain ⟨ad246, e246, hx246_0, hx246_1⟩ := at_T86 (Kd.R_reads' HO_6.out).2.2 (ji31) p246 q246
              obtain rfl : ad244 = ad246 := (by injection e246)
              replace p246 := eq_true p246
              replace q246 := eq_true q246
              have p38 : 0 ≤ (x7_2 : Int) := of_decide_eq_true (by first | (with_reducible assumption) | assumption)
              have q38 : (x7_2 : Int) < ((x6_2.length : Int) : Int) := of_decide_eq_true (by first | (with_reducible assumption) | assumption)
              obtain ⟨go38, co38, eo38, gb38, gl38, cl38, HG38⟩ := Kd.R_form HO_6.out (by omega)
              (first | cases eo38 | (injection eo38 with ea_ en_ ec_; (first | subst ea_ | (injection ea_ with ea_; subst ea_)); subst ec_; clear en_))
              have GB38 := Aside0.mk gb38
              have GG38 := Aside0.mk HG38
              clear gb38 gl38 HG38
              (first | simp only [add_plain] at hx244_0 | skip)
              (first | simp only [add_plain] at hx244_1 | skip)
              (first | simp only [add_plain] at hx246_0 | skip)
              (first | simp only [add_plain] at hx246_1 | skip)
              obtain ⟨ce38, hcl38, hM38, hcc38, hfr38⟩ := Kd.R_elem HO_6.out z86 (x7_2 : Int) p38 q38
              obtain rfl := k86_openM hM38
              have hx38_0 : w42.cell? ⟨go38, (x7_2 : Int).toNat * 2, none⟩ = some (.int .i64 ((rd_T86 x6_2 x7_2).f0)) := hcc38 0 _ rfl
              have hx38_1 : w42.cell? ⟨go38, (x7_2 : Int).toNat * 2 + 1, none⟩ = some (.string ((rd_T86 x6_2 x7_2).f1)) := hcc38 1 _ rfl
              have hf38_0 : w42.frozen? ⟨go38, (x7_2 : Int).toNat * 2, none⟩ = false := hfr38 0
              have hf38_1 : w42.frozen? ⟨go38, (x7_2 : Int).toNat * 2 + 1, none⟩ = false := hfr38 1
              clear hcl38 hcc38 hfr38 hM38
              replace p38 := eq_true p38
              replace q38 := eq_true q38
              have HX43 := Aside0.mk (show Kd.R k86 86 w42 w.heap.size (fun k_ => k_ ≠ gb226) (.slice (some ⟨go38, 0, none⟩) x6_2.length co41) x6_2 from (by (with_reducible repeat (first | apply Kd.R_alloc | apply Kd.R_drewN | apply Kd.R_drew)); exact HO_6.out))
              obtain ⟨ce43, hcl43, hM43, hcc43, hfr43⟩ := Kd.R_elem HX43.out z86 (x7_2 : Int) (of_decide_eq_true (by first | (with_reducible assumption) | assumption)) (by have h_ : (x7_2 : Int) < ((x6_2.length : Int) : Int) := of_decide_eq_true (by first | (with_reducible assumption) | assumption); first | exact h_ | (have e_ := (Kd.R_reads' HO_6.out).1; omega) | simpa using h_)
              obtain rfl := k86_openM hM43
              have HP43 := Kd.R_seg HX43.out (x7_2 : Int) (of_decide_eq_true (by first | (with_reducible assumption) | assumption)) (by have h_ : (x7_2 : Int) < ((x6_2.length : Int) : Int) := of_decide_eq_true (by first | (with_reducible assumption) | assumption); first | exact h_ | (have e_ := (Kd.R_reads' HO_6.out).1; omega) | simpa using h_) (seg := [.int .i64 ((rd_T86 x6_2 (ji31)).f0), .string ((rd_T86 x6_2 (ji31)).f1)]) (j := 0) hcl43 hcc43 (show 2 ≤ 2 from by decide) (x' := (⟨(rd_T86 x6_2 (ji31)).f0, (rd_T86 x6_2 (ji31)).f1⟩ : S86)) (k86_mkM _ _ _ (⟨(rd_T86 x6_2 (ji31)).f0, (rd_T86 x6_2 (ji31)).f1⟩ : S86) ) (fun _ hk => hk)
              have hx43_0 := hcc43 0 _ rfl
              (try simp only [show (k86).sz = 2 from rfl, Nat.mul_one, Nat.add_zero] at hx43_0)
              have hf43_0 := hfr43 0
              (try simp only [show (k86).sz = 2 from rfl, Nat.mul_one, Nat.add_zero] at hf43_0)
              have hx43_1 := hcc43 1 _ rfl
              (try simp only [show (k86).sz = 2 from rfl, Nat.mul_one, Nat.add_zero] at hx43_1)
              have hf43_1 := hfr43 1
              (try simp only [show (k86).sz = 2 from rfl, Nat.mul_one, Nat.add_zero] at hf43_1)
              clear hcl43 hcc43 hfr43 hM43
              try go_wp2_with (first | ((with_reducible refine gate_store (t := 86) (p := 52) rfl ?_); refine store_event (t := 86) (p := 52) (v := ?vo_w44) (w1 := ((w42.setCell ⟨go38, (x7_2 : Int).toNat * 2, none⟩ (.int .i64 ((rd_T86 x6_2 (ji31)).f0))).setCell ⟨go38, (x7_2 : Int).toNat * 2 + 1, none⟩ (.string ((rd_T86 x6_2 (ji31)).f1)))) ?hg ?ho ?hn ?hr ?_; (case ho => rfl); (case hg => rfl); (case hn => rfl); (case hr => first | (go_simp; done) | (go_simp; rfl)); intro w44 hw; have hg : w42.grownBy w44 (some go38) := (by rw [hw]; exact HP43.2); have hp_ : Kd.R k86 86 w44 w.heap.size (fun k_ => k_ ≠ gb226) (.slice (some ⟨go38, 0, none⟩) x6_2.length co41) y247 := (by rw [hw, Ny247.out]; exact HP43.1); clear HP43; have n0_ := Aside0.mk (hp_); have n1_ := Aside0.mk (blk_grown (g := gb226) (o := .cells #[.int .i64 x227000_2, .string x227001_2] 86 (0, 0)) (by (with_reducible repeat (first | refine blk_drewN ?_ _ | refine blk_drew ?_ | refine blk_alloc ?_ _)); exact BK226.out) hg (Kd.R_away HO_6.out (fun _ hk => hk))); have n2_ := Aside0.mk ((by rw [hw]; exact below_set (below_set (HB.out) GB38.out) GB38.out : Below w.heap.size w w44)); clear HO_6; clear BK226; clear HB; have HO_6 := n0_; have BK226 := n1_; have HB := n2_; clear n0_ n1_ n2_; clear hg hw hp_; have hcz45_0 : w44.cell? ⟨gb226, 0, none⟩ = some (.int .i64 x227000_2) := (blk_cell BK226.out 0).trans rfl; have hcz45_1 : w44.cell? ⟨gb226, 1, none⟩ = some (.string x227001_2) := (blk_cell BK226.out 1).trans rfl; have hfz45_0 := blk_frozen BK226.out 0; have hfz45_1 := blk_frozen BK226.out 1; have p39 : 0 ≤ ((ji31) : Int) := of_decide_eq_true (by first | (with_reducible assumption) | assumption); have q39 : ((ji31) : Int) < ((x6_2.length : Int) : Int) := of_decide_eq_true (by first | (with_reducible assumption) | assumption); obtain ⟨ce39, hcl39, hM39, hcc39, hfr39⟩ := Kd.R_elem HO_6.out z86 ((ji31) : Int) p39 q39; obtain rfl := k86_openM hM39; have hx39_0 : w44.cell? ⟨go38, ((ji31) : Int).toNat * 2, none⟩ = some (.int .i64 ((rd_T86 y247 (ji31)).f0)) := hcc39 0 _ rfl; have hx39_1 : w44.cell? ⟨go38, ((ji31) : Int).toNat * 2 + 1, none⟩ = some (.string ((rd_T86 y247 (ji31)).f1)) := hcc39 1 _ rfl; have hf39_0 : w44.frozen? ⟨go38, ((ji31) : Int).toNat * 2, none⟩ = false := hfr39 0; have hf39_1 : w44.frozen? ⟨go38, ((ji31) : Int).toNat * 2 + 1, none⟩ = false := hfr39 1; clear hcl39 hcc39 hfr39 hM39; replace p39 := eq_true p39; replace q39 := eq_true q39; have HX46 := Aside0.mk (show Kd.R k86 86 w44 w.heap.size (fun k_ => k_ ≠ gb226) (.slice (some ⟨go38, 0, none⟩) x6_2.length co41) y247 from (by (with_reducible repeat (first | apply Kd.R_alloc | apply Kd.R_drewN | apply Kd.R_drew)); exact HO_6.out)); obtain ⟨ce46, hcl46, hM46, hcc46, hfr46⟩ := Kd.R_elem HX46.out z86 ((ji31) : Int) (of_decide_eq_true (by first | (with_reducible assumption) | assumption)) (by have h_ : ((ji31) : Int) < ((x6_2.length : Int) : Int) := of_decide_eq_true (by first | (with_reducible assumption) | assumption); first | exact h_ | (have e_ := (Kd.R_reads' HO_6.out).1; omega) | simpa using h_); obtain rfl := k86_openM hM46; have HP46 := Kd.R_seg HX46.out ((ji31) : Int) (of_decide_eq_true (by first | (with_reducible assumption) | assumption)) (by have h_ : ((ji31) : Int) < ((x6_2.length : Int) : Int) := of_decide_eq_true (by first | (with_reducible assumption) | assumption); first | exact h_ | (have e_ := (Kd.R_reads' HO_6.out).1; omega) | simpa using h_) (seg := [.int .i64 x227000_2, .string x227001_2]) (j := 0) hcl46 hcc46 (show 2 ≤ 2 from by decide) (x' := (⟨x227000_2, x227001_2⟩ : S86)) (k86_mkM _ _ _ (⟨x227000_2, x227001_2⟩ : S86) ) (fun _ hk => hk); have hx46_0 := hcc46 0 _ rfl; (try simp only [show (k86).sz = 2 from rfl, Nat.mul_one, Nat.add_zero] at hx46_0); have hf46_0 := hfr46 0; (try simp only [show (k86).sz = 2 from rfl, Nat.mul_one, Nat.add_zero] at hf46_0); have hx46_1 := hcc46 1 _ rfl; (try simp only [show (k86).sz = 2 from rfl, Nat.mul_one, Nat.add_zero] at hx46_1); have hf46_1 := hfr46 1; (try simp only [show (k86).sz = 2 from rfl, Nat.mul_one, Nat.add_zero] at hf46_1); clear hcl46 hcc46 hfr46 hM46) | ((with_reducible refine gate_store (t := 86) (p := 56) rfl ?_); refine store_event (t := 86) (p := 56) (v := ?vo_w47) (w1 := ((w44.setCell ⟨go38, ((ji31) : Int).toNat * 2, none⟩ (.int .i64 x227000_2)).setCell ⟨go38, ((ji31) : Int).toNat * 2 + 1, none⟩ (.string x227001_2))) ?hg ?ho ?hn ?hr ?_; (case ho => rfl); (case hg => rfl); (case hn => rfl); (case hr => first | (go_simp; done) | (go_simp; rfl)); intro w47 hw; have hg : w44.grownBy w47 (some go38) := (by rw [hw]; exact HP46.2); have hp_ : Kd.R k86 86 w47 w.heap.size (fun k_ => k_ ≠ gb226) (.slice (some ⟨go38, 0, none⟩) x6_2.length co41) y248 := (by rw [hw, Ny248.out]; exact HP46.1); clear HP46; have n0_ := Aside0.mk (hp_); have n1_ := Aside0.mk (blk_grown (g := gb226) (o := .cells #[.int .i64 x227000_2, .string x227001_2] 86 (0, 0)) (by (with_reducible repeat (first | refine blk_drewN ?_ _ | refine blk_drew ?_ | refine blk_alloc ?_ _)); exact BK226.out) hg (Kd.R_away HO_6.out (fun _ hk => hk))); have n2_ := Aside0.mk ((by rw [hw]; exact below_set (below_set (HB.out) GB38.out) GB38.out : Below w.heap.size w w47)); clear HO_6; clear BK226; clear HB; have HO_6 := n0_; have BK226 := n1_; have HB := n2_; clear n0_ n1_ n2_; clear hg hw hp_))
              go_roundg k2
              case measure => have := HJ2.out; have := HK2.out; omega
              case rel => exact ⟨(y248), (ji31), (x227000_2), (x227001_2), (by first | rfl | (simp; done) | (simp only [← hji31] <;> (first | rfl | simp)) | (simp [*]; done)), H', ⟨by have := HJ2.out; have := HK2.out; omega⟩, ⟨by (with_reducible repeat (first | apply Kd.R_alloc | apply Kd.R_drewN | apply Kd.R_drew)); exact HO_6.out⟩, ⟨by (with_reducible repeat (first | refine blk_drewN ?_ _ | refine blk_drew ?_ | refine blk_alloc ?_ _)); exact BK226.out⟩, ⟨by repeat (first | (with_reducible first | exact HB.out | apply below_alloc | apply pw_below_drewN | apply below_drew1 | refine below_set ?_ GE226.out) | exact HB.out)⟩⟩
             ·rw [if_neg c37] at H
              exact absurd H (by simp)
            ·rw [if_neg c36] at H
             exact absurd H (by simp)
           ·replace c35 := Bool.eq_false_iff.mpr c35
            subst c35
            have H1 : (some (x6_2, true)) = some (r1, r2) := by rw [if_neg (show ¬ (false = true) by decide)] at H; exact H
            clear H
            have H := H1
            clear H1
            simp only [Option.some.injEq, Prod.mk.injEq] at H
            obtain ⟨rfl, rfl⟩ := H
            try go_wp2
            have n0_ := Aside0.mk (Kd.R_drew HO_6.out)
            have n1_ := Aside0.mk (blk_drew BK226.out)
            have n2_ := Aside0.mk (below_drew1 HB.out)
            clear HO_6
            clear BK226
            clear HB
            have HO_6 := n0_
            have BK226 := n1_
            have HB := n2_
            clear n0_ n1_ n2_
            obtain ⟨Ao49, co49, eo49⟩ := Kd.R_slice HO_6.out
            (first | subst eo49 | (injection eo49 with f1_ f2_ f3_; have f4_ := f1_.symm; have f5_ := f3_.symm; clear f1_ f2_ f3_; subst f4_; subst f5_))
            have p244 : 0 ≤ ((ji31) : Int) := of_decide_eq_true (by first | (with_reducible assumption) | assumption)
            have q244 : (ji31) < (x6_2.length : Int) := of_decide_eq_true (by first | (with_reducible assumption) | assumption)
            obtain ⟨ad244, e244, hx244_0, hx244_1⟩ := at_T86 (Kd.R_reads' HO_6.out).2.2 (ji31) p244 q244
            cases e244
            replace p244 := eq_true p244
            replace q244 := eq_true q244
            refine start_ (n := 12) (S := fun w' => w'.cell? ⟨gb226, 0, none⟩ = some (.int .i64 x227000_2) ∧ w'.cell? ⟨gb226, 1, none⟩ = some (.string x227001_2) ∧ w'.cell? (ad244.add (((ji31)).toNat * 2)) = some (.int .i64 ((rd_T86 x6_2 (ji31)).f0)) ∧ w'.cell? ⟨(ad244.add (((ji31)).toNat * 2)).block, (ad244.add (((ji31)).toNat * 2)).off + 1, none⟩ = some (.string ((rd_T86 x6_2 (ji31)).f1))) (ds := []) (bA 12 0) (by kernel_rfl) rfl rfl ⟨(blk_cell BK226.out 0).trans rfl, (blk_cell BK226.out 1).trans rfl, hx244_0, hx244_1⟩ (fun hHeld => ?_); refine with_tabW spec_Offered.tab5 spec_Offered.bits5 (fun HT_ HW_ => ?_)
            generalize wr.drew = w48 at HO_6 BK226 HB hx244_0 hx244_1 hHeld ⊢
            refine pv (i := 0) (N := some 31) (bA 12 1) rfl rfl (any_of HT_.out (by kernel_rfl)) ?_
            refine pv (i := 1) (N := some 32) (bA 12 3) rfl rfl (any_of HT_.out (by kernel_rfl)) ?_
            refine pv (i := 2) (N := some 33) (bA 12 7) rfl rfl (any_of HT_.out (by kernel_rfl)) ?_
            refine pv (i := 4) (N := some 35) (bA 12 23) rfl rfl (any_of HT_.out (by kernel_rfl)) ?_
            refine pv (i := 5) (N := some 36) (bA 12 55) rfl rfl (any_of HT_.out (by kernel_rfl)) ?_
            refine pv (i := 6) (N := some 37) (bA 12 119) rfl rfl (any_of HT_.out (by kernel_rfl)) ?_
            refine pv (i := 7) (N := some 38) (bA 12 247) rfl rfl (any_of HT_.out (by kernel_rfl)) ?_
            refine pv (i := 8) (N := some 39) (bA 12 503) rfl rfl (any_of HT_.out (by kernel_rfl)) ?_
            refine take_ (i := 3) (N := some 34) (v := ?_) (a' := ?_) (bA 12 511) rfl rfl (take_ofW HT_.out HW_.out (by kernel_rfl)) (fun _ _ _ h => h) (Or.inl ⟨by rfl, ?_⟩) hHeld ?_ ?_
            rotate_left
            ·rintro w' ⟨s0, s1, s2, s3⟩
             go_simp
             with_reducible rfl
            rotate_left
            ·simp only [sp_]
             rfl
            refine take_ (i := 9) (N := some 40) (v := ?_) (a' := ?_) (bA 12 1023) rfl rfl (take_ofW HT_.out HW_.out (by kernel_rfl)) (fun _ _ _ h => h) (Or.inl ⟨by rfl, ?_⟩) hHeld ?_ ?_
            rotate_left
            ·rintro w' ⟨s0, s1, s2, s3⟩
             go_simp
             with_reducible rfl
            rotate_left
            ·simp only [sp_]
             rfl
            refine one_ (i := 10) (N := some 41) (bA 12 2047) rfl rfl (one_of HT_.out (by kernel_rfl)) (by decide) (fun K hK => ?_)
            refine goes_ Try.func139 (by kernel_rfl) rfl #[.agg #[.int .i64 x227000_2, .string x227001_2], .agg #[.int .i64 ((rd_T86 x6_2 (ji31)).f0), .string ((rd_T86 x6_2 (ji31)).f1)]] (by rfl) rfl rfl (by (try simp only [List.map_toArray, List.map_cons, List.map_nil]); first | done | (simp only [hji31]; rfl) | rfl | (simp only [List.length_drop, List.length_take]; rfl)) ?_
            with_reducible refine (spec_l14Ahead.calls x227000_2 x227001_2 ((rd_T86 x6_2 (ji31)).f0) ((rd_T86 x6_2 (ji31)).f1) false _ A34.out).mono ?_
            rintro e w50 ⟨rfl, hb⟩
            have HS2_ := (hb.cell (World.block_lt_of_cell? _ _ (hHeld.2.2.1))).trans (hHeld.2.2.1)
            have HS3_ := (hb.cell (World.block_lt_of_cell? _ _ (hHeld.2.2.2))).trans (hHeld.2.2.2)
            refine ⟨_, rfl, ?_⟩
            have n0_ := Aside0.mk (Kd.R_below (by (with_reducible repeat (first | apply Kd.R_alloc | apply Kd.R_drewN | apply Kd.R_drew)); exact HO_6.out) hb)
            have n1_ := Aside0.mk (blk_below (g := gb226) (o := .cells #[.int .i64 x227000_2, .string x227001_2] 86 (0, 0)) (by (with_reducible repeat (first | refine blk_drewN ?_ _ | refine blk_drew ?_ | refine blk_alloc ?_ _)); exact BK226.out) hb)
            have n2_ := Aside0.mk (below_step (by repeat (first | (with_reducible first | exact HB.out | apply below_alloc | apply pw_below_drewN | apply below_drew1 | refine below_set ?_ GE226.out) | exact HB.out)) hb)
            clear HO_6
            clear BK226
            clear HB
            have HO_6 := n0_
            have BK226 := n1_
            have HB := n2_
            clear n0_ n1_ n2_
            (try clear hb)
            (try clear hb2)
            (try clear hk)
            (try clear hi)
            refine hK.out _ _ ⟨(blk_cell BK226.out 0).trans rfl, (blk_cell BK226.out 1).trans rfl, HS2_, HS3_⟩ (fun hHeld => ?_)
            clear hK K
            refine norm_ (a' := ?_) ?_ ?_
            rotate_left
            ·show Act.put _ (some 41) _ = _
             simp only [sp_]
             rfl
            refine pv (i := 11) (N := some 42) (bA 12 4095) rfl rfl (any_of HT_.out (by kernel_rfl)) ?_
            refine done_ (done_of HT_.out (by kernel_rfl)) ?_
            try go_wp2
            go_ret2
            exact ⟨_, by first | rfl | (simp [errW_none, errW_some] <;> rfl) | (simp only [← hji31]; first | rfl | (simp [errW_none, errW_some] <;> rfl)) | (simp [*, errW_none, errW_some] <;> rfl), by (with_reducible repeat (first | apply Kd.R_alloc | apply Kd.R_drewN | apply Kd.R_drew)); exact Kd.R_mono HO_6.out (fun _ hk => trivial), by repeat (first | (with_reducible first | exact HB.out | apply below_alloc | apply pw_below_drewN | apply below_drew1 | refine below_set ?_ GE226.out) | exact HB.out)⟩
          ·rw [if_neg c33] at H
           exact absurd H (by simp)
         ·rw [if_neg c32] at H
          exact absurd H (by simp)
        ·rw [if_neg c30] at H
         have c30b0 : decide (0 < x7_2) = false := decide_eq_false c30
         clear c30
         simp only [Option.some.injEq, Prod.mk.injEq] at H
         obtain ⟨rfl, rfl⟩ := H
         try go_wp2
         have n0_ := Aside0.mk (Kd.R_drew HO_6.out)
         have n1_ := Aside0.mk (blk_drew BK226.out)
         have n2_ := Aside0.mk (below_drew1 HB.out)
         clear HO_6
         clear BK226
         clear HB
         have HO_6 := n0_
         have BK226 := n1_
         have HB := n2_
         clear n0_ n1_ n2_
         refine start_ (n := 12) (S := fun w' => True) (ds := []) (bA 12 0) (by kernel_rfl) rfl rfl trivial (fun hHeld => ?_); refine with_tabW spec_Offered.tab5 spec_Offered.bits5 (fun HT_ HW_ => ?_)
         generalize wr.drew = w51 at HO_6 BK226 HB hHeld ⊢
         refine pv (i := 0) (N := some 31) (bA 12 1) rfl rfl (any_of HT_.out (by kernel_rfl)) ?_
         refine pv (i := 1) (N := some 32) (bA 12 3) rfl rfl (any_of HT_.out (by kernel_rfl)) ?_
         refine pv (i := 2) (N := some 33) (bA 12 7) rfl rfl (any_of HT_.out (by kernel_rfl)) ?_
         refine pu (i := 3) (N := some 34) (bA 12 15) rfl rfl (any_of HT_.out (by kernel_rfl)) ?_
         refine pu (i := 4) (N := some 35) (bA 12 31) rfl rfl (any_of HT_.out (by kernel_rfl)) ?_
         refine pu (i := 5) (N := some 36) (bA 12 63) rfl rfl (any_of HT_.out (by kernel_rfl)) ?_
         refine pu (i := 6) (N := some 37) (bA 12 127) rfl rfl (any_of HT_.out (by kernel_rfl)) ?_
         refine pu (i := 7) (N := some 38) (bA 12 255) rfl rfl (any_of HT_.out (by kernel_rfl)) ?_
         refine pu (i := 8) (N := some 39) (bA 12 511) rfl rfl (any_of HT_.out (by kernel_rfl)) ?_
         refine pu (i := 9) (N := some 40) (bA 12 1023) rfl rfl (any_of HT_.out (by kernel_rfl)) ?_
         refine pu (i := 10) (N := some 41) (bA 12 2047) rfl rfl (any_of HT_.out (by kernel_rfl)) ?_
         refine pv (i := 11) (N := some 42) (bA 12 4095) rfl rfl (any_of HT_.out (by kernel_rfl)) ?_
         refine done_ (done_of HT_.out (by kernel_rfl)) ?_
         try go_wp2
         go_ret2
         exact ⟨_, by first | rfl | (simp [errW_none, errW_some] <;> rfl) | (simp [*, errW_none, errW_some] <;> rfl), by (with_reducible repeat (first | apply Kd.R_alloc | apply Kd.R_drewN | apply Kd.R_drew)); exact Kd.R_mono HO_6.out (fun _ hk => trivial), by repeat (first | (with_reducible first | exact HB.out | apply below_alloc | apply pw_below_drewN | apply below_drew1 | refine below_set ?_ GE226.out) | exact HB.out)⟩
     ·rw [if_neg c20] at H
      exact absurd H (by simp)
    ·rw [if_neg c19] at H
     exact absurd H (by simp)

end Go.Proofs.Ytckgkhlgnblblaa.PFnPool
