-- Written by a program of this session (wip/tools/pp.py over the kit's print).
import Derived.Test.YtgpofolfflfgiaaDoorPFnProvedx0
import Derived.Test.YtgpofolfflfgiaaDoorPFnProvedx5
import Derived.Test.YtgpofolfflfgiaaDoorPFnProvedx10
namespace Go.Proofs.YtgpofolfflfgiaaDoor.PFnProved
open Go.RowKit Go.Proofs.YtgpofolfflfgiaaDoorW.PrintWords Go.Proofs.YtgpofolfflfgiaaDoorW.PrintLast Go.Proofs.YtgpofolfflfgiaaDoorW.PrintMore
attribute [local go_sem] max2_int min2_int max_two min_two max_three min_three max_four min_four
attribute [local go_sem high] str_gtr str_leq str_geq
set_option linter.unusedVariables false
set_option linter.unusedSimpArgs false

/-! ### impl_levels: function 47 -/
mutual
def impl_levels.l0 : Nat → List Int → List (S42) → Int → Int → Option ((List (List Int)))
 | 0, _, _, _, _ => none
 | k + 1, x3, x10, x11, x12 => if x12 < x11 then (if 0 ≤ x12 then (if x12 < (x10.length : Int) then ((impl_leafNumber.f k ((rd_T42 x10 x12).f0) ((rd_T42 x10 x12).f1)).bind fun t440 => (if 0 ≤ ((rd_T42 x10 x12).f0) then (if ((rd_T42 x10 x12).f0) < (x3.length : Int) then (impl_levels.l0 k (x3.set (((rd_T42 x10 x12).f0) : Int).toNat t440) x10 x11 (wrap64 (x12 + 1))) else (none)) else (none))) else (none)) else (none)) else (impl_levels.l1 k x3 (([x3] : List (List Int))))
def impl_levels.l1 : Nat → List Int → List (List Int) → Option ((List (List Int)))
 | 0, _, _ => none
 | k + 1, x3, x6 => if (x3.length : Int) > 1 then (impl_levels.l2 k x3 x6 (([] : List Int)) 0) else (some x6)
def impl_levels.l2 : Nat → List Int → List (List Int) → List Int → Int → Option ((List (List Int)))
 | 0, _, _, _, _ => none
 | k + 1, x3, x6, x7, x8 => if x8 < (x3.length : Int) then (if 0 ≤ x8 then (if 0 ≤ (wrap64 (x8 + 1)) then (if (wrap64 (x8 + 1)) < (x3.length : Int) then ((impl_Pair.f k (rd x3 x8) (rd x3 (wrap64 (x8 + 1)))).bind fun t450 => (if x7.length < 17592186044416 then (impl_levels.l2 k x3 x6 (x7 ++ [t450]) (wrap64 (x8 + 2))) else (none))) else (none)) else (none)) else (none)) else (if x6.length < 5864062014805 then (impl_levels.l1 k x7 (x6 ++ [x7])) else (none))
end
def impl_levels.f (k : Nat) (l0 : List (S42)) : Option ((List (List Int))) := if 256 ≤ 35184372088832 then (impl_levels.l0 k (List.replicate 256 0) l0 (l0.length : Int) 0) else (none)
theorem impl_levels.mono_l : ∀ k, (∀ y0 y1 y2 y3, LeO (impl_levels.l0 k y0 y1 y2 y3) (impl_levels.l0 (k + 1) y0 y1 y2 y3)) ∧ (∀ y0 y1, LeO (impl_levels.l1 k y0 y1) (impl_levels.l1 (k + 1) y0 y1)) ∧ (∀ y0 y1 y2 y3, LeO (impl_levels.l2 k y0 y1 y2 y3) (impl_levels.l2 (k + 1) y0 y1 y2 y3))
 | 0 => ⟨fun _ _ _ _ r h => by simp [impl_levels.l0] at h, fun _ _ r h => by simp [impl_levels.l1] at h, fun _ _ _ _ r h => by simp [impl_levels.l2] at h⟩
 | k + 1 => by
  obtain ⟨ih0, ih1, ih2⟩ := impl_levels.mono_l k
  refine ⟨?_, ?_, ?_⟩
  ·intro y0 y1 y2 y3
   unfold impl_levels.l0
   repeat' first
   | (with_reducible exact ih0 _ _ _ _)
   | (with_reducible exact ih1 _ _)
   | (with_reducible exact ih2 _ _ _ _)
   | (with_reducible exact impl_Pair.mono _ _ _)
   | (with_reducible exact impl_leafNumber.mono _ _ _)
   | (with_reducible exact LeO.refl _)
   | (with_reducible exact LeO.none _)
   | (with_reducible refine LeO.ite ?_ ?_)
   | (with_reducible refine LeO.bind ?_ (fun _ => ?_))
   | exact ih0 _ _ _ _
   | exact ih1 _ _
   | exact ih2 _ _ _ _
   | exact impl_Pair.mono _ _ _
   | exact impl_leafNumber.mono _ _ _
   | exact LeO.none _
   | refine LeO.ite ?_ ?_
   | refine LeO.bind ?_ (fun _ => ?_)
  ·intro y0 y1
   unfold impl_levels.l1
   repeat' first
   | (with_reducible exact ih0 _ _ _ _)
   | (with_reducible exact ih1 _ _)
   | (with_reducible exact ih2 _ _ _ _)
   | (with_reducible exact impl_Pair.mono _ _ _)
   | (with_reducible exact impl_leafNumber.mono _ _ _)
   | (with_reducible exact LeO.refl _)
   | (with_reducible exact LeO.none _)
   | (with_reducible refine LeO.ite ?_ ?_)
   | (with_reducible refine LeO.bind ?_ (fun _ => ?_))
   | exact ih0 _ _ _ _
   | exact ih1 _ _
   | exact ih2 _ _ _ _
   | exact impl_Pair.mono _ _ _
   | exact impl_leafNumber.mono _ _ _
   | exact LeO.none _
   | refine LeO.ite ?_ ?_
   | refine LeO.bind ?_ (fun _ => ?_)
  ·intro y0 y1 y2 y3
   unfold impl_levels.l2
   repeat' first
   | (with_reducible exact ih0 _ _ _ _)
   | (with_reducible exact ih1 _ _)
   | (with_reducible exact ih2 _ _ _ _)
   | (with_reducible exact impl_Pair.mono _ _ _)
   | (with_reducible exact impl_leafNumber.mono _ _ _)
   | (with_reducible exact LeO.refl _)
   | (with_reducible exact LeO.none _)
   | (with_reducible refine LeO.ite ?_ ?_)
   | (with_reducible refine LeO.bind ?_ (fun _ => ?_))
   | exact ih0 _ _ _ _
   | exact ih1 _ _
   | exact ih2 _ _ _ _
   | exact impl_Pair.mono _ _ _
   | exact impl_leafNumber.mono _ _ _
   | exact LeO.none _
   | refine LeO.ite ?_ ?_
   | refine LeO.bind ?_ (fun _ => ?_)
theorem impl_levels.mono : ∀ a0 k, LeO (impl_levels.f k a0) (impl_levels.f (k + 1) a0) := by
 intro a0 k
 obtain ⟨ih0, ih1, ih2⟩ := impl_levels.mono_l k
 unfold impl_levels.f
 repeat' first
   | (with_reducible exact ih0 _ _ _ _)
   | (with_reducible exact ih1 _ _)
   | (with_reducible exact ih2 _ _ _ _)
   | (with_reducible exact impl_Pair.mono _ _ _)
   | (with_reducible exact impl_leafNumber.mono _ _ _)
   | (with_reducible exact LeO.refl _)
   | (with_reducible exact LeO.none _)
   | (with_reducible refine LeO.ite ?_ ?_)
   | (with_reducible refine LeO.bind ?_ (fun _ => ?_))
   | exact ih0 _ _ _ _
   | exact ih1 _ _
   | exact ih2 _ _ _ _
   | exact impl_Pair.mono _ _ _
   | exact impl_leafNumber.mono _ _ _
   | exact LeO.none _
   | refine LeO.ite ?_ ?_
   | refine LeO.bind ?_ (fun _ => ?_)
def impl_levels.T5 : Bool × List (List Nat × List Nat) := (true, [([], []), ([], []), ([1], [1]), ([], []), ([3], [3]), ([], []), ([5], [5]), ([4, 6], [4, 6]), ([0, 2, 0, 1, 2, 3, 4, 5, 6, 7], [0, 2]), ([8, 7, 7, 0, 1, 2, 3, 4, 5, 6, 7], [7, 8])])
def impl_levels.B5 : List Nat := [0, 0, 2, 0, 8, 0, 32, 120, 255, 511]
theorem impl_levels.tab5 : rtab .any (opsOf Tryd.f47 5) = impl_levels.T5 := by kernel_rfl
theorem impl_levels.bits5 : waitsOk impl_levels.T5.2 impl_levels.B5 = true := by kernel_rfl
def impl_levels.T13 : Bool × List (List Nat × List Nat) := (true, [([], []), ([], []), ([], []), ([1, 2], [1, 2]), ([3], [3]), ([], []), ([], []), ([6], [6]), ([5, 7], [5, 7]), ([8], [8]), ([4, 9], [4, 9]), ([10], [10]), ([0, 11, 10], [0, 11]), ([12, 12, 0, 1, 2, 3, 4, 5, 6, 7, 8, 9, 10, 11, 12], [0, 12])])
def impl_levels.B13 : List Nat := [0, 0, 0, 6, 14, 0, 0, 64, 224, 480, 1022, 2046, 4095, 8191]
theorem impl_levels.tab13 : rtab .any (opsOf Tryd.f47 13) = impl_levels.T13 := by kernel_rfl
theorem impl_levels.bits13 : waitsOk impl_levels.T13.2 impl_levels.B13 = true := by kernel_rfl
set_option maxHeartbeats 8000000 in
set_option maxRecDepth 100000 in
theorem impl_levels.calls (k : Nat) (A0 : Option Addr) (c0 : Nat) (l0 : List (S42)) (r : List (List Int)) (w : World) (hr0 : Kd.C k42 w A0 l0.length l0) (hc0 : l0.length ≤ c0) (h : impl_levels.f k l0 = some r) (hT : TabOk w) :
  Calls Tryd.prog 47 #[.slice A0 l0.length c0] w fun e w' => ∃ v0_ : Value, e = .returned (v0_) ∧ Kd.N (Kd.slice 2 (Kd.int .i64)) 28 w' w.heap.size (fun k_ => (w.heap.size ≤ k_)) v0_ r ∧ Below w.heap.size w w' := by
 have HT := Aside0.mk hT
 clear hT
 have hu42 := Tryd.underlying42
 have HR0 := Aside0.mk hr0
 have HC0 := Aside0.mk hc0
 clear hr0 hc0
 have HB := Aside0.mk (Below.refl w.heap.size w)
 have H : (if 256 ≤ 35184372088832 then (impl_levels.l0 k (List.replicate 256 0) l0 (l0.length : Int) 0) else (none)) = some r := h
 clear h
 by_cases c2 : 256 ≤ 35184372088832
 ·rw [if_pos c2] at H
  have c2b0 := eq_true c2
  have c2b1 : decide (256 ≤ 35184372088832) = true := decide_eq_true c2
  clear c2
  obtain ⟨y435, hy435⟩ : ∃ y_ : List Int, y_ = (List.replicate 256 0) := ⟨_, rfl⟩
  replace H : (impl_levels.l0 k y435 l0 (l0.length : Int) 0) = some r := by first | (rw [hy435]; with_reducible exact H) | (have H2_ := (Option.bind_some _ _).symm.trans H; rw [hy435]; with_reducible exact H2_) | (have H2_ := (Option.bind_some _ _).symm.trans H; with_reducible exact H2_) | with_reducible exact H | (rw [hy435]; exact H) | exact H
  have Ny435 := Aside0.mk hy435
  clear hy435
  have H' := Aside0.mk H
  clear H
  go_enter Tryd.func47, Tryd.ntmps47
  go_wp2_with (first | ((with_reducible refine gate_dst (N := 9) rfl ?_); refine Kd.R_make (Kd.int .i64) _ 2 rfl (N := 9) rfl 28 _ _ rfl 256 rfl rfl Tryd.underlying28 (.int .i64 0) 8 info2 rfl (by decide) (by omega) 0 (ok := fun _ => True) (okp := fun _ => True) rfl (fun _ hk => hk) trivial (by omega) (by omega) (Below.refl _ _) (Nat.le_refl _) ?_; intro v436 w3 ho4 hb hg_ hnew_; clear hg_ hnew_; (first | rw [← Ny435.out] at ho4 | (simp only [Int.reduceToNat] at ho4; rw [← Ny435.out] at ho4)); have n0_ := Aside0.mk (Kd.R_lower (Kd.R_newM (M := fun k_ => (w.heap.size ≤ k_)) ho4 (below_size (by repeat (first | (with_reducible first | exact HB.out | apply below_alloc | apply pw_below_drewN | apply below_drew1) | exact HB.out))) (fun k_ h_ => h_)) (below_size (by repeat (first | (with_reducible first | exact HB.out | apply below_alloc | apply pw_below_drewN | apply below_drew1) | exact HB.out)))); have n1_ := Aside0.mk (below_step (by repeat (first | (with_reducible first | exact HB.out | apply below_alloc | apply pw_below_drewN | apply below_drew1) | exact HB.out)) hb); clear HB; have HO437 := n0_; have HB := n1_; clear n0_ n1_; clear hb ho4))
  go_loopg [12] k (fun kq v12 w' => ∃ (x3_1 : List Int) (x12_1 : Int), v12 = .int .i64 x12_1 ∧ Aside0 (impl_levels.l0 kq x3_1 l0 (l0.length : Int) x12_1 = some r) ∧ Aside0 (kq ≤ k) ∧ Aside0 (Kd.R (Kd.int .i64) 2 w' w.heap.size (fun k_ => (w.heap.size ≤ k_)) v436 x3_1) ∧ Aside0 (Below w.heap.size w w'))
  case atStart => exact ⟨(y435), (0), (by first | rfl | (simp; done) | (simp [*]; done)), H', ⟨Nat.le_refl _⟩, ⟨by (with_reducible repeat (first | apply Kd.R_alloc | apply Kd.R_drewN | apply Kd.R_drew)); exact Kd.R_mono HO437.out (fun _ hk => hk.1)⟩, ⟨by repeat (first | (with_reducible first | exact HB.out | apply below_alloc | apply pw_below_drewN | apply below_drew1) | exact HB.out)⟩⟩
  case round =>
   clear H'
   try clear c2
   try clear c2b0
   try clear c2b1
   try clear p2
   try clear c4
   obtain ⟨x3_1, x12_1, rfl, HA, HK1, HO_3, HB⟩ := hrel
   cases gk with
   | zero => exact absurd HA.out (by simp [impl_levels.l0])
   | succ k1 =>
    have H := HA.out
    clear HA
    simp only [impl_levels.l0] at H
    by_cases c5 : x12_1 < (l0.length : Int)
    ·rw [if_pos c5] at H
     have c5b0 : decide (x12_1 < (l0.length : Int)) = true := decide_eq_true c5
     clear c5
     by_cases c6 : 0 ≤ x12_1
     ·rw [if_pos c6] at H
      have c6b0 : decide (0 ≤ x12_1) = true := decide_eq_true c6
      clear c6
      by_cases c7 : x12_1 < (l0.length : Int)
      ·rw [if_pos c7] at H
       have c7b0 : decide (x12_1 < (l0.length : Int)) = true := decide_eq_true c7
       clear c7
       replace H := Option.bind_eq_some_iff.mp H
       obtain ⟨t440, A80, H⟩ := H
       replace H : (if 0 ≤ ((rd_T42 l0 x12_1).f0) then (if ((rd_T42 l0 x12_1).f0) < (x3_1.length : Int) then (impl_levels.l0 k1 (x3_1.set (((rd_T42 l0 x12_1).f0) : Int).toNat t440) l0 (l0.length : Int) (wrap64 (x12_1 + 1))) else (none)) else (none)) = some r := H
       have A8 := Aside0.mk A80
       clear A80
       by_cases c9 : 0 ≤ ((rd_T42 l0 x12_1).f0)
       ·rw [if_pos c9] at H
        have c9b0 : decide (0 ≤ ((rd_T42 l0 x12_1).f0)) = true := decide_eq_true c9
        clear c9
        by_cases c10 : ((rd_T42 l0 x12_1).f0) < (x3_1.length : Int)
        ·rw [if_pos c10] at H
         have c10b0 : decide (((rd_T42 l0 x12_1).f0) < (x3_1.length : Int)) = true := decide_eq_true c10
         clear c10
         obtain ⟨y441, hy441⟩ : ∃ y_ : List Int, y_ = (x3_1.set (((rd_T42 l0 x12_1).f0) : Int).toNat t440) := ⟨_, rfl⟩
         replace H : (impl_levels.l0 k1 y441 l0 (l0.length : Int) (wrap64 (x12_1 + 1))) = some r := by first | (rw [hy441]; with_reducible exact H) | (have H2_ := (Option.bind_some _ _).symm.trans H; rw [hy441]; with_reducible exact H2_) | (have H2_ := (Option.bind_some _ _).symm.trans H; with_reducible exact H2_) | with_reducible exact H | (rw [hy441]; exact H) | exact H
         have Ny441 := Aside0.mk hy441
         clear hy441
         have H' := Aside0.mk H
         clear H
         have p438 : 0 ≤ (x12_1 : Int) := of_decide_eq_true (by first | (with_reducible assumption) | assumption)
         have q438 : x12_1 < (l0.length : Int) := of_decide_eq_true (by first | (with_reducible assumption) | assumption)
         obtain ⟨ad438, e438, hx438_0, hx438_1⟩ := at_T42 HR0.out x12_1 p438 q438
         cases e438
         replace hx438_0 := (HB.out.cell (World.block_lt_of_cell? w _ hx438_0)).trans hx438_0
         replace hx438_1 := (HB.out.cell (World.block_lt_of_cell? w _ hx438_1)).trans hx438_1
         replace p438 := eq_true p438
         replace q438 := eq_true q438
         try go_wp2_with (first | ((with_reducible refine gate_dst (N := 5) rfl ?_); refine box_event ?hg (N := 5) ?hd (cs := #[.int .i64 0, .int .i64 0]) (t := 42) ?hr ?_; (case hd => rfl); (case hg => rfl); (case hr => first | (go_simp; done) | (go_simp; rfl)); intro gb439 hg w12 hbox hb; have n0_ := Aside0.mk (Kd.R_below (by (with_reducible repeat (first | apply Kd.R_alloc | apply Kd.R_drewN | apply Kd.R_drew)); exact HO_3.out) hb); have n1_ := Aside0.mk (below_step (by repeat (first | (with_reducible first | exact HB.out | apply below_alloc | apply pw_below_drewN | apply below_drew1) | exact HB.out)) hb); have n2_ := Aside0.mk (hbox); have n3_ := Aside0.mk ((by rw [hg]; exact (below_size (by repeat (first | (with_reducible first | exact HB.out | apply below_alloc | apply pw_below_drewN | apply below_drew1) | exact HB.out))) : w.heap.size ≤ gb439)); have n4_ := Aside0.mk ((by rw [hg]; exact (below_size (by repeat (first | (with_reducible first | exact HB.out | apply below_alloc | apply pw_below_drewN | apply below_drew1) | exact HB.out))) : w.heap.size ≤ gb439)); clear HO_3; clear HB; have HO_3 := n0_; have HB := n1_; have BK439 := n2_; have GW439 := n3_; have GE439 := n4_; clear n0_ n1_ n2_ n3_ n4_; clear hb hbox hg; have hcz13_0 : w12.cell? ⟨gb439, 0, none⟩ = some (.int .i64 0) := (blk_cell BK439.out 0).trans rfl; have hcz13_1 : w12.cell? ⟨gb439, 1, none⟩ = some (.int .i64 0) := (blk_cell BK439.out 1).trans rfl; have hfz13_0 := blk_frozen BK439.out 0; have hfz13_1 := blk_frozen BK439.out 1))
         have n0_ : Aside0 (Kd.R (Kd.int .i64) 2 ((w12.setCell ⟨gb439, 0, none⟩ (.int .i64 ((rd_T42 l0 x12_1).f0))).setCell ⟨gb439, 1, none⟩ (.int .i64 ((rd_T42 l0 x12_1).f1))) w.heap.size (fun k_ => (w.heap.size ≤ k_)) v436 x3_1) := ⟨by (with_reducible repeat (first | apply Kd.R_alloc | apply Kd.R_drewN | apply Kd.R_drew)); exact Kd.R_mono (Kd.R_far (p := ⟨gb439, 1, none⟩) (Kd.R_far (p := ⟨gb439, 0, none⟩) (Kd.R_types HO_3.out BK439.out (by decide)) (fun _ hk => hk.2) (.int .i64 ((rd_T42 l0 x12_1).f0))) (fun _ hk => hk.2) (.int .i64 ((rd_T42 l0 x12_1).f1))) (fun _ hk => hk.1)⟩
         have n1_ : Aside0 (((w12.setCell ⟨gb439, 0, none⟩ (.int .i64 ((rd_T42 l0 x12_1).f0))).setCell ⟨gb439, 1, none⟩ (.int .i64 ((rd_T42 l0 x12_1).f1))).heap[gb439]? = some (.cells #[.int .i64 ((rd_T42 l0 x12_1).f0), .int .i64 ((rd_T42 l0 x12_1).f1)] 42 (0, 0))) := ⟨by (with_reducible repeat (first | refine blk_drewN ?_ _ | refine blk_drew ?_ | refine blk_alloc ?_ _)); refine blk_put (cs := #[.int .i64 ((rd_T42 l0 x12_1).f0), .int .i64 0]) ?_ 1 _ rfl; (with_reducible repeat (first | refine blk_drewN ?_ _ | refine blk_drew ?_ | refine blk_alloc ?_ _)); refine blk_put (cs := #[.int .i64 0, .int .i64 0]) ?_ 0 _ rfl; (with_reducible repeat (first | refine blk_drewN ?_ _ | refine blk_drew ?_ | refine blk_alloc ?_ _)); exact BK439.out⟩
         have n2_ : Aside0 (Below w.heap.size w ((w12.setCell ⟨gb439, 0, none⟩ (.int .i64 ((rd_T42 l0 x12_1).f0))).setCell ⟨gb439, 1, none⟩ (.int .i64 ((rd_T42 l0 x12_1).f1)))) := ⟨by repeat (first | (with_reducible first | exact HB.out | apply below_alloc | apply pw_below_drewN | apply below_drew1 | refine below_set ?_ GE439.out) | exact HB.out)⟩
         (try clear HO_3)
         (try clear BK439)
         (try clear HB)
         generalize ((w12.setCell ⟨gb439, 0, none⟩ (.int .i64 ((rd_T42 l0 x12_1).f0))).setCell ⟨gb439, 1, none⟩ (.int .i64 ((rd_T42 l0 x12_1).f1))) = w14 at n0_ n1_ n2_ ⊢
         have HO_3 := n0_
         have BK439 := n1_
         have HB := n2_
         clear n0_ n1_ n2_
         have n0_ := Aside0.mk (Kd.R_drew HO_3.out)
         have n1_ := Aside0.mk (blk_drew BK439.out)
         have n2_ := Aside0.mk (below_drew1 HB.out)
         clear HO_3
         clear BK439
         clear HB
         have HO_3 := n0_
         have BK439 := n1_
         have HB := n2_
         clear n0_ n1_ n2_
         refine start_ (n := 10) (S := fun w' => w'.cell? ⟨gb439, 0, none⟩ = some (.int .i64 ((rd_T42 l0 x12_1).f0)) ∧ w'.cell? ⟨gb439, 1, none⟩ = some (.int .i64 ((rd_T42 l0 x12_1).f1))) (ds := [9]) (bA 10 0) (by kernel_rfl) rfl rfl ⟨(blk_cell BK439.out 0).trans rfl, (blk_cell BK439.out 1).trans rfl⟩ (fun hHeld => ?_); refine with_tabW impl_levels.tab5 impl_levels.bits5 (fun HT_ HW_ => ?_)
         generalize w14.drew = w15 at HO_3 BK439 HB hHeld ⊢
         refine pv (i := 0) (N := some 16) (bA 10 1) rfl rfl (any_of HT_.out (by kernel_rfl)) ?_
         refine pv (i := 1) (N := some 17) (bA 10 3) rfl rfl (any_of HT_.out (by kernel_rfl)) ?_
         refine pv (i := 3) (N := some 19) (bA 10 11) rfl rfl (any_of HT_.out (by kernel_rfl)) ?_
         refine pv (i := 5) (N := some 21) (bA 10 43) rfl rfl (any_of HT_.out (by kernel_rfl)) ?_
         refine take_ (i := 2) (N := some 18) (v := ?_) (a' := ?_) (bA 10 47) rfl rfl (take_ofW HT_.out HW_.out (by kernel_rfl)) (fun _ _ _ h => h) (Or.inl ⟨by rfl, ?_⟩) hHeld ?_ ?_
         rotate_left
         ·rintro w' ⟨s0, s1⟩
          go_simp
          with_reducible rfl
         rotate_left
         ·simp only [sp_]
          rfl
         refine take_ (i := 4) (N := some 20) (v := ?_) (a' := ?_) (bA 10 63) rfl rfl (take_ofW HT_.out HW_.out (by kernel_rfl)) (fun _ _ _ h => h) (Or.inl ⟨by rfl, ?_⟩) hHeld ?_ ?_
         rotate_left
         ·rintro w' ⟨s0, s1⟩
          go_simp
          with_reducible rfl
         rotate_left
         ·simp only [sp_]
          rfl
         refine take_ (i := 6) (N := some 22) (v := ?_) (a' := ?_) (bA 10 127) rfl rfl (take_ofW HT_.out HW_.out (by kernel_rfl)) (fun _ _ _ h => h) (Or.inl ⟨by rfl, ?_⟩) hHeld ?_ ?_
         rotate_left
         ·rintro w' ⟨s0, s1⟩
          go_simp
          with_reducible rfl
         rotate_left
         ·simp only [sp_]
          rfl
         refine one_ (i := 7) (N := some 23) (bA 10 255) rfl rfl (one_of HT_.out (by kernel_rfl)) (by decide) (fun K hK => ?_)
         refine goes_ Tryd.func54 (by kernel_rfl) rfl #[.int .i64 ((rd_T42 l0 x12_1).f0), .int .i64 ((rd_T42 l0 x12_1).f1)] (by rfl) rfl rfl (by (try simp only [List.map_toArray, List.map_cons, List.map_nil]); first | done | rfl | (simp only [List.length_drop, List.length_take]; rfl)) ?_
         with_reducible refine (impl_leafNumber.calls k1 ((rd_T42 l0 x12_1).f0) ((rd_T42 l0 x12_1).f1) t440 _ A8.out (tab_at HT.out (by repeat (first | (with_reducible first | exact HB.out | apply below_alloc | apply pw_below_drewN | apply below_drew1 | (refine below_set ?_ (Aside0.out (by assumption)))) | exact HB.out)))).mono ?_
         rintro e w16 ⟨rfl, hb⟩
         refine ⟨_, rfl, ?_⟩
         have n0_ := Aside0.mk (Kd.R_below (by (with_reducible repeat (first | apply Kd.R_alloc | apply Kd.R_drewN | apply Kd.R_drew)); exact HO_3.out) hb)
         have n1_ := Aside0.mk (blk_below (g := gb439) (o := .cells #[.int .i64 ((rd_T42 l0 x12_1).f0), .int .i64 ((rd_T42 l0 x12_1).f1)] 42 (0, 0)) (by (with_reducible repeat (first | refine blk_drewN ?_ _ | refine blk_drew ?_ | refine blk_alloc ?_ _)); exact BK439.out) hb)
         have n2_ := Aside0.mk (below_step (by repeat (first | (with_reducible first | exact HB.out | apply below_alloc | apply pw_below_drewN | apply below_drew1 | refine below_set ?_ GE439.out) | exact HB.out)) hb)
         clear HO_3
         clear BK439
         clear HB
         have HO_3 := n0_
         have BK439 := n1_
         have HB := n2_
         clear n0_ n1_ n2_
         (try clear hb)
         (try clear hb2)
         (try clear hk)
         (try clear hi)
         have p11 : 0 ≤ (((rd_T42 l0 x12_1).f0) : Int) := of_decide_eq_true (by first | (with_reducible assumption) | assumption)
         have q11 : (((rd_T42 l0 x12_1).f0) : Int) < ((x3_1.length : Int) : Int) := of_decide_eq_true (by first | (with_reducible assumption) | assumption)
         obtain ⟨go11, co11, eo11, gb11, gl11, cl11, HG11⟩ := Kd.R_form HO_3.out (by omega)
         (first | cases eo11 | (injection eo11 with ea_ en_ ec_; (first | subst ea_ | (injection ea_ with ea_; subst ea_)); subst ec_; clear en_))
         have GB11 := Aside0.mk gb11
         have GG11 := Aside0.mk HG11
         clear gb11 gl11 HG11
         obtain ⟨hx11_0, hf11_0⟩ := Kd.R_celln 0 HO_3.out (((rd_T42 l0 x12_1).f0) : Int) p11 q11
         replace p11 := eq_true p11
         replace q11 := eq_true q11
         have HP17 := Kd.R_putn HO_3.out (((rd_T42 l0 x12_1).f0) : Int) t440
         rw [← Ny441.out] at HP17
         have HQ17 := Aside0.mk HP17
         clear HP17
         refine hK.out _ _ ⟨(blk_cell BK439.out 0).trans rfl, (blk_cell BK439.out 1).trans rfl⟩ (fun hHeld => ?_)
         clear hK K
         refine norm_ (a' := ?_) ?_ ?_
         rotate_left
         ·show Act.put _ (some 23) _ = _
          simp only [sp_]
          rfl
         refine pv (i := 8) (N := some 24) (bA 10 511) rfl rfl (any_of HT_.out (by kernel_rfl)) ?_
         refine last_ (i := 9) (N := none) (bA 10 1023) rfl rfl (one_of HT_.out (by kernel_rfl)) (by decide) (fun K hK => ?_)
         refine skip_ (w1 := ?_) (by rfl) rfl ?_ ?_
         rotate_left
         ·go_simp
          rfl
         refine hK.out _ _ ?_
         clear hK K
         refine done_ (done_of HT_.out (by kernel_rfl)) ?_
         try go_wp2
         go_roundg k1
         case measure => have := HK1.out; omega
         case rel => exact ⟨(y441), (wrap64 (x12_1 + 1)), (by first | rfl | (simp; done) | (simp [*]; done)), H', ⟨by have := HK1.out; omega⟩, ⟨by (with_reducible repeat (first | apply Kd.R_alloc | apply Kd.R_drewN | apply Kd.R_drew)); exact HQ17.out⟩, ⟨by repeat (first | (with_reducible first | exact HB.out | apply below_alloc | apply pw_below_drewN | apply below_drew1 | refine below_set ?_ GB11.out | refine below_set ?_ GE439.out) | exact HB.out)⟩⟩
        ·rw [if_neg c10] at H
         exact absurd H (by simp)
       ·rw [if_neg c9] at H
        exact absurd H (by simp)
      ·rw [if_neg c7] at H
       exact absurd H (by simp)
     ·rw [if_neg c6] at H
      exact absurd H (by simp)
    ·rw [if_neg c5] at H
     have c5b0 : decide (x12_1 < (l0.length : Int)) = false := decide_eq_false c5
     clear c5
     obtain ⟨y442, hy442⟩ : ∃ y_ : List (List Int), y_ = (([x3_1] : List (List Int))) := ⟨_, rfl⟩
     replace H : (impl_levels.l1 k1 x3_1 y442) = some r := by first | (rw [hy442]; with_reducible exact H) | (have H2_ := (Option.bind_some _ _).symm.trans H; rw [hy442]; with_reducible exact H2_) | (have H2_ := (Option.bind_some _ _).symm.trans H; with_reducible exact H2_) | with_reducible exact H | (rw [hy442]; exact H) | exact H
     have Ny442 := Aside0.mk hy442
     clear hy442
     have H' := Aside0.mk H
     clear H
     obtain ⟨Ao18, co18, eo18⟩ := Kd.R_slice HO_3.out
     subst eo18
     go_wp2_with (first | ((with_reducible refine gate_dst (N := 27) rfl ?_); refine Kd.N_lit (Kd.slice 2 (Kd.int .i64)) _ 28 ?hg (N' := 27) ?hd (xs := ([x3_1] : List (List Int))) (inner := [.slice Ao18 x3_1.length co18]) (ok := (fun k_ => (w.heap.size ≤ k_))) (okp := (fun k_ => (w.heap.size ≤ k_))) ?hr ?hp (fun _ hk => hk) ((show ∀ k_, wr.heap.size ≤ k_ → (fun k_ => (w.heap.size ≤ k_)) k_ from fun k_ hk => (Nat.le_trans (below_size (by repeat (first | (with_reducible first | exact HB.out | apply below_alloc | apply pw_below_drewN | apply below_drew1) | exact HB.out))) hk)) _ (Nat.le_refl _)) (Below.refl _ _) (Nat.le_refl _) (by simp) ?_; (case hd => rfl); (case hg => rfl); (case hr => first | (go_simp; done) | (go_simp; rfl)); (case hp => exact (Reps.one (show Kd.FK (Kd.slice 2 (Kd.int .i64)) _ _ x3_1 [.slice Ao18 x3_1.length co18] from (Kd.FK_slice_mk (Kd.R_reads' (Kd.R_mono (ok' := (fun k_ => (w.heap.size ≤ k_))) (HO_3.out) (fun k_ hk => hk))).2.1 (Kd.R_F (Kd.R_mono (ok' := (fun k_ => (w.heap.size ≤ k_))) (HO_3.out) (fun k_ hk => hk))))) (Reps.none _ _))); intro v443 w19 ho20 hb hg_ hnew_; clear hg_ hnew_; have m90_ := Aside0.mk (Kd.R_below (by (with_reducible repeat (first | apply Kd.R_alloc | apply Kd.R_drewN | apply Kd.R_drew)); exact HO_3.out) hb); (first | rw [← Ny442.out] at ho20 | (simp only [Int.reduceToNat] at ho20; rw [← Ny442.out] at ho20)); have n0_ := Aside0.mk (Kd.N_lower ho20 (below_size (by repeat (first | (with_reducible first | exact HB.out | apply below_alloc | apply pw_below_drewN | apply below_drew1) | exact HB.out)))); have n1_ := Aside0.mk (below_step (by repeat (first | (with_reducible first | exact HB.out | apply below_alloc | apply pw_below_drewN | apply below_drew1) | exact HB.out)) hb); clear HB; clear HO_3; have HO444 := n0_; have HB := n1_; clear n0_ n1_; have HO_3 := m90_; clear m90_; clear hb ho20))
     go_loopg [3, 6] k1 (fun kq v3 v6 w' => ∃ (x3_2 : List Int) (x6_2 : List (List Int)), Aside0 (impl_levels.l1 kq x3_2 x6_2 = some r) ∧ Aside0 (kq ≤ k1) ∧ Aside0 (Kd.R (Kd.int .i64) 2 w' w.heap.size (fun k_ => (w.heap.size ≤ k_)) v3 x3_2) ∧ Aside0 (Kd.N (Kd.slice 2 (Kd.int .i64)) 28 w' w.heap.size (fun k_ => (w.heap.size ≤ k_)) v6 x6_2) ∧ Aside0 (Below w.heap.size w w'))
     case atStart => exact ⟨(x3_1), (y442), H', ⟨Nat.le_refl _⟩, ⟨by (with_reducible repeat (first | apply Kd.R_alloc | apply Kd.R_drewN | apply Kd.R_drew)); exact Kd.R_mono (Kd.R_mono (Kd.R_bound HO_3.out) (fun k_ hk_ => And.intro hk_.2.1 hk_.1)) (fun _ hk => hk.1)⟩, ⟨by (with_reducible repeat (first | apply Kd.N_alloc | apply Kd.N_drewN | apply Kd.N_drew)); exact HO444.out⟩, ⟨by repeat (first | (with_reducible first | exact HB.out | apply below_alloc | apply pw_below_drewN | apply below_drew1) | exact HB.out)⟩⟩
     case round =>
      clear H'
      try clear c1
      try clear p1
      try clear q1
      try clear hx1
      try clear hf1
      try clear c2
      try clear c2b0
      try clear c2b1
      try clear p2
      try clear c4
      try clear p4
      try clear q4
      try clear hx4
      try clear c5
      try clear c5b0
      try clear c6
      try clear c6b0
      try clear p6
      try clear c7
      try clear c7b0
      try clear c9
      try clear c9b0
      try clear c10
      try clear c10b0
      try clear p11
      try clear q11
      try clear hx11
      try clear hf11
      try clear hcz13_0
      try clear hcz13_1
      try clear hfz13_0
      try clear hfz13_1
      try clear hx11_0
      try clear hx438_0
      try clear hx438_1
      try clear p11
      try clear p2
      try clear p438
      try clear q11
      try clear q438
      obtain ⟨x3_2, x6_2, HA, HK2, HO_3, HO_6, HB⟩ := hrel
      cases gk with
      | zero => exact absurd HA.out (by simp [impl_levels.l1])
      | succ k2 =>
       have H := HA.out
       clear HA
       simp only [impl_levels.l1] at H
       by_cases c21 : (x3_2.length : Int) > 1
       ·rw [if_pos c21] at H
        have c21b0 : decide (1 < (x3_2.length : Int)) = true := decide_eq_true c21
        have c21b1 : decide (1 < x3_2.length) = true := decide_eq_true (by omega)
        clear c21
        obtain ⟨y445, hy445⟩ : ∃ y_ : List Int, y_ = (([] : List Int)) := ⟨_, rfl⟩
        replace H : (impl_levels.l2 k2 x3_2 x6_2 y445 0) = some r := by first | (rw [hy445]; with_reducible exact H) | (have H2_ := (Option.bind_some _ _).symm.trans H; rw [hy445]; with_reducible exact H2_) | (have H2_ := (Option.bind_some _ _).symm.trans H; with_reducible exact H2_) | with_reducible exact H | (rw [hy445]; exact H) | exact H
        have Ny445 := Aside0.mk hy445
        clear hy445
        have H' := Aside0.mk H
        clear H
        obtain ⟨Ao22, co22, eo22⟩ := Kd.R_slice HO_3.out
        subst eo22
        go_wp2_with (first | ((with_reducible refine gate_dst (N := 31) rfl ?_); refine Kd.R_lit (Kd.int .i64) _ 2 ?hg (N := 31) ?hd (xs := ([] : List Int)) (inner := []) (ok := fun _ => True) (okp := fun _ => True) ?hr ?hp (fun _ hk => hk) trivial (Below.refl _ _) (Nat.le_refl _) (by simp) ?_; (case hd => rfl); (case hg => rfl); (case hr => first | (go_simp; done) | (go_simp; rfl)); (case hp => exact (Reps.none _ _)); intro v446 w23 ho24 hb hg_ hnew_; clear hg_ hnew_; (first | rw [← Ny445.out] at ho24 | (simp only [Int.reduceToNat] at ho24; rw [← Ny445.out] at ho24)); have n0_ := Aside0.mk (Kd.R_elder' (by (with_reducible repeat (first | apply Kd.R_alloc | apply Kd.R_drewN | apply Kd.R_drew)); exact HO_3.out) (Kd.R_base ho24) hb); have n1_ := Aside0.mk (Kd.N_elder' (by (with_reducible repeat (first | apply Kd.N_alloc | apply Kd.N_drewN | apply Kd.N_drew)); exact HO_6.out) (Kd.R_base ho24) hb); have n2_ := Aside0.mk (Kd.R_lower (Kd.R_new' (Kd.R_newM (M := fun k_ => (w.heap.size ≤ k_)) ho24 (below_size (by repeat (first | (with_reducible first | exact HB.out | apply below_alloc | apply pw_below_drewN | apply below_drew1) | exact HB.out))) (fun k_ h_ => h_)) (Kd.R_lt (by (with_reducible repeat (first | apply Kd.R_alloc | apply Kd.R_drewN | apply Kd.R_drew)); exact HO_3.out))) (below_size (by repeat (first | (with_reducible first | exact HB.out | apply below_alloc | apply pw_below_drewN | apply below_drew1) | exact HB.out)))); have n3_ := Aside0.mk (below_step (by repeat (first | (with_reducible first | exact HB.out | apply below_alloc | apply pw_below_drewN | apply below_drew1) | exact HB.out)) hb); clear HO_3; clear HO_6; clear HB; have HO_3 := n0_; have HO_6 := n1_; have HO447 := n2_; have HB := n3_; clear n0_ n1_ n2_ n3_; clear hb ho24))
        go_loopg [7, 8] k2 (fun kq v7 v8 w' => ∃ (x7_3 : List Int) (x8_3 : Int), v8 = .int .i64 x8_3 ∧ Aside0 (impl_levels.l2 kq x3_2 x6_2 x7_3 x8_3 = some r) ∧ Aside0 (kq ≤ k2) ∧ Aside0 (Kd.R (Kd.int .i64) 2 w' w.heap.size (fun k_ => (w.heap.size ≤ k_) ∧ some k_ ≠ (v7 : Value).ownBlock) (.slice Ao22 x3_2.length co22) x3_2) ∧ Aside0 (Kd.N (Kd.slice 2 (Kd.int .i64)) 28 w' w.heap.size (fun k_ => (w.heap.size ≤ k_) ∧ some k_ ≠ (v7 : Value).ownBlock) u6 x6_2) ∧ Aside0 (Kd.R (Kd.int .i64) 2 w' w.heap.size (fun k_ => (w.heap.size ≤ k_) ∧ some k_ ≠ ((.slice Ao22 x3_2.length co22) : Value).ownBlock) v7 x7_3) ∧ Aside0 (Below w.heap.size w w'))
        case atStart => exact ⟨(y445), (0), (by first | rfl | (simp; done) | (simp [*]; done)), H', ⟨Nat.le_refl _⟩, ⟨by (with_reducible repeat (first | apply Kd.R_alloc | apply Kd.R_drewN | apply Kd.R_drew)); exact HO_3.out⟩, ⟨by (with_reducible repeat (first | apply Kd.N_alloc | apply Kd.N_drewN | apply Kd.N_drew)); exact HO_6.out⟩, ⟨by (with_reducible repeat (first | apply Kd.R_alloc | apply Kd.R_drewN | apply Kd.R_drew)); exact Kd.R_mono HO447.out (fun _ hk => And.intro hk.1.1 hk.2)⟩, ⟨by repeat (first | (with_reducible first | exact HB.out | apply below_alloc | apply pw_below_drewN | apply below_drew1) | exact HB.out)⟩⟩
        case round =>
         clear H'
         try clear c1
         try clear p1
         try clear q1
         try clear hx1
         try clear hf1
         try clear c2
         try clear c2b0
         try clear c2b1
         try clear p2
         try clear c4
         try clear p4
         try clear q4
         try clear hx4
         try clear c5
         try clear c5b0
         try clear c6
         try clear c6b0
         try clear p6
         try clear c7
         try clear c7b0
         try clear c9
         try clear c9b0
         try clear c10
         try clear c10b0
         try clear p11
         try clear q11
         try clear hx11
         try clear hf11
         try clear c21
         try clear c21b0
         try clear c21b1
         try clear hcz13_0
         try clear hcz13_1
         try clear hfz13_0
         try clear hfz13_1
         try clear hx11_0
         try clear hx438_0
         try clear hx438_1
         try clear p1
         try clear p11
         try clear p2
         try clear p4
         try clear p438
         try clear p6
         try clear q1
         try clear q11
         try clear q4
         try clear q438
         obtain ⟨x7_3, x8_3, rfl, HA, HK3, HO_3, HO_6, HO_7, HB⟩ := hrel
         cases gk with
         | zero => exact absurd HA.out (by simp [impl_levels.l2])
         | succ k3 =>
          have H := HA.out
          clear HA
          simp only [impl_levels.l2] at H
          by_cases c25 : x8_3 < (x3_2.length : Int)
          ·rw [if_pos c25] at H
           have c25b0 : decide (x8_3 < (x3_2.length : Int)) = true := decide_eq_true c25
           clear c25
           by_cases c26 : 0 ≤ x8_3
           ·rw [if_pos c26] at H
            have c26b0 : decide (0 ≤ x8_3) = true := decide_eq_true c26
            clear c26
            obtain ⟨ji27, hji27⟩ : ∃ j_ : Int, (wrap64 (x8_3 + 1)) = j_ := ⟨_, rfl⟩
            replace H : (if 0 ≤ (ji27) then (if (ji27) < (x3_2.length : Int) then ((impl_Pair.f k3 (rd x3_2 x8_3) (rd x3_2 (ji27))).bind fun t450 => (if x7_3.length < 17592186044416 then (impl_levels.l2 k3 x3_2 x6_2 (x7_3 ++ [t450]) (wrap64 (x8_3 + 2))) else (none))) else (none)) else (none)) = some r := by first | (rw [hji27] at H; exact H) | (simp only [hji27] at H ⊢; exact H)
            have hji27w : (IntKind.i64.wrap (x8_3 + 1)) = ji27 := (i64_w _).trans hji27
            by_cases c28 : 0 ≤ (ji27)
            ·rw [if_pos c28] at H
             have c28b0 : decide (0 ≤ (ji27)) = true := decide_eq_true c28
             clear c28
             by_cases c29 : (ji27) < (x3_2.length : Int)
             ·rw [if_pos c29] at H
              have c29b0 : decide ((ji27) < (x3_2.length : Int)) = true := decide_eq_true c29
              clear c29
              replace H := Option.bind_eq_some_iff.mp H
              obtain ⟨t450, A300, H⟩ := H
              replace H : (if x7_3.length < 17592186044416 then (impl_levels.l2 k3 x3_2 x6_2 (x7_3 ++ [t450]) (wrap64 (x8_3 + 2))) else (none)) = some r := H
              have A30 := Aside0.mk A300
              clear A300
              by_cases c31 : x7_3.length < 17592186044416
              ·rw [if_pos c31] at H
               have LMc31 := Aside0.mk c31
               clear c31
               obtain ⟨y451, hy451⟩ : ∃ y_ : List Int, y_ = (x7_3 ++ [t450]) := ⟨_, rfl⟩
               replace H : (impl_levels.l2 k3 x3_2 x6_2 y451 (wrap64 (x8_3 + 2))) = some r := by first | (rw [hy451]; with_reducible exact H) | (have H2_ := (Option.bind_some _ _).symm.trans H; rw [hy451]; with_reducible exact H2_) | (have H2_ := (Option.bind_some _ _).symm.trans H; with_reducible exact H2_) | with_reducible exact H | (rw [hy451]; exact H) | exact H
               have Ny451 := Aside0.mk hy451
               clear hy451
               have H' := Aside0.mk H
               clear H
               try go_wp2
               have n0_ := Aside0.mk (Kd.R_drew HO_3.out)
               have n1_ := Aside0.mk (Kd.N_drew HO_6.out)
               have n2_ := Aside0.mk (Kd.R_drew HO_7.out)
               have n3_ := Aside0.mk (below_drew1 HB.out)
               clear HO_3
               clear HO_6
               clear HO_7
               clear HB
               have HO_3 := n0_
               have HO_6 := n1_
               have HO_7 := n2_
               have HB := n3_
               clear n0_ n1_ n2_ n3_
               have p448 : 0 ≤ (x8_3 : Int) := of_decide_eq_true (by first | (with_reducible assumption) | assumption)
               have q448 : x8_3 < (x3_2.length : Int) := of_decide_eq_true (by first | (with_reducible assumption) | assumption)
               obtain ⟨ad448, e448, hx448_0⟩ := Kd.at_int (Kd.R_reads' HO_3.out).2.2 x8_3 p448 q448
               cases e448
               replace p448 := eq_true p448
               replace q448 := eq_true q448
               have p449 : 0 ≤ ((ji27) : Int) := of_decide_eq_true (by first | (with_reducible assumption) | assumption)
               have q449 : (ji27) < (x3_2.length : Int) := of_decide_eq_true (by first | (with_reducible assumption) | assumption)
               obtain ⟨ad449, e449, hx449_0⟩ := Kd.at_int (Kd.R_reads' HO_3.out).2.2 (ji27) p449 q449
               obtain rfl : ad448 = ad449 := (by injection e449)
               replace p449 := eq_true p449
               replace q449 := eq_true q449
               refine start_ (n := 14) (S := fun w' => w'.cell? (ad448.add (x8_3).toNat) = some (.int .i64 (rd x3_2 x8_3)) ∧ w'.cell? (ad448.add ((ji27)).toNat) = some (.int .i64 (rd x3_2 (ji27)))) (ds := [11, 12]) (bA 14 0) (by kernel_rfl) rfl rfl ⟨hx448_0, hx449_0⟩ (fun hHeld => ?_); refine with_tabW impl_levels.tab13 impl_levels.bits13 (fun HT_ HW_ => ?_)
               generalize wr.drew = w32 at HO_3 HO_6 HO_7 HB hx448_0 hx449_0 hHeld ⊢
               refine pv (i := 0) (N := some 38) (bA 14 1) rfl rfl (any_of HT_.out (by kernel_rfl)) ?_
               refine pv (i := 1) (N := some 39) (bA 14 3) rfl rfl (any_of HT_.out (by kernel_rfl)) ?_
               refine pv (i := 2) (N := some 40) (bA 14 7) rfl rfl (any_of HT_.out (by kernel_rfl)) ?_
               refine pv (i := 3) (N := some 41) (bA 14 15) rfl rfl (any_of HT_.out (by kernel_rfl)) ?_
               refine pv (i := 5) (N := some 43) (bA 14 47) rfl rfl (any_of HT_.out (by kernel_rfl)) ?_
               refine pv (i := 6) (N := some 44) (bA 14 111) rfl rfl (any_of HT_.out (by kernel_rfl)) ?_
               refine pv (i := 7) (N := some 45) (bA 14 239) rfl rfl (any_of HT_.out (by kernel_rfl)) ?_
               refine pv (i := 8) (N := some 46) (bA 14 495) rfl rfl (any_of HT_.out (by kernel_rfl)) ?_
               refine take_ (i := 4) (N := some 42) (v := ?_) (a' := ?_) (bA 14 511) rfl rfl (take_ofW HT_.out HW_.out (by kernel_rfl)) (fun _ _ _ h => h) (Or.inl ⟨by rfl, ?_⟩) hHeld ?_ ?_
               rotate_left
               ·rintro w' ⟨s0, s1⟩
                go_simp
                with_reducible rfl
               rotate_left
               ·simp only [sp_]
                rfl
               refine take_ (i := 9) (N := some 47) (v := ?_) (a' := ?_) (bA 14 1023) rfl rfl (take_ofW HT_.out HW_.out (by kernel_rfl)) (fun _ _ _ h => h) (Or.inl ⟨by rfl, ?_⟩) hHeld ?_ ?_
               rotate_left
               ·rintro w' ⟨s0, s1⟩
                go_simp
                with_reducible rfl
               rotate_left
               ·simp only [sp_]
                rfl
               refine one_ (i := 10) (N := some 48) (bA 14 2047) rfl rfl (one_of HT_.out (by kernel_rfl)) (by decide) (fun K hK => ?_)
               refine goes_ Tryd.func55 (by kernel_rfl) rfl #[.int .i64 (rd x3_2 x8_3), .int .i64 (rd x3_2 (ji27))] (by rfl) rfl rfl (by (try simp only [List.map_toArray, List.map_cons, List.map_nil]); first | done | (simp only [hji27]; rfl) | rfl | (simp only [List.length_drop, List.length_take]; rfl)) ?_
               with_reducible refine (impl_Pair.calls k3 (rd x3_2 x8_3) (rd x3_2 (ji27)) t450 _ A30.out (tab_at HT.out (by repeat (first | (with_reducible first | exact HB.out | apply below_alloc | apply pw_below_drewN | apply below_drew1 | (refine below_set ?_ (Aside0.out (by assumption)))) | exact HB.out)))).mono ?_
               rintro e w33 ⟨rfl, hb⟩
               have HS0_ := (hb.cell (World.block_lt_of_cell? _ _ (hHeld.1))).trans (hHeld.1)
               have HS1_ := (hb.cell (World.block_lt_of_cell? _ _ (hHeld.2))).trans (hHeld.2)
               refine ⟨_, rfl, ?_⟩
               have n0_ := Aside0.mk (Kd.R_below (by (with_reducible repeat (first | apply Kd.R_alloc | apply Kd.R_drewN | apply Kd.R_drew)); exact HO_3.out) hb)
               have n1_ := Aside0.mk (Kd.N_below (by (with_reducible repeat (first | apply Kd.N_alloc | apply Kd.N_drewN | apply Kd.N_drew)); exact HO_6.out) hb)
               have n2_ := Aside0.mk (Kd.R_below (by (with_reducible repeat (first | apply Kd.R_alloc | apply Kd.R_drewN | apply Kd.R_drew)); exact HO_7.out) hb)
               have n3_ := Aside0.mk (below_step (by repeat (first | (with_reducible first | exact HB.out | apply below_alloc | apply pw_below_drewN | apply below_drew1) | exact HB.out)) hb)
               clear HO_3
               clear HO_6
               clear HO_7
               clear HB
               have HO_3 := n0_
               have HO_6 := n1_
               have HO_7 := n2_
               have HB := n3_
               clear n0_ n1_ n2_ n3_
               (try clear hb)
               (try clear hb2)
               (try clear hk)
               (try clear hi)
               refine hK.out _ _ ⟨HS0_, HS1_⟩ (fun hHeld => ?_)
               clear hK K
               refine norm_ (a' := ?_) ?_ ?_
               rotate_left
               ·show Act.put _ (some 48) _ = _
                simp only [sp_]
                rfl
               refine last_ (i := 11) (N := some 49) (bA 14 4095) rfl rfl (one_of HT_.out (by kernel_rfl)) (by decide) (fun K hK => ?_)
               refine value_ (w1 := ?_) (v := ?_) (by rfl) rfl ?_ ?_
               rotate_left 2
               ·go_simp
                constructor
                ·rfl
                ·rfl
               refine hK.out _ _ ?_
               clear hK K
               refine norm_ (a' := ?_) ?_ ?_
               rotate_left
               ·show Act.put _ (some 49) _ = _
                simp only [sp_]
                rfl
               refine last_ (i := 12) (N := some 50) (bA 14 8191) rfl rfl (one_of HT_.out (by kernel_rfl)) (by decide) (fun K hK => ?_)
               refine Kd.R_append_step (Kd.int .i64) (w0 := w) w.heap.size (by rfl) (.tmp 38) (.tmp 49) 28 2 (.int .i64 0) 8 rfl Tryd.underlying28 info2 rfl (by decide) (by omega) u7 x7_3 t450 [.int .i64 t450] (fun k_ => (w.heap.size ≤ k_) ∧ some k_ ≠ (.slice (some ad448) x3_2.length co22 : Value).ownBlock) (fun _ => False) rfl rfl ?aP (fun _ hk => hk.elim) ?aF ?aO ?aB ?aS ?aL ?_
               (case aP => exact rfl)
               (case aB => exact (by repeat (first | (with_reducible first | exact HB.out | apply below_alloc | apply pw_below_drewN | apply below_drew1) | exact HB.out)))
               (case aF => exact (fun k_ hk => ⟨(Nat.le_trans (below_size (by repeat (first | (with_reducible first | exact HB.out | apply below_alloc | apply pw_below_drewN | apply below_drew1) | exact HB.out))) hk), Kd.fresh' (Kd.R_lt (by (with_reducible repeat (first | apply Kd.R_alloc | apply Kd.R_drewN | apply Kd.R_drew)); exact HO_3.out)) k_ hk⟩))
               (case aO => exact (by (with_reducible repeat (first | apply Kd.R_alloc | apply Kd.R_drewN | apply Kd.R_drew)); exact HO_7.out))
               (case aS => exact (below_size (by repeat (first | (with_reducible first | exact HB.out | apply below_alloc | apply pw_below_drewN | apply below_drew1) | exact HB.out))))
               (case aL => have := LMc31.out; omega)
               intro v452 w34 ho hb hg hat
               rw [← Ny451.out] at ho
               have n0_ := Aside0.mk (Kd.R_after (ok := (fun k_ => (w.heap.size ≤ k_))) (by (with_reducible repeat (first | apply Kd.R_alloc | apply Kd.R_drewN | apply Kd.R_drew)); exact HO_3.out) hg hat)
               have n1_ := Aside0.mk (Kd.N_afterv (ok := (fun k_ => (w.heap.size ≤ k_))) (by (with_reducible repeat (first | apply Kd.N_alloc | apply Kd.N_drewN | apply Kd.N_drew)); exact HO_6.out) hg hat)
               have n2_ := Aside0.mk (hb)
               have n3_ := Aside0.mk (ho)
               clear HO_3
               clear HO_6
               clear HB
               clear HO_7
               have HO_3 := n0_
               have HO_6 := n1_
               have HB := n2_
               have HO453 := n3_
               clear n0_ n1_ n2_ n3_
               clear ho hb hg hat
               refine hK.out _ _ ?_
               clear hK K
               refine norm_ (a' := ?_) ?_ ?_
               rotate_left
               ·show Act.put _ (some 50) _ = _
                simp only [sp_]
                rfl
               refine pv (i := 13) (N := some 7) (bA 14 16383) rfl rfl (any_of HT_.out (by kernel_rfl)) ?_
               refine done_ (done_of HT_.out (by kernel_rfl)) ?_
               try go_wp2
               go_roundg k3
               case measure => have := HK1.out; have := HK2.out; have := HK3.out; omega
               case rel => exact ⟨(y451), (wrap64 (x8_3 + 2)), (by first | rfl | (simp; done) | (simp [*]; done)), H', ⟨by have := HK1.out; have := HK2.out; have := HK3.out; omega⟩, ⟨by (with_reducible repeat (first | apply Kd.R_alloc | apply Kd.R_drewN | apply Kd.R_drew)); exact HO_3.out⟩, ⟨by (with_reducible repeat (first | apply Kd.N_alloc | apply Kd.N_drewN | apply Kd.N_drew)); exact HO_6.out⟩, ⟨by (with_reducible repeat (first | apply Kd.R_alloc | apply Kd.R_drewN | apply Kd.R_drew)); exact HO453.out⟩, ⟨by repeat (first | (with_reducible first | exact HB.out | apply below_alloc | apply pw_below_drewN | apply below_drew1) | exact HB.out)⟩⟩
              ·rw [if_neg c31] at H
               exact absurd H (by simp)
             ·rw [if_neg c29] at H
              exact absurd H (by simp)
            ·rw [if_neg c28] at H
             exact absurd H (by simp)
           ·rw [if_neg c26] at H
            exact absurd H (by simp)
          ·rw [if_neg c25] at H
           have c25b0 : decide (x8_3 < (x3_2.length : Int)) = false := decide_eq_false c25
           clear c25
           by_cases c35 : x6_2.length < 5864062014805
           ·rw [if_pos c35] at H
            have LMc35 := Aside0.mk c35
            clear c35
            obtain ⟨y454, hy454⟩ : ∃ y_ : List (List Int), y_ = (x6_2 ++ [x7_3]) := ⟨_, rfl⟩
            replace H : (impl_levels.l1 k3 x7_3 y454) = some r := by first | (rw [hy454]; with_reducible exact H) | (have H2_ := (Option.bind_some _ _).symm.trans H; rw [hy454]; with_reducible exact H2_) | (have H2_ := (Option.bind_some _ _).symm.trans H; with_reducible exact H2_) | with_reducible exact H | (rw [hy454]; exact H) | exact H
            have Ny454 := Aside0.mk hy454
            clear hy454
            have H' := Aside0.mk H
            clear H
            obtain ⟨Ao37, co37, eo37⟩ := Kd.R_slice HO_7.out
            subst eo37
            go_wp2_with (first | ((with_reducible refine gate_builtin (b := .append) (xs := #[.tmp 51, .tmp 53]) rfl ?_); at_builtin; refine Kd.N_append (Kd.slice 2 (Kd.int .i64)) (w0 := w) w.heap.size rfl (.tmp 51) (.tmp 53) 62 28 (.slice none 0 0) 24 rfl Tryd.underlying62 info28 rfl (by decide) (by omega) u6 x6_2 x7_3 [.slice Ao37 x7_3.length co37] (fun k_ => (w.heap.size ≤ k_)) (fun k_ => ((fun k_ => (w.heap.size ≤ k_))) k_ ∧ some k_ ≠ (u6 : Value).ownBlock) rfl rfl ?aP (fun _ hk => hk) ?aF ?aO ?aB ?aS ?aL ?_; (case aP => exact (Kd.FK_slice_mk (Kd.R_reads' (Kd.R_mono (ok' := (fun k_ => ((fun k_ => (w.heap.size ≤ k_))) k_ ∧ some k_ ≠ (u6 : Value).ownBlock)) (Kd.R_apart' (HO_7.out) (Kd.N_typed HO_6.out) (by decide)) (fun k_ hk => ⟨hk.1.1, hk.2⟩))).2.1 (Kd.R_F (Kd.R_mono (ok' := (fun k_ => ((fun k_ => (w.heap.size ≤ k_))) k_ ∧ some k_ ≠ (u6 : Value).ownBlock)) (Kd.R_apart' (HO_7.out) (Kd.N_typed HO_6.out) (by decide)) (fun k_ hk => ⟨hk.1.1, hk.2⟩))))); (case aB => exact (by repeat (first | (with_reducible first | exact HB.out | apply below_alloc | apply pw_below_drewN | apply below_drew1) | exact HB.out))); (case aF => exact (fun k_ hk => (Nat.le_trans (below_size (by repeat (first | (with_reducible first | exact HB.out | apply below_alloc | apply pw_below_drewN | apply below_drew1) | exact HB.out))) hk))); (case aO => exact (by (with_reducible repeat (first | apply Kd.N_alloc | apply Kd.N_drewN | apply Kd.N_drew)); exact Kd.N_mono HO_6.out (fun _ hk => hk.1))); (case aS => exact (below_size (by repeat (first | (with_reducible first | exact HB.out | apply below_alloc | apply pw_below_drewN | apply below_drew1) | exact HB.out)))); (case aL => have := LMc35.out; omega); intro v455 w36 ho hb hg hat; rw [← Ny454.out] at ho; have m9_ := Aside0.mk (Kd.R_over' (by (with_reducible repeat (first | apply Kd.R_alloc | apply Kd.R_drewN | apply Kd.R_drew)); exact HO_7.out) (Kd.N_typed (by (with_reducible repeat (first | apply Kd.N_alloc | apply Kd.N_drewN | apply Kd.N_drew)); exact HO_6.out)) (by decide) hg); have n0_ := Aside0.mk (Kd.R_over' (by (with_reducible repeat (first | apply Kd.R_alloc | apply Kd.R_drewN | apply Kd.R_drew)); exact HO_3.out) (Kd.N_typed (by (with_reducible repeat (first | apply Kd.N_alloc | apply Kd.N_drewN | apply Kd.N_drew)); exact HO_6.out)) (by decide) hg); have n1_ := Aside0.mk (hb); have n2_ := Aside0.mk (ho); clear HO_3; clear HB; clear HO_6; clear HO_7; have HO_3 := n0_; have HB := n1_; have HO456 := n2_; clear n0_ n1_ n2_; have HO_7 := m9_; clear m9_; clear ho hb hg hat))
            go_roundg k3
            case measure => have := HK1.out; have := HK2.out; have := HK3.out; omega
            case rel => exact ⟨(x7_3), (y454), H', ⟨by have := HK1.out; have := HK2.out; have := HK3.out; omega⟩, ⟨by (with_reducible repeat (first | apply Kd.R_alloc | apply Kd.R_drewN | apply Kd.R_drew)); exact Kd.R_mono (Kd.R_mono (Kd.R_bound HO_7.out) (fun k_ hk_ => And.intro hk_.2.1 hk_.1)) (fun _ hk => hk.1)⟩, ⟨by (with_reducible repeat (first | apply Kd.N_alloc | apply Kd.N_drewN | apply Kd.N_drew)); exact HO456.out⟩, ⟨by repeat (first | (with_reducible first | exact HB.out | apply below_alloc | apply pw_below_drewN | apply below_drew1) | exact HB.out)⟩⟩
           ·rw [if_neg c35] at H
            exact absurd H (by simp)
       ·rw [if_neg c21] at H
        have c21b0 : decide (1 < (x3_2.length : Int)) = false := decide_eq_false c21
        have c21b1 : decide (1 < x3_2.length) = false := decide_eq_false (by omega)
        clear c21
        obtain rfl := Option.some.inj H
        obtain ⟨Ao38, co38, eo38⟩ := Kd.R_slice HO_3.out
        subst eo38
        go_wp2
        go_ret
        exact ⟨_, by first | rfl | (simp [errW_none, errW_some] <;> rfl) | (simp [*, errW_none, errW_some] <;> rfl), by (with_reducible repeat (first | apply Kd.N_alloc | apply Kd.N_drewN | apply Kd.N_drew)); exact HO_6.out, by repeat (first | (with_reducible first | exact HB.out | apply below_alloc | apply pw_below_drewN | apply below_drew1) | exact HB.out)⟩
 ·rw [if_neg c2] at H
  exact absurd H (by simp)

/-! ### impl_Peak: function 14 -/
def impl_Peak.f (k : Nat) (l0 : List (S42)) : Option (Int) := (impl_LeavesOk.f k l0).bind fun t457 => (if t457 = true then ((impl_levels.f k l0).bind fun t458 => (if 8 < (t458.length : Int) then (if 0 < ((rd_L3 t458 8).length : Int) then (some (rd (rd_L3 t458 8) 0)) else (none)) else (none))) else (some (-1)))
theorem impl_Peak.mono : ∀ a0 k, LeO (impl_Peak.f k a0) (impl_Peak.f (k + 1) a0) := by
 intro a0 k
 unfold impl_Peak.f
 repeat' first
   | (with_reducible exact impl_LeavesOk.mono _ _)
   | (with_reducible exact impl_levels.mono _ _)
   | (with_reducible exact LeO.refl _)
   | (with_reducible exact LeO.none _)
   | (with_reducible refine LeO.ite ?_ ?_)
   | (with_reducible refine LeO.bind ?_ (fun _ => ?_))
   | exact impl_LeavesOk.mono _ _
   | exact impl_levels.mono _ _
   | exact LeO.none _
   | refine LeO.ite ?_ ?_
   | refine LeO.bind ?_ (fun _ => ?_)
set_option maxHeartbeats 8000000 in
set_option maxRecDepth 100000 in
theorem impl_Peak.calls (k : Nat) (A0 : Option Addr) (c0 : Nat) (l0 : List (S42)) (r : Int) (w : World) (hr0 : Kd.C k42 w A0 l0.length l0) (hc0 : l0.length ≤ c0) (h : impl_Peak.f k l0 = some r) (hT : TabOk w) :
  Calls Tryd.prog 14 #[.slice A0 l0.length c0] w fun e w' => e = .returned (.int .i64 r) ∧ Below w.heap.size w w' := by
 have HT := Aside0.mk hT
 clear hT
 have HR0 := Aside0.mk hr0
 have HC0 := Aside0.mk hc0
 clear hr0 hc0
 have HB := Aside0.mk (Below.refl w.heap.size w)
 have H : ((impl_LeavesOk.f k l0).bind fun t457 => (if t457 = true then ((impl_levels.f k l0).bind fun t458 => (if 8 < (t458.length : Int) then (if 0 < ((rd_L3 t458 8).length : Int) then (some (rd (rd_L3 t458 8) 0)) else (none)) else (none))) else (some (-1)))) = some r := h
 clear h
 replace H := Option.bind_eq_some_iff.mp H
 obtain ⟨t457, A20, H⟩ := H
 replace H : (if t457 = true then ((impl_levels.f k l0).bind fun t458 => (if 8 < (t458.length : Int) then (if 0 < ((rd_L3 t458 8).length : Int) then (some (rd (rd_L3 t458 8) 0)) else (none)) else (none))) else (some (-1))) = some r := H
 have A2 := Aside0.mk A20
 clear A20
 have HC3 := Aside0.mk H
 clear H
 go_enter Tryd.func14, Tryd.ntmps14
 go_upto_if 5 with (first | ((with_reducible refine gate_callee (f := 19) rfl ?_); refine goesL_ (some 4) rfl rfl Tryd.func19 (by kernel_rfl) rfl #[.slice A0 l0.length c0] rfl (by (try simp only [List.map_toArray, List.map_cons, List.map_nil]); first | done | rfl | (simp only [List.length_drop, List.length_take]; rfl)) ?_; (with_reducible refine (impl_LeavesOk.calls k _ _ l0 t457 _ ?side1 ?side2 A2.out).mono ?_); (case side1 => repeat (first | exact HR0.out | (with_reducible refine Kd.C_alloc ?_ _) | (with_reducible refine Kd.C_drewN ?_ _) | (with_reducible refine Kd.C_drew ?_))); (case side2 => exact HC0.out); rintro e w4 ⟨rfl, hb⟩; refine ⟨_, rfl, ?_⟩; have n0_ := Aside0.mk (below_step (by repeat (first | (with_reducible first | exact HB.out | apply below_alloc | apply pw_below_drewN | apply below_drew1) | exact HB.out)) hb); clear HB; have HB := n0_; clear n0_; (try clear hb); (try clear hb2); (try clear hk); (try clear hi)))
 (try simp only [Act.put, List.setIfInBounds_toArray, List.set_cons_zero, List.set_cons_succ])
 have H := HC3.out
 clear HC3
 by_cases c5 : t457 = true
 ·subst c5
  have H1 : ((impl_levels.f k l0).bind fun t458 => (if 8 < (t458.length : Int) then (if 0 < ((rd_L3 t458 8).length : Int) then (some (rd (rd_L3 t458 8) 0)) else (none)) else (none))) = some r := by rw [if_pos rfl] at H; exact H
  clear H
  have H := H1
  clear H1
  replace H := Option.bind_eq_some_iff.mp H
  obtain ⟨t458, A60, H⟩ := H
  replace H : (if 8 < (t458.length : Int) then (if 0 < ((rd_L3 t458 8).length : Int) then (some (rd (rd_L3 t458 8) 0)) else (none)) else (none)) = some r := H
  have A6 := Aside0.mk A60
  clear A60
  by_cases c7 : 8 < (t458.length : Int)
  ·rw [if_pos c7] at H
   have c7b0 : decide (8 < (t458.length : Int)) = true := decide_eq_true c7
   have c7b1 : decide (8 < t458.length) = true := decide_eq_true (by omega)
   clear c7
   (first | rw [c7b0] | (simp only [i64_w, i32_w]; rw [c7b0]) | skip)
   by_cases c8 : 0 < ((rd_L3 t458 8).length : Int)
   ·rw [if_pos c8] at H
    have c8b0 : decide (0 < ((rd_L3 t458 8).length : Int)) = true := decide_eq_true c8
    have c8b1 : decide (0 < (rd_L3 t458 8).length) = true := decide_eq_true (by omega)
    clear c8
    obtain rfl := Option.some.inj H
    go_wp2_with (first | ((with_reducible refine gate_callee (f := 47) rfl ?_); refine goesL_ (some 7) rfl rfl Tryd.func47 (by kernel_rfl) rfl #[.slice A0 l0.length c0] rfl (by (try simp only [List.map_toArray, List.map_cons, List.map_nil]); first | done | rfl | (simp only [List.length_drop, List.length_take]; rfl)) ?_; (with_reducible refine (impl_levels.calls k _ _ l0 t458 _ ?side1 ?side2 A6.out (tab_at HT.out (by repeat (first | (with_reducible first | exact HB.out | apply below_alloc | apply pw_below_drewN | apply below_drew1 | (refine below_set ?_ (Aside0.out (by assumption)))) | exact HB.out)))).mono ?_); (case side1 => repeat (first | exact (Kd.C_below HR0.out HB.out) | (with_reducible refine Kd.C_alloc ?_ _) | (with_reducible refine Kd.C_drewN ?_ _) | (with_reducible refine Kd.C_drew ?_))); (case side2 => exact HC0.out); rintro e w9 ⟨v459, rfl, ho0, hb⟩; refine ⟨_, rfl, ?_⟩; have n0_ := Aside0.mk (Kd.N_lower (Kd.N_mono (ok' := fun k_ => True) ho0 (fun k_ hk_ => trivial)) (below_size (by repeat (first | (with_reducible first | exact HB.out | apply below_alloc | apply pw_below_drewN | apply below_drew1) | exact HB.out)))); have n1_ := Aside0.mk (below_step (by repeat (first | (with_reducible first | exact HB.out | apply below_alloc | apply pw_below_drewN | apply below_drew1) | exact HB.out)) hb); clear HB; have HO460 := n0_; have HB := n1_; clear n0_ n1_; (try clear hb); (try clear hb2); (try clear hk); (try clear hi); (try clear ho0); obtain ⟨Ao10, co10, eo10⟩ := Kd.N_slice HO460.out; subst eo10; have p461 : 0 ≤ (8 : Int) := (by omega); have q461 : 8 < (t458.length : Int) := of_decide_eq_true (by first | (with_reducible assumption) | assumption); obtain ⟨ad461, A461_0, c461_0, e461, hx461_0, hl461_0, hi461_0⟩ := at_L3 (Kd.N_reads' HO460.out).2.2 8 p461 q461; cases e461; obtain ⟨ce461, hce461, hMe461, hcc461⟩ := Kd.N_get HO460.out [] 8 p461 (by first | exact q461 | exact of_decide_eq_true (by first | (with_reducible assumption) | assumption) | (have e_ := (Kd.N_reads' HO460.out).1; omega)); obtain ⟨ua461_0, uc461_0, rfl, ul461_0, ge461_0⟩ := Kd.FK_slice_open hMe461; have hv461_0 := hcc461 0 _ rfl; rw [Nat.add_zero, show ((Kd.slice 2 (Kd.int .i64))).sz = 1 from rfl, Nat.mul_one] at hv461_0; replace hv461_0 := Option.some.inj (hv461_0.symm.trans hx461_0); injection hv461_0 with hva_ hvn_ hvc_; rw [hva_] at ge461_0; rw [hvc_] at ul461_0; have HL461_0 := Aside0.mk (show Kd.V (Kd.int .i64) 2 _ w.heap.size _ _ (rd_L3 t458 8) from Kd.V_mk ul461_0 ge461_0); clear hva_ hvn_ hvc_ ge461_0 ul461_0; clear hcc461 hce461; (try simp only [show (8 : Int).toNat = 8 from rfl, Nat.reduceMul, Nat.reduceEqDiff, Go.Addr.add, ↓reduceIte] at hx461_0); have qi461 : (8 < t458.length) = True := eq_true (by omega); (try rw [show ((8 : Int)).toNat = 8 from rfl] at hx461_0); have HR461_0 := Aside0.mk hi461_0; have HC461_0 := Aside0.mk hl461_0; clear hi461_0 hl461_0; replace p461 := eq_true p461; replace q461 := eq_true q461; have p462 : 0 ≤ (0 : Int) := (by omega); have q462 : 0 < ((rd_L3 t458 8).length : Int) := of_decide_eq_true (by first | (with_reducible assumption) | assumption); obtain ⟨ad462, e462, hx462_0⟩ := Kd.at_int (by repeat (first | (with_reducible exact HR461_0.out) | (with_reducible refine Kd.C_alloc ?_ _) | (with_reducible refine Kd.C_drewN ?_ _) | (with_reducible refine Kd.C_drew ?_) | exact HR461_0.out)) 0 p462 q462; cases e462; have qi462 : (0 < (rd_L3 t458 8).length) = True := eq_true (by omega); (try rw [show ((0 : Int)).toNat = 0 from rfl] at hx462_0); (try rw [Addr.add_zero'] at hx462_0); replace p462 := eq_true p462; replace q462 := eq_true q462))
    go_ret
    exact ⟨by first | rfl | (simp [errW_none, errW_some] <;> rfl) | (simp [*, errW_none, errW_some] <;> rfl), by repeat (first | (with_reducible first | exact HB.out | apply below_alloc | apply pw_below_drewN | apply below_drew1) | exact HB.out)⟩
   ·rw [if_neg c8] at H
    exact absurd H (by simp)
  ·rw [if_neg c7] at H
   exact absurd H (by simp)
 ·replace c5 := Bool.eq_false_iff.mpr c5
  subst c5
  have H1 : (some (-1)) = some r := by rw [if_neg (show ¬ (false = true) by decide)] at H; exact H
  clear H
  have H := H1
  clear H1
  obtain rfl := Option.some.inj H
  go_wp2
  go_ret
  exact ⟨by first | rfl | (simp [errW_none, errW_some] <;> rfl) | (simp [*, errW_none, errW_some] <;> rfl), by repeat (first | (with_reducible first | exact HB.out | apply below_alloc | apply pw_below_drewN | apply below_drew1) | exact HB.out)⟩

end Go.Proofs.YtgpofolfflfgiaaDoor.PFnProved
