-- Written by a program of this session (wip/tools/pp.py over the kit's print).
import Derived.Test.YtokfpmkhfindmaaDoorPFnProofsx0
import Derived.Test.YtokfpmkhfindmaaDoorPFnProofsx2
import Derived.Test.YtokfpmkhfindmaaDoorPFnProofsx3
namespace Go.Proofs.YtokfpmkhfindmaaDoor.PFnProofs
open Go.RowKit Go.Proofs.YtokfpmkhfindmaaDoorW.PrintWords Go.Proofs.YtokfpmkhfindmaaDoorW.PrintLast Go.Proofs.YtokfpmkhfindmaaDoorW.PrintMore
attribute [local go_sem] max2_int min2_int max_two min_two max_three min_three max_four min_four
attribute [local go_sem high] str_gtr str_leq str_geq
set_option linter.unusedVariables false
set_option linter.unusedSimpArgs false

/-! ### spec_Quorum: function 28 -/
def spec_Quorum.f (a0 : Int) : Option (Int) := (spec_l15Servers.f a0).bind fun t124 => (if t124 = true then (some (wrap64 (a0 - (wrap64 (Int.tdiv (wrap64 (a0 - 1)) 3))))) else (some (-1)))
set_option maxHeartbeats 8000000 in
set_option maxRecDepth 100000 in
theorem spec_Quorum.calls (a0 : Int) (r : Int) (w : World) (h : spec_Quorum.f a0 = some r) :
  Calls Tryd.prog 28 #[.int .i64 a0] w fun e w' => e = .returned (.int .i64 r) ∧ Drawn0 w w' := by
 have H : ((spec_l15Servers.f a0).bind fun t124 => (if t124 = true then (some (wrap64 (a0 - (wrap64 (Int.tdiv (wrap64 (a0 - 1)) 3))))) else (some (-1)))) = some r := h
 clear h
 replace H := Option.bind_eq_some_iff.mp H
 obtain ⟨t124, A20, H⟩ := H
 replace H : (if t124 = true then (some (wrap64 (a0 - (wrap64 (Int.tdiv (wrap64 (a0 - 1)) 3))))) else (some (-1))) = some r := H
 have A2 := Aside0.mk A20
 clear A20
 have HC3 := Aside0.mk H
 clear H
 go_enter Tryd.func28, Tryd.ntmps28
 go_upto_if 5 with (first | ((with_reducible refine gate_callee (f := 37) rfl ?_); refine goesL_ (some 4) rfl rfl Tryd.func37 (by kernel_rfl) rfl #[.int .i64 a0] rfl d0 ?_; (with_reducible refine (spec_l15Servers.calls a0 t124 _ A2.out).mono ?_); rintro e w' ⟨rfl, ⟨nd, rfl⟩⟩; refine ⟨_, rfl, ?_⟩))
 (try simp only [Act.put, List.setIfInBounds_toArray, List.set_cons_zero, List.set_cons_succ])
 have H := HC3.out
 clear HC3
 by_cases c4 : t124 = true
 ·subst c4
  have H1 : (some (wrap64 (a0 - (wrap64 (Int.tdiv (wrap64 (a0 - 1)) 3))))) = some r := by rw [if_pos rfl] at H; exact H
  clear H
  have H := H1
  clear H1
  obtain rfl := Option.some.inj H
  go_wp2
  go_ret
  exact ⟨o26, o18⟩
 ·replace c4 := Bool.eq_false_iff.mpr c4
  subst c4
  have H1 : (some (-1)) = some r := by rw [if_neg (show ¬ (false = true) by decide)] at H; exact H
  clear H
  have H := H1
  clear H1
  obtain rfl := Option.some.inj H
  go_wp2
  go_ret
  exact ⟨o26, o18⟩

/-! ### spec_Gathered: function 8 -/
mutual
def spec_Gathered.j0 : Nat → List (S43) → Int → Bool → Option (Int × Int × List Int × List Int × Bool)
 | 0, _, _, _ => none
 | k + 1, x0, x1, x17 => if x17 = true then (some (0, 0, ([] : List Int), ([] : List Int), false)) else (if 0 < (x0.length : Int) then (spec_Gathered.l0 k x0 x1 0 ((rd_T43 x0 0).f0) ((rd_T43 x0 0).f1) ([] : List Int) ([] : List Int)) else (none))
def spec_Gathered.l0 : Nat → List (S43) → Int → Int → Int → Int → List Int → List Int → Option (Int × Int × List Int × List Int × Bool)
 | 0, _, _, _, _, _, _, _ => none
 | k + 1, x0, x1, x7, x130000, x130001, x130002, x130003 => if x7 < x1 then (spec_Gathered.l1 k x0 x1 x7 0 x130000 x130001 x130002 x130003) else ((spec_Quorum.f x1).bind fun t130 => (if (x130002.length : Int) < t130 then (some (0, 0, ([] : List Int), ([] : List Int), false)) else (some (x130000, x130001, x130002, x130003, true))))
def spec_Gathered.l1 : Nat → List (S43) → Int → Int → Int → Int → Int → List Int → List Int → Option (Int × Int × List Int × List Int × Bool)
 | 0, _, _, _, _, _, _, _, _ => none
 | k + 1, x0, x1, x7, x8, x130000, x130001, x130002, x130003 => if x8 < (x0.length : Int) then (if 0 ≤ x8 then (if ((rd_T43 x0 x8).f2) = x7 then (if ((rd_T43 x0 x8).f0) = x130000 then (if ((rd_T43 x0 x8).f1) = x130001 then ((spec_VoteOk.f k ((rd_T43 x0 x8).f0) ((rd_T43 x0 x8).f1) ((rd_T43 x0 x8).f2) ((rd_T43 x0 x8).f3) x1).bind fun t133 => (if t133 = true then (if x130002.length < 17592186044416 then (if x130003.length < 17592186044416 then (spec_Gathered.l0 k x0 x1 (wrap64 (x7 + 1)) x130000 x130001 (x130002 ++ [x7]) (x130003 ++ [(rd_T43 x0 x8).f3])) else (none)) else (none)) else (spec_Gathered.l1 k x0 x1 x7 (wrap64 (x8 + 1)) x130000 x130001 x130002 x130003))) else (spec_Gathered.l1 k x0 x1 x7 (wrap64 (x8 + 1)) x130000 x130001 x130002 x130003)) else (spec_Gathered.l1 k x0 x1 x7 (wrap64 (x8 + 1)) x130000 x130001 x130002 x130003)) else (spec_Gathered.l1 k x0 x1 x7 (wrap64 (x8 + 1)) x130000 x130001 x130002 x130003)) else (none)) else (spec_Gathered.l0 k x0 x1 (wrap64 (x7 + 1)) x130000 x130001 x130002 x130003)
end
def spec_Gathered.f (k : Nat) (l0 : List (S43)) (a1 : Int) : Option (Int × Int × List Int × List Int × Bool) := if (l0.length : Int) = 0 then (spec_Gathered.j0 k l0 a1 true) else ((spec_l15Servers.f a1).bind fun t126 => (spec_Gathered.j0 k l0 a1 (!t126)))
theorem spec_Gathered.mono_l : ∀ k, (∀ y0 y1 y2, LeO (spec_Gathered.j0 k y0 y1 y2) (spec_Gathered.j0 (k + 1) y0 y1 y2)) ∧ (∀ y0 y1 y2 y3 y4 y5 y6, LeO (spec_Gathered.l0 k y0 y1 y2 y3 y4 y5 y6) (spec_Gathered.l0 (k + 1) y0 y1 y2 y3 y4 y5 y6)) ∧ (∀ y0 y1 y2 y3 y4 y5 y6 y7, LeO (spec_Gathered.l1 k y0 y1 y2 y3 y4 y5 y6 y7) (spec_Gathered.l1 (k + 1) y0 y1 y2 y3 y4 y5 y6 y7))
 | 0 => ⟨fun _ _ _ r h => by simp [spec_Gathered.j0] at h, fun _ _ _ _ _ _ _ r h => by simp [spec_Gathered.l0] at h, fun _ _ _ _ _ _ _ _ r h => by simp [spec_Gathered.l1] at h⟩
 | k + 1 => by
  obtain ⟨ih0, ih1, ih2⟩ := spec_Gathered.mono_l k
  refine ⟨?_, ?_, ?_⟩
  ·intro y0 y1 y2
   unfold spec_Gathered.j0
   repeat' first
   | (with_reducible exact ih0 _ _ _)
   | (with_reducible exact ih1 _ _ _ _ _ _ _)
   | (with_reducible exact ih2 _ _ _ _ _ _ _ _)
   | (with_reducible exact spec_VoteOk.mono _ _ _ _ _ _)
   | (with_reducible exact LeO.refl _)
   | (with_reducible exact LeO.none _)
   | (with_reducible refine LeO.ite ?_ ?_)
   | (with_reducible refine LeO.bind ?_ (fun _ => ?_))
   | exact ih0 _ _ _
   | exact ih1 _ _ _ _ _ _ _
   | exact ih2 _ _ _ _ _ _ _ _
   | exact spec_VoteOk.mono _ _ _ _ _ _
   | exact LeO.none _
   | refine LeO.ite ?_ ?_
   | refine LeO.bind ?_ (fun _ => ?_)
  ·intro y0 y1 y2 y3 y4 y5 y6
   unfold spec_Gathered.l0
   repeat' first
   | (with_reducible exact ih0 _ _ _)
   | (with_reducible exact ih1 _ _ _ _ _ _ _)
   | (with_reducible exact ih2 _ _ _ _ _ _ _ _)
   | (with_reducible exact spec_VoteOk.mono _ _ _ _ _ _)
   | (with_reducible exact LeO.refl _)
   | (with_reducible exact LeO.none _)
   | (with_reducible refine LeO.ite ?_ ?_)
   | (with_reducible refine LeO.bind ?_ (fun _ => ?_))
   | exact ih0 _ _ _
   | exact ih1 _ _ _ _ _ _ _
   | exact ih2 _ _ _ _ _ _ _ _
   | exact spec_VoteOk.mono _ _ _ _ _ _
   | exact LeO.none _
   | refine LeO.ite ?_ ?_
   | refine LeO.bind ?_ (fun _ => ?_)
  ·intro y0 y1 y2 y3 y4 y5 y6 y7
   unfold spec_Gathered.l1
   repeat' first
   | (with_reducible exact ih0 _ _ _)
   | (with_reducible exact ih1 _ _ _ _ _ _ _)
   | (with_reducible exact ih2 _ _ _ _ _ _ _ _)
   | (with_reducible exact spec_VoteOk.mono _ _ _ _ _ _)
   | (with_reducible exact LeO.refl _)
   | (with_reducible exact LeO.none _)
   | (with_reducible refine LeO.ite ?_ ?_)
   | (with_reducible refine LeO.bind ?_ (fun _ => ?_))
   | exact ih0 _ _ _
   | exact ih1 _ _ _ _ _ _ _
   | exact ih2 _ _ _ _ _ _ _ _
   | exact spec_VoteOk.mono _ _ _ _ _ _
   | exact LeO.none _
   | refine LeO.ite ?_ ?_
   | refine LeO.bind ?_ (fun _ => ?_)
theorem spec_Gathered.mono : ∀ a0 a1 k, LeO (spec_Gathered.f k a0 a1) (spec_Gathered.f (k + 1) a0 a1) := by
 intro a0 a1 k
 obtain ⟨ih0, ih1, ih2⟩ := spec_Gathered.mono_l k
 unfold spec_Gathered.f
 repeat' first
   | (with_reducible exact ih0 _ _ _)
   | (with_reducible exact ih1 _ _ _ _ _ _ _)
   | (with_reducible exact ih2 _ _ _ _ _ _ _ _)
   | (with_reducible exact spec_VoteOk.mono _ _ _ _ _ _)
   | (with_reducible exact LeO.refl _)
   | (with_reducible exact LeO.none _)
   | (with_reducible refine LeO.ite ?_ ?_)
   | (with_reducible refine LeO.bind ?_ (fun _ => ?_))
   | exact ih0 _ _ _
   | exact ih1 _ _ _ _ _ _ _
   | exact ih2 _ _ _ _ _ _ _ _
   | exact spec_VoteOk.mono _ _ _ _ _ _
   | exact LeO.none _
   | refine LeO.ite ?_ ?_
   | refine LeO.bind ?_ (fun _ => ?_)
def spec_Gathered.T3 : Bool × List (List Nat × List Nat) := (true, [([], []), ([0], [0]), ([1], [1]), ([2], [2]), ([], []), ([4], [4]), ([5], [5]), ([6], [6]), ([3, 7], [3, 7]), ([], []), ([9, 8, 0, 1, 2, 3, 4, 5, 6, 7, 8, 9], [8, 9])])
def spec_Gathered.B3 : List Nat := [0, 1, 3, 7, 0, 16, 48, 112, 255, 0, 1023]
theorem spec_Gathered.tab3 : rtab .any (opsOf Tryd.f8 3) = spec_Gathered.T3 := by kernel_rfl
theorem spec_Gathered.bits3 : waitsOk spec_Gathered.T3.2 spec_Gathered.B3 = true := by kernel_rfl
set_option maxHeartbeats 8000000 in
set_option maxRecDepth 100000 in
theorem spec_Gathered.calls (k : Nat) (A0 : Option Addr) (c0 : Nat) (l0 : List (S43)) (a1 : Int) (r1 : Int) (r2 : Int) (r3 : List Int) (r4 : List Int) (r5 : Bool) (w : World) (hr0 : Kd.C k43 w A0 l0.length l0) (hc0 : l0.length ≤ c0) (h : spec_Gathered.f k l0 a1 = some (r1, r2, r3, r4, r5)) :
  Calls Tryd.prog 8 #[.slice A0 l0.length c0, .int .i64 a1] w fun e w' => ∃ v2_ v3_ : Value, e = .returned (.tuple #[.agg #[.int .i64 r1, .int .i64 r2, v2_, v3_], .bool r5]) ∧ Kd.R (Kd.int .i64) 2 w' w.heap.size (fun k_ => some k_ ≠ (v3_ : Value).ownBlock) v2_ r3 ∧ Kd.R (Kd.int .i64) 2 w' w.heap.size (fun k_ => some k_ ≠ (v2_ : Value).ownBlock) v3_ r4 ∧ Below w.heap.size w w' := by
 have hu26 := Tryd.underlying26
 have hu43 := Tryd.underlying43
 have HR0 := Aside0.mk hr0
 have HC0 := Aside0.mk hc0
 clear hr0 hc0
 have HB := Aside0.mk (Below.refl w.heap.size w)
 have H : (if (l0.length : Int) = 0 then (spec_Gathered.j0 k l0 a1 true) else ((spec_l15Servers.f a1).bind fun t126 => (spec_Gathered.j0 k l0 a1 (!t126)))) = some (r1, r2, r3, r4, r5) := h
 clear h
 have HC3 := Aside0.mk H
 clear H
 go_enter Tryd.func8, Tryd.ntmps8
 go_upto_region 1 with (first | ((with_reducible refine gate_dst (N := 4) rfl ?_); refine box_event ?hg (N := 4) ?hd (cs := #[.int .i64 0, .int .i64 0, .slice none 0 0, .slice none 0 0]) (t := 26) ?hr ?_; (case hd => rfl); (case hg => rfl); (case hr => first | (go_simp; done) | (go_simp; rfl)); intro gb125 hg w4 hbox hb; have n0_ := Aside0.mk (below_step d1 hb); have n1_ := Aside0.mk (hbox); have n2_ := Aside0.mk ((by rw [hg]; exact (below_size d1) : w.heap.size ≤ gb125)); have n3_ := Aside0.mk ((by rw [hg]; exact (below_size d1) : w.heap.size ≤ gb125)); clear HB; have HB := n0_; have BK125 := n1_; have GW125 := n2_; have GE125 := n3_; clear n0_ n1_ n2_ n3_; clear hb hbox hg))
 (try simp only [Act.put, List.setIfInBounds_toArray, List.set_cons_zero, List.set_cons_succ])
 go_cut [17] (fun v17 wc => ∃ (kq : Nat) (x17_2 : Bool), v17 = .bool x17_2 ∧ Aside0 (spec_Gathered.j0 kq l0 a1 x17_2 = some (r1, r2, r3, r4, r5)) ∧ Aside0 (kq ≤ k) ∧ Aside0 (wc.heap[gb125]? = some (.cells #[.int .i64 0, .int .i64 0, (.slice none 0 0), (.slice none 0 0)] 26 (0, 0))) ∧ Aside0 (Below w.heap.size w wc))
 case first =>
  have H := HC3.out
  clear HC3
  by_cases c5 : (l0.length : Int) = 0
  ·rw [if_pos c5] at H
   have c5b0 : ((l0.length : Int) == 0) = true := beq_iff_eq.mpr c5
   have c5b1 : ((l0.length : Int) != 0) = false := bne_eq_false_iff_eq.mpr c5
   clear c5
   (first | rw [c5b0] | (simp only [i64_w, i32_w]; rw [c5b0]) | skip)
   try rw [c5b1]
   have H' := Aside0.mk H
   clear H
   go_wp2
   go_meet
   case rel => exact ⟨_, (true), d9, H', ⟨o42⟩, ⟨o57⟩, ⟨o66⟩⟩
  ·rw [if_neg c5] at H
   have c5b0 : ((l0.length : Int) == 0) = false := beq_eq_false_iff_ne.mpr c5
   have c5b1 : ((l0.length : Int) != 0) = true := bne_iff_ne.mpr c5
   have c5b2 : ¬ (l0 = []) := fun h_ => c5 (by rw [h_]; rfl)
   (first | rw [c5b0] | (simp only [i64_w, i32_w]; rw [c5b0]) | skip)
   try rw [c5b1]
   replace H := Option.bind_eq_some_iff.mp H
   obtain ⟨t126, A60, H⟩ := H
   replace H : (spec_Gathered.j0 k l0 a1 (!t126)) = some (r1, r2, r3, r4, r5) := H
   have A6 := Aside0.mk A60
   clear A60
   have H' := Aside0.mk H
   clear H
   go_wp2_with (first | (go_at_call 37; (with_reducible refine (spec_l15Servers.calls a1 t126 _ A6.out).mono ?_); rintro e w' ⟨rfl, ⟨nd, rfl⟩⟩))
   go_meet
   case rel => exact ⟨_, (!t126), d9, H', ⟨o42⟩, ⟨o57⟩, ⟨o66⟩⟩
 case rest =>
  clear HC3
  try clear p2
  try clear c5
  try clear c5b0
  try clear c5b1
  try clear c5b2
  obtain ⟨kq, x17_2, rfl, HA, HJ2, BK125, HB⟩ := hcut
  cases kq with
  | zero => exact absurd HA.out (by simp [spec_Gathered.j0])
  | succ kj2 =>
   have H := HA.out
   clear HA
   simp only [spec_Gathered.j0] at H
   by_cases c7 : x17_2 = true
   ·subst c7
    have H1 : (some (0, 0, ([] : List Int), ([] : List Int), false)) = some (r1, r2, r3, r4, r5) := by rw [if_pos rfl] at H; exact H
    clear H
    have H := H1
    clear H1
    simp only [Option.some.injEq, Prod.mk.injEq] at H
    obtain ⟨rfl, rfl, rfl, rfl, rfl⟩ := H
    have hcz8_0 : wc.cell? ⟨gb125, 0, none⟩ = some (.int .i64 0) := (blk_cell BK125.out 0).trans rfl
    have hcz8_1 : wc.cell? ⟨gb125, 1, none⟩ = some (.int .i64 0) := (blk_cell BK125.out 1).trans rfl
    have hcz8_2 : wc.cell? ⟨gb125, 2, none⟩ = some (.slice none 0 0) := (blk_cell BK125.out 2).trans rfl
    have hcz8_3 : wc.cell? ⟨gb125, 3, none⟩ = some (.slice none 0 0) := (blk_cell BK125.out 3).trans rfl
    have hfz8_0 := blk_frozen BK125.out 0
    have hfz8_1 := blk_frozen BK125.out 1
    have hfz8_2 := blk_frozen BK125.out 2
    have hfz8_3 := blk_frozen BK125.out 3
    go_wp2
    refine bodyPost_ret (results_ct rfl _ _ gb125 26 #[.int .i64 0, .int .i64 0, .slice none 0 0, .slice none 0 0] (0, 0) _ rfl (by (with_reducible repeat (first | refine blk_drewN ?_ _ | refine blk_drew ?_ | refine blk_alloc ?_ _)); refine blk_put (cs := #[.int .i64 0, .int .i64 0, .slice none 0 0, .slice none 0 0]) ?_ 3 _ rfl; (with_reducible repeat (first | refine blk_drewN ?_ _ | refine blk_drew ?_ | refine blk_alloc ?_ _)); refine blk_put (cs := #[.int .i64 0, .int .i64 0, .slice none 0 0, .slice none 0 0]) ?_ 2 _ rfl; (with_reducible repeat (first | refine blk_drewN ?_ _ | refine blk_drew ?_ | refine blk_alloc ?_ _)); refine blk_put (cs := #[.int .i64 0, .int .i64 0, .slice none 0 0, .slice none 0 0]) ?_ 1 _ rfl; (with_reducible repeat (first | refine blk_drewN ?_ _ | refine blk_drew ?_ | refine blk_alloc ?_ _)); refine blk_put (cs := #[.int .i64 0, .int .i64 0, .slice none 0 0, .slice none 0 0]) ?_ 0 _ rfl; (with_reducible repeat (first | refine blk_drewN ?_ _ | refine blk_drew ?_ | refine blk_alloc ?_ _)); exact BK125.out) Tryd.underlying26 rfl (by kernel_rfl)) rfl ?_
    exact ⟨_, _, o2, o17, o17, o66⟩
   ·replace c7 := Bool.eq_false_iff.mpr c7
    subst c7
    have H1 : (if 0 < (l0.length : Int) then (spec_Gathered.l0 kj2 l0 a1 0 ((rd_T43 l0 0).f0) ((rd_T43 l0 0).f1) ([] : List Int) ([] : List Int)) else (none)) = some (r1, r2, r3, r4, r5) := by rw [if_neg (show ¬ (false = true) by decide)] at H; exact H
    clear H
    have H := H1
    clear H1
    by_cases c9 : 0 < (l0.length : Int)
    ·rw [if_pos c9] at H
     have c9b0 : decide (0 < (l0.length : Int)) = true := decide_eq_true c9
     have c9b1 : decide (0 < l0.length) = true := decide_eq_true (by omega)
     clear c9
     have H' := Aside0.mk H
     clear H
     try go_wp2
     have n0_ := Aside0.mk (blk_drew BK125.out)
     have n1_ := Aside0.mk (below_drew1 HB.out)
     clear BK125
     clear HB
     have BK125 := n0_
     have HB := n1_
     clear n0_ n1_
     have p127 : 0 ≤ (0 : Int) := (by omega)
     have q127 : 0 < (l0.length : Int) := od_
     obtain ⟨ad127, e127, hx127_0, hx127_1, hx127_2, hx127_3⟩ := at_T43 HR0.out 0 p127 q127
     have hw127_3 := hx127_3
     (try rw [show ((0 : Int)).toNat = 0 from rfl] at hw127_3)
     (try rw [show 0 * 4 = 0 from rfl] at hw127_3)
     (try rw [Addr.add_zero'] at hw127_3)
     have hw127_2 := hx127_2
     (try rw [show ((0 : Int)).toNat = 0 from rfl] at hw127_2)
     (try rw [show 0 * 4 = 0 from rfl] at hw127_2)
     (try rw [Addr.add_zero'] at hw127_2)
     have hw127_1 := hx127_1
     (try rw [show ((0 : Int)).toNat = 0 from rfl] at hw127_1)
     (try rw [show 0 * 4 = 0 from rfl] at hw127_1)
     (try rw [Addr.add_zero'] at hw127_1)
     have hw127_0 := hx127_0
     (try rw [show ((0 : Int)).toNat = 0 from rfl] at hw127_0)
     (try rw [show 0 * 4 = 0 from rfl] at hw127_0)
     (try rw [Addr.add_zero'] at hw127_0)
     cases e127
     have qi127 : (0 < l0.length) = True := eq_true (by omega)
     (try rw [show ((0 : Int)).toNat = 0 from rfl] at hx127_0)
     (try rw [show 0 * 4 = 0 from rfl] at hx127_0)
     (try rw [Addr.add_zero'] at hx127_0)
     (try rw [show ((0 : Int)).toNat = 0 from rfl] at hx127_1)
     (try rw [show 0 * 4 = 0 from rfl] at hx127_1)
     (try rw [Addr.add_zero'] at hx127_1)
     (try rw [show ((0 : Int)).toNat = 0 from rfl] at hx127_2)
     (try rw [show 0 * 4 = 0 from rfl] at hx127_2)
     (try rw [Addr.add_zero'] at hx127_2)
     (try rw [show ((0 : Int)).toNat = 0 from rfl] at hx127_3)
     (try rw [show 0 * 4 = 0 from rfl] at hx127_3)
     (try rw [Addr.add_zero'] at hx127_3)
     replace hx127_0 := (HB.out.cell (World.block_lt_of_cell? w _ hx127_0)).trans hx127_0
     replace hx127_1 := (HB.out.cell (World.block_lt_of_cell? w _ hx127_1)).trans hx127_1
     replace hx127_2 := (HB.out.cell (World.block_lt_of_cell? w _ hx127_2)).trans hx127_2
     replace hx127_3 := (HB.out.cell (World.block_lt_of_cell? w _ hx127_3)).trans hx127_3
     replace p127 := eq_true p127
     replace q127 := eq_true q127
     have p128 : 0 ≤ (0 : Int) := (by omega)
     have q128 : 0 < (l0.length : Int) := od_
     obtain ⟨ad128, e128, hx128_0, hx128_1, hx128_2, hx128_3⟩ := at_T43 HR0.out 0 p128 q128
     have hw128_3 := hx128_3
     (try rw [show ((0 : Int)).toNat = 0 from rfl] at hw128_3)
     (try rw [show 0 * 4 = 0 from rfl] at hw128_3)
     (try rw [Addr.add_zero'] at hw128_3)
     have hw128_2 := hx128_2
     (try rw [show ((0 : Int)).toNat = 0 from rfl] at hw128_2)
     (try rw [show 0 * 4 = 0 from rfl] at hw128_2)
     (try rw [Addr.add_zero'] at hw128_2)
     have hw128_1 := hx128_1
     (try rw [show ((0 : Int)).toNat = 0 from rfl] at hw128_1)
     (try rw [show 0 * 4 = 0 from rfl] at hw128_1)
     (try rw [Addr.add_zero'] at hw128_1)
     have hw128_0 := hx128_0
     (try rw [show ((0 : Int)).toNat = 0 from rfl] at hw128_0)
     (try rw [show 0 * 4 = 0 from rfl] at hw128_0)
     (try rw [Addr.add_zero'] at hw128_0)
     obtain rfl : ad127 = ad128 := (by injection e128)
     have qi128 : (0 < l0.length) = True := eq_true (by omega)
     (try rw [show ((0 : Int)).toNat = 0 from rfl] at hx128_0)
     (try rw [show 0 * 4 = 0 from rfl] at hx128_0)
     (try rw [Addr.add_zero'] at hx128_0)
     (try rw [show ((0 : Int)).toNat = 0 from rfl] at hx128_1)
     (try rw [show 0 * 4 = 0 from rfl] at hx128_1)
     (try rw [Addr.add_zero'] at hx128_1)
     (try rw [show ((0 : Int)).toNat = 0 from rfl] at hx128_2)
     (try rw [show 0 * 4 = 0 from rfl] at hx128_2)
     (try rw [Addr.add_zero'] at hx128_2)
     (try rw [show ((0 : Int)).toNat = 0 from rfl] at hx128_3)
     (try rw [show 0 * 4 = 0 from rfl] at hx128_3)
     (try rw [Addr.add_zero'] at hx128_3)
     replace hx128_0 := (HB.out.cell (World.block_lt_of_cell? w _ hx128_0)).trans hx128_0
     replace hx128_1 := (HB.out.cell (World.block_lt_of_cell? w _ hx128_1)).trans hx128_1
     replace hx128_2 := (HB.out.cell (World.block_lt_of_cell? w _ hx128_2)).trans hx128_2
     replace hx128_3 := (HB.out.cell (World.block_lt_of_cell? w _ hx128_3)).trans hx128_3
     replace p128 := eq_true p128
     replace q128 := eq_true q128
     refine start_ (n := 11) (S := fun w' => w'.cell? ad127 = some (.int .i64 ((rd_T43 l0 0).f0)) ∧ w'.cell? ⟨ad127.block, ad127.off + 1, none⟩ = some (.int .i64 ((rd_T43 l0 0).f1)) ∧ w'.cell? ⟨ad127.block, ad127.off + 2, none⟩ = some (.int .i64 ((rd_T43 l0 0).f2)) ∧ w'.cell? ⟨ad127.block, ad127.off + 3, none⟩ = some (.int .i64 ((rd_T43 l0 0).f3)) ∧ w'.cell? ad127 = some (.int .i64 ((rd_T43 l0 0).f0)) ∧ w'.cell? ⟨ad127.block, ad127.off + 1, none⟩ = some (.int .i64 ((rd_T43 l0 0).f1)) ∧ w'.cell? ⟨ad127.block, ad127.off + 2, none⟩ = some (.int .i64 ((rd_T43 l0 0).f2)) ∧ w'.cell? ⟨ad127.block, ad127.off + 3, none⟩ = some (.int .i64 ((rd_T43 l0 0).f3))) (ds := []) (bA 11 0) (by kernel_rfl) rfl rfl ⟨((HB.out.cell (World.block_lt_of_cell? w _ hw127_0)).trans hw127_0), ((HB.out.cell (World.block_lt_of_cell? w _ hw127_1)).trans hw127_1), ((HB.out.cell (World.block_lt_of_cell? w _ hw127_2)).trans hw127_2), ((HB.out.cell (World.block_lt_of_cell? w _ hw127_3)).trans hw127_3), ((HB.out.cell (World.block_lt_of_cell? w _ hw128_0)).trans hw128_0), ((HB.out.cell (World.block_lt_of_cell? w _ hw128_1)).trans hw128_1), ((HB.out.cell (World.block_lt_of_cell? w _ hw128_2)).trans hw128_2), ((HB.out.cell (World.block_lt_of_cell? w _ hw128_3)).trans hw128_3)⟩ (fun hHeld => ?_); refine with_tabW spec_Gathered.tab3 spec_Gathered.bits3 (fun HT_ HW_ => ?_)
     generalize wc.drew = w10 at BK125 HB hx127_0 hx127_1 hx127_2 hx127_3 hx128_0 hx128_1 hx128_2 hx128_3 hHeld ⊢
     refine pv (i := 0) (N := some 19) (bA 11 1) rfl rfl o0 ?_
     refine pv (i := 1) (N := some 20) (bA 11 3) rfl rfl o0 ?_
     refine pv (i := 2) (N := some 21) (bA 11 7) rfl rfl o0 ?_
     refine pv (i := 4) (N := some 23) (bA 11 23) rfl rfl o0 ?_
     refine pv (i := 5) (N := some 24) (bA 11 55) rfl rfl o0 ?_
     refine pv (i := 6) (N := some 25) (bA 11 119) rfl rfl o0 ?_
     refine take_ (i := 3) (N := some 22) (v := ?_) (a' := ?_) (bA 11 127) rfl rfl o5 (fun _ _ _ h => h) (Or.inl ⟨(by rfl), ?_⟩) hHeld ?_ ?_
     rotate_left
     ·rintro w' ⟨s0, s1, s2, s3, s4, s5, s6, s7⟩
      go_simp
      with_reducible rfl
     rotate_left
     ·simp only [sp_]
      rfl
     refine take_ (i := 7) (N := some 26) (v := ?_) (a' := ?_) (bA 11 255) rfl rfl o5 (fun _ _ _ h => h) (Or.inl ⟨(by rfl), ?_⟩) hHeld ?_ ?_
     rotate_left
     ·rintro w' ⟨s0, s1, s2, s3, s4, s5, s6, s7⟩
      go_simp
      with_reducible rfl
     rotate_left
     ·simp only [sp_]
      rfl
     refine pv (i := 8) (N := some 27) (bA 11 511) rfl rfl o0 ?_
     refine one_ (i := 9) (N := some 6) (bA 11 1023) rfl rfl (one_of HT_.out (by kernel_rfl)) (by decide) (fun K hK => ?_)
     refine box_step ?hg (N := 6) ?hd (cs := #[.int .i64 0, .int .i64 0, .slice none 0 0, .slice none 0 0]) (t := 26) ?hr ?_; (case hd => rfl); (case hg => rfl); (case hr => first | (go_simp; done) | (go_simp; rfl))
     intro gb129 hg w11 hbox hb
     have n0_ := Aside0.mk (blk_below (g := gb125) (o := .cells #[.int .i64 0, .int .i64 0, .slice none 0 0, .slice none 0 0] 26 (0, 0)) d33 hb)
     have n1_ := Aside0.mk (below_step d99 hb)
     have n2_ := Aside0.mk (hbox)
     have n3_ := Aside0.mk ((by rw [hg]; exact (below_size d99) : w.heap.size ≤ gb129))
     have n4_ := Aside0.mk ((by rw [hg]; exact (below_size d99) : w.heap.size ≤ gb129))
     have n5_ := Aside0.mk ((by rw [hg]; exact Nat.ne_of_lt (blk_lt (g := gb125) (o := .cells #[.int .i64 0, .int .i64 0, .slice none 0 0, .slice none 0 0] 26 (0, 0)) d33) : gb125 ≠ gb129))
     have n6_ := Aside0.mk ((by rw [hg]; exact Nat.ne_of_gt (blk_lt (g := gb125) (o := .cells #[.int .i64 0, .int .i64 0, .slice none 0 0, .slice none 0 0] 26 (0, 0)) d33) : gb129 ≠ gb125))
     clear BK125
     clear HB
     have BK125 := n0_
     have HB := n1_
     have BK129 := n2_
     have GW129 := n3_
     have GE129 := n4_
     have NB125_129 := n5_
     have NB129_125 := n6_
     clear n0_ n1_ n2_ n3_ n4_ n5_ n6_
     clear hb hbox hg
     refine hK.out _ _ ⟨((HB.out.cell (World.block_lt_of_cell? w _ hw127_0)).trans hw127_0), ((HB.out.cell (World.block_lt_of_cell? w _ hw127_1)).trans hw127_1), ((HB.out.cell (World.block_lt_of_cell? w _ hw127_2)).trans hw127_2), ((HB.out.cell (World.block_lt_of_cell? w _ hw127_3)).trans hw127_3), ((HB.out.cell (World.block_lt_of_cell? w _ hw128_0)).trans hw128_0), ((HB.out.cell (World.block_lt_of_cell? w _ hw128_1)).trans hw128_1), ((HB.out.cell (World.block_lt_of_cell? w _ hw128_2)).trans hw128_2), ((HB.out.cell (World.block_lt_of_cell? w _ hw128_3)).trans hw128_3)⟩ (fun hHeld => ?_)
     clear hK K
     refine norm_ (a' := ?_) ?_ ?_
     rotate_left
     ·show Act.put _ (some 6) _ = _
      simp only [sp_]
      rfl
     refine one_ (i := 10) (N := none) (bA 11 2047) rfl rfl (one_of HT_.out (by kernel_rfl)) (by decide) (fun K hK => ?_)
     have hs12 : w11.cell? ⟨gb129, 0, none⟩ = some (.int .i64 0) := (blk_cell BK129.out 0).trans rfl
     have hfs12 := blk_frozen BK129.out 0
     have hns12_0 := NB125_129.out
     have hms12_0 := NB129_125.out
     have hs13 : w11.cell? ⟨gb129, 1, none⟩ = some (.int .i64 0) := (blk_cell BK129.out 1).trans rfl
     have hfs13 := blk_frozen BK129.out 1
     have hns13_0 := NB125_129.out
     have hms13_0 := NB129_125.out
     have hs14 : w11.cell? ⟨gb129, 2, none⟩ = some (.slice none 0 0) := (blk_cell BK129.out 2).trans rfl
     have hfs14 := blk_frozen BK129.out 2
     have hns14_0 := NB125_129.out
     have hms14_0 := NB129_125.out
     have hs15 : w11.cell? ⟨gb129, 3, none⟩ = some (.slice none 0 0) := (blk_cell BK129.out 3).trans rfl
     have hfs15 := blk_frozen BK129.out 3
     have hns15_0 := NB125_129.out
     have hms15_0 := NB129_125.out
     refine skip_ (w1 := ?_) (by rfl) rfl ?_ ?_
     rotate_left
     ·go_simp
      rfl
     refine hK.out _ _ ⟨((cell_far (p := ⟨gb129, _, none⟩) d13 _).trans (((cell_far (p := ⟨gb129, _, none⟩) d13 _).trans (((cell_far (p := ⟨gb129, _, none⟩) d13 _).trans (((cell_far (p := ⟨gb129, _, none⟩) d13 _).trans (hHeld.1)))))))), ((cell_far (p := ⟨gb129, _, none⟩) d14 _).trans (((cell_far (p := ⟨gb129, _, none⟩) d14 _).trans (((cell_far (p := ⟨gb129, _, none⟩) d14 _).trans (((cell_far (p := ⟨gb129, _, none⟩) d14 _).trans (hHeld.2.1)))))))), ((cell_far (p := ⟨gb129, _, none⟩) d15 _).trans (((cell_far (p := ⟨gb129, _, none⟩) d15 _).trans (((cell_far (p := ⟨gb129, _, none⟩) d15 _).trans (((cell_far (p := ⟨gb129, _, none⟩) d15 _).trans (hHeld.2.2.1)))))))), ((cell_far (p := ⟨gb129, _, none⟩) d16 _).trans (((cell_far (p := ⟨gb129, _, none⟩) d16 _).trans (((cell_far (p := ⟨gb129, _, none⟩) d16 _).trans (((cell_far (p := ⟨gb129, _, none⟩) d16 _).trans (hHeld.2.2.2.1)))))))), ((cell_far (p := ⟨gb129, _, none⟩) d17 _).trans (((cell_far (p := ⟨gb129, _, none⟩) d17 _).trans (((cell_far (p := ⟨gb129, _, none⟩) d17 _).trans (((cell_far (p := ⟨gb129, _, none⟩) d17 _).trans (hHeld.2.2.2.2.1)))))))), ((cell_far (p := ⟨gb129, _, none⟩) d18 _).trans (((cell_far (p := ⟨gb129, _, none⟩) d18 _).trans (((cell_far (p := ⟨gb129, _, none⟩) d18 _).trans (((cell_far (p := ⟨gb129, _, none⟩) d18 _).trans (hHeld.2.2.2.2.2.1)))))))), ((cell_far (p := ⟨gb129, _, none⟩) d19 _).trans (((cell_far (p := ⟨gb129, _, none⟩) d19 _).trans (((cell_far (p := ⟨gb129, _, none⟩) d19 _).trans (((cell_far (p := ⟨gb129, _, none⟩) d19 _).trans (hHeld.2.2.2.2.2.2.1)))))))), ((cell_far (p := ⟨gb129, _, none⟩) d20 _).trans (((cell_far (p := ⟨gb129, _, none⟩) d20 _).trans (((cell_far (p := ⟨gb129, _, none⟩) d20 _).trans (((cell_far (p := ⟨gb129, _, none⟩) d20 _).trans (hHeld.2.2.2.2.2.2.2))))))))⟩ (fun hHeld => ?_)
     clear hK K
     refine done_ (done_of HT_.out (by kernel_rfl)) ?_
     try go_wp2
     go_loopg [7] kj2 (fun kq v7 w' => ∃ (x7_2 : Int) (x130002_2 : List Int) (x130003_2 : List Int) (u130002 : Value) (u130003 : Value), v7 = .int .i64 x7_2 ∧ Aside0 (spec_Gathered.l0 kq l0 a1 x7_2 ((rd_T43 l0 0).f0) ((rd_T43 l0 0).f1) x130002_2 x130003_2 = some (r1, r2, r3, r4, r5)) ∧ Aside0 (kq ≤ kj2) ∧ Aside0 (Kd.R (Kd.int .i64) 2 w' w.heap.size (fun k_ => some k_ ≠ (u130003 : Value).ownBlock) u130002 x130002_2) ∧ Aside0 (Kd.R (Kd.int .i64) 2 w' w.heap.size (fun k_ => some k_ ≠ (u130002 : Value).ownBlock) u130003 x130003_2) ∧ Aside0 (w'.heap[gb125]? = some (.cells #[.int .i64 0, .int .i64 0, (.slice none 0 0), (.slice none 0 0)] 26 (0, 0))) ∧ Aside0 (w'.heap[gb129]? = some (.cells #[.int .i64 ((rd_T43 l0 0).f0), .int .i64 ((rd_T43 l0 0).f1), u130002, u130003] 26 (0, 0))) ∧ Aside0 (Below w.heap.size w w'))
     case atStart => exact ⟨(0), (([] : List Int)), (([] : List Int)), (.slice none 0 0), (.slice none 0 0), d9, H', ⟨Nat.le_refl _⟩, ⟨o17⟩, ⟨o17⟩, ⟨(by (with_reducible repeat (first | refine blk_drewN ?_ _ | refine blk_drew ?_ | refine blk_alloc ?_ _)); refine blk_far ?_ NB125_129.out _; (with_reducible repeat (first | refine blk_drewN ?_ _ | refine blk_drew ?_ | refine blk_alloc ?_ _)); refine blk_far ?_ NB125_129.out _; (with_reducible repeat (first | refine blk_drewN ?_ _ | refine blk_drew ?_ | refine blk_alloc ?_ _)); refine blk_far ?_ NB125_129.out _; (with_reducible repeat (first | refine blk_drewN ?_ _ | refine blk_drew ?_ | refine blk_alloc ?_ _)); refine blk_far ?_ NB125_129.out _; (with_reducible repeat (first | refine blk_drewN ?_ _ | refine blk_drew ?_ | refine blk_alloc ?_ _)); exact BK125.out)⟩, ⟨(by (with_reducible repeat (first | refine blk_drewN ?_ _ | refine blk_drew ?_ | refine blk_alloc ?_ _)); refine blk_put (cs := #[.int .i64 ((rd_T43 l0 0).f0), .int .i64 ((rd_T43 l0 0).f1), .slice none 0 0, .slice none 0 0]) ?_ 3 _ rfl; (with_reducible repeat (first | refine blk_drewN ?_ _ | refine blk_drew ?_ | refine blk_alloc ?_ _)); refine blk_put (cs := #[.int .i64 ((rd_T43 l0 0).f0), .int .i64 ((rd_T43 l0 0).f1), .slice none 0 0, .slice none 0 0]) ?_ 2 _ rfl; (with_reducible repeat (first | refine blk_drewN ?_ _ | refine blk_drew ?_ | refine blk_alloc ?_ _)); refine blk_put (cs := #[.int .i64 ((rd_T43 l0 0).f0), .int .i64 0, .slice none 0 0, .slice none 0 0]) ?_ 1 _ rfl; (with_reducible repeat (first | refine blk_drewN ?_ _ | refine blk_drew ?_ | refine blk_alloc ?_ _)); refine blk_put (cs := #[.int .i64 0, .int .i64 0, .slice none 0 0, .slice none 0 0]) ?_ 0 _ rfl; (with_reducible repeat (first | refine blk_drewN ?_ _ | refine blk_drew ?_ | refine blk_alloc ?_ _)); exact BK129.out)⟩, ⟨o29⟩⟩
     case round =>
      clear H'
      try clear p1
      try clear q1
      try clear hx1
      try clear qi1
      try clear p2
      try clear c5
      try clear c5b0
      try clear c5b1
      try clear c5b2
      try clear c7
      try clear c8
      try clear c9
      try clear c9b0
      try clear c9b1
      try clear p12
      try clear q12
      try clear hx12
      try clear qi12
      try clear hcz8_0
      try clear hcz8_1
      try clear hcz8_2
      try clear hcz8_3
      try clear hfz8_0
      try clear hfz8_1
      try clear hfz8_2
      try clear hfz8_3
      try clear hx127_0
      try clear hx127_1
      try clear hx127_2
      try clear hx127_3
      try clear hx128_0
      try clear hx128_1
      try clear hx128_2
      try clear hx128_3
      try clear p127
      try clear p128
      try clear p2
      try clear q127
      try clear q128
      obtain ⟨x7_2, x130002_2, x130003_2, u130002, u130003, rfl, HA, HK2, HO_130002, HO_130003, BK125, BK129, HB⟩ := hrel
      cases gk with
      | zero => exact absurd HA.out (by simp [spec_Gathered.l0])
      | succ k2 =>
       have H := HA.out
       clear HA
       simp only [spec_Gathered.l0] at H
       by_cases c16 : x7_2 < a1
       ·rw [if_pos c16] at H
        have c16b0 : decide (x7_2 < a1) = true := decide_eq_true c16
        clear c16
        have H' := Aside0.mk H
        clear H
        go_wp2
        go_loopg [8] k2 (fun kq v8 w' => ∃ (x8_3 : Int) (x130002_3 : List Int) (x130003_3 : List Int) (u130002 : Value) (u130003 : Value), v8 = .int .i64 x8_3 ∧ Aside0 (spec_Gathered.l1 kq l0 a1 x7_2 x8_3 ((rd_T43 l0 0).f0) ((rd_T43 l0 0).f1) x130002_3 x130003_3 = some (r1, r2, r3, r4, r5)) ∧ Aside0 (kq ≤ k2) ∧ Aside0 (Kd.R (Kd.int .i64) 2 w' w.heap.size (fun k_ => some k_ ≠ (u130003 : Value).ownBlock) u130002 x130002_3) ∧ Aside0 (Kd.R (Kd.int .i64) 2 w' w.heap.size (fun k_ => some k_ ≠ (u130002 : Value).ownBlock) u130003 x130003_3) ∧ Aside0 (w'.heap[gb125]? = some (.cells #[.int .i64 0, .int .i64 0, (.slice none 0 0), (.slice none 0 0)] 26 (0, 0))) ∧ Aside0 (w'.heap[gb129]? = some (.cells #[.int .i64 ((rd_T43 l0 0).f0), .int .i64 ((rd_T43 l0 0).f1), u130002, u130003] 26 (0, 0))) ∧ Aside0 (Below w.heap.size w w'))
        case atStart => exact ⟨(0), (x130002_2), (x130003_2), (u130002), (u130003), d9, H', ⟨Nat.le_refl _⟩, ⟨o87⟩, ⟨o88⟩, ⟨o57⟩, ⟨o84⟩, ⟨o29⟩⟩
        case round =>
         clear H'
         try clear c1
         try clear p1
         try clear q1
         try clear hx1
         try clear qi1
         try clear p2
         try clear c5
         try clear c5b0
         try clear c5b1
         try clear c5b2
         try clear c7
         try clear c8
         try clear c9
         try clear c9b0
         try clear c9b1
         try clear p12
         try clear q12
         try clear hx12
         try clear qi12
         try clear c16
         try clear c16b0
         try clear hcz8_0
         try clear hcz8_1
         try clear hcz8_2
         try clear hcz8_3
         try clear hfz8_0
         try clear hfz8_1
         try clear hfz8_2
         try clear hfz8_3
         try clear hx127_0
         try clear hx127_1
         try clear hx127_2
         try clear hx127_3
         try clear hx128_0
         try clear hx128_1
         try clear hx128_2
         try clear hx128_3
         try clear p1
         try clear p12
         try clear p127
         try clear p128
         try clear p2
         try clear q1
         try clear q12
         try clear q127
         try clear q128
         obtain ⟨x8_3, x130002_3, x130003_3, u130002, u130003, rfl, HA, HK3, HO_130002, HO_130003, BK125, BK129, HB⟩ := hrel
         cases gk with
         | zero => exact absurd HA.out (by simp [spec_Gathered.l1])
         | succ k3 =>
          have H := HA.out
          clear HA
          simp only [spec_Gathered.l1] at H
          by_cases c17 : x8_3 < (l0.length : Int)
          ·rw [if_pos c17] at H
           have c17b0 : decide (x8_3 < (l0.length : Int)) = true := decide_eq_true c17
           clear c17
           by_cases c18 : 0 ≤ x8_3
           ·rw [if_pos c18] at H
            have c18b0 : decide (0 ≤ x8_3) = true := decide_eq_true c18
            clear c18
            by_cases c19 : ((rd_T43 l0 x8_3).f2) = x7_2
            ·rw [if_pos c19] at H
             have c19b0 : (((rd_T43 l0 x8_3).f2) == x7_2) = true := beq_iff_eq.mpr c19
             have c19b1 : (((rd_T43 l0 x8_3).f2) != x7_2) = false := bne_eq_false_iff_eq.mpr c19
             clear c19
             by_cases c20 : ((rd_T43 l0 x8_3).f0) = ((rd_T43 l0 0).f0)
             ·rw [if_pos c20] at H
              have c20b0 : (((rd_T43 l0 x8_3).f0) == ((rd_T43 l0 0).f0)) = true := beq_iff_eq.mpr c20
              have c20b1 : (((rd_T43 l0 x8_3).f0) != ((rd_T43 l0 0).f0)) = false := bne_eq_false_iff_eq.mpr c20
              clear c20
              by_cases c21 : ((rd_T43 l0 x8_3).f1) = ((rd_T43 l0 0).f1)
              ·rw [if_pos c21] at H
               have c21b0 : (((rd_T43 l0 x8_3).f1) == ((rd_T43 l0 0).f1)) = true := beq_iff_eq.mpr c21
               have c21b1 : (((rd_T43 l0 x8_3).f1) != ((rd_T43 l0 0).f1)) = false := bne_eq_false_iff_eq.mpr c21
               clear c21
               replace H := Option.bind_eq_some_iff.mp H
               obtain ⟨t133, A220, H⟩ := H
               replace H : (if t133 = true then (if x130002_3.length < 17592186044416 then (if x130003_3.length < 17592186044416 then (spec_Gathered.l0 k3 l0 a1 (wrap64 (x7_2 + 1)) ((rd_T43 l0 0).f0) ((rd_T43 l0 0).f1) (x130002_3 ++ [x7_2]) (x130003_3 ++ [(rd_T43 l0 x8_3).f3])) else (none)) else (none)) else (spec_Gathered.l1 k3 l0 a1 x7_2 (wrap64 (x8_3 + 1)) ((rd_T43 l0 0).f0) ((rd_T43 l0 0).f1) x130002_3 x130003_3)) = some (r1, r2, r3, r4, r5) := H
               have A22 := Aside0.mk A220
               clear A220
               have HC23 := Aside0.mk H
               clear H
               have p131 : 0 ≤ (x8_3 : Int) := od_
               have q131 : x8_3 < (l0.length : Int) := od_
               obtain ⟨ad131, e131, hx131_0, hx131_1, hx131_2, hx131_3⟩ := at_T43 HR0.out x8_3 p131 q131
               obtain rfl : ad127 = ad131 := (by injection e131)
               replace hx131_0 := (HB.out.cell (World.block_lt_of_cell? w _ hx131_0)).trans hx131_0
               replace hx131_1 := (HB.out.cell (World.block_lt_of_cell? w _ hx131_1)).trans hx131_1
               replace hx131_2 := (HB.out.cell (World.block_lt_of_cell? w _ hx131_2)).trans hx131_2
               replace hx131_3 := (HB.out.cell (World.block_lt_of_cell? w _ hx131_3)).trans hx131_3
               replace p131 := eq_true p131
               replace q131 := eq_true q131
               go_upto_if 65 with (first | ((with_reducible refine gate_dst (N := 9) rfl ?_); refine box_event ?hg (N := 9) ?hd (cs := #[.int .i64 0, .int .i64 0, .int .i64 0, .int .i64 0]) (t := 43) ?hr ?_; (case hd => rfl); (case hg => rfl); (case hr => first | (go_simp; done) | (go_simp; rfl)); intro gb132 hg w24 hbox hb; have n0_ := Aside0.mk (Kd.R_below d86 hb); have n1_ := Aside0.mk (Kd.R_below d87 hb); have n2_ := Aside0.mk (blk_below (g := gb125) (o := .cells #[.int .i64 0, .int .i64 0, .slice none 0 0, .slice none 0 0] 26 (0, 0)) d33 hb); have n3_ := Aside0.mk (blk_below (g := gb129) (o := .cells #[.int .i64 ((rd_T43 l0 0).f0), .int .i64 ((rd_T43 l0 0).f1), u130002, u130003] 26 (0, 0)) d39 hb); have n4_ := Aside0.mk (below_step d12 hb); have n5_ := Aside0.mk (hbox); have n6_ := Aside0.mk ((by rw [hg]; exact (below_size d12) : w.heap.size ≤ gb132)); have n7_ := Aside0.mk ((by rw [hg]; exact (below_size d12) : w.heap.size ≤ gb132)); have n8_ := Aside0.mk ((by rw [hg]; exact Nat.ne_of_lt (blk_lt (g := gb125) (o := .cells #[.int .i64 0, .int .i64 0, .slice none 0 0, .slice none 0 0] 26 (0, 0)) d33) : gb125 ≠ gb132)); have n9_ := Aside0.mk ((by rw [hg]; exact Nat.ne_of_gt (blk_lt (g := gb125) (o := .cells #[.int .i64 0, .int .i64 0, .slice none 0 0, .slice none 0 0] 26 (0, 0)) d33) : gb132 ≠ gb125)); have n10_ := Aside0.mk ((by rw [hg]; exact Nat.ne_of_lt (blk_lt (g := gb129) (o := .cells #[.int .i64 ((rd_T43 l0 0).f0), .int .i64 ((rd_T43 l0 0).f1), u130002, u130003] 26 (0, 0)) d39) : gb129 ≠ gb132)); have n11_ := Aside0.mk ((by rw [hg]; exact Nat.ne_of_gt (blk_lt (g := gb129) (o := .cells #[.int .i64 ((rd_T43 l0 0).f0), .int .i64 ((rd_T43 l0 0).f1), u130002, u130003] 26 (0, 0)) d39) : gb132 ≠ gb129)); clear HO_130002; clear HO_130003; clear BK125; clear BK129; clear HB; have HO_130002 := n0_; have HO_130003 := n1_; have BK125 := n2_; have BK129 := n3_; have HB := n4_; have BK132 := n5_; have GW132 := n6_; have GE132 := n7_; have NB125_132 := n8_; have NB132_125 := n9_; have NB129_132 := n10_; have NB132_129 := n11_; clear n0_ n1_ n2_ n3_ n4_ n5_ n6_ n7_ n8_ n9_ n10_ n11_; clear hb hbox hg; have hnb25 := NB132_125.out; have hnc25 := NB125_132.out; have hnb26 := NB132_129.out; have hnc26 := NB129_132.out; have hcz27_0 : w24.cell? ⟨gb132, 0, none⟩ = some (.int .i64 0) := (blk_cell BK132.out 0).trans rfl; have hcz27_1 : w24.cell? ⟨gb132, 1, none⟩ = some (.int .i64 0) := (blk_cell BK132.out 1).trans rfl; have hcz27_2 : w24.cell? ⟨gb132, 2, none⟩ = some (.int .i64 0) := (blk_cell BK132.out 2).trans rfl; have hcz27_3 : w24.cell? ⟨gb132, 3, none⟩ = some (.int .i64 0) := (blk_cell BK132.out 3).trans rfl; have hfz27_0 := blk_frozen BK132.out 0; have hfz27_1 := blk_frozen BK132.out 1; have hfz27_2 := blk_frozen BK132.out 2; have hfz27_3 := blk_frozen BK132.out 3; have hnb28 := NB129_125.out; have hnc28 := NB125_129.out; have hcz29_0 : w24.cell? ⟨gb129, 0, none⟩ = some (.int .i64 ((rd_T43 l0 0).f0)) := (blk_cell BK129.out 0).trans rfl; have hcz29_1 : w24.cell? ⟨gb129, 1, none⟩ = some (.int .i64 ((rd_T43 l0 0).f1)) := (blk_cell BK129.out 1).trans rfl; have hcz29_2 : w24.cell? ⟨gb129, 2, none⟩ = some (u130002) := (blk_cell BK129.out 2).trans rfl; have hcz29_3 : w24.cell? ⟨gb129, 3, none⟩ = some (u130003) := (blk_cell BK129.out 3).trans rfl; have hfz29_0 := blk_frozen BK129.out 0; have hfz29_1 := blk_frozen BK129.out 1; have hfz29_2 := blk_frozen BK129.out 2; have hfz29_3 := blk_frozen BK129.out 3) | (go_at_call 26; (with_reducible refine (spec_VoteOk.calls k3 ((rd_T43 l0 x8_3).f0) ((rd_T43 l0 x8_3).f1) ((rd_T43 l0 x8_3).f2) ((rd_T43 l0 x8_3).f3) a1 t133 _ A22.out).mono ?_); rintro e w30 ⟨rfl, hb⟩; have n0_ := Aside0.mk (Kd.R_below (by (with_reducible repeat (first | apply Kd.R_alloc | apply Kd.R_drewN | apply Kd.R_drew)); exact (Kd.R_mono (Kd.R_far (p := ⟨gb132, 3, none⟩) (Kd.R_far (p := ⟨gb132, 2, none⟩) (Kd.R_far (p := ⟨gb132, 1, none⟩) (Kd.R_far (p := ⟨gb132, 0, none⟩) (Kd.R_types HO_130002.out BK132.out (by decide)) (fun _ hk => hk.2) (.int .i64 ((rd_T43 l0 x8_3).f0))) (fun _ hk => hk.2) (.int .i64 ((rd_T43 l0 x8_3).f1))) (fun _ hk => hk.2) (.int .i64 ((rd_T43 l0 x8_3).f2))) (fun _ hk => hk.2) (.int .i64 ((rd_T43 l0 x8_3).f3))) (fun _ h_ => h_.1))) hb); have n1_ := Aside0.mk (Kd.R_below (by (with_reducible repeat (first | apply Kd.R_alloc | apply Kd.R_drewN | apply Kd.R_drew)); exact (Kd.R_mono (Kd.R_far (p := ⟨gb132, 3, none⟩) (Kd.R_far (p := ⟨gb132, 2, none⟩) (Kd.R_far (p := ⟨gb132, 1, none⟩) (Kd.R_far (p := ⟨gb132, 0, none⟩) (Kd.R_types HO_130003.out BK132.out (by decide)) (fun _ hk => hk.2) (.int .i64 ((rd_T43 l0 x8_3).f0))) (fun _ hk => hk.2) (.int .i64 ((rd_T43 l0 x8_3).f1))) (fun _ hk => hk.2) (.int .i64 ((rd_T43 l0 x8_3).f2))) (fun _ hk => hk.2) (.int .i64 ((rd_T43 l0 x8_3).f3))) (fun _ h_ => h_.1))) hb); have n2_ := Aside0.mk (blk_below (g := gb125) (o := .cells #[.int .i64 0, .int .i64 0, .slice none 0 0, .slice none 0 0] 26 (0, 0)) o12 hb); have n3_ := Aside0.mk (blk_below (g := gb129) (o := .cells #[.int .i64 ((rd_T43 l0 0).f0), .int .i64 ((rd_T43 l0 0).f1), u130002, u130003] 26 (0, 0)) o13 hb); have n4_ := Aside0.mk (blk_below (g := gb132) (o := .cells #[.int .i64 ((rd_T43 l0 x8_3).f0), .int .i64 ((rd_T43 l0 x8_3).f1), .int .i64 ((rd_T43 l0 x8_3).f2), .int .i64 ((rd_T43 l0 x8_3).f3)] 43 (0, 0)) (by (with_reducible repeat (first | refine blk_drewN ?_ _ | refine blk_drew ?_ | refine blk_alloc ?_ _)); refine blk_put (cs := #[.int .i64 ((rd_T43 l0 x8_3).f0), .int .i64 ((rd_T43 l0 x8_3).f1), .int .i64 ((rd_T43 l0 x8_3).f2), .int .i64 0]) ?_ 3 _ rfl; (with_reducible repeat (first | refine blk_drewN ?_ _ | refine blk_drew ?_ | refine blk_alloc ?_ _)); refine blk_put (cs := #[.int .i64 ((rd_T43 l0 x8_3).f0), .int .i64 ((rd_T43 l0 x8_3).f1), .int .i64 0, .int .i64 0]) ?_ 2 _ rfl; (with_reducible repeat (first | refine blk_drewN ?_ _ | refine blk_drew ?_ | refine blk_alloc ?_ _)); refine blk_put (cs := #[.int .i64 ((rd_T43 l0 x8_3).f0), .int .i64 0, .int .i64 0, .int .i64 0]) ?_ 1 _ rfl; (with_reducible repeat (first | refine blk_drewN ?_ _ | refine blk_drew ?_ | refine blk_alloc ?_ _)); refine blk_put (cs := #[.int .i64 0, .int .i64 0, .int .i64 0, .int .i64 0]) ?_ 0 _ rfl; (with_reducible repeat (first | refine blk_drewN ?_ _ | refine blk_drew ?_ | refine blk_alloc ?_ _)); exact BK132.out) hb); have n5_ := Aside0.mk (below_step d65 hb); clear HO_130002; clear HO_130003; clear BK125; clear BK129; clear BK132; clear HB; have HO_130002 := n0_; have HO_130003 := n1_; have BK125 := n2_; have BK129 := n3_; have BK132 := n4_; have HB := n5_; clear n0_ n1_ n2_ n3_ n4_ n5_; (try clear hb); (try clear hb2); (try clear hk); (try clear hi)))
               (try simp only [Act.put, List.setIfInBounds_toArray, List.set_cons_zero, List.set_cons_succ])
               have H := HC23.out
               clear HC23
               by_cases c31 : t133 = true
               ·subst c31
                have H1 : (if x130002_3.length < 17592186044416 then (if x130003_3.length < 17592186044416 then (spec_Gathered.l0 k3 l0 a1 (wrap64 (x7_2 + 1)) ((rd_T43 l0 0).f0) ((rd_T43 l0 0).f1) (x130002_3 ++ [x7_2]) (x130003_3 ++ [(rd_T43 l0 x8_3).f3])) else (none)) else (none)) = some (r1, r2, r3, r4, r5) := by rw [if_pos rfl] at H; exact H
                clear H
                have H := H1
                clear H1
                by_cases c32 : x130002_3.length < 17592186044416
                ·rw [if_pos c32] at H
                 have LMc32 := Aside0.mk c32
                 clear c32
                 obtain ⟨y134, hy134⟩ : ∃ y_ : List Int, y_ = (x130002_3 ++ [x7_2]) := ⟨_, rfl⟩
                 replace H : (if x130003_3.length < 17592186044416 then (spec_Gathered.l0 k3 l0 a1 (wrap64 (x7_2 + 1)) ((rd_T43 l0 0).f0) ((rd_T43 l0 0).f1) y134 (x130003_3 ++ [(rd_T43 l0 x8_3).f3])) else (none)) = some (r1, r2, r3, r4, r5) := by first | (rw [hy134]; with_reducible exact H) | (have H2_ := (Option.bind_some _ _).symm.trans H; rw [hy134]; with_reducible exact H2_) | (have H2_ := (Option.bind_some _ _).symm.trans H; with_reducible exact H2_) | with_reducible exact H | (rw [hy134]; exact H) | exact H
                 have Ny134 := Aside0.mk hy134
                 clear hy134
                 by_cases c33 : x130003_3.length < 17592186044416
                 ·rw [if_pos c33] at H
                  have LMc33 := Aside0.mk c33
                  clear c33
                  obtain ⟨y137, hy137⟩ : ∃ y_ : List Int, y_ = (x130003_3 ++ [(rd_T43 l0 x8_3).f3]) := ⟨_, rfl⟩
                  replace H : (spec_Gathered.l0 k3 l0 a1 (wrap64 (x7_2 + 1)) ((rd_T43 l0 0).f0) ((rd_T43 l0 0).f1) y134 y137) = some (r1, r2, r3, r4, r5) := by first | (rw [hy137]; with_reducible exact H) | (have H2_ := (Option.bind_some _ _).symm.trans H; rw [hy137]; with_reducible exact H2_) | (have H2_ := (Option.bind_some _ _).symm.trans H; with_reducible exact H2_) | with_reducible exact H | (rw [hy137]; exact H) | exact H
                  have Ny137 := Aside0.mk hy137
                  clear hy137
                  have H' := Aside0.mk H
                  clear H
                  have hnb34 := NB129_125.out
                  have hnc34 := NB125_129.out
                  have hnb35 := NB129_132.out
                  have hnc35 := NB132_129.out
                  have hcz36_0 : w30.cell? ⟨gb129, 0, none⟩ = some (.int .i64 ((rd_T43 l0 0).f0)) := (blk_cell BK129.out 0).trans rfl
                  have hcz36_1 : w30.cell? ⟨gb129, 1, none⟩ = some (.int .i64 ((rd_T43 l0 0).f1)) := (blk_cell BK129.out 1).trans rfl
                  have hcz36_2 : w30.cell? ⟨gb129, 2, none⟩ = some (u130002) := (blk_cell BK129.out 2).trans rfl
                  have hcz36_3 : w30.cell? ⟨gb129, 3, none⟩ = some (u130003) := (blk_cell BK129.out 3).trans rfl
                  have hfz36_0 := blk_frozen BK129.out 0
                  have hfz36_1 := blk_frozen BK129.out 1
                  have hfz36_2 := blk_frozen BK129.out 2
                  have hfz36_3 := blk_frozen BK129.out 3
                  go_wp2_with (first | ((with_reducible refine gate_builtin (b := .append) (xs := #[.tmp 67, .tmp 69]) rfl ?_); at_builtin; refine Kd.R_append (Kd.int .i64) (w0 := w) w.heap.size rfl (.tmp 67) (.tmp 69) 24 2 (.int .i64 0) 8 rfl Tryd.underlying24 info2 rfl (by decide) (by omega) u130002 x130002_3 x7_2 [.int .i64 x7_2] (fun k_ => some k_ ≠ (u130003 : Value).ownBlock) (fun _ => False) rfl rfl ?aP (fun _ hk => hk.elim) ?aF ?aO ?aB ?aS ?aL ?_; (case aP => exact rfl); (case aB => exact d65); (case aF => exact (fun k_ hk => Kd.fresh' (Kd.R_lt d87) k_ hk)); (case aO => exact d86); (case aS => exact (below_size d65)); (case aL => have := LMc32.out; omega); intro v135 w37 ho hb hg hat; rw [← Ny134.out] at ho; have n0_ := Aside0.mk (Kd.R_after (ok := (fun _ => True)) (by (with_reducible repeat (first | apply Kd.R_alloc | apply Kd.R_drewN | apply Kd.R_drew)); exact Kd.R_mono HO_130003.out (fun _ hk => ⟨trivial, hk⟩)) hg hat); have n1_ := Aside0.mk (blk_grown (g := gb125) (o := .cells #[.int .i64 0, .int .i64 0, .slice none 0 0, .slice none 0 0] 26 (0, 0)) d33 hg (Kd.R_ne HO_130002.out BK125.out (by decide))); have n2_ := Aside0.mk (blk_grown (g := gb129) (o := .cells #[.int .i64 ((rd_T43 l0 0).f0), .int .i64 ((rd_T43 l0 0).f1), u130002, u130003] 26 (0, 0)) d39 hg (Kd.R_ne HO_130002.out BK129.out (by decide))); have n3_ := Aside0.mk (blk_grown (g := gb132) (o := .cells #[.int .i64 ((rd_T43 l0 x8_3).f0), .int .i64 ((rd_T43 l0 x8_3).f1), .int .i64 ((rd_T43 l0 x8_3).f2), .int .i64 ((rd_T43 l0 x8_3).f3)] 43 (0, 0)) (by (with_reducible repeat (first | refine blk_drewN ?_ _ | refine blk_drew ?_ | refine blk_alloc ?_ _)); exact BK132.out) hg (Kd.R_ne HO_130002.out BK132.out (by decide))); have n4_ := Aside0.mk (hb); have n5_ := Aside0.mk (ho); clear HO_130003; clear BK125; clear BK129; clear BK132; clear HB; clear HO_130002; have HO_130003 := n0_; have BK125 := n1_; have BK129 := n2_; have BK132 := n3_; have HB := n4_; have HO136 := n5_; clear n0_ n1_ n2_ n3_ n4_ n5_; clear ho hb hg hat; obtain ⟨Ao38, co38, eo38⟩ := Kd.R_slice HO136.out; subst eo38; have hcz39_0 : w37.cell? ⟨gb129, 0, none⟩ = some (.int .i64 ((rd_T43 l0 0).f0)) := (blk_cell BK129.out 0).trans rfl; have hcz39_1 : w37.cell? ⟨gb129, 1, none⟩ = some (.int .i64 ((rd_T43 l0 0).f1)) := (blk_cell BK129.out 1).trans rfl; have hcz39_2 : w37.cell? ⟨gb129, 2, none⟩ = some (u130002) := (blk_cell BK129.out 2).trans rfl; have hcz39_3 : w37.cell? ⟨gb129, 3, none⟩ = some (u130003) := (blk_cell BK129.out 3).trans rfl; have hfz39_0 := blk_frozen BK129.out 0; have hfz39_1 := blk_frozen BK129.out 1; have hfz39_2 := blk_frozen BK129.out 2; have hfz39_3 := blk_frozen BK129.out 3; have hnb40 := NB132_125.out; have hnc40 := NB125_132.out; have hcz41_0 : w37.cell? ⟨gb132, 0, none⟩ = some (.int .i64 ((rd_T43 l0 x8_3).f0)) := (blk_cell BK132.out 0).trans rfl; have hcz41_1 : w37.cell? ⟨gb132, 1, none⟩ = some (.int .i64 ((rd_T43 l0 x8_3).f1)) := (blk_cell BK132.out 1).trans rfl; have hcz41_2 : w37.cell? ⟨gb132, 2, none⟩ = some (.int .i64 ((rd_T43 l0 x8_3).f2)) := (blk_cell BK132.out 2).trans rfl; have hcz41_3 : w37.cell? ⟨gb132, 3, none⟩ = some (.int .i64 ((rd_T43 l0 x8_3).f3)) := (blk_cell BK132.out 3).trans rfl; have hfz41_0 := blk_frozen BK132.out 0; have hfz41_1 := blk_frozen BK132.out 1; have hfz41_2 := blk_frozen BK132.out 2; have hfz41_3 := blk_frozen BK132.out 3) | ((with_reducible refine gate_builtin (b := .append) (xs := #[.tmp 73, .tmp 76]) rfl ?_); at_builtin; refine Kd.R_append (Kd.int .i64) (w0 := w) w.heap.size rfl (.tmp 73) (.tmp 76) 24 2 (.int .i64 0) 8 rfl Tryd.underlying24 info2 rfl (by decide) (by omega) u130003 x130003_3 ((rd_T43 l0 x8_3).f3) [.int .i64 ((rd_T43 l0 x8_3).f3)] (fun k_ => some k_ ≠ (.slice Ao38 y134.length co38 : Value).ownBlock) (fun _ => False) rfl (by first | (go_simp; done) | (go_simp; rfl)) ?aP (fun _ hk => hk.elim) ?aF ?aO ?aB ?aS ?aL ?_; (case aP => exact rfl); (case aB => exact d65); (case aF => exact (fun k_ hk => Kd.fresh' (Kd.R_lt (by (with_reducible repeat (first | apply Kd.R_alloc | apply Kd.R_drewN | apply Kd.R_drew)); exact (Kd.R_mono (Kd.R_far (p := ⟨gb129, 2, none⟩) (Kd.R_types HO136.out BK129.out (by decide)) (fun _ hk => hk.2) (.slice Ao38 y134.length co38)) (fun _ h_ => h_.1)))) k_ hk)); (case aO => exact (by (with_reducible repeat (first | apply Kd.R_alloc | apply Kd.R_drewN | apply Kd.R_drew)); exact Kd.R_mono (Kd.R_far (p := ⟨gb129, 2, none⟩) (Kd.R_types HO_130003.out BK129.out (by decide)) (fun _ hk => hk.2) (.slice Ao38 y134.length co38)) (fun _ hk => hk.1.2))); (case aS => exact (below_size d65)); (case aL => have := LMc33.out; omega); intro v138 w42 ho hb hg hat; rw [← Ny137.out] at ho; have n0_ := Aside0.mk (blk_grown (g := gb125) (o := .cells #[.int .i64 0, .int .i64 0, .slice none 0 0, .slice none 0 0] 26 (0, 0)) (by (with_reducible repeat (first | refine blk_drewN ?_ _ | refine blk_drew ?_ | refine blk_alloc ?_ _)); refine blk_far ?_ NB125_129.out _; (with_reducible repeat (first | refine blk_drewN ?_ _ | refine blk_drew ?_ | refine blk_alloc ?_ _)); exact BK125.out) hg (Kd.R_ne HO_130003.out BK125.out (by decide))); have n1_ := Aside0.mk (blk_grown (g := gb129) (o := .cells #[.int .i64 ((rd_T43 l0 0).f0), .int .i64 ((rd_T43 l0 0).f1), .slice Ao38 y134.length co38, u130003] 26 (0, 0)) (by (with_reducible repeat (first | refine blk_drewN ?_ _ | refine blk_drew ?_ | refine blk_alloc ?_ _)); refine blk_put (cs := #[.int .i64 ((rd_T43 l0 0).f0), .int .i64 ((rd_T43 l0 0).f1), u130002, u130003]) ?_ 2 _ rfl; (with_reducible repeat (first | refine blk_drewN ?_ _ | refine blk_drew ?_ | refine blk_alloc ?_ _)); exact BK129.out) hg (Kd.R_ne HO_130003.out BK129.out (by decide))); have n2_ := Aside0.mk (blk_grown (g := gb132) (o := .cells #[.int .i64 ((rd_T43 l0 x8_3).f0), .int .i64 ((rd_T43 l0 x8_3).f1), .int .i64 ((rd_T43 l0 x8_3).f2), .int .i64 ((rd_T43 l0 x8_3).f3)] 43 (0, 0)) (by (with_reducible repeat (first | refine blk_drewN ?_ _ | refine blk_drew ?_ | refine blk_alloc ?_ _)); refine blk_far ?_ NB132_129.out _; (with_reducible repeat (first | refine blk_drewN ?_ _ | refine blk_drew ?_ | refine blk_alloc ?_ _)); exact BK132.out) hg (Kd.R_ne HO_130003.out BK132.out (by decide))); have n3_ := Aside0.mk (Kd.R_after (ok := (fun _ => True)) (by (with_reducible repeat (first | apply Kd.R_alloc | apply Kd.R_drewN | apply Kd.R_drew)); exact Kd.R_mono (Kd.R_far (p := ⟨gb129, 2, none⟩) (Kd.R_types HO136.out BK129.out (by decide)) (fun _ hk => hk.2) (.slice Ao38 y134.length co38)) (fun _ hk => ⟨trivial, hk.1⟩)) hg hat); have n4_ := Aside0.mk (hb); have n5_ := Aside0.mk (ho); clear BK125; clear BK129; clear BK132; clear HO136; clear HB; clear HO_130003; have BK125 := n0_; have BK129 := n1_; have BK132 := n2_; have HO136 := n3_; have HB := n4_; have HO139 := n5_; clear n0_ n1_ n2_ n3_ n4_ n5_; clear ho hb hg hat; obtain ⟨Ao43, co43, eo43⟩ := Kd.R_slice HO139.out; subst eo43; have hcz44_0 : w42.cell? ⟨gb129, 0, none⟩ = some (.int .i64 ((rd_T43 l0 0).f0)) := (blk_cell BK129.out 0).trans rfl; have hcz44_1 : w42.cell? ⟨gb129, 1, none⟩ = some (.int .i64 ((rd_T43 l0 0).f1)) := (blk_cell BK129.out 1).trans rfl; have hcz44_2 : w42.cell? ⟨gb129, 2, none⟩ = some (.slice Ao38 y134.length co38) := (blk_cell BK129.out 2).trans rfl; have hcz44_3 : w42.cell? ⟨gb129, 3, none⟩ = some (u130003) := (blk_cell BK129.out 3).trans rfl; have hfz44_0 := blk_frozen BK129.out 0; have hfz44_1 := blk_frozen BK129.out 1; have hfz44_2 := blk_frozen BK129.out 2; have hfz44_3 := blk_frozen BK129.out 3))
                  go_roundg k3
                  case measure => have := HJ2.out; have := HK2.out; have := HK3.out; omega
                  case rel => exact ⟨(wrap64 (x7_2 + 1)), (y134), (y137), (.slice Ao38 y134.length co38), (.slice Ao43 y137.length co43), d9, H', ⟨o67⟩, ⟨(by (with_reducible repeat (first | apply Kd.R_alloc | apply Kd.R_drewN | apply Kd.R_drew)); exact Kd.R_mono (Kd.R_far (p := ⟨gb129, 3, none⟩) (Kd.R_types HO136.out BK129.out (by decide)) (fun _ hk => hk.2) (.slice Ao43 y137.length co43)) (fun _ hk => hk.1.2))⟩, ⟨(by (with_reducible repeat (first | apply Kd.R_alloc | apply Kd.R_drewN | apply Kd.R_drew)); exact Kd.R_mono (Kd.R_far (p := ⟨gb129, 3, none⟩) (Kd.R_types HO139.out BK129.out (by decide)) (fun _ hk => hk.2) (.slice Ao43 y137.length co43)) (fun _ hk => hk.1))⟩, ⟨(by (with_reducible repeat (first | refine blk_drewN ?_ _ | refine blk_drew ?_ | refine blk_alloc ?_ _)); refine blk_far ?_ NB125_129.out _; (with_reducible repeat (first | refine blk_drewN ?_ _ | refine blk_drew ?_ | refine blk_alloc ?_ _)); exact BK125.out)⟩, ⟨(by (with_reducible repeat (first | refine blk_drewN ?_ _ | refine blk_drew ?_ | refine blk_alloc ?_ _)); refine blk_put (cs := #[.int .i64 ((rd_T43 l0 0).f0), .int .i64 ((rd_T43 l0 0).f1), .slice Ao38 y134.length co38, u130003]) ?_ 3 _ rfl; (with_reducible repeat (first | refine blk_drewN ?_ _ | refine blk_drew ?_ | refine blk_alloc ?_ _)); exact BK129.out)⟩, ⟨o29⟩⟩
                 ·rw [if_neg c33] at H
                  exact absurd H (by simp)
                ·rw [if_neg c32] at H
                 exact absurd H (by simp)
               ·replace c31 := Bool.eq_false_iff.mpr c31
                subst c31
                have H1 : (spec_Gathered.l1 k3 l0 a1 x7_2 (wrap64 (x8_3 + 1)) ((rd_T43 l0 0).f0) ((rd_T43 l0 0).f1) x130002_3 x130003_3) = some (r1, r2, r3, r4, r5) := by rw [if_neg (show ¬ (false = true) by decide)] at H; exact H
                clear H
                have H := H1
                clear H1
                have H' := Aside0.mk H
                clear H
                go_wp2
                go_roundg k3
                case measure => have := HJ2.out; have := HK2.out; have := HK3.out; omega
                case rel => exact ⟨(wrap64 (x8_3 + 1)), (x130002_3), (x130003_3), (u130002), (u130003), d9, H', ⟨o67⟩, ⟨o87⟩, ⟨o88⟩, ⟨o57⟩, ⟨o84⟩, ⟨o38⟩⟩
              ·rw [if_neg c21] at H
               have c21b0 : (((rd_T43 l0 x8_3).f1) == ((rd_T43 l0 0).f1)) = false := beq_eq_false_iff_ne.mpr c21
               have c21b1 : (((rd_T43 l0 x8_3).f1) != ((rd_T43 l0 0).f1)) = true := bne_iff_ne.mpr c21
               have H' := Aside0.mk H
               clear H
               have p131 : 0 ≤ (x8_3 : Int) := od_
               have q131 : x8_3 < (l0.length : Int) := od_
               obtain ⟨ad131, e131, hx131_0, hx131_1, hx131_2, hx131_3⟩ := at_T43 HR0.out x8_3 p131 q131
               obtain rfl : ad127 = ad131 := (by injection e131)
               replace hx131_0 := (HB.out.cell (World.block_lt_of_cell? w _ hx131_0)).trans hx131_0
               replace hx131_1 := (HB.out.cell (World.block_lt_of_cell? w _ hx131_1)).trans hx131_1
               replace hx131_2 := (HB.out.cell (World.block_lt_of_cell? w _ hx131_2)).trans hx131_2
               replace hx131_3 := (HB.out.cell (World.block_lt_of_cell? w _ hx131_3)).trans hx131_3
               replace p131 := eq_true p131
               replace q131 := eq_true q131
               go_wp2_with (first | ((with_reducible refine gate_dst (N := 9) rfl ?_); refine box_event ?hg (N := 9) ?hd (cs := #[.int .i64 0, .int .i64 0, .int .i64 0, .int .i64 0]) (t := 43) ?hr ?_; (case hd => rfl); (case hg => rfl); (case hr => first | (go_simp; done) | (go_simp; rfl)); intro gb132 hg w45 hbox hb; have n0_ := Aside0.mk (Kd.R_below d86 hb); have n1_ := Aside0.mk (Kd.R_below d87 hb); have n2_ := Aside0.mk (blk_below (g := gb125) (o := .cells #[.int .i64 0, .int .i64 0, .slice none 0 0, .slice none 0 0] 26 (0, 0)) d33 hb); have n3_ := Aside0.mk (blk_below (g := gb129) (o := .cells #[.int .i64 ((rd_T43 l0 0).f0), .int .i64 ((rd_T43 l0 0).f1), u130002, u130003] 26 (0, 0)) d39 hb); have n4_ := Aside0.mk (below_step d12 hb); have n5_ := Aside0.mk (hbox); have n6_ := Aside0.mk ((by rw [hg]; exact (below_size d12) : w.heap.size ≤ gb132)); have n7_ := Aside0.mk ((by rw [hg]; exact (below_size d12) : w.heap.size ≤ gb132)); have n8_ := Aside0.mk ((by rw [hg]; exact Nat.ne_of_lt (blk_lt (g := gb125) (o := .cells #[.int .i64 0, .int .i64 0, .slice none 0 0, .slice none 0 0] 26 (0, 0)) d33) : gb125 ≠ gb132)); have n9_ := Aside0.mk ((by rw [hg]; exact Nat.ne_of_gt (blk_lt (g := gb125) (o := .cells #[.int .i64 0, .int .i64 0, .slice none 0 0, .slice none 0 0] 26 (0, 0)) d33) : gb132 ≠ gb125)); have n10_ := Aside0.mk ((by rw [hg]; exact Nat.ne_of_lt (blk_lt (g := gb129) (o := .cells #[.int .i64 ((rd_T43 l0 0).f0), .int .i64 ((rd_T43 l0 0).f1), u130002, u130003] 26 (0, 0)) d39) : gb129 ≠ gb132)); have n11_ := Aside0.mk ((by rw [hg]; exact Nat.ne_of_gt (blk_lt (g := gb129) (o := .cells #[.int .i64 ((rd_T43 l0 0).f0), .int .i64 ((rd_T43 l0 0).f1), u130002, u130003] 26 (0, 0)) d39) : gb132 ≠ gb129)); clear HO_130002; clear HO_130003; clear BK125; clear BK129; clear HB; have HO_130002 := n0_; have HO_130003 := n1_; have BK125 := n2_; have BK129 := n3_; have HB := n4_; have BK132 := n5_; have GW132 := n6_; have GE132 := n7_; have NB125_132 := n8_; have NB132_125 := n9_; have NB129_132 := n10_; have NB132_129 := n11_; clear n0_ n1_ n2_ n3_ n4_ n5_ n6_ n7_ n8_ n9_ n10_ n11_; clear hb hbox hg; have hnb46 := NB132_125.out; have hnc46 := NB125_132.out; have hnb47 := NB132_129.out; have hnc47 := NB129_132.out; have hcz48_0 : w45.cell? ⟨gb132, 0, none⟩ = some (.int .i64 0) := (blk_cell BK132.out 0).trans rfl; have hcz48_1 : w45.cell? ⟨gb132, 1, none⟩ = some (.int .i64 0) := (blk_cell BK132.out 1).trans rfl; have hcz48_2 : w45.cell? ⟨gb132, 2, none⟩ = some (.int .i64 0) := (blk_cell BK132.out 2).trans rfl; have hcz48_3 : w45.cell? ⟨gb132, 3, none⟩ = some (.int .i64 0) := (blk_cell BK132.out 3).trans rfl; have hfz48_0 := blk_frozen BK132.out 0; have hfz48_1 := blk_frozen BK132.out 1; have hfz48_2 := blk_frozen BK132.out 2; have hfz48_3 := blk_frozen BK132.out 3; have hnb49 := NB129_125.out; have hnc49 := NB125_129.out; have hcz50_0 : w45.cell? ⟨gb129, 0, none⟩ = some (.int .i64 ((rd_T43 l0 0).f0)) := (blk_cell BK129.out 0).trans rfl; have hcz50_1 : w45.cell? ⟨gb129, 1, none⟩ = some (.int .i64 ((rd_T43 l0 0).f1)) := (blk_cell BK129.out 1).trans rfl; have hcz50_2 : w45.cell? ⟨gb129, 2, none⟩ = some (u130002) := (blk_cell BK129.out 2).trans rfl; have hcz50_3 : w45.cell? ⟨gb129, 3, none⟩ = some (u130003) := (blk_cell BK129.out 3).trans rfl; have hfz50_0 := blk_frozen BK129.out 0; have hfz50_1 := blk_frozen BK129.out 1; have hfz50_2 := blk_frozen BK129.out 2; have hfz50_3 := blk_frozen BK129.out 3))
               go_roundg k3
               case measure => have := HJ2.out; have := HK2.out; have := HK3.out; omega
               case rel => exact ⟨(wrap64 (x8_3 + 1)), (x130002_3), (x130003_3), (u130002), (u130003), d9, H', ⟨o67⟩, ⟨o24⟩, ⟨o25⟩, ⟨o12⟩, ⟨o13⟩, ⟨o38⟩⟩
             ·rw [if_neg c20] at H
              have c20b0 : (((rd_T43 l0 x8_3).f0) == ((rd_T43 l0 0).f0)) = false := beq_eq_false_iff_ne.mpr c20
              have c20b1 : (((rd_T43 l0 x8_3).f0) != ((rd_T43 l0 0).f0)) = true := bne_iff_ne.mpr c20
              have H' := Aside0.mk H
              clear H
              have p131 : 0 ≤ (x8_3 : Int) := od_
              have q131 : x8_3 < (l0.length : Int) := od_
              obtain ⟨ad131, e131, hx131_0, hx131_1, hx131_2, hx131_3⟩ := at_T43 HR0.out x8_3 p131 q131
              obtain rfl : ad127 = ad131 := (by injection e131)
              replace hx131_0 := (HB.out.cell (World.block_lt_of_cell? w _ hx131_0)).trans hx131_0
              replace hx131_1 := (HB.out.cell (World.block_lt_of_cell? w _ hx131_1)).trans hx131_1
              replace hx131_2 := (HB.out.cell (World.block_lt_of_cell? w _ hx131_2)).trans hx131_2
              replace hx131_3 := (HB.out.cell (World.block_lt_of_cell? w _ hx131_3)).trans hx131_3
              replace p131 := eq_true p131
              replace q131 := eq_true q131
              go_wp2_with (first | ((with_reducible refine gate_dst (N := 9) rfl ?_); refine box_event ?hg (N := 9) ?hd (cs := #[.int .i64 0, .int .i64 0, .int .i64 0, .int .i64 0]) (t := 43) ?hr ?_; (case hd => rfl); (case hg => rfl); (case hr => first | (go_simp; done) | (go_simp; rfl)); intro gb132 hg w51 hbox hb; have n0_ := Aside0.mk (Kd.R_below d86 hb); have n1_ := Aside0.mk (Kd.R_below d87 hb); have n2_ := Aside0.mk (blk_below (g := gb125) (o := .cells #[.int .i64 0, .int .i64 0, .slice none 0 0, .slice none 0 0] 26 (0, 0)) d33 hb); have n3_ := Aside0.mk (blk_below (g := gb129) (o := .cells #[.int .i64 ((rd_T43 l0 0).f0), .int .i64 ((rd_T43 l0 0).f1), u130002, u130003] 26 (0, 0)) d39 hb); have n4_ := Aside0.mk (below_step d12 hb); have n5_ := Aside0.mk (hbox); have n6_ := Aside0.mk ((by rw [hg]; exact (below_size d12) : w.heap.size ≤ gb132)); have n7_ := Aside0.mk ((by rw [hg]; exact (below_size d12) : w.heap.size ≤ gb132)); have n8_ := Aside0.mk ((by rw [hg]; exact Nat.ne_of_lt (blk_lt (g := gb125) (o := .cells #[.int .i64 0, .int .i64 0, .slice none 0 0, .slice none 0 0] 26 (0, 0)) d33) : gb125 ≠ gb132)); have n9_ := Aside0.mk ((by rw [hg]; exact Nat.ne_of_gt (blk_lt (g := gb125) (o := .cells #[.int .i64 0, .int .i64 0, .slice none 0 0, .slice none 0 0] 26 (0, 0)) d33) : gb132 ≠ gb125)); have n10_ := Aside0.mk ((by rw [hg]; exact Nat.ne_of_lt (blk_lt (g := gb129) (o := .cells #[.int .i64 ((rd_T43 l0 0).f0), .int .i64 ((rd_T43 l0 0).f1), u130002, u130003] 26 (0, 0)) d39) : gb129 ≠ gb132)); have n11_ := Aside0.mk ((by rw [hg]; exact Nat.ne_of_gt (blk_lt (g := gb129) (o := .cells #[.int .i64 ((rd_T43 l0 0).f0), .int .i64 ((rd_T43 l0 0).f1), u130002, u130003] 26 (0, 0)) d39) : gb132 ≠ gb129)); clear HO_130002; clear HO_130003; clear BK125; clear BK129; clear HB; have HO_130002 := n0_; have HO_130003 := n1_; have BK125 := n2_; have BK129 := n3_; have HB := n4_; have BK132 := n5_; have GW132 := n6_; have GE132 := n7_; have NB125_132 := n8_; have NB132_125 := n9_; have NB129_132 := n10_; have NB132_129 := n11_; clear n0_ n1_ n2_ n3_ n4_ n5_ n6_ n7_ n8_ n9_ n10_ n11_; clear hb hbox hg; have hnb52 := NB132_125.out; have hnc52 := NB125_132.out; have hnb53 := NB132_129.out; have hnc53 := NB129_132.out; have hcz54_0 : w51.cell? ⟨gb132, 0, none⟩ = some (.int .i64 0) := (blk_cell BK132.out 0).trans rfl; have hcz54_1 : w51.cell? ⟨gb132, 1, none⟩ = some (.int .i64 0) := (blk_cell BK132.out 1).trans rfl; have hcz54_2 : w51.cell? ⟨gb132, 2, none⟩ = some (.int .i64 0) := (blk_cell BK132.out 2).trans rfl; have hcz54_3 : w51.cell? ⟨gb132, 3, none⟩ = some (.int .i64 0) := (blk_cell BK132.out 3).trans rfl; have hfz54_0 := blk_frozen BK132.out 0; have hfz54_1 := blk_frozen BK132.out 1; have hfz54_2 := blk_frozen BK132.out 2; have hfz54_3 := blk_frozen BK132.out 3; have hnb55 := NB129_125.out; have hnc55 := NB125_129.out; have hcz56_0 : w51.cell? ⟨gb129, 0, none⟩ = some (.int .i64 ((rd_T43 l0 0).f0)) := (blk_cell BK129.out 0).trans rfl; have hcz56_1 : w51.cell? ⟨gb129, 1, none⟩ = some (.int .i64 ((rd_T43 l0 0).f1)) := (blk_cell BK129.out 1).trans rfl; have hcz56_2 : w51.cell? ⟨gb129, 2, none⟩ = some (u130002) := (blk_cell BK129.out 2).trans rfl; have hcz56_3 : w51.cell? ⟨gb129, 3, none⟩ = some (u130003) := (blk_cell BK129.out 3).trans rfl; have hfz56_0 := blk_frozen BK129.out 0; have hfz56_1 := blk_frozen BK129.out 1; have hfz56_2 := blk_frozen BK129.out 2; have hfz56_3 := blk_frozen BK129.out 3))
              go_roundg k3
              case measure => have := HJ2.out; have := HK2.out; have := HK3.out; omega
              case rel => exact ⟨(wrap64 (x8_3 + 1)), (x130002_3), (x130003_3), (u130002), (u130003), d9, H', ⟨o67⟩, ⟨o24⟩, ⟨o25⟩, ⟨o12⟩, ⟨o13⟩, ⟨o38⟩⟩
            ·rw [if_neg c19] at H
             have c19b0 : (((rd_T43 l0 x8_3).f2) == x7_2) = false := beq_eq_false_iff_ne.mpr c19
             have c19b1 : (((rd_T43 l0 x8_3).f2) != x7_2) = true := bne_iff_ne.mpr c19
             have H' := Aside0.mk H
             clear H
             have p131 : 0 ≤ (x8_3 : Int) := od_
             have q131 : x8_3 < (l0.length : Int) := od_
             obtain ⟨ad131, e131, hx131_0, hx131_1, hx131_2, hx131_3⟩ := at_T43 HR0.out x8_3 p131 q131
             obtain rfl : ad127 = ad131 := (by injection e131)
             replace hx131_0 := (HB.out.cell (World.block_lt_of_cell? w _ hx131_0)).trans hx131_0
             replace hx131_1 := (HB.out.cell (World.block_lt_of_cell? w _ hx131_1)).trans hx131_1
             replace hx131_2 := (HB.out.cell (World.block_lt_of_cell? w _ hx131_2)).trans hx131_2
             replace hx131_3 := (HB.out.cell (World.block_lt_of_cell? w _ hx131_3)).trans hx131_3
             replace p131 := eq_true p131
             replace q131 := eq_true q131
             go_wp2_with (first | ((with_reducible refine gate_dst (N := 9) rfl ?_); refine box_event ?hg (N := 9) ?hd (cs := #[.int .i64 0, .int .i64 0, .int .i64 0, .int .i64 0]) (t := 43) ?hr ?_; (case hd => rfl); (case hg => rfl); (case hr => first | (go_simp; done) | (go_simp; rfl)); intro gb132 hg w57 hbox hb; have n0_ := Aside0.mk (Kd.R_below d86 hb); have n1_ := Aside0.mk (Kd.R_below d87 hb); have n2_ := Aside0.mk (blk_below (g := gb125) (o := .cells #[.int .i64 0, .int .i64 0, .slice none 0 0, .slice none 0 0] 26 (0, 0)) d33 hb); have n3_ := Aside0.mk (blk_below (g := gb129) (o := .cells #[.int .i64 ((rd_T43 l0 0).f0), .int .i64 ((rd_T43 l0 0).f1), u130002, u130003] 26 (0, 0)) d39 hb); have n4_ := Aside0.mk (below_step d12 hb); have n5_ := Aside0.mk (hbox); have n6_ := Aside0.mk ((by rw [hg]; exact (below_size d12) : w.heap.size ≤ gb132)); have n7_ := Aside0.mk ((by rw [hg]; exact (below_size d12) : w.heap.size ≤ gb132)); have n8_ := Aside0.mk ((by rw [hg]; exact Nat.ne_of_lt (blk_lt (g := gb125) (o := .cells #[.int .i64 0, .int .i64 0, .slice none 0 0, .slice none 0 0] 26 (0, 0)) d33) : gb125 ≠ gb132)); have n9_ := Aside0.mk ((by rw [hg]; exact Nat.ne_of_gt (blk_lt (g := gb125) (o := .cells #[.int .i64 0, .int .i64 0, .slice none 0 0, .slice none 0 0] 26 (0, 0)) d33) : gb132 ≠ gb125)); have n10_ := Aside0.mk ((by rw [hg]; exact Nat.ne_of_lt (blk_lt (g := gb129) (o := .cells #[.int .i64 ((rd_T43 l0 0).f0), .int .i64 ((rd_T43 l0 0).f1), u130002, u130003] 26 (0, 0)) d39) : gb129 ≠ gb132)); have n11_ := Aside0.mk ((by rw [hg]; exact Nat.ne_of_gt (blk_lt (g := gb129) (o := .cells #[.int .i64 ((rd_T43 l0 0).f0), .int .i64 ((rd_T43 l0 0).f1), u130002, u130003] 26 (0, 0)) d39) : gb132 ≠ gb129)); clear HO_130002; clear HO_130003; clear BK125; clear BK129; clear HB; have HO_130002 := n0_; have HO_130003 := n1_; have BK125 := n2_; have BK129 := n3_; have HB := n4_; have BK132 := n5_; have GW132 := n6_; have GE132 := n7_; have NB125_132 := n8_; have NB132_125 := n9_; have NB129_132 := n10_; have NB132_129 := n11_; clear n0_ n1_ n2_ n3_ n4_ n5_ n6_ n7_ n8_ n9_ n10_ n11_; clear hb hbox hg; have hnb58 := NB132_125.out; have hnc58 := NB125_132.out; have hnb59 := NB132_129.out; have hnc59 := NB129_132.out; have hcz60_0 : w57.cell? ⟨gb132, 0, none⟩ = some (.int .i64 0) := (blk_cell BK132.out 0).trans rfl; have hcz60_1 : w57.cell? ⟨gb132, 1, none⟩ = some (.int .i64 0) := (blk_cell BK132.out 1).trans rfl; have hcz60_2 : w57.cell? ⟨gb132, 2, none⟩ = some (.int .i64 0) := (blk_cell BK132.out 2).trans rfl; have hcz60_3 : w57.cell? ⟨gb132, 3, none⟩ = some (.int .i64 0) := (blk_cell BK132.out 3).trans rfl; have hfz60_0 := blk_frozen BK132.out 0; have hfz60_1 := blk_frozen BK132.out 1; have hfz60_2 := blk_frozen BK132.out 2; have hfz60_3 := blk_frozen BK132.out 3))
             go_roundg k3
             case measure => have := HJ2.out; have := HK2.out; have := HK3.out; omega
             case rel => exact ⟨(wrap64 (x8_3 + 1)), (x130002_3), (x130003_3), (u130002), (u130003), d9, H', ⟨o67⟩, ⟨o24⟩, ⟨o25⟩, ⟨o12⟩, ⟨o13⟩, ⟨o38⟩⟩
           ·rw [if_neg c18] at H
            exact absurd H (by simp)
          ·rw [if_neg c17] at H
           have c17b0 : decide (x8_3 < (l0.length : Int)) = false := decide_eq_false c17
           clear c17
           have H' := Aside0.mk H
           clear H
           go_wp2
           go_roundg k3
           case measure => have := HJ2.out; have := HK2.out; have := HK3.out; omega
           case rel => exact ⟨(wrap64 (x7_2 + 1)), (x130002_3), (x130003_3), (u130002), (u130003), d9, H', ⟨o67⟩, ⟨o87⟩, ⟨o88⟩, ⟨o57⟩, ⟨o84⟩, ⟨o29⟩⟩
       ·rw [if_neg c16] at H
        have c16b0 : decide (x7_2 < a1) = false := decide_eq_false c16
        clear c16
        replace H := Option.bind_eq_some_iff.mp H
        obtain ⟨t130, A610, H⟩ := H
        replace H : (if (x130002_2.length : Int) < t130 then (some (0, 0, ([] : List Int), ([] : List Int), false)) else (some (((rd_T43 l0 0).f0), ((rd_T43 l0 0).f1), x130002_2, x130003_2, true))) = some (r1, r2, r3, r4, r5) := H
        have A61 := Aside0.mk A610
        clear A610
        have HC62 := Aside0.mk H
        clear H
        try go_wp2
        have n0_ := Aside0.mk (Kd.R_drew HO_130002.out)
        have n1_ := Aside0.mk (Kd.R_drew HO_130003.out)
        have n2_ := Aside0.mk (blk_drew BK125.out)
        have n3_ := Aside0.mk (blk_drew BK129.out)
        have n4_ := Aside0.mk (below_drew1 HB.out)
        clear HO_130002
        clear HO_130003
        clear BK125
        clear BK129
        clear HB
        have HO_130002 := n0_
        have HO_130003 := n1_
        have BK125 := n2_
        have BK129 := n3_
        have HB := n4_
        clear n0_ n1_ n2_ n3_ n4_
        obtain ⟨Ao64, co64, eo64⟩ := Kd.R_slice HO_130002.out
        (first | subst eo64 | (injection eo64 with f1_ f2_ f3_; have f4_ := f1_.symm; have f5_ := f3_.symm; clear f1_ f2_ f3_; subst f4_; subst f5_))
        refine start_ (n := 6) (S := fun w' => w'.cell? ⟨gb129, 0, none⟩ = some (.int .i64 ((rd_T43 l0 0).f0)) ∧ w'.cell? ⟨gb129, 1, none⟩ = some (.int .i64 ((rd_T43 l0 0).f1)) ∧ w'.cell? ⟨gb129, 2, none⟩ = some (.slice Ao64 x130002_2.length co64) ∧ w'.cell? ⟨gb129, 3, none⟩ = some (u130003)) (ds := []) #[false, false, false, false, false, false] (by kernel_rfl) rfl rfl ⟨(blk_cell BK129.out 0).trans rfl, (blk_cell BK129.out 1).trans rfl, (blk_cell BK129.out 2).trans rfl, (blk_cell BK129.out 3).trans rfl⟩ (fun hHeld => ?_)
        generalize wr.drew = w63 at HO_130002 HO_130003 BK125 BK129 HB hHeld ⊢
        refine pure_ (i := 0) (N := some 79) (v := ?_) (a' := ?_) #[true, false, false, false, false, false] rfl rfl (by kernel_rfl) (fun _ _ _ h => h) (Or.inl ⟨(by rfl), ?_⟩) ?_ ?_
        rotate_left
        ·intro w'
         go_simp
         with_reducible rfl
        rotate_left
        ·simp only [sp_]
         rfl
        refine pure_ (i := 3) (N := some 82) (v := ?_) (a' := ?_) #[true, false, false, true, false, false] rfl rfl (by kernel_rfl) (fun _ _ _ h => h) (Or.inl ⟨(by rfl), ?_⟩) ?_ ?_
        rotate_left
        ·intro w'
         go_simp
         with_reducible rfl
        rotate_left
        ·simp only [sp_]
         rfl
        refine take_ (i := 1) (N := some 80) (v := ?_) (a' := ?_) #[true, true, false, true, false, false] rfl rfl (by kernel_rfl) (fun _ _ _ h => h) (Or.inl ⟨(by rfl), ?_⟩) hHeld ?_ ?_
        rotate_left
        ·rintro w' ⟨s0, s1, s2, s3⟩
         go_simp
         with_reducible rfl
        rotate_left
        ·simp only [sp_]
         rfl
        refine pure_ (i := 2) (N := some 81) (v := ?_) (a' := ?_) #[true, true, true, true, false, false] rfl rfl (by kernel_rfl) (fun _ _ _ h => h) (Or.inl ⟨(by rfl), ?_⟩) ?_ ?_
        rotate_left
        ·intro w'
         go_simp
         with_reducible rfl
        rotate_left
        ·simp only [sp_]
         rfl
        refine one_ (i := 4) (N := some 83) #[true, true, true, true, true, false] rfl rfl (by kernel_rfl) (by decide) (fun K hK => ?_)
        refine goes_ Tryd.func28 (by kernel_rfl) rfl #[.int .i64 a1] (by rfl) rfl rfl d0 ?_
        with_reducible refine (spec_Quorum.calls a1 t130 _ A61.out).mono ?_
        rintro e w' ⟨rfl, ⟨nd, rfl⟩⟩
        refine ⟨_, rfl, ?_⟩
        refine hK.out _ _ ⟨(blk_cell BK129.out 0).trans rfl, (blk_cell BK129.out 1).trans rfl, (blk_cell BK129.out 2).trans rfl, (blk_cell BK129.out 3).trans rfl⟩ (fun hHeld => ?_)
        clear hK K
        refine norm_ (a' := ?_) ?_ ?_
        rotate_left
        ·show Act.put _ (some 83) _ = _
         simp only [sp_]
         rfl
        refine pure_ (i := 5) (N := some 84) (v := ?_) (a' := ?_) #[true, true, true, true, true, true] rfl rfl (by kernel_rfl) (fun _ _ _ h => h) (Or.inl ⟨(by rfl), ?_⟩) ?_ ?_
        rotate_left
        ·intro w'
         go_simp
         with_reducible rfl
        rotate_left
        ·simp only [sp_]
         rfl
        refine done_ (by kernel_rfl) ?_
        go_upto_if 84 with (fail)
        (try (rw [drewN_self w63]; generalize hq_ : World.drewN w63 _ = w63; have n0_ := Aside0.mk (Kd.R_at hq_ HO_130002.out); have n1_ := Aside0.mk (Kd.R_at hq_ HO_130003.out); have n2_ := Aside0.mk (blk_at hq_ BK125.out); have n3_ := Aside0.mk (blk_at hq_ BK129.out); have n4_ := Aside0.mk (below_at hq_ HB.out); clear hq_ HO_130002 HO_130003 BK125 BK129 HB; have HO_130002 := n0_; have HO_130003 := n1_; have BK125 := n2_; have BK129 := n3_; have HB := n4_; clear n0_ n1_ n2_ n3_ n4_))
        have H := HC62.out
        clear HC62
        by_cases c65 : (x130002_2.length : Int) < t130
        ·rw [if_pos c65] at H
         have c65b0 : decide ((x130002_2.length : Int) < t130) = true := decide_eq_true c65
         clear c65
         (first | rw [c65b0] | (simp only [i64_w, i32_w]; rw [c65b0]) | skip)
         simp only [Option.some.injEq, Prod.mk.injEq] at H
         obtain ⟨rfl, rfl, rfl, rfl, rfl⟩ := H
         have hnb66 := NB125_129.out
         have hnc66 := NB129_125.out
         have hcz67_0 : w63.cell? ⟨gb125, 0, none⟩ = some (.int .i64 0) := (blk_cell BK125.out 0).trans rfl
         have hcz67_1 : w63.cell? ⟨gb125, 1, none⟩ = some (.int .i64 0) := (blk_cell BK125.out 1).trans rfl
         have hcz67_2 : w63.cell? ⟨gb125, 2, none⟩ = some (.slice none 0 0) := (blk_cell BK125.out 2).trans rfl
         have hcz67_3 : w63.cell? ⟨gb125, 3, none⟩ = some (.slice none 0 0) := (blk_cell BK125.out 3).trans rfl
         have hfz67_0 := blk_frozen BK125.out 0
         have hfz67_1 := blk_frozen BK125.out 1
         have hfz67_2 := blk_frozen BK125.out 2
         have hfz67_3 := blk_frozen BK125.out 3
         go_wp2
         refine bodyPost_ret (results_ct rfl _ _ gb125 26 #[.int .i64 0, .int .i64 0, .slice none 0 0, .slice none 0 0] (0, 0) _ rfl (by (with_reducible repeat (first | refine blk_drewN ?_ _ | refine blk_drew ?_ | refine blk_alloc ?_ _)); refine blk_put (cs := #[.int .i64 0, .int .i64 0, .slice none 0 0, .slice none 0 0]) ?_ 3 _ rfl; (with_reducible repeat (first | refine blk_drewN ?_ _ | refine blk_drew ?_ | refine blk_alloc ?_ _)); refine blk_put (cs := #[.int .i64 0, .int .i64 0, .slice none 0 0, .slice none 0 0]) ?_ 2 _ rfl; (with_reducible repeat (first | refine blk_drewN ?_ _ | refine blk_drew ?_ | refine blk_alloc ?_ _)); refine blk_put (cs := #[.int .i64 0, .int .i64 0, .slice none 0 0, .slice none 0 0]) ?_ 1 _ rfl; (with_reducible repeat (first | refine blk_drewN ?_ _ | refine blk_drew ?_ | refine blk_alloc ?_ _)); refine blk_put (cs := #[.int .i64 0, .int .i64 0, .slice none 0 0, .slice none 0 0]) ?_ 0 _ rfl; (with_reducible repeat (first | refine blk_drewN ?_ _ | refine blk_drew ?_ | refine blk_alloc ?_ _)); exact BK125.out) Tryd.underlying26 rfl (by kernel_rfl)) rfl ?_
         exact ⟨_, _, o2, o17, o17, o29⟩
        ·rw [if_neg c65] at H
         have c65b0 : decide ((x130002_2.length : Int) < t130) = false := decide_eq_false c65
         clear c65
         (first | rw [c65b0] | (simp only [i64_w, i32_w]; rw [c65b0]) | skip)
         simp only [Option.some.injEq, Prod.mk.injEq] at H
         obtain ⟨rfl, rfl, rfl, rfl, rfl⟩ := H
         have hnb68 := NB129_125.out
         have hnc68 := NB125_129.out
         have hcz69_0 : w63.cell? ⟨gb129, 0, none⟩ = some (.int .i64 ((rd_T43 l0 0).f0)) := (blk_cell BK129.out 0).trans rfl
         have hcz69_1 : w63.cell? ⟨gb129, 1, none⟩ = some (.int .i64 ((rd_T43 l0 0).f1)) := (blk_cell BK129.out 1).trans rfl
         have hcz69_2 : w63.cell? ⟨gb129, 2, none⟩ = some (.slice Ao64 x130002_2.length co64) := (blk_cell BK129.out 2).trans rfl
         have hcz69_3 : w63.cell? ⟨gb129, 3, none⟩ = some (u130003) := (blk_cell BK129.out 3).trans rfl
         have hfz69_0 := blk_frozen BK129.out 0
         have hfz69_1 := blk_frozen BK129.out 1
         have hfz69_2 := blk_frozen BK129.out 2
         have hfz69_3 := blk_frozen BK129.out 3
         have hcz70_0 : w63.cell? ⟨gb125, 0, none⟩ = some (.int .i64 0) := (blk_cell BK125.out 0).trans rfl
         have hcz70_1 : w63.cell? ⟨gb125, 1, none⟩ = some (.int .i64 0) := (blk_cell BK125.out 1).trans rfl
         have hcz70_2 : w63.cell? ⟨gb125, 2, none⟩ = some (.slice none 0 0) := (blk_cell BK125.out 2).trans rfl
         have hcz70_3 : w63.cell? ⟨gb125, 3, none⟩ = some (.slice none 0 0) := (blk_cell BK125.out 3).trans rfl
         have hfz70_0 := blk_frozen BK125.out 0
         have hfz70_1 := blk_frozen BK125.out 1
         have hfz70_2 := blk_frozen BK125.out 2
         have hfz70_3 := blk_frozen BK125.out 3
         obtain ⟨Ao71, co71, eo71⟩ := Kd.R_slice HO_130003.out
         subst eo71
         go_wp2
         refine bodyPost_ret (results_ct rfl _ _ gb125 26 #[.int .i64 ((rd_T43 l0 0).f0), .int .i64 ((rd_T43 l0 0).f1), .slice Ao64 x130002_2.length co64, .slice Ao71 x130003_2.length co71] (0, 0) _ rfl (by (with_reducible repeat (first | refine blk_drewN ?_ _ | refine blk_drew ?_ | refine blk_alloc ?_ _)); refine blk_put (cs := #[.int .i64 ((rd_T43 l0 0).f0), .int .i64 ((rd_T43 l0 0).f1), .slice Ao64 x130002_2.length co64, .slice none 0 0]) ?_ 3 _ rfl; (with_reducible repeat (first | refine blk_drewN ?_ _ | refine blk_drew ?_ | refine blk_alloc ?_ _)); refine blk_put (cs := #[.int .i64 ((rd_T43 l0 0).f0), .int .i64 ((rd_T43 l0 0).f1), .slice none 0 0, .slice none 0 0]) ?_ 2 _ rfl; (with_reducible repeat (first | refine blk_drewN ?_ _ | refine blk_drew ?_ | refine blk_alloc ?_ _)); refine blk_put (cs := #[.int .i64 ((rd_T43 l0 0).f0), .int .i64 0, .slice none 0 0, .slice none 0 0]) ?_ 1 _ rfl; (with_reducible repeat (first | refine blk_drewN ?_ _ | refine blk_drew ?_ | refine blk_alloc ?_ _)); refine blk_put (cs := #[.int .i64 0, .int .i64 0, .slice none 0 0, .slice none 0 0]) ?_ 0 _ rfl; (with_reducible repeat (first | refine blk_drewN ?_ _ | refine blk_drew ?_ | refine blk_alloc ?_ _)); exact BK125.out) Tryd.underlying26 rfl (by kernel_rfl)) rfl ?_
         exact ⟨_, _, o2, (by (with_reducible repeat (first | apply Kd.R_alloc | apply Kd.R_drewN | apply Kd.R_drew)); exact Kd.R_mono (Kd.R_far (p := ⟨gb125, 3, none⟩) (Kd.R_far (p := ⟨gb125, 2, none⟩) (Kd.R_far (p := ⟨gb125, 1, none⟩) (Kd.R_far (p := ⟨gb125, 0, none⟩) (Kd.R_types HO_130002.out BK125.out (by decide)) (fun _ hk => hk.2) (.int .i64 ((rd_T43 l0 0).f0))) (fun _ hk => hk.2) (.int .i64 ((rd_T43 l0 0).f1))) (fun _ hk => hk.2) (.slice Ao64 x130002_2.length co64)) (fun _ hk => hk.2) (.slice Ao71 x130003_2.length co71)) (fun _ hk => hk.1)), (by (with_reducible repeat (first | apply Kd.R_alloc | apply Kd.R_drewN | apply Kd.R_drew)); exact Kd.R_mono (Kd.R_far (p := ⟨gb125, 3, none⟩) (Kd.R_far (p := ⟨gb125, 2, none⟩) (Kd.R_far (p := ⟨gb125, 1, none⟩) (Kd.R_far (p := ⟨gb125, 0, none⟩) (Kd.R_types HO_130003.out BK125.out (by decide)) (fun _ hk => hk.2) (.int .i64 ((rd_T43 l0 0).f0))) (fun _ hk => hk.2) (.int .i64 ((rd_T43 l0 0).f1))) (fun _ hk => hk.2) (.slice Ao64 x130002_2.length co64)) (fun _ hk => hk.2) (.slice Ao71 x130003_2.length co71)) (fun _ hk => hk.1)), o29⟩
    ·rw [if_neg c9] at H
     exact absurd H (by simp)

end Go.Proofs.YtokfpmkhfindmaaDoor.PFnProofs
