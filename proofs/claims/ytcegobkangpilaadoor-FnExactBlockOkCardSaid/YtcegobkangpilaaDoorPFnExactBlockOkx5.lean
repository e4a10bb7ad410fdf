-- Written by a program of this session (wip/tools/pp.py over the kit's print).
import Derived.Test.YtcegobkangpilaaDoorPFnExactBlockOkx0
import Derived.Test.YtcegobkangpilaaDoorPFnExactBlockOkx2
import Derived.Test.YtcegobkangpilaaDoorPFnExactBlockOkx3
import Derived.Test.YtcegobkangpilaaDoorPFnExactBlockOkx4
namespace Go.Proofs.YtcegobkangpilaaDoor.PFnExactBlockOk
open Go.RowKit Go.Proofs.YtcegobkangpilaaDoorW.PrintWords Go.Proofs.YtcegobkangpilaaDoorW.PrintLast Go.Proofs.YtcegobkangpilaaDoorW.PrintMore
attribute [local go_sem] max2_int min2_int max_two min_two max_three min_three max_four min_four
attribute [local go_sem high] str_gtr str_leq str_geq
set_option linter.unusedVariables false
set_option linter.unusedSimpArgs false

/-! ### spec_ProofOk: function 36 -/
mutual
def spec_ProofOk.j0 : Nat → Int → Bool → Int → Int → List Int → List Int → Option (Bool)
 | 0, _, _, _, _, _, _ => none
 | k + 1, x1, x37, x134000, x134001, x134002, x134003 => if x37 = true then (some false) else (spec_ProofOk.l0 k x1 0 x134000 x134001 x134002 x134003)
def spec_ProofOk.l0 : Nat → Int → Int → Int → Int → List Int → List Int → Option (Bool)
 | 0, _, _, _, _, _, _ => none
 | k + 1, x1, x5, x134000, x134001, x134002, x134003 => if x5 < (x134002.length : Int) then (if 0 ≤ x5 then (if x5 < (x134003.length : Int) then ((spec_VoteOk.f k x134000 x134001 (rd x134002 x5) (rd x134003 x5) x1).bind fun t141 => (if t141 = true then (if x5 > 0 then (if 0 ≤ (wrap64 (x5 - 1)) then (if (wrap64 (x5 - 1)) < (x134002.length : Int) then (if (rd x134002 x5) ≤ (rd x134002 (wrap64 (x5 - 1))) then (some false) else (spec_ProofOk.l0 k x1 (wrap64 (x5 + 1)) x134000 x134001 x134002 x134003)) else (none)) else (none)) else (spec_ProofOk.l0 k x1 (wrap64 (x5 + 1)) x134000 x134001 x134002 x134003)) else (some false))) else (none)) else (none)) else (some true)
end
def spec_ProofOk.f (k : Nat) (a0_0 : Int) (a0_1 : Int) (l0_2 : List Int) (l0_3 : List Int) (a1 : Int) : Option (Bool) := (spec_l15Servers.f a1).bind fun t134 => (if t134 = true then ((spec_l15First.f a0_0 a0_1 l0_2 l0_3).bind fun t135 => (if t135 = true then (some true) else ((spec_l1In.f a0_0 1 100000).bind fun t136 => (if t136 = true then ((spec_l15Name.f a0_1).bind fun t137 => (if t137 = true then ((spec_Quorum.f a1).bind fun t138 => (if (l0_2.length : Int) < t138 then (spec_ProofOk.j0 k a1 true a0_0 a0_1 l0_2 l0_3) else (spec_ProofOk.j0 k a1 ((l0_2.length : Int) != (l0_3.length : Int)) a0_0 a0_1 l0_2 l0_3))) else (spec_ProofOk.j0 k a1 true a0_0 a0_1 l0_2 l0_3))) else (spec_ProofOk.j0 k a1 true a0_0 a0_1 l0_2 l0_3))))) else (some false))
theorem spec_ProofOk.mono_l : ∀ k, (∀ y0 y1 y2 y3 y4 y5, LeO (spec_ProofOk.j0 k y0 y1 y2 y3 y4 y5) (spec_ProofOk.j0 (k + 1) y0 y1 y2 y3 y4 y5)) ∧ (∀ y0 y1 y2 y3 y4 y5, LeO (spec_ProofOk.l0 k y0 y1 y2 y3 y4 y5) (spec_ProofOk.l0 (k + 1) y0 y1 y2 y3 y4 y5))
 | 0 => ⟨fun _ _ _ _ _ _ r h => by simp [spec_ProofOk.j0] at h, fun _ _ _ _ _ _ r h => by simp [spec_ProofOk.l0] at h⟩
 | k + 1 => by
  obtain ⟨ih0, ih1⟩ := spec_ProofOk.mono_l k
  refine ⟨?_, ?_⟩
  ·intro y0 y1 y2 y3 y4 y5
   unfold spec_ProofOk.j0
   repeat' first
   | (with_reducible exact ih0 _ _ _ _ _ _)
   | (with_reducible exact ih1 _ _ _ _ _ _)
   | (with_reducible exact spec_VoteOk.mono _ _ _ _ _ _)
   | (with_reducible exact LeO.refl _)
   | (with_reducible exact LeO.none _)
   | (with_reducible refine LeO.ite ?_ ?_)
   | (with_reducible refine LeO.bind ?_ (fun _ => ?_))
   | exact ih0 _ _ _ _ _ _
   | exact ih1 _ _ _ _ _ _
   | exact spec_VoteOk.mono _ _ _ _ _ _
   | exact LeO.none _
   | refine LeO.ite ?_ ?_
   | refine LeO.bind ?_ (fun _ => ?_)
  ·intro y0 y1 y2 y3 y4 y5
   unfold spec_ProofOk.l0
   repeat' first
   | (with_reducible exact ih0 _ _ _ _ _ _)
   | (with_reducible exact ih1 _ _ _ _ _ _)
   | (with_reducible exact spec_VoteOk.mono _ _ _ _ _ _)
   | (with_reducible exact LeO.refl _)
   | (with_reducible exact LeO.none _)
   | (with_reducible refine LeO.ite ?_ ?_)
   | (with_reducible refine LeO.bind ?_ (fun _ => ?_))
   | exact ih0 _ _ _ _ _ _
   | exact ih1 _ _ _ _ _ _
   | exact spec_VoteOk.mono _ _ _ _ _ _
   | exact LeO.none _
   | refine LeO.ite ?_ ?_
   | refine LeO.bind ?_ (fun _ => ?_)
theorem spec_ProofOk.mono : ∀ a0 a1 a2 a3 a4 k, LeO (spec_ProofOk.f k a0 a1 a2 a3 a4) (spec_ProofOk.f (k + 1) a0 a1 a2 a3 a4) := by
 intro a0 a1 a2 a3 a4 k
 obtain ⟨ih0, ih1⟩ := spec_ProofOk.mono_l k
 unfold spec_ProofOk.f
 repeat' first
   | (with_reducible exact ih0 _ _ _ _ _ _)
   | (with_reducible exact ih1 _ _ _ _ _ _)
   | (with_reducible exact spec_VoteOk.mono _ _ _ _ _ _)
   | (with_reducible exact LeO.refl _)
   | (with_reducible exact LeO.none _)
   | (with_reducible refine LeO.ite ?_ ?_)
   | (with_reducible refine LeO.bind ?_ (fun _ => ?_))
   | exact ih0 _ _ _ _ _ _
   | exact ih1 _ _ _ _ _ _
   | exact spec_VoteOk.mono _ _ _ _ _ _
   | exact LeO.none _
   | refine LeO.ite ?_ ?_
   | refine LeO.bind ?_ (fun _ => ?_)
def spec_ProofOk.T5 : Bool × List (List Nat × List Nat) := (true, [([], []), ([0], [0]), ([1], [1]), ([2], [2]), ([3, 2], [3]), ([4], [4]), ([5, 4], [4, 5]), ([6, 4, 4], [4, 6]), ([7, 4], [4, 7]), ([4, 8], [4, 8]), ([9, 7], [9]), ([10], [10]), ([11, 10], [10, 11]), ([12, 10], [10, 12]), ([10], [10]), ([14, 10, 10], [10, 14]), ([13, 15, 10], [10, 13, 15]), ([10, 16], [10, 16]), ([17, 15], [17]), ([18], [18]), ([19, 18], [18, 19]), ([20, 18], [18, 20]), ([18], [18]), ([22, 18], [18, 22]), ([23, 18], [18, 23]), ([21, 24, 18], [18, 21, 24]), ([18, 25], [18, 25])])
def spec_ProofOk.B5 : List Nat := [0, 1, 3, 7, 15, 31, 63, 127, 255, 511, 1023, 2047, 4095, 8191, 2047, 18431, 65535, 131071, 262143, 524287, 1048575, 2097151, 524287, 4718591, 13107199, 33554431, 67108863]
theorem spec_ProofOk.tab5 : rtab .any (opsOf Tryd.f36 5) = spec_ProofOk.T5 := by kernel_rfl
theorem spec_ProofOk.bits5 : waitsOk spec_ProofOk.T5.2 spec_ProofOk.B5 = true := by kernel_rfl
def spec_ProofOk.T10 : Bool × List (List Nat × List Nat) := (true, [([], []), ([0], [0]), ([], []), ([2], [2]), ([], []), ([4], [4]), ([], []), ([5, 6], [5, 6]), ([7], [7]), ([], []), ([9], [9]), ([], []), ([10, 11], [10, 11]), ([12], [12]), ([1, 3, 8, 13], [1, 3, 8, 13]), ([], []), ([14, 15], [14, 15]), ([16], [16]), ([17, 16], [17]), ([18], [18]), ([19, 18], [18, 19]), ([20, 18, 18], [18, 20]), ([21], [21]), ([22, 21], [21, 22]), ([21], [21]), ([23, 24, 21], [21, 23, 24]), ([25, 21], [21, 25]), ([21], [21]), ([27, 21], [21, 27]), ([21], [21]), ([29, 21], [21, 29]), ([28, 30, 21], [21, 28, 30]), ([31, 21], [21, 31]), ([26, 32, 21], [21, 26, 32]), ([21, 33, 18], [18, 21, 33]), ([18, 34], [18, 34])])
def spec_ProofOk.B10 : List Nat := [0, 1, 0, 4, 0, 16, 0, 112, 240, 0, 512, 0, 3584, 7680, 16383, 0, 65535, 131071, 262143, 524287, 1048575, 2097151, 4194303, 8388607, 4194303, 33554431, 67108863, 4194303, 138412031, 4194303, 541065215, 2017460223, 4164943871, 8589934591, 17179869183, 34359738367]
theorem spec_ProofOk.tab10 : rtab .any (opsOf Tryd.f36 10) = spec_ProofOk.T10 := by kernel_rfl
theorem spec_ProofOk.bits10 : waitsOk spec_ProofOk.T10.2 spec_ProofOk.B10 = true := by kernel_rfl
set_option maxHeartbeats 8000000 in
set_option maxRecDepth 100000 in
theorem spec_ProofOk.calls (k : Nat) (a0_0 : Int) (a0_1 : Int) (A0_2 : Option Addr) (c0_2 : Nat) (l0_2 : List Int) (A0_3 : Option Addr) (c0_3 : Nat) (l0_3 : List Int) (a1 : Int) (r : Bool) (w : World) (hr0_2 : Kd.C (Kd.int .i64) w A0_2 l0_2.length l0_2) (hc0_2 : l0_2.length ≤ c0_2) (hr0_3 : Kd.C (Kd.int .i64) w A0_3 l0_3.length l0_3) (hc0_3 : l0_3.length ≤ c0_3) (h : spec_ProofOk.f k a0_0 a0_1 l0_2 l0_3 a1 = some r) :
  Calls Tryd.prog 36 #[.agg #[.int .i64 a0_0, .int .i64 a0_1, .slice A0_2 l0_2.length c0_2, .slice A0_3 l0_3.length c0_3], .int .i64 a1] w fun e w' => e = .returned (.bool r) ∧ Below w.heap.size w w' := by
 have hu54 := Tryd.underlying54
 have hu33 := Tryd.underlying33
 have HR0_2 := Aside0.mk hr0_2
 have HC0_2 := Aside0.mk hc0_2
 clear hr0_2 hc0_2
 have HR0_3 := Aside0.mk hr0_3
 have HC0_3 := Aside0.mk hc0_3
 clear hr0_3 hc0_3
 have HB := Aside0.mk (Below.refl w.heap.size w)
 have H : ((spec_l15Servers.f a1).bind fun t134 => (if t134 = true then ((spec_l15First.f a0_0 a0_1 l0_2 l0_3).bind fun t135 => (if t135 = true then (some true) else ((spec_l1In.f a0_0 1 100000).bind fun t136 => (if t136 = true then ((spec_l15Name.f a0_1).bind fun t137 => (if t137 = true then ((spec_Quorum.f a1).bind fun t138 => (if (l0_2.length : Int) < t138 then (spec_ProofOk.j0 k a1 true a0_0 a0_1 l0_2 l0_3) else (spec_ProofOk.j0 k a1 ((l0_2.length : Int) != (l0_3.length : Int)) a0_0 a0_1 l0_2 l0_3))) else (spec_ProofOk.j0 k a1 true a0_0 a0_1 l0_2 l0_3))) else (spec_ProofOk.j0 k a1 true a0_0 a0_1 l0_2 l0_3))))) else (some false))) = some r := h
 clear h
 replace H := Option.bind_eq_some_iff.mp H
 obtain ⟨t134, A30, H⟩ := H
 replace H : (if t134 = true then ((spec_l15First.f a0_0 a0_1 l0_2 l0_3).bind fun t135 => (if t135 = true then (some true) else ((spec_l1In.f a0_0 1 100000).bind fun t136 => (if t136 = true then ((spec_l15Name.f a0_1).bind fun t137 => (if t137 = true then ((spec_Quorum.f a1).bind fun t138 => (if (l0_2.length : Int) < t138 then (spec_ProofOk.j0 k a1 true a0_0 a0_1 l0_2 l0_3) else (spec_ProofOk.j0 k a1 ((l0_2.length : Int) != (l0_3.length : Int)) a0_0 a0_1 l0_2 l0_3))) else (spec_ProofOk.j0 k a1 true a0_0 a0_1 l0_2 l0_3))) else (spec_ProofOk.j0 k a1 true a0_0 a0_1 l0_2 l0_3))))) else (some false)) = some r := H
 have A3 := Aside0.mk A30
 clear A30
 have HC4 := Aside0.mk H
 clear H
 go_enter Tryd.func36, Tryd.ntmps36
 go_upto_if 8 with (first | ((with_reducible refine gate_dst (N := 2) rfl ?_); (try (refine gate_guard (by rfl) ?_; dsimp only)); refine box_event ?hg (N := 2) ?hd (cs := #[.int .i64 a0_0, .int .i64 a0_1, .slice A0_2 l0_2.length c0_2, .slice A0_3 l0_3.length c0_3]) (t := 54) ?hr ?_; (case hd => rfl); (case hg => rfl); (case hr => first | (go_simp; done) | (go_simp; rfl)); intro gb133 hg w5 hbox hb; have n0_ := Aside0.mk (below_step (by repeat (first | (with_reducible first | exact HB.out | apply below_alloc | apply pw_below_drewN | apply below_drew1) | exact HB.out)) hb); have n1_ := Aside0.mk (hbox); have n2_ := Aside0.mk ((by rw [hg]; exact (below_size (by repeat (first | (with_reducible first | exact HB.out | apply below_alloc | apply pw_below_drewN | apply below_drew1) | exact HB.out))) : w.heap.size ≤ gb133)); have n3_ := Aside0.mk ((by rw [hg]; exact (below_size (by repeat (first | (with_reducible first | exact HB.out | apply below_alloc | apply pw_below_drewN | apply below_drew1) | exact HB.out))) : w.heap.size ≤ gb133)); clear HB; have HB := n0_; have BK133 := n1_; have GW133 := n2_; have GE133 := n3_; clear n0_ n1_ n2_ n3_; clear hb hbox hg) | ((with_reducible refine gate_callee (f := 73) rfl ?_); refine goesL_ (some 7) rfl rfl Tryd.func73 (by kernel_rfl) rfl #[.int .i64 a1] rfl (by (try simp only [List.map_toArray, List.map_cons, List.map_nil]); first | done | rfl | (simp only [List.length_drop, List.length_take]; rfl)) ?_; (with_reducible refine (spec_l15Servers.calls a1 t134 _ A3.out).mono ?_); rintro e w' ⟨rfl, ⟨nd, rfl⟩⟩; refine ⟨_, rfl, ?_⟩))
 (try simp only [Act.put, List.setIfInBounds_toArray, List.set_cons_zero, List.set_cons_succ])
 have H := HC4.out
 clear HC4
 by_cases c6 : t134 = true
 ·subst c6
  have H1 : ((spec_l15First.f a0_0 a0_1 l0_2 l0_3).bind fun t135 => (if t135 = true then (some true) else ((spec_l1In.f a0_0 1 100000).bind fun t136 => (if t136 = true then ((spec_l15Name.f a0_1).bind fun t137 => (if t137 = true then ((spec_Quorum.f a1).bind fun t138 => (if (l0_2.length : Int) < t138 then (spec_ProofOk.j0 k a1 true a0_0 a0_1 l0_2 l0_3) else (spec_ProofOk.j0 k a1 ((l0_2.length : Int) != (l0_3.length : Int)) a0_0 a0_1 l0_2 l0_3))) else (spec_ProofOk.j0 k a1 true a0_0 a0_1 l0_2 l0_3))) else (spec_ProofOk.j0 k a1 true a0_0 a0_1 l0_2 l0_3))))) = some r := by rw [if_pos rfl] at H; exact H
  clear H
  have H := H1
  clear H1
  replace H := Option.bind_eq_some_iff.mp H
  obtain ⟨t135, A70, H⟩ := H
  replace H : (if t135 = true then (some true) else ((spec_l1In.f a0_0 1 100000).bind fun t136 => (if t136 = true then ((spec_l15Name.f a0_1).bind fun t137 => (if t137 = true then ((spec_Quorum.f a1).bind fun t138 => (if (l0_2.length : Int) < t138 then (spec_ProofOk.j0 k a1 true a0_0 a0_1 l0_2 l0_3) else (spec_ProofOk.j0 k a1 ((l0_2.length : Int) != (l0_3.length : Int)) a0_0 a0_1 l0_2 l0_3))) else (spec_ProofOk.j0 k a1 true a0_0 a0_1 l0_2 l0_3))) else (spec_ProofOk.j0 k a1 true a0_0 a0_1 l0_2 l0_3)))) = some r := H
  have A7 := Aside0.mk A70
  clear A70
  have HC8 := Aside0.mk H
  clear H
  have hcz9_0 : w5.cell? ⟨gb133, 0, none⟩ = some (.int .i64 a0_0) := (blk_cell BK133.out 0).trans rfl
  have hcz9_1 : w5.cell? ⟨gb133, 1, none⟩ = some (.int .i64 a0_1) := (blk_cell BK133.out 1).trans rfl
  have hcz9_2 : w5.cell? ⟨gb133, 2, none⟩ = some (.slice A0_2 l0_2.length c0_2) := (blk_cell BK133.out 2).trans rfl
  have hcz9_3 : w5.cell? ⟨gb133, 3, none⟩ = some (.slice A0_3 l0_3.length c0_3) := (blk_cell BK133.out 3).trans rfl
  have hfz9_0 := blk_frozen BK133.out 0
  have hfz9_1 := blk_frozen BK133.out 1
  have hfz9_2 := blk_frozen BK133.out 2
  have hfz9_3 := blk_frozen BK133.out 3
  go_upto_if 10 with (first | ((with_reducible refine gate_callee (f := 100) rfl ?_); refine goesL_ (some 10) rfl rfl Tryd.func100 (by kernel_rfl) rfl #[.agg #[.int .i64 a0_0, .int .i64 a0_1, .slice A0_2 l0_2.length c0_2, .slice A0_3 l0_3.length c0_3]] rfl (by (try simp only [List.map_toArray, List.map_cons, List.map_nil]); first | done | rfl | (simp only [List.length_drop, List.length_take]; rfl)) ?_; (with_reducible refine (spec_l15First.calls a0_0 a0_1 _ _ l0_2 _ _ l0_3 t135 _ ?side1 ?side2 ?side3 ?side4 A7.out).mono ?_); (case side1 => repeat (first | exact (Kd.C_below HR0_2.out HB.out) | (with_reducible refine Kd.C_alloc ?_ _) | (with_reducible refine Kd.C_drewN ?_ _) | (with_reducible refine Kd.C_drew ?_))); (case side2 => exact HC0_2.out); (case side3 => repeat (first | exact (Kd.C_below HR0_3.out HB.out) | (with_reducible refine Kd.C_alloc ?_ _) | (with_reducible refine Kd.C_drewN ?_ _) | (with_reducible refine Kd.C_drew ?_))); (case side4 => exact HC0_3.out); rintro e w10 ⟨rfl, hb⟩; refine ⟨_, rfl, ?_⟩; have n0_ := Aside0.mk (blk_below (g := gb133) (o := .cells #[.int .i64 a0_0, .int .i64 a0_1, .slice A0_2 l0_2.length c0_2, .slice A0_3 l0_3.length c0_3] 54 (0, 0)) (by (with_reducible repeat (first | refine blk_drewN ?_ _ | refine blk_drew ?_ | refine blk_alloc ?_ _)); exact BK133.out) hb); have n1_ := Aside0.mk (below_step (by repeat (first | (with_reducible first | exact HB.out | apply below_alloc | apply pw_below_drewN | apply below_drew1 | refine below_set ?_ GE133.out) | exact HB.out)) hb); clear BK133; clear HB; have BK133 := n0_; have HB := n1_; clear n0_ n1_; (try clear hb); (try clear hb2); (try clear hk); (try clear hi)))
  (try simp only [Act.put, List.setIfInBounds_toArray, List.set_cons_zero, List.set_cons_succ])
  have H := HC8.out
  clear HC8
  by_cases c11 : t135 = true
  ·subst c11
   have H1 : (some true) = some r := by rw [if_pos rfl] at H; exact H
   clear H
   have H := H1
   clear H1
   obtain rfl := Option.some.inj H
   go_wp2
   go_ret
   exact ⟨by first | rfl | (simp [errW_none, errW_some] <;> rfl) | (simp [*, errW_none, errW_some] <;> rfl), by repeat (first | (with_reducible first | exact HB.out | apply below_alloc | apply pw_below_drewN | apply below_drew1 | refine below_set ?_ GE133.out) | exact HB.out)⟩
  ·replace c11 := Bool.eq_false_iff.mpr c11
   subst c11
   have H1 : ((spec_l1In.f a0_0 1 100000).bind fun t136 => (if t136 = true then ((spec_l15Name.f a0_1).bind fun t137 => (if t137 = true then ((spec_Quorum.f a1).bind fun t138 => (if (l0_2.length : Int) < t138 then (spec_ProofOk.j0 k a1 true a0_0 a0_1 l0_2 l0_3) else (spec_ProofOk.j0 k a1 ((l0_2.length : Int) != (l0_3.length : Int)) a0_0 a0_1 l0_2 l0_3))) else (spec_ProofOk.j0 k a1 true a0_0 a0_1 l0_2 l0_3))) else (spec_ProofOk.j0 k a1 true a0_0 a0_1 l0_2 l0_3))) = some r := by rw [if_neg (show ¬ (false = true) by decide)] at H; exact H
   clear H
   have H := H1
   clear H1
   have HC12 := Aside0.mk H
   clear H
   go_upto_region 5 with (fail)
   go_cut [37] (fun v37 wc => ∃ (kq : Nat) (x37_11 : Bool), v37 = .bool x37_11 ∧ Aside0 (spec_ProofOk.j0 kq a1 x37_11 a0_0 a0_1 l0_2 l0_3 = some r) ∧ Aside0 (kq ≤ k) ∧ Aside0 (wc.heap[gb133]? = some (.cells #[.int .i64 a0_0, .int .i64 a0_1, (.slice A0_2 l0_2.length c0_2), (.slice A0_3 l0_3.length c0_3)] 54 (0, 0))) ∧ Aside0 (Below w.heap.size w wc))
   case first =>
    have H := HC12.out
    clear HC12
    replace H := Option.bind_eq_some_iff.mp H
    obtain ⟨t136, A130, H⟩ := H
    replace H : (if t136 = true then ((spec_l15Name.f a0_1).bind fun t137 => (if t137 = true then ((spec_Quorum.f a1).bind fun t138 => (if (l0_2.length : Int) < t138 then (spec_ProofOk.j0 k a1 true a0_0 a0_1 l0_2 l0_3) else (spec_ProofOk.j0 k a1 ((l0_2.length : Int) != (l0_3.length : Int)) a0_0 a0_1 l0_2 l0_3))) else (spec_ProofOk.j0 k a1 true a0_0 a0_1 l0_2 l0_3))) else (spec_ProofOk.j0 k a1 true a0_0 a0_1 l0_2 l0_3)) = some r := H
    have A13 := Aside0.mk A130
    clear A130
    by_cases c14 : t136 = true
    ·subst c14
     have H1 : ((spec_l15Name.f a0_1).bind fun t137 => (if t137 = true then ((spec_Quorum.f a1).bind fun t138 => (if (l0_2.length : Int) < t138 then (spec_ProofOk.j0 k a1 true a0_0 a0_1 l0_2 l0_3) else (spec_ProofOk.j0 k a1 ((l0_2.length : Int) != (l0_3.length : Int)) a0_0 a0_1 l0_2 l0_3))) else (spec_ProofOk.j0 k a1 true a0_0 a0_1 l0_2 l0_3))) = some r := by rw [if_pos rfl] at H; exact H
     clear H
     have H := H1
     clear H1
     replace H := Option.bind_eq_some_iff.mp H
     obtain ⟨t137, A150, H⟩ := H
     replace H : (if t137 = true then ((spec_Quorum.f a1).bind fun t138 => (if (l0_2.length : Int) < t138 then (spec_ProofOk.j0 k a1 true a0_0 a0_1 l0_2 l0_3) else (spec_ProofOk.j0 k a1 ((l0_2.length : Int) != (l0_3.length : Int)) a0_0 a0_1 l0_2 l0_3))) else (spec_ProofOk.j0 k a1 true a0_0 a0_1 l0_2 l0_3)) = some r := H
     have A15 := Aside0.mk A150
     clear A150
     by_cases c16 : t137 = true
     ·subst c16
      have H1 : ((spec_Quorum.f a1).bind fun t138 => (if (l0_2.length : Int) < t138 then (spec_ProofOk.j0 k a1 true a0_0 a0_1 l0_2 l0_3) else (spec_ProofOk.j0 k a1 ((l0_2.length : Int) != (l0_3.length : Int)) a0_0 a0_1 l0_2 l0_3))) = some r := by rw [if_pos rfl] at H; exact H
      clear H
      have H := H1
      clear H1
      replace H := Option.bind_eq_some_iff.mp H
      obtain ⟨t138, A170, H⟩ := H
      replace H : (if (l0_2.length : Int) < t138 then (spec_ProofOk.j0 k a1 true a0_0 a0_1 l0_2 l0_3) else (spec_ProofOk.j0 k a1 ((l0_2.length : Int) != (l0_3.length : Int)) a0_0 a0_1 l0_2 l0_3)) = some r := H
      have A17 := Aside0.mk A170
      clear A170
      by_cases c18 : (l0_2.length : Int) < t138
      ·rw [if_pos c18] at H
       have c18b0 : decide ((l0_2.length : Int) < t138) = true := decide_eq_true c18
       clear c18
       (first | rw [c18b0] | (simp only [i64_w, i32_w]; rw [c18b0]) | skip)
       have H' := Aside0.mk H
       clear H
       try go_wp2
       have n0_ := Aside0.mk (blk_drew BK133.out)
       have n1_ := Aside0.mk (below_drew1 HB.out)
       clear BK133
       clear HB
       have BK133 := n0_
       have HB := n1_
       clear n0_ n1_
       refine start_ (n := 27) (S := fun w' => w'.cell? ⟨gb133, 0, none⟩ = some (.int .i64 a0_0) ∧ w'.cell? ⟨gb133, 1, none⟩ = some (.int .i64 a0_1) ∧ w'.cell? ⟨gb133, 2, none⟩ = some (.slice A0_2 l0_2.length c0_2) ∧ w'.cell? ⟨gb133, 3, none⟩ = some (.slice A0_3 l0_3.length c0_3)) (ds := []) (bA 27 0) (by kernel_rfl) rfl rfl ⟨(blk_cell BK133.out 0).trans rfl, (blk_cell BK133.out 1).trans rfl, (blk_cell BK133.out 2).trans rfl, (blk_cell BK133.out 3).trans rfl⟩ (fun hHeld => ?_); refine with_tabW spec_ProofOk.tab5 spec_ProofOk.bits5 (fun HT_ HW_ => ?_)
       generalize w10.drew = w19 at BK133 HB hHeld ⊢
       refine pv (i := 0) (N := some 11) (bA 27 1) rfl rfl (any_of HT_.out (by kernel_rfl)) ?_
       refine take_ (i := 1) (N := some 12) (v := ?_) (a' := ?_) (bA 27 3) rfl rfl (take_ofW HT_.out HW_.out (by kernel_rfl)) (fun _ _ _ h => h) (Or.inl ⟨by rfl, ?_⟩) hHeld ?_ ?_
       rotate_left
       ·rintro w' ⟨s0, s1, s2, s3⟩
        go_simp
        with_reducible rfl
       rotate_left
       ·simp only [sp_]
        rfl
       refine one_ (i := 2) (N := some 13) (bA 27 7) rfl rfl (one_of HT_.out (by kernel_rfl)) (by decide) (fun K hK => ?_)
       refine goes_ Tryd.func74 (by kernel_rfl) rfl #[.int .i64 a0_0, .int .i64 1, .int .i64 100000] (by rfl) rfl rfl (by (try simp only [List.map_toArray, List.map_cons, List.map_nil]); first | done | rfl | (simp only [List.length_drop, List.length_take]; rfl)) ?_
       with_reducible refine (spec_l1In.calls a0_0 1 100000 true _ A13.out).mono ?_
       rintro e w' ⟨rfl, ⟨nd, rfl⟩⟩
       refine ⟨_, rfl, ?_⟩
       refine hK.out _ _ ⟨(blk_cell BK133.out 0).trans rfl, (blk_cell BK133.out 1).trans rfl, (blk_cell BK133.out 2).trans rfl, (blk_cell BK133.out 3).trans rfl⟩ (fun hHeld => ?_)
       clear hK K
       refine norm_ (a' := ?_) ?_ ?_
       rotate_left
       ·show Act.put _ (some 13) _ = _
        simp only [sp_]
        rfl
       refine pv (i := 3) (N := some 14) (bA 27 15) rfl rfl (any_of HT_.out (by kernel_rfl)) ?_
       refine pv (i := 4) (N := some 15) (bA 27 31) rfl rfl (any_of HT_.out (by kernel_rfl)) ?_
       refine pv (i := 5) (N := some 16) (bA 27 63) rfl rfl (any_of HT_.out (by kernel_rfl)) ?_
       refine take_ (i := 6) (N := some 17) (v := ?_) (a' := ?_) (bA 27 127) rfl rfl (take_ofW HT_.out HW_.out (by kernel_rfl)) (fun _ _ _ h => h) (Or.inl ⟨by rfl, ?_⟩) hHeld ?_ ?_
       rotate_left
       ·rintro w' ⟨s0, s1, s2, s3⟩
        go_simp
        with_reducible rfl
       rotate_left
       ·simp only [sp_]
        rfl
       refine one_ (i := 7) (N := some 18) (bA 27 255) rfl rfl (one_of HT_.out (by kernel_rfl)) (by decide) (fun K hK => ?_)
       refine goes_ Tryd.func75 (by kernel_rfl) rfl #[.int .i64 a0_1] (by rfl) rfl rfl (by (try simp only [List.map_toArray, List.map_cons, List.map_nil]); first | done | rfl | (simp only [List.length_drop, List.length_take]; rfl)) ?_
       with_reducible refine (spec_l15Name.calls a0_1 true _ A15.out).mono ?_
       rintro e w' ⟨rfl, ⟨nd, rfl⟩⟩
       refine ⟨_, rfl, ?_⟩
       refine hK.out _ _ ⟨(blk_cell BK133.out 0).trans rfl, (blk_cell BK133.out 1).trans rfl, (blk_cell BK133.out 2).trans rfl, (blk_cell BK133.out 3).trans rfl⟩ (fun hHeld => ?_)
       clear hK K
       refine norm_ (a' := ?_) ?_ ?_
       rotate_left
       ·show Act.put _ (some 18) _ = _
        simp only [sp_]
        rfl
       refine pv (i := 8) (N := some 19) (bA 27 511) rfl rfl (any_of HT_.out (by kernel_rfl)) ?_
       refine pv (i := 9) (N := some 20) (bA 27 1023) rfl rfl (any_of HT_.out (by kernel_rfl)) ?_
       refine pv (i := 10) (N := some 21) (bA 27 2047) rfl rfl (any_of HT_.out (by kernel_rfl)) ?_
       refine pv (i := 11) (N := some 22) (bA 27 4095) rfl rfl (any_of HT_.out (by kernel_rfl)) ?_
       refine pv (i := 14) (N := some 25) (bA 27 20479) rfl rfl (any_of HT_.out (by kernel_rfl)) ?_
       refine take_ (i := 12) (N := some 23) (v := ?_) (a' := ?_) (bA 27 24575) rfl rfl (take_ofW HT_.out HW_.out (by kernel_rfl)) (fun _ _ _ h => h) (Or.inl ⟨by rfl, ?_⟩) hHeld ?_ ?_
       rotate_left
       ·rintro w' ⟨s0, s1, s2, s3⟩
        go_simp
        with_reducible rfl
       rotate_left
       ·simp only [sp_]
        rfl
       refine pv (i := 13) (N := some 24) (bA 27 32767) rfl rfl (any_of HT_.out (by kernel_rfl)) ?_
       refine one_ (i := 15) (N := some 26) (bA 27 65535) rfl rfl (one_of HT_.out (by kernel_rfl)) (by decide) (fun K hK => ?_)
       refine goes_ Tryd.func66 (by kernel_rfl) rfl #[.int .i64 a1] (by rfl) rfl rfl (by (try simp only [List.map_toArray, List.map_cons, List.map_nil]); first | done | rfl | (simp only [List.length_drop, List.length_take]; rfl)) ?_
       with_reducible refine (spec_Quorum.calls a1 t138 _ A17.out).mono ?_
       rintro e w' ⟨rfl, ⟨nd, rfl⟩⟩
       refine ⟨_, rfl, ?_⟩
       refine hK.out _ _ ⟨(blk_cell BK133.out 0).trans rfl, (blk_cell BK133.out 1).trans rfl, (blk_cell BK133.out 2).trans rfl, (blk_cell BK133.out 3).trans rfl⟩ (fun hHeld => ?_)
       clear hK K
       refine norm_ (a' := ?_) ?_ ?_
       rotate_left
       ·show Act.put _ (some 26) _ = _
        simp only [sp_]
        rfl
       refine pv (i := 16) (N := some 27) (bA 27 131071) rfl rfl (any_of HT_.out (by kernel_rfl)) ?_
       refine pv (i := 17) (N := some 28) (bA 27 262143) rfl rfl (any_of HT_.out (by kernel_rfl)) ?_
       refine pv (i := 18) (N := some 29) (bA 27 524287) rfl rfl (any_of HT_.out (by kernel_rfl)) ?_
       refine pu (i := 19) (N := some 30) (bA 27 1048575) rfl rfl (any_of HT_.out (by kernel_rfl)) ?_
       refine pu (i := 20) (N := some 31) (bA 27 2097151) rfl rfl (any_of HT_.out (by kernel_rfl)) ?_
       refine pu (i := 21) (N := some 32) (bA 27 4194303) rfl rfl (any_of HT_.out (by kernel_rfl)) ?_
       refine pu (i := 22) (N := some 33) (bA 27 8388607) rfl rfl (any_of HT_.out (by kernel_rfl)) ?_
       refine pu (i := 23) (N := some 34) (bA 27 16777215) rfl rfl (any_of HT_.out (by kernel_rfl)) ?_
       refine pu (i := 24) (N := some 35) (bA 27 33554431) rfl rfl (any_of HT_.out (by kernel_rfl)) ?_
       refine pu (i := 25) (N := some 36) (bA 27 67108863) rfl rfl (any_of HT_.out (by kernel_rfl)) ?_
       refine pv (i := 26) (N := some 37) (bA 27 134217727) rfl rfl (any_of HT_.out (by kernel_rfl)) ?_
       refine done_ (done_of HT_.out (by kernel_rfl)) ?_
       try go_wp2
       go_meet
       case rel => exact ⟨_, (true), (by first | rfl | (simp; done) | (simp [*]; done)), H', ⟨by first | omega | exact Nat.le_refl _⟩, ⟨by (with_reducible repeat (first | refine blk_drewN ?_ _ | refine blk_drew ?_ | refine blk_alloc ?_ _)); exact BK133.out⟩, ⟨by repeat (first | (with_reducible first | exact HB.out | apply below_alloc | apply pw_below_drewN | apply below_drew1 | refine below_set ?_ GE133.out) | exact HB.out)⟩⟩
      ·rw [if_neg c18] at H
       have c18b0 : decide ((l0_2.length : Int) < t138) = false := decide_eq_false c18
       clear c18
       (first | rw [c18b0] | (simp only [i64_w, i32_w]; rw [c18b0]) | skip)
       have H' := Aside0.mk H
       clear H
       try go_wp2
       have n0_ := Aside0.mk (blk_drew BK133.out)
       have n1_ := Aside0.mk (below_drew1 HB.out)
       clear BK133
       clear HB
       have BK133 := n0_
       have HB := n1_
       clear n0_ n1_
       refine start_ (n := 27) (S := fun w' => w'.cell? ⟨gb133, 0, none⟩ = some (.int .i64 a0_0) ∧ w'.cell? ⟨gb133, 1, none⟩ = some (.int .i64 a0_1) ∧ w'.cell? ⟨gb133, 2, none⟩ = some (.slice A0_2 l0_2.length c0_2) ∧ w'.cell? ⟨gb133, 3, none⟩ = some (.slice A0_3 l0_3.length c0_3)) (ds := []) (bA 27 0) (by kernel_rfl) rfl rfl ⟨(blk_cell BK133.out 0).trans rfl, (blk_cell BK133.out 1).trans rfl, (blk_cell BK133.out 2).trans rfl, (blk_cell BK133.out 3).trans rfl⟩ (fun hHeld => ?_); refine with_tabW spec_ProofOk.tab5 spec_ProofOk.bits5 (fun HT_ HW_ => ?_)
       generalize w10.drew = w20 at BK133 HB hHeld ⊢
       refine pv (i := 0) (N := some 11) (bA 27 1) rfl rfl (any_of HT_.out (by kernel_rfl)) ?_
       refine take_ (i := 1) (N := some 12) (v := ?_) (a' := ?_) (bA 27 3) rfl rfl (take_ofW HT_.out HW_.out (by kernel_rfl)) (fun _ _ _ h => h) (Or.inl ⟨by rfl, ?_⟩) hHeld ?_ ?_
       rotate_left
       ·rintro w' ⟨s0, s1, s2, s3⟩
        go_simp
        with_reducible rfl
       rotate_left
       ·simp only [sp_]
        rfl
       refine one_ (i := 2) (N := some 13) (bA 27 7) rfl rfl (one_of HT_.out (by kernel_rfl)) (by decide) (fun K hK => ?_)
       refine goes_ Tryd.func74 (by kernel_rfl) rfl #[.int .i64 a0_0, .int .i64 1, .int .i64 100000] (by rfl) rfl rfl (by (try simp only [List.map_toArray, List.map_cons, List.map_nil]); first | done | rfl | (simp only [List.length_drop, List.length_take]; rfl)) ?_
       with_reducible refine (spec_l1In.calls a0_0 1 100000 true _ A13.out).mono ?_
       rintro e w' ⟨rfl, ⟨nd, rfl⟩⟩
       refine ⟨_, rfl, ?_⟩
       refine hK.out _ _ ⟨(blk_cell BK133.out 0).trans rfl, (blk_cell BK133.out 1).trans rfl, (blk_cell BK133.out 2).trans rfl, (blk_cell BK133.out 3).trans rfl⟩ (fun hHeld => ?_)
       clear hK K
       refine norm_ (a' := ?_) ?_ ?_
       rotate_left
       ·show Act.put _ (some 13) _ = _
        simp only [sp_]
        rfl
       refine pv (i := 3) (N := some 14) (bA 27 15) rfl rfl (any_of HT_.out (by kernel_rfl)) ?_
       refine pv (i := 4) (N := some 15) (bA 27 31) rfl rfl (any_of HT_.out (by kernel_rfl)) ?_
       refine pv (i := 5) (N := some 16) (bA 27 63) rfl rfl (any_of HT_.out (by kernel_rfl)) ?_
       refine take_ (i := 6) (N := some 17) (v := ?_) (a' := ?_) (bA 27 127) rfl rfl (take_ofW HT_.out HW_.out (by kernel_rfl)) (fun _ _ _ h => h) (Or.inl ⟨by rfl, ?_⟩) hHeld ?_ ?_
       rotate_left
       ·rintro w' ⟨s0, s1, s2, s3⟩
        go_simp
        with_reducible rfl
       rotate_left
       ·simp only [sp_]
        rfl
       refine one_ (i := 7) (N := some 18) (bA 27 255) rfl rfl (one_of HT_.out (by kernel_rfl)) (by decide) (fun K hK => ?_)
       refine goes_ Tryd.func75 (by kernel_rfl) rfl #[.int .i64 a0_1] (by rfl) rfl rfl (by (try simp only [List.map_toArray, List.map_cons, List.map_nil]); first | done | rfl | (simp only [List.length_drop, List.length_take]; rfl)) ?_
       with_reducible refine (spec_l15Name.calls a0_1 true _ A15.out).mono ?_
       rintro e w' ⟨rfl, ⟨nd, rfl⟩⟩
       refine ⟨_, rfl, ?_⟩
       refine hK.out _ _ ⟨(blk_cell BK133.out 0).trans rfl, (blk_cell BK133.out 1).trans rfl, (blk_cell BK133.out 2).trans rfl, (blk_cell BK133.out 3).trans rfl⟩ (fun hHeld => ?_)
       clear hK K
       refine norm_ (a' := ?_) ?_ ?_
       rotate_left
       ·show Act.put _ (some 18) _ = _
        simp only [sp_]
        rfl
       refine pv (i := 8) (N := some 19) (bA 27 511) rfl rfl (any_of HT_.out (by kernel_rfl)) ?_
       refine pv (i := 9) (N := some 20) (bA 27 1023) rfl rfl (any_of HT_.out (by kernel_rfl)) ?_
       refine pv (i := 10) (N := some 21) (bA 27 2047) rfl rfl (any_of HT_.out (by kernel_rfl)) ?_
       refine pv (i := 11) (N := some 22) (bA 27 4095) rfl rfl (any_of HT_.out (by kernel_rfl)) ?_
       refine pv (i := 14) (N := some 25) (bA 27 20479) rfl rfl (any_of HT_.out (by kernel_rfl)) ?_
       refine take_ (i := 12) (N := some 23) (v := ?_) (a' := ?_) (bA 27 24575) rfl rfl (take_ofW HT_.out HW_.out (by kernel_rfl)) (fun _ _ _ h => h) (Or.inl ⟨by rfl, ?_⟩) hHeld ?_ ?_
       rotate_left
       ·rintro w' ⟨s0, s1, s2, s3⟩
        go_simp
        with_reducible rfl
       rotate_left
       ·simp only [sp_]
        rfl
       refine pv (i := 13) (N := some 24) (bA 27 32767) rfl rfl (any_of HT_.out (by kernel_rfl)) ?_
       refine one_ (i := 15) (N := some 26) (bA 27 65535) rfl rfl (one_of HT_.out (by kernel_rfl)) (by decide) (fun K hK => ?_)
       refine goes_ Tryd.func66 (by kernel_rfl) rfl #[.int .i64 a1] (by rfl) rfl rfl (by (try simp only [List.map_toArray, List.map_cons, List.map_nil]); first | done | rfl | (simp only [List.length_drop, List.length_take]; rfl)) ?_
       with_reducible refine (spec_Quorum.calls a1 t138 _ A17.out).mono ?_
       rintro e w' ⟨rfl, ⟨nd, rfl⟩⟩
       refine ⟨_, rfl, ?_⟩
       refine hK.out _ _ ⟨(blk_cell BK133.out 0).trans rfl, (blk_cell BK133.out 1).trans rfl, (blk_cell BK133.out 2).trans rfl, (blk_cell BK133.out 3).trans rfl⟩ (fun hHeld => ?_)
       clear hK K
       refine norm_ (a' := ?_) ?_ ?_
       rotate_left
       ·show Act.put _ (some 26) _ = _
        simp only [sp_]
        rfl
       refine pv (i := 16) (N := some 27) (bA 27 131071) rfl rfl (any_of HT_.out (by kernel_rfl)) ?_
       refine pv (i := 17) (N := some 28) (bA 27 262143) rfl rfl (any_of HT_.out (by kernel_rfl)) ?_
       refine pv (i := 18) (N := some 29) (bA 27 524287) rfl rfl (any_of HT_.out (by kernel_rfl)) ?_
       refine pv (i := 19) (N := some 30) (bA 27 1048575) rfl rfl (any_of HT_.out (by kernel_rfl)) ?_
       refine pv (i := 22) (N := some 33) (bA 27 5242879) rfl rfl (any_of HT_.out (by kernel_rfl)) ?_
       refine take_ (i := 20) (N := some 31) (v := ?_) (a' := ?_) (bA 27 6291455) rfl rfl (take_ofW HT_.out HW_.out (by kernel_rfl)) (fun _ _ _ h => h) (Or.inl ⟨by rfl, ?_⟩) hHeld ?_ ?_
       rotate_left
       ·rintro w' ⟨s0, s1, s2, s3⟩
        go_simp
        with_reducible rfl
       rotate_left
       ·simp only [sp_]
        rfl
       refine pv (i := 21) (N := some 32) (bA 27 8388607) rfl rfl (any_of HT_.out (by kernel_rfl)) ?_
       refine take_ (i := 23) (N := some 34) (v := ?_) (a' := ?_) (bA 27 16777215) rfl rfl (take_ofW HT_.out HW_.out (by kernel_rfl)) (fun _ _ _ h => h) (Or.inl ⟨by rfl, ?_⟩) hHeld ?_ ?_
       rotate_left
       ·rintro w' ⟨s0, s1, s2, s3⟩
        go_simp
        with_reducible rfl
       rotate_left
       ·simp only [sp_]
        rfl
       refine pv (i := 24) (N := some 35) (bA 27 33554431) rfl rfl (any_of HT_.out (by kernel_rfl)) ?_
       refine pv (i := 25) (N := some 36) (bA 27 67108863) rfl rfl (any_of HT_.out (by kernel_rfl)) ?_
       refine pv (i := 26) (N := some 37) (bA 27 134217727) rfl rfl (any_of HT_.out (by kernel_rfl)) ?_
       refine done_ (done_of HT_.out (by kernel_rfl)) ?_
       try go_wp2
       go_meet
       case rel => exact ⟨_, (((l0_2.length : Int) != (l0_3.length : Int))), (by first | rfl | (simp; done) | (simp [*]; done)), H', ⟨by first | omega | exact Nat.le_refl _⟩, ⟨by (with_reducible repeat (first | refine blk_drewN ?_ _ | refine blk_drew ?_ | refine blk_alloc ?_ _)); exact BK133.out⟩, ⟨by repeat (first | (with_reducible first | exact HB.out | apply below_alloc | apply pw_below_drewN | apply below_drew1 | refine below_set ?_ GE133.out) | exact HB.out)⟩⟩
     ·replace c16 := Bool.eq_false_iff.mpr c16
      subst c16
      have H1 : (spec_ProofOk.j0 k a1 true a0_0 a0_1 l0_2 l0_3) = some r := by rw [if_neg (show ¬ (false = true) by decide)] at H; exact H
      clear H
      have H := H1
      clear H1
      have H' := Aside0.mk H
      clear H
      try go_wp2
      have n0_ := Aside0.mk (blk_drew BK133.out)
      have n1_ := Aside0.mk (below_drew1 HB.out)
      clear BK133
      clear HB
      have BK133 := n0_
      have HB := n1_
      clear n0_ n1_
      refine start_ (n := 27) (S := fun w' => w'.cell? ⟨gb133, 0, none⟩ = some (.int .i64 a0_0) ∧ w'.cell? ⟨gb133, 1, none⟩ = some (.int .i64 a0_1) ∧ w'.cell? ⟨gb133, 2, none⟩ = some (.slice A0_2 l0_2.length c0_2) ∧ w'.cell? ⟨gb133, 3, none⟩ = some (.slice A0_3 l0_3.length c0_3)) (ds := []) (bA 27 0) (by kernel_rfl) rfl rfl ⟨(blk_cell BK133.out 0).trans rfl, (blk_cell BK133.out 1).trans rfl, (blk_cell BK133.out 2).trans rfl, (blk_cell BK133.out 3).trans rfl⟩ (fun hHeld => ?_); refine with_tabW spec_ProofOk.tab5 spec_ProofOk.bits5 (fun HT_ HW_ => ?_)
      generalize w10.drew = w21 at BK133 HB hHeld ⊢
      refine pv (i := 0) (N := some 11) (bA 27 1) rfl rfl (any_of HT_.out (by kernel_rfl)) ?_
      refine take_ (i := 1) (N := some 12) (v := ?_) (a' := ?_) (bA 27 3) rfl rfl (take_ofW HT_.out HW_.out (by kernel_rfl)) (fun _ _ _ h => h) (Or.inl ⟨by rfl, ?_⟩) hHeld ?_ ?_
      rotate_left
      ·rintro w' ⟨s0, s1, s2, s3⟩
       go_simp
       with_reducible rfl
      rotate_left
      ·simp only [sp_]
       rfl
      refine one_ (i := 2) (N := some 13) (bA 27 7) rfl rfl (one_of HT_.out (by kernel_rfl)) (by decide) (fun K hK => ?_)
      refine goes_ Tryd.func74 (by kernel_rfl) rfl #[.int .i64 a0_0, .int .i64 1, .int .i64 100000] (by rfl) rfl rfl (by (try simp only [List.map_toArray, List.map_cons, List.map_nil]); first | done | rfl | (simp only [List.length_drop, List.length_take]; rfl)) ?_
      with_reducible refine (spec_l1In.calls a0_0 1 100000 true _ A13.out).mono ?_
      rintro e w' ⟨rfl, ⟨nd, rfl⟩⟩
      refine ⟨_, rfl, ?_⟩
      refine hK.out _ _ ⟨(blk_cell BK133.out 0).trans rfl, (blk_cell BK133.out 1).trans rfl, (blk_cell BK133.out 2).trans rfl, (blk_cell BK133.out 3).trans rfl⟩ (fun hHeld => ?_)
      clear hK K
      refine norm_ (a' := ?_) ?_ ?_
      rotate_left
      ·show Act.put _ (some 13) _ = _
       simp only [sp_]
       rfl
      refine pv (i := 3) (N := some 14) (bA 27 15) rfl rfl (any_of HT_.out (by kernel_rfl)) ?_
      refine pv (i := 4) (N := some 15) (bA 27 31) rfl rfl (any_of HT_.out (by kernel_rfl)) ?_
      refine pv (i := 5) (N := some 16) (bA 27 63) rfl rfl (any_of HT_.out (by kernel_rfl)) ?_
      refine take_ (i := 6) (N := some 17) (v := ?_) (a' := ?_) (bA 27 127) rfl rfl (take_ofW HT_.out HW_.out (by kernel_rfl)) (fun _ _ _ h => h) (Or.inl ⟨by rfl, ?_⟩) hHeld ?_ ?_
      rotate_left
      ·rintro w' ⟨s0, s1, s2, s3⟩
       go_simp
       with_reducible rfl
      rotate_left
      ·simp only [sp_]
       rfl
      refine one_ (i := 7) (N := some 18) (bA 27 255) rfl rfl (one_of HT_.out (by kernel_rfl)) (by decide) (fun K hK => ?_)
      refine goes_ Tryd.func75 (by kernel_rfl) rfl #[.int .i64 a0_1] (by rfl) rfl rfl (by (try simp only [List.map_toArray, List.map_cons, List.map_nil]); first | done | rfl | (simp only [List.length_drop, List.length_take]; rfl)) ?_
      with_reducible refine (spec_l15Name.calls a0_1 false _ A15.out).mono ?_
      rintro e w' ⟨rfl, ⟨nd, rfl⟩⟩
      refine ⟨_, rfl, ?_⟩
      refine hK.out _ _ ⟨(blk_cell BK133.out 0).trans rfl, (blk_cell BK133.out 1).trans rfl, (blk_cell BK133.out 2).trans rfl, (blk_cell BK133.out 3).trans rfl⟩ (fun hHeld => ?_)
      clear hK K
      refine norm_ (a' := ?_) ?_ ?_
      rotate_left
      ·show Act.put _ (some 18) _ = _
       simp only [sp_]
       rfl
      refine pv (i := 8) (N := some 19) (bA 27 511) rfl rfl (any_of HT_.out (by kernel_rfl)) ?_
      refine pv (i := 9) (N := some 20) (bA 27 1023) rfl rfl (any_of HT_.out (by kernel_rfl)) ?_
      refine pv (i := 10) (N := some 21) (bA 27 2047) rfl rfl (any_of HT_.out (by kernel_rfl)) ?_
      refine pu (i := 11) (N := some 22) (bA 27 4095) rfl rfl (any_of HT_.out (by kernel_rfl)) ?_
      refine pu (i := 12) (N := some 23) (bA 27 8191) rfl rfl (any_of HT_.out (by kernel_rfl)) ?_
      refine pu (i := 13) (N := some 24) (bA 27 16383) rfl rfl (any_of HT_.out (by kernel_rfl)) ?_
      refine pu (i := 14) (N := some 25) (bA 27 32767) rfl rfl (any_of HT_.out (by kernel_rfl)) ?_
      refine pu (i := 15) (N := some 26) (bA 27 65535) rfl rfl (any_of HT_.out (by kernel_rfl)) ?_
      refine pu (i := 16) (N := some 27) (bA 27 131071) rfl rfl (any_of HT_.out (by kernel_rfl)) ?_
      refine pv (i := 17) (N := some 28) (bA 27 262143) rfl rfl (any_of HT_.out (by kernel_rfl)) ?_
      refine pv (i := 18) (N := some 29) (bA 27 524287) rfl rfl (any_of HT_.out (by kernel_rfl)) ?_
      refine pu (i := 19) (N := some 30) (bA 27 1048575) rfl rfl (any_of HT_.out (by kernel_rfl)) ?_
      refine pu (i := 20) (N := some 31) (bA 27 2097151) rfl rfl (any_of HT_.out (by kernel_rfl)) ?_
      refine pu (i := 21) (N := some 32) (bA 27 4194303) rfl rfl (any_of HT_.out (by kernel_rfl)) ?_
      refine pu (i := 22) (N := some 33) (bA 27 8388607) rfl rfl (any_of HT_.out (by kernel_rfl)) ?_
      refine pu (i := 23) (N := some 34) (bA 27 16777215) rfl rfl (any_of HT_.out (by kernel_rfl)) ?_
      refine pu (i := 24) (N := some 35) (bA 27 33554431) rfl rfl (any_of HT_.out (by kernel_rfl)) ?_
      refine pu (i := 25) (N := some 36) (bA 27 67108863) rfl rfl (any_of HT_.out (by kernel_rfl)) ?_
      refine pv (i := 26) (N := some 37) (bA 27 134217727) rfl rfl (any_of HT_.out (by kernel_rfl)) ?_
      refine done_ (done_of HT_.out (by kernel_rfl)) ?_
      try go_wp2
      go_meet
      case rel => exact ⟨_, (true), (by first | rfl | (simp; done) | (simp [*]; done)), H', ⟨by first | omega | exact Nat.le_refl _⟩, ⟨by (with_reducible repeat (first | refine blk_drewN ?_ _ | refine blk_drew ?_ | refine blk_alloc ?_ _)); exact BK133.out⟩, ⟨by repeat (first | (with_reducible first | exact HB.out | apply below_alloc | apply pw_below_drewN | apply below_drew1 | refine below_set ?_ GE133.out) | exact HB.out)⟩⟩
    ·replace c14 := Bool.eq_false_iff.mpr c14
     subst c14
     have H1 : (spec_ProofOk.j0 k a1 true a0_0 a0_1 l0_2 l0_3) = some r := by rw [if_neg (show ¬ (false = true) by decide)] at H; exact H
     clear H
     have H := H1
     clear H1
     have H' := Aside0.mk H
     clear H
     try go_wp2
     have n0_ := Aside0.mk (blk_drew BK133.out)
     have n1_ := Aside0.mk (below_drew1 HB.out)
     clear BK133
     clear HB
     have BK133 := n0_
     have HB := n1_
     clear n0_ n1_
     refine start_ (n := 27) (S := fun w' => w'.cell? ⟨gb133, 0, none⟩ = some (.int .i64 a0_0) ∧ w'.cell? ⟨gb133, 1, none⟩ = some (.int .i64 a0_1) ∧ w'.cell? ⟨gb133, 2, none⟩ = some (.slice A0_2 l0_2.length c0_2) ∧ w'.cell? ⟨gb133, 3, none⟩ = some (.slice A0_3 l0_3.length c0_3)) (ds := []) (bA 27 0) (by kernel_rfl) rfl rfl ⟨(blk_cell BK133.out 0).trans rfl, (blk_cell BK133.out 1).trans rfl, (blk_cell BK133.out 2).trans rfl, (blk_cell BK133.out 3).trans rfl⟩ (fun hHeld => ?_); refine with_tabW spec_ProofOk.tab5 spec_ProofOk.bits5 (fun HT_ HW_ => ?_)
     generalize w10.drew = w22 at BK133 HB hHeld ⊢
     refine pv (i := 0) (N := some 11) (bA 27 1) rfl rfl (any_of HT_.out (by kernel_rfl)) ?_
     refine take_ (i := 1) (N := some 12) (v := ?_) (a' := ?_) (bA 27 3) rfl rfl (take_ofW HT_.out HW_.out (by kernel_rfl)) (fun _ _ _ h => h) (Or.inl ⟨by rfl, ?_⟩) hHeld ?_ ?_
     rotate_left
     ·rintro w' ⟨s0, s1, s2, s3⟩
      go_simp
      with_reducible rfl
     rotate_left
     ·simp only [sp_]
      rfl
     refine one_ (i := 2) (N := some 13) (bA 27 7) rfl rfl (one_of HT_.out (by kernel_rfl)) (by decide) (fun K hK => ?_)
     refine goes_ Tryd.func74 (by kernel_rfl) rfl #[.int .i64 a0_0, .int .i64 1, .int .i64 100000] (by rfl) rfl rfl (by (try simp only [List.map_toArray, List.map_cons, List.map_nil]); first | done | rfl | (simp only [List.length_drop, List.length_take]; rfl)) ?_
     with_reducible refine (spec_l1In.calls a0_0 1 100000 false _ A13.out).mono ?_
     rintro e w' ⟨rfl, ⟨nd, rfl⟩⟩
     refine ⟨_, rfl, ?_⟩
     refine hK.out _ _ ⟨(blk_cell BK133.out 0).trans rfl, (blk_cell BK133.out 1).trans rfl, (blk_cell BK133.out 2).trans rfl, (blk_cell BK133.out 3).trans rfl⟩ (fun hHeld => ?_)
     clear hK K
     refine norm_ (a' := ?_) ?_ ?_
     rotate_left
     ·show Act.put _ (some 13) _ = _
      simp only [sp_]
      rfl
     refine pv (i := 3) (N := some 14) (bA 27 15) rfl rfl (any_of HT_.out (by kernel_rfl)) ?_
     refine pv (i := 4) (N := some 15) (bA 27 31) rfl rfl (any_of HT_.out (by kernel_rfl)) ?_
     refine pu (i := 5) (N := some 16) (bA 27 63) rfl rfl (any_of HT_.out (by kernel_rfl)) ?_
     refine pu (i := 6) (N := some 17) (bA 27 127) rfl rfl (any_of HT_.out (by kernel_rfl)) ?_
     refine pu (i := 7) (N := some 18) (bA 27 255) rfl rfl (any_of HT_.out (by kernel_rfl)) ?_
     refine pu (i := 8) (N := some 19) (bA 27 511) rfl rfl (any_of HT_.out (by kernel_rfl)) ?_
     refine pv (i := 9) (N := some 20) (bA 27 1023) rfl rfl (any_of HT_.out (by kernel_rfl)) ?_
     refine pv (i := 10) (N := some 21) (bA 27 2047) rfl rfl (any_of HT_.out (by kernel_rfl)) ?_
     refine pu (i := 11) (N := some 22) (bA 27 4095) rfl rfl (any_of HT_.out (by kernel_rfl)) ?_
     refine pu (i := 12) (N := some 23) (bA 27 8191) rfl rfl (any_of HT_.out (by kernel_rfl)) ?_
     refine pu (i := 13) (N := some 24) (bA 27 16383) rfl rfl (any_of HT_.out (by kernel_rfl)) ?_
     refine pu (i := 14) (N := some 25) (bA 27 32767) rfl rfl (any_of HT_.out (by kernel_rfl)) ?_
     refine pu (i := 15) (N := some 26) (bA 27 65535) rfl rfl (any_of HT_.out (by kernel_rfl)) ?_
     refine pu (i := 16) (N := some 27) (bA 27 131071) rfl rfl (any_of HT_.out (by kernel_rfl)) ?_
     refine pv (i := 17) (N := some 28) (bA 27 262143) rfl rfl (any_of HT_.out (by kernel_rfl)) ?_
     refine pv (i := 18) (N := some 29) (bA 27 524287) rfl rfl (any_of HT_.out (by kernel_rfl)) ?_
     refine pu (i := 19) (N := some 30) (bA 27 1048575) rfl rfl (any_of HT_.out (by kernel_rfl)) ?_
     refine pu (i := 20) (N := some 31) (bA 27 2097151) rfl rfl (any_of HT_.out (by kernel_rfl)) ?_
     refine pu (i := 21) (N := some 32) (bA 27 4194303) rfl rfl (any_of HT_.out (by kernel_rfl)) ?_
     refine pu (i := 22) (N := some 33) (bA 27 8388607) rfl rfl (any_of HT_.out (by kernel_rfl)) ?_
     refine pu (i := 23) (N := some 34) (bA 27 16777215) rfl rfl (any_of HT_.out (by kernel_rfl)) ?_
     refine pu (i := 24) (N := some 35) (bA 27 33554431) rfl rfl (any_of HT_.out (by kernel_rfl)) ?_
     refine pu (i := 25) (N := some 36) (bA 27 67108863) rfl rfl (any_of HT_.out (by kernel_rfl)) ?_
     refine pv (i := 26) (N := some 37) (bA 27 134217727) rfl rfl (any_of HT_.out (by kernel_rfl)) ?_
     refine done_ (done_of HT_.out (by kernel_rfl)) ?_
     try go_wp2
     go_meet
     case rel => exact ⟨_, (true), (by first | rfl | (simp; done) | (simp [*]; done)), H', ⟨by first | omega | exact Nat.le_refl _⟩, ⟨by (with_reducible repeat (first | refine blk_drewN ?_ _ | refine blk_drew ?_ | refine blk_alloc ?_ _)); exact BK133.out⟩, ⟨by repeat (first | (with_reducible first | exact HB.out | apply below_alloc | apply pw_below_drewN | apply below_drew1 | refine below_set ?_ GE133.out) | exact HB.out)⟩⟩
   case rest =>
    clear HC12
    try clear c1
    try clear p2
    try clear c6
    try clear c7
    try clear c14
    try clear c16
    obtain ⟨kq, x37_11, rfl, HA, HJ11, BK133, HB⟩ := hcut
    cases kq with
    | zero => exact absurd HA.out (by simp [spec_ProofOk.j0])
    | succ kj11 =>
     have H := HA.out
     clear HA
     simp only [spec_ProofOk.j0] at H
     by_cases c23 : x37_11 = true
     ·subst c23
      have H1 : (some false) = some r := by rw [if_pos rfl] at H; exact H
      clear H
      have H := H1
      clear H1
      obtain rfl := Option.some.inj H
      go_wp2
      go_ret
      exact ⟨by first | rfl | (simp [errW_none, errW_some] <;> rfl) | (simp [*, errW_none, errW_some] <;> rfl), by repeat (first | (with_reducible first | exact HB.out | apply below_alloc | apply pw_below_drewN | apply below_drew1 | refine below_set ?_ GE133.out) | exact HB.out)⟩
     ·replace c23 := Bool.eq_false_iff.mpr c23
      subst c23
      have H1 : (spec_ProofOk.l0 kj11 a1 0 a0_0 a0_1 l0_2 l0_3) = some r := by rw [if_neg (show ¬ (false = true) by decide)] at H; exact H
      clear H
      have H := H1
      clear H1
      have H' := Aside0.mk H
      clear H
      go_wp2
      go_loopg [5] kj11 (fun kq v5 w' => ∃ (x5_2 : Int), v5 = .int .i64 x5_2 ∧ Aside0 (spec_ProofOk.l0 kq a1 x5_2 a0_0 a0_1 l0_2 l0_3 = some r) ∧ Aside0 (kq ≤ kj11) ∧ Aside0 (w'.heap[gb133]? = some (.cells #[.int .i64 a0_0, .int .i64 a0_1, (.slice A0_2 l0_2.length c0_2), (.slice A0_3 l0_3.length c0_3)] 54 (0, 0))) ∧ Aside0 (Below w.heap.size w w'))
      case atStart => exact ⟨(0), (by first | rfl | (simp; done) | (simp [*]; done)), H', ⟨Nat.le_refl _⟩, ⟨by (with_reducible repeat (first | refine blk_drewN ?_ _ | refine blk_drew ?_ | refine blk_alloc ?_ _)); exact BK133.out⟩, ⟨by repeat (first | (with_reducible first | exact HB.out | apply below_alloc | apply pw_below_drewN | apply below_drew1 | refine below_set ?_ GE133.out) | exact HB.out)⟩⟩
      case round =>
       clear H'
       try clear c1
       try clear c2
       try clear p2
       try clear c6
       try clear c7
       try clear c14
       try clear c16
       try clear c23
       try clear p2
       obtain ⟨x5_2, rfl, HA, HK2, BK133, HB⟩ := hrel
       cases gk with
       | zero => exact absurd HA.out (by simp [spec_ProofOk.l0])
       | succ k2 =>
        have H := HA.out
        clear HA
        simp only [spec_ProofOk.l0] at H
        by_cases c24 : x5_2 < (l0_2.length : Int)
        ·rw [if_pos c24] at H
         have c24b0 : decide (x5_2 < (l0_2.length : Int)) = true := decide_eq_true c24
         clear c24
         by_cases c25 : 0 ≤ x5_2
         ·rw [if_pos c25] at H
          have c25b0 : decide (0 ≤ x5_2) = true := decide_eq_true c25
          clear c25
          by_cases c26 : x5_2 < (l0_3.length : Int)
          ·rw [if_pos c26] at H
           have c26b0 : decide (x5_2 < (l0_3.length : Int)) = true := decide_eq_true c26
           clear c26
           replace H := Option.bind_eq_some_iff.mp H
           obtain ⟨t141, A270, H⟩ := H
           replace H : (if t141 = true then (if x5_2 > 0 then (if 0 ≤ (wrap64 (x5_2 - 1)) then (if (wrap64 (x5_2 - 1)) < (l0_2.length : Int) then (if (rd l0_2 x5_2) ≤ (rd l0_2 (wrap64 (x5_2 - 1))) then (some false) else (spec_ProofOk.l0 k2 a1 (wrap64 (x5_2 + 1)) a0_0 a0_1 l0_2 l0_3)) else (none)) else (none)) else (spec_ProofOk.l0 k2 a1 (wrap64 (x5_2 + 1)) a0_0 a0_1 l0_2 l0_3)) else (some false)) = some r := H
           have A27 := Aside0.mk A270
           clear A270
           by_cases c28 : t141 = true
           ·subst c28
            have H1 : (if x5_2 > 0 then (if 0 ≤ (wrap64 (x5_2 - 1)) then (if (wrap64 (x5_2 - 1)) < (l0_2.length : Int) then (if (rd l0_2 x5_2) ≤ (rd l0_2 (wrap64 (x5_2 - 1))) then (some false) else (spec_ProofOk.l0 k2 a1 (wrap64 (x5_2 + 1)) a0_0 a0_1 l0_2 l0_3)) else (none)) else (none)) else (spec_ProofOk.l0 k2 a1 (wrap64 (x5_2 + 1)) a0_0 a0_1 l0_2 l0_3)) = some r := by rw [if_pos rfl] at H; exact H
            clear H
            have H := H1
            clear H1
            by_cases c29 : x5_2 > 0
            ·rw [if_pos c29] at H
             have c29b0 : decide (0 < x5_2) = true := decide_eq_true c29
             clear c29
             obtain ⟨ji30, hji30⟩ : ∃ j_ : Int, (wrap64 (x5_2 - 1)) = j_ := ⟨_, rfl⟩
             replace H : (if 0 ≤ (ji30) then (if (ji30) < (l0_2.length : Int) then (if (rd l0_2 x5_2) ≤ (rd l0_2 (ji30)) then (some false) else (spec_ProofOk.l0 k2 a1 (wrap64 (x5_2 + 1)) a0_0 a0_1 l0_2 l0_3)) else (none)) else (none)) = some r := by first | (rw [hji30] at H; exact H) | (simp only [hji30] at H ⊢; exact H)
             (try rw [hji30] at A27)
             have hji30w : (IntKind.i64.wrap (x5_2 - 1)) = ji30 := (i64_w _).trans hji30
             by_cases c31 : 0 ≤ (ji30)
             ·rw [if_pos c31] at H
              have c31b0 : decide (0 ≤ (ji30)) = true := decide_eq_true c31
              clear c31
              by_cases c32 : (ji30) < (l0_2.length : Int)
              ·rw [if_pos c32] at H
               have c32b0 : decide ((ji30) < (l0_2.length : Int)) = true := decide_eq_true c32
               clear c32
               have HC33 := Aside0.mk H
               clear H
               have hcz34_0 : wr.cell? ⟨gb133, 0, none⟩ = some (.int .i64 a0_0) := (blk_cell BK133.out 0).trans rfl
               have hcz34_1 : wr.cell? ⟨gb133, 1, none⟩ = some (.int .i64 a0_1) := (blk_cell BK133.out 1).trans rfl
               have hcz34_2 : wr.cell? ⟨gb133, 2, none⟩ = some (.slice A0_2 l0_2.length c0_2) := (blk_cell BK133.out 2).trans rfl
               have hcz34_3 : wr.cell? ⟨gb133, 3, none⟩ = some (.slice A0_3 l0_3.length c0_3) := (blk_cell BK133.out 3).trans rfl
               have hfz34_0 := blk_frozen BK133.out 0
               have hfz34_1 := blk_frozen BK133.out 1
               have hfz34_2 := blk_frozen BK133.out 2
               have hfz34_3 := blk_frozen BK133.out 3
               try go_wp2
               have n0_ := Aside0.mk (blk_drew BK133.out)
               have n1_ := Aside0.mk (below_drew1 HB.out)
               clear BK133
               clear HB
               have BK133 := n0_
               have HB := n1_
               clear n0_ n1_
               have p139 : 0 ≤ (x5_2 : Int) := of_decide_eq_true (by first | (with_reducible assumption) | assumption)
               have q139 : x5_2 < (l0_2.length : Int) := of_decide_eq_true (by first | (with_reducible assumption) | assumption)
               obtain ⟨ad139, e139, hx139_0⟩ := Kd.at_int HR0_2.out x5_2 p139 q139
               have hw139_0 := hx139_0
               cases e139
               replace hx139_0 := (HB.out.cell (World.block_lt_of_cell? w _ hx139_0)).trans hx139_0
               replace p139 := eq_true p139
               replace q139 := eq_true q139
               have p140 : 0 ≤ (x5_2 : Int) := of_decide_eq_true (by first | (with_reducible assumption) | assumption)
               have q140 : x5_2 < (l0_3.length : Int) := of_decide_eq_true (by first | (with_reducible assumption) | assumption)
               obtain ⟨ad140, e140, hx140_0⟩ := Kd.at_int HR0_3.out x5_2 p140 q140
               have hw140_0 := hx140_0
               cases e140
               replace hx140_0 := (HB.out.cell (World.block_lt_of_cell? w _ hx140_0)).trans hx140_0
               replace p140 := eq_true p140
               replace q140 := eq_true q140
               have p142 : 0 ≤ (x5_2 : Int) := of_decide_eq_true (by first | (with_reducible assumption) | assumption)
               have q142 : x5_2 < (l0_2.length : Int) := of_decide_eq_true (by first | (with_reducible assumption) | assumption)
               obtain ⟨ad142, e142, hx142_0⟩ := Kd.at_int HR0_2.out x5_2 p142 q142
               have hw142_0 := hx142_0
               obtain rfl : ad139 = ad142 := (by injection e142)
               replace hx142_0 := (HB.out.cell (World.block_lt_of_cell? w _ hx142_0)).trans hx142_0
               replace p142 := eq_true p142
               replace q142 := eq_true q142
               have p143 : 0 ≤ ((ji30) : Int) := of_decide_eq_true (by first | (with_reducible assumption) | assumption)
               have q143 : (ji30) < (l0_2.length : Int) := of_decide_eq_true (by first | (with_reducible assumption) | assumption)
               obtain ⟨ad143, e143, hx143_0⟩ := Kd.at_int HR0_2.out (ji30) p143 q143
               have hw143_0 := hx143_0
               obtain rfl : ad139 = ad143 := (by injection e143)
               replace hx143_0 := (HB.out.cell (World.block_lt_of_cell? w _ hx143_0)).trans hx143_0
               replace p143 := eq_true p143
               replace q143 := eq_true q143
               refine start_ (n := 36) (S := fun w' => w'.cell? ⟨gb133, 0, none⟩ = some (.int .i64 a0_0) ∧ w'.cell? ⟨gb133, 1, none⟩ = some (.int .i64 a0_1) ∧ w'.cell? ⟨gb133, 2, none⟩ = some (.slice (some ad139) l0_2.length c0_2) ∧ w'.cell? ⟨gb133, 3, none⟩ = some (.slice (some ad140) l0_3.length c0_3) ∧ w'.cell? (ad139.add (x5_2).toNat) = some (.int .i64 (rd l0_2 x5_2)) ∧ w'.cell? (ad140.add (x5_2).toNat) = some (.int .i64 (rd l0_3 x5_2)) ∧ w'.cell? (ad139.add (x5_2).toNat) = some (.int .i64 (rd l0_2 x5_2)) ∧ w'.cell? (ad139.add ((ji30)).toNat) = some (.int .i64 (rd l0_2 (ji30)))) (ds := []) (bA 36 0) (by kernel_rfl) rfl rfl ⟨(blk_cell BK133.out 0).trans rfl, (blk_cell BK133.out 1).trans rfl, (blk_cell BK133.out 2).trans rfl, (blk_cell BK133.out 3).trans rfl, ((HB.out.cell (World.block_lt_of_cell? w _ hw139_0)).trans hw139_0), ((HB.out.cell (World.block_lt_of_cell? w _ hw140_0)).trans hw140_0), ((HB.out.cell (World.block_lt_of_cell? w _ hw142_0)).trans hw142_0), ((HB.out.cell (World.block_lt_of_cell? w _ hw143_0)).trans hw143_0)⟩ (fun hHeld => ?_); refine with_tabW spec_ProofOk.tab10 spec_ProofOk.bits10 (fun HT_ HW_ => ?_)
               generalize wr.drew = w35 at BK133 HB hx139_0 hx140_0 hx142_0 hx143_0 hHeld ⊢
               refine pv (i := 0) (N := some 45) (bA 36 1) rfl rfl (any_of HT_.out (by kernel_rfl)) ?_
               refine pv (i := 2) (N := some 47) (bA 36 5) rfl rfl (any_of HT_.out (by kernel_rfl)) ?_
               refine pv (i := 4) (N := some 49) (bA 36 21) rfl rfl (any_of HT_.out (by kernel_rfl)) ?_
               refine pv (i := 6) (N := some 51) (bA 36 85) rfl rfl (any_of HT_.out (by kernel_rfl)) ?_
               refine pv (i := 9) (N := some 54) (bA 36 597) rfl rfl (any_of HT_.out (by kernel_rfl)) ?_
               refine pv (i := 11) (N := some 56) (bA 36 2645) rfl rfl (any_of HT_.out (by kernel_rfl)) ?_
               refine pv (i := 15) (N := some 60) (bA 36 35413) rfl rfl (any_of HT_.out (by kernel_rfl)) ?_
               refine take_ (i := 1) (N := some 46) (v := ?_) (a' := ?_) (bA 36 35415) rfl rfl (take_ofW HT_.out HW_.out (by kernel_rfl)) (fun _ _ _ h => h) (Or.inl ⟨by rfl, ?_⟩) hHeld ?_ ?_
               rotate_left
               ·rintro w' ⟨s0, s1, s2, s3, s4, s5, s6, s7⟩
                go_simp
                with_reducible rfl
               rotate_left
               ·simp only [sp_]
                rfl
               refine take_ (i := 3) (N := some 48) (v := ?_) (a' := ?_) (bA 36 35423) rfl rfl (take_ofW HT_.out HW_.out (by kernel_rfl)) (fun _ _ _ h => h) (Or.inl ⟨by rfl, ?_⟩) hHeld ?_ ?_
               rotate_left
               ·rintro w' ⟨s0, s1, s2, s3, s4, s5, s6, s7⟩
                go_simp
                with_reducible rfl
               rotate_left
               ·simp only [sp_]
                rfl
               refine take_ (i := 5) (N := some 50) (v := ?_) (a' := ?_) (bA 36 35455) rfl rfl (take_ofW HT_.out HW_.out (by kernel_rfl)) (fun _ _ _ h => h) (Or.inl ⟨by rfl, ?_⟩) hHeld ?_ ?_
               rotate_left
               ·rintro w' ⟨s0, s1, s2, s3, s4, s5, s6, s7⟩
                go_simp
                with_reducible rfl
               rotate_left
               ·simp only [sp_]
                rfl
               refine pv (i := 7) (N := some 52) (bA 36 35583) rfl rfl (any_of HT_.out (by kernel_rfl)) ?_
               refine take_ (i := 8) (N := some 53) (v := ?_) (a' := ?_) (bA 36 35839) rfl rfl (take_ofW HT_.out HW_.out (by kernel_rfl)) (fun _ _ _ h => h) (Or.inl ⟨by rfl, ?_⟩) hHeld ?_ ?_
               rotate_left
               ·rintro w' ⟨s0, s1, s2, s3, s4, s5, s6, s7⟩
                go_simp
                with_reducible rfl
               rotate_left
               ·simp only [sp_]
                rfl
               refine take_ (i := 10) (N := some 55) (v := ?_) (a' := ?_) (bA 36 36863) rfl rfl (take_ofW HT_.out HW_.out (by kernel_rfl)) (fun _ _ _ h => h) (Or.inl ⟨by rfl, ?_⟩) hHeld ?_ ?_
               rotate_left
               ·rintro w' ⟨s0, s1, s2, s3, s4, s5, s6, s7⟩
                go_simp
                with_reducible rfl
               rotate_left
               ·simp only [sp_]
                rfl
               refine pv (i := 12) (N := some 57) (bA 36 40959) rfl rfl (any_of HT_.out (by kernel_rfl)) ?_
               refine take_ (i := 13) (N := some 58) (v := ?_) (a' := ?_) (bA 36 49151) rfl rfl (take_ofW HT_.out HW_.out (by kernel_rfl)) (fun _ _ _ h => h) (Or.inl ⟨by rfl, ?_⟩) hHeld ?_ ?_
               rotate_left
               ·rintro w' ⟨s0, s1, s2, s3, s4, s5, s6, s7⟩
                go_simp
                with_reducible rfl
               rotate_left
               ·simp only [sp_]
                rfl
               refine pv (i := 14) (N := some 59) (bA 36 65535) rfl rfl (any_of HT_.out (by kernel_rfl)) ?_
               refine one_ (i := 16) (N := some 61) (bA 36 131071) rfl rfl (one_of HT_.out (by kernel_rfl)) (by decide) (fun K hK => ?_)
               refine goes_ Tryd.func20 (by kernel_rfl) rfl #[.agg #[.int .i64 a0_0, .int .i64 a0_1, .int .i64 (rd l0_2 x5_2), .int .i64 (rd l0_3 x5_2)], .int .i64 a1] (by rfl) rfl rfl (by (try simp only [List.map_toArray, List.map_cons, List.map_nil]); first | done | rfl | (simp only [List.length_drop, List.length_take]; rfl)) ?_
               with_reducible refine (spec_VoteOk.calls k2 a0_0 a0_1 (rd l0_2 x5_2) (rd l0_3 x5_2) a1 true _ A27.out).mono ?_
               rintro e w36 ⟨rfl, hb⟩
               refine ⟨_, rfl, ?_⟩
               have n0_ := Aside0.mk (blk_below (g := gb133) (o := .cells #[.int .i64 a0_0, .int .i64 a0_1, .slice (some ad139) l0_2.length c0_2, .slice (some ad140) l0_3.length c0_3] 54 (0, 0)) (by (with_reducible repeat (first | refine blk_drewN ?_ _ | refine blk_drew ?_ | refine blk_alloc ?_ _)); exact BK133.out) hb)
               have n1_ := Aside0.mk (below_step (by repeat (first | (with_reducible first | exact HB.out | apply below_alloc | apply pw_below_drewN | apply below_drew1 | refine below_set ?_ GE133.out) | exact HB.out)) hb)
               clear BK133
               clear HB
               have BK133 := n0_
               have HB := n1_
               clear n0_ n1_
               (try clear hb)
               (try clear hb2)
               (try clear hk)
               (try clear hi)
               refine hK.out _ _ ⟨(blk_cell BK133.out 0).trans rfl, (blk_cell BK133.out 1).trans rfl, (blk_cell BK133.out 2).trans rfl, (blk_cell BK133.out 3).trans rfl, ((HB.out.cell (World.block_lt_of_cell? w _ hw139_0)).trans hw139_0), ((HB.out.cell (World.block_lt_of_cell? w _ hw140_0)).trans hw140_0), ((HB.out.cell (World.block_lt_of_cell? w _ hw142_0)).trans hw142_0), ((HB.out.cell (World.block_lt_of_cell? w _ hw143_0)).trans hw143_0)⟩ (fun hHeld => ?_)
               clear hK K
               refine norm_ (a' := ?_) ?_ ?_
               rotate_left
               ·show Act.put _ (some 61) _ = _
                simp only [sp_]
                rfl
               refine pv (i := 17) (N := some 62) (bA 36 262143) rfl rfl (any_of HT_.out (by kernel_rfl)) ?_
               refine pv (i := 18) (N := some 63) (bA 36 524287) rfl rfl (any_of HT_.out (by kernel_rfl)) ?_
               refine pv (i := 19) (N := some 64) (bA 36 1048575) rfl rfl (any_of HT_.out (by kernel_rfl)) ?_
               refine pv (i := 20) (N := some 65) (bA 36 2097151) rfl rfl (any_of HT_.out (by kernel_rfl)) ?_
               refine pv (i := 21) (N := some 66) (bA 36 4194303) rfl rfl (any_of HT_.out (by kernel_rfl)) ?_
               refine pv (i := 22) (N := some 67) (bA 36 8388607) rfl rfl (any_of HT_.out (by kernel_rfl)) ?_
               refine pv (i := 24) (N := some 69) (bA 36 25165823) rfl rfl (any_of HT_.out (by kernel_rfl)) ?_
               refine pv (i := 27) (N := some 72) (bA 36 159383551) rfl rfl (any_of HT_.out (by kernel_rfl)) ?_
               refine pv (i := 29) (N := some 74) (bA 36 696254463) rfl rfl (any_of HT_.out (by kernel_rfl)) ?_
               refine pv (i := 30) (N := some 75) (bA 36 1769996287) rfl rfl (any_of HT_.out (by kernel_rfl)) ?_
               refine take_ (i := 23) (N := some 68) (v := ?_) (a' := ?_) (bA 36 1778384895) rfl rfl (take_ofW HT_.out HW_.out (by kernel_rfl)) (fun _ _ _ h => h) (Or.inl ⟨by rfl, ?_⟩) hHeld ?_ ?_
               rotate_left
               ·rintro w' ⟨s0, s1, s2, s3, s4, s5, s6, s7⟩
                go_simp
                with_reducible rfl
               rotate_left
               ·simp only [sp_]
                rfl
               refine pv (i := 25) (N := some 70) (bA 36 1811939327) rfl rfl (any_of HT_.out (by kernel_rfl)) ?_
               refine take_ (i := 26) (N := some 71) (v := ?_) (a' := ?_) (bA 36 1879048191) rfl rfl (take_ofW HT_.out HW_.out (by kernel_rfl)) (fun _ _ _ h => h) (Or.inl ⟨by rfl, ?_⟩) hHeld ?_ ?_
               rotate_left
               ·rintro w' ⟨s0, s1, s2, s3, s4, s5, s6, s7⟩
                go_simp
                with_reducible rfl
               rotate_left
               ·simp only [sp_]
                rfl
               refine take_ (i := 28) (N := some 73) (v := ?_) (a' := ?_) (bA 36 2147483647) rfl rfl (take_ofW HT_.out HW_.out (by kernel_rfl)) (fun _ _ _ h => h) (Or.inl ⟨by rfl, ?_⟩) hHeld ?_ ?_
               rotate_left
               ·rintro w' ⟨s0, s1, s2, s3, s4, s5, s6, s7⟩
                go_simp
                with_reducible rfl
               rotate_left
               ·simp only [sp_]
                rfl
               refine pv (i := 31) (N := some 76) (bA 36 4294967295) rfl rfl (any_of HT_.out (by kernel_rfl)) ?_
               refine take_ (i := 32) (N := some 77) (v := ?_) (a' := ?_) (bA 36 8589934591) rfl rfl (take_ofW HT_.out HW_.out (by kernel_rfl)) (fun _ _ _ h => h) (Or.inl ⟨by rfl, ?_⟩) hHeld ?_ ?_
               rotate_left
               ·rintro w' ⟨s0, s1, s2, s3, s4, s5, s6, s7⟩
                go_simp
                with_reducible rfl
               rotate_left
               ·simp only [sp_]
                rfl
               refine pv (i := 33) (N := some 78) (bA 36 17179869183) rfl rfl (any_of HT_.out (by kernel_rfl)) ?_
               refine pv (i := 34) (N := some 79) (bA 36 34359738367) rfl rfl (any_of HT_.out (by kernel_rfl)) ?_
               refine pv (i := 35) (N := some 80) (bA 36 68719476735) rfl rfl (any_of HT_.out (by kernel_rfl)) ?_
               refine done_ (done_of HT_.out (by kernel_rfl)) ?_
               go_upto_if 80 with (fail)
               have H := HC33.out
               clear HC33
               by_cases c37 : (rd l0_2 x5_2) ≤ (rd l0_2 (ji30))
               ·rw [if_pos c37] at H
                have c37b0 : decide ((rd l0_2 x5_2) ≤ (rd l0_2 (ji30))) = true := decide_eq_true c37
                clear c37
                (first | rw [c37b0] | (simp only [i64_w, i32_w]; rw [c37b0]) | skip)
                obtain rfl := Option.some.inj H
                go_wp2
                go_ret
                exact ⟨by first | rfl | (simp [errW_none, errW_some] <;> rfl) | (simp only [← hji30]; first | rfl | (simp [errW_none, errW_some] <;> rfl)) | (simp [*, errW_none, errW_some] <;> rfl), by repeat (first | (with_reducible first | exact HB.out | apply below_alloc | apply pw_below_drewN | apply below_drew1 | refine below_set ?_ GE133.out) | exact HB.out)⟩
               ·rw [if_neg c37] at H
                have c37b0 : decide ((rd l0_2 x5_2) ≤ (rd l0_2 (ji30))) = false := decide_eq_false c37
                clear c37
                (first | rw [c37b0] | (simp only [i64_w, i32_w]; rw [c37b0]) | skip)
                have H' := Aside0.mk H
                clear H
                go_wp2
                go_roundg k2
                case measure => have := HJ11.out; have := HK2.out; omega
                case rel => exact ⟨(wrap64 (x5_2 + 1)), (by first | rfl | (simp; done) | (simp [*]; done)), H', ⟨by have := HJ11.out; have := HK2.out; omega⟩, ⟨by (with_reducible repeat (first | refine blk_drewN ?_ _ | refine blk_drew ?_ | refine blk_alloc ?_ _)); exact BK133.out⟩, ⟨by repeat (first | (with_reducible first | exact HB.out | apply below_alloc | apply pw_below_drewN | apply below_drew1 | refine below_set ?_ GE133.out) | exact HB.out)⟩⟩
              ·rw [if_neg c32] at H
               exact absurd H (by simp)
             ·rw [if_neg c31] at H
              exact absurd H (by simp)
            ·rw [if_neg c29] at H
             have c29b0 : decide (0 < x5_2) = false := decide_eq_false c29
             clear c29
             have H' := Aside0.mk H
             clear H
             have hcz38_0 : wr.cell? ⟨gb133, 0, none⟩ = some (.int .i64 a0_0) := (blk_cell BK133.out 0).trans rfl
             have hcz38_1 : wr.cell? ⟨gb133, 1, none⟩ = some (.int .i64 a0_1) := (blk_cell BK133.out 1).trans rfl
             have hcz38_2 : wr.cell? ⟨gb133, 2, none⟩ = some (.slice A0_2 l0_2.length c0_2) := (blk_cell BK133.out 2).trans rfl
             have hcz38_3 : wr.cell? ⟨gb133, 3, none⟩ = some (.slice A0_3 l0_3.length c0_3) := (blk_cell BK133.out 3).trans rfl
             have hfz38_0 := blk_frozen BK133.out 0
             have hfz38_1 := blk_frozen BK133.out 1
             have hfz38_2 := blk_frozen BK133.out 2
             have hfz38_3 := blk_frozen BK133.out 3
             try go_wp2
             have n0_ := Aside0.mk (blk_drew BK133.out)
             have n1_ := Aside0.mk (below_drew1 HB.out)
             clear BK133
             clear HB
             have BK133 := n0_
             have HB := n1_
             clear n0_ n1_
             have p139 : 0 ≤ (x5_2 : Int) := of_decide_eq_true (by first | (with_reducible assumption) | assumption)
             have q139 : x5_2 < (l0_2.length : Int) := of_decide_eq_true (by first | (with_reducible assumption) | assumption)
             obtain ⟨ad139, e139, hx139_0⟩ := Kd.at_int HR0_2.out x5_2 p139 q139
             have hw139_0 := hx139_0
             cases e139
             replace hx139_0 := (HB.out.cell (World.block_lt_of_cell? w _ hx139_0)).trans hx139_0
             replace p139 := eq_true p139
             replace q139 := eq_true q139
             have p140 : 0 ≤ (x5_2 : Int) := of_decide_eq_true (by first | (with_reducible assumption) | assumption)
             have q140 : x5_2 < (l0_3.length : Int) := of_decide_eq_true (by first | (with_reducible assumption) | assumption)
             obtain ⟨ad140, e140, hx140_0⟩ := Kd.at_int HR0_3.out x5_2 p140 q140
             have hw140_0 := hx140_0
             cases e140
             replace hx140_0 := (HB.out.cell (World.block_lt_of_cell? w _ hx140_0)).trans hx140_0
             replace p140 := eq_true p140
             replace q140 := eq_true q140
             refine start_ (n := 36) (S := fun w' => w'.cell? ⟨gb133, 0, none⟩ = some (.int .i64 a0_0) ∧ w'.cell? ⟨gb133, 1, none⟩ = some (.int .i64 a0_1) ∧ w'.cell? ⟨gb133, 2, none⟩ = some (.slice (some ad139) l0_2.length c0_2) ∧ w'.cell? ⟨gb133, 3, none⟩ = some (.slice (some ad140) l0_3.length c0_3) ∧ w'.cell? (ad139.add (x5_2).toNat) = some (.int .i64 (rd l0_2 x5_2)) ∧ w'.cell? (ad140.add (x5_2).toNat) = some (.int .i64 (rd l0_3 x5_2))) (ds := []) (bA 36 0) (by kernel_rfl) rfl rfl ⟨(blk_cell BK133.out 0).trans rfl, (blk_cell BK133.out 1).trans rfl, (blk_cell BK133.out 2).trans rfl, (blk_cell BK133.out 3).trans rfl, ((HB.out.cell (World.block_lt_of_cell? w _ hw139_0)).trans hw139_0), ((HB.out.cell (World.block_lt_of_cell? w _ hw140_0)).trans hw140_0)⟩ (fun hHeld => ?_); refine with_tabW spec_ProofOk.tab10 spec_ProofOk.bits10 (fun HT_ HW_ => ?_)
             generalize wr.drew = w39 at BK133 HB hx139_0 hx140_0 hHeld ⊢
             refine pv (i := 0) (N := some 45) (bA 36 1) rfl rfl (any_of HT_.out (by kernel_rfl)) ?_
             refine pv (i := 2) (N := some 47) (bA 36 5) rfl rfl (any_of HT_.out (by kernel_rfl)) ?_
             refine pv (i := 4) (N := some 49) (bA 36 21) rfl rfl (any_of HT_.out (by kernel_rfl)) ?_
             refine pv (i := 6) (N := some 51) (bA 36 85) rfl rfl (any_of HT_.out (by kernel_rfl)) ?_
             refine pv (i := 9) (N := some 54) (bA 36 597) rfl rfl (any_of HT_.out (by kernel_rfl)) ?_
             refine pv (i := 11) (N := some 56) (bA 36 2645) rfl rfl (any_of HT_.out (by kernel_rfl)) ?_
             refine pv (i := 15) (N := some 60) (bA 36 35413) rfl rfl (any_of HT_.out (by kernel_rfl)) ?_
             refine take_ (i := 1) (N := some 46) (v := ?_) (a' := ?_) (bA 36 35415) rfl rfl (take_ofW HT_.out HW_.out (by kernel_rfl)) (fun _ _ _ h => h) (Or.inl ⟨by rfl, ?_⟩) hHeld ?_ ?_
             rotate_left
             ·rintro w' ⟨s0, s1, s2, s3, s4, s5⟩
              go_simp
              with_reducible rfl
             rotate_left
             ·simp only [sp_]
              rfl
             refine take_ (i := 3) (N := some 48) (v := ?_) (a' := ?_) (bA 36 35423) rfl rfl (take_ofW HT_.out HW_.out (by kernel_rfl)) (fun _ _ _ h => h) (Or.inl ⟨by rfl, ?_⟩) hHeld ?_ ?_
             rotate_left
             ·rintro w' ⟨s0, s1, s2, s3, s4, s5⟩
              go_simp
              with_reducible rfl
             rotate_left
             ·simp only [sp_]
              rfl
             refine take_ (i := 5) (N := some 50) (v := ?_) (a' := ?_) (bA 36 35455) rfl rfl (take_ofW HT_.out HW_.out (by kernel_rfl)) (fun _ _ _ h => h) (Or.inl ⟨by rfl, ?_⟩) hHeld ?_ ?_
             rotate_left
             ·rintro w' ⟨s0, s1, s2, s3, s4, s5⟩
              go_simp
              with_reducible rfl
             rotate_left
             ·simp only [sp_]
              rfl
             refine pv (i := 7) (N := some 52) (bA 36 35583) rfl rfl (any_of HT_.out (by kernel_rfl)) ?_
             refine take_ (i := 8) (N := some 53) (v := ?_) (a' := ?_) (bA 36 35839) rfl rfl (take_ofW HT_.out HW_.out (by kernel_rfl)) (fun _ _ _ h => h) (Or.inl ⟨by rfl, ?_⟩) hHeld ?_ ?_
             rotate_left
             ·rintro w' ⟨s0, s1, s2, s3, s4, s5⟩
              go_simp
              with_reducible rfl
             rotate_left
             ·simp only [sp_]
              rfl
             refine take_ (i := 10) (N := some 55) (v := ?_) (a' := ?_) (bA 36 36863) rfl rfl (take_ofW HT_.out HW_.out (by kernel_rfl)) (fun _ _ _ h => h) (Or.inl ⟨by rfl, ?_⟩) hHeld ?_ ?_
             rotate_left
             ·rintro w' ⟨s0, s1, s2, s3, s4, s5⟩
              go_simp
              with_reducible rfl
             rotate_left
             ·simp only [sp_]
              rfl
             refine pv (i := 12) (N := some 57) (bA 36 40959) rfl rfl (any_of HT_.out (by kernel_rfl)) ?_
             refine take_ (i := 13) (N := some 58) (v := ?_) (a' := ?_) (bA 36 49151) rfl rfl (take_ofW HT_.out HW_.out (by kernel_rfl)) (fun _ _ _ h => h) (Or.inl ⟨by rfl, ?_⟩) hHeld ?_ ?_
             rotate_left
             ·rintro w' ⟨s0, s1, s2, s3, s4, s5⟩
              go_simp
              with_reducible rfl
             rotate_left
             ·simp only [sp_]
              rfl
             refine pv (i := 14) (N := some 59) (bA 36 65535) rfl rfl (any_of HT_.out (by kernel_rfl)) ?_
             refine one_ (i := 16) (N := some 61) (bA 36 131071) rfl rfl (one_of HT_.out (by kernel_rfl)) (by decide) (fun K hK => ?_)
             refine goes_ Tryd.func20 (by kernel_rfl) rfl #[.agg #[.int .i64 a0_0, .int .i64 a0_1, .int .i64 (rd l0_2 x5_2), .int .i64 (rd l0_3 x5_2)], .int .i64 a1] (by rfl) rfl rfl (by (try simp only [List.map_toArray, List.map_cons, List.map_nil]); first | done | rfl | (simp only [List.length_drop, List.length_take]; rfl)) ?_
             with_reducible refine (spec_VoteOk.calls k2 a0_0 a0_1 (rd l0_2 x5_2) (rd l0_3 x5_2) a1 true _ A27.out).mono ?_
             rintro e w40 ⟨rfl, hb⟩
             refine ⟨_, rfl, ?_⟩
             have n0_ := Aside0.mk (blk_below (g := gb133) (o := .cells #[.int .i64 a0_0, .int .i64 a0_1, .slice (some ad139) l0_2.length c0_2, .slice (some ad140) l0_3.length c0_3] 54 (0, 0)) (by (with_reducible repeat (first | refine blk_drewN ?_ _ | refine blk_drew ?_ | refine blk_alloc ?_ _)); exact BK133.out) hb)
             have n1_ := Aside0.mk (below_step (by repeat (first | (with_reducible first | exact HB.out | apply below_alloc | apply pw_below_drewN | apply below_drew1 | refine below_set ?_ GE133.out) | exact HB.out)) hb)
             clear BK133
             clear HB
             have BK133 := n0_
             have HB := n1_
             clear n0_ n1_
             (try clear hb)
             (try clear hb2)
             (try clear hk)
             (try clear hi)
             refine hK.out _ _ ⟨(blk_cell BK133.out 0).trans rfl, (blk_cell BK133.out 1).trans rfl, (blk_cell BK133.out 2).trans rfl, (blk_cell BK133.out 3).trans rfl, ((HB.out.cell (World.block_lt_of_cell? w _ hw139_0)).trans hw139_0), ((HB.out.cell (World.block_lt_of_cell? w _ hw140_0)).trans hw140_0)⟩ (fun hHeld => ?_)
             clear hK K
             refine norm_ (a' := ?_) ?_ ?_
             rotate_left
             ·show Act.put _ (some 61) _ = _
              simp only [sp_]
              rfl
             refine pv (i := 17) (N := some 62) (bA 36 262143) rfl rfl (any_of HT_.out (by kernel_rfl)) ?_
             refine pv (i := 18) (N := some 63) (bA 36 524287) rfl rfl (any_of HT_.out (by kernel_rfl)) ?_
             refine pv (i := 19) (N := some 64) (bA 36 1048575) rfl rfl (any_of HT_.out (by kernel_rfl)) ?_
             refine pv (i := 20) (N := some 65) (bA 36 2097151) rfl rfl (any_of HT_.out (by kernel_rfl)) ?_
             refine pv (i := 21) (N := some 66) (bA 36 4194303) rfl rfl (any_of HT_.out (by kernel_rfl)) ?_
             refine pu (i := 22) (N := some 67) (bA 36 8388607) rfl rfl (any_of HT_.out (by kernel_rfl)) ?_
             refine pu (i := 23) (N := some 68) (bA 36 16777215) rfl rfl (any_of HT_.out (by kernel_rfl)) ?_
             refine pu (i := 24) (N := some 69) (bA 36 33554431) rfl rfl (any_of HT_.out (by kernel_rfl)) ?_
             refine pu (i := 25) (N := some 70) (bA 36 67108863) rfl rfl (any_of HT_.out (by kernel_rfl)) ?_
             refine pu (i := 26) (N := some 71) (bA 36 134217727) rfl rfl (any_of HT_.out (by kernel_rfl)) ?_
             refine pu (i := 27) (N := some 72) (bA 36 268435455) rfl rfl (any_of HT_.out (by kernel_rfl)) ?_
             refine pu (i := 28) (N := some 73) (bA 36 536870911) rfl rfl (any_of HT_.out (by kernel_rfl)) ?_
             refine pu (i := 29) (N := some 74) (bA 36 1073741823) rfl rfl (any_of HT_.out (by kernel_rfl)) ?_
             refine pu (i := 30) (N := some 75) (bA 36 2147483647) rfl rfl (any_of HT_.out (by kernel_rfl)) ?_
             refine pu (i := 31) (N := some 76) (bA 36 4294967295) rfl rfl (any_of HT_.out (by kernel_rfl)) ?_
             refine pu (i := 32) (N := some 77) (bA 36 8589934591) rfl rfl (any_of HT_.out (by kernel_rfl)) ?_
             refine pu (i := 33) (N := some 78) (bA 36 17179869183) rfl rfl (any_of HT_.out (by kernel_rfl)) ?_
             refine pv (i := 34) (N := some 79) (bA 36 34359738367) rfl rfl (any_of HT_.out (by kernel_rfl)) ?_
             refine pv (i := 35) (N := some 80) (bA 36 68719476735) rfl rfl (any_of HT_.out (by kernel_rfl)) ?_
             refine done_ (done_of HT_.out (by kernel_rfl)) ?_
             try go_wp2
             go_roundg k2
             case measure => have := HJ11.out; have := HK2.out; omega
             case rel => exact ⟨(wrap64 (x5_2 + 1)), (by first | rfl | (simp; done) | (simp [*]; done)), H', ⟨by have := HJ11.out; have := HK2.out; omega⟩, ⟨by (with_reducible repeat (first | refine blk_drewN ?_ _ | refine blk_drew ?_ | refine blk_alloc ?_ _)); exact BK133.out⟩, ⟨by repeat (first | (with_reducible first | exact HB.out | apply below_alloc | apply pw_below_drewN | apply below_drew1 | refine below_set ?_ GE133.out) | exact HB.out)⟩⟩
           ·replace c28 := Bool.eq_false_iff.mpr c28
            subst c28
            have H1 : (some false) = some r := by rw [if_neg (show ¬ (false = true) by decide)] at H; exact H
            clear H
            have H := H1
            clear H1
            obtain rfl := Option.some.inj H
            have hcz41_0 : wr.cell? ⟨gb133, 0, none⟩ = some (.int .i64 a0_0) := (blk_cell BK133.out 0).trans rfl
            have hcz41_1 : wr.cell? ⟨gb133, 1, none⟩ = some (.int .i64 a0_1) := (blk_cell BK133.out 1).trans rfl
            have hcz41_2 : wr.cell? ⟨gb133, 2, none⟩ = some (.slice A0_2 l0_2.length c0_2) := (blk_cell BK133.out 2).trans rfl
            have hcz41_3 : wr.cell? ⟨gb133, 3, none⟩ = some (.slice A0_3 l0_3.length c0_3) := (blk_cell BK133.out 3).trans rfl
            have hfz41_0 := blk_frozen BK133.out 0
            have hfz41_1 := blk_frozen BK133.out 1
            have hfz41_2 := blk_frozen BK133.out 2
            have hfz41_3 := blk_frozen BK133.out 3
            try go_wp2
            have n0_ := Aside0.mk (blk_drew BK133.out)
            have n1_ := Aside0.mk (below_drew1 HB.out)
            clear BK133
            clear HB
            have BK133 := n0_
            have HB := n1_
            clear n0_ n1_
            have p139 : 0 ≤ (x5_2 : Int) := of_decide_eq_true (by first | (with_reducible assumption) | assumption)
            have q139 : x5_2 < (l0_2.length : Int) := of_decide_eq_true (by first | (with_reducible assumption) | assumption)
            obtain ⟨ad139, e139, hx139_0⟩ := Kd.at_int HR0_2.out x5_2 p139 q139
            have hw139_0 := hx139_0
            cases e139
            replace hx139_0 := (HB.out.cell (World.block_lt_of_cell? w _ hx139_0)).trans hx139_0
            replace p139 := eq_true p139
            replace q139 := eq_true q139
            have p140 : 0 ≤ (x5_2 : Int) := of_decide_eq_true (by first | (with_reducible assumption) | assumption)
            have q140 : x5_2 < (l0_3.length : Int) := of_decide_eq_true (by first | (with_reducible assumption) | assumption)
            obtain ⟨ad140, e140, hx140_0⟩ := Kd.at_int HR0_3.out x5_2 p140 q140
            have hw140_0 := hx140_0
            cases e140
            replace hx140_0 := (HB.out.cell (World.block_lt_of_cell? w _ hx140_0)).trans hx140_0
            replace p140 := eq_true p140
            replace q140 := eq_true q140
            refine start_ (n := 36) (S := fun w' => w'.cell? ⟨gb133, 0, none⟩ = some (.int .i64 a0_0) ∧ w'.cell? ⟨gb133, 1, none⟩ = some (.int .i64 a0_1) ∧ w'.cell? ⟨gb133, 2, none⟩ = some (.slice (some ad139) l0_2.length c0_2) ∧ w'.cell? ⟨gb133, 3, none⟩ = some (.slice (some ad140) l0_3.length c0_3) ∧ w'.cell? (ad139.add (x5_2).toNat) = some (.int .i64 (rd l0_2 x5_2)) ∧ w'.cell? (ad140.add (x5_2).toNat) = some (.int .i64 (rd l0_3 x5_2))) (ds := []) (bA 36 0) (by kernel_rfl) rfl rfl ⟨(blk_cell BK133.out 0).trans rfl, (blk_cell BK133.out 1).trans rfl, (blk_cell BK133.out 2).trans rfl, (blk_cell BK133.out 3).trans rfl, ((HB.out.cell (World.block_lt_of_cell? w _ hw139_0)).trans hw139_0), ((HB.out.cell (World.block_lt_of_cell? w _ hw140_0)).trans hw140_0)⟩ (fun hHeld => ?_); refine with_tabW spec_ProofOk.tab10 spec_ProofOk.bits10 (fun HT_ HW_ => ?_)
            generalize wr.drew = w42 at BK133 HB hx139_0 hx140_0 hHeld ⊢
            refine pv (i := 0) (N := some 45) (bA 36 1) rfl rfl (any_of HT_.out (by kernel_rfl)) ?_
            refine pv (i := 2) (N := some 47) (bA 36 5) rfl rfl (any_of HT_.out (by kernel_rfl)) ?_
            refine pv (i := 4) (N := some 49) (bA 36 21) rfl rfl (any_of HT_.out (by kernel_rfl)) ?_
            refine pv (i := 6) (N := some 51) (bA 36 85) rfl rfl (any_of HT_.out (by kernel_rfl)) ?_
            refine pv (i := 9) (N := some 54) (bA 36 597) rfl rfl (any_of HT_.out (by kernel_rfl)) ?_
            refine pv (i := 11) (N := some 56) (bA 36 2645) rfl rfl (any_of HT_.out (by kernel_rfl)) ?_
            refine pv (i := 15) (N := some 60) (bA 36 35413) rfl rfl (any_of HT_.out (by kernel_rfl)) ?_
            refine take_ (i := 1) (N := some 46) (v := ?_) (a' := ?_) (bA 36 35415) rfl rfl (take_ofW HT_.out HW_.out (by kernel_rfl)) (fun _ _ _ h => h) (Or.inl ⟨by rfl, ?_⟩) hHeld ?_ ?_
            rotate_left
            ·rintro w' ⟨s0, s1, s2, s3, s4, s5⟩
             go_simp
             with_reducible rfl
            rotate_left
            ·simp only [sp_]
             rfl
            refine take_ (i := 3) (N := some 48) (v := ?_) (a' := ?_) (bA 36 35423) rfl rfl (take_ofW HT_.out HW_.out (by kernel_rfl)) (fun _ _ _ h => h) (Or.inl ⟨by rfl, ?_⟩) hHeld ?_ ?_
            rotate_left
            ·rintro w' ⟨s0, s1, s2, s3, s4, s5⟩
             go_simp
             with_reducible rfl
            rotate_left
            ·simp only [sp_]
             rfl
            refine take_ (i := 5) (N := some 50) (v := ?_) (a' := ?_) (bA 36 35455) rfl rfl (take_ofW HT_.out HW_.out (by kernel_rfl)) (fun _ _ _ h => h) (Or.inl ⟨by rfl, ?_⟩) hHeld ?_ ?_
            rotate_left
            ·rintro w' ⟨s0, s1, s2, s3, s4, s5⟩
             go_simp
             with_reducible rfl
            rotate_left
            ·simp only [sp_]
             rfl
            refine pv (i := 7) (N := some 52) (bA 36 35583) rfl rfl (any_of HT_.out (by kernel_rfl)) ?_
            refine take_ (i := 8) (N := some 53) (v := ?_) (a' := ?_) (bA 36 35839) rfl rfl (take_ofW HT_.out HW_.out (by kernel_rfl)) (fun _ _ _ h => h) (Or.inl ⟨by rfl, ?_⟩) hHeld ?_ ?_
            rotate_left
            ·rintro w' ⟨s0, s1, s2, s3, s4, s5⟩
             go_simp
             with_reducible rfl
            rotate_left
            ·simp only [sp_]
             rfl
            refine take_ (i := 10) (N := some 55) (v := ?_) (a' := ?_) (bA 36 36863) rfl rfl (take_ofW HT_.out HW_.out (by kernel_rfl)) (fun _ _ _ h => h) (Or.inl ⟨by rfl, ?_⟩) hHeld ?_ ?_
            rotate_left
            ·rintro w' ⟨s0, s1, s2, s3, s4, s5⟩
             go_simp
             with_reducible rfl
            rotate_left
            ·simp only [sp_]
             rfl
            refine pv (i := 12) (N := some 57) (bA 36 40959) rfl rfl (any_of HT_.out (by kernel_rfl)) ?_
            refine take_ (i := 13) (N := some 58) (v := ?_) (a' := ?_) (bA 36 49151) rfl rfl (take_ofW HT_.out HW_.out (by kernel_rfl)) (fun _ _ _ h => h) (Or.inl ⟨by rfl, ?_⟩) hHeld ?_ ?_
            rotate_left
            ·rintro w' ⟨s0, s1, s2, s3, s4, s5⟩
             go_simp
             with_reducible rfl
            rotate_left
            ·simp only [sp_]
             rfl
            refine pv (i := 14) (N := some 59) (bA 36 65535) rfl rfl (any_of HT_.out (by kernel_rfl)) ?_
            refine one_ (i := 16) (N := some 61) (bA 36 131071) rfl rfl (one_of HT_.out (by kernel_rfl)) (by decide) (fun K hK => ?_)
            refine goes_ Tryd.func20 (by kernel_rfl) rfl #[.agg #[.int .i64 a0_0, .int .i64 a0_1, .int .i64 (rd l0_2 x5_2), .int .i64 (rd l0_3 x5_2)], .int .i64 a1] (by rfl) rfl rfl (by (try simp only [List.map_toArray, List.map_cons, List.map_nil]); first | done | rfl | (simp only [List.length_drop, List.length_take]; rfl)) ?_
            with_reducible refine (spec_VoteOk.calls k2 a0_0 a0_1 (rd l0_2 x5_2) (rd l0_3 x5_2) a1 false _ A27.out).mono ?_
            rintro e w43 ⟨rfl, hb⟩
            refine ⟨_, rfl, ?_⟩
            have n0_ := Aside0.mk (blk_below (g := gb133) (o := .cells #[.int .i64 a0_0, .int .i64 a0_1, .slice (some ad139) l0_2.length c0_2, .slice (some ad140) l0_3.length c0_3] 54 (0, 0)) (by (with_reducible repeat (first | refine blk_drewN ?_ _ | refine blk_drew ?_ | refine blk_alloc ?_ _)); exact BK133.out) hb)
            have n1_ := Aside0.mk (below_step (by repeat (first | (with_reducible first | exact HB.out | apply below_alloc | apply pw_below_drewN | apply below_drew1 | refine below_set ?_ GE133.out) | exact HB.out)) hb)
            clear BK133
            clear HB
            have BK133 := n0_
            have HB := n1_
            clear n0_ n1_
            (try clear hb)
            (try clear hb2)
            (try clear hk)
            (try clear hi)
            refine hK.out _ _ ⟨(blk_cell BK133.out 0).trans rfl, (blk_cell BK133.out 1).trans rfl, (blk_cell BK133.out 2).trans rfl, (blk_cell BK133.out 3).trans rfl, ((HB.out.cell (World.block_lt_of_cell? w _ hw139_0)).trans hw139_0), ((HB.out.cell (World.block_lt_of_cell? w _ hw140_0)).trans hw140_0)⟩ (fun hHeld => ?_)
            clear hK K
            refine norm_ (a' := ?_) ?_ ?_
            rotate_left
            ·show Act.put _ (some 61) _ = _
             simp only [sp_]
             rfl
            refine pv (i := 17) (N := some 62) (bA 36 262143) rfl rfl (any_of HT_.out (by kernel_rfl)) ?_
            refine pv (i := 18) (N := some 63) (bA 36 524287) rfl rfl (any_of HT_.out (by kernel_rfl)) ?_
            refine pu (i := 19) (N := some 64) (bA 36 1048575) rfl rfl (any_of HT_.out (by kernel_rfl)) ?_
            refine pu (i := 20) (N := some 65) (bA 36 2097151) rfl rfl (any_of HT_.out (by kernel_rfl)) ?_
            refine pu (i := 21) (N := some 66) (bA 36 4194303) rfl rfl (any_of HT_.out (by kernel_rfl)) ?_
            refine pu (i := 22) (N := some 67) (bA 36 8388607) rfl rfl (any_of HT_.out (by kernel_rfl)) ?_
            refine pu (i := 23) (N := some 68) (bA 36 16777215) rfl rfl (any_of HT_.out (by kernel_rfl)) ?_
            refine pu (i := 24) (N := some 69) (bA 36 33554431) rfl rfl (any_of HT_.out (by kernel_rfl)) ?_
            refine pu (i := 25) (N := some 70) (bA 36 67108863) rfl rfl (any_of HT_.out (by kernel_rfl)) ?_
            refine pu (i := 26) (N := some 71) (bA 36 134217727) rfl rfl (any_of HT_.out (by kernel_rfl)) ?_
            refine pu (i := 27) (N := some 72) (bA 36 268435455) rfl rfl (any_of HT_.out (by kernel_rfl)) ?_
            refine pu (i := 28) (N := some 73) (bA 36 536870911) rfl rfl (any_of HT_.out (by kernel_rfl)) ?_
            refine pu (i := 29) (N := some 74) (bA 36 1073741823) rfl rfl (any_of HT_.out (by kernel_rfl)) ?_
            refine pu (i := 30) (N := some 75) (bA 36 2147483647) rfl rfl (any_of HT_.out (by kernel_rfl)) ?_
            refine pu (i := 31) (N := some 76) (bA 36 4294967295) rfl rfl (any_of HT_.out (by kernel_rfl)) ?_
            refine pu (i := 32) (N := some 77) (bA 36 8589934591) rfl rfl (any_of HT_.out (by kernel_rfl)) ?_
            refine pu (i := 33) (N := some 78) (bA 36 17179869183) rfl rfl (any_of HT_.out (by kernel_rfl)) ?_
            refine pu (i := 34) (N := some 79) (bA 36 34359738367) rfl rfl (any_of HT_.out (by kernel_rfl)) ?_
            refine pv (i := 35) (N := some 80) (bA 36 68719476735) rfl rfl (any_of HT_.out (by kernel_rfl)) ?_
            refine done_ (done_of HT_.out (by kernel_rfl)) ?_
            try go_wp2
            go_ret
            exact ⟨by first | rfl | (simp [errW_none, errW_some] <;> rfl) | (simp [*, errW_none, errW_some] <;> rfl), by repeat (first | (with_reducible first | exact HB.out | apply below_alloc | apply pw_below_drewN | apply below_drew1 | refine below_set ?_ GE133.out) | exact HB.out)⟩
          ·rw [if_neg c26] at H
           exact absurd H (by simp)
         ·rw [if_neg c25] at H
          exact absurd H (by simp)
        ·rw [if_neg c24] at H
         have c24b0 : decide (x5_2 < (l0_2.length : Int)) = false := decide_eq_false c24
         clear c24
         obtain rfl := Option.some.inj H
         have hcz44_0 : wr.cell? ⟨gb133, 0, none⟩ = some (.int .i64 a0_0) := (blk_cell BK133.out 0).trans rfl
         have hcz44_1 : wr.cell? ⟨gb133, 1, none⟩ = some (.int .i64 a0_1) := (blk_cell BK133.out 1).trans rfl
         have hcz44_2 : wr.cell? ⟨gb133, 2, none⟩ = some (.slice A0_2 l0_2.length c0_2) := (blk_cell BK133.out 2).trans rfl
         have hcz44_3 : wr.cell? ⟨gb133, 3, none⟩ = some (.slice A0_3 l0_3.length c0_3) := (blk_cell BK133.out 3).trans rfl
         have hfz44_0 := blk_frozen BK133.out 0
         have hfz44_1 := blk_frozen BK133.out 1
         have hfz44_2 := blk_frozen BK133.out 2
         have hfz44_3 := blk_frozen BK133.out 3
         go_wp2
         go_ret
         exact ⟨by first | rfl | (simp [errW_none, errW_some] <;> rfl) | (simp [*, errW_none, errW_some] <;> rfl), by repeat (first | (with_reducible first | exact HB.out | apply below_alloc | apply pw_below_drewN | apply below_drew1 | refine below_set ?_ GE133.out) | exact HB.out)⟩
 ·replace c6 := Bool.eq_false_iff.mpr c6
  subst c6
  have H1 : (some false) = some r := by rw [if_neg (show ¬ (false = true) by decide)] at H; exact H
  clear H
  have H := H1
  clear H1
  obtain rfl := Option.some.inj H
  go_wp2
  go_ret
  exact ⟨by first | rfl | (simp [errW_none, errW_some] <;> rfl) | (simp [*, errW_none, errW_some] <;> rfl), by repeat (first | (with_reducible first | exact HB.out | apply below_alloc | apply pw_below_drewN | apply below_drew1 | refine below_set ?_ GE133.out) | exact HB.out)⟩

end Go.Proofs.YtcegobkangpilaaDoor.PFnExactBlockOk
