-- Written by a program of this session (wip/tools/pp.py over the kit's print).
import Derived.Test.YtokfpmkhfindmaaDoorPFnProofsx0
import Derived.Test.YtokfpmkhfindmaaDoorPFnProofsx2
import Derived.Test.YtokfpmkhfindmaaDoorPFnProofsx3
import Derived.Test.YtokfpmkhfindmaaDoorPFnProofsx4
import Derived.Test.YtokfpmkhfindmaaDoorPFnProofsx14
namespace Go.Proofs.YtokfpmkhfindmaaDoor.PFnProofs
open Go.RowKit Go.Proofs.YtokfpmkhfindmaaDoorW.PrintWords Go.Proofs.YtokfpmkhfindmaaDoorW.PrintLast Go.Proofs.YtokfpmkhfindmaaDoorW.PrintMore
attribute [local go_sem] max2_int min2_int max_two min_two max_three min_three max_four min_four
attribute [local go_sem high] str_gtr str_leq str_geq
set_option linter.unusedVariables false
set_option linter.unusedSimpArgs false

/-! ### spec_ProofOk: function 24 -/
mutual
def spec_ProofOk.j0 : Nat → Int → Bool → Int → Int → List Int → List Int → Option (Bool)
 | 0, _, _, _, _, _, _ => none
 | k + 1, x1, x37, x436000, x436001, x436002, x436003 => if x37 = true then (some false) else (spec_ProofOk.l0 k x1 0 x436000 x436001 x436002 x436003)
def spec_ProofOk.l0 : Nat → Int → Int → Int → Int → List Int → List Int → Option (Bool)
 | 0, _, _, _, _, _, _ => none
 | k + 1, x1, x5, x436000, x436001, x436002, x436003 => if x5 < (x436002.length : Int) then (if 0 ≤ x5 then (if x5 < (x436003.length : Int) then ((spec_VoteOk.f k x436000 x436001 (rd x436002 x5) (rd x436003 x5) x1).bind fun t443 => (if t443 = true then (if x5 > 0 then (if 0 ≤ (wrap64 (x5 - 1)) then (if (wrap64 (x5 - 1)) < (x436002.length : Int) then (if (rd x436002 x5) ≤ (rd x436002 (wrap64 (x5 - 1))) then (some false) else (spec_ProofOk.l0 k x1 (wrap64 (x5 + 1)) x436000 x436001 x436002 x436003)) else (none)) else (none)) else (spec_ProofOk.l0 k x1 (wrap64 (x5 + 1)) x436000 x436001 x436002 x436003)) else (some false))) else (none)) else (none)) else (some true)
end
def spec_ProofOk.f (k : Nat) (a0_0 : Int) (a0_1 : Int) (l0_2 : List Int) (l0_3 : List Int) (a1 : Int) : Option (Bool) := (spec_l15Servers.f a1).bind fun t436 => (if t436 = true then ((spec_l15First.f a0_0 a0_1 l0_2 l0_3).bind fun t437 => (if t437 = true then (some true) else ((spec_l1In.f a0_0 1 100000).bind fun t438 => (if t438 = true then ((spec_l15Name.f a0_1).bind fun t439 => (if t439 = true then ((spec_Quorum.f a1).bind fun t440 => (if (l0_2.length : Int) < t440 then (spec_ProofOk.j0 k a1 true a0_0 a0_1 l0_2 l0_3) else (spec_ProofOk.j0 k a1 ((l0_2.length : Int) != (l0_3.length : Int)) a0_0 a0_1 l0_2 l0_3))) else (spec_ProofOk.j0 k a1 true a0_0 a0_1 l0_2 l0_3))) else (spec_ProofOk.j0 k a1 true a0_0 a0_1 l0_2 l0_3))))) else (some false))
theorem spec_ProofOk.mono_l : ∀ k, (∀ y0 y1 y2 y3 y4 y5, LeO (spec_ProofOk.j0 k y0 y1 y2 y3 y4 y5) (spec_ProofOk.j0 (k + 1) y0 y1 y2 y3 y4 y5)) ∧ (∀ y0 y1 y2 y3 y4 y5, LeO (spec_ProofOk.l0 k y0 y1 y2 y3 y4 y5) (spec_ProofOk.l0 (k + 1) y0 y1 y2 y3 y4 y5))
 | 0 => ⟨fun _ _ _ _ _ _ r h => by simp [spec_ProofOk.j0] at h, fun _ _ _ _ _ _ r h => by simp [spec_ProofOk.l0] at h⟩
 | k + 1 => by
  obtain ⟨ih0, ih1⟩ := spec_ProofOk.mono_l k
  refine ⟨?_, ?_⟩
  ·intro y0 y1 y2 y3 y4 y5
   unfold spec_ProofOk.j0
   repeat' first
   | (with_reducible exact ih0 _ _ _ _ _ _)
   | (with_reducible exact ih1 _ _ _ _ _ _)
   | (with_reducible exact spec_VoteOk.mono _ _ _ _ _ _)
   | (with_reducible exact LeO.refl _)
   | (with_reducible exact LeO.none _)
   | (with_reducible refine LeO.ite ?_ ?_)
   | (with_reducible refine LeO.bind ?_ (fun _ => ?_))
   | exact ih0 _ _ _ _ _ _
   | exact ih1 _ _ _ _ _ _
   | exact spec_VoteOk.mono _ _ _ _ _ _
   | exact LeO.none _
   | refine LeO.ite ?_ ?_
   | refine LeO.bind ?_ (fun _ => ?_)
  ·intro y0 y1 y2 y3 y4 y5
   unfold spec_ProofOk.l0
   repeat' first
   | (with_reducible exact ih0 _ _ _ _ _ _)
   | (with_reducible exact ih1 _ _ _ _ _ _)
   | (with_reducible exact spec_VoteOk.mono _ _ _ _ _ _)
   | (with_reducible exact LeO.refl _)
   | (with_reducible exact LeO.none _)
   | (with_reducible refine LeO.ite ?_ ?_)
   | (with_reducible refine LeO.bind ?_ (fun _ => ?_))
   | exact ih0 _ _ _ _ _ _
   | exact ih1 _ _ _ _ _ _
   | exact spec_VoteOk.mono _ _ _ _ _ _
   | exact LeO.none _
   | refine LeO.ite ?_ ?_
   | refine LeO.bind ?_ (fun _ => ?_)
theorem spec_ProofOk.mono : ∀ a0 a1 a2 a3 a4 k, LeO (spec_ProofOk.f k a0 a1 a2 a3 a4) (spec_ProofOk.f (k + 1) a0 a1 a2 a3 a4) := by
 intro a0 a1 a2 a3 a4 k
 obtain ⟨ih0, ih1⟩ := spec_ProofOk.mono_l k
 unfold spec_ProofOk.f
 repeat' first
   | (with_reducible exact ih0 _ _ _ _ _ _)
   | (with_reducible exact ih1 _ _ _ _ _ _)
   | (with_reducible exact spec_VoteOk.mono _ _ _ _ _ _)
   | (with_reducible exact LeO.refl _)
   | (with_reducible exact LeO.none _)
   | (with_reducible refine LeO.ite ?_ ?_)
   | (with_reducible refine LeO.bind ?_ (fun _ => ?_))
   | exact ih0 _ _ _ _ _ _
   | exact ih1 _ _ _ _ _ _
   | exact spec_VoteOk.mono _ _ _ _ _ _
   | exact LeO.none _
   | refine LeO.ite ?_ ?_
   | refine LeO.bind ?_ (fun _ => ?_)
def spec_ProofOk.T5 : Bool × List (List Nat × List Nat) := (true, [([], []), ([0], [0]), ([1], [1]), ([2], [2]), ([3, 2], [3]), ([4], [4]), ([5, 4], [4, 5]), ([6, 4, 4], [4, 6]), ([7, 4], [4, 7]), ([4, 8], [4, 8]), ([9, 7], [9]), ([10], [10]), ([11, 10], [10, 11]), ([12, 10], [10, 12]), ([10], [10]), ([14, 10, 10], [10, 14]), ([13, 15, 10], [10, 13, 15]), ([10, 16], [10, 16]), ([17, 15], [17]), ([18], [18]), ([19, 18], [18, 19]), ([20, 18], [18, 20]), ([18], [18]), ([22, 18], [18, 22]), ([23, 18], [18, 23]), ([21, 24, 18], [18, 21, 24]), ([18, 25], [18, 25])])
def spec_ProofOk.B5 : List Nat := [0, 1, 3, 7, 15, 31, 63, 127, 255, 511, 1023, 2047, 4095, 8191, 2047, 18431, 65535, 131071, 262143, 524287, 1048575, 2097151, 524287, 4718591, 13107199, 33554431, 67108863]
theorem spec_ProofOk.tab5 : rtab .any (opsOf Tryd.f24 5) = spec_ProofOk.T5 := by kernel_rfl
theorem spec_ProofOk.bits5 : waitsOk spec_ProofOk.T5.2 spec_ProofOk.B5 = true := by kernel_rfl
def spec_ProofOk.T10 : Bool × List (List Nat × List Nat) := (true, [([], []), ([0], [0]), ([], []), ([2], [2]), ([], []), ([4], [4]), ([], []), ([5, 6], [5, 6]), ([7], [7]), ([], []), ([9], [9]), ([], []), ([10, 11], [10, 11]), ([12], [12]), ([1, 3, 8, 13], [1, 3, 8, 13]), ([], []), ([14, 15], [14, 15]), ([16], [16]), ([17, 16], [17]), ([18], [18]), ([19, 18], [18, 19]), ([20, 18, 18], [18, 20]), ([21], [21]), ([22, 21], [21, 22]), ([21], [21]), ([23, 24, 21], [21, 23, 24]), ([25, 21], [21, 25]), ([21], [21]), ([27, 21], [21, 27]), ([21], [21]), ([29, 21], [21, 29]), ([28, 30, 21], [21, 28, 30]), ([31, 21], [21, 31]), ([26, 32, 21], [21, 26, 32]), ([21, 33, 18], [18, 21, 33]), ([18, 34], [18, 34])])
def spec_ProofOk.B10 : List Nat := [0, 1, 0, 4, 0, 16, 0, 112, 240, 0, 512, 0, 3584, 7680, 16383, 0, 65535, 131071, 262143, 524287, 1048575, 2097151, 4194303, 8388607, 4194303, 33554431, 67108863, 4194303, 138412031, 4194303, 541065215, 2017460223, 4164943871, 8589934591, 17179869183, 34359738367]
theorem spec_ProofOk.tab10 : rtab .any (opsOf Tryd.f24 10) = spec_ProofOk.T10 := by kernel_rfl
theorem spec_ProofOk.bits10 : waitsOk spec_ProofOk.T10.2 spec_ProofOk.B10 = true := by kernel_rfl
set_option maxHeartbeats 8000000 in
set_option maxRecDepth 100000 in
theorem spec_ProofOk.calls (k : Nat) (a0_0 : Int) (a0_1 : Int) (A0_2 : Option Addr) (c0_2 : Nat) (l0_2 : List Int) (A0_3 : Option Addr) (c0_3 : Nat) (l0_3 : List Int) (a1 : Int) (r : Bool) (w : World) (hr0_2 : Kd.C (Kd.int .i64) w A0_2 l0_2.length l0_2) (hc0_2 : l0_2.length ≤ c0_2) (hr0_3 : Kd.C (Kd.int .i64) w A0_3 l0_3.length l0_3) (hc0_3 : l0_3.length ≤ c0_3) (h : spec_ProofOk.f k a0_0 a0_1 l0_2 l0_3 a1 = some r) :
  Calls Tryd.prog 24 #[.agg #[.int .i64 a0_0, .int .i64 a0_1, .slice A0_2 l0_2.length c0_2, .slice A0_3 l0_3.length c0_3], .int .i64 a1] w fun e w' => e = .returned (.bool r) ∧ Below w.heap.size w w' := by
 have hu26 := Tryd.underlying26
 have hu43 := Tryd.underlying43
 have HR0_2 := Aside0.mk hr0_2
 have HC0_2 := Aside0.mk hc0_2
 clear hr0_2 hc0_2
 have HR0_3 := Aside0.mk hr0_3
 have HC0_3 := Aside0.mk hc0_3
 clear hr0_3 hc0_3
 have HB := Aside0.mk (Below.refl w.heap.size w)
 have H : ((spec_l15Servers.f a1).bind fun t436 => (if t436 = true then ((spec_l15First.f a0_0 a0_1 l0_2 l0_3).bind fun t437 => (if t437 = true then (some true) else ((spec_l1In.f a0_0 1 100000).bind fun t438 => (if t438 = true then ((spec_l15Name.f a0_1).bind fun t439 => (if t439 = true then ((spec_Quorum.f a1).bind fun t440 => (if (l0_2.length : Int) < t440 then (spec_ProofOk.j0 k a1 true a0_0 a0_1 l0_2 l0_3) else (spec_ProofOk.j0 k a1 ((l0_2.length : Int) != (l0_3.length : Int)) a0_0 a0_1 l0_2 l0_3))) else (spec_ProofOk.j0 k a1 true a0_0 a0_1 l0_2 l0_3))) else (spec_ProofOk.j0 k a1 true a0_0 a0_1 l0_2 l0_3))))) else (some false))) = some r := h
 clear h
 replace H := Option.bind_eq_some_iff.mp H
 obtain ⟨t436, A30, H⟩ := H
 replace H : (if t436 = true then ((spec_l15First.f a0_0 a0_1 l0_2 l0_3).bind fun t437 => (if t437 = true then (some true) else ((spec_l1In.f a0_0 1 100000).bind fun t438 => (if t438 = true then ((spec_l15Name.f a0_1).bind fun t439 => (if t439 = true then ((spec_Quorum.f a1).bind fun t440 => (if (l0_2.length : Int) < t440 then (spec_ProofOk.j0 k a1 true a0_0 a0_1 l0_2 l0_3) else (spec_ProofOk.j0 k a1 ((l0_2.length : Int) != (l0_3.length : Int)) a0_0 a0_1 l0_2 l0_3))) else (spec_ProofOk.j0 k a1 true a0_0 a0_1 l0_2 l0_3))) else (spec_ProofOk.j0 k a1 true a0_0 a0_1 l0_2 l0_3))))) else (some false)) = some r := H
 have A3 := Aside0.mk A30
 clear A30
 have HC4 := Aside0.mk H
 clear H
 go_enter Tryd.func24, Tryd.ntmps24
 go_upto_if 8 with (first | ((with_reducible refine gate_dst (N := 2) rfl ?_); (try (refine gate_guard (by rfl) ?_; dsimp only)); refine box_event ?hg (N := 2) ?hd (cs := #[.int .i64 a0_0, .int .i64 a0_1, .slice A0_2 l0_2.length c0_2, .slice A0_3 l0_3.length c0_3]) (t := 26) ?hr ?_; (case hd => rfl); (case hg => rfl); (case hr => first | (go_simp; done) | (go_simp; rfl)); intro gb435 hg w5 hbox hb; have n0_ := Aside0.mk (below_step d1 hb); have n1_ := Aside0.mk (hbox); have n2_ := Aside0.mk ((by rw [hg]; exact (below_size d1) : w.heap.size ≤ gb435)); have n3_ := Aside0.mk ((by rw [hg]; exact (below_size d1) : w.heap.size ≤ gb435)); clear HB; have HB := n0_; have BK435 := n1_; have GW435 := n2_; have GE435 := n3_; clear n0_ n1_ n2_ n3_; clear hb hbox hg) | ((with_reducible refine gate_callee (f := 37) rfl ?_); refine goesL_ (some 7) rfl rfl Tryd.func37 (by kernel_rfl) rfl #[.int .i64 a1] rfl d0 ?_; (with_reducible refine (spec_l15Servers.calls a1 t436 _ A3.out).mono ?_); rintro e w' ⟨rfl, ⟨nd, rfl⟩⟩; refine ⟨_, rfl, ?_⟩))
 (try simp only [Act.put, List.setIfInBounds_toArray, List.set_cons_zero, List.set_cons_succ])
 (try (rw [drewN_self w5]; generalize hq_ : World.drewN w5 _ = w5; have n0_ := Aside0.mk (blk_at hq_ BK435.out); have n1_ := Aside0.mk (below_at hq_ HB.out); clear hq_ BK435 HB; have BK435 := n0_; have HB := n1_; clear n0_ n1_))
 have H := HC4.out
 clear HC4
 by_cases c6 : t436 = true
 ·subst c6
  have H1 : ((spec_l15First.f a0_0 a0_1 l0_2 l0_3).bind fun t437 => (if t437 = true then (some true) else ((spec_l1In.f a0_0 1 100000).bind fun t438 => (if t438 = true then ((spec_l15Name.f a0_1).bind fun t439 => (if t439 = true then ((spec_Quorum.f a1).bind fun t440 => (if (l0_2.length : Int) < t440 then (spec_ProofOk.j0 k a1 true a0_0 a0_1 l0_2 l0_3) else (spec_ProofOk.j0 k a1 ((l0_2.length : Int) != (l0_3.length : Int)) a0_0 a0_1 l0_2 l0_3))) else (spec_ProofOk.j0 k a1 true a0_0 a0_1 l0_2 l0_3))) else (spec_ProofOk.j0 k a1 true a0_0 a0_1 l0_2 l0_3))))) = some r := by rw [if_pos rfl] at H; exact H
  clear H
  have H := H1
  clear H1
  replace H := Option.bind_eq_some_iff.mp H
  obtain ⟨t437, A70, H⟩ := H
  replace H : (if t437 = true then (some true) else ((spec_l1In.f a0_0 1 100000).bind fun t438 => (if t438 = true then ((spec_l15Name.f a0_1).bind fun t439 => (if t439 = true then ((spec_Quorum.f a1).bind fun t440 => (if (l0_2.length : Int) < t440 then (spec_ProofOk.j0 k a1 true a0_0 a0_1 l0_2 l0_3) else (spec_ProofOk.j0 k a1 ((l0_2.length : Int) != (l0_3.length : Int)) a0_0 a0_1 l0_2 l0_3))) else (spec_ProofOk.j0 k a1 true a0_0 a0_1 l0_2 l0_3))) else (spec_ProofOk.j0 k a1 true a0_0 a0_1 l0_2 l0_3)))) = some r := H
  have A7 := Aside0.mk A70
  clear A70
  have HC8 := Aside0.mk H
  clear H
  have hcz9_0 : w5.cell? ⟨gb435, 0, none⟩ = some (.int .i64 a0_0) := (blk_cell BK435.out 0).trans rfl
  have hcz9_1 : w5.cell? ⟨gb435, 1, none⟩ = some (.int .i64 a0_1) := (blk_cell BK435.out 1).trans rfl
  have hcz9_2 : w5.cell? ⟨gb435, 2, none⟩ = some (.slice A0_2 l0_2.length c0_2) := (blk_cell BK435.out 2).trans rfl
  have hcz9_3 : w5.cell? ⟨gb435, 3, none⟩ = some (.slice A0_3 l0_3.length c0_3) := (blk_cell BK435.out 3).trans rfl
  have hfz9_0 := blk_frozen BK435.out 0
  have hfz9_1 := blk_frozen BK435.out 1
  have hfz9_2 := blk_frozen BK435.out 2
  have hfz9_3 := blk_frozen BK435.out 3
  go_upto_if 10 with (first | ((with_reducible refine gate_callee (f := 60) rfl ?_); refine goesL_ (some 10) rfl rfl Tryd.func60 (by kernel_rfl) rfl #[.agg #[.int .i64 a0_0, .int .i64 a0_1, .slice A0_2 l0_2.length c0_2, .slice A0_3 l0_3.length c0_3]] rfl d0 ?_; (with_reducible refine (spec_l15First.calls a0_0 a0_1 _ _ l0_2 _ _ l0_3 t437 _ ?side1 ?side2 ?side3 ?side4 A7.out).mono ?_); (case side1 => exact o44); (case side2 => exact HC0_2.out); (case side3 => exact (by repeat (first | exact (Kd.C_below HR0_3.out HB.out) | (with_reducible refine Kd.C_alloc ?_ _) | (with_reducible refine Kd.C_drewN ?_ _) | (with_reducible refine Kd.C_drew ?_)))); (case side4 => exact HC0_3.out); rintro e w10 ⟨rfl, hb⟩; refine ⟨_, rfl, ?_⟩; have n0_ := Aside0.mk (blk_below (g := gb435) (o := .cells #[.int .i64 a0_0, .int .i64 a0_1, .slice A0_2 l0_2.length c0_2, .slice A0_3 l0_3.length c0_3] 26 (0, 0)) d91 hb); have n1_ := Aside0.mk (below_step d78 hb); clear BK435; clear HB; have BK435 := n0_; have HB := n1_; clear n0_ n1_; (try clear hb); (try clear hb2); (try clear hk); (try clear hi)))
  (try simp only [Act.put, List.setIfInBounds_toArray, List.set_cons_zero, List.set_cons_succ])
  have H := HC8.out
  clear HC8
  by_cases c11 : t437 = true
  ·subst c11
   have H1 : (some true) = some r := by rw [if_pos rfl] at H; exact H
   clear H
   have H := H1
   clear H1
   obtain rfl := Option.some.inj H
   go_wp2
   go_ret
   exact ⟨o2, o15⟩
  ·replace c11 := Bool.eq_false_iff.mpr c11
   subst c11
   have H1 : ((spec_l1In.f a0_0 1 100000).bind fun t438 => (if t438 = true then ((spec_l15Name.f a0_1).bind fun t439 => (if t439 = true then ((spec_Quorum.f a1).bind fun t440 => (if (l0_2.length : Int) < t440 then (spec_ProofOk.j0 k a1 true a0_0 a0_1 l0_2 l0_3) else (spec_ProofOk.j0 k a1 ((l0_2.length : Int) != (l0_3.length : Int)) a0_0 a0_1 l0_2 l0_3))) else (spec_ProofOk.j0 k a1 true a0_0 a0_1 l0_2 l0_3))) else (spec_ProofOk.j0 k a1 true a0_0 a0_1 l0_2 l0_3))) = some r := by rw [if_neg (show ¬ (false = true) by decide)] at H; exact H
   clear H
   have H := H1
   clear H1
   have HC12 := Aside0.mk H
   clear H
   go_upto_region 5 with (fail)
   go_cut [37] (fun v37 wc => ∃ (kq : Nat) (x37_11 : Bool), v37 = .bool x37_11 ∧ Aside0 (spec_ProofOk.j0 kq a1 x37_11 a0_0 a0_1 l0_2 l0_3 = some r) ∧ Aside0 (kq ≤ k) ∧ Aside0 (wc.heap[gb435]? = some (.cells #[.int .i64 a0_0, .int .i64 a0_1, (.slice A0_2 l0_2.length c0_2), (.slice A0_3 l0_3.length c0_3)] 26 (0, 0))) ∧ Aside0 (Below w.heap.size w wc))
   case first =>
    have H := HC12.out
    clear HC12
    replace H := Option.bind_eq_some_iff.mp H
    obtain ⟨t438, A130, H⟩ := H
    replace H : (if t438 = true then ((spec_l15Name.f a0_1).bind fun t439 => (if t439 = true then ((spec_Quorum.f a1).bind fun t440 => (if (l0_2.length : Int) < t440 then (spec_ProofOk.j0 k a1 true a0_0 a0_1 l0_2 l0_3) else (spec_ProofOk.j0 k a1 ((l0_2.length : Int) != (l0_3.length : Int)) a0_0 a0_1 l0_2 l0_3))) else (spec_ProofOk.j0 k a1 true a0_0 a0_1 l0_2 l0_3))) else (spec_ProofOk.j0 k a1 true a0_0 a0_1 l0_2 l0_3)) = some r := H
    have A13 := Aside0.mk A130
    clear A130
    by_cases c14 : t438 = true
    ·subst c14
     have H1 : ((spec_l15Name.f a0_1).bind fun t439 => (if t439 = true then ((spec_Quorum.f a1).bind fun t440 => (if (l0_2.length : Int) < t440 then (spec_ProofOk.j0 k a1 true a0_0 a0_1 l0_2 l0_3) else (spec_ProofOk.j0 k a1 ((l0_2.length : Int) != (l0_3.length : Int)) a0_0 a0_1 l0_2 l0_3))) else (spec_ProofOk.j0 k a1 true a0_0 a0_1 l0_2 l0_3))) = some r := by rw [if_pos rfl] at H; exact H
     clear H
     have H := H1
     clear H1
     replace H := Option.bind_eq_some_iff.mp H
     obtain ⟨t439, A150, H⟩ := H
     replace H : (if t439 = true then ((spec_Quorum.f a1).bind fun t440 => (if (l0_2.length : Int) < t440 then (spec_ProofOk.j0 k a1 true a0_0 a0_1 l0_2 l0_3) else (spec_ProofOk.j0 k a1 ((l0_2.length : Int) != (l0_3.length : Int)) a0_0 a0_1 l0_2 l0_3))) else (spec_ProofOk.j0 k a1 true a0_0 a0_1 l0_2 l0_3)) = some r := H
     have A15 := Aside0.mk A150
     clear A150
     by_cases c16 : t439 = true
     ·subst c16
      have H1 : ((spec_Quorum.f a1).bind fun t440 => (if (l0_2.length : Int) < t440 then (spec_ProofOk.j0 k a1 true a0_0 a0_1 l0_2 l0_3) else (spec_ProofOk.j0 k a1 ((l0_2.length : Int) != (l0_3.length : Int)) a0_0 a0_1 l0_2 l0_3))) = some r := by rw [if_pos rfl] at H; exact H
      clear H
      have H := H1
      clear H1
      replace H := Option.bind_eq_some_iff.mp H
      obtain ⟨t440, A170, H⟩ := H
      replace H : (if (l0_2.length : Int) < t440 then (spec_ProofOk.j0 k a1 true a0_0 a0_1 l0_2 l0_3) else (spec_ProofOk.j0 k a1 ((l0_2.length : Int) != (l0_3.length : Int)) a0_0 a0_1 l0_2 l0_3)) = some r := H
      have A17 := Aside0.mk A170
      clear A170
      by_cases c18 : (l0_2.length : Int) < t440
      ·rw [if_pos c18] at H
       have c18b0 : decide ((l0_2.length : Int) < t440) = true := decide_eq_true c18
       clear c18
       (first | rw [c18b0] | (simp only [i64_w, i32_w]; rw [c18b0]) | skip)
       have H' := Aside0.mk H
       clear H
       try go_wp2
       have n0_ := Aside0.mk (blk_drew BK435.out)
       have n1_ := Aside0.mk (below_drew1 HB.out)
       clear BK435
       clear HB
       have BK435 := n0_
       have HB := n1_
       clear n0_ n1_
       refine start_ (n := 27) (S := fun w' => w'.cell? ⟨gb435, 0, none⟩ = some (.int .i64 a0_0) ∧ w'.cell? ⟨gb435, 1, none⟩ = some (.int .i64 a0_1) ∧ w'.cell? ⟨gb435, 2, none⟩ = some (.slice A0_2 l0_2.length c0_2) ∧ w'.cell? ⟨gb435, 3, none⟩ = some (.slice A0_3 l0_3.length c0_3)) (ds := []) (bA 27 0) (by kernel_rfl) rfl rfl ⟨(blk_cell BK435.out 0).trans rfl, (blk_cell BK435.out 1).trans rfl, (blk_cell BK435.out 2).trans rfl, (blk_cell BK435.out 3).trans rfl⟩ (fun hHeld => ?_); refine with_tabW spec_ProofOk.tab5 spec_ProofOk.bits5 (fun HT_ HW_ => ?_)
       generalize w10.drew = w19 at BK435 HB hHeld ⊢
       refine pv (i := 0) (N := some 11) (bA 27 1) rfl rfl o0 ?_
       refine take_ (i := 1) (N := some 12) (v := ?_) (a' := ?_) (bA 27 3) rfl rfl o5 (fun _ _ _ h => h) (Or.inl ⟨(by rfl), ?_⟩) hHeld ?_ ?_
       rotate_left
       ·rintro w' ⟨s0, s1, s2, s3⟩
        go_simp
        with_reducible rfl
       rotate_left
       ·simp only [sp_]
        rfl
       refine one_ (i := 2) (N := some 13) (bA 27 7) rfl rfl (one_of HT_.out (by kernel_rfl)) (by decide) (fun K hK => ?_)
       refine goes_ Tryd.func61 (by kernel_rfl) rfl #[.int .i64 a0_0, .int .i64 1, .int .i64 100000] (by rfl) rfl rfl d0 ?_
       with_reducible refine (spec_l1In.calls a0_0 1 100000 true _ A13.out).mono ?_
       rintro e w' ⟨rfl, ⟨nd, rfl⟩⟩
       refine ⟨_, rfl, ?_⟩
       refine hK.out _ _ ⟨(blk_cell BK435.out 0).trans rfl, (blk_cell BK435.out 1).trans rfl, (blk_cell BK435.out 2).trans rfl, (blk_cell BK435.out 3).trans rfl⟩ (fun hHeld => ?_)
       clear hK K
       refine norm_ (a' := ?_) ?_ ?_
       rotate_left
       ·show Act.put _ (some 13) _ = _
        simp only [sp_]
        rfl
       refine pv (i := 3) (N := some 14) (bA 27 15) rfl rfl o0 ?_
       refine pv (i := 4) (N := some 15) (bA 27 31) rfl rfl o0 ?_
       refine pv (i := 5) (N := some 16) (bA 27 63) rfl rfl o0 ?_
       refine take_ (i := 6) (N := some 17) (v := ?_) (a' := ?_) (bA 27 127) rfl rfl o5 (fun _ _ _ h => h) (Or.inl ⟨(by rfl), ?_⟩) hHeld ?_ ?_
       rotate_left
       ·rintro w' ⟨s0, s1, s2, s3⟩
        go_simp
        with_reducible rfl
       rotate_left
       ·simp only [sp_]
        rfl
       refine one_ (i := 7) (N := some 18) (bA 27 255) rfl rfl (one_of HT_.out (by kernel_rfl)) (by decide) (fun K hK => ?_)
       refine goes_ Tryd.func62 (by kernel_rfl) rfl #[.int .i64 a0_1] (by rfl) rfl rfl d0 ?_
       with_reducible refine (spec_l15Name.calls a0_1 true _ A15.out).mono ?_
       rintro e w' ⟨rfl, ⟨nd, rfl⟩⟩
       refine ⟨_, rfl, ?_⟩
       refine hK.out _ _ ⟨(blk_cell BK435.out 0).trans rfl, (blk_cell BK435.out 1).trans rfl, (blk_cell BK435.out 2).trans rfl, (blk_cell BK435.out 3).trans rfl⟩ (fun hHeld => ?_)
       clear hK K
       refine norm_ (a' := ?_) ?_ ?_
       rotate_left
       ·show Act.put _ (some 18) _ = _
        simp only [sp_]
        rfl
       refine pv (i := 8) (N := some 19) (bA 27 511) rfl rfl o0 ?_
       refine pv (i := 9) (N := some 20) (bA 27 1023) rfl rfl o0 ?_
       refine pv (i := 10) (N := some 21) (bA 27 2047) rfl rfl o0 ?_
       refine pv (i := 11) (N := some 22) (bA 27 4095) rfl rfl o0 ?_
       refine pv (i := 14) (N := some 25) (bA 27 20479) rfl rfl o0 ?_
       refine take_ (i := 12) (N := some 23) (v := ?_) (a' := ?_) (bA 27 24575) rfl rfl o5 (fun _ _ _ h => h) (Or.inl ⟨(by rfl), ?_⟩) hHeld ?_ ?_
       rotate_left
       ·rintro w' ⟨s0, s1, s2, s3⟩
        go_simp
        with_reducible rfl
       rotate_left
       ·simp only [sp_]
        rfl
       refine pv (i := 13) (N := some 24) (bA 27 32767) rfl rfl o0 ?_
       refine one_ (i := 15) (N := some 26) (bA 27 65535) rfl rfl (one_of HT_.out (by kernel_rfl)) (by decide) (fun K hK => ?_)
       refine goes_ Tryd.func28 (by kernel_rfl) rfl #[.int .i64 a1] (by rfl) rfl rfl d0 ?_
       with_reducible refine (spec_Quorum.calls a1 t440 _ A17.out).mono ?_
       rintro e w' ⟨rfl, ⟨nd, rfl⟩⟩
       refine ⟨_, rfl, ?_⟩
       refine hK.out _ _ ⟨(blk_cell BK435.out 0).trans rfl, (blk_cell BK435.out 1).trans rfl, (blk_cell BK435.out 2).trans rfl, (blk_cell BK435.out 3).trans rfl⟩ (fun hHeld => ?_)
       clear hK K
       refine norm_ (a' := ?_) ?_ ?_
       rotate_left
       ·show Act.put _ (some 26) _ = _
        simp only [sp_]
        rfl
       refine pv (i := 16) (N := some 27) (bA 27 131071) rfl rfl o0 ?_
       refine pv (i := 17) (N := some 28) (bA 27 262143) rfl rfl o0 ?_
       refine pv (i := 18) (N := some 29) (bA 27 524287) rfl rfl o0 ?_
       refine pu (i := 19) (N := some 30) (bA 27 1048575) rfl rfl o0 ?_
       refine pu (i := 20) (N := some 31) (bA 27 2097151) rfl rfl o0 ?_
       refine pu (i := 21) (N := some 32) (bA 27 4194303) rfl rfl o0 ?_
       refine pu (i := 22) (N := some 33) (bA 27 8388607) rfl rfl o0 ?_
       refine pu (i := 23) (N := some 34) (bA 27 16777215) rfl rfl o0 ?_
       refine pu (i := 24) (N := some 35) (bA 27 33554431) rfl rfl o0 ?_
       refine pu (i := 25) (N := some 36) (bA 27 67108863) rfl rfl o0 ?_
       refine pv (i := 26) (N := some 37) (bA 27 134217727) rfl rfl o0 ?_
       refine done_ (done_of HT_.out (by kernel_rfl)) ?_
       try go_wp2
       go_meet
       case rel => exact ⟨_, (true), d9, H', ⟨o42⟩, ⟨o37⟩, ⟨o15⟩⟩
      ·rw [if_neg c18] at H
       have c18b0 : decide ((l0_2.length : Int) < t440) = false := decide_eq_false c18
       clear c18
       (first | rw [c18b0] | (simp only [i64_w, i32_w]; rw [c18b0]) | skip)
       have H' := Aside0.mk H
       clear H
       try go_wp2
       have n0_ := Aside0.mk (blk_drew BK435.out)
       have n1_ := Aside0.mk (below_drew1 HB.out)
       clear BK435
       clear HB
       have BK435 := n0_
       have HB := n1_
       clear n0_ n1_
       refine start_ (n := 27) (S := fun w' => w'.cell? ⟨gb435, 0, none⟩ = some (.int .i64 a0_0) ∧ w'.cell? ⟨gb435, 1, none⟩ = some (.int .i64 a0_1) ∧ w'.cell? ⟨gb435, 2, none⟩ = some (.slice A0_2 l0_2.length c0_2) ∧ w'.cell? ⟨gb435, 3, none⟩ = some (.slice A0_3 l0_3.length c0_3)) (ds := []) (bA 27 0) (by kernel_rfl) rfl rfl ⟨(blk_cell BK435.out 0).trans rfl, (blk_cell BK435.out 1).trans rfl, (blk_cell BK435.out 2).trans rfl, (blk_cell BK435.out 3).trans rfl⟩ (fun hHeld => ?_); refine with_tabW spec_ProofOk.tab5 spec_ProofOk.bits5 (fun HT_ HW_ => ?_)
       generalize w10.drew = w20 at BK435 HB hHeld ⊢
       refine pv (i := 0) (N := some 11) (bA 27 1) rfl rfl o0 ?_
       refine take_ (i := 1) (N := some 12) (v := ?_) (a' := ?_) (bA 27 3) rfl rfl o5 (fun _ _ _ h => h) (Or.inl ⟨(by rfl), ?_⟩) hHeld ?_ ?_
       rotate_left
       ·rintro w' ⟨s0, s1, s2, s3⟩
        go_simp
        with_reducible rfl
       rotate_left
       ·simp only [sp_]
        rfl
       refine one_ (i := 2) (N := some 13) (bA 27 7) rfl rfl (one_of HT_.out (by kernel_rfl)) (by decide) (fun K hK => ?_)
       refine goes_ Tryd.func61 (by kernel_rfl) rfl #[.int .i64 a0_0, .int .i64 1, .int .i64 100000] (by rfl) rfl rfl d0 ?_
       with_reducible refine (spec_l1In.calls a0_0 1 100000 true _ A13.out).mono ?_
       rintro e w' ⟨rfl, ⟨nd, rfl⟩⟩
       refine ⟨_, rfl, ?_⟩
       refine hK.out _ _ ⟨(blk_cell BK435.out 0).trans rfl, (blk_cell BK435.out 1).trans rfl, (blk_cell BK435.out 2).trans rfl, (blk_cell BK435.out 3).trans rfl⟩ (fun hHeld => ?_)
       clear hK K
       refine norm_ (a' := ?_) ?_ ?_
       rotate_left
       ·show Act.put _ (some 13) _ = _
        simp only [sp_]
        rfl
       refine pv (i := 3) (N := some 14) (bA 27 15) rfl rfl o0 ?_
       refine pv (i := 4) (N := some 15) (bA 27 31) rfl rfl o0 ?_
       refine pv (i := 5) (N := some 16) (bA 27 63) rfl rfl o0 ?_
       refine take_ (i := 6) (N := some 17) (v := ?_) (a' := ?_) (bA 27 127) rfl rfl o5 (fun _ _ _ h => h) (Or.inl ⟨(by rfl), ?_⟩) hHeld ?_ ?_
       rotate_left
       ·rintro w' ⟨s0, s1, s2, s3⟩
        go_simp
        with_reducible rfl
       rotate_left
       ·simp only [sp_]
        rfl
       refine one_ (i := 7) (N := some 18) (bA 27 255) rfl rfl (one_of HT_.out (by kernel_rfl)) (by decide) (fun K hK => ?_)
       refine goes_ Tryd.func62 (by kernel_rfl) rfl #[.int .i64 a0_1] (by rfl) rfl rfl d0 ?_
       with_reducible refine (spec_l15Name.calls a0_1 true _ A15.out).mono ?_
       rintro e w' ⟨rfl, ⟨nd, rfl⟩⟩
       refine ⟨_, rfl, ?_⟩
       refine hK.out _ _ ⟨(blk_cell BK435.out 0).trans rfl, (blk_cell BK435.out 1).trans rfl, (blk_cell BK435.out 2).trans rfl, (blk_cell BK435.out 3).trans rfl⟩ (fun hHeld => ?_)
       clear hK K
       refine norm_ (a' := ?_) ?_ ?_
       rotate_left
       ·show Act.put _ (some 18) _ = _
        simp only [sp_]
        rfl
       refine pv (i := 8) (N := some 19) (bA 27 511) rfl rfl o0 ?_
       refine pv (i := 9) (N := some 20) (bA 27 1023) rfl rfl o0 ?_
       refine pv (i := 10) (N := some 21) (bA 27 2047) rfl rfl o0 ?_
       refine pv (i := 11) (N := some 22) (bA 27 4095) rfl rfl o0 ?_
       refine pv (i := 14) (N := some 25) (bA 27 20479) rfl rfl o0 ?_
       refine take_ (i := 12) (N := some 23) (v := ?_) (a' := ?_) (bA 27 24575) rfl rfl o5 (fun _ _ _ h => h) (Or.inl ⟨(by rfl), ?_⟩) hHeld ?_ ?_
       rotate_left
       ·rintro w' ⟨s0, s1, s2, s3⟩
        go_simp
        with_reducible rfl
       rotate_left
       ·simp only [sp_]
        rfl
       refine pv (i := 13) (N := some 24) (bA 27 32767) rfl rfl o0 ?_
       refine one_ (i := 15) (N := some 26) (bA 27 65535) rfl rfl (one_of HT_.out (by kernel_rfl)) (by decide) (fun K hK => ?_)
       refine goes_ Tryd.func28 (by kernel_rfl) rfl #[.int .i64 a1] (by rfl) rfl rfl d0 ?_
       with_reducible refine (spec_Quorum.calls a1 t440 _ A17.out).mono ?_
       rintro e w' ⟨rfl, ⟨nd, rfl⟩⟩
       refine ⟨_, rfl, ?_⟩
       refine hK.out _ _ ⟨(blk_cell BK435.out 0).trans rfl, (blk_cell BK435.out 1).trans rfl, (blk_cell BK435.out 2).trans rfl, (blk_cell BK435.out 3).trans rfl⟩ (fun hHeld => ?_)
       clear hK K
       refine norm_ (a' := ?_) ?_ ?_
       rotate_left
       ·show Act.put _ (some 26) _ = _
        simp only [sp_]
        rfl
       refine pv (i := 16) (N := some 27) (bA 27 131071) rfl rfl o0 ?_
       refine pv (i := 17) (N := some 28) (bA 27 262143) rfl rfl o0 ?_
       refine pv (i := 18) (N := some 29) (bA 27 524287) rfl rfl o0 ?_
       refine pv (i := 19) (N := some 30) (bA 27 1048575) rfl rfl o0 ?_
       refine pv (i := 22) (N := some 33) (bA 27 5242879) rfl rfl o0 ?_
       refine take_ (i := 20) (N := some 31) (v := ?_) (a' := ?_) (bA 27 6291455) rfl rfl o5 (fun _ _ _ h => h) (Or.inl ⟨(by rfl), ?_⟩) hHeld ?_ ?_
       rotate_left
       ·rintro w' ⟨s0, s1, s2, s3⟩
        go_simp
        with_reducible rfl
       rotate_left
       ·simp only [sp_]
        rfl
       refine pv (i := 21) (N := some 32) (bA 27 8388607) rfl rfl o0 ?_
       refine take_ (i := 23) (N := some 34) (v := ?_) (a' := ?_) (bA 27 16777215) rfl rfl o5 (fun _ _ _ h => h) (Or.inl ⟨(by rfl), ?_⟩) hHeld ?_ ?_
       rotate_left
       ·rintro w' ⟨s0, s1, s2, s3⟩
        go_simp
        with_reducible rfl
       rotate_left
       ·simp only [sp_]
        rfl
       refine pv (i := 24) (N := some 35) (bA 27 33554431) rfl rfl o0 ?_
       refine pv (i := 25) (N := some 36) (bA 27 67108863) rfl rfl o0 ?_
       refine pv (i := 26) (N := some 37) (bA 27 134217727) rfl rfl o0 ?_
       refine done_ (done_of HT_.out (by kernel_rfl)) ?_
       try go_wp2
       go_meet
       case rel => exact ⟨_, (((l0_2.length : Int) != (l0_3.length : Int))), d9, H', ⟨o42⟩, ⟨o37⟩, ⟨o15⟩⟩
     ·replace c16 := Bool.eq_false_iff.mpr c16
      subst c16
      have H1 : (spec_ProofOk.j0 k a1 true a0_0 a0_1 l0_2 l0_3) = some r := by rw [if_neg (show ¬ (false = true) by decide)] at H; exact H
      clear H
      have H := H1
      clear H1
      have H' := Aside0.mk H
      clear H
      try go_wp2
      have n0_ := Aside0.mk (blk_drew BK435.out)
      have n1_ := Aside0.mk (below_drew1 HB.out)
      clear BK435
      clear HB
      have BK435 := n0_
      have HB := n1_
      clear n0_ n1_
      refine start_ (n := 27) (S := fun w' => w'.cell? ⟨gb435, 0, none⟩ = some (.int .i64 a0_0) ∧ w'.cell? ⟨gb435, 1, none⟩ = some (.int .i64 a0_1) ∧ w'.cell? ⟨gb435, 2, none⟩ = some (.slice A0_2 l0_2.length c0_2) ∧ w'.cell? ⟨gb435, 3, none⟩ = some (.slice A0_3 l0_3.length c0_3)) (ds := []) (bA 27 0) (by kernel_rfl) rfl rfl ⟨(blk_cell BK435.out 0).trans rfl, (blk_cell BK435.out 1).trans rfl, (blk_cell BK435.out 2).trans rfl, (blk_cell BK435.out 3).trans rfl⟩ (fun hHeld => ?_); refine with_tabW spec_ProofOk.tab5 spec_ProofOk.bits5 (fun HT_ HW_ => ?_)
      generalize w10.drew = w21 at BK435 HB hHeld ⊢
      refine pv (i := 0) (N := some 11) (bA 27 1) rfl rfl o0 ?_
      refine take_ (i := 1) (N := some 12) (v := ?_) (a' := ?_) (bA 27 3) rfl rfl o5 (fun _ _ _ h => h) (Or.inl ⟨(by rfl), ?_⟩) hHeld ?_ ?_
      rotate_left
      ·rintro w' ⟨s0, s1, s2, s3⟩
       go_simp
       with_reducible rfl
      rotate_left
      ·simp only [sp_]
       rfl
      refine one_ (i := 2) (N := some 13) (bA 27 7) rfl rfl (one_of HT_.out (by kernel_rfl)) (by decide) (fun K hK => ?_)
      refine goes_ Tryd.func61 (by kernel_rfl) rfl #[.int .i64 a0_0, .int .i64 1, .int .i64 100000] (by rfl) rfl rfl d0 ?_
      with_reducible refine (spec_l1In.calls a0_0 1 100000 true _ A13.out).mono ?_
      rintro e w' ⟨rfl, ⟨nd, rfl⟩⟩
      refine ⟨_, rfl, ?_⟩
      refine hK.out _ _ ⟨(blk_cell BK435.out 0).trans rfl, (blk_cell BK435.out 1).trans rfl, (blk_cell BK435.out 2).trans rfl, (blk_cell BK435.out 3).trans rfl⟩ (fun hHeld => ?_)
      clear hK K
      refine norm_ (a' := ?_) ?_ ?_
      rotate_left
      ·show Act.put _ (some 13) _ = _
       simp only [sp_]
       rfl
      refine pv (i := 3) (N := some 14) (bA 27 15) rfl rfl o0 ?_
      refine pv (i := 4) (N := some 15) (bA 27 31) rfl rfl o0 ?_
      refine pv (i := 5) (N := some 16) (bA 27 63) rfl rfl o0 ?_
      refine take_ (i := 6) (N := some 17) (v := ?_) (a' := ?_) (bA 27 127) rfl rfl o5 (fun _ _ _ h => h) (Or.inl ⟨(by rfl), ?_⟩) hHeld ?_ ?_
      rotate_left
      ·rintro w' ⟨s0, s1, s2, s3⟩
       go_simp
       with_reducible rfl
      rotate_left
      ·simp only [sp_]
       rfl
      refine one_ (i := 7) (N := some 18) (bA 27 255) rfl rfl (one_of HT_.out (by kernel_rfl)) (by decide) (fun K hK => ?_)
      refine goes_ Tryd.func62 (by kernel_rfl) rfl #[.int .i64 a0_1] (by rfl) rfl rfl d0 ?_
      with_reducible refine (spec_l15Name.calls a0_1 false _ A15.out).mono ?_
      rintro e w' ⟨rfl, ⟨nd, rfl⟩⟩
      refine ⟨_, rfl, ?_⟩
      refine hK.out _ _ ⟨(blk_cell BK435.out 0).trans rfl, (blk_cell BK435.out 1).trans rfl, (blk_cell BK435.out 2).trans rfl, (blk_cell BK435.out 3).trans rfl⟩ (fun hHeld => ?_)
      clear hK K
      refine norm_ (a' := ?_) ?_ ?_
      rotate_left
      ·show Act.put _ (some 18) _ = _
       simp only [sp_]
       rfl
      refine pv (i := 8) (N := some 19) (bA 27 511) rfl rfl o0 ?_
      refine pv (i := 9) (N := some 20) (bA 27 1023) rfl rfl o0 ?_
      refine pv (i := 10) (N := some 21) (bA 27 2047) rfl rfl o0 ?_
      refine pu (i := 11) (N := some 22) (bA 27 4095) rfl rfl o0 ?_
      refine pu (i := 12) (N := some 23) (bA 27 8191) rfl rfl o0 ?_
      refine pu (i := 13) (N := some 24) (bA 27 16383) rfl rfl o0 ?_
      refine pu (i := 14) (N := some 25) (bA 27 32767) rfl rfl o0 ?_
      refine pu (i := 15) (N := some 26) (bA 27 65535) rfl rfl o0 ?_
      refine pu (i := 16) (N := some 27) (bA 27 131071) rfl rfl o0 ?_
      refine pv (i := 17) (N := some 28) (bA 27 262143) rfl rfl o0 ?_
      refine pv (i := 18) (N := some 29) (bA 27 524287) rfl rfl o0 ?_
      refine pu (i := 19) (N := some 30) (bA 27 1048575) rfl rfl o0 ?_
      refine pu (i := 20) (N := some 31) (bA 27 2097151) rfl rfl o0 ?_
      refine pu (i := 21) (N := some 32) (bA 27 4194303) rfl rfl o0 ?_
      refine pu (i := 22) (N := some 33) (bA 27 8388607) rfl rfl o0 ?_
      refine pu (i := 23) (N := some 34) (bA 27 16777215) rfl rfl o0 ?_
      refine pu (i := 24) (N := some 35) (bA 27 33554431) rfl rfl o0 ?_
      refine pu (i := 25) (N := some 36) (bA 27 67108863) rfl rfl o0 ?_
      refine pv (i := 26) (N := some 37) (bA 27 134217727) rfl rfl o0 ?_
      refine done_ (done_of HT_.out (by kernel_rfl)) ?_
      try go_wp2
      go_meet
      case rel => exact ⟨_, (true), d9, H', ⟨o42⟩, ⟨o37⟩, ⟨o15⟩⟩
    ·replace c14 := Bool.eq_false_iff.mpr c14
     subst c14
     have H1 : (spec_ProofOk.j0 k a1 true a0_0 a0_1 l0_2 l0_3) = some r := by rw [if_neg (show ¬ (false = true) by decide)] at H; exact H
     clear H
     have H := H1
     clear H1
     have H' := Aside0.mk H
     clear H
     try go_wp2
     have n0_ := Aside0.mk (blk_drew BK435.out)
     have n1_ := Aside0.mk (below_drew1 HB.out)
     clear BK435
     clear HB
     have BK435 := n0_
     have HB := n1_
     clear n0_ n1_
     refine start_ (n := 27) (S := fun w' => w'.cell? ⟨gb435, 0, none⟩ = some (.int .i64 a0_0) ∧ w'.cell? ⟨gb435, 1, none⟩ = some (.int .i64 a0_1) ∧ w'.cell? ⟨gb435, 2, none⟩ = some (.slice A0_2 l0_2.length c0_2) ∧ w'.cell? ⟨gb435, 3, none⟩ = some (.slice A0_3 l0_3.length c0_3)) (ds := []) (bA 27 0) (by kernel_rfl) rfl rfl ⟨(blk_cell BK435.out 0).trans rfl, (blk_cell BK435.out 1).trans rfl, (blk_cell BK435.out 2).trans rfl, (blk_cell BK435.out 3).trans rfl⟩ (fun hHeld => ?_); refine with_tabW spec_ProofOk.tab5 spec_ProofOk.bits5 (fun HT_ HW_ => ?_)
     generalize w10.drew = w22 at BK435 HB hHeld ⊢
     refine pv (i := 0) (N := some 11) (bA 27 1) rfl rfl o0 ?_
     refine take_ (i := 1) (N := some 12) (v := ?_) (a' := ?_) (bA 27 3) rfl rfl o5 (fun _ _ _ h => h) (Or.inl ⟨(by rfl), ?_⟩) hHeld ?_ ?_
     rotate_left
     ·rintro w' ⟨s0, s1, s2, s3⟩
      go_simp
      with_reducible rfl
     rotate_left
     ·simp only [sp_]
      rfl
     refine one_ (i := 2) (N := some 13) (bA 27 7) rfl rfl (one_of HT_.out (by kernel_rfl)) (by decide) (fun K hK => ?_)
     refine goes_ Tryd.func61 (by kernel_rfl) rfl #[.int .i64 a0_0, .int .i64 1, .int .i64 100000] (by rfl) rfl rfl d0 ?_
     with_reducible refine (spec_l1In.calls a0_0 1 100000 false _ A13.out).mono ?_
     rintro e w' ⟨rfl, ⟨nd, rfl⟩⟩
     refine ⟨_, rfl, ?_⟩
     refine hK.out _ _ ⟨(blk_cell BK435.out 0).trans rfl, (blk_cell BK435.out 1).trans rfl, (blk_cell BK435.out 2).trans rfl, (blk_cell BK435.out 3).trans rfl⟩ (fun hHeld => ?_)
     clear hK K
     refine norm_ (a' := ?_) ?_ ?_
     rotate_left
     ·show Act.put _ (some 13) _ = _
      simp only [sp_]
      rfl
     refine pv (i := 3) (N := some 14) (bA 27 15) rfl rfl o0 ?_
     refine pv (i := 4) (N := some 15) (bA 27 31) rfl rfl o0 ?_
     refine pu (i := 5) (N := some 16) (bA 27 63) rfl rfl o0 ?_
     refine pu (i := 6) (N := some 17) (bA 27 127) rfl rfl o0 ?_
     refine pu (i := 7) (N := some 18) (bA 27 255) rfl rfl o0 ?_
     refine pu (i := 8) (N := some 19) (bA 27 511) rfl rfl o0 ?_
     refine pv (i := 9) (N := some 20) (bA 27 1023) rfl rfl o0 ?_
     refine pv (i := 10) (N := some 21) (bA 27 2047) rfl rfl o0 ?_
     refine pu (i := 11) (N := some 22) (bA 27 4095) rfl rfl o0 ?_
     refine pu (i := 12) (N := some 23) (bA 27 8191) rfl rfl o0 ?_
     refine pu (i := 13) (N := some 24) (bA 27 16383) rfl rfl o0 ?_
     refine pu (i := 14) (N := some 25) (bA 27 32767) rfl rfl o0 ?_
     refine pu (i := 15) (N := some 26) (bA 27 65535) rfl rfl o0 ?_
     refine pu (i := 16) (N := some 27) (bA 27 131071) rfl rfl o0 ?_
     refine pv (i := 17) (N := some 28) (bA 27 262143) rfl rfl o0 ?_
     refine pv (i := 18) (N := some 29) (bA 27 524287) rfl rfl o0 ?_
     refine pu (i := 19) (N := some 30) (bA 27 1048575) rfl rfl o0 ?_
     refine pu (i := 20) (N := some 31) (bA 27 2097151) rfl rfl o0 ?_
     refine pu (i := 21) (N := some 32) (bA 27 4194303) rfl rfl o0 ?_
     refine pu (i := 22) (N := some 33) (bA 27 8388607) rfl rfl o0 ?_
     refine pu (i := 23) (N := some 34) (bA 27 16777215) rfl rfl o0 ?_
     refine pu (i := 24) (N := some 35) (bA 27 33554431) rfl rfl o0 ?_
     refine pu (i := 25) (N := some 36) (bA 27 67108863) rfl rfl o0 ?_
     refine pv (i := 26) (N := some 37) (bA 27 134217727) rfl rfl o0 ?_
     refine done_ (done_of HT_.out (by kernel_rfl)) ?_
     try go_wp2
     go_meet
     case rel => exact ⟨_, (true), d9, H', ⟨o42⟩, ⟨o37⟩, ⟨o15⟩⟩
   case rest =>
    clear HC12
    try clear c1
    try clear c2
    try clear p2
    try clear c6
    try clear c14
    try clear c16
    obtain ⟨kq, x37_11, rfl, HA, HJ11, BK435, HB⟩ := hcut
    cases kq with
    | zero => exact absurd HA.out (by simp [spec_ProofOk.j0])
    | succ kj11 =>
     have H := HA.out
     clear HA
     simp only [spec_ProofOk.j0] at H
     by_cases c23 : x37_11 = true
     ·subst c23
      have H1 : (some false) = some r := by rw [if_pos rfl] at H; exact H
      clear H
      have H := H1
      clear H1
      obtain rfl := Option.some.inj H
      go_wp2
      go_ret
      exact ⟨o2, o15⟩
     ·replace c23 := Bool.eq_false_iff.mpr c23
      subst c23
      have H1 : (spec_ProofOk.l0 kj11 a1 0 a0_0 a0_1 l0_2 l0_3) = some r := by rw [if_neg (show ¬ (false = true) by decide)] at H; exact H
      clear H
      have H := H1
      clear H1
      have H' := Aside0.mk H
      clear H
      go_wp2
      go_loopg [5] kj11 (fun kq v5 w' => ∃ (x5_2 : Int), v5 = .int .i64 x5_2 ∧ Aside0 (spec_ProofOk.l0 kq a1 x5_2 a0_0 a0_1 l0_2 l0_3 = some r) ∧ Aside0 (kq ≤ kj11) ∧ Aside0 (w'.heap[gb435]? = some (.cells #[.int .i64 a0_0, .int .i64 a0_1, (.slice A0_2 l0_2.length c0_2), (.slice A0_3 l0_3.length c0_3)] 26 (0, 0))) ∧ Aside0 (Below w.heap.size w w'))
      case atStart => exact ⟨(0), d9, H', ⟨Nat.le_refl _⟩, ⟨o37⟩, ⟨o15⟩⟩
      case round =>
       clear H'
       try clear c1
       try clear c2
       try clear p2
       try clear c6
       try clear c14
       try clear c16
       try clear c23
       try clear p2
       obtain ⟨x5_2, rfl, HA, HK2, BK435, HB⟩ := hrel
       cases gk with
       | zero => exact absurd HA.out (by simp [spec_ProofOk.l0])
       | succ k2 =>
        have H := HA.out
        clear HA
        simp only [spec_ProofOk.l0] at H
        by_cases c24 : x5_2 < (l0_2.length : Int)
        ·rw [if_pos c24] at H
         have c24b0 : decide (x5_2 < (l0_2.length : Int)) = true := decide_eq_true c24
         clear c24
         by_cases c25 : 0 ≤ x5_2
         ·rw [if_pos c25] at H
          have c25b0 : decide (0 ≤ x5_2) = true := decide_eq_true c25
          clear c25
          by_cases c26 : x5_2 < (l0_3.length : Int)
          ·rw [if_pos c26] at H
           have c26b0 : decide (x5_2 < (l0_3.length : Int)) = true := decide_eq_true c26
           clear c26
           replace H := Option.bind_eq_some_iff.mp H
           obtain ⟨t443, A270, H⟩ := H
           replace H : (if t443 = true then (if x5_2 > 0 then (if 0 ≤ (wrap64 (x5_2 - 1)) then (if (wrap64 (x5_2 - 1)) < (l0_2.length : Int) then (if (rd l0_2 x5_2) ≤ (rd l0_2 (wrap64 (x5_2 - 1))) then (some false) else (spec_ProofOk.l0 k2 a1 (wrap64 (x5_2 + 1)) a0_0 a0_1 l0_2 l0_3)) else (none)) else (none)) else (spec_ProofOk.l0 k2 a1 (wrap64 (x5_2 + 1)) a0_0 a0_1 l0_2 l0_3)) else (some false)) = some r := H
           have A27 := Aside0.mk A270
           clear A270
           by_cases c28 : t443 = true
           ·subst c28
            have H1 : (if x5_2 > 0 then (if 0 ≤ (wrap64 (x5_2 - 1)) then (if (wrap64 (x5_2 - 1)) < (l0_2.length : Int) then (if (rd l0_2 x5_2) ≤ (rd l0_2 (wrap64 (x5_2 - 1))) then (some false) else (spec_ProofOk.l0 k2 a1 (wrap64 (x5_2 + 1)) a0_0 a0_1 l0_2 l0_3)) else (none)) else (none)) else (spec_ProofOk.l0 k2 a1 (wrap64 (x5_2 + 1)) a0_0 a0_1 l0_2 l0_3)) = some r := by rw [if_pos rfl] at H; exact H
            clear H
            have H := H1
            clear H1
            by_cases c29 : x5_2 > 0
            ·rw [if_pos c29] at H
             have c29b0 : decide (0 < x5_2) = true := decide_eq_true c29
             clear c29
             obtain ⟨ji30, hji30⟩ : ∃ j_ : Int, (wrap64 (x5_2 - 1)) = j_ := ⟨_, rfl⟩
             replace H : (if 0 ≤ (ji30) then (if (ji30) < (l0_2.length : Int) then (if (rd l0_2 x5_2) ≤ (rd l0_2 (ji30)) then (some false) else (spec_ProofOk.l0 k2 a1 (wrap64 (x5_2 + 1)) a0_0 a0_1 l0_2 l0_3)) else (none)) else (none)) = some r := by first | (rw [hji30] at H; exact H) | (simp only [hji30] at H ⊢; exact H)
             (try rw [hji30] at A27)
             have hji30w : (IntKind.i64.wrap (x5_2 - 1)) = ji30 := (i64_w _).trans hji30
             by_cases c31 : 0 ≤ (ji30)
             ·rw [if_pos c31] at H
              have c31b0 : decide (0 ≤ (ji30)) = true := decide_eq_true c31
              clear c31
              by_cases c32 : (ji30) < (l0_2.length : Int)
              ·rw [if_pos c32] at H
               have c32b0 : decide ((ji30) < (l0_2.length : Int)) = true := decide_eq_true c32
               clear c32
               have HC33 := Aside0.mk H
               clear H
               have hcz34_0 : wr.cell? ⟨gb435, 0, none⟩ = some (.int .i64 a0_0) := (blk_cell BK435.out 0).trans rfl
               have hcz34_1 : wr.cell? ⟨gb435, 1, none⟩ = some (.int .i64 a0_1) := (blk_cell BK435.out 1).trans rfl
               have hcz34_2 : wr.cell? ⟨gb435, 2, none⟩ = some (.slice A0_2 l0_2.length c0_2) := (blk_cell BK435.out 2).trans rfl
               have hcz34_3 : wr.cell? ⟨gb435, 3, none⟩ = some (.slice A0_3 l0_3.length c0_3) := (blk_cell BK435.out 3).trans rfl
               have hfz34_0 := blk_frozen BK435.out 0
               have hfz34_1 := blk_frozen BK435.out 1
               have hfz34_2 := blk_frozen BK435.out 2
               have hfz34_3 := blk_frozen BK435.out 3
               try go_wp2
               have n0_ := Aside0.mk (blk_drew BK435.out)
               have n1_ := Aside0.mk (below_drew1 HB.out)
               clear BK435
               clear HB
               have BK435 := n0_
               have HB := n1_
               clear n0_ n1_
               have p441 : 0 ≤ (x5_2 : Int) := od_
               have q441 : x5_2 < (l0_2.length : Int) := od_
               obtain ⟨ad441, e441, hx441_0⟩ := Kd.at_int HR0_2.out x5_2 p441 q441
               have hw441_0 := hx441_0
               cases e441
               replace hx441_0 := (HB.out.cell (World.block_lt_of_cell? w _ hx441_0)).trans hx441_0
               replace p441 := eq_true p441
               replace q441 := eq_true q441
               have p442 : 0 ≤ (x5_2 : Int) := od_
               have q442 : x5_2 < (l0_3.length : Int) := od_
               obtain ⟨ad442, e442, hx442_0⟩ := Kd.at_int HR0_3.out x5_2 p442 q442
               have hw442_0 := hx442_0
               cases e442
               replace hx442_0 := (HB.out.cell (World.block_lt_of_cell? w _ hx442_0)).trans hx442_0
               replace p442 := eq_true p442
               replace q442 := eq_true q442
               have p444 : 0 ≤ (x5_2 : Int) := od_
               have q444 : x5_2 < (l0_2.length : Int) := od_
               obtain ⟨ad444, e444, hx444_0⟩ := Kd.at_int HR0_2.out x5_2 p444 q444
               have hw444_0 := hx444_0
               obtain rfl : ad441 = ad444 := (by injection e444)
               replace hx444_0 := (HB.out.cell (World.block_lt_of_cell? w _ hx444_0)).trans hx444_0
               replace p444 := eq_true p444
               replace q444 := eq_true q444
               have p445 : 0 ≤ ((ji30) : Int) := od_
               have q445 : (ji30) < (l0_2.length : Int) := od_
               obtain ⟨ad445, e445, hx445_0⟩ := Kd.at_int HR0_2.out (ji30) p445 q445
               have hw445_0 := hx445_0
               obtain rfl : ad441 = ad445 := (by injection e445)
               replace hx445_0 := (HB.out.cell (World.block_lt_of_cell? w _ hx445_0)).trans hx445_0
               replace p445 := eq_true p445
               replace q445 := eq_true q445
               refine start_ (n := 36) (S := fun w' => w'.cell? ⟨gb435, 0, none⟩ = some (.int .i64 a0_0) ∧ w'.cell? ⟨gb435, 1, none⟩ = some (.int .i64 a0_1) ∧ w'.cell? ⟨gb435, 2, none⟩ = some (.slice (some ad441) l0_2.length c0_2) ∧ w'.cell? ⟨gb435, 3, none⟩ = some (.slice (some ad442) l0_3.length c0_3) ∧ w'.cell? (ad441.add (x5_2).toNat) = some (.int .i64 (rd l0_2 x5_2)) ∧ w'.cell? (ad442.add (x5_2).toNat) = some (.int .i64 (rd l0_3 x5_2)) ∧ w'.cell? (ad441.add (x5_2).toNat) = some (.int .i64 (rd l0_2 x5_2)) ∧ w'.cell? (ad441.add ((ji30)).toNat) = some (.int .i64 (rd l0_2 (ji30)))) (ds := []) (bA 36 0) (by kernel_rfl) rfl rfl ⟨(blk_cell BK435.out 0).trans rfl, (blk_cell BK435.out 1).trans rfl, (blk_cell BK435.out 2).trans rfl, (blk_cell BK435.out 3).trans rfl, ((HB.out.cell (World.block_lt_of_cell? w _ hw441_0)).trans hw441_0), ((HB.out.cell (World.block_lt_of_cell? w _ hw442_0)).trans hw442_0), ((HB.out.cell (World.block_lt_of_cell? w _ hw444_0)).trans hw444_0), ((HB.out.cell (World.block_lt_of_cell? w _ hw445_0)).trans hw445_0)⟩ (fun hHeld => ?_); refine with_tabW spec_ProofOk.tab10 spec_ProofOk.bits10 (fun HT_ HW_ => ?_)
               generalize wr.drew = w35 at BK435 HB hx441_0 hx442_0 hx444_0 hx445_0 hHeld ⊢
               refine pv (i := 0) (N := some 45) (bA 36 1) rfl rfl o0 ?_
               refine pv (i := 2) (N := some 47) (bA 36 5) rfl rfl o0 ?_
               refine pv (i := 4) (N := some 49) (bA 36 21) rfl rfl o0 ?_
               refine pv (i := 6) (N := some 51) (bA 36 85) rfl rfl o0 ?_
               refine pv (i := 9) (N := some 54) (bA 36 597) rfl rfl o0 ?_
               refine pv (i := 11) (N := some 56) (bA 36 2645) rfl rfl o0 ?_
               refine pv (i := 15) (N := some 60) (bA 36 35413) rfl rfl o0 ?_
               refine take_ (i := 1) (N := some 46) (v := ?_) (a' := ?_) (bA 36 35415) rfl rfl o5 (fun _ _ _ h => h) (Or.inl ⟨(by rfl), ?_⟩) hHeld ?_ ?_
               rotate_left
               ·rintro w' ⟨s0, s1, s2, s3, s4, s5, s6, s7⟩
                go_simp
                with_reducible rfl
               rotate_left
               ·simp only [sp_]
                rfl
               refine take_ (i := 3) (N := some 48) (v := ?_) (a' := ?_) (bA 36 35423) rfl rfl o5 (fun _ _ _ h => h) (Or.inl ⟨(by rfl), ?_⟩) hHeld ?_ ?_
               rotate_left
               ·rintro w' ⟨s0, s1, s2, s3, s4, s5, s6, s7⟩
                go_simp
                with_reducible rfl
               rotate_left
               ·simp only [sp_]
                rfl
               refine take_ (i := 5) (N := some 50) (v := ?_) (a' := ?_) (bA 36 35455) rfl rfl o5 (fun _ _ _ h => h) (Or.inl ⟨(by rfl), ?_⟩) hHeld ?_ ?_
               rotate_left
               ·rintro w' ⟨s0, s1, s2, s3, s4, s5, s6, s7⟩
                go_simp
                with_reducible rfl
               rotate_left
               ·simp only [sp_]
                rfl
               refine pv (i := 7) (N := some 52) (bA 36 35583) rfl rfl o0 ?_
               refine take_ (i := 8) (N := some 53) (v := ?_) (a' := ?_) (bA 36 35839) rfl rfl o5 (fun _ _ _ h => h) (Or.inl ⟨(by rfl), ?_⟩) hHeld ?_ ?_
               rotate_left
               ·rintro w' ⟨s0, s1, s2, s3, s4, s5, s6, s7⟩
                go_simp
                with_reducible rfl
               rotate_left
               ·simp only [sp_]
                rfl
               refine take_ (i := 10) (N := some 55) (v := ?_) (a' := ?_) (bA 36 36863) rfl rfl o5 (fun _ _ _ h => h) (Or.inl ⟨(by rfl), ?_⟩) hHeld ?_ ?_
               rotate_left
               ·rintro w' ⟨s0, s1, s2, s3, s4, s5, s6, s7⟩
                go_simp
                with_reducible rfl
               rotate_left
               ·simp only [sp_]
                rfl
               refine pv (i := 12) (N := some 57) (bA 36 40959) rfl rfl o0 ?_
               refine take_ (i := 13) (N := some 58) (v := ?_) (a' := ?_) (bA 36 49151) rfl rfl o5 (fun _ _ _ h => h) (Or.inl ⟨(by rfl), ?_⟩) hHeld ?_ ?_
               rotate_left
               ·rintro w' ⟨s0, s1, s2, s3, s4, s5, s6, s7⟩
                go_simp
                with_reducible rfl
               rotate_left
               ·simp only [sp_]
                rfl
               refine pv (i := 14) (N := some 59) (bA 36 65535) rfl rfl o0 ?_
               refine one_ (i := 16) (N := some 61) (bA 36 131071) rfl rfl (one_of HT_.out (by kernel_rfl)) (by decide) (fun K hK => ?_)
               refine goes_ Tryd.func26 (by kernel_rfl) rfl #[.agg #[.int .i64 a0_0, .int .i64 a0_1, .int .i64 (rd l0_2 x5_2), .int .i64 (rd l0_3 x5_2)], .int .i64 a1] (by rfl) rfl rfl d0 ?_
               with_reducible refine (spec_VoteOk.calls k2 a0_0 a0_1 (rd l0_2 x5_2) (rd l0_3 x5_2) a1 true _ A27.out).mono ?_
               rintro e w36 ⟨rfl, hb⟩
               refine ⟨_, rfl, ?_⟩
               have n0_ := Aside0.mk (blk_below (g := gb435) (o := .cells #[.int .i64 a0_0, .int .i64 a0_1, .slice (some ad441) l0_2.length c0_2, .slice (some ad442) l0_3.length c0_3] 26 (0, 0)) d91 hb)
               have n1_ := Aside0.mk (below_step d78 hb)
               clear BK435
               clear HB
               have BK435 := n0_
               have HB := n1_
               clear n0_ n1_
               (try clear hb)
               (try clear hb2)
               (try clear hk)
               (try clear hi)
               refine hK.out _ _ ⟨(blk_cell BK435.out 0).trans rfl, (blk_cell BK435.out 1).trans rfl, (blk_cell BK435.out 2).trans rfl, (blk_cell BK435.out 3).trans rfl, ((HB.out.cell (World.block_lt_of_cell? w _ hw441_0)).trans hw441_0), ((HB.out.cell (World.block_lt_of_cell? w _ hw442_0)).trans hw442_0), ((HB.out.cell (World.block_lt_of_cell? w _ hw444_0)).trans hw444_0), ((HB.out.cell (World.block_lt_of_cell? w _ hw445_0)).trans hw445_0)⟩ (fun hHeld => ?_)
               clear hK K
               refine norm_ (a' := ?_) ?_ ?_
               rotate_left
               ·show Act.put _ (some 61) _ = _
                simp only [sp_]
                rfl
               refine pv (i := 17) (N := some 62) (bA 36 262143) rfl rfl o0 ?_
               refine pv (i := 18) (N := some 63) (bA 36 524287) rfl rfl o0 ?_
               refine pv (i := 19) (N := some 64) (bA 36 1048575) rfl rfl o0 ?_
               refine pv (i := 20) (N := some 65) (bA 36 2097151) rfl rfl o0 ?_
               refine pv (i := 21) (N := some 66) (bA 36 4194303) rfl rfl o0 ?_
               refine pv (i := 22) (N := some 67) (bA 36 8388607) rfl rfl o0 ?_
               refine pv (i := 24) (N := some 69) (bA 36 25165823) rfl rfl o0 ?_
               refine pv (i := 27) (N := some 72) (bA 36 159383551) rfl rfl o0 ?_
               refine pv (i := 29) (N := some 74) (bA 36 696254463) rfl rfl o0 ?_
               refine pv (i := 30) (N := some 75) (bA 36 1769996287) rfl rfl o0 ?_
               refine take_ (i := 23) (N := some 68) (v := ?_) (a' := ?_) (bA 36 1778384895) rfl rfl o5 (fun _ _ _ h => h) (Or.inl ⟨(by rfl), ?_⟩) hHeld ?_ ?_
               rotate_left
               ·rintro w' ⟨s0, s1, s2, s3, s4, s5, s6, s7⟩
                go_simp
                with_reducible rfl
               rotate_left
               ·simp only [sp_]
                rfl
               refine pv (i := 25) (N := some 70) (bA 36 1811939327) rfl rfl o0 ?_
               refine take_ (i := 26) (N := some 71) (v := ?_) (a' := ?_) (bA 36 1879048191) rfl rfl o5 (fun _ _ _ h => h) (Or.inl ⟨(by rfl), ?_⟩) hHeld ?_ ?_
               rotate_left
               ·rintro w' ⟨s0, s1, s2, s3, s4, s5, s6, s7⟩
                go_simp
                with_reducible rfl
               rotate_left
               ·simp only [sp_]
                rfl
               refine take_ (i := 28) (N := some 73) (v := ?_) (a' := ?_) (bA 36 2147483647) rfl rfl o5 (fun _ _ _ h => h) (Or.inl ⟨(by rfl), ?_⟩) hHeld ?_ ?_
               rotate_left
               ·rintro w' ⟨s0, s1, s2, s3, s4, s5, s6, s7⟩
                go_simp
                with_reducible rfl
               rotate_left
               ·simp only [sp_]
                rfl
               refine pv (i := 31) (N := some 76) (bA 36 4294967295) rfl rfl o0 ?_
               refine take_ (i := 32) (N := some 77) (v := ?_) (a' := ?_) (bA 36 8589934591) rfl rfl o5 (fun _ _ _ h => h) (Or.inl ⟨(by rfl), ?_⟩) hHeld ?_ ?_
               rotate_left
               ·rintro w' ⟨s0, s1, s2, s3, s4, s5, s6, s7⟩
                go_simp
                with_reducible rfl
               rotate_left
               ·simp only [sp_]
                rfl
               refine pv (i := 33) (N := some 78) (bA 36 17179869183) rfl rfl o0 ?_
               refine pv (i := 34) (N := some 79) (bA 36 34359738367) rfl rfl o0 ?_
               refine pv (i := 35) (N := some 80) (bA 36 68719476735) rfl rfl o0 ?_
               refine done_ (done_of HT_.out (by kernel_rfl)) ?_
               go_upto_if 80 with (fail)
               have H := HC33.out
               clear HC33
               by_cases c37 : (rd l0_2 x5_2) ≤ (rd l0_2 (ji30))
               ·rw [if_pos c37] at H
                have c37b0 : decide ((rd l0_2 x5_2) ≤ (rd l0_2 (ji30))) = true := decide_eq_true c37
                clear c37
                (first | rw [c37b0] | (simp only [i64_w, i32_w]; rw [c37b0]) | skip)
                obtain rfl := Option.some.inj H
                go_wp2
                go_ret
                exact ⟨(by first | rfl | (simp [errW_none, errW_some] <;> rfl) | (simp only [← hji30]; first | rfl | (simp [errW_none, errW_some] <;> rfl)) | (simp [*, errW_none, errW_some] <;> rfl)), o15⟩
               ·rw [if_neg c37] at H
                have c37b0 : decide ((rd l0_2 x5_2) ≤ (rd l0_2 (ji30))) = false := decide_eq_false c37
                clear c37
                (first | rw [c37b0] | (simp only [i64_w, i32_w]; rw [c37b0]) | skip)
                have H' := Aside0.mk H
                clear H
                go_wp2
                go_roundg k2
                case measure => have := HJ11.out; have := HK2.out; omega
                case rel => exact ⟨(wrap64 (x5_2 + 1)), d9, H', ⟨(by have := HJ11.out; have := HK2.out; omega)⟩, ⟨o37⟩, ⟨o15⟩⟩
              ·rw [if_neg c32] at H
               exact absurd H (by simp)
             ·rw [if_neg c31] at H
              exact absurd H (by simp)
            ·rw [if_neg c29] at H
             have c29b0 : decide (0 < x5_2) = false := decide_eq_false c29
             clear c29
             have H' := Aside0.mk H
             clear H
             have hcz38_0 : wr.cell? ⟨gb435, 0, none⟩ = some (.int .i64 a0_0) := (blk_cell BK435.out 0).trans rfl
             have hcz38_1 : wr.cell? ⟨gb435, 1, none⟩ = some (.int .i64 a0_1) := (blk_cell BK435.out 1).trans rfl
             have hcz38_2 : wr.cell? ⟨gb435, 2, none⟩ = some (.slice A0_2 l0_2.length c0_2) := (blk_cell BK435.out 2).trans rfl
             have hcz38_3 : wr.cell? ⟨gb435, 3, none⟩ = some (.slice A0_3 l0_3.length c0_3) := (blk_cell BK435.out 3).trans rfl
             have hfz38_0 := blk_frozen BK435.out 0
             have hfz38_1 := blk_frozen BK435.out 1
             have hfz38_2 := blk_frozen BK435.out 2
             have hfz38_3 := blk_frozen BK435.out 3
             try go_wp2
             have n0_ := Aside0.mk (blk_drew BK435.out)
             have n1_ := Aside0.mk (below_drew1 HB.out)
             clear BK435
             clear HB
             have BK435 := n0_
             have HB := n1_
             clear n0_ n1_
             have p441 : 0 ≤ (x5_2 : Int) := od_
             have q441 : x5_2 < (l0_2.length : Int) := od_
             obtain ⟨ad441, e441, hx441_0⟩ := Kd.at_int HR0_2.out x5_2 p441 q441
             have hw441_0 := hx441_0
             cases e441
             replace hx441_0 := (HB.out.cell (World.block_lt_of_cell? w _ hx441_0)).trans hx441_0
             replace p441 := eq_true p441
             replace q441 := eq_true q441
             have p442 : 0 ≤ (x5_2 : Int) := od_
             have q442 : x5_2 < (l0_3.length : Int) := od_
             obtain ⟨ad442, e442, hx442_0⟩ := Kd.at_int HR0_3.out x5_2 p442 q442
             have hw442_0 := hx442_0
             cases e442
             replace hx442_0 := (HB.out.cell (World.block_lt_of_cell? w _ hx442_0)).trans hx442_0
             replace p442 := eq_true p442
             replace q442 := eq_true q442
             refine start_ (n := 36) (S := fun w' => w'.cell? ⟨gb435, 0, none⟩ = some (.int .i64 a0_0) ∧ w'.cell? ⟨gb435, 1, none⟩ = some (.int .i64 a0_1) ∧ w'.cell? ⟨gb435, 2, none⟩ = some (.slice (some ad441) l0_2.length c0_2) ∧ w'.cell? ⟨gb435, 3, none⟩ = some (.slice (some ad442) l0_3.length c0_3) ∧ w'.cell? (ad441.add (x5_2).toNat) = some (.int .i64 (rd l0_2 x5_2)) ∧ w'.cell? (ad442.add (x5_2).toNat) = some (.int .i64 (rd l0_3 x5_2))) (ds := []) (bA 36 0) (by kernel_rfl) rfl rfl ⟨(blk_cell BK435.out 0).trans rfl, (blk_cell BK435.out 1).trans rfl, (blk_cell BK435.out 2).trans rfl, (blk_cell BK435.out 3).trans rfl, ((HB.out.cell (World.block_lt_of_cell? w _ hw441_0)).trans hw441_0), ((HB.out.cell (World.block_lt_of_cell? w _ hw442_0)).trans hw442_0)⟩ (fun hHeld => ?_); refine with_tabW spec_ProofOk.tab10 spec_ProofOk.bits10 (fun HT_ HW_ => ?_)
             generalize wr.drew = w39 at BK435 HB hx441_0 hx442_0 hHeld ⊢
             refine pv (i := 0) (N := some 45) (bA 36 1) rfl rfl o0 ?_
             refine pv (i := 2) (N := some 47) (bA 36 5) rfl rfl o0 ?_
             refine pv (i := 4) (N := some 49) (bA 36 21) rfl rfl o0 ?_
             refine pv (i := 6) (N := some 51) (bA 36 85) rfl rfl o0 ?_
             refine pv (i := 9) (N := some 54) (bA 36 597) rfl rfl o0 ?_
             refine pv (i := 11) (N := some 56) (bA 36 2645) rfl rfl o0 ?_
             refine pv (i := 15) (N := some 60) (bA 36 35413) rfl rfl o0 ?_
             refine take_ (i := 1) (N := some 46) (v := ?_) (a' := ?_) (bA 36 35415) rfl rfl o5 (fun _ _ _ h => h) (Or.inl ⟨(by rfl), ?_⟩) hHeld ?_ ?_
             rotate_left
             ·rintro w' ⟨s0, s1, s2, s3, s4, s5⟩
              go_simp
              with_reducible rfl
             rotate_left
             ·simp only [sp_]
              rfl
             refine take_ (i := 3) (N := some 48) (v := ?_) (a' := ?_) (bA 36 35423) rfl rfl o5 (fun _ _ _ h => h) (Or.inl ⟨(by rfl), ?_⟩) hHeld ?_ ?_
             rotate_left
             ·rintro w' ⟨s0, s1, s2, s3, s4, s5⟩
              go_simp
              with_reducible rfl
             rotate_left
             ·simp only [sp_]
              rfl
             refine take_ (i := 5) (N := some 50) (v := ?_) (a' := ?_) (bA 36 35455) rfl rfl o5 (fun _ _ _ h => h) (Or.inl ⟨(by rfl), ?_⟩) hHeld ?_ ?_
             rotate_left
             ·rintro w' ⟨s0, s1, s2, s3, s4, s5⟩
              go_simp
              with_reducible rfl
             rotate_left
             ·simp only [sp_]
              rfl
             refine pv (i := 7) (N := some 52) (bA 36 35583) rfl rfl o0 ?_
             refine take_ (i := 8) (N := some 53) (v := ?_) (a' := ?_) (bA 36 35839) rfl rfl o5 (fun _ _ _ h => h) (Or.inl ⟨(by rfl), ?_⟩) hHeld ?_ ?_
             rotate_left
             ·rintro w' ⟨s0, s1, s2, s3, s4, s5⟩
              go_simp
              with_reducible rfl
             rotate_left
             ·simp only [sp_]
              rfl
             refine take_ (i := 10) (N := some 55) (v := ?_) (a' := ?_) (bA 36 36863) rfl rfl o5 (fun _ _ _ h => h) (Or.inl ⟨(by rfl), ?_⟩) hHeld ?_ ?_
             rotate_left
             ·rintro w' ⟨s0, s1, s2, s3, s4, s5⟩
              go_simp
              with_reducible rfl
             rotate_left
             ·simp only [sp_]
              rfl
             refine pv (i := 12) (N := some 57) (bA 36 40959) rfl rfl o0 ?_
             refine take_ (i := 13) (N := some 58) (v := ?_) (a' := ?_) (bA 36 49151) rfl rfl o5 (fun _ _ _ h => h) (Or.inl ⟨(by rfl), ?_⟩) hHeld ?_ ?_
             rotate_left
             ·rintro w' ⟨s0, s1, s2, s3, s4, s5⟩
              go_simp
              with_reducible rfl
             rotate_left
             ·simp only [sp_]
              rfl
             refine pv (i := 14) (N := some 59) (bA 36 65535) rfl rfl o0 ?_
             refine one_ (i := 16) (N := some 61) (bA 36 131071) rfl rfl (one_of HT_.out (by kernel_rfl)) (by decide) (fun K hK => ?_)
             refine goes_ Tryd.func26 (by kernel_rfl) rfl #[.agg #[.int .i64 a0_0, .int .i64 a0_1, .int .i64 (rd l0_2 x5_2), .int .i64 (rd l0_3 x5_2)], .int .i64 a1] (by rfl) rfl rfl d0 ?_
             with_reducible refine (spec_VoteOk.calls k2 a0_0 a0_1 (rd l0_2 x5_2) (rd l0_3 x5_2) a1 true _ A27.out).mono ?_
             rintro e w40 ⟨rfl, hb⟩
             refine ⟨_, rfl, ?_⟩
             have n0_ := Aside0.mk (blk_below (g := gb435) (o := .cells #[.int .i64 a0_0, .int .i64 a0_1, .slice (some ad441) l0_2.length c0_2, .slice (some ad442) l0_3.length c0_3] 26 (0, 0)) d91 hb)
             have n1_ := Aside0.mk (below_step d78 hb)
             clear BK435
             clear HB
             have BK435 := n0_
             have HB := n1_
             clear n0_ n1_
             (try clear hb)
             (try clear hb2)
             (try clear hk)
             (try clear hi)
             refine hK.out _ _ ⟨(blk_cell BK435.out 0).trans rfl, (blk_cell BK435.out 1).trans rfl, (blk_cell BK435.out 2).trans rfl, (blk_cell BK435.out 3).trans rfl, ((HB.out.cell (World.block_lt_of_cell? w _ hw441_0)).trans hw441_0), ((HB.out.cell (World.block_lt_of_cell? w _ hw442_0)).trans hw442_0)⟩ (fun hHeld => ?_)
             clear hK K
             refine norm_ (a' := ?_) ?_ ?_
             rotate_left
             ·show Act.put _ (some 61) _ = _
              simp only [sp_]
              rfl
             refine pv (i := 17) (N := some 62) (bA 36 262143) rfl rfl o0 ?_
             refine pv (i := 18) (N := some 63) (bA 36 524287) rfl rfl o0 ?_
             refine pv (i := 19) (N := some 64) (bA 36 1048575) rfl rfl o0 ?_
             refine pv (i := 20) (N := some 65) (bA 36 2097151) rfl rfl o0 ?_
             refine pv (i := 21) (N := some 66) (bA 36 4194303) rfl rfl o0 ?_
             refine pu (i := 22) (N := some 67) (bA 36 8388607) rfl rfl o0 ?_
             refine pu (i := 23) (N := some 68) (bA 36 16777215) rfl rfl o0 ?_
             refine pu (i := 24) (N := some 69) (bA 36 33554431) rfl rfl o0 ?_
             refine pu (i := 25) (N := some 70) (bA 36 67108863) rfl rfl o0 ?_
             refine pu (i := 26) (N := some 71) (bA 36 134217727) rfl rfl o0 ?_
             refine pu (i := 27) (N := some 72) (bA 36 268435455) rfl rfl o0 ?_
             refine pu (i := 28) (N := some 73) (bA 36 536870911) rfl rfl o0 ?_
             refine pu (i := 29) (N := some 74) (bA 36 1073741823) rfl rfl o0 ?_
             refine pu (i := 30) (N := some 75) (bA 36 2147483647) rfl rfl o0 ?_
             refine pu (i := 31) (N := some 76) (bA 36 4294967295) rfl rfl o0 ?_
             refine pu (i := 32) (N := some 77) (bA 36 8589934591) rfl rfl o0 ?_
             refine pu (i := 33) (N := some 78) (bA 36 17179869183) rfl rfl o0 ?_
             refine pv (i := 34) (N := some 79) (bA 36 34359738367) rfl rfl o0 ?_
             refine pv (i := 35) (N := some 80) (bA 36 68719476735) rfl rfl o0 ?_
             refine done_ (done_of HT_.out (by kernel_rfl)) ?_
             try go_wp2
             go_roundg k2
             case measure => have := HJ11.out; have := HK2.out; omega
             case rel => exact ⟨(wrap64 (x5_2 + 1)), d9, H', ⟨(by have := HJ11.out; have := HK2.out; omega)⟩, ⟨o37⟩, ⟨o15⟩⟩
           ·replace c28 := Bool.eq_false_iff.mpr c28
            subst c28
            have H1 : (some false) = some r := by rw [if_neg (show ¬ (false = true) by decide)] at H; exact H
            clear H
            have H := H1
            clear H1
            obtain rfl := Option.some.inj H
            have hcz41_0 : wr.cell? ⟨gb435, 0, none⟩ = some (.int .i64 a0_0) := (blk_cell BK435.out 0).trans rfl
            have hcz41_1 : wr.cell? ⟨gb435, 1, none⟩ = some (.int .i64 a0_1) := (blk_cell BK435.out 1).trans rfl
            have hcz41_2 : wr.cell? ⟨gb435, 2, none⟩ = some (.slice A0_2 l0_2.length c0_2) := (blk_cell BK435.out 2).trans rfl
            have hcz41_3 : wr.cell? ⟨gb435, 3, none⟩ = some (.slice A0_3 l0_3.length c0_3) := (blk_cell BK435.out 3).trans rfl
            have hfz41_0 := blk_frozen BK435.out 0
            have hfz41_1 := blk_frozen BK435.out 1
            have hfz41_2 := blk_frozen BK435.out 2
            have hfz41_3 := blk_frozen BK435.out 3
            try go_wp2
            have n0_ := Aside0.mk (blk_drew BK435.out)
            have n1_ := Aside0.mk (below_drew1 HB.out)
            clear BK435
            clear HB
            have BK435 := n0_
            have HB := n1_
            clear n0_ n1_
            have p441 : 0 ≤ (x5_2 : Int) := od_
            have q441 : x5_2 < (l0_2.length : Int) := od_
            obtain ⟨ad441, e441, hx441_0⟩ := Kd.at_int HR0_2.out x5_2 p441 q441
            have hw441_0 := hx441_0
            cases e441
            replace hx441_0 := (HB.out.cell (World.block_lt_of_cell? w _ hx441_0)).trans hx441_0
            replace p441 := eq_true p441
            replace q441 := eq_true q441
            have p442 : 0 ≤ (x5_2 : Int) := od_
            have q442 : x5_2 < (l0_3.length : Int) := od_
            obtain ⟨ad442, e442, hx442_0⟩ := Kd.at_int HR0_3.out x5_2 p442 q442
            have hw442_0 := hx442_0
            cases e442
            replace hx442_0 := (HB.out.cell (World.block_lt_of_cell? w _ hx442_0)).trans hx442_0
            replace p442 := eq_true p442
            replace q442 := eq_true q442
            refine start_ (n := 36) (S := fun w' => w'.cell? ⟨gb435, 0, none⟩ = some (.int .i64 a0_0) ∧ w'.cell? ⟨gb435, 1, none⟩ = some (.int .i64 a0_1) ∧ w'.cell? ⟨gb435, 2, none⟩ = some (.slice (some ad441) l0_2.length c0_2) ∧ w'.cell? ⟨gb435, 3, none⟩ = some (.slice (some ad442) l0_3.length c0_3) ∧ w'.cell? (ad441.add (x5_2).toNat) = some (.int .i64 (rd l0_2 x5_2)) ∧ w'.cell? (ad442.add (x5_2).toNat) = some (.int .i64 (rd l0_3 x5_2))) (ds := []) (bA 36 0) (by kernel_rfl) rfl rfl ⟨(blk_cell BK435.out 0).trans rfl, (blk_cell BK435.out 1).trans rfl, (blk_cell BK435.out 2).trans rfl, (blk_cell BK435.out 3).trans rfl, ((HB.out.cell (World.block_lt_of_cell? w _ hw441_0)).trans hw441_0), ((HB.out.cell (World.block_lt_of_cell? w _ hw442_0)).trans hw442_0)⟩ (fun hHeld => ?_); refine with_tabW spec_ProofOk.tab10 spec_ProofOk.bits10 (fun HT_ HW_ => ?_)
            generalize wr.drew = w42 at BK435 HB hx441_0 hx442_0 hHeld ⊢
            refine pv (i := 0) (N := some 45) (bA 36 1) rfl rfl o0 ?_
            refine pv (i := 2) (N := some 47) (bA 36 5) rfl rfl o0 ?_
            refine pv (i := 4) (N := some 49) (bA 36 21) rfl rfl o0 ?_
            refine pv (i := 6) (N := some 51) (bA 36 85) rfl rfl o0 ?_
            refine pv (i := 9) (N := some 54) (bA 36 597) rfl rfl o0 ?_
            refine pv (i := 11) (N := some 56) (bA 36 2645) rfl rfl o0 ?_
            refine pv (i := 15) (N := some 60) (bA 36 35413) rfl rfl o0 ?_
            refine take_ (i := 1) (N := some 46) (v := ?_) (a' := ?_) (bA 36 35415) rfl rfl o5 (fun _ _ _ h => h) (Or.inl ⟨(by rfl), ?_⟩) hHeld ?_ ?_
            rotate_left
            ·rintro w' ⟨s0, s1, s2, s3, s4, s5⟩
             go_simp
             with_reducible rfl
            rotate_left
            ·simp only [sp_]
             rfl
            refine take_ (i := 3) (N := some 48) (v := ?_) (a' := ?_) (bA 36 35423) rfl rfl o5 (fun _ _ _ h => h) (Or.inl ⟨(by rfl), ?_⟩) hHeld ?_ ?_
            rotate_left
            ·rintro w' ⟨s0, s1, s2, s3, s4, s5⟩
             go_simp
             with_reducible rfl
            rotate_left
            ·simp only [sp_]
             rfl
            refine take_ (i := 5) (N := some 50) (v := ?_) (a' := ?_) (bA 36 35455) rfl rfl o5 (fun _ _ _ h => h) (Or.inl ⟨(by rfl), ?_⟩) hHeld ?_ ?_
            rotate_left
            ·rintro w' ⟨s0, s1, s2, s3, s4, s5⟩
             go_simp
             with_reducible rfl
            rotate_left
            ·simp only [sp_]
             rfl
            refine pv (i := 7) (N := some 52) (bA 36 35583) rfl rfl o0 ?_
            refine take_ (i := 8) (N := some 53) (v := ?_) (a' := ?_) (bA 36 35839) rfl rfl o5 (fun _ _ _ h => h) (Or.inl ⟨(by rfl), ?_⟩) hHeld ?_ ?_
            rotate_left
            ·rintro w' ⟨s0, s1, s2, s3, s4, s5⟩
             go_simp
             with_reducible rfl
            rotate_left
            ·simp only [sp_]
             rfl
            refine take_ (i := 10) (N := some 55) (v := ?_) (a' := ?_) (bA 36 36863) rfl rfl o5 (fun _ _ _ h => h) (Or.inl ⟨(by rfl), ?_⟩) hHeld ?_ ?_
            rotate_left
            ·rintro w' ⟨s0, s1, s2, s3, s4, s5⟩
             go_simp
             with_reducible rfl
            rotate_left
            ·simp only [sp_]
             rfl
            refine pv (i := 12) (N := some 57) (bA 36 40959) rfl rfl o0 ?_
            refine take_ (i := 13) (N := some 58) (v := ?_) (a' := ?_) (bA 36 49151) rfl rfl o5 (fun _ _ _ h => h) (Or.inl ⟨(by rfl), ?_⟩) hHeld ?_ ?_
            rotate_left
            ·rintro w' ⟨s0, s1, s2, s3, s4, s5⟩
             go_simp
             with_reducible rfl
            rotate_left
            ·simp only [sp_]
             rfl
            refine pv (i := 14) (N := some 59) (bA 36 65535) rfl rfl o0 ?_
            refine one_ (i := 16) (N := some 61) (bA 36 131071) rfl rfl (one_of HT_.out (by kernel_rfl)) (by decide) (fun K hK => ?_)
            refine goes_ Tryd.func26 (by kernel_rfl) rfl #[.agg #[.int .i64 a0_0, .int .i64 a0_1, .int .i64 (rd l0_2 x5_2), .int .i64 (rd l0_3 x5_2)], .int .i64 a1] (by rfl) rfl rfl d0 ?_
            with_reducible refine (spec_VoteOk.calls k2 a0_0 a0_1 (rd l0_2 x5_2) (rd l0_3 x5_2) a1 false _ A27.out).mono ?_
            rintro e w43 ⟨rfl, hb⟩
            refine ⟨_, rfl, ?_⟩
            have n0_ := Aside0.mk (blk_below (g := gb435) (o := .cells #[.int .i64 a0_0, .int .i64 a0_1, .slice (some ad441) l0_2.length c0_2, .slice (some ad442) l0_3.length c0_3] 26 (0, 0)) d91 hb)
            have n1_ := Aside0.mk (below_step d78 hb)
            clear BK435
            clear HB
            have BK435 := n0_
            have HB := n1_
            clear n0_ n1_
            (try clear hb)
            (try clear hb2)
            (try clear hk)
            (try clear hi)
            refine hK.out _ _ ⟨(blk_cell BK435.out 0).trans rfl, (blk_cell BK435.out 1).trans rfl, (blk_cell BK435.out 2).trans rfl, (blk_cell BK435.out 3).trans rfl, ((HB.out.cell (World.block_lt_of_cell? w _ hw441_0)).trans hw441_0), ((HB.out.cell (World.block_lt_of_cell? w _ hw442_0)).trans hw442_0)⟩ (fun hHeld => ?_)
            clear hK K
            refine norm_ (a' := ?_) ?_ ?_
            rotate_left
            ·show Act.put _ (some 61) _ = _
             simp only [sp_]
             rfl
            refine pv (i := 17) (N := some 62) (bA 36 262143) rfl rfl o0 ?_
            refine pv (i := 18) (N := some 63) (bA 36 524287) rfl rfl o0 ?_
            refine pu (i := 19) (N := some 64) (bA 36 1048575) rfl rfl o0 ?_
            refine pu (i := 20) (N := some 65) (bA 36 2097151) rfl rfl o0 ?_
            refine pu (i := 21) (N := some 66) (bA 36 4194303) rfl rfl o0 ?_
            refine pu (i := 22) (N := some 67) (bA 36 8388607) rfl rfl o0 ?_
            refine pu (i := 23) (N := some 68) (bA 36 16777215) rfl rfl o0 ?_
            refine pu (i := 24) (N := some 69) (bA 36 33554431) rfl rfl o0 ?_
            refine pu (i := 25) (N := some 70) (bA 36 67108863) rfl rfl o0 ?_
            refine pu (i := 26) (N := some 71) (bA 36 134217727) rfl rfl o0 ?_
            refine pu (i := 27) (N := some 72) (bA 36 268435455) rfl rfl o0 ?_
            refine pu (i := 28) (N := some 73) (bA 36 536870911) rfl rfl o0 ?_
            refine pu (i := 29) (N := some 74) (bA 36 1073741823) rfl rfl o0 ?_
            refine pu (i := 30) (N := some 75) (bA 36 2147483647) rfl rfl o0 ?_
            refine pu (i := 31) (N := some 76) (bA 36 4294967295) rfl rfl o0 ?_
            refine pu (i := 32) (N := some 77) (bA 36 8589934591) rfl rfl o0 ?_
            refine pu (i := 33) (N := some 78) (bA 36 17179869183) rfl rfl o0 ?_
            refine pu (i := 34) (N := some 79) (bA 36 34359738367) rfl rfl o0 ?_
            refine pv (i := 35) (N := some 80) (bA 36 68719476735) rfl rfl o0 ?_
            refine done_ (done_of HT_.out (by kernel_rfl)) ?_
            try go_wp2
            go_ret
            exact ⟨o2, o15⟩
          ·rw [if_neg c26] at H
           exact absurd H (by simp)
         ·rw [if_neg c25] at H
          exact absurd H (by simp)
        ·rw [if_neg c24] at H
         have c24b0 : decide (x5_2 < (l0_2.length : Int)) = false := decide_eq_false c24
         clear c24
         obtain rfl := Option.some.inj H
         have hcz44_0 : wr.cell? ⟨gb435, 0, none⟩ = some (.int .i64 a0_0) := (blk_cell BK435.out 0).trans rfl
         have hcz44_1 : wr.cell? ⟨gb435, 1, none⟩ = some (.int .i64 a0_1) := (blk_cell BK435.out 1).trans rfl
         have hcz44_2 : wr.cell? ⟨gb435, 2, none⟩ = some (.slice A0_2 l0_2.length c0_2) := (blk_cell BK435.out 2).trans rfl
         have hcz44_3 : wr.cell? ⟨gb435, 3, none⟩ = some (.slice A0_3 l0_3.length c0_3) := (blk_cell BK435.out 3).trans rfl
         have hfz44_0 := blk_frozen BK435.out 0
         have hfz44_1 := blk_frozen BK435.out 1
         have hfz44_2 := blk_frozen BK435.out 2
         have hfz44_3 := blk_frozen BK435.out 3
         go_wp2
         go_ret
         exact ⟨o2, o15⟩
 ·replace c6 := Bool.eq_false_iff.mpr c6
  subst c6
  have H1 : (some false) = some r := by rw [if_neg (show ¬ (false = true) by decide)] at H; exact H
  clear H
  have H := H1
  clear H1
  obtain rfl := Option.some.inj H
  go_wp2
  go_ret
  exact ⟨o2, o15⟩

end Go.Proofs.YtokfpmkhfindmaaDoor.PFnProofs
