-- Written by a program of this session (wip/tools/pp.py over the kit's print).
import Derived.Test.YtokhjhkkncbjeaaDoorVFnBlocks
import Derived.Test.YtokhjhkkncbjeaaDoorPFnBlocksx0
import Derived.Test.YtokhjhkkncbjeaaDoorPFnBlocksx2
import Derived.Test.YtokhjhkkncbjeaaDoorPFnBlocksx3
import Derived.Test.YtokhjhkkncbjeaaDoorPFnBlocksx4
import Derived.Test.YtokhjhkkncbjeaaDoorPFnBlocksx23
namespace Go.Proofs.YtokhjhkkncbjeaaDoor.PFnBlocks
open Go.RowKit Go.Proofs.YtokhjhkkncbjeaaDoorW.PrintWords Go.Proofs.YtokhjhkkncbjeaaDoorW.PrintLast Go.Proofs.YtokhjhkkncbjeaaDoorW.PrintMore
attribute [local go_sem] max2_int min2_int max_two min_two max_three min_three max_four min_four
attribute [local go_sem high] str_gtr str_leq str_geq
set_option linter.unusedVariables false
set_option linter.unusedSimpArgs false

/-! ### spec_ProofOk: function 42 -/
mutual
def spec_ProofOk.j0 : Nat → Int → Bool → Int → Int → List Int → List Int → Option (Bool)
 | 0, _, _, _, _, _, _ => none
 | k + 1, x1, x37, x646000, x646001, x646002, x646003 => if x37 = true then (some false) else (spec_ProofOk.l0 k x1 0 x646000 x646001 x646002 x646003)
def spec_ProofOk.l0 : Nat → Int → Int → Int → Int → List Int → List Int → Option (Bool)
 | 0, _, _, _, _, _, _ => none
 | k + 1, x1, x5, x646000, x646001, x646002, x646003 => if x5 < (x646002.length : Int) then (if 0 ≤ x5 then (if x5 < (x646003.length : Int) then ((spec_VoteOk.f k x646000 x646001 (rd x646002 x5) (rd x646003 x5) x1).bind fun t653 => (if t653 = true then (if x5 > 0 then (if 0 ≤ (wrap64 (x5 - 1)) then (if (wrap64 (x5 - 1)) < (x646002.length : Int) then (if (rd x646002 x5) ≤ (rd x646002 (wrap64 (x5 - 1))) then (some false) else (spec_ProofOk.l0 k x1 (wrap64 (x5 + 1)) x646000 x646001 x646002 x646003)) else (none)) else (none)) else (spec_ProofOk.l0 k x1 (wrap64 (x5 + 1)) x646000 x646001 x646002 x646003)) else (some false))) else (none)) else (none)) else (some true)
end
def spec_ProofOk.f (k : Nat) (a0_0 : Int) (a0_1 : Int) (l0_2 : List Int) (l0_3 : List Int) (a1 : Int) : Option (Bool) := (spec_l15Servers.f a1).bind fun t646 => (if t646 = true then ((spec_l15First.f a0_0 a0_1 l0_2 l0_3).bind fun t647 => (if t647 = true then (some true) else ((spec_l1In.f a0_0 1 100000).bind fun t648 => (if t648 = true then ((spec_l15Name.f a0_1).bind fun t649 => (if t649 = true then ((spec_Quorum.f a1).bind fun t650 => (if (l0_2.length : Int) < t650 then (spec_ProofOk.j0 k a1 true a0_0 a0_1 l0_2 l0_3) else (spec_ProofOk.j0 k a1 ((l0_2.length : Int) != (l0_3.length : Int)) a0_0 a0_1 l0_2 l0_3))) else (spec_ProofOk.j0 k a1 true a0_0 a0_1 l0_2 l0_3))) else (spec_ProofOk.j0 k a1 true a0_0 a0_1 l0_2 l0_3))))) else (some false))
theorem spec_ProofOk.mono_l : ∀ k, (∀ y0 y1 y2 y3 y4 y5, LeO (spec_ProofOk.j0 k y0 y1 y2 y3 y4 y5) (spec_ProofOk.j0 (k + 1) y0 y1 y2 y3 y4 y5)) ∧ (∀ y0 y1 y2 y3 y4 y5, LeO (spec_ProofOk.l0 k y0 y1 y2 y3 y4 y5) (spec_ProofOk.l0 (k + 1) y0 y1 y2 y3 y4 y5))
 | 0 => ⟨fun _ _ _ _ _ _ r h => by simp [spec_ProofOk.j0] at h, fun _ _ _ _ _ _ r h => by simp [spec_ProofOk.l0] at h⟩
 | k + 1 => by
  obtain ⟨ih0, ih1⟩ := spec_ProofOk.mono_l k
  refine ⟨?_, ?_⟩
  ·intro y0 y1 y2 y3 y4 y5
   unfold spec_ProofOk.j0
   repeat' with_reducible first
   | exact ih0 _ _ _ _ _ _
   | exact ih1 _ _ _ _ _ _
   | exact spec_VoteOk.mono _ _ _ _ _ _
   | exact LeO.refl _
   | exact LeO.none _
   | refine LeO.ite ?_ ?_
   | refine LeO.bind ?_ (fun _ => ?_)
  ·intro y0 y1 y2 y3 y4 y5
   unfold spec_ProofOk.l0
   repeat' with_reducible first
   | exact ih0 _ _ _ _ _ _
   | exact ih1 _ _ _ _ _ _
   | exact spec_VoteOk.mono _ _ _ _ _ _
   | exact LeO.refl _
   | exact LeO.none _
   | refine LeO.ite ?_ ?_
   | refine LeO.bind ?_ (fun _ => ?_)
theorem spec_ProofOk.mono : ∀ a0 a1 a2 a3 a4 k, LeO (spec_ProofOk.f k a0 a1 a2 a3 a4) (spec_ProofOk.f (k + 1) a0 a1 a2 a3 a4) := by
 intro a0 a1 a2 a3 a4 k
 obtain ⟨ih0, ih1⟩ := spec_ProofOk.mono_l k
 unfold spec_ProofOk.f
 repeat' with_reducible first
   | exact ih0 _ _ _ _ _ _
   | exact ih1 _ _ _ _ _ _
   | exact spec_VoteOk.mono _ _ _ _ _ _
   | exact LeO.refl _
   | exact LeO.none _
   | refine LeO.ite ?_ ?_
   | refine LeO.bind ?_ (fun _ => ?_)
def spec_ProofOk.T5 : Bool × List (List Nat × List Nat) := (true, [([], []), ([0], [0]), ([1], [1]), ([2], [2]), ([3, 2], [3]), ([4], [4]), ([5, 4], [4, 5]), ([6, 4, 4], [4, 6]), ([7, 4], [4, 7]), ([4, 8], [4, 8]), ([9, 7], [9]), ([10], [10]), ([11, 10], [10, 11]), ([12, 10], [10, 12]), ([10], [10]), ([14, 10, 10], [10, 14]), ([13, 15, 10], [10, 13, 15]), ([10, 16], [10, 16]), ([17, 15], [17]), ([18], [18]), ([19, 18], [18, 19]), ([20, 18], [18, 20]), ([18], [18]), ([22, 18], [18, 22]), ([23, 18], [18, 23]), ([21, 24, 18], [18, 21, 24]), ([18, 25], [18, 25])])
def spec_ProofOk.B5 : List Nat := [0, 1, 3, 7, 15, 31, 63, 127, 255, 511, 1023, 2047, 4095, 8191, 2047, 18431, 65535, 131071, 262143, 524287, 1048575, 2097151, 524287, 4718591, 13107199, 33554431, 67108863]
theorem spec_ProofOk.tab5 : rtab .any (opsOf Tryd.f42 5) = spec_ProofOk.T5 := by kernel_rfl
theorem spec_ProofOk.bits5 : waitsOk spec_ProofOk.T5.2 spec_ProofOk.B5 = true := by kernel_rfl
def spec_ProofOk.T10 : Bool × List (List Nat × List Nat) := (true, [([], []), ([0], [0]), ([], []), ([2], [2]), ([], []), ([4], [4]), ([], []), ([5, 6], [5, 6]), ([7], [7]), ([], []), ([9], [9]), ([], []), ([10, 11], [10, 11]), ([12], [12]), ([1, 3, 8, 13], [1, 3, 8, 13]), ([], []), ([14, 15], [14, 15]), ([16], [16]), ([17, 16], [17]), ([18], [18]), ([19, 18], [18, 19]), ([20, 18, 18], [18, 20]), ([21], [21]), ([22, 21], [21, 22]), ([21], [21]), ([23, 24, 21], [21, 23, 24]), ([25, 21], [21, 25]), ([21], [21]), ([27, 21], [21, 27]), ([21], [21]), ([29, 21], [21, 29]), ([28, 30, 21], [21, 28, 30]), ([31, 21], [21, 31]), ([26, 32, 21], [21, 26, 32]), ([21, 33, 18], [18, 21, 33]), ([18, 34], [18, 34])])
def spec_ProofOk.B10 : List Nat := [0, 1, 0, 4, 0, 16, 0, 112, 240, 0, 512, 0, 3584, 7680, 16383, 0, 65535, 131071, 262143, 524287, 1048575, 2097151, 4194303, 8388607, 4194303, 33554431, 67108863, 4194303, 138412031, 4194303, 541065215, 2017460223, 4164943871, 8589934591, 17179869183, 34359738367]
theorem spec_ProofOk.tab10 : rtab .any (opsOf Tryd.f42 10) = spec_ProofOk.T10 := by kernel_rfl
theorem spec_ProofOk.bits10 : waitsOk spec_ProofOk.T10.2 spec_ProofOk.B10 = true := by kernel_rfl
set_option maxHeartbeats 8000000 in
set_option maxRecDepth 100000 in
theorem spec_ProofOk.calls (k : Nat) (a0_0 : Int) (a0_1 : Int) (A0_2 : Option Addr) (c0_2 : Nat) (l0_2 : List Int) (A0_3 : Option Addr) (c0_3 : Nat) (l0_3 : List Int) (a1 : Int) (r : Bool) (w : World) (hr0_2 : Kd.C (Kd.int .i64) w A0_2 l0_2.length l0_2) (hc0_2 : l0_2.length ≤ c0_2) (hr0_3 : Kd.C (Kd.int .i64) w A0_3 l0_3.length l0_3) (hc0_3 : l0_3.length ≤ c0_3) (h : spec_ProofOk.f k a0_0 a0_1 l0_2 l0_3 a1 = some r) :
  Calls Tryd.prog 42 #[.agg #[.int .i64 a0_0, .int .i64 a0_1, .slice A0_2 l0_2.length c0_2, .slice A0_3 l0_3.length c0_3], .int .i64 a1] w fun e w' => e = .returned (.bool r) ∧ Below w.heap.size w w' := by
 have hu26 := Tryd.underlying26
 have hu86 := Tryd.underlying86
 have HR0_2 := Aside0.mk hr0_2
 have HC0_2 := Aside0.mk hc0_2
 clear hr0_2 hc0_2
 have HR0_3 := Aside0.mk hr0_3
 have HC0_3 := Aside0.mk hc0_3
 clear hr0_3 hc0_3
 have HB := Aside0.mk (Below.refl w.heap.size w)
 have H : ((spec_l15Servers.f a1).bind fun t646 => (if t646 = true then ((spec_l15First.f a0_0 a0_1 l0_2 l0_3).bind fun t647 => (if t647 = true then (some true) else ((spec_l1In.f a0_0 1 100000).bind fun t648 => (if t648 = true then ((spec_l15Name.f a0_1).bind fun t649 => (if t649 = true then ((spec_Quorum.f a1).bind fun t650 => (if (l0_2.length : Int) < t650 then (spec_ProofOk.j0 k a1 true a0_0 a0_1 l0_2 l0_3) else (spec_ProofOk.j0 k a1 ((l0_2.length : Int) != (l0_3.length : Int)) a0_0 a0_1 l0_2 l0_3))) else (spec_ProofOk.j0 k a1 true a0_0 a0_1 l0_2 l0_3))) else (spec_ProofOk.j0 k a1 true a0_0 a0_1 l0_2 l0_3))))) else (some false))) = some r := h
 clear h
 replace H := Option.bind_eq_some_iff.mp H
 obtain ⟨t646, A30, H⟩ := H
 try dsimp only at H
 have A3 := Aside0.mk A30
 clear A30
 have HC4 := Aside0.mk H
 clear H
 go_enter Tryd.func42, Tryd.ntmps42
 go_upto_if 8 with (first | ((with_reducible refine gate_dst (N := 2) rfl ?_); (try (refine gate_guard (by rfl) ?_; dsimp only)); refine box_event ?hg (N := 2) ?hd (cs := #[.int .i64 a0_0, .int .i64 a0_1, .slice A0_2 l0_2.length c0_2, .slice A0_3 l0_3.length c0_3]) (t := 26) ?hr ?_; (case hd => rfl); (case hg => rfl); (case hr => first | (go_simp; done) | (go_simp; rfl)); intro gb645 hg w5 hbox hb; have BK645 := Aside0.mk (hbox); have GW645 := Aside0.mk ((by rw [hg]; exact (below_size Z0) : w.heap.size ≤ gb645)); have GE645 := Aside0.mk ((by rw [hg]; exact (below_size Z0) : w.heap.size ≤ gb645)); replace HB := Aside0.mk (below_step Z0 hb); clear hb hbox hg) | ((with_reducible refine gate_callee (f := 41) rfl ?_); refine goesL_ (some 7) rfl rfl Tryd.func41 (by kernel_rfl) rfl #[.int .i64 a1] rfl Z2 ?_; (with_reducible refine (spec_l15Servers.calls a1 t646 _ A3.out).mono ?_); rintro e w' ⟨rfl, ⟨nd, rfl⟩⟩; refine ⟨_, rfl, ?_⟩))
 (try simp only [Act.put, List.setIfInBounds_toArray, List.set_cons_zero, List.set_cons_succ])
 (try (rw [drewN_self w5]; generalize hq_ : World.drewN w5 _ = w5; replace BK645 := Aside0.mk (blk_at hq_ BK645.out); replace HB := Aside0.mk (below_at hq_ HB.out); clear hq_))
 have H := HC4.out
 clear HC4
 by_cases c6 : t646 = true
 ·subst c6
  have H1 : ((spec_l15First.f a0_0 a0_1 l0_2 l0_3).bind fun t647 => (if t647 = true then (some true) else ((spec_l1In.f a0_0 1 100000).bind fun t648 => (if t648 = true then ((spec_l15Name.f a0_1).bind fun t649 => (if t649 = true then ((spec_Quorum.f a1).bind fun t650 => (if (l0_2.length : Int) < t650 then (spec_ProofOk.j0 k a1 true a0_0 a0_1 l0_2 l0_3) else (spec_ProofOk.j0 k a1 ((l0_2.length : Int) != (l0_3.length : Int)) a0_0 a0_1 l0_2 l0_3))) else (spec_ProofOk.j0 k a1 true a0_0 a0_1 l0_2 l0_3))) else (spec_ProofOk.j0 k a1 true a0_0 a0_1 l0_2 l0_3))))) = some r := by rw [if_pos rfl] at H; exact H
  clear H
  have H := H1
  clear H1
  replace H := Option.bind_eq_some_iff.mp H
  obtain ⟨t647, A70, H⟩ := H
  try dsimp only at H
  have A7 := Aside0.mk A70
  clear A70
  have HC8 := Aside0.mk H
  clear H
  have hcz9_0 : w5.cell? ⟨gb645, 0, none⟩ = some (.int .i64 a0_0) := (blk_cell BK645.out 0).trans rfl
  have hcz9_1 : w5.cell? ⟨gb645, 1, none⟩ = some (.int .i64 a0_1) := (blk_cell BK645.out 1).trans rfl
  have hcz9_2 : w5.cell? ⟨gb645, 2, none⟩ = some (.slice A0_2 l0_2.length c0_2) := (blk_cell BK645.out 2).trans rfl
  have hcz9_3 : w5.cell? ⟨gb645, 3, none⟩ = some (.slice A0_3 l0_3.length c0_3) := (blk_cell BK645.out 3).trans rfl
  have hfz9_0 := blk_frozen BK645.out 0
  have hfz9_1 := blk_frozen BK645.out 1
  have hfz9_2 := blk_frozen BK645.out 2
  have hfz9_3 := blk_frozen BK645.out 3
  go_upto_if 10 with (first | ((with_reducible refine gate_callee (f := 61) rfl ?_); refine goesL_ (some 10) rfl rfl Tryd.func61 (by kernel_rfl) rfl #[.agg #[.int .i64 a0_0, .int .i64 a0_1, .slice A0_2 l0_2.length c0_2, .slice A0_3 l0_3.length c0_3]] rfl Z2 ?_; (with_reducible refine (spec_l15First.calls a0_0 a0_1 _ _ l0_2 _ _ l0_3 t647 _ ?side1 ?side2 ?side3 ?side4 A7.out).mono ?_); (case side1 => exact (by repeat (first | exact (Kd.C_below HR0_2.out HB.out) | (with_reducible refine Kd.C_alloc ?_ _) | (with_reducible refine Kd.C_drewN ?_ _) | (with_reducible refine Kd.C_drew ?_)))); (case side2 => exact HC0_2.out); (case side3 => exact (by repeat (first | exact (Kd.C_below HR0_3.out HB.out) | (with_reducible refine Kd.C_alloc ?_ _) | (with_reducible refine Kd.C_drewN ?_ _) | (with_reducible refine Kd.C_drew ?_)))); (case side4 => exact HC0_3.out); rintro e w10 ⟨rfl, hb⟩; refine ⟨_, rfl, ?_⟩; replace BK645 := Aside0.mk (blk_below (g := gb645) (o := .cells #[.int .i64 a0_0, .int .i64 a0_1, .slice A0_2 l0_2.length c0_2, .slice A0_3 l0_3.length c0_3] 26 (0, 0)) Z23 hb); replace HB := Aside0.mk (below_step Z20 hb); (try clear hb); (try clear hb2); (try clear hk); (try clear hi)))
  (try simp only [Act.put, List.setIfInBounds_toArray, List.set_cons_zero, List.set_cons_succ])
  have H := HC8.out
  clear HC8
  by_cases c11 : t647 = true
  ·subst c11
   have H1 : (some true) = some r := by rw [if_pos rfl] at H; exact H
   clear H
   have H := H1
   clear H1
   obtain rfl := Option.some.inj H
   go_wp2
   go_ret
   exact ⟨J0, J8⟩
  ·replace c11 := Bool.eq_false_iff.mpr c11
   subst c11
   have H1 : ((spec_l1In.f a0_0 1 100000).bind fun t648 => (if t648 = true then ((spec_l15Name.f a0_1).bind fun t649 => (if t649 = true then ((spec_Quorum.f a1).bind fun t650 => (if (l0_2.length : Int) < t650 then (spec_ProofOk.j0 k a1 true a0_0 a0_1 l0_2 l0_3) else (spec_ProofOk.j0 k a1 ((l0_2.length : Int) != (l0_3.length : Int)) a0_0 a0_1 l0_2 l0_3))) else (spec_ProofOk.j0 k a1 true a0_0 a0_1 l0_2 l0_3))) else (spec_ProofOk.j0 k a1 true a0_0 a0_1 l0_2 l0_3))) = some r := by rw [if_neg (show ¬ (false = true) by decide)] at H; exact H
   clear H
   have H := H1
   clear H1
   have HC12 := Aside0.mk H
   clear H
   go_upto_region 5 with (fail)
   go_cut [37] (fun v37 wc => ∃ (kq : Nat) (x37_11 : Bool), v37 = .bool x37_11 ∧ Aside0 (spec_ProofOk.j0 kq a1 x37_11 a0_0 a0_1 l0_2 l0_3 = some r) ∧ Aside0 (kq ≤ k) ∧ Aside0 (wc.heap[gb645]? = some (.cells #[.int .i64 a0_0, .int .i64 a0_1, (.slice A0_2 l0_2.length c0_2), (.slice A0_3 l0_3.length c0_3)] 26 (0, 0))) ∧ Aside0 (Below w.heap.size w wc))
   case first =>
    have H := HC12.out
    clear HC12
    replace H := Option.bind_eq_some_iff.mp H
    obtain ⟨t648, A130, H⟩ := H
    try dsimp only at H
    have A13 := Aside0.mk A130
    clear A130
    by_cases c14 : t648 = true
    ·subst c14
     have H1 : ((spec_l15Name.f a0_1).bind fun t649 => (if t649 = true then ((spec_Quorum.f a1).bind fun t650 => (if (l0_2.length : Int) < t650 then (spec_ProofOk.j0 k a1 true a0_0 a0_1 l0_2 l0_3) else (spec_ProofOk.j0 k a1 ((l0_2.length : Int) != (l0_3.length : Int)) a0_0 a0_1 l0_2 l0_3))) else (spec_ProofOk.j0 k a1 true a0_0 a0_1 l0_2 l0_3))) = some r := by rw [if_pos rfl] at H; exact H
     clear H
     have H := H1
     clear H1
     replace H := Option.bind_eq_some_iff.mp H
     obtain ⟨t649, A150, H⟩ := H
     try dsimp only at H
     have A15 := Aside0.mk A150
     clear A150
     by_cases c16 : t649 = true
     ·subst c16
      have H1 : ((spec_Quorum.f a1).bind fun t650 => (if (l0_2.length : Int) < t650 then (spec_ProofOk.j0 k a1 true a0_0 a0_1 l0_2 l0_3) else (spec_ProofOk.j0 k a1 ((l0_2.length : Int) != (l0_3.length : Int)) a0_0 a0_1 l0_2 l0_3))) = some r := by rw [if_pos rfl] at H; exact H
      clear H
      have H := H1
      clear H1
      replace H := Option.bind_eq_some_iff.mp H
      obtain ⟨t650, A170, H⟩ := H
      try dsimp only at H
      have A17 := Aside0.mk A170
      clear A170
      by_cases c18 : (l0_2.length : Int) < t650
      ·rw [if_pos c18] at H
       have c18b0 : decide ((l0_2.length : Int) < t650) = true := decide_eq_true c18
       clear c18
       (first | rw [c18b0] | (simp only [i64_w, i32_w]; rw [c18b0]) | skip)
       have H' := Aside0.mk H
       clear H
       try go_wp2
       replace BK645 := Aside0.mk (blk_drew BK645.out)
       replace HB := Aside0.mk (below_drew1 HB.out)
       refine wp_quiet_drawn (by kernel_rfl) (by kernel_rfl) ?_
       generalize w10.drew = w19 at BK645 HB ⊢
       have sq0_ : ∀ p_ : Bd w19, (w19.drewN p_.n).cell? ⟨gb645, 0, none⟩ = some (.int .i64 a0_0) := fun p_ => p_.cell ((blk_cell BK645.out 0).trans rfl)
       have sq1_ : ∀ p_ : Bd w19, (w19.drewN p_.n).cell? ⟨gb645, 1, none⟩ = some (.int .i64 a0_1) := fun p_ => p_.cell ((blk_cell BK645.out 1).trans rfl)
       have sq2_ : ∀ p_ : Bd w19, (w19.drewN p_.n).cell? ⟨gb645, 2, none⟩ = some (.slice A0_2 l0_2.length c0_2) := fun p_ => p_.cell ((blk_cell BK645.out 2).trans rfl)
       have sq3_ : ∀ p_ : Bd w19, (w19.drewN p_.n).cell? ⟨gb645, 3, none⟩ = some (.slice A0_3 l0_3.length c0_3) := fun p_ => p_.cell ((blk_cell BK645.out 3).trans rfl)
       have eq32_ : ∀ args w, (callFunc 32 args).run Tryd.prog w = .ok (.enter 32 args) w := enters_ Tryd.func32 (by kernel_rfl) rfl
       have eq62_ : ∀ args w, (callFunc 62 args).run Tryd.prog w = .ok (.enter 62 args) w := enters_ Tryd.func62 (by kernel_rfl) rfl
       have eq63_ : ∀ args w, (callFunc 63 args).run Tryd.prog w = .ok (.enter 63 args) w := enters_ Tryd.func63 (by kernel_rfl) rfl
       repeat (go_big_quiet_step ((rename_i p_; first | (go_at_fn 32; with_reducible exact Calls.bd (spec_l1In.calls a0_0 1 100000 true _ A13.out)) | (go_at_fn 62; with_reducible exact Calls.bd (spec_l15Name.calls a0_1 true _ A15.out)) | (go_at_fn 63; with_reducible exact Calls.bd (spec_Quorum.calls a1 t650 _ A17.out)))))
       refine wpQuiet_nil ?_
       clear sq0_ sq1_ sq2_ sq3_ eq32_ eq62_ eq63_
       rintro _ ⟨⟨nd⟩, rfl⟩
       try go_wp2
       go_meet
       case rel => exact ⟨_, (true), Z4, H', ⟨J32⟩, ⟨J26⟩, ⟨J8⟩⟩
      ·rw [if_neg c18] at H
       have c18b0 : decide ((l0_2.length : Int) < t650) = false := decide_eq_false c18
       clear c18
       (first | rw [c18b0] | (simp only [i64_w, i32_w]; rw [c18b0]) | skip)
       have H' := Aside0.mk H
       clear H
       try go_wp2
       replace BK645 := Aside0.mk (blk_drew BK645.out)
       replace HB := Aside0.mk (below_drew1 HB.out)
       refine wp_quiet_drawn (by kernel_rfl) (by kernel_rfl) ?_
       generalize w10.drew = w20 at BK645 HB ⊢
       have sq0_ : ∀ p_ : Bd w20, (w20.drewN p_.n).cell? ⟨gb645, 0, none⟩ = some (.int .i64 a0_0) := fun p_ => p_.cell ((blk_cell BK645.out 0).trans rfl)
       have sq1_ : ∀ p_ : Bd w20, (w20.drewN p_.n).cell? ⟨gb645, 1, none⟩ = some (.int .i64 a0_1) := fun p_ => p_.cell ((blk_cell BK645.out 1).trans rfl)
       have sq2_ : ∀ p_ : Bd w20, (w20.drewN p_.n).cell? ⟨gb645, 2, none⟩ = some (.slice A0_2 l0_2.length c0_2) := fun p_ => p_.cell ((blk_cell BK645.out 2).trans rfl)
       have sq3_ : ∀ p_ : Bd w20, (w20.drewN p_.n).cell? ⟨gb645, 3, none⟩ = some (.slice A0_3 l0_3.length c0_3) := fun p_ => p_.cell ((blk_cell BK645.out 3).trans rfl)
       have eq32_ : ∀ args w, (callFunc 32 args).run Tryd.prog w = .ok (.enter 32 args) w := enters_ Tryd.func32 (by kernel_rfl) rfl
       have eq62_ : ∀ args w, (callFunc 62 args).run Tryd.prog w = .ok (.enter 62 args) w := enters_ Tryd.func62 (by kernel_rfl) rfl
       have eq63_ : ∀ args w, (callFunc 63 args).run Tryd.prog w = .ok (.enter 63 args) w := enters_ Tryd.func63 (by kernel_rfl) rfl
       repeat (go_big_quiet_step ((rename_i p_; first | (go_at_fn 32; with_reducible exact Calls.bd (spec_l1In.calls a0_0 1 100000 true _ A13.out)) | (go_at_fn 62; with_reducible exact Calls.bd (spec_l15Name.calls a0_1 true _ A15.out)) | (go_at_fn 63; with_reducible exact Calls.bd (spec_Quorum.calls a1 t650 _ A17.out)))))
       refine wpQuiet_nil ?_
       clear sq0_ sq1_ sq2_ sq3_ eq32_ eq62_ eq63_
       rintro _ ⟨⟨nd⟩, rfl⟩
       try go_wp2
       go_meet
       case rel => exact ⟨_, (((l0_2.length : Int) != (l0_3.length : Int))), Z4, H', ⟨J32⟩, ⟨J26⟩, ⟨J8⟩⟩
     ·replace c16 := Bool.eq_false_iff.mpr c16
      subst c16
      have H1 : (spec_ProofOk.j0 k a1 true a0_0 a0_1 l0_2 l0_3) = some r := by rw [if_neg (show ¬ (false = true) by decide)] at H; exact H
      clear H
      have H := H1
      clear H1
      have H' := Aside0.mk H
      clear H
      try go_wp2
      replace BK645 := Aside0.mk (blk_drew BK645.out)
      replace HB := Aside0.mk (below_drew1 HB.out)
      refine wp_quiet_drawn (by kernel_rfl) (by kernel_rfl) ?_
      generalize w10.drew = w21 at BK645 HB ⊢
      have sq0_ : ∀ p_ : Bd w21, (w21.drewN p_.n).cell? ⟨gb645, 0, none⟩ = some (.int .i64 a0_0) := fun p_ => p_.cell ((blk_cell BK645.out 0).trans rfl)
      have sq1_ : ∀ p_ : Bd w21, (w21.drewN p_.n).cell? ⟨gb645, 1, none⟩ = some (.int .i64 a0_1) := fun p_ => p_.cell ((blk_cell BK645.out 1).trans rfl)
      have sq2_ : ∀ p_ : Bd w21, (w21.drewN p_.n).cell? ⟨gb645, 2, none⟩ = some (.slice A0_2 l0_2.length c0_2) := fun p_ => p_.cell ((blk_cell BK645.out 2).trans rfl)
      have sq3_ : ∀ p_ : Bd w21, (w21.drewN p_.n).cell? ⟨gb645, 3, none⟩ = some (.slice A0_3 l0_3.length c0_3) := fun p_ => p_.cell ((blk_cell BK645.out 3).trans rfl)
      have eq32_ : ∀ args w, (callFunc 32 args).run Tryd.prog w = .ok (.enter 32 args) w := enters_ Tryd.func32 (by kernel_rfl) rfl
      have eq62_ : ∀ args w, (callFunc 62 args).run Tryd.prog w = .ok (.enter 62 args) w := enters_ Tryd.func62 (by kernel_rfl) rfl
      repeat (go_big_quiet_step ((rename_i p_; first | (go_at_fn 32; with_reducible exact Calls.bd (spec_l1In.calls a0_0 1 100000 true _ A13.out)) | (go_at_fn 62; with_reducible exact Calls.bd (spec_l15Name.calls a0_1 false _ A15.out)))))
      refine wpQuiet_nil ?_
      clear sq0_ sq1_ sq2_ sq3_ eq32_ eq62_
      rintro _ ⟨⟨nd⟩, rfl⟩
      try go_wp2
      go_meet
      case rel => exact ⟨_, (true), Z4, H', ⟨J32⟩, ⟨J26⟩, ⟨J8⟩⟩
    ·replace c14 := Bool.eq_false_iff.mpr c14
     subst c14
     have H1 : (spec_ProofOk.j0 k a1 true a0_0 a0_1 l0_2 l0_3) = some r := by rw [if_neg (show ¬ (false = true) by decide)] at H; exact H
     clear H
     have H := H1
     clear H1
     have H' := Aside0.mk H
     clear H
     try go_wp2
     replace BK645 := Aside0.mk (blk_drew BK645.out)
     replace HB := Aside0.mk (below_drew1 HB.out)
     refine wp_quiet_drawn (by kernel_rfl) (by kernel_rfl) ?_
     generalize w10.drew = w22 at BK645 HB ⊢
     have sq0_ : ∀ p_ : Bd w22, (w22.drewN p_.n).cell? ⟨gb645, 0, none⟩ = some (.int .i64 a0_0) := fun p_ => p_.cell ((blk_cell BK645.out 0).trans rfl)
     have sq1_ : ∀ p_ : Bd w22, (w22.drewN p_.n).cell? ⟨gb645, 1, none⟩ = some (.int .i64 a0_1) := fun p_ => p_.cell ((blk_cell BK645.out 1).trans rfl)
     have sq2_ : ∀ p_ : Bd w22, (w22.drewN p_.n).cell? ⟨gb645, 2, none⟩ = some (.slice A0_2 l0_2.length c0_2) := fun p_ => p_.cell ((blk_cell BK645.out 2).trans rfl)
     have sq3_ : ∀ p_ : Bd w22, (w22.drewN p_.n).cell? ⟨gb645, 3, none⟩ = some (.slice A0_3 l0_3.length c0_3) := fun p_ => p_.cell ((blk_cell BK645.out 3).trans rfl)
     have eq32_ : ∀ args w, (callFunc 32 args).run Tryd.prog w = .ok (.enter 32 args) w := enters_ Tryd.func32 (by kernel_rfl) rfl
     repeat (go_big_quiet_step ((rename_i p_; go_at_fn 32; with_reducible exact Calls.bd (spec_l1In.calls a0_0 1 100000 false _ A13.out))))
     refine wpQuiet_nil ?_
     clear sq0_ sq1_ sq2_ sq3_ eq32_
     rintro _ ⟨⟨nd⟩, rfl⟩
     try go_wp2
     go_meet
     case rel => exact ⟨_, (true), Z4, H', ⟨J32⟩, ⟨J26⟩, ⟨J8⟩⟩
   case rest =>
    clear HC12
    try clear c1
    try clear p2
    try clear c3
    try clear c6
    try clear c14
    try clear c16
    obtain ⟨kq, x37_11, rfl, HA, HJ11, BK645, HB⟩ := hcut
    cases kq with
    | zero => exact absurd HA.out (by simp [spec_ProofOk.j0])
    | succ kj11 =>
     have H := HA.out
     clear HA
     simp only [spec_ProofOk.j0] at H
     by_cases c23 : x37_11 = true
     ·subst c23
      have H1 : (some false) = some r := by rw [if_pos rfl] at H; exact H
      clear H
      have H := H1
      clear H1
      obtain rfl := Option.some.inj H
      go_wp2
      go_ret
      exact ⟨J0, J8⟩
     ·replace c23 := Bool.eq_false_iff.mpr c23
      subst c23
      have H1 : (spec_ProofOk.l0 kj11 a1 0 a0_0 a0_1 l0_2 l0_3) = some r := by rw [if_neg (show ¬ (false = true) by decide)] at H; exact H
      clear H
      have H := H1
      clear H1
      have H' := Aside0.mk H
      clear H
      go_wp2
      go_loopg [5] kj11 (fun kq v5 w' => ∃ (x5_2 : Int), v5 = .int .i64 x5_2 ∧ Aside0 (spec_ProofOk.l0 kq a1 x5_2 a0_0 a0_1 l0_2 l0_3 = some r) ∧ Aside0 (kq ≤ kj11) ∧ Aside0 (w'.heap[gb645]? = some (.cells #[.int .i64 a0_0, .int .i64 a0_1, (.slice A0_2 l0_2.length c0_2), (.slice A0_3 l0_3.length c0_3)] 26 (0, 0))) ∧ Aside0 (Below w.heap.size w w'))
      case atStart => exact ⟨(0), Z4, H', ⟨Nat.le_refl _⟩, ⟨J26⟩, ⟨J8⟩⟩
      case round =>
       clear H'
       try clear c1
       try clear c2
       try clear p2
       try clear c3
       try clear c6
       try clear c14
       try clear c16
       try clear c23
       try clear p2
       obtain ⟨x5_2, rfl, HA, HK2, BK645, HB⟩ := hrel
       cases gk with
       | zero => exact absurd HA.out (by simp [spec_ProofOk.l0])
       | succ k2 =>
        have H := HA.out
        clear HA
        simp only [spec_ProofOk.l0] at H
        by_cases c24 : x5_2 < (l0_2.length : Int)
        ·rw [if_pos c24] at H
         have c24b0 : decide (x5_2 < (l0_2.length : Int)) = true := decide_eq_true c24
         clear c24
         by_cases c25 : 0 ≤ x5_2
         ·rw [if_pos c25] at H
          have c25b0 : decide (0 ≤ x5_2) = true := decide_eq_true c25
          clear c25
          by_cases c26 : x5_2 < (l0_3.length : Int)
          ·rw [if_pos c26] at H
           have c26b0 : decide (x5_2 < (l0_3.length : Int)) = true := decide_eq_true c26
           clear c26
           replace H := Option.bind_eq_some_iff.mp H
           obtain ⟨t653, A270, H⟩ := H
           try dsimp only at H
           have A27 := Aside0.mk A270
           clear A270
           by_cases c28 : t653 = true
           ·subst c28
            have H1 : (if x5_2 > 0 then (if 0 ≤ (wrap64 (x5_2 - 1)) then (if (wrap64 (x5_2 - 1)) < (l0_2.length : Int) then (if (rd l0_2 x5_2) ≤ (rd l0_2 (wrap64 (x5_2 - 1))) then (some false) else (spec_ProofOk.l0 k2 a1 (wrap64 (x5_2 + 1)) a0_0 a0_1 l0_2 l0_3)) else (none)) else (none)) else (spec_ProofOk.l0 k2 a1 (wrap64 (x5_2 + 1)) a0_0 a0_1 l0_2 l0_3)) = some r := by rw [if_pos rfl] at H; exact H
            clear H
            have H := H1
            clear H1
            by_cases c29 : x5_2 > 0
            ·rw [if_pos c29] at H
             have c29b0 : decide (0 < x5_2) = true := decide_eq_true c29
             clear c29
             obtain ⟨ji30, hji30⟩ : ∃ j_ : Int, (wrap64 (x5_2 - 1)) = j_ := ⟨_, rfl⟩
             replace H : (if 0 ≤ (ji30) then (if (ji30) < (l0_2.length : Int) then (if (rd l0_2 x5_2) ≤ (rd l0_2 (ji30)) then (some false) else (spec_ProofOk.l0 k2 a1 (wrap64 (x5_2 + 1)) a0_0 a0_1 l0_2 l0_3)) else (none)) else (none)) = some r := by first | (rw [hji30] at H; exact H) | (simp only [hji30] at H ⊢; exact H)
             (try rw [hji30] at A27)
             have hji30w : (IntKind.i64.wrap (x5_2 - 1)) = ji30 := (i64_w _).trans hji30
             by_cases c31 : 0 ≤ (ji30)
             ·rw [if_pos c31] at H
              have c31b0 : decide (0 ≤ (ji30)) = true := decide_eq_true c31
              clear c31
              by_cases c32 : (ji30) < (l0_2.length : Int)
              ·rw [if_pos c32] at H
               have c32b0 : decide ((ji30) < (l0_2.length : Int)) = true := decide_eq_true c32
               clear c32
               have HC33 := Aside0.mk H
               clear H
               have hcz34_0 : wr.cell? ⟨gb645, 0, none⟩ = some (.int .i64 a0_0) := (blk_cell BK645.out 0).trans rfl
               have hcz34_1 : wr.cell? ⟨gb645, 1, none⟩ = some (.int .i64 a0_1) := (blk_cell BK645.out 1).trans rfl
               have hcz34_2 : wr.cell? ⟨gb645, 2, none⟩ = some (.slice A0_2 l0_2.length c0_2) := (blk_cell BK645.out 2).trans rfl
               have hcz34_3 : wr.cell? ⟨gb645, 3, none⟩ = some (.slice A0_3 l0_3.length c0_3) := (blk_cell BK645.out 3).trans rfl
               have hfz34_0 := blk_frozen BK645.out 0
               have hfz34_1 := blk_frozen BK645.out 1
               have hfz34_2 := blk_frozen BK645.out 2
               have hfz34_3 := blk_frozen BK645.out 3
               try go_wp2
               replace BK645 := Aside0.mk (blk_drew BK645.out)
               replace HB := Aside0.mk (below_drew1 HB.out)
               have p651 : 0 ≤ (x5_2 : Int) := od_
               have q651 : x5_2 < (l0_2.length : Int) := od_
               obtain ⟨ad651, e651, hx651_0⟩ := Kd.at_int HR0_2.out x5_2 p651 q651
               have hw651_0 := hx651_0
               cases e651
               replace hx651_0 := (HB.out.cell (World.block_lt_of_cell? w _ hx651_0)).trans hx651_0
               replace p651 := eq_true p651
               replace q651 := eq_true q651
               have p652 : 0 ≤ (x5_2 : Int) := od_
               have q652 : x5_2 < (l0_3.length : Int) := od_
               obtain ⟨ad652, e652, hx652_0⟩ := Kd.at_int HR0_3.out x5_2 p652 q652
               have hw652_0 := hx652_0
               cases e652
               replace hx652_0 := (HB.out.cell (World.block_lt_of_cell? w _ hx652_0)).trans hx652_0
               replace p652 := eq_true p652
               replace q652 := eq_true q652
               have p654 : 0 ≤ (x5_2 : Int) := od_
               have q654 : x5_2 < (l0_2.length : Int) := od_
               obtain ⟨ad654, e654, hx654_0⟩ := Kd.at_int HR0_2.out x5_2 p654 q654
               have hw654_0 := hx654_0
               obtain rfl : ad651 = ad654 := (by injection e654)
               replace hx654_0 := (HB.out.cell (World.block_lt_of_cell? w _ hx654_0)).trans hx654_0
               replace p654 := eq_true p654
               replace q654 := eq_true q654
               have p655 : 0 ≤ ((ji30) : Int) := od_
               have q655 : (ji30) < (l0_2.length : Int) := od_
               obtain ⟨ad655, e655, hx655_0⟩ := Kd.at_int HR0_2.out (ji30) p655 q655
               have hw655_0 := hx655_0
               obtain rfl : ad651 = ad655 := (by injection e655)
               replace hx655_0 := (HB.out.cell (World.block_lt_of_cell? w _ hx655_0)).trans hx655_0
               replace p655 := eq_true p655
               replace q655 := eq_true q655
               refine wp_quiet_below (by kernel_rfl) (by kernel_rfl) ?_
               generalize wr.drew = w35 at BK645 HB hx651_0 hx652_0 hx654_0 hx655_0 ⊢
               have sq0_ : ∀ p_ : Bw w35, p_.W.cell? ⟨gb645, 0, none⟩ = some (.int .i64 a0_0) := fun p_ => p_.cell ((blk_cell BK645.out 0).trans rfl)
               have sq1_ : ∀ p_ : Bw w35, p_.W.cell? ⟨gb645, 1, none⟩ = some (.int .i64 a0_1) := fun p_ => p_.cell ((blk_cell BK645.out 1).trans rfl)
               have sq2_ : ∀ p_ : Bw w35, p_.W.cell? ⟨gb645, 2, none⟩ = some (.slice (some ad651) l0_2.length c0_2) := fun p_ => p_.cell ((blk_cell BK645.out 2).trans rfl)
               have sq3_ : ∀ p_ : Bw w35, p_.W.cell? ⟨gb645, 3, none⟩ = some (.slice (some ad652) l0_3.length c0_3) := fun p_ => p_.cell ((blk_cell BK645.out 3).trans rfl)
               have sq4_ : ∀ p_ : Bw w35, p_.W.cell? (ad651.add (x5_2).toNat) = some (.int .i64 (rd l0_2 x5_2)) := fun p_ => p_.cell (((HB.out.cell (World.block_lt_of_cell? w _ hw651_0)).trans hw651_0))
               have sq5_ : ∀ p_ : Bw w35, p_.W.cell? (ad652.add (x5_2).toNat) = some (.int .i64 (rd l0_3 x5_2)) := fun p_ => p_.cell (((HB.out.cell (World.block_lt_of_cell? w _ hw652_0)).trans hw652_0))
               have sq6_ : ∀ p_ : Bw w35, p_.W.cell? (ad651.add (x5_2).toNat) = some (.int .i64 (rd l0_2 x5_2)) := fun p_ => p_.cell (((HB.out.cell (World.block_lt_of_cell? w _ hw654_0)).trans hw654_0))
               have sq7_ : ∀ p_ : Bw w35, p_.W.cell? (ad651.add ((ji30)).toNat) = some (.int .i64 (rd l0_2 (ji30))) := fun p_ => p_.cell (((HB.out.cell (World.block_lt_of_cell? w _ hw655_0)).trans hw655_0))
               have eq64_ : ∀ args w, (callFunc 64 args).run Tryd.prog w = .ok (.enter 64 args) w := enters_ Tryd.func64 (by kernel_rfl) rfl
               repeat (go_big_quiet_step ((rename_i p_; have hb := p_.h; have n0_ := Aside0.mk (blk_below (g := gb645) (o := .cells #[.int .i64 a0_0, .int .i64 a0_1, .slice (some ad651) l0_2.length c0_2, .slice (some ad652) l0_3.length c0_3] 26 (0, 0)) Z23 hb); have n1_ := Aside0.mk (below_step Z20 hb); have BK645 := n0_; have HB := n1_; go_at_fn 64; with_reducible exact Calls.bw (spec_VoteOk.calls k2 a0_0 a0_1 (rd l0_2 x5_2) (rd l0_3 x5_2) a1 true _ A27.out))))
               refine wpQuiet_nil ?_
               clear sq0_ sq1_ sq2_ sq3_ sq4_ sq5_ sq6_ sq7_ eq64_
               rintro w36 ⟨q_, hq_⟩
               have hb := q_.h
               rw [← hq_] at hb
               clear hq_ q_
               replace BK645 := Aside0.mk (blk_below (g := gb645) (o := .cells #[.int .i64 a0_0, .int .i64 a0_1, .slice (some ad651) l0_2.length c0_2, .slice (some ad652) l0_3.length c0_3] 26 (0, 0)) Z23 hb)
               replace HB := Aside0.mk (below_step Z20 hb)
               (try clear hb)
               (try clear hb2)
               (try clear hk)
               (try clear hi)
               go_upto_if 80 with (fail)
               have H := HC33.out
               clear HC33
               by_cases c37 : (rd l0_2 x5_2) ≤ (rd l0_2 (ji30))
               ·rw [if_pos c37] at H
                have c37b0 : decide ((rd l0_2 x5_2) ≤ (rd l0_2 (ji30))) = true := decide_eq_true c37
                clear c37
                (first | rw [c37b0] | (simp only [i64_w, i32_w]; rw [c37b0]) | skip)
                obtain rfl := Option.some.inj H
                go_wp2
                go_ret
                exact ⟨(by first | rfl | (simp [errW_none, errW_some] <;> rfl) | (simp only [← hji30]; first | rfl | (simp [errW_none, errW_some] <;> rfl)) | (simp [*, errW_none, errW_some] <;> rfl)), J8⟩
               ·rw [if_neg c37] at H
                have c37b0 : decide ((rd l0_2 x5_2) ≤ (rd l0_2 (ji30))) = false := decide_eq_false c37
                clear c37
                (first | rw [c37b0] | (simp only [i64_w, i32_w]; rw [c37b0]) | skip)
                have H' := Aside0.mk H
                clear H
                go_wp2
                go_roundg k2
                case measure => have := HJ11.out; have := HK2.out; omega
                case rel => exact ⟨(wrap64 (x5_2 + 1)), Z4, H', ⟨(by have := HJ11.out; have := HK2.out; omega)⟩, ⟨J26⟩, ⟨J8⟩⟩
              ·rw [if_neg c32] at H
               exact absurd H (by simp)
             ·rw [if_neg c31] at H
              exact absurd H (by simp)
            ·rw [if_neg c29] at H
             have c29b0 : decide (0 < x5_2) = false := decide_eq_false c29
             clear c29
             have H' := Aside0.mk H
             clear H
             have hcz38_0 : wr.cell? ⟨gb645, 0, none⟩ = some (.int .i64 a0_0) := (blk_cell BK645.out 0).trans rfl
             have hcz38_1 : wr.cell? ⟨gb645, 1, none⟩ = some (.int .i64 a0_1) := (blk_cell BK645.out 1).trans rfl
             have hcz38_2 : wr.cell? ⟨gb645, 2, none⟩ = some (.slice A0_2 l0_2.length c0_2) := (blk_cell BK645.out 2).trans rfl
             have hcz38_3 : wr.cell? ⟨gb645, 3, none⟩ = some (.slice A0_3 l0_3.length c0_3) := (blk_cell BK645.out 3).trans rfl
             have hfz38_0 := blk_frozen BK645.out 0
             have hfz38_1 := blk_frozen BK645.out 1
             have hfz38_2 := blk_frozen BK645.out 2
             have hfz38_3 := blk_frozen BK645.out 3
             try go_wp2
             replace BK645 := Aside0.mk (blk_drew BK645.out)
             replace HB := Aside0.mk (below_drew1 HB.out)
             have p651 : 0 ≤ (x5_2 : Int) := od_
             have q651 : x5_2 < (l0_2.length : Int) := od_
             obtain ⟨ad651, e651, hx651_0⟩ := Kd.at_int HR0_2.out x5_2 p651 q651
             have hw651_0 := hx651_0
             cases e651
             replace hx651_0 := (HB.out.cell (World.block_lt_of_cell? w _ hx651_0)).trans hx651_0
             replace p651 := eq_true p651
             replace q651 := eq_true q651
             have p652 : 0 ≤ (x5_2 : Int) := od_
             have q652 : x5_2 < (l0_3.length : Int) := od_
             obtain ⟨ad652, e652, hx652_0⟩ := Kd.at_int HR0_3.out x5_2 p652 q652
             have hw652_0 := hx652_0
             cases e652
             replace hx652_0 := (HB.out.cell (World.block_lt_of_cell? w _ hx652_0)).trans hx652_0
             replace p652 := eq_true p652
             replace q652 := eq_true q652
             refine wp_quiet_below (by kernel_rfl) (by kernel_rfl) ?_
             generalize wr.drew = w39 at BK645 HB hx651_0 hx652_0 ⊢
             have sq0_ : ∀ p_ : Bw w39, p_.W.cell? ⟨gb645, 0, none⟩ = some (.int .i64 a0_0) := fun p_ => p_.cell ((blk_cell BK645.out 0).trans rfl)
             have sq1_ : ∀ p_ : Bw w39, p_.W.cell? ⟨gb645, 1, none⟩ = some (.int .i64 a0_1) := fun p_ => p_.cell ((blk_cell BK645.out 1).trans rfl)
             have sq2_ : ∀ p_ : Bw w39, p_.W.cell? ⟨gb645, 2, none⟩ = some (.slice (some ad651) l0_2.length c0_2) := fun p_ => p_.cell ((blk_cell BK645.out 2).trans rfl)
             have sq3_ : ∀ p_ : Bw w39, p_.W.cell? ⟨gb645, 3, none⟩ = some (.slice (some ad652) l0_3.length c0_3) := fun p_ => p_.cell ((blk_cell BK645.out 3).trans rfl)
             have sq4_ : ∀ p_ : Bw w39, p_.W.cell? (ad651.add (x5_2).toNat) = some (.int .i64 (rd l0_2 x5_2)) := fun p_ => p_.cell (((HB.out.cell (World.block_lt_of_cell? w _ hw651_0)).trans hw651_0))
             have sq5_ : ∀ p_ : Bw w39, p_.W.cell? (ad652.add (x5_2).toNat) = some (.int .i64 (rd l0_3 x5_2)) := fun p_ => p_.cell (((HB.out.cell (World.block_lt_of_cell? w _ hw652_0)).trans hw652_0))
             have eq64_ : ∀ args w, (callFunc 64 args).run Tryd.prog w = .ok (.enter 64 args) w := enters_ Tryd.func64 (by kernel_rfl) rfl
             repeat (go_big_quiet_step ((rename_i p_; have hb := p_.h; have n0_ := Aside0.mk (blk_below (g := gb645) (o := .cells #[.int .i64 a0_0, .int .i64 a0_1, .slice (some ad651) l0_2.length c0_2, .slice (some ad652) l0_3.length c0_3] 26 (0, 0)) Z23 hb); have n1_ := Aside0.mk (below_step Z20 hb); have BK645 := n0_; have HB := n1_; go_at_fn 64; with_reducible exact Calls.bw (spec_VoteOk.calls k2 a0_0 a0_1 (rd l0_2 x5_2) (rd l0_3 x5_2) a1 true _ A27.out))))
             refine wpQuiet_nil ?_
             clear sq0_ sq1_ sq2_ sq3_ sq4_ sq5_ eq64_
             rintro w40 ⟨q_, hq_⟩
             have hb := q_.h
             rw [← hq_] at hb
             clear hq_ q_
             replace BK645 := Aside0.mk (blk_below (g := gb645) (o := .cells #[.int .i64 a0_0, .int .i64 a0_1, .slice (some ad651) l0_2.length c0_2, .slice (some ad652) l0_3.length c0_3] 26 (0, 0)) Z23 hb)
             replace HB := Aside0.mk (below_step Z20 hb)
             (try clear hb)
             (try clear hb2)
             (try clear hk)
             (try clear hi)
             try go_wp2
             go_roundg k2
             case measure => have := HJ11.out; have := HK2.out; omega
             case rel => exact ⟨(wrap64 (x5_2 + 1)), Z4, H', ⟨(by have := HJ11.out; have := HK2.out; omega)⟩, ⟨J26⟩, ⟨J8⟩⟩
           ·replace c28 := Bool.eq_false_iff.mpr c28
            subst c28
            have H1 : (some false) = some r := by rw [if_neg (show ¬ (false = true) by decide)] at H; exact H
            clear H
            have H := H1
            clear H1
            obtain rfl := Option.some.inj H
            have hcz41_0 : wr.cell? ⟨gb645, 0, none⟩ = some (.int .i64 a0_0) := (blk_cell BK645.out 0).trans rfl
            have hcz41_1 : wr.cell? ⟨gb645, 1, none⟩ = some (.int .i64 a0_1) := (blk_cell BK645.out 1).trans rfl
            have hcz41_2 : wr.cell? ⟨gb645, 2, none⟩ = some (.slice A0_2 l0_2.length c0_2) := (blk_cell BK645.out 2).trans rfl
            have hcz41_3 : wr.cell? ⟨gb645, 3, none⟩ = some (.slice A0_3 l0_3.length c0_3) := (blk_cell BK645.out 3).trans rfl
            have hfz41_0 := blk_frozen BK645.out 0
            have hfz41_1 := blk_frozen BK645.out 1
            have hfz41_2 := blk_frozen BK645.out 2
            have hfz41_3 := blk_frozen BK645.out 3
            try go_wp2
            replace BK645 := Aside0.mk (blk_drew BK645.out)
            replace HB := Aside0.mk (below_drew1 HB.out)
            have p651 : 0 ≤ (x5_2 : Int) := od_
            have q651 : x5_2 < (l0_2.length : Int) := od_
            obtain ⟨ad651, e651, hx651_0⟩ := Kd.at_int HR0_2.out x5_2 p651 q651
            have hw651_0 := hx651_0
            cases e651
            replace hx651_0 := (HB.out.cell (World.block_lt_of_cell? w _ hx651_0)).trans hx651_0
            replace p651 := eq_true p651
            replace q651 := eq_true q651
            have p652 : 0 ≤ (x5_2 : Int) := od_
            have q652 : x5_2 < (l0_3.length : Int) := od_
            obtain ⟨ad652, e652, hx652_0⟩ := Kd.at_int HR0_3.out x5_2 p652 q652
            have hw652_0 := hx652_0
            cases e652
            replace hx652_0 := (HB.out.cell (World.block_lt_of_cell? w _ hx652_0)).trans hx652_0
            replace p652 := eq_true p652
            replace q652 := eq_true q652
            refine wp_quiet_below (by kernel_rfl) (by kernel_rfl) ?_
            generalize wr.drew = w42 at BK645 HB hx651_0 hx652_0 ⊢
            have sq0_ : ∀ p_ : Bw w42, p_.W.cell? ⟨gb645, 0, none⟩ = some (.int .i64 a0_0) := fun p_ => p_.cell ((blk_cell BK645.out 0).trans rfl)
            have sq1_ : ∀ p_ : Bw w42, p_.W.cell? ⟨gb645, 1, none⟩ = some (.int .i64 a0_1) := fun p_ => p_.cell ((blk_cell BK645.out 1).trans rfl)
            have sq2_ : ∀ p_ : Bw w42, p_.W.cell? ⟨gb645, 2, none⟩ = some (.slice (some ad651) l0_2.length c0_2) := fun p_ => p_.cell ((blk_cell BK645.out 2).trans rfl)
            have sq3_ : ∀ p_ : Bw w42, p_.W.cell? ⟨gb645, 3, none⟩ = some (.slice (some ad652) l0_3.length c0_3) := fun p_ => p_.cell ((blk_cell BK645.out 3).trans rfl)
            have sq4_ : ∀ p_ : Bw w42, p_.W.cell? (ad651.add (x5_2).toNat) = some (.int .i64 (rd l0_2 x5_2)) := fun p_ => p_.cell (((HB.out.cell (World.block_lt_of_cell? w _ hw651_0)).trans hw651_0))
            have sq5_ : ∀ p_ : Bw w42, p_.W.cell? (ad652.add (x5_2).toNat) = some (.int .i64 (rd l0_3 x5_2)) := fun p_ => p_.cell (((HB.out.cell (World.block_lt_of_cell? w _ hw652_0)).trans hw652_0))
            have eq64_ : ∀ args w, (callFunc 64 args).run Tryd.prog w = .ok (.enter 64 args) w := enters_ Tryd.func64 (by kernel_rfl) rfl
            repeat (go_big_quiet_step ((rename_i p_; have hb := p_.h; have n0_ := Aside0.mk (blk_below (g := gb645) (o := .cells #[.int .i64 a0_0, .int .i64 a0_1, .slice (some ad651) l0_2.length c0_2, .slice (some ad652) l0_3.length c0_3] 26 (0, 0)) Z23 hb); have n1_ := Aside0.mk (below_step Z20 hb); have BK645 := n0_; have HB := n1_; go_at_fn 64; with_reducible exact Calls.bw (spec_VoteOk.calls k2 a0_0 a0_1 (rd l0_2 x5_2) (rd l0_3 x5_2) a1 false _ A27.out))))
            refine wpQuiet_nil ?_
            clear sq0_ sq1_ sq2_ sq3_ sq4_ sq5_ eq64_
            rintro w43 ⟨q_, hq_⟩
            have hb := q_.h
            rw [← hq_] at hb
            clear hq_ q_
            replace BK645 := Aside0.mk (blk_below (g := gb645) (o := .cells #[.int .i64 a0_0, .int .i64 a0_1, .slice (some ad651) l0_2.length c0_2, .slice (some ad652) l0_3.length c0_3] 26 (0, 0)) Z23 hb)
            replace HB := Aside0.mk (below_step Z20 hb)
            (try clear hb)
            (try clear hb2)
            (try clear hk)
            (try clear hi)
            try go_wp2
            go_ret
            exact ⟨J0, J8⟩
          ·rw [if_neg c26] at H
           exact absurd H (by simp)
         ·rw [if_neg c25] at H
          exact absurd H (by simp)
        ·rw [if_neg c24] at H
         have c24b0 : decide (x5_2 < (l0_2.length : Int)) = false := decide_eq_false c24
         clear c24
         obtain rfl := Option.some.inj H
         have hcz44_0 : wr.cell? ⟨gb645, 0, none⟩ = some (.int .i64 a0_0) := (blk_cell BK645.out 0).trans rfl
         have hcz44_1 : wr.cell? ⟨gb645, 1, none⟩ = some (.int .i64 a0_1) := (blk_cell BK645.out 1).trans rfl
         have hcz44_2 : wr.cell? ⟨gb645, 2, none⟩ = some (.slice A0_2 l0_2.length c0_2) := (blk_cell BK645.out 2).trans rfl
         have hcz44_3 : wr.cell? ⟨gb645, 3, none⟩ = some (.slice A0_3 l0_3.length c0_3) := (blk_cell BK645.out 3).trans rfl
         have hfz44_0 := blk_frozen BK645.out 0
         have hfz44_1 := blk_frozen BK645.out 1
         have hfz44_2 := blk_frozen BK645.out 2
         have hfz44_3 := blk_frozen BK645.out 3
         go_wp2
         go_ret
         exact ⟨J0, J8⟩
 ·replace c6 := Bool.eq_false_iff.mpr c6
  subst c6
  have H1 : (some false) = some r := by rw [if_neg (show ¬ (false = true) by decide)] at H; exact H
  clear H
  have H := H1
  clear H1
  obtain rfl := Option.some.inj H
  go_wp2
  go_ret
  exact ⟨J0, J8⟩

end Go.Proofs.YtokhjhkkncbjeaaDoor.PFnBlocks
