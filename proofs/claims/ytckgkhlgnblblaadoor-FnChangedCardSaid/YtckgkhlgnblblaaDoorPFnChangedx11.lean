-- Written by a program of this session (wip/tools/pp.py over the kit's print).
import Derived.Test.YtckgkhlgnblblaaDoorPFnChangedx0
import Derived.Test.YtckgkhlgnblblaaDoorPFnChangedx2
import Derived.Test.YtckgkhlgnblblaaDoorPFnChangedx3
import Derived.Test.YtckgkhlgnblblaaDoorPFnChangedx4
import Derived.Test.YtckgkhlgnblblaaDoorPFnChangedx5
import Derived.Test.YtckgkhlgnblblaaDoorPFnChangedx6
import Derived.Test.YtckgkhlgnblblaaDoorPFnChangedx7
import Derived.Test.YtckgkhlgnblblaaDoorPFnChangedx8
import Derived.Test.YtckgkhlgnblblaaDoorPFnChangedx9
import Derived.Test.YtckgkhlgnblblaaDoorPFnChangedx10
namespace Go.Proofs.YtckgkhlgnblblaaDoor.PFnChanged
open Go.RowKit Go.Proofs.YtckgkhlgnblblaaDoorW.PrintWords Go.Proofs.YtckgkhlgnblblaaDoorW.PrintLast Go.Proofs.YtckgkhlgnblblaaDoorW.PrintMore
attribute [local go_sem] max2_int min2_int max_two min_two max_three min_three max_four min_four
attribute [local go_sem high] str_gtr str_leq str_geq
set_option linter.unusedVariables false
set_option linter.unusedSimpArgs false

/-! ### laws_FnChanged: function 5 -/
mutual
def laws_FnChanged.j0 : Nat → List (S52) → Int → Int → List (S52) → Bool → Option (Bool)
 | 0, _, _, _, _, _ => none
 | k + 1, x3, x4, x5, x6, x41 => if x41 = true then (some ((x6.length : Int) == 0)) else (laws_FnChanged.l0 k x3 x4 x5 x6 (-1) 0)
def laws_FnChanged.l0 : Nat → List (S52) → Int → Int → List (S52) → Int → Int → Option (Bool)
 | 0, _, _, _, _, _, _ => none
 | k + 1, x3, x4, x5, x6, x7, x8 => if x8 < (x3.length : Int) then (if 0 ≤ x8 then (if ((rd_T52 x3 x8).f0) = x4 then (laws_FnChanged.l0 k x3 x4 x5 x6 ((rd_T52 x3 x8).f1) (wrap64 (x8 + 1))) else (laws_FnChanged.l0 k x3 x4 x5 x6 x7 (wrap64 (x8 + 1)))) else (none)) else (laws_FnChanged.l1 k x3 x4 x5 x6 x7 0)
def laws_FnChanged.l1 : Nat → List (S52) → Int → Int → List (S52) → Int → Int → Option (Bool)
 | 0, _, _, _, _, _, _ => none
 | k + 1, x3, x4, x5, x6, x7, x9 => if x9 < (x6.length : Int) then (if 0 ≤ x9 then (if ((rd_T52 x6 x9).f0) = x4 then (if ((rd_T52 x6 x9).f1) = x5 then (laws_FnChanged.l1 k x3 x4 x5 x6 x7 (wrap64 (x9 + 1))) else (none)) else (laws_FnChanged.l1 k x3 x4 x5 x6 x7 (wrap64 (x9 + 1)))) else (none)) else ((impl_Set.f k x6 x4 x7).bind fun t380 => ((impl_LeavesOk.f k x6).bind fun t383 => (if t383 = true then ((laws_likeLeaves.f k t380 x3).bind fun t384 => (if t384 = true then ((impl_Peak.f k t380).bind fun t385 => ((impl_Peak.f k x3).bind fun t386 => (if t385 = t386 then ((impl_Way.f k x6 x4).bind fun t387 => ((impl_Way.f k x3 x4).bind fun t390 => ((laws_likeInts.f k t387 t390).bind fun t393 => (if t393 = true then ((impl_Peak.f k x6).bind fun t394 => ((impl_Way.f k x3 x4).bind fun t395 => ((impl_Holds.f k t394 x4 x5 t395).bind fun t398 => (some t398)))) else (none))))) else (none)))) else (none))) else (none))))
end
def laws_FnChanged.f (k : Nat) (l0 : List Int) : Option (Bool) := (laws_big.f l0).bind fun t366 => (if t366 = true then (some true) else ((spec_DrawSet.f k l0).bind fun bt367 => ((impl_Set.f k bt367.1 bt367.2.1 bt367.2.2).bind fun t372 => ((spec_LeavesOk.f k bt367.1).bind fun t375 => (if t375 = true then (if bt367.2.1 < 0 then (laws_FnChanged.j0 k bt367.1 bt367.2.1 bt367.2.2 t372 true) else (if bt367.2.1 > 255 then (laws_FnChanged.j0 k bt367.1 bt367.2.1 bt367.2.2 t372 true) else (if bt367.2.2 < (-1) then (laws_FnChanged.j0 k bt367.1 bt367.2.1 bt367.2.2 t372 true) else (laws_FnChanged.j0 k bt367.1 bt367.2.1 bt367.2.2 t372 (decide (bt367.2.2 > 1000000000)))))) else (laws_FnChanged.j0 k bt367.1 bt367.2.1 bt367.2.2 t372 true))))))
theorem laws_FnChanged.mono_l : ∀ k, (∀ y0 y1 y2 y3 y4, LeO (laws_FnChanged.j0 k y0 y1 y2 y3 y4) (laws_FnChanged.j0 (k + 1) y0 y1 y2 y3 y4)) ∧ (∀ y0 y1 y2 y3 y4 y5, LeO (laws_FnChanged.l0 k y0 y1 y2 y3 y4 y5) (laws_FnChanged.l0 (k + 1) y0 y1 y2 y3 y4 y5)) ∧ (∀ y0 y1 y2 y3 y4 y5, LeO (laws_FnChanged.l1 k y0 y1 y2 y3 y4 y5) (laws_FnChanged.l1 (k + 1) y0 y1 y2 y3 y4 y5))
 | 0 => ⟨fun _ _ _ _ _ r h => by simp [laws_FnChanged.j0] at h, fun _ _ _ _ _ _ r h => by simp [laws_FnChanged.l0] at h, fun _ _ _ _ _ _ r h => by simp [laws_FnChanged.l1] at h⟩
 | k + 1 => by
  obtain ⟨ih0, ih1, ih2⟩ := laws_FnChanged.mono_l k
  refine ⟨?_, ?_, ?_⟩
  ·intro y0 y1 y2 y3 y4
   unfold laws_FnChanged.j0
   repeat' first
   | (with_reducible exact ih0 _ _ _ _ _)
   | (with_reducible exact ih1 _ _ _ _ _ _)
   | (with_reducible exact ih2 _ _ _ _ _ _)
   | (with_reducible exact impl_Holds.mono _ _ _ _ _)
   | (with_reducible exact impl_LeavesOk.mono _ _)
   | (with_reducible exact impl_Peak.mono _ _)
   | (with_reducible exact impl_Set.mono _ _ _ _)
   | (with_reducible exact impl_Way.mono _ _ _)
   | (with_reducible exact laws_likeInts.mono _ _ _)
   | (with_reducible exact laws_likeLeaves.mono _ _ _)
   | (with_reducible exact spec_DrawSet.mono _ _)
   | (with_reducible exact spec_LeavesOk.mono _ _)
   | (with_reducible exact LeO.refl _)
   | (with_reducible exact LeO.none _)
   | (with_reducible refine LeO.ite ?_ ?_)
   | (with_reducible refine LeO.bind ?_ (fun _ => ?_))
   | exact ih0 _ _ _ _ _
   | exact ih1 _ _ _ _ _ _
   | exact ih2 _ _ _ _ _ _
   | exact impl_Holds.mono _ _ _ _ _
   | exact impl_LeavesOk.mono _ _
   | exact impl_Peak.mono _ _
   | exact impl_Set.mono _ _ _ _
   | exact impl_Way.mono _ _ _
   | exact laws_likeInts.mono _ _ _
   | exact laws_likeLeaves.mono _ _ _
   | exact spec_DrawSet.mono _ _
   | exact spec_LeavesOk.mono _ _
   | exact LeO.none _
   | refine LeO.ite ?_ ?_
   | refine LeO.bind ?_ (fun _ => ?_)
  ·intro y0 y1 y2 y3 y4 y5
   unfold laws_FnChanged.l0
   repeat' first
   | (with_reducible exact ih0 _ _ _ _ _)
   | (with_reducible exact ih1 _ _ _ _ _ _)
   | (with_reducible exact ih2 _ _ _ _ _ _)
   | (with_reducible exact impl_Holds.mono _ _ _ _ _)
   | (with_reducible exact impl_LeavesOk.mono _ _)
   | (with_reducible exact impl_Peak.mono _ _)
   | (with_reducible exact impl_Set.mono _ _ _ _)
   | (with_reducible exact impl_Way.mono _ _ _)
   | (with_reducible exact laws_likeInts.mono _ _ _)
   | (with_reducible exact laws_likeLeaves.mono _ _ _)
   | (with_reducible exact spec_DrawSet.mono _ _)
   | (with_reducible exact spec_LeavesOk.mono _ _)
   | (with_reducible exact LeO.refl _)
   | (with_reducible exact LeO.none _)
   | (with_reducible refine LeO.ite ?_ ?_)
   | (with_reducible refine LeO.bind ?_ (fun _ => ?_))
   | exact ih0 _ _ _ _ _
   | exact ih1 _ _ _ _ _ _
   | exact ih2 _ _ _ _ _ _
   | exact impl_Holds.mono _ _ _ _ _
   | exact impl_LeavesOk.mono _ _
   | exact impl_Peak.mono _ _
   | exact impl_Set.mono _ _ _ _
   | exact impl_Way.mono _ _ _
   | exact laws_likeInts.mono _ _ _
   | exact laws_likeLeaves.mono _ _ _
   | exact spec_DrawSet.mono _ _
   | exact spec_LeavesOk.mono _ _
   | exact LeO.none _
   | refine LeO.ite ?_ ?_
   | refine LeO.bind ?_ (fun _ => ?_)
  ·intro y0 y1 y2 y3 y4 y5
   unfold laws_FnChanged.l1
   repeat' first
   | (with_reducible exact ih0 _ _ _ _ _)
   | (with_reducible exact ih1 _ _ _ _ _ _)
   | (with_reducible exact ih2 _ _ _ _ _ _)
   | (with_reducible exact impl_Holds.mono _ _ _ _ _)
   | (with_reducible exact impl_LeavesOk.mono _ _)
   | (with_reducible exact impl_Peak.mono _ _)
   | (with_reducible exact impl_Set.mono _ _ _ _)
   | (with_reducible exact impl_Way.mono _ _ _)
   | (with_reducible exact laws_likeInts.mono _ _ _)
   | (with_reducible exact laws_likeLeaves.mono _ _ _)
   | (with_reducible exact spec_DrawSet.mono _ _)
   | (with_reducible exact spec_LeavesOk.mono _ _)
   | (with_reducible exact LeO.refl _)
   | (with_reducible exact LeO.none _)
   | (with_reducible refine LeO.ite ?_ ?_)
   | (with_reducible refine LeO.bind ?_ (fun _ => ?_))
   | exact ih0 _ _ _ _ _
   | exact ih1 _ _ _ _ _ _
   | exact ih2 _ _ _ _ _ _
   | exact impl_Holds.mono _ _ _ _ _
   | exact impl_LeavesOk.mono _ _
   | exact impl_Peak.mono _ _
   | exact impl_Set.mono _ _ _ _
   | exact impl_Way.mono _ _ _
   | exact laws_likeInts.mono _ _ _
   | exact laws_likeLeaves.mono _ _ _
   | exact spec_DrawSet.mono _ _
   | exact spec_LeavesOk.mono _ _
   | exact LeO.none _
   | refine LeO.ite ?_ ?_
   | refine LeO.bind ?_ (fun _ => ?_)
theorem laws_FnChanged.mono : ∀ a0 k, LeO (laws_FnChanged.f k a0) (laws_FnChanged.f (k + 1) a0) := by
 intro a0 k
 obtain ⟨ih0, ih1, ih2⟩ := laws_FnChanged.mono_l k
 unfold laws_FnChanged.f
 repeat' first
   | (with_reducible exact ih0 _ _ _ _ _)
   | (with_reducible exact ih1 _ _ _ _ _ _)
   | (with_reducible exact ih2 _ _ _ _ _ _)
   | (with_reducible exact impl_Holds.mono _ _ _ _ _)
   | (with_reducible exact impl_LeavesOk.mono _ _)
   | (with_reducible exact impl_Peak.mono _ _)
   | (with_reducible exact impl_Set.mono _ _ _ _)
   | (with_reducible exact impl_Way.mono _ _ _)
   | (with_reducible exact laws_likeInts.mono _ _ _)
   | (with_reducible exact laws_likeLeaves.mono _ _ _)
   | (with_reducible exact spec_DrawSet.mono _ _)
   | (with_reducible exact spec_LeavesOk.mono _ _)
   | (with_reducible exact LeO.refl _)
   | (with_reducible exact LeO.none _)
   | (with_reducible refine LeO.ite ?_ ?_)
   | (with_reducible refine LeO.bind ?_ (fun _ => ?_))
   | exact ih0 _ _ _ _ _
   | exact ih1 _ _ _ _ _ _
   | exact ih2 _ _ _ _ _ _
   | exact impl_Holds.mono _ _ _ _ _
   | exact impl_LeavesOk.mono _ _
   | exact impl_Peak.mono _ _
   | exact impl_Set.mono _ _ _ _
   | exact impl_Way.mono _ _ _
   | exact laws_likeInts.mono _ _ _
   | exact laws_likeLeaves.mono _ _ _
   | exact spec_DrawSet.mono _ _
   | exact spec_LeavesOk.mono _ _
   | exact LeO.none _
   | refine LeO.ite ?_ ?_
   | refine LeO.bind ?_ (fun _ => ?_)
set_option maxHeartbeats 8000000 in
set_option maxRecDepth 100000 in
theorem laws_FnChanged.calls (k : Nat) (A0 : Option Addr) (c0 : Nat) (l0 : List Int) (r : Bool) (w : World) (hr0 : Kd.C (Kd.int .u8) w A0 l0.length l0) (hc0 : l0.length ≤ c0) (h : laws_FnChanged.f k l0 = some r) (hT : TabOk w) :
  Calls Tryd.prog 5 #[.slice A0 l0.length c0] w fun e w' => e = .returned (.bool r) ∧ Below w.heap.size w w' := by
 have HT := Aside0.mk hT
 clear hT
 have HR0 := Aside0.mk hr0
 have HC0 := Aside0.mk hc0
 clear hr0 hc0
 have HB := Aside0.mk (Below.refl w.heap.size w)
 have H : ((laws_big.f l0).bind fun t366 => (if t366 = true then (some true) else ((spec_DrawSet.f k l0).bind fun bt367 => ((impl_Set.f k bt367.1 bt367.2.1 bt367.2.2).bind fun t372 => ((spec_LeavesOk.f k bt367.1).bind fun t375 => (if t375 = true then (if bt367.2.1 < 0 then (laws_FnChanged.j0 k bt367.1 bt367.2.1 bt367.2.2 t372 true) else (if bt367.2.1 > 255 then (laws_FnChanged.j0 k bt367.1 bt367.2.1 bt367.2.2 t372 true) else (if bt367.2.2 < (-1) then (laws_FnChanged.j0 k bt367.1 bt367.2.1 bt367.2.2 t372 true) else (laws_FnChanged.j0 k bt367.1 bt367.2.1 bt367.2.2 t372 (decide (bt367.2.2 > 1000000000)))))) else (laws_FnChanged.j0 k bt367.1 bt367.2.1 bt367.2.2 t372 true))))))) = some r := h
 clear h
 replace H := Option.bind_eq_some_iff.mp H
 obtain ⟨t366, A20, H⟩ := H
 replace H : (if t366 = true then (some true) else ((spec_DrawSet.f k l0).bind fun bt367 => ((impl_Set.f k bt367.1 bt367.2.1 bt367.2.2).bind fun t372 => ((spec_LeavesOk.f k bt367.1).bind fun t375 => (if t375 = true then (if bt367.2.1 < 0 then (laws_FnChanged.j0 k bt367.1 bt367.2.1 bt367.2.2 t372 true) else (if bt367.2.1 > 255 then (laws_FnChanged.j0 k bt367.1 bt367.2.1 bt367.2.2 t372 true) else (if bt367.2.2 < (-1) then (laws_FnChanged.j0 k bt367.1 bt367.2.1 bt367.2.2 t372 true) else (laws_FnChanged.j0 k bt367.1 bt367.2.1 bt367.2.2 t372 (decide (bt367.2.2 > 1000000000)))))) else (laws_FnChanged.j0 k bt367.1 bt367.2.1 bt367.2.2 t372 true)))))) = some r := H
 have A2 := Aside0.mk A20
 clear A20
 have HC3 := Aside0.mk H
 clear H
 go_enter Tryd.func5, Tryd.ntmps5
 go_upto_if 12 with (first | ((with_reducible refine gate_callee (f := 6) rfl ?_); refine goesL_ (some 12) rfl rfl Tryd.func6 (by kernel_rfl) rfl #[.slice A0 l0.length c0] rfl (by (try simp only [List.map_toArray, List.map_cons, List.map_nil]); first | done | rfl | (simp only [List.length_drop, List.length_take]; rfl)) ?_; (with_reducible refine (laws_big.calls _ _ l0 t366 _ ?side1 ?side2 A2.out).mono ?_); (case side1 => repeat (first | exact HR0.out | (with_reducible refine Kd.C_alloc ?_ _) | (with_reducible refine Kd.C_drewN ?_ _) | (with_reducible refine Kd.C_drew ?_))); (case side2 => exact HC0.out); rintro e w' ⟨rfl, ⟨nd, rfl⟩⟩; refine ⟨_, rfl, ?_⟩))
 (try simp only [Act.put, List.setIfInBounds_toArray, List.set_cons_zero, List.set_cons_succ])
 have H := HC3.out
 clear HC3
 by_cases c4 : t366 = true
 ·subst c4
  have H1 : (some true) = some r := by rw [if_pos rfl] at H; exact H
  clear H
  have H := H1
  clear H1
  obtain rfl := Option.some.inj H
  go_wp2
  go_ret
  exact ⟨by first | rfl | (simp [errW_none, errW_some] <;> rfl) | (simp [*, errW_none, errW_some] <;> rfl), by repeat (first | (with_reducible first | exact HB.out | apply below_alloc | apply pw_below_drewN | apply below_drew1) | exact HB.out)⟩
 ·replace c4 := Bool.eq_false_iff.mpr c4
  subst c4
  have H1 : ((spec_DrawSet.f k l0).bind fun bt367 => ((impl_Set.f k bt367.1 bt367.2.1 bt367.2.2).bind fun t372 => ((spec_LeavesOk.f k bt367.1).bind fun t375 => (if t375 = true then (if bt367.2.1 < 0 then (laws_FnChanged.j0 k bt367.1 bt367.2.1 bt367.2.2 t372 true) else (if bt367.2.1 > 255 then (laws_FnChanged.j0 k bt367.1 bt367.2.1 bt367.2.2 t372 true) else (if bt367.2.2 < (-1) then (laws_FnChanged.j0 k bt367.1 bt367.2.1 bt367.2.2 t372 true) else (laws_FnChanged.j0 k bt367.1 bt367.2.1 bt367.2.2 t372 (decide (bt367.2.2 > 1000000000)))))) else (laws_FnChanged.j0 k bt367.1 bt367.2.1 bt367.2.2 t372 true))))) = some r := by rw [if_neg (show ¬ (false = true) by decide)] at H; exact H
  clear H
  have H := H1
  clear H1
  replace H := Option.bind_eq_some_iff.mp H
  obtain ⟨⟨t367, t368, t369⟩, A50, H⟩ := H
  replace H : ((impl_Set.f k t367 t368 t369).bind fun t372 => ((spec_LeavesOk.f k t367).bind fun t375 => (if t375 = true then (if t368 < 0 then (laws_FnChanged.j0 k t367 t368 t369 t372 true) else (if t368 > 255 then (laws_FnChanged.j0 k t367 t368 t369 t372 true) else (if t369 < (-1) then (laws_FnChanged.j0 k t367 t368 t369 t372 true) else (laws_FnChanged.j0 k t367 t368 t369 t372 (decide (t369 > 1000000000)))))) else (laws_FnChanged.j0 k t367 t368 t369 t372 true)))) = some r := H
  have A5 := Aside0.mk A50
  clear A50
  replace H := Option.bind_eq_some_iff.mp H
  obtain ⟨t372, A60, H⟩ := H
  replace H : ((spec_LeavesOk.f k t367).bind fun t375 => (if t375 = true then (if t368 < 0 then (laws_FnChanged.j0 k t367 t368 t369 t372 true) else (if t368 > 255 then (laws_FnChanged.j0 k t367 t368 t369 t372 true) else (if t369 < (-1) then (laws_FnChanged.j0 k t367 t368 t369 t372 true) else (laws_FnChanged.j0 k t367 t368 t369 t372 (decide (t369 > 1000000000)))))) else (laws_FnChanged.j0 k t367 t368 t369 t372 true))) = some r := H
  have A6 := Aside0.mk A60
  clear A60
  have HC7 := Aside0.mk H
  clear H
  go_upto_region 5 with (first | ((with_reducible refine gate_callee (f := 24) rfl ?_); refine goesL_ (some 15) rfl rfl Tryd.func24 (by kernel_rfl) rfl #[.slice A0 l0.length c0] rfl (by (try simp only [List.map_toArray, List.map_cons, List.map_nil]); first | done | rfl | (simp only [List.length_drop, List.length_take]; rfl)) ?_; (with_reducible refine (spec_DrawSet.calls k _ _ l0 t367 t368 t369 _ ?side1 ?side2 A5.out).mono ?_); (case side1 => repeat (first | exact (Kd.C_below HR0.out HB.out) | (with_reducible refine Kd.C_alloc ?_ _) | (with_reducible refine Kd.C_drewN ?_ _) | (with_reducible refine Kd.C_drew ?_))); (case side2 => exact HC0.out); rintro e w8 ⟨v370, rfl, ho0, hb⟩; refine ⟨_, rfl, ?_⟩; have n0_ := Aside0.mk (Kd.R_lower ho0 (below_size (by repeat (first | (with_reducible first | exact HB.out | apply below_alloc | apply pw_below_drewN | apply below_drew1) | exact HB.out)))); have n1_ := Aside0.mk (below_step (by repeat (first | (with_reducible first | exact HB.out | apply below_alloc | apply pw_below_drewN | apply below_drew1) | exact HB.out)) hb); clear HB; have HO371 := n0_; have HB := n1_; clear n0_ n1_; (try clear hb); (try clear hb2); (try clear hk); (try clear hi); (try clear ho0); obtain ⟨Ao9, co9, eo9⟩ := Kd.R_slice HO371.out; subst eo9) | ((with_reducible refine gate_callee (f := 25) rfl ?_); refine goesL_ (some 22) rfl rfl Tryd.func25 (by kernel_rfl) rfl #[.slice Ao9 t367.length co9, .int .i64 t368, .int .i64 t369] rfl (by (try simp only [List.map_toArray, List.map_cons, List.map_nil]); first | done | rfl | (simp only [List.length_drop, List.length_take]; rfl)) ?_; (with_reducible refine (impl_Set.calls k _ _ t367 t368 t369 t372 _ ?side1 ?side2 A6.out).mono ?_); (case side1 => repeat (first | exact (Kd.R_reads' HO371.out).2.2 | (with_reducible refine Kd.C_alloc ?_ _) | (with_reducible refine Kd.C_drewN ?_ _) | (with_reducible refine Kd.C_drew ?_))); (case side2 => exact (Kd.R_reads' HO371.out).2.1); rintro e w10 ⟨v373, rfl, ho0, hb⟩; refine ⟨_, rfl, ?_⟩; have n0_ := Aside0.mk (Kd.R_elder' (by (with_reducible repeat (first | apply Kd.R_alloc | apply Kd.R_drewN | apply Kd.R_drew)); exact HO371.out) (Kd.R_base ho0) hb); have n1_ := Aside0.mk (Kd.R_lower (Kd.R_new' ho0 (Kd.R_lt (by (with_reducible repeat (first | apply Kd.R_alloc | apply Kd.R_drewN | apply Kd.R_drew)); exact HO371.out))) (below_size (by repeat (first | (with_reducible first | exact HB.out | apply below_alloc | apply pw_below_drewN | apply below_drew1) | exact HB.out)))); have n2_ := Aside0.mk (below_step (by repeat (first | (with_reducible first | exact HB.out | apply below_alloc | apply pw_below_drewN | apply below_drew1) | exact HB.out)) hb); clear HO371; clear HB; have HO371 := n0_; have HO374 := n1_; have HB := n2_; clear n0_ n1_ n2_; (try clear hb); (try clear hb2); (try clear hk); (try clear hi); (try clear ho0)))
  (try simp only [Act.put, List.setIfInBounds_toArray, List.set_cons_zero, List.set_cons_succ])
  go_cut [41] (fun v41 wc => ∃ (kq : Nat) (x41_6 : Bool), v41 = .bool x41_6 ∧ Aside0 (laws_FnChanged.j0 kq t367 t368 t369 t372 x41_6 = some r) ∧ Aside0 (kq ≤ k) ∧ Aside0 (Kd.R k52 52 wc w.heap.size (fun k_ => some k_ ≠ (v373 : Value).ownBlock) (.slice Ao9 t367.length co9) t367) ∧ Aside0 (Kd.R k52 52 wc w.heap.size (fun k_ => some k_ ≠ ((.slice Ao9 t367.length co9) : Value).ownBlock) v373 t372) ∧ Aside0 (Below w.heap.size w wc))
  case first =>
   have H := HC7.out
   clear HC7
   replace H := Option.bind_eq_some_iff.mp H
   obtain ⟨t375, A110, H⟩ := H
   replace H : (if t375 = true then (if t368 < 0 then (laws_FnChanged.j0 k t367 t368 t369 t372 true) else (if t368 > 255 then (laws_FnChanged.j0 k t367 t368 t369 t372 true) else (if t369 < (-1) then (laws_FnChanged.j0 k t367 t368 t369 t372 true) else (laws_FnChanged.j0 k t367 t368 t369 t372 (decide (t369 > 1000000000)))))) else (laws_FnChanged.j0 k t367 t368 t369 t372 true)) = some r := H
   have A11 := Aside0.mk A110
   clear A110
   by_cases c12 : t375 = true
   ·subst c12
    have H1 : (if t368 < 0 then (laws_FnChanged.j0 k t367 t368 t369 t372 true) else (if t368 > 255 then (laws_FnChanged.j0 k t367 t368 t369 t372 true) else (if t369 < (-1) then (laws_FnChanged.j0 k t367 t368 t369 t372 true) else (laws_FnChanged.j0 k t367 t368 t369 t372 (decide (t369 > 1000000000)))))) = some r := by rw [if_pos rfl] at H; exact H
    clear H
    have H := H1
    clear H1
    by_cases c13 : t368 < 0
    ·rw [if_pos c13] at H
     have c13b0 : decide (t368 < 0) = true := decide_eq_true c13
     clear c13
     (first | rw [c13b0] | (simp only [i64_w, i32_w]; rw [c13b0]) | skip)
     have H' := Aside0.mk H
     clear H
     go_wp2_with (first | ((with_reducible refine gate_callee (f := 26) rfl ?_); refine goesL_ (some 24) rfl rfl Tryd.func26 (by kernel_rfl) rfl #[.slice Ao9 t367.length co9] rfl (by (try simp only [List.map_toArray, List.map_cons, List.map_nil]); first | done | rfl | (simp only [List.length_drop, List.length_take]; rfl)) ?_; (with_reducible refine (spec_LeavesOk.calls k _ _ t367 true _ ?side1 ?side2 A11.out).mono ?_); (case side1 => repeat (first | exact (Kd.R_reads' HO371.out).2.2 | (with_reducible refine Kd.C_alloc ?_ _) | (with_reducible refine Kd.C_drewN ?_ _) | (with_reducible refine Kd.C_drew ?_))); (case side2 => exact (Kd.R_reads' HO371.out).2.1); rintro e w14 ⟨rfl, hb⟩; refine ⟨_, rfl, ?_⟩; have n0_ := Aside0.mk (Kd.R_below (by (with_reducible repeat (first | apply Kd.R_alloc | apply Kd.R_drewN | apply Kd.R_drew)); exact HO371.out) hb); have n1_ := Aside0.mk (Kd.R_below (by (with_reducible repeat (first | apply Kd.R_alloc | apply Kd.R_drewN | apply Kd.R_drew)); exact HO374.out) hb); have n2_ := Aside0.mk (below_step (by repeat (first | (with_reducible first | exact HB.out | apply below_alloc | apply pw_below_drewN | apply below_drew1) | exact HB.out)) hb); clear HO371; clear HO374; clear HB; have HO371 := n0_; have HO374 := n1_; have HB := n2_; clear n0_ n1_ n2_; (try clear hb); (try clear hb2); (try clear hk); (try clear hi)))
     go_meet
     case rel => exact ⟨_, (true), (by first | rfl | (simp; done) | (simp [*]; done)), H', ⟨by first | omega | exact Nat.le_refl _⟩, ⟨by (with_reducible repeat (first | apply Kd.R_alloc | apply Kd.R_drewN | apply Kd.R_drew)); exact Kd.R_mono HO371.out (fun _ hk => hk.2)⟩, ⟨by (with_reducible repeat (first | apply Kd.R_alloc | apply Kd.R_drewN | apply Kd.R_drew)); exact Kd.R_mono HO374.out (fun _ hk => hk.2)⟩, ⟨by repeat (first | (with_reducible first | exact HB.out | apply below_alloc | apply pw_below_drewN | apply below_drew1) | exact HB.out)⟩⟩
    ·rw [if_neg c13] at H
     have c13b0 : decide (t368 < 0) = false := decide_eq_false c13
     clear c13
     (first | rw [c13b0] | (simp only [i64_w, i32_w]; rw [c13b0]) | skip)
     by_cases c15 : t368 > 255
     ·rw [if_pos c15] at H
      have c15b0 : decide (255 < t368) = true := decide_eq_true c15
      clear c15
      have H' := Aside0.mk H
      clear H
      go_wp2_with (first | ((with_reducible refine gate_callee (f := 26) rfl ?_); refine goesL_ (some 24) rfl rfl Tryd.func26 (by kernel_rfl) rfl #[.slice Ao9 t367.length co9] rfl (by (try simp only [List.map_toArray, List.map_cons, List.map_nil]); first | done | rfl | (simp only [List.length_drop, List.length_take]; rfl)) ?_; (with_reducible refine (spec_LeavesOk.calls k _ _ t367 true _ ?side1 ?side2 A11.out).mono ?_); (case side1 => repeat (first | exact (Kd.R_reads' HO371.out).2.2 | (with_reducible refine Kd.C_alloc ?_ _) | (with_reducible refine Kd.C_drewN ?_ _) | (with_reducible refine Kd.C_drew ?_))); (case side2 => exact (Kd.R_reads' HO371.out).2.1); rintro e w16 ⟨rfl, hb⟩; refine ⟨_, rfl, ?_⟩; have n0_ := Aside0.mk (Kd.R_below (by (with_reducible repeat (first | apply Kd.R_alloc | apply Kd.R_drewN | apply Kd.R_drew)); exact HO371.out) hb); have n1_ := Aside0.mk (Kd.R_below (by (with_reducible repeat (first | apply Kd.R_alloc | apply Kd.R_drewN | apply Kd.R_drew)); exact HO374.out) hb); have n2_ := Aside0.mk (below_step (by repeat (first | (with_reducible first | exact HB.out | apply below_alloc | apply pw_below_drewN | apply below_drew1) | exact HB.out)) hb); clear HO371; clear HO374; clear HB; have HO371 := n0_; have HO374 := n1_; have HB := n2_; clear n0_ n1_ n2_; (try clear hb); (try clear hb2); (try clear hk); (try clear hi)))
      go_meet
      case rel => exact ⟨_, (true), (by first | rfl | (simp; done) | (simp [*]; done)), H', ⟨by first | omega | exact Nat.le_refl _⟩, ⟨by (with_reducible repeat (first | apply Kd.R_alloc | apply Kd.R_drewN | apply Kd.R_drew)); exact Kd.R_mono HO371.out (fun _ hk => hk.2)⟩, ⟨by (with_reducible repeat (first | apply Kd.R_alloc | apply Kd.R_drewN | apply Kd.R_drew)); exact Kd.R_mono HO374.out (fun _ hk => hk.2)⟩, ⟨by repeat (first | (with_reducible first | exact HB.out | apply below_alloc | apply pw_below_drewN | apply below_drew1) | exact HB.out)⟩⟩
     ·rw [if_neg c15] at H
      have c15b0 : decide (255 < t368) = false := decide_eq_false c15
      clear c15
      by_cases c17 : t369 < (-1)
      ·rw [if_pos c17] at H
       have c17b0 : decide (t369 < (-1)) = true := decide_eq_true c17
       clear c17
       have H' := Aside0.mk H
       clear H
       go_wp2_with (first | ((with_reducible refine gate_callee (f := 26) rfl ?_); refine goesL_ (some 24) rfl rfl Tryd.func26 (by kernel_rfl) rfl #[.slice Ao9 t367.length co9] rfl (by (try simp only [List.map_toArray, List.map_cons, List.map_nil]); first | done | rfl | (simp only [List.length_drop, List.length_take]; rfl)) ?_; (with_reducible refine (spec_LeavesOk.calls k _ _ t367 true _ ?side1 ?side2 A11.out).mono ?_); (case side1 => repeat (first | exact (Kd.R_reads' HO371.out).2.2 | (with_reducible refine Kd.C_alloc ?_ _) | (with_reducible refine Kd.C_drewN ?_ _) | (with_reducible refine Kd.C_drew ?_))); (case side2 => exact (Kd.R_reads' HO371.out).2.1); rintro e w18 ⟨rfl, hb⟩; refine ⟨_, rfl, ?_⟩; have n0_ := Aside0.mk (Kd.R_below (by (with_reducible repeat (first | apply Kd.R_alloc | apply Kd.R_drewN | apply Kd.R_drew)); exact HO371.out) hb); have n1_ := Aside0.mk (Kd.R_below (by (with_reducible repeat (first | apply Kd.R_alloc | apply Kd.R_drewN | apply Kd.R_drew)); exact HO374.out) hb); have n2_ := Aside0.mk (below_step (by repeat (first | (with_reducible first | exact HB.out | apply below_alloc | apply pw_below_drewN | apply below_drew1) | exact HB.out)) hb); clear HO371; clear HO374; clear HB; have HO371 := n0_; have HO374 := n1_; have HB := n2_; clear n0_ n1_ n2_; (try clear hb); (try clear hb2); (try clear hk); (try clear hi)))
       go_meet
       case rel => exact ⟨_, (true), (by first | rfl | (simp; done) | (simp [*]; done)), H', ⟨by first | omega | exact Nat.le_refl _⟩, ⟨by (with_reducible repeat (first | apply Kd.R_alloc | apply Kd.R_drewN | apply Kd.R_drew)); exact Kd.R_mono HO371.out (fun _ hk => hk.2)⟩, ⟨by (with_reducible repeat (first | apply Kd.R_alloc | apply Kd.R_drewN | apply Kd.R_drew)); exact Kd.R_mono HO374.out (fun _ hk => hk.2)⟩, ⟨by repeat (first | (with_reducible first | exact HB.out | apply below_alloc | apply pw_below_drewN | apply below_drew1) | exact HB.out)⟩⟩
      ·rw [if_neg c17] at H
       have c17b0 : decide (t369 < (-1)) = false := decide_eq_false c17
       clear c17
       have H' := Aside0.mk H
       clear H
       go_wp2_with (first | ((with_reducible refine gate_callee (f := 26) rfl ?_); refine goesL_ (some 24) rfl rfl Tryd.func26 (by kernel_rfl) rfl #[.slice Ao9 t367.length co9] rfl (by (try simp only [List.map_toArray, List.map_cons, List.map_nil]); first | done | rfl | (simp only [List.length_drop, List.length_take]; rfl)) ?_; (with_reducible refine (spec_LeavesOk.calls k _ _ t367 true _ ?side1 ?side2 A11.out).mono ?_); (case side1 => repeat (first | exact (Kd.R_reads' HO371.out).2.2 | (with_reducible refine Kd.C_alloc ?_ _) | (with_reducible refine Kd.C_drewN ?_ _) | (with_reducible refine Kd.C_drew ?_))); (case side2 => exact (Kd.R_reads' HO371.out).2.1); rintro e w19 ⟨rfl, hb⟩; refine ⟨_, rfl, ?_⟩; have n0_ := Aside0.mk (Kd.R_below (by (with_reducible repeat (first | apply Kd.R_alloc | apply Kd.R_drewN | apply Kd.R_drew)); exact HO371.out) hb); have n1_ := Aside0.mk (Kd.R_below (by (with_reducible repeat (first | apply Kd.R_alloc | apply Kd.R_drewN | apply Kd.R_drew)); exact HO374.out) hb); have n2_ := Aside0.mk (below_step (by repeat (first | (with_reducible first | exact HB.out | apply below_alloc | apply pw_below_drewN | apply below_drew1) | exact HB.out)) hb); clear HO371; clear HO374; clear HB; have HO371 := n0_; have HO374 := n1_; have HB := n2_; clear n0_ n1_ n2_; (try clear hb); (try clear hb2); (try clear hk); (try clear hi)))
       go_meet
       case rel => exact ⟨_, (decide (t369 > 1000000000)), (by first | rfl | (simp; done) | (simp [*]; done)), H', ⟨by first | omega | exact Nat.le_refl _⟩, ⟨by (with_reducible repeat (first | apply Kd.R_alloc | apply Kd.R_drewN | apply Kd.R_drew)); exact Kd.R_mono HO371.out (fun _ hk => hk.2)⟩, ⟨by (with_reducible repeat (first | apply Kd.R_alloc | apply Kd.R_drewN | apply Kd.R_drew)); exact Kd.R_mono HO374.out (fun _ hk => hk.2)⟩, ⟨by repeat (first | (with_reducible first | exact HB.out | apply below_alloc | apply pw_below_drewN | apply below_drew1) | exact HB.out)⟩⟩
   ·replace c12 := Bool.eq_false_iff.mpr c12
    subst c12
    have H1 : (laws_FnChanged.j0 k t367 t368 t369 t372 true) = some r := by rw [if_neg (show ¬ (false = true) by decide)] at H; exact H
    clear H
    have H := H1
    clear H1
    have H' := Aside0.mk H
    clear H
    go_wp2_with (first | ((with_reducible refine gate_callee (f := 26) rfl ?_); refine goesL_ (some 24) rfl rfl Tryd.func26 (by kernel_rfl) rfl #[.slice Ao9 t367.length co9] rfl (by (try simp only [List.map_toArray, List.map_cons, List.map_nil]); first | done | rfl | (simp only [List.length_drop, List.length_take]; rfl)) ?_; (with_reducible refine (spec_LeavesOk.calls k _ _ t367 false _ ?side1 ?side2 A11.out).mono ?_); (case side1 => repeat (first | exact (Kd.R_reads' HO371.out).2.2 | (with_reducible refine Kd.C_alloc ?_ _) | (with_reducible refine Kd.C_drewN ?_ _) | (with_reducible refine Kd.C_drew ?_))); (case side2 => exact (Kd.R_reads' HO371.out).2.1); rintro e w20 ⟨rfl, hb⟩; refine ⟨_, rfl, ?_⟩; have n0_ := Aside0.mk (Kd.R_below (by (with_reducible repeat (first | apply Kd.R_alloc | apply Kd.R_drewN | apply Kd.R_drew)); exact HO371.out) hb); have n1_ := Aside0.mk (Kd.R_below (by (with_reducible repeat (first | apply Kd.R_alloc | apply Kd.R_drewN | apply Kd.R_drew)); exact HO374.out) hb); have n2_ := Aside0.mk (below_step (by repeat (first | (with_reducible first | exact HB.out | apply below_alloc | apply pw_below_drewN | apply below_drew1) | exact HB.out)) hb); clear HO371; clear HO374; clear HB; have HO371 := n0_; have HO374 := n1_; have HB := n2_; clear n0_ n1_ n2_; (try clear hb); (try clear hb2); (try clear hk); (try clear hi)))
    go_meet
    case rel => exact ⟨_, (true), (by first | rfl | (simp; done) | (simp [*]; done)), H', ⟨by first | omega | exact Nat.le_refl _⟩, ⟨by (with_reducible repeat (first | apply Kd.R_alloc | apply Kd.R_drewN | apply Kd.R_drew)); exact Kd.R_mono HO371.out (fun _ hk => hk.2)⟩, ⟨by (with_reducible repeat (first | apply Kd.R_alloc | apply Kd.R_drewN | apply Kd.R_drew)); exact Kd.R_mono HO374.out (fun _ hk => hk.2)⟩, ⟨by repeat (first | (with_reducible first | exact HB.out | apply below_alloc | apply pw_below_drewN | apply below_drew1) | exact HB.out)⟩⟩
  case rest =>
   clear HC7
   try clear c1
   try clear c2
   try clear p2
   try clear c4
   try clear c5
   try clear c6
   try clear c12
   try clear c13
   try clear c13b0
   try clear c15
   try clear c15b0
   try clear c17
   try clear c17b0
   obtain ⟨kq, x41_6, rfl, HA, HJ6, HO_3, HO_6, HB⟩ := hcut
   cases kq with
   | zero => exact absurd HA.out (by simp [laws_FnChanged.j0])
   | succ kj6 =>
    have H := HA.out
    clear HA
    simp only [laws_FnChanged.j0] at H
    by_cases c21 : x41_6 = true
    ·subst c21
     have H1 : (some ((t372.length : Int) == 0)) = some r := by rw [if_pos rfl] at H; exact H
     clear H
     have H := H1
     clear H1
     obtain rfl := Option.some.inj H
     obtain ⟨Ao22, co22, eo22⟩ := Kd.R_slice HO_6.out
     subst eo22
     go_wp2
     go_ret
     exact ⟨by first | rfl | (simp [errW_none, errW_some] <;> rfl) | (simp [*, errW_none, errW_some] <;> rfl), by repeat (first | (with_reducible first | exact HB.out | apply below_alloc | apply pw_below_drewN | apply below_drew1) | exact HB.out)⟩
    ·replace c21 := Bool.eq_false_iff.mpr c21
     subst c21
     have H1 : (laws_FnChanged.l0 kj6 t367 t368 t369 t372 (-1) 0) = some r := by rw [if_neg (show ¬ (false = true) by decide)] at H; exact H
     clear H
     have H := H1
     clear H1
     have H' := Aside0.mk H
     clear H
     go_wp2
     go_loopg [7, 8] kj6 (fun kq v7 v8 w' => ∃ (x7_2 : Int) (x8_2 : Int), v7 = .int .i64 x7_2 ∧ v8 = .int .i64 x8_2 ∧ Aside0 (laws_FnChanged.l0 kq t367 t368 t369 t372 x7_2 x8_2 = some r) ∧ Aside0 (kq ≤ kj6) ∧ Aside0 (Kd.R k52 52 w' w.heap.size (fun k_ => some k_ ≠ (v373 : Value).ownBlock) (.slice Ao9 t367.length co9) t367) ∧ Aside0 (Kd.R k52 52 w' w.heap.size (fun k_ => some k_ ≠ ((.slice Ao9 t367.length co9) : Value).ownBlock) v373 t372) ∧ Aside0 (Below w.heap.size w w'))
     case atStart => exact ⟨((-1)), (0), (by first | rfl | (simp; done) | (simp [*]; done)), (by first | rfl | (simp; done) | (simp [*]; done)), H', ⟨Nat.le_refl _⟩, ⟨by (with_reducible repeat (first | apply Kd.R_alloc | apply Kd.R_drewN | apply Kd.R_drew)); exact HO_3.out⟩, ⟨by (with_reducible repeat (first | apply Kd.R_alloc | apply Kd.R_drewN | apply Kd.R_drew)); exact HO_6.out⟩, ⟨by repeat (first | (with_reducible first | exact HB.out | apply below_alloc | apply pw_below_drewN | apply below_drew1) | exact HB.out)⟩⟩
     case round =>
      clear H'
      try clear c1
      try clear c2
      try clear p2
      try clear c4
      try clear c5
      try clear c6
      try clear c12
      try clear c13
      try clear c13b0
      try clear c15
      try clear c15b0
      try clear c17
      try clear c17b0
      try clear c21
      try clear p2
      obtain ⟨x7_2, x8_2, rfl, rfl, HA, HK2, HO_3, HO_6, HB⟩ := hrel
      cases gk with
      | zero => exact absurd HA.out (by simp [laws_FnChanged.l0])
      | succ k2 =>
       have H := HA.out
       clear HA
       simp only [laws_FnChanged.l0] at H
       by_cases c23 : x8_2 < (t367.length : Int)
       ·rw [if_pos c23] at H
        have c23b0 : decide (x8_2 < (t367.length : Int)) = true := decide_eq_true c23
        clear c23
        by_cases c24 : 0 ≤ x8_2
        ·rw [if_pos c24] at H
         have c24b0 : decide (0 ≤ x8_2) = true := decide_eq_true c24
         clear c24
         by_cases c25 : ((rd_T52 t367 x8_2).f0) = t368
         ·rw [if_pos c25] at H
          have c25b0 : (((rd_T52 t367 x8_2).f0) == t368) = true := beq_iff_eq.mpr c25
          have c25b1 : (((rd_T52 t367 x8_2).f0) != t368) = false := bne_eq_false_iff_eq.mpr c25
          clear c25
          have H' := Aside0.mk H
          clear H
          have p376 : 0 ≤ (x8_2 : Int) := of_decide_eq_true (by first | (with_reducible assumption) | assumption)
          have q376 : x8_2 < (t367.length : Int) := of_decide_eq_true (by first | (with_reducible assumption) | assumption)
          obtain ⟨ad376, e376, hx376_0, hx376_1⟩ := at_T52 (Kd.R_reads' HO_3.out).2.2 x8_2 p376 q376
          cases e376
          replace p376 := eq_true p376
          replace q376 := eq_true q376
          have p377 : 0 ≤ (x8_2 : Int) := of_decide_eq_true (by first | (with_reducible assumption) | assumption)
          have q377 : x8_2 < (t367.length : Int) := of_decide_eq_true (by first | (with_reducible assumption) | assumption)
          obtain ⟨ad377, e377, hx377_0, hx377_1⟩ := at_T52 (Kd.R_reads' HO_3.out).2.2 x8_2 p377 q377
          obtain rfl : ad376 = ad377 := (by injection e377)
          replace p377 := eq_true p377
          replace q377 := eq_true q377
          go_wp2
          go_roundg k2
          case measure => have := HJ6.out; have := HK2.out; omega
          case rel => exact ⟨((rd_T52 t367 x8_2).f1), (wrap64 (x8_2 + 1)), (by first | rfl | (simp; done) | (simp [*]; done)), (by first | rfl | (simp; done) | (simp [*]; done)), H', ⟨by have := HJ6.out; have := HK2.out; omega⟩, ⟨by (with_reducible repeat (first | apply Kd.R_alloc | apply Kd.R_drewN | apply Kd.R_drew)); exact HO_3.out⟩, ⟨by (with_reducible repeat (first | apply Kd.R_alloc | apply Kd.R_drewN | apply Kd.R_drew)); exact HO_6.out⟩, ⟨by repeat (first | (with_reducible first | exact HB.out | apply below_alloc | apply pw_below_drewN | apply below_drew1) | exact HB.out)⟩⟩
         ·rw [if_neg c25] at H
          have c25b0 : (((rd_T52 t367 x8_2).f0) == t368) = false := beq_eq_false_iff_ne.mpr c25
          have c25b1 : (((rd_T52 t367 x8_2).f0) != t368) = true := bne_iff_ne.mpr c25
          have H' := Aside0.mk H
          clear H
          have p376 : 0 ≤ (x8_2 : Int) := of_decide_eq_true (by first | (with_reducible assumption) | assumption)
          have q376 : x8_2 < (t367.length : Int) := of_decide_eq_true (by first | (with_reducible assumption) | assumption)
          obtain ⟨ad376, e376, hx376_0, hx376_1⟩ := at_T52 (Kd.R_reads' HO_3.out).2.2 x8_2 p376 q376
          cases e376
          replace p376 := eq_true p376
          replace q376 := eq_true q376
          go_wp2
          go_roundg k2
          case measure => have := HJ6.out; have := HK2.out; omega
          case rel => exact ⟨(x7_2), (wrap64 (x8_2 + 1)), (by first | rfl | (simp; done) | (simp [*]; done)), (by first | rfl | (simp; done) | (simp [*]; done)), H', ⟨by have := HJ6.out; have := HK2.out; omega⟩, ⟨by (with_reducible repeat (first | apply Kd.R_alloc | apply Kd.R_drewN | apply Kd.R_drew)); exact HO_3.out⟩, ⟨by (with_reducible repeat (first | apply Kd.R_alloc | apply Kd.R_drewN | apply Kd.R_drew)); exact HO_6.out⟩, ⟨by repeat (first | (with_reducible first | exact HB.out | apply below_alloc | apply pw_below_drewN | apply below_drew1) | exact HB.out)⟩⟩
        ·rw [if_neg c24] at H
         exact absurd H (by simp)
       ·rw [if_neg c23] at H
        have c23b0 : decide (x8_2 < (t367.length : Int)) = false := decide_eq_false c23
        clear c23
        have H' := Aside0.mk H
        clear H
        go_wp2
        go_loopg [9] k2 (fun kq v9 w' => ∃ (x9_3 : Int), v9 = .int .i64 x9_3 ∧ Aside0 (laws_FnChanged.l1 kq t367 t368 t369 t372 x7_2 x9_3 = some r) ∧ Aside0 (kq ≤ k2) ∧ Aside0 (Kd.R k52 52 w' w.heap.size (fun k_ => some k_ ≠ (v373 : Value).ownBlock) (.slice Ao9 t367.length co9) t367) ∧ Aside0 (Kd.R k52 52 w' w.heap.size (fun k_ => some k_ ≠ ((.slice Ao9 t367.length co9) : Value).ownBlock) v373 t372) ∧ Aside0 (Below w.heap.size w w'))
        case atStart => exact ⟨(0), (by first | rfl | (simp; done) | (simp [*]; done)), H', ⟨Nat.le_refl _⟩, ⟨by (with_reducible repeat (first | apply Kd.R_alloc | apply Kd.R_drewN | apply Kd.R_drew)); exact HO_3.out⟩, ⟨by (with_reducible repeat (first | apply Kd.R_alloc | apply Kd.R_drewN | apply Kd.R_drew)); exact HO_6.out⟩, ⟨by repeat (first | (with_reducible first | exact HB.out | apply below_alloc | apply pw_below_drewN | apply below_drew1) | exact HB.out)⟩⟩
        case round =>
         clear H'
         try clear c1
         try clear c2
         try clear p2
         try clear p3
         try clear q3
         try clear hx3
         try clear c4
         try clear c5
         try clear c6
         try clear p6
         try clear c12
         try clear c13
         try clear c13b0
         try clear c15
         try clear c15b0
         try clear c17
         try clear c17b0
         try clear c21
         try clear c23
         try clear c23b0
         try clear c24
         try clear c24b0
         try clear c25
         try clear c25b0
         try clear c25b1
         try clear hx376_0
         try clear hx376_1
         try clear hx377_0
         try clear hx377_1
         try clear p2
         try clear p376
         try clear p377
         try clear q376
         try clear q377
         obtain ⟨x9_3, rfl, HA, HK3, HO_3, HO_6, HB⟩ := hrel
         cases gk with
         | zero => exact absurd HA.out (by simp [laws_FnChanged.l1])
         | succ k3 =>
          have H := HA.out
          clear HA
          simp only [laws_FnChanged.l1] at H
          by_cases c26 : x9_3 < (t372.length : Int)
          ·rw [if_pos c26] at H
           have c26b0 : decide (x9_3 < (t372.length : Int)) = true := decide_eq_true c26
           clear c26
           by_cases c27 : 0 ≤ x9_3
           ·rw [if_pos c27] at H
            have c27b0 : decide (0 ≤ x9_3) = true := decide_eq_true c27
            clear c27
            by_cases c28 : ((rd_T52 t372 x9_3).f0) = t368
            ·rw [if_pos c28] at H
             have c28b0 : (((rd_T52 t372 x9_3).f0) == t368) = true := beq_iff_eq.mpr c28
             have c28b1 : (((rd_T52 t372 x9_3).f0) != t368) = false := bne_eq_false_iff_eq.mpr c28
             clear c28
             by_cases c29 : ((rd_T52 t372 x9_3).f1) = t369
             ·rw [if_pos c29] at H
              have c29b0 : (((rd_T52 t372 x9_3).f1) == t369) = true := beq_iff_eq.mpr c29
              have c29b1 : (((rd_T52 t372 x9_3).f1) != t369) = false := bne_eq_false_iff_eq.mpr c29
              clear c29
              have H' := Aside0.mk H
              clear H
              obtain ⟨Ao30, co30, eo30⟩ := Kd.R_slice HO_6.out
              subst eo30
              have p378 : 0 ≤ (x9_3 : Int) := of_decide_eq_true (by first | (with_reducible assumption) | assumption)
              have q378 : x9_3 < (t372.length : Int) := of_decide_eq_true (by first | (with_reducible assumption) | assumption)
              obtain ⟨ad378, e378, hx378_0, hx378_1⟩ := at_T52 (Kd.R_reads' HO_6.out).2.2 x9_3 p378 q378
              cases e378
              replace p378 := eq_true p378
              replace q378 := eq_true q378
              have p379 : 0 ≤ (x9_3 : Int) := of_decide_eq_true (by first | (with_reducible assumption) | assumption)
              have q379 : x9_3 < (t372.length : Int) := of_decide_eq_true (by first | (with_reducible assumption) | assumption)
              obtain ⟨ad379, e379, hx379_0, hx379_1⟩ := at_T52 (Kd.R_reads' HO_6.out).2.2 x9_3 p379 q379
              obtain rfl : ad378 = ad379 := (by injection e379)
              replace p379 := eq_true p379
              replace q379 := eq_true q379
              go_wp2
              go_roundg k3
              case measure => have := HJ6.out; have := HK2.out; have := HK3.out; omega
              case rel => exact ⟨(wrap64 (x9_3 + 1)), (by first | rfl | (simp; done) | (simp [*]; done)), H', ⟨by have := HJ6.out; have := HK2.out; have := HK3.out; omega⟩, ⟨by (with_reducible repeat (first | apply Kd.R_alloc | apply Kd.R_drewN | apply Kd.R_drew)); exact HO_3.out⟩, ⟨by (with_reducible repeat (first | apply Kd.R_alloc | apply Kd.R_drewN | apply Kd.R_drew)); exact HO_6.out⟩, ⟨by repeat (first | (with_reducible first | exact HB.out | apply below_alloc | apply pw_below_drewN | apply below_drew1) | exact HB.out)⟩⟩
             ·rw [if_neg c29] at H
              exact absurd H (by simp)
            ·rw [if_neg c28] at H
             have c28b0 : (((rd_T52 t372 x9_3).f0) == t368) = false := beq_eq_false_iff_ne.mpr c28
             have c28b1 : (((rd_T52 t372 x9_3).f0) != t368) = true := bne_iff_ne.mpr c28
             have H' := Aside0.mk H
             clear H
             obtain ⟨Ao31, co31, eo31⟩ := Kd.R_slice HO_6.out
             subst eo31
             have p378 : 0 ≤ (x9_3 : Int) := of_decide_eq_true (by first | (with_reducible assumption) | assumption)
             have q378 : x9_3 < (t372.length : Int) := of_decide_eq_true (by first | (with_reducible assumption) | assumption)
             obtain ⟨ad378, e378, hx378_0, hx378_1⟩ := at_T52 (Kd.R_reads' HO_6.out).2.2 x9_3 p378 q378
             cases e378
             replace p378 := eq_true p378
             replace q378 := eq_true q378
             go_wp2
             go_roundg k3
             case measure => have := HJ6.out; have := HK2.out; have := HK3.out; omega
             case rel => exact ⟨(wrap64 (x9_3 + 1)), (by first | rfl | (simp; done) | (simp [*]; done)), H', ⟨by have := HJ6.out; have := HK2.out; have := HK3.out; omega⟩, ⟨by (with_reducible repeat (first | apply Kd.R_alloc | apply Kd.R_drewN | apply Kd.R_drew)); exact HO_3.out⟩, ⟨by (with_reducible repeat (first | apply Kd.R_alloc | apply Kd.R_drewN | apply Kd.R_drew)); exact HO_6.out⟩, ⟨by repeat (first | (with_reducible first | exact HB.out | apply below_alloc | apply pw_below_drewN | apply below_drew1) | exact HB.out)⟩⟩
           ·rw [if_neg c27] at H
            exact absurd H (by simp)
          ·rw [if_neg c26] at H
           have c26b0 : decide (x9_3 < (t372.length : Int)) = false := decide_eq_false c26
           clear c26
           replace H := Option.bind_eq_some_iff.mp H
           obtain ⟨t380, A320, H⟩ := H
           replace H : ((impl_LeavesOk.f k3 t372).bind fun t383 => (if t383 = true then ((laws_likeLeaves.f k3 t380 t367).bind fun t384 => (if t384 = true then ((impl_Peak.f k3 t380).bind fun t385 => ((impl_Peak.f k3 t367).bind fun t386 => (if t385 = t386 then ((impl_Way.f k3 t372 t368).bind fun t387 => ((impl_Way.f k3 t367 t368).bind fun t390 => ((laws_likeInts.f k3 t387 t390).bind fun t393 => (if t393 = true then ((impl_Peak.f k3 t372).bind fun t394 => ((impl_Way.f k3 t367 t368).bind fun t395 => ((impl_Holds.f k3 t394 t368 t369 t395).bind fun t398 => (some t398)))) else (none))))) else (none)))) else (none))) else (none))) = some r := H
           have A32 := Aside0.mk A320
           clear A320
           replace H := Option.bind_eq_some_iff.mp H
           obtain ⟨t383, A330, H⟩ := H
           replace H : (if t383 = true then ((laws_likeLeaves.f k3 t380 t367).bind fun t384 => (if t384 = true then ((impl_Peak.f k3 t380).bind fun t385 => ((impl_Peak.f k3 t367).bind fun t386 => (if t385 = t386 then ((impl_Way.f k3 t372 t368).bind fun t387 => ((impl_Way.f k3 t367 t368).bind fun t390 => ((laws_likeInts.f k3 t387 t390).bind fun t393 => (if t393 = true then ((impl_Peak.f k3 t372).bind fun t394 => ((impl_Way.f k3 t367 t368).bind fun t395 => ((impl_Holds.f k3 t394 t368 t369 t395).bind fun t398 => (some t398)))) else (none))))) else (none)))) else (none))) else (none)) = some r := H
           have A33 := Aside0.mk A330
           clear A330
           by_cases c34 : t383 = true
           ·subst c34
            have H1 : ((laws_likeLeaves.f k3 t380 t367).bind fun t384 => (if t384 = true then ((impl_Peak.f k3 t380).bind fun t385 => ((impl_Peak.f k3 t367).bind fun t386 => (if t385 = t386 then ((impl_Way.f k3 t372 t368).bind fun t387 => ((impl_Way.f k3 t367 t368).bind fun t390 => ((laws_likeInts.f k3 t387 t390).bind fun t393 => (if t393 = true then ((impl_Peak.f k3 t372).bind fun t394 => ((impl_Way.f k3 t367 t368).bind fun t395 => ((impl_Holds.f k3 t394 t368 t369 t395).bind fun t398 => (some t398)))) else (none))))) else (none)))) else (none))) = some r := by rw [if_pos rfl] at H; exact H
            clear H
            have H := H1
            clear H1
            replace H := Option.bind_eq_some_iff.mp H
            obtain ⟨t384, A350, H⟩ := H
            replace H : (if t384 = true then ((impl_Peak.f k3 t380).bind fun t385 => ((impl_Peak.f k3 t367).bind fun t386 => (if t385 = t386 then ((impl_Way.f k3 t372 t368).bind fun t387 => ((impl_Way.f k3 t367 t368).bind fun t390 => ((laws_likeInts.f k3 t387 t390).bind fun t393 => (if t393 = true then ((impl_Peak.f k3 t372).bind fun t394 => ((impl_Way.f k3 t367 t368).bind fun t395 => ((impl_Holds.f k3 t394 t368 t369 t395).bind fun t398 => (some t398)))) else (none))))) else (none)))) else (none)) = some r := H
            have A35 := Aside0.mk A350
            clear A350
            by_cases c36 : t384 = true
            ·subst c36
             have H1 : ((impl_Peak.f k3 t380).bind fun t385 => ((impl_Peak.f k3 t367).bind fun t386 => (if t385 = t386 then ((impl_Way.f k3 t372 t368).bind fun t387 => ((impl_Way.f k3 t367 t368).bind fun t390 => ((laws_likeInts.f k3 t387 t390).bind fun t393 => (if t393 = true then ((impl_Peak.f k3 t372).bind fun t394 => ((impl_Way.f k3 t367 t368).bind fun t395 => ((impl_Holds.f k3 t394 t368 t369 t395).bind fun t398 => (some t398)))) else (none))))) else (none)))) = some r := by rw [if_pos rfl] at H; exact H
             clear H
             have H := H1
             clear H1
             replace H := Option.bind_eq_some_iff.mp H
             obtain ⟨t385, A370, H⟩ := H
             replace H : ((impl_Peak.f k3 t367).bind fun t386 => (if t385 = t386 then ((impl_Way.f k3 t372 t368).bind fun t387 => ((impl_Way.f k3 t367 t368).bind fun t390 => ((laws_likeInts.f k3 t387 t390).bind fun t393 => (if t393 = true then ((impl_Peak.f k3 t372).bind fun t394 => ((impl_Way.f k3 t367 t368).bind fun t395 => ((impl_Holds.f k3 t394 t368 t369 t395).bind fun t398 => (some t398)))) else (none))))) else (none))) = some r := H
             have A37 := Aside0.mk A370
             clear A370
             replace H := Option.bind_eq_some_iff.mp H
             obtain ⟨t386, A380, H⟩ := H
             replace H : (if t385 = t386 then ((impl_Way.f k3 t372 t368).bind fun t387 => ((impl_Way.f k3 t367 t368).bind fun t390 => ((laws_likeInts.f k3 t387 t390).bind fun t393 => (if t393 = true then ((impl_Peak.f k3 t372).bind fun t394 => ((impl_Way.f k3 t367 t368).bind fun t395 => ((impl_Holds.f k3 t394 t368 t369 t395).bind fun t398 => (some t398)))) else (none))))) else (none)) = some r := H
             have A38 := Aside0.mk A380
             clear A380
             by_cases c39 : t385 = t386
             ·rw [if_pos c39] at H
              have c39b0 : (t385 == t386) = true := beq_iff_eq.mpr c39
              have c39b1 : (t385 != t386) = false := bne_eq_false_iff_eq.mpr c39
              clear c39
              replace H := Option.bind_eq_some_iff.mp H
              obtain ⟨t387, A400, H⟩ := H
              replace H : ((impl_Way.f k3 t367 t368).bind fun t390 => ((laws_likeInts.f k3 t387 t390).bind fun t393 => (if t393 = true then ((impl_Peak.f k3 t372).bind fun t394 => ((impl_Way.f k3 t367 t368).bind fun t395 => ((impl_Holds.f k3 t394 t368 t369 t395).bind fun t398 => (some t398)))) else (none)))) = some r := H
              have A40 := Aside0.mk A400
              clear A400
              replace H := Option.bind_eq_some_iff.mp H
              obtain ⟨t390, A410, H⟩ := H
              replace H : ((laws_likeInts.f k3 t387 t390).bind fun t393 => (if t393 = true then ((impl_Peak.f k3 t372).bind fun t394 => ((impl_Way.f k3 t367 t368).bind fun t395 => ((impl_Holds.f k3 t394 t368 t369 t395).bind fun t398 => (some t398)))) else (none))) = some r := H
              have A41 := Aside0.mk A410
              clear A410
              replace H := Option.bind_eq_some_iff.mp H
              obtain ⟨t393, A420, H⟩ := H
              replace H : (if t393 = true then ((impl_Peak.f k3 t372).bind fun t394 => ((impl_Way.f k3 t367 t368).bind fun t395 => ((impl_Holds.f k3 t394 t368 t369 t395).bind fun t398 => (some t398)))) else (none)) = some r := H
              have A42 := Aside0.mk A420
              clear A420
              by_cases c43 : t393 = true
              ·subst c43
               have H1 : ((impl_Peak.f k3 t372).bind fun t394 => ((impl_Way.f k3 t367 t368).bind fun t395 => ((impl_Holds.f k3 t394 t368 t369 t395).bind fun t398 => (some t398)))) = some r := by rw [if_pos rfl] at H; exact H
               clear H
               have H := H1
               clear H1
               replace H := Option.bind_eq_some_iff.mp H
               obtain ⟨t394, A440, H⟩ := H
               replace H : ((impl_Way.f k3 t367 t368).bind fun t395 => ((impl_Holds.f k3 t394 t368 t369 t395).bind fun t398 => (some t398))) = some r := H
               have A44 := Aside0.mk A440
               clear A440
               replace H := Option.bind_eq_some_iff.mp H
               obtain ⟨t395, A450, H⟩ := H
               replace H : ((impl_Holds.f k3 t394 t368 t369 t395).bind fun t398 => (some t398)) = some r := H
               have A45 := Aside0.mk A450
               clear A450
               replace H := Option.bind_eq_some_iff.mp H
               obtain ⟨t398, A460, H⟩ := H
               replace H : (some t398) = some r := H
               have A46 := Aside0.mk A460
               clear A460
               obtain rfl := Option.some.inj H
               obtain ⟨Ao47, co47, eo47⟩ := Kd.R_slice HO_6.out
               subst eo47
               go_wp2_with (first | ((with_reducible refine gate_callee (f := 25) rfl ?_); refine goesL_ (some 88) rfl rfl Tryd.func25 (by kernel_rfl) rfl #[.slice Ao47 t372.length co47, .int .i64 t368, .int .i64 x7_2] rfl (by (try simp only [List.map_toArray, List.map_cons, List.map_nil]); first | done | rfl | (simp only [List.length_drop, List.length_take]; rfl)) ?_; (with_reducible refine (impl_Set.calls k3 _ _ t372 t368 x7_2 t380 _ ?side1 ?side2 A32.out).mono ?_); (case side1 => repeat (first | exact (Kd.R_reads' HO_6.out).2.2 | (with_reducible refine Kd.C_alloc ?_ _) | (with_reducible refine Kd.C_drewN ?_ _) | (with_reducible refine Kd.C_drew ?_))); (case side2 => exact (Kd.R_reads' HO_6.out).2.1); rintro e w48 ⟨v381, rfl, ho0, hb⟩; refine ⟨_, rfl, ?_⟩; have n0_ := Aside0.mk (Kd.R_elder' (by (with_reducible repeat (first | apply Kd.R_alloc | apply Kd.R_drewN | apply Kd.R_drew)); exact HO_3.out) (Kd.R_base ho0) hb); have n1_ := Aside0.mk (Kd.R_elder' (by (with_reducible repeat (first | apply Kd.R_alloc | apply Kd.R_drewN | apply Kd.R_drew)); exact HO_6.out) (Kd.R_base ho0) hb); have n2_ := Aside0.mk (Kd.R_lower (Kd.R_new' (Kd.R_new' ho0 (Kd.R_lt (by (with_reducible repeat (first | apply Kd.R_alloc | apply Kd.R_drewN | apply Kd.R_drew)); exact HO_3.out))) (Kd.R_lt (by (with_reducible repeat (first | apply Kd.R_alloc | apply Kd.R_drewN | apply Kd.R_drew)); exact HO_6.out))) (below_size (by repeat (first | (with_reducible first | exact HB.out | apply below_alloc | apply pw_below_drewN | apply below_drew1) | exact HB.out)))); have n3_ := Aside0.mk (below_step (by repeat (first | (with_reducible first | exact HB.out | apply below_alloc | apply pw_below_drewN | apply below_drew1) | exact HB.out)) hb); clear HO_3; clear HO_6; clear HB; have HO_3 := n0_; have HO_6 := n1_; have HO382 := n2_; have HB := n3_; clear n0_ n1_ n2_ n3_; (try clear hb); (try clear hb2); (try clear hk); (try clear hi); (try clear ho0)) | ((with_reducible refine gate_callee (f := 27) rfl ?_); refine goesL_ (some 90) rfl rfl Tryd.func27 (by kernel_rfl) rfl #[.slice Ao47 t372.length co47] rfl (by (try simp only [List.map_toArray, List.map_cons, List.map_nil]); first | done | rfl | (simp only [List.length_drop, List.length_take]; rfl)) ?_; (with_reducible refine (impl_LeavesOk.calls k3 _ _ t372 true _ ?side1 ?side2 A33.out).mono ?_); (case side1 => repeat (first | exact (Kd.R_reads' HO_6.out).2.2 | (with_reducible refine Kd.C_alloc ?_ _) | (with_reducible refine Kd.C_drewN ?_ _) | (with_reducible refine Kd.C_drew ?_))); (case side2 => exact (Kd.R_reads' HO_6.out).2.1); rintro e w49 ⟨rfl, hb⟩; refine ⟨_, rfl, ?_⟩; have n0_ := Aside0.mk (Kd.R_below (by (with_reducible repeat (first | apply Kd.R_alloc | apply Kd.R_drewN | apply Kd.R_drew)); exact HO_3.out) hb); have n1_ := Aside0.mk (Kd.R_below (by (with_reducible repeat (first | apply Kd.R_alloc | apply Kd.R_drewN | apply Kd.R_drew)); exact HO_6.out) hb); have n2_ := Aside0.mk (Kd.R_below (by (with_reducible repeat (first | apply Kd.R_alloc | apply Kd.R_drewN | apply Kd.R_drew)); exact HO382.out) hb); have n3_ := Aside0.mk (below_step (by repeat (first | (with_reducible first | exact HB.out | apply below_alloc | apply pw_below_drewN | apply below_drew1) | exact HB.out)) hb); clear HO_3; clear HO_6; clear HO382; clear HB; have HO_3 := n0_; have HO_6 := n1_; have HO382 := n2_; have HB := n3_; clear n0_ n1_ n2_ n3_; (try clear hb); (try clear hb2); (try clear hk); (try clear hi); obtain ⟨Ao50, co50, eo50⟩ := Kd.R_slice HO382.out; subst eo50) | (go_at_call 28; (with_reducible refine (laws_likeLeaves.calls k3 _ _ t380 _ _ t367 true _ ?side1 ?side2 ?side3 ?side4 A35.out).mono ?_); (case side1 => repeat (first | exact (Kd.R_reads' HO382.out).2.2 | (with_reducible refine Kd.C_alloc ?_ _) | (with_reducible refine Kd.C_drewN ?_ _) | (with_reducible refine Kd.C_drew ?_))); (case side2 => exact (Kd.R_reads' HO382.out).2.1); (case side3 => repeat (first | exact (Kd.R_reads' HO_3.out).2.2 | (with_reducible refine Kd.C_alloc ?_ _) | (with_reducible refine Kd.C_drewN ?_ _) | (with_reducible refine Kd.C_drew ?_))); (case side4 => exact (Kd.R_reads' HO_3.out).2.1); rintro e w' ⟨rfl, ⟨nd, rfl⟩⟩) | (go_at_call 29; (with_reducible refine (impl_Peak.calls k3 _ _ t380 t385 _ ?side1 ?side2 A37.out (tab_at HT.out (by repeat (first | (with_reducible first | exact HB.out | apply below_alloc | apply pw_below_drewN | apply below_drew1 | (refine below_set ?_ (Aside0.out (by assumption)))) | exact HB.out)))).mono ?_); (case side1 => repeat (first | exact (Kd.R_reads' HO382.out).2.2 | (with_reducible refine Kd.C_alloc ?_ _) | (with_reducible refine Kd.C_drewN ?_ _) | (with_reducible refine Kd.C_drew ?_))); (case side2 => exact (Kd.R_reads' HO382.out).2.1); rintro e w51 ⟨rfl, hb⟩; have n0_ := Aside0.mk (Kd.R_below (by (with_reducible repeat (first | apply Kd.R_alloc | apply Kd.R_drewN | apply Kd.R_drew)); exact HO_3.out) hb); have n1_ := Aside0.mk (Kd.R_below (by (with_reducible repeat (first | apply Kd.R_alloc | apply Kd.R_drewN | apply Kd.R_drew)); exact HO_6.out) hb); have n2_ := Aside0.mk (Kd.R_below (by (with_reducible repeat (first | apply Kd.R_alloc | apply Kd.R_drewN | apply Kd.R_drew)); exact HO382.out) hb); have n3_ := Aside0.mk (below_step (by repeat (first | (with_reducible first | exact HB.out | apply below_alloc | apply pw_below_drewN | apply below_drew1) | exact HB.out)) hb); clear HO_3; clear HO_6; clear HO382; clear HB; have HO_3 := n0_; have HO_6 := n1_; have HO382 := n2_; have HB := n3_; clear n0_ n1_ n2_ n3_; (try clear hb); (try clear hb2); (try clear hk); (try clear hi)) | (go_at_call 29; (with_reducible refine (impl_Peak.calls k3 _ _ t367 t386 _ ?side1 ?side2 A38.out (tab_at HT.out (by repeat (first | (with_reducible first | exact HB.out | apply below_alloc | apply pw_below_drewN | apply below_drew1 | (refine below_set ?_ (Aside0.out (by assumption)))) | exact HB.out)))).mono ?_); (case side1 => repeat (first | exact (Kd.R_reads' HO_3.out).2.2 | (with_reducible refine Kd.C_alloc ?_ _) | (with_reducible refine Kd.C_drewN ?_ _) | (with_reducible refine Kd.C_drew ?_))); (case side2 => exact (Kd.R_reads' HO_3.out).2.1); rintro e w52 ⟨rfl, hb⟩; have n0_ := Aside0.mk (Kd.R_below (by (with_reducible repeat (first | apply Kd.R_alloc | apply Kd.R_drewN | apply Kd.R_drew)); exact HO_3.out) hb); have n1_ := Aside0.mk (Kd.R_below (by (with_reducible repeat (first | apply Kd.R_alloc | apply Kd.R_drewN | apply Kd.R_drew)); exact HO_6.out) hb); have n2_ := Aside0.mk (below_step (by repeat (first | (with_reducible first | exact HB.out | apply below_alloc | apply pw_below_drewN | apply below_drew1) | exact HB.out)) hb); clear HO_3; clear HO_6; clear HB; have HO_3 := n0_; have HO_6 := n1_; have HB := n2_; clear n0_ n1_ n2_; (try clear hb); (try clear hb2); (try clear hk); (try clear hi)) | (go_at_call 30; (with_reducible refine (impl_Way.calls k3 _ _ t372 t368 t387 _ ?side1 ?side2 A40.out (tab_at HT.out (by repeat (first | (with_reducible first | exact HB.out | apply below_alloc | apply pw_below_drewN | apply below_drew1 | (refine below_set ?_ (Aside0.out (by assumption)))) | exact HB.out)))).mono ?_); (case side1 => repeat (first | exact (Kd.R_reads' HO_6.out).2.2 | (with_reducible refine Kd.C_alloc ?_ _) | (with_reducible refine Kd.C_drewN ?_ _) | (with_reducible refine Kd.C_drew ?_))); (case side2 => exact (Kd.R_reads' HO_6.out).2.1); rintro e w53 ⟨v388, rfl, ho0, hb⟩; have n0_ := Aside0.mk (Kd.R_below (by (with_reducible repeat (first | apply Kd.R_alloc | apply Kd.R_drewN | apply Kd.R_drew)); exact HO_3.out) hb); have n1_ := Aside0.mk (Kd.R_below (by (with_reducible repeat (first | apply Kd.R_alloc | apply Kd.R_drewN | apply Kd.R_drew)); exact HO_6.out) hb); have n2_ := Aside0.mk (Kd.R_lower ho0 (below_size (by repeat (first | (with_reducible first | exact HB.out | apply below_alloc | apply pw_below_drewN | apply below_drew1) | exact HB.out)))); have n3_ := Aside0.mk (below_step (by repeat (first | (with_reducible first | exact HB.out | apply below_alloc | apply pw_below_drewN | apply below_drew1) | exact HB.out)) hb); clear HO_3; clear HO_6; clear HB; have HO_3 := n0_; have HO_6 := n1_; have HO389 := n2_; have HB := n3_; clear n0_ n1_ n2_ n3_; (try clear hb); (try clear hb2); (try clear hk); (try clear hi); (try clear ho0)) | (go_at_call 30; (with_reducible refine (impl_Way.calls k3 _ _ t367 t368 t390 _ ?side1 ?side2 A41.out (tab_at HT.out (by repeat (first | (with_reducible first | exact HB.out | apply below_alloc | apply pw_below_drewN | apply below_drew1 | (refine below_set ?_ (Aside0.out (by assumption)))) | exact HB.out)))).mono ?_); (case side1 => repeat (first | exact (Kd.R_reads' HO_3.out).2.2 | (with_reducible refine Kd.C_alloc ?_ _) | (with_reducible refine Kd.C_drewN ?_ _) | (with_reducible refine Kd.C_drew ?_))); (case side2 => exact (Kd.R_reads' HO_3.out).2.1); rintro e w54 ⟨v391, rfl, ho0, hb⟩; have n0_ := Aside0.mk (Kd.R_below (by (with_reducible repeat (first | apply Kd.R_alloc | apply Kd.R_drewN | apply Kd.R_drew)); exact HO_3.out) hb); have n1_ := Aside0.mk (Kd.R_below (by (with_reducible repeat (first | apply Kd.R_alloc | apply Kd.R_drewN | apply Kd.R_drew)); exact HO_6.out) hb); have n2_ := Aside0.mk (Kd.R_elder' (by (with_reducible repeat (first | apply Kd.R_alloc | apply Kd.R_drewN | apply Kd.R_drew)); exact HO389.out) (Kd.R_base ho0) hb); have n3_ := Aside0.mk (Kd.R_lower (Kd.R_new' ho0 (Kd.R_lt (by (with_reducible repeat (first | apply Kd.R_alloc | apply Kd.R_drewN | apply Kd.R_drew)); exact HO389.out))) (below_size (by repeat (first | (with_reducible first | exact HB.out | apply below_alloc | apply pw_below_drewN | apply below_drew1) | exact HB.out)))); have n4_ := Aside0.mk (below_step (by repeat (first | (with_reducible first | exact HB.out | apply below_alloc | apply pw_below_drewN | apply below_drew1) | exact HB.out)) hb); clear HO_3; clear HO_6; clear HO389; clear HB; have HO_3 := n0_; have HO_6 := n1_; have HO389 := n2_; have HO392 := n3_; have HB := n4_; clear n0_ n1_ n2_ n3_ n4_; (try clear hb); (try clear hb2); (try clear hk); (try clear hi); (try clear ho0); obtain ⟨Ao55, co55, eo55⟩ := Kd.R_slice HO389.out; subst eo55; obtain ⟨Ao56, co56, eo56⟩ := Kd.R_slice HO392.out; subst eo56) | (go_at_call 22; (with_reducible refine (laws_likeInts.calls k3 _ _ t387 _ _ t390 true _ ?side1 ?side2 ?side3 ?side4 A42.out).mono ?_); (case side1 => repeat (first | exact (Kd.R_reads' HO389.out).2.2 | (with_reducible refine Kd.C_alloc ?_ _) | (with_reducible refine Kd.C_drewN ?_ _) | (with_reducible refine Kd.C_drew ?_))); (case side2 => exact (Kd.R_reads' HO389.out).2.1); (case side3 => repeat (first | exact (Kd.R_reads' HO392.out).2.2 | (with_reducible refine Kd.C_alloc ?_ _) | (with_reducible refine Kd.C_drewN ?_ _) | (with_reducible refine Kd.C_drew ?_))); (case side4 => exact (Kd.R_reads' HO392.out).2.1); rintro e w' ⟨rfl, ⟨nd, rfl⟩⟩) | (go_at_call 29; (with_reducible refine (impl_Peak.calls k3 _ _ t372 t394 _ ?side1 ?side2 A44.out (tab_at HT.out (by repeat (first | (with_reducible first | exact HB.out | apply below_alloc | apply pw_below_drewN | apply below_drew1 | (refine below_set ?_ (Aside0.out (by assumption)))) | exact HB.out)))).mono ?_); (case side1 => repeat (first | exact (Kd.R_reads' HO_6.out).2.2 | (with_reducible refine Kd.C_alloc ?_ _) | (with_reducible refine Kd.C_drewN ?_ _) | (with_reducible refine Kd.C_drew ?_))); (case side2 => exact (Kd.R_reads' HO_6.out).2.1); rintro e w57 ⟨rfl, hb⟩; have n0_ := Aside0.mk (Kd.R_below (by (with_reducible repeat (first | apply Kd.R_alloc | apply Kd.R_drewN | apply Kd.R_drew)); exact HO_3.out) hb); have n1_ := Aside0.mk (Kd.R_below (by (with_reducible repeat (first | apply Kd.R_alloc | apply Kd.R_drewN | apply Kd.R_drew)); exact HO_6.out) hb); have n2_ := Aside0.mk (below_step (by repeat (first | (with_reducible first | exact HB.out | apply below_alloc | apply pw_below_drewN | apply below_drew1) | exact HB.out)) hb); clear HO_3; clear HO_6; clear HB; have HO_3 := n0_; have HO_6 := n1_; have HB := n2_; clear n0_ n1_ n2_; (try clear hb); (try clear hb2); (try clear hk); (try clear hi)) | (go_at_call 30; (with_reducible refine (impl_Way.calls k3 _ _ t367 t368 t395 _ ?side1 ?side2 A45.out (tab_at HT.out (by repeat (first | (with_reducible first | exact HB.out | apply below_alloc | apply pw_below_drewN | apply below_drew1 | (refine below_set ?_ (Aside0.out (by assumption)))) | exact HB.out)))).mono ?_); (case side1 => repeat (first | exact (Kd.R_reads' HO_3.out).2.2 | (with_reducible refine Kd.C_alloc ?_ _) | (with_reducible refine Kd.C_drewN ?_ _) | (with_reducible refine Kd.C_drew ?_))); (case side2 => exact (Kd.R_reads' HO_3.out).2.1); rintro e w58 ⟨v396, rfl, ho0, hb⟩; have n0_ := Aside0.mk (Kd.R_below (by (with_reducible repeat (first | apply Kd.R_alloc | apply Kd.R_drewN | apply Kd.R_drew)); exact HO_3.out) hb); have n1_ := Aside0.mk (Kd.R_lower ho0 (below_size (by repeat (first | (with_reducible first | exact HB.out | apply below_alloc | apply pw_below_drewN | apply below_drew1) | exact HB.out)))); have n2_ := Aside0.mk (below_step (by repeat (first | (with_reducible first | exact HB.out | apply below_alloc | apply pw_below_drewN | apply below_drew1) | exact HB.out)) hb); clear HO_3; clear HB; have HO_3 := n0_; have HO397 := n1_; have HB := n2_; clear n0_ n1_ n2_; (try clear hb); (try clear hb2); (try clear hk); (try clear hi); (try clear ho0); obtain ⟨Ao59, co59, eo59⟩ := Kd.R_slice HO397.out; subst eo59) | (go_at_call 31; (with_reducible refine (impl_Holds.calls k3 t394 t368 t369 _ _ t395 t398 _ ?side1 ?side2 A46.out (tab_at HT.out (by repeat (first | (with_reducible first | exact HB.out | apply below_alloc | apply pw_below_drewN | apply below_drew1 | (refine below_set ?_ (Aside0.out (by assumption)))) | exact HB.out)))).mono ?_); (case side1 => repeat (first | exact (Kd.R_reads' HO397.out).2.2 | (with_reducible refine Kd.C_alloc ?_ _) | (with_reducible refine Kd.C_drewN ?_ _) | (with_reducible refine Kd.C_drew ?_))); (case side2 => exact (Kd.R_reads' HO397.out).2.1); rintro e w60 ⟨rfl, hb⟩; have n0_ := Aside0.mk (Kd.R_below (by (with_reducible repeat (first | apply Kd.R_alloc | apply Kd.R_drewN | apply Kd.R_drew)); exact HO397.out) hb); have n1_ := Aside0.mk (below_step (by repeat (first | (with_reducible first | exact HB.out | apply below_alloc | apply pw_below_drewN | apply below_drew1) | exact HB.out)) hb); clear HO397; clear HB; have HO397 := n0_; have HB := n1_; clear n0_ n1_; (try clear hb); (try clear hb2); (try clear hk); (try clear hi)))
               go_ret
               exact ⟨by first | rfl | (simp [errW_none, errW_some] <;> rfl) | (simp [*, errW_none, errW_some] <;> rfl), by repeat (first | (with_reducible first | exact HB.out | apply below_alloc | apply pw_below_drewN | apply below_drew1) | exact HB.out)⟩
              ·replace c43 := Bool.eq_false_iff.mpr c43
               subst c43
               have H1 : (none) = some r := by rw [if_neg (show ¬ (false = true) by decide)] at H; exact H
               clear H
               have H := H1
               clear H1
               exact absurd H (by simp)
             ·rw [if_neg c39] at H
              exact absurd H (by simp)
            ·replace c36 := Bool.eq_false_iff.mpr c36
             subst c36
             have H1 : (none) = some r := by rw [if_neg (show ¬ (false = true) by decide)] at H; exact H
             clear H
             have H := H1
             clear H1
             exact absurd H (by simp)
           ·replace c34 := Bool.eq_false_iff.mpr c34
            subst c34
            have H1 : (none) = some r := by rw [if_neg (show ¬ (false = true) by decide)] at H; exact H
            clear H
            have H := H1
            clear H1
            exact absurd H (by simp)

end Go.Proofs.YtckgkhlgnblblaaDoor.PFnChanged
