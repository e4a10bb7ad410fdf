-- Written by a program of this session (wip/tools/pp.py over the kit's print).
import Derived.Test.YtgpofolfflfgiaaDoorPFnProvedx0
import Derived.Test.YtgpofolfflfgiaaDoorPFnProvedx2
import Derived.Test.YtgpofolfflfgiaaDoorPFnProvedx3
import Derived.Test.YtgpofolfflfgiaaDoorPFnProvedx4
import Derived.Test.YtgpofolfflfgiaaDoorPFnProvedx5
import Derived.Test.YtgpofolfflfgiaaDoorPFnProvedx7
import Derived.Test.YtgpofolfflfgiaaDoorPFnProvedx9
import Derived.Test.YtgpofolfflfgiaaDoorPFnProvedx10
import Derived.Test.YtgpofolfflfgiaaDoorPFnProvedx12
import Derived.Test.YtgpofolfflfgiaaDoorPFnProvedx13
import Derived.Test.YtgpofolfflfgiaaDoorPFnProvedx14
import Derived.Test.YtgpofolfflfgiaaDoorPFnProvedx15
namespace Go.Proofs.YtgpofolfflfgiaaDoor.PFnProved
open Go.RowKit Go.Proofs.YtgpofolfflfgiaaDoorW.PrintWords Go.Proofs.YtgpofolfflfgiaaDoorW.PrintLast Go.Proofs.YtgpofolfflfgiaaDoorW.PrintMore
attribute [local go_sem] max2_int min2_int max_two min_two max_three min_three max_four min_four
attribute [local go_sem high] str_gtr str_leq str_geq
set_option linter.unusedVariables false
set_option linter.unusedSimpArgs false

/-! ### laws_FnProved: function 3 -/
def laws_FnProved.l0 : Nat → List Int → List (S42) → Int → Int → Int → Option (Bool)
 | 0, _, _, _, _, _ => none
 | k + 1, x0, x12, x15, x16, x17 => if x17 < (x12.length : Int) then (if 0 ≤ x17 then (if ((rd_T42 x12 x17).f0) = x15 then (laws_FnProved.l0 k x0 x12 x15 ((rd_T42 x12 x17).f1) (wrap64 (x17 + 1))) else (laws_FnProved.l0 k x0 x12 x15 x16 (wrap64 (x17 + 1)))) else (none)) else ((impl_Way.f k x12 x15).bind fun t560 => ((impl_Peak.f k x12).bind fun t563 => ((impl_Holds.f k t563 x15 x16 t560).bind fun t564 => (if t564 = true then ((laws_pick.f k x0 2 1000).bind fun t565 => (if (wrap64 (t565 - 1)) = x16 then (some true) else ((impl_Peak.f k x12).bind fun t566 => ((impl_Holds.f k t566 x15 (wrap64 (t565 - 1)) t560).bind fun t567 => (if t567 = true then ((impl_Parted.f k x15 x16 t560 (wrap64 (t565 - 1)) t560).bind fun bt568 => (if bt568.2 = true then (some ((bt568.1.length : Int) == 4)) else (none))) else (some true)))))) else (none)))))
def laws_FnProved.f (k : Nat) (l0 : List Int) : Option (Bool) := (laws_big.f l0).bind fun t516 => (if t516 = true then (some true) else ((spec_DrawSet.f k l0).bind fun bt517 => ((impl_Set.f k bt517.1 bt517.2.1 bt517.2.2).bind fun t522 => ((spec_DrawHolds.f k l0).bind fun bt525 => ((impl_Holds.f k bt525.1 bt525.2.1 bt525.2.2.1 bt525.2.2.2).bind fun t531 => ((spec_DrawPeak.f k l0).bind fun t532 => ((spec_DrawWay.f k l0).bind fun bt535 => ((spec_Set.f k bt517.1 bt517.2.1 bt517.2.2).bind fun t539 => ((laws_likeLeaves.f k t522 t539).bind fun t542 => (if t542 = true then ((spec_Holds.f k bt525.1 bt525.2.1 bt525.2.2.1 bt525.2.2.2).bind fun t543 => (if (t531 != t543) = true then (none) else ((impl_Peak.f k t532).bind fun t544 => ((spec_Peak.f k t532).bind fun t545 => (if t544 = t545 then ((impl_Way.f k bt535.1 bt535.2).bind fun t546 => ((spec_Way.f k bt535.1 bt535.2).bind fun t549 => ((laws_likeInts.f k t546 t549).bind fun t552 => (if t552 = true then ((impl_LeavesOk.f k t532).bind fun t553 => ((spec_LeavesOk.f k t532).bind fun t554 => (if (t553 != t554) = true then (none) else ((spec_LeavesOk.f k t532).bind fun t555 => (if t555 = true then ((laws_pick.f k l0 1 10).bind fun t557 => (laws_FnProved.l0 k l0 t532 t557 (-1) 0)) else ((impl_Peak.f k t532).bind fun t556 => (some (t556 == (-1))))))))) else (none))))) else (none)))))) else (none)))))))))))
theorem laws_FnProved.mono_l : ∀ k, (∀ y0 y1 y2 y3 y4, LeO (laws_FnProved.l0 k y0 y1 y2 y3 y4) (laws_FnProved.l0 (k + 1) y0 y1 y2 y3 y4))
 | 0 => fun _ _ _ _ _ r h => by simp [laws_FnProved.l0] at h
 | k + 1 => by
  have ih0 := laws_FnProved.mono_l k
  ·intro y0 y1 y2 y3 y4
   unfold laws_FnProved.l0
   repeat' first
   | (with_reducible exact ih0 _ _ _ _ _)
   | (with_reducible exact impl_Holds.mono _ _ _ _ _)
   | (with_reducible exact impl_LeavesOk.mono _ _)
   | (with_reducible exact impl_Parted.mono _ _ _ _ _ _)
   | (with_reducible exact impl_Peak.mono _ _)
   | (with_reducible exact impl_Set.mono _ _ _ _)
   | (with_reducible exact impl_Way.mono _ _ _)
   | (with_reducible exact laws_likeInts.mono _ _ _)
   | (with_reducible exact laws_likeLeaves.mono _ _ _)
   | (with_reducible exact laws_pick.mono _ _ _ _)
   | (with_reducible exact spec_DrawHolds.mono _ _)
   | (with_reducible exact spec_DrawPeak.mono _ _)
   | (with_reducible exact spec_DrawSet.mono _ _)
   | (with_reducible exact spec_DrawWay.mono _ _)
   | (with_reducible exact spec_Holds.mono _ _ _ _ _)
   | (with_reducible exact spec_LeavesOk.mono _ _)
   | (with_reducible exact spec_Peak.mono _ _)
   | (with_reducible exact spec_Set.mono _ _ _ _)
   | (with_reducible exact spec_Way.mono _ _ _)
   | (with_reducible exact LeO.refl _)
   | (with_reducible exact LeO.none _)
   | (with_reducible refine LeO.ite ?_ ?_)
   | (with_reducible refine LeO.bind ?_ (fun _ => ?_))
   | exact ih0 _ _ _ _ _
   | exact impl_Holds.mono _ _ _ _ _
   | exact impl_LeavesOk.mono _ _
   | exact impl_Parted.mono _ _ _ _ _ _
   | exact impl_Peak.mono _ _
   | exact impl_Set.mono _ _ _ _
   | exact impl_Way.mono _ _ _
   | exact laws_likeInts.mono _ _ _
   | exact laws_likeLeaves.mono _ _ _
   | exact laws_pick.mono _ _ _ _
   | exact spec_DrawHolds.mono _ _
   | exact spec_DrawPeak.mono _ _
   | exact spec_DrawSet.mono _ _
   | exact spec_DrawWay.mono _ _
   | exact spec_Holds.mono _ _ _ _ _
   | exact spec_LeavesOk.mono _ _
   | exact spec_Peak.mono _ _
   | exact spec_Set.mono _ _ _ _
   | exact spec_Way.mono _ _ _
   | exact LeO.none _
   | refine LeO.ite ?_ ?_
   | refine LeO.bind ?_ (fun _ => ?_)
theorem laws_FnProved.mono : ∀ a0 k, LeO (laws_FnProved.f k a0) (laws_FnProved.f (k + 1) a0) := by
 intro a0 k
 have ih0 := laws_FnProved.mono_l k
 unfold laws_FnProved.f
 repeat' first
   | (with_reducible exact ih0 _ _ _ _ _)
   | (with_reducible exact impl_Holds.mono _ _ _ _ _)
   | (with_reducible exact impl_LeavesOk.mono _ _)
   | (with_reducible exact impl_Parted.mono _ _ _ _ _ _)
   | (with_reducible exact impl_Peak.mono _ _)
   | (with_reducible exact impl_Set.mono _ _ _ _)
   | (with_reducible exact impl_Way.mono _ _ _)
   | (with_reducible exact laws_likeInts.mono _ _ _)
   | (with_reducible exact laws_likeLeaves.mono _ _ _)
   | (with_reducible exact laws_pick.mono _ _ _ _)
   | (with_reducible exact spec_DrawHolds.mono _ _)
   | (with_reducible exact spec_DrawPeak.mono _ _)
   | (with_reducible exact spec_DrawSet.mono _ _)
   | (with_reducible exact spec_DrawWay.mono _ _)
   | (with_reducible exact spec_Holds.mono _ _ _ _ _)
   | (with_reducible exact spec_LeavesOk.mono _ _)
   | (with_reducible exact spec_Peak.mono _ _)
   | (with_reducible exact spec_Set.mono _ _ _ _)
   | (with_reducible exact spec_Way.mono _ _ _)
   | (with_reducible exact LeO.refl _)
   | (with_reducible exact LeO.none _)
   | (with_reducible refine LeO.ite ?_ ?_)
   | (with_reducible refine LeO.bind ?_ (fun _ => ?_))
   | exact ih0 _ _ _ _ _
   | exact impl_Holds.mono _ _ _ _ _
   | exact impl_LeavesOk.mono _ _
   | exact impl_Parted.mono _ _ _ _ _ _
   | exact impl_Peak.mono _ _
   | exact impl_Set.mono _ _ _ _
   | exact impl_Way.mono _ _ _
   | exact laws_likeInts.mono _ _ _
   | exact laws_likeLeaves.mono _ _ _
   | exact laws_pick.mono _ _ _ _
   | exact spec_DrawHolds.mono _ _
   | exact spec_DrawPeak.mono _ _
   | exact spec_DrawSet.mono _ _
   | exact spec_DrawWay.mono _ _
   | exact spec_Holds.mono _ _ _ _ _
   | exact spec_LeavesOk.mono _ _
   | exact spec_Peak.mono _ _
   | exact spec_Set.mono _ _ _ _
   | exact spec_Way.mono _ _ _
   | exact LeO.none _
   | refine LeO.ite ?_ ?_
   | refine LeO.bind ?_ (fun _ => ?_)
set_option maxHeartbeats 8000000 in
set_option maxRecDepth 100000 in
theorem laws_FnProved.calls (k : Nat) (A0 : Option Addr) (c0 : Nat) (l0 : List Int) (r : Bool) (w : World) (hr0 : Kd.C (Kd.int .u8) w A0 l0.length l0) (hc0 : l0.length ≤ c0) (h : laws_FnProved.f k l0 = some r) (hT : TabOk w) :
  Calls Tryd.prog 3 #[.slice A0 l0.length c0] w fun e w' => e = .returned (.bool r) ∧ Below w.heap.size w w' := by
 have HT := Aside0.mk hT
 clear hT
 have HR0 := Aside0.mk hr0
 have HC0 := Aside0.mk hc0
 clear hr0 hc0
 have HB := Aside0.mk (Below.refl w.heap.size w)
 have H : ((laws_big.f l0).bind fun t516 => (if t516 = true then (some true) else ((spec_DrawSet.f k l0).bind fun bt517 => ((impl_Set.f k bt517.1 bt517.2.1 bt517.2.2).bind fun t522 => ((spec_DrawHolds.f k l0).bind fun bt525 => ((impl_Holds.f k bt525.1 bt525.2.1 bt525.2.2.1 bt525.2.2.2).bind fun t531 => ((spec_DrawPeak.f k l0).bind fun t532 => ((spec_DrawWay.f k l0).bind fun bt535 => ((spec_Set.f k bt517.1 bt517.2.1 bt517.2.2).bind fun t539 => ((laws_likeLeaves.f k t522 t539).bind fun t542 => (if t542 = true then ((spec_Holds.f k bt525.1 bt525.2.1 bt525.2.2.1 bt525.2.2.2).bind fun t543 => (if (t531 != t543) = true then (none) else ((impl_Peak.f k t532).bind fun t544 => ((spec_Peak.f k t532).bind fun t545 => (if t544 = t545 then ((impl_Way.f k bt535.1 bt535.2).bind fun t546 => ((spec_Way.f k bt535.1 bt535.2).bind fun t549 => ((laws_likeInts.f k t546 t549).bind fun t552 => (if t552 = true then ((impl_LeavesOk.f k t532).bind fun t553 => ((spec_LeavesOk.f k t532).bind fun t554 => (if (t553 != t554) = true then (none) else ((spec_LeavesOk.f k t532).bind fun t555 => (if t555 = true then ((laws_pick.f k l0 1 10).bind fun t557 => (laws_FnProved.l0 k l0 t532 t557 (-1) 0)) else ((impl_Peak.f k t532).bind fun t556 => (some (t556 == (-1))))))))) else (none))))) else (none)))))) else (none)))))))))))) = some r := h
 clear h
 replace H := Option.bind_eq_some_iff.mp H
 obtain ⟨t516, A20, H⟩ := H
 replace H : (if t516 = true then (some true) else ((spec_DrawSet.f k l0).bind fun bt517 => ((impl_Set.f k bt517.1 bt517.2.1 bt517.2.2).bind fun t522 => ((spec_DrawHolds.f k l0).bind fun bt525 => ((impl_Holds.f k bt525.1 bt525.2.1 bt525.2.2.1 bt525.2.2.2).bind fun t531 => ((spec_DrawPeak.f k l0).bind fun t532 => ((spec_DrawWay.f k l0).bind fun bt535 => ((spec_Set.f k bt517.1 bt517.2.1 bt517.2.2).bind fun t539 => ((laws_likeLeaves.f k t522 t539).bind fun t542 => (if t542 = true then ((spec_Holds.f k bt525.1 bt525.2.1 bt525.2.2.1 bt525.2.2.2).bind fun t543 => (if (t531 != t543) = true then (none) else ((impl_Peak.f k t532).bind fun t544 => ((spec_Peak.f k t532).bind fun t545 => (if t544 = t545 then ((impl_Way.f k bt535.1 bt535.2).bind fun t546 => ((spec_Way.f k bt535.1 bt535.2).bind fun t549 => ((laws_likeInts.f k t546 t549).bind fun t552 => (if t552 = true then ((impl_LeavesOk.f k t532).bind fun t553 => ((spec_LeavesOk.f k t532).bind fun t554 => (if (t553 != t554) = true then (none) else ((spec_LeavesOk.f k t532).bind fun t555 => (if t555 = true then ((laws_pick.f k l0 1 10).bind fun t557 => (laws_FnProved.l0 k l0 t532 t557 (-1) 0)) else ((impl_Peak.f k t532).bind fun t556 => (some (t556 == (-1))))))))) else (none))))) else (none)))))) else (none))))))))))) = some r := H
 have A2 := Aside0.mk A20
 clear A20
 have HC3 := Aside0.mk H
 clear H
 go_enter Tryd.func3, Tryd.ntmps3
 go_upto_if 23 with (first | ((with_reducible refine gate_callee (f := 4) rfl ?_); refine goesL_ (some 23) rfl rfl Tryd.func4 (by kernel_rfl) rfl #[.slice A0 l0.length c0] rfl (by (try simp only [List.map_toArray, List.map_cons, List.map_nil]); first | done | rfl | (simp only [List.length_drop, List.length_take]; rfl)) ?_; (with_reducible refine (laws_big.calls _ _ l0 t516 _ ?side1 ?side2 A2.out).mono ?_); (case side1 => repeat (first | exact HR0.out | (with_reducible refine Kd.C_alloc ?_ _) | (with_reducible refine Kd.C_drewN ?_ _) | (with_reducible refine Kd.C_drew ?_))); (case side2 => exact HC0.out); rintro e w' ⟨rfl, ⟨nd, rfl⟩⟩; refine ⟨_, rfl, ?_⟩))
 (try simp only [Act.put, List.setIfInBounds_toArray, List.set_cons_zero, List.set_cons_succ])
 have H := HC3.out
 clear HC3
 by_cases c4 : t516 = true
 ·subst c4
  have H1 : (some true) = some r := by rw [if_pos rfl] at H; exact H
  clear H
  have H := H1
  clear H1
  obtain rfl := Option.some.inj H
  go_wp2
  go_ret
  exact ⟨by first | rfl | (simp [errW_none, errW_some] <;> rfl) | (simp [*, errW_none, errW_some] <;> rfl), by repeat (first | (with_reducible first | exact HB.out | apply below_alloc | apply pw_below_drewN | apply below_drew1) | exact HB.out)⟩
 ·replace c4 := Bool.eq_false_iff.mpr c4
  subst c4
  have H1 : ((spec_DrawSet.f k l0).bind fun bt517 => ((impl_Set.f k bt517.1 bt517.2.1 bt517.2.2).bind fun t522 => ((spec_DrawHolds.f k l0).bind fun bt525 => ((impl_Holds.f k bt525.1 bt525.2.1 bt525.2.2.1 bt525.2.2.2).bind fun t531 => ((spec_DrawPeak.f k l0).bind fun t532 => ((spec_DrawWay.f k l0).bind fun bt535 => ((spec_Set.f k bt517.1 bt517.2.1 bt517.2.2).bind fun t539 => ((laws_likeLeaves.f k t522 t539).bind fun t542 => (if t542 = true then ((spec_Holds.f k bt525.1 bt525.2.1 bt525.2.2.1 bt525.2.2.2).bind fun t543 => (if (t531 != t543) = true then (none) else ((impl_Peak.f k t532).bind fun t544 => ((spec_Peak.f k t532).bind fun t545 => (if t544 = t545 then ((impl_Way.f k bt535.1 bt535.2).bind fun t546 => ((spec_Way.f k bt535.1 bt535.2).bind fun t549 => ((laws_likeInts.f k t546 t549).bind fun t552 => (if t552 = true then ((impl_LeavesOk.f k t532).bind fun t553 => ((spec_LeavesOk.f k t532).bind fun t554 => (if (t553 != t554) = true then (none) else ((spec_LeavesOk.f k t532).bind fun t555 => (if t555 = true then ((laws_pick.f k l0 1 10).bind fun t557 => (laws_FnProved.l0 k l0 t532 t557 (-1) 0)) else ((impl_Peak.f k t532).bind fun t556 => (some (t556 == (-1))))))))) else (none))))) else (none)))))) else (none)))))))))) = some r := by rw [if_neg (show ¬ (false = true) by decide)] at H; exact H
  clear H
  have H := H1
  clear H1
  replace H := Option.bind_eq_some_iff.mp H
  obtain ⟨⟨t517, t518, t519⟩, A50, H⟩ := H
  replace H : ((impl_Set.f k t517 t518 t519).bind fun t522 => ((spec_DrawHolds.f k l0).bind fun bt525 => ((impl_Holds.f k bt525.1 bt525.2.1 bt525.2.2.1 bt525.2.2.2).bind fun t531 => ((spec_DrawPeak.f k l0).bind fun t532 => ((spec_DrawWay.f k l0).bind fun bt535 => ((spec_Set.f k t517 t518 t519).bind fun t539 => ((laws_likeLeaves.f k t522 t539).bind fun t542 => (if t542 = true then ((spec_Holds.f k bt525.1 bt525.2.1 bt525.2.2.1 bt525.2.2.2).bind fun t543 => (if (t531 != t543) = true then (none) else ((impl_Peak.f k t532).bind fun t544 => ((spec_Peak.f k t532).bind fun t545 => (if t544 = t545 then ((impl_Way.f k bt535.1 bt535.2).bind fun t546 => ((spec_Way.f k bt535.1 bt535.2).bind fun t549 => ((laws_likeInts.f k t546 t549).bind fun t552 => (if t552 = true then ((impl_LeavesOk.f k t532).bind fun t553 => ((spec_LeavesOk.f k t532).bind fun t554 => (if (t553 != t554) = true then (none) else ((spec_LeavesOk.f k t532).bind fun t555 => (if t555 = true then ((laws_pick.f k l0 1 10).bind fun t557 => (laws_FnProved.l0 k l0 t532 t557 (-1) 0)) else ((impl_Peak.f k t532).bind fun t556 => (some (t556 == (-1))))))))) else (none))))) else (none)))))) else (none))))))))) = some r := H
  have A5 := Aside0.mk A50
  clear A50
  replace H := Option.bind_eq_some_iff.mp H
  obtain ⟨t522, A60, H⟩ := H
  replace H : ((spec_DrawHolds.f k l0).bind fun bt525 => ((impl_Holds.f k bt525.1 bt525.2.1 bt525.2.2.1 bt525.2.2.2).bind fun t531 => ((spec_DrawPeak.f k l0).bind fun t532 => ((spec_DrawWay.f k l0).bind fun bt535 => ((spec_Set.f k t517 t518 t519).bind fun t539 => ((laws_likeLeaves.f k t522 t539).bind fun t542 => (if t542 = true then ((spec_Holds.f k bt525.1 bt525.2.1 bt525.2.2.1 bt525.2.2.2).bind fun t543 => (if (t531 != t543) = true then (none) else ((impl_Peak.f k t532).bind fun t544 => ((spec_Peak.f k t532).bind fun t545 => (if t544 = t545 then ((impl_Way.f k bt535.1 bt535.2).bind fun t546 => ((spec_Way.f k bt535.1 bt535.2).bind fun t549 => ((laws_likeInts.f k t546 t549).bind fun t552 => (if t552 = true then ((impl_LeavesOk.f k t532).bind fun t553 => ((spec_LeavesOk.f k t532).bind fun t554 => (if (t553 != t554) = true then (none) else ((spec_LeavesOk.f k t532).bind fun t555 => (if t555 = true then ((laws_pick.f k l0 1 10).bind fun t557 => (laws_FnProved.l0 k l0 t532 t557 (-1) 0)) else ((impl_Peak.f k t532).bind fun t556 => (some (t556 == (-1))))))))) else (none))))) else (none)))))) else (none)))))))) = some r := H
  have A6 := Aside0.mk A60
  clear A60
  replace H := Option.bind_eq_some_iff.mp H
  obtain ⟨⟨t525, t526, t527, t528⟩, A70, H⟩ := H
  replace H : ((impl_Holds.f k t525 t526 t527 t528).bind fun t531 => ((spec_DrawPeak.f k l0).bind fun t532 => ((spec_DrawWay.f k l0).bind fun bt535 => ((spec_Set.f k t517 t518 t519).bind fun t539 => ((laws_likeLeaves.f k t522 t539).bind fun t542 => (if t542 = true then ((spec_Holds.f k t525 t526 t527 t528).bind fun t543 => (if (t531 != t543) = true then (none) else ((impl_Peak.f k t532).bind fun t544 => ((spec_Peak.f k t532).bind fun t545 => (if t544 = t545 then ((impl_Way.f k bt535.1 bt535.2).bind fun t546 => ((spec_Way.f k bt535.1 bt535.2).bind fun t549 => ((laws_likeInts.f k t546 t549).bind fun t552 => (if t552 = true then ((impl_LeavesOk.f k t532).bind fun t553 => ((spec_LeavesOk.f k t532).bind fun t554 => (if (t553 != t554) = true then (none) else ((spec_LeavesOk.f k t532).bind fun t555 => (if t555 = true then ((laws_pick.f k l0 1 10).bind fun t557 => (laws_FnProved.l0 k l0 t532 t557 (-1) 0)) else ((impl_Peak.f k t532).bind fun t556 => (some (t556 == (-1))))))))) else (none))))) else (none)))))) else (none))))))) = some r := H
  have A7 := Aside0.mk A70
  clear A70
  replace H := Option.bind_eq_some_iff.mp H
  obtain ⟨t531, A80, H⟩ := H
  replace H : ((spec_DrawPeak.f k l0).bind fun t532 => ((spec_DrawWay.f k l0).bind fun bt535 => ((spec_Set.f k t517 t518 t519).bind fun t539 => ((laws_likeLeaves.f k t522 t539).bind fun t542 => (if t542 = true then ((spec_Holds.f k t525 t526 t527 t528).bind fun t543 => (if (t531 != t543) = true then (none) else ((impl_Peak.f k t532).bind fun t544 => ((spec_Peak.f k t532).bind fun t545 => (if t544 = t545 then ((impl_Way.f k bt535.1 bt535.2).bind fun t546 => ((spec_Way.f k bt535.1 bt535.2).bind fun t549 => ((laws_likeInts.f k t546 t549).bind fun t552 => (if t552 = true then ((impl_LeavesOk.f k t532).bind fun t553 => ((spec_LeavesOk.f k t532).bind fun t554 => (if (t553 != t554) = true then (none) else ((spec_LeavesOk.f k t532).bind fun t555 => (if t555 = true then ((laws_pick.f k l0 1 10).bind fun t557 => (laws_FnProved.l0 k l0 t532 t557 (-1) 0)) else ((impl_Peak.f k t532).bind fun t556 => (some (t556 == (-1))))))))) else (none))))) else (none)))))) else (none)))))) = some r := H
  have A8 := Aside0.mk A80
  clear A80
  replace H := Option.bind_eq_some_iff.mp H
  obtain ⟨t532, A90, H⟩ := H
  replace H : ((spec_DrawWay.f k l0).bind fun bt535 => ((spec_Set.f k t517 t518 t519).bind fun t539 => ((laws_likeLeaves.f k t522 t539).bind fun t542 => (if t542 = true then ((spec_Holds.f k t525 t526 t527 t528).bind fun t543 => (if (t531 != t543) = true then (none) else ((impl_Peak.f k t532).bind fun t544 => ((spec_Peak.f k t532).bind fun t545 => (if t544 = t545 then ((impl_Way.f k bt535.1 bt535.2).bind fun t546 => ((spec_Way.f k bt535.1 bt535.2).bind fun t549 => ((laws_likeInts.f k t546 t549).bind fun t552 => (if t552 = true then ((impl_LeavesOk.f k t532).bind fun t553 => ((spec_LeavesOk.f k t532).bind fun t554 => (if (t553 != t554) = true then (none) else ((spec_LeavesOk.f k t532).bind fun t555 => (if t555 = true then ((laws_pick.f k l0 1 10).bind fun t557 => (laws_FnProved.l0 k l0 t532 t557 (-1) 0)) else ((impl_Peak.f k t532).bind fun t556 => (some (t556 == (-1))))))))) else (none))))) else (none)))))) else (none))))) = some r := H
  have A9 := Aside0.mk A90
  clear A90
  replace H := Option.bind_eq_some_iff.mp H
  obtain ⟨⟨t535, t536⟩, A100, H⟩ := H
  replace H : ((spec_Set.f k t517 t518 t519).bind fun t539 => ((laws_likeLeaves.f k t522 t539).bind fun t542 => (if t542 = true then ((spec_Holds.f k t525 t526 t527 t528).bind fun t543 => (if (t531 != t543) = true then (none) else ((impl_Peak.f k t532).bind fun t544 => ((spec_Peak.f k t532).bind fun t545 => (if t544 = t545 then ((impl_Way.f k t535 t536).bind fun t546 => ((spec_Way.f k t535 t536).bind fun t549 => ((laws_likeInts.f k t546 t549).bind fun t552 => (if t552 = true then ((impl_LeavesOk.f k t532).bind fun t553 => ((spec_LeavesOk.f k t532).bind fun t554 => (if (t553 != t554) = true then (none) else ((spec_LeavesOk.f k t532).bind fun t555 => (if t555 = true then ((laws_pick.f k l0 1 10).bind fun t557 => (laws_FnProved.l0 k l0 t532 t557 (-1) 0)) else ((impl_Peak.f k t532).bind fun t556 => (some (t556 == (-1))))))))) else (none))))) else (none)))))) else (none)))) = some r := H
  have A10 := Aside0.mk A100
  clear A100
  replace H := Option.bind_eq_some_iff.mp H
  obtain ⟨t539, A110, H⟩ := H
  replace H : ((laws_likeLeaves.f k t522 t539).bind fun t542 => (if t542 = true then ((spec_Holds.f k t525 t526 t527 t528).bind fun t543 => (if (t531 != t543) = true then (none) else ((impl_Peak.f k t532).bind fun t544 => ((spec_Peak.f k t532).bind fun t545 => (if t544 = t545 then ((impl_Way.f k t535 t536).bind fun t546 => ((spec_Way.f k t535 t536).bind fun t549 => ((laws_likeInts.f k t546 t549).bind fun t552 => (if t552 = true then ((impl_LeavesOk.f k t532).bind fun t553 => ((spec_LeavesOk.f k t532).bind fun t554 => (if (t553 != t554) = true then (none) else ((spec_LeavesOk.f k t532).bind fun t555 => (if t555 = true then ((laws_pick.f k l0 1 10).bind fun t557 => (laws_FnProved.l0 k l0 t532 t557 (-1) 0)) else ((impl_Peak.f k t532).bind fun t556 => (some (t556 == (-1))))))))) else (none))))) else (none)))))) else (none))) = some r := H
  have A11 := Aside0.mk A110
  clear A110
  replace H := Option.bind_eq_some_iff.mp H
  obtain ⟨t542, A120, H⟩ := H
  replace H : (if t542 = true then ((spec_Holds.f k t525 t526 t527 t528).bind fun t543 => (if (t531 != t543) = true then (none) else ((impl_Peak.f k t532).bind fun t544 => ((spec_Peak.f k t532).bind fun t545 => (if t544 = t545 then ((impl_Way.f k t535 t536).bind fun t546 => ((spec_Way.f k t535 t536).bind fun t549 => ((laws_likeInts.f k t546 t549).bind fun t552 => (if t552 = true then ((impl_LeavesOk.f k t532).bind fun t553 => ((spec_LeavesOk.f k t532).bind fun t554 => (if (t553 != t554) = true then (none) else ((spec_LeavesOk.f k t532).bind fun t555 => (if t555 = true then ((laws_pick.f k l0 1 10).bind fun t557 => (laws_FnProved.l0 k l0 t532 t557 (-1) 0)) else ((impl_Peak.f k t532).bind fun t556 => (some (t556 == (-1))))))))) else (none))))) else (none)))))) else (none)) = some r := H
  have A12 := Aside0.mk A120
  clear A120
  by_cases c13 : t542 = true
  ·subst c13
   have H1 : ((spec_Holds.f k t525 t526 t527 t528).bind fun t543 => (if (t531 != t543) = true then (none) else ((impl_Peak.f k t532).bind fun t544 => ((spec_Peak.f k t532).bind fun t545 => (if t544 = t545 then ((impl_Way.f k t535 t536).bind fun t546 => ((spec_Way.f k t535 t536).bind fun t549 => ((laws_likeInts.f k t546 t549).bind fun t552 => (if t552 = true then ((impl_LeavesOk.f k t532).bind fun t553 => ((spec_LeavesOk.f k t532).bind fun t554 => (if (t553 != t554) = true then (none) else ((spec_LeavesOk.f k t532).bind fun t555 => (if t555 = true then ((laws_pick.f k l0 1 10).bind fun t557 => (laws_FnProved.l0 k l0 t532 t557 (-1) 0)) else ((impl_Peak.f k t532).bind fun t556 => (some (t556 == (-1))))))))) else (none))))) else (none)))))) = some r := by rw [if_pos rfl] at H; exact H
   clear H
   have H := H1
   clear H1
   replace H := Option.bind_eq_some_iff.mp H
   obtain ⟨t543, A140, H⟩ := H
   replace H : (if (t531 != t543) = true then (none) else ((impl_Peak.f k t532).bind fun t544 => ((spec_Peak.f k t532).bind fun t545 => (if t544 = t545 then ((impl_Way.f k t535 t536).bind fun t546 => ((spec_Way.f k t535 t536).bind fun t549 => ((laws_likeInts.f k t546 t549).bind fun t552 => (if t552 = true then ((impl_LeavesOk.f k t532).bind fun t553 => ((spec_LeavesOk.f k t532).bind fun t554 => (if (t553 != t554) = true then (none) else ((spec_LeavesOk.f k t532).bind fun t555 => (if t555 = true then ((laws_pick.f k l0 1 10).bind fun t557 => (laws_FnProved.l0 k l0 t532 t557 (-1) 0)) else ((impl_Peak.f k t532).bind fun t556 => (some (t556 == (-1))))))))) else (none))))) else (none))))) = some r := H
   have A14 := Aside0.mk A140
   clear A140
   by_cases c15 : (t531 != t543) = true
   ·rw [if_pos c15] at H
    exact absurd H (by simp)
   ·rw [if_neg c15] at H
    have c15b0 : (t531 != t543) = false := by simpa using c15
    (try (have c15b1 : decide (t531 = t543) = true := by simpa using c15))
    (try (have c15b2 : (t531 == t543) = true := by simpa using c15))
    clear c15
    (first | rw [c15b0] | (simp only [i64_w, i32_w]; rw [c15b0]) | skip)
    replace H := Option.bind_eq_some_iff.mp H
    obtain ⟨t544, A160, H⟩ := H
    replace H : ((spec_Peak.f k t532).bind fun t545 => (if t544 = t545 then ((impl_Way.f k t535 t536).bind fun t546 => ((spec_Way.f k t535 t536).bind fun t549 => ((laws_likeInts.f k t546 t549).bind fun t552 => (if t552 = true then ((impl_LeavesOk.f k t532).bind fun t553 => ((spec_LeavesOk.f k t532).bind fun t554 => (if (t553 != t554) = true then (none) else ((spec_LeavesOk.f k t532).bind fun t555 => (if t555 = true then ((laws_pick.f k l0 1 10).bind fun t557 => (laws_FnProved.l0 k l0 t532 t557 (-1) 0)) else ((impl_Peak.f k t532).bind fun t556 => (some (t556 == (-1))))))))) else (none))))) else (none))) = some r := H
    have A16 := Aside0.mk A160
    clear A160
    replace H := Option.bind_eq_some_iff.mp H
    obtain ⟨t545, A170, H⟩ := H
    replace H : (if t544 = t545 then ((impl_Way.f k t535 t536).bind fun t546 => ((spec_Way.f k t535 t536).bind fun t549 => ((laws_likeInts.f k t546 t549).bind fun t552 => (if t552 = true then ((impl_LeavesOk.f k t532).bind fun t553 => ((spec_LeavesOk.f k t532).bind fun t554 => (if (t553 != t554) = true then (none) else ((spec_LeavesOk.f k t532).bind fun t555 => (if t555 = true then ((laws_pick.f k l0 1 10).bind fun t557 => (laws_FnProved.l0 k l0 t532 t557 (-1) 0)) else ((impl_Peak.f k t532).bind fun t556 => (some (t556 == (-1))))))))) else (none))))) else (none)) = some r := H
    have A17 := Aside0.mk A170
    clear A170
    by_cases c18 : t544 = t545
    ·rw [if_pos c18] at H
     have c18b0 : (t544 == t545) = true := beq_iff_eq.mpr c18
     have c18b1 : (t544 != t545) = false := bne_eq_false_iff_eq.mpr c18
     clear c18
     replace H := Option.bind_eq_some_iff.mp H
     obtain ⟨t546, A190, H⟩ := H
     replace H : ((spec_Way.f k t535 t536).bind fun t549 => ((laws_likeInts.f k t546 t549).bind fun t552 => (if t552 = true then ((impl_LeavesOk.f k t532).bind fun t553 => ((spec_LeavesOk.f k t532).bind fun t554 => (if (t553 != t554) = true then (none) else ((spec_LeavesOk.f k t532).bind fun t555 => (if t555 = true then ((laws_pick.f k l0 1 10).bind fun t557 => (laws_FnProved.l0 k l0 t532 t557 (-1) 0)) else ((impl_Peak.f k t532).bind fun t556 => (some (t556 == (-1))))))))) else (none)))) = some r := H
     have A19 := Aside0.mk A190
     clear A190
     replace H := Option.bind_eq_some_iff.mp H
     obtain ⟨t549, A200, H⟩ := H
     replace H : ((laws_likeInts.f k t546 t549).bind fun t552 => (if t552 = true then ((impl_LeavesOk.f k t532).bind fun t553 => ((spec_LeavesOk.f k t532).bind fun t554 => (if (t553 != t554) = true then (none) else ((spec_LeavesOk.f k t532).bind fun t555 => (if t555 = true then ((laws_pick.f k l0 1 10).bind fun t557 => (laws_FnProved.l0 k l0 t532 t557 (-1) 0)) else ((impl_Peak.f k t532).bind fun t556 => (some (t556 == (-1))))))))) else (none))) = some r := H
     have A20 := Aside0.mk A200
     clear A200
     replace H := Option.bind_eq_some_iff.mp H
     obtain ⟨t552, A210, H⟩ := H
     replace H : (if t552 = true then ((impl_LeavesOk.f k t532).bind fun t553 => ((spec_LeavesOk.f k t532).bind fun t554 => (if (t553 != t554) = true then (none) else ((spec_LeavesOk.f k t532).bind fun t555 => (if t555 = true then ((laws_pick.f k l0 1 10).bind fun t557 => (laws_FnProved.l0 k l0 t532 t557 (-1) 0)) else ((impl_Peak.f k t532).bind fun t556 => (some (t556 == (-1))))))))) else (none)) = some r := H
     have A21 := Aside0.mk A210
     clear A210
     by_cases c22 : t552 = true
     ·subst c22
      have H1 : ((impl_LeavesOk.f k t532).bind fun t553 => ((spec_LeavesOk.f k t532).bind fun t554 => (if (t553 != t554) = true then (none) else ((spec_LeavesOk.f k t532).bind fun t555 => (if t555 = true then ((laws_pick.f k l0 1 10).bind fun t557 => (laws_FnProved.l0 k l0 t532 t557 (-1) 0)) else ((impl_Peak.f k t532).bind fun t556 => (some (t556 == (-1))))))))) = some r := by rw [if_pos rfl] at H; exact H
      clear H
      have H := H1
      clear H1
      replace H := Option.bind_eq_some_iff.mp H
      obtain ⟨t553, A230, H⟩ := H
      replace H : ((spec_LeavesOk.f k t532).bind fun t554 => (if (t553 != t554) = true then (none) else ((spec_LeavesOk.f k t532).bind fun t555 => (if t555 = true then ((laws_pick.f k l0 1 10).bind fun t557 => (laws_FnProved.l0 k l0 t532 t557 (-1) 0)) else ((impl_Peak.f k t532).bind fun t556 => (some (t556 == (-1)))))))) = some r := H
      have A23 := Aside0.mk A230
      clear A230
      replace H := Option.bind_eq_some_iff.mp H
      obtain ⟨t554, A240, H⟩ := H
      replace H : (if (t553 != t554) = true then (none) else ((spec_LeavesOk.f k t532).bind fun t555 => (if t555 = true then ((laws_pick.f k l0 1 10).bind fun t557 => (laws_FnProved.l0 k l0 t532 t557 (-1) 0)) else ((impl_Peak.f k t532).bind fun t556 => (some (t556 == (-1))))))) = some r := H
      have A24 := Aside0.mk A240
      clear A240
      by_cases c25 : (t553 != t554) = true
      ·rw [if_pos c25] at H
       exact absurd H (by simp)
      ·rw [if_neg c25] at H
       have c25b0 : (t553 != t554) = false := by simpa using c25
       (try (have c25b1 : decide (t553 = t554) = true := by simpa using c25))
       (try (have c25b2 : (t553 == t554) = true := by simpa using c25))
       clear c25
       replace H := Option.bind_eq_some_iff.mp H
       obtain ⟨t555, A260, H⟩ := H
       replace H : (if t555 = true then ((laws_pick.f k l0 1 10).bind fun t557 => (laws_FnProved.l0 k l0 t532 t557 (-1) 0)) else ((impl_Peak.f k t532).bind fun t556 => (some (t556 == (-1))))) = some r := H
       have A26 := Aside0.mk A260
       clear A260
       have HC27 := Aside0.mk H
       clear H
       go_upto_if 95 with (first | ((with_reducible refine gate_callee (f := 5) rfl ?_); refine goesL_ (some 26) rfl rfl Tryd.func5 (by kernel_rfl) rfl #[.slice A0 l0.length c0] rfl (by (try simp only [List.map_toArray, List.map_cons, List.map_nil]); first | done | rfl | (simp only [List.length_drop, List.length_take]; rfl)) ?_; (with_reducible refine (spec_DrawSet.calls k _ _ l0 t517 t518 t519 _ ?side1 ?side2 A5.out).mono ?_); (case side1 => repeat (first | exact (Kd.C_below HR0.out HB.out) | (with_reducible refine Kd.C_alloc ?_ _) | (with_reducible refine Kd.C_drewN ?_ _) | (with_reducible refine Kd.C_drew ?_))); (case side2 => exact HC0.out); rintro e w28 ⟨v520, rfl, ho0, hb⟩; refine ⟨_, rfl, ?_⟩; have n0_ := Aside0.mk (Kd.R_lower ho0 (below_size (by repeat (first | (with_reducible first | exact HB.out | apply below_alloc | apply pw_below_drewN | apply below_drew1) | exact HB.out)))); have n1_ := Aside0.mk (below_step (by repeat (first | (with_reducible first | exact HB.out | apply below_alloc | apply pw_below_drewN | apply below_drew1) | exact HB.out)) hb); clear HB; have HO521 := n0_; have HB := n1_; clear n0_ n1_; (try clear hb); (try clear hb2); (try clear hk); (try clear hi); (try clear ho0); obtain ⟨Ao29, co29, eo29⟩ := Kd.R_slice HO521.out; subst eo29) | ((with_reducible refine gate_callee (f := 6) rfl ?_); refine goesL_ (some 33) rfl rfl Tryd.func6 (by kernel_rfl) rfl #[.slice Ao29 t517.length co29, .int .i64 t518, .int .i64 t519] rfl (by (try simp only [List.map_toArray, List.map_cons, List.map_nil]); first | done | rfl | (simp only [List.length_drop, List.length_take]; rfl)) ?_; (with_reducible refine (impl_Set.calls k _ _ t517 t518 t519 t522 _ ?side1 ?side2 A6.out).mono ?_); (case side1 => repeat (first | exact (Kd.R_reads' HO521.out).2.2 | (with_reducible refine Kd.C_alloc ?_ _) | (with_reducible refine Kd.C_drewN ?_ _) | (with_reducible refine Kd.C_drew ?_))); (case side2 => exact (Kd.R_reads' HO521.out).2.1); rintro e w30 ⟨v523, rfl, ho0, hb⟩; refine ⟨_, rfl, ?_⟩; have n0_ := Aside0.mk (Kd.R_elder' (by (with_reducible repeat (first | apply Kd.R_alloc | apply Kd.R_drewN | apply Kd.R_drew)); exact HO521.out) (Kd.R_base ho0) hb); have n1_ := Aside0.mk (Kd.R_lower (Kd.R_new' ho0 (Kd.R_lt (by (with_reducible repeat (first | apply Kd.R_alloc | apply Kd.R_drewN | apply Kd.R_drew)); exact HO521.out))) (below_size (by repeat (first | (with_reducible first | exact HB.out | apply below_alloc | apply pw_below_drewN | apply below_drew1) | exact HB.out)))); have n2_ := Aside0.mk (below_step (by repeat (first | (with_reducible first | exact HB.out | apply below_alloc | apply pw_below_drewN | apply below_drew1) | exact HB.out)) hb); clear HO521; clear HB; have HO521 := n0_; have HO524 := n1_; have HB := n2_; clear n0_ n1_ n2_; (try clear hb); (try clear hb2); (try clear hk); (try clear hi); (try clear ho0)) | ((with_reducible refine gate_callee (f := 7) rfl ?_); refine goesL_ (some 36) rfl rfl Tryd.func7 (by kernel_rfl) rfl #[.slice A0 l0.length c0] rfl (by (try simp only [List.map_toArray, List.map_cons, List.map_nil]); first | done | rfl | (simp only [List.length_drop, List.length_take]; rfl)) ?_; (with_reducible refine (spec_DrawHolds.calls k _ _ l0 t525 t526 t527 t528 _ ?side1 ?side2 A7.out).mono ?_); (case side1 => repeat (first | exact (Kd.C_below HR0.out HB.out) | (with_reducible refine Kd.C_alloc ?_ _) | (with_reducible refine Kd.C_drewN ?_ _) | (with_reducible refine Kd.C_drew ?_))); (case side2 => exact HC0.out); rintro e w31 ⟨v529, rfl, ho0, hb⟩; refine ⟨_, rfl, ?_⟩; have n0_ := Aside0.mk (Kd.R_below (by (with_reducible repeat (first | apply Kd.R_alloc | apply Kd.R_drewN | apply Kd.R_drew)); exact HO521.out) hb); have n1_ := Aside0.mk (Kd.R_below (by (with_reducible repeat (first | apply Kd.R_alloc | apply Kd.R_drewN | apply Kd.R_drew)); exact HO524.out) hb); have n2_ := Aside0.mk (Kd.R_lower ho0 (below_size (by repeat (first | (with_reducible first | exact HB.out | apply below_alloc | apply pw_below_drewN | apply below_drew1) | exact HB.out)))); have n3_ := Aside0.mk (below_step (by repeat (first | (with_reducible first | exact HB.out | apply below_alloc | apply pw_below_drewN | apply below_drew1) | exact HB.out)) hb); clear HO521; clear HO524; clear HB; have HO521 := n0_; have HO524 := n1_; have HO530 := n2_; have HB := n3_; clear n0_ n1_ n2_ n3_; (try clear hb); (try clear hb2); (try clear hk); (try clear hi); (try clear ho0); obtain ⟨Ao32, co32, eo32⟩ := Kd.R_slice HO530.out; subst eo32) | ((with_reducible refine gate_callee (f := 8) rfl ?_); refine goesL_ (some 45) rfl rfl Tryd.func8 (by kernel_rfl) rfl #[.int .i64 t525, .int .i64 t526, .int .i64 t527, .slice Ao32 t528.length co32] rfl (by (try simp only [List.map_toArray, List.map_cons, List.map_nil]); first | done | rfl | (simp only [List.length_drop, List.length_take]; rfl)) ?_; (with_reducible refine (impl_Holds.calls k t525 t526 t527 _ _ t528 t531 _ ?side1 ?side2 A8.out (tab_at HT.out (by repeat (first | (with_reducible first | exact HB.out | apply below_alloc | apply pw_below_drewN | apply below_drew1 | (refine below_set ?_ (Aside0.out (by assumption)))) | exact HB.out)))).mono ?_); (case side1 => repeat (first | exact (Kd.R_reads' HO530.out).2.2 | (with_reducible refine Kd.C_alloc ?_ _) | (with_reducible refine Kd.C_drewN ?_ _) | (with_reducible refine Kd.C_drew ?_))); (case side2 => exact (Kd.R_reads' HO530.out).2.1); rintro e w33 ⟨rfl, hb⟩; refine ⟨_, rfl, ?_⟩; have n0_ := Aside0.mk (Kd.R_below (by (with_reducible repeat (first | apply Kd.R_alloc | apply Kd.R_drewN | apply Kd.R_drew)); exact HO521.out) hb); have n1_ := Aside0.mk (Kd.R_below (by (with_reducible repeat (first | apply Kd.R_alloc | apply Kd.R_drewN | apply Kd.R_drew)); exact HO524.out) hb); have n2_ := Aside0.mk (Kd.R_below (by (with_reducible repeat (first | apply Kd.R_alloc | apply Kd.R_drewN | apply Kd.R_drew)); exact HO530.out) hb); have n3_ := Aside0.mk (below_step (by repeat (first | (with_reducible first | exact HB.out | apply below_alloc | apply pw_below_drewN | apply below_drew1) | exact HB.out)) hb); clear HO521; clear HO524; clear HO530; clear HB; have HO521 := n0_; have HO524 := n1_; have HO530 := n2_; have HB := n3_; clear n0_ n1_ n2_ n3_; (try clear hb); (try clear hb2); (try clear hk); (try clear hi)) | ((with_reducible refine gate_callee (f := 9) rfl ?_); refine goesL_ (some 47) rfl rfl Tryd.func9 (by kernel_rfl) rfl #[.slice A0 l0.length c0] rfl (by (try simp only [List.map_toArray, List.map_cons, List.map_nil]); first | done | rfl | (simp only [List.length_drop, List.length_take]; rfl)) ?_; (with_reducible refine (spec_DrawPeak.calls k _ _ l0 t532 _ ?side1 ?side2 A9.out).mono ?_); (case side1 => repeat (first | exact (Kd.C_below HR0.out HB.out) | (with_reducible refine Kd.C_alloc ?_ _) | (with_reducible refine Kd.C_drewN ?_ _) | (with_reducible refine Kd.C_drew ?_))); (case side2 => exact HC0.out); rintro e w34 ⟨v533, rfl, ho0, hb⟩; refine ⟨_, rfl, ?_⟩; have n0_ := Aside0.mk (Kd.R_elder' (by (with_reducible repeat (first | apply Kd.R_alloc | apply Kd.R_drewN | apply Kd.R_drew)); exact HO521.out) (Kd.R_base ho0) hb); have n1_ := Aside0.mk (Kd.R_elder' (by (with_reducible repeat (first | apply Kd.R_alloc | apply Kd.R_drewN | apply Kd.R_drew)); exact HO524.out) (Kd.R_base ho0) hb); have n2_ := Aside0.mk (Kd.R_below (by (with_reducible repeat (first | apply Kd.R_alloc | apply Kd.R_drewN | apply Kd.R_drew)); exact HO530.out) hb); have n3_ := Aside0.mk (Kd.R_lower (Kd.R_new' (Kd.R_new' ho0 (Kd.R_lt (by (with_reducible repeat (first | apply Kd.R_alloc | apply Kd.R_drewN | apply Kd.R_drew)); exact HO521.out))) (Kd.R_lt (by (with_reducible repeat (first | apply Kd.R_alloc | apply Kd.R_drewN | apply Kd.R_drew)); exact HO524.out))) (below_size (by repeat (first | (with_reducible first | exact HB.out | apply below_alloc | apply pw_below_drewN | apply below_drew1) | exact HB.out)))); have n4_ := Aside0.mk (below_step (by repeat (first | (with_reducible first | exact HB.out | apply below_alloc | apply pw_below_drewN | apply below_drew1) | exact HB.out)) hb); clear HO521; clear HO524; clear HO530; clear HB; have HO521 := n0_; have HO524 := n1_; have HO530 := n2_; have HO534 := n3_; have HB := n4_; clear n0_ n1_ n2_ n3_ n4_; (try clear hb); (try clear hb2); (try clear hk); (try clear hi); (try clear ho0)) | ((with_reducible refine gate_callee (f := 10) rfl ?_); refine goesL_ (some 50) rfl rfl Tryd.func10 (by kernel_rfl) rfl #[.slice A0 l0.length c0] rfl (by (try simp only [List.map_toArray, List.map_cons, List.map_nil]); first | done | rfl | (simp only [List.length_drop, List.length_take]; rfl)) ?_; (with_reducible refine (spec_DrawWay.calls k _ _ l0 t535 t536 _ ?side1 ?side2 A10.out).mono ?_); (case side1 => repeat (first | exact (Kd.C_below HR0.out HB.out) | (with_reducible refine Kd.C_alloc ?_ _) | (with_reducible refine Kd.C_drewN ?_ _) | (with_reducible refine Kd.C_drew ?_))); (case side2 => exact HC0.out); rintro e w35 ⟨v537, rfl, ho0, hb⟩; refine ⟨_, rfl, ?_⟩; have n0_ := Aside0.mk (Kd.R_elder' (by (with_reducible repeat (first | apply Kd.R_alloc | apply Kd.R_drewN | apply Kd.R_drew)); exact HO521.out) (Kd.R_base ho0) hb); have n1_ := Aside0.mk (Kd.R_elder' (by (with_reducible repeat (first | apply Kd.R_alloc | apply Kd.R_drewN | apply Kd.R_drew)); exact HO524.out) (Kd.R_base ho0) hb); have n2_ := Aside0.mk (Kd.R_below (by (with_reducible repeat (first | apply Kd.R_alloc | apply Kd.R_drewN | apply Kd.R_drew)); exact HO530.out) hb); have n3_ := Aside0.mk (Kd.R_elder' (by (with_reducible repeat (first | apply Kd.R_alloc | apply Kd.R_drewN | apply Kd.R_drew)); exact HO534.out) (Kd.R_base ho0) hb); have n4_ := Aside0.mk (Kd.R_lower (Kd.R_new' (Kd.R_new' (Kd.R_new' ho0 (Kd.R_lt (by (with_reducible repeat (first | apply Kd.R_alloc | apply Kd.R_drewN | apply Kd.R_drew)); exact HO521.out))) (Kd.R_lt (by (with_reducible repeat (first | apply Kd.R_alloc | apply Kd.R_drewN | apply Kd.R_drew)); exact HO524.out))) (Kd.R_lt (by (with_reducible repeat (first | apply Kd.R_alloc | apply Kd.R_drewN | apply Kd.R_drew)); exact HO534.out))) (below_size (by repeat (first | (with_reducible first | exact HB.out | apply below_alloc | apply pw_below_drewN | apply below_drew1) | exact HB.out)))); have n5_ := Aside0.mk (below_step (by repeat (first | (with_reducible first | exact HB.out | apply below_alloc | apply pw_below_drewN | apply below_drew1) | exact HB.out)) hb); clear HO521; clear HO524; clear HO530; clear HO534; clear HB; have HO521 := n0_; have HO524 := n1_; have HO530 := n2_; have HO534 := n3_; have HO538 := n4_; have HB := n5_; clear n0_ n1_ n2_ n3_ n4_ n5_; (try clear hb); (try clear hb2); (try clear hk); (try clear hi); (try clear ho0)) | ((with_reducible refine gate_callee (f := 12) rfl ?_); refine goesL_ (some 57) rfl rfl Tryd.func12 (by kernel_rfl) rfl #[.slice Ao29 t517.length co29, .int .i64 t518, .int .i64 t519] rfl (by (try simp only [List.map_toArray, List.map_cons, List.map_nil]); first | done | rfl | (simp only [List.length_drop, List.length_take]; rfl)) ?_; (with_reducible refine (spec_Set.calls k _ _ t517 t518 t519 t539 _ ?side1 ?side2 A11.out).mono ?_); (case side1 => repeat (first | exact (Kd.R_reads' HO521.out).2.2 | (with_reducible refine Kd.C_alloc ?_ _) | (with_reducible refine Kd.C_drewN ?_ _) | (with_reducible refine Kd.C_drew ?_))); (case side2 => exact (Kd.R_reads' HO521.out).2.1); rintro e w36 ⟨v540, rfl, ho0, hb⟩; refine ⟨_, rfl, ?_⟩; have n0_ := Aside0.mk (Kd.R_elder' (by (with_reducible repeat (first | apply Kd.R_alloc | apply Kd.R_drewN | apply Kd.R_drew)); exact HO521.out) (Kd.R_base ho0) hb); have n1_ := Aside0.mk (Kd.R_elder' (by (with_reducible repeat (first | apply Kd.R_alloc | apply Kd.R_drewN | apply Kd.R_drew)); exact HO524.out) (Kd.R_base ho0) hb); have n2_ := Aside0.mk (Kd.R_below (by (with_reducible repeat (first | apply Kd.R_alloc | apply Kd.R_drewN | apply Kd.R_drew)); exact HO530.out) hb); have n3_ := Aside0.mk (Kd.R_elder' (by (with_reducible repeat (first | apply Kd.R_alloc | apply Kd.R_drewN | apply Kd.R_drew)); exact HO534.out) (Kd.R_base ho0) hb); have n4_ := Aside0.mk (Kd.R_elder' (by (with_reducible repeat (first | apply Kd.R_alloc | apply Kd.R_drewN | apply Kd.R_drew)); exact HO538.out) (Kd.R_base ho0) hb); have n5_ := Aside0.mk (Kd.R_lower (Kd.R_new' (Kd.R_new' (Kd.R_new' (Kd.R_new' ho0 (Kd.R_lt (by (with_reducible repeat (first | apply Kd.R_alloc | apply Kd.R_drewN | apply Kd.R_drew)); exact HO521.out))) (Kd.R_lt (by (with_reducible repeat (first | apply Kd.R_alloc | apply Kd.R_drewN | apply Kd.R_drew)); exact HO524.out))) (Kd.R_lt (by (with_reducible repeat (first | apply Kd.R_alloc | apply Kd.R_drewN | apply Kd.R_drew)); exact HO534.out))) (Kd.R_lt (by (with_reducible repeat (first | apply Kd.R_alloc | apply Kd.R_drewN | apply Kd.R_drew)); exact HO538.out))) (below_size (by repeat (first | (with_reducible first | exact HB.out | apply below_alloc | apply pw_below_drewN | apply below_drew1) | exact HB.out)))); have n6_ := Aside0.mk (below_step (by repeat (first | (with_reducible first | exact HB.out | apply below_alloc | apply pw_below_drewN | apply below_drew1) | exact HB.out)) hb); clear HO521; clear HO524; clear HO530; clear HO534; clear HO538; clear HB; have HO521 := n0_; have HO524 := n1_; have HO530 := n2_; have HO534 := n3_; have HO538 := n4_; have HO541 := n5_; have HB := n6_; clear n0_ n1_ n2_ n3_ n4_ n5_ n6_; (try clear hb); (try clear hb2); (try clear hk); (try clear hi); (try clear ho0); obtain ⟨Ao37, co37, eo37⟩ := Kd.R_slice HO524.out; subst eo37; obtain ⟨Ao38, co38, eo38⟩ := Kd.R_slice HO541.out; subst eo38) | ((with_reducible refine gate_callee (f := 11) rfl ?_); refine goesL_ (some 58) rfl rfl Tryd.func11 (by kernel_rfl) rfl #[.slice Ao37 t522.length co37, .slice Ao38 t539.length co38] rfl (by (try simp only [List.map_toArray, List.map_cons, List.map_nil]); first | done | rfl | (simp only [List.length_drop, List.length_take]; rfl)) ?_; (with_reducible refine (laws_likeLeaves.calls k _ _ t522 _ _ t539 true _ ?side1 ?side2 ?side3 ?side4 A12.out).mono ?_); (case side1 => repeat (first | exact (Kd.R_reads' HO524.out).2.2 | (with_reducible refine Kd.C_alloc ?_ _) | (with_reducible refine Kd.C_drewN ?_ _) | (with_reducible refine Kd.C_drew ?_))); (case side2 => exact (Kd.R_reads' HO524.out).2.1); (case side3 => repeat (first | exact (Kd.R_reads' HO541.out).2.2 | (with_reducible refine Kd.C_alloc ?_ _) | (with_reducible refine Kd.C_drewN ?_ _) | (with_reducible refine Kd.C_drew ?_))); (case side4 => exact (Kd.R_reads' HO541.out).2.1); rintro e w' ⟨rfl, ⟨nd, rfl⟩⟩; refine ⟨_, rfl, ?_⟩) | (go_at_call 13; (with_reducible refine (spec_Holds.calls k t525 t526 t527 _ _ t528 t543 _ ?side1 ?side2 A14.out).mono ?_); (case side1 => repeat (first | exact (Kd.R_reads' HO530.out).2.2 | (with_reducible refine Kd.C_alloc ?_ _) | (with_reducible refine Kd.C_drewN ?_ _) | (with_reducible refine Kd.C_drew ?_))); (case side2 => exact (Kd.R_reads' HO530.out).2.1); rintro e w39 ⟨rfl, hb⟩; have n0_ := Aside0.mk (Kd.R_below (by (with_reducible repeat (first | apply Kd.R_alloc | apply Kd.R_drewN | apply Kd.R_drew)); exact HO530.out) hb); have n1_ := Aside0.mk (Kd.R_below (by (with_reducible repeat (first | apply Kd.R_alloc | apply Kd.R_drewN | apply Kd.R_drew)); exact HO534.out) hb); have n2_ := Aside0.mk (Kd.R_below (by (with_reducible repeat (first | apply Kd.R_alloc | apply Kd.R_drewN | apply Kd.R_drew)); exact HO538.out) hb); have n3_ := Aside0.mk (below_step (by repeat (first | (with_reducible first | exact HB.out | apply below_alloc | apply pw_below_drewN | apply below_drew1) | exact HB.out)) hb); clear HO530; clear HO534; clear HO538; clear HB; have HO530 := n0_; have HO534 := n1_; have HO538 := n2_; have HB := n3_; clear n0_ n1_ n2_ n3_; (try clear hb); (try clear hb2); (try clear hk); (try clear hi); obtain ⟨Ao40, co40, eo40⟩ := Kd.R_slice HO534.out; subst eo40) | (go_at_call 14; (with_reducible refine (impl_Peak.calls k _ _ t532 t544 _ ?side1 ?side2 A16.out (tab_at HT.out (by repeat (first | (with_reducible first | exact HB.out | apply below_alloc | apply pw_below_drewN | apply below_drew1 | (refine below_set ?_ (Aside0.out (by assumption)))) | exact HB.out)))).mono ?_); (case side1 => repeat (first | exact (Kd.R_reads' HO534.out).2.2 | (with_reducible refine Kd.C_alloc ?_ _) | (with_reducible refine Kd.C_drewN ?_ _) | (with_reducible refine Kd.C_drew ?_))); (case side2 => exact (Kd.R_reads' HO534.out).2.1); rintro e w41 ⟨rfl, hb⟩; have n0_ := Aside0.mk (Kd.R_below (by (with_reducible repeat (first | apply Kd.R_alloc | apply Kd.R_drewN | apply Kd.R_drew)); exact HO534.out) hb); have n1_ := Aside0.mk (Kd.R_below (by (with_reducible repeat (first | apply Kd.R_alloc | apply Kd.R_drewN | apply Kd.R_drew)); exact HO538.out) hb); have n2_ := Aside0.mk (below_step (by repeat (first | (with_reducible first | exact HB.out | apply below_alloc | apply pw_below_drewN | apply below_drew1) | exact HB.out)) hb); clear HO534; clear HO538; clear HB; have HO534 := n0_; have HO538 := n1_; have HB := n2_; clear n0_ n1_ n2_; (try clear hb); (try clear hb2); (try clear hk); (try clear hi)) | (go_at_call 15; (with_reducible refine (spec_Peak.calls k _ _ t532 t545 _ ?side1 ?side2 A17.out).mono ?_); (case side1 => repeat (first | exact (Kd.R_reads' HO534.out).2.2 | (with_reducible refine Kd.C_alloc ?_ _) | (with_reducible refine Kd.C_drewN ?_ _) | (with_reducible refine Kd.C_drew ?_))); (case side2 => exact (Kd.R_reads' HO534.out).2.1); rintro e w42 ⟨rfl, hb⟩; have n0_ := Aside0.mk (Kd.R_below (by (with_reducible repeat (first | apply Kd.R_alloc | apply Kd.R_drewN | apply Kd.R_drew)); exact HO534.out) hb); have n1_ := Aside0.mk (Kd.R_below (by (with_reducible repeat (first | apply Kd.R_alloc | apply Kd.R_drewN | apply Kd.R_drew)); exact HO538.out) hb); have n2_ := Aside0.mk (below_step (by repeat (first | (with_reducible first | exact HB.out | apply below_alloc | apply pw_below_drewN | apply below_drew1) | exact HB.out)) hb); clear HO534; clear HO538; clear HB; have HO534 := n0_; have HO538 := n1_; have HB := n2_; clear n0_ n1_ n2_; (try clear hb); (try clear hb2); (try clear hk); (try clear hi); obtain ⟨Ao43, co43, eo43⟩ := Kd.R_slice HO538.out; subst eo43) | (go_at_call 17; (with_reducible refine (impl_Way.calls k _ _ t535 t536 t546 _ ?side1 ?side2 A19.out (tab_at HT.out (by repeat (first | (with_reducible first | exact HB.out | apply below_alloc | apply pw_below_drewN | apply below_drew1 | (refine below_set ?_ (Aside0.out (by assumption)))) | exact HB.out)))).mono ?_); (case side1 => repeat (first | exact (Kd.R_reads' HO538.out).2.2 | (with_reducible refine Kd.C_alloc ?_ _) | (with_reducible refine Kd.C_drewN ?_ _) | (with_reducible refine Kd.C_drew ?_))); (case side2 => exact (Kd.R_reads' HO538.out).2.1); rintro e w44 ⟨v547, rfl, ho0, hb⟩; have n0_ := Aside0.mk (Kd.R_below (by (with_reducible repeat (first | apply Kd.R_alloc | apply Kd.R_drewN | apply Kd.R_drew)); exact HO534.out) hb); have n1_ := Aside0.mk (Kd.R_below (by (with_reducible repeat (first | apply Kd.R_alloc | apply Kd.R_drewN | apply Kd.R_drew)); exact HO538.out) hb); have n2_ := Aside0.mk (Kd.R_lower ho0 (below_size (by repeat (first | (with_reducible first | exact HB.out | apply below_alloc | apply pw_below_drewN | apply below_drew1) | exact HB.out)))); have n3_ := Aside0.mk (below_step (by repeat (first | (with_reducible first | exact HB.out | apply below_alloc | apply pw_below_drewN | apply below_drew1) | exact HB.out)) hb); clear HO534; clear HO538; clear HB; have HO534 := n0_; have HO538 := n1_; have HO548 := n2_; have HB := n3_; clear n0_ n1_ n2_ n3_; (try clear hb); (try clear hb2); (try clear hk); (try clear hi); (try clear ho0)) | (go_at_call 18; (with_reducible refine (spec_Way.calls k _ _ t535 t536 t549 _ ?side1 ?side2 A20.out).mono ?_); (case side1 => repeat (first | exact (Kd.R_reads' HO538.out).2.2 | (with_reducible refine Kd.C_alloc ?_ _) | (with_reducible refine Kd.C_drewN ?_ _) | (with_reducible refine Kd.C_drew ?_))); (case side2 => exact (Kd.R_reads' HO538.out).2.1); rintro e w45 ⟨v550, rfl, ho0, hb⟩; have n0_ := Aside0.mk (Kd.R_below (by (with_reducible repeat (first | apply Kd.R_alloc | apply Kd.R_drewN | apply Kd.R_drew)); exact HO534.out) hb); have n1_ := Aside0.mk (Kd.R_below (by (with_reducible repeat (first | apply Kd.R_alloc | apply Kd.R_drewN | apply Kd.R_drew)); exact HO538.out) hb); have n2_ := Aside0.mk (Kd.R_elder' (by (with_reducible repeat (first | apply Kd.R_alloc | apply Kd.R_drewN | apply Kd.R_drew)); exact HO548.out) (Kd.R_base ho0) hb); have n3_ := Aside0.mk (Kd.R_lower (Kd.R_new' ho0 (Kd.R_lt (by (with_reducible repeat (first | apply Kd.R_alloc | apply Kd.R_drewN | apply Kd.R_drew)); exact HO548.out))) (below_size (by repeat (first | (with_reducible first | exact HB.out | apply below_alloc | apply pw_below_drewN | apply below_drew1) | exact HB.out)))); have n4_ := Aside0.mk (below_step (by repeat (first | (with_reducible first | exact HB.out | apply below_alloc | apply pw_below_drewN | apply below_drew1) | exact HB.out)) hb); clear HO534; clear HO538; clear HO548; clear HB; have HO534 := n0_; have HO538 := n1_; have HO548 := n2_; have HO551 := n3_; have HB := n4_; clear n0_ n1_ n2_ n3_ n4_; (try clear hb); (try clear hb2); (try clear hk); (try clear hi); (try clear ho0); obtain ⟨Ao46, co46, eo46⟩ := Kd.R_slice HO548.out; subst eo46; obtain ⟨Ao47, co47, eo47⟩ := Kd.R_slice HO551.out; subst eo47) | (go_at_call 16; (with_reducible refine (laws_likeInts.calls k _ _ t546 _ _ t549 true _ ?side1 ?side2 ?side3 ?side4 A21.out).mono ?_); (case side1 => repeat (first | exact (Kd.R_reads' HO548.out).2.2 | (with_reducible refine Kd.C_alloc ?_ _) | (with_reducible refine Kd.C_drewN ?_ _) | (with_reducible refine Kd.C_drew ?_))); (case side2 => exact (Kd.R_reads' HO548.out).2.1); (case side3 => repeat (first | exact (Kd.R_reads' HO551.out).2.2 | (with_reducible refine Kd.C_alloc ?_ _) | (with_reducible refine Kd.C_drewN ?_ _) | (with_reducible refine Kd.C_drew ?_))); (case side4 => exact (Kd.R_reads' HO551.out).2.1); rintro e w' ⟨rfl, ⟨nd, rfl⟩⟩) | (go_at_call 19; (with_reducible refine (impl_LeavesOk.calls k _ _ t532 t553 _ ?side1 ?side2 A23.out).mono ?_); (case side1 => repeat (first | exact (Kd.R_reads' HO534.out).2.2 | (with_reducible refine Kd.C_alloc ?_ _) | (with_reducible refine Kd.C_drewN ?_ _) | (with_reducible refine Kd.C_drew ?_))); (case side2 => exact (Kd.R_reads' HO534.out).2.1); rintro e w48 ⟨rfl, hb⟩; have n0_ := Aside0.mk (Kd.R_below (by (with_reducible repeat (first | apply Kd.R_alloc | apply Kd.R_drewN | apply Kd.R_drew)); exact HO534.out) hb); have n1_ := Aside0.mk (below_step (by repeat (first | (with_reducible first | exact HB.out | apply below_alloc | apply pw_below_drewN | apply below_drew1) | exact HB.out)) hb); clear HO534; clear HB; have HO534 := n0_; have HB := n1_; clear n0_ n1_; (try clear hb); (try clear hb2); (try clear hk); (try clear hi)) | (go_at_call 20; (with_reducible refine (spec_LeavesOk.calls k _ _ t532 t554 _ ?side1 ?side2 A24.out).mono ?_); (case side1 => repeat (first | exact (Kd.R_reads' HO534.out).2.2 | (with_reducible refine Kd.C_alloc ?_ _) | (with_reducible refine Kd.C_drewN ?_ _) | (with_reducible refine Kd.C_drew ?_))); (case side2 => exact (Kd.R_reads' HO534.out).2.1); rintro e w49 ⟨rfl, hb⟩; have n0_ := Aside0.mk (Kd.R_below (by (with_reducible repeat (first | apply Kd.R_alloc | apply Kd.R_drewN | apply Kd.R_drew)); exact HO534.out) hb); have n1_ := Aside0.mk (below_step (by repeat (first | (with_reducible first | exact HB.out | apply below_alloc | apply pw_below_drewN | apply below_drew1) | exact HB.out)) hb); clear HO534; clear HB; have HO534 := n0_; have HB := n1_; clear n0_ n1_; (try clear hb); (try clear hb2); (try clear hk); (try clear hi)) | ((with_reducible refine gate_callee (f := 20) rfl ?_); refine goesL_ (some 94) rfl rfl Tryd.func20 (by kernel_rfl) rfl #[.slice Ao40 t532.length co40] rfl (by (try simp only [List.map_toArray, List.map_cons, List.map_nil]); first | done | rfl | (simp only [List.length_drop, List.length_take]; rfl)) ?_; (with_reducible refine (spec_LeavesOk.calls k _ _ t532 t555 _ ?side1 ?side2 A26.out).mono ?_); (case side1 => repeat (first | exact (Kd.R_reads' HO534.out).2.2 | (with_reducible refine Kd.C_alloc ?_ _) | (with_reducible refine Kd.C_drewN ?_ _) | (with_reducible refine Kd.C_drew ?_))); (case side2 => exact (Kd.R_reads' HO534.out).2.1); rintro e w50 ⟨rfl, hb⟩; refine ⟨_, rfl, ?_⟩; have n0_ := Aside0.mk (Kd.R_below (by (with_reducible repeat (first | apply Kd.R_alloc | apply Kd.R_drewN | apply Kd.R_drew)); exact HO534.out) hb); have n1_ := Aside0.mk (below_step (by repeat (first | (with_reducible first | exact HB.out | apply below_alloc | apply pw_below_drewN | apply below_drew1) | exact HB.out)) hb); clear HO534; clear HB; have HO534 := n0_; have HB := n1_; clear n0_ n1_; (try clear hb); (try clear hb2); (try clear hk); (try clear hi)))
       (try simp only [Act.put, List.setIfInBounds_toArray, List.set_cons_zero, List.set_cons_succ])
       have H := HC27.out
       clear HC27
       by_cases c51 : t555 = true
       ·subst c51
        have H1 : ((laws_pick.f k l0 1 10).bind fun t557 => (laws_FnProved.l0 k l0 t532 t557 (-1) 0)) = some r := by rw [if_pos rfl] at H; exact H
        clear H
        have H := H1
        clear H1
        replace H := Option.bind_eq_some_iff.mp H
        obtain ⟨t557, A520, H⟩ := H
        replace H : (laws_FnProved.l0 k l0 t532 t557 (-1) 0) = some r := H
        have A52 := Aside0.mk A520
        clear A520
        have H' := Aside0.mk H
        clear H
        go_wp2_with (first | ((with_reducible refine gate_callee (f := 21) rfl ?_); refine goesL_ (some 100) rfl rfl Tryd.func21 (by kernel_rfl) rfl #[.slice A0 l0.length c0, .int .i64 1, .int .i64 10] rfl (by (try simp only [List.map_toArray, List.map_cons, List.map_nil]); first | done | rfl | (simp only [List.length_drop, List.length_take]; rfl)) ?_; (with_reducible refine (laws_pick.calls k _ _ l0 1 10 t557 _ ?side1 ?side2 A52.out).mono ?_); (case side1 => repeat (first | exact (Kd.C_below HR0.out HB.out) | (with_reducible refine Kd.C_alloc ?_ _) | (with_reducible refine Kd.C_drewN ?_ _) | (with_reducible refine Kd.C_drew ?_))); (case side2 => exact HC0.out); rintro e w' ⟨rfl, ⟨nd, rfl⟩⟩; refine ⟨_, rfl, ?_⟩))
        go_loopg [16, 17] k (fun kq v16 v17 w' => ∃ (x16_1 : Int) (x17_1 : Int), v16 = .int .i64 x16_1 ∧ v17 = .int .i64 x17_1 ∧ Aside0 (laws_FnProved.l0 kq l0 t532 t557 x16_1 x17_1 = some r) ∧ Aside0 (kq ≤ k) ∧ Aside0 (Kd.R k42 42 w' w.heap.size (fun _ => True) (.slice Ao40 t532.length co40) t532) ∧ Aside0 (Below w.heap.size w w'))
        case atStart => exact ⟨((-1)), (0), (by first | rfl | (simp; done) | (simp [*]; done)), (by first | rfl | (simp; done) | (simp [*]; done)), H', ⟨Nat.le_refl _⟩, ⟨by (with_reducible repeat (first | apply Kd.R_alloc | apply Kd.R_drewN | apply Kd.R_drew)); exact Kd.R_mono HO534.out (fun _ hk => trivial)⟩, ⟨by repeat (first | (with_reducible first | exact HB.out | apply below_alloc | apply pw_below_drewN | apply below_drew1) | exact HB.out)⟩⟩
        case round =>
         clear H'
         try clear c1
         try clear c2
         try clear p2
         try clear c3
         try clear c4
         try clear c5
         try clear c6
         try clear c7
         try clear c8
         try clear c9
         try clear c10
         try clear c11
         try clear c12
         try clear c13
         try clear c15
         try clear c15b0
         try clear c15b1
         try clear c15b2
         try clear c18
         try clear c18b0
         try clear c18b1
         try clear c20
         try clear c21
         try clear c22
         try clear c25
         try clear c25b0
         try clear c25b1
         try clear c25b2
         try clear c51
         obtain ⟨x16_1, x17_1, rfl, rfl, HA, HK1, HO_12, HB⟩ := hrel
         cases gk with
         | zero => exact absurd HA.out (by simp [laws_FnProved.l0])
         | succ k1 =>
          have H := HA.out
          clear HA
          simp only [laws_FnProved.l0] at H
          by_cases c53 : x17_1 < (t532.length : Int)
          ·rw [if_pos c53] at H
           have c53b0 : decide (x17_1 < (t532.length : Int)) = true := decide_eq_true c53
           clear c53
           (first | rw [c53b0] | (simp only [i64_w, i32_w]; rw [c53b0]) | skip)
           by_cases c54 : 0 ≤ x17_1
           ·rw [if_pos c54] at H
            have c54b0 : decide (0 ≤ x17_1) = true := decide_eq_true c54
            clear c54
            by_cases c55 : ((rd_T42 t532 x17_1).f0) = t557
            ·rw [if_pos c55] at H
             have c55b0 : (((rd_T42 t532 x17_1).f0) == t557) = true := beq_iff_eq.mpr c55
             have c55b1 : (((rd_T42 t532 x17_1).f0) != t557) = false := bne_eq_false_iff_eq.mpr c55
             clear c55
             have H' := Aside0.mk H
             clear H
             have p558 : 0 ≤ (x17_1 : Int) := of_decide_eq_true (by first | (with_reducible assumption) | assumption)
             have q558 : x17_1 < (t532.length : Int) := of_decide_eq_true (by first | (with_reducible assumption) | assumption)
             obtain ⟨ad558, e558, hx558_0, hx558_1⟩ := at_T42 (Kd.R_reads' HO_12.out).2.2 x17_1 p558 q558
             cases e558
             replace p558 := eq_true p558
             replace q558 := eq_true q558
             have p559 : 0 ≤ (x17_1 : Int) := of_decide_eq_true (by first | (with_reducible assumption) | assumption)
             have q559 : x17_1 < (t532.length : Int) := of_decide_eq_true (by first | (with_reducible assumption) | assumption)
             obtain ⟨ad559, e559, hx559_0, hx559_1⟩ := at_T42 (Kd.R_reads' HO_12.out).2.2 x17_1 p559 q559
             obtain rfl : ad558 = ad559 := (by injection e559)
             replace p559 := eq_true p559
             replace q559 := eq_true q559
             go_wp2
             go_roundg k1
             case measure => have := HK1.out; omega
             case rel => exact ⟨((rd_T42 t532 x17_1).f1), (wrap64 (x17_1 + 1)), (by first | rfl | (simp; done) | (simp [*]; done)), (by first | rfl | (simp; done) | (simp [*]; done)), H', ⟨by have := HK1.out; omega⟩, ⟨by (with_reducible repeat (first | apply Kd.R_alloc | apply Kd.R_drewN | apply Kd.R_drew)); exact HO_12.out⟩, ⟨by repeat (first | (with_reducible first | exact HB.out | apply below_alloc | apply pw_below_drewN | apply below_drew1) | exact HB.out)⟩⟩
            ·rw [if_neg c55] at H
             have c55b0 : (((rd_T42 t532 x17_1).f0) == t557) = false := beq_eq_false_iff_ne.mpr c55
             have c55b1 : (((rd_T42 t532 x17_1).f0) != t557) = true := bne_iff_ne.mpr c55
             have H' := Aside0.mk H
             clear H
             have p558 : 0 ≤ (x17_1 : Int) := of_decide_eq_true (by first | (with_reducible assumption) | assumption)
             have q558 : x17_1 < (t532.length : Int) := of_decide_eq_true (by first | (with_reducible assumption) | assumption)
             obtain ⟨ad558, e558, hx558_0, hx558_1⟩ := at_T42 (Kd.R_reads' HO_12.out).2.2 x17_1 p558 q558
             cases e558
             replace p558 := eq_true p558
             replace q558 := eq_true q558
             go_wp2
             go_roundg k1
             case measure => have := HK1.out; omega
             case rel => exact ⟨(x16_1), (wrap64 (x17_1 + 1)), (by first | rfl | (simp; done) | (simp [*]; done)), (by first | rfl | (simp; done) | (simp [*]; done)), H', ⟨by have := HK1.out; omega⟩, ⟨by (with_reducible repeat (first | apply Kd.R_alloc | apply Kd.R_drewN | apply Kd.R_drew)); exact HO_12.out⟩, ⟨by repeat (first | (with_reducible first | exact HB.out | apply below_alloc | apply pw_below_drewN | apply below_drew1) | exact HB.out)⟩⟩
           ·rw [if_neg c54] at H
            exact absurd H (by simp)
          ·rw [if_neg c53] at H
           have c53b0 : decide (x17_1 < (t532.length : Int)) = false := decide_eq_false c53
           clear c53
           (first | rw [c53b0] | (simp only [i64_w, i32_w]; rw [c53b0]) | skip)
           replace H := Option.bind_eq_some_iff.mp H
           obtain ⟨t560, A560, H⟩ := H
           replace H : ((impl_Peak.f k1 t532).bind fun t563 => ((impl_Holds.f k1 t563 t557 x16_1 t560).bind fun t564 => (if t564 = true then ((laws_pick.f k1 l0 2 1000).bind fun t565 => (if (wrap64 (t565 - 1)) = x16_1 then (some true) else ((impl_Peak.f k1 t532).bind fun t566 => ((impl_Holds.f k1 t566 t557 (wrap64 (t565 - 1)) t560).bind fun t567 => (if t567 = true then ((impl_Parted.f k1 t557 x16_1 t560 (wrap64 (t565 - 1)) t560).bind fun bt568 => (if bt568.2 = true then (some ((bt568.1.length : Int) == 4)) else (none))) else (some true)))))) else (none)))) = some r := H
           have A56 := Aside0.mk A560
           clear A560
           replace H := Option.bind_eq_some_iff.mp H
           obtain ⟨t563, A570, H⟩ := H
           replace H : ((impl_Holds.f k1 t563 t557 x16_1 t560).bind fun t564 => (if t564 = true then ((laws_pick.f k1 l0 2 1000).bind fun t565 => (if (wrap64 (t565 - 1)) = x16_1 then (some true) else ((impl_Peak.f k1 t532).bind fun t566 => ((impl_Holds.f k1 t566 t557 (wrap64 (t565 - 1)) t560).bind fun t567 => (if t567 = true then ((impl_Parted.f k1 t557 x16_1 t560 (wrap64 (t565 - 1)) t560).bind fun bt568 => (if bt568.2 = true then (some ((bt568.1.length : Int) == 4)) else (none))) else (some true)))))) else (none))) = some r := H
           have A57 := Aside0.mk A570
           clear A570
           replace H := Option.bind_eq_some_iff.mp H
           obtain ⟨t564, A580, H⟩ := H
           replace H : (if t564 = true then ((laws_pick.f k1 l0 2 1000).bind fun t565 => (if (wrap64 (t565 - 1)) = x16_1 then (some true) else ((impl_Peak.f k1 t532).bind fun t566 => ((impl_Holds.f k1 t566 t557 (wrap64 (t565 - 1)) t560).bind fun t567 => (if t567 = true then ((impl_Parted.f k1 t557 x16_1 t560 (wrap64 (t565 - 1)) t560).bind fun bt568 => (if bt568.2 = true then (some ((bt568.1.length : Int) == 4)) else (none))) else (some true)))))) else (none)) = some r := H
           have A58 := Aside0.mk A580
           clear A580
           by_cases c59 : t564 = true
           ·subst c59
            have H1 : ((laws_pick.f k1 l0 2 1000).bind fun t565 => (if (wrap64 (t565 - 1)) = x16_1 then (some true) else ((impl_Peak.f k1 t532).bind fun t566 => ((impl_Holds.f k1 t566 t557 (wrap64 (t565 - 1)) t560).bind fun t567 => (if t567 = true then ((impl_Parted.f k1 t557 x16_1 t560 (wrap64 (t565 - 1)) t560).bind fun bt568 => (if bt568.2 = true then (some ((bt568.1.length : Int) == 4)) else (none))) else (some true)))))) = some r := by rw [if_pos rfl] at H; exact H
            clear H
            have H := H1
            clear H1
            replace H := Option.bind_eq_some_iff.mp H
            obtain ⟨t565, A600, H⟩ := H
            replace H : (if (wrap64 (t565 - 1)) = x16_1 then (some true) else ((impl_Peak.f k1 t532).bind fun t566 => ((impl_Holds.f k1 t566 t557 (wrap64 (t565 - 1)) t560).bind fun t567 => (if t567 = true then ((impl_Parted.f k1 t557 x16_1 t560 (wrap64 (t565 - 1)) t560).bind fun bt568 => (if bt568.2 = true then (some ((bt568.1.length : Int) == 4)) else (none))) else (some true))))) = some r := H
            have A60 := Aside0.mk A600
            clear A600
            by_cases c61 : (wrap64 (t565 - 1)) = x16_1
            ·rw [if_pos c61] at H
             have c61b0 : ((wrap64 (t565 - 1)) == x16_1) = true := beq_iff_eq.mpr c61
             have c61b1 : ((wrap64 (t565 - 1)) != x16_1) = false := bne_eq_false_iff_eq.mpr c61
             clear c61
             obtain rfl := Option.some.inj H
             go_wp2_with (first | ((with_reducible refine gate_callee (f := 17) rfl ?_); refine goesL_ (some 121) rfl rfl Tryd.func17 (by kernel_rfl) rfl #[.slice Ao40 t532.length co40, .int .i64 t557] rfl (by (try simp only [List.map_toArray, List.map_cons, List.map_nil]); first | done | rfl | (simp only [List.length_drop, List.length_take]; rfl)) ?_; (with_reducible refine (impl_Way.calls k1 _ _ t532 t557 t560 _ ?side1 ?side2 A56.out (tab_at HT.out (by repeat (first | (with_reducible first | exact HB.out | apply below_alloc | apply pw_below_drewN | apply below_drew1 | (refine below_set ?_ (Aside0.out (by assumption)))) | exact HB.out)))).mono ?_); (case side1 => repeat (first | exact (Kd.R_reads' HO_12.out).2.2 | (with_reducible refine Kd.C_alloc ?_ _) | (with_reducible refine Kd.C_drewN ?_ _) | (with_reducible refine Kd.C_drew ?_))); (case side2 => exact (Kd.R_reads' HO_12.out).2.1); rintro e w62 ⟨v561, rfl, ho0, hb⟩; refine ⟨_, rfl, ?_⟩; have n0_ := Aside0.mk (Kd.R_below (by (with_reducible repeat (first | apply Kd.R_alloc | apply Kd.R_drewN | apply Kd.R_drew)); exact HO_12.out) hb); have n1_ := Aside0.mk (Kd.R_lower ho0 (below_size (by repeat (first | (with_reducible first | exact HB.out | apply below_alloc | apply pw_below_drewN | apply below_drew1) | exact HB.out)))); have n2_ := Aside0.mk (below_step (by repeat (first | (with_reducible first | exact HB.out | apply below_alloc | apply pw_below_drewN | apply below_drew1) | exact HB.out)) hb); clear HO_12; clear HB; have HO_12 := n0_; have HO562 := n1_; have HB := n2_; clear n0_ n1_ n2_; (try clear hb); (try clear hb2); (try clear hk); (try clear hi); (try clear ho0)) | ((with_reducible refine gate_callee (f := 14) rfl ?_); refine goesL_ (some 123) rfl rfl Tryd.func14 (by kernel_rfl) rfl #[.slice Ao40 t532.length co40] rfl (by (try simp only [List.map_toArray, List.map_cons, List.map_nil]); first | done | rfl | (simp only [List.length_drop, List.length_take]; rfl)) ?_; (with_reducible refine (impl_Peak.calls k1 _ _ t532 t563 _ ?side1 ?side2 A57.out (tab_at HT.out (by repeat (first | (with_reducible first | exact HB.out | apply below_alloc | apply pw_below_drewN | apply below_drew1 | (refine below_set ?_ (Aside0.out (by assumption)))) | exact HB.out)))).mono ?_); (case side1 => repeat (first | exact (Kd.R_reads' HO_12.out).2.2 | (with_reducible refine Kd.C_alloc ?_ _) | (with_reducible refine Kd.C_drewN ?_ _) | (with_reducible refine Kd.C_drew ?_))); (case side2 => exact (Kd.R_reads' HO_12.out).2.1); rintro e w63 ⟨rfl, hb⟩; refine ⟨_, rfl, ?_⟩; have n0_ := Aside0.mk (Kd.R_below (by (with_reducible repeat (first | apply Kd.R_alloc | apply Kd.R_drewN | apply Kd.R_drew)); exact HO_12.out) hb); have n1_ := Aside0.mk (Kd.R_below (by (with_reducible repeat (first | apply Kd.R_alloc | apply Kd.R_drewN | apply Kd.R_drew)); exact HO562.out) hb); have n2_ := Aside0.mk (below_step (by repeat (first | (with_reducible first | exact HB.out | apply below_alloc | apply pw_below_drewN | apply below_drew1) | exact HB.out)) hb); clear HO_12; clear HO562; clear HB; have HO_12 := n0_; have HO562 := n1_; have HB := n2_; clear n0_ n1_ n2_; (try clear hb); (try clear hb2); (try clear hk); (try clear hi); obtain ⟨Ao64, co64, eo64⟩ := Kd.R_slice HO562.out; subst eo64) | ((with_reducible refine gate_callee (f := 8) rfl ?_); refine goesL_ (some 127) rfl rfl Tryd.func8 (by kernel_rfl) rfl #[.int .i64 t563, .int .i64 t557, .int .i64 x16_1, .slice Ao64 t560.length co64] rfl (by (try simp only [List.map_toArray, List.map_cons, List.map_nil]); first | done | rfl | (simp only [List.length_drop, List.length_take]; rfl)) ?_; (with_reducible refine (impl_Holds.calls k1 t563 t557 x16_1 _ _ t560 true _ ?side1 ?side2 A58.out (tab_at HT.out (by repeat (first | (with_reducible first | exact HB.out | apply below_alloc | apply pw_below_drewN | apply below_drew1 | (refine below_set ?_ (Aside0.out (by assumption)))) | exact HB.out)))).mono ?_); (case side1 => repeat (first | exact (Kd.R_reads' HO562.out).2.2 | (with_reducible refine Kd.C_alloc ?_ _) | (with_reducible refine Kd.C_drewN ?_ _) | (with_reducible refine Kd.C_drew ?_))); (case side2 => exact (Kd.R_reads' HO562.out).2.1); rintro e w65 ⟨rfl, hb⟩; refine ⟨_, rfl, ?_⟩; have n0_ := Aside0.mk (Kd.R_below (by (with_reducible repeat (first | apply Kd.R_alloc | apply Kd.R_drewN | apply Kd.R_drew)); exact HO_12.out) hb); have n1_ := Aside0.mk (Kd.R_below (by (with_reducible repeat (first | apply Kd.R_alloc | apply Kd.R_drewN | apply Kd.R_drew)); exact HO562.out) hb); have n2_ := Aside0.mk (below_step (by repeat (first | (with_reducible first | exact HB.out | apply below_alloc | apply pw_below_drewN | apply below_drew1) | exact HB.out)) hb); clear HO_12; clear HO562; clear HB; have HO_12 := n0_; have HO562 := n1_; have HB := n2_; clear n0_ n1_ n2_; (try clear hb); (try clear hb2); (try clear hk); (try clear hi)) | ((with_reducible refine gate_callee (f := 21) rfl ?_); refine goesL_ (some 130) rfl rfl Tryd.func21 (by kernel_rfl) rfl #[.slice A0 l0.length c0, .int .i64 2, .int .i64 1000] rfl (by (try simp only [List.map_toArray, List.map_cons, List.map_nil]); first | done | rfl | (simp only [List.length_drop, List.length_take]; rfl)) ?_; (with_reducible refine (laws_pick.calls k1 _ _ l0 2 1000 t565 _ ?side1 ?side2 A60.out).mono ?_); (case side1 => repeat (first | exact (Kd.C_below HR0.out HB.out) | (with_reducible refine Kd.C_alloc ?_ _) | (with_reducible refine Kd.C_drewN ?_ _) | (with_reducible refine Kd.C_drew ?_))); (case side2 => exact HC0.out); rintro e w' ⟨rfl, ⟨nd, rfl⟩⟩; refine ⟨_, rfl, ?_⟩))
             go_ret
             exact ⟨by first | rfl | (simp [errW_none, errW_some] <;> rfl) | (simp [*, errW_none, errW_some] <;> rfl), by repeat (first | (with_reducible first | exact HB.out | apply below_alloc | apply pw_below_drewN | apply below_drew1) | exact HB.out)⟩
            ·rw [if_neg c61] at H
             have c61b0 : ((wrap64 (t565 - 1)) == x16_1) = false := beq_eq_false_iff_ne.mpr c61
             have c61b1 : ((wrap64 (t565 - 1)) != x16_1) = true := bne_iff_ne.mpr c61
             replace H := Option.bind_eq_some_iff.mp H
             obtain ⟨t566, A660, H⟩ := H
             replace H : ((impl_Holds.f k1 t566 t557 (wrap64 (t565 - 1)) t560).bind fun t567 => (if t567 = true then ((impl_Parted.f k1 t557 x16_1 t560 (wrap64 (t565 - 1)) t560).bind fun bt568 => (if bt568.2 = true then (some ((bt568.1.length : Int) == 4)) else (none))) else (some true))) = some r := H
             have A66 := Aside0.mk A660
             clear A660
             replace H := Option.bind_eq_some_iff.mp H
             obtain ⟨t567, A670, H⟩ := H
             replace H : (if t567 = true then ((impl_Parted.f k1 t557 x16_1 t560 (wrap64 (t565 - 1)) t560).bind fun bt568 => (if bt568.2 = true then (some ((bt568.1.length : Int) == 4)) else (none))) else (some true)) = some r := H
             have A67 := Aside0.mk A670
             clear A670
             have HC68 := Aside0.mk H
             clear H
             go_upto_if 143 with (first | ((with_reducible refine gate_callee (f := 17) rfl ?_); refine goesL_ (some 121) rfl rfl Tryd.func17 (by kernel_rfl) rfl #[.slice Ao40 t532.length co40, .int .i64 t557] rfl (by (try simp only [List.map_toArray, List.map_cons, List.map_nil]); first | done | rfl | (simp only [List.length_drop, List.length_take]; rfl)) ?_; (with_reducible refine (impl_Way.calls k1 _ _ t532 t557 t560 _ ?side1 ?side2 A56.out (tab_at HT.out (by repeat (first | (with_reducible first | exact HB.out | apply below_alloc | apply pw_below_drewN | apply below_drew1 | (refine below_set ?_ (Aside0.out (by assumption)))) | exact HB.out)))).mono ?_); (case side1 => repeat (first | exact (Kd.R_reads' HO_12.out).2.2 | (with_reducible refine Kd.C_alloc ?_ _) | (with_reducible refine Kd.C_drewN ?_ _) | (with_reducible refine Kd.C_drew ?_))); (case side2 => exact (Kd.R_reads' HO_12.out).2.1); rintro e w69 ⟨v561, rfl, ho0, hb⟩; refine ⟨_, rfl, ?_⟩; have n0_ := Aside0.mk (Kd.R_below (by (with_reducible repeat (first | apply Kd.R_alloc | apply Kd.R_drewN | apply Kd.R_drew)); exact HO_12.out) hb); have n1_ := Aside0.mk (Kd.R_lower ho0 (below_size (by repeat (first | (with_reducible first | exact HB.out | apply below_alloc | apply pw_below_drewN | apply below_drew1) | exact HB.out)))); have n2_ := Aside0.mk (below_step (by repeat (first | (with_reducible first | exact HB.out | apply below_alloc | apply pw_below_drewN | apply below_drew1) | exact HB.out)) hb); clear HO_12; clear HB; have HO_12 := n0_; have HO562 := n1_; have HB := n2_; clear n0_ n1_ n2_; (try clear hb); (try clear hb2); (try clear hk); (try clear hi); (try clear ho0)) | ((with_reducible refine gate_callee (f := 14) rfl ?_); refine goesL_ (some 123) rfl rfl Tryd.func14 (by kernel_rfl) rfl #[.slice Ao40 t532.length co40] rfl (by (try simp only [List.map_toArray, List.map_cons, List.map_nil]); first | done | rfl | (simp only [List.length_drop, List.length_take]; rfl)) ?_; (with_reducible refine (impl_Peak.calls k1 _ _ t532 t563 _ ?side1 ?side2 A57.out (tab_at HT.out (by repeat (first | (with_reducible first | exact HB.out | apply below_alloc | apply pw_below_drewN | apply below_drew1 | (refine below_set ?_ (Aside0.out (by assumption)))) | exact HB.out)))).mono ?_); (case side1 => repeat (first | exact (Kd.R_reads' HO_12.out).2.2 | (with_reducible refine Kd.C_alloc ?_ _) | (with_reducible refine Kd.C_drewN ?_ _) | (with_reducible refine Kd.C_drew ?_))); (case side2 => exact (Kd.R_reads' HO_12.out).2.1); rintro e w70 ⟨rfl, hb⟩; refine ⟨_, rfl, ?_⟩; have n0_ := Aside0.mk (Kd.R_below (by (with_reducible repeat (first | apply Kd.R_alloc | apply Kd.R_drewN | apply Kd.R_drew)); exact HO_12.out) hb); have n1_ := Aside0.mk (Kd.R_below (by (with_reducible repeat (first | apply Kd.R_alloc | apply Kd.R_drewN | apply Kd.R_drew)); exact HO562.out) hb); have n2_ := Aside0.mk (below_step (by repeat (first | (with_reducible first | exact HB.out | apply below_alloc | apply pw_below_drewN | apply below_drew1) | exact HB.out)) hb); clear HO_12; clear HO562; clear HB; have HO_12 := n0_; have HO562 := n1_; have HB := n2_; clear n0_ n1_ n2_; (try clear hb); (try clear hb2); (try clear hk); (try clear hi); obtain ⟨Ao71, co71, eo71⟩ := Kd.R_slice HO562.out; subst eo71) | ((with_reducible refine gate_callee (f := 8) rfl ?_); refine goesL_ (some 127) rfl rfl Tryd.func8 (by kernel_rfl) rfl #[.int .i64 t563, .int .i64 t557, .int .i64 x16_1, .slice Ao71 t560.length co71] rfl (by (try simp only [List.map_toArray, List.map_cons, List.map_nil]); first | done | rfl | (simp only [List.length_drop, List.length_take]; rfl)) ?_; (with_reducible refine (impl_Holds.calls k1 t563 t557 x16_1 _ _ t560 true _ ?side1 ?side2 A58.out (tab_at HT.out (by repeat (first | (with_reducible first | exact HB.out | apply below_alloc | apply pw_below_drewN | apply below_drew1 | (refine below_set ?_ (Aside0.out (by assumption)))) | exact HB.out)))).mono ?_); (case side1 => repeat (first | exact (Kd.R_reads' HO562.out).2.2 | (with_reducible refine Kd.C_alloc ?_ _) | (with_reducible refine Kd.C_drewN ?_ _) | (with_reducible refine Kd.C_drew ?_))); (case side2 => exact (Kd.R_reads' HO562.out).2.1); rintro e w72 ⟨rfl, hb⟩; refine ⟨_, rfl, ?_⟩; have n0_ := Aside0.mk (Kd.R_below (by (with_reducible repeat (first | apply Kd.R_alloc | apply Kd.R_drewN | apply Kd.R_drew)); exact HO_12.out) hb); have n1_ := Aside0.mk (Kd.R_below (by (with_reducible repeat (first | apply Kd.R_alloc | apply Kd.R_drewN | apply Kd.R_drew)); exact HO562.out) hb); have n2_ := Aside0.mk (below_step (by repeat (first | (with_reducible first | exact HB.out | apply below_alloc | apply pw_below_drewN | apply below_drew1) | exact HB.out)) hb); clear HO_12; clear HO562; clear HB; have HO_12 := n0_; have HO562 := n1_; have HB := n2_; clear n0_ n1_ n2_; (try clear hb); (try clear hb2); (try clear hk); (try clear hi)) | ((with_reducible refine gate_callee (f := 21) rfl ?_); refine goesL_ (some 130) rfl rfl Tryd.func21 (by kernel_rfl) rfl #[.slice A0 l0.length c0, .int .i64 2, .int .i64 1000] rfl (by (try simp only [List.map_toArray, List.map_cons, List.map_nil]); first | done | rfl | (simp only [List.length_drop, List.length_take]; rfl)) ?_; (with_reducible refine (laws_pick.calls k1 _ _ l0 2 1000 t565 _ ?side1 ?side2 A60.out).mono ?_); (case side1 => repeat (first | exact (Kd.C_below HR0.out HB.out) | (with_reducible refine Kd.C_alloc ?_ _) | (with_reducible refine Kd.C_drewN ?_ _) | (with_reducible refine Kd.C_drew ?_))); (case side2 => exact HC0.out); rintro e w' ⟨rfl, ⟨nd, rfl⟩⟩; refine ⟨_, rfl, ?_⟩) | (go_at_call 14; (with_reducible refine (impl_Peak.calls k1 _ _ t532 t566 _ ?side1 ?side2 A66.out (tab_at HT.out (by repeat (first | (with_reducible first | exact HB.out | apply below_alloc | apply pw_below_drewN | apply below_drew1 | (refine below_set ?_ (Aside0.out (by assumption)))) | exact HB.out)))).mono ?_); (case side1 => repeat (first | exact (Kd.R_reads' HO_12.out).2.2 | (with_reducible refine Kd.C_alloc ?_ _) | (with_reducible refine Kd.C_drewN ?_ _) | (with_reducible refine Kd.C_drew ?_))); (case side2 => exact (Kd.R_reads' HO_12.out).2.1); rintro e w73 ⟨rfl, hb⟩; have n0_ := Aside0.mk (Kd.R_below (by (with_reducible repeat (first | apply Kd.R_alloc | apply Kd.R_drewN | apply Kd.R_drew)); exact HO_12.out) hb); have n1_ := Aside0.mk (Kd.R_below (by (with_reducible repeat (first | apply Kd.R_alloc | apply Kd.R_drewN | apply Kd.R_drew)); exact HO562.out) hb); have n2_ := Aside0.mk (below_step (by repeat (first | (with_reducible first | exact HB.out | apply below_alloc | apply pw_below_drewN | apply below_drew1) | exact HB.out)) hb); clear HO_12; clear HO562; clear HB; have HO_12 := n0_; have HO562 := n1_; have HB := n2_; clear n0_ n1_ n2_; (try clear hb); (try clear hb2); (try clear hk); (try clear hi)) | (go_at_call 8; (with_reducible refine (impl_Holds.calls k1 t566 t557 (wrap64 (t565 - 1)) _ _ t560 t567 _ ?side1 ?side2 A67.out (tab_at HT.out (by repeat (first | (with_reducible first | exact HB.out | apply below_alloc | apply pw_below_drewN | apply below_drew1 | (refine below_set ?_ (Aside0.out (by assumption)))) | exact HB.out)))).mono ?_); (case side1 => repeat (first | exact (Kd.R_reads' HO562.out).2.2 | (with_reducible refine Kd.C_alloc ?_ _) | (with_reducible refine Kd.C_drewN ?_ _) | (with_reducible refine Kd.C_drew ?_))); (case side2 => exact (Kd.R_reads' HO562.out).2.1); rintro e w74 ⟨rfl, hb⟩; have n0_ := Aside0.mk (Kd.R_below (by (with_reducible repeat (first | apply Kd.R_alloc | apply Kd.R_drewN | apply Kd.R_drew)); exact HO562.out) hb); have n1_ := Aside0.mk (below_step (by repeat (first | (with_reducible first | exact HB.out | apply below_alloc | apply pw_below_drewN | apply below_drew1) | exact HB.out)) hb); clear HO562; clear HB; have HO562 := n0_; have HB := n1_; clear n0_ n1_; (try clear hb); (try clear hb2); (try clear hk); (try clear hi)))
             (try simp only [Act.put, List.setIfInBounds_toArray, List.set_cons_zero, List.set_cons_succ])
             have H := HC68.out
             clear HC68
             by_cases c75 : t567 = true
             ·subst c75
              have H1 : ((impl_Parted.f k1 t557 x16_1 t560 (wrap64 (t565 - 1)) t560).bind fun bt568 => (if bt568.2 = true then (some ((bt568.1.length : Int) == 4)) else (none))) = some r := by rw [if_pos rfl] at H; exact H
              clear H
              have H := H1
              clear H1
              replace H := Option.bind_eq_some_iff.mp H
              obtain ⟨⟨t568, t569⟩, A760, H⟩ := H
              replace H : (if t569 = true then (some ((t568.length : Int) == 4)) else (none)) = some r := H
              have A76 := Aside0.mk A760
              clear A760
              by_cases c77 : t569 = true
              ·subst c77
               have H1 : (some ((t568.length : Int) == 4)) = some r := by rw [if_pos rfl] at H; exact H
               clear H
               have H := H1
               clear H1
               obtain rfl := Option.some.inj H
               go_wp2_with (first | ((with_reducible refine gate_callee (f := 22) rfl ?_); refine goesL_ (some 150) rfl rfl Tryd.func22 (by kernel_rfl) rfl #[.int .i64 t557, .int .i64 x16_1, .slice Ao71 t560.length co71, .int .i64 (wrap64 (t565 - 1)), .slice Ao71 t560.length co71] rfl (by (try simp only [List.map_toArray, List.map_cons, List.map_nil]); first | done | rfl | (simp only [List.length_drop, List.length_take]; rfl)) ?_; (with_reducible refine (impl_Parted.calls k1 t557 x16_1 _ _ t560 (wrap64 (t565 - 1)) _ _ t560 t568 true _ ?side1 ?side2 ?side3 ?side4 A76.out (tab_at HT.out (by repeat (first | (with_reducible first | exact HB.out | apply below_alloc | apply pw_below_drewN | apply below_drew1 | (refine below_set ?_ (Aside0.out (by assumption)))) | exact HB.out)))).mono ?_); (case side1 => repeat (first | exact (Kd.R_reads' HO562.out).2.2 | (with_reducible refine Kd.C_alloc ?_ _) | (with_reducible refine Kd.C_drewN ?_ _) | (with_reducible refine Kd.C_drew ?_))); (case side2 => exact (Kd.R_reads' HO562.out).2.1); (case side3 => repeat (first | exact (Kd.R_reads' HO562.out).2.2 | (with_reducible refine Kd.C_alloc ?_ _) | (with_reducible refine Kd.C_drewN ?_ _) | (with_reducible refine Kd.C_drew ?_))); (case side4 => exact (Kd.R_reads' HO562.out).2.1); rintro e w78 ⟨v570, rfl, ho0, hb⟩; refine ⟨_, rfl, ?_⟩; have n0_ := Aside0.mk (Kd.R_elder' (by (with_reducible repeat (first | apply Kd.R_alloc | apply Kd.R_drewN | apply Kd.R_drew)); exact HO562.out) (Kd.R_base ho0) hb); have n1_ := Aside0.mk (Kd.R_lower (Kd.R_new' ho0 (Kd.R_lt (by (with_reducible repeat (first | apply Kd.R_alloc | apply Kd.R_drewN | apply Kd.R_drew)); exact HO562.out))) (below_size (by repeat (first | (with_reducible first | exact HB.out | apply below_alloc | apply pw_below_drewN | apply below_drew1) | exact HB.out)))); have n2_ := Aside0.mk (below_step (by repeat (first | (with_reducible first | exact HB.out | apply below_alloc | apply pw_below_drewN | apply below_drew1) | exact HB.out)) hb); clear HO562; clear HB; have HO562 := n0_; have HO571 := n1_; have HB := n2_; clear n0_ n1_ n2_; (try clear hb); (try clear hb2); (try clear hk); (try clear hi); (try clear ho0); obtain ⟨Ao79, co79, eo79⟩ := Kd.R_slice HO571.out; subst eo79))
               go_ret
               exact ⟨by first | rfl | (simp [errW_none, errW_some] <;> rfl) | (simp [*, errW_none, errW_some] <;> rfl), by repeat (first | (with_reducible first | exact HB.out | apply below_alloc | apply pw_below_drewN | apply below_drew1) | exact HB.out)⟩
              ·replace c77 := Bool.eq_false_iff.mpr c77
               subst c77
               have H1 : (none) = some r := by rw [if_neg (show ¬ (false = true) by decide)] at H; exact H
               clear H
               have H := H1
               clear H1
               exact absurd H (by simp)
             ·replace c75 := Bool.eq_false_iff.mpr c75
              subst c75
              have H1 : (some true) = some r := by rw [if_neg (show ¬ (false = true) by decide)] at H; exact H
              clear H
              have H := H1
              clear H1
              obtain rfl := Option.some.inj H
              go_wp2
              go_ret
              exact ⟨by first | rfl | (simp [errW_none, errW_some] <;> rfl) | (simp [*, errW_none, errW_some] <;> rfl), by repeat (first | (with_reducible first | exact HB.out | apply below_alloc | apply pw_below_drewN | apply below_drew1) | exact HB.out)⟩
           ·replace c59 := Bool.eq_false_iff.mpr c59
            subst c59
            have H1 : (none) = some r := by rw [if_neg (show ¬ (false = true) by decide)] at H; exact H
            clear H
            have H := H1
            clear H1
            exact absurd H (by simp)
       ·replace c51 := Bool.eq_false_iff.mpr c51
        subst c51
        have H1 : ((impl_Peak.f k t532).bind fun t556 => (some (t556 == (-1)))) = some r := by rw [if_neg (show ¬ (false = true) by decide)] at H; exact H
        clear H
        have H := H1
        clear H1
        replace H := Option.bind_eq_some_iff.mp H
        obtain ⟨t556, A800, H⟩ := H
        replace H : (some (t556 == (-1))) = some r := H
        have A80 := Aside0.mk A800
        clear A800
        obtain rfl := Option.some.inj H
        go_wp2_with (first | ((with_reducible refine gate_callee (f := 14) rfl ?_); refine goesL_ (some 97) rfl rfl Tryd.func14 (by kernel_rfl) rfl #[.slice Ao40 t532.length co40] rfl (by (try simp only [List.map_toArray, List.map_cons, List.map_nil]); first | done | rfl | (simp only [List.length_drop, List.length_take]; rfl)) ?_; (with_reducible refine (impl_Peak.calls k _ _ t532 t556 _ ?side1 ?side2 A80.out (tab_at HT.out (by repeat (first | (with_reducible first | exact HB.out | apply below_alloc | apply pw_below_drewN | apply below_drew1 | (refine below_set ?_ (Aside0.out (by assumption)))) | exact HB.out)))).mono ?_); (case side1 => repeat (first | exact (Kd.R_reads' HO534.out).2.2 | (with_reducible refine Kd.C_alloc ?_ _) | (with_reducible refine Kd.C_drewN ?_ _) | (with_reducible refine Kd.C_drew ?_))); (case side2 => exact (Kd.R_reads' HO534.out).2.1); rintro e w81 ⟨rfl, hb⟩; refine ⟨_, rfl, ?_⟩; have n0_ := Aside0.mk (Kd.R_below (by (with_reducible repeat (first | apply Kd.R_alloc | apply Kd.R_drewN | apply Kd.R_drew)); exact HO534.out) hb); have n1_ := Aside0.mk (below_step (by repeat (first | (with_reducible first | exact HB.out | apply below_alloc | apply pw_below_drewN | apply below_drew1) | exact HB.out)) hb); clear HO534; clear HB; have HO534 := n0_; have HB := n1_; clear n0_ n1_; (try clear hb); (try clear hb2); (try clear hk); (try clear hi)))
        go_ret
        exact ⟨by first | rfl | (simp [errW_none, errW_some] <;> rfl) | (simp [*, errW_none, errW_some] <;> rfl), by repeat (first | (with_reducible first | exact HB.out | apply below_alloc | apply pw_below_drewN | apply below_drew1) | exact HB.out)⟩
     ·replace c22 := Bool.eq_false_iff.mpr c22
      subst c22
      have H1 : (none) = some r := by rw [if_neg (show ¬ (false = true) by decide)] at H; exact H
      clear H
      have H := H1
      clear H1
      exact absurd H (by simp)
    ·rw [if_neg c18] at H
     exact absurd H (by simp)
  ·replace c13 := Bool.eq_false_iff.mpr c13
   subst c13
   have H1 : (none) = some r := by rw [if_neg (show ¬ (false = true) by decide)] at H; exact H
   clear H
   have H := H1
   clear H1
   exact absurd H (by simp)

end Go.Proofs.YtgpofolfflfgiaaDoor.PFnProved
