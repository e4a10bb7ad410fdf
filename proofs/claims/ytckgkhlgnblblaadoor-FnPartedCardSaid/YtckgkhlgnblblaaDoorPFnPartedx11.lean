-- Written by a program of this session (wip/tools/pp.py over the kit's print).
import Derived.Test.YtckgkhlgnblblaaDoorPFnPartedx0
import Derived.Test.YtckgkhlgnblblaaDoorPFnPartedx1
import Derived.Test.YtckgkhlgnblblaaDoorPFnPartedx6
import Derived.Test.YtckgkhlgnblblaaDoorPFnPartedx9
import Derived.Test.YtckgkhlgnblblaaDoorPFnPartedx10
namespace Go.Proofs.YtckgkhlgnblblaaDoor.PFnParted
open Go.RowKit Go.Proofs.YtckgkhlgnblblaaDoorW.PrintWords Go.Proofs.YtckgkhlgnblblaaDoorW.PrintLast Go.Proofs.YtckgkhlgnblblaaDoorW.PrintMore
attribute [local go_sem] max2_int min2_int max_two min_two max_three min_three max_four min_four
attribute [local go_sem high] str_gtr str_leq str_geq
set_option linter.unusedVariables false
set_option linter.unusedSimpArgs false

/-! ### laws_FnParted: function 4 -/
def laws_FnParted.j0 : Nat → List Int → Bool → Option (Bool)
 | 0, _, _ => none
 | k + 1, x8, x75 => if x75 = true then (none) else (if 1 < (x8.length : Int) then (if (rd x8 1) = (-1) then (if 2 < (x8.length : Int) then (if 3 < (x8.length : Int) then ((impl_Pair.f k (rd x8 2) (rd x8 3)).bind fun t446 => (if t446 = 0 then (some true) else (if (rd x8 3) = (-1) then (if 0 < (x8.length : Int) then ((impl_Pair.f k (rd x8 0) (rd x8 1)).bind fun t450 => (if t450 = 0 then (some true) else ((impl_Pair.f k (rd x8 0) (rd x8 1)).bind fun t453 => ((impl_Pair.f k (rd x8 2) (rd x8 3)).bind fun t456 => (some (t453 == t456)))))) else (none)) else (if 0 < (x8.length : Int) then ((impl_Pair.f k (rd x8 0) (rd x8 1)).bind fun t459 => ((impl_Pair.f k (rd x8 2) (rd x8 3)).bind fun t462 => (some (t459 == t462)))) else (none))))) else (none)) else (none)) else (if 3 < (x8.length : Int) then (if (rd x8 3) = (-1) then (if 0 < (x8.length : Int) then ((impl_Pair.f k (rd x8 0) (rd x8 1)).bind fun t466 => (if t466 = 0 then (some true) else ((impl_Pair.f k (rd x8 0) (rd x8 1)).bind fun t469 => (if 2 < (x8.length : Int) then ((impl_Pair.f k (rd x8 2) (rd x8 3)).bind fun t472 => (some (t469 == t472))) else (none))))) else (none)) else (if 0 < (x8.length : Int) then ((impl_Pair.f k (rd x8 0) (rd x8 1)).bind fun t475 => (if 2 < (x8.length : Int) then ((impl_Pair.f k (rd x8 2) (rd x8 3)).bind fun t478 => (some (t475 == t478))) else (none))) else (none))) else (none))) else (none))
def laws_FnParted.f (k : Nat) (l0 : List Int) : Option (Bool) := (laws_big.f l0).bind fun t420 => (if t420 = true then (some true) else ((spec_DrawParted.f k l0).bind fun bt421 => ((impl_Parted.f k bt421.1 bt421.2.1 bt421.2.2.1 bt421.2.2.2.1 bt421.2.2.2.2).bind fun bt430 => ((spec_Parted.f k bt421.1 bt421.2.1 bt421.2.2.1 bt421.2.2.2.1 bt421.2.2.2.2).bind fun bt434 => (if (bt430.2 != bt434.2) = true then (none) else ((laws_likeInts.f k bt430.1 bt434.1).bind fun t438 => (if t438 = true then (if bt430.2 = true then (if (bt430.1.length : Int) = 4 then (if 0 < (bt430.1.length : Int) then (if 2 < (bt430.1.length : Int) then (if (rd bt430.1 0) = (rd bt430.1 2) then (if 1 < (bt430.1.length : Int) then (if 3 < (bt430.1.length : Int) then (laws_FnParted.j0 k bt430.1 ((rd bt430.1 1) == (rd bt430.1 3))) else (none)) else (none)) else (laws_FnParted.j0 k bt430.1 false)) else (none)) else (none)) else (none)) else (some ((bt430.1.length : Int) == 0))) else (none))))))))
theorem laws_FnParted.mono_l : ∀ k, (∀ y0 y1, LeO (laws_FnParted.j0 k y0 y1) (laws_FnParted.j0 (k + 1) y0 y1))
 | 0 => fun _ _ r h => by simp [laws_FnParted.j0] at h
 | k + 1 => by
  have ih0 := laws_FnParted.mono_l k
  ·intro y0 y1
   unfold laws_FnParted.j0
   repeat' first
   | (with_reducible exact ih0 _ _)
   | (with_reducible exact impl_Pair.mono _ _ _)
   | (with_reducible exact impl_Parted.mono _ _ _ _ _ _)
   | (with_reducible exact laws_likeInts.mono _ _ _)
   | (with_reducible exact spec_DrawParted.mono _ _)
   | (with_reducible exact spec_Parted.mono _ _ _ _ _ _)
   | (with_reducible exact LeO.refl _)
   | (with_reducible exact LeO.none _)
   | (with_reducible refine LeO.ite ?_ ?_)
   | (with_reducible refine LeO.bind ?_ (fun _ => ?_))
   | exact ih0 _ _
   | exact impl_Pair.mono _ _ _
   | exact impl_Parted.mono _ _ _ _ _ _
   | exact laws_likeInts.mono _ _ _
   | exact spec_DrawParted.mono _ _
   | exact spec_Parted.mono _ _ _ _ _ _
   | exact LeO.none _
   | refine LeO.ite ?_ ?_
   | refine LeO.bind ?_ (fun _ => ?_)
theorem laws_FnParted.mono : ∀ a0 k, LeO (laws_FnParted.f k a0) (laws_FnParted.f (k + 1) a0) := by
 intro a0 k
 have ih0 := laws_FnParted.mono_l k
 unfold laws_FnParted.f
 repeat' first
   | (with_reducible exact ih0 _ _)
   | (with_reducible exact impl_Pair.mono _ _ _)
   | (with_reducible exact impl_Parted.mono _ _ _ _ _ _)
   | (with_reducible exact laws_likeInts.mono _ _ _)
   | (with_reducible exact spec_DrawParted.mono _ _)
   | (with_reducible exact spec_Parted.mono _ _ _ _ _ _)
   | (with_reducible exact LeO.refl _)
   | (with_reducible exact LeO.none _)
   | (with_reducible refine LeO.ite ?_ ?_)
   | (with_reducible refine LeO.bind ?_ (fun _ => ?_))
   | exact ih0 _ _
   | exact impl_Pair.mono _ _ _
   | exact impl_Parted.mono _ _ _ _ _ _
   | exact laws_likeInts.mono _ _ _
   | exact spec_DrawParted.mono _ _
   | exact spec_Parted.mono _ _ _ _ _ _
   | exact LeO.none _
   | refine LeO.ite ?_ ?_
   | refine LeO.bind ?_ (fun _ => ?_)
def laws_FnParted.T10 : Bool × List (List Nat × List Nat) := (true, [([], []), ([0], [0]), ([1], [1]), ([2], [2]), ([3], [3]), ([4, 3], [3, 4]), ([5, 3], [3, 5]), ([3], [3]), ([7, 3], [3, 7]), ([8, 3], [3, 8]), ([6, 9, 3], [3, 6, 9]), ([10, 3, 3], [3, 10]), ([11], [11]), ([12, 11], [11, 12]), ([13, 11], [11, 13]), ([11], [11]), ([15, 11], [11, 15]), ([16, 11], [11, 16]), ([14, 17, 11], [11, 14, 17]), ([11, 18, 3], [3, 11, 18]), ([3, 19], [3, 19])])
def laws_FnParted.B10 : List Nat := [0, 1, 3, 7, 15, 31, 63, 15, 143, 399, 1023, 2047, 4095, 8191, 16383, 4095, 36863, 102399, 262143, 524287, 1048575]
theorem laws_FnParted.tab10 : rtab .any (opsOf Tryd.f4 10) = laws_FnParted.T10 := by kernel_rfl
theorem laws_FnParted.bits10 : waitsOk laws_FnParted.T10.2 laws_FnParted.B10 = true := by kernel_rfl
def laws_FnParted.T12 : Bool × List (List Nat × List Nat) := (true, [([], []), ([0], [0]), ([1], [1]), ([2], [2]), ([3], [3]), ([4], [4]), ([5, 4], [4, 5]), ([6, 4], [4, 6]), ([4], [4]), ([8, 4], [4, 8]), ([9, 4], [4, 9]), ([7, 10, 4, 4], [4, 7, 10]), ([11, 4], [4, 11]), ([4, 12], [4, 12]), ([13, 11], [13]), ([14], [14]), ([15, 14], [14, 15]), ([16, 14], [14, 16]), ([17, 14], [14, 17]), ([18, 14, 14], [14, 18]), ([19], [19]), ([20, 19], [19, 20]), ([21, 19], [19, 21]), ([19], [19]), ([23, 19], [19, 23]), ([24, 19], [19, 24]), ([22, 25, 19, 19], [19, 22, 25]), ([26, 19], [19, 26]), ([19, 27, 14], [14, 19, 27]), ([14, 28], [14, 28]), ([29, 26, 0, 1, 2, 3, 4, 5, 6, 7, 8, 9, 10, 11, 12, 13, 14, 15, 16, 17, 18, 19, 20, 21, 22, 23, 24, 25, 26, 27, 28, 29], [29])])
def laws_FnParted.B12 : List Nat := [0, 1, 3, 7, 15, 31, 63, 127, 31, 287, 799, 2047, 4095, 8191, 16383, 32767, 65535, 131071, 262143, 524287, 1048575, 2097151, 4194303, 1048575, 9437183, 26214399, 67108863, 134217727, 268435455, 536870911, 1073741823]
theorem laws_FnParted.tab12 : rtab .any (opsOf Tryd.f4 12) = laws_FnParted.T12 := by kernel_rfl
theorem laws_FnParted.bits12 : waitsOk laws_FnParted.T12.2 laws_FnParted.B12 = true := by kernel_rfl
def laws_FnParted.T13 : Bool × List (List Nat × List Nat) := (true, [([], []), ([0], [0]), ([1], [1]), ([2, 1], [1, 2]), ([3, 1], [1, 3]), ([1], [1]), ([5, 1], [1, 5]), ([6, 1], [1, 6]), ([4, 7, 1, 1], [1, 4, 7]), ([1], [1]), ([9, 1], [1, 9]), ([10, 1], [1, 10]), ([1], [1]), ([12, 1], [1, 12]), ([13, 1], [1, 13]), ([11, 14, 8, 1], [1, 11, 14]), ([8, 15, 1], [1, 8, 15]), ([1, 16], [1, 16]), ([17, 15, 0, 1, 2, 3, 4, 5, 6, 7, 8, 9, 10, 11, 12, 13, 14, 15, 16, 17], [17])])
def laws_FnParted.B13 : List Nat := [0, 1, 3, 7, 15, 3, 35, 99, 255, 3, 515, 1539, 3, 4099, 12291, 32767, 65535, 131071, 262143]
theorem laws_FnParted.tab13 : rtab .any (opsOf Tryd.f4 13) = laws_FnParted.T13 := by kernel_rfl
theorem laws_FnParted.bits13 : waitsOk laws_FnParted.T13.2 laws_FnParted.B13 = true := by kernel_rfl
set_option maxHeartbeats 8000000 in
set_option maxRecDepth 100000 in
theorem laws_FnParted.calls (k : Nat) (A0 : Option Addr) (c0 : Nat) (l0 : List Int) (r : Bool) (w : World) (hr0 : Kd.C (Kd.int .u8) w A0 l0.length l0) (hc0 : l0.length ≤ c0) (h : laws_FnParted.f k l0 = some r) (hT : TabOk w) :
  Calls Tryd.prog 4 #[.slice A0 l0.length c0] w fun e w' => e = .returned (.bool r) ∧ Below w.heap.size w w' := by
 have HT := Aside0.mk hT
 clear hT
 have HR0 := Aside0.mk hr0
 have HC0 := Aside0.mk hc0
 clear hr0 hc0
 have HB := Aside0.mk (Below.refl w.heap.size w)
 have H : ((laws_big.f l0).bind fun t420 => (if t420 = true then (some true) else ((spec_DrawParted.f k l0).bind fun bt421 => ((impl_Parted.f k bt421.1 bt421.2.1 bt421.2.2.1 bt421.2.2.2.1 bt421.2.2.2.2).bind fun bt430 => ((spec_Parted.f k bt421.1 bt421.2.1 bt421.2.2.1 bt421.2.2.2.1 bt421.2.2.2.2).bind fun bt434 => (if (bt430.2 != bt434.2) = true then (none) else ((laws_likeInts.f k bt430.1 bt434.1).bind fun t438 => (if t438 = true then (if bt430.2 = true then (if (bt430.1.length : Int) = 4 then (if 0 < (bt430.1.length : Int) then (if 2 < (bt430.1.length : Int) then (if (rd bt430.1 0) = (rd bt430.1 2) then (if 1 < (bt430.1.length : Int) then (if 3 < (bt430.1.length : Int) then (laws_FnParted.j0 k bt430.1 ((rd bt430.1 1) == (rd bt430.1 3))) else (none)) else (none)) else (laws_FnParted.j0 k bt430.1 false)) else (none)) else (none)) else (none)) else (some ((bt430.1.length : Int) == 0))) else (none))))))))) = some r := h
 clear h
 replace H := Option.bind_eq_some_iff.mp H
 obtain ⟨t420, A20, H⟩ := H
 replace H : (if t420 = true then (some true) else ((spec_DrawParted.f k l0).bind fun bt421 => ((impl_Parted.f k bt421.1 bt421.2.1 bt421.2.2.1 bt421.2.2.2.1 bt421.2.2.2.2).bind fun bt430 => ((spec_Parted.f k bt421.1 bt421.2.1 bt421.2.2.1 bt421.2.2.2.1 bt421.2.2.2.2).bind fun bt434 => (if (bt430.2 != bt434.2) = true then (none) else ((laws_likeInts.f k bt430.1 bt434.1).bind fun t438 => (if t438 = true then (if bt430.2 = true then (if (bt430.1.length : Int) = 4 then (if 0 < (bt430.1.length : Int) then (if 2 < (bt430.1.length : Int) then (if (rd bt430.1 0) = (rd bt430.1 2) then (if 1 < (bt430.1.length : Int) then (if 3 < (bt430.1.length : Int) then (laws_FnParted.j0 k bt430.1 ((rd bt430.1 1) == (rd bt430.1 3))) else (none)) else (none)) else (laws_FnParted.j0 k bt430.1 false)) else (none)) else (none)) else (none)) else (some ((bt430.1.length : Int) == 0))) else (none)))))))) = some r := H
 have A2 := Aside0.mk A20
 clear A20
 have HC3 := Aside0.mk H
 clear H
 go_enter Tryd.func4, Tryd.ntmps4
 go_upto_if 14 with (first | ((with_reducible refine gate_callee (f := 6) rfl ?_); refine goesL_ (some 14) rfl rfl Tryd.func6 (by kernel_rfl) rfl #[.slice A0 l0.length c0] rfl (by (try simp only [List.map_toArray, List.map_cons, List.map_nil]); first | done | rfl | (simp only [List.length_drop, List.length_take]; rfl)) ?_; (with_reducible refine (laws_big.calls _ _ l0 t420 _ ?side1 ?side2 A2.out).mono ?_); (case side1 => repeat (first | exact HR0.out | (with_reducible refine Kd.C_alloc ?_ _) | (with_reducible refine Kd.C_drewN ?_ _) | (with_reducible refine Kd.C_drew ?_))); (case side2 => exact HC0.out); rintro e w' ⟨rfl, ⟨nd, rfl⟩⟩; refine ⟨_, rfl, ?_⟩))
 (try simp only [Act.put, List.setIfInBounds_toArray, List.set_cons_zero, List.set_cons_succ])
 have H := HC3.out
 clear HC3
 by_cases c4 : t420 = true
 ·subst c4
  have H1 : (some true) = some r := by rw [if_pos rfl] at H; exact H
  clear H
  have H := H1
  clear H1
  obtain rfl := Option.some.inj H
  go_wp2
  go_ret
  exact ⟨by first | rfl | (simp [errW_none, errW_some] <;> rfl) | (simp [*, errW_none, errW_some] <;> rfl), by repeat (first | (with_reducible first | exact HB.out | apply below_alloc | apply pw_below_drewN | apply below_drew1) | exact HB.out)⟩
 ·replace c4 := Bool.eq_false_iff.mpr c4
  subst c4
  have H1 : ((spec_DrawParted.f k l0).bind fun bt421 => ((impl_Parted.f k bt421.1 bt421.2.1 bt421.2.2.1 bt421.2.2.2.1 bt421.2.2.2.2).bind fun bt430 => ((spec_Parted.f k bt421.1 bt421.2.1 bt421.2.2.1 bt421.2.2.2.1 bt421.2.2.2.2).bind fun bt434 => (if (bt430.2 != bt434.2) = true then (none) else ((laws_likeInts.f k bt430.1 bt434.1).bind fun t438 => (if t438 = true then (if bt430.2 = true then (if (bt430.1.length : Int) = 4 then (if 0 < (bt430.1.length : Int) then (if 2 < (bt430.1.length : Int) then (if (rd bt430.1 0) = (rd bt430.1 2) then (if 1 < (bt430.1.length : Int) then (if 3 < (bt430.1.length : Int) then (laws_FnParted.j0 k bt430.1 ((rd bt430.1 1) == (rd bt430.1 3))) else (none)) else (none)) else (laws_FnParted.j0 k bt430.1 false)) else (none)) else (none)) else (none)) else (some ((bt430.1.length : Int) == 0))) else (none))))))) = some r := by rw [if_neg (show ¬ (false = true) by decide)] at H; exact H
  clear H
  have H := H1
  clear H1
  replace H := Option.bind_eq_some_iff.mp H
  obtain ⟨⟨t421, t422, t423, t424, t425⟩, A50, H⟩ := H
  replace H : ((impl_Parted.f k t421 t422 t423 t424 t425).bind fun bt430 => ((spec_Parted.f k t421 t422 t423 t424 t425).bind fun bt434 => (if (bt430.2 != bt434.2) = true then (none) else ((laws_likeInts.f k bt430.1 bt434.1).bind fun t438 => (if t438 = true then (if bt430.2 = true then (if (bt430.1.length : Int) = 4 then (if 0 < (bt430.1.length : Int) then (if 2 < (bt430.1.length : Int) then (if (rd bt430.1 0) = (rd bt430.1 2) then (if 1 < (bt430.1.length : Int) then (if 3 < (bt430.1.length : Int) then (laws_FnParted.j0 k bt430.1 ((rd bt430.1 1) == (rd bt430.1 3))) else (none)) else (none)) else (laws_FnParted.j0 k bt430.1 false)) else (none)) else (none)) else (none)) else (some ((bt430.1.length : Int) == 0))) else (none)))))) = some r := H
  have A5 := Aside0.mk A50
  clear A50
  replace H := Option.bind_eq_some_iff.mp H
  obtain ⟨⟨t430, t431⟩, A60, H⟩ := H
  replace H : ((spec_Parted.f k t421 t422 t423 t424 t425).bind fun bt434 => (if (t431 != bt434.2) = true then (none) else ((laws_likeInts.f k t430 bt434.1).bind fun t438 => (if t438 = true then (if t431 = true then (if (t430.length : Int) = 4 then (if 0 < (t430.length : Int) then (if 2 < (t430.length : Int) then (if (rd t430 0) = (rd t430 2) then (if 1 < (t430.length : Int) then (if 3 < (t430.length : Int) then (laws_FnParted.j0 k t430 ((rd t430 1) == (rd t430 3))) else (none)) else (none)) else (laws_FnParted.j0 k t430 false)) else (none)) else (none)) else (none)) else (some ((t430.length : Int) == 0))) else (none))))) = some r := H
  have A6 := Aside0.mk A60
  clear A60
  replace H := Option.bind_eq_some_iff.mp H
  obtain ⟨⟨t434, t435⟩, A70, H⟩ := H
  replace H : (if (t431 != t435) = true then (none) else ((laws_likeInts.f k t430 t434).bind fun t438 => (if t438 = true then (if t431 = true then (if (t430.length : Int) = 4 then (if 0 < (t430.length : Int) then (if 2 < (t430.length : Int) then (if (rd t430 0) = (rd t430 2) then (if 1 < (t430.length : Int) then (if 3 < (t430.length : Int) then (laws_FnParted.j0 k t430 ((rd t430 1) == (rd t430 3))) else (none)) else (none)) else (laws_FnParted.j0 k t430 false)) else (none)) else (none)) else (none)) else (some ((t430.length : Int) == 0))) else (none)))) = some r := H
  have A7 := Aside0.mk A70
  clear A70
  by_cases c8 : (t431 != t435) = true
  ·rw [if_pos c8] at H
   exact absurd H (by simp)
  ·rw [if_neg c8] at H
   have c8b0 : (t431 != t435) = false := by simpa using c8
   (try (have c8b1 : decide (t431 = t435) = true := by simpa using c8))
   (try (have c8b2 : (t431 == t435) = true := by simpa using c8))
   clear c8
   (first | rw [c8b0] | (simp only [i64_w, i32_w]; rw [c8b0]) | skip)
   replace H := Option.bind_eq_some_iff.mp H
   obtain ⟨t438, A90, H⟩ := H
   replace H : (if t438 = true then (if t431 = true then (if (t430.length : Int) = 4 then (if 0 < (t430.length : Int) then (if 2 < (t430.length : Int) then (if (rd t430 0) = (rd t430 2) then (if 1 < (t430.length : Int) then (if 3 < (t430.length : Int) then (laws_FnParted.j0 k t430 ((rd t430 1) == (rd t430 3))) else (none)) else (none)) else (laws_FnParted.j0 k t430 false)) else (none)) else (none)) else (none)) else (some ((t430.length : Int) == 0))) else (none)) = some r := H
   have A9 := Aside0.mk A90
   clear A90
   by_cases c10 : t438 = true
   ·subst c10
    have H1 : (if t431 = true then (if (t430.length : Int) = 4 then (if 0 < (t430.length : Int) then (if 2 < (t430.length : Int) then (if (rd t430 0) = (rd t430 2) then (if 1 < (t430.length : Int) then (if 3 < (t430.length : Int) then (laws_FnParted.j0 k t430 ((rd t430 1) == (rd t430 3))) else (none)) else (none)) else (laws_FnParted.j0 k t430 false)) else (none)) else (none)) else (none)) else (some ((t430.length : Int) == 0))) = some r := by rw [if_pos rfl] at H; exact H
    clear H
    have H := H1
    clear H1
    have HC11 := Aside0.mk H
    clear H
    go_upto_if 51 with (first | ((with_reducible refine gate_callee (f := 19) rfl ?_); refine goesL_ (some 17) rfl rfl Tryd.func19 (by kernel_rfl) rfl #[.slice A0 l0.length c0] rfl (by (try simp only [List.map_toArray, List.map_cons, List.map_nil]); first | done | rfl | (simp only [List.length_drop, List.length_take]; rfl)) ?_; (with_reducible refine (spec_DrawParted.calls k _ _ l0 t421 t422 t423 t424 t425 _ ?side1 ?side2 A5.out).mono ?_); (case side1 => repeat (first | exact (Kd.C_below HR0.out HB.out) | (with_reducible refine Kd.C_alloc ?_ _) | (with_reducible refine Kd.C_drewN ?_ _) | (with_reducible refine Kd.C_drew ?_))); (case side2 => exact HC0.out); rintro e w12 ⟨v426, v428, rfl, ho0, ho1, hb⟩; refine ⟨_, rfl, ?_⟩; have n0_ := Aside0.mk (Kd.R_lower ho0 (below_size (by repeat (first | (with_reducible first | exact HB.out | apply below_alloc | apply pw_below_drewN | apply below_drew1) | exact HB.out)))); have n1_ := Aside0.mk (Kd.R_lower ho1 (below_size (by repeat (first | (with_reducible first | exact HB.out | apply below_alloc | apply pw_below_drewN | apply below_drew1) | exact HB.out)))); have n2_ := Aside0.mk (below_step (by repeat (first | (with_reducible first | exact HB.out | apply below_alloc | apply pw_below_drewN | apply below_drew1) | exact HB.out)) hb); clear HB; have HO427 := n0_; have HO429 := n1_; have HB := n2_; clear n0_ n1_ n2_; (try clear hb); (try clear hb2); (try clear hk); (try clear hi); (try clear ho0); (try clear ho1); obtain ⟨Ao13, co13, eo13⟩ := Kd.R_slice HO427.out; subst eo13; obtain ⟨Ao14, co14, eo14⟩ := Kd.R_slice HO429.out; subst eo14) | ((with_reducible refine gate_callee (f := 20) rfl ?_); refine goesL_ (some 29) rfl rfl Tryd.func20 (by kernel_rfl) rfl #[.int .i64 t421, .int .i64 t422, .slice Ao13 t423.length co13, .int .i64 t424, .slice Ao14 t425.length co14] rfl (by (try simp only [List.map_toArray, List.map_cons, List.map_nil]); first | done | rfl | (simp only [List.length_drop, List.length_take]; rfl)) ?_; (with_reducible refine (impl_Parted.calls k t421 t422 _ _ t423 t424 _ _ t425 t430 t431 _ ?side1 ?side2 ?side3 ?side4 A6.out (tab_at HT.out (by repeat (first | (with_reducible first | exact HB.out | apply below_alloc | apply pw_below_drewN | apply below_drew1 | (refine below_set ?_ (Aside0.out (by assumption)))) | exact HB.out)))).mono ?_); (case side1 => repeat (first | exact (Kd.R_reads' HO427.out).2.2 | (with_reducible refine Kd.C_alloc ?_ _) | (with_reducible refine Kd.C_drewN ?_ _) | (with_reducible refine Kd.C_drew ?_))); (case side2 => exact (Kd.R_reads' HO427.out).2.1); (case side3 => repeat (first | exact (Kd.R_reads' HO429.out).2.2 | (with_reducible refine Kd.C_alloc ?_ _) | (with_reducible refine Kd.C_drewN ?_ _) | (with_reducible refine Kd.C_drew ?_))); (case side4 => exact (Kd.R_reads' HO429.out).2.1); rintro e w15 ⟨v432, rfl, ho0, hb⟩; refine ⟨_, rfl, ?_⟩; have n0_ := Aside0.mk (Kd.R_elder' (by (with_reducible repeat (first | apply Kd.R_alloc | apply Kd.R_drewN | apply Kd.R_drew)); exact HO427.out) (Kd.R_base ho0) hb); have n1_ := Aside0.mk (Kd.R_elder' (by (with_reducible repeat (first | apply Kd.R_alloc | apply Kd.R_drewN | apply Kd.R_drew)); exact HO429.out) (Kd.R_base ho0) hb); have n2_ := Aside0.mk (Kd.R_lower (Kd.R_new' (Kd.R_new' ho0 (Kd.R_lt (by (with_reducible repeat (first | apply Kd.R_alloc | apply Kd.R_drewN | apply Kd.R_drew)); exact HO427.out))) (Kd.R_lt (by (with_reducible repeat (first | apply Kd.R_alloc | apply Kd.R_drewN | apply Kd.R_drew)); exact HO429.out))) (below_size (by repeat (first | (with_reducible first | exact HB.out | apply below_alloc | apply pw_below_drewN | apply below_drew1) | exact HB.out)))); have n3_ := Aside0.mk (below_step (by repeat (first | (with_reducible first | exact HB.out | apply below_alloc | apply pw_below_drewN | apply below_drew1) | exact HB.out)) hb); clear HO427; clear HO429; clear HB; have HO427 := n0_; have HO429 := n1_; have HO433 := n2_; have HB := n3_; clear n0_ n1_ n2_ n3_; (try clear hb); (try clear hb2); (try clear hk); (try clear hi); (try clear ho0)) | ((with_reducible refine gate_callee (f := 21) rfl ?_); refine goesL_ (some 38) rfl rfl Tryd.func21 (by kernel_rfl) rfl #[.int .i64 t421, .int .i64 t422, .slice Ao13 t423.length co13, .int .i64 t424, .slice Ao14 t425.length co14] rfl (by (try simp only [List.map_toArray, List.map_cons, List.map_nil]); first | done | rfl | (simp only [List.length_drop, List.length_take]; rfl)) ?_; (with_reducible refine (spec_Parted.calls k t421 t422 _ _ t423 t424 _ _ t425 t434 t435 _ ?side1 ?side2 ?side3 ?side4 A7.out).mono ?_); (case side1 => repeat (first | exact (Kd.R_reads' HO427.out).2.2 | (with_reducible refine Kd.C_alloc ?_ _) | (with_reducible refine Kd.C_drewN ?_ _) | (with_reducible refine Kd.C_drew ?_))); (case side2 => exact (Kd.R_reads' HO427.out).2.1); (case side3 => repeat (first | exact (Kd.R_reads' HO429.out).2.2 | (with_reducible refine Kd.C_alloc ?_ _) | (with_reducible refine Kd.C_drewN ?_ _) | (with_reducible refine Kd.C_drew ?_))); (case side4 => exact (Kd.R_reads' HO429.out).2.1); rintro e w16 ⟨v436, rfl, ho0, hb⟩; refine ⟨_, rfl, ?_⟩; have n0_ := Aside0.mk (Kd.R_elder' (by (with_reducible repeat (first | apply Kd.R_alloc | apply Kd.R_drewN | apply Kd.R_drew)); exact HO427.out) (Kd.R_base ho0) hb); have n1_ := Aside0.mk (Kd.R_elder' (by (with_reducible repeat (first | apply Kd.R_alloc | apply Kd.R_drewN | apply Kd.R_drew)); exact HO429.out) (Kd.R_base ho0) hb); have n2_ := Aside0.mk (Kd.R_elder' (by (with_reducible repeat (first | apply Kd.R_alloc | apply Kd.R_drewN | apply Kd.R_drew)); exact HO433.out) (Kd.R_base ho0) hb); have n3_ := Aside0.mk (Kd.R_lower (Kd.R_new' (Kd.R_new' (Kd.R_new' ho0 (Kd.R_lt (by (with_reducible repeat (first | apply Kd.R_alloc | apply Kd.R_drewN | apply Kd.R_drew)); exact HO427.out))) (Kd.R_lt (by (with_reducible repeat (first | apply Kd.R_alloc | apply Kd.R_drewN | apply Kd.R_drew)); exact HO429.out))) (Kd.R_lt (by (with_reducible repeat (first | apply Kd.R_alloc | apply Kd.R_drewN | apply Kd.R_drew)); exact HO433.out))) (below_size (by repeat (first | (with_reducible first | exact HB.out | apply below_alloc | apply pw_below_drewN | apply below_drew1) | exact HB.out)))); have n4_ := Aside0.mk (below_step (by repeat (first | (with_reducible first | exact HB.out | apply below_alloc | apply pw_below_drewN | apply below_drew1) | exact HB.out)) hb); clear HO427; clear HO429; clear HO433; clear HB; have HO427 := n0_; have HO429 := n1_; have HO433 := n2_; have HO437 := n3_; have HB := n4_; clear n0_ n1_ n2_ n3_ n4_; (try clear hb); (try clear hb2); (try clear hk); (try clear hi); (try clear ho0); obtain ⟨Ao17, co17, eo17⟩ := Kd.R_slice HO433.out; subst eo17; obtain ⟨Ao18, co18, eo18⟩ := Kd.R_slice HO437.out; subst eo18) | (go_at_call 22; (with_reducible refine (laws_likeInts.calls k _ _ t430 _ _ t434 true _ ?side1 ?side2 ?side3 ?side4 A9.out).mono ?_); (case side1 => repeat (first | exact (Kd.R_reads' HO433.out).2.2 | (with_reducible refine Kd.C_alloc ?_ _) | (with_reducible refine Kd.C_drewN ?_ _) | (with_reducible refine Kd.C_drew ?_))); (case side2 => exact (Kd.R_reads' HO433.out).2.1); (case side3 => repeat (first | exact (Kd.R_reads' HO437.out).2.2 | (with_reducible refine Kd.C_alloc ?_ _) | (with_reducible refine Kd.C_drewN ?_ _) | (with_reducible refine Kd.C_drew ?_))); (case side4 => exact (Kd.R_reads' HO437.out).2.1); rintro e w' ⟨rfl, ⟨nd, rfl⟩⟩))
    (try simp only [Act.put, List.setIfInBounds_toArray, List.set_cons_zero, List.set_cons_succ])
    (try (rw [drewN_self w16]; generalize hq_ : World.drewN w16 _ = w16; have n0_ := Aside0.mk (Kd.R_at hq_ HO427.out); have n1_ := Aside0.mk (Kd.R_at hq_ HO429.out); have n2_ := Aside0.mk (Kd.R_at hq_ HO433.out); have n3_ := Aside0.mk (Kd.R_at hq_ HO437.out); have n4_ := Aside0.mk (below_at hq_ HB.out); clear hq_ HO427 HO429 HO433 HO437 HB; have HO427 := n0_; have HO429 := n1_; have HO433 := n2_; have HO437 := n3_; have HB := n4_; clear n0_ n1_ n2_ n3_ n4_))
    have H := HC11.out
    clear HC11
    by_cases c19 : t431 = true
    ·subst c19
     have H1 : (if (t430.length : Int) = 4 then (if 0 < (t430.length : Int) then (if 2 < (t430.length : Int) then (if (rd t430 0) = (rd t430 2) then (if 1 < (t430.length : Int) then (if 3 < (t430.length : Int) then (laws_FnParted.j0 k t430 ((rd t430 1) == (rd t430 3))) else (none)) else (none)) else (laws_FnParted.j0 k t430 false)) else (none)) else (none)) else (none)) = some r := by rw [if_pos rfl] at H; exact H
     clear H
     have H := H1
     clear H1
     have HC20 := Aside0.mk H
     clear H
     go_upto_region 10 with (fail)
     go_cut [75] (fun v75 wc => ∃ (kq : Nat) (x75_19 : Bool), v75 = .bool x75_19 ∧ Aside0 (laws_FnParted.j0 kq t430 x75_19 = some r) ∧ Aside0 (kq ≤ k) ∧ Aside0 (Kd.R (Kd.int .i64) 2 wc w.heap.size (fun _ => True) (.slice Ao17 t430.length co17) t430) ∧ Aside0 (Below w.heap.size w wc))
     case first =>
      have H := HC20.out
      clear HC20
      by_cases c21 : (t430.length : Int) = 4
      ·rw [if_pos c21] at H
       have c21b0 : ((t430.length : Int) == 4) = true := beq_iff_eq.mpr c21
       have c21b1 : ((t430.length : Int) != 4) = false := bne_eq_false_iff_eq.mpr c21
       clear c21
       (first | rw [c21b0] | (simp only [i64_w, i32_w]; rw [c21b0]) | skip)
       try rw [c21b1]
       by_cases c22 : 0 < (t430.length : Int)
       ·rw [if_pos c22] at H
        have c22b0 : decide (0 < (t430.length : Int)) = true := decide_eq_true c22
        have c22b1 : decide (0 < t430.length) = true := decide_eq_true (by omega)
        clear c22
        by_cases c23 : 2 < (t430.length : Int)
        ·rw [if_pos c23] at H
         have c23b0 : decide (2 < (t430.length : Int)) = true := decide_eq_true c23
         have c23b1 : decide (2 < t430.length) = true := decide_eq_true (by omega)
         clear c23
         by_cases c24 : (rd t430 0) = (rd t430 2)
         ·rw [if_pos c24] at H
          have c24b0 : ((rd t430 0) == (rd t430 2)) = true := beq_iff_eq.mpr c24
          have c24b1 : ((rd t430 0) != (rd t430 2)) = false := bne_eq_false_iff_eq.mpr c24
          clear c24
          by_cases c25 : 1 < (t430.length : Int)
          ·rw [if_pos c25] at H
           have c25b0 : decide (1 < (t430.length : Int)) = true := decide_eq_true c25
           have c25b1 : decide (1 < t430.length) = true := decide_eq_true (by omega)
           clear c25
           by_cases c26 : 3 < (t430.length : Int)
           ·rw [if_pos c26] at H
            have c26b0 : decide (3 < (t430.length : Int)) = true := decide_eq_true c26
            have c26b1 : decide (3 < t430.length) = true := decide_eq_true (by omega)
            clear c26
            have H' := Aside0.mk H
            clear H
            try go_wp2
            have n0_ := Aside0.mk (Kd.R_drew HO427.out)
            have n1_ := Aside0.mk (Kd.R_drew HO429.out)
            have n2_ := Aside0.mk (Kd.R_drew HO433.out)
            have n3_ := Aside0.mk (Kd.R_drew HO437.out)
            have n4_ := Aside0.mk (below_drew1 HB.out)
            clear HO427
            clear HO429
            clear HO433
            clear HO437
            clear HB
            have HO427 := n0_
            have HO429 := n1_
            have HO433 := n2_
            have HO437 := n3_
            have HB := n4_
            clear n0_ n1_ n2_ n3_ n4_
            have p439 : 0 ≤ (0 : Int) := (by omega)
            have q439 : 0 < (t430.length : Int) := of_decide_eq_true (by first | (with_reducible assumption) | assumption)
            obtain ⟨ad439, e439, hx439_0⟩ := Kd.at_int (Kd.R_reads' HO433.out).2.2 0 p439 q439
            cases e439
            have qi439 : (0 < t430.length) = True := eq_true (by omega)
            (try rw [show ((0 : Int)).toNat = 0 from rfl] at hx439_0)
            (try rw [Addr.add_zero'] at hx439_0)
            replace p439 := eq_true p439
            replace q439 := eq_true q439
            have p440 : 0 ≤ (2 : Int) := (by omega)
            have q440 : 2 < (t430.length : Int) := of_decide_eq_true (by first | (with_reducible assumption) | assumption)
            obtain ⟨ad440, e440, hx440_0⟩ := Kd.at_int (Kd.R_reads' HO433.out).2.2 2 p440 q440
            obtain rfl : ad439 = ad440 := (by injection e440)
            (try simp only [show (2 : Int).toNat = 2 from rfl, Nat.reduceMul, Nat.reduceEqDiff, Go.Addr.add, ↓reduceIte] at hx440_0)
            have qi440 : (2 < t430.length) = True := eq_true (by omega)
            (try rw [show ((2 : Int)).toNat = 2 from rfl] at hx440_0)
            replace p440 := eq_true p440
            replace q440 := eq_true q440
            have p441 : 0 ≤ (1 : Int) := (by omega)
            have q441 : 1 < (t430.length : Int) := of_decide_eq_true (by first | (with_reducible assumption) | assumption)
            obtain ⟨ad441, e441, hx441_0⟩ := Kd.at_int (Kd.R_reads' HO433.out).2.2 1 p441 q441
            obtain rfl : ad439 = ad441 := (by injection e441)
            (try simp only [show (1 : Int).toNat = 1 from rfl, Nat.reduceMul, Nat.reduceEqDiff, Go.Addr.add, ↓reduceIte] at hx441_0)
            have qi441 : (1 < t430.length) = True := eq_true (by omega)
            (try rw [show ((1 : Int)).toNat = 1 from rfl] at hx441_0)
            replace p441 := eq_true p441
            replace q441 := eq_true q441
            have p442 : 0 ≤ (3 : Int) := (by omega)
            have q442 : 3 < (t430.length : Int) := of_decide_eq_true (by first | (with_reducible assumption) | assumption)
            obtain ⟨ad442, e442, hx442_0⟩ := Kd.at_int (Kd.R_reads' HO433.out).2.2 3 p442 q442
            obtain rfl : ad439 = ad442 := (by injection e442)
            (try simp only [show (3 : Int).toNat = 3 from rfl, Nat.reduceMul, Nat.reduceEqDiff, Go.Addr.add, ↓reduceIte] at hx442_0)
            have qi442 : (3 < t430.length) = True := eq_true (by omega)
            (try rw [show ((3 : Int)).toNat = 3 from rfl] at hx442_0)
            replace p442 := eq_true p442
            replace q442 := eq_true q442
            refine start_ (n := 21) (S := fun w' => w'.cell? ad439 = some (.int .i64 (rd t430 0)) ∧ w'.cell? ⟨ad439.block, ad439.off + 2, none⟩ = some (.int .i64 (rd t430 2)) ∧ w'.cell? ⟨ad439.block, ad439.off + 1, none⟩ = some (.int .i64 (rd t430 1)) ∧ w'.cell? ⟨ad439.block, ad439.off + 3, none⟩ = some (.int .i64 (rd t430 3))) (ds := []) (bA 21 0) (by kernel_rfl) rfl rfl ⟨hx439_0, hx440_0, hx441_0, hx442_0⟩ (fun hHeld => ?_); refine with_tabW laws_FnParted.tab10 laws_FnParted.bits10 (fun HT_ HW_ => ?_)
            generalize w16.drew = w27 at HO427 HO429 HO433 HO437 HB hx439_0 hx440_0 hx441_0 hx442_0 hHeld ⊢
            refine pv (i := 0) (N := some 55) (bA 21 1) rfl rfl (any_of HT_.out (by kernel_rfl)) ?_
            refine pv (i := 1) (N := some 56) (bA 21 3) rfl rfl (any_of HT_.out (by kernel_rfl)) ?_
            refine pv (i := 2) (N := some 57) (bA 21 7) rfl rfl (any_of HT_.out (by kernel_rfl)) ?_
            refine pv (i := 3) (N := some 58) (bA 21 15) rfl rfl (any_of HT_.out (by kernel_rfl)) ?_
            refine pv (i := 4) (N := some 59) (bA 21 31) rfl rfl (any_of HT_.out (by kernel_rfl)) ?_
            refine pv (i := 5) (N := some 60) (bA 21 63) rfl rfl (any_of HT_.out (by kernel_rfl)) ?_
            refine pv (i := 7) (N := some 62) (bA 21 191) rfl rfl (any_of HT_.out (by kernel_rfl)) ?_
            refine pv (i := 8) (N := some 63) (bA 21 447) rfl rfl (any_of HT_.out (by kernel_rfl)) ?_
            refine take_ (i := 6) (N := some 61) (v := ?_) (a' := ?_) (bA 21 511) rfl rfl (take_ofW HT_.out HW_.out (by kernel_rfl)) (fun _ _ _ h => h) (Or.inl ⟨by rfl, ?_⟩) hHeld ?_ ?_
            rotate_left
            ·rintro w' ⟨s0, s1, s2, s3⟩
             go_simp
             with_reducible rfl
            rotate_left
            ·simp only [sp_]
             rfl
            refine take_ (i := 9) (N := some 64) (v := ?_) (a' := ?_) (bA 21 1023) rfl rfl (take_ofW HT_.out HW_.out (by kernel_rfl)) (fun _ _ _ h => h) (Or.inl ⟨by rfl, ?_⟩) hHeld ?_ ?_
            rotate_left
            ·rintro w' ⟨s0, s1, s2, s3⟩
             go_simp
             with_reducible rfl
            rotate_left
            ·simp only [sp_]
             rfl
            refine pv (i := 10) (N := some 65) (bA 21 2047) rfl rfl (any_of HT_.out (by kernel_rfl)) ?_
            refine pv (i := 11) (N := some 66) (bA 21 4095) rfl rfl (any_of HT_.out (by kernel_rfl)) ?_
            refine pv (i := 12) (N := some 67) (bA 21 8191) rfl rfl (any_of HT_.out (by kernel_rfl)) ?_
            refine pv (i := 13) (N := some 68) (bA 21 16383) rfl rfl (any_of HT_.out (by kernel_rfl)) ?_
            refine pv (i := 15) (N := some 70) (bA 21 49151) rfl rfl (any_of HT_.out (by kernel_rfl)) ?_
            refine pv (i := 16) (N := some 71) (bA 21 114687) rfl rfl (any_of HT_.out (by kernel_rfl)) ?_
            refine take_ (i := 14) (N := some 69) (v := ?_) (a' := ?_) (bA 21 131071) rfl rfl (take_ofW HT_.out HW_.out (by kernel_rfl)) (fun _ _ _ h => h) (Or.inl ⟨by rfl, ?_⟩) hHeld ?_ ?_
            rotate_left
            ·rintro w' ⟨s0, s1, s2, s3⟩
             go_simp
             with_reducible rfl
            rotate_left
            ·simp only [sp_]
             rfl
            refine take_ (i := 17) (N := some 72) (v := ?_) (a' := ?_) (bA 21 262143) rfl rfl (take_ofW HT_.out HW_.out (by kernel_rfl)) (fun _ _ _ h => h) (Or.inl ⟨by rfl, ?_⟩) hHeld ?_ ?_
            rotate_left
            ·rintro w' ⟨s0, s1, s2, s3⟩
             go_simp
             with_reducible rfl
            rotate_left
            ·simp only [sp_]
             rfl
            refine pv (i := 18) (N := some 73) (bA 21 524287) rfl rfl (any_of HT_.out (by kernel_rfl)) ?_
            refine pv (i := 19) (N := some 74) (bA 21 1048575) rfl rfl (any_of HT_.out (by kernel_rfl)) ?_
            refine pv (i := 20) (N := some 75) (bA 21 2097151) rfl rfl (any_of HT_.out (by kernel_rfl)) ?_
            refine done_ (done_of HT_.out (by kernel_rfl)) ?_
            try go_wp2
            go_meet
            case rel => exact ⟨_, (((rd t430 1) == (rd t430 3))), (by first | rfl | (simp; done) | (simp [*]; done)), H', ⟨by first | omega | exact Nat.le_refl _⟩, ⟨by (with_reducible repeat (first | apply Kd.R_alloc | apply Kd.R_drewN | apply Kd.R_drew)); exact Kd.R_mono HO433.out (fun _ hk => trivial)⟩, ⟨by repeat (first | (with_reducible first | exact HB.out | apply below_alloc | apply pw_below_drewN | apply below_drew1) | exact HB.out)⟩⟩
           ·rw [if_neg c26] at H
            exact absurd H (by simp)
          ·rw [if_neg c25] at H
           exact absurd H (by simp)
         ·rw [if_neg c24] at H
          have c24b0 : ((rd t430 0) == (rd t430 2)) = false := beq_eq_false_iff_ne.mpr c24
          have c24b1 : ((rd t430 0) != (rd t430 2)) = true := bne_iff_ne.mpr c24
          have H' := Aside0.mk H
          clear H
          try go_wp2
          have n0_ := Aside0.mk (Kd.R_drew HO427.out)
          have n1_ := Aside0.mk (Kd.R_drew HO429.out)
          have n2_ := Aside0.mk (Kd.R_drew HO433.out)
          have n3_ := Aside0.mk (Kd.R_drew HO437.out)
          have n4_ := Aside0.mk (below_drew1 HB.out)
          clear HO427
          clear HO429
          clear HO433
          clear HO437
          clear HB
          have HO427 := n0_
          have HO429 := n1_
          have HO433 := n2_
          have HO437 := n3_
          have HB := n4_
          clear n0_ n1_ n2_ n3_ n4_
          have p439 : 0 ≤ (0 : Int) := (by omega)
          have q439 : 0 < (t430.length : Int) := of_decide_eq_true (by first | (with_reducible assumption) | assumption)
          obtain ⟨ad439, e439, hx439_0⟩ := Kd.at_int (Kd.R_reads' HO433.out).2.2 0 p439 q439
          cases e439
          have qi439 : (0 < t430.length) = True := eq_true (by omega)
          (try rw [show ((0 : Int)).toNat = 0 from rfl] at hx439_0)
          (try rw [Addr.add_zero'] at hx439_0)
          replace p439 := eq_true p439
          replace q439 := eq_true q439
          have p440 : 0 ≤ (2 : Int) := (by omega)
          have q440 : 2 < (t430.length : Int) := of_decide_eq_true (by first | (with_reducible assumption) | assumption)
          obtain ⟨ad440, e440, hx440_0⟩ := Kd.at_int (Kd.R_reads' HO433.out).2.2 2 p440 q440
          obtain rfl : ad439 = ad440 := (by injection e440)
          (try simp only [show (2 : Int).toNat = 2 from rfl, Nat.reduceMul, Nat.reduceEqDiff, Go.Addr.add, ↓reduceIte] at hx440_0)
          have qi440 : (2 < t430.length) = True := eq_true (by omega)
          (try rw [show ((2 : Int)).toNat = 2 from rfl] at hx440_0)
          replace p440 := eq_true p440
          replace q440 := eq_true q440
          refine start_ (n := 21) (S := fun w' => w'.cell? ad439 = some (.int .i64 (rd t430 0)) ∧ w'.cell? ⟨ad439.block, ad439.off + 2, none⟩ = some (.int .i64 (rd t430 2))) (ds := []) (bA 21 0) (by kernel_rfl) rfl rfl ⟨hx439_0, hx440_0⟩ (fun hHeld => ?_); refine with_tabW laws_FnParted.tab10 laws_FnParted.bits10 (fun HT_ HW_ => ?_)
          generalize w16.drew = w28 at HO427 HO429 HO433 HO437 HB hx439_0 hx440_0 hHeld ⊢
          refine pv (i := 0) (N := some 55) (bA 21 1) rfl rfl (any_of HT_.out (by kernel_rfl)) ?_
          refine pv (i := 1) (N := some 56) (bA 21 3) rfl rfl (any_of HT_.out (by kernel_rfl)) ?_
          refine pv (i := 2) (N := some 57) (bA 21 7) rfl rfl (any_of HT_.out (by kernel_rfl)) ?_
          refine pv (i := 3) (N := some 58) (bA 21 15) rfl rfl (any_of HT_.out (by kernel_rfl)) ?_
          refine pv (i := 4) (N := some 59) (bA 21 31) rfl rfl (any_of HT_.out (by kernel_rfl)) ?_
          refine pv (i := 5) (N := some 60) (bA 21 63) rfl rfl (any_of HT_.out (by kernel_rfl)) ?_
          refine pv (i := 7) (N := some 62) (bA 21 191) rfl rfl (any_of HT_.out (by kernel_rfl)) ?_
          refine pv (i := 8) (N := some 63) (bA 21 447) rfl rfl (any_of HT_.out (by kernel_rfl)) ?_
          refine take_ (i := 6) (N := some 61) (v := ?_) (a' := ?_) (bA 21 511) rfl rfl (take_ofW HT_.out HW_.out (by kernel_rfl)) (fun _ _ _ h => h) (Or.inl ⟨by rfl, ?_⟩) hHeld ?_ ?_
          rotate_left
          ·rintro w' ⟨s0, s1⟩
           go_simp
           with_reducible rfl
          rotate_left
          ·simp only [sp_]
           rfl
          refine take_ (i := 9) (N := some 64) (v := ?_) (a' := ?_) (bA 21 1023) rfl rfl (take_ofW HT_.out HW_.out (by kernel_rfl)) (fun _ _ _ h => h) (Or.inl ⟨by rfl, ?_⟩) hHeld ?_ ?_
          rotate_left
          ·rintro w' ⟨s0, s1⟩
           go_simp
           with_reducible rfl
          rotate_left
          ·simp only [sp_]
           rfl
          refine pv (i := 10) (N := some 65) (bA 21 2047) rfl rfl (any_of HT_.out (by kernel_rfl)) ?_
          refine pv (i := 11) (N := some 66) (bA 21 4095) rfl rfl (any_of HT_.out (by kernel_rfl)) ?_
          refine pu (i := 12) (N := some 67) (bA 21 8191) rfl rfl (any_of HT_.out (by kernel_rfl)) ?_
          refine pu (i := 13) (N := some 68) (bA 21 16383) rfl rfl (any_of HT_.out (by kernel_rfl)) ?_
          refine pu (i := 14) (N := some 69) (bA 21 32767) rfl rfl (any_of HT_.out (by kernel_rfl)) ?_
          refine pu (i := 15) (N := some 70) (bA 21 65535) rfl rfl (any_of HT_.out (by kernel_rfl)) ?_
          refine pu (i := 16) (N := some 71) (bA 21 131071) rfl rfl (any_of HT_.out (by kernel_rfl)) ?_
          refine pu (i := 17) (N := some 72) (bA 21 262143) rfl rfl (any_of HT_.out (by kernel_rfl)) ?_
          refine pu (i := 18) (N := some 73) (bA 21 524287) rfl rfl (any_of HT_.out (by kernel_rfl)) ?_
          refine pv (i := 19) (N := some 74) (bA 21 1048575) rfl rfl (any_of HT_.out (by kernel_rfl)) ?_
          refine pv (i := 20) (N := some 75) (bA 21 2097151) rfl rfl (any_of HT_.out (by kernel_rfl)) ?_
          refine done_ (done_of HT_.out (by kernel_rfl)) ?_
          try go_wp2
          go_meet
          case rel => exact ⟨_, (false), (by first | rfl | (simp; done) | (simp [*]; done)), H', ⟨by first | omega | exact Nat.le_refl _⟩, ⟨by (with_reducible repeat (first | apply Kd.R_alloc | apply Kd.R_drewN | apply Kd.R_drew)); exact Kd.R_mono HO433.out (fun _ hk => trivial)⟩, ⟨by repeat (first | (with_reducible first | exact HB.out | apply below_alloc | apply pw_below_drewN | apply below_drew1) | exact HB.out)⟩⟩
        ·rw [if_neg c23] at H
         exact absurd H (by simp)
       ·rw [if_neg c22] at H
        exact absurd H (by simp)
      ·rw [if_neg c21] at H
       have c21b0 : ((t430.length : Int) == 4) = false := beq_eq_false_iff_ne.mpr c21
       have c21b1 : ((t430.length : Int) != 4) = true := bne_iff_ne.mpr c21
       (first | rw [c21b0] | (simp only [i64_w, i32_w]; rw [c21b0]) | skip)
       try rw [c21b1]
       exact absurd H (by simp)
     case rest =>
      clear HC20
      try clear c1
      try clear c2
      try clear p2
      try clear c4
      try clear p4
      try clear q4
      try clear hx4
      try clear qi4
      try clear c6
      try clear c8
      try clear c8b0
      try clear c8b1
      try clear c8b2
      try clear c10
      try clear c19
      try clear c20
      try clear c21
      try clear c21b0
      try clear c21b1
      try clear c22
      try clear c22b0
      try clear c22b1
      try clear c23
      try clear c23b0
      try clear c23b1
      try clear c24
      try clear c24b0
      try clear c24b1
      try clear c25
      try clear c25b0
      try clear c25b1
      try clear c26
      try clear c26b0
      try clear c26b1
      try clear hx439_0
      try clear hx440_0
      try clear hx441_0
      try clear hx442_0
      try clear p439
      try clear p440
      try clear p441
      try clear p442
      try clear q439
      try clear q440
      try clear q441
      try clear q442
      obtain ⟨kq, x75_19, rfl, HA, HJ19, HO_8, HB⟩ := hcut
      cases kq with
      | zero => exact absurd HA.out (by simp [laws_FnParted.j0])
      | succ kj19 =>
       have H := HA.out
       clear HA
       simp only [laws_FnParted.j0] at H
       by_cases c29 : x75_19 = true
       ·subst c29
        have H1 : (none) = some r := by rw [if_pos rfl] at H; exact H
        clear H
        have H := H1
        clear H1
        exact absurd H (by simp)
       ·replace c29 := Bool.eq_false_iff.mpr c29
        subst c29
        have H1 : (if 1 < (t430.length : Int) then (if (rd t430 1) = (-1) then (if 2 < (t430.length : Int) then (if 3 < (t430.length : Int) then ((impl_Pair.f kj19 (rd t430 2) (rd t430 3)).bind fun t446 => (if t446 = 0 then (some true) else (if (rd t430 3) = (-1) then (if 0 < (t430.length : Int) then ((impl_Pair.f kj19 (rd t430 0) (rd t430 1)).bind fun t450 => (if t450 = 0 then (some true) else ((impl_Pair.f kj19 (rd t430 0) (rd t430 1)).bind fun t453 => ((impl_Pair.f kj19 (rd t430 2) (rd t430 3)).bind fun t456 => (some (t453 == t456)))))) else (none)) else (if 0 < (t430.length : Int) then ((impl_Pair.f kj19 (rd t430 0) (rd t430 1)).bind fun t459 => ((impl_Pair.f kj19 (rd t430 2) (rd t430 3)).bind fun t462 => (some (t459 == t462)))) else (none))))) else (none)) else (none)) else (if 3 < (t430.length : Int) then (if (rd t430 3) = (-1) then (if 0 < (t430.length : Int) then ((impl_Pair.f kj19 (rd t430 0) (rd t430 1)).bind fun t466 => (if t466 = 0 then (some true) else ((impl_Pair.f kj19 (rd t430 0) (rd t430 1)).bind fun t469 => (if 2 < (t430.length : Int) then ((impl_Pair.f kj19 (rd t430 2) (rd t430 3)).bind fun t472 => (some (t469 == t472))) else (none))))) else (none)) else (if 0 < (t430.length : Int) then ((impl_Pair.f kj19 (rd t430 0) (rd t430 1)).bind fun t475 => (if 2 < (t430.length : Int) then ((impl_Pair.f kj19 (rd t430 2) (rd t430 3)).bind fun t478 => (some (t475 == t478))) else (none))) else (none))) else (none))) else (none)) = some r := by rw [if_neg (show ¬ (false = true) by decide)] at H; exact H
        clear H
        have H := H1
        clear H1
        by_cases c30 : 1 < (t430.length : Int)
        ·rw [if_pos c30] at H
         have c30b0 : decide (1 < (t430.length : Int)) = true := decide_eq_true c30
         have c30b1 : decide (1 < t430.length) = true := decide_eq_true (by omega)
         clear c30
         by_cases c31 : (rd t430 1) = (-1)
         ·rw [if_pos c31] at H
          have c31b0 : ((rd t430 1) == (-1)) = true := beq_iff_eq.mpr c31
          have c31b1 : ((rd t430 1) != (-1)) = false := bne_eq_false_iff_eq.mpr c31
          clear c31
          by_cases c32 : 2 < (t430.length : Int)
          ·rw [if_pos c32] at H
           have c32b0 : decide (2 < (t430.length : Int)) = true := decide_eq_true c32
           have c32b1 : decide (2 < t430.length) = true := decide_eq_true (by omega)
           clear c32
           by_cases c33 : 3 < (t430.length : Int)
           ·rw [if_pos c33] at H
            have c33b0 : decide (3 < (t430.length : Int)) = true := decide_eq_true c33
            have c33b1 : decide (3 < t430.length) = true := decide_eq_true (by omega)
            clear c33
            replace H := Option.bind_eq_some_iff.mp H
            obtain ⟨t446, A340, H⟩ := H
            replace H : (if t446 = 0 then (some true) else (if (rd t430 3) = (-1) then (if 0 < (t430.length : Int) then ((impl_Pair.f kj19 (rd t430 0) (rd t430 1)).bind fun t450 => (if t450 = 0 then (some true) else ((impl_Pair.f kj19 (rd t430 0) (rd t430 1)).bind fun t453 => ((impl_Pair.f kj19 (rd t430 2) (rd t430 3)).bind fun t456 => (some (t453 == t456)))))) else (none)) else (if 0 < (t430.length : Int) then ((impl_Pair.f kj19 (rd t430 0) (rd t430 1)).bind fun t459 => ((impl_Pair.f kj19 (rd t430 2) (rd t430 3)).bind fun t462 => (some (t459 == t462)))) else (none)))) = some r := H
            have A34 := Aside0.mk A340
            clear A340
            by_cases c35 : t446 = 0
            ·rw [if_pos c35] at H
             have c35b0 : (t446 == 0) = true := beq_iff_eq.mpr c35
             have c35b1 : (t446 != 0) = false := bne_eq_false_iff_eq.mpr c35
             clear c35
             obtain rfl := Option.some.inj H
             try go_wp2
             have n0_ := Aside0.mk (Kd.R_drew HO_8.out)
             have n1_ := Aside0.mk (below_drew1 HB.out)
             clear HO_8
             clear HB
             have HO_8 := n0_
             have HB := n1_
             clear n0_ n1_
             have p443 : 0 ≤ (1 : Int) := (by omega)
             have q443 : 1 < (t430.length : Int) := of_decide_eq_true (by first | (with_reducible assumption) | assumption)
             obtain ⟨ad443, e443, hx443_0⟩ := Kd.at_int (Kd.R_reads' HO_8.out).2.2 1 p443 q443
             cases e443
             (try simp only [show (1 : Int).toNat = 1 from rfl, Nat.reduceMul, Nat.reduceEqDiff, Go.Addr.add, ↓reduceIte] at hx443_0)
             have qi443 : (1 < t430.length) = True := eq_true (by omega)
             (try rw [show ((1 : Int)).toNat = 1 from rfl] at hx443_0)
             replace p443 := eq_true p443
             replace q443 := eq_true q443
             have p444 : 0 ≤ (2 : Int) := (by omega)
             have q444 : 2 < (t430.length : Int) := of_decide_eq_true (by first | (with_reducible assumption) | assumption)
             obtain ⟨ad444, e444, hx444_0⟩ := Kd.at_int (Kd.R_reads' HO_8.out).2.2 2 p444 q444
             obtain rfl : ad443 = ad444 := (by injection e444)
             (try simp only [show (2 : Int).toNat = 2 from rfl, Nat.reduceMul, Nat.reduceEqDiff, Go.Addr.add, ↓reduceIte] at hx444_0)
             have qi444 : (2 < t430.length) = True := eq_true (by omega)
             (try rw [show ((2 : Int)).toNat = 2 from rfl] at hx444_0)
             replace p444 := eq_true p444
             replace q444 := eq_true q444
             have p445 : 0 ≤ (3 : Int) := (by omega)
             have q445 : 3 < (t430.length : Int) := of_decide_eq_true (by first | (with_reducible assumption) | assumption)
             obtain ⟨ad445, e445, hx445_0⟩ := Kd.at_int (Kd.R_reads' HO_8.out).2.2 3 p445 q445
             obtain rfl : ad443 = ad445 := (by injection e445)
             (try simp only [show (3 : Int).toNat = 3 from rfl, Nat.reduceMul, Nat.reduceEqDiff, Go.Addr.add, ↓reduceIte] at hx445_0)
             have qi445 : (3 < t430.length) = True := eq_true (by omega)
             (try rw [show ((3 : Int)).toNat = 3 from rfl] at hx445_0)
             replace p445 := eq_true p445
             replace q445 := eq_true q445
             refine start_ (n := 31) (S := fun w' => w'.cell? ⟨ad443.block, ad443.off + 1, none⟩ = some (.int .i64 (rd t430 1)) ∧ w'.cell? ⟨ad443.block, ad443.off + 2, none⟩ = some (.int .i64 (rd t430 2)) ∧ w'.cell? ⟨ad443.block, ad443.off + 3, none⟩ = some (.int .i64 (rd t430 3))) (ds := []) (bA 31 0) (by kernel_rfl) rfl rfl ⟨hx443_0, hx444_0, hx445_0⟩ (fun hHeld => ?_); refine with_tabW laws_FnParted.tab12 laws_FnParted.bits12 (fun HT_ HW_ => ?_)
             generalize wc.drew = w36 at HO_8 HB hx443_0 hx444_0 hx445_0 hHeld ⊢
             refine pv (i := 0) (N := some 76) (bA 31 1) rfl rfl (any_of HT_.out (by kernel_rfl)) ?_
             refine pv (i := 1) (N := some 77) (bA 31 3) rfl rfl (any_of HT_.out (by kernel_rfl)) ?_
             refine take_ (i := 2) (N := some 78) (v := ?_) (a' := ?_) (bA 31 7) rfl rfl (take_ofW HT_.out HW_.out (by kernel_rfl)) (fun _ _ _ h => h) (Or.inl ⟨by rfl, ?_⟩) hHeld ?_ ?_
             rotate_left
             ·rintro w' ⟨s0, s1, s2⟩
              go_simp
              with_reducible rfl
             rotate_left
             ·simp only [sp_]
              rfl
             refine pv (i := 3) (N := some 79) (bA 31 15) rfl rfl (any_of HT_.out (by kernel_rfl)) ?_
             refine pv (i := 4) (N := some 80) (bA 31 31) rfl rfl (any_of HT_.out (by kernel_rfl)) ?_
             refine pv (i := 5) (N := some 81) (bA 31 63) rfl rfl (any_of HT_.out (by kernel_rfl)) ?_
             refine pv (i := 6) (N := some 82) (bA 31 127) rfl rfl (any_of HT_.out (by kernel_rfl)) ?_
             refine pv (i := 8) (N := some 84) (bA 31 383) rfl rfl (any_of HT_.out (by kernel_rfl)) ?_
             refine pv (i := 9) (N := some 85) (bA 31 895) rfl rfl (any_of HT_.out (by kernel_rfl)) ?_
             refine take_ (i := 7) (N := some 83) (v := ?_) (a' := ?_) (bA 31 1023) rfl rfl (take_ofW HT_.out HW_.out (by kernel_rfl)) (fun _ _ _ h => h) (Or.inl ⟨by rfl, ?_⟩) hHeld ?_ ?_
             rotate_left
             ·rintro w' ⟨s0, s1, s2⟩
              go_simp
              with_reducible rfl
             rotate_left
             ·simp only [sp_]
              rfl
             refine take_ (i := 10) (N := some 86) (v := ?_) (a' := ?_) (bA 31 2047) rfl rfl (take_ofW HT_.out HW_.out (by kernel_rfl)) (fun _ _ _ h => h) (Or.inl ⟨by rfl, ?_⟩) hHeld ?_ ?_
             rotate_left
             ·rintro w' ⟨s0, s1, s2⟩
              go_simp
              with_reducible rfl
             rotate_left
             ·simp only [sp_]
              rfl
             refine one_ (i := 11) (N := some 87) (bA 31 4095) rfl rfl (one_of HT_.out (by kernel_rfl)) (by decide) (fun K hK => ?_)
             refine goes_ Tryd.func23 (by kernel_rfl) rfl #[.int .i64 (rd t430 2), .int .i64 (rd t430 3)] (by rfl) rfl rfl (by (try simp only [List.map_toArray, List.map_cons, List.map_nil]); first | done | rfl | (simp only [List.length_drop, List.length_take]; rfl)) ?_
             with_reducible refine (impl_Pair.calls kj19 (rd t430 2) (rd t430 3) t446 _ A34.out (tab_at HT.out (by repeat (first | (with_reducible first | exact HB.out | apply below_alloc | apply pw_below_drewN | apply below_drew1 | (refine below_set ?_ (Aside0.out (by assumption)))) | exact HB.out)))).mono ?_
             rintro e w37 ⟨rfl, hb⟩
             have HS0_ := (hb.cell (World.block_lt_of_cell? _ _ (hHeld.1))).trans (hHeld.1)
             have HS1_ := (hb.cell (World.block_lt_of_cell? _ _ (hHeld.2.1))).trans (hHeld.2.1)
             have HS2_ := (hb.cell (World.block_lt_of_cell? _ _ (hHeld.2.2))).trans (hHeld.2.2)
             refine ⟨_, rfl, ?_⟩
             have n0_ := Aside0.mk (Kd.R_below (by (with_reducible repeat (first | apply Kd.R_alloc | apply Kd.R_drewN | apply Kd.R_drew)); exact HO_8.out) hb)
             have n1_ := Aside0.mk (below_step (by repeat (first | (with_reducible first | exact HB.out | apply below_alloc | apply pw_below_drewN | apply below_drew1) | exact HB.out)) hb)
             clear HO_8
             clear HB
             have HO_8 := n0_
             have HB := n1_
             clear n0_ n1_
             (try clear hb)
             (try clear hb2)
             (try clear hk)
             (try clear hi)
             refine hK.out _ _ ⟨HS0_, HS1_, HS2_⟩ (fun hHeld => ?_)
             clear hK K
             refine norm_ (a' := ?_) ?_ ?_
             rotate_left
             ·show Act.put _ (some 87) _ = _
              simp only [sp_]
              rfl
             refine pv (i := 12) (N := some 88) (bA 31 8191) rfl rfl (any_of HT_.out (by kernel_rfl)) ?_
             refine pv (i := 13) (N := some 89) (bA 31 16383) rfl rfl (any_of HT_.out (by kernel_rfl)) ?_
             refine pv (i := 14) (N := some 90) (bA 31 32767) rfl rfl (any_of HT_.out (by kernel_rfl)) ?_
             refine pu (i := 15) (N := some 91) (bA 31 65535) rfl rfl (any_of HT_.out (by kernel_rfl)) ?_
             refine pu (i := 16) (N := some 92) (bA 31 131071) rfl rfl (any_of HT_.out (by kernel_rfl)) ?_
             refine pu (i := 17) (N := some 93) (bA 31 262143) rfl rfl (any_of HT_.out (by kernel_rfl)) ?_
             refine pu (i := 18) (N := some 94) (bA 31 524287) rfl rfl (any_of HT_.out (by kernel_rfl)) ?_
             refine pu (i := 19) (N := some 95) (bA 31 1048575) rfl rfl (any_of HT_.out (by kernel_rfl)) ?_
             refine pu (i := 20) (N := some 96) (bA 31 2097151) rfl rfl (any_of HT_.out (by kernel_rfl)) ?_
             refine pu (i := 21) (N := some 97) (bA 31 4194303) rfl rfl (any_of HT_.out (by kernel_rfl)) ?_
             refine pu (i := 22) (N := some 98) (bA 31 8388607) rfl rfl (any_of HT_.out (by kernel_rfl)) ?_
             refine pu (i := 23) (N := some 99) (bA 31 16777215) rfl rfl (any_of HT_.out (by kernel_rfl)) ?_
             refine pu (i := 24) (N := some 100) (bA 31 33554431) rfl rfl (any_of HT_.out (by kernel_rfl)) ?_
             refine pu (i := 25) (N := some 101) (bA 31 67108863) rfl rfl (any_of HT_.out (by kernel_rfl)) ?_
             refine pu (i := 26) (N := some 102) (bA 31 134217727) rfl rfl (any_of HT_.out (by kernel_rfl)) ?_
             refine pu (i := 27) (N := some 103) (bA 31 268435455) rfl rfl (any_of HT_.out (by kernel_rfl)) ?_
             refine pu (i := 28) (N := some 104) (bA 31 536870911) rfl rfl (any_of HT_.out (by kernel_rfl)) ?_
             refine pv (i := 29) (N := some 105) (bA 31 1073741823) rfl rfl (any_of HT_.out (by kernel_rfl)) ?_
             refine pv (i := 30) (N := some 12) (bA 31 2147483647) rfl rfl (any_of HT_.out (by kernel_rfl)) ?_
             refine done_ (done_of HT_.out (by kernel_rfl)) ?_
             try go_wp2
             have n0_ := Aside0.mk (Kd.R_drew HO_8.out)
             have n1_ := Aside0.mk (below_drew1 HB.out)
             clear HO_8
             clear HB
             have HO_8 := n0_
             have HB := n1_
             clear n0_ n1_
             refine start_ (n := 19) (S := fun w' => True) (ds := []) (bA 19 0) (by kernel_rfl) rfl rfl trivial (fun hHeld => ?_); refine with_tabW laws_FnParted.tab13 laws_FnParted.bits13 (fun HT_ HW_ => ?_)
             generalize w37.drew = w38 at HO_8 HB hHeld ⊢
             refine pv (i := 0) (N := some 106) (bA 19 1) rfl rfl (any_of HT_.out (by kernel_rfl)) ?_
             refine pv (i := 1) (N := some 107) (bA 19 3) rfl rfl (any_of HT_.out (by kernel_rfl)) ?_
             refine pu (i := 2) (N := some 108) (bA 19 7) rfl rfl (any_of HT_.out (by kernel_rfl)) ?_
             refine pu (i := 3) (N := some 109) (bA 19 15) rfl rfl (any_of HT_.out (by kernel_rfl)) ?_
             refine pu (i := 4) (N := some 110) (bA 19 31) rfl rfl (any_of HT_.out (by kernel_rfl)) ?_
             refine pu (i := 5) (N := some 111) (bA 19 63) rfl rfl (any_of HT_.out (by kernel_rfl)) ?_
             refine pu (i := 6) (N := some 112) (bA 19 127) rfl rfl (any_of HT_.out (by kernel_rfl)) ?_
             refine pu (i := 7) (N := some 113) (bA 19 255) rfl rfl (any_of HT_.out (by kernel_rfl)) ?_
             refine pu (i := 8) (N := some 114) (bA 19 511) rfl rfl (any_of HT_.out (by kernel_rfl)) ?_
             refine pu (i := 9) (N := some 115) (bA 19 1023) rfl rfl (any_of HT_.out (by kernel_rfl)) ?_
             refine pu (i := 10) (N := some 116) (bA 19 2047) rfl rfl (any_of HT_.out (by kernel_rfl)) ?_
             refine pu (i := 11) (N := some 117) (bA 19 4095) rfl rfl (any_of HT_.out (by kernel_rfl)) ?_
             refine pu (i := 12) (N := some 118) (bA 19 8191) rfl rfl (any_of HT_.out (by kernel_rfl)) ?_
             refine pu (i := 13) (N := some 119) (bA 19 16383) rfl rfl (any_of HT_.out (by kernel_rfl)) ?_
             refine pu (i := 14) (N := some 120) (bA 19 32767) rfl rfl (any_of HT_.out (by kernel_rfl)) ?_
             refine pu (i := 15) (N := some 121) (bA 19 65535) rfl rfl (any_of HT_.out (by kernel_rfl)) ?_
             refine pu (i := 16) (N := some 122) (bA 19 131071) rfl rfl (any_of HT_.out (by kernel_rfl)) ?_
             refine pv (i := 17) (N := some 123) (bA 19 262143) rfl rfl (any_of HT_.out (by kernel_rfl)) ?_
             refine pv (i := 18) (N := some 2) (bA 19 524287) rfl rfl (any_of HT_.out (by kernel_rfl)) ?_
             refine done_ (done_of HT_.out (by kernel_rfl)) ?_
             try go_wp2
             go_ret
             exact ⟨by first | rfl | (simp [errW_none, errW_some] <;> rfl) | (simp [*, errW_none, errW_some] <;> rfl), by repeat (first | (with_reducible first | exact HB.out | apply below_alloc | apply pw_below_drewN | apply below_drew1) | exact HB.out)⟩
            ·rw [if_neg c35] at H
             have c35b0 : (t446 == 0) = false := beq_eq_false_iff_ne.mpr c35
             have c35b1 : (t446 != 0) = true := bne_iff_ne.mpr c35
             by_cases c39 : (rd t430 3) = (-1)
             ·rw [if_pos c39] at H
              have c39b0 : ((rd t430 3) == (-1)) = true := beq_iff_eq.mpr c39
              have c39b1 : ((rd t430 3) != (-1)) = false := bne_eq_false_iff_eq.mpr c39
              clear c39
              by_cases c40 : 0 < (t430.length : Int)
              ·rw [if_pos c40] at H
               have c40b0 : decide (0 < (t430.length : Int)) = true := decide_eq_true c40
               have c40b1 : decide (0 < t430.length) = true := decide_eq_true (by omega)
               clear c40
               replace H := Option.bind_eq_some_iff.mp H
               obtain ⟨t450, A410, H⟩ := H
               replace H : (if t450 = 0 then (some true) else ((impl_Pair.f kj19 (rd t430 0) (rd t430 1)).bind fun t453 => ((impl_Pair.f kj19 (rd t430 2) (rd t430 3)).bind fun t456 => (some (t453 == t456))))) = some r := H
               have A41 := Aside0.mk A410
               clear A410
               by_cases c42 : t450 = 0
               ·rw [if_pos c42] at H
                have c42b0 : (t450 == 0) = true := beq_iff_eq.mpr c42
                have c42b1 : (t450 != 0) = false := bne_eq_false_iff_eq.mpr c42
                clear c42
                obtain rfl := Option.some.inj H
                try go_wp2
                have n0_ := Aside0.mk (Kd.R_drew HO_8.out)
                have n1_ := Aside0.mk (below_drew1 HB.out)
                clear HO_8
                clear HB
                have HO_8 := n0_
                have HB := n1_
                clear n0_ n1_
                have p443 : 0 ≤ (1 : Int) := (by omega)
                have q443 : 1 < (t430.length : Int) := of_decide_eq_true (by first | (with_reducible assumption) | assumption)
                obtain ⟨ad443, e443, hx443_0⟩ := Kd.at_int (Kd.R_reads' HO_8.out).2.2 1 p443 q443
                cases e443
                (try simp only [show (1 : Int).toNat = 1 from rfl, Nat.reduceMul, Nat.reduceEqDiff, Go.Addr.add, ↓reduceIte] at hx443_0)
                have qi443 : (1 < t430.length) = True := eq_true (by omega)
                (try rw [show ((1 : Int)).toNat = 1 from rfl] at hx443_0)
                replace p443 := eq_true p443
                replace q443 := eq_true q443
                have p444 : 0 ≤ (2 : Int) := (by omega)
                have q444 : 2 < (t430.length : Int) := of_decide_eq_true (by first | (with_reducible assumption) | assumption)
                obtain ⟨ad444, e444, hx444_0⟩ := Kd.at_int (Kd.R_reads' HO_8.out).2.2 2 p444 q444
                obtain rfl : ad443 = ad444 := (by injection e444)
                (try simp only [show (2 : Int).toNat = 2 from rfl, Nat.reduceMul, Nat.reduceEqDiff, Go.Addr.add, ↓reduceIte] at hx444_0)
                have qi444 : (2 < t430.length) = True := eq_true (by omega)
                (try rw [show ((2 : Int)).toNat = 2 from rfl] at hx444_0)
                replace p444 := eq_true p444
                replace q444 := eq_true q444
                have p445 : 0 ≤ (3 : Int) := (by omega)
                have q445 : 3 < (t430.length : Int) := of_decide_eq_true (by first | (with_reducible assumption) | assumption)
                obtain ⟨ad445, e445, hx445_0⟩ := Kd.at_int (Kd.R_reads' HO_8.out).2.2 3 p445 q445
                obtain rfl : ad443 = ad445 := (by injection e445)
                (try simp only [show (3 : Int).toNat = 3 from rfl, Nat.reduceMul, Nat.reduceEqDiff, Go.Addr.add, ↓reduceIte] at hx445_0)
                have qi445 : (3 < t430.length) = True := eq_true (by omega)
                (try rw [show ((3 : Int)).toNat = 3 from rfl] at hx445_0)
                replace p445 := eq_true p445
                replace q445 := eq_true q445
                have p447 : 0 ≤ (3 : Int) := (by omega)
                have q447 : 3 < (t430.length : Int) := of_decide_eq_true (by first | (with_reducible assumption) | assumption)
                obtain ⟨ad447, e447, hx447_0⟩ := Kd.at_int (Kd.R_reads' HO_8.out).2.2 3 p447 q447
                obtain rfl : ad443 = ad447 := (by injection e447)
                (try simp only [show (3 : Int).toNat = 3 from rfl, Nat.reduceMul, Nat.reduceEqDiff, Go.Addr.add, ↓reduceIte] at hx447_0)
                have qi447 : (3 < t430.length) = True := eq_true (by omega)
                (try rw [show ((3 : Int)).toNat = 3 from rfl] at hx447_0)
                replace p447 := eq_true p447
                replace q447 := eq_true q447
                have p448 : 0 ≤ (0 : Int) := (by omega)
                have q448 : 0 < (t430.length : Int) := of_decide_eq_true (by first | (with_reducible assumption) | assumption)
                obtain ⟨ad448, e448, hx448_0⟩ := Kd.at_int (Kd.R_reads' HO_8.out).2.2 0 p448 q448
                obtain rfl : ad443 = ad448 := (by injection e448)
                have qi448 : (0 < t430.length) = True := eq_true (by omega)
                (try rw [show ((0 : Int)).toNat = 0 from rfl] at hx448_0)
                (try rw [Addr.add_zero'] at hx448_0)
                replace p448 := eq_true p448
                replace q448 := eq_true q448
                have p449 : 0 ≤ (1 : Int) := (by omega)
                have q449 : 1 < (t430.length : Int) := of_decide_eq_true (by first | (with_reducible assumption) | assumption)
                obtain ⟨ad449, e449, hx449_0⟩ := Kd.at_int (Kd.R_reads' HO_8.out).2.2 1 p449 q449
                obtain rfl : ad443 = ad449 := (by injection e449)
                (try simp only [show (1 : Int).toNat = 1 from rfl, Nat.reduceMul, Nat.reduceEqDiff, Go.Addr.add, ↓reduceIte] at hx449_0)
                have qi449 : (1 < t430.length) = True := eq_true (by omega)
                (try rw [show ((1 : Int)).toNat = 1 from rfl] at hx449_0)
                replace p449 := eq_true p449
                replace q449 := eq_true q449
                refine start_ (n := 31) (S := fun w' => w'.cell? ⟨ad443.block, ad443.off + 1, none⟩ = some (.int .i64 (rd t430 1)) ∧ w'.cell? ⟨ad443.block, ad443.off + 2, none⟩ = some (.int .i64 (rd t430 2)) ∧ w'.cell? ⟨ad443.block, ad443.off + 3, none⟩ = some (.int .i64 (rd t430 3)) ∧ w'.cell? ⟨ad443.block, ad443.off + 3, none⟩ = some (.int .i64 (rd t430 3)) ∧ w'.cell? ad443 = some (.int .i64 (rd t430 0)) ∧ w'.cell? ⟨ad443.block, ad443.off + 1, none⟩ = some (.int .i64 (rd t430 1))) (ds := []) (bA 31 0) (by kernel_rfl) rfl rfl ⟨hx443_0, hx444_0, hx445_0, hx447_0, hx448_0, hx449_0⟩ (fun hHeld => ?_); refine with_tabW laws_FnParted.tab12 laws_FnParted.bits12 (fun HT_ HW_ => ?_)
                generalize wc.drew = w43 at HO_8 HB hx443_0 hx444_0 hx445_0 hx447_0 hx448_0 hx449_0 hHeld ⊢
                refine pv (i := 0) (N := some 76) (bA 31 1) rfl rfl (any_of HT_.out (by kernel_rfl)) ?_
                refine pv (i := 1) (N := some 77) (bA 31 3) rfl rfl (any_of HT_.out (by kernel_rfl)) ?_
                refine take_ (i := 2) (N := some 78) (v := ?_) (a' := ?_) (bA 31 7) rfl rfl (take_ofW HT_.out HW_.out (by kernel_rfl)) (fun _ _ _ h => h) (Or.inl ⟨by rfl, ?_⟩) hHeld ?_ ?_
                rotate_left
                ·rintro w' ⟨s0, s1, s2, s3, s4, s5⟩
                 go_simp
                 with_reducible rfl
                rotate_left
                ·simp only [sp_]
                 rfl
                refine pv (i := 3) (N := some 79) (bA 31 15) rfl rfl (any_of HT_.out (by kernel_rfl)) ?_
                refine pv (i := 4) (N := some 80) (bA 31 31) rfl rfl (any_of HT_.out (by kernel_rfl)) ?_
                refine pv (i := 5) (N := some 81) (bA 31 63) rfl rfl (any_of HT_.out (by kernel_rfl)) ?_
                refine pv (i := 6) (N := some 82) (bA 31 127) rfl rfl (any_of HT_.out (by kernel_rfl)) ?_
                refine pv (i := 8) (N := some 84) (bA 31 383) rfl rfl (any_of HT_.out (by kernel_rfl)) ?_
                refine pv (i := 9) (N := some 85) (bA 31 895) rfl rfl (any_of HT_.out (by kernel_rfl)) ?_
                refine take_ (i := 7) (N := some 83) (v := ?_) (a' := ?_) (bA 31 1023) rfl rfl (take_ofW HT_.out HW_.out (by kernel_rfl)) (fun _ _ _ h => h) (Or.inl ⟨by rfl, ?_⟩) hHeld ?_ ?_
                rotate_left
                ·rintro w' ⟨s0, s1, s2, s3, s4, s5⟩
                 go_simp
                 with_reducible rfl
                rotate_left
                ·simp only [sp_]
                 rfl
                refine take_ (i := 10) (N := some 86) (v := ?_) (a' := ?_) (bA 31 2047) rfl rfl (take_ofW HT_.out HW_.out (by kernel_rfl)) (fun _ _ _ h => h) (Or.inl ⟨by rfl, ?_⟩) hHeld ?_ ?_
                rotate_left
                ·rintro w' ⟨s0, s1, s2, s3, s4, s5⟩
                 go_simp
                 with_reducible rfl
                rotate_left
                ·simp only [sp_]
                 rfl
                refine one_ (i := 11) (N := some 87) (bA 31 4095) rfl rfl (one_of HT_.out (by kernel_rfl)) (by decide) (fun K hK => ?_)
                refine goes_ Tryd.func23 (by kernel_rfl) rfl #[.int .i64 (rd t430 2), .int .i64 (rd t430 3)] (by rfl) rfl rfl (by (try simp only [List.map_toArray, List.map_cons, List.map_nil]); first | done | rfl | (simp only [List.length_drop, List.length_take]; rfl)) ?_
                with_reducible refine (impl_Pair.calls kj19 (rd t430 2) (rd t430 3) t446 _ A34.out (tab_at HT.out (by repeat (first | (with_reducible first | exact HB.out | apply below_alloc | apply pw_below_drewN | apply below_drew1 | (refine below_set ?_ (Aside0.out (by assumption)))) | exact HB.out)))).mono ?_
                rintro e w44 ⟨rfl, hb⟩
                have HS0_ := (hb.cell (World.block_lt_of_cell? _ _ (hHeld.1))).trans (hHeld.1)
                have HS1_ := (hb.cell (World.block_lt_of_cell? _ _ (hHeld.2.1))).trans (hHeld.2.1)
                have HS2_ := (hb.cell (World.block_lt_of_cell? _ _ (hHeld.2.2.1))).trans (hHeld.2.2.1)
                have HS3_ := (hb.cell (World.block_lt_of_cell? _ _ (hHeld.2.2.2.1))).trans (hHeld.2.2.2.1)
                have HS4_ := (hb.cell (World.block_lt_of_cell? _ _ (hHeld.2.2.2.2.1))).trans (hHeld.2.2.2.2.1)
                have HS5_ := (hb.cell (World.block_lt_of_cell? _ _ (hHeld.2.2.2.2.2))).trans (hHeld.2.2.2.2.2)
                refine ⟨_, rfl, ?_⟩
                have n0_ := Aside0.mk (Kd.R_below (by (with_reducible repeat (first | apply Kd.R_alloc | apply Kd.R_drewN | apply Kd.R_drew)); exact HO_8.out) hb)
                have n1_ := Aside0.mk (below_step (by repeat (first | (with_reducible first | exact HB.out | apply below_alloc | apply pw_below_drewN | apply below_drew1) | exact HB.out)) hb)
                clear HO_8
                clear HB
                have HO_8 := n0_
                have HB := n1_
                clear n0_ n1_
                (try clear hb)
                (try clear hb2)
                (try clear hk)
                (try clear hi)
                refine hK.out _ _ ⟨HS0_, HS1_, HS2_, HS3_, HS4_, HS5_⟩ (fun hHeld => ?_)
                clear hK K
                refine norm_ (a' := ?_) ?_ ?_
                rotate_left
                ·show Act.put _ (some 87) _ = _
                 simp only [sp_]
                 rfl
                refine pv (i := 12) (N := some 88) (bA 31 8191) rfl rfl (any_of HT_.out (by kernel_rfl)) ?_
                refine pv (i := 13) (N := some 89) (bA 31 16383) rfl rfl (any_of HT_.out (by kernel_rfl)) ?_
                refine pv (i := 14) (N := some 90) (bA 31 32767) rfl rfl (any_of HT_.out (by kernel_rfl)) ?_
                refine pv (i := 15) (N := some 91) (bA 31 65535) rfl rfl (any_of HT_.out (by kernel_rfl)) ?_
                refine pv (i := 16) (N := some 92) (bA 31 131071) rfl rfl (any_of HT_.out (by kernel_rfl)) ?_
                refine take_ (i := 17) (N := some 93) (v := ?_) (a' := ?_) (bA 31 262143) rfl rfl (take_ofW HT_.out HW_.out (by kernel_rfl)) (fun _ _ _ h => h) (Or.inl ⟨by rfl, ?_⟩) hHeld ?_ ?_
                rotate_left
                ·rintro w' ⟨s0, s1, s2, s3, s4, s5⟩
                 go_simp
                 with_reducible rfl
                rotate_left
                ·simp only [sp_]
                 rfl
                refine pv (i := 18) (N := some 94) (bA 31 524287) rfl rfl (any_of HT_.out (by kernel_rfl)) ?_
                refine pv (i := 19) (N := some 95) (bA 31 1048575) rfl rfl (any_of HT_.out (by kernel_rfl)) ?_
                refine pv (i := 20) (N := some 96) (bA 31 2097151) rfl rfl (any_of HT_.out (by kernel_rfl)) ?_
                refine pv (i := 21) (N := some 97) (bA 31 4194303) rfl rfl (any_of HT_.out (by kernel_rfl)) ?_
                refine pv (i := 23) (N := some 99) (bA 31 12582911) rfl rfl (any_of HT_.out (by kernel_rfl)) ?_
                refine pv (i := 24) (N := some 100) (bA 31 29360127) rfl rfl (any_of HT_.out (by kernel_rfl)) ?_
                refine take_ (i := 22) (N := some 98) (v := ?_) (a' := ?_) (bA 31 33554431) rfl rfl (take_ofW HT_.out HW_.out (by kernel_rfl)) (fun _ _ _ h => h) (Or.inl ⟨by rfl, ?_⟩) hHeld ?_ ?_
                rotate_left
                ·rintro w' ⟨s0, s1, s2, s3, s4, s5⟩
                 go_simp
                 with_reducible rfl
                rotate_left
                ·simp only [sp_]
                 rfl
                refine take_ (i := 25) (N := some 101) (v := ?_) (a' := ?_) (bA 31 67108863) rfl rfl (take_ofW HT_.out HW_.out (by kernel_rfl)) (fun _ _ _ h => h) (Or.inl ⟨by rfl, ?_⟩) hHeld ?_ ?_
                rotate_left
                ·rintro w' ⟨s0, s1, s2, s3, s4, s5⟩
                 go_simp
                 with_reducible rfl
                rotate_left
                ·simp only [sp_]
                 rfl
                refine one_ (i := 26) (N := some 102) (bA 31 134217727) rfl rfl (one_of HT_.out (by kernel_rfl)) (by decide) (fun K hK => ?_)
                refine goes_ Tryd.func23 (by kernel_rfl) rfl #[.int .i64 (rd t430 0), .int .i64 (rd t430 1)] (by rfl) rfl rfl (by (try simp only [List.map_toArray, List.map_cons, List.map_nil]); first | done | rfl | (simp only [List.length_drop, List.length_take]; rfl)) ?_
                with_reducible refine (impl_Pair.calls kj19 (rd t430 0) (rd t430 1) t450 _ A41.out (tab_at HT.out (by repeat (first | (with_reducible first | exact HB.out | apply below_alloc | apply pw_below_drewN | apply below_drew1 | (refine below_set ?_ (Aside0.out (by assumption)))) | exact HB.out)))).mono ?_
                rintro e w45 ⟨rfl, hb⟩
                have HS0_ := (hb.cell (World.block_lt_of_cell? _ _ (hHeld.1))).trans (hHeld.1)
                have HS1_ := (hb.cell (World.block_lt_of_cell? _ _ (hHeld.2.1))).trans (hHeld.2.1)
                have HS2_ := (hb.cell (World.block_lt_of_cell? _ _ (hHeld.2.2.1))).trans (hHeld.2.2.1)
                have HS3_ := (hb.cell (World.block_lt_of_cell? _ _ (hHeld.2.2.2.1))).trans (hHeld.2.2.2.1)
                have HS4_ := (hb.cell (World.block_lt_of_cell? _ _ (hHeld.2.2.2.2.1))).trans (hHeld.2.2.2.2.1)
                have HS5_ := (hb.cell (World.block_lt_of_cell? _ _ (hHeld.2.2.2.2.2))).trans (hHeld.2.2.2.2.2)
                refine ⟨_, rfl, ?_⟩
                have n0_ := Aside0.mk (Kd.R_below (by (with_reducible repeat (first | apply Kd.R_alloc | apply Kd.R_drewN | apply Kd.R_drew)); exact HO_8.out) hb)
                have n1_ := Aside0.mk (below_step (by repeat (first | (with_reducible first | exact HB.out | apply below_alloc | apply pw_below_drewN | apply below_drew1) | exact HB.out)) hb)
                clear HO_8
                clear HB
                have HO_8 := n0_
                have HB := n1_
                clear n0_ n1_
                (try clear hb)
                (try clear hb2)
                (try clear hk)
                (try clear hi)
                refine hK.out _ _ ⟨HS0_, HS1_, HS2_, HS3_, HS4_, HS5_⟩ (fun hHeld => ?_)
                clear hK K
                refine norm_ (a' := ?_) ?_ ?_
                rotate_left
                ·show Act.put _ (some 102) _ = _
                 simp only [sp_]
                 rfl
                refine pv (i := 27) (N := some 103) (bA 31 268435455) rfl rfl (any_of HT_.out (by kernel_rfl)) ?_
                refine pv (i := 28) (N := some 104) (bA 31 536870911) rfl rfl (any_of HT_.out (by kernel_rfl)) ?_
                refine pv (i := 29) (N := some 105) (bA 31 1073741823) rfl rfl (any_of HT_.out (by kernel_rfl)) ?_
                refine pv (i := 30) (N := some 12) (bA 31 2147483647) rfl rfl (any_of HT_.out (by kernel_rfl)) ?_
                refine done_ (done_of HT_.out (by kernel_rfl)) ?_
                try go_wp2
                have n0_ := Aside0.mk (Kd.R_drew HO_8.out)
                have n1_ := Aside0.mk (below_drew1 HB.out)
                clear HO_8
                clear HB
                have HO_8 := n0_
                have HB := n1_
                clear n0_ n1_
                refine start_ (n := 19) (S := fun w' => True) (ds := []) (bA 19 0) (by kernel_rfl) rfl rfl trivial (fun hHeld => ?_); refine with_tabW laws_FnParted.tab13 laws_FnParted.bits13 (fun HT_ HW_ => ?_)
                generalize w45.drew = w46 at HO_8 HB hHeld ⊢
                refine pv (i := 0) (N := some 106) (bA 19 1) rfl rfl (any_of HT_.out (by kernel_rfl)) ?_
                refine pv (i := 1) (N := some 107) (bA 19 3) rfl rfl (any_of HT_.out (by kernel_rfl)) ?_
                refine pu (i := 2) (N := some 108) (bA 19 7) rfl rfl (any_of HT_.out (by kernel_rfl)) ?_
                refine pu (i := 3) (N := some 109) (bA 19 15) rfl rfl (any_of HT_.out (by kernel_rfl)) ?_
                refine pu (i := 4) (N := some 110) (bA 19 31) rfl rfl (any_of HT_.out (by kernel_rfl)) ?_
                refine pu (i := 5) (N := some 111) (bA 19 63) rfl rfl (any_of HT_.out (by kernel_rfl)) ?_
                refine pu (i := 6) (N := some 112) (bA 19 127) rfl rfl (any_of HT_.out (by kernel_rfl)) ?_
                refine pu (i := 7) (N := some 113) (bA 19 255) rfl rfl (any_of HT_.out (by kernel_rfl)) ?_
                refine pu (i := 8) (N := some 114) (bA 19 511) rfl rfl (any_of HT_.out (by kernel_rfl)) ?_
                refine pu (i := 9) (N := some 115) (bA 19 1023) rfl rfl (any_of HT_.out (by kernel_rfl)) ?_
                refine pu (i := 10) (N := some 116) (bA 19 2047) rfl rfl (any_of HT_.out (by kernel_rfl)) ?_
                refine pu (i := 11) (N := some 117) (bA 19 4095) rfl rfl (any_of HT_.out (by kernel_rfl)) ?_
                refine pu (i := 12) (N := some 118) (bA 19 8191) rfl rfl (any_of HT_.out (by kernel_rfl)) ?_
                refine pu (i := 13) (N := some 119) (bA 19 16383) rfl rfl (any_of HT_.out (by kernel_rfl)) ?_
                refine pu (i := 14) (N := some 120) (bA 19 32767) rfl rfl (any_of HT_.out (by kernel_rfl)) ?_
                refine pu (i := 15) (N := some 121) (bA 19 65535) rfl rfl (any_of HT_.out (by kernel_rfl)) ?_
                refine pu (i := 16) (N := some 122) (bA 19 131071) rfl rfl (any_of HT_.out (by kernel_rfl)) ?_
                refine pv (i := 17) (N := some 123) (bA 19 262143) rfl rfl (any_of HT_.out (by kernel_rfl)) ?_
                refine pv (i := 18) (N := some 2) (bA 19 524287) rfl rfl (any_of HT_.out (by kernel_rfl)) ?_
                refine done_ (done_of HT_.out (by kernel_rfl)) ?_
                try go_wp2
                go_ret
                exact ⟨by first | rfl | (simp [errW_none, errW_some] <;> rfl) | (simp [*, errW_none, errW_some] <;> rfl), by repeat (first | (with_reducible first | exact HB.out | apply below_alloc | apply pw_below_drewN | apply below_drew1) | exact HB.out)⟩
               ·rw [if_neg c42] at H
                have c42b0 : (t450 == 0) = false := beq_eq_false_iff_ne.mpr c42
                have c42b1 : (t450 != 0) = true := bne_iff_ne.mpr c42
                replace H := Option.bind_eq_some_iff.mp H
                obtain ⟨t453, A470, H⟩ := H
                replace H : ((impl_Pair.f kj19 (rd t430 2) (rd t430 3)).bind fun t456 => (some (t453 == t456))) = some r := H
                have A47 := Aside0.mk A470
                clear A470
                replace H := Option.bind_eq_some_iff.mp H
                obtain ⟨t456, A480, H⟩ := H
                replace H : (some (t453 == t456)) = some r := H
                have A48 := Aside0.mk A480
                clear A480
                obtain rfl := Option.some.inj H
                try go_wp2
                have n0_ := Aside0.mk (Kd.R_drew HO_8.out)
                have n1_ := Aside0.mk (below_drew1 HB.out)
                clear HO_8
                clear HB
                have HO_8 := n0_
                have HB := n1_
                clear n0_ n1_
                have p443 : 0 ≤ (1 : Int) := (by omega)
                have q443 : 1 < (t430.length : Int) := of_decide_eq_true (by first | (with_reducible assumption) | assumption)
                obtain ⟨ad443, e443, hx443_0⟩ := Kd.at_int (Kd.R_reads' HO_8.out).2.2 1 p443 q443
                cases e443
                (try simp only [show (1 : Int).toNat = 1 from rfl, Nat.reduceMul, Nat.reduceEqDiff, Go.Addr.add, ↓reduceIte] at hx443_0)
                have qi443 : (1 < t430.length) = True := eq_true (by omega)
                (try rw [show ((1 : Int)).toNat = 1 from rfl] at hx443_0)
                replace p443 := eq_true p443
                replace q443 := eq_true q443
                have p444 : 0 ≤ (2 : Int) := (by omega)
                have q444 : 2 < (t430.length : Int) := of_decide_eq_true (by first | (with_reducible assumption) | assumption)
                obtain ⟨ad444, e444, hx444_0⟩ := Kd.at_int (Kd.R_reads' HO_8.out).2.2 2 p444 q444
                obtain rfl : ad443 = ad444 := (by injection e444)
                (try simp only [show (2 : Int).toNat = 2 from rfl, Nat.reduceMul, Nat.reduceEqDiff, Go.Addr.add, ↓reduceIte] at hx444_0)
                have qi444 : (2 < t430.length) = True := eq_true (by omega)
                (try rw [show ((2 : Int)).toNat = 2 from rfl] at hx444_0)
                replace p444 := eq_true p444
                replace q444 := eq_true q444
                have p445 : 0 ≤ (3 : Int) := (by omega)
                have q445 : 3 < (t430.length : Int) := of_decide_eq_true (by first | (with_reducible assumption) | assumption)
                obtain ⟨ad445, e445, hx445_0⟩ := Kd.at_int (Kd.R_reads' HO_8.out).2.2 3 p445 q445
                obtain rfl : ad443 = ad445 := (by injection e445)
                (try simp only [show (3 : Int).toNat = 3 from rfl, Nat.reduceMul, Nat.reduceEqDiff, Go.Addr.add, ↓reduceIte] at hx445_0)
                have qi445 : (3 < t430.length) = True := eq_true (by omega)
                (try rw [show ((3 : Int)).toNat = 3 from rfl] at hx445_0)
                replace p445 := eq_true p445
                replace q445 := eq_true q445
                have p447 : 0 ≤ (3 : Int) := (by omega)
                have q447 : 3 < (t430.length : Int) := of_decide_eq_true (by first | (with_reducible assumption) | assumption)
                obtain ⟨ad447, e447, hx447_0⟩ := Kd.at_int (Kd.R_reads' HO_8.out).2.2 3 p447 q447
                obtain rfl : ad443 = ad447 := (by injection e447)
                (try simp only [show (3 : Int).toNat = 3 from rfl, Nat.reduceMul, Nat.reduceEqDiff, Go.Addr.add, ↓reduceIte] at hx447_0)
                have qi447 : (3 < t430.length) = True := eq_true (by omega)
                (try rw [show ((3 : Int)).toNat = 3 from rfl] at hx447_0)
                replace p447 := eq_true p447
                replace q447 := eq_true q447
                have p448 : 0 ≤ (0 : Int) := (by omega)
                have q448 : 0 < (t430.length : Int) := of_decide_eq_true (by first | (with_reducible assumption) | assumption)
                obtain ⟨ad448, e448, hx448_0⟩ := Kd.at_int (Kd.R_reads' HO_8.out).2.2 0 p448 q448
                obtain rfl : ad443 = ad448 := (by injection e448)
                have qi448 : (0 < t430.length) = True := eq_true (by omega)
                (try rw [show ((0 : Int)).toNat = 0 from rfl] at hx448_0)
                (try rw [Addr.add_zero'] at hx448_0)
                replace p448 := eq_true p448
                replace q448 := eq_true q448
                have p449 : 0 ≤ (1 : Int) := (by omega)
                have q449 : 1 < (t430.length : Int) := of_decide_eq_true (by first | (with_reducible assumption) | assumption)
                obtain ⟨ad449, e449, hx449_0⟩ := Kd.at_int (Kd.R_reads' HO_8.out).2.2 1 p449 q449
                obtain rfl : ad443 = ad449 := (by injection e449)
                (try simp only [show (1 : Int).toNat = 1 from rfl, Nat.reduceMul, Nat.reduceEqDiff, Go.Addr.add, ↓reduceIte] at hx449_0)
                have qi449 : (1 < t430.length) = True := eq_true (by omega)
                (try rw [show ((1 : Int)).toNat = 1 from rfl] at hx449_0)
                replace p449 := eq_true p449
                replace q449 := eq_true q449
                refine start_ (n := 31) (S := fun w' => w'.cell? ⟨ad443.block, ad443.off + 1, none⟩ = some (.int .i64 (rd t430 1)) ∧ w'.cell? ⟨ad443.block, ad443.off + 2, none⟩ = some (.int .i64 (rd t430 2)) ∧ w'.cell? ⟨ad443.block, ad443.off + 3, none⟩ = some (.int .i64 (rd t430 3)) ∧ w'.cell? ⟨ad443.block, ad443.off + 3, none⟩ = some (.int .i64 (rd t430 3)) ∧ w'.cell? ad443 = some (.int .i64 (rd t430 0)) ∧ w'.cell? ⟨ad443.block, ad443.off + 1, none⟩ = some (.int .i64 (rd t430 1))) (ds := []) (bA 31 0) (by kernel_rfl) rfl rfl ⟨hx443_0, hx444_0, hx445_0, hx447_0, hx448_0, hx449_0⟩ (fun hHeld => ?_); refine with_tabW laws_FnParted.tab12 laws_FnParted.bits12 (fun HT_ HW_ => ?_)
                generalize wc.drew = w49 at HO_8 HB hx443_0 hx444_0 hx445_0 hx447_0 hx448_0 hx449_0 hHeld ⊢
                refine pv (i := 0) (N := some 76) (bA 31 1) rfl rfl (any_of HT_.out (by kernel_rfl)) ?_
                refine pv (i := 1) (N := some 77) (bA 31 3) rfl rfl (any_of HT_.out (by kernel_rfl)) ?_
                refine take_ (i := 2) (N := some 78) (v := ?_) (a' := ?_) (bA 31 7) rfl rfl (take_ofW HT_.out HW_.out (by kernel_rfl)) (fun _ _ _ h => h) (Or.inl ⟨by rfl, ?_⟩) hHeld ?_ ?_
                rotate_left
                ·rintro w' ⟨s0, s1, s2, s3, s4, s5⟩
                 go_simp
                 with_reducible rfl
                rotate_left
                ·simp only [sp_]
                 rfl
                refine pv (i := 3) (N := some 79) (bA 31 15) rfl rfl (any_of HT_.out (by kernel_rfl)) ?_
                refine pv (i := 4) (N := some 80) (bA 31 31) rfl rfl (any_of HT_.out (by kernel_rfl)) ?_
                refine pv (i := 5) (N := some 81) (bA 31 63) rfl rfl (any_of HT_.out (by kernel_rfl)) ?_
                refine pv (i := 6) (N := some 82) (bA 31 127) rfl rfl (any_of HT_.out (by kernel_rfl)) ?_
                refine pv (i := 8) (N := some 84) (bA 31 383) rfl rfl (any_of HT_.out (by kernel_rfl)) ?_
                refine pv (i := 9) (N := some 85) (bA 31 895) rfl rfl (any_of HT_.out (by kernel_rfl)) ?_
                refine take_ (i := 7) (N := some 83) (v := ?_) (a' := ?_) (bA 31 1023) rfl rfl (take_ofW HT_.out HW_.out (by kernel_rfl)) (fun _ _ _ h => h) (Or.inl ⟨by rfl, ?_⟩) hHeld ?_ ?_
                rotate_left
                ·rintro w' ⟨s0, s1, s2, s3, s4, s5⟩
                 go_simp
                 with_reducible rfl
                rotate_left
                ·simp only [sp_]
                 rfl
                refine take_ (i := 10) (N := some 86) (v := ?_) (a' := ?_) (bA 31 2047) rfl rfl (take_ofW HT_.out HW_.out (by kernel_rfl)) (fun _ _ _ h => h) (Or.inl ⟨by rfl, ?_⟩) hHeld ?_ ?_
                rotate_left
                ·rintro w' ⟨s0, s1, s2, s3, s4, s5⟩
                 go_simp
                 with_reducible rfl
                rotate_left
                ·simp only [sp_]
                 rfl
                refine one_ (i := 11) (N := some 87) (bA 31 4095) rfl rfl (one_of HT_.out (by kernel_rfl)) (by decide) (fun K hK => ?_)
                refine goes_ Tryd.func23 (by kernel_rfl) rfl #[.int .i64 (rd t430 2), .int .i64 (rd t430 3)] (by rfl) rfl rfl (by (try simp only [List.map_toArray, List.map_cons, List.map_nil]); first | done | rfl | (simp only [List.length_drop, List.length_take]; rfl)) ?_
                with_reducible refine (impl_Pair.calls kj19 (rd t430 2) (rd t430 3) t446 _ A34.out (tab_at HT.out (by repeat (first | (with_reducible first | exact HB.out | apply below_alloc | apply pw_below_drewN | apply below_drew1 | (refine below_set ?_ (Aside0.out (by assumption)))) | exact HB.out)))).mono ?_
                rintro e w50 ⟨rfl, hb⟩
                have HS0_ := (hb.cell (World.block_lt_of_cell? _ _ (hHeld.1))).trans (hHeld.1)
                have HS1_ := (hb.cell (World.block_lt_of_cell? _ _ (hHeld.2.1))).trans (hHeld.2.1)
                have HS2_ := (hb.cell (World.block_lt_of_cell? _ _ (hHeld.2.2.1))).trans (hHeld.2.2.1)
                have HS3_ := (hb.cell (World.block_lt_of_cell? _ _ (hHeld.2.2.2.1))).trans (hHeld.2.2.2.1)
                have HS4_ := (hb.cell (World.block_lt_of_cell? _ _ (hHeld.2.2.2.2.1))).trans (hHeld.2.2.2.2.1)
                have HS5_ := (hb.cell (World.block_lt_of_cell? _ _ (hHeld.2.2.2.2.2))).trans (hHeld.2.2.2.2.2)
                refine ⟨_, rfl, ?_⟩
                have n0_ := Aside0.mk (Kd.R_below (by (with_reducible repeat (first | apply Kd.R_alloc | apply Kd.R_drewN | apply Kd.R_drew)); exact HO_8.out) hb)
                have n1_ := Aside0.mk (below_step (by repeat (first | (with_reducible first | exact HB.out | apply below_alloc | apply pw_below_drewN | apply below_drew1) | exact HB.out)) hb)
                clear HO_8
                clear HB
                have HO_8 := n0_
                have HB := n1_
                clear n0_ n1_
                (try clear hb)
                (try clear hb2)
                (try clear hk)
                (try clear hi)
                refine hK.out _ _ ⟨HS0_, HS1_, HS2_, HS3_, HS4_, HS5_⟩ (fun hHeld => ?_)
                clear hK K
                refine norm_ (a' := ?_) ?_ ?_
                rotate_left
                ·show Act.put _ (some 87) _ = _
                 simp only [sp_]
                 rfl
                refine pv (i := 12) (N := some 88) (bA 31 8191) rfl rfl (any_of HT_.out (by kernel_rfl)) ?_
                refine pv (i := 13) (N := some 89) (bA 31 16383) rfl rfl (any_of HT_.out (by kernel_rfl)) ?_
                refine pv (i := 14) (N := some 90) (bA 31 32767) rfl rfl (any_of HT_.out (by kernel_rfl)) ?_
                refine pv (i := 15) (N := some 91) (bA 31 65535) rfl rfl (any_of HT_.out (by kernel_rfl)) ?_
                refine pv (i := 16) (N := some 92) (bA 31 131071) rfl rfl (any_of HT_.out (by kernel_rfl)) ?_
                refine take_ (i := 17) (N := some 93) (v := ?_) (a' := ?_) (bA 31 262143) rfl rfl (take_ofW HT_.out HW_.out (by kernel_rfl)) (fun _ _ _ h => h) (Or.inl ⟨by rfl, ?_⟩) hHeld ?_ ?_
                rotate_left
                ·rintro w' ⟨s0, s1, s2, s3, s4, s5⟩
                 go_simp
                 with_reducible rfl
                rotate_left
                ·simp only [sp_]
                 rfl
                refine pv (i := 18) (N := some 94) (bA 31 524287) rfl rfl (any_of HT_.out (by kernel_rfl)) ?_
                refine pv (i := 19) (N := some 95) (bA 31 1048575) rfl rfl (any_of HT_.out (by kernel_rfl)) ?_
                refine pv (i := 20) (N := some 96) (bA 31 2097151) rfl rfl (any_of HT_.out (by kernel_rfl)) ?_
                refine pv (i := 21) (N := some 97) (bA 31 4194303) rfl rfl (any_of HT_.out (by kernel_rfl)) ?_
                refine pv (i := 23) (N := some 99) (bA 31 12582911) rfl rfl (any_of HT_.out (by kernel_rfl)) ?_
                refine pv (i := 24) (N := some 100) (bA 31 29360127) rfl rfl (any_of HT_.out (by kernel_rfl)) ?_
                refine take_ (i := 22) (N := some 98) (v := ?_) (a' := ?_) (bA 31 33554431) rfl rfl (take_ofW HT_.out HW_.out (by kernel_rfl)) (fun _ _ _ h => h) (Or.inl ⟨by rfl, ?_⟩) hHeld ?_ ?_
                rotate_left
                ·rintro w' ⟨s0, s1, s2, s3, s4, s5⟩
                 go_simp
                 with_reducible rfl
                rotate_left
                ·simp only [sp_]
                 rfl
                refine take_ (i := 25) (N := some 101) (v := ?_) (a' := ?_) (bA 31 67108863) rfl rfl (take_ofW HT_.out HW_.out (by kernel_rfl)) (fun _ _ _ h => h) (Or.inl ⟨by rfl, ?_⟩) hHeld ?_ ?_
                rotate_left
                ·rintro w' ⟨s0, s1, s2, s3, s4, s5⟩
                 go_simp
                 with_reducible rfl
                rotate_left
                ·simp only [sp_]
                 rfl
                refine one_ (i := 26) (N := some 102) (bA 31 134217727) rfl rfl (one_of HT_.out (by kernel_rfl)) (by decide) (fun K hK => ?_)
                refine goes_ Tryd.func23 (by kernel_rfl) rfl #[.int .i64 (rd t430 0), .int .i64 (rd t430 1)] (by rfl) rfl rfl (by (try simp only [List.map_toArray, List.map_cons, List.map_nil]); first | done | rfl | (simp only [List.length_drop, List.length_take]; rfl)) ?_
                with_reducible refine (impl_Pair.calls kj19 (rd t430 0) (rd t430 1) t450 _ A41.out (tab_at HT.out (by repeat (first | (with_reducible first | exact HB.out | apply below_alloc | apply pw_below_drewN | apply below_drew1 | (refine below_set ?_ (Aside0.out (by assumption)))) | exact HB.out)))).mono ?_
                rintro e w51 ⟨rfl, hb⟩
                have HS0_ := (hb.cell (World.block_lt_of_cell? _ _ (hHeld.1))).trans (hHeld.1)
                have HS1_ := (hb.cell (World.block_lt_of_cell? _ _ (hHeld.2.1))).trans (hHeld.2.1)
                have HS2_ := (hb.cell (World.block_lt_of_cell? _ _ (hHeld.2.2.1))).trans (hHeld.2.2.1)
                have HS3_ := (hb.cell (World.block_lt_of_cell? _ _ (hHeld.2.2.2.1))).trans (hHeld.2.2.2.1)
                have HS4_ := (hb.cell (World.block_lt_of_cell? _ _ (hHeld.2.2.2.2.1))).trans (hHeld.2.2.2.2.1)
                have HS5_ := (hb.cell (World.block_lt_of_cell? _ _ (hHeld.2.2.2.2.2))).trans (hHeld.2.2.2.2.2)
                refine ⟨_, rfl, ?_⟩
                have n0_ := Aside0.mk (Kd.R_below (by (with_reducible repeat (first | apply Kd.R_alloc | apply Kd.R_drewN | apply Kd.R_drew)); exact HO_8.out) hb)
                have n1_ := Aside0.mk (below_step (by repeat (first | (with_reducible first | exact HB.out | apply below_alloc | apply pw_below_drewN | apply below_drew1) | exact HB.out)) hb)
                clear HO_8
                clear HB
                have HO_8 := n0_
                have HB := n1_
                clear n0_ n1_
                (try clear hb)
                (try clear hb2)
                (try clear hk)
                (try clear hi)
                refine hK.out _ _ ⟨HS0_, HS1_, HS2_, HS3_, HS4_, HS5_⟩ (fun hHeld => ?_)
                clear hK K
                refine norm_ (a' := ?_) ?_ ?_
                rotate_left
                ·show Act.put _ (some 102) _ = _
                 simp only [sp_]
                 rfl
                refine pv (i := 27) (N := some 103) (bA 31 268435455) rfl rfl (any_of HT_.out (by kernel_rfl)) ?_
                refine pv (i := 28) (N := some 104) (bA 31 536870911) rfl rfl (any_of HT_.out (by kernel_rfl)) ?_
                refine pv (i := 29) (N := some 105) (bA 31 1073741823) rfl rfl (any_of HT_.out (by kernel_rfl)) ?_
                refine pv (i := 30) (N := some 12) (bA 31 2147483647) rfl rfl (any_of HT_.out (by kernel_rfl)) ?_
                refine done_ (done_of HT_.out (by kernel_rfl)) ?_
                try go_wp2
                have n0_ := Aside0.mk (Kd.R_drew HO_8.out)
                have n1_ := Aside0.mk (below_drew1 HB.out)
                clear HO_8
                clear HB
                have HO_8 := n0_
                have HB := n1_
                clear n0_ n1_
                have p451 : 0 ≤ (0 : Int) := (by omega)
                have q451 : 0 < (t430.length : Int) := of_decide_eq_true (by first | (with_reducible assumption) | assumption)
                obtain ⟨ad451, e451, hx451_0⟩ := Kd.at_int (Kd.R_reads' HO_8.out).2.2 0 p451 q451
                obtain rfl : ad443 = ad451 := (by injection e451)
                have qi451 : (0 < t430.length) = True := eq_true (by omega)
                (try rw [show ((0 : Int)).toNat = 0 from rfl] at hx451_0)
                (try rw [Addr.add_zero'] at hx451_0)
                replace p451 := eq_true p451
                replace q451 := eq_true q451
                have p452 : 0 ≤ (1 : Int) := (by omega)
                have q452 : 1 < (t430.length : Int) := of_decide_eq_true (by first | (with_reducible assumption) | assumption)
                obtain ⟨ad452, e452, hx452_0⟩ := Kd.at_int (Kd.R_reads' HO_8.out).2.2 1 p452 q452
                obtain rfl : ad443 = ad452 := (by injection e452)
                (try simp only [show (1 : Int).toNat = 1 from rfl, Nat.reduceMul, Nat.reduceEqDiff, Go.Addr.add, ↓reduceIte] at hx452_0)
                have qi452 : (1 < t430.length) = True := eq_true (by omega)
                (try rw [show ((1 : Int)).toNat = 1 from rfl] at hx452_0)
                replace p452 := eq_true p452
                replace q452 := eq_true q452
                have p454 : 0 ≤ (2 : Int) := (by omega)
                have q454 : 2 < (t430.length : Int) := of_decide_eq_true (by first | (with_reducible assumption) | assumption)
                obtain ⟨ad454, e454, hx454_0⟩ := Kd.at_int (Kd.R_reads' HO_8.out).2.2 2 p454 q454
                obtain rfl : ad443 = ad454 := (by injection e454)
                (try simp only [show (2 : Int).toNat = 2 from rfl, Nat.reduceMul, Nat.reduceEqDiff, Go.Addr.add, ↓reduceIte] at hx454_0)
                have qi454 : (2 < t430.length) = True := eq_true (by omega)
                (try rw [show ((2 : Int)).toNat = 2 from rfl] at hx454_0)
                replace p454 := eq_true p454
                replace q454 := eq_true q454
                have p455 : 0 ≤ (3 : Int) := (by omega)
                have q455 : 3 < (t430.length : Int) := of_decide_eq_true (by first | (with_reducible assumption) | assumption)
                obtain ⟨ad455, e455, hx455_0⟩ := Kd.at_int (Kd.R_reads' HO_8.out).2.2 3 p455 q455
                obtain rfl : ad443 = ad455 := (by injection e455)
                (try simp only [show (3 : Int).toNat = 3 from rfl, Nat.reduceMul, Nat.reduceEqDiff, Go.Addr.add, ↓reduceIte] at hx455_0)
                have qi455 : (3 < t430.length) = True := eq_true (by omega)
                (try rw [show ((3 : Int)).toNat = 3 from rfl] at hx455_0)
                replace p455 := eq_true p455
                replace q455 := eq_true q455
                refine start_ (n := 19) (S := fun w' => w'.cell? ad443 = some (.int .i64 (rd t430 0)) ∧ w'.cell? ⟨ad443.block, ad443.off + 1, none⟩ = some (.int .i64 (rd t430 1)) ∧ w'.cell? ⟨ad443.block, ad443.off + 2, none⟩ = some (.int .i64 (rd t430 2)) ∧ w'.cell? ⟨ad443.block, ad443.off + 3, none⟩ = some (.int .i64 (rd t430 3))) (ds := []) (bA 19 0) (by kernel_rfl) rfl rfl ⟨hx451_0, hx452_0, hx454_0, hx455_0⟩ (fun hHeld => ?_); refine with_tabW laws_FnParted.tab13 laws_FnParted.bits13 (fun HT_ HW_ => ?_)
                generalize w51.drew = w52 at HO_8 HB hx451_0 hx452_0 hx454_0 hx455_0 hHeld ⊢
                refine pv (i := 0) (N := some 106) (bA 19 1) rfl rfl (any_of HT_.out (by kernel_rfl)) ?_
                refine pv (i := 1) (N := some 107) (bA 19 3) rfl rfl (any_of HT_.out (by kernel_rfl)) ?_
                refine pv (i := 2) (N := some 108) (bA 19 7) rfl rfl (any_of HT_.out (by kernel_rfl)) ?_
                refine pv (i := 3) (N := some 109) (bA 19 15) rfl rfl (any_of HT_.out (by kernel_rfl)) ?_
                refine pv (i := 5) (N := some 111) (bA 19 47) rfl rfl (any_of HT_.out (by kernel_rfl)) ?_
                refine pv (i := 6) (N := some 112) (bA 19 111) rfl rfl (any_of HT_.out (by kernel_rfl)) ?_
                refine pv (i := 9) (N := some 115) (bA 19 623) rfl rfl (any_of HT_.out (by kernel_rfl)) ?_
                refine pv (i := 10) (N := some 116) (bA 19 1647) rfl rfl (any_of HT_.out (by kernel_rfl)) ?_
                refine pv (i := 12) (N := some 118) (bA 19 5743) rfl rfl (any_of HT_.out (by kernel_rfl)) ?_
                refine pv (i := 13) (N := some 119) (bA 19 13935) rfl rfl (any_of HT_.out (by kernel_rfl)) ?_
                refine take_ (i := 4) (N := some 110) (v := ?_) (a' := ?_) (bA 19 13951) rfl rfl (take_ofW HT_.out HW_.out (by kernel_rfl)) (fun _ _ _ h => h) (Or.inl ⟨by rfl, ?_⟩) hHeld ?_ ?_
                rotate_left
                ·rintro w' ⟨s0, s1, s2, s3⟩
                 go_simp
                 with_reducible rfl
                rotate_left
                ·simp only [sp_]
                 rfl
                refine take_ (i := 7) (N := some 113) (v := ?_) (a' := ?_) (bA 19 14079) rfl rfl (take_ofW HT_.out HW_.out (by kernel_rfl)) (fun _ _ _ h => h) (Or.inl ⟨by rfl, ?_⟩) hHeld ?_ ?_
                rotate_left
                ·rintro w' ⟨s0, s1, s2, s3⟩
                 go_simp
                 with_reducible rfl
                rotate_left
                ·simp only [sp_]
                 rfl
                refine take_ (i := 11) (N := some 117) (v := ?_) (a' := ?_) (bA 19 16127) rfl rfl (take_ofW HT_.out HW_.out (by kernel_rfl)) (fun _ _ _ h => h) (Or.inl ⟨by rfl, ?_⟩) hHeld ?_ ?_
                rotate_left
                ·rintro w' ⟨s0, s1, s2, s3⟩
                 go_simp
                 with_reducible rfl
                rotate_left
                ·simp only [sp_]
                 rfl
                refine take_ (i := 14) (N := some 120) (v := ?_) (a' := ?_) (bA 19 32511) rfl rfl (take_ofW HT_.out HW_.out (by kernel_rfl)) (fun _ _ _ h => h) (Or.inl ⟨by rfl, ?_⟩) hHeld ?_ ?_
                rotate_left
                ·rintro w' ⟨s0, s1, s2, s3⟩
                 go_simp
                 with_reducible rfl
                rotate_left
                ·simp only [sp_]
                 rfl
                refine one_ (i := 8) (N := some 114) (bA 19 32767) rfl rfl (one_of HT_.out (by kernel_rfl)) (by decide) (fun K hK => ?_)
                refine goes_ Tryd.func23 (by kernel_rfl) rfl #[.int .i64 (rd t430 0), .int .i64 (rd t430 1)] (by rfl) rfl rfl (by (try simp only [List.map_toArray, List.map_cons, List.map_nil]); first | done | rfl | (simp only [List.length_drop, List.length_take]; rfl)) ?_
                with_reducible refine (impl_Pair.calls kj19 (rd t430 0) (rd t430 1) t453 _ A47.out (tab_at HT.out (by repeat (first | (with_reducible first | exact HB.out | apply below_alloc | apply pw_below_drewN | apply below_drew1 | (refine below_set ?_ (Aside0.out (by assumption)))) | exact HB.out)))).mono ?_
                rintro e w53 ⟨rfl, hb⟩
                have HS0_ := (hb.cell (World.block_lt_of_cell? _ _ (hHeld.1))).trans (hHeld.1)
                have HS1_ := (hb.cell (World.block_lt_of_cell? _ _ (hHeld.2.1))).trans (hHeld.2.1)
                have HS2_ := (hb.cell (World.block_lt_of_cell? _ _ (hHeld.2.2.1))).trans (hHeld.2.2.1)
                have HS3_ := (hb.cell (World.block_lt_of_cell? _ _ (hHeld.2.2.2))).trans (hHeld.2.2.2)
                refine ⟨_, rfl, ?_⟩
                have n0_ := Aside0.mk (Kd.R_below (by (with_reducible repeat (first | apply Kd.R_alloc | apply Kd.R_drewN | apply Kd.R_drew)); exact HO_8.out) hb)
                have n1_ := Aside0.mk (below_step (by repeat (first | (with_reducible first | exact HB.out | apply below_alloc | apply pw_below_drewN | apply below_drew1) | exact HB.out)) hb)
                clear HO_8
                clear HB
                have HO_8 := n0_
                have HB := n1_
                clear n0_ n1_
                (try clear hb)
                (try clear hb2)
                (try clear hk)
                (try clear hi)
                refine hK.out _ _ ⟨HS0_, HS1_, HS2_, HS3_⟩ (fun hHeld => ?_)
                clear hK K
                refine norm_ (a' := ?_) ?_ ?_
                rotate_left
                ·show Act.put _ (some 114) _ = _
                 simp only [sp_]
                 rfl
                refine one_ (i := 15) (N := some 121) (bA 19 65535) rfl rfl (one_of HT_.out (by kernel_rfl)) (by decide) (fun K hK => ?_)
                refine goes_ Tryd.func23 (by kernel_rfl) rfl #[.int .i64 (rd t430 2), .int .i64 (rd t430 3)] (by rfl) rfl rfl (by (try simp only [List.map_toArray, List.map_cons, List.map_nil]); first | done | rfl | (simp only [List.length_drop, List.length_take]; rfl)) ?_
                with_reducible refine (impl_Pair.calls kj19 (rd t430 2) (rd t430 3) t456 _ A48.out (tab_at HT.out (by repeat (first | (with_reducible first | exact HB.out | apply below_alloc | apply pw_below_drewN | apply below_drew1 | (refine below_set ?_ (Aside0.out (by assumption)))) | exact HB.out)))).mono ?_
                rintro e w54 ⟨rfl, hb⟩
                have HS0_ := (hb.cell (World.block_lt_of_cell? _ _ (hHeld.1))).trans (hHeld.1)
                have HS1_ := (hb.cell (World.block_lt_of_cell? _ _ (hHeld.2.1))).trans (hHeld.2.1)
                have HS2_ := (hb.cell (World.block_lt_of_cell? _ _ (hHeld.2.2.1))).trans (hHeld.2.2.1)
                have HS3_ := (hb.cell (World.block_lt_of_cell? _ _ (hHeld.2.2.2))).trans (hHeld.2.2.2)
                refine ⟨_, rfl, ?_⟩
                have n0_ := Aside0.mk (Kd.R_below (by (with_reducible repeat (first | apply Kd.R_alloc | apply Kd.R_drewN | apply Kd.R_drew)); exact HO_8.out) hb)
                have n1_ := Aside0.mk (below_step (by repeat (first | (with_reducible first | exact HB.out | apply below_alloc | apply pw_below_drewN | apply below_drew1) | exact HB.out)) hb)
                clear HO_8
                clear HB
                have HO_8 := n0_
                have HB := n1_
                clear n0_ n1_
                (try clear hb)
                (try clear hb2)
                (try clear hk)
                (try clear hi)
                refine hK.out _ _ ⟨HS0_, HS1_, HS2_, HS3_⟩ (fun hHeld => ?_)
                clear hK K
                refine norm_ (a' := ?_) ?_ ?_
                rotate_left
                ·show Act.put _ (some 121) _ = _
                 simp only [sp_]
                 rfl
                refine pv (i := 16) (N := some 122) (bA 19 131071) rfl rfl (any_of HT_.out (by kernel_rfl)) ?_
                refine pv (i := 17) (N := some 123) (bA 19 262143) rfl rfl (any_of HT_.out (by kernel_rfl)) ?_
                refine pv (i := 18) (N := some 2) (bA 19 524287) rfl rfl (any_of HT_.out (by kernel_rfl)) ?_
                refine done_ (done_of HT_.out (by kernel_rfl)) ?_
                try go_wp2
                go_ret
                exact ⟨by first | rfl | (simp [errW_none, errW_some] <;> rfl) | (simp [*, errW_none, errW_some] <;> rfl), by repeat (first | (with_reducible first | exact HB.out | apply below_alloc | apply pw_below_drewN | apply below_drew1) | exact HB.out)⟩
              ·rw [if_neg c40] at H
               exact absurd H (by simp)
             ·rw [if_neg c39] at H
              have c39b0 : ((rd t430 3) == (-1)) = false := beq_eq_false_iff_ne.mpr c39
              have c39b1 : ((rd t430 3) != (-1)) = true := bne_iff_ne.mpr c39
              by_cases c55 : 0 < (t430.length : Int)
              ·rw [if_pos c55] at H
               have c55b0 : decide (0 < (t430.length : Int)) = true := decide_eq_true c55
               have c55b1 : decide (0 < t430.length) = true := decide_eq_true (by omega)
               clear c55
               replace H := Option.bind_eq_some_iff.mp H
               obtain ⟨t459, A560, H⟩ := H
               replace H : ((impl_Pair.f kj19 (rd t430 2) (rd t430 3)).bind fun t462 => (some (t459 == t462))) = some r := H
               have A56 := Aside0.mk A560
               clear A560
               replace H := Option.bind_eq_some_iff.mp H
               obtain ⟨t462, A570, H⟩ := H
               replace H : (some (t459 == t462)) = some r := H
               have A57 := Aside0.mk A570
               clear A570
               obtain rfl := Option.some.inj H
               try go_wp2
               have n0_ := Aside0.mk (Kd.R_drew HO_8.out)
               have n1_ := Aside0.mk (below_drew1 HB.out)
               clear HO_8
               clear HB
               have HO_8 := n0_
               have HB := n1_
               clear n0_ n1_
               have p443 : 0 ≤ (1 : Int) := (by omega)
               have q443 : 1 < (t430.length : Int) := of_decide_eq_true (by first | (with_reducible assumption) | assumption)
               obtain ⟨ad443, e443, hx443_0⟩ := Kd.at_int (Kd.R_reads' HO_8.out).2.2 1 p443 q443
               cases e443
               (try simp only [show (1 : Int).toNat = 1 from rfl, Nat.reduceMul, Nat.reduceEqDiff, Go.Addr.add, ↓reduceIte] at hx443_0)
               have qi443 : (1 < t430.length) = True := eq_true (by omega)
               (try rw [show ((1 : Int)).toNat = 1 from rfl] at hx443_0)
               replace p443 := eq_true p443
               replace q443 := eq_true q443
               have p444 : 0 ≤ (2 : Int) := (by omega)
               have q444 : 2 < (t430.length : Int) := of_decide_eq_true (by first | (with_reducible assumption) | assumption)
               obtain ⟨ad444, e444, hx444_0⟩ := Kd.at_int (Kd.R_reads' HO_8.out).2.2 2 p444 q444
               obtain rfl : ad443 = ad444 := (by injection e444)
               (try simp only [show (2 : Int).toNat = 2 from rfl, Nat.reduceMul, Nat.reduceEqDiff, Go.Addr.add, ↓reduceIte] at hx444_0)
               have qi444 : (2 < t430.length) = True := eq_true (by omega)
               (try rw [show ((2 : Int)).toNat = 2 from rfl] at hx444_0)
               replace p444 := eq_true p444
               replace q444 := eq_true q444
               have p445 : 0 ≤ (3 : Int) := (by omega)
               have q445 : 3 < (t430.length : Int) := of_decide_eq_true (by first | (with_reducible assumption) | assumption)
               obtain ⟨ad445, e445, hx445_0⟩ := Kd.at_int (Kd.R_reads' HO_8.out).2.2 3 p445 q445
               obtain rfl : ad443 = ad445 := (by injection e445)
               (try simp only [show (3 : Int).toNat = 3 from rfl, Nat.reduceMul, Nat.reduceEqDiff, Go.Addr.add, ↓reduceIte] at hx445_0)
               have qi445 : (3 < t430.length) = True := eq_true (by omega)
               (try rw [show ((3 : Int)).toNat = 3 from rfl] at hx445_0)
               replace p445 := eq_true p445
               replace q445 := eq_true q445
               have p447 : 0 ≤ (3 : Int) := (by omega)
               have q447 : 3 < (t430.length : Int) := of_decide_eq_true (by first | (with_reducible assumption) | assumption)
               obtain ⟨ad447, e447, hx447_0⟩ := Kd.at_int (Kd.R_reads' HO_8.out).2.2 3 p447 q447
               obtain rfl : ad443 = ad447 := (by injection e447)
               (try simp only [show (3 : Int).toNat = 3 from rfl, Nat.reduceMul, Nat.reduceEqDiff, Go.Addr.add, ↓reduceIte] at hx447_0)
               have qi447 : (3 < t430.length) = True := eq_true (by omega)
               (try rw [show ((3 : Int)).toNat = 3 from rfl] at hx447_0)
               replace p447 := eq_true p447
               replace q447 := eq_true q447
               refine start_ (n := 31) (S := fun w' => w'.cell? ⟨ad443.block, ad443.off + 1, none⟩ = some (.int .i64 (rd t430 1)) ∧ w'.cell? ⟨ad443.block, ad443.off + 2, none⟩ = some (.int .i64 (rd t430 2)) ∧ w'.cell? ⟨ad443.block, ad443.off + 3, none⟩ = some (.int .i64 (rd t430 3)) ∧ w'.cell? ⟨ad443.block, ad443.off + 3, none⟩ = some (.int .i64 (rd t430 3))) (ds := []) (bA 31 0) (by kernel_rfl) rfl rfl ⟨hx443_0, hx444_0, hx445_0, hx447_0⟩ (fun hHeld => ?_); refine with_tabW laws_FnParted.tab12 laws_FnParted.bits12 (fun HT_ HW_ => ?_)
               generalize wc.drew = w58 at HO_8 HB hx443_0 hx444_0 hx445_0 hx447_0 hHeld ⊢
               refine pv (i := 0) (N := some 76) (bA 31 1) rfl rfl (any_of HT_.out (by kernel_rfl)) ?_
               refine pv (i := 1) (N := some 77) (bA 31 3) rfl rfl (any_of HT_.out (by kernel_rfl)) ?_
               refine take_ (i := 2) (N := some 78) (v := ?_) (a' := ?_) (bA 31 7) rfl rfl (take_ofW HT_.out HW_.out (by kernel_rfl)) (fun _ _ _ h => h) (Or.inl ⟨by rfl, ?_⟩) hHeld ?_ ?_
               rotate_left
               ·rintro w' ⟨s0, s1, s2, s3⟩
                go_simp
                with_reducible rfl
               rotate_left
               ·simp only [sp_]
                rfl
               refine pv (i := 3) (N := some 79) (bA 31 15) rfl rfl (any_of HT_.out (by kernel_rfl)) ?_
               refine pv (i := 4) (N := some 80) (bA 31 31) rfl rfl (any_of HT_.out (by kernel_rfl)) ?_
               refine pv (i := 5) (N := some 81) (bA 31 63) rfl rfl (any_of HT_.out (by kernel_rfl)) ?_
               refine pv (i := 6) (N := some 82) (bA 31 127) rfl rfl (any_of HT_.out (by kernel_rfl)) ?_
               refine pv (i := 8) (N := some 84) (bA 31 383) rfl rfl (any_of HT_.out (by kernel_rfl)) ?_
               refine pv (i := 9) (N := some 85) (bA 31 895) rfl rfl (any_of HT_.out (by kernel_rfl)) ?_
               refine take_ (i := 7) (N := some 83) (v := ?_) (a' := ?_) (bA 31 1023) rfl rfl (take_ofW HT_.out HW_.out (by kernel_rfl)) (fun _ _ _ h => h) (Or.inl ⟨by rfl, ?_⟩) hHeld ?_ ?_
               rotate_left
               ·rintro w' ⟨s0, s1, s2, s3⟩
                go_simp
                with_reducible rfl
               rotate_left
               ·simp only [sp_]
                rfl
               refine take_ (i := 10) (N := some 86) (v := ?_) (a' := ?_) (bA 31 2047) rfl rfl (take_ofW HT_.out HW_.out (by kernel_rfl)) (fun _ _ _ h => h) (Or.inl ⟨by rfl, ?_⟩) hHeld ?_ ?_
               rotate_left
               ·rintro w' ⟨s0, s1, s2, s3⟩
                go_simp
                with_reducible rfl
               rotate_left
               ·simp only [sp_]
                rfl
               refine one_ (i := 11) (N := some 87) (bA 31 4095) rfl rfl (one_of HT_.out (by kernel_rfl)) (by decide) (fun K hK => ?_)
               refine goes_ Tryd.func23 (by kernel_rfl) rfl #[.int .i64 (rd t430 2), .int .i64 (rd t430 3)] (by rfl) rfl rfl (by (try simp only [List.map_toArray, List.map_cons, List.map_nil]); first | done | rfl | (simp only [List.length_drop, List.length_take]; rfl)) ?_
               with_reducible refine (impl_Pair.calls kj19 (rd t430 2) (rd t430 3) t446 _ A34.out (tab_at HT.out (by repeat (first | (with_reducible first | exact HB.out | apply below_alloc | apply pw_below_drewN | apply below_drew1 | (refine below_set ?_ (Aside0.out (by assumption)))) | exact HB.out)))).mono ?_
               rintro e w59 ⟨rfl, hb⟩
               have HS0_ := (hb.cell (World.block_lt_of_cell? _ _ (hHeld.1))).trans (hHeld.1)
               have HS1_ := (hb.cell (World.block_lt_of_cell? _ _ (hHeld.2.1))).trans (hHeld.2.1)
               have HS2_ := (hb.cell (World.block_lt_of_cell? _ _ (hHeld.2.2.1))).trans (hHeld.2.2.1)
               have HS3_ := (hb.cell (World.block_lt_of_cell? _ _ (hHeld.2.2.2))).trans (hHeld.2.2.2)
               refine ⟨_, rfl, ?_⟩
               have n0_ := Aside0.mk (Kd.R_below (by (with_reducible repeat (first | apply Kd.R_alloc | apply Kd.R_drewN | apply Kd.R_drew)); exact HO_8.out) hb)
               have n1_ := Aside0.mk (below_step (by repeat (first | (with_reducible first | exact HB.out | apply below_alloc | apply pw_below_drewN | apply below_drew1) | exact HB.out)) hb)
               clear HO_8
               clear HB
               have HO_8 := n0_
               have HB := n1_
               clear n0_ n1_
               (try clear hb)
               (try clear hb2)
               (try clear hk)
               (try clear hi)
               refine hK.out _ _ ⟨HS0_, HS1_, HS2_, HS3_⟩ (fun hHeld => ?_)
               clear hK K
               refine norm_ (a' := ?_) ?_ ?_
               rotate_left
               ·show Act.put _ (some 87) _ = _
                simp only [sp_]
                rfl
               refine pv (i := 12) (N := some 88) (bA 31 8191) rfl rfl (any_of HT_.out (by kernel_rfl)) ?_
               refine pv (i := 13) (N := some 89) (bA 31 16383) rfl rfl (any_of HT_.out (by kernel_rfl)) ?_
               refine pv (i := 14) (N := some 90) (bA 31 32767) rfl rfl (any_of HT_.out (by kernel_rfl)) ?_
               refine pv (i := 15) (N := some 91) (bA 31 65535) rfl rfl (any_of HT_.out (by kernel_rfl)) ?_
               refine pv (i := 16) (N := some 92) (bA 31 131071) rfl rfl (any_of HT_.out (by kernel_rfl)) ?_
               refine take_ (i := 17) (N := some 93) (v := ?_) (a' := ?_) (bA 31 262143) rfl rfl (take_ofW HT_.out HW_.out (by kernel_rfl)) (fun _ _ _ h => h) (Or.inl ⟨by rfl, ?_⟩) hHeld ?_ ?_
               rotate_left
               ·rintro w' ⟨s0, s1, s2, s3⟩
                go_simp
                with_reducible rfl
               rotate_left
               ·simp only [sp_]
                rfl
               refine pv (i := 18) (N := some 94) (bA 31 524287) rfl rfl (any_of HT_.out (by kernel_rfl)) ?_
               refine pv (i := 19) (N := some 95) (bA 31 1048575) rfl rfl (any_of HT_.out (by kernel_rfl)) ?_
               refine pu (i := 20) (N := some 96) (bA 31 2097151) rfl rfl (any_of HT_.out (by kernel_rfl)) ?_
               refine pu (i := 21) (N := some 97) (bA 31 4194303) rfl rfl (any_of HT_.out (by kernel_rfl)) ?_
               refine pu (i := 22) (N := some 98) (bA 31 8388607) rfl rfl (any_of HT_.out (by kernel_rfl)) ?_
               refine pu (i := 23) (N := some 99) (bA 31 16777215) rfl rfl (any_of HT_.out (by kernel_rfl)) ?_
               refine pu (i := 24) (N := some 100) (bA 31 33554431) rfl rfl (any_of HT_.out (by kernel_rfl)) ?_
               refine pu (i := 25) (N := some 101) (bA 31 67108863) rfl rfl (any_of HT_.out (by kernel_rfl)) ?_
               refine pu (i := 26) (N := some 102) (bA 31 134217727) rfl rfl (any_of HT_.out (by kernel_rfl)) ?_
               refine pu (i := 27) (N := some 103) (bA 31 268435455) rfl rfl (any_of HT_.out (by kernel_rfl)) ?_
               refine pv (i := 28) (N := some 104) (bA 31 536870911) rfl rfl (any_of HT_.out (by kernel_rfl)) ?_
               refine pv (i := 29) (N := some 105) (bA 31 1073741823) rfl rfl (any_of HT_.out (by kernel_rfl)) ?_
               refine pv (i := 30) (N := some 12) (bA 31 2147483647) rfl rfl (any_of HT_.out (by kernel_rfl)) ?_
               refine done_ (done_of HT_.out (by kernel_rfl)) ?_
               try go_wp2
               have n0_ := Aside0.mk (Kd.R_drew HO_8.out)
               have n1_ := Aside0.mk (below_drew1 HB.out)
               clear HO_8
               clear HB
               have HO_8 := n0_
               have HB := n1_
               clear n0_ n1_
               have p457 : 0 ≤ (0 : Int) := (by omega)
               have q457 : 0 < (t430.length : Int) := of_decide_eq_true (by first | (with_reducible assumption) | assumption)
               obtain ⟨ad457, e457, hx457_0⟩ := Kd.at_int (Kd.R_reads' HO_8.out).2.2 0 p457 q457
               obtain rfl : ad443 = ad457 := (by injection e457)
               have qi457 : (0 < t430.length) = True := eq_true (by omega)
               (try rw [show ((0 : Int)).toNat = 0 from rfl] at hx457_0)
               (try rw [Addr.add_zero'] at hx457_0)
               replace p457 := eq_true p457
               replace q457 := eq_true q457
               have p458 : 0 ≤ (1 : Int) := (by omega)
               have q458 : 1 < (t430.length : Int) := of_decide_eq_true (by first | (with_reducible assumption) | assumption)
               obtain ⟨ad458, e458, hx458_0⟩ := Kd.at_int (Kd.R_reads' HO_8.out).2.2 1 p458 q458
               obtain rfl : ad443 = ad458 := (by injection e458)
               (try simp only [show (1 : Int).toNat = 1 from rfl, Nat.reduceMul, Nat.reduceEqDiff, Go.Addr.add, ↓reduceIte] at hx458_0)
               have qi458 : (1 < t430.length) = True := eq_true (by omega)
               (try rw [show ((1 : Int)).toNat = 1 from rfl] at hx458_0)
               replace p458 := eq_true p458
               replace q458 := eq_true q458
               have p460 : 0 ≤ (2 : Int) := (by omega)
               have q460 : 2 < (t430.length : Int) := of_decide_eq_true (by first | (with_reducible assumption) | assumption)
               obtain ⟨ad460, e460, hx460_0⟩ := Kd.at_int (Kd.R_reads' HO_8.out).2.2 2 p460 q460
               obtain rfl : ad443 = ad460 := (by injection e460)
               (try simp only [show (2 : Int).toNat = 2 from rfl, Nat.reduceMul, Nat.reduceEqDiff, Go.Addr.add, ↓reduceIte] at hx460_0)
               have qi460 : (2 < t430.length) = True := eq_true (by omega)
               (try rw [show ((2 : Int)).toNat = 2 from rfl] at hx460_0)
               replace p460 := eq_true p460
               replace q460 := eq_true q460
               have p461 : 0 ≤ (3 : Int) := (by omega)
               have q461 : 3 < (t430.length : Int) := of_decide_eq_true (by first | (with_reducible assumption) | assumption)
               obtain ⟨ad461, e461, hx461_0⟩ := Kd.at_int (Kd.R_reads' HO_8.out).2.2 3 p461 q461
               obtain rfl : ad443 = ad461 := (by injection e461)
               (try simp only [show (3 : Int).toNat = 3 from rfl, Nat.reduceMul, Nat.reduceEqDiff, Go.Addr.add, ↓reduceIte] at hx461_0)
               have qi461 : (3 < t430.length) = True := eq_true (by omega)
               (try rw [show ((3 : Int)).toNat = 3 from rfl] at hx461_0)
               replace p461 := eq_true p461
               replace q461 := eq_true q461
               refine start_ (n := 19) (S := fun w' => w'.cell? ad443 = some (.int .i64 (rd t430 0)) ∧ w'.cell? ⟨ad443.block, ad443.off + 1, none⟩ = some (.int .i64 (rd t430 1)) ∧ w'.cell? ⟨ad443.block, ad443.off + 2, none⟩ = some (.int .i64 (rd t430 2)) ∧ w'.cell? ⟨ad443.block, ad443.off + 3, none⟩ = some (.int .i64 (rd t430 3))) (ds := []) (bA 19 0) (by kernel_rfl) rfl rfl ⟨hx457_0, hx458_0, hx460_0, hx461_0⟩ (fun hHeld => ?_); refine with_tabW laws_FnParted.tab13 laws_FnParted.bits13 (fun HT_ HW_ => ?_)
               generalize w59.drew = w60 at HO_8 HB hx457_0 hx458_0 hx460_0 hx461_0 hHeld ⊢
               refine pv (i := 0) (N := some 106) (bA 19 1) rfl rfl (any_of HT_.out (by kernel_rfl)) ?_
               refine pv (i := 1) (N := some 107) (bA 19 3) rfl rfl (any_of HT_.out (by kernel_rfl)) ?_
               refine pv (i := 2) (N := some 108) (bA 19 7) rfl rfl (any_of HT_.out (by kernel_rfl)) ?_
               refine pv (i := 3) (N := some 109) (bA 19 15) rfl rfl (any_of HT_.out (by kernel_rfl)) ?_
               refine pv (i := 5) (N := some 111) (bA 19 47) rfl rfl (any_of HT_.out (by kernel_rfl)) ?_
               refine pv (i := 6) (N := some 112) (bA 19 111) rfl rfl (any_of HT_.out (by kernel_rfl)) ?_
               refine pv (i := 9) (N := some 115) (bA 19 623) rfl rfl (any_of HT_.out (by kernel_rfl)) ?_
               refine pv (i := 10) (N := some 116) (bA 19 1647) rfl rfl (any_of HT_.out (by kernel_rfl)) ?_
               refine pv (i := 12) (N := some 118) (bA 19 5743) rfl rfl (any_of HT_.out (by kernel_rfl)) ?_
               refine pv (i := 13) (N := some 119) (bA 19 13935) rfl rfl (any_of HT_.out (by kernel_rfl)) ?_
               refine take_ (i := 4) (N := some 110) (v := ?_) (a' := ?_) (bA 19 13951) rfl rfl (take_ofW HT_.out HW_.out (by kernel_rfl)) (fun _ _ _ h => h) (Or.inl ⟨by rfl, ?_⟩) hHeld ?_ ?_
               rotate_left
               ·rintro w' ⟨s0, s1, s2, s3⟩
                go_simp
                with_reducible rfl
               rotate_left
               ·simp only [sp_]
                rfl
               refine take_ (i := 7) (N := some 113) (v := ?_) (a' := ?_) (bA 19 14079) rfl rfl (take_ofW HT_.out HW_.out (by kernel_rfl)) (fun _ _ _ h => h) (Or.inl ⟨by rfl, ?_⟩) hHeld ?_ ?_
               rotate_left
               ·rintro w' ⟨s0, s1, s2, s3⟩
                go_simp
                with_reducible rfl
               rotate_left
               ·simp only [sp_]
                rfl
               refine take_ (i := 11) (N := some 117) (v := ?_) (a' := ?_) (bA 19 16127) rfl rfl (take_ofW HT_.out HW_.out (by kernel_rfl)) (fun _ _ _ h => h) (Or.inl ⟨by rfl, ?_⟩) hHeld ?_ ?_
               rotate_left
               ·rintro w' ⟨s0, s1, s2, s3⟩
                go_simp
                with_reducible rfl
               rotate_left
               ·simp only [sp_]
                rfl
               refine take_ (i := 14) (N := some 120) (v := ?_) (a' := ?_) (bA 19 32511) rfl rfl (take_ofW HT_.out HW_.out (by kernel_rfl)) (fun _ _ _ h => h) (Or.inl ⟨by rfl, ?_⟩) hHeld ?_ ?_
               rotate_left
               ·rintro w' ⟨s0, s1, s2, s3⟩
                go_simp
                with_reducible rfl
               rotate_left
               ·simp only [sp_]
                rfl
               refine one_ (i := 8) (N := some 114) (bA 19 32767) rfl rfl (one_of HT_.out (by kernel_rfl)) (by decide) (fun K hK => ?_)
               refine goes_ Tryd.func23 (by kernel_rfl) rfl #[.int .i64 (rd t430 0), .int .i64 (rd t430 1)] (by rfl) rfl rfl (by (try simp only [List.map_toArray, List.map_cons, List.map_nil]); first | done | rfl | (simp only [List.length_drop, List.length_take]; rfl)) ?_
               with_reducible refine (impl_Pair.calls kj19 (rd t430 0) (rd t430 1) t459 _ A56.out (tab_at HT.out (by repeat (first | (with_reducible first | exact HB.out | apply below_alloc | apply pw_below_drewN | apply below_drew1 | (refine below_set ?_ (Aside0.out (by assumption)))) | exact HB.out)))).mono ?_
               rintro e w61 ⟨rfl, hb⟩
               have HS0_ := (hb.cell (World.block_lt_of_cell? _ _ (hHeld.1))).trans (hHeld.1)
               have HS1_ := (hb.cell (World.block_lt_of_cell? _ _ (hHeld.2.1))).trans (hHeld.2.1)
               have HS2_ := (hb.cell (World.block_lt_of_cell? _ _ (hHeld.2.2.1))).trans (hHeld.2.2.1)
               have HS3_ := (hb.cell (World.block_lt_of_cell? _ _ (hHeld.2.2.2))).trans (hHeld.2.2.2)
               refine ⟨_, rfl, ?_⟩
               have n0_ := Aside0.mk (Kd.R_below (by (with_reducible repeat (first | apply Kd.R_alloc | apply Kd.R_drewN | apply Kd.R_drew)); exact HO_8.out) hb)
               have n1_ := Aside0.mk (below_step (by repeat (first | (with_reducible first | exact HB.out | apply below_alloc | apply pw_below_drewN | apply below_drew1) | exact HB.out)) hb)
               clear HO_8
               clear HB
               have HO_8 := n0_
               have HB := n1_
               clear n0_ n1_
               (try clear hb)
               (try clear hb2)
               (try clear hk)
               (try clear hi)
               refine hK.out _ _ ⟨HS0_, HS1_, HS2_, HS3_⟩ (fun hHeld => ?_)
               clear hK K
               refine norm_ (a' := ?_) ?_ ?_
               rotate_left
               ·show Act.put _ (some 114) _ = _
                simp only [sp_]
                rfl
               refine one_ (i := 15) (N := some 121) (bA 19 65535) rfl rfl (one_of HT_.out (by kernel_rfl)) (by decide) (fun K hK => ?_)
               refine goes_ Tryd.func23 (by kernel_rfl) rfl #[.int .i64 (rd t430 2), .int .i64 (rd t430 3)] (by rfl) rfl rfl (by (try simp only [List.map_toArray, List.map_cons, List.map_nil]); first | done | rfl | (simp only [List.length_drop, List.length_take]; rfl)) ?_
               with_reducible refine (impl_Pair.calls kj19 (rd t430 2) (rd t430 3) t462 _ A57.out (tab_at HT.out (by repeat (first | (with_reducible first | exact HB.out | apply below_alloc | apply pw_below_drewN | apply below_drew1 | (refine below_set ?_ (Aside0.out (by assumption)))) | exact HB.out)))).mono ?_
               rintro e w62 ⟨rfl, hb⟩
               have HS0_ := (hb.cell (World.block_lt_of_cell? _ _ (hHeld.1))).trans (hHeld.1)
               have HS1_ := (hb.cell (World.block_lt_of_cell? _ _ (hHeld.2.1))).trans (hHeld.2.1)
               have HS2_ := (hb.cell (World.block_lt_of_cell? _ _ (hHeld.2.2.1))).trans (hHeld.2.2.1)
               have HS3_ := (hb.cell (World.block_lt_of_cell? _ _ (hHeld.2.2.2))).trans (hHeld.2.2.2)
               refine ⟨_, rfl, ?_⟩
               have n0_ := Aside0.mk (Kd.R_below (by (with_reducible repeat (first | apply Kd.R_alloc | apply Kd.R_drewN | apply Kd.R_drew)); exact HO_8.out) hb)
               have n1_ := Aside0.mk (below_step (by repeat (first | (with_reducible first | exact HB.out | apply below_alloc | apply pw_below_drewN | apply below_drew1) | exact HB.out)) hb)
               clear HO_8
               clear HB
               have HO_8 := n0_
               have HB := n1_
               clear n0_ n1_
               (try clear hb)
               (try clear hb2)
               (try clear hk)
               (try clear hi)
               refine hK.out _ _ ⟨HS0_, HS1_, HS2_, HS3_⟩ (fun hHeld => ?_)
               clear hK K
               refine norm_ (a' := ?_) ?_ ?_
               rotate_left
               ·show Act.put _ (some 121) _ = _
                simp only [sp_]
                rfl
               refine pv (i := 16) (N := some 122) (bA 19 131071) rfl rfl (any_of HT_.out (by kernel_rfl)) ?_
               refine pv (i := 17) (N := some 123) (bA 19 262143) rfl rfl (any_of HT_.out (by kernel_rfl)) ?_
               refine pv (i := 18) (N := some 2) (bA 19 524287) rfl rfl (any_of HT_.out (by kernel_rfl)) ?_
               refine done_ (done_of HT_.out (by kernel_rfl)) ?_
               try go_wp2
               go_ret
               exact ⟨by first | rfl | (simp [errW_none, errW_some] <;> rfl) | (simp [*, errW_none, errW_some] <;> rfl), by repeat (first | (with_reducible first | exact HB.out | apply below_alloc | apply pw_below_drewN | apply below_drew1) | exact HB.out)⟩
              ·rw [if_neg c55] at H
               exact absurd H (by simp)
           ·rw [if_neg c33] at H
            exact absurd H (by simp)
          ·rw [if_neg c32] at H
           exact absurd H (by simp)
         ·rw [if_neg c31] at H
          have c31b0 : ((rd t430 1) == (-1)) = false := beq_eq_false_iff_ne.mpr c31
          have c31b1 : ((rd t430 1) != (-1)) = true := bne_iff_ne.mpr c31
          by_cases c63 : 3 < (t430.length : Int)
          ·rw [if_pos c63] at H
           have c63b0 : decide (3 < (t430.length : Int)) = true := decide_eq_true c63
           have c63b1 : decide (3 < t430.length) = true := decide_eq_true (by omega)
           clear c63
           by_cases c64 : (rd t430 3) = (-1)
           ·rw [if_pos c64] at H
            have c64b0 : ((rd t430 3) == (-1)) = true := beq_iff_eq.mpr c64
            have c64b1 : ((rd t430 3) != (-1)) = false := bne_eq_false_iff_eq.mpr c64
            clear c64
            by_cases c65 : 0 < (t430.length : Int)
            ·rw [if_pos c65] at H
             have c65b0 : decide (0 < (t430.length : Int)) = true := decide_eq_true c65
             have c65b1 : decide (0 < t430.length) = true := decide_eq_true (by omega)
             clear c65
             replace H := Option.bind_eq_some_iff.mp H
             obtain ⟨t466, A660, H⟩ := H
             replace H : (if t466 = 0 then (some true) else ((impl_Pair.f kj19 (rd t430 0) (rd t430 1)).bind fun t469 => (if 2 < (t430.length : Int) then ((impl_Pair.f kj19 (rd t430 2) (rd t430 3)).bind fun t472 => (some (t469 == t472))) else (none)))) = some r := H
             have A66 := Aside0.mk A660
             clear A660
             by_cases c67 : t466 = 0
             ·rw [if_pos c67] at H
              have c67b0 : (t466 == 0) = true := beq_iff_eq.mpr c67
              have c67b1 : (t466 != 0) = false := bne_eq_false_iff_eq.mpr c67
              clear c67
              obtain rfl := Option.some.inj H
              try go_wp2
              have n0_ := Aside0.mk (Kd.R_drew HO_8.out)
              have n1_ := Aside0.mk (below_drew1 HB.out)
              clear HO_8
              clear HB
              have HO_8 := n0_
              have HB := n1_
              clear n0_ n1_
              have p443 : 0 ≤ (1 : Int) := (by omega)
              have q443 : 1 < (t430.length : Int) := of_decide_eq_true (by first | (with_reducible assumption) | assumption)
              obtain ⟨ad443, e443, hx443_0⟩ := Kd.at_int (Kd.R_reads' HO_8.out).2.2 1 p443 q443
              cases e443
              (try simp only [show (1 : Int).toNat = 1 from rfl, Nat.reduceMul, Nat.reduceEqDiff, Go.Addr.add, ↓reduceIte] at hx443_0)
              have qi443 : (1 < t430.length) = True := eq_true (by omega)
              (try rw [show ((1 : Int)).toNat = 1 from rfl] at hx443_0)
              replace p443 := eq_true p443
              replace q443 := eq_true q443
              have p463 : 0 ≤ (3 : Int) := (by omega)
              have q463 : 3 < (t430.length : Int) := of_decide_eq_true (by first | (with_reducible assumption) | assumption)
              obtain ⟨ad463, e463, hx463_0⟩ := Kd.at_int (Kd.R_reads' HO_8.out).2.2 3 p463 q463
              obtain rfl : ad443 = ad463 := (by injection e463)
              (try simp only [show (3 : Int).toNat = 3 from rfl, Nat.reduceMul, Nat.reduceEqDiff, Go.Addr.add, ↓reduceIte] at hx463_0)
              have qi463 : (3 < t430.length) = True := eq_true (by omega)
              (try rw [show ((3 : Int)).toNat = 3 from rfl] at hx463_0)
              replace p463 := eq_true p463
              replace q463 := eq_true q463
              have p464 : 0 ≤ (0 : Int) := (by omega)
              have q464 : 0 < (t430.length : Int) := of_decide_eq_true (by first | (with_reducible assumption) | assumption)
              obtain ⟨ad464, e464, hx464_0⟩ := Kd.at_int (Kd.R_reads' HO_8.out).2.2 0 p464 q464
              obtain rfl : ad443 = ad464 := (by injection e464)
              have qi464 : (0 < t430.length) = True := eq_true (by omega)
              (try rw [show ((0 : Int)).toNat = 0 from rfl] at hx464_0)
              (try rw [Addr.add_zero'] at hx464_0)
              replace p464 := eq_true p464
              replace q464 := eq_true q464
              have p465 : 0 ≤ (1 : Int) := (by omega)
              have q465 : 1 < (t430.length : Int) := of_decide_eq_true (by first | (with_reducible assumption) | assumption)
              obtain ⟨ad465, e465, hx465_0⟩ := Kd.at_int (Kd.R_reads' HO_8.out).2.2 1 p465 q465
              obtain rfl : ad443 = ad465 := (by injection e465)
              (try simp only [show (1 : Int).toNat = 1 from rfl, Nat.reduceMul, Nat.reduceEqDiff, Go.Addr.add, ↓reduceIte] at hx465_0)
              have qi465 : (1 < t430.length) = True := eq_true (by omega)
              (try rw [show ((1 : Int)).toNat = 1 from rfl] at hx465_0)
              replace p465 := eq_true p465
              replace q465 := eq_true q465
              refine start_ (n := 31) (S := fun w' => w'.cell? ⟨ad443.block, ad443.off + 1, none⟩ = some (.int .i64 (rd t430 1)) ∧ w'.cell? ⟨ad443.block, ad443.off + 3, none⟩ = some (.int .i64 (rd t430 3)) ∧ w'.cell? ad443 = some (.int .i64 (rd t430 0)) ∧ w'.cell? ⟨ad443.block, ad443.off + 1, none⟩ = some (.int .i64 (rd t430 1))) (ds := []) (bA 31 0) (by kernel_rfl) rfl rfl ⟨hx443_0, hx463_0, hx464_0, hx465_0⟩ (fun hHeld => ?_); refine with_tabW laws_FnParted.tab12 laws_FnParted.bits12 (fun HT_ HW_ => ?_)
              generalize wc.drew = w68 at HO_8 HB hx443_0 hx463_0 hx464_0 hx465_0 hHeld ⊢
              refine pv (i := 0) (N := some 76) (bA 31 1) rfl rfl (any_of HT_.out (by kernel_rfl)) ?_
              refine pv (i := 1) (N := some 77) (bA 31 3) rfl rfl (any_of HT_.out (by kernel_rfl)) ?_
              refine take_ (i := 2) (N := some 78) (v := ?_) (a' := ?_) (bA 31 7) rfl rfl (take_ofW HT_.out HW_.out (by kernel_rfl)) (fun _ _ _ h => h) (Or.inl ⟨by rfl, ?_⟩) hHeld ?_ ?_
              rotate_left
              ·rintro w' ⟨s0, s1, s2, s3⟩
               go_simp
               with_reducible rfl
              rotate_left
              ·simp only [sp_]
               rfl
              refine pv (i := 3) (N := some 79) (bA 31 15) rfl rfl (any_of HT_.out (by kernel_rfl)) ?_
              refine pv (i := 4) (N := some 80) (bA 31 31) rfl rfl (any_of HT_.out (by kernel_rfl)) ?_
              refine pu (i := 5) (N := some 81) (bA 31 63) rfl rfl (any_of HT_.out (by kernel_rfl)) ?_
              refine pu (i := 6) (N := some 82) (bA 31 127) rfl rfl (any_of HT_.out (by kernel_rfl)) ?_
              refine pu (i := 7) (N := some 83) (bA 31 255) rfl rfl (any_of HT_.out (by kernel_rfl)) ?_
              refine pu (i := 8) (N := some 84) (bA 31 511) rfl rfl (any_of HT_.out (by kernel_rfl)) ?_
              refine pu (i := 9) (N := some 85) (bA 31 1023) rfl rfl (any_of HT_.out (by kernel_rfl)) ?_
              refine pu (i := 10) (N := some 86) (bA 31 2047) rfl rfl (any_of HT_.out (by kernel_rfl)) ?_
              refine pu (i := 11) (N := some 87) (bA 31 4095) rfl rfl (any_of HT_.out (by kernel_rfl)) ?_
              refine pu (i := 12) (N := some 88) (bA 31 8191) rfl rfl (any_of HT_.out (by kernel_rfl)) ?_
              refine pv (i := 13) (N := some 89) (bA 31 16383) rfl rfl (any_of HT_.out (by kernel_rfl)) ?_
              refine pv (i := 14) (N := some 90) (bA 31 32767) rfl rfl (any_of HT_.out (by kernel_rfl)) ?_
              refine pv (i := 15) (N := some 91) (bA 31 65535) rfl rfl (any_of HT_.out (by kernel_rfl)) ?_
              refine pv (i := 16) (N := some 92) (bA 31 131071) rfl rfl (any_of HT_.out (by kernel_rfl)) ?_
              refine take_ (i := 17) (N := some 93) (v := ?_) (a' := ?_) (bA 31 262143) rfl rfl (take_ofW HT_.out HW_.out (by kernel_rfl)) (fun _ _ _ h => h) (Or.inl ⟨by rfl, ?_⟩) hHeld ?_ ?_
              rotate_left
              ·rintro w' ⟨s0, s1, s2, s3⟩
               go_simp
               with_reducible rfl
              rotate_left
              ·simp only [sp_]
               rfl
              refine pv (i := 18) (N := some 94) (bA 31 524287) rfl rfl (any_of HT_.out (by kernel_rfl)) ?_
              refine pv (i := 19) (N := some 95) (bA 31 1048575) rfl rfl (any_of HT_.out (by kernel_rfl)) ?_
              refine pv (i := 20) (N := some 96) (bA 31 2097151) rfl rfl (any_of HT_.out (by kernel_rfl)) ?_
              refine pv (i := 21) (N := some 97) (bA 31 4194303) rfl rfl (any_of HT_.out (by kernel_rfl)) ?_
              refine pv (i := 23) (N := some 99) (bA 31 12582911) rfl rfl (any_of HT_.out (by kernel_rfl)) ?_
              refine pv (i := 24) (N := some 100) (bA 31 29360127) rfl rfl (any_of HT_.out (by kernel_rfl)) ?_
              refine take_ (i := 22) (N := some 98) (v := ?_) (a' := ?_) (bA 31 33554431) rfl rfl (take_ofW HT_.out HW_.out (by kernel_rfl)) (fun _ _ _ h => h) (Or.inl ⟨by rfl, ?_⟩) hHeld ?_ ?_
              rotate_left
              ·rintro w' ⟨s0, s1, s2, s3⟩
               go_simp
               with_reducible rfl
              rotate_left
              ·simp only [sp_]
               rfl
              refine take_ (i := 25) (N := some 101) (v := ?_) (a' := ?_) (bA 31 67108863) rfl rfl (take_ofW HT_.out HW_.out (by kernel_rfl)) (fun _ _ _ h => h) (Or.inl ⟨by rfl, ?_⟩) hHeld ?_ ?_
              rotate_left
              ·rintro w' ⟨s0, s1, s2, s3⟩
               go_simp
               with_reducible rfl
              rotate_left
              ·simp only [sp_]
               rfl
              refine one_ (i := 26) (N := some 102) (bA 31 134217727) rfl rfl (one_of HT_.out (by kernel_rfl)) (by decide) (fun K hK => ?_)
              refine goes_ Tryd.func23 (by kernel_rfl) rfl #[.int .i64 (rd t430 0), .int .i64 (rd t430 1)] (by rfl) rfl rfl (by (try simp only [List.map_toArray, List.map_cons, List.map_nil]); first | done | rfl | (simp only [List.length_drop, List.length_take]; rfl)) ?_
              with_reducible refine (impl_Pair.calls kj19 (rd t430 0) (rd t430 1) t466 _ A66.out (tab_at HT.out (by repeat (first | (with_reducible first | exact HB.out | apply below_alloc | apply pw_below_drewN | apply below_drew1 | (refine below_set ?_ (Aside0.out (by assumption)))) | exact HB.out)))).mono ?_
              rintro e w69 ⟨rfl, hb⟩
              have HS0_ := (hb.cell (World.block_lt_of_cell? _ _ (hHeld.1))).trans (hHeld.1)
              have HS1_ := (hb.cell (World.block_lt_of_cell? _ _ (hHeld.2.1))).trans (hHeld.2.1)
              have HS2_ := (hb.cell (World.block_lt_of_cell? _ _ (hHeld.2.2.1))).trans (hHeld.2.2.1)
              have HS3_ := (hb.cell (World.block_lt_of_cell? _ _ (hHeld.2.2.2))).trans (hHeld.2.2.2)
              refine ⟨_, rfl, ?_⟩
              have n0_ := Aside0.mk (Kd.R_below (by (with_reducible repeat (first | apply Kd.R_alloc | apply Kd.R_drewN | apply Kd.R_drew)); exact HO_8.out) hb)
              have n1_ := Aside0.mk (below_step (by repeat (first | (with_reducible first | exact HB.out | apply below_alloc | apply pw_below_drewN | apply below_drew1) | exact HB.out)) hb)
              clear HO_8
              clear HB
              have HO_8 := n0_
              have HB := n1_
              clear n0_ n1_
              (try clear hb)
              (try clear hb2)
              (try clear hk)
              (try clear hi)
              refine hK.out _ _ ⟨HS0_, HS1_, HS2_, HS3_⟩ (fun hHeld => ?_)
              clear hK K
              refine norm_ (a' := ?_) ?_ ?_
              rotate_left
              ·show Act.put _ (some 102) _ = _
               simp only [sp_]
               rfl
              refine pv (i := 27) (N := some 103) (bA 31 268435455) rfl rfl (any_of HT_.out (by kernel_rfl)) ?_
              refine pv (i := 28) (N := some 104) (bA 31 536870911) rfl rfl (any_of HT_.out (by kernel_rfl)) ?_
              refine pv (i := 29) (N := some 105) (bA 31 1073741823) rfl rfl (any_of HT_.out (by kernel_rfl)) ?_
              refine pv (i := 30) (N := some 12) (bA 31 2147483647) rfl rfl (any_of HT_.out (by kernel_rfl)) ?_
              refine done_ (done_of HT_.out (by kernel_rfl)) ?_
              try go_wp2
              have n0_ := Aside0.mk (Kd.R_drew HO_8.out)
              have n1_ := Aside0.mk (below_drew1 HB.out)
              clear HO_8
              clear HB
              have HO_8 := n0_
              have HB := n1_
              clear n0_ n1_
              refine start_ (n := 19) (S := fun w' => True) (ds := []) (bA 19 0) (by kernel_rfl) rfl rfl trivial (fun hHeld => ?_); refine with_tabW laws_FnParted.tab13 laws_FnParted.bits13 (fun HT_ HW_ => ?_)
              generalize w69.drew = w70 at HO_8 HB hHeld ⊢
              refine pv (i := 0) (N := some 106) (bA 19 1) rfl rfl (any_of HT_.out (by kernel_rfl)) ?_
              refine pv (i := 1) (N := some 107) (bA 19 3) rfl rfl (any_of HT_.out (by kernel_rfl)) ?_
              refine pu (i := 2) (N := some 108) (bA 19 7) rfl rfl (any_of HT_.out (by kernel_rfl)) ?_
              refine pu (i := 3) (N := some 109) (bA 19 15) rfl rfl (any_of HT_.out (by kernel_rfl)) ?_
              refine pu (i := 4) (N := some 110) (bA 19 31) rfl rfl (any_of HT_.out (by kernel_rfl)) ?_
              refine pu (i := 5) (N := some 111) (bA 19 63) rfl rfl (any_of HT_.out (by kernel_rfl)) ?_
              refine pu (i := 6) (N := some 112) (bA 19 127) rfl rfl (any_of HT_.out (by kernel_rfl)) ?_
              refine pu (i := 7) (N := some 113) (bA 19 255) rfl rfl (any_of HT_.out (by kernel_rfl)) ?_
              refine pu (i := 8) (N := some 114) (bA 19 511) rfl rfl (any_of HT_.out (by kernel_rfl)) ?_
              refine pu (i := 9) (N := some 115) (bA 19 1023) rfl rfl (any_of HT_.out (by kernel_rfl)) ?_
              refine pu (i := 10) (N := some 116) (bA 19 2047) rfl rfl (any_of HT_.out (by kernel_rfl)) ?_
              refine pu (i := 11) (N := some 117) (bA 19 4095) rfl rfl (any_of HT_.out (by kernel_rfl)) ?_
              refine pu (i := 12) (N := some 118) (bA 19 8191) rfl rfl (any_of HT_.out (by kernel_rfl)) ?_
              refine pu (i := 13) (N := some 119) (bA 19 16383) rfl rfl (any_of HT_.out (by kernel_rfl)) ?_
              refine pu (i := 14) (N := some 120) (bA 19 32767) rfl rfl (any_of HT_.out (by kernel_rfl)) ?_
              refine pu (i := 15) (N := some 121) (bA 19 65535) rfl rfl (any_of HT_.out (by kernel_rfl)) ?_
              refine pu (i := 16) (N := some 122) (bA 19 131071) rfl rfl (any_of HT_.out (by kernel_rfl)) ?_
              refine pv (i := 17) (N := some 123) (bA 19 262143) rfl rfl (any_of HT_.out (by kernel_rfl)) ?_
              refine pv (i := 18) (N := some 2) (bA 19 524287) rfl rfl (any_of HT_.out (by kernel_rfl)) ?_
              refine done_ (done_of HT_.out (by kernel_rfl)) ?_
              try go_wp2
              go_ret
              exact ⟨by first | rfl | (simp [errW_none, errW_some] <;> rfl) | (simp [*, errW_none, errW_some] <;> rfl), by repeat (first | (with_reducible first | exact HB.out | apply below_alloc | apply pw_below_drewN | apply below_drew1) | exact HB.out)⟩
             ·rw [if_neg c67] at H
              have c67b0 : (t466 == 0) = false := beq_eq_false_iff_ne.mpr c67
              have c67b1 : (t466 != 0) = true := bne_iff_ne.mpr c67
              replace H := Option.bind_eq_some_iff.mp H
              obtain ⟨t469, A710, H⟩ := H
              replace H : (if 2 < (t430.length : Int) then ((impl_Pair.f kj19 (rd t430 2) (rd t430 3)).bind fun t472 => (some (t469 == t472))) else (none)) = some r := H
              have A71 := Aside0.mk A710
              clear A710
              by_cases c72 : 2 < (t430.length : Int)
              ·rw [if_pos c72] at H
               have c72b0 : decide (2 < (t430.length : Int)) = true := decide_eq_true c72
               have c72b1 : decide (2 < t430.length) = true := decide_eq_true (by omega)
               clear c72
               replace H := Option.bind_eq_some_iff.mp H
               obtain ⟨t472, A730, H⟩ := H
               replace H : (some (t469 == t472)) = some r := H
               have A73 := Aside0.mk A730
               clear A730
               obtain rfl := Option.some.inj H
               try go_wp2
               have n0_ := Aside0.mk (Kd.R_drew HO_8.out)
               have n1_ := Aside0.mk (below_drew1 HB.out)
               clear HO_8
               clear HB
               have HO_8 := n0_
               have HB := n1_
               clear n0_ n1_
               have p443 : 0 ≤ (1 : Int) := (by omega)
               have q443 : 1 < (t430.length : Int) := of_decide_eq_true (by first | (with_reducible assumption) | assumption)
               obtain ⟨ad443, e443, hx443_0⟩ := Kd.at_int (Kd.R_reads' HO_8.out).2.2 1 p443 q443
               cases e443
               (try simp only [show (1 : Int).toNat = 1 from rfl, Nat.reduceMul, Nat.reduceEqDiff, Go.Addr.add, ↓reduceIte] at hx443_0)
               have qi443 : (1 < t430.length) = True := eq_true (by omega)
               (try rw [show ((1 : Int)).toNat = 1 from rfl] at hx443_0)
               replace p443 := eq_true p443
               replace q443 := eq_true q443
               have p463 : 0 ≤ (3 : Int) := (by omega)
               have q463 : 3 < (t430.length : Int) := of_decide_eq_true (by first | (with_reducible assumption) | assumption)
               obtain ⟨ad463, e463, hx463_0⟩ := Kd.at_int (Kd.R_reads' HO_8.out).2.2 3 p463 q463
               obtain rfl : ad443 = ad463 := (by injection e463)
               (try simp only [show (3 : Int).toNat = 3 from rfl, Nat.reduceMul, Nat.reduceEqDiff, Go.Addr.add, ↓reduceIte] at hx463_0)
               have qi463 : (3 < t430.length) = True := eq_true (by omega)
               (try rw [show ((3 : Int)).toNat = 3 from rfl] at hx463_0)
               replace p463 := eq_true p463
               replace q463 := eq_true q463
               have p464 : 0 ≤ (0 : Int) := (by omega)
               have q464 : 0 < (t430.length : Int) := of_decide_eq_true (by first | (with_reducible assumption) | assumption)
               obtain ⟨ad464, e464, hx464_0⟩ := Kd.at_int (Kd.R_reads' HO_8.out).2.2 0 p464 q464
               obtain rfl : ad443 = ad464 := (by injection e464)
               have qi464 : (0 < t430.length) = True := eq_true (by omega)
               (try rw [show ((0 : Int)).toNat = 0 from rfl] at hx464_0)
               (try rw [Addr.add_zero'] at hx464_0)
               replace p464 := eq_true p464
               replace q464 := eq_true q464
               have p465 : 0 ≤ (1 : Int) := (by omega)
               have q465 : 1 < (t430.length : Int) := of_decide_eq_true (by first | (with_reducible assumption) | assumption)
               obtain ⟨ad465, e465, hx465_0⟩ := Kd.at_int (Kd.R_reads' HO_8.out).2.2 1 p465 q465
               obtain rfl : ad443 = ad465 := (by injection e465)
               (try simp only [show (1 : Int).toNat = 1 from rfl, Nat.reduceMul, Nat.reduceEqDiff, Go.Addr.add, ↓reduceIte] at hx465_0)
               have qi465 : (1 < t430.length) = True := eq_true (by omega)
               (try rw [show ((1 : Int)).toNat = 1 from rfl] at hx465_0)
               replace p465 := eq_true p465
               replace q465 := eq_true q465
               refine start_ (n := 31) (S := fun w' => w'.cell? ⟨ad443.block, ad443.off + 1, none⟩ = some (.int .i64 (rd t430 1)) ∧ w'.cell? ⟨ad443.block, ad443.off + 3, none⟩ = some (.int .i64 (rd t430 3)) ∧ w'.cell? ad443 = some (.int .i64 (rd t430 0)) ∧ w'.cell? ⟨ad443.block, ad443.off + 1, none⟩ = some (.int .i64 (rd t430 1))) (ds := []) (bA 31 0) (by kernel_rfl) rfl rfl ⟨hx443_0, hx463_0, hx464_0, hx465_0⟩ (fun hHeld => ?_); refine with_tabW laws_FnParted.tab12 laws_FnParted.bits12 (fun HT_ HW_ => ?_)
               generalize wc.drew = w74 at HO_8 HB hx443_0 hx463_0 hx464_0 hx465_0 hHeld ⊢
               refine pv (i := 0) (N := some 76) (bA 31 1) rfl rfl (any_of HT_.out (by kernel_rfl)) ?_
               refine pv (i := 1) (N := some 77) (bA 31 3) rfl rfl (any_of HT_.out (by kernel_rfl)) ?_
               refine take_ (i := 2) (N := some 78) (v := ?_) (a' := ?_) (bA 31 7) rfl rfl (take_ofW HT_.out HW_.out (by kernel_rfl)) (fun _ _ _ h => h) (Or.inl ⟨by rfl, ?_⟩) hHeld ?_ ?_
               rotate_left
               ·rintro w' ⟨s0, s1, s2, s3⟩
                go_simp
                with_reducible rfl
               rotate_left
               ·simp only [sp_]
                rfl
               refine pv (i := 3) (N := some 79) (bA 31 15) rfl rfl (any_of HT_.out (by kernel_rfl)) ?_
               refine pv (i := 4) (N := some 80) (bA 31 31) rfl rfl (any_of HT_.out (by kernel_rfl)) ?_
               refine pu (i := 5) (N := some 81) (bA 31 63) rfl rfl (any_of HT_.out (by kernel_rfl)) ?_
               refine pu (i := 6) (N := some 82) (bA 31 127) rfl rfl (any_of HT_.out (by kernel_rfl)) ?_
               refine pu (i := 7) (N := some 83) (bA 31 255) rfl rfl (any_of HT_.out (by kernel_rfl)) ?_
               refine pu (i := 8) (N := some 84) (bA 31 511) rfl rfl (any_of HT_.out (by kernel_rfl)) ?_
               refine pu (i := 9) (N := some 85) (bA 31 1023) rfl rfl (any_of HT_.out (by kernel_rfl)) ?_
               refine pu (i := 10) (N := some 86) (bA 31 2047) rfl rfl (any_of HT_.out (by kernel_rfl)) ?_
               refine pu (i := 11) (N := some 87) (bA 31 4095) rfl rfl (any_of HT_.out (by kernel_rfl)) ?_
               refine pu (i := 12) (N := some 88) (bA 31 8191) rfl rfl (any_of HT_.out (by kernel_rfl)) ?_
               refine pv (i := 13) (N := some 89) (bA 31 16383) rfl rfl (any_of HT_.out (by kernel_rfl)) ?_
               refine pv (i := 14) (N := some 90) (bA 31 32767) rfl rfl (any_of HT_.out (by kernel_rfl)) ?_
               refine pv (i := 15) (N := some 91) (bA 31 65535) rfl rfl (any_of HT_.out (by kernel_rfl)) ?_
               refine pv (i := 16) (N := some 92) (bA 31 131071) rfl rfl (any_of HT_.out (by kernel_rfl)) ?_
               refine take_ (i := 17) (N := some 93) (v := ?_) (a' := ?_) (bA 31 262143) rfl rfl (take_ofW HT_.out HW_.out (by kernel_rfl)) (fun _ _ _ h => h) (Or.inl ⟨by rfl, ?_⟩) hHeld ?_ ?_
               rotate_left
               ·rintro w' ⟨s0, s1, s2, s3⟩
                go_simp
                with_reducible rfl
               rotate_left
               ·simp only [sp_]
                rfl
               refine pv (i := 18) (N := some 94) (bA 31 524287) rfl rfl (any_of HT_.out (by kernel_rfl)) ?_
               refine pv (i := 19) (N := some 95) (bA 31 1048575) rfl rfl (any_of HT_.out (by kernel_rfl)) ?_
               refine pv (i := 20) (N := some 96) (bA 31 2097151) rfl rfl (any_of HT_.out (by kernel_rfl)) ?_
               refine pv (i := 21) (N := some 97) (bA 31 4194303) rfl rfl (any_of HT_.out (by kernel_rfl)) ?_
               refine pv (i := 23) (N := some 99) (bA 31 12582911) rfl rfl (any_of HT_.out (by kernel_rfl)) ?_
               refine pv (i := 24) (N := some 100) (bA 31 29360127) rfl rfl (any_of HT_.out (by kernel_rfl)) ?_
               refine take_ (i := 22) (N := some 98) (v := ?_) (a' := ?_) (bA 31 33554431) rfl rfl (take_ofW HT_.out HW_.out (by kernel_rfl)) (fun _ _ _ h => h) (Or.inl ⟨by rfl, ?_⟩) hHeld ?_ ?_
               rotate_left
               ·rintro w' ⟨s0, s1, s2, s3⟩
                go_simp
                with_reducible rfl
               rotate_left
               ·simp only [sp_]
                rfl
               refine take_ (i := 25) (N := some 101) (v := ?_) (a' := ?_) (bA 31 67108863) rfl rfl (take_ofW HT_.out HW_.out (by kernel_rfl)) (fun _ _ _ h => h) (Or.inl ⟨by rfl, ?_⟩) hHeld ?_ ?_
               rotate_left
               ·rintro w' ⟨s0, s1, s2, s3⟩
                go_simp
                with_reducible rfl
               rotate_left
               ·simp only [sp_]
                rfl
               refine one_ (i := 26) (N := some 102) (bA 31 134217727) rfl rfl (one_of HT_.out (by kernel_rfl)) (by decide) (fun K hK => ?_)
               refine goes_ Tryd.func23 (by kernel_rfl) rfl #[.int .i64 (rd t430 0), .int .i64 (rd t430 1)] (by rfl) rfl rfl (by (try simp only [List.map_toArray, List.map_cons, List.map_nil]); first | done | rfl | (simp only [List.length_drop, List.length_take]; rfl)) ?_
               with_reducible refine (impl_Pair.calls kj19 (rd t430 0) (rd t430 1) t466 _ A66.out (tab_at HT.out (by repeat (first | (with_reducible first | exact HB.out | apply below_alloc | apply pw_below_drewN | apply below_drew1 | (refine below_set ?_ (Aside0.out (by assumption)))) | exact HB.out)))).mono ?_
               rintro e w75 ⟨rfl, hb⟩
               have HS0_ := (hb.cell (World.block_lt_of_cell? _ _ (hHeld.1))).trans (hHeld.1)
               have HS1_ := (hb.cell (World.block_lt_of_cell? _ _ (hHeld.2.1))).trans (hHeld.2.1)
               have HS2_ := (hb.cell (World.block_lt_of_cell? _ _ (hHeld.2.2.1))).trans (hHeld.2.2.1)
               have HS3_ := (hb.cell (World.block_lt_of_cell? _ _ (hHeld.2.2.2))).trans (hHeld.2.2.2)
               refine ⟨_, rfl, ?_⟩
               have n0_ := Aside0.mk (Kd.R_below (by (with_reducible repeat (first | apply Kd.R_alloc | apply Kd.R_drewN | apply Kd.R_drew)); exact HO_8.out) hb)
               have n1_ := Aside0.mk (below_step (by repeat (first | (with_reducible first | exact HB.out | apply below_alloc | apply pw_below_drewN | apply below_drew1) | exact HB.out)) hb)
               clear HO_8
               clear HB
               have HO_8 := n0_
               have HB := n1_
               clear n0_ n1_
               (try clear hb)
               (try clear hb2)
               (try clear hk)
               (try clear hi)
               refine hK.out _ _ ⟨HS0_, HS1_, HS2_, HS3_⟩ (fun hHeld => ?_)
               clear hK K
               refine norm_ (a' := ?_) ?_ ?_
               rotate_left
               ·show Act.put _ (some 102) _ = _
                simp only [sp_]
                rfl
               refine pv (i := 27) (N := some 103) (bA 31 268435455) rfl rfl (any_of HT_.out (by kernel_rfl)) ?_
               refine pv (i := 28) (N := some 104) (bA 31 536870911) rfl rfl (any_of HT_.out (by kernel_rfl)) ?_
               refine pv (i := 29) (N := some 105) (bA 31 1073741823) rfl rfl (any_of HT_.out (by kernel_rfl)) ?_
               refine pv (i := 30) (N := some 12) (bA 31 2147483647) rfl rfl (any_of HT_.out (by kernel_rfl)) ?_
               refine done_ (done_of HT_.out (by kernel_rfl)) ?_
               try go_wp2
               have n0_ := Aside0.mk (Kd.R_drew HO_8.out)
               have n1_ := Aside0.mk (below_drew1 HB.out)
               clear HO_8
               clear HB
               have HO_8 := n0_
               have HB := n1_
               clear n0_ n1_
               have p467 : 0 ≤ (0 : Int) := (by omega)
               have q467 : 0 < (t430.length : Int) := of_decide_eq_true (by first | (with_reducible assumption) | assumption)
               obtain ⟨ad467, e467, hx467_0⟩ := Kd.at_int (Kd.R_reads' HO_8.out).2.2 0 p467 q467
               obtain rfl : ad443 = ad467 := (by injection e467)
               have qi467 : (0 < t430.length) = True := eq_true (by omega)
               (try rw [show ((0 : Int)).toNat = 0 from rfl] at hx467_0)
               (try rw [Addr.add_zero'] at hx467_0)
               replace p467 := eq_true p467
               replace q467 := eq_true q467
               have p468 : 0 ≤ (1 : Int) := (by omega)
               have q468 : 1 < (t430.length : Int) := of_decide_eq_true (by first | (with_reducible assumption) | assumption)
               obtain ⟨ad468, e468, hx468_0⟩ := Kd.at_int (Kd.R_reads' HO_8.out).2.2 1 p468 q468
               obtain rfl : ad443 = ad468 := (by injection e468)
               (try simp only [show (1 : Int).toNat = 1 from rfl, Nat.reduceMul, Nat.reduceEqDiff, Go.Addr.add, ↓reduceIte] at hx468_0)
               have qi468 : (1 < t430.length) = True := eq_true (by omega)
               (try rw [show ((1 : Int)).toNat = 1 from rfl] at hx468_0)
               replace p468 := eq_true p468
               replace q468 := eq_true q468
               have p470 : 0 ≤ (2 : Int) := (by omega)
               have q470 : 2 < (t430.length : Int) := of_decide_eq_true (by first | (with_reducible assumption) | assumption)
               obtain ⟨ad470, e470, hx470_0⟩ := Kd.at_int (Kd.R_reads' HO_8.out).2.2 2 p470 q470
               obtain rfl : ad443 = ad470 := (by injection e470)
               (try simp only [show (2 : Int).toNat = 2 from rfl, Nat.reduceMul, Nat.reduceEqDiff, Go.Addr.add, ↓reduceIte] at hx470_0)
               have qi470 : (2 < t430.length) = True := eq_true (by omega)
               (try rw [show ((2 : Int)).toNat = 2 from rfl] at hx470_0)
               replace p470 := eq_true p470
               replace q470 := eq_true q470
               have p471 : 0 ≤ (3 : Int) := (by omega)
               have q471 : 3 < (t430.length : Int) := of_decide_eq_true (by first | (with_reducible assumption) | assumption)
               obtain ⟨ad471, e471, hx471_0⟩ := Kd.at_int (Kd.R_reads' HO_8.out).2.2 3 p471 q471
               obtain rfl : ad443 = ad471 := (by injection e471)
               (try simp only [show (3 : Int).toNat = 3 from rfl, Nat.reduceMul, Nat.reduceEqDiff, Go.Addr.add, ↓reduceIte] at hx471_0)
               have qi471 : (3 < t430.length) = True := eq_true (by omega)
               (try rw [show ((3 : Int)).toNat = 3 from rfl] at hx471_0)
               replace p471 := eq_true p471
               replace q471 := eq_true q471
               refine start_ (n := 19) (S := fun w' => w'.cell? ad443 = some (.int .i64 (rd t430 0)) ∧ w'.cell? ⟨ad443.block, ad443.off + 1, none⟩ = some (.int .i64 (rd t430 1)) ∧ w'.cell? ⟨ad443.block, ad443.off + 2, none⟩ = some (.int .i64 (rd t430 2)) ∧ w'.cell? ⟨ad443.block, ad443.off + 3, none⟩ = some (.int .i64 (rd t430 3))) (ds := []) (bA 19 0) (by kernel_rfl) rfl rfl ⟨hx467_0, hx468_0, hx470_0, hx471_0⟩ (fun hHeld => ?_); refine with_tabW laws_FnParted.tab13 laws_FnParted.bits13 (fun HT_ HW_ => ?_)
               generalize w75.drew = w76 at HO_8 HB hx467_0 hx468_0 hx470_0 hx471_0 hHeld ⊢
               refine pv (i := 0) (N := some 106) (bA 19 1) rfl rfl (any_of HT_.out (by kernel_rfl)) ?_
               refine pv (i := 1) (N := some 107) (bA 19 3) rfl rfl (any_of HT_.out (by kernel_rfl)) ?_
               refine pv (i := 2) (N := some 108) (bA 19 7) rfl rfl (any_of HT_.out (by kernel_rfl)) ?_
               refine pv (i := 3) (N := some 109) (bA 19 15) rfl rfl (any_of HT_.out (by kernel_rfl)) ?_
               refine pv (i := 5) (N := some 111) (bA 19 47) rfl rfl (any_of HT_.out (by kernel_rfl)) ?_
               refine pv (i := 6) (N := some 112) (bA 19 111) rfl rfl (any_of HT_.out (by kernel_rfl)) ?_
               refine pv (i := 9) (N := some 115) (bA 19 623) rfl rfl (any_of HT_.out (by kernel_rfl)) ?_
               refine pv (i := 10) (N := some 116) (bA 19 1647) rfl rfl (any_of HT_.out (by kernel_rfl)) ?_
               refine pv (i := 12) (N := some 118) (bA 19 5743) rfl rfl (any_of HT_.out (by kernel_rfl)) ?_
               refine pv (i := 13) (N := some 119) (bA 19 13935) rfl rfl (any_of HT_.out (by kernel_rfl)) ?_
               refine take_ (i := 4) (N := some 110) (v := ?_) (a' := ?_) (bA 19 13951) rfl rfl (take_ofW HT_.out HW_.out (by kernel_rfl)) (fun _ _ _ h => h) (Or.inl ⟨by rfl, ?_⟩) hHeld ?_ ?_
               rotate_left
               ·rintro w' ⟨s0, s1, s2, s3⟩
                go_simp
                with_reducible rfl
               rotate_left
               ·simp only [sp_]
                rfl
               refine take_ (i := 7) (N := some 113) (v := ?_) (a' := ?_) (bA 19 14079) rfl rfl (take_ofW HT_.out HW_.out (by kernel_rfl)) (fun _ _ _ h => h) (Or.inl ⟨by rfl, ?_⟩) hHeld ?_ ?_
               rotate_left
               ·rintro w' ⟨s0, s1, s2, s3⟩
                go_simp
                with_reducible rfl
               rotate_left
               ·simp only [sp_]
                rfl
               refine take_ (i := 11) (N := some 117) (v := ?_) (a' := ?_) (bA 19 16127) rfl rfl (take_ofW HT_.out HW_.out (by kernel_rfl)) (fun _ _ _ h => h) (Or.inl ⟨by rfl, ?_⟩) hHeld ?_ ?_
               rotate_left
               ·rintro w' ⟨s0, s1, s2, s3⟩
                go_simp
                with_reducible rfl
               rotate_left
               ·simp only [sp_]
                rfl
               refine take_ (i := 14) (N := some 120) (v := ?_) (a' := ?_) (bA 19 32511) rfl rfl (take_ofW HT_.out HW_.out (by kernel_rfl)) (fun _ _ _ h => h) (Or.inl ⟨by rfl, ?_⟩) hHeld ?_ ?_
               rotate_left
               ·rintro w' ⟨s0, s1, s2, s3⟩
                go_simp
                with_reducible rfl
               rotate_left
               ·simp only [sp_]
                rfl
               refine one_ (i := 8) (N := some 114) (bA 19 32767) rfl rfl (one_of HT_.out (by kernel_rfl)) (by decide) (fun K hK => ?_)
               refine goes_ Tryd.func23 (by kernel_rfl) rfl #[.int .i64 (rd t430 0), .int .i64 (rd t430 1)] (by rfl) rfl rfl (by (try simp only [List.map_toArray, List.map_cons, List.map_nil]); first | done | rfl | (simp only [List.length_drop, List.length_take]; rfl)) ?_
               with_reducible refine (impl_Pair.calls kj19 (rd t430 0) (rd t430 1) t469 _ A71.out (tab_at HT.out (by repeat (first | (with_reducible first | exact HB.out | apply below_alloc | apply pw_below_drewN | apply below_drew1 | (refine below_set ?_ (Aside0.out (by assumption)))) | exact HB.out)))).mono ?_
               rintro e w77 ⟨rfl, hb⟩
               have HS0_ := (hb.cell (World.block_lt_of_cell? _ _ (hHeld.1))).trans (hHeld.1)
               have HS1_ := (hb.cell (World.block_lt_of_cell? _ _ (hHeld.2.1))).trans (hHeld.2.1)
               have HS2_ := (hb.cell (World.block_lt_of_cell? _ _ (hHeld.2.2.1))).trans (hHeld.2.2.1)
               have HS3_ := (hb.cell (World.block_lt_of_cell? _ _ (hHeld.2.2.2))).trans (hHeld.2.2.2)
               refine ⟨_, rfl, ?_⟩
               have n0_ := Aside0.mk (Kd.R_below (by (with_reducible repeat (first | apply Kd.R_alloc | apply Kd.R_drewN | apply Kd.R_drew)); exact HO_8.out) hb)
               have n1_ := Aside0.mk (below_step (by repeat (first | (with_reducible first | exact HB.out | apply below_alloc | apply pw_below_drewN | apply below_drew1) | exact HB.out)) hb)
               clear HO_8
               clear HB
               have HO_8 := n0_
               have HB := n1_
               clear n0_ n1_
               (try clear hb)
               (try clear hb2)
               (try clear hk)
               (try clear hi)
               refine hK.out _ _ ⟨HS0_, HS1_, HS2_, HS3_⟩ (fun hHeld => ?_)
               clear hK K
               refine norm_ (a' := ?_) ?_ ?_
               rotate_left
               ·show Act.put _ (some 114) _ = _
                simp only [sp_]
                rfl
               refine one_ (i := 15) (N := some 121) (bA 19 65535) rfl rfl (one_of HT_.out (by kernel_rfl)) (by decide) (fun K hK => ?_)
               refine goes_ Tryd.func23 (by kernel_rfl) rfl #[.int .i64 (rd t430 2), .int .i64 (rd t430 3)] (by rfl) rfl rfl (by (try simp only [List.map_toArray, List.map_cons, List.map_nil]); first | done | rfl | (simp only [List.length_drop, List.length_take]; rfl)) ?_
               with_reducible refine (impl_Pair.calls kj19 (rd t430 2) (rd t430 3) t472 _ A73.out (tab_at HT.out (by repeat (first | (with_reducible first | exact HB.out | apply below_alloc | apply pw_below_drewN | apply below_drew1 | (refine below_set ?_ (Aside0.out (by assumption)))) | exact HB.out)))).mono ?_
               rintro e w78 ⟨rfl, hb⟩
               have HS0_ := (hb.cell (World.block_lt_of_cell? _ _ (hHeld.1))).trans (hHeld.1)
               have HS1_ := (hb.cell (World.block_lt_of_cell? _ _ (hHeld.2.1))).trans (hHeld.2.1)
               have HS2_ := (hb.cell (World.block_lt_of_cell? _ _ (hHeld.2.2.1))).trans (hHeld.2.2.1)
               have HS3_ := (hb.cell (World.block_lt_of_cell? _ _ (hHeld.2.2.2))).trans (hHeld.2.2.2)
               refine ⟨_, rfl, ?_⟩
               have n0_ := Aside0.mk (Kd.R_below (by (with_reducible repeat (first | apply Kd.R_alloc | apply Kd.R_drewN | apply Kd.R_drew)); exact HO_8.out) hb)
               have n1_ := Aside0.mk (below_step (by repeat (first | (with_reducible first | exact HB.out | apply below_alloc | apply pw_below_drewN | apply below_drew1) | exact HB.out)) hb)
               clear HO_8
               clear HB
               have HO_8 := n0_
               have HB := n1_
               clear n0_ n1_
               (try clear hb)
               (try clear hb2)
               (try clear hk)
               (try clear hi)
               refine hK.out _ _ ⟨HS0_, HS1_, HS2_, HS3_⟩ (fun hHeld => ?_)
               clear hK K
               refine norm_ (a' := ?_) ?_ ?_
               rotate_left
               ·show Act.put _ (some 121) _ = _
                simp only [sp_]
                rfl
               refine pv (i := 16) (N := some 122) (bA 19 131071) rfl rfl (any_of HT_.out (by kernel_rfl)) ?_
               refine pv (i := 17) (N := some 123) (bA 19 262143) rfl rfl (any_of HT_.out (by kernel_rfl)) ?_
               refine pv (i := 18) (N := some 2) (bA 19 524287) rfl rfl (any_of HT_.out (by kernel_rfl)) ?_
               refine done_ (done_of HT_.out (by kernel_rfl)) ?_
               try go_wp2
               go_ret
               exact ⟨by first | rfl | (simp [errW_none, errW_some] <;> rfl) | (simp [*, errW_none, errW_some] <;> rfl), by repeat (first | (with_reducible first | exact HB.out | apply below_alloc | apply pw_below_drewN | apply below_drew1) | exact HB.out)⟩
              ·rw [if_neg c72] at H
               exact absurd H (by simp)
            ·rw [if_neg c65] at H
             exact absurd H (by simp)
           ·rw [if_neg c64] at H
            have c64b0 : ((rd t430 3) == (-1)) = false := beq_eq_false_iff_ne.mpr c64
            have c64b1 : ((rd t430 3) != (-1)) = true := bne_iff_ne.mpr c64
            by_cases c79 : 0 < (t430.length : Int)
            ·rw [if_pos c79] at H
             have c79b0 : decide (0 < (t430.length : Int)) = true := decide_eq_true c79
             have c79b1 : decide (0 < t430.length) = true := decide_eq_true (by omega)
             clear c79
             replace H := Option.bind_eq_some_iff.mp H
             obtain ⟨t475, A800, H⟩ := H
             replace H : (if 2 < (t430.length : Int) then ((impl_Pair.f kj19 (rd t430 2) (rd t430 3)).bind fun t478 => (some (t475 == t478))) else (none)) = some r := H
             have A80 := Aside0.mk A800
             clear A800
             by_cases c81 : 2 < (t430.length : Int)
             ·rw [if_pos c81] at H
              have c81b0 : decide (2 < (t430.length : Int)) = true := decide_eq_true c81
              have c81b1 : decide (2 < t430.length) = true := decide_eq_true (by omega)
              clear c81
              replace H := Option.bind_eq_some_iff.mp H
              obtain ⟨t478, A820, H⟩ := H
              replace H : (some (t475 == t478)) = some r := H
              have A82 := Aside0.mk A820
              clear A820
              obtain rfl := Option.some.inj H
              try go_wp2
              have n0_ := Aside0.mk (Kd.R_drew HO_8.out)
              have n1_ := Aside0.mk (below_drew1 HB.out)
              clear HO_8
              clear HB
              have HO_8 := n0_
              have HB := n1_
              clear n0_ n1_
              have p443 : 0 ≤ (1 : Int) := (by omega)
              have q443 : 1 < (t430.length : Int) := of_decide_eq_true (by first | (with_reducible assumption) | assumption)
              obtain ⟨ad443, e443, hx443_0⟩ := Kd.at_int (Kd.R_reads' HO_8.out).2.2 1 p443 q443
              cases e443
              (try simp only [show (1 : Int).toNat = 1 from rfl, Nat.reduceMul, Nat.reduceEqDiff, Go.Addr.add, ↓reduceIte] at hx443_0)
              have qi443 : (1 < t430.length) = True := eq_true (by omega)
              (try rw [show ((1 : Int)).toNat = 1 from rfl] at hx443_0)
              replace p443 := eq_true p443
              replace q443 := eq_true q443
              have p463 : 0 ≤ (3 : Int) := (by omega)
              have q463 : 3 < (t430.length : Int) := of_decide_eq_true (by first | (with_reducible assumption) | assumption)
              obtain ⟨ad463, e463, hx463_0⟩ := Kd.at_int (Kd.R_reads' HO_8.out).2.2 3 p463 q463
              obtain rfl : ad443 = ad463 := (by injection e463)
              (try simp only [show (3 : Int).toNat = 3 from rfl, Nat.reduceMul, Nat.reduceEqDiff, Go.Addr.add, ↓reduceIte] at hx463_0)
              have qi463 : (3 < t430.length) = True := eq_true (by omega)
              (try rw [show ((3 : Int)).toNat = 3 from rfl] at hx463_0)
              replace p463 := eq_true p463
              replace q463 := eq_true q463
              refine start_ (n := 31) (S := fun w' => w'.cell? ⟨ad443.block, ad443.off + 1, none⟩ = some (.int .i64 (rd t430 1)) ∧ w'.cell? ⟨ad443.block, ad443.off + 3, none⟩ = some (.int .i64 (rd t430 3))) (ds := []) (bA 31 0) (by kernel_rfl) rfl rfl ⟨hx443_0, hx463_0⟩ (fun hHeld => ?_); refine with_tabW laws_FnParted.tab12 laws_FnParted.bits12 (fun HT_ HW_ => ?_)
              generalize wc.drew = w83 at HO_8 HB hx443_0 hx463_0 hHeld ⊢
              refine pv (i := 0) (N := some 76) (bA 31 1) rfl rfl (any_of HT_.out (by kernel_rfl)) ?_
              refine pv (i := 1) (N := some 77) (bA 31 3) rfl rfl (any_of HT_.out (by kernel_rfl)) ?_
              refine take_ (i := 2) (N := some 78) (v := ?_) (a' := ?_) (bA 31 7) rfl rfl (take_ofW HT_.out HW_.out (by kernel_rfl)) (fun _ _ _ h => h) (Or.inl ⟨by rfl, ?_⟩) hHeld ?_ ?_
              rotate_left
              ·rintro w' ⟨s0, s1⟩
               go_simp
               with_reducible rfl
              rotate_left
              ·simp only [sp_]
               rfl
              refine pv (i := 3) (N := some 79) (bA 31 15) rfl rfl (any_of HT_.out (by kernel_rfl)) ?_
              refine pv (i := 4) (N := some 80) (bA 31 31) rfl rfl (any_of HT_.out (by kernel_rfl)) ?_
              refine pu (i := 5) (N := some 81) (bA 31 63) rfl rfl (any_of HT_.out (by kernel_rfl)) ?_
              refine pu (i := 6) (N := some 82) (bA 31 127) rfl rfl (any_of HT_.out (by kernel_rfl)) ?_
              refine pu (i := 7) (N := some 83) (bA 31 255) rfl rfl (any_of HT_.out (by kernel_rfl)) ?_
              refine pu (i := 8) (N := some 84) (bA 31 511) rfl rfl (any_of HT_.out (by kernel_rfl)) ?_
              refine pu (i := 9) (N := some 85) (bA 31 1023) rfl rfl (any_of HT_.out (by kernel_rfl)) ?_
              refine pu (i := 10) (N := some 86) (bA 31 2047) rfl rfl (any_of HT_.out (by kernel_rfl)) ?_
              refine pu (i := 11) (N := some 87) (bA 31 4095) rfl rfl (any_of HT_.out (by kernel_rfl)) ?_
              refine pu (i := 12) (N := some 88) (bA 31 8191) rfl rfl (any_of HT_.out (by kernel_rfl)) ?_
              refine pv (i := 13) (N := some 89) (bA 31 16383) rfl rfl (any_of HT_.out (by kernel_rfl)) ?_
              refine pv (i := 14) (N := some 90) (bA 31 32767) rfl rfl (any_of HT_.out (by kernel_rfl)) ?_
              refine pv (i := 15) (N := some 91) (bA 31 65535) rfl rfl (any_of HT_.out (by kernel_rfl)) ?_
              refine pv (i := 16) (N := some 92) (bA 31 131071) rfl rfl (any_of HT_.out (by kernel_rfl)) ?_
              refine take_ (i := 17) (N := some 93) (v := ?_) (a' := ?_) (bA 31 262143) rfl rfl (take_ofW HT_.out HW_.out (by kernel_rfl)) (fun _ _ _ h => h) (Or.inl ⟨by rfl, ?_⟩) hHeld ?_ ?_
              rotate_left
              ·rintro w' ⟨s0, s1⟩
               go_simp
               with_reducible rfl
              rotate_left
              ·simp only [sp_]
               rfl
              refine pv (i := 18) (N := some 94) (bA 31 524287) rfl rfl (any_of HT_.out (by kernel_rfl)) ?_
              refine pv (i := 19) (N := some 95) (bA 31 1048575) rfl rfl (any_of HT_.out (by kernel_rfl)) ?_
              refine pu (i := 20) (N := some 96) (bA 31 2097151) rfl rfl (any_of HT_.out (by kernel_rfl)) ?_
              refine pu (i := 21) (N := some 97) (bA 31 4194303) rfl rfl (any_of HT_.out (by kernel_rfl)) ?_
              refine pu (i := 22) (N := some 98) (bA 31 8388607) rfl rfl (any_of HT_.out (by kernel_rfl)) ?_
              refine pu (i := 23) (N := some 99) (bA 31 16777215) rfl rfl (any_of HT_.out (by kernel_rfl)) ?_
              refine pu (i := 24) (N := some 100) (bA 31 33554431) rfl rfl (any_of HT_.out (by kernel_rfl)) ?_
              refine pu (i := 25) (N := some 101) (bA 31 67108863) rfl rfl (any_of HT_.out (by kernel_rfl)) ?_
              refine pu (i := 26) (N := some 102) (bA 31 134217727) rfl rfl (any_of HT_.out (by kernel_rfl)) ?_
              refine pu (i := 27) (N := some 103) (bA 31 268435455) rfl rfl (any_of HT_.out (by kernel_rfl)) ?_
              refine pv (i := 28) (N := some 104) (bA 31 536870911) rfl rfl (any_of HT_.out (by kernel_rfl)) ?_
              refine pv (i := 29) (N := some 105) (bA 31 1073741823) rfl rfl (any_of HT_.out (by kernel_rfl)) ?_
              refine pv (i := 30) (N := some 12) (bA 31 2147483647) rfl rfl (any_of HT_.out (by kernel_rfl)) ?_
              refine done_ (done_of HT_.out (by kernel_rfl)) ?_
              try go_wp2
              have n0_ := Aside0.mk (Kd.R_drew HO_8.out)
              have n1_ := Aside0.mk (below_drew1 HB.out)
              clear HO_8
              clear HB
              have HO_8 := n0_
              have HB := n1_
              clear n0_ n1_
              have p473 : 0 ≤ (0 : Int) := (by omega)
              have q473 : 0 < (t430.length : Int) := of_decide_eq_true (by first | (with_reducible assumption) | assumption)
              obtain ⟨ad473, e473, hx473_0⟩ := Kd.at_int (Kd.R_reads' HO_8.out).2.2 0 p473 q473
              obtain rfl : ad443 = ad473 := (by injection e473)
              have qi473 : (0 < t430.length) = True := eq_true (by omega)
              (try rw [show ((0 : Int)).toNat = 0 from rfl] at hx473_0)
              (try rw [Addr.add_zero'] at hx473_0)
              replace p473 := eq_true p473
              replace q473 := eq_true q473
              have p474 : 0 ≤ (1 : Int) := (by omega)
              have q474 : 1 < (t430.length : Int) := of_decide_eq_true (by first | (with_reducible assumption) | assumption)
              obtain ⟨ad474, e474, hx474_0⟩ := Kd.at_int (Kd.R_reads' HO_8.out).2.2 1 p474 q474
              obtain rfl : ad443 = ad474 := (by injection e474)
              (try simp only [show (1 : Int).toNat = 1 from rfl, Nat.reduceMul, Nat.reduceEqDiff, Go.Addr.add, ↓reduceIte] at hx474_0)
              have qi474 : (1 < t430.length) = True := eq_true (by omega)
              (try rw [show ((1 : Int)).toNat = 1 from rfl] at hx474_0)
              replace p474 := eq_true p474
              replace q474 := eq_true q474
              have p476 : 0 ≤ (2 : Int) := (by omega)
              have q476 : 2 < (t430.length : Int) := of_decide_eq_true (by first | (with_reducible assumption) | assumption)
              obtain ⟨ad476, e476, hx476_0⟩ := Kd.at_int (Kd.R_reads' HO_8.out).2.2 2 p476 q476
              obtain rfl : ad443 = ad476 := (by injection e476)
              (try simp only [show (2 : Int).toNat = 2 from rfl, Nat.reduceMul, Nat.reduceEqDiff, Go.Addr.add, ↓reduceIte] at hx476_0)
              have qi476 : (2 < t430.length) = True := eq_true (by omega)
              (try rw [show ((2 : Int)).toNat = 2 from rfl] at hx476_0)
              replace p476 := eq_true p476
              replace q476 := eq_true q476
              have p477 : 0 ≤ (3 : Int) := (by omega)
              have q477 : 3 < (t430.length : Int) := of_decide_eq_true (by first | (with_reducible assumption) | assumption)
              obtain ⟨ad477, e477, hx477_0⟩ := Kd.at_int (Kd.R_reads' HO_8.out).2.2 3 p477 q477
              obtain rfl : ad443 = ad477 := (by injection e477)
              (try simp only [show (3 : Int).toNat = 3 from rfl, Nat.reduceMul, Nat.reduceEqDiff, Go.Addr.add, ↓reduceIte] at hx477_0)
              have qi477 : (3 < t430.length) = True := eq_true (by omega)
              (try rw [show ((3 : Int)).toNat = 3 from rfl] at hx477_0)
              replace p477 := eq_true p477
              replace q477 := eq_true q477
              refine start_ (n := 19) (S := fun w' => w'.cell? ad443 = some (.int .i64 (rd t430 0)) ∧ w'.cell? ⟨ad443.block, ad443.off + 1, none⟩ = some (.int .i64 (rd t430 1)) ∧ w'.cell? ⟨ad443.block, ad443.off + 2, none⟩ = some (.int .i64 (rd t430 2)) ∧ w'.cell? ⟨ad443.block, ad443.off + 3, none⟩ = some (.int .i64 (rd t430 3))) (ds := []) (bA 19 0) (by kernel_rfl) rfl rfl ⟨hx473_0, hx474_0, hx476_0, hx477_0⟩ (fun hHeld => ?_); refine with_tabW laws_FnParted.tab13 laws_FnParted.bits13 (fun HT_ HW_ => ?_)
              generalize w83.drew = w84 at HO_8 HB hx473_0 hx474_0 hx476_0 hx477_0 hHeld ⊢
              refine pv (i := 0) (N := some 106) (bA 19 1) rfl rfl (any_of HT_.out (by kernel_rfl)) ?_
              refine pv (i := 1) (N := some 107) (bA 19 3) rfl rfl (any_of HT_.out (by kernel_rfl)) ?_
              refine pv (i := 2) (N := some 108) (bA 19 7) rfl rfl (any_of HT_.out (by kernel_rfl)) ?_
              refine pv (i := 3) (N := some 109) (bA 19 15) rfl rfl (any_of HT_.out (by kernel_rfl)) ?_
              refine pv (i := 5) (N := some 111) (bA 19 47) rfl rfl (any_of HT_.out (by kernel_rfl)) ?_
              refine pv (i := 6) (N := some 112) (bA 19 111) rfl rfl (any_of HT_.out (by kernel_rfl)) ?_
              refine pv (i := 9) (N := some 115) (bA 19 623) rfl rfl (any_of HT_.out (by kernel_rfl)) ?_
              refine pv (i := 10) (N := some 116) (bA 19 1647) rfl rfl (any_of HT_.out (by kernel_rfl)) ?_
              refine pv (i := 12) (N := some 118) (bA 19 5743) rfl rfl (any_of HT_.out (by kernel_rfl)) ?_
              refine pv (i := 13) (N := some 119) (bA 19 13935) rfl rfl (any_of HT_.out (by kernel_rfl)) ?_
              refine take_ (i := 4) (N := some 110) (v := ?_) (a' := ?_) (bA 19 13951) rfl rfl (take_ofW HT_.out HW_.out (by kernel_rfl)) (fun _ _ _ h => h) (Or.inl ⟨by rfl, ?_⟩) hHeld ?_ ?_
              rotate_left
              ·rintro w' ⟨s0, s1, s2, s3⟩
               go_simp
               with_reducible rfl
              rotate_left
              ·simp only [sp_]
               rfl
              refine take_ (i := 7) (N := some 113) (v := ?_) (a' := ?_) (bA 19 14079) rfl rfl (take_ofW HT_.out HW_.out (by kernel_rfl)) (fun _ _ _ h => h) (Or.inl ⟨by rfl, ?_⟩) hHeld ?_ ?_
              rotate_left
              ·rintro w' ⟨s0, s1, s2, s3⟩
               go_simp
               with_reducible rfl
              rotate_left
              ·simp only [sp_]
               rfl
              refine take_ (i := 11) (N := some 117) (v := ?_) (a' := ?_) (bA 19 16127) rfl rfl (take_ofW HT_.out HW_.out (by kernel_rfl)) (fun _ _ _ h => h) (Or.inl ⟨by rfl, ?_⟩) hHeld ?_ ?_
              rotate_left
              ·rintro w' ⟨s0, s1, s2, s3⟩
               go_simp
               with_reducible rfl
              rotate_left
              ·simp only [sp_]
               rfl
              refine take_ (i := 14) (N := some 120) (v := ?_) (a' := ?_) (bA 19 32511) rfl rfl (take_ofW HT_.out HW_.out (by kernel_rfl)) (fun _ _ _ h => h) (Or.inl ⟨by rfl, ?_⟩) hHeld ?_ ?_
              rotate_left
              ·rintro w' ⟨s0, s1, s2, s3⟩
               go_simp
               with_reducible rfl
              rotate_left
              ·simp only [sp_]
               rfl
              refine one_ (i := 8) (N := some 114) (bA 19 32767) rfl rfl (one_of HT_.out (by kernel_rfl)) (by decide) (fun K hK => ?_)
              refine goes_ Tryd.func23 (by kernel_rfl) rfl #[.int .i64 (rd t430 0), .int .i64 (rd t430 1)] (by rfl) rfl rfl (by (try simp only [List.map_toArray, List.map_cons, List.map_nil]); first | done | rfl | (simp only [List.length_drop, List.length_take]; rfl)) ?_
              with_reducible refine (impl_Pair.calls kj19 (rd t430 0) (rd t430 1) t475 _ A80.out (tab_at HT.out (by repeat (first | (with_reducible first | exact HB.out | apply below_alloc | apply pw_below_drewN | apply below_drew1 | (refine below_set ?_ (Aside0.out (by assumption)))) | exact HB.out)))).mono ?_
              rintro e w85 ⟨rfl, hb⟩
              have HS0_ := (hb.cell (World.block_lt_of_cell? _ _ (hHeld.1))).trans (hHeld.1)
              have HS1_ := (hb.cell (World.block_lt_of_cell? _ _ (hHeld.2.1))).trans (hHeld.2.1)
              have HS2_ := (hb.cell (World.block_lt_of_cell? _ _ (hHeld.2.2.1))).trans (hHeld.2.2.1)
              have HS3_ := (hb.cell (World.block_lt_of_cell? _ _ (hHeld.2.2.2))).trans (hHeld.2.2.2)
              refine ⟨_, rfl, ?_⟩
              have n0_ := Aside0.mk (Kd.R_below (by (with_reducible repeat (first | apply Kd.R_alloc | apply Kd.R_drewN | apply Kd.R_drew)); exact HO_8.out) hb)
              have n1_ := Aside0.mk (below_step (by repeat (first | (with_reducible first | exact HB.out | apply below_alloc | apply pw_below_drewN | apply below_drew1) | exact HB.out)) hb)
              clear HO_8
              clear HB
              have HO_8 := n0_
              have HB := n1_
              clear n0_ n1_
              (try clear hb)
              (try clear hb2)
              (try clear hk)
              (try clear hi)
              refine hK.out _ _ ⟨HS0_, HS1_, HS2_, HS3_⟩ (fun hHeld => ?_)
              clear hK K
              refine norm_ (a' := ?_) ?_ ?_
              rotate_left
              ·show Act.put _ (some 114) _ = _
               simp only [sp_]
               rfl
              refine one_ (i := 15) (N := some 121) (bA 19 65535) rfl rfl (one_of HT_.out (by kernel_rfl)) (by decide) (fun K hK => ?_)
              refine goes_ Tryd.func23 (by kernel_rfl) rfl #[.int .i64 (rd t430 2), .int .i64 (rd t430 3)] (by rfl) rfl rfl (by (try simp only [List.map_toArray, List.map_cons, List.map_nil]); first | done | rfl | (simp only [List.length_drop, List.length_take]; rfl)) ?_
              with_reducible refine (impl_Pair.calls kj19 (rd t430 2) (rd t430 3) t478 _ A82.out (tab_at HT.out (by repeat (first | (with_reducible first | exact HB.out | apply below_alloc | apply pw_below_drewN | apply below_drew1 | (refine below_set ?_ (Aside0.out (by assumption)))) | exact HB.out)))).mono ?_
              rintro e w86 ⟨rfl, hb⟩
              have HS0_ := (hb.cell (World.block_lt_of_cell? _ _ (hHeld.1))).trans (hHeld.1)
              have HS1_ := (hb.cell (World.block_lt_of_cell? _ _ (hHeld.2.1))).trans (hHeld.2.1)
              have HS2_ := (hb.cell (World.block_lt_of_cell? _ _ (hHeld.2.2.1))).trans (hHeld.2.2.1)
              have HS3_ := (hb.cell (World.block_lt_of_cell? _ _ (hHeld.2.2.2))).trans (hHeld.2.2.2)
              refine ⟨_, rfl, ?_⟩
              have n0_ := Aside0.mk (Kd.R_below (by (with_reducible repeat (first | apply Kd.R_alloc | apply Kd.R_drewN | apply Kd.R_drew)); exact HO_8.out) hb)
              have n1_ := Aside0.mk (below_step (by repeat (first | (with_reducible first | exact HB.out | apply below_alloc | apply pw_below_drewN | apply below_drew1) | exact HB.out)) hb)
              clear HO_8
              clear HB
              have HO_8 := n0_
              have HB := n1_
              clear n0_ n1_
              (try clear hb)
              (try clear hb2)
              (try clear hk)
              (try clear hi)
              refine hK.out _ _ ⟨HS0_, HS1_, HS2_, HS3_⟩ (fun hHeld => ?_)
              clear hK K
              refine norm_ (a' := ?_) ?_ ?_
              rotate_left
              ·show Act.put _ (some 121) _ = _
               simp only [sp_]
               rfl
              refine pv (i := 16) (N := some 122) (bA 19 131071) rfl rfl (any_of HT_.out (by kernel_rfl)) ?_
              refine pv (i := 17) (N := some 123) (bA 19 262143) rfl rfl (any_of HT_.out (by kernel_rfl)) ?_
              refine pv (i := 18) (N := some 2) (bA 19 524287) rfl rfl (any_of HT_.out (by kernel_rfl)) ?_
              refine done_ (done_of HT_.out (by kernel_rfl)) ?_
              try go_wp2
              go_ret
              exact ⟨by first | rfl | (simp [errW_none, errW_some] <;> rfl) | (simp [*, errW_none, errW_some] <;> rfl), by repeat (first | (with_reducible first | exact HB.out | apply below_alloc | apply pw_below_drewN | apply below_drew1) | exact HB.out)⟩
             ·rw [if_neg c81] at H
              exact absurd H (by simp)
            ·rw [if_neg c79] at H
             exact absurd H (by simp)
          ·rw [if_neg c63] at H
           exact absurd H (by simp)
        ·rw [if_neg c30] at H
         exact absurd H (by simp)
    ·replace c19 := Bool.eq_false_iff.mpr c19
     subst c19
     have H1 : (some ((t430.length : Int) == 0)) = some r := by rw [if_neg (show ¬ (false = true) by decide)] at H; exact H
     clear H
     have H := H1
     clear H1
     obtain rfl := Option.some.inj H
     go_wp2
     go_ret
     exact ⟨by first | rfl | (simp [errW_none, errW_some] <;> rfl) | (simp [*, errW_none, errW_some] <;> rfl), by repeat (first | (with_reducible first | exact HB.out | apply below_alloc | apply pw_below_drewN | apply below_drew1) | exact HB.out)⟩
   ·replace c10 := Bool.eq_false_iff.mpr c10
    subst c10
    have H1 : (none) = some r := by rw [if_neg (show ¬ (false = true) by decide)] at H; exact H
    clear H
    have H := H1
    clear H1
    exact absurd H (by simp)

end Go.Proofs.YtckgkhlgnblblaaDoor.PFnParted
