-- Written by a program of this session (wip/tools/pp.py over the kit's print).
import Derived.Test.YtgpofolfflfgiaaDoorPFnProvedx0
import Derived.Test.YtgpofolfflfgiaaDoorPFnProvedx10
import Derived.Test.YtgpofolfflfgiaaDoorPFnProvedx11
import Derived.Test.YtgpofolfflfgiaaDoorPFnProvedx14
namespace Go.Proofs.YtgpofolfflfgiaaDoor.PFnProved
open Go.RowKit Go.Proofs.YtgpofolfflfgiaaDoorW.PrintWords Go.Proofs.YtgpofolfflfgiaaDoorW.PrintLast Go.Proofs.YtgpofolfflfgiaaDoorW.PrintMore
attribute [local go_sem] max2_int min2_int max_two min_two max_three min_three max_four min_four
attribute [local go_sem high] str_gtr str_leq str_geq
set_option linter.unusedVariables false
set_option linter.unusedSimpArgs false

/-! ### impl_Parted: function 22 -/
mutual
def impl_Parted.j0 : Nat → Int → Int → List Int → Int → List Int → Bool → Option (List Int × Bool)
 | 0, _, _, _, _, _, _ => none
 | k + 1, x0, x1, x2, x3, x4, x31 => if x31 = true then (some (([] : List Int), false)) else ((impl_pairs.f k x0 x1 x2).bind fun t494 => ((impl_pairs.f k x0 x3 x4).bind fun t497 => (if 8 < (t494.length : Int) then ((impl_pairNumber.f k 8 (rd_L3 t494 8)).bind fun t501 => (if 8 < (t497.length : Int) then ((impl_pairNumber.f k 8 (rd_L3 t497 8)).bind fun t503 => (if t501 = t503 then (impl_Parted.l0 k t494 t497 (t494.length : Int) 0) else (some (([] : List Int), false)))) else (none))) else (none))))
def impl_Parted.l0 : Nat → List (List Int) → List (List Int) → Int → Int → Option (List Int × Bool)
 | 0, _, _, _, _ => none
 | k + 1, x12, x13, x50, x51 => if x51 < x50 then (if 0 ≤ x51 then (if x51 < (x12.length : Int) then ((impl_pairNumber.f k x51 (rd_L3 x12 x51)).bind fun t505 => (if x51 < (x13.length : Int) then ((impl_pairNumber.f k x51 (rd_L3 x13 x51)).bind fun t507 => (if t505 = t507 then ((slices_Concat_int64_int64.f k (([rd_L3 x12 x51, rd_L3 x13 x51] : List (List Int)))).bind fun t513 => (some (t513, true))) else (impl_Parted.l0 k x12 x13 x50 (wrap64 (x51 + 1))))) else (none))) else (none)) else (none)) else (some (([] : List Int), false))
end
def impl_Parted.f (k : Nat) (a0 : Int) (a1 : Int) (l2 : List Int) (a3 : Int) (l4 : List Int) : Option (List Int × Bool) := (impl_climbs.f a0 a1 l2).bind fun t492 => (if t492 = true then ((impl_climbs.f a0 a3 l4).bind fun t493 => (if t493 = true then (impl_Parted.j0 k a0 a1 l2 a3 l4 (a1 == a3)) else (impl_Parted.j0 k a0 a1 l2 a3 l4 true))) else (impl_Parted.j0 k a0 a1 l2 a3 l4 true))
theorem impl_Parted.mono_l : ∀ k, (∀ y0 y1 y2 y3 y4 y5, LeO (impl_Parted.j0 k y0 y1 y2 y3 y4 y5) (impl_Parted.j0 (k + 1) y0 y1 y2 y3 y4 y5)) ∧ (∀ y0 y1 y2 y3, LeO (impl_Parted.l0 k y0 y1 y2 y3) (impl_Parted.l0 (k + 1) y0 y1 y2 y3))
 | 0 => ⟨fun _ _ _ _ _ _ r h => by simp [impl_Parted.j0] at h, fun _ _ _ _ r h => by simp [impl_Parted.l0] at h⟩
 | k + 1 => by
  obtain ⟨ih0, ih1⟩ := impl_Parted.mono_l k
  refine ⟨?_, ?_⟩
  ·intro y0 y1 y2 y3 y4 y5
   unfold impl_Parted.j0
   repeat' first
   | (with_reducible exact ih0 _ _ _ _ _ _)
   | (with_reducible exact ih1 _ _ _ _)
   | (with_reducible exact impl_pairNumber.mono _ _ _)
   | (with_reducible exact impl_pairs.mono _ _ _ _)
   | (with_reducible exact slices_Concat_int64_int64.mono _ _)
   | (with_reducible exact LeO.refl _)
   | (with_reducible exact LeO.none _)
   | (with_reducible refine LeO.ite ?_ ?_)
   | (with_reducible refine LeO.bind ?_ (fun _ => ?_))
   | exact ih0 _ _ _ _ _ _
   | exact ih1 _ _ _ _
   | exact impl_pairNumber.mono _ _ _
   | exact impl_pairs.mono _ _ _ _
   | exact slices_Concat_int64_int64.mono _ _
   | exact LeO.none _
   | refine LeO.ite ?_ ?_
   | refine LeO.bind ?_ (fun _ => ?_)
  ·intro y0 y1 y2 y3
   unfold impl_Parted.l0
   repeat' first
   | (with_reducible exact ih0 _ _ _ _ _ _)
   | (with_reducible exact ih1 _ _ _ _)
   | (with_reducible exact impl_pairNumber.mono _ _ _)
   | (with_reducible exact impl_pairs.mono _ _ _ _)
   | (with_reducible exact slices_Concat_int64_int64.mono _ _)
   | (with_reducible exact LeO.refl _)
   | (with_reducible exact LeO.none _)
   | (with_reducible refine LeO.ite ?_ ?_)
   | (with_reducible refine LeO.bind ?_ (fun _ => ?_))
   | exact ih0 _ _ _ _ _ _
   | exact ih1 _ _ _ _
   | exact impl_pairNumber.mono _ _ _
   | exact impl_pairs.mono _ _ _ _
   | exact slices_Concat_int64_int64.mono _ _
   | exact LeO.none _
   | refine LeO.ite ?_ ?_
   | refine LeO.bind ?_ (fun _ => ?_)
theorem impl_Parted.mono : ∀ a0 a1 a2 a3 a4 k, LeO (impl_Parted.f k a0 a1 a2 a3 a4) (impl_Parted.f (k + 1) a0 a1 a2 a3 a4) := by
 intro a0 a1 a2 a3 a4 k
 obtain ⟨ih0, ih1⟩ := impl_Parted.mono_l k
 unfold impl_Parted.f
 repeat' first
   | (with_reducible exact ih0 _ _ _ _ _ _)
   | (with_reducible exact ih1 _ _ _ _)
   | (with_reducible exact impl_pairNumber.mono _ _ _)
   | (with_reducible exact impl_pairs.mono _ _ _ _)
   | (with_reducible exact slices_Concat_int64_int64.mono _ _)
   | (with_reducible exact LeO.refl _)
   | (with_reducible exact LeO.none _)
   | (with_reducible refine LeO.ite ?_ ?_)
   | (with_reducible refine LeO.bind ?_ (fun _ => ?_))
   | exact ih0 _ _ _ _ _ _
   | exact ih1 _ _ _ _
   | exact impl_pairNumber.mono _ _ _
   | exact impl_pairs.mono _ _ _ _
   | exact slices_Concat_int64_int64.mono _ _
   | exact LeO.none _
   | refine LeO.ite ?_ ?_
   | refine LeO.bind ?_ (fun _ => ?_)
def impl_Parted.T4 : Bool × List (List Nat × List Nat) := (true, [([], []), ([0], [0]), ([1], [1]), ([2], [2]), ([], []), ([4], [4]), ([5], [5]), ([6, 3], [6]), ([3, 7], [3, 7])])
def impl_Parted.B4 : List Nat := [0, 1, 3, 7, 0, 16, 48, 127, 255]
theorem impl_Parted.tab4 : rtab .any (opsOf Tryd.f22 4) = impl_Parted.T4 := by kernel_rfl
theorem impl_Parted.bits4 : waitsOk impl_Parted.T4.2 impl_Parted.B4 = true := by kernel_rfl
def impl_Parted.T9 : Bool × List (List Nat × List Nat) := (true, [([], []), ([], []), ([], []), ([1, 2], [1, 2]), ([3], [3]), ([0, 4], [0, 4]), ([], []), ([], []), ([], []), ([7, 8], [7, 8]), ([9], [9]), ([6, 10, 5], [6, 10]), ([5, 11], [5, 11])])
def impl_Parted.B9 : List Nat := [0, 0, 0, 6, 14, 31, 0, 0, 0, 384, 896, 2047, 4095]
theorem impl_Parted.tab9 : rtab .any (opsOf Tryd.f22 9) = impl_Parted.T9 := by kernel_rfl
theorem impl_Parted.bits9 : waitsOk impl_Parted.T9.2 impl_Parted.B9 = true := by kernel_rfl
def impl_Parted.T10 : Bool × List (List Nat × List Nat) := (true, [([], []), ([], []), ([0, 1], [0, 1]), ([2], [2]), ([], []), ([], []), ([4, 5], [4, 5]), ([6], [6]), ([3, 7], [3, 7]), ([8], [8]), ([9, 9, 0, 1, 2, 3, 4, 5, 6, 7, 8, 9], [9]), ([10, 0, 1, 2, 3, 4, 5, 6, 7, 8, 9, 10], [])])
def impl_Parted.B10 : List Nat := [0, 0, 3, 7, 0, 0, 48, 112, 255, 511, 1023, 2047]
theorem impl_Parted.tab10 : rtab .any (opsOf Tryd.f22 10) = impl_Parted.T10 := by kernel_rfl
theorem impl_Parted.bits10 : waitsOk impl_Parted.T10.2 impl_Parted.B10 = true := by kernel_rfl
set_option maxHeartbeats 8000000 in
set_option maxRecDepth 100000 in
theorem impl_Parted.calls (k : Nat) (a0 : Int) (a1 : Int) (A2 : Option Addr) (c2 : Nat) (l2 : List Int) (a3 : Int) (A4 : Option Addr) (c4 : Nat) (l4 : List Int) (r1 : List Int) (r2 : Bool) (w : World) (hr2 : Kd.C (Kd.int .i64) w A2 l2.length l2) (hc2 : l2.length ≤ c2) (hr4 : Kd.C (Kd.int .i64) w A4 l4.length l4) (hc4 : l4.length ≤ c4) (h : impl_Parted.f k a0 a1 l2 a3 l4 = some (r1, r2)) (hT : TabOk w) :
  Calls Tryd.prog 22 #[.int .i64 a0, .int .i64 a1, .slice A2 l2.length c2, .int .i64 a3, .slice A4 l4.length c4] w fun e w' => ∃ v0_ : Value, e = .returned (.tuple #[v0_, .bool r2]) ∧ Kd.R (Kd.int .i64) 2 w' w.heap.size (fun _ => True) v0_ r1 ∧ Below w.heap.size w w' := by
 have HT := Aside0.mk hT
 clear hT
 have HR2 := Aside0.mk hr2
 have HC2 := Aside0.mk hc2
 clear hr2 hc2
 have HR4 := Aside0.mk hr4
 have HC4 := Aside0.mk hc4
 clear hr4 hc4
 have HB := Aside0.mk (Below.refl w.heap.size w)
 have H : ((impl_climbs.f a0 a1 l2).bind fun t492 => (if t492 = true then ((impl_climbs.f a0 a3 l4).bind fun t493 => (if t493 = true then (impl_Parted.j0 k a0 a1 l2 a3 l4 (a1 == a3)) else (impl_Parted.j0 k a0 a1 l2 a3 l4 true))) else (impl_Parted.j0 k a0 a1 l2 a3 l4 true))) = some (r1, r2) := h
 clear h
 have HC6 := Aside0.mk H
 clear H
 go_enter Tryd.func22, Tryd.ntmps22
 go_upto_region 1 with (fail)
 go_cut [31] (fun v31 wc => ∃ (kq : Nat) (x31_5 : Bool), v31 = .bool x31_5 ∧ Aside0 (impl_Parted.j0 kq a0 a1 l2 a3 l4 x31_5 = some (r1, r2)) ∧ Aside0 (kq ≤ k) ∧ Aside0 (Below w.heap.size w wc))
 case first =>
  have H := HC6.out
  clear HC6
  replace H := Option.bind_eq_some_iff.mp H
  obtain ⟨t492, A70, H⟩ := H
  replace H : (if t492 = true then ((impl_climbs.f a0 a3 l4).bind fun t493 => (if t493 = true then (impl_Parted.j0 k a0 a1 l2 a3 l4 (a1 == a3)) else (impl_Parted.j0 k a0 a1 l2 a3 l4 true))) else (impl_Parted.j0 k a0 a1 l2 a3 l4 true)) = some (r1, r2) := H
  have A7 := Aside0.mk A70
  clear A70
  by_cases c8 : t492 = true
  ·subst c8
   have H1 : ((impl_climbs.f a0 a3 l4).bind fun t493 => (if t493 = true then (impl_Parted.j0 k a0 a1 l2 a3 l4 (a1 == a3)) else (impl_Parted.j0 k a0 a1 l2 a3 l4 true))) = some (r1, r2) := by rw [if_pos rfl] at H; exact H
   clear H
   have H := H1
   clear H1
   replace H := Option.bind_eq_some_iff.mp H
   obtain ⟨t493, A90, H⟩ := H
   replace H : (if t493 = true then (impl_Parted.j0 k a0 a1 l2 a3 l4 (a1 == a3)) else (impl_Parted.j0 k a0 a1 l2 a3 l4 true)) = some (r1, r2) := H
   have A9 := Aside0.mk A90
   clear A90
   by_cases c10 : t493 = true
   ·subst c10
    have H1 : (impl_Parted.j0 k a0 a1 l2 a3 l4 (a1 == a3)) = some (r1, r2) := by rw [if_pos rfl] at H; exact H
    clear H
    have H := H1
    clear H1
    have H' := Aside0.mk H
    clear H
    go_wp2_with (first | ((with_reducible refine gate_callee (f := 37) rfl ?_); refine goesL_ (some 18) rfl rfl Tryd.func37 (by kernel_rfl) rfl #[.int .i64 a0, .int .i64 a1, .slice A2 l2.length c2] rfl (by (try simp only [List.map_toArray, List.map_cons, List.map_nil]); first | done | rfl | (simp only [List.length_drop, List.length_take]; rfl)) ?_; (with_reducible refine (impl_climbs.calls a0 a1 _ _ l2 true _ ?side1 ?side2 A7.out).mono ?_); (case side1 => repeat (first | exact (Kd.C_below HR2.out HB.out) | (with_reducible refine Kd.C_alloc ?_ _) | (with_reducible refine Kd.C_drewN ?_ _) | (with_reducible refine Kd.C_drew ?_))); (case side2 => exact HC2.out); rintro e w' ⟨rfl, ⟨nd, rfl⟩⟩; refine ⟨_, rfl, ?_⟩) | (go_at_call 37; (with_reducible refine (impl_climbs.calls a0 a3 _ _ l4 true _ ?side1 ?side2 A9.out).mono ?_); (case side1 => repeat (first | exact (Kd.C_below HR4.out (by repeat (first | (with_reducible first | exact HB.out | apply below_alloc | apply pw_below_drewN | apply below_drew1) | exact HB.out))) | (with_reducible refine Kd.C_alloc ?_ _) | (with_reducible refine Kd.C_drewN ?_ _) | (with_reducible refine Kd.C_drew ?_))); (case side2 => exact HC4.out); rintro e w' ⟨rfl, ⟨nd, rfl⟩⟩))
    go_meet
    case rel => exact ⟨_, ((a1 == a3)), (by first | rfl | (simp; done) | (simp [*]; done)), H', ⟨by first | omega | exact Nat.le_refl _⟩, ⟨by repeat (first | (with_reducible first | exact HB.out | apply below_alloc | apply pw_below_drewN | apply below_drew1) | exact HB.out)⟩⟩
   ·replace c10 := Bool.eq_false_iff.mpr c10
    subst c10
    have H1 : (impl_Parted.j0 k a0 a1 l2 a3 l4 true) = some (r1, r2) := by rw [if_neg (show ¬ (false = true) by decide)] at H; exact H
    clear H
    have H := H1
    clear H1
    have H' := Aside0.mk H
    clear H
    go_wp2_with (first | ((with_reducible refine gate_callee (f := 37) rfl ?_); refine goesL_ (some 18) rfl rfl Tryd.func37 (by kernel_rfl) rfl #[.int .i64 a0, .int .i64 a1, .slice A2 l2.length c2] rfl (by (try simp only [List.map_toArray, List.map_cons, List.map_nil]); first | done | rfl | (simp only [List.length_drop, List.length_take]; rfl)) ?_; (with_reducible refine (impl_climbs.calls a0 a1 _ _ l2 true _ ?side1 ?side2 A7.out).mono ?_); (case side1 => repeat (first | exact (Kd.C_below HR2.out HB.out) | (with_reducible refine Kd.C_alloc ?_ _) | (with_reducible refine Kd.C_drewN ?_ _) | (with_reducible refine Kd.C_drew ?_))); (case side2 => exact HC2.out); rintro e w' ⟨rfl, ⟨nd, rfl⟩⟩; refine ⟨_, rfl, ?_⟩) | (go_at_call 37; (with_reducible refine (impl_climbs.calls a0 a3 _ _ l4 false _ ?side1 ?side2 A9.out).mono ?_); (case side1 => repeat (first | exact (Kd.C_below HR4.out (by repeat (first | (with_reducible first | exact HB.out | apply below_alloc | apply pw_below_drewN | apply below_drew1) | exact HB.out))) | (with_reducible refine Kd.C_alloc ?_ _) | (with_reducible refine Kd.C_drewN ?_ _) | (with_reducible refine Kd.C_drew ?_))); (case side2 => exact HC4.out); rintro e w' ⟨rfl, ⟨nd, rfl⟩⟩))
    go_meet
    case rel => exact ⟨_, (true), (by first | rfl | (simp; done) | (simp [*]; done)), H', ⟨by first | omega | exact Nat.le_refl _⟩, ⟨by repeat (first | (with_reducible first | exact HB.out | apply below_alloc | apply pw_below_drewN | apply below_drew1) | exact HB.out)⟩⟩
  ·replace c8 := Bool.eq_false_iff.mpr c8
   subst c8
   have H1 : (impl_Parted.j0 k a0 a1 l2 a3 l4 true) = some (r1, r2) := by rw [if_neg (show ¬ (false = true) by decide)] at H; exact H
   clear H
   have H := H1
   clear H1
   have H' := Aside0.mk H
   clear H
   go_wp2_with (first | ((with_reducible refine gate_callee (f := 37) rfl ?_); refine goesL_ (some 18) rfl rfl Tryd.func37 (by kernel_rfl) rfl #[.int .i64 a0, .int .i64 a1, .slice A2 l2.length c2] rfl (by (try simp only [List.map_toArray, List.map_cons, List.map_nil]); first | done | rfl | (simp only [List.length_drop, List.length_take]; rfl)) ?_; (with_reducible refine (impl_climbs.calls a0 a1 _ _ l2 false _ ?side1 ?side2 A7.out).mono ?_); (case side1 => repeat (first | exact (Kd.C_below HR2.out HB.out) | (with_reducible refine Kd.C_alloc ?_ _) | (with_reducible refine Kd.C_drewN ?_ _) | (with_reducible refine Kd.C_drew ?_))); (case side2 => exact HC2.out); rintro e w' ⟨rfl, ⟨nd, rfl⟩⟩; refine ⟨_, rfl, ?_⟩))
   go_meet
   case rel => exact ⟨_, (true), (by first | rfl | (simp; done) | (simp [*]; done)), H', ⟨by first | omega | exact Nat.le_refl _⟩, ⟨by repeat (first | (with_reducible first | exact HB.out | apply below_alloc | apply pw_below_drewN | apply below_drew1) | exact HB.out)⟩⟩
 case rest =>
  clear HC6
  try clear c1
  try clear c2
  try clear p2
  try clear c3
  try clear c4
  try clear c8
  try clear c10
  obtain ⟨kq, x31_5, rfl, HA, HJ5, HB⟩ := hcut
  cases kq with
  | zero => exact absurd HA.out (by simp [impl_Parted.j0])
  | succ kj5 =>
   have H := HA.out
   clear HA
   simp only [impl_Parted.j0] at H
   by_cases c11 : x31_5 = true
   ·subst c11
    have H1 : (some (([] : List Int), false)) = some (r1, r2) := by rw [if_pos rfl] at H; exact H
    clear H
    have H := H1
    clear H1
    simp only [Option.some.injEq, Prod.mk.injEq] at H
    obtain ⟨rfl, rfl⟩ := H
    go_wp2
    go_ret2
    exact ⟨_, by first | rfl | (simp [errW_none, errW_some] <;> rfl) | (simp [*, errW_none, errW_some] <;> rfl), by first | exact Kd.R_nil _ _ _ _ _ | exact Kd.N_nil _ _ _ _ _ | exact Kd.V_nil _ _ _ _ _ | exact Kd.Q_nil _ _ _ _ _ | exact Kd.S_nil _ _ _ _ _, by repeat (first | (with_reducible first | exact HB.out | apply below_alloc | apply pw_below_drewN | apply below_drew1) | exact HB.out)⟩
   ·replace c11 := Bool.eq_false_iff.mpr c11
    subst c11
    have H1 : ((impl_pairs.f kj5 a0 a1 l2).bind fun t494 => ((impl_pairs.f kj5 a0 a3 l4).bind fun t497 => (if 8 < (t494.length : Int) then ((impl_pairNumber.f kj5 8 (rd_L3 t494 8)).bind fun t501 => (if 8 < (t497.length : Int) then ((impl_pairNumber.f kj5 8 (rd_L3 t497 8)).bind fun t503 => (if t501 = t503 then (impl_Parted.l0 kj5 t494 t497 (t494.length : Int) 0) else (some (([] : List Int), false)))) else (none))) else (none)))) = some (r1, r2) := by rw [if_neg (show ¬ (false = true) by decide)] at H; exact H
    clear H
    have H := H1
    clear H1
    replace H := Option.bind_eq_some_iff.mp H
    obtain ⟨t494, A120, H⟩ := H
    replace H : ((impl_pairs.f kj5 a0 a3 l4).bind fun t497 => (if 8 < (t494.length : Int) then ((impl_pairNumber.f kj5 8 (rd_L3 t494 8)).bind fun t501 => (if 8 < (t497.length : Int) then ((impl_pairNumber.f kj5 8 (rd_L3 t497 8)).bind fun t503 => (if t501 = t503 then (impl_Parted.l0 kj5 t494 t497 (t494.length : Int) 0) else (some (([] : List Int), false)))) else (none))) else (none))) = some (r1, r2) := H
    have A12 := Aside0.mk A120
    clear A120
    replace H := Option.bind_eq_some_iff.mp H
    obtain ⟨t497, A130, H⟩ := H
    replace H : (if 8 < (t494.length : Int) then ((impl_pairNumber.f kj5 8 (rd_L3 t494 8)).bind fun t501 => (if 8 < (t497.length : Int) then ((impl_pairNumber.f kj5 8 (rd_L3 t497 8)).bind fun t503 => (if t501 = t503 then (impl_Parted.l0 kj5 t494 t497 (t494.length : Int) 0) else (some (([] : List Int), false)))) else (none))) else (none)) = some (r1, r2) := H
    have A13 := Aside0.mk A130
    clear A130
    by_cases c14 : 8 < (t494.length : Int)
    ·rw [if_pos c14] at H
     have c14b0 : decide (8 < (t494.length : Int)) = true := decide_eq_true c14
     have c14b1 : decide (8 < t494.length) = true := decide_eq_true (by omega)
     clear c14
     replace H := Option.bind_eq_some_iff.mp H
     obtain ⟨t501, A150, H⟩ := H
     replace H : (if 8 < (t497.length : Int) then ((impl_pairNumber.f kj5 8 (rd_L3 t497 8)).bind fun t503 => (if t501 = t503 then (impl_Parted.l0 kj5 t494 t497 (t494.length : Int) 0) else (some (([] : List Int), false)))) else (none)) = some (r1, r2) := H
     have A15 := Aside0.mk A150
     clear A150
     by_cases c16 : 8 < (t497.length : Int)
     ·rw [if_pos c16] at H
      have c16b0 : decide (8 < (t497.length : Int)) = true := decide_eq_true c16
      have c16b1 : decide (8 < t497.length) = true := decide_eq_true (by omega)
      clear c16
      replace H := Option.bind_eq_some_iff.mp H
      obtain ⟨t503, A170, H⟩ := H
      replace H : (if t501 = t503 then (impl_Parted.l0 kj5 t494 t497 (t494.length : Int) 0) else (some (([] : List Int), false))) = some (r1, r2) := H
      have A17 := Aside0.mk A170
      clear A170
      have HC18 := Aside0.mk H
      clear H
      try go_wp2_with (first | ((with_reducible refine gate_callee (f := 39) rfl ?_); refine goesL_ (some 35) rfl rfl Tryd.func39 (by kernel_rfl) rfl #[.int .i64 a0, .int .i64 a1, .slice A2 l2.length c2] rfl (by (try simp only [List.map_toArray, List.map_cons, List.map_nil]); first | done | rfl | (simp only [List.length_drop, List.length_take]; rfl)) ?_; (with_reducible refine (impl_pairs.calls kj5 a0 a1 _ _ l2 t494 _ ?side1 ?side2 A12.out (tab_at HT.out (by repeat (first | (with_reducible first | exact HB.out | apply below_alloc | apply pw_below_drewN | apply below_drew1 | (refine below_set ?_ (Aside0.out (by assumption)))) | exact HB.out)))).mono ?_); (case side1 => repeat (first | exact (Kd.C_below HR2.out HB.out) | (with_reducible refine Kd.C_alloc ?_ _) | (with_reducible refine Kd.C_drewN ?_ _) | (with_reducible refine Kd.C_drew ?_))); (case side2 => exact HC2.out); rintro e w19 ⟨v495, rfl, ho0, hb⟩; refine ⟨_, rfl, ?_⟩; have n0_ := Aside0.mk (Kd.N_lower (Kd.N_mono (ok' := fun k_ => True) ho0 (fun k_ hk_ => trivial)) (below_size (by repeat (first | (with_reducible first | exact HB.out | apply below_alloc | apply pw_below_drewN | apply below_drew1) | exact HB.out)))); have n1_ := Aside0.mk (below_step (by repeat (first | (with_reducible first | exact HB.out | apply below_alloc | apply pw_below_drewN | apply below_drew1) | exact HB.out)) hb); clear HB; have HO496 := n0_; have HB := n1_; clear n0_ n1_; (try clear hb); (try clear hb2); (try clear hk); (try clear hi); (try clear ho0)) | ((with_reducible refine gate_callee (f := 39) rfl ?_); refine goesL_ (some 39) rfl rfl Tryd.func39 (by kernel_rfl) rfl #[.int .i64 a0, .int .i64 a3, .slice A4 l4.length c4] rfl (by (try simp only [List.map_toArray, List.map_cons, List.map_nil]); first | done | rfl | (simp only [List.length_drop, List.length_take]; rfl)) ?_; (with_reducible refine (impl_pairs.calls kj5 a0 a3 _ _ l4 t497 _ ?side1 ?side2 A13.out (tab_at HT.out (by repeat (first | (with_reducible first | exact HB.out | apply below_alloc | apply pw_below_drewN | apply below_drew1 | (refine below_set ?_ (Aside0.out (by assumption)))) | exact HB.out)))).mono ?_); (case side1 => repeat (first | exact (Kd.C_below HR4.out HB.out) | (with_reducible refine Kd.C_alloc ?_ _) | (with_reducible refine Kd.C_drewN ?_ _) | (with_reducible refine Kd.C_drew ?_))); (case side2 => exact HC4.out); rintro e w20 ⟨v498, rfl, ho0, hb⟩; refine ⟨_, rfl, ?_⟩; have n0_ := Aside0.mk (Kd.N_elder' (by (with_reducible repeat (first | apply Kd.N_alloc | apply Kd.N_drewN | apply Kd.N_drew)); exact HO496.out) (Kd.N_base ho0) hb); have n1_ := Aside0.mk (Kd.N_lower (Kd.N_mono (ok' := fun k_ => some k_ ≠ (v495 : Value).ownBlock) ho0 (fun k_ hk_ => (Kd.fresh' (Kd.N_lt (by (with_reducible repeat (first | apply Kd.N_alloc | apply Kd.N_drewN | apply Kd.N_drew)); exact HO496.out)) k_ hk_))) (below_size (by repeat (first | (with_reducible first | exact HB.out | apply below_alloc | apply pw_below_drewN | apply below_drew1) | exact HB.out)))); have n2_ := Aside0.mk (below_step (by repeat (first | (with_reducible first | exact HB.out | apply below_alloc | apply pw_below_drewN | apply below_drew1) | exact HB.out)) hb); clear HO496; clear HB; have HO496 := n0_; have HO499 := n1_; have HB := n2_; clear n0_ n1_ n2_; (try clear hb); (try clear hb2); (try clear hk); (try clear hi); (try clear ho0)))
      have n0_ := Aside0.mk (Kd.N_drew HO496.out)
      have n1_ := Aside0.mk (Kd.N_drew HO499.out)
      have n2_ := Aside0.mk (below_drew1 HB.out)
      clear HO496
      clear HO499
      clear HB
      have HO496 := n0_
      have HO499 := n1_
      have HB := n2_
      clear n0_ n1_ n2_
      obtain ⟨Ao22, co22, eo22⟩ := Kd.N_slice HO496.out
      (first | subst eo22 | (injection eo22 with f1_ f2_ f3_; have f4_ := f1_.symm; have f5_ := f3_.symm; clear f1_ f2_ f3_; subst f4_; subst f5_))
      have p500 : 0 ≤ (8 : Int) := (by omega)
      have q500 : 8 < (t494.length : Int) := of_decide_eq_true (by first | (with_reducible assumption) | assumption)
      obtain ⟨ad500, A500_0, c500_0, e500, hx500_0, hl500_0, hi500_0⟩ := at_L3 (Kd.N_reads' HO496.out).2.2 8 p500 q500
      cases e500
      obtain ⟨ce500, hce500, hMe500, hcc500⟩ := Kd.N_get HO496.out [] 8 p500 (by first | exact q500 | exact of_decide_eq_true (by first | (with_reducible assumption) | assumption) | (have e_ := (Kd.N_reads' HO496.out).1; omega))
      obtain ⟨ua500_0, uc500_0, rfl, ul500_0, ge500_0⟩ := Kd.FK_slice_open hMe500
      have hv500_0 := hcc500 0 _ rfl
      rw [Nat.add_zero, show ((Kd.slice 2 (Kd.int .i64))).sz = 1 from rfl, Nat.mul_one] at hv500_0
      replace hv500_0 := Option.some.inj (hv500_0.symm.trans hx500_0)
      injection hv500_0 with hva_ hvn_ hvc_
      rw [hva_] at ge500_0
      rw [hvc_] at ul500_0
      have HL500_0 := Aside0.mk (show Kd.V (Kd.int .i64) 2 _ w.heap.size _ _ (rd_L3 t494 8) from Kd.V_mk ul500_0 ge500_0)
      clear hva_ hvn_ hvc_ ge500_0 ul500_0
      clear hcc500 hce500
      (try simp only [show (8 : Int).toNat = 8 from rfl, Nat.reduceMul, Nat.reduceEqDiff, Go.Addr.add, ↓reduceIte] at hx500_0)
      have qi500 : (8 < t494.length) = True := eq_true (by omega)
      (try rw [show ((8 : Int)).toNat = 8 from rfl] at hx500_0)
      have HR500_0 := Aside0.mk hi500_0
      have HC500_0 := Aside0.mk hl500_0
      clear hi500_0 hl500_0
      replace p500 := eq_true p500
      replace q500 := eq_true q500
      obtain ⟨Ao23, co23, eo23⟩ := Kd.N_slice HO499.out
      (first | subst eo23 | (injection eo23 with f1_ f2_ f3_; have f4_ := f1_.symm; have f5_ := f3_.symm; clear f1_ f2_ f3_; subst f4_; subst f5_))
      have p502 : 0 ≤ (8 : Int) := (by omega)
      have q502 : 8 < (t497.length : Int) := of_decide_eq_true (by first | (with_reducible assumption) | assumption)
      obtain ⟨ad502, A502_0, c502_0, e502, hx502_0, hl502_0, hi502_0⟩ := at_L3 (Kd.N_reads' HO499.out).2.2 8 p502 q502
      cases e502
      obtain ⟨ce502, hce502, hMe502, hcc502⟩ := Kd.N_get HO499.out [] 8 p502 (by first | exact q502 | exact of_decide_eq_true (by first | (with_reducible assumption) | assumption) | (have e_ := (Kd.N_reads' HO499.out).1; omega))
      obtain ⟨ua502_0, uc502_0, rfl, ul502_0, ge502_0⟩ := Kd.FK_slice_open hMe502
      have hv502_0 := hcc502 0 _ rfl
      rw [Nat.add_zero, show ((Kd.slice 2 (Kd.int .i64))).sz = 1 from rfl, Nat.mul_one] at hv502_0
      replace hv502_0 := Option.some.inj (hv502_0.symm.trans hx502_0)
      injection hv502_0 with hva_ hvn_ hvc_
      rw [hva_] at ge502_0
      rw [hvc_] at ul502_0
      have HL502_0 := Aside0.mk (show Kd.V (Kd.int .i64) 2 _ w.heap.size _ _ (rd_L3 t497 8) from Kd.V_mk ul502_0 ge502_0)
      clear hva_ hvn_ hvc_ ge502_0 ul502_0
      clear hcc502 hce502
      (try simp only [show (8 : Int).toNat = 8 from rfl, Nat.reduceMul, Nat.reduceEqDiff, Go.Addr.add, ↓reduceIte] at hx502_0)
      have qi502 : (8 < t497.length) = True := eq_true (by omega)
      (try rw [show ((8 : Int)).toNat = 8 from rfl] at hx502_0)
      have HR502_0 := Aside0.mk hi502_0
      have HC502_0 := Aside0.mk hl502_0
      clear hi502_0 hl502_0
      replace p502 := eq_true p502
      replace q502 := eq_true q502
      refine start_ (n := 9) (S := fun w' => w'.cell? ⟨ad500.block, ad500.off + 8, none⟩ = some (.slice A500_0 (rd_L3 t494 8).length c500_0) ∧ w'.cell? ⟨ad502.block, ad502.off + 8, none⟩ = some (.slice A502_0 (rd_L3 t497 8).length c502_0)) (ds := []) (bA 9 0) (by kernel_rfl) rfl rfl ⟨hx500_0, hx502_0⟩ (fun hHeld => ?_); refine with_tabW impl_Parted.tab4 impl_Parted.bits4 (fun HT_ HW_ => ?_)
      generalize w20.drew = w21 at HO496 HO499 HB HL500_0 HL502_0 HR500_0 HR502_0 hx500_0 hx502_0 hHeld ⊢
      refine pv (i := 0) (N := some 40) (bA 9 1) rfl rfl (any_of HT_.out (by kernel_rfl)) ?_
      refine pv (i := 1) (N := some 41) (bA 9 3) rfl rfl (any_of HT_.out (by kernel_rfl)) ?_
      refine pv (i := 4) (N := some 44) (bA 9 19) rfl rfl (any_of HT_.out (by kernel_rfl)) ?_
      refine pv (i := 5) (N := some 45) (bA 9 51) rfl rfl (any_of HT_.out (by kernel_rfl)) ?_
      refine take_ (i := 2) (N := some 42) (v := ?_) (a' := ?_) (bA 9 55) rfl rfl (take_ofW HT_.out HW_.out (by kernel_rfl)) (fun _ _ _ h => h) (Or.inl ⟨by rfl, ?_⟩) hHeld ?_ ?_
      rotate_left
      ·rintro w' ⟨s0, s1⟩
       go_simp
       with_reducible rfl
      rotate_left
      ·simp only [sp_]
       rfl
      refine take_ (i := 6) (N := some 46) (v := ?_) (a' := ?_) (bA 9 119) rfl rfl (take_ofW HT_.out HW_.out (by kernel_rfl)) (fun _ _ _ h => h) (Or.inl ⟨by rfl, ?_⟩) hHeld ?_ ?_
      rotate_left
      ·rintro w' ⟨s0, s1⟩
       go_simp
       with_reducible rfl
      rotate_left
      ·simp only [sp_]
       rfl
      refine one_ (i := 3) (N := some 43) (bA 9 127) rfl rfl (one_of HT_.out (by kernel_rfl)) (by decide) (fun K hK => ?_)
      refine goes_ Tryd.func38 (by kernel_rfl) rfl #[.int .i64 8, .slice A500_0 (rd_L3 t494 8).length c500_0] (by rfl) rfl rfl (by (try simp only [List.map_toArray, List.map_cons, List.map_nil]); first | done | rfl | (simp only [List.length_drop, List.length_take]; rfl)) ?_
      with_reducible refine (impl_pairNumber.calls kj5 8 _ _ (rd_L3 t494 8) t501 _ ?side1 ?side2 A15.out (tab_at HT.out (by repeat (first | (with_reducible first | exact HB.out | apply below_alloc | apply pw_below_drewN | apply below_drew1 | (refine below_set ?_ (Aside0.out (by assumption)))) | exact HB.out)))).mono ?_
      (case side1 => repeat (first | exact (by repeat (first | (with_reducible exact HR500_0.out) | (with_reducible refine Kd.C_alloc ?_ _) | (with_reducible refine Kd.C_drewN ?_ _) | (with_reducible refine Kd.C_drew ?_) | exact HR500_0.out)) | (with_reducible refine Kd.C_alloc ?_ _) | (with_reducible refine Kd.C_drewN ?_ _) | (with_reducible refine Kd.C_drew ?_)))
      (case side2 => exact HC500_0.out)
      rintro e w24 ⟨rfl, hb⟩
      have HS0_ := (hb.cell (World.block_lt_of_cell? _ _ (hHeld.1))).trans (hHeld.1)
      have HS1_ := (hb.cell (World.block_lt_of_cell? _ _ (hHeld.2))).trans (hHeld.2)
      refine ⟨_, rfl, ?_⟩
      have n0_ := Aside0.mk (Kd.N_below (by (with_reducible repeat (first | apply Kd.N_alloc | apply Kd.N_drewN | apply Kd.N_drew)); exact HO496.out) hb)
      have n1_ := Aside0.mk (Kd.N_below (by (with_reducible repeat (first | apply Kd.N_alloc | apply Kd.N_drewN | apply Kd.N_drew)); exact HO499.out) hb)
      have n2_ := Aside0.mk (Kd.V_below (by (with_reducible repeat (first | apply Kd.V_alloc | apply Kd.V_drewN | apply Kd.V_drew)); exact HL500_0.out) hb)
      have n3_ := Aside0.mk (Kd.V_below (by (with_reducible repeat (first | apply Kd.V_alloc | apply Kd.V_drewN | apply Kd.V_drew)); exact HL502_0.out) hb)
      have n4_ := Aside0.mk (Kd.C_below (by repeat (first | (with_reducible exact HR500_0.out) | (with_reducible refine Kd.C_alloc ?_ _) | (with_reducible refine Kd.C_drewN ?_ _) | (with_reducible refine Kd.C_drew ?_) | exact HR500_0.out)) hb)
      have n5_ := Aside0.mk (Kd.C_below (by repeat (first | (with_reducible exact HR502_0.out) | (with_reducible refine Kd.C_alloc ?_ _) | (with_reducible refine Kd.C_drewN ?_ _) | (with_reducible refine Kd.C_drew ?_) | exact HR502_0.out)) hb)
      have n6_ := Aside0.mk (below_step (by repeat (first | (with_reducible first | exact HB.out | apply below_alloc | apply pw_below_drewN | apply below_drew1) | exact HB.out)) hb)
      clear HO496
      clear HO499
      clear HL500_0
      clear HL502_0
      clear HR500_0
      clear HR502_0
      clear HB
      have HO496 := n0_
      have HO499 := n1_
      have HL500_0 := n2_
      have HL502_0 := n3_
      have HR500_0 := n4_
      have HR502_0 := n5_
      have HB := n6_
      clear n0_ n1_ n2_ n3_ n4_ n5_ n6_
      (try clear hb)
      (try clear hb2)
      (try clear hk)
      (try clear hi)
      refine hK.out _ _ ⟨HS0_, HS1_⟩ (fun hHeld => ?_)
      clear hK K
      refine norm_ (a' := ?_) ?_ ?_
      rotate_left
      ·show Act.put _ (some 43) _ = _
       simp only [sp_]
       rfl
      refine one_ (i := 7) (N := some 47) (bA 9 255) rfl rfl (one_of HT_.out (by kernel_rfl)) (by decide) (fun K hK => ?_)
      refine goes_ Tryd.func38 (by kernel_rfl) rfl #[.int .i64 8, .slice A502_0 (rd_L3 t497 8).length c502_0] (by rfl) rfl rfl (by (try simp only [List.map_toArray, List.map_cons, List.map_nil]); first | done | rfl | (simp only [List.length_drop, List.length_take]; rfl)) ?_
      with_reducible refine (impl_pairNumber.calls kj5 8 _ _ (rd_L3 t497 8) t503 _ ?side1 ?side2 A17.out (tab_at HT.out (by repeat (first | (with_reducible first | exact HB.out | apply below_alloc | apply pw_below_drewN | apply below_drew1 | (refine below_set ?_ (Aside0.out (by assumption)))) | exact HB.out)))).mono ?_
      (case side1 => repeat (first | exact (by repeat (first | (with_reducible exact HR502_0.out) | (with_reducible refine Kd.C_alloc ?_ _) | (with_reducible refine Kd.C_drewN ?_ _) | (with_reducible refine Kd.C_drew ?_) | exact HR502_0.out)) | (with_reducible refine Kd.C_alloc ?_ _) | (with_reducible refine Kd.C_drewN ?_ _) | (with_reducible refine Kd.C_drew ?_)))
      (case side2 => exact HC502_0.out)
      rintro e w25 ⟨rfl, hb⟩
      have HS0_ := (hb.cell (World.block_lt_of_cell? _ _ (hHeld.1))).trans (hHeld.1)
      have HS1_ := (hb.cell (World.block_lt_of_cell? _ _ (hHeld.2))).trans (hHeld.2)
      refine ⟨_, rfl, ?_⟩
      have n0_ := Aside0.mk (Kd.N_below (by (with_reducible repeat (first | apply Kd.N_alloc | apply Kd.N_drewN | apply Kd.N_drew)); exact HO496.out) hb)
      have n1_ := Aside0.mk (Kd.N_below (by (with_reducible repeat (first | apply Kd.N_alloc | apply Kd.N_drewN | apply Kd.N_drew)); exact HO499.out) hb)
      have n2_ := Aside0.mk (Kd.V_below (by (with_reducible repeat (first | apply Kd.V_alloc | apply Kd.V_drewN | apply Kd.V_drew)); exact HL500_0.out) hb)
      have n3_ := Aside0.mk (Kd.V_below (by (with_reducible repeat (first | apply Kd.V_alloc | apply Kd.V_drewN | apply Kd.V_drew)); exact HL502_0.out) hb)
      have n4_ := Aside0.mk (Kd.C_below (by repeat (first | (with_reducible exact HR500_0.out) | (with_reducible refine Kd.C_alloc ?_ _) | (with_reducible refine Kd.C_drewN ?_ _) | (with_reducible refine Kd.C_drew ?_) | exact HR500_0.out)) hb)
      have n5_ := Aside0.mk (Kd.C_below (by repeat (first | (with_reducible exact HR502_0.out) | (with_reducible refine Kd.C_alloc ?_ _) | (with_reducible refine Kd.C_drewN ?_ _) | (with_reducible refine Kd.C_drew ?_) | exact HR502_0.out)) hb)
      have n6_ := Aside0.mk (below_step (by repeat (first | (with_reducible first | exact HB.out | apply below_alloc | apply pw_below_drewN | apply below_drew1) | exact HB.out)) hb)
      clear HO496
      clear HO499
      clear HL500_0
      clear HL502_0
      clear HR500_0
      clear HR502_0
      clear HB
      have HO496 := n0_
      have HO499 := n1_
      have HL500_0 := n2_
      have HL502_0 := n3_
      have HR500_0 := n4_
      have HR502_0 := n5_
      have HB := n6_
      clear n0_ n1_ n2_ n3_ n4_ n5_ n6_
      (try clear hb)
      (try clear hb2)
      (try clear hk)
      (try clear hi)
      refine hK.out _ _ ⟨HS0_, HS1_⟩ (fun hHeld => ?_)
      clear hK K
      refine norm_ (a' := ?_) ?_ ?_
      rotate_left
      ·show Act.put _ (some 47) _ = _
       simp only [sp_]
       rfl
      refine pv (i := 8) (N := some 48) (bA 9 511) rfl rfl (any_of HT_.out (by kernel_rfl)) ?_
      refine done_ (done_of HT_.out (by kernel_rfl)) ?_
      go_upto_if 48 with (fail)
      have H := HC18.out
      clear HC18
      by_cases c26 : t501 = t503
      ·rw [if_pos c26] at H
       have c26b0 : (t501 == t503) = true := beq_iff_eq.mpr c26
       have c26b1 : (t501 != t503) = false := bne_eq_false_iff_eq.mpr c26
       clear c26
       (first | rw [c26b0] | (simp only [i64_w, i32_w]; rw [c26b0]) | skip)
       try rw [c26b1]
       have H' := Aside0.mk H
       clear H
       go_wp2
       go_loopg [51] kj5 (fun kq v51 w' => ∃ (x51_2 : Int), v51 = .int .i64 x51_2 ∧ Aside0 (impl_Parted.l0 kq t494 t497 (t494.length : Int) x51_2 = some (r1, r2)) ∧ Aside0 (kq ≤ kj5) ∧ Aside0 (Kd.N (Kd.slice 2 (Kd.int .i64)) 28 w' w.heap.size (fun k_ => some k_ ≠ ((.slice (some ad502) t497.length co23) : Value).ownBlock) (.slice (some ad500) t494.length co22) t494) ∧ Aside0 (Kd.N (Kd.slice 2 (Kd.int .i64)) 28 w' w.heap.size (fun k_ => some k_ ≠ ((.slice (some ad500) t494.length co22) : Value).ownBlock) (.slice (some ad502) t497.length co23) t497) ∧ Aside0 (Kd.C (Kd.int .i64) w' A500_0 (rd_L3 t494 8).length (rd_L3 t494 8)) ∧ Aside0 (Kd.C (Kd.int .i64) w' A502_0 (rd_L3 t497 8).length (rd_L3 t497 8)) ∧ Aside0 (Below w.heap.size w w'))
       case atStart => exact ⟨(0), (by first | rfl | (simp; done) | (simp [*]; done)), H', ⟨Nat.le_refl _⟩, ⟨by (with_reducible repeat (first | apply Kd.N_alloc | apply Kd.N_drewN | apply Kd.N_drew)); exact Kd.N_mono HO496.out (fun _ hk => hk.2)⟩, ⟨by (with_reducible repeat (first | apply Kd.N_alloc | apply Kd.N_drewN | apply Kd.N_drew)); exact HO499.out⟩, ⟨by repeat (first | (with_reducible exact HR500_0.out) | (with_reducible refine Kd.C_alloc ?_ _) | (with_reducible refine Kd.C_drewN ?_ _) | (with_reducible refine Kd.C_drew ?_) | exact HR500_0.out)⟩, ⟨by repeat (first | (with_reducible exact HR502_0.out) | (with_reducible refine Kd.C_alloc ?_ _) | (with_reducible refine Kd.C_drewN ?_ _) | (with_reducible refine Kd.C_drew ?_) | exact HR502_0.out)⟩, ⟨by repeat (first | (with_reducible first | exact HB.out | apply below_alloc | apply pw_below_drewN | apply below_drew1) | exact HB.out)⟩⟩
       case round =>
        clear H'
        try clear c1
        try clear c2
        try clear p2
        try clear c3
        try clear c4
        try clear c5
        try clear p5
        try clear q5
        try clear hx5
        try clear qi5
        try clear c8
        try clear c10
        try clear c11
        try clear c14
        try clear c14b0
        try clear c14b1
        try clear c16
        try clear c16b0
        try clear c16b1
        try clear c22
        try clear c26
        try clear c26b0
        try clear c26b1
        try clear hx500_0
        try clear hx502_0
        try clear p2
        try clear p500
        try clear p502
        try clear q500
        try clear q502
        obtain ⟨x51_2, rfl, HA, HK2, HO_12, HO_13, HR500_0, HR502_0, HB⟩ := hrel
        cases gk with
        | zero => exact absurd HA.out (by simp [impl_Parted.l0])
        | succ k2 =>
         have H := HA.out
         clear HA
         simp only [impl_Parted.l0] at H
         by_cases c27 : x51_2 < (t494.length : Int)
         ·rw [if_pos c27] at H
          have c27b0 : decide (x51_2 < (t494.length : Int)) = true := decide_eq_true c27
          clear c27
          by_cases c28 : 0 ≤ x51_2
          ·rw [if_pos c28] at H
           have c28b0 : decide (0 ≤ x51_2) = true := decide_eq_true c28
           clear c28
           by_cases c29 : x51_2 < (t494.length : Int)
           ·rw [if_pos c29] at H
            have c29b0 : decide (x51_2 < (t494.length : Int)) = true := decide_eq_true c29
            clear c29
            replace H := Option.bind_eq_some_iff.mp H
            obtain ⟨t505, A300, H⟩ := H
            replace H : (if x51_2 < (t497.length : Int) then ((impl_pairNumber.f k2 x51_2 (rd_L3 t497 x51_2)).bind fun t507 => (if t505 = t507 then ((slices_Concat_int64_int64.f k2 (([rd_L3 t494 x51_2, rd_L3 t497 x51_2] : List (List Int)))).bind fun t513 => (some (t513, true))) else (impl_Parted.l0 k2 t494 t497 (t494.length : Int) (wrap64 (x51_2 + 1))))) else (none)) = some (r1, r2) := H
            have A30 := Aside0.mk A300
            clear A300
            by_cases c31 : x51_2 < (t497.length : Int)
            ·rw [if_pos c31] at H
             have c31b0 : decide (x51_2 < (t497.length : Int)) = true := decide_eq_true c31
             clear c31
             replace H := Option.bind_eq_some_iff.mp H
             obtain ⟨t507, A320, H⟩ := H
             replace H : (if t505 = t507 then ((slices_Concat_int64_int64.f k2 (([rd_L3 t494 x51_2, rd_L3 t497 x51_2] : List (List Int)))).bind fun t513 => (some (t513, true))) else (impl_Parted.l0 k2 t494 t497 (t494.length : Int) (wrap64 (x51_2 + 1)))) = some (r1, r2) := H
             have A32 := Aside0.mk A320
             clear A320
             have HC33 := Aside0.mk H
             clear H
             try go_wp2
             have n0_ := Aside0.mk (Kd.N_drew HO_12.out)
             have n1_ := Aside0.mk (Kd.N_drew HO_13.out)
             have n2_ := Aside0.mk (Kd.C_drew HR500_0.out)
             have n3_ := Aside0.mk (Kd.C_drew HR502_0.out)
             have n4_ := Aside0.mk (below_drew1 HB.out)
             clear HO_12
             clear HO_13
             clear HR500_0
             clear HR502_0
             clear HB
             have HO_12 := n0_
             have HO_13 := n1_
             have HR500_0 := n2_
             have HR502_0 := n3_
             have HB := n4_
             clear n0_ n1_ n2_ n3_ n4_
             have p504 : 0 ≤ (x51_2 : Int) := of_decide_eq_true (by first | (with_reducible assumption) | assumption)
             have q504 : x51_2 < (t494.length : Int) := of_decide_eq_true (by first | (with_reducible assumption) | assumption)
             obtain ⟨ad504, A504_0, c504_0, e504, hx504_0, hl504_0, hi504_0⟩ := at_L3 (Kd.N_reads' HO_12.out).2.2 x51_2 p504 q504
             obtain rfl : ad500 = ad504 := (by injection e504)
             obtain ⟨ce504, hce504, hMe504, hcc504⟩ := Kd.N_get HO_12.out [] x51_2 p504 (by first | exact q504 | exact of_decide_eq_true (by first | (with_reducible assumption) | assumption) | (have e_ := (Kd.N_reads' HO_12.out).1; omega))
             obtain ⟨ua504_0, uc504_0, rfl, ul504_0, ge504_0⟩ := Kd.FK_slice_open hMe504
             have hv504_0 := hcc504 0 _ rfl
             rw [Nat.add_zero, show ((Kd.slice 2 (Kd.int .i64))).sz = 1 from rfl, Nat.mul_one] at hv504_0
             replace hv504_0 := Option.some.inj (hv504_0.symm.trans hx504_0)
             injection hv504_0 with hva_ hvn_ hvc_
             rw [hva_] at ge504_0
             rw [hvc_] at ul504_0
             have HL504_0 := Aside0.mk (show Kd.V (Kd.int .i64) 2 _ w.heap.size _ _ (rd_L3 t494 x51_2) from Kd.V_mk ul504_0 ge504_0)
             clear hva_ hvn_ hvc_ ge504_0 ul504_0
             clear hcc504 hce504
             have HR504_0 := Aside0.mk hi504_0
             have HC504_0 := Aside0.mk hl504_0
             clear hi504_0 hl504_0
             replace p504 := eq_true p504
             replace q504 := eq_true q504
             have p506 : 0 ≤ (x51_2 : Int) := of_decide_eq_true (by first | (with_reducible assumption) | assumption)
             have q506 : x51_2 < (t497.length : Int) := of_decide_eq_true (by first | (with_reducible assumption) | assumption)
             obtain ⟨ad506, A506_0, c506_0, e506, hx506_0, hl506_0, hi506_0⟩ := at_L3 (Kd.N_reads' HO_13.out).2.2 x51_2 p506 q506
             obtain rfl : ad502 = ad506 := (by injection e506)
             obtain ⟨ce506, hce506, hMe506, hcc506⟩ := Kd.N_get HO_13.out [] x51_2 p506 (by first | exact q506 | exact of_decide_eq_true (by first | (with_reducible assumption) | assumption) | (have e_ := (Kd.N_reads' HO_13.out).1; omega))
             obtain ⟨ua506_0, uc506_0, rfl, ul506_0, ge506_0⟩ := Kd.FK_slice_open hMe506
             have hv506_0 := hcc506 0 _ rfl
             rw [Nat.add_zero, show ((Kd.slice 2 (Kd.int .i64))).sz = 1 from rfl, Nat.mul_one] at hv506_0
             replace hv506_0 := Option.some.inj (hv506_0.symm.trans hx506_0)
             injection hv506_0 with hva_ hvn_ hvc_
             rw [hva_] at ge506_0
             rw [hvc_] at ul506_0
             have HL506_0 := Aside0.mk (show Kd.V (Kd.int .i64) 2 _ w.heap.size _ _ (rd_L3 t497 x51_2) from Kd.V_mk ul506_0 ge506_0)
             clear hva_ hvn_ hvc_ ge506_0 ul506_0
             clear hcc506 hce506
             have HR506_0 := Aside0.mk hi506_0
             have HC506_0 := Aside0.mk hl506_0
             clear hi506_0 hl506_0
             replace p506 := eq_true p506
             replace q506 := eq_true q506
             refine start_ (n := 13) (S := fun w' => w'.cell? (ad500.add (x51_2).toNat) = some (.slice A504_0 (rd_L3 t494 x51_2).length c504_0) ∧ w'.cell? (ad502.add (x51_2).toNat) = some (.slice A506_0 (rd_L3 t497 x51_2).length c506_0)) (ds := []) (bA 13 0) (by kernel_rfl) rfl rfl ⟨hx504_0, hx506_0⟩ (fun hHeld => ?_); refine with_tabW impl_Parted.tab9 impl_Parted.bits9 (fun HT_ HW_ => ?_)
             generalize wr.drew = w34 at HO_12 HO_13 HR500_0 HR502_0 HB HL504_0 HL506_0 HR504_0 HR506_0 hx504_0 hx506_0 hHeld ⊢
             refine pv (i := 0) (N := some 54) (bA 13 1) rfl rfl (any_of HT_.out (by kernel_rfl)) ?_
             refine pv (i := 1) (N := some 55) (bA 13 3) rfl rfl (any_of HT_.out (by kernel_rfl)) ?_
             refine pv (i := 2) (N := some 56) (bA 13 7) rfl rfl (any_of HT_.out (by kernel_rfl)) ?_
             refine pv (i := 3) (N := some 57) (bA 13 15) rfl rfl (any_of HT_.out (by kernel_rfl)) ?_
             refine pv (i := 6) (N := some 60) (bA 13 79) rfl rfl (any_of HT_.out (by kernel_rfl)) ?_
             refine pv (i := 7) (N := some 61) (bA 13 207) rfl rfl (any_of HT_.out (by kernel_rfl)) ?_
             refine pv (i := 8) (N := some 62) (bA 13 463) rfl rfl (any_of HT_.out (by kernel_rfl)) ?_
             refine pv (i := 9) (N := some 63) (bA 13 975) rfl rfl (any_of HT_.out (by kernel_rfl)) ?_
             refine take_ (i := 4) (N := some 58) (v := ?_) (a' := ?_) (bA 13 991) rfl rfl (take_ofW HT_.out HW_.out (by kernel_rfl)) (fun _ _ _ h => h) (Or.inl ⟨by rfl, ?_⟩) hHeld ?_ ?_
             rotate_left
             ·rintro w' ⟨s0, s1⟩
              go_simp
              with_reducible rfl
             rotate_left
             ·simp only [sp_]
              rfl
             refine take_ (i := 10) (N := some 64) (v := ?_) (a' := ?_) (bA 13 2015) rfl rfl (take_ofW HT_.out HW_.out (by kernel_rfl)) (fun _ _ _ h => h) (Or.inl ⟨by rfl, ?_⟩) hHeld ?_ ?_
             rotate_left
             ·rintro w' ⟨s0, s1⟩
              go_simp
              with_reducible rfl
             rotate_left
             ·simp only [sp_]
              rfl
             refine one_ (i := 5) (N := some 59) (bA 13 2047) rfl rfl (one_of HT_.out (by kernel_rfl)) (by decide) (fun K hK => ?_)
             refine goes_ Tryd.func38 (by kernel_rfl) rfl #[.int .i64 x51_2, .slice A504_0 (rd_L3 t494 x51_2).length c504_0] (by rfl) rfl rfl (by (try simp only [List.map_toArray, List.map_cons, List.map_nil]); first | done | rfl | (simp only [List.length_drop, List.length_take]; rfl)) ?_
             with_reducible refine (impl_pairNumber.calls k2 x51_2 _ _ (rd_L3 t494 x51_2) t505 _ ?side1 ?side2 A30.out (tab_at HT.out (by repeat (first | (with_reducible first | exact HB.out | apply below_alloc | apply pw_below_drewN | apply below_drew1 | (refine below_set ?_ (Aside0.out (by assumption)))) | exact HB.out)))).mono ?_
             (case side1 => repeat (first | exact (by repeat (first | (with_reducible exact HR504_0.out) | (with_reducible refine Kd.C_alloc ?_ _) | (with_reducible refine Kd.C_drewN ?_ _) | (with_reducible refine Kd.C_drew ?_) | exact HR504_0.out)) | (with_reducible refine Kd.C_alloc ?_ _) | (with_reducible refine Kd.C_drewN ?_ _) | (with_reducible refine Kd.C_drew ?_)))
             (case side2 => exact HC504_0.out)
             rintro e w35 ⟨rfl, hb⟩
             have HS0_ := (hb.cell (World.block_lt_of_cell? _ _ (hHeld.1))).trans (hHeld.1)
             have HS1_ := (hb.cell (World.block_lt_of_cell? _ _ (hHeld.2))).trans (hHeld.2)
             refine ⟨_, rfl, ?_⟩
             have n0_ := Aside0.mk (Kd.N_below (by (with_reducible repeat (first | apply Kd.N_alloc | apply Kd.N_drewN | apply Kd.N_drew)); exact HO_12.out) hb)
             have n1_ := Aside0.mk (Kd.N_below (by (with_reducible repeat (first | apply Kd.N_alloc | apply Kd.N_drewN | apply Kd.N_drew)); exact HO_13.out) hb)
             have n2_ := Aside0.mk (Kd.V_below (by (with_reducible repeat (first | apply Kd.V_alloc | apply Kd.V_drewN | apply Kd.V_drew)); exact HL504_0.out) hb)
             have n3_ := Aside0.mk (Kd.V_below (by (with_reducible repeat (first | apply Kd.V_alloc | apply Kd.V_drewN | apply Kd.V_drew)); exact HL506_0.out) hb)
             have n4_ := Aside0.mk (Kd.C_below (by repeat (first | (with_reducible exact HR500_0.out) | (with_reducible refine Kd.C_alloc ?_ _) | (with_reducible refine Kd.C_drewN ?_ _) | (with_reducible refine Kd.C_drew ?_) | exact HR500_0.out)) hb)
             have n5_ := Aside0.mk (Kd.C_below (by repeat (first | (with_reducible exact HR502_0.out) | (with_reducible refine Kd.C_alloc ?_ _) | (with_reducible refine Kd.C_drewN ?_ _) | (with_reducible refine Kd.C_drew ?_) | exact HR502_0.out)) hb)
             have n6_ := Aside0.mk (Kd.C_below (by repeat (first | (with_reducible exact HR504_0.out) | (with_reducible refine Kd.C_alloc ?_ _) | (with_reducible refine Kd.C_drewN ?_ _) | (with_reducible refine Kd.C_drew ?_) | exact HR504_0.out)) hb)
             have n7_ := Aside0.mk (Kd.C_below (by repeat (first | (with_reducible exact HR506_0.out) | (with_reducible refine Kd.C_alloc ?_ _) | (with_reducible refine Kd.C_drewN ?_ _) | (with_reducible refine Kd.C_drew ?_) | exact HR506_0.out)) hb)
             have n8_ := Aside0.mk (below_step (by repeat (first | (with_reducible first | exact HB.out | apply below_alloc | apply pw_below_drewN | apply below_drew1) | exact HB.out)) hb)
             clear HO_12
             clear HO_13
             clear HL504_0
             clear HL506_0
             clear HR500_0
             clear HR502_0
             clear HR504_0
             clear HR506_0
             clear HB
             have HO_12 := n0_
             have HO_13 := n1_
             have HL504_0 := n2_
             have HL506_0 := n3_
             have HR500_0 := n4_
             have HR502_0 := n5_
             have HR504_0 := n6_
             have HR506_0 := n7_
             have HB := n8_
             clear n0_ n1_ n2_ n3_ n4_ n5_ n6_ n7_ n8_
             (try clear hb)
             (try clear hb2)
             (try clear hk)
             (try clear hi)
             refine hK.out _ _ ⟨HS0_, HS1_⟩ (fun hHeld => ?_)
             clear hK K
             refine norm_ (a' := ?_) ?_ ?_
             rotate_left
             ·show Act.put _ (some 59) _ = _
              simp only [sp_]
              rfl
             refine one_ (i := 11) (N := some 65) (bA 13 4095) rfl rfl (one_of HT_.out (by kernel_rfl)) (by decide) (fun K hK => ?_)
             refine goes_ Tryd.func38 (by kernel_rfl) rfl #[.int .i64 x51_2, .slice A506_0 (rd_L3 t497 x51_2).length c506_0] (by rfl) rfl rfl (by (try simp only [List.map_toArray, List.map_cons, List.map_nil]); first | done | rfl | (simp only [List.length_drop, List.length_take]; rfl)) ?_
             with_reducible refine (impl_pairNumber.calls k2 x51_2 _ _ (rd_L3 t497 x51_2) t507 _ ?side1 ?side2 A32.out (tab_at HT.out (by repeat (first | (with_reducible first | exact HB.out | apply below_alloc | apply pw_below_drewN | apply below_drew1 | (refine below_set ?_ (Aside0.out (by assumption)))) | exact HB.out)))).mono ?_
             (case side1 => repeat (first | exact (by repeat (first | (with_reducible exact HR506_0.out) | (with_reducible refine Kd.C_alloc ?_ _) | (with_reducible refine Kd.C_drewN ?_ _) | (with_reducible refine Kd.C_drew ?_) | exact HR506_0.out)) | (with_reducible refine Kd.C_alloc ?_ _) | (with_reducible refine Kd.C_drewN ?_ _) | (with_reducible refine Kd.C_drew ?_)))
             (case side2 => exact HC506_0.out)
             rintro e w36 ⟨rfl, hb⟩
             have HS0_ := (hb.cell (World.block_lt_of_cell? _ _ (hHeld.1))).trans (hHeld.1)
             have HS1_ := (hb.cell (World.block_lt_of_cell? _ _ (hHeld.2))).trans (hHeld.2)
             refine ⟨_, rfl, ?_⟩
             have n0_ := Aside0.mk (Kd.N_below (by (with_reducible repeat (first | apply Kd.N_alloc | apply Kd.N_drewN | apply Kd.N_drew)); exact HO_12.out) hb)
             have n1_ := Aside0.mk (Kd.N_below (by (with_reducible repeat (first | apply Kd.N_alloc | apply Kd.N_drewN | apply Kd.N_drew)); exact HO_13.out) hb)
             have n2_ := Aside0.mk (Kd.V_below (by (with_reducible repeat (first | apply Kd.V_alloc | apply Kd.V_drewN | apply Kd.V_drew)); exact HL504_0.out) hb)
             have n3_ := Aside0.mk (Kd.V_below (by (with_reducible repeat (first | apply Kd.V_alloc | apply Kd.V_drewN | apply Kd.V_drew)); exact HL506_0.out) hb)
             have n4_ := Aside0.mk (Kd.C_below (by repeat (first | (with_reducible exact HR500_0.out) | (with_reducible refine Kd.C_alloc ?_ _) | (with_reducible refine Kd.C_drewN ?_ _) | (with_reducible refine Kd.C_drew ?_) | exact HR500_0.out)) hb)
             have n5_ := Aside0.mk (Kd.C_below (by repeat (first | (with_reducible exact HR502_0.out) | (with_reducible refine Kd.C_alloc ?_ _) | (with_reducible refine Kd.C_drewN ?_ _) | (with_reducible refine Kd.C_drew ?_) | exact HR502_0.out)) hb)
             have n6_ := Aside0.mk (Kd.C_below (by repeat (first | (with_reducible exact HR504_0.out) | (with_reducible refine Kd.C_alloc ?_ _) | (with_reducible refine Kd.C_drewN ?_ _) | (with_reducible refine Kd.C_drew ?_) | exact HR504_0.out)) hb)
             have n7_ := Aside0.mk (Kd.C_below (by repeat (first | (with_reducible exact HR506_0.out) | (with_reducible refine Kd.C_alloc ?_ _) | (with_reducible refine Kd.C_drewN ?_ _) | (with_reducible refine Kd.C_drew ?_) | exact HR506_0.out)) hb)
             have n8_ := Aside0.mk (below_step (by repeat (first | (with_reducible first | exact HB.out | apply below_alloc | apply pw_below_drewN | apply below_drew1) | exact HB.out)) hb)
             clear HO_12
             clear HO_13
             clear HL504_0
             clear HL506_0
             clear HR500_0
             clear HR502_0
             clear HR504_0
             clear HR506_0
             clear HB
             have HO_12 := n0_
             have HO_13 := n1_
             have HL504_0 := n2_
             have HL506_0 := n3_
             have HR500_0 := n4_
             have HR502_0 := n5_
             have HR504_0 := n6_
             have HR506_0 := n7_
             have HB := n8_
             clear n0_ n1_ n2_ n3_ n4_ n5_ n6_ n7_ n8_
             (try clear hb)
             (try clear hb2)
             (try clear hk)
             (try clear hi)
             refine hK.out _ _ ⟨HS0_, HS1_⟩ (fun hHeld => ?_)
             clear hK K
             refine norm_ (a' := ?_) ?_ ?_
             rotate_left
             ·show Act.put _ (some 65) _ = _
              simp only [sp_]
              rfl
             refine pv (i := 12) (N := some 66) (bA 13 8191) rfl rfl (any_of HT_.out (by kernel_rfl)) ?_
             refine done_ (done_of HT_.out (by kernel_rfl)) ?_
             go_upto_if 66 with (fail)
             have H := HC33.out
             clear HC33
             by_cases c37 : t505 = t507
             ·rw [if_pos c37] at H
              have c37b0 : (t505 == t507) = true := beq_iff_eq.mpr c37
              have c37b1 : (t505 != t507) = false := bne_eq_false_iff_eq.mpr c37
              clear c37
              (first | rw [c37b0] | (simp only [i64_w, i32_w]; rw [c37b0]) | skip)
              try rw [c37b1]
              obtain ⟨y510, hy510⟩ : ∃ y_ : List (List Int), y_ = (([rd_L3 t494 x51_2, rd_L3 t497 x51_2] : List (List Int))) := ⟨_, rfl⟩
              replace H : ((slices_Concat_int64_int64.f k2 y510).bind fun t513 => (some (t513, true))) = some (r1, r2) := by first | (rw [hy510]; with_reducible exact H) | (have H2_ := (Option.bind_some _ _).symm.trans H; rw [hy510]; with_reducible exact H2_) | (have H2_ := (Option.bind_some _ _).symm.trans H; with_reducible exact H2_) | with_reducible exact H | (rw [hy510]; exact H) | exact H
              have Ny510 := Aside0.mk hy510
              clear hy510
              replace H := Option.bind_eq_some_iff.mp H
              obtain ⟨t513, A380, H⟩ := H
              replace H : (some (t513, true)) = some (r1, r2) := H
              have A38 := Aside0.mk A380
              clear A380
              simp only [Option.some.injEq, Prod.mk.injEq] at H
              obtain ⟨rfl, rfl⟩ := H
              try go_wp2
              have n0_ := Aside0.mk (Kd.N_drew HO_12.out)
              have n1_ := Aside0.mk (Kd.N_drew HO_13.out)
              have n2_ := Aside0.mk (Kd.V_drew HL504_0.out)
              have n3_ := Aside0.mk (Kd.V_drew HL506_0.out)
              have n4_ := Aside0.mk (Kd.C_drew HR500_0.out)
              have n5_ := Aside0.mk (Kd.C_drew HR502_0.out)
              have n6_ := Aside0.mk (Kd.C_drew HR504_0.out)
              have n7_ := Aside0.mk (Kd.C_drew HR506_0.out)
              have n8_ := Aside0.mk (below_drew1 HB.out)
              clear HO_12
              clear HO_13
              clear HL504_0
              clear HL506_0
              clear HR500_0
              clear HR502_0
              clear HR504_0
              clear HR506_0
              clear HB
              have HO_12 := n0_
              have HO_13 := n1_
              have HL504_0 := n2_
              have HL506_0 := n3_
              have HR500_0 := n4_
              have HR502_0 := n5_
              have HR504_0 := n6_
              have HR506_0 := n7_
              have HB := n8_
              clear n0_ n1_ n2_ n3_ n4_ n5_ n6_ n7_ n8_
              have p508 : 0 ≤ (x51_2 : Int) := of_decide_eq_true (by first | (with_reducible assumption) | assumption)
              have q508 : x51_2 < (t494.length : Int) := of_decide_eq_true (by first | (with_reducible assumption) | assumption)
              obtain ⟨ad508, A508_0, c508_0, e508, hx508_0, hl508_0, hi508_0⟩ := at_L3 (Kd.N_reads' HO_12.out).2.2 x51_2 p508 q508
              obtain rfl : ad500 = ad508 := (by injection e508)
              obtain ⟨ce508, hce508, hMe508, hcc508⟩ := Kd.N_get HO_12.out [] x51_2 p508 (by first | exact q508 | exact of_decide_eq_true (by first | (with_reducible assumption) | assumption) | (have e_ := (Kd.N_reads' HO_12.out).1; omega))
              obtain ⟨ua508_0, uc508_0, rfl, ul508_0, ge508_0⟩ := Kd.FK_slice_open hMe508
              have hv508_0 := hcc508 0 _ rfl
              rw [Nat.add_zero, show ((Kd.slice 2 (Kd.int .i64))).sz = 1 from rfl, Nat.mul_one] at hv508_0
              replace hv508_0 := Option.some.inj (hv508_0.symm.trans hx508_0)
              injection hv508_0 with hva_ hvn_ hvc_
              rw [hva_] at ge508_0
              rw [hvc_] at ul508_0
              have HL508_0 := Aside0.mk (show Kd.V (Kd.int .i64) 2 _ w.heap.size _ _ (rd_L3 t494 x51_2) from Kd.V_mk ul508_0 ge508_0)
              clear hva_ hvn_ hvc_ ge508_0 ul508_0
              clear hcc508 hce508
              have HR508_0 := Aside0.mk hi508_0
              have HC508_0 := Aside0.mk hl508_0
              clear hi508_0 hl508_0
              replace p508 := eq_true p508
              replace q508 := eq_true q508
              have p509 : 0 ≤ (x51_2 : Int) := of_decide_eq_true (by first | (with_reducible assumption) | assumption)
              have q509 : x51_2 < (t497.length : Int) := of_decide_eq_true (by first | (with_reducible assumption) | assumption)
              obtain ⟨ad509, A509_0, c509_0, e509, hx509_0, hl509_0, hi509_0⟩ := at_L3 (Kd.N_reads' HO_13.out).2.2 x51_2 p509 q509
              obtain rfl : ad502 = ad509 := (by injection e509)
              obtain ⟨ce509, hce509, hMe509, hcc509⟩ := Kd.N_get HO_13.out [] x51_2 p509 (by first | exact q509 | exact of_decide_eq_true (by first | (with_reducible assumption) | assumption) | (have e_ := (Kd.N_reads' HO_13.out).1; omega))
              obtain ⟨ua509_0, uc509_0, rfl, ul509_0, ge509_0⟩ := Kd.FK_slice_open hMe509
              have hv509_0 := hcc509 0 _ rfl
              rw [Nat.add_zero, show ((Kd.slice 2 (Kd.int .i64))).sz = 1 from rfl, Nat.mul_one] at hv509_0
              replace hv509_0 := Option.some.inj (hv509_0.symm.trans hx509_0)
              injection hv509_0 with hva_ hvn_ hvc_
              rw [hva_] at ge509_0
              rw [hvc_] at ul509_0
              have HL509_0 := Aside0.mk (show Kd.V (Kd.int .i64) 2 _ w.heap.size _ _ (rd_L3 t497 x51_2) from Kd.V_mk ul509_0 ge509_0)
              clear hva_ hvn_ hvc_ ge509_0 ul509_0
              clear hcc509 hce509
              have HR509_0 := Aside0.mk hi509_0
              have HC509_0 := Aside0.mk hl509_0
              clear hi509_0 hl509_0
              replace p509 := eq_true p509
              replace q509 := eq_true q509
              refine start_ (n := 12) (S := fun w' => w'.cell? (ad500.add (x51_2).toNat) = some (.slice A508_0 (rd_L3 t494 x51_2).length c508_0) ∧ w'.cell? (ad502.add (x51_2).toNat) = some (.slice A509_0 (rd_L3 t497 x51_2).length c509_0)) (ds := []) (bA 12 0) (by kernel_rfl) rfl rfl ⟨hx508_0, hx509_0⟩ (fun hHeld => ?_); refine with_tabW impl_Parted.tab10 impl_Parted.bits10 (fun HT_ HW_ => ?_)
              generalize w36.drew = w39 at HO_12 HO_13 HL504_0 HL506_0 HR500_0 HR502_0 HR504_0 HR506_0 HB HL508_0 HL509_0 HR508_0 HR509_0 hx508_0 hx509_0 hHeld ⊢
              refine pv (i := 0) (N := some 67) (bA 12 1) rfl rfl (any_of HT_.out (by kernel_rfl)) ?_
              refine pv (i := 1) (N := some 68) (bA 12 3) rfl rfl (any_of HT_.out (by kernel_rfl)) ?_
              refine pv (i := 2) (N := some 69) (bA 12 7) rfl rfl (any_of HT_.out (by kernel_rfl)) ?_
              refine pv (i := 4) (N := some 71) (bA 12 23) rfl rfl (any_of HT_.out (by kernel_rfl)) ?_
              refine pv (i := 5) (N := some 72) (bA 12 55) rfl rfl (any_of HT_.out (by kernel_rfl)) ?_
              refine pv (i := 6) (N := some 73) (bA 12 119) rfl rfl (any_of HT_.out (by kernel_rfl)) ?_
              refine take_ (i := 3) (N := some 70) (v := ?_) (a' := ?_) (bA 12 127) rfl rfl (take_ofW HT_.out HW_.out (by kernel_rfl)) (fun _ _ _ h => h) (Or.inl ⟨by rfl, ?_⟩) hHeld ?_ ?_
              rotate_left
              ·rintro w' ⟨s0, s1⟩
               go_simp
               with_reducible rfl
              rotate_left
              ·simp only [sp_]
               rfl
              refine take_ (i := 7) (N := some 74) (v := ?_) (a' := ?_) (bA 12 255) rfl rfl (take_ofW HT_.out HW_.out (by kernel_rfl)) (fun _ _ _ h => h) (Or.inl ⟨by rfl, ?_⟩) hHeld ?_ ?_
              rotate_left
              ·rintro w' ⟨s0, s1⟩
               go_simp
               with_reducible rfl
              rotate_left
              ·simp only [sp_]
               rfl
              refine one_ (i := 8) (N := some 75) (bA 12 511) rfl rfl (one_of HT_.out (by kernel_rfl)) (by decide) (fun K hK => ?_)
              refine Kd.N_lit_step (Kd.slice 2 (Kd.int .i64)) _ 28 ?hg (N' := 75) ?hd (xs := ([rd_L3 t494 x51_2, rd_L3 t497 x51_2] : List (List Int))) (inner := [.slice A508_0 (rd_L3 t494 x51_2).length c508_0, .slice A509_0 (rd_L3 t497 x51_2).length c509_0]) (ok := (fun k_ => some k_ ≠ (.slice (some ad500) t494.length co22 : Value).ownBlock ∧ some k_ ≠ (.slice (some ad502) t497.length co23 : Value).ownBlock)) (okp := (fun k_ => some k_ ≠ (.slice (some ad500) t494.length co22 : Value).ownBlock ∧ some k_ ≠ (.slice (some ad502) t497.length co23 : Value).ownBlock)) ?hr ?hp (fun _ hk => hk) ((show ∀ k_, w39.heap.size ≤ k_ → (fun k_ => some k_ ≠ (.slice (some ad500) t494.length co22 : Value).ownBlock ∧ some k_ ≠ (.slice (some ad502) t497.length co23 : Value).ownBlock) k_ from fun k_ hk => ⟨Kd.fresh' (Kd.N_lt (by (with_reducible repeat (first | apply Kd.N_alloc | apply Kd.N_drewN | apply Kd.N_drew)); exact HO_12.out)) k_ hk, Kd.fresh' (Kd.N_lt (by (with_reducible repeat (first | apply Kd.N_alloc | apply Kd.N_drewN | apply Kd.N_drew)); exact HO_13.out)) k_ hk⟩) _ (Nat.le_refl _)) (Below.refl _ _) (Nat.le_refl _) (by simp) ?_; (case hd => rfl); (case hg => rfl); (case hr => first | (go_simp; done) | (go_simp; rfl)); (case hp => exact (Reps.one (show Kd.FK (Kd.slice 2 (Kd.int .i64)) _ _ (rd_L3 t494 x51_2) [.slice A508_0 (rd_L3 t494 x51_2).length c508_0] from (Kd.FK_slice_mk (Kd.V_reads' (Kd.V_mono (ok' := (fun k_ => some k_ ≠ (.slice (some ad500) t494.length co22 : Value).ownBlock ∧ some k_ ≠ (.slice (some ad502) t497.length co23 : Value).ownBlock)) (HL508_0.out) (fun k_ hk => ⟨hk.2, hk.1⟩))).2.1 (Kd.V_F (Kd.V_mono (ok' := (fun k_ => some k_ ≠ (.slice (some ad500) t494.length co22 : Value).ownBlock ∧ some k_ ≠ (.slice (some ad502) t497.length co23 : Value).ownBlock)) (HL508_0.out) (fun k_ hk => ⟨hk.2, hk.1⟩))))) (Reps.one (show Kd.FK (Kd.slice 2 (Kd.int .i64)) _ _ (rd_L3 t497 x51_2) [.slice A509_0 (rd_L3 t497 x51_2).length c509_0] from (Kd.FK_slice_mk (Kd.V_reads' (Kd.V_mono (ok' := (fun k_ => some k_ ≠ (.slice (some ad500) t494.length co22 : Value).ownBlock ∧ some k_ ≠ (.slice (some ad502) t497.length co23 : Value).ownBlock)) (HL509_0.out) (fun k_ hk => ⟨hk.1, hk.2⟩))).2.1 (Kd.V_F (Kd.V_mono (ok' := (fun k_ => some k_ ≠ (.slice (some ad500) t494.length co22 : Value).ownBlock ∧ some k_ ≠ (.slice (some ad502) t497.length co23 : Value).ownBlock)) (HL509_0.out) (fun k_ hk => ⟨hk.1, hk.2⟩))))) (Reps.none _ _))))
              intro v511 w40 ho41 hb hg_ hnew_
              have HS0_ := (hb.cell (World.block_lt_of_cell? _ _ (hHeld.1))).trans (hHeld.1)
              have HS1_ := (hb.cell (World.block_lt_of_cell? _ _ (hHeld.2))).trans (hHeld.2)
              clear hg_ hnew_
              (first | rw [← Ny510.out] at ho41 | (simp only [Int.reduceToNat] at ho41; rw [← Ny510.out] at ho41))
              have n0_ := Aside0.mk (Kd.N_elder' (by (with_reducible repeat (first | apply Kd.N_alloc | apply Kd.N_drewN | apply Kd.N_drew)); exact HO_12.out) (Kd.N_base ho41) hb)
              have n1_ := Aside0.mk (Kd.N_elder' (by (with_reducible repeat (first | apply Kd.N_alloc | apply Kd.N_drewN | apply Kd.N_drew)); exact HO_13.out) (Kd.N_base ho41) hb)
              have n2_ := Aside0.mk (Kd.V_elder' (by (with_reducible repeat (first | apply Kd.V_alloc | apply Kd.V_drewN | apply Kd.V_drew)); exact HL504_0.out) (Kd.N_base ho41) hb)
              have n3_ := Aside0.mk (Kd.V_elder' (by (with_reducible repeat (first | apply Kd.V_alloc | apply Kd.V_drewN | apply Kd.V_drew)); exact HL506_0.out) (Kd.N_base ho41) hb)
              have n4_ := Aside0.mk (Kd.V_elder' (by (with_reducible repeat (first | apply Kd.V_alloc | apply Kd.V_drewN | apply Kd.V_drew)); exact HL508_0.out) (Kd.N_base ho41) hb)
              have n5_ := Aside0.mk (Kd.V_elder' (by (with_reducible repeat (first | apply Kd.V_alloc | apply Kd.V_drewN | apply Kd.V_drew)); exact HL509_0.out) (Kd.N_base ho41) hb)
              have n6_ := Aside0.mk (Kd.N_lower ho41 (below_size (by repeat (first | (with_reducible first | exact HB.out | apply below_alloc | apply pw_below_drewN | apply below_drew1) | exact HB.out))))
              have n7_ := Aside0.mk (Kd.C_below (by repeat (first | (with_reducible exact HR500_0.out) | (with_reducible refine Kd.C_alloc ?_ _) | (with_reducible refine Kd.C_drewN ?_ _) | (with_reducible refine Kd.C_drew ?_) | exact HR500_0.out)) hb)
              have n8_ := Aside0.mk (Kd.C_below (by repeat (first | (with_reducible exact HR502_0.out) | (with_reducible refine Kd.C_alloc ?_ _) | (with_reducible refine Kd.C_drewN ?_ _) | (with_reducible refine Kd.C_drew ?_) | exact HR502_0.out)) hb)
              have n9_ := Aside0.mk (Kd.C_below (by repeat (first | (with_reducible exact HR504_0.out) | (with_reducible refine Kd.C_alloc ?_ _) | (with_reducible refine Kd.C_drewN ?_ _) | (with_reducible refine Kd.C_drew ?_) | exact HR504_0.out)) hb)
              have n10_ := Aside0.mk (Kd.C_below (by repeat (first | (with_reducible exact HR506_0.out) | (with_reducible refine Kd.C_alloc ?_ _) | (with_reducible refine Kd.C_drewN ?_ _) | (with_reducible refine Kd.C_drew ?_) | exact HR506_0.out)) hb)
              have n11_ := Aside0.mk (Kd.C_below (by repeat (first | (with_reducible exact HR508_0.out) | (with_reducible refine Kd.C_alloc ?_ _) | (with_reducible refine Kd.C_drewN ?_ _) | (with_reducible refine Kd.C_drew ?_) | exact HR508_0.out)) hb)
              have n12_ := Aside0.mk (Kd.C_below (by repeat (first | (with_reducible exact HR509_0.out) | (with_reducible refine Kd.C_alloc ?_ _) | (with_reducible refine Kd.C_drewN ?_ _) | (with_reducible refine Kd.C_drew ?_) | exact HR509_0.out)) hb)
              have n13_ := Aside0.mk (below_step (by repeat (first | (with_reducible first | exact HB.out | apply below_alloc | apply pw_below_drewN | apply below_drew1) | exact HB.out)) hb)
              clear HO_12
              clear HO_13
              clear HL504_0
              clear HL506_0
              clear HL508_0
              clear HL509_0
              clear HR500_0
              clear HR502_0
              clear HR504_0
              clear HR506_0
              clear HR508_0
              clear HR509_0
              clear HB
              have HO_12 := n0_
              have HO_13 := n1_
              have HL504_0 := n2_
              have HL506_0 := n3_
              have HL508_0 := n4_
              have HL509_0 := n5_
              have HO512 := n6_
              have HR500_0 := n7_
              have HR502_0 := n8_
              have HR504_0 := n9_
              have HR506_0 := n10_
              have HR508_0 := n11_
              have HR509_0 := n12_
              have HB := n13_
              clear n0_ n1_ n2_ n3_ n4_ n5_ n6_ n7_ n8_ n9_ n10_ n11_ n12_ n13_
              clear hb ho41
              obtain ⟨Ao42, co42, eo42⟩ := Kd.N_slice HO512.out
              (first | subst eo42 | (injection eo42 with f1_ f2_ f3_; have f4_ := f1_.symm; have f5_ := f3_.symm; clear f1_ f2_ f3_; subst f4_; subst f5_))
              refine hK.out _ _ ⟨HS0_, HS1_⟩ (fun hHeld => ?_)
              clear hK K
              refine norm_ (a' := ?_) ?_ ?_
              rotate_left
              ·show Act.put _ (some 75) _ = _
               simp only [sp_]
               rfl
              refine one_ (i := 9) (N := some 76) (bA 12 1023) rfl rfl (one_of HT_.out (by kernel_rfl)) (by decide) (fun K hK => ?_)
              refine goes_ Tryd.func50 (by kernel_rfl) rfl #[.slice Ao42 y510.length co42] (by rfl) rfl rfl (by (try simp only [List.map_toArray, List.map_cons, List.map_nil]); first | done | rfl | (simp only [List.length_drop, List.length_take]; rfl)) ?_
              with_reducible refine (slices_Concat_int64_int64.calls k2 _ _ y510 t513 _ ?side1 ?side2 A38.out).mono ?_
              (case side1 => repeat (first | exact (Kd.N_reads' HO512.out).2.2 | (with_reducible refine Kd.C_alloc ?_ _) | (with_reducible refine Kd.C_drewN ?_ _) | (with_reducible refine Kd.C_drew ?_)))
              (case side2 => exact (Kd.N_reads' HO512.out).2.1)
              rintro e w43 ⟨v514, rfl, ho0, hb⟩
              have HS0_ := (hb.cell (World.block_lt_of_cell? _ _ (hHeld.1))).trans (hHeld.1)
              have HS1_ := (hb.cell (World.block_lt_of_cell? _ _ (hHeld.2))).trans (hHeld.2)
              refine ⟨_, rfl, ?_⟩
              have n0_ := Aside0.mk (Kd.N_elder' (by (with_reducible repeat (first | apply Kd.N_alloc | apply Kd.N_drewN | apply Kd.N_drew)); exact HO_12.out) (Kd.R_base ho0) hb)
              have n1_ := Aside0.mk (Kd.N_elder' (by (with_reducible repeat (first | apply Kd.N_alloc | apply Kd.N_drewN | apply Kd.N_drew)); exact HO_13.out) (Kd.R_base ho0) hb)
              have n2_ := Aside0.mk (Kd.V_elder' (by (with_reducible repeat (first | apply Kd.V_alloc | apply Kd.V_drewN | apply Kd.V_drew)); exact HL504_0.out) (Kd.R_base ho0) hb)
              have n3_ := Aside0.mk (Kd.V_elder' (by (with_reducible repeat (first | apply Kd.V_alloc | apply Kd.V_drewN | apply Kd.V_drew)); exact HL506_0.out) (Kd.R_base ho0) hb)
              have n4_ := Aside0.mk (Kd.V_elder' (by (with_reducible repeat (first | apply Kd.V_alloc | apply Kd.V_drewN | apply Kd.V_drew)); exact HL508_0.out) (Kd.R_base ho0) hb)
              have n5_ := Aside0.mk (Kd.V_elder' (by (with_reducible repeat (first | apply Kd.V_alloc | apply Kd.V_drewN | apply Kd.V_drew)); exact HL509_0.out) (Kd.R_base ho0) hb)
              have n6_ := Aside0.mk (Kd.N_elder' (by (with_reducible repeat (first | apply Kd.N_alloc | apply Kd.N_drewN | apply Kd.N_drew)); exact HO512.out) (Kd.R_base ho0) hb)
              have n7_ := Aside0.mk (Kd.R_lower ho0 (below_size (by repeat (first | (with_reducible first | exact HB.out | apply below_alloc | apply pw_below_drewN | apply below_drew1) | exact HB.out))))
              have n8_ := Aside0.mk (Kd.C_below (by repeat (first | (with_reducible exact HR500_0.out) | (with_reducible refine Kd.C_alloc ?_ _) | (with_reducible refine Kd.C_drewN ?_ _) | (with_reducible refine Kd.C_drew ?_) | exact HR500_0.out)) hb)
              have n9_ := Aside0.mk (Kd.C_below (by repeat (first | (with_reducible exact HR502_0.out) | (with_reducible refine Kd.C_alloc ?_ _) | (with_reducible refine Kd.C_drewN ?_ _) | (with_reducible refine Kd.C_drew ?_) | exact HR502_0.out)) hb)
              have n10_ := Aside0.mk (Kd.C_below (by repeat (first | (with_reducible exact HR504_0.out) | (with_reducible refine Kd.C_alloc ?_ _) | (with_reducible refine Kd.C_drewN ?_ _) | (with_reducible refine Kd.C_drew ?_) | exact HR504_0.out)) hb)
              have n11_ := Aside0.mk (Kd.C_below (by repeat (first | (with_reducible exact HR506_0.out) | (with_reducible refine Kd.C_alloc ?_ _) | (with_reducible refine Kd.C_drewN ?_ _) | (with_reducible refine Kd.C_drew ?_) | exact HR506_0.out)) hb)
              have n12_ := Aside0.mk (Kd.C_below (by repeat (first | (with_reducible exact HR508_0.out) | (with_reducible refine Kd.C_alloc ?_ _) | (with_reducible refine Kd.C_drewN ?_ _) | (with_reducible refine Kd.C_drew ?_) | exact HR508_0.out)) hb)
              have n13_ := Aside0.mk (Kd.C_below (by repeat (first | (with_reducible exact HR509_0.out) | (with_reducible refine Kd.C_alloc ?_ _) | (with_reducible refine Kd.C_drewN ?_ _) | (with_reducible refine Kd.C_drew ?_) | exact HR509_0.out)) hb)
              have n14_ := Aside0.mk (below_step (by repeat (first | (with_reducible first | exact HB.out | apply below_alloc | apply pw_below_drewN | apply below_drew1) | exact HB.out)) hb)
              clear HO_12
              clear HO_13
              clear HL504_0
              clear HL506_0
              clear HL508_0
              clear HL509_0
              clear HO512
              clear HR500_0
              clear HR502_0
              clear HR504_0
              clear HR506_0
              clear HR508_0
              clear HR509_0
              clear HB
              have HO_12 := n0_
              have HO_13 := n1_
              have HL504_0 := n2_
              have HL506_0 := n3_
              have HL508_0 := n4_
              have HL509_0 := n5_
              have HO512 := n6_
              have HO515 := n7_
              have HR500_0 := n8_
              have HR502_0 := n9_
              have HR504_0 := n10_
              have HR506_0 := n11_
              have HR508_0 := n12_
              have HR509_0 := n13_
              have HB := n14_
              clear n0_ n1_ n2_ n3_ n4_ n5_ n6_ n7_ n8_ n9_ n10_ n11_ n12_ n13_ n14_
              (try clear hb)
              (try clear hb2)
              (try clear hk)
              (try clear hi)
              (try clear ho0)
              refine hK.out _ _ ⟨HS0_, HS1_⟩ (fun hHeld => ?_)
              clear hK K
              refine norm_ (a' := ?_) ?_ ?_
              rotate_left
              ·show Act.put _ (some 76) _ = _
               simp only [sp_]
               rfl
              refine pv (i := 10) (N := some 10) (bA 12 2047) rfl rfl (any_of HT_.out (by kernel_rfl)) ?_
              refine pv (i := 11) (N := some 11) (bA 12 4095) rfl rfl (any_of HT_.out (by kernel_rfl)) ?_
              refine done_ (done_of HT_.out (by kernel_rfl)) ?_
              try go_wp2
              go_ret2
              exact ⟨_, by first | rfl | (simp [errW_none, errW_some] <;> rfl) | (simp [*, errW_none, errW_some] <;> rfl), by (with_reducible repeat (first | apply Kd.R_alloc | apply Kd.R_drewN | apply Kd.R_drew)); exact HO515.out, by repeat (first | (with_reducible first | exact HB.out | apply below_alloc | apply pw_below_drewN | apply below_drew1) | exact HB.out)⟩
             ·rw [if_neg c37] at H
              have c37b0 : (t505 == t507) = false := beq_eq_false_iff_ne.mpr c37
              have c37b1 : (t505 != t507) = true := bne_iff_ne.mpr c37
              (first | rw [c37b0] | (simp only [i64_w, i32_w]; rw [c37b0]) | skip)
              try rw [c37b1]
              have H' := Aside0.mk H
              clear H
              go_wp2
              go_roundg k2
              case measure => have := HJ5.out; have := HK2.out; omega
              case rel => exact ⟨(wrap64 (x51_2 + 1)), (by first | rfl | (simp; done) | (simp [*]; done)), H', ⟨by have := HJ5.out; have := HK2.out; omega⟩, ⟨by (with_reducible repeat (first | apply Kd.N_alloc | apply Kd.N_drewN | apply Kd.N_drew)); exact HO_12.out⟩, ⟨by (with_reducible repeat (first | apply Kd.N_alloc | apply Kd.N_drewN | apply Kd.N_drew)); exact HO_13.out⟩, ⟨by repeat (first | (with_reducible exact HR500_0.out) | (with_reducible refine Kd.C_alloc ?_ _) | (with_reducible refine Kd.C_drewN ?_ _) | (with_reducible refine Kd.C_drew ?_) | exact HR500_0.out)⟩, ⟨by repeat (first | (with_reducible exact HR502_0.out) | (with_reducible refine Kd.C_alloc ?_ _) | (with_reducible refine Kd.C_drewN ?_ _) | (with_reducible refine Kd.C_drew ?_) | exact HR502_0.out)⟩, ⟨by repeat (first | (with_reducible first | exact HB.out | apply below_alloc | apply pw_below_drewN | apply below_drew1) | exact HB.out)⟩⟩
            ·rw [if_neg c31] at H
             exact absurd H (by simp)
           ·rw [if_neg c29] at H
            exact absurd H (by simp)
          ·rw [if_neg c28] at H
           exact absurd H (by simp)
         ·rw [if_neg c27] at H
          have c27b0 : decide (x51_2 < (t494.length : Int)) = false := decide_eq_false c27
          clear c27
          simp only [Option.some.injEq, Prod.mk.injEq] at H
          obtain ⟨rfl, rfl⟩ := H
          go_wp2
          go_ret2
          exact ⟨_, by first | rfl | (simp [errW_none, errW_some] <;> rfl) | (simp [*, errW_none, errW_some] <;> rfl), by first | exact Kd.R_nil _ _ _ _ _ | exact Kd.N_nil _ _ _ _ _ | exact Kd.V_nil _ _ _ _ _ | exact Kd.Q_nil _ _ _ _ _ | exact Kd.S_nil _ _ _ _ _, by repeat (first | (with_reducible first | exact HB.out | apply below_alloc | apply pw_below_drewN | apply below_drew1) | exact HB.out)⟩
      ·rw [if_neg c26] at H
       have c26b0 : (t501 == t503) = false := beq_eq_false_iff_ne.mpr c26
       have c26b1 : (t501 != t503) = true := bne_iff_ne.mpr c26
       (first | rw [c26b0] | (simp only [i64_w, i32_w]; rw [c26b0]) | skip)
       try rw [c26b1]
       simp only [Option.some.injEq, Prod.mk.injEq] at H
       obtain ⟨rfl, rfl⟩ := H
       go_wp2
       go_ret2
       exact ⟨_, by first | rfl | (simp [errW_none, errW_some] <;> rfl) | (simp [*, errW_none, errW_some] <;> rfl), by first | exact Kd.R_nil _ _ _ _ _ | exact Kd.N_nil _ _ _ _ _ | exact Kd.V_nil _ _ _ _ _ | exact Kd.Q_nil _ _ _ _ _ | exact Kd.S_nil _ _ _ _ _, by repeat (first | (with_reducible first | exact HB.out | apply below_alloc | apply pw_below_drewN | apply below_drew1) | exact HB.out)⟩
     ·rw [if_neg c16] at H
      exact absurd H (by simp)
    ·rw [if_neg c14] at H
     exact absurd H (by simp)

end Go.Proofs.YtgpofolfflfgiaaDoor.PFnProved
