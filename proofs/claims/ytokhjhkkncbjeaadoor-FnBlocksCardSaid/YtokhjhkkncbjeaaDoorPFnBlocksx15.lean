-- Written by a program of this session (wip/tools/pp.py over the kit's print).
import Derived.Test.YtokhjhkkncbjeaaDoorPFnBlocksx0
import Derived.Test.YtokhjhkkncbjeaaDoorPFnBlocksx2
import Derived.Test.YtokhjhkkncbjeaaDoorPFnBlocksx8
namespace Go.Proofs.YtokhjhkkncbjeaaDoor.PFnBlocks
open Go.RowKit Go.Proofs.YtokhjhkkncbjeaaDoorW.PrintWords Go.Proofs.YtokhjhkkncbjeaaDoorW.PrintLast Go.Proofs.YtokhjhkkncbjeaaDoorW.PrintMore
attribute [local go_sem] max2_int min2_int max_two min_two max_three min_three max_four min_four
attribute [local go_sem high] str_gtr str_leq str_geq
set_option linter.unusedVariables false
set_option linter.unusedSimpArgs false

/-! ### spec_l15DrawN: function 27 -/
def spec_l15DrawN.f (s0_0 : List Int) (s0_1 : Int) (s0_2 : Int) : Option (Int × Int × Int) := (spec_l1Once.f s0_0 s0_1 s0_2 14).bind fun bt491 => (if bt491.1 = true then ((some (([0, 1, 2, 7, 8, (-1)] : List Int) : List Int)).bind fun y494 => ((spec_l1Below.f s0_0 bt491.2.1 bt491.2.2 6).bind fun bt497 => (if 0 ≤ bt497.1 then (if bt497.1 < (y494.length : Int) then (some (rd y494 bt497.1, bt497.2.1, bt497.2.2)) else (none)) else (none)))) else (some (4, bt491.2.1, bt491.2.2)))
set_option maxHeartbeats 8000000 in
set_option maxRecDepth 100000 in
theorem spec_l15DrawN.calls (g : Nat) (s0_0 : List Int) (s0_1 : Int) (s0_2 : Int) (r1 : Int) (r2 : Int) (r3 : Int) (w0 w : World) (hI : IsS67 w0 w g s0_0 s0_1 s0_2) (hB : Below w0.heap.size w0 w) (h : spec_l15DrawN.f s0_0 s0_1 s0_2 = some (r1, r2, r3)) :
  Calls Tryd.prog 27 #[.pointer (some ⟨g, 0, none⟩)] w fun e w' => e = .returned (.int .i64 r1) ∧ IsS67 w0 w' g s0_0 r2 r3 ∧ Below w0.heap.size w0 w' ∧ KeepBut w w' g none := by
 have HI0 := Aside0.mk hI
 have HK := Aside0.mk (KeepBut.refl w g none)
 have HL := Aside0.mk hB.size
 clear hI
 have HW0 := Aside0.mk hB.size
 have HB := Aside0.mk hB
 clear hB
 have H : ((spec_l1Once.f s0_0 s0_1 s0_2 14).bind fun bt491 => (if bt491.1 = true then ((some (([0, 1, 2, 7, 8, (-1)] : List Int) : List Int)).bind fun y494 => ((spec_l1Below.f s0_0 bt491.2.1 bt491.2.2 6).bind fun bt497 => (if 0 ≤ bt497.1 then (if bt497.1 < (y494.length : Int) then (some (rd y494 bt497.1, bt497.2.1, bt497.2.2)) else (none)) else (none)))) else (some (4, bt491.2.1, bt491.2.2)))) = some (r1, r2, r3) := h
 clear h
 replace H := Option.bind_eq_some_iff.mp H
 obtain ⟨⟨t491, t492, t493⟩, A20, H⟩ := H
 try dsimp only at H
 have A2 := Aside0.mk A20
 clear A20
 have HC3 := Aside0.mk H
 clear H
 go_enter Tryd.func27, Tryd.ntmps27
 go_upto_if 4 with (first | ((with_reducible refine gate_callee (f := 22) rfl ?_); refine goesL_ (some 4) rfl rfl Tryd.func22 (by kernel_rfl) rfl #[.pointer (some ⟨g, 0, none⟩), .int .i64 14] rfl Z2 ?_; (with_reducible refine (spec_l1Once.calls g s0_0 s0_1 s0_2 14 t491 t492 t493 w0 _ ?side1 ?side2 A2.out).mono ?_); (case side1 => exact J3); (case side2 => exact J4); rintro e w4 ⟨rfl, hi, hb, hk⟩; refine ⟨_, rfl, ?_⟩; replace HK := Aside0.mk (KeepBut.trans Z15 hk (.inl rfl)); replace HB := Aside0.mk (hb); replace HI0 := Aside0.mk (hi); (try clear hb); (try clear hb2); (try clear hk); (try clear hi)))
 (try simp only [Act.put, List.setIfInBounds_toArray, List.set_cons_zero, List.set_cons_succ])
 have H := HC3.out
 clear HC3
 by_cases c5 : t491 = true
 ·subst c5
  have H1 : ((some (([0, 1, 2, 7, 8, (-1)] : List Int) : List Int)).bind fun y494 => ((spec_l1Below.f s0_0 t492 t493 6).bind fun bt497 => (if 0 ≤ bt497.1 then (if bt497.1 < (y494.length : Int) then (some (rd y494 bt497.1, bt497.2.1, bt497.2.2)) else (none)) else (none)))) = some (r1, r2, r3) := by rw [if_pos rfl] at H; exact H
  clear H
  have H := H1
  clear H1
  obtain ⟨y494, hy494⟩ : ∃ y_ : List Int, y_ = (([0, 1, 2, 7, 8, (-1)] : List Int)) := ⟨_, rfl⟩
  replace H : ((spec_l1Below.f s0_0 t492 t493 6).bind fun bt497 => (if 0 ≤ bt497.1 then (if bt497.1 < (y494.length : Int) then (some (rd y494 bt497.1, bt497.2.1, bt497.2.2)) else (none)) else (none))) = some (r1, r2, r3) := by first | (rw [hy494]; with_reducible exact H) | (have H2_ := (Option.bind_some _ _).symm.trans H; rw [hy494]; with_reducible exact H2_) | (have H2_ := (Option.bind_some _ _).symm.trans H; with_reducible exact H2_) | with_reducible exact H | (rw [hy494]; exact H) | exact H
  have Ny494 := Aside0.mk hy494
  clear hy494
  replace H := Option.bind_eq_some_iff.mp H
  obtain ⟨⟨t497, t498, t499⟩, A60, H⟩ := H
  try dsimp only at H
  have A6 := Aside0.mk A60
  clear A60
  by_cases c7 : 0 ≤ t497
  ·rw [if_pos c7] at H
   have c7b0 : decide (0 ≤ t497) = true := decide_eq_true c7
   clear c7
   (first | rw [c7b0] | (simp only [i64_w, i32_w]; rw [c7b0]) | skip)
   by_cases c8 : t497 < (y494.length : Int)
   ·rw [if_pos c8] at H
    have c8b0 : decide (t497 < (y494.length : Int)) = true := decide_eq_true c8
    clear c8
    simp only [Option.some.injEq, Prod.mk.injEq] at H
    obtain ⟨rfl, rfl, rfl⟩ := H
    go_wp2_with (first | ((with_reducible refine gate_dst (N := 5) rfl ?_); refine Kd.R_lit (Kd.int .i64) _ 2 ?hg (N := 5) ?hd (xs := ([0, 1, 2, 7, 8, (-1)] : List Int)) (inner := [.int .i64 0, .int .i64 1, .int .i64 2, .int .i64 7, .int .i64 8, .int .i64 (-1)]) (ok := fun _ => True) (okp := fun _ => True) ?hr ?hp (fun _ hk => hk) trivial (Below.refl _ _) (Nat.le_refl _) (by simp) ?_; (case hd => rfl); (case hg => rfl); (case hr => first | (go_simp; done) | (go_simp; rfl)); (case hp => exact (Reps.one (show Kd.M (Kd.int .i64) _ _ _ 0 [.int .i64 0] from rfl) (Reps.one (show Kd.M (Kd.int .i64) _ _ _ 1 [.int .i64 1] from rfl) (Reps.one (show Kd.M (Kd.int .i64) _ _ _ 2 [.int .i64 2] from rfl) (Reps.one (show Kd.M (Kd.int .i64) _ _ _ 7 [.int .i64 7] from rfl) (Reps.one (show Kd.M (Kd.int .i64) _ _ _ 8 [.int .i64 8] from rfl) (Reps.one (show Kd.M (Kd.int .i64) _ _ _ (-1) [.int .i64 (-1)] from rfl) (Reps.none _ _)))))))); intro v495 w9 ho10 hb hg_ hnew_; clear hg_ hnew_; (first | rw [← Ny494.out] at ho10 | (simp only [Int.reduceToNat] at ho10; rw [← Ny494.out] at ho10)); have HO496 := Aside0.mk (Kd.R_lower ho10 (keep_size (w := w) (g := g) (row := none) Z15)); replace HK := Aside0.mk (KeepBut.trans Z15 (KeepBut.of_below hb g none) (.inl rfl)); replace HB := Aside0.mk (below_step J4 hb); replace HI0 := Aside0.mk (IsS67.below J3 hb); clear hb ho10) | ((with_reducible refine gate_callee (f := 46) rfl ?_); refine goesL_ (some 7) rfl rfl Tryd.func46 (by kernel_rfl) rfl #[.pointer (some ⟨g, 0, none⟩), .int .i64 6] rfl Z2 ?_; (with_reducible refine (spec_l1Below.calls g s0_0 t492 t493 6 t497 t498 t499 w0 _ ?side1 ?side2 A6.out).mono ?_); (case side1 => exact J3); (case side2 => exact J4); rintro e w11 ⟨rfl, hi, hb, hk⟩; refine ⟨_, rfl, ?_⟩; replace HO496 := Aside0.mk (Kd.R_mono (Kd.R_keep (IsS67.apart (show IsS67 w0 _ g s0_0 t492 t493 from J3) (by (with_reducible repeat (first | apply Kd.R_alloc | apply Kd.R_drewN | apply Kd.R_drew)); exact HO496.out) (by decide)) hk (fun _ h => h.2)) (fun _ h => h.1)); replace HK := Aside0.mk (KeepBut.trans Z15 hk (.inl rfl)); replace HB := Aside0.mk (hb); replace HI0 := Aside0.mk (hi); (try clear hb); (try clear hb2); (try clear hk); (try clear hi); obtain ⟨Ao12, co12, eo12⟩ := Kd.R_slice HO496.out; subst eo12; have p500 : 0 ≤ (t497 : Int) := od_; have q500 : t497 < (y494.length : Int) := od_; obtain ⟨ad500, e500, hx500_0⟩ := Kd.at_int (Kd.R_reads' HO496.out).2.2 t497 p500 q500; cases e500; replace p500 := eq_true p500; replace q500 := eq_true q500))
    go_ret
    exact ⟨J0, J3, J4, J14⟩
   ·rw [if_neg c8] at H
    exact absurd H (by simp)
  ·rw [if_neg c7] at H
   exact absurd H (by simp)
 ·replace c5 := Bool.eq_false_iff.mpr c5
  subst c5
  have H1 : (some (4, t492, t493)) = some (r1, r2, r3) := by rw [if_neg (show ¬ (false = true) by decide)] at H; exact H
  clear H
  have H := H1
  clear H1
  simp only [Option.some.injEq, Prod.mk.injEq] at H
  obtain ⟨rfl, rfl, rfl⟩ := H
  go_wp2
  go_ret
  exact ⟨J0, J3, J4, J14⟩

/-! ### spec_ReadNumber: function 28 -/
mutual
def spec_ReadNumber.l0 : Nat → List Int → Int → Int → Int → Option (Int × Int)
 | 0, _, _, _, _ => none
 | k + 1, x0, x4, x5, x6 => if x6 < (x0.length : Int) then (spec_ReadNumber.j1 k x0 x4 x5 x6 (decide (x6 < 6))) else (spec_ReadNumber.j1 k x0 x4 x5 x6 false)
def spec_ReadNumber.j1 : Nat → List Int → Int → Int → Int → Bool → Option (Int × Int)
 | 0, _, _, _, _, _ => none
 | k + 1, x0, x4, x5, x6, x15 => if x15 = true then (if 0 ≤ x6 then (if x6 < (x0.length : Int) then (if (wrap64 (rd x0 x6)) < 128 then (if (wrap64 (x4 + (wrap64 ((Int.tmod (wrap64 (rd x0 x6)) 128) * x5)))) > 1099511627776 then (some (0, 0)) else (if x6 > 0 then (if (wrap64 (rd x0 x6)) = 0 then (some (0, 0)) else (some (wrap64 (x4 + (wrap64 ((Int.tmod (wrap64 (rd x0 x6)) 128) * x5))), wrap64 (x6 + 1)))) else (some (wrap64 (x4 + (wrap64 ((Int.tmod (wrap64 (rd x0 x6)) 128) * x5))), wrap64 (x6 + 1))))) else (spec_ReadNumber.l0 k x0 (wrap64 (x4 + (wrap64 ((Int.tmod (wrap64 (rd x0 x6)) 128) * x5)))) (wrap64 (x5 * 128)) (wrap64 (x6 + 1)))) else (none)) else (none)) else (some (0, 0))
end
def spec_ReadNumber.f (k : Nat) (l0 : List Int) : Option (Int × Int) := spec_ReadNumber.l0 k l0 0 1 0
theorem spec_ReadNumber.mono_l : ∀ k, (∀ y0 y1 y2 y3, LeO (spec_ReadNumber.l0 k y0 y1 y2 y3) (spec_ReadNumber.l0 (k + 1) y0 y1 y2 y3)) ∧ (∀ y0 y1 y2 y3 y4, LeO (spec_ReadNumber.j1 k y0 y1 y2 y3 y4) (spec_ReadNumber.j1 (k + 1) y0 y1 y2 y3 y4))
 | 0 => ⟨fun _ _ _ _ r h => by simp [spec_ReadNumber.l0] at h, fun _ _ _ _ _ r h => by simp [spec_ReadNumber.j1] at h⟩
 | k + 1 => by
  obtain ⟨ih0, ih1⟩ := spec_ReadNumber.mono_l k
  refine ⟨?_, ?_⟩
  ·intro y0 y1 y2 y3
   unfold spec_ReadNumber.l0
   repeat' with_reducible first
   | exact ih0 _ _ _ _
   | exact ih1 _ _ _ _ _
   | exact LeO.refl _
   | exact LeO.none _
   | refine LeO.ite ?_ ?_
   | refine LeO.bind ?_ (fun _ => ?_)
  ·intro y0 y1 y2 y3 y4
   unfold spec_ReadNumber.j1
   repeat' with_reducible first
   | exact ih0 _ _ _ _
   | exact ih1 _ _ _ _ _
   | exact LeO.refl _
   | exact LeO.none _
   | refine LeO.ite ?_ ?_
   | refine LeO.bind ?_ (fun _ => ?_)
theorem spec_ReadNumber.mono : ∀ a0 k, LeO (spec_ReadNumber.f k a0) (spec_ReadNumber.f (k + 1) a0) := by
 intro a0 k
 obtain ⟨ih0, ih1⟩ := spec_ReadNumber.mono_l k
 unfold spec_ReadNumber.f
 repeat' with_reducible first
   | exact ih0 _ _ _ _
   | exact ih1 _ _ _ _ _
   | exact LeO.refl _
   | exact LeO.none _
   | refine LeO.ite ?_ ?_
   | refine LeO.bind ?_ (fun _ => ?_)
set_option maxHeartbeats 8000000 in
set_option maxRecDepth 100000 in
theorem spec_ReadNumber.calls (k : Nat) (A0 : Option Addr) (c0 : Nat) (l0 : List Int) (r1 : Int) (r2 : Int) (w : World) (hr0 : Kd.C (Kd.int .u8) w A0 l0.length l0) (hc0 : l0.length ≤ c0) (h : spec_ReadNumber.f k l0 = some (r1, r2)) :
  Calls Tryd.prog 28 #[.slice A0 l0.length c0] w fun e w' => e = .returned (.tuple #[.int .i64 r1, .int .i64 r2]) ∧ Drawn0 w w' := by
 have HR0 := Aside0.mk hr0
 have HC0 := Aside0.mk hc0
 clear hr0 hc0
 have H : (spec_ReadNumber.l0 k l0 0 1 0) = some (r1, r2) := h
 clear h
 have H' := Aside0.mk H
 clear H
 go_enter Tryd.func28, Tryd.ntmps28
 go_wp2
 go_loopg [4, 5, 6] k (fun kq v4 v5 v6 w' => ∃ (x4_1 : Int) (x5_1 : Int) (x6_1 : Int), v4 = .int .i64 x4_1 ∧ v5 = .int .i64 x5_1 ∧ v6 = .int .i64 x6_1 ∧ Aside0 (spec_ReadNumber.l0 kq l0 x4_1 x5_1 x6_1 = some (r1, r2)) ∧ Aside0 (kq ≤ k) ∧ Drawn0 w w')
 case atStart => exact ⟨(0), (1), (0), Z4, Z4, Z4, H', ⟨Nat.le_refl _⟩, J2⟩
 case round =>
  clear H'
  obtain ⟨x4_1, x5_1, x6_1, rfl, rfl, rfl, HA, HK1, ⟨m1, rfl⟩⟩ := hrel
  cases gk with
  | zero => exact absurd HA.out (by simp [spec_ReadNumber.l0])
  | succ k1 =>
   have H := HA.out
   clear HA
   simp only [spec_ReadNumber.l0] at H
   have HC2 := Aside0.mk H
   clear H
   go_upto_region 4 with (fail)
   go_cut [15] (fun v15 wc => ∃ (kq : Nat) (x15_1 : Bool), v15 = .bool x15_1 ∧ Aside0 (spec_ReadNumber.j1 kq l0 x4_1 x5_1 x6_1 x15_1 = some (r1, r2)) ∧ Aside0 (kq ≤ k1) ∧ Drawn0 w wc)
   case first =>
    have H := HC2.out
    clear HC2
    by_cases c3 : x6_1 < (l0.length : Int)
    ·rw [if_pos c3] at H
     have c3b0 : decide (x6_1 < (l0.length : Int)) = true := decide_eq_true c3
     clear c3
     (first | rw [c3b0] | (simp only [i64_w, i32_w]; rw [c3b0]) | skip)
     have H' := Aside0.mk H
     clear H
     go_wp2
     go_meet
     case rel => exact ⟨_, (decide (x6_1 < 6)), Z4, H', ⟨(by have := HK1.out; first | omega | exact Nat.le_refl _)⟩, J2⟩
    ·rw [if_neg c3] at H
     have c3b0 : decide (x6_1 < (l0.length : Int)) = false := decide_eq_false c3
     clear c3
     (first | rw [c3b0] | (simp only [i64_w, i32_w]; rw [c3b0]) | skip)
     have H' := Aside0.mk H
     clear H
     go_wp2
     go_meet
     case rel => exact ⟨_, (false), Z4, H', ⟨(by have := HK1.out; first | omega | exact Nat.le_refl _)⟩, J2⟩
   case rest =>
    clear HC2
    try clear c2
    try clear p2
    try clear c3
    try clear c3b0
    obtain ⟨kq, x15_1, rfl, HA, HJ1, ⟨mc1, rfl⟩⟩ := hcut
    cases kq with
    | zero => exact absurd HA.out (by simp [spec_ReadNumber.j1])
    | succ kj1 =>
     have H := HA.out
     clear HA
     simp only [spec_ReadNumber.j1] at H
     by_cases c4 : x15_1 = true
     ·subst c4
      have H1 : (if 0 ≤ x6_1 then (if x6_1 < (l0.length : Int) then (if (wrap64 (rd l0 x6_1)) < 128 then (if (wrap64 (x4_1 + (wrap64 ((Int.tmod (wrap64 (rd l0 x6_1)) 128) * x5_1)))) > 1099511627776 then (some (0, 0)) else (if x6_1 > 0 then (if (wrap64 (rd l0 x6_1)) = 0 then (some (0, 0)) else (some (wrap64 (x4_1 + (wrap64 ((Int.tmod (wrap64 (rd l0 x6_1)) 128) * x5_1))), wrap64 (x6_1 + 1)))) else (some (wrap64 (x4_1 + (wrap64 ((Int.tmod (wrap64 (rd l0 x6_1)) 128) * x5_1))), wrap64 (x6_1 + 1))))) else (spec_ReadNumber.l0 kj1 l0 (wrap64 (x4_1 + (wrap64 ((Int.tmod (wrap64 (rd l0 x6_1)) 128) * x5_1)))) (wrap64 (x5_1 * 128)) (wrap64 (x6_1 + 1)))) else (none)) else (none)) = some (r1, r2) := by rw [if_pos rfl] at H; exact H
      clear H
      have H := H1
      clear H1
      by_cases c5 : 0 ≤ x6_1
      ·rw [if_pos c5] at H
       have c5b0 : decide (0 ≤ x6_1) = true := decide_eq_true c5
       clear c5
       by_cases c6 : x6_1 < (l0.length : Int)
       ·rw [if_pos c6] at H
        have c6b0 : decide (x6_1 < (l0.length : Int)) = true := decide_eq_true c6
        clear c6
        by_cases c7 : (wrap64 (rd l0 x6_1)) < 128
        ·rw [if_pos c7] at H
         have c7b0 : decide ((wrap64 (rd l0 x6_1)) < 128) = true := decide_eq_true c7
         clear c7
         by_cases c8 : (wrap64 (x4_1 + (wrap64 ((Int.tmod (wrap64 (rd l0 x6_1)) 128) * x5_1)))) > 1099511627776
         ·rw [if_pos c8] at H
          have c8b0 : decide (1099511627776 < (wrap64 (x4_1 + (wrap64 ((Int.tmod (wrap64 (rd l0 x6_1)) 128) * x5_1))))) = true := decide_eq_true c8
          clear c8
          simp only [Option.some.injEq, Prod.mk.injEq] at H
          obtain ⟨rfl, rfl⟩ := H
          have p526 : 0 ≤ (x6_1 : Int) := od_
          have q526 : x6_1 < (l0.length : Int) := od_
          obtain ⟨ad526, e526, hx526_0⟩ := Kd.at_int HR0.out x6_1 p526 q526
          cases e526
          replace p526 := eq_true p526
          replace q526 := eq_true q526
          go_wp2
          go_ret2
          exact ⟨J6, J2⟩
         ·rw [if_neg c8] at H
          have c8b0 : decide (1099511627776 < (wrap64 (x4_1 + (wrap64 ((Int.tmod (wrap64 (rd l0 x6_1)) 128) * x5_1))))) = false := decide_eq_false c8
          clear c8
          by_cases c9 : x6_1 > 0
          ·rw [if_pos c9] at H
           have c9b0 : decide (0 < x6_1) = true := decide_eq_true c9
           clear c9
           by_cases c10 : (wrap64 (rd l0 x6_1)) = 0
           ·rw [if_pos c10] at H
            have c10b0 : ((wrap64 (rd l0 x6_1)) == 0) = true := beq_iff_eq.mpr c10
            have c10b1 : ((wrap64 (rd l0 x6_1)) != 0) = false := bne_eq_false_iff_eq.mpr c10
            clear c10
            simp only [Option.some.injEq, Prod.mk.injEq] at H
            obtain ⟨rfl, rfl⟩ := H
            have p526 : 0 ≤ (x6_1 : Int) := od_
            have q526 : x6_1 < (l0.length : Int) := od_
            obtain ⟨ad526, e526, hx526_0⟩ := Kd.at_int HR0.out x6_1 p526 q526
            cases e526
            replace p526 := eq_true p526
            replace q526 := eq_true q526
            go_wp2
            go_ret2
            exact ⟨J6, J2⟩
           ·rw [if_neg c10] at H
            have c10b0 : ((wrap64 (rd l0 x6_1)) == 0) = false := beq_eq_false_iff_ne.mpr c10
            have c10b1 : ((wrap64 (rd l0 x6_1)) != 0) = true := bne_iff_ne.mpr c10
            simp only [Option.some.injEq, Prod.mk.injEq] at H
            obtain ⟨rfl, rfl⟩ := H
            have p526 : 0 ≤ (x6_1 : Int) := od_
            have q526 : x6_1 < (l0.length : Int) := od_
            obtain ⟨ad526, e526, hx526_0⟩ := Kd.at_int HR0.out x6_1 p526 q526
            cases e526
            replace p526 := eq_true p526
            replace q526 := eq_true q526
            go_wp2
            go_ret2
            exact ⟨J6, J2⟩
          ·rw [if_neg c9] at H
           have c9b0 : decide (0 < x6_1) = false := decide_eq_false c9
           clear c9
           simp only [Option.some.injEq, Prod.mk.injEq] at H
           obtain ⟨rfl, rfl⟩ := H
           have p526 : 0 ≤ (x6_1 : Int) := od_
           have q526 : x6_1 < (l0.length : Int) := od_
           obtain ⟨ad526, e526, hx526_0⟩ := Kd.at_int HR0.out x6_1 p526 q526
           cases e526
           replace p526 := eq_true p526
           replace q526 := eq_true q526
           go_wp2
           go_ret2
           exact ⟨J6, J2⟩
        ·rw [if_neg c7] at H
         have c7b0 : decide ((wrap64 (rd l0 x6_1)) < 128) = false := decide_eq_false c7
         clear c7
         have H' := Aside0.mk H
         clear H
         have p526 : 0 ≤ (x6_1 : Int) := od_
         have q526 : x6_1 < (l0.length : Int) := od_
         obtain ⟨ad526, e526, hx526_0⟩ := Kd.at_int HR0.out x6_1 p526 q526
         cases e526
         replace p526 := eq_true p526
         replace q526 := eq_true q526
         go_wp2
         go_roundg kj1
         case measure => have := HK1.out; have := HJ1.out; omega
         case rel => exact ⟨(wrap64 (x4_1 + (wrap64 ((Int.tmod (wrap64 (rd l0 x6_1)) 128) * x5_1)))), (wrap64 (x5_1 * 128)), (wrap64 (x6_1 + 1)), Z4, Z4, Z4, H', ⟨(by have := HK1.out; have := HJ1.out; omega)⟩, J2⟩
       ·rw [if_neg c6] at H
        exact absurd H (by simp)
      ·rw [if_neg c5] at H
       exact absurd H (by simp)
     ·replace c4 := Bool.eq_false_iff.mpr c4
      subst c4
      have H1 : (some (0, 0)) = some (r1, r2) := by rw [if_neg (show ¬ (false = true) by decide)] at H; exact H
      clear H
      have H := H1
      clear H1
      simp only [Option.some.injEq, Prod.mk.injEq] at H
      obtain ⟨rfl, rfl⟩ := H
      go_wp2
      go_ret2
      exact ⟨J6, J2⟩

/-! ### spec_ReadText: function 53 -/
def spec_ReadText.f (k : Nat) (l0 : List Int) : Option (ByteArray × Int) := (spec_ReadNumber.f k l0).bind fun bt527 => (if bt527.2 = 0 then (some ((⟨#[]⟩ : ByteArray), 0)) else (if bt527.1 > 3000 then (some ((⟨#[]⟩ : ByteArray), 0)) else (if bt527.1 > (wrap64 ((l0.length : Int) - bt527.2)) then (some ((⟨#[]⟩ : ByteArray), 0)) else (if 0 ≤ bt527.2 then (if bt527.2 ≤ (wrap64 (bt527.2 + bt527.1)) then (if (wrap64 (bt527.2 + bt527.1)) ≤ (l0.length : Int) then (some (strOfNums ((l0.take ((wrap64 (bt527.2 + bt527.1)) : Int).toNat).drop (bt527.2 : Int).toNat), wrap64 (bt527.2 + bt527.1))) else (none)) else (none)) else (none)))))
theorem spec_ReadText.mono : ∀ a0 k, LeO (spec_ReadText.f k a0) (spec_ReadText.f (k + 1) a0) := by
 intro a0 k
 unfold spec_ReadText.f
 repeat' with_reducible first
   | exact spec_ReadNumber.mono _ _
   | exact LeO.refl _
   | exact LeO.none _
   | refine LeO.ite ?_ ?_
   | refine LeO.bind ?_ (fun _ => ?_)
set_option maxHeartbeats 8000000 in
set_option maxRecDepth 100000 in
theorem spec_ReadText.calls (k : Nat) (A0 : Option Addr) (c0 : Nat) (l0 : List Int) (r1 : ByteArray) (r2 : Int) (w : World) (hr0 : Kd.C (Kd.int .u8) w A0 l0.length l0) (hc0 : l0.length ≤ c0) (h : spec_ReadText.f k l0 = some (r1, r2)) :
  Calls Tryd.prog 53 #[.slice A0 l0.length c0] w fun e w' => e = .returned (.tuple #[.string r1, .int .i64 r2]) ∧ Drawn0 w w' := by
 have HR0 := Aside0.mk hr0
 have HC0 := Aside0.mk hc0
 clear hr0 hc0
 have H : ((spec_ReadNumber.f k l0).bind fun bt527 => (if bt527.2 = 0 then (some ((⟨#[]⟩ : ByteArray), 0)) else (if bt527.1 > 3000 then (some ((⟨#[]⟩ : ByteArray), 0)) else (if bt527.1 > (wrap64 ((l0.length : Int) - bt527.2)) then (some ((⟨#[]⟩ : ByteArray), 0)) else (if 0 ≤ bt527.2 then (if bt527.2 ≤ (wrap64 (bt527.2 + bt527.1)) then (if (wrap64 (bt527.2 + bt527.1)) ≤ (l0.length : Int) then (some (strOfNums ((l0.take ((wrap64 (bt527.2 + bt527.1)) : Int).toNat).drop (bt527.2 : Int).toNat), wrap64 (bt527.2 + bt527.1))) else (none)) else (none)) else (none)))))) = some (r1, r2) := h
 clear h
 replace H := Option.bind_eq_some_iff.mp H
 obtain ⟨⟨t527, t528⟩, A20, H⟩ := H
 try dsimp only at H
 have A2 := Aside0.mk A20
 clear A20
 by_cases c3 : t528 = 0
 ·rw [if_pos c3] at H
  have c3b0 : (t528 == 0) = true := beq_iff_eq.mpr c3
  have c3b1 : (t528 != 0) = false := bne_eq_false_iff_eq.mpr c3
  clear c3
  simp only [Option.some.injEq, Prod.mk.injEq] at H
  obtain ⟨rfl, rfl⟩ := H
  go_enter Tryd.func53, Tryd.ntmps53
  go_wp2_with (first | ((with_reducible refine gate_callee (f := 28) rfl ?_); refine goesL_ (some 8) rfl rfl Tryd.func28 (by kernel_rfl) rfl #[.slice A0 l0.length c0] rfl Z2 ?_; (with_reducible refine (spec_ReadNumber.calls k _ _ l0 t527 t528 _ ?side1 ?side2 A2.out).mono ?_); (case side1 => exact J22); (case side2 => exact HC0.out); rintro e w' ⟨rfl, ⟨nd, rfl⟩⟩; refine ⟨_, rfl, ?_⟩))
  go_ret2
  exact ⟨J6, J2⟩
 ·rw [if_neg c3] at H
  have c3b0 : (t528 == 0) = false := beq_eq_false_iff_ne.mpr c3
  have c3b1 : (t528 != 0) = true := bne_iff_ne.mpr c3
  by_cases c4 : t527 > 3000
  ·rw [if_pos c4] at H
   have c4b0 : decide (3000 < t527) = true := decide_eq_true c4
   clear c4
   simp only [Option.some.injEq, Prod.mk.injEq] at H
   obtain ⟨rfl, rfl⟩ := H
   go_enter Tryd.func53, Tryd.ntmps53
   go_wp2_with (first | ((with_reducible refine gate_callee (f := 28) rfl ?_); refine goesL_ (some 8) rfl rfl Tryd.func28 (by kernel_rfl) rfl #[.slice A0 l0.length c0] rfl Z2 ?_; (with_reducible refine (spec_ReadNumber.calls k _ _ l0 t527 t528 _ ?side1 ?side2 A2.out).mono ?_); (case side1 => exact J22); (case side2 => exact HC0.out); rintro e w' ⟨rfl, ⟨nd, rfl⟩⟩; refine ⟨_, rfl, ?_⟩))
   go_ret2
   exact ⟨J6, J2⟩
  ·rw [if_neg c4] at H
   have c4b0 : decide (3000 < t527) = false := decide_eq_false c4
   clear c4
   have HC5 := Aside0.mk H
   clear H
   go_enter Tryd.func53, Tryd.ntmps53
   go_upto_if 24 with (first | ((with_reducible refine gate_callee (f := 28) rfl ?_); refine goesL_ (some 8) rfl rfl Tryd.func28 (by kernel_rfl) rfl #[.slice A0 l0.length c0] rfl Z2 ?_; (with_reducible refine (spec_ReadNumber.calls k _ _ l0 t527 t528 _ ?side1 ?side2 A2.out).mono ?_); (case side1 => exact J22); (case side2 => exact HC0.out); rintro e w' ⟨rfl, ⟨nd, rfl⟩⟩; refine ⟨_, rfl, ?_⟩))
   (try simp only [Act.put, List.setIfInBounds_toArray, List.set_cons_zero, List.set_cons_succ])
   have H := HC5.out
   clear HC5
   by_cases c6 : t527 > (wrap64 ((l0.length : Int) - t528))
   ·rw [if_pos c6] at H
    have c6b0 : decide ((wrap64 ((l0.length : Int) - t528)) < t527) = true := decide_eq_true c6
    clear c6
    (first | rw [c6b0] | (simp only [i64_w, i32_w]; rw [c6b0]) | skip)
    simp only [Option.some.injEq, Prod.mk.injEq] at H
    obtain ⟨rfl, rfl⟩ := H
    go_wp2
    go_ret2
    exact ⟨J6, J2⟩
   ·rw [if_neg c6] at H
    have c6b0 : decide ((wrap64 ((l0.length : Int) - t528)) < t527) = false := decide_eq_false c6
    clear c6
    (first | rw [c6b0] | (simp only [i64_w, i32_w]; rw [c6b0]) | skip)
    by_cases c7 : 0 ≤ t528
    ·rw [if_pos c7] at H
     have c7b0 := eq_true c7
     have c7b1 : decide (0 ≤ t528) = true := decide_eq_true c7
     clear c7
     by_cases c8 : t528 ≤ (wrap64 (t528 + t527))
     ·rw [if_pos c8] at H
      have c8b0 := eq_true c8
      have c8b1 : decide (t528 ≤ (wrap64 (t528 + t527))) = true := decide_eq_true c8
      by_cases c9 : (wrap64 (t528 + t527)) ≤ (l0.length : Int)
      ·rw [if_pos c9] at H
       have c9b0 := eq_true c9
       have c9b1 : decide ((wrap64 (t528 + t527)) ≤ (l0.length : Int)) = true := decide_eq_true c9
       simp only [Option.some.injEq, Prod.mk.injEq] at H
       obtain ⟨rfl, rfl⟩ := H
       obtain ⟨i010, hi010, _, hsz10, _⟩ := info_parts info5
       obtain ⟨A10, hcut10, hA10, hC10⟩ := print_mid_of (P := Tryd.prog) (Value.int .u8) 0 22 5 .i64 .i64 Tryd.underlying22 hi010 hsz10 A0 c0 l0 t528 (wrap64 (t528 + t527)) (od_) (by first | omega | exact od_) (od_) HC0.out
       have HR529 := Aside0.mk (Kd.C_of_reads (h1 := fun _ => rfl) (hA10 _ (Kd.reads_of_C HR0.out)))
       have HC529 := Aside0.mk hC10
       clear hA10 hC10 hi010 hsz10
       have hcv11 := Kd.C_string (P := Tryd.prog) (A := A10) (c := (c0 - t528.toNat)) Tryd.underlying22 Tryd.underlying5 Tryd.underlying9 HR529.out
       have hmn12 := Nat.min_eq_left (Int.toNat_le.2 (of_decide_eq_true (p := (wrap64 (t528 + t527)) ≤ (l0.length : Int)) (by first | (with_reducible assumption) | assumption)))
       have hcn12 := fun (n_ : Nat) => Kd.C_string (P := Tryd.prog) (A := A10) (c := (c0 - t528.toNat)) Tryd.underlying22 Tryd.underlying5 Tryd.underlying9 (Kd.C_drewN HR529.out n_)
       try simp only [List.length_drop, List.length_take, hmn12] at hcn12
       go_wp2
       go_ret2
       exact ⟨J6, J2⟩
      ·rw [if_neg c9] at H
       exact absurd H (by simp)
     ·rw [if_neg c8] at H
      exact absurd H (by simp)
    ·rw [if_neg c7] at H
     exact absurd H (by simp)

/-! ### spec_l1ReadTexts: function 29 -/
mutual
def spec_l1ReadTexts.j0 : Nat → List Int → Int → Int → List ByteArray → Bool → Option (List ByteArray × Int)
 | 0, _, _, _, _, _ => none
 | k + 1, x0, x4, x5, x6, x20 => if x20 = true then (some (x6, 0)) else (spec_l1ReadTexts.l0 k x0 x4 x5 x6)
def spec_l1ReadTexts.l0 : Nat → List Int → Int → Int → List ByteArray → Option (List ByteArray × Int)
 | 0, _, _, _, _ => none
 | k + 1, x0, x4, x5, x6 => if x4 > 0 then (if 0 ≤ x5 then (if x5 ≤ (x0.length : Int) then ((spec_ReadText.f k (x0.drop (x5 : Int).toNat)).bind fun bt536 => (if bt536.2 = 0 then (some ((([] : List ByteArray)), 0)) else (if x6.length < 8796093022208 then (spec_l1ReadTexts.l0 k x0 (wrap64 (x4 - 1)) (wrap64 (x5 + bt536.2)) (x6 ++ [bt536.1])) else (none)))) else (none)) else (none)) else (some (x6, x5))
end
def spec_l1ReadTexts.f (k : Nat) (l0 : List Int) : Option (List ByteArray × Int) := (spec_ReadNumber.f k l0).bind fun bt530 => ((some (([] : List ByteArray) : List ByteArray)).bind fun y532 => (if bt530.2 = 0 then (spec_l1ReadTexts.j0 k l0 bt530.1 bt530.2 y532 true) else (spec_l1ReadTexts.j0 k l0 bt530.1 bt530.2 y532 (decide (bt530.1 > 200)))))
theorem spec_l1ReadTexts.mono_l : ∀ k, (∀ y0 y1 y2 y3 y4, LeO (spec_l1ReadTexts.j0 k y0 y1 y2 y3 y4) (spec_l1ReadTexts.j0 (k + 1) y0 y1 y2 y3 y4)) ∧ (∀ y0 y1 y2 y3, LeO (spec_l1ReadTexts.l0 k y0 y1 y2 y3) (spec_l1ReadTexts.l0 (k + 1) y0 y1 y2 y3))
 | 0 => ⟨fun _ _ _ _ _ r h => by simp [spec_l1ReadTexts.j0] at h, fun _ _ _ _ r h => by simp [spec_l1ReadTexts.l0] at h⟩
 | k + 1 => by
  obtain ⟨ih0, ih1⟩ := spec_l1ReadTexts.mono_l k
  refine ⟨?_, ?_⟩
  ·intro y0 y1 y2 y3 y4
   unfold spec_l1ReadTexts.j0
   repeat' with_reducible first
   | exact ih0 _ _ _ _ _
   | exact ih1 _ _ _ _
   | exact spec_ReadNumber.mono _ _
   | exact spec_ReadText.mono _ _
   | exact LeO.refl _
   | exact LeO.none _
   | refine LeO.ite ?_ ?_
   | refine LeO.bind ?_ (fun _ => ?_)
  ·intro y0 y1 y2 y3
   unfold spec_l1ReadTexts.l0
   repeat' with_reducible first
   | exact ih0 _ _ _ _ _
   | exact ih1 _ _ _ _
   | exact spec_ReadNumber.mono _ _
   | exact spec_ReadText.mono _ _
   | exact LeO.refl _
   | exact LeO.none _
   | refine LeO.ite ?_ ?_
   | refine LeO.bind ?_ (fun _ => ?_)
theorem spec_l1ReadTexts.mono : ∀ a0 k, LeO (spec_l1ReadTexts.f k a0) (spec_l1ReadTexts.f (k + 1) a0) := by
 intro a0 k
 obtain ⟨ih0, ih1⟩ := spec_l1ReadTexts.mono_l k
 unfold spec_l1ReadTexts.f
 repeat' with_reducible first
   | exact ih0 _ _ _ _ _
   | exact ih1 _ _ _ _
   | exact spec_ReadNumber.mono _ _
   | exact spec_ReadText.mono _ _
   | exact LeO.refl _
   | exact LeO.none _
   | refine LeO.ite ?_ ?_
   | refine LeO.bind ?_ (fun _ => ?_)
set_option maxHeartbeats 8000000 in
set_option maxRecDepth 100000 in
theorem spec_l1ReadTexts.calls (k : Nat) (A0 : Option Addr) (c0 : Nat) (l0 : List Int) (r1 : List ByteArray) (r2 : Int) (w : World) (hr0 : Kd.C (Kd.int .u8) w A0 l0.length l0) (hc0 : l0.length ≤ c0) (h : spec_l1ReadTexts.f k l0 = some (r1, r2)) :
  Calls Tryd.prog 29 #[.slice A0 l0.length c0] w fun e w' => ∃ v0_ : Value, e = .returned (.tuple #[v0_, .int .i64 r2]) ∧ Kd.R Kd.string 9 w' w.heap.size (fun _ => True) v0_ r1 ∧ Below w.heap.size w w' := by
 have HR0 := Aside0.mk hr0
 have HC0 := Aside0.mk hc0
 clear hr0 hc0
 have HB := Aside0.mk (Below.refl w.heap.size w)
 have H : ((spec_ReadNumber.f k l0).bind fun bt530 => ((some (([] : List ByteArray) : List ByteArray)).bind fun y532 => (if bt530.2 = 0 then (spec_l1ReadTexts.j0 k l0 bt530.1 bt530.2 y532 true) else (spec_l1ReadTexts.j0 k l0 bt530.1 bt530.2 y532 (decide (bt530.1 > 200)))))) = some (r1, r2) := h
 clear h
 replace H := Option.bind_eq_some_iff.mp H
 obtain ⟨⟨t530, t531⟩, A20, H⟩ := H
 try dsimp only at H
 have A2 := Aside0.mk A20
 clear A20
 obtain ⟨y532, hy532⟩ : ∃ y_ : List ByteArray, y_ = (([] : List ByteArray)) := ⟨_, rfl⟩
 replace H : (if t531 = 0 then (spec_l1ReadTexts.j0 k l0 t530 t531 y532 true) else (spec_l1ReadTexts.j0 k l0 t530 t531 y532 (decide (t530 > 200)))) = some (r1, r2) := by first | (rw [hy532]; with_reducible exact H) | (have H2_ := (Option.bind_some _ _).symm.trans H; rw [hy532]; with_reducible exact H2_) | (have H2_ := (Option.bind_some _ _).symm.trans H; with_reducible exact H2_) | with_reducible exact H | (rw [hy532]; exact H) | exact H
 have Ny532 := Aside0.mk hy532
 clear hy532
 have HC3 := Aside0.mk H
 clear H
 go_enter Tryd.func29, Tryd.ntmps29
 go_upto_region 3 with (first | ((with_reducible refine gate_callee (f := 28) rfl ?_); refine goesL_ (some 11) rfl rfl Tryd.func28 (by kernel_rfl) rfl #[.slice A0 l0.length c0] rfl Z2 ?_; (with_reducible refine (spec_ReadNumber.calls k _ _ l0 t530 t531 _ ?side1 ?side2 A2.out).mono ?_); (case side1 => exact J22); (case side2 => exact HC0.out); rintro e w' ⟨rfl, ⟨nd, rfl⟩⟩; refine ⟨_, rfl, ?_⟩) | ((with_reducible refine gate_dst (N := 14) rfl ?_); refine Kd.R_lit Kd.string _ 9 ?hg (N := 14) ?hd (xs := ([] : List ByteArray)) (inner := []) (ok := fun _ => True) (okp := fun _ => True) ?hr ?hp (fun _ hk => hk) trivial (Below.refl _ _) (Nat.le_refl _) (by simp) ?_; (case hd => rfl); (case hg => rfl); (case hr => first | (go_simp; done) | (go_simp; rfl)); (case hp => exact (Reps.none _ _)); intro v533 w4 ho5 hb hg_ hnew_; clear hg_ hnew_; (first | rw [← Ny532.out] at ho5 | (simp only [Int.reduceToNat] at ho5; rw [← Ny532.out] at ho5)); have HO534 := Aside0.mk (Kd.R_lower ho5 (below_size Z0)); replace HB := Aside0.mk (below_step Z0 hb); clear hb ho5))
 (try simp only [Act.put, List.setIfInBounds_toArray, List.set_cons_zero, List.set_cons_succ])
 go_cut [20] (fun v20 wc => ∃ (kq : Nat) (x20_2 : Bool), v20 = .bool x20_2 ∧ Aside0 (spec_l1ReadTexts.j0 kq l0 t530 t531 y532 x20_2 = some (r1, r2)) ∧ Aside0 (kq ≤ k) ∧ Aside0 (Kd.R Kd.string 9 wc w.heap.size (fun _ => True) v533 y532) ∧ Aside0 (Below w.heap.size w wc))
 case first =>
  have H := HC3.out
  clear HC3
  by_cases c6 : t531 = 0
  ·rw [if_pos c6] at H
   have c6b0 : (t531 == 0) = true := beq_iff_eq.mpr c6
   have c6b1 : (t531 != 0) = false := bne_eq_false_iff_eq.mpr c6
   clear c6
   (first | rw [c6b0] | (simp only [i64_w, i32_w]; rw [c6b0]) | skip)
   try rw [c6b1]
   have H' := Aside0.mk H
   clear H
   go_wp2
   go_meet
   case rel => exact ⟨_, (true), Z4, H', ⟨J32⟩, ⟨(by (with_reducible repeat (first | apply Kd.R_alloc | apply Kd.R_drewN | apply Kd.R_drew)); exact HO534.out)⟩, ⟨J1⟩⟩
  ·rw [if_neg c6] at H
   have c6b0 : (t531 == 0) = false := beq_eq_false_iff_ne.mpr c6
   have c6b1 : (t531 != 0) = true := bne_iff_ne.mpr c6
   (first | rw [c6b0] | (simp only [i64_w, i32_w]; rw [c6b0]) | skip)
   try rw [c6b1]
   have H' := Aside0.mk H
   clear H
   go_wp2
   go_meet
   case rel => exact ⟨_, (decide (t530 > 200)), Z4, H', ⟨J32⟩, ⟨(by (with_reducible repeat (first | apply Kd.R_alloc | apply Kd.R_drewN | apply Kd.R_drew)); exact HO534.out)⟩, ⟨J1⟩⟩
 case rest =>
  clear HC3
  try clear c2
  try clear p2
  try clear c6
  try clear c6b0
  try clear c6b1
  obtain ⟨kq, x20_2, rfl, HA, HJ2, HO_6, HB⟩ := hcut
  cases kq with
  | zero => exact absurd HA.out (by simp [spec_l1ReadTexts.j0])
  | succ kj2 =>
   have H := HA.out
   clear HA
   simp only [spec_l1ReadTexts.j0] at H
   by_cases c7 : x20_2 = true
   ·subst c7
    have H1 : (some (y532, 0)) = some (r1, r2) := by rw [if_pos rfl] at H; exact H
    clear H
    have H := H1
    clear H1
    simp only [Option.some.injEq, Prod.mk.injEq] at H
    obtain ⟨rfl, rfl⟩ := H
    go_wp2
    go_ret2
    exact ⟨_, J0, J46, J1⟩
   ·replace c7 := Bool.eq_false_iff.mpr c7
    subst c7
    have H1 : (spec_l1ReadTexts.l0 kj2 l0 t530 t531 y532) = some (r1, r2) := by rw [if_neg (show ¬ (false = true) by decide)] at H; exact H
    clear H
    have H := H1
    clear H1
    have H' := Aside0.mk H
    clear H
    go_wp2
    go_loopg [4, 5, 6] kj2 (fun kq v4 v5 v6 w' => ∃ (x4_2 : Int) (x5_2 : Int) (x6_2 : List ByteArray), v4 = .int .i64 x4_2 ∧ v5 = .int .i64 x5_2 ∧ Aside0 (spec_l1ReadTexts.l0 kq l0 x4_2 x5_2 x6_2 = some (r1, r2)) ∧ Aside0 (kq ≤ kj2) ∧ Aside0 (Kd.R Kd.string 9 w' w.heap.size (fun _ => True) v6 x6_2) ∧ Aside0 (Below w.heap.size w w'))
    case atStart => exact ⟨(t530), (t531), (y532), Z4, Z4, H', ⟨Nat.le_refl _⟩, ⟨J46⟩, ⟨J1⟩⟩
    case round =>
     clear H'
     try clear c2
     try clear p2
     try clear c6
     try clear c6b0
     try clear c6b1
     try clear c7
     try clear p2
     obtain ⟨x4_2, x5_2, x6_2, rfl, rfl, HA, HK2, HO_6, HB⟩ := hrel
     cases gk with
     | zero => exact absurd HA.out (by simp [spec_l1ReadTexts.l0])
     | succ k2 =>
      have H := HA.out
      clear HA
      simp only [spec_l1ReadTexts.l0] at H
      by_cases c8 : x4_2 > 0
      ·rw [if_pos c8] at H
       have c8b0 : decide (0 < x4_2) = true := decide_eq_true c8
       clear c8
       by_cases c9 : 0 ≤ x5_2
       ·rw [if_pos c9] at H
        have c9b0 := eq_true c9
        have c9b1 : decide (0 ≤ x5_2) = true := decide_eq_true c9
        clear c9
        by_cases c10 : x5_2 ≤ (l0.length : Int)
        ·rw [if_pos c10] at H
         have c10b0 := eq_true c10
         have c10b1 : decide (x5_2 ≤ (l0.length : Int)) = true := decide_eq_true c10
         clear c10
         replace H := Option.bind_eq_some_iff.mp H
         obtain ⟨⟨t536, t537⟩, A110, H⟩ := H
         try dsimp only at H
         have A11 := Aside0.mk A110
         clear A110
         have HC12 := Aside0.mk H
         clear H
         obtain ⟨i013, hi013, _, hsz13, _⟩ := info_parts info5
         obtain ⟨A13, hcut13, hA13, hC13⟩ := print_drop_of (P := Tryd.prog) (Value.int .u8) 0 22 5 .i64 Tryd.underlying22 hi013 hsz13 A0 c0 l0 x5_2 (od_) (od_) HC0.out
         have HR535 := Aside0.mk (Kd.C_of_reads (h1 := fun _ => rfl) (hA13 _ (Kd.reads_of_C HR0.out)))
         have HC535 := Aside0.mk hC13
         clear hA13 hC13 hi013 hsz13
         go_upto_if 34 with (first | ((with_reducible refine gate_callee (f := 53) rfl ?_); refine goesL_ (some 30) rfl rfl Tryd.func53 (by kernel_rfl) rfl #[.slice A13 (l0.drop (x5_2 : Int).toNat).length (c0 - x5_2.toNat)] rfl (by (try simp only [List.map_toArray, List.map_cons, List.map_nil]); first | done | (rw [show (l0.drop (x5_2 : Int).toNat).length = (l0.length - x5_2.toNat) from List.length_drop] <;> rfl) | rfl | (simp only [List.length_drop, List.length_take]; rfl)) ?_; (with_reducible refine (spec_ReadText.calls k2 _ _ (l0.drop (x5_2 : Int).toNat) t536 t537 _ ?side1 ?side2 A11.out).mono ?_); (case side1 => exact (by repeat (first | exact (Kd.C_below HR535.out HB.out) | (with_reducible refine Kd.C_alloc ?_ _) | (with_reducible refine Kd.C_drewN ?_ _) | (with_reducible refine Kd.C_drew ?_)))); (case side2 => exact HC535.out); rintro e w' ⟨rfl, ⟨nd, rfl⟩⟩; refine ⟨_, rfl, ?_⟩))
         (try simp only [Act.put, List.setIfInBounds_toArray, List.set_cons_zero, List.set_cons_succ])
         have H := HC12.out
         clear HC12
         by_cases c14 : t537 = 0
         ·rw [if_pos c14] at H
          have c14b0 : (t537 == 0) = true := beq_iff_eq.mpr c14
          have c14b1 : (t537 != 0) = false := bne_eq_false_iff_eq.mpr c14
          clear c14
          (first | rw [c14b0] | (simp only [i64_w, i32_w]; rw [c14b0]) | skip)
          try rw [c14b1]
          obtain ⟨y538, hy538⟩ : ∃ y_ : List ByteArray, y_ = (([] : List ByteArray)) := ⟨_, rfl⟩
          replace H : (some (y538, 0)) = some (r1, r2) := by first | (rw [hy538]; with_reducible exact H) | (have H2_ := (Option.bind_some _ _).symm.trans H; rw [hy538]; with_reducible exact H2_) | (have H2_ := (Option.bind_some _ _).symm.trans H; with_reducible exact H2_) | with_reducible exact H | (rw [hy538]; exact H) | exact H
          have Ny538 := Aside0.mk hy538
          clear hy538
          simp only [Option.some.injEq, Prod.mk.injEq] at H
          obtain ⟨rfl, rfl⟩ := H
          go_wp2_with (first | ((with_reducible refine gate_dst (N := 35) rfl ?_); refine Kd.R_lit Kd.string _ 9 ?hg (N := 35) ?hd (xs := ([] : List ByteArray)) (inner := []) (ok := fun _ => True) (okp := fun _ => True) ?hr ?hp (fun _ hk => hk) trivial (Below.refl _ _) (Nat.le_refl _) (by simp) ?_; (case hd => rfl); (case hg => rfl); (case hr => first | (go_simp; done) | (go_simp; rfl)); (case hp => exact (Reps.none _ _)); intro v539 w15 ho16 hb hg_ hnew_; clear hg_ hnew_; (first | rw [← Ny538.out] at ho16 | (simp only [Int.reduceToNat] at ho16; rw [← Ny538.out] at ho16)); have HO540 := Aside0.mk (Kd.R_lower (Kd.R_new' ho16 (Kd.R_lt Z38)) (below_size Z0)); replace HO_6 := Aside0.mk (Kd.R_elder' Z38 (Kd.R_base ho16) hb); replace HB := Aside0.mk (below_step Z0 hb); clear hb ho16))
          go_ret2
          exact ⟨_, J0, (by (with_reducible repeat (first | apply Kd.R_alloc | apply Kd.R_drewN | apply Kd.R_drew)); exact Kd.R_mono HO540.out (fun _ hk => trivial)), J1⟩
         ·rw [if_neg c14] at H
          have c14b0 : (t537 == 0) = false := beq_eq_false_iff_ne.mpr c14
          have c14b1 : (t537 != 0) = true := bne_iff_ne.mpr c14
          (first | rw [c14b0] | (simp only [i64_w, i32_w]; rw [c14b0]) | skip)
          try rw [c14b1]
          by_cases c17 : x6_2.length < 8796093022208
          ·rw [if_pos c17] at H
           have LMc17 := Aside0.mk c17
           clear c17
           obtain ⟨y541, hy541⟩ : ∃ y_ : List ByteArray, y_ = (x6_2 ++ [t536]) := ⟨_, rfl⟩
           replace H : (spec_l1ReadTexts.l0 k2 l0 (wrap64 (x4_2 - 1)) (wrap64 (x5_2 + t537)) y541) = some (r1, r2) := by first | (rw [hy541]; with_reducible exact H) | (have H2_ := (Option.bind_some _ _).symm.trans H; rw [hy541]; with_reducible exact H2_) | (have H2_ := (Option.bind_some _ _).symm.trans H; with_reducible exact H2_) | with_reducible exact H | (rw [hy541]; exact H) | exact H
           have Ny541 := Aside0.mk hy541
           clear hy541
           have H' := Aside0.mk H
           clear H
           go_wp2_with (first | ((with_reducible refine gate_builtin (b := .append) (xs := #[.tmp 36, .tmp 38]) rfl ?_); at_builtin; refine Kd.R_append Kd.string (w0 := w) w.heap.size rfl (.tmp 36) (.tmp 38) 27 9 (.string ⟨#[]⟩) 16 rfl Tryd.underlying27 info9 rfl (by decide) (by omega) u6 x6_2 t536 [.string t536] (fun _ => True) (fun _ => False) rfl rfl ?aP (fun _ hk => hk.elim) ?aF ?aO ?aB ?aS ?aL ?_; (case aP => exact rfl); (case aB => exact Z0); (case aF => exact (fun _ _ => trivial)); (case aO => exact Z38); (case aS => exact (below_size Z0)); (case aL => have := LMc17.out; omega); intro v542 w18 ho hb hg hat; rw [← Ny541.out] at ho; replace HB := Aside0.mk (hb); have HO543 := Aside0.mk (ho); clear HO_6; clear ho hb hg hat))
           go_roundg k2
           case measure => have := HJ2.out; have := HK2.out; omega
           case rel => exact ⟨(wrap64 (x4_2 - 1)), (wrap64 (x5_2 + t537)), (y541), Z4, Z4, H', ⟨(by have := HJ2.out; have := HK2.out; omega)⟩, ⟨(by (with_reducible repeat (first | apply Kd.R_alloc | apply Kd.R_drewN | apply Kd.R_drew)); exact HO543.out)⟩, ⟨J1⟩⟩
          ·rw [if_neg c17] at H
           exact absurd H (by simp)
        ·rw [if_neg c10] at H
         exact absurd H (by simp)
       ·rw [if_neg c9] at H
        exact absurd H (by simp)
      ·rw [if_neg c8] at H
       have c8b0 : decide (0 < x4_2) = false := decide_eq_false c8
       clear c8
       simp only [Option.some.injEq, Prod.mk.injEq] at H
       obtain ⟨rfl, rfl⟩ := H
       go_wp2
       go_ret2
       exact ⟨_, J0, J46, J1⟩

end Go.Proofs.YtokhjhkkncbjeaaDoor.PFnBlocks
