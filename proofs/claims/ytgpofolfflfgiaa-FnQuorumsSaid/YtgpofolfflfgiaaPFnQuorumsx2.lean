-- Written by a program of this session (wip/tools/pp.py over the kit's print).
import Derived.Test.YtgpofolfflfgiaaPFnQuorumsx0
import Derived.Test.YtgpofolfflfgiaaPFnQuorumsx1
namespace Go.Proofs.Ytgpofolfflfgiaa.PFnQuorums
open Go.RowKit Go.Proofs.YtgpofolfflfgiaaW.PrintWords Go.Proofs.YtgpofolfflfgiaaW.PrintLast Go.Proofs.YtgpofolfflfgiaaW.PrintMore
attribute [local go_sem] max2_int min2_int max_two min_two max_three min_three max_four min_four   -- for this text's walks alone
set_option linter.unusedVariables false
set_option linter.unusedSimpArgs false

/-! ### laws_FnQuorums: function 5 -/
mutual
def laws_FnQuorums.j0 : Nat → List Int → Int → Int → Bool → Option (Bool)
  | 0, _, _, _, _ => none
  | k + 1, x0, x3, x4, x32 => if x32 = true then (some (x4 == (-1))) else (if 0 ≤ (IntKind.u64.wrap (x3)) then (laws_FnQuorums.l0 k x0 x3 x4 (wrap64 (Int.tdiv (wrap64 (x3 - 1)) 3)) (shl .i64 1 (IntKind.u64.wrap (x3))) 0) else (none))
def laws_FnQuorums.l0 : Nat → List Int → Int → Int → Int → Int → Int → Option (Bool)
  | 0, _, _, _, _, _, _ => none
  | k + 1, x0, x3, x4, x5, x6, x7 => if x7 < x6 then ((laws_pick.f k x0 x7 x6).bind fun t136 => (laws_FnQuorums.l1 k x0 x3 x4 x5 x6 x7 t136 0 0 0 0)) else (if (wrap64 (x3 - x5)) ≥ x4 then (some (decide (x4 > x5))) else (some false))
def laws_FnQuorums.l1 : Nat → List Int → Int → Int → Int → Int → Int → Int → Int → Int → Int → Int → Option (Bool)
  | 0, _, _, _, _, _, _, _, _, _, _, _ => none
  | k + 1, x0, x3, x4, x5, x6, x7, x8, x9, x10, x11, x12 => if x12 < x3 then (if 0 ≤ (IntKind.u64.wrap (x12)) then (laws_FnQuorums.l1 k x0 x3 x4 x5 x6 x7 x8 (wrap64 (x9 + (Int.tmod (shr .i64 x7 (IntKind.u64.wrap (x12))) 2))) (wrap64 (x10 + (Int.tmod (shr .i64 x8 (IntKind.u64.wrap (x12))) 2))) (wrap64 (x11 + (Int.tmod (shr .i64 (Go.bits .and .i64 x7 x8) (IntKind.u64.wrap (x12))) 2))) (wrap64 (x12 + 1))) else (none)) else (if x9 ≥ x4 then (if x10 ≥ x4 then (if x11 ≤ x5 then (some false) else (laws_FnQuorums.l0 k x0 x3 x4 x5 x6 (wrap64 (x7 + 1)))) else (laws_FnQuorums.l0 k x0 x3 x4 x5 x6 (wrap64 (x7 + 1)))) else (laws_FnQuorums.l0 k x0 x3 x4 x5 x6 (wrap64 (x7 + 1))))
end
def laws_FnQuorums.f (k : Nat) (l0 : List Int) : Option (Bool) := (laws_big.f l0).bind fun t132 => (if t132 = true then (some true) else ((spec_DrawQuorum.f k l0).bind fun t133 => ((impl_Quorum.f t133).bind fun t134 => ((spec_Quorum.f t133).bind fun t135 => (if t134 = t135 then (if t133 = 1 then (laws_FnQuorums.j0 k l0 t133 t134 false) else (if t133 = 4 then (laws_FnQuorums.j0 k l0 t133 t134 false) else (laws_FnQuorums.j0 k l0 t133 t134 (t133 != 7)))) else (some false))))))
theorem laws_FnQuorums.mono_l : ∀ k, (∀ y0 y1 y2 y3, LeO (laws_FnQuorums.j0 k y0 y1 y2 y3) (laws_FnQuorums.j0 (k + 1) y0 y1 y2 y3)) ∧ (∀ y0 y1 y2 y3 y4 y5, LeO (laws_FnQuorums.l0 k y0 y1 y2 y3 y4 y5) (laws_FnQuorums.l0 (k + 1) y0 y1 y2 y3 y4 y5)) ∧ (∀ y0 y1 y2 y3 y4 y5 y6 y7 y8 y9 y10, LeO (laws_FnQuorums.l1 k y0 y1 y2 y3 y4 y5 y6 y7 y8 y9 y10) (laws_FnQuorums.l1 (k + 1) y0 y1 y2 y3 y4 y5 y6 y7 y8 y9 y10))
  | 0 => ⟨fun _ _ _ _ r h => by simp [laws_FnQuorums.j0] at h, fun _ _ _ _ _ _ r h => by simp [laws_FnQuorums.l0] at h, fun _ _ _ _ _ _ _ _ _ _ _ r h => by simp [laws_FnQuorums.l1] at h⟩
  | k + 1 => by
    obtain ⟨ih0, ih1, ih2⟩ := laws_FnQuorums.mono_l k
    refine ⟨?_, ?_, ?_⟩
    · intro y0 y1 y2 y3
      unfold laws_FnQuorums.j0
      repeat' first
      | (with_reducible exact ih0 _ _ _ _)
      | (with_reducible exact ih1 _ _ _ _ _ _)
      | (with_reducible exact ih2 _ _ _ _ _ _ _ _ _ _ _)
      | (with_reducible exact laws_pick.mono _ _ _ _)
      | (with_reducible exact spec_DrawQuorum.mono _ _)
      | (with_reducible exact LeO.refl _)
      | (with_reducible exact LeO.none _)
      | (with_reducible refine LeO.ite ?_ ?_)
      | (with_reducible refine LeO.bind ?_ (fun _ => ?_))
      | exact ih0 _ _ _ _
      | exact ih1 _ _ _ _ _ _
      | exact ih2 _ _ _ _ _ _ _ _ _ _ _
      | exact laws_pick.mono _ _ _ _
      | exact spec_DrawQuorum.mono _ _
      | exact LeO.none _
      | refine LeO.ite ?_ ?_
      | refine LeO.bind ?_ (fun _ => ?_)
    · intro y0 y1 y2 y3 y4 y5
      unfold laws_FnQuorums.l0
      repeat' first
      | (with_reducible exact ih0 _ _ _ _)
      | (with_reducible exact ih1 _ _ _ _ _ _)
      | (with_reducible exact ih2 _ _ _ _ _ _ _ _ _ _ _)
      | (with_reducible exact laws_pick.mono _ _ _ _)
      | (with_reducible exact spec_DrawQuorum.mono _ _)
      | (with_reducible exact LeO.refl _)
      | (with_reducible exact LeO.none _)
      | (with_reducible refine LeO.ite ?_ ?_)
      | (with_reducible refine LeO.bind ?_ (fun _ => ?_))
      | exact ih0 _ _ _ _
      | exact ih1 _ _ _ _ _ _
      | exact ih2 _ _ _ _ _ _ _ _ _ _ _
      | exact laws_pick.mono _ _ _ _
      | exact spec_DrawQuorum.mono _ _
      | exact LeO.none _
      | refine LeO.ite ?_ ?_
      | refine LeO.bind ?_ (fun _ => ?_)
    · intro y0 y1 y2 y3 y4 y5 y6 y7 y8 y9 y10
      unfold laws_FnQuorums.l1
      repeat' first
      | (with_reducible exact ih0 _ _ _ _)
      | (with_reducible exact ih1 _ _ _ _ _ _)
      | (with_reducible exact ih2 _ _ _ _ _ _ _ _ _ _ _)
      | (with_reducible exact laws_pick.mono _ _ _ _)
      | (with_reducible exact spec_DrawQuorum.mono _ _)
      | (with_reducible exact LeO.refl _)
      | (with_reducible exact LeO.none _)
      | (with_reducible refine LeO.ite ?_ ?_)
      | (with_reducible refine LeO.bind ?_ (fun _ => ?_))
      | exact ih0 _ _ _ _
      | exact ih1 _ _ _ _ _ _
      | exact ih2 _ _ _ _ _ _ _ _ _ _ _
      | exact laws_pick.mono _ _ _ _
      | exact spec_DrawQuorum.mono _ _
      | exact LeO.none _
      | refine LeO.ite ?_ ?_
      | refine LeO.bind ?_ (fun _ => ?_)
theorem laws_FnQuorums.mono : ∀ a0 k, LeO (laws_FnQuorums.f k a0) (laws_FnQuorums.f (k + 1) a0) := by
  intro a0 k
  obtain ⟨ih0, ih1, ih2⟩ := laws_FnQuorums.mono_l k
  unfold laws_FnQuorums.f
  repeat' first
      | (with_reducible exact ih0 _ _ _ _)
      | (with_reducible exact ih1 _ _ _ _ _ _)
      | (with_reducible exact ih2 _ _ _ _ _ _ _ _ _ _ _)
      | (with_reducible exact laws_pick.mono _ _ _ _)
      | (with_reducible exact spec_DrawQuorum.mono _ _)
      | (with_reducible exact LeO.refl _)
      | (with_reducible exact LeO.none _)
      | (with_reducible refine LeO.ite ?_ ?_)
      | (with_reducible refine LeO.bind ?_ (fun _ => ?_))
      | exact ih0 _ _ _ _
      | exact ih1 _ _ _ _ _ _
      | exact ih2 _ _ _ _ _ _ _ _ _ _ _
      | exact laws_pick.mono _ _ _ _
      | exact spec_DrawQuorum.mono _ _
      | exact LeO.none _
      | refine LeO.ite ?_ ?_
      | refine LeO.bind ?_ (fun _ => ?_)
set_option maxHeartbeats 8000000 in
set_option maxRecDepth 100000 in
theorem laws_FnQuorums.calls (k : Nat) (A0 : Option Addr) (c0 : Nat) (l0 : List Int) (r : Bool) (w : World) (hr0 : Kd.C (Kd.int .u8) w A0 l0.length l0) (hc0 : l0.length ≤ c0) (h : laws_FnQuorums.f k l0 = some r) :
    Calls Try.prog 5 #[.slice A0 l0.length c0] w fun e w' => e = .returned (.bool r) ∧ Below w.heap.size w w' := by
  have HR0 := Aside0.mk hr0
  have HC0 := Aside0.mk hc0
  clear hr0 hc0
  have HB := Aside0.mk (Below.refl w.heap.size w)
  have H : ((laws_big.f l0).bind fun t132 => (if t132 = true then (some true) else ((spec_DrawQuorum.f k l0).bind fun t133 => ((impl_Quorum.f t133).bind fun t134 => ((spec_Quorum.f t133).bind fun t135 => (if t134 = t135 then (if t133 = 1 then (laws_FnQuorums.j0 k l0 t133 t134 false) else (if t133 = 4 then (laws_FnQuorums.j0 k l0 t133 t134 false) else (laws_FnQuorums.j0 k l0 t133 t134 (t133 != 7)))) else (some false))))))) = some r := h
  clear h
  replace H := Option.bind_eq_some_iff.mp H
  obtain ⟨t132, A20, H⟩ := H
  replace H : (if t132 = true then (some true) else ((spec_DrawQuorum.f k l0).bind fun t133 => ((impl_Quorum.f t133).bind fun t134 => ((spec_Quorum.f t133).bind fun t135 => (if t134 = t135 then (if t133 = 1 then (laws_FnQuorums.j0 k l0 t133 t134 false) else (if t133 = 4 then (laws_FnQuorums.j0 k l0 t133 t134 false) else (laws_FnQuorums.j0 k l0 t133 t134 (t133 != 7)))) else (some false)))))) = some r := H
  have A2 := Aside0.mk A20
  clear A20
  by_cases c3 : t132 = true
  · subst c3
    have H1 : (some true) = some r := by rw [if_pos rfl] at H; exact H
    clear H
    have H := H1
    clear H1
    obtain rfl := Option.some.inj H
    go_enter Try.func5, Try.ntmps5
    go_wp2_with (first | ((with_reducible refine gate_callee (f := 19) rfl ?_); refine goesL_ (some 14) rfl rfl Try.func19 (by kernel_rfl) rfl #[.slice A0 l0.length c0] rfl (by (try simp only [List.map_toArray, List.map_cons, List.map_nil]); first | done | rfl | (simp only [List.length_drop, List.length_take]; rfl)) ?_; (with_reducible refine (laws_big.calls _ _ l0 true _ ?side1 ?side2 A2.out).mono ?_); (case side1 => repeat (first | exact HR0.out | (with_reducible refine Kd.C_alloc ?_ _) | (with_reducible refine Kd.C_drewN ?_ _) | (with_reducible refine Kd.C_drew ?_))); (case side2 => exact HC0.out); rintro e w' ⟨rfl, ⟨nd, rfl⟩⟩; refine ⟨_, rfl, ?_⟩))
    go_ret
    exact ⟨by first | rfl | (simp [errW_none, errW_some] <;> rfl) | (simp [*, errW_none, errW_some] <;> rfl), by repeat (first | (with_reducible first | exact HB.out | apply below_alloc | apply pw_below_drewN | apply below_drew1) | exact HB.out)⟩
  · replace c3 := Bool.eq_false_iff.mpr c3
    subst c3
    have H1 : ((spec_DrawQuorum.f k l0).bind fun t133 => ((impl_Quorum.f t133).bind fun t134 => ((spec_Quorum.f t133).bind fun t135 => (if t134 = t135 then (if t133 = 1 then (laws_FnQuorums.j0 k l0 t133 t134 false) else (if t133 = 4 then (laws_FnQuorums.j0 k l0 t133 t134 false) else (laws_FnQuorums.j0 k l0 t133 t134 (t133 != 7)))) else (some false))))) = some r := by rw [if_neg (show ¬ (false = true) by decide)] at H; exact H
    clear H
    have H := H1
    clear H1
    replace H := Option.bind_eq_some_iff.mp H
    obtain ⟨t133, A40, H⟩ := H
    replace H : ((impl_Quorum.f t133).bind fun t134 => ((spec_Quorum.f t133).bind fun t135 => (if t134 = t135 then (if t133 = 1 then (laws_FnQuorums.j0 k l0 t133 t134 false) else (if t133 = 4 then (laws_FnQuorums.j0 k l0 t133 t134 false) else (laws_FnQuorums.j0 k l0 t133 t134 (t133 != 7)))) else (some false)))) = some r := H
    have A4 := Aside0.mk A40
    clear A40
    replace H := Option.bind_eq_some_iff.mp H
    obtain ⟨t134, A50, H⟩ := H
    replace H : ((spec_Quorum.f t133).bind fun t135 => (if t134 = t135 then (if t133 = 1 then (laws_FnQuorums.j0 k l0 t133 t134 false) else (if t133 = 4 then (laws_FnQuorums.j0 k l0 t133 t134 false) else (laws_FnQuorums.j0 k l0 t133 t134 (t133 != 7)))) else (some false))) = some r := H
    have A5 := Aside0.mk A50
    clear A50
    replace H := Option.bind_eq_some_iff.mp H
    obtain ⟨t135, A60, H⟩ := H
    replace H : (if t134 = t135 then (if t133 = 1 then (laws_FnQuorums.j0 k l0 t133 t134 false) else (if t133 = 4 then (laws_FnQuorums.j0 k l0 t133 t134 false) else (laws_FnQuorums.j0 k l0 t133 t134 (t133 != 7)))) else (some false)) = some r := H
    have A6 := Aside0.mk A60
    clear A60
    by_cases c7 : t134 = t135
    · rw [if_pos c7] at H
      have c7b0 : (t134 == t135) = true := beq_iff_eq.mpr c7
      have c7b1 : (t134 != t135) = false := bne_eq_false_iff_eq.mpr c7
      clear c7
      have HC8 := Aside0.mk H
      clear H
      go_enter Try.func5, Try.ntmps5
      go_upto_region 7 with (first | ((with_reducible refine gate_callee (f := 19) rfl ?_); refine goesL_ (some 14) rfl rfl Try.func19 (by kernel_rfl) rfl #[.slice A0 l0.length c0] rfl (by (try simp only [List.map_toArray, List.map_cons, List.map_nil]); first | done | rfl | (simp only [List.length_drop, List.length_take]; rfl)) ?_; (with_reducible refine (laws_big.calls _ _ l0 false _ ?side1 ?side2 A2.out).mono ?_); (case side1 => repeat (first | exact HR0.out | (with_reducible refine Kd.C_alloc ?_ _) | (with_reducible refine Kd.C_drewN ?_ _) | (with_reducible refine Kd.C_drew ?_))); (case side2 => exact HC0.out); rintro e w' ⟨rfl, ⟨nd, rfl⟩⟩; refine ⟨_, rfl, ?_⟩) | ((with_reducible refine gate_callee (f := 20) rfl ?_); refine goesL_ (some 16) rfl rfl Try.func20 (by kernel_rfl) rfl #[.slice A0 l0.length c0] rfl (by (try simp only [List.map_toArray, List.map_cons, List.map_nil]); first | done | rfl | (simp only [List.length_drop, List.length_take]; rfl)) ?_; (with_reducible refine (spec_DrawQuorum.calls k _ _ l0 t133 _ ?side1 ?side2 A4.out).mono ?_); (case side1 => repeat (first | exact HR0.out | (with_reducible refine Kd.C_alloc ?_ _) | (with_reducible refine Kd.C_drewN ?_ _) | (with_reducible refine Kd.C_drew ?_))); (case side2 => exact HC0.out); rintro e w9 ⟨rfl, hb⟩; refine ⟨_, rfl, ?_⟩; have n0_ := Aside0.mk (below_step (by repeat (first | (with_reducible first | exact HB.out | apply below_alloc | apply pw_below_drewN | apply below_drew1) | exact HB.out)) hb); clear HB; have HB := n0_; clear n0_; (try clear hb); (try clear hb2); (try clear hk); (try clear hi)) | ((with_reducible refine gate_callee (f := 15) rfl ?_); refine goesL_ (some 18) rfl rfl Try.func15 (by kernel_rfl) rfl #[.int .i64 t133] rfl (by (try simp only [List.map_toArray, List.map_cons, List.map_nil]); first | done | rfl | (simp only [List.length_drop, List.length_take]; rfl)) ?_; (with_reducible refine (impl_Quorum.calls t133 t134 _ A5.out).mono ?_); rintro e w' ⟨rfl, ⟨nd, rfl⟩⟩; refine ⟨_, rfl, ?_⟩) | ((with_reducible refine gate_callee (f := 14) rfl ?_); refine goesL_ (some 21) rfl rfl Try.func14 (by kernel_rfl) rfl #[.int .i64 t133] rfl (by (try simp only [List.map_toArray, List.map_cons, List.map_nil]); first | done | rfl | (simp only [List.length_drop, List.length_take]; rfl)) ?_; (with_reducible refine (spec_Quorum.calls t133 t135 _ A6.out).mono ?_); rintro e w' ⟨rfl, ⟨nd, rfl⟩⟩; refine ⟨_, rfl, ?_⟩))
      (try simp only [Act.put, List.setIfInBounds_toArray, List.set_cons_zero, List.set_cons_succ])
      go_cut [32] (fun v32 wc => ∃ (kq : Nat) (x32_7 : Bool), v32 = .bool x32_7 ∧ Aside0 (laws_FnQuorums.j0 kq l0 t133 t134 x32_7 = some r) ∧ Aside0 (kq ≤ k) ∧ Aside0 (Below w.heap.size w wc))
      case first =>
        have H := HC8.out
        clear HC8
        by_cases c10 : t133 = 1
        · rw [if_pos c10] at H
          have c10b0 : (t133 == 1) = true := beq_iff_eq.mpr c10
          have c10b1 : (t133 != 1) = false := bne_eq_false_iff_eq.mpr c10
          clear c10
          (first | rw [c10b0] | (simp only [i64_w, i32_w]; rw [c10b0]) | skip)
          have H' := Aside0.mk H
          clear H
          go_wp2
          go_meet
          case rel => exact ⟨_, (false), (by first | rfl | (simp; done) | (simp [*]; done)), H', ⟨by first | omega | exact Nat.le_refl _⟩, ⟨by repeat (first | (with_reducible first | exact HB.out | apply below_alloc | apply pw_below_drewN | apply below_drew1) | exact HB.out)⟩⟩
        · rw [if_neg c10] at H
          have c10b0 : (t133 == 1) = false := beq_eq_false_iff_ne.mpr c10
          have c10b1 : (t133 != 1) = true := bne_iff_ne.mpr c10
          (first | rw [c10b0] | (simp only [i64_w, i32_w]; rw [c10b0]) | skip)
          by_cases c11 : t133 = 4
          · rw [if_pos c11] at H
            have c11b0 : (t133 == 4) = true := beq_iff_eq.mpr c11
            have c11b1 : (t133 != 4) = false := bne_eq_false_iff_eq.mpr c11
            clear c11
            have H' := Aside0.mk H
            clear H
            go_wp2
            go_meet
            case rel => exact ⟨_, (false), (by first | rfl | (simp; done) | (simp [*]; done)), H', ⟨by first | omega | exact Nat.le_refl _⟩, ⟨by repeat (first | (with_reducible first | exact HB.out | apply below_alloc | apply pw_below_drewN | apply below_drew1) | exact HB.out)⟩⟩
          · rw [if_neg c11] at H
            have c11b0 : (t133 == 4) = false := beq_eq_false_iff_ne.mpr c11
            have c11b1 : (t133 != 4) = true := bne_iff_ne.mpr c11
            have H' := Aside0.mk H
            clear H
            go_wp2
            go_meet
            case rel => exact ⟨_, ((t133 != 7)), (by first | rfl | (simp; done) | (simp [*]; done)), H', ⟨by first | omega | exact Nat.le_refl _⟩, ⟨by repeat (first | (with_reducible first | exact HB.out | apply below_alloc | apply pw_below_drewN | apply below_drew1) | exact HB.out)⟩⟩
      case rest =>
        clear HC8
        try clear c1
        try clear c2
        try clear p2
        try clear c3
        try clear c5
        try clear c7
        try clear c7b0
        try clear c7b1
        try clear c10
        try clear c10b0
        try clear c10b1
        try clear c11
        try clear c11b0
        try clear c11b1
        obtain ⟨kq, x32_7, rfl, HA, HJ7, HB⟩ := hcut
        cases kq with
        | zero => exact absurd HA.out (by simp [laws_FnQuorums.j0])
        | succ kj7 =>
          have H := HA.out
          clear HA
          simp only [laws_FnQuorums.j0] at H
          by_cases c12 : x32_7 = true
          · subst c12
            have H1 : (some (t134 == (-1))) = some r := by rw [if_pos rfl] at H; exact H
            clear H
            have H := H1
            clear H1
            obtain rfl := Option.some.inj H
            go_wp2
            go_ret
            exact ⟨by first | rfl | (simp [errW_none, errW_some] <;> rfl) | (simp [*, errW_none, errW_some] <;> rfl), by repeat (first | (with_reducible first | exact HB.out | apply below_alloc | apply pw_below_drewN | apply below_drew1) | exact HB.out)⟩
          · replace c12 := Bool.eq_false_iff.mpr c12
            subst c12
            have H1 : (if 0 ≤ (IntKind.u64.wrap (t133)) then (laws_FnQuorums.l0 kj7 l0 t133 t134 (wrap64 (Int.tdiv (wrap64 (t133 - 1)) 3)) (shl .i64 1 (IntKind.u64.wrap (t133))) 0) else (none)) = some r := by rw [if_neg (show ¬ (false = true) by decide)] at H; exact H
            clear H
            have H := H1
            clear H1
            obtain ⟨ji13, hji13⟩ : ∃ j_ : Int, (IntKind.u64.wrap (t133)) = j_ := ⟨_, rfl⟩
            replace H : (if 0 ≤ (ji13) then (laws_FnQuorums.l0 kj7 l0 t133 t134 (wrap64 (Int.tdiv (wrap64 (t133 - 1)) 3)) (shl .i64 1 (ji13)) 0) else (none)) = some r := by first | (rw [hji13] at H; exact H) | (simp only [hji13] at H ⊢; exact H)
            by_cases c14 : 0 ≤ (ji13)
            · rw [if_pos c14] at H
              have c14b0 := eq_true c14
              have c14b1 : decide (0 ≤ (ji13)) = true := decide_eq_true c14
              clear c14
              obtain ⟨ji15, hji15⟩ : ∃ j_ : Int, (shl .i64 1 (ji13)) = j_ := ⟨_, rfl⟩
              replace H : (laws_FnQuorums.l0 kj7 l0 t133 t134 (wrap64 (Int.tdiv (wrap64 (t133 - 1)) 3)) ji15 0) = some r := by first | (rw [hji15] at H; exact H) | (simp only [hji15] at H ⊢; exact H)
              have hji15_ : (IntKind.i64.wrap (1 * 2 ^ min (ji13).toNat 64)) = ji15 := hji15
              have hji15z : (ji13) ≤ 64 → (IntKind.i64.wrap (1 * 2 ^ (ji13).toNat)) = ji15 := shl_small hji15
              have hji15u : (IntKind.i64.wrap (2 ^ min (ji13).toNat 64)) = ji15 := by have h_ := hji15_; rw [Int.one_mul] at h_; exact h_
              have hji15v : (ji13) ≤ 64 → (IntKind.i64.wrap (2 ^ (ji13).toNat)) = ji15 := fun hle_ => by have h_ := hji15z hle_; rw [Int.one_mul] at h_; exact h_
              have hji15y : (wrap64 (1 * 2 ^ min (ji13).toNat 64)) = ji15 := (i64_w _).symm.trans hji15_
              have hji15x : (ji13) ≤ 64 → (wrap64 (1 * 2 ^ (ji13).toNat)) = ji15 := fun h_ => (i64_w _).symm.trans (hji15z h_)
              have H' := Aside0.mk H
              clear H
              go_wp2
              go_loopg [7] kj7 (fun kq v7 w' => ∃ (x7_2 : Int), v7 = .int .i64 x7_2 ∧ Aside0 (laws_FnQuorums.l0 kq l0 t133 t134 (wrap64 (Int.tdiv (wrap64 (t133 - 1)) 3)) ji15 x7_2 = some r) ∧ Aside0 (kq ≤ kj7) ∧ Aside0 (Below w.heap.size w w'))
              case atStart => exact ⟨(0), (by first | rfl | (simp; done) | (simp [*]; done)), H', ⟨Nat.le_refl _⟩, ⟨by repeat (first | (with_reducible first | exact HB.out | apply below_alloc | apply pw_below_drewN | apply below_drew1) | exact HB.out)⟩⟩
              case round =>
                clear H'
                try clear c1
                try clear c2
                try clear p2
                try clear c3
                try clear c5
                try clear p6
                try clear c7
                try clear c7b0
                try clear c7b1
                try clear c10
                try clear c10b0
                try clear c10b1
                try clear c11
                try clear c11b0
                try clear c11b1
                try clear c12
                try clear c14
                try clear c14b0
                try clear c14b1
                try clear c15
                try clear p2
                obtain ⟨x7_2, rfl, HA, HK2, HB⟩ := hrel
                cases gk with
                | zero => exact absurd HA.out (by simp [laws_FnQuorums.l0])
                | succ k2 =>
                  have H := HA.out
                  clear HA
                  simp only [laws_FnQuorums.l0] at H
                  by_cases c16 : x7_2 < ji15
                  · rw [if_pos c16] at H
                    have c16b0 : decide (x7_2 < ji15) = true := decide_eq_true c16
                    clear c16
                    replace H := Option.bind_eq_some_iff.mp H
                    obtain ⟨t136, A170, H⟩ := H
                    replace H : (laws_FnQuorums.l1 k2 l0 t133 t134 (wrap64 (Int.tdiv (wrap64 (t133 - 1)) 3)) ji15 x7_2 t136 0 0 0 0) = some r := H
                    have A17 := Aside0.mk A170
                    clear A170
                    have H' := Aside0.mk H
                    clear H
                    go_wp2_with (first | ((with_reducible refine gate_callee (f := 21) rfl ?_); refine goesL_ (some 49) rfl rfl Try.func21 (by kernel_rfl) rfl #[.slice A0 l0.length c0, .int .i64 x7_2, .int .i64 ji15] rfl (by (try simp only [List.map_toArray, List.map_cons, List.map_nil]); first | done | (simp only [hji15]; rfl) | rfl | (simp only [List.length_drop, List.length_take]; rfl)) ?_; (with_reducible refine (laws_pick.calls k2 _ _ l0 x7_2 ji15 t136 _ ?side1 ?side2 A17.out).mono ?_); (case side1 => repeat (first | exact (Kd.C_below HR0.out HB.out) | (with_reducible refine Kd.C_alloc ?_ _) | (with_reducible refine Kd.C_drewN ?_ _) | (with_reducible refine Kd.C_drew ?_))); (case side2 => exact HC0.out); rintro e w' ⟨rfl, ⟨nd, rfl⟩⟩; refine ⟨_, rfl, ?_⟩))
                    go_loopg [9, 10, 11, 12] k2 (fun kq v9 v10 v11 v12 w' => ∃ (x9_3 : Int) (x10_3 : Int) (x11_3 : Int) (x12_3 : Int), v9 = .int .i64 x9_3 ∧ v10 = .int .i64 x10_3 ∧ v11 = .int .i64 x11_3 ∧ v12 = .int .i64 x12_3 ∧ Aside0 (laws_FnQuorums.l1 kq l0 t133 t134 (wrap64 (Int.tdiv (wrap64 (t133 - 1)) 3)) ji15 x7_2 t136 x9_3 x10_3 x11_3 x12_3 = some r) ∧ Aside0 (kq ≤ k2) ∧ Aside0 (Below w.heap.size w w'))
                    case atStart => exact ⟨(0), (0), (0), (0), (by first | rfl | (simp; done) | (simp [*]; done)), (by first | rfl | (simp; done) | (simp [*]; done)), (by first | rfl | (simp; done) | (simp [*]; done)), (by first | rfl | (simp; done) | (simp [*]; done)), H', ⟨Nat.le_refl _⟩, ⟨by repeat (first | (with_reducible first | exact HB.out | apply below_alloc | apply pw_below_drewN | apply below_drew1) | exact HB.out)⟩⟩
                    case round =>
                      clear H'
                      try clear c1
                      try clear c2
                      try clear p2
                      try clear c3
                      try clear c5
                      try clear p6
                      try clear c7
                      try clear c7b0
                      try clear c7b1
                      try clear c10
                      try clear c10b0
                      try clear c10b1
                      try clear c11
                      try clear c11b0
                      try clear c11b1
                      try clear c12
                      try clear c14
                      try clear c14b0
                      try clear c14b1
                      try clear c15
                      try clear c16
                      try clear c16b0
                      try clear p2
                      try clear p6
                      obtain ⟨x9_3, x10_3, x11_3, x12_3, rfl, rfl, rfl, rfl, HA, HK3, HB⟩ := hrel
                      cases gk with
                      | zero => exact absurd HA.out (by simp [laws_FnQuorums.l1])
                      | succ k3 =>
                        have H := HA.out
                        clear HA
                        simp only [laws_FnQuorums.l1] at H
                        by_cases c18 : x12_3 < t133
                        · rw [if_pos c18] at H
                          have c18b0 : decide (x12_3 < t133) = true := decide_eq_true c18
                          clear c18
                          obtain ⟨ji19, hji19⟩ : ∃ j_ : Int, (IntKind.u64.wrap (x12_3)) = j_ := ⟨_, rfl⟩
                          replace H : (if 0 ≤ (ji19) then (laws_FnQuorums.l1 k3 l0 t133 t134 (wrap64 (Int.tdiv (wrap64 (t133 - 1)) 3)) ji15 x7_2 t136 (wrap64 (x9_3 + (Int.tmod (shr .i64 x7_2 (ji19)) 2))) (wrap64 (x10_3 + (Int.tmod (shr .i64 t136 (ji19)) 2))) (wrap64 (x11_3 + (Int.tmod (shr .i64 (Go.bits .and .i64 x7_2 t136) (ji19)) 2))) (wrap64 (x12_3 + 1))) else (none)) = some r := by first | (rw [hji19] at H; exact H) | (simp only [hji19] at H ⊢; exact H)
                          by_cases c20 : 0 ≤ (ji19)
                          · rw [if_pos c20] at H
                            have c20b0 := eq_true c20
                            have c20b1 : decide (0 ≤ (ji19)) = true := decide_eq_true c20
                            clear c20
                            obtain ⟨ji21, hji21⟩ : ∃ j_ : Int, (shr .i64 x7_2 (ji19)) = j_ := ⟨_, rfl⟩
                            replace H : (laws_FnQuorums.l1 k3 l0 t133 t134 (wrap64 (Int.tdiv (wrap64 (t133 - 1)) 3)) ji15 x7_2 t136 (wrap64 (x9_3 + (Int.tmod (ji21) 2))) (wrap64 (x10_3 + (Int.tmod (shr .i64 t136 (ji19)) 2))) (wrap64 (x11_3 + (Int.tmod (shr .i64 (Go.bits .and .i64 x7_2 t136) (ji19)) 2))) (wrap64 (x12_3 + 1))) = some r := by first | (rw [hji21] at H; exact H) | (simp only [hji21] at H ⊢; exact H)
                            have hji21_ : (x7_2 / 2 ^ min (ji19).toNat 64) = ji21 := hji21
                            have hji21z : (ji19) ≤ 64 → (x7_2 / 2 ^ (ji19).toNat) = ji21 := shr_small hji21
                            have c22b0 := eq_true (of_decide_eq_true (by first | (with_reducible assumption) | assumption) : 0 ≤ (ji19))
                            obtain ⟨ji23, hji23⟩ : ∃ j_ : Int, (shr .i64 t136 (ji19)) = j_ := ⟨_, rfl⟩
                            replace H : (laws_FnQuorums.l1 k3 l0 t133 t134 (wrap64 (Int.tdiv (wrap64 (t133 - 1)) 3)) ji15 x7_2 t136 (wrap64 (x9_3 + (Int.tmod (ji21) 2))) (wrap64 (x10_3 + (Int.tmod (ji23) 2))) (wrap64 (x11_3 + (Int.tmod (shr .i64 (Go.bits .and .i64 x7_2 t136) (ji19)) 2))) (wrap64 (x12_3 + 1))) = some r := by first | (rw [hji23] at H; exact H) | (simp only [hji23] at H ⊢; exact H)
                            have hji23_ : (t136 / 2 ^ min (ji19).toNat 64) = ji23 := hji23
                            have hji23z : (ji19) ≤ 64 → (t136 / 2 ^ (ji19).toNat) = ji23 := shr_small hji23
                            have c24b0 := eq_true (of_decide_eq_true (by first | (with_reducible assumption) | assumption) : 0 ≤ (ji19))
                            obtain ⟨ji25, hji25⟩ : ∃ j_ : Int, (shr .i64 (Go.bits .and .i64 x7_2 t136) (ji19)) = j_ := ⟨_, rfl⟩
                            replace H : (laws_FnQuorums.l1 k3 l0 t133 t134 (wrap64 (Int.tdiv (wrap64 (t133 - 1)) 3)) ji15 x7_2 t136 (wrap64 (x9_3 + (Int.tmod (ji21) 2))) (wrap64 (x10_3 + (Int.tmod (ji23) 2))) (wrap64 (x11_3 + (Int.tmod (ji25) 2))) (wrap64 (x12_3 + 1))) = some r := by first | (rw [hji25] at H; exact H) | (simp only [hji25] at H ⊢; exact H)
                            have hji25_ : ((Go.bits .and .i64 x7_2 t136) / 2 ^ min (ji19).toNat 64) = ji25 := hji25
                            have hji25z : (ji19) ≤ 64 → ((Go.bits .and .i64 x7_2 t136) / 2 ^ (ji19).toNat) = ji25 := shr_small hji25
                            have H' := Aside0.mk H
                            clear H
                            go_wp2
                            go_roundg k3
                            case measure => have := HJ7.out; have := HK2.out; have := HK3.out; omega
                            case rel => exact ⟨(wrap64 (x9_3 + (Int.tmod (ji21) 2))), (wrap64 (x10_3 + (Int.tmod (ji23) 2))), (wrap64 (x11_3 + (Int.tmod (ji25) 2))), (wrap64 (x12_3 + 1)), (by first | rfl | (simp; done) | (simp only [← hji21] <;> (first | rfl | simp)) | (simp [*]; done)), (by first | rfl | (simp; done) | (simp only [← hji23] <;> (first | rfl | simp)) | (simp [*]; done)), (by first | rfl | (simp; done) | (simp only [← hji25] <;> (first | rfl | simp)) | (simp [*]; done)), (by first | rfl | (simp; done) | (simp [*]; done)), H', ⟨by have := HJ7.out; have := HK2.out; have := HK3.out; omega⟩, ⟨by repeat (first | (with_reducible first | exact HB.out | apply below_alloc | apply pw_below_drewN | apply below_drew1) | exact HB.out)⟩⟩
                          · rw [if_neg c20] at H
                            exact absurd H (by simp)
                        · rw [if_neg c18] at H
                          have c18b0 : decide (x12_3 < t133) = false := decide_eq_false c18
                          clear c18
                          by_cases c26 : x9_3 ≥ t134
                          · rw [if_pos c26] at H
                            have c26b0 : decide (t134 ≤ x9_3) = true := decide_eq_true c26
                            clear c26
                            by_cases c27 : x10_3 ≥ t134
                            · rw [if_pos c27] at H
                              have c27b0 : decide (t134 ≤ x10_3) = true := decide_eq_true c27
                              clear c27
                              by_cases c28 : x11_3 ≤ (wrap64 (Int.tdiv (wrap64 (t133 - 1)) 3))
                              · rw [if_pos c28] at H
                                have c28b0 : decide (x11_3 ≤ (wrap64 (Int.tdiv (wrap64 (t133 - 1)) 3))) = true := decide_eq_true c28
                                clear c28
                                obtain rfl := Option.some.inj H
                                go_wp2
                                go_ret
                                exact ⟨by first | rfl | (simp [errW_none, errW_some] <;> rfl) | (simp only [← hji13, ← hji15]; first | rfl | (simp [errW_none, errW_some] <;> rfl)) | (simp [*, errW_none, errW_some] <;> rfl), by repeat (first | (with_reducible first | exact HB.out | apply below_alloc | apply pw_below_drewN | apply below_drew1) | exact HB.out)⟩
                              · rw [if_neg c28] at H
                                have c28b0 : decide (x11_3 ≤ (wrap64 (Int.tdiv (wrap64 (t133 - 1)) 3))) = false := decide_eq_false c28
                                clear c28
                                have H' := Aside0.mk H
                                clear H
                                go_wp2
                                go_roundg k3
                                case measure => have := HJ7.out; have := HK2.out; have := HK3.out; omega
                                case rel => exact ⟨(wrap64 (x7_2 + 1)), (by first | rfl | (simp; done) | (simp [*]; done)), H', ⟨by have := HJ7.out; have := HK2.out; have := HK3.out; omega⟩, ⟨by repeat (first | (with_reducible first | exact HB.out | apply below_alloc | apply pw_below_drewN | apply below_drew1) | exact HB.out)⟩⟩
                            · rw [if_neg c27] at H
                              have c27b0 : decide (t134 ≤ x10_3) = false := decide_eq_false c27
                              clear c27
                              have H' := Aside0.mk H
                              clear H
                              go_wp2
                              go_roundg k3
                              case measure => have := HJ7.out; have := HK2.out; have := HK3.out; omega
                              case rel => exact ⟨(wrap64 (x7_2 + 1)), (by first | rfl | (simp; done) | (simp [*]; done)), H', ⟨by have := HJ7.out; have := HK2.out; have := HK3.out; omega⟩, ⟨by repeat (first | (with_reducible first | exact HB.out | apply below_alloc | apply pw_below_drewN | apply below_drew1) | exact HB.out)⟩⟩
                          · rw [if_neg c26] at H
                            have c26b0 : decide (t134 ≤ x9_3) = false := decide_eq_false c26
                            clear c26
                            have H' := Aside0.mk H
                            clear H
                            go_wp2
                            go_roundg k3
                            case measure => have := HJ7.out; have := HK2.out; have := HK3.out; omega
                            case rel => exact ⟨(wrap64 (x7_2 + 1)), (by first | rfl | (simp; done) | (simp [*]; done)), H', ⟨by have := HJ7.out; have := HK2.out; have := HK3.out; omega⟩, ⟨by repeat (first | (with_reducible first | exact HB.out | apply below_alloc | apply pw_below_drewN | apply below_drew1) | exact HB.out)⟩⟩
                  · rw [if_neg c16] at H
                    have c16b0 : decide (x7_2 < ji15) = false := decide_eq_false c16
                    clear c16
                    by_cases c29 : (wrap64 (t133 - (wrap64 (Int.tdiv (wrap64 (t133 - 1)) 3)))) ≥ t134
                    · rw [if_pos c29] at H
                      have c29b0 : decide (t134 ≤ (wrap64 (t133 - (wrap64 (Int.tdiv (wrap64 (t133 - 1)) 3))))) = true := decide_eq_true c29
                      clear c29
                      obtain rfl := Option.some.inj H
                      go_wp2
                      go_ret
                      exact ⟨by first | rfl | (simp [errW_none, errW_some] <;> rfl) | (simp only [← hji13, ← hji15]; first | rfl | (simp [errW_none, errW_some] <;> rfl)) | (simp [*, errW_none, errW_some] <;> rfl), by repeat (first | (with_reducible first | exact HB.out | apply below_alloc | apply pw_below_drewN | apply below_drew1) | exact HB.out)⟩
                    · rw [if_neg c29] at H
                      have c29b0 : decide (t134 ≤ (wrap64 (t133 - (wrap64 (Int.tdiv (wrap64 (t133 - 1)) 3))))) = false := decide_eq_false c29
                      clear c29
                      obtain rfl := Option.some.inj H
                      go_wp2
                      go_ret
                      exact ⟨by first | rfl | (simp [errW_none, errW_some] <;> rfl) | (simp only [← hji13, ← hji15]; first | rfl | (simp [errW_none, errW_some] <;> rfl)) | (simp [*, errW_none, errW_some] <;> rfl), by repeat (first | (with_reducible first | exact HB.out | apply below_alloc | apply pw_below_drewN | apply below_drew1) | exact HB.out)⟩
            · rw [if_neg c14] at H
              exact absurd H (by simp)
    · rw [if_neg c7] at H
      have c7b0 : (t134 == t135) = false := beq_eq_false_iff_ne.mpr c7
      have c7b1 : (t134 != t135) = true := bne_iff_ne.mpr c7
      obtain rfl := Option.some.inj H
      go_enter Try.func5, Try.ntmps5
      go_wp2_with (first | ((with_reducible refine gate_callee (f := 19) rfl ?_); refine goesL_ (some 14) rfl rfl Try.func19 (by kernel_rfl) rfl #[.slice A0 l0.length c0] rfl (by (try simp only [List.map_toArray, List.map_cons, List.map_nil]); first | done | rfl | (simp only [List.length_drop, List.length_take]; rfl)) ?_; (with_reducible refine (laws_big.calls _ _ l0 false _ ?side1 ?side2 A2.out).mono ?_); (case side1 => repeat (first | exact HR0.out | (with_reducible refine Kd.C_alloc ?_ _) | (with_reducible refine Kd.C_drewN ?_ _) | (with_reducible refine Kd.C_drew ?_))); (case side2 => exact HC0.out); rintro e w' ⟨rfl, ⟨nd, rfl⟩⟩; refine ⟨_, rfl, ?_⟩) | ((with_reducible refine gate_callee (f := 20) rfl ?_); refine goesL_ (some 16) rfl rfl Try.func20 (by kernel_rfl) rfl #[.slice A0 l0.length c0] rfl (by (try simp only [List.map_toArray, List.map_cons, List.map_nil]); first | done | rfl | (simp only [List.length_drop, List.length_take]; rfl)) ?_; (with_reducible refine (spec_DrawQuorum.calls k _ _ l0 t133 _ ?side1 ?side2 A4.out).mono ?_); (case side1 => repeat (first | exact HR0.out | (with_reducible refine Kd.C_alloc ?_ _) | (with_reducible refine Kd.C_drewN ?_ _) | (with_reducible refine Kd.C_drew ?_))); (case side2 => exact HC0.out); rintro e w30 ⟨rfl, hb⟩; refine ⟨_, rfl, ?_⟩; have n0_ := Aside0.mk (below_step (by repeat (first | (with_reducible first | exact HB.out | apply below_alloc | apply pw_below_drewN | apply below_drew1) | exact HB.out)) hb); clear HB; have HB := n0_; clear n0_; (try clear hb); (try clear hb2); (try clear hk); (try clear hi)) | ((with_reducible refine gate_callee (f := 15) rfl ?_); refine goesL_ (some 18) rfl rfl Try.func15 (by kernel_rfl) rfl #[.int .i64 t133] rfl (by (try simp only [List.map_toArray, List.map_cons, List.map_nil]); first | done | rfl | (simp only [List.length_drop, List.length_take]; rfl)) ?_; (with_reducible refine (impl_Quorum.calls t133 t134 _ A5.out).mono ?_); rintro e w' ⟨rfl, ⟨nd, rfl⟩⟩; refine ⟨_, rfl, ?_⟩) | ((with_reducible refine gate_callee (f := 14) rfl ?_); refine goesL_ (some 21) rfl rfl Try.func14 (by kernel_rfl) rfl #[.int .i64 t133] rfl (by (try simp only [List.map_toArray, List.map_cons, List.map_nil]); first | done | rfl | (simp only [List.length_drop, List.length_take]; rfl)) ?_; (with_reducible refine (spec_Quorum.calls t133 t135 _ A6.out).mono ?_); rintro e w' ⟨rfl, ⟨nd, rfl⟩⟩; refine ⟨_, rfl, ?_⟩))
      go_ret
      exact ⟨by first | rfl | (simp [errW_none, errW_some] <;> rfl) | (simp [*, errW_none, errW_some] <;> rfl), by repeat (first | (with_reducible first | exact HB.out | apply below_alloc | apply pw_below_drewN | apply below_drew1) | exact HB.out)⟩

/-- THE ONE PURE STATEMENT of laws_FnQuorums: yours. -/
def laws_FnQuorums.Pure : Prop := ∀ (l0 : List Int), l0.length ≤ maxLen → l0.length * 1 ≤ 140737488351232 → (∀ x ∈ l0, (Lit.int .u8 x).wf = true) → ∃ k, laws_FnQuorums.f k l0 = some true
theorem laws_FnQuorums.walk (P : laws_FnQuorums.Pure) (a0 : Option Addr) (len0 cap0 : Nat) (z0 : List Int) (w : World) (w0 : (a0 = none ∧ len0 = 0 ∧ cap0 = 0 ∧ z0 = []) ∨ ∃ x, a0 = some x ∧ len0 ≤ cap0 ∧ cap0 ≤ maxLen ∧ z0.length = cap0 ∧ (∀ i, i < z0.length → w.cell? (x.add i) = some (.int .u8 (z0.getD i 0))) ∧ ∀ n ∈ z0, (Lit.int .u8 n).wf = true) (y0 : len0 * 1 ≤ 140737488351232) :
    Calls Try.prog 5 #[.slice a0 len0 cap0] w fun e w' => e = .returned (.bool true) ∧ Below w.heap.size w w' := by
  obtain ⟨l0, rfl, hr0, hm0, hw0, hc0⟩ := ReadsInt.ofRowC w0
  obtain ⟨k, h⟩ := P l0 hm0 y0 hw0
  refine (laws_FnQuorums.calls k _ _ l0 true w (Kd.C_of_reads (d := (0 : Int)) (h1 := fun _ => rfl) hr0) hc0 h).mono ?_
  rintro e w' ⟨rfl, hd⟩
  exact ⟨rfl, hd⟩

end Go.Proofs.Ytgpofolfflfgiaa.PFnQuorums
