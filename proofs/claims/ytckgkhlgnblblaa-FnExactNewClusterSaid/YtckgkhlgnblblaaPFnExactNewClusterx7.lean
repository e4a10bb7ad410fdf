-- Written by a program of this session (wip/tools/pp.py over the kit's print).
import Derived.Test.YtckgkhlgnblblaaPFnExactNewClusterx0
import Derived.Test.YtckgkhlgnblblaaPFnExactNewClusterx5
import Derived.Test.YtckgkhlgnblblaaPFnExactNewClusterx6
namespace Go.Proofs.Ytckgkhlgnblblaa.PFnExactNewCluster
open Go.RowKit Go.Proofs.YtckgkhlgnblblaaW.PrintWords Go.Proofs.YtckgkhlgnblblaaW.PrintLast Go.Proofs.YtckgkhlgnblblaaW.PrintMore
attribute [local go_sem] max2_int min2_int max_two min_two max_three min_three max_four min_four
attribute [local go_sem high] str_gtr str_leq str_geq
set_option linter.unusedVariables false
set_option linter.unusedSimpArgs false

/-! ### laws_heldReplicaS: function 126 -/
def laws_heldReplicaS.l0 : Nat → List (S68) → Int → Int → Option (Int)
 | 0, _, _, _ => none
 | k + 1, x0, x1, x5 => if x5 < (x0.length : Int) then (if 0 ≤ x5 then (if ((rd_T68 x0 x5).f0) = x1 then (if ((rd_T68 x0 x5).f1) = (wrap64 (x1 + 1)) then (if ((rd_T68 x0 x5).f2) = (wrap64 ((wrap64 (x1 + 1)) + 1)) then (if ((rd_T68 x0 x5).f3) = (wrap64 ((wrap64 ((wrap64 (x1 + 1)) + 1)) + 1)) then (if ((rd_T68 x0 x5).f4) = (wrap64 ((wrap64 ((wrap64 ((wrap64 (x1 + 1)) + 1)) + 1)) + 1)) then (if ((rd_T68 x0 x5).f5) = (wrap64 ((wrap64 ((wrap64 ((wrap64 ((wrap64 (x1 + 1)) + 1)) + 1)) + 1)) + 1)) then (if ((rd_T68 x0 x5).f6.f0) = (wrap64 ((wrap64 ((wrap64 ((wrap64 ((wrap64 ((wrap64 (x1 + 1)) + 1)) + 1)) + 1)) + 1)) + 1)) then (if ((rd_T68 x0 x5).f6.f1) = (wrap64 ((wrap64 ((wrap64 ((wrap64 ((wrap64 ((wrap64 ((wrap64 (x1 + 1)) + 1)) + 1)) + 1)) + 1)) + 1)) + 1)) then ((laws_heldInt64S.f k ((rd_T68 x0 x5).f6.f2) (wrap64 ((wrap64 ((wrap64 ((wrap64 ((wrap64 ((wrap64 ((wrap64 ((wrap64 (x1 + 1)) + 1)) + 1)) + 1)) + 1)) + 1)) + 1)) + 1))).bind fun t260 => (if t260 < 0 then (none) else ((laws_heldInt64S.f k ((rd_T68 x0 x5).f6.f3) t260).bind fun t262 => (if t262 < 0 then (none) else ((laws_heldBlockS.f k ((rd_T68 x0 x5).f7) t262).bind fun t264 => (if t264 < 0 then (none) else ((laws_heldVoteS.f k ((rd_T68 x0 x5).f8) t264).bind fun t266 => (if t266 < 0 then (none) else ((laws_heldNewsS.f k ((rd_T68 x0 x5).f9) t266).bind fun t268 => (if t268 < 0 then (none) else ((laws_heldInt64S.f k ((rd_T68 x0 x5).f10) t268).bind fun t270 => (if t270 < 0 then (none) else (laws_heldReplicaS.l0 k x0 t270 (wrap64 (x5 + 1))))))))))))))) else (none)) else (none)) else (none)) else (none)) else (none)) else (none)) else (none)) else (none)) else (none)) else (some x1)
def laws_heldReplicaS.f (k : Nat) (l0 : List (S68)) (a1 : Int) : Option (Int) := laws_heldReplicaS.l0 k l0 a1 0
theorem laws_heldReplicaS.mono_l : ∀ k, (∀ y0 y1 y2, LeO (laws_heldReplicaS.l0 k y0 y1 y2) (laws_heldReplicaS.l0 (k + 1) y0 y1 y2))
 | 0 => fun _ _ _ r h => by simp [laws_heldReplicaS.l0] at h
 | k + 1 => by
  have ih0 := laws_heldReplicaS.mono_l k
  ·intro y0 y1 y2
   unfold laws_heldReplicaS.l0
   repeat' first
   | (with_reducible exact ih0 _ _ _)
   | (with_reducible exact laws_heldBlockS.mono _ _ _)
   | (with_reducible exact laws_heldInt64S.mono _ _ _)
   | (with_reducible exact laws_heldNewsS.mono _ _ _)
   | (with_reducible exact laws_heldVoteS.mono _ _ _)
   | (with_reducible exact LeO.refl _)
   | (with_reducible exact LeO.none _)
   | (with_reducible refine LeO.ite ?_ ?_)
   | (with_reducible refine LeO.bind ?_ (fun _ => ?_))
   | exact ih0 _ _ _
   | exact laws_heldBlockS.mono _ _ _
   | exact laws_heldInt64S.mono _ _ _
   | exact laws_heldNewsS.mono _ _ _
   | exact laws_heldVoteS.mono _ _ _
   | exact LeO.none _
   | refine LeO.ite ?_ ?_
   | refine LeO.bind ?_ (fun _ => ?_)
theorem laws_heldReplicaS.mono : ∀ a0 a1 k, LeO (laws_heldReplicaS.f k a0 a1) (laws_heldReplicaS.f (k + 1) a0 a1) := by
 intro a0 a1 k
 have ih0 := laws_heldReplicaS.mono_l k
 unfold laws_heldReplicaS.f
 repeat' first
   | (with_reducible exact ih0 _ _ _)
   | (with_reducible exact laws_heldBlockS.mono _ _ _)
   | (with_reducible exact laws_heldInt64S.mono _ _ _)
   | (with_reducible exact laws_heldNewsS.mono _ _ _)
   | (with_reducible exact laws_heldVoteS.mono _ _ _)
   | (with_reducible exact LeO.refl _)
   | (with_reducible exact LeO.none _)
   | (with_reducible refine LeO.ite ?_ ?_)
   | (with_reducible refine LeO.bind ?_ (fun _ => ?_))
   | exact ih0 _ _ _
   | exact laws_heldBlockS.mono _ _ _
   | exact laws_heldInt64S.mono _ _ _
   | exact laws_heldNewsS.mono _ _ _
   | exact laws_heldVoteS.mono _ _ _
   | exact LeO.none _
   | refine LeO.ite ?_ ?_
   | refine LeO.bind ?_ (fun _ => ?_)
set_option maxHeartbeats 8000000 in
set_option maxRecDepth 100000 in
theorem laws_heldReplicaS.calls (k : Nat) (A0 : Option Addr) (c0 : Nat) (l0 : List (S68)) (a1 : Int) (r : Int) (w : World) (hr0 : Kd.C k68 w A0 l0.length l0) (hc0 : l0.length ≤ c0) (h : laws_heldReplicaS.f k l0 a1 = some r) :
  Calls Try.prog 126 #[.slice A0 l0.length c0, .int .i64 a1] w fun e w' => e = .returned (.int .i64 r) ∧ Below w.heap.size w w' := by
 have HR0 := Aside0.mk hr0
 have HC0 := Aside0.mk hc0
 clear hr0 hc0
 have HB := Aside0.mk (Below.refl w.heap.size w)
 have H : (laws_heldReplicaS.l0 k l0 a1 0) = some r := h
 clear h
 have H' := Aside0.mk H
 clear H
 go_enter Try.func126, Try.ntmps126
 go_wp2
 go_loopg [1, 5] k (fun kq v1 v5 w' => ∃ (x1_1 : Int) (x5_1 : Int), v1 = .int .i64 x1_1 ∧ v5 = .int .i64 x5_1 ∧ Aside0 (laws_heldReplicaS.l0 kq l0 x1_1 x5_1 = some r) ∧ Aside0 (kq ≤ k) ∧ Aside0 (Below w.heap.size w w'))
 case atStart => exact ⟨(a1), (0), (by first | rfl | (simp; done) | (simp [*]; done)), (by first | rfl | (simp; done) | (simp [*]; done)), H', ⟨Nat.le_refl _⟩, ⟨by repeat (first | (with_reducible first | exact HB.out | apply below_alloc | apply pw_below_drewN | apply below_drew1) | exact HB.out)⟩⟩
 case round =>
  clear H'
  try clear c1
  try clear p2
  obtain ⟨x1_1, x5_1, rfl, rfl, HA, HK1, HB⟩ := hrel
  cases gk with
  | zero => exact absurd HA.out (by simp [laws_heldReplicaS.l0])
  | succ k1 =>
   have H := HA.out
   clear HA
   simp only [laws_heldReplicaS.l0] at H
   by_cases c3 : x5_1 < (l0.length : Int)
   ·rw [if_pos c3] at H
    have c3b0 : decide (x5_1 < (l0.length : Int)) = true := decide_eq_true c3
    clear c3
    by_cases c4 : 0 ≤ x5_1
    ·rw [if_pos c4] at H
     have c4b0 : decide (0 ≤ x5_1) = true := decide_eq_true c4
     clear c4
     by_cases c5 : ((rd_T68 l0 x5_1).f0) = x1_1
     ·rw [if_pos c5] at H
      have c5b0 : (((rd_T68 l0 x5_1).f0) == x1_1) = true := beq_iff_eq.mpr c5
      have c5b1 : (((rd_T68 l0 x5_1).f0) != x1_1) = false := bne_eq_false_iff_eq.mpr c5
      clear c5
      by_cases c6 : ((rd_T68 l0 x5_1).f1) = (wrap64 (x1_1 + 1))
      ·rw [if_pos c6] at H
       have c6b0 : (((rd_T68 l0 x5_1).f1) == (wrap64 (x1_1 + 1))) = true := beq_iff_eq.mpr c6
       have c6b1 : (((rd_T68 l0 x5_1).f1) != (wrap64 (x1_1 + 1))) = false := bne_eq_false_iff_eq.mpr c6
       clear c6
       by_cases c7 : ((rd_T68 l0 x5_1).f2) = (wrap64 ((wrap64 (x1_1 + 1)) + 1))
       ·rw [if_pos c7] at H
        have c7b0 : (((rd_T68 l0 x5_1).f2) == (wrap64 ((wrap64 (x1_1 + 1)) + 1))) = true := beq_iff_eq.mpr c7
        have c7b1 : (((rd_T68 l0 x5_1).f2) != (wrap64 ((wrap64 (x1_1 + 1)) + 1))) = false := bne_eq_false_iff_eq.mpr c7
        clear c7
        by_cases c8 : ((rd_T68 l0 x5_1).f3) = (wrap64 ((wrap64 ((wrap64 (x1_1 + 1)) + 1)) + 1))
        ·rw [if_pos c8] at H
         have c8b0 : (((rd_T68 l0 x5_1).f3) == (wrap64 ((wrap64 ((wrap64 (x1_1 + 1)) + 1)) + 1))) = true := beq_iff_eq.mpr c8
         have c8b1 : (((rd_T68 l0 x5_1).f3) != (wrap64 ((wrap64 ((wrap64 (x1_1 + 1)) + 1)) + 1))) = false := bne_eq_false_iff_eq.mpr c8
         clear c8
         by_cases c9 : ((rd_T68 l0 x5_1).f4) = (wrap64 ((wrap64 ((wrap64 ((wrap64 (x1_1 + 1)) + 1)) + 1)) + 1))
         ·rw [if_pos c9] at H
          have c9b0 : (((rd_T68 l0 x5_1).f4) == (wrap64 ((wrap64 ((wrap64 ((wrap64 (x1_1 + 1)) + 1)) + 1)) + 1))) = true := beq_iff_eq.mpr c9
          have c9b1 : (((rd_T68 l0 x5_1).f4) != (wrap64 ((wrap64 ((wrap64 ((wrap64 (x1_1 + 1)) + 1)) + 1)) + 1))) = false := bne_eq_false_iff_eq.mpr c9
          clear c9
          by_cases c10 : ((rd_T68 l0 x5_1).f5) = (wrap64 ((wrap64 ((wrap64 ((wrap64 ((wrap64 (x1_1 + 1)) + 1)) + 1)) + 1)) + 1))
          ·rw [if_pos c10] at H
           have c10b0 : (((rd_T68 l0 x5_1).f5) == (wrap64 ((wrap64 ((wrap64 ((wrap64 ((wrap64 (x1_1 + 1)) + 1)) + 1)) + 1)) + 1))) = true := beq_iff_eq.mpr c10
           have c10b1 : (((rd_T68 l0 x5_1).f5) != (wrap64 ((wrap64 ((wrap64 ((wrap64 ((wrap64 (x1_1 + 1)) + 1)) + 1)) + 1)) + 1))) = false := bne_eq_false_iff_eq.mpr c10
           clear c10
           by_cases c11 : ((rd_T68 l0 x5_1).f6.f0) = (wrap64 ((wrap64 ((wrap64 ((wrap64 ((wrap64 ((wrap64 (x1_1 + 1)) + 1)) + 1)) + 1)) + 1)) + 1))
           ·rw [if_pos c11] at H
            have c11b0 : (((rd_T68 l0 x5_1).f6.f0) == (wrap64 ((wrap64 ((wrap64 ((wrap64 ((wrap64 ((wrap64 (x1_1 + 1)) + 1)) + 1)) + 1)) + 1)) + 1))) = true := beq_iff_eq.mpr c11
            have c11b1 : (((rd_T68 l0 x5_1).f6.f0) != (wrap64 ((wrap64 ((wrap64 ((wrap64 ((wrap64 ((wrap64 (x1_1 + 1)) + 1)) + 1)) + 1)) + 1)) + 1))) = false := bne_eq_false_iff_eq.mpr c11
            clear c11
            by_cases c12 : ((rd_T68 l0 x5_1).f6.f1) = (wrap64 ((wrap64 ((wrap64 ((wrap64 ((wrap64 ((wrap64 ((wrap64 (x1_1 + 1)) + 1)) + 1)) + 1)) + 1)) + 1)) + 1))
            ·rw [if_pos c12] at H
             have c12b0 : (((rd_T68 l0 x5_1).f6.f1) == (wrap64 ((wrap64 ((wrap64 ((wrap64 ((wrap64 ((wrap64 ((wrap64 (x1_1 + 1)) + 1)) + 1)) + 1)) + 1)) + 1)) + 1))) = true := beq_iff_eq.mpr c12
             have c12b1 : (((rd_T68 l0 x5_1).f6.f1) != (wrap64 ((wrap64 ((wrap64 ((wrap64 ((wrap64 ((wrap64 ((wrap64 (x1_1 + 1)) + 1)) + 1)) + 1)) + 1)) + 1)) + 1))) = false := bne_eq_false_iff_eq.mpr c12
             clear c12
             replace H := Option.bind_eq_some_iff.mp H
             obtain ⟨t260, A130, H⟩ := H
             replace H : (if t260 < 0 then (none) else ((laws_heldInt64S.f k1 ((rd_T68 l0 x5_1).f6.f3) t260).bind fun t262 => (if t262 < 0 then (none) else ((laws_heldBlockS.f k1 ((rd_T68 l0 x5_1).f7) t262).bind fun t264 => (if t264 < 0 then (none) else ((laws_heldVoteS.f k1 ((rd_T68 l0 x5_1).f8) t264).bind fun t266 => (if t266 < 0 then (none) else ((laws_heldNewsS.f k1 ((rd_T68 l0 x5_1).f9) t266).bind fun t268 => (if t268 < 0 then (none) else ((laws_heldInt64S.f k1 ((rd_T68 l0 x5_1).f10) t268).bind fun t270 => (if t270 < 0 then (none) else (laws_heldReplicaS.l0 k1 l0 t270 (wrap64 (x5_1 + 1)))))))))))))) = some r := H
             have A13 := Aside0.mk A130
             clear A130
             by_cases c14 : t260 < 0
             ·rw [if_pos c14] at H
              exact absurd H (by simp)
             ·rw [if_neg c14] at H
              have c14b0 : decide (t260 < 0) = false := decide_eq_false c14
              clear c14
              replace H := Option.bind_eq_some_iff.mp H
              obtain ⟨t262, A150, H⟩ := H
              replace H : (if t262 < 0 then (none) else ((laws_heldBlockS.f k1 ((rd_T68 l0 x5_1).f7) t262).bind fun t264 => (if t264 < 0 then (none) else ((laws_heldVoteS.f k1 ((rd_T68 l0 x5_1).f8) t264).bind fun t266 => (if t266 < 0 then (none) else ((laws_heldNewsS.f k1 ((rd_T68 l0 x5_1).f9) t266).bind fun t268 => (if t268 < 0 then (none) else ((laws_heldInt64S.f k1 ((rd_T68 l0 x5_1).f10) t268).bind fun t270 => (if t270 < 0 then (none) else (laws_heldReplicaS.l0 k1 l0 t270 (wrap64 (x5_1 + 1)))))))))))) = some r := H
              have A15 := Aside0.mk A150
              clear A150
              by_cases c16 : t262 < 0
              ·rw [if_pos c16] at H
               exact absurd H (by simp)
              ·rw [if_neg c16] at H
               have c16b0 : decide (t262 < 0) = false := decide_eq_false c16
               clear c16
               replace H := Option.bind_eq_some_iff.mp H
               obtain ⟨t264, A170, H⟩ := H
               replace H : (if t264 < 0 then (none) else ((laws_heldVoteS.f k1 ((rd_T68 l0 x5_1).f8) t264).bind fun t266 => (if t266 < 0 then (none) else ((laws_heldNewsS.f k1 ((rd_T68 l0 x5_1).f9) t266).bind fun t268 => (if t268 < 0 then (none) else ((laws_heldInt64S.f k1 ((rd_T68 l0 x5_1).f10) t268).bind fun t270 => (if t270 < 0 then (none) else (laws_heldReplicaS.l0 k1 l0 t270 (wrap64 (x5_1 + 1)))))))))) = some r := H
               have A17 := Aside0.mk A170
               clear A170
               by_cases c18 : t264 < 0
               ·rw [if_pos c18] at H
                exact absurd H (by simp)
               ·rw [if_neg c18] at H
                have c18b0 : decide (t264 < 0) = false := decide_eq_false c18
                clear c18
                replace H := Option.bind_eq_some_iff.mp H
                obtain ⟨t266, A190, H⟩ := H
                replace H : (if t266 < 0 then (none) else ((laws_heldNewsS.f k1 ((rd_T68 l0 x5_1).f9) t266).bind fun t268 => (if t268 < 0 then (none) else ((laws_heldInt64S.f k1 ((rd_T68 l0 x5_1).f10) t268).bind fun t270 => (if t270 < 0 then (none) else (laws_heldReplicaS.l0 k1 l0 t270 (wrap64 (x5_1 + 1)))))))) = some r := H
                have A19 := Aside0.mk A190
                clear A190
                by_cases c20 : t266 < 0
                ·rw [if_pos c20] at H
                 exact absurd H (by simp)
                ·rw [if_neg c20] at H
                 have c20b0 : decide (t266 < 0) = false := decide_eq_false c20
                 clear c20
                 replace H := Option.bind_eq_some_iff.mp H
                 obtain ⟨t268, A210, H⟩ := H
                 replace H : (if t268 < 0 then (none) else ((laws_heldInt64S.f k1 ((rd_T68 l0 x5_1).f10) t268).bind fun t270 => (if t270 < 0 then (none) else (laws_heldReplicaS.l0 k1 l0 t270 (wrap64 (x5_1 + 1)))))) = some r := H
                 have A21 := Aside0.mk A210
                 clear A210
                 by_cases c22 : t268 < 0
                 ·rw [if_pos c22] at H
                  exact absurd H (by simp)
                 ·rw [if_neg c22] at H
                  have c22b0 : decide (t268 < 0) = false := decide_eq_false c22
                  clear c22
                  replace H := Option.bind_eq_some_iff.mp H
                  obtain ⟨t270, A230, H⟩ := H
                  replace H : (if t270 < 0 then (none) else (laws_heldReplicaS.l0 k1 l0 t270 (wrap64 (x5_1 + 1)))) = some r := H
                  have A23 := Aside0.mk A230
                  clear A230
                  by_cases c24 : t270 < 0
                  ·rw [if_pos c24] at H
                   exact absurd H (by simp)
                  ·rw [if_neg c24] at H
                   have c24b0 : decide (t270 < 0) = false := decide_eq_false c24
                   clear c24
                   have H' := Aside0.mk H
                   clear H
                   have p251 : 0 ≤ (x5_1 : Int) := of_decide_eq_true (by first | (with_reducible assumption) | assumption)
                   have q251 : x5_1 < (l0.length : Int) := of_decide_eq_true (by first | (with_reducible assumption) | assumption)
                   obtain ⟨ad251, A251_8, c251_8, A251_9, c251_9, A251_10, c251_10, A251_11, c251_11, A251_12, c251_12, A251_13, c251_13, e251, hx251_0, hx251_1, hx251_2, hx251_3, hx251_4, hx251_5, hx251_6, hx251_7, hx251_8, hx251_9, hx251_10, hx251_11, hx251_12, hx251_13, hl251_8, hi251_8, hl251_9, hi251_9, hl251_10, hi251_10, hl251_11, hi251_11, hl251_12, hi251_12, hl251_13, hi251_13⟩ := at_T68 HR0.out x5_1 p251 q251
                   cases e251
                   replace hx251_0 := (HB.out.cell (World.block_lt_of_cell? w _ hx251_0)).trans hx251_0
                   replace hx251_1 := (HB.out.cell (World.block_lt_of_cell? w _ hx251_1)).trans hx251_1
                   replace hx251_2 := (HB.out.cell (World.block_lt_of_cell? w _ hx251_2)).trans hx251_2
                   replace hx251_3 := (HB.out.cell (World.block_lt_of_cell? w _ hx251_3)).trans hx251_3
                   replace hx251_4 := (HB.out.cell (World.block_lt_of_cell? w _ hx251_4)).trans hx251_4
                   replace hx251_5 := (HB.out.cell (World.block_lt_of_cell? w _ hx251_5)).trans hx251_5
                   replace hx251_6 := (HB.out.cell (World.block_lt_of_cell? w _ hx251_6)).trans hx251_6
                   replace hx251_7 := (HB.out.cell (World.block_lt_of_cell? w _ hx251_7)).trans hx251_7
                   replace hx251_8 := (HB.out.cell (World.block_lt_of_cell? w _ hx251_8)).trans hx251_8
                   replace hx251_9 := (HB.out.cell (World.block_lt_of_cell? w _ hx251_9)).trans hx251_9
                   replace hx251_10 := (HB.out.cell (World.block_lt_of_cell? w _ hx251_10)).trans hx251_10
                   replace hx251_11 := (HB.out.cell (World.block_lt_of_cell? w _ hx251_11)).trans hx251_11
                   replace hx251_12 := (HB.out.cell (World.block_lt_of_cell? w _ hx251_12)).trans hx251_12
                   replace hx251_13 := (HB.out.cell (World.block_lt_of_cell? w _ hx251_13)).trans hx251_13
                   have HR251_8 := Aside0.mk hi251_8
                   have HC251_8 := Aside0.mk hl251_8
                   clear hi251_8 hl251_8
                   have HR251_9 := Aside0.mk hi251_9
                   have HC251_9 := Aside0.mk hl251_9
                   clear hi251_9 hl251_9
                   have HR251_10 := Aside0.mk hi251_10
                   have HC251_10 := Aside0.mk hl251_10
                   clear hi251_10 hl251_10
                   have HR251_11 := Aside0.mk hi251_11
                   have HC251_11 := Aside0.mk hl251_11
                   clear hi251_11 hl251_11
                   have HR251_12 := Aside0.mk hi251_12
                   have HC251_12 := Aside0.mk hl251_12
                   clear hi251_12 hl251_12
                   have HR251_13 := Aside0.mk hi251_13
                   have HC251_13 := Aside0.mk hl251_13
                   clear hi251_13 hl251_13
                   replace p251 := eq_true p251
                   replace q251 := eq_true q251
                   have p252 : 0 ≤ (x5_1 : Int) := of_decide_eq_true (by first | (with_reducible assumption) | assumption)
                   have q252 : x5_1 < (l0.length : Int) := of_decide_eq_true (by first | (with_reducible assumption) | assumption)
                   obtain ⟨ad252, A252_8, c252_8, A252_9, c252_9, A252_10, c252_10, A252_11, c252_11, A252_12, c252_12, A252_13, c252_13, e252, hx252_0, hx252_1, hx252_2, hx252_3, hx252_4, hx252_5, hx252_6, hx252_7, hx252_8, hx252_9, hx252_10, hx252_11, hx252_12, hx252_13, hl252_8, hi252_8, hl252_9, hi252_9, hl252_10, hi252_10, hl252_11, hi252_11, hl252_12, hi252_12, hl252_13, hi252_13⟩ := at_T68 HR0.out x5_1 p252 q252
                   obtain rfl : ad251 = ad252 := (by injection e252)
                   replace hx252_0 := (HB.out.cell (World.block_lt_of_cell? w _ hx252_0)).trans hx252_0
                   replace hx252_1 := (HB.out.cell (World.block_lt_of_cell? w _ hx252_1)).trans hx252_1
                   replace hx252_2 := (HB.out.cell (World.block_lt_of_cell? w _ hx252_2)).trans hx252_2
                   replace hx252_3 := (HB.out.cell (World.block_lt_of_cell? w _ hx252_3)).trans hx252_3
                   replace hx252_4 := (HB.out.cell (World.block_lt_of_cell? w _ hx252_4)).trans hx252_4
                   replace hx252_5 := (HB.out.cell (World.block_lt_of_cell? w _ hx252_5)).trans hx252_5
                   replace hx252_6 := (HB.out.cell (World.block_lt_of_cell? w _ hx252_6)).trans hx252_6
                   replace hx252_7 := (HB.out.cell (World.block_lt_of_cell? w _ hx252_7)).trans hx252_7
                   replace hx252_8 := (HB.out.cell (World.block_lt_of_cell? w _ hx252_8)).trans hx252_8
                   replace hx252_9 := (HB.out.cell (World.block_lt_of_cell? w _ hx252_9)).trans hx252_9
                   replace hx252_10 := (HB.out.cell (World.block_lt_of_cell? w _ hx252_10)).trans hx252_10
                   replace hx252_11 := (HB.out.cell (World.block_lt_of_cell? w _ hx252_11)).trans hx252_11
                   replace hx252_12 := (HB.out.cell (World.block_lt_of_cell? w _ hx252_12)).trans hx252_12
                   replace hx252_13 := (HB.out.cell (World.block_lt_of_cell? w _ hx252_13)).trans hx252_13
                   have HR252_8 := Aside0.mk hi252_8
                   have HC252_8 := Aside0.mk hl252_8
                   clear hi252_8 hl252_8
                   have HR252_9 := Aside0.mk hi252_9
                   have HC252_9 := Aside0.mk hl252_9
                   clear hi252_9 hl252_9
                   have HR252_10 := Aside0.mk hi252_10
                   have HC252_10 := Aside0.mk hl252_10
                   clear hi252_10 hl252_10
                   have HR252_11 := Aside0.mk hi252_11
                   have HC252_11 := Aside0.mk hl252_11
                   clear hi252_11 hl252_11
                   have HR252_12 := Aside0.mk hi252_12
                   have HC252_12 := Aside0.mk hl252_12
                   clear hi252_12 hl252_12
                   have HR252_13 := Aside0.mk hi252_13
                   have HC252_13 := Aside0.mk hl252_13
                   clear hi252_13 hl252_13
                   replace p252 := eq_true p252
                   replace q252 := eq_true q252
                   have ea_ := Option.some.inj (hx251_8.symm.trans hx252_8)
                   injection ea_ with ea_ en_ ec_
                   subst ea_
                   subst ec_
                   clear en_
                   have ea_ := Option.some.inj (hx251_9.symm.trans hx252_9)
                   injection ea_ with ea_ en_ ec_
                   subst ea_
                   subst ec_
                   clear en_
                   have ea_ := Option.some.inj (hx251_10.symm.trans hx252_10)
                   injection ea_ with ea_ en_ ec_
                   subst ea_
                   subst ec_
                   clear en_
                   have ea_ := Option.some.inj (hx251_11.symm.trans hx252_11)
                   injection ea_ with ea_ en_ ec_
                   subst ea_
                   subst ec_
                   clear en_
                   have ea_ := Option.some.inj (hx251_12.symm.trans hx252_12)
                   injection ea_ with ea_ en_ ec_
                   subst ea_
                   subst ec_
                   clear en_
                   have ea_ := Option.some.inj (hx251_13.symm.trans hx252_13)
                   injection ea_ with ea_ en_ ec_
                   subst ea_
                   subst ec_
                   clear en_
                   have p253 : 0 ≤ (x5_1 : Int) := of_decide_eq_true (by first | (with_reducible assumption) | assumption)
                   have q253 : x5_1 < (l0.length : Int) := of_decide_eq_true (by first | (with_reducible assumption) | assumption)
                   obtain ⟨ad253, A253_8, c253_8, A253_9, c253_9, A253_10, c253_10, A253_11, c253_11, A253_12, c253_12, A253_13, c253_13, e253, hx253_0, hx253_1, hx253_2, hx253_3, hx253_4, hx253_5, hx253_6, hx253_7, hx253_8, hx253_9, hx253_10, hx253_11, hx253_12, hx253_13, hl253_8, hi253_8, hl253_9, hi253_9, hl253_10, hi253_10, hl253_11, hi253_11, hl253_12, hi253_12, hl253_13, hi253_13⟩ := at_T68 HR0.out x5_1 p253 q253
                   obtain rfl : ad251 = ad253 := (by injection e253)
                   replace hx253_0 := (HB.out.cell (World.block_lt_of_cell? w _ hx253_0)).trans hx253_0
                   replace hx253_1 := (HB.out.cell (World.block_lt_of_cell? w _ hx253_1)).trans hx253_1
                   replace hx253_2 := (HB.out.cell (World.block_lt_of_cell? w _ hx253_2)).trans hx253_2
                   replace hx253_3 := (HB.out.cell (World.block_lt_of_cell? w _ hx253_3)).trans hx253_3
                   replace hx253_4 := (HB.out.cell (World.block_lt_of_cell? w _ hx253_4)).trans hx253_4
                   replace hx253_5 := (HB.out.cell (World.block_lt_of_cell? w _ hx253_5)).trans hx253_5
                   replace hx253_6 := (HB.out.cell (World.block_lt_of_cell? w _ hx253_6)).trans hx253_6
                   replace hx253_7 := (HB.out.cell (World.block_lt_of_cell? w _ hx253_7)).trans hx253_7
                   replace hx253_8 := (HB.out.cell (World.block_lt_of_cell? w _ hx253_8)).trans hx253_8
                   replace hx253_9 := (HB.out.cell (World.block_lt_of_cell? w _ hx253_9)).trans hx253_9
                   replace hx253_10 := (HB.out.cell (World.block_lt_of_cell? w _ hx253_10)).trans hx253_10
                   replace hx253_11 := (HB.out.cell (World.block_lt_of_cell? w _ hx253_11)).trans hx253_11
                   replace hx253_12 := (HB.out.cell (World.block_lt_of_cell? w _ hx253_12)).trans hx253_12
                   replace hx253_13 := (HB.out.cell (World.block_lt_of_cell? w _ hx253_13)).trans hx253_13
                   have HR253_8 := Aside0.mk hi253_8
                   have HC253_8 := Aside0.mk hl253_8
                   clear hi253_8 hl253_8
                   have HR253_9 := Aside0.mk hi253_9
                   have HC253_9 := Aside0.mk hl253_9
                   clear hi253_9 hl253_9
                   have HR253_10 := Aside0.mk hi253_10
                   have HC253_10 := Aside0.mk hl253_10
                   clear hi253_10 hl253_10
                   have HR253_11 := Aside0.mk hi253_11
                   have HC253_11 := Aside0.mk hl253_11
                   clear hi253_11 hl253_11
                   have HR253_12 := Aside0.mk hi253_12
                   have HC253_12 := Aside0.mk hl253_12
                   clear hi253_12 hl253_12
                   have HR253_13 := Aside0.mk hi253_13
                   have HC253_13 := Aside0.mk hl253_13
                   clear hi253_13 hl253_13
                   replace p253 := eq_true p253
                   replace q253 := eq_true q253
                   have ea_ := Option.some.inj (hx251_8.symm.trans hx253_8)
                   injection ea_ with ea_ en_ ec_
                   subst ea_
                   subst ec_
                   clear en_
                   have ea_ := Option.some.inj (hx251_9.symm.trans hx253_9)
                   injection ea_ with ea_ en_ ec_
                   subst ea_
                   subst ec_
                   clear en_
                   have ea_ := Option.some.inj (hx251_10.symm.trans hx253_10)
                   injection ea_ with ea_ en_ ec_
                   subst ea_
                   subst ec_
                   clear en_
                   have ea_ := Option.some.inj (hx251_11.symm.trans hx253_11)
                   injection ea_ with ea_ en_ ec_
                   subst ea_
                   subst ec_
                   clear en_
                   have ea_ := Option.some.inj (hx251_12.symm.trans hx253_12)
                   injection ea_ with ea_ en_ ec_
                   subst ea_
                   subst ec_
                   clear en_
                   have ea_ := Option.some.inj (hx251_13.symm.trans hx253_13)
                   injection ea_ with ea_ en_ ec_
                   subst ea_
                   subst ec_
                   clear en_
                   have p254 : 0 ≤ (x5_1 : Int) := of_decide_eq_true (by first | (with_reducible assumption) | assumption)
                   have q254 : x5_1 < (l0.length : Int) := of_decide_eq_true (by first | (with_reducible assumption) | assumption)
                   obtain ⟨ad254, A254_8, c254_8, A254_9, c254_9, A254_10, c254_10, A254_11, c254_11, A254_12, c254_12, A254_13, c254_13, e254, hx254_0, hx254_1, hx254_2, hx254_3, hx254_4, hx254_5, hx254_6, hx254_7, hx254_8, hx254_9, hx254_10, hx254_11, hx254_12, hx254_13, hl254_8, hi254_8, hl254_9, hi254_9, hl254_10, hi254_10, hl254_11, hi254_11, hl254_12, hi254_12, hl254_13, hi254_13⟩ := at_T68 HR0.out x5_1 p254 q254
                   obtain rfl : ad251 = ad254 := (by injection e254)
                   replace hx254_0 := (HB.out.cell (World.block_lt_of_cell? w _ hx254_0)).trans hx254_0
                   replace hx254_1 := (HB.out.cell (World.block_lt_of_cell? w _ hx254_1)).trans hx254_1
                   replace hx254_2 := (HB.out.cell (World.block_lt_of_cell? w _ hx254_2)).trans hx254_2
                   replace hx254_3 := (HB.out.cell (World.block_lt_of_cell? w _ hx254_3)).trans hx254_3
                   replace hx254_4 := (HB.out.cell (World.block_lt_of_cell? w _ hx254_4)).trans hx254_4
                   replace hx254_5 := (HB.out.cell (World.block_lt_of_cell? w _ hx254_5)).trans hx254_5
                   replace hx254_6 := (HB.out.cell (World.block_lt_of_cell? w _ hx254_6)).trans hx254_6
                   replace hx254_7 := (HB.out.cell (World.block_lt_of_cell? w _ hx254_7)).trans hx254_7
                   replace hx254_8 := (HB.out.cell (World.block_lt_of_cell? w _ hx254_8)).trans hx254_8
                   replace hx254_9 := (HB.out.cell (World.block_lt_of_cell? w _ hx254_9)).trans hx254_9
                   replace hx254_10 := (HB.out.cell (World.block_lt_of_cell? w _ hx254_10)).trans hx254_10
                   replace hx254_11 := (HB.out.cell (World.block_lt_of_cell? w _ hx254_11)).trans hx254_11
                   replace hx254_12 := (HB.out.cell (World.block_lt_of_cell? w _ hx254_12)).trans hx254_12
                   replace hx254_13 := (HB.out.cell (World.block_lt_of_cell? w _ hx254_13)).trans hx254_13
                   have HR254_8 := Aside0.mk hi254_8
                   have HC254_8 := Aside0.mk hl254_8
                   clear hi254_8 hl254_8
                   have HR254_9 := Aside0.mk hi254_9
                   have HC254_9 := Aside0.mk hl254_9
                   clear hi254_9 hl254_9
                   have HR254_10 := Aside0.mk hi254_10
                   have HC254_10 := Aside0.mk hl254_10
                   clear hi254_10 hl254_10
                   have HR254_11 := Aside0.mk hi254_11
                   have HC254_11 := Aside0.mk hl254_11
                   clear hi254_11 hl254_11
                   have HR254_12 := Aside0.mk hi254_12
                   have HC254_12 := Aside0.mk hl254_12
                   clear hi254_12 hl254_12
                   have HR254_13 := Aside0.mk hi254_13
                   have HC254_13 := Aside0.mk hl254_13
                   clear hi254_13 hl254_13
                   replace p254 := eq_true p254
                   replace q254 := eq_true q254
                   have ea_ := Option.some.inj (hx251_8.symm.trans hx254_8)
                   injection ea_ with ea_ en_ ec_
                   subst ea_
                   subst ec_
                   clear en_
                   have ea_ := Option.some.inj (hx251_9.symm.trans hx254_9)
                   injection ea_ with ea_ en_ ec_
                   subst ea_
                   subst ec_
                   clear en_
                   have ea_ := Option.some.inj (hx251_10.symm.trans hx254_10)
                   injection ea_ with ea_ en_ ec_
                   subst ea_
                   subst ec_
                   clear en_
                   have ea_ := Option.some.inj (hx251_11.symm.trans hx254_11)
                   injection ea_ with ea_ en_ ec_
                   subst ea_
                   subst ec_
                   clear en_
                   have ea_ := Option.some.inj (hx251_12.symm.trans hx254_12)
                   injection ea_ with ea_ en_ ec_
                   subst ea_
                   subst ec_
                   clear en_
                   have ea_ := Option.some.inj (hx251_13.symm.trans hx254_13)
                   injection ea_ with ea_ en_ ec_
                   subst ea_
                   subst ec_
                   clear en_
                   have p255 : 0 ≤ (x5_1 : Int) := of_decide_eq_true (by first | (with_reducible assumption) | assumption)
                   have q255 : x5_1 < (l0.length : Int) := of_decide_eq_true (by first | (with_reducible assumption) | assumption)
                   obtain ⟨ad255, A255_8, c255_8, A255_9, c255_9, A255_10, c255_10, A255_11, c255_11, A255_12, c255_12, A255_13, c255_13, e255, hx255_0, hx255_1, hx255_2, hx255_3, hx255_4, hx255_5, hx255_6, hx255_7, hx255_8, hx255_9, hx255_10, hx255_11, hx255_12, hx255_13, hl255_8, hi255_8, hl255_9, hi255_9, hl255_10, hi255_10, hl255_11, hi255_11, hl255_12, hi255_12, hl255_13, hi255_13⟩ := at_T68 HR0.out x5_1 p255 q255
                   obtain rfl : ad251 = ad255 := (by injection e255)
                   replace hx255_0 := (HB.out.cell (World.block_lt_of_cell? w _ hx255_0)).trans hx255_0
                   replace hx255_1 := (HB.out.cell (World.block_lt_of_cell? w _ hx255_1)).trans hx255_1
                   replace hx255_2 := (HB.out.cell (World.block_lt_of_cell? w _ hx255_2)).trans hx255_2
                   replace hx255_3 := (HB.out.cell (World.block_lt_of_cell? w _ hx255_3)).trans hx255_3
                   replace hx255_4 := (HB.out.cell (World.block_lt_of_cell? w _ hx255_4)).trans hx255_4
                   replace hx255_5 := (HB.out.cell (World.block_lt_of_cell? w _ hx255_5)).trans hx255_5
                   replace hx255_6 := (HB.out.cell (World.block_lt_of_cell? w _ hx255_6)).trans hx255_6
                   replace hx255_7 := (HB.out.cell (World.block_lt_of_cell? w _ hx255_7)).trans hx255_7
                   replace hx255_8 := (HB.out.cell (World.block_lt_of_cell? w _ hx255_8)).trans hx255_8
                   replace hx255_9 := (HB.out.cell (World.block_lt_of_cell? w _ hx255_9)).trans hx255_9
                   replace hx255_10 := (HB.out.cell (World.block_lt_of_cell? w _ hx255_10)).trans hx255_10
                   replace hx255_11 := (HB.out.cell (World.block_lt_of_cell? w _ hx255_11)).trans hx255_11
                   replace hx255_12 := (HB.out.cell (World.block_lt_of_cell? w _ hx255_12)).trans hx255_12
                   replace hx255_13 := (HB.out.cell (World.block_lt_of_cell? w _ hx255_13)).trans hx255_13
                   have HR255_8 := Aside0.mk hi255_8
                   have HC255_8 := Aside0.mk hl255_8
                   clear hi255_8 hl255_8
                   have HR255_9 := Aside0.mk hi255_9
                   have HC255_9 := Aside0.mk hl255_9
                   clear hi255_9 hl255_9
                   have HR255_10 := Aside0.mk hi255_10
                   have HC255_10 := Aside0.mk hl255_10
                   clear hi255_10 hl255_10
                   have HR255_11 := Aside0.mk hi255_11
                   have HC255_11 := Aside0.mk hl255_11
                   clear hi255_11 hl255_11
                   have HR255_12 := Aside0.mk hi255_12
                   have HC255_12 := Aside0.mk hl255_12
                   clear hi255_12 hl255_12
                   have HR255_13 := Aside0.mk hi255_13
                   have HC255_13 := Aside0.mk hl255_13
                   clear hi255_13 hl255_13
                   replace p255 := eq_true p255
                   replace q255 := eq_true q255
                   have ea_ := Option.some.inj (hx251_8.symm.trans hx255_8)
                   injection ea_ with ea_ en_ ec_
                   subst ea_
                   subst ec_
                   clear en_
                   have ea_ := Option.some.inj (hx251_9.symm.trans hx255_9)
                   injection ea_ with ea_ en_ ec_
                   subst ea_
                   subst ec_
                   clear en_
                   have ea_ := Option.some.inj (hx251_10.symm.trans hx255_10)
                   injection ea_ with ea_ en_ ec_
                   subst ea_
                   subst ec_
                   clear en_
                   have ea_ := Option.some.inj (hx251_11.symm.trans hx255_11)
                   injection ea_ with ea_ en_ ec_
                   subst ea_
                   subst ec_
                   clear en_
                   have ea_ := Option.some.inj (hx251_12.symm.trans hx255_12)
                   injection ea_ with ea_ en_ ec_
                   subst ea_
                   subst ec_
                   clear en_
                   have ea_ := Option.some.inj (hx251_13.symm.trans hx255_13)
                   injection ea_ with ea_ en_ ec_
                   subst ea_
                   subst ec_
                   clear en_
                   have p256 : 0 ≤ (x5_1 : Int) := of_decide_eq_true (by first | (with_reducible assumption) | assumption)
                   have q256 : x5_1 < (l0.length : Int) := of_decide_eq_true (by first | (with_reducible assumption) | assumption)
                   obtain ⟨ad256, A256_8, c256_8, A256_9, c256_9, A256_10, c256_10, A256_11, c256_11, A256_12, c256_12, A256_13, c256_13, e256, hx256_0, hx256_1, hx256_2, hx256_3, hx256_4, hx256_5, hx256_6, hx256_7, hx256_8, hx256_9, hx256_10, hx256_11, hx256_12, hx256_13, hl256_8, hi256_8, hl256_9, hi256_9, hl256_10, hi256_10, hl256_11, hi256_11, hl256_12, hi256_12, hl256_13, hi256_13⟩ := at_T68 HR0.out x5_1 p256 q256
                   obtain rfl : ad251 = ad256 := (by injection e256)
                   replace hx256_0 := (HB.out.cell (World.block_lt_of_cell? w _ hx256_0)).trans hx256_0
                   replace hx256_1 := (HB.out.cell (World.block_lt_of_cell? w _ hx256_1)).trans hx256_1
                   replace hx256_2 := (HB.out.cell (World.block_lt_of_cell? w _ hx256_2)).trans hx256_2
                   replace hx256_3 := (HB.out.cell (World.block_lt_of_cell? w _ hx256_3)).trans hx256_3
                   replace hx256_4 := (HB.out.cell (World.block_lt_of_cell? w _ hx256_4)).trans hx256_4
                   replace hx256_5 := (HB.out.cell (World.block_lt_of_cell? w _ hx256_5)).trans hx256_5
                   replace hx256_6 := (HB.out.cell (World.block_lt_of_cell? w _ hx256_6)).trans hx256_6
                   replace hx256_7 := (HB.out.cell (World.block_lt_of_cell? w _ hx256_7)).trans hx256_7
                   replace hx256_8 := (HB.out.cell (World.block_lt_of_cell? w _ hx256_8)).trans hx256_8
                   replace hx256_9 := (HB.out.cell (World.block_lt_of_cell? w _ hx256_9)).trans hx256_9
                   replace hx256_10 := (HB.out.cell (World.block_lt_of_cell? w _ hx256_10)).trans hx256_10
                   replace hx256_11 := (HB.out.cell (World.block_lt_of_cell? w _ hx256_11)).trans hx256_11
                   replace hx256_12 := (HB.out.cell (World.block_lt_of_cell? w _ hx256_12)).trans hx256_12
                   replace hx256_13 := (HB.out.cell (World.block_lt_of_cell? w _ hx256_13)).trans hx256_13
                   have HR256_8 := Aside0.mk hi256_8
                   have HC256_8 := Aside0.mk hl256_8
                   clear hi256_8 hl256_8
                   have HR256_9 := Aside0.mk hi256_9
                   have HC256_9 := Aside0.mk hl256_9
                   clear hi256_9 hl256_9
                   have HR256_10 := Aside0.mk hi256_10
                   have HC256_10 := Aside0.mk hl256_10
                   clear hi256_10 hl256_10
                   have HR256_11 := Aside0.mk hi256_11
                   have HC256_11 := Aside0.mk hl256_11
                   clear hi256_11 hl256_11
                   have HR256_12 := Aside0.mk hi256_12
                   have HC256_12 := Aside0.mk hl256_12
                   clear hi256_12 hl256_12
                   have HR256_13 := Aside0.mk hi256_13
                   have HC256_13 := Aside0.mk hl256_13
                   clear hi256_13 hl256_13
                   replace p256 := eq_true p256
                   replace q256 := eq_true q256
                   have ea_ := Option.some.inj (hx251_8.symm.trans hx256_8)
                   injection ea_ with ea_ en_ ec_
                   subst ea_
                   subst ec_
                   clear en_
                   have ea_ := Option.some.inj (hx251_9.symm.trans hx256_9)
                   injection ea_ with ea_ en_ ec_
                   subst ea_
                   subst ec_
                   clear en_
                   have ea_ := Option.some.inj (hx251_10.symm.trans hx256_10)
                   injection ea_ with ea_ en_ ec_
                   subst ea_
                   subst ec_
                   clear en_
                   have ea_ := Option.some.inj (hx251_11.symm.trans hx256_11)
                   injection ea_ with ea_ en_ ec_
                   subst ea_
                   subst ec_
                   clear en_
                   have ea_ := Option.some.inj (hx251_12.symm.trans hx256_12)
                   injection ea_ with ea_ en_ ec_
                   subst ea_
                   subst ec_
                   clear en_
                   have ea_ := Option.some.inj (hx251_13.symm.trans hx256_13)
                   injection ea_ with ea_ en_ ec_
                   subst ea_
                   subst ec_
                   clear en_
                   have p257 : 0 ≤ (x5_1 : Int) := of_decide_eq_true (by first | (with_reducible assumption) | assumption)
                   have q257 : x5_1 < (l0.length : Int) := of_decide_eq_true (by first | (with_reducible assumption) | assumption)
                   obtain ⟨ad257, A257_8, c257_8, A257_9, c257_9, A257_10, c257_10, A257_11, c257_11, A257_12, c257_12, A257_13, c257_13, e257, hx257_0, hx257_1, hx257_2, hx257_3, hx257_4, hx257_5, hx257_6, hx257_7, hx257_8, hx257_9, hx257_10, hx257_11, hx257_12, hx257_13, hl257_8, hi257_8, hl257_9, hi257_9, hl257_10, hi257_10, hl257_11, hi257_11, hl257_12, hi257_12, hl257_13, hi257_13⟩ := at_T68 HR0.out x5_1 p257 q257
                   obtain rfl : ad251 = ad257 := (by injection e257)
                   replace hx257_0 := (HB.out.cell (World.block_lt_of_cell? w _ hx257_0)).trans hx257_0
                   replace hx257_1 := (HB.out.cell (World.block_lt_of_cell? w _ hx257_1)).trans hx257_1
                   replace hx257_2 := (HB.out.cell (World.block_lt_of_cell? w _ hx257_2)).trans hx257_2
                   replace hx257_3 := (HB.out.cell (World.block_lt_of_cell? w _ hx257_3)).trans hx257_3
                   replace hx257_4 := (HB.out.cell (World.block_lt_of_cell? w _ hx257_4)).trans hx257_4
                   replace hx257_5 := (HB.out.cell (World.block_lt_of_cell? w _ hx257_5)).trans hx257_5
                   replace hx257_6 := (HB.out.cell (World.block_lt_of_cell? w _ hx257_6)).trans hx257_6
                   replace hx257_7 := (HB.out.cell (World.block_lt_of_cell? w _ hx257_7)).trans hx257_7
                   replace hx257_8 := (HB.out.cell (World.block_lt_of_cell? w _ hx257_8)).trans hx257_8
                   replace hx257_9 := (HB.out.cell (World.block_lt_of_cell? w _ hx257_9)).trans hx257_9
                   replace hx257_10 := (HB.out.cell (World.block_lt_of_cell? w _ hx257_10)).trans hx257_10
                   replace hx257_11 := (HB.out.cell (World.block_lt_of_cell? w _ hx257_11)).trans hx257_11
                   replace hx257_12 := (HB.out.cell (World.block_lt_of_cell? w _ hx257_12)).trans hx257_12
                   replace hx257_13 := (HB.out.cell (World.block_lt_of_cell? w _ hx257_13)).trans hx257_13
                   have HR257_8 := Aside0.mk hi257_8
                   have HC257_8 := Aside0.mk hl257_8
                   clear hi257_8 hl257_8
                   have HR257_9 := Aside0.mk hi257_9
                   have HC257_9 := Aside0.mk hl257_9
                   clear hi257_9 hl257_9
                   have HR257_10 := Aside0.mk hi257_10
                   have HC257_10 := Aside0.mk hl257_10
                   clear hi257_10 hl257_10
                   have HR257_11 := Aside0.mk hi257_11
                   have HC257_11 := Aside0.mk hl257_11
                   clear hi257_11 hl257_11
                   have HR257_12 := Aside0.mk hi257_12
                   have HC257_12 := Aside0.mk hl257_12
                   clear hi257_12 hl257_12
                   have HR257_13 := Aside0.mk hi257_13
                   have HC257_13 := Aside0.mk hl257_13
                   clear hi257_13 hl257_13
                   replace p257 := eq_true p257
                   replace q257 := eq_true q257
                   have ea_ := Option.some.inj (hx251_8.symm.trans hx257_8)
                   injection ea_ with ea_ en_ ec_
                   subst ea_
                   subst ec_
                   clear en_
                   have ea_ := Option.some.inj (hx251_9.symm.trans hx257_9)
                   injection ea_ with ea_ en_ ec_
                   subst ea_
                   subst ec_
                   clear en_
                   have ea_ := Option.some.inj (hx251_10.symm.trans hx257_10)
                   injection ea_ with ea_ en_ ec_
                   subst ea_
                   subst ec_
                   clear en_
                   have ea_ := Option.some.inj (hx251_11.symm.trans hx257_11)
                   injection ea_ with ea_ en_ ec_
                   subst ea_
                   subst ec_
                   clear en_
                   have ea_ := Option.some.inj (hx251_12.symm.trans hx257_12)
                   injection ea_ with ea_ en_ ec_
                   subst ea_
                   subst ec_
                   clear en_
                   have ea_ := Option.some.inj (hx251_13.symm.trans hx257_13)
                   injection ea_ with ea_ en_ ec_
                   subst ea_
                   subst ec_
                   clear en_
                   have p258 : 0 ≤ (x5_1 : Int) := of_decide_eq_true (by first | (with_reducible assumption) | assumption)
                   have q258 : x5_1 < (l0.length : Int) := of_decide_eq_true (by first | (with_reducible assumption) | assumption)
                   obtain ⟨ad258, A258_8, c258_8, A258_9, c258_9, A258_10, c258_10, A258_11, c258_11, A258_12, c258_12, A258_13, c258_13, e258, hx258_0, hx258_1, hx258_2, hx258_3, hx258_4, hx258_5, hx258_6, hx258_7, hx258_8, hx258_9, hx258_10, hx258_11, hx258_12, hx258_13, hl258_8, hi258_8, hl258_9, hi258_9, hl258_10, hi258_10, hl258_11, hi258_11, hl258_12, hi258_12, hl258_13, hi258_13⟩ := at_T68 HR0.out x5_1 p258 q258
                   obtain rfl : ad251 = ad258 := (by injection e258)
                   replace hx258_0 := (HB.out.cell (World.block_lt_of_cell? w _ hx258_0)).trans hx258_0
                   replace hx258_1 := (HB.out.cell (World.block_lt_of_cell? w _ hx258_1)).trans hx258_1
                   replace hx258_2 := (HB.out.cell (World.block_lt_of_cell? w _ hx258_2)).trans hx258_2
                   replace hx258_3 := (HB.out.cell (World.block_lt_of_cell? w _ hx258_3)).trans hx258_3
                   replace hx258_4 := (HB.out.cell (World.block_lt_of_cell? w _ hx258_4)).trans hx258_4
                   replace hx258_5 := (HB.out.cell (World.block_lt_of_cell? w _ hx258_5)).trans hx258_5
                   replace hx258_6 := (HB.out.cell (World.block_lt_of_cell? w _ hx258_6)).trans hx258_6
                   replace hx258_7 := (HB.out.cell (World.block_lt_of_cell? w _ hx258_7)).trans hx258_7
                   replace hx258_8 := (HB.out.cell (World.block_lt_of_cell? w _ hx258_8)).trans hx258_8
                   replace hx258_9 := (HB.out.cell (World.block_lt_of_cell? w _ hx258_9)).trans hx258_9
                   replace hx258_10 := (HB.out.cell (World.block_lt_of_cell? w _ hx258_10)).trans hx258_10
                   replace hx258_11 := (HB.out.cell (World.block_lt_of_cell? w _ hx258_11)).trans hx258_11
                   replace hx258_12 := (HB.out.cell (World.block_lt_of_cell? w _ hx258_12)).trans hx258_12
                   replace hx258_13 := (HB.out.cell (World.block_lt_of_cell? w _ hx258_13)).trans hx258_13
                   have HR258_8 := Aside0.mk hi258_8
                   have HC258_8 := Aside0.mk hl258_8
                   clear hi258_8 hl258_8
                   have HR258_9 := Aside0.mk hi258_9
                   have HC258_9 := Aside0.mk hl258_9
                   clear hi258_9 hl258_9
                   have HR258_10 := Aside0.mk hi258_10
                   have HC258_10 := Aside0.mk hl258_10
                   clear hi258_10 hl258_10
                   have HR258_11 := Aside0.mk hi258_11
                   have HC258_11 := Aside0.mk hl258_11
                   clear hi258_11 hl258_11
                   have HR258_12 := Aside0.mk hi258_12
                   have HC258_12 := Aside0.mk hl258_12
                   clear hi258_12 hl258_12
                   have HR258_13 := Aside0.mk hi258_13
                   have HC258_13 := Aside0.mk hl258_13
                   clear hi258_13 hl258_13
                   replace p258 := eq_true p258
                   replace q258 := eq_true q258
                   have ea_ := Option.some.inj (hx251_8.symm.trans hx258_8)
                   injection ea_ with ea_ en_ ec_
                   subst ea_
                   subst ec_
                   clear en_
                   have ea_ := Option.some.inj (hx251_9.symm.trans hx258_9)
                   injection ea_ with ea_ en_ ec_
                   subst ea_
                   subst ec_
                   clear en_
                   have ea_ := Option.some.inj (hx251_10.symm.trans hx258_10)
                   injection ea_ with ea_ en_ ec_
                   subst ea_
                   subst ec_
                   clear en_
                   have ea_ := Option.some.inj (hx251_11.symm.trans hx258_11)
                   injection ea_ with ea_ en_ ec_
                   subst ea_
                   subst ec_
                   clear en_
                   have ea_ := Option.some.inj (hx251_12.symm.trans hx258_12)
                   injection ea_ with ea_ en_ ec_
                   subst ea_
                   subst ec_
                   clear en_
                   have ea_ := Option.some.inj (hx251_13.symm.trans hx258_13)
                   injection ea_ with ea_ en_ ec_
                   subst ea_
                   subst ec_
                   clear en_
                   have p259 : 0 ≤ (x5_1 : Int) := of_decide_eq_true (by first | (with_reducible assumption) | assumption)
                   have q259 : x5_1 < (l0.length : Int) := of_decide_eq_true (by first | (with_reducible assumption) | assumption)
                   obtain ⟨ad259, A259_8, c259_8, A259_9, c259_9, A259_10, c259_10, A259_11, c259_11, A259_12, c259_12, A259_13, c259_13, e259, hx259_0, hx259_1, hx259_2, hx259_3, hx259_4, hx259_5, hx259_6, hx259_7, hx259_8, hx259_9, hx259_10, hx259_11, hx259_12, hx259_13, hl259_8, hi259_8, hl259_9, hi259_9, hl259_10, hi259_10, hl259_11, hi259_11, hl259_12, hi259_12, hl259_13, hi259_13⟩ := at_T68 HR0.out x5_1 p259 q259
                   obtain rfl : ad251 = ad259 := (by injection e259)
                   replace hx259_0 := (HB.out.cell (World.block_lt_of_cell? w _ hx259_0)).trans hx259_0
                   replace hx259_1 := (HB.out.cell (World.block_lt_of_cell? w _ hx259_1)).trans hx259_1
                   replace hx259_2 := (HB.out.cell (World.block_lt_of_cell? w _ hx259_2)).trans hx259_2
                   replace hx259_3 := (HB.out.cell (World.block_lt_of_cell? w _ hx259_3)).trans hx259_3
                   replace hx259_4 := (HB.out.cell (World.block_lt_of_cell? w _ hx259_4)).trans hx259_4
                   replace hx259_5 := (HB.out.cell (World.block_lt_of_cell? w _ hx259_5)).trans hx259_5
                   replace hx259_6 := (HB.out.cell (World.block_lt_of_cell? w _ hx259_6)).trans hx259_6
                   replace hx259_7 := (HB.out.cell (World.block_lt_of_cell? w _ hx259_7)).trans hx259_7
                   replace hx259_8 := (HB.out.cell (World.block_lt_of_cell? w _ hx259_8)).trans hx259_8
                   replace hx259_9 := (HB.out.cell (World.block_lt_of_cell? w _ hx259_9)).trans hx259_9
                   replace hx259_10 := (HB.out.cell (World.block_lt_of_cell? w _ hx259_10)).trans hx259_10
                   replace hx259_11 := (HB.out.cell (World.block_lt_of_cell? w _ hx259_11)).trans hx259_11
                   replace hx259_12 := (HB.out.cell (World.block_lt_of_cell? w _ hx259_12)).trans hx259_12
                   replace hx259_13 := (HB.out.cell (World.block_lt_of_cell? w _ hx259_13)).trans hx259_13
                   have HR259_8 := Aside0.mk hi259_8
                   have HC259_8 := Aside0.mk hl259_8
                   clear hi259_8 hl259_8
                   have HR259_9 := Aside0.mk hi259_9
                   have HC259_9 := Aside0.mk hl259_9
                   clear hi259_9 hl259_9
                   have HR259_10 := Aside0.mk hi259_10
                   have HC259_10 := Aside0.mk hl259_10
                   clear hi259_10 hl259_10
                   have HR259_11 := Aside0.mk hi259_11
                   have HC259_11 := Aside0.mk hl259_11
                   clear hi259_11 hl259_11
                   have HR259_12 := Aside0.mk hi259_12
                   have HC259_12 := Aside0.mk hl259_12
                   clear hi259_12 hl259_12
                   have HR259_13 := Aside0.mk hi259_13
                   have HC259_13 := Aside0.mk hl259_13
                   clear hi259_13 hl259_13
                   replace p259 := eq_true p259
                   replace q259 := eq_true q259
                   have ea_ := Option.some.inj (hx251_8.symm.trans hx259_8)
                   injection ea_ with ea_ en_ ec_
                   subst ea_
                   subst ec_
                   clear en_
                   have ea_ := Option.some.inj (hx251_9.symm.trans hx259_9)
                   injection ea_ with ea_ en_ ec_
                   subst ea_
                   subst ec_
                   clear en_
                   have ea_ := Option.some.inj (hx251_10.symm.trans hx259_10)
                   injection ea_ with ea_ en_ ec_
                   subst ea_
                   subst ec_
                   clear en_
                   have ea_ := Option.some.inj (hx251_11.symm.trans hx259_11)
                   injection ea_ with ea_ en_ ec_
                   subst ea_
                   subst ec_
                   clear en_
                   have ea_ := Option.some.inj (hx251_12.symm.trans hx259_12)
                   injection ea_ with ea_ en_ ec_
                   subst ea_
                   subst ec_
                   clear en_
                   have ea_ := Option.some.inj (hx251_13.symm.trans hx259_13)
                   injection ea_ with ea_ en_ ec_
                   subst ea_
                   subst ec_
                   clear en_
                   go_wp2_with (first | ((with_reducible refine gate_callee (f := 121) rfl ?_); refine goesL_ (some 93) rfl rfl Try.func121 (by kernel_rfl) rfl #[.slice A251_8 ((rd_T68 l0 x5_1).f6.f2).length c251_8, .int .i64 (wrap64 ((wrap64 ((wrap64 ((wrap64 ((wrap64 ((wrap64 ((wrap64 ((wrap64 (x1_1 + 1)) + 1)) + 1)) + 1)) + 1)) + 1)) + 1)) + 1))] rfl (by (try simp only [List.map_toArray, List.map_cons, List.map_nil]); first | done | rfl | (simp only [List.length_drop, List.length_take]; rfl)) ?_; (with_reducible refine (laws_heldInt64S.calls k1 _ _ ((rd_T68 l0 x5_1).f6.f2) (wrap64 ((wrap64 ((wrap64 ((wrap64 ((wrap64 ((wrap64 ((wrap64 ((wrap64 (x1_1 + 1)) + 1)) + 1)) + 1)) + 1)) + 1)) + 1)) + 1)) t260 _ ?side1 ?side2 A13.out).mono ?_); (case side1 => repeat (first | exact (Kd.C_below HR259_8.out HB.out) | (with_reducible refine Kd.C_alloc ?_ _) | (with_reducible refine Kd.C_drewN ?_ _) | (with_reducible refine Kd.C_drew ?_))); (case side2 => exact HC259_8.out); rintro e w' ⟨rfl, ⟨nd, rfl⟩⟩; refine ⟨_, rfl, ?_⟩; have p261 : 0 ≤ (x5_1 : Int) := of_decide_eq_true (by first | (with_reducible assumption) | assumption); have q261 : x5_1 < (l0.length : Int) := of_decide_eq_true (by first | (with_reducible assumption) | assumption); obtain ⟨ad261, A261_8, c261_8, A261_9, c261_9, A261_10, c261_10, A261_11, c261_11, A261_12, c261_12, A261_13, c261_13, e261, hx261_0, hx261_1, hx261_2, hx261_3, hx261_4, hx261_5, hx261_6, hx261_7, hx261_8, hx261_9, hx261_10, hx261_11, hx261_12, hx261_13, hl261_8, hi261_8, hl261_9, hi261_9, hl261_10, hi261_10, hl261_11, hi261_11, hl261_12, hi261_12, hl261_13, hi261_13⟩ := at_T68 HR0.out x5_1 p261 q261; obtain rfl : ad251 = ad261 := (by injection e261); replace hx261_0 := (HB.out.cell (World.block_lt_of_cell? w _ hx261_0)).trans hx261_0; replace hx261_1 := (HB.out.cell (World.block_lt_of_cell? w _ hx261_1)).trans hx261_1; replace hx261_2 := (HB.out.cell (World.block_lt_of_cell? w _ hx261_2)).trans hx261_2; replace hx261_3 := (HB.out.cell (World.block_lt_of_cell? w _ hx261_3)).trans hx261_3; replace hx261_4 := (HB.out.cell (World.block_lt_of_cell? w _ hx261_4)).trans hx261_4; replace hx261_5 := (HB.out.cell (World.block_lt_of_cell? w _ hx261_5)).trans hx261_5; replace hx261_6 := (HB.out.cell (World.block_lt_of_cell? w _ hx261_6)).trans hx261_6; replace hx261_7 := (HB.out.cell (World.block_lt_of_cell? w _ hx261_7)).trans hx261_7; replace hx261_8 := (HB.out.cell (World.block_lt_of_cell? w _ hx261_8)).trans hx261_8; replace hx261_9 := (HB.out.cell (World.block_lt_of_cell? w _ hx261_9)).trans hx261_9; replace hx261_10 := (HB.out.cell (World.block_lt_of_cell? w _ hx261_10)).trans hx261_10; replace hx261_11 := (HB.out.cell (World.block_lt_of_cell? w _ hx261_11)).trans hx261_11; replace hx261_12 := (HB.out.cell (World.block_lt_of_cell? w _ hx261_12)).trans hx261_12; replace hx261_13 := (HB.out.cell (World.block_lt_of_cell? w _ hx261_13)).trans hx261_13; have HR261_8 := Aside0.mk hi261_8; have HC261_8 := Aside0.mk hl261_8; clear hi261_8 hl261_8; have HR261_9 := Aside0.mk hi261_9; have HC261_9 := Aside0.mk hl261_9; clear hi261_9 hl261_9; have HR261_10 := Aside0.mk hi261_10; have HC261_10 := Aside0.mk hl261_10; clear hi261_10 hl261_10; have HR261_11 := Aside0.mk hi261_11; have HC261_11 := Aside0.mk hl261_11; clear hi261_11 hl261_11; have HR261_12 := Aside0.mk hi261_12; have HC261_12 := Aside0.mk hl261_12; clear hi261_12 hl261_12; have HR261_13 := Aside0.mk hi261_13; have HC261_13 := Aside0.mk hl261_13; clear hi261_13 hl261_13; replace p261 := eq_true p261; replace q261 := eq_true q261; have ea_ := Option.some.inj (hx251_8.symm.trans hx261_8); injection ea_ with ea_ en_ ec_; subst ea_; subst ec_; clear en_; have ea_ := Option.some.inj (hx251_9.symm.trans hx261_9); injection ea_ with ea_ en_ ec_; subst ea_; subst ec_; clear en_; have ea_ := Option.some.inj (hx251_10.symm.trans hx261_10); injection ea_ with ea_ en_ ec_; subst ea_; subst ec_; clear en_; have ea_ := Option.some.inj (hx251_11.symm.trans hx261_11); injection ea_ with ea_ en_ ec_; subst ea_; subst ec_; clear en_; have ea_ := Option.some.inj (hx251_12.symm.trans hx261_12); injection ea_ with ea_ en_ ec_; subst ea_; subst ec_; clear en_; have ea_ := Option.some.inj (hx251_13.symm.trans hx261_13); injection ea_ with ea_ en_ ec_; subst ea_; subst ec_; clear en_) | ((with_reducible refine gate_callee (f := 121) rfl ?_); refine goesL_ (some 103) rfl rfl Try.func121 (by kernel_rfl) rfl #[.slice A251_9 ((rd_T68 l0 x5_1).f6.f3).length c251_9, .int .i64 t260] rfl (by (try simp only [List.map_toArray, List.map_cons, List.map_nil]); first | done | rfl | (simp only [List.length_drop, List.length_take]; rfl)) ?_; (with_reducible refine (laws_heldInt64S.calls k1 _ _ ((rd_T68 l0 x5_1).f6.f3) t260 t262 _ ?side1 ?side2 A15.out).mono ?_); (case side1 => repeat (first | exact (Kd.C_below HR261_9.out (by repeat (first | (with_reducible first | exact HB.out | apply below_alloc | apply pw_below_drewN | apply below_drew1) | exact HB.out))) | (with_reducible refine Kd.C_alloc ?_ _) | (with_reducible refine Kd.C_drewN ?_ _) | (with_reducible refine Kd.C_drew ?_))); (case side2 => exact HC261_9.out); rintro e w' ⟨rfl, ⟨nd, rfl⟩⟩; refine ⟨_, rfl, ?_⟩; have p263 : 0 ≤ (x5_1 : Int) := of_decide_eq_true (by first | (with_reducible assumption) | assumption); have q263 : x5_1 < (l0.length : Int) := of_decide_eq_true (by first | (with_reducible assumption) | assumption); obtain ⟨ad263, A263_8, c263_8, A263_9, c263_9, A263_10, c263_10, A263_11, c263_11, A263_12, c263_12, A263_13, c263_13, e263, hx263_0, hx263_1, hx263_2, hx263_3, hx263_4, hx263_5, hx263_6, hx263_7, hx263_8, hx263_9, hx263_10, hx263_11, hx263_12, hx263_13, hl263_8, hi263_8, hl263_9, hi263_9, hl263_10, hi263_10, hl263_11, hi263_11, hl263_12, hi263_12, hl263_13, hi263_13⟩ := at_T68 HR0.out x5_1 p263 q263; obtain rfl : ad251 = ad263 := (by injection e263); replace hx263_0 := (HB.out.cell (World.block_lt_of_cell? w _ hx263_0)).trans hx263_0; replace hx263_1 := (HB.out.cell (World.block_lt_of_cell? w _ hx263_1)).trans hx263_1; replace hx263_2 := (HB.out.cell (World.block_lt_of_cell? w _ hx263_2)).trans hx263_2; replace hx263_3 := (HB.out.cell (World.block_lt_of_cell? w _ hx263_3)).trans hx263_3; replace hx263_4 := (HB.out.cell (World.block_lt_of_cell? w _ hx263_4)).trans hx263_4; replace hx263_5 := (HB.out.cell (World.block_lt_of_cell? w _ hx263_5)).trans hx263_5; replace hx263_6 := (HB.out.cell (World.block_lt_of_cell? w _ hx263_6)).trans hx263_6; replace hx263_7 := (HB.out.cell (World.block_lt_of_cell? w _ hx263_7)).trans hx263_7; replace hx263_8 := (HB.out.cell (World.block_lt_of_cell? w _ hx263_8)).trans hx263_8; replace hx263_9 := (HB.out.cell (World.block_lt_of_cell? w _ hx263_9)).trans hx263_9; replace hx263_10 := (HB.out.cell (World.block_lt_of_cell? w _ hx263_10)).trans hx263_10; replace hx263_11 := (HB.out.cell (World.block_lt_of_cell? w _ hx263_11)).trans hx263_11; replace hx263_12 := (HB.out.cell (World.block_lt_of_cell? w _ hx263_12)).trans hx263_12; replace hx263_13 := (HB.out.cell (World.block_lt_of_cell? w _ hx263_13)).trans hx263_13; have HR263_8 := Aside0.mk hi263_8; have HC263_8 := Aside0.mk hl263_8; clear hi263_8 hl263_8; have HR263_9 := Aside0.mk hi263_9; have HC263_9 := Aside0.mk hl263_9; clear hi263_9 hl263_9; have HR263_10 := Aside0.mk hi263_10; have HC263_10 := Aside0.mk hl263_10; clear hi263_10 hl263_10; have HR263_11 := Aside0.mk hi263_11; have HC263_11 := Aside0.mk hl263_11; clear hi263_11 hl263_11; have HR263_12 := Aside0.mk hi263_12; have HC263_12 := Aside0.mk hl263_12; clear hi263_12 hl263_12; have HR263_13 := Aside0.mk hi263_13; have HC263_13 := Aside0.mk hl263_13; clear hi263_13 hl263_13; replace p263 := eq_true p263; replace q263 := eq_true q263; have ea_ := Option.some.inj (hx251_8.symm.trans hx263_8); injection ea_ with ea_ en_ ec_; subst ea_; subst ec_; clear en_; have ea_ := Option.some.inj (hx251_9.symm.trans hx263_9); injection ea_ with ea_ en_ ec_; subst ea_; subst ec_; clear en_; have ea_ := Option.some.inj (hx251_10.symm.trans hx263_10); injection ea_ with ea_ en_ ec_; subst ea_; subst ec_; clear en_; have ea_ := Option.some.inj (hx251_11.symm.trans hx263_11); injection ea_ with ea_ en_ ec_; subst ea_; subst ec_; clear en_; have ea_ := Option.some.inj (hx251_12.symm.trans hx263_12); injection ea_ with ea_ en_ ec_; subst ea_; subst ec_; clear en_; have ea_ := Option.some.inj (hx251_13.symm.trans hx263_13); injection ea_ with ea_ en_ ec_; subst ea_; subst ec_; clear en_) | ((with_reducible refine gate_callee (f := 118) rfl ?_); refine goesL_ (some 112) rfl rfl Try.func118 (by kernel_rfl) rfl #[.slice A251_10 ((rd_T68 l0 x5_1).f7).length c251_10, .int .i64 t262] rfl (by (try simp only [List.map_toArray, List.map_cons, List.map_nil]); first | done | rfl | (simp only [List.length_drop, List.length_take]; rfl)) ?_; (with_reducible refine (laws_heldBlockS.calls k1 _ _ ((rd_T68 l0 x5_1).f7) t262 t264 _ ?side1 ?side2 A17.out).mono ?_); (case side1 => repeat (first | exact (Kd.C_below HR263_10.out (by repeat (first | (with_reducible first | exact HB.out | apply below_alloc | apply pw_below_drewN | apply below_drew1) | exact HB.out))) | (with_reducible refine Kd.C_alloc ?_ _) | (with_reducible refine Kd.C_drewN ?_ _) | (with_reducible refine Kd.C_drew ?_))); (case side2 => exact HC263_10.out); rintro e w25 ⟨rfl, hb⟩; refine ⟨_, rfl, ?_⟩; have n0_ := Aside0.mk (below_step (by repeat (first | (with_reducible first | exact HB.out | apply below_alloc | apply pw_below_drewN | apply below_drew1) | exact HB.out)) hb); clear HB; have HB := n0_; clear n0_; (try clear hb); (try clear hb2); (try clear hk); (try clear hi); have p265 : 0 ≤ (x5_1 : Int) := of_decide_eq_true (by first | (with_reducible assumption) | assumption); have q265 : x5_1 < (l0.length : Int) := of_decide_eq_true (by first | (with_reducible assumption) | assumption); obtain ⟨ad265, A265_8, c265_8, A265_9, c265_9, A265_10, c265_10, A265_11, c265_11, A265_12, c265_12, A265_13, c265_13, e265, hx265_0, hx265_1, hx265_2, hx265_3, hx265_4, hx265_5, hx265_6, hx265_7, hx265_8, hx265_9, hx265_10, hx265_11, hx265_12, hx265_13, hl265_8, hi265_8, hl265_9, hi265_9, hl265_10, hi265_10, hl265_11, hi265_11, hl265_12, hi265_12, hl265_13, hi265_13⟩ := at_T68 HR0.out x5_1 p265 q265; obtain rfl : ad251 = ad265 := (by injection e265); replace hx265_0 := (HB.out.cell (World.block_lt_of_cell? w _ hx265_0)).trans hx265_0; replace hx265_1 := (HB.out.cell (World.block_lt_of_cell? w _ hx265_1)).trans hx265_1; replace hx265_2 := (HB.out.cell (World.block_lt_of_cell? w _ hx265_2)).trans hx265_2; replace hx265_3 := (HB.out.cell (World.block_lt_of_cell? w _ hx265_3)).trans hx265_3; replace hx265_4 := (HB.out.cell (World.block_lt_of_cell? w _ hx265_4)).trans hx265_4; replace hx265_5 := (HB.out.cell (World.block_lt_of_cell? w _ hx265_5)).trans hx265_5; replace hx265_6 := (HB.out.cell (World.block_lt_of_cell? w _ hx265_6)).trans hx265_6; replace hx265_7 := (HB.out.cell (World.block_lt_of_cell? w _ hx265_7)).trans hx265_7; replace hx265_8 := (HB.out.cell (World.block_lt_of_cell? w _ hx265_8)).trans hx265_8; replace hx265_9 := (HB.out.cell (World.block_lt_of_cell? w _ hx265_9)).trans hx265_9; replace hx265_10 := (HB.out.cell (World.block_lt_of_cell? w _ hx265_10)).trans hx265_10; replace hx265_11 := (HB.out.cell (World.block_lt_of_cell? w _ hx265_11)).trans hx265_11; replace hx265_12 := (HB.out.cell (World.block_lt_of_cell? w _ hx265_12)).trans hx265_12; replace hx265_13 := (HB.out.cell (World.block_lt_of_cell? w _ hx265_13)).trans hx265_13; have HR265_8 := Aside0.mk hi265_8; have HC265_8 := Aside0.mk hl265_8; clear hi265_8 hl265_8; have HR265_9 := Aside0.mk hi265_9; have HC265_9 := Aside0.mk hl265_9; clear hi265_9 hl265_9; have HR265_10 := Aside0.mk hi265_10; have HC265_10 := Aside0.mk hl265_10; clear hi265_10 hl265_10; have HR265_11 := Aside0.mk hi265_11; have HC265_11 := Aside0.mk hl265_11; clear hi265_11 hl265_11; have HR265_12 := Aside0.mk hi265_12; have HC265_12 := Aside0.mk hl265_12; clear hi265_12 hl265_12; have HR265_13 := Aside0.mk hi265_13; have HC265_13 := Aside0.mk hl265_13; clear hi265_13 hl265_13; replace p265 := eq_true p265; replace q265 := eq_true q265) | ((with_reducible refine gate_callee (f := 119) rfl ?_); refine goesL_ (some 121) rfl rfl Try.func119 (by kernel_rfl) rfl #[.slice A265_11 ((rd_T68 l0 x5_1).f8).length c265_11, .int .i64 t264] rfl (by (try simp only [List.map_toArray, List.map_cons, List.map_nil]); first | done | rfl | (simp only [List.length_drop, List.length_take]; rfl)) ?_; (with_reducible refine (laws_heldVoteS.calls k1 _ _ ((rd_T68 l0 x5_1).f8) t264 t266 _ ?side1 ?side2 A19.out).mono ?_); (case side1 => repeat (first | exact (Kd.C_below HR265_11.out HB.out) | (with_reducible refine Kd.C_alloc ?_ _) | (with_reducible refine Kd.C_drewN ?_ _) | (with_reducible refine Kd.C_drew ?_))); (case side2 => exact HC265_11.out); rintro e w' ⟨rfl, ⟨nd, rfl⟩⟩; refine ⟨_, rfl, ?_⟩; have p267 : 0 ≤ (x5_1 : Int) := of_decide_eq_true (by first | (with_reducible assumption) | assumption); have q267 : x5_1 < (l0.length : Int) := of_decide_eq_true (by first | (with_reducible assumption) | assumption); obtain ⟨ad267, A267_8, c267_8, A267_9, c267_9, A267_10, c267_10, A267_11, c267_11, A267_12, c267_12, A267_13, c267_13, e267, hx267_0, hx267_1, hx267_2, hx267_3, hx267_4, hx267_5, hx267_6, hx267_7, hx267_8, hx267_9, hx267_10, hx267_11, hx267_12, hx267_13, hl267_8, hi267_8, hl267_9, hi267_9, hl267_10, hi267_10, hl267_11, hi267_11, hl267_12, hi267_12, hl267_13, hi267_13⟩ := at_T68 HR0.out x5_1 p267 q267; obtain rfl : ad251 = ad267 := (by injection e267); replace hx267_0 := (HB.out.cell (World.block_lt_of_cell? w _ hx267_0)).trans hx267_0; replace hx267_1 := (HB.out.cell (World.block_lt_of_cell? w _ hx267_1)).trans hx267_1; replace hx267_2 := (HB.out.cell (World.block_lt_of_cell? w _ hx267_2)).trans hx267_2; replace hx267_3 := (HB.out.cell (World.block_lt_of_cell? w _ hx267_3)).trans hx267_3; replace hx267_4 := (HB.out.cell (World.block_lt_of_cell? w _ hx267_4)).trans hx267_4; replace hx267_5 := (HB.out.cell (World.block_lt_of_cell? w _ hx267_5)).trans hx267_5; replace hx267_6 := (HB.out.cell (World.block_lt_of_cell? w _ hx267_6)).trans hx267_6; replace hx267_7 := (HB.out.cell (World.block_lt_of_cell? w _ hx267_7)).trans hx267_7; replace hx267_8 := (HB.out.cell (World.block_lt_of_cell? w _ hx267_8)).trans hx267_8; replace hx267_9 := (HB.out.cell (World.block_lt_of_cell? w _ hx267_9)).trans hx267_9; replace hx267_10 := (HB.out.cell (World.block_lt_of_cell? w _ hx267_10)).trans hx267_10; replace hx267_11 := (HB.out.cell (World.block_lt_of_cell? w _ hx267_11)).trans hx267_11; replace hx267_12 := (HB.out.cell (World.block_lt_of_cell? w _ hx267_12)).trans hx267_12; replace hx267_13 := (HB.out.cell (World.block_lt_of_cell? w _ hx267_13)).trans hx267_13; have HR267_8 := Aside0.mk hi267_8; have HC267_8 := Aside0.mk hl267_8; clear hi267_8 hl267_8; have HR267_9 := Aside0.mk hi267_9; have HC267_9 := Aside0.mk hl267_9; clear hi267_9 hl267_9; have HR267_10 := Aside0.mk hi267_10; have HC267_10 := Aside0.mk hl267_10; clear hi267_10 hl267_10; have HR267_11 := Aside0.mk hi267_11; have HC267_11 := Aside0.mk hl267_11; clear hi267_11 hl267_11; have HR267_12 := Aside0.mk hi267_12; have HC267_12 := Aside0.mk hl267_12; clear hi267_12 hl267_12; have HR267_13 := Aside0.mk hi267_13; have HC267_13 := Aside0.mk hl267_13; clear hi267_13 hl267_13; replace p267 := eq_true p267; replace q267 := eq_true q267; have ea_ := Option.some.inj (hx265_8.symm.trans hx267_8); injection ea_ with ea_ en_ ec_; subst ea_; subst ec_; clear en_; have ea_ := Option.some.inj (hx265_9.symm.trans hx267_9); injection ea_ with ea_ en_ ec_; subst ea_; subst ec_; clear en_; have ea_ := Option.some.inj (hx265_10.symm.trans hx267_10); injection ea_ with ea_ en_ ec_; subst ea_; subst ec_; clear en_; have ea_ := Option.some.inj (hx265_11.symm.trans hx267_11); injection ea_ with ea_ en_ ec_; subst ea_; subst ec_; clear en_; have ea_ := Option.some.inj (hx265_12.symm.trans hx267_12); injection ea_ with ea_ en_ ec_; subst ea_; subst ec_; clear en_; have ea_ := Option.some.inj (hx265_13.symm.trans hx267_13); injection ea_ with ea_ en_ ec_; subst ea_; subst ec_; clear en_) | ((with_reducible refine gate_callee (f := 120) rfl ?_); refine goesL_ (some 130) rfl rfl Try.func120 (by kernel_rfl) rfl #[.slice A265_12 ((rd_T68 l0 x5_1).f9).length c265_12, .int .i64 t266] rfl (by (try simp only [List.map_toArray, List.map_cons, List.map_nil]); first | done | rfl | (simp only [List.length_drop, List.length_take]; rfl)) ?_; (with_reducible refine (laws_heldNewsS.calls k1 _ _ ((rd_T68 l0 x5_1).f9) t266 t268 _ ?side1 ?side2 A21.out).mono ?_); (case side1 => repeat (first | exact (Kd.C_below HR267_12.out (by repeat (first | (with_reducible first | exact HB.out | apply below_alloc | apply pw_below_drewN | apply below_drew1) | exact HB.out))) | (with_reducible refine Kd.C_alloc ?_ _) | (with_reducible refine Kd.C_drewN ?_ _) | (with_reducible refine Kd.C_drew ?_))); (case side2 => exact HC267_12.out); rintro e w' ⟨rfl, ⟨nd, rfl⟩⟩; refine ⟨_, rfl, ?_⟩; have p269 : 0 ≤ (x5_1 : Int) := of_decide_eq_true (by first | (with_reducible assumption) | assumption); have q269 : x5_1 < (l0.length : Int) := of_decide_eq_true (by first | (with_reducible assumption) | assumption); obtain ⟨ad269, A269_8, c269_8, A269_9, c269_9, A269_10, c269_10, A269_11, c269_11, A269_12, c269_12, A269_13, c269_13, e269, hx269_0, hx269_1, hx269_2, hx269_3, hx269_4, hx269_5, hx269_6, hx269_7, hx269_8, hx269_9, hx269_10, hx269_11, hx269_12, hx269_13, hl269_8, hi269_8, hl269_9, hi269_9, hl269_10, hi269_10, hl269_11, hi269_11, hl269_12, hi269_12, hl269_13, hi269_13⟩ := at_T68 HR0.out x5_1 p269 q269; obtain rfl : ad251 = ad269 := (by injection e269); replace hx269_0 := (HB.out.cell (World.block_lt_of_cell? w _ hx269_0)).trans hx269_0; replace hx269_1 := (HB.out.cell (World.block_lt_of_cell? w _ hx269_1)).trans hx269_1; replace hx269_2 := (HB.out.cell (World.block_lt_of_cell? w _ hx269_2)).trans hx269_2; replace hx269_3 := (HB.out.cell (World.block_lt_of_cell? w _ hx269_3)).trans hx269_3; replace hx269_4 := (HB.out.cell (World.block_lt_of_cell? w _ hx269_4)).trans hx269_4; replace hx269_5 := (HB.out.cell (World.block_lt_of_cell? w _ hx269_5)).trans hx269_5; replace hx269_6 := (HB.out.cell (World.block_lt_of_cell? w _ hx269_6)).trans hx269_6; replace hx269_7 := (HB.out.cell (World.block_lt_of_cell? w _ hx269_7)).trans hx269_7; replace hx269_8 := (HB.out.cell (World.block_lt_of_cell? w _ hx269_8)).trans hx269_8; replace hx269_9 := (HB.out.cell (World.block_lt_of_cell? w _ hx269_9)).trans hx269_9; replace hx269_10 := (HB.out.cell (World.block_lt_of_cell? w _ hx269_10)).trans hx269_10; replace hx269_11 := (HB.out.cell (World.block_lt_of_cell? w _ hx269_11)).trans hx269_11; replace hx269_12 := (HB.out.cell (World.block_lt_of_cell? w _ hx269_12)).trans hx269_12; replace hx269_13 := (HB.out.cell (World.block_lt_of_cell? w _ hx269_13)).trans hx269_13; have HR269_8 := Aside0.mk hi269_8; have HC269_8 := Aside0.mk hl269_8; clear hi269_8 hl269_8; have HR269_9 := Aside0.mk hi269_9; have HC269_9 := Aside0.mk hl269_9; clear hi269_9 hl269_9; have HR269_10 := Aside0.mk hi269_10; have HC269_10 := Aside0.mk hl269_10; clear hi269_10 hl269_10; have HR269_11 := Aside0.mk hi269_11; have HC269_11 := Aside0.mk hl269_11; clear hi269_11 hl269_11; have HR269_12 := Aside0.mk hi269_12; have HC269_12 := Aside0.mk hl269_12; clear hi269_12 hl269_12; have HR269_13 := Aside0.mk hi269_13; have HC269_13 := Aside0.mk hl269_13; clear hi269_13 hl269_13; replace p269 := eq_true p269; replace q269 := eq_true q269; have ea_ := Option.some.inj (hx265_8.symm.trans hx269_8); injection ea_ with ea_ en_ ec_; subst ea_; subst ec_; clear en_; have ea_ := Option.some.inj (hx265_9.symm.trans hx269_9); injection ea_ with ea_ en_ ec_; subst ea_; subst ec_; clear en_; have ea_ := Option.some.inj (hx265_10.symm.trans hx269_10); injection ea_ with ea_ en_ ec_; subst ea_; subst ec_; clear en_; have ea_ := Option.some.inj (hx265_11.symm.trans hx269_11); injection ea_ with ea_ en_ ec_; subst ea_; subst ec_; clear en_; have ea_ := Option.some.inj (hx265_12.symm.trans hx269_12); injection ea_ with ea_ en_ ec_; subst ea_; subst ec_; clear en_; have ea_ := Option.some.inj (hx265_13.symm.trans hx269_13); injection ea_ with ea_ en_ ec_; subst ea_; subst ec_; clear en_) | ((with_reducible refine gate_callee (f := 121) rfl ?_); refine goesL_ (some 139) rfl rfl Try.func121 (by kernel_rfl) rfl #[.slice A265_13 ((rd_T68 l0 x5_1).f10).length c265_13, .int .i64 t268] rfl (by (try simp only [List.map_toArray, List.map_cons, List.map_nil]); first | done | rfl | (simp only [List.length_drop, List.length_take]; rfl)) ?_; (with_reducible refine (laws_heldInt64S.calls k1 _ _ ((rd_T68 l0 x5_1).f10) t268 t270 _ ?side1 ?side2 A23.out).mono ?_); (case side1 => repeat (first | exact (Kd.C_below HR269_13.out (by repeat (first | (with_reducible first | exact HB.out | apply below_alloc | apply pw_below_drewN | apply below_drew1) | exact HB.out))) | (with_reducible refine Kd.C_alloc ?_ _) | (with_reducible refine Kd.C_drewN ?_ _) | (with_reducible refine Kd.C_drew ?_))); (case side2 => exact HC269_13.out); rintro e w' ⟨rfl, ⟨nd, rfl⟩⟩; refine ⟨_, rfl, ?_⟩))
                   go_roundg k1
                   case measure => have := HK1.out; omega
                   case rel => exact ⟨(t270), (wrap64 (x5_1 + 1)), (by first | rfl | (simp; done) | (simp [*]; done)), (by first | rfl | (simp; done) | (simp [*]; done)), H', ⟨by have := HK1.out; omega⟩, ⟨by repeat (first | (with_reducible first | exact HB.out | apply below_alloc | apply pw_below_drewN | apply below_drew1) | exact HB.out)⟩⟩
            ·rw [if_neg c12] at H
             exact absurd H (by simp)
           ·rw [if_neg c11] at H
            exact absurd H (by simp)
          ·rw [if_neg c10] at H
           exact absurd H (by simp)
         ·rw [if_neg c9] at H
          exact absurd H (by simp)
        ·rw [if_neg c8] at H
         exact absurd H (by simp)
       ·rw [if_neg c7] at H
        exact absurd H (by simp)
      ·rw [if_neg c6] at H
       exact absurd H (by simp)
     ·rw [if_neg c5] at H
      exact absurd H (by simp)
    ·rw [if_neg c4] at H
     exact absurd H (by simp)
   ·rw [if_neg c3] at H
    have c3b0 : decide (x5_1 < (l0.length : Int)) = false := decide_eq_false c3
    clear c3
    obtain rfl := Option.some.inj H
    go_wp2
    go_ret
    exact ⟨by first | rfl | (simp [errW_none, errW_some] <;> rfl) | (simp [*, errW_none, errW_some] <;> rfl), by repeat (first | (with_reducible first | exact HB.out | apply below_alloc | apply pw_below_drewN | apply below_drew1) | exact HB.out)⟩

/-! ### laws_heldMessageS: function 127 -/
def laws_heldMessageS.f (l0 : List (S182)) (a1 : Int) : Option (Int) := if l0.length = 0 then some a1 else none
set_option maxHeartbeats 8000000 in
set_option maxRecDepth 100000 in
theorem laws_heldMessageS.calls (A0 : Option Addr) (c0 : Nat) (l0 : List (S182)) (a1 : Int) (r : Int) (w : World) (hr0 : Kd.C k182 w A0 l0.length l0) (hc0 : l0.length ≤ c0) (h : laws_heldMessageS.f l0 a1 = some r) :
  Calls Try.prog 127 #[.slice A0 l0.length c0, .int .i64 a1] w fun e w' => e = .returned (.int .i64 r) ∧ Drawn0 w w' := by
 unfold laws_heldMessageS.f at h
 by_cases hl : l0.length = 0
 ·rw [if_pos hl] at h
  obtain rfl := Option.some.inj h
  obtain rfl := List.length_eq_zero_iff.1 hl
  clear hr0 hc0 h hl
  go_enter Try.func127, Try.ntmps127
  go_wp2
  go_loopg [1, 5] 1 (fun kq v1 v5 w' => v1 = .int .i64 a1 ∧ v5 = .int .i64 0 ∧ Drawn0 w w')
  case atStart => exact ⟨rfl, rfl, by repeat (first | exact Drawn0.refl _ | apply Drawn0.step)⟩
  case round =>
   obtain ⟨rfl, rfl, ⟨m1, rfl⟩⟩ := hrel
   go_wp2
   go_ret
   exact ⟨by first | rfl | (simp; done) | (simp [*]; done), by repeat (first | exact Drawn0.refl _ | exact ⟨_, rfl⟩ | apply Drawn0.step)⟩
 ·rw [if_neg hl] at h
  cases h

/-! ### laws_heldCluster: function 53 -/
def laws_heldCluster.f (k : Nat) (l0_0 : List (S68)) (l0_1 : List (S182)) (a1 : Int) : Option (Int) := (laws_heldReplicaS.f k l0_0 a1).bind fun t272 => (if t272 < 0 then (none) else ((laws_heldMessageS.f l0_1 t272).bind fun t273 => (if t273 < 0 then (none) else (some t273))))
theorem laws_heldCluster.mono : ∀ a0 a1 a2 k, LeO (laws_heldCluster.f k a0 a1 a2) (laws_heldCluster.f (k + 1) a0 a1 a2) := by
 intro a0 a1 a2 k
 unfold laws_heldCluster.f
 repeat' first
   | (with_reducible exact laws_heldReplicaS.mono _ _ _)
   | (with_reducible exact LeO.refl _)
   | (with_reducible exact LeO.none _)
   | (with_reducible refine LeO.ite ?_ ?_)
   | (with_reducible refine LeO.bind ?_ (fun _ => ?_))
   | exact laws_heldReplicaS.mono _ _ _
   | exact LeO.none _
   | refine LeO.ite ?_ ?_
   | refine LeO.bind ?_ (fun _ => ?_)
set_option maxHeartbeats 8000000 in
set_option maxRecDepth 100000 in
theorem laws_heldCluster.calls (k : Nat) (A0_0 : Option Addr) (c0_0 : Nat) (l0_0 : List (S68)) (A0_1 : Option Addr) (c0_1 : Nat) (l0_1 : List (S182)) (a1 : Int) (r : Int) (w : World) (hr0_0 : Kd.C k68 w A0_0 l0_0.length l0_0) (hc0_0 : l0_0.length ≤ c0_0) (hr0_1 : Kd.C k182 w A0_1 l0_1.length l0_1) (hc0_1 : l0_1.length ≤ c0_1) (h : laws_heldCluster.f k l0_0 l0_1 a1 = some r) :
  Calls Try.prog 53 #[.agg #[.slice A0_0 l0_0.length c0_0, .slice A0_1 l0_1.length c0_1], .int .i64 a1] w fun e w' => e = .returned (.int .i64 r) ∧ Below w.heap.size w w' := by
 have hu77 := Try.underlying77
 have HR0_0 := Aside0.mk hr0_0
 have HC0_0 := Aside0.mk hc0_0
 clear hr0_0 hc0_0
 have HR0_1 := Aside0.mk hr0_1
 have HC0_1 := Aside0.mk hc0_1
 clear hr0_1 hc0_1
 have HB := Aside0.mk (Below.refl w.heap.size w)
 have H : ((laws_heldReplicaS.f k l0_0 a1).bind fun t272 => (if t272 < 0 then (none) else ((laws_heldMessageS.f l0_1 t272).bind fun t273 => (if t273 < 0 then (none) else (some t273))))) = some r := h
 clear h
 replace H := Option.bind_eq_some_iff.mp H
 obtain ⟨t272, A30, H⟩ := H
 replace H : (if t272 < 0 then (none) else ((laws_heldMessageS.f l0_1 t272).bind fun t273 => (if t273 < 0 then (none) else (some t273)))) = some r := H
 have A3 := Aside0.mk A30
 clear A30
 by_cases c4 : t272 < 0
 ·rw [if_pos c4] at H
  exact absurd H (by simp)
 ·rw [if_neg c4] at H
  have c4b0 : decide (t272 < 0) = false := decide_eq_false c4
  clear c4
  replace H := Option.bind_eq_some_iff.mp H
  obtain ⟨t273, A50, H⟩ := H
  replace H : (if t273 < 0 then (none) else (some t273)) = some r := H
  have A5 := Aside0.mk A50
  clear A50
  by_cases c6 : t273 < 0
  ·rw [if_pos c6] at H
   exact absurd H (by simp)
  ·rw [if_neg c6] at H
   have c6b0 : decide (t273 < 0) = false := decide_eq_false c6
   clear c6
   obtain rfl := Option.some.inj H
   go_enter Try.func53, Try.ntmps53
   go_wp2_with (first | ((with_reducible refine gate_dst (N := 2) rfl ?_); refine box_event ?hg (N := 2) ?hd (cs := #[.slice A0_0 l0_0.length c0_0, .slice A0_1 l0_1.length c0_1]) (t := 77) ?hr ?_; (case hd => rfl); (case hg => rfl); (case hr => first | (go_simp; done) | (go_simp; rfl)); intro gb271 hg w7 hbox hb; have n0_ := Aside0.mk (below_step (by repeat (first | (with_reducible first | exact HB.out | apply below_alloc | apply pw_below_drewN | apply below_drew1) | exact HB.out)) hb); have n1_ := Aside0.mk (hbox); have n2_ := Aside0.mk ((by rw [hg]; exact (below_size (by repeat (first | (with_reducible first | exact HB.out | apply below_alloc | apply pw_below_drewN | apply below_drew1) | exact HB.out))) : w.heap.size ≤ gb271)); have n3_ := Aside0.mk ((by rw [hg]; exact (below_size (by repeat (first | (with_reducible first | exact HB.out | apply below_alloc | apply pw_below_drewN | apply below_drew1) | exact HB.out))) : w.heap.size ≤ gb271)); clear HB; have HB := n0_; have BK271 := n1_; have GW271 := n2_; have GE271 := n3_; clear n0_ n1_ n2_ n3_; clear hb hbox hg; have hcz8_0 : w7.cell? ⟨gb271, 0, none⟩ = some (.slice A0_0 l0_0.length c0_0) := (blk_cell BK271.out 0).trans rfl; have hcz8_1 : w7.cell? ⟨gb271, 1, none⟩ = some (.slice A0_1 l0_1.length c0_1) := (blk_cell BK271.out 1).trans rfl; have hfz8_0 := blk_frozen BK271.out 0; have hfz8_1 := blk_frozen BK271.out 1) | ((with_reducible refine gate_callee (f := 126) rfl ?_); refine goesL_ (some 8) rfl rfl Try.func126 (by kernel_rfl) rfl #[.slice A0_0 l0_0.length c0_0, .int .i64 a1] rfl (by (try simp only [List.map_toArray, List.map_cons, List.map_nil]); first | done | rfl | (simp only [List.length_drop, List.length_take]; rfl)) ?_; (with_reducible refine (laws_heldReplicaS.calls k _ _ l0_0 a1 t272 _ ?side1 ?side2 A3.out).mono ?_); (case side1 => repeat (first | exact (Kd.C_below HR0_0.out HB.out) | (with_reducible refine Kd.C_alloc ?_ _) | (with_reducible refine Kd.C_drewN ?_ _) | (with_reducible refine Kd.C_drew ?_))); (case side2 => exact HC0_0.out); rintro e w9 ⟨rfl, hb⟩; refine ⟨_, rfl, ?_⟩; have n0_ := Aside0.mk (blk_below (g := gb271) (o := .cells #[.slice A0_0 l0_0.length c0_0, .slice A0_1 l0_1.length c0_1] 77 (0, 0)) (by (with_reducible repeat (first | refine blk_drewN ?_ _ | refine blk_drew ?_ | refine blk_alloc ?_ _)); exact BK271.out) hb); have n1_ := Aside0.mk (below_step (by repeat (first | (with_reducible first | exact HB.out | apply below_alloc | apply pw_below_drewN | apply below_drew1 | refine below_set ?_ GE271.out) | exact HB.out)) hb); clear BK271; clear HB; have BK271 := n0_; have HB := n1_; clear n0_ n1_; (try clear hb); (try clear hb2); (try clear hk); (try clear hi); have hcz10_0 : w9.cell? ⟨gb271, 0, none⟩ = some (.slice A0_0 l0_0.length c0_0) := (blk_cell BK271.out 0).trans rfl; have hcz10_1 : w9.cell? ⟨gb271, 1, none⟩ = some (.slice A0_1 l0_1.length c0_1) := (blk_cell BK271.out 1).trans rfl; have hfz10_0 := blk_frozen BK271.out 0; have hfz10_1 := blk_frozen BK271.out 1) | ((with_reducible refine gate_callee (f := 127) rfl ?_); refine goesL_ (some 14) rfl rfl Try.func127 (by kernel_rfl) rfl #[.slice A0_1 l0_1.length c0_1, .int .i64 t272] rfl (by (try simp only [List.map_toArray, List.map_cons, List.map_nil]); first | done | rfl | (simp only [List.length_drop, List.length_take]; rfl)) ?_; (with_reducible refine (laws_heldMessageS.calls _ _ l0_1 t272 t273 _ ?side1 ?side2 A5.out).mono ?_); (case side1 => repeat (first | exact (Kd.C_below HR0_1.out HB.out) | (with_reducible refine Kd.C_alloc ?_ _) | (with_reducible refine Kd.C_drewN ?_ _) | (with_reducible refine Kd.C_drew ?_))); (case side2 => exact HC0_1.out); rintro e w' ⟨rfl, ⟨nd, rfl⟩⟩; refine ⟨_, rfl, ?_⟩))
   go_ret
   exact ⟨by first | rfl | (simp [errW_none, errW_some] <;> rfl) | (simp [*, errW_none, errW_some] <;> rfl), by repeat (first | (with_reducible first | exact HB.out | apply below_alloc | apply pw_below_drewN | apply below_drew1) | exact HB.out)⟩

end Go.Proofs.Ytckgkhlgnblblaa.PFnExactNewCluster
