-- Written by a program of this session (wip/tools/pp.py over the kit's print).
import Derived.Test.YtckgkhlgnblblaaPFnExactNewClusterx0
import Derived.Test.YtckgkhlgnblblaaPFnExactNewClusterx1
import Derived.Test.YtckgkhlgnblblaaPFnExactNewClusterx2
namespace Go.Proofs.Ytckgkhlgnblblaa.PFnExactNewCluster
open Go.RowKit Go.Proofs.YtckgkhlgnblblaaW.PrintWords Go.Proofs.YtckgkhlgnblblaaW.PrintLast Go.Proofs.YtckgkhlgnblblaaW.PrintMore
attribute [local go_sem] max2_int min2_int max_two min_two max_three min_three max_four min_four
attribute [local go_sem high] str_gtr str_leq str_geq
set_option linter.unusedVariables false
set_option linter.unusedSimpArgs false

/-! ### laws_eqNewsS: function 112 -/
def laws_eqNewsS.l0 : Nat → List (S179) → List (S179) → Int → Option (Bool)
 | 0, _, _, _ => none
 | k + 1, x0, x1, x5 => if x5 < (x0.length : Int) then (if 0 ≤ x5 then (if x5 < (x1.length : Int) then ((laws_eqNews.f ((rd_T179 x0 x5).f0) ((rd_T179 x0 x5).f1) ((rd_T179 x1 x5).f0) ((rd_T179 x1 x5).f1)).bind fun t199 => (if t199 = true then (laws_eqNewsS.l0 k x0 x1 (wrap64 (x5 + 1))) else (none))) else (none)) else (none)) else (some true)
def laws_eqNewsS.f (k : Nat) (l0 : List (S179)) (l1 : List (S179)) : Option (Bool) := if (l0.length : Int) = (l1.length : Int) then (laws_eqNewsS.l0 k l0 l1 0) else (none)
theorem laws_eqNewsS.mono_l : ∀ k, (∀ y0 y1 y2, LeO (laws_eqNewsS.l0 k y0 y1 y2) (laws_eqNewsS.l0 (k + 1) y0 y1 y2))
 | 0 => fun _ _ _ r h => by simp [laws_eqNewsS.l0] at h
 | k + 1 => by
  have ih0 := laws_eqNewsS.mono_l k
  ·intro y0 y1 y2
   unfold laws_eqNewsS.l0
   repeat' first
   | (with_reducible exact ih0 _ _ _)
   | (with_reducible exact LeO.refl _)
   | (with_reducible exact LeO.none _)
   | (with_reducible refine LeO.ite ?_ ?_)
   | (with_reducible refine LeO.bind ?_ (fun _ => ?_))
   | exact ih0 _ _ _
   | exact LeO.none _
   | refine LeO.ite ?_ ?_
   | refine LeO.bind ?_ (fun _ => ?_)
theorem laws_eqNewsS.mono : ∀ a0 a1 k, LeO (laws_eqNewsS.f k a0 a1) (laws_eqNewsS.f (k + 1) a0 a1) := by
 intro a0 a1 k
 have ih0 := laws_eqNewsS.mono_l k
 unfold laws_eqNewsS.f
 repeat' first
   | (with_reducible exact ih0 _ _ _)
   | (with_reducible exact LeO.refl _)
   | (with_reducible exact LeO.none _)
   | (with_reducible refine LeO.ite ?_ ?_)
   | (with_reducible refine LeO.bind ?_ (fun _ => ?_))
   | exact ih0 _ _ _
   | exact LeO.none _
   | refine LeO.ite ?_ ?_
   | refine LeO.bind ?_ (fun _ => ?_)
def laws_eqNewsS.T6 : Bool × List (List Nat × List Nat) := (true, [([], []), ([], []), ([0, 1], [0, 1]), ([2], [2]), ([], []), ([], []), ([4, 5], [4, 5]), ([6], [6]), ([3, 7], [3, 7]), ([8], [8])])
def laws_eqNewsS.B6 : List Nat := [0, 0, 3, 7, 0, 0, 48, 112, 255, 511]
theorem laws_eqNewsS.tab6 : rtab .any (opsOf Try.f112 6) = laws_eqNewsS.T6 := by kernel_rfl
theorem laws_eqNewsS.bits6 : waitsOk laws_eqNewsS.T6.2 laws_eqNewsS.B6 = true := by kernel_rfl
set_option maxHeartbeats 8000000 in
set_option maxRecDepth 100000 in
theorem laws_eqNewsS.calls (k : Nat) (A0 : Option Addr) (c0 : Nat) (l0 : List (S179)) (A1 : Option Addr) (c1 : Nat) (l1 : List (S179)) (r : Bool) (w : World) (hr0 : Kd.C k179 w A0 l0.length l0) (hc0 : l0.length ≤ c0) (hr1 : Kd.C k179 w A1 l1.length l1) (hc1 : l1.length ≤ c1) (h : laws_eqNewsS.f k l0 l1 = some r) :
  Calls Try.prog 112 #[.slice A0 l0.length c0, .slice A1 l1.length c1] w fun e w' => e = .returned (.bool r) ∧ Below w.heap.size w w' := by
 have hu179 := Try.underlying179
 have HR0 := Aside0.mk hr0
 have HC0 := Aside0.mk hc0
 clear hr0 hc0
 have HR1 := Aside0.mk hr1
 have HC1 := Aside0.mk hc1
 clear hr1 hc1
 have HB := Aside0.mk (Below.refl w.heap.size w)
 have H : (if (l0.length : Int) = (l1.length : Int) then (laws_eqNewsS.l0 k l0 l1 0) else (none)) = some r := h
 clear h
 by_cases c3 : (l0.length : Int) = (l1.length : Int)
 ·rw [if_pos c3] at H
  have c3b0 : ((l0.length : Int) == (l1.length : Int)) = true := beq_iff_eq.mpr c3
  have c3b1 : ((l0.length : Int) != (l1.length : Int)) = false := bne_eq_false_iff_eq.mpr c3
  have c3b2 : (l0.length == l1.length) = true := by first | simpa using c3 | (simp at c3 ⊢; omega)
  clear c3
  have H' := Aside0.mk H
  clear H
  go_enter Try.func112, Try.ntmps112
  go_wp2
  go_loopg [5] k (fun kq v5 w' => ∃ (x5_1 : Int), v5 = .int .i64 x5_1 ∧ Aside0 (laws_eqNewsS.l0 kq l0 l1 x5_1 = some r) ∧ Aside0 (kq ≤ k) ∧ Aside0 (Below w.heap.size w w'))
  case atStart => exact ⟨(0), (by first | rfl | (simp; done) | (simp [*]; done)), H', ⟨Nat.le_refl _⟩, ⟨by repeat (first | (with_reducible first | exact HB.out | apply below_alloc | apply pw_below_drewN | apply below_drew1) | exact HB.out)⟩⟩
  case round =>
   clear H'
   try clear c1
   try clear p2
   try clear c3
   try clear c3b0
   try clear c3b1
   try clear c3b2
   obtain ⟨x5_1, rfl, HA, HK1, HB⟩ := hrel
   cases gk with
   | zero => exact absurd HA.out (by simp [laws_eqNewsS.l0])
   | succ k1 =>
    have H := HA.out
    clear HA
    simp only [laws_eqNewsS.l0] at H
    by_cases c4 : x5_1 < (l0.length : Int)
    ·rw [if_pos c4] at H
     have c4b0 : decide (x5_1 < (l0.length : Int)) = true := decide_eq_true c4
     clear c4
     by_cases c5 : 0 ≤ x5_1
     ·rw [if_pos c5] at H
      have c5b0 : decide (0 ≤ x5_1) = true := decide_eq_true c5
      clear c5
      by_cases c6 : x5_1 < (l1.length : Int)
      ·rw [if_pos c6] at H
       have c6b0 : decide (x5_1 < (l1.length : Int)) = true := decide_eq_true c6
       clear c6
       replace H := Option.bind_eq_some_iff.mp H
       obtain ⟨t199, A70, H⟩ := H
       replace H : (if t199 = true then (laws_eqNewsS.l0 k1 l0 l1 (wrap64 (x5_1 + 1))) else (none)) = some r := H
       have A7 := Aside0.mk A70
       clear A70
       by_cases c8 : t199 = true
       ·subst c8
        have H1 : (laws_eqNewsS.l0 k1 l0 l1 (wrap64 (x5_1 + 1))) = some r := by rw [if_pos rfl] at H; exact H
        clear H
        have H := H1
        clear H1
        have H' := Aside0.mk H
        clear H
        try go_wp2
        have n0_ := Aside0.mk (below_drew1 HB.out)
        clear HB
        have HB := n0_
        clear n0_
        have p197 : 0 ≤ (x5_1 : Int) := of_decide_eq_true (by first | (with_reducible assumption) | assumption)
        have q197 : x5_1 < (l0.length : Int) := of_decide_eq_true (by first | (with_reducible assumption) | assumption)
        obtain ⟨ad197, e197, hx197_0, hx197_1⟩ := at_T179 HR0.out x5_1 p197 q197
        have hw197_1 := hx197_1
        have hw197_0 := hx197_0
        cases e197
        replace hx197_0 := (HB.out.cell (World.block_lt_of_cell? w _ hx197_0)).trans hx197_0
        replace hx197_1 := (HB.out.cell (World.block_lt_of_cell? w _ hx197_1)).trans hx197_1
        replace p197 := eq_true p197
        replace q197 := eq_true q197
        have p198 : 0 ≤ (x5_1 : Int) := of_decide_eq_true (by first | (with_reducible assumption) | assumption)
        have q198 : x5_1 < (l1.length : Int) := of_decide_eq_true (by first | (with_reducible assumption) | assumption)
        obtain ⟨ad198, e198, hx198_0, hx198_1⟩ := at_T179 HR1.out x5_1 p198 q198
        have hw198_1 := hx198_1
        have hw198_0 := hx198_0
        cases e198
        replace hx198_0 := (HB.out.cell (World.block_lt_of_cell? w _ hx198_0)).trans hx198_0
        replace hx198_1 := (HB.out.cell (World.block_lt_of_cell? w _ hx198_1)).trans hx198_1
        replace p198 := eq_true p198
        replace q198 := eq_true q198
        refine start_ (n := 10) (S := fun w' => w'.cell? (ad197.add ((x5_1).toNat * 2)) = some (.int .i64 ((rd_T179 l0 x5_1).f0)) ∧ w'.cell? ⟨(ad197.add ((x5_1).toNat * 2)).block, (ad197.add ((x5_1).toNat * 2)).off + 1, none⟩ = some (.int .i64 ((rd_T179 l0 x5_1).f1)) ∧ w'.cell? (ad198.add ((x5_1).toNat * 2)) = some (.int .i64 ((rd_T179 l1 x5_1).f0)) ∧ w'.cell? ⟨(ad198.add ((x5_1).toNat * 2)).block, (ad198.add ((x5_1).toNat * 2)).off + 1, none⟩ = some (.int .i64 ((rd_T179 l1 x5_1).f1))) (ds := []) (bA 10 0) (by kernel_rfl) rfl rfl ⟨((HB.out.cell (World.block_lt_of_cell? w _ hw197_0)).trans hw197_0), ((HB.out.cell (World.block_lt_of_cell? w _ hw197_1)).trans hw197_1), ((HB.out.cell (World.block_lt_of_cell? w _ hw198_0)).trans hw198_0), ((HB.out.cell (World.block_lt_of_cell? w _ hw198_1)).trans hw198_1)⟩ (fun hHeld => ?_); refine with_tabW laws_eqNewsS.tab6 laws_eqNewsS.bits6 (fun HT_ HW_ => ?_)
        generalize wr.drew = w9 at HB hx197_0 hx197_1 hx198_0 hx198_1 hHeld ⊢
        refine pv (i := 0) (N := some 17) (bA 10 1) rfl rfl (any_of HT_.out (by kernel_rfl)) ?_
        refine pv (i := 1) (N := some 18) (bA 10 3) rfl rfl (any_of HT_.out (by kernel_rfl)) ?_
        refine pv (i := 2) (N := some 19) (bA 10 7) rfl rfl (any_of HT_.out (by kernel_rfl)) ?_
        refine pv (i := 4) (N := some 21) (bA 10 23) rfl rfl (any_of HT_.out (by kernel_rfl)) ?_
        refine pv (i := 5) (N := some 22) (bA 10 55) rfl rfl (any_of HT_.out (by kernel_rfl)) ?_
        refine pv (i := 6) (N := some 23) (bA 10 119) rfl rfl (any_of HT_.out (by kernel_rfl)) ?_
        refine take_ (i := 3) (N := some 20) (v := ?_) (a' := ?_) (bA 10 127) rfl rfl (take_ofW HT_.out HW_.out (by kernel_rfl)) (fun _ _ _ h => h) (Or.inl ⟨by rfl, ?_⟩) hHeld ?_ ?_
        rotate_left
        ·rintro w' ⟨s0, s1, s2, s3⟩
         go_simp
         with_reducible rfl
        rotate_left
        ·simp only [sp_]
         rfl
        refine take_ (i := 7) (N := some 24) (v := ?_) (a' := ?_) (bA 10 255) rfl rfl (take_ofW HT_.out HW_.out (by kernel_rfl)) (fun _ _ _ h => h) (Or.inl ⟨by rfl, ?_⟩) hHeld ?_ ?_
        rotate_left
        ·rintro w' ⟨s0, s1, s2, s3⟩
         go_simp
         with_reducible rfl
        rotate_left
        ·simp only [sp_]
         rfl
        refine one_ (i := 8) (N := some 25) (bA 10 511) rfl rfl (one_of HT_.out (by kernel_rfl)) (by decide) (fun K hK => ?_)
        refine goes_ Try.func157 (by kernel_rfl) rfl #[.agg #[.int .i64 ((rd_T179 l0 x5_1).f0), .int .i64 ((rd_T179 l0 x5_1).f1)], .agg #[.int .i64 ((rd_T179 l1 x5_1).f0), .int .i64 ((rd_T179 l1 x5_1).f1)]] (by rfl) rfl rfl (by (try simp only [List.map_toArray, List.map_cons, List.map_nil]); first | done | rfl | (simp only [List.length_drop, List.length_take]; rfl)) ?_
        with_reducible refine (laws_eqNews.calls ((rd_T179 l0 x5_1).f0) ((rd_T179 l0 x5_1).f1) ((rd_T179 l1 x5_1).f0) ((rd_T179 l1 x5_1).f1) true _ A7.out).mono ?_
        rintro e w10 ⟨rfl, hb⟩
        refine ⟨_, rfl, ?_⟩
        have n0_ := Aside0.mk (below_step (by repeat (first | (with_reducible first | exact HB.out | apply below_alloc | apply pw_below_drewN | apply below_drew1) | exact HB.out)) hb)
        clear HB
        have HB := n0_
        clear n0_
        (try clear hb)
        (try clear hb2)
        (try clear hk)
        (try clear hi)
        refine hK.out _ _ ⟨((HB.out.cell (World.block_lt_of_cell? w _ hw197_0)).trans hw197_0), ((HB.out.cell (World.block_lt_of_cell? w _ hw197_1)).trans hw197_1), ((HB.out.cell (World.block_lt_of_cell? w _ hw198_0)).trans hw198_0), ((HB.out.cell (World.block_lt_of_cell? w _ hw198_1)).trans hw198_1)⟩ (fun hHeld => ?_)
        clear hK K
        refine norm_ (a' := ?_) ?_ ?_
        rotate_left
        ·show Act.put _ (some 25) _ = _
         simp only [sp_]
         rfl
        refine pv (i := 9) (N := some 26) (bA 10 1023) rfl rfl (any_of HT_.out (by kernel_rfl)) ?_
        refine done_ (done_of HT_.out (by kernel_rfl)) ?_
        try go_wp2
        go_roundg k1
        case measure => have := HK1.out; omega
        case rel => exact ⟨(wrap64 (x5_1 + 1)), (by first | rfl | (simp; done) | (simp [*]; done)), H', ⟨by have := HK1.out; omega⟩, ⟨by repeat (first | (with_reducible first | exact HB.out | apply below_alloc | apply pw_below_drewN | apply below_drew1) | exact HB.out)⟩⟩
       ·replace c8 := Bool.eq_false_iff.mpr c8
        subst c8
        have H1 : (none) = some r := by rw [if_neg (show ¬ (false = true) by decide)] at H; exact H
        clear H
        have H := H1
        clear H1
        exact absurd H (by simp)
      ·rw [if_neg c6] at H
       exact absurd H (by simp)
     ·rw [if_neg c5] at H
      exact absurd H (by simp)
    ·rw [if_neg c4] at H
     have c4b0 : decide (x5_1 < (l0.length : Int)) = false := decide_eq_false c4
     clear c4
     obtain rfl := Option.some.inj H
     go_wp2
     go_ret
     exact ⟨by first | rfl | (simp [errW_none, errW_some] <;> rfl) | (simp [*, errW_none, errW_some] <;> rfl), by repeat (first | (with_reducible first | exact HB.out | apply below_alloc | apply pw_below_drewN | apply below_drew1) | exact HB.out)⟩
 ·rw [if_neg c3] at H
  exact absurd H (by simp)

/-! ### laws_eqReplica: function 46 -/
def laws_eqReplica.f (k : Nat) (a0_0 : Int) (a0_1 : Int) (a0_2 : Int) (a0_3 : Int) (a0_4 : Int) (a0_5 : Int) (a0_6 : Int) (a0_7 : Int) (l0_8 : List Int) (l0_9 : List Int) (l0_10 : List (S42)) (l0_11 : List (S176)) (l0_12 : List (S179)) (l0_13 : List Int) (a1_0 : Int) (a1_1 : Int) (a1_2 : Int) (a1_3 : Int) (a1_4 : Int) (a1_5 : Int) (a1_6 : Int) (a1_7 : Int) (l1_8 : List Int) (l1_9 : List Int) (l1_10 : List (S42)) (l1_11 : List (S176)) (l1_12 : List (S179)) (l1_13 : List Int) : Option (Bool) := if a0_0 = a1_0 then (if a0_1 = a1_1 then (if a0_2 = a1_2 then (if a0_3 = a1_3 then (if a0_4 = a1_4 then (if a0_5 = a1_5 then ((laws_eqProof.f k a0_6 a0_7 l0_8 l0_9 a1_6 a1_7 l1_8 l1_9).bind fun t202 => (if t202 = true then ((laws_eqBlockS.f k l0_10 l1_10).bind fun t203 => (if t203 = true then ((laws_eqVoteS.f k l0_11 l1_11).bind fun t204 => (if t204 = true then ((laws_eqNewsS.f k l0_12 l1_12).bind fun t205 => (if t205 = true then ((laws_eqInt64S.f k l0_13 l1_13).bind fun t206 => (if t206 = true then (some true) else (none))) else (none))) else (none))) else (none))) else (none))) else (none)) else (none)) else (none)) else (none)) else (none)) else (none)
theorem laws_eqReplica.mono : ∀ a0 a1 a2 a3 a4 a5 a6 a7 a8 a9 a10 a11 a12 a13 a14 a15 a16 a17 a18 a19 a20 a21 a22 a23 a24 a25 a26 a27 k, LeO (laws_eqReplica.f k a0 a1 a2 a3 a4 a5 a6 a7 a8 a9 a10 a11 a12 a13 a14 a15 a16 a17 a18 a19 a20 a21 a22 a23 a24 a25 a26 a27) (laws_eqReplica.f (k + 1) a0 a1 a2 a3 a4 a5 a6 a7 a8 a9 a10 a11 a12 a13 a14 a15 a16 a17 a18 a19 a20 a21 a22 a23 a24 a25 a26 a27) := by
 intro a0 a1 a2 a3 a4 a5 a6 a7 a8 a9 a10 a11 a12 a13 a14 a15 a16 a17 a18 a19 a20 a21 a22 a23 a24 a25 a26 a27 k
 unfold laws_eqReplica.f
 repeat' first
   | (with_reducible exact laws_eqBlockS.mono _ _ _)
   | (with_reducible exact laws_eqInt64S.mono _ _ _)
   | (with_reducible exact laws_eqNewsS.mono _ _ _)
   | (with_reducible exact laws_eqProof.mono _ _ _ _ _ _ _ _ _)
   | (with_reducible exact laws_eqVoteS.mono _ _ _)
   | (with_reducible exact LeO.refl _)
   | (with_reducible exact LeO.none _)
   | (with_reducible refine LeO.ite ?_ ?_)
   | (with_reducible refine LeO.bind ?_ (fun _ => ?_))
   | exact laws_eqBlockS.mono _ _ _
   | exact laws_eqInt64S.mono _ _ _
   | exact laws_eqNewsS.mono _ _ _
   | exact laws_eqProof.mono _ _ _ _ _ _ _ _ _
   | exact laws_eqVoteS.mono _ _ _
   | exact LeO.none _
   | refine LeO.ite ?_ ?_
   | refine LeO.bind ?_ (fun _ => ?_)
set_option maxHeartbeats 8000000 in
set_option maxRecDepth 100000 in
theorem laws_eqReplica.calls (k : Nat) (a0_0 : Int) (a0_1 : Int) (a0_2 : Int) (a0_3 : Int) (a0_4 : Int) (a0_5 : Int) (a0_6 : Int) (a0_7 : Int) (A0_8 : Option Addr) (c0_8 : Nat) (l0_8 : List Int) (A0_9 : Option Addr) (c0_9 : Nat) (l0_9 : List Int) (A0_10 : Option Addr) (c0_10 : Nat) (l0_10 : List (S42)) (A0_11 : Option Addr) (c0_11 : Nat) (l0_11 : List (S176)) (A0_12 : Option Addr) (c0_12 : Nat) (l0_12 : List (S179)) (A0_13 : Option Addr) (c0_13 : Nat) (l0_13 : List Int) (a1_0 : Int) (a1_1 : Int) (a1_2 : Int) (a1_3 : Int) (a1_4 : Int) (a1_5 : Int) (a1_6 : Int) (a1_7 : Int) (A1_8 : Option Addr) (c1_8 : Nat) (l1_8 : List Int) (A1_9 : Option Addr) (c1_9 : Nat) (l1_9 : List Int) (A1_10 : Option Addr) (c1_10 : Nat) (l1_10 : List (S42)) (A1_11 : Option Addr) (c1_11 : Nat) (l1_11 : List (S176)) (A1_12 : Option Addr) (c1_12 : Nat) (l1_12 : List (S179)) (A1_13 : Option Addr) (c1_13 : Nat) (l1_13 : List Int) (r : Bool) (w : World) (hr0_8 : Kd.C (Kd.int .i64) w A0_8 l0_8.length l0_8) (hc0_8 : l0_8.length ≤ c0_8) (hr0_9 : Kd.C (Kd.int .i64) w A0_9 l0_9.length l0_9) (hc0_9 : l0_9.length ≤ c0_9) (hr0_10 : Kd.C k42 w A0_10 l0_10.length l0_10) (hc0_10 : l0_10.length ≤ c0_10) (hr0_11 : Kd.C k176 w A0_11 l0_11.length l0_11) (hc0_11 : l0_11.length ≤ c0_11) (hr0_12 : Kd.C k179 w A0_12 l0_12.length l0_12) (hc0_12 : l0_12.length ≤ c0_12) (hr0_13 : Kd.C (Kd.int .i64) w A0_13 l0_13.length l0_13) (hc0_13 : l0_13.length ≤ c0_13) (hr1_8 : Kd.C (Kd.int .i64) w A1_8 l1_8.length l1_8) (hc1_8 : l1_8.length ≤ c1_8) (hr1_9 : Kd.C (Kd.int .i64) w A1_9 l1_9.length l1_9) (hc1_9 : l1_9.length ≤ c1_9) (hr1_10 : Kd.C k42 w A1_10 l1_10.length l1_10) (hc1_10 : l1_10.length ≤ c1_10) (hr1_11 : Kd.C k176 w A1_11 l1_11.length l1_11) (hc1_11 : l1_11.length ≤ c1_11) (hr1_12 : Kd.C k179 w A1_12 l1_12.length l1_12) (hc1_12 : l1_12.length ≤ c1_12) (hr1_13 : Kd.C (Kd.int .i64) w A1_13 l1_13.length l1_13) (hc1_13 : l1_13.length ≤ c1_13) (h : laws_eqReplica.f k a0_0 a0_1 a0_2 a0_3 a0_4 a0_5 a0_6 a0_7 l0_8 l0_9 l0_10 l0_11 l0_12 l0_13 a1_0 a1_1 a1_2 a1_3 a1_4 a1_5 a1_6 a1_7 l1_8 l1_9 l1_10 l1_11 l1_12 l1_13 = some r) :
  Calls Try.prog 46 #[.agg #[.int .i64 a0_0, .int .i64 a0_1, .int .i64 a0_2, .int .i64 a0_3, .int .i64 a0_4, .int .i64 a0_5, .int .i64 a0_6, .int .i64 a0_7, .slice A0_8 l0_8.length c0_8, .slice A0_9 l0_9.length c0_9, .slice A0_10 l0_10.length c0_10, .slice A0_11 l0_11.length c0_11, .slice A0_12 l0_12.length c0_12, .slice A0_13 l0_13.length c0_13], .agg #[.int .i64 a1_0, .int .i64 a1_1, .int .i64 a1_2, .int .i64 a1_3, .int .i64 a1_4, .int .i64 a1_5, .int .i64 a1_6, .int .i64 a1_7, .slice A1_8 l1_8.length c1_8, .slice A1_9 l1_9.length c1_9, .slice A1_10 l1_10.length c1_10, .slice A1_11 l1_11.length c1_11, .slice A1_12 l1_12.length c1_12, .slice A1_13 l1_13.length c1_13]] w fun e w' => e = .returned (.bool r) ∧ Below w.heap.size w w' := by
 have hu68 := Try.underlying68
 have hu40 := Try.underlying40
 have HR0_8 := Aside0.mk hr0_8
 have HC0_8 := Aside0.mk hc0_8
 clear hr0_8 hc0_8
 have HR0_9 := Aside0.mk hr0_9
 have HC0_9 := Aside0.mk hc0_9
 clear hr0_9 hc0_9
 have HR0_10 := Aside0.mk hr0_10
 have HC0_10 := Aside0.mk hc0_10
 clear hr0_10 hc0_10
 have HR0_11 := Aside0.mk hr0_11
 have HC0_11 := Aside0.mk hc0_11
 clear hr0_11 hc0_11
 have HR0_12 := Aside0.mk hr0_12
 have HC0_12 := Aside0.mk hc0_12
 clear hr0_12 hc0_12
 have HR0_13 := Aside0.mk hr0_13
 have HC0_13 := Aside0.mk hc0_13
 clear hr0_13 hc0_13
 have HR1_8 := Aside0.mk hr1_8
 have HC1_8 := Aside0.mk hc1_8
 clear hr1_8 hc1_8
 have HR1_9 := Aside0.mk hr1_9
 have HC1_9 := Aside0.mk hc1_9
 clear hr1_9 hc1_9
 have HR1_10 := Aside0.mk hr1_10
 have HC1_10 := Aside0.mk hc1_10
 clear hr1_10 hc1_10
 have HR1_11 := Aside0.mk hr1_11
 have HC1_11 := Aside0.mk hc1_11
 clear hr1_11 hc1_11
 have HR1_12 := Aside0.mk hr1_12
 have HC1_12 := Aside0.mk hc1_12
 clear hr1_12 hc1_12
 have HR1_13 := Aside0.mk hr1_13
 have HC1_13 := Aside0.mk hc1_13
 clear hr1_13 hc1_13
 have HB := Aside0.mk (Below.refl w.heap.size w)
 have H : (if a0_0 = a1_0 then (if a0_1 = a1_1 then (if a0_2 = a1_2 then (if a0_3 = a1_3 then (if a0_4 = a1_4 then (if a0_5 = a1_5 then ((laws_eqProof.f k a0_6 a0_7 l0_8 l0_9 a1_6 a1_7 l1_8 l1_9).bind fun t202 => (if t202 = true then ((laws_eqBlockS.f k l0_10 l1_10).bind fun t203 => (if t203 = true then ((laws_eqVoteS.f k l0_11 l1_11).bind fun t204 => (if t204 = true then ((laws_eqNewsS.f k l0_12 l1_12).bind fun t205 => (if t205 = true then ((laws_eqInt64S.f k l0_13 l1_13).bind fun t206 => (if t206 = true then (some true) else (none))) else (none))) else (none))) else (none))) else (none))) else (none)) else (none)) else (none)) else (none)) else (none)) else (none)) = some r := h
 clear h
 by_cases c3 : a0_0 = a1_0
 ·rw [if_pos c3] at H
  have c3b0 : (a0_0 == a1_0) = true := beq_iff_eq.mpr c3
  have c3b1 : (a0_0 != a1_0) = false := bne_eq_false_iff_eq.mpr c3
  clear c3
  by_cases c4 : a0_1 = a1_1
  ·rw [if_pos c4] at H
   have c4b0 : (a0_1 == a1_1) = true := beq_iff_eq.mpr c4
   have c4b1 : (a0_1 != a1_1) = false := bne_eq_false_iff_eq.mpr c4
   clear c4
   by_cases c5 : a0_2 = a1_2
   ·rw [if_pos c5] at H
    have c5b0 : (a0_2 == a1_2) = true := beq_iff_eq.mpr c5
    have c5b1 : (a0_2 != a1_2) = false := bne_eq_false_iff_eq.mpr c5
    clear c5
    by_cases c6 : a0_3 = a1_3
    ·rw [if_pos c6] at H
     have c6b0 : (a0_3 == a1_3) = true := beq_iff_eq.mpr c6
     have c6b1 : (a0_3 != a1_3) = false := bne_eq_false_iff_eq.mpr c6
     clear c6
     by_cases c7 : a0_4 = a1_4
     ·rw [if_pos c7] at H
      have c7b0 : (a0_4 == a1_4) = true := beq_iff_eq.mpr c7
      have c7b1 : (a0_4 != a1_4) = false := bne_eq_false_iff_eq.mpr c7
      clear c7
      by_cases c8 : a0_5 = a1_5
      ·rw [if_pos c8] at H
       have c8b0 : (a0_5 == a1_5) = true := beq_iff_eq.mpr c8
       have c8b1 : (a0_5 != a1_5) = false := bne_eq_false_iff_eq.mpr c8
       clear c8
       replace H := Option.bind_eq_some_iff.mp H
       obtain ⟨t202, A90, H⟩ := H
       replace H : (if t202 = true then ((laws_eqBlockS.f k l0_10 l1_10).bind fun t203 => (if t203 = true then ((laws_eqVoteS.f k l0_11 l1_11).bind fun t204 => (if t204 = true then ((laws_eqNewsS.f k l0_12 l1_12).bind fun t205 => (if t205 = true then ((laws_eqInt64S.f k l0_13 l1_13).bind fun t206 => (if t206 = true then (some true) else (none))) else (none))) else (none))) else (none))) else (none)) = some r := H
       have A9 := Aside0.mk A90
       clear A90
       by_cases c10 : t202 = true
       ·subst c10
        have H1 : ((laws_eqBlockS.f k l0_10 l1_10).bind fun t203 => (if t203 = true then ((laws_eqVoteS.f k l0_11 l1_11).bind fun t204 => (if t204 = true then ((laws_eqNewsS.f k l0_12 l1_12).bind fun t205 => (if t205 = true then ((laws_eqInt64S.f k l0_13 l1_13).bind fun t206 => (if t206 = true then (some true) else (none))) else (none))) else (none))) else (none))) = some r := by rw [if_pos rfl] at H; exact H
        clear H
        have H := H1
        clear H1
        replace H := Option.bind_eq_some_iff.mp H
        obtain ⟨t203, A110, H⟩ := H
        replace H : (if t203 = true then ((laws_eqVoteS.f k l0_11 l1_11).bind fun t204 => (if t204 = true then ((laws_eqNewsS.f k l0_12 l1_12).bind fun t205 => (if t205 = true then ((laws_eqInt64S.f k l0_13 l1_13).bind fun t206 => (if t206 = true then (some true) else (none))) else (none))) else (none))) else (none)) = some r := H
        have A11 := Aside0.mk A110
        clear A110
        by_cases c12 : t203 = true
        ·subst c12
         have H1 : ((laws_eqVoteS.f k l0_11 l1_11).bind fun t204 => (if t204 = true then ((laws_eqNewsS.f k l0_12 l1_12).bind fun t205 => (if t205 = true then ((laws_eqInt64S.f k l0_13 l1_13).bind fun t206 => (if t206 = true then (some true) else (none))) else (none))) else (none))) = some r := by rw [if_pos rfl] at H; exact H
         clear H
         have H := H1
         clear H1
         replace H := Option.bind_eq_some_iff.mp H
         obtain ⟨t204, A130, H⟩ := H
         replace H : (if t204 = true then ((laws_eqNewsS.f k l0_12 l1_12).bind fun t205 => (if t205 = true then ((laws_eqInt64S.f k l0_13 l1_13).bind fun t206 => (if t206 = true then (some true) else (none))) else (none))) else (none)) = some r := H
         have A13 := Aside0.mk A130
         clear A130
         by_cases c14 : t204 = true
         ·subst c14
          have H1 : ((laws_eqNewsS.f k l0_12 l1_12).bind fun t205 => (if t205 = true then ((laws_eqInt64S.f k l0_13 l1_13).bind fun t206 => (if t206 = true then (some true) else (none))) else (none))) = some r := by rw [if_pos rfl] at H; exact H
          clear H
          have H := H1
          clear H1
          replace H := Option.bind_eq_some_iff.mp H
          obtain ⟨t205, A150, H⟩ := H
          replace H : (if t205 = true then ((laws_eqInt64S.f k l0_13 l1_13).bind fun t206 => (if t206 = true then (some true) else (none))) else (none)) = some r := H
          have A15 := Aside0.mk A150
          clear A150
          by_cases c16 : t205 = true
          ·subst c16
           have H1 : ((laws_eqInt64S.f k l0_13 l1_13).bind fun t206 => (if t206 = true then (some true) else (none))) = some r := by rw [if_pos rfl] at H; exact H
           clear H
           have H := H1
           clear H1
           replace H := Option.bind_eq_some_iff.mp H
           obtain ⟨t206, A170, H⟩ := H
           replace H : (if t206 = true then (some true) else (none)) = some r := H
           have A17 := Aside0.mk A170
           clear A170
           by_cases c18 : t206 = true
           ·subst c18
            have H1 : (some true) = some r := by rw [if_pos rfl] at H; exact H
            clear H
            have H := H1
            clear H1
            obtain rfl := Option.some.inj H
            go_enter Try.func46, Try.ntmps46
            go_wp2_with (first | ((with_reducible refine gate_dst (N := 2) rfl ?_); refine box_event ?hg (N := 2) ?hd (cs := #[.int .i64 a0_0, .int .i64 a0_1, .int .i64 a0_2, .int .i64 a0_3, .int .i64 a0_4, .int .i64 a0_5, .int .i64 a0_6, .int .i64 a0_7, .slice A0_8 l0_8.length c0_8, .slice A0_9 l0_9.length c0_9, .slice A0_10 l0_10.length c0_10, .slice A0_11 l0_11.length c0_11, .slice A0_12 l0_12.length c0_12, .slice A0_13 l0_13.length c0_13]) (t := 68) ?hr ?_; (case hd => rfl); (case hg => rfl); (case hr => first | (go_simp; done) | (go_simp; rfl)); intro gb200 hg w19 hbox hb; have n0_ := Aside0.mk (below_step (by repeat (first | (with_reducible first | exact HB.out | apply below_alloc | apply pw_below_drewN | apply below_drew1) | exact HB.out)) hb); have n1_ := Aside0.mk (hbox); have n2_ := Aside0.mk ((by rw [hg]; exact (below_size (by repeat (first | (with_reducible first | exact HB.out | apply below_alloc | apply pw_below_drewN | apply below_drew1) | exact HB.out))) : w.heap.size ≤ gb200)); have n3_ := Aside0.mk ((by rw [hg]; exact (below_size (by repeat (first | (with_reducible first | exact HB.out | apply below_alloc | apply pw_below_drewN | apply below_drew1) | exact HB.out))) : w.heap.size ≤ gb200)); clear HB; have HB := n0_; have BK200 := n1_; have GW200 := n2_; have GE200 := n3_; clear n0_ n1_ n2_ n3_; clear hb hbox hg) | ((with_reducible refine gate_dst (N := 3) rfl ?_); refine box_event ?hg (N := 3) ?hd (cs := #[.int .i64 a1_0, .int .i64 a1_1, .int .i64 a1_2, .int .i64 a1_3, .int .i64 a1_4, .int .i64 a1_5, .int .i64 a1_6, .int .i64 a1_7, .slice A1_8 l1_8.length c1_8, .slice A1_9 l1_9.length c1_9, .slice A1_10 l1_10.length c1_10, .slice A1_11 l1_11.length c1_11, .slice A1_12 l1_12.length c1_12, .slice A1_13 l1_13.length c1_13]) (t := 68) ?hr ?_; (case hd => rfl); (case hg => rfl); (case hr => first | (go_simp; done) | (go_simp; rfl)); intro gb201 hg w20 hbox hb; have n0_ := Aside0.mk (blk_below (g := gb200) (o := .cells #[.int .i64 a0_0, .int .i64 a0_1, .int .i64 a0_2, .int .i64 a0_3, .int .i64 a0_4, .int .i64 a0_5, .int .i64 a0_6, .int .i64 a0_7, .slice A0_8 l0_8.length c0_8, .slice A0_9 l0_9.length c0_9, .slice A0_10 l0_10.length c0_10, .slice A0_11 l0_11.length c0_11, .slice A0_12 l0_12.length c0_12, .slice A0_13 l0_13.length c0_13] 68 (0, 0)) (by (with_reducible repeat (first | refine blk_drewN ?_ _ | refine blk_drew ?_ | refine blk_alloc ?_ _)); exact BK200.out) hb); have n1_ := Aside0.mk (below_step (by repeat (first | (with_reducible first | exact HB.out | apply below_alloc | apply pw_below_drewN | apply below_drew1 | refine below_set ?_ GE200.out) | exact HB.out)) hb); have n2_ := Aside0.mk (hbox); have n3_ := Aside0.mk ((by rw [hg]; exact (below_size (by repeat (first | (with_reducible first | exact HB.out | apply below_alloc | apply pw_below_drewN | apply below_drew1 | refine below_set ?_ GE200.out) | exact HB.out))) : w.heap.size ≤ gb201)); have n4_ := Aside0.mk ((by rw [hg]; exact (below_size (by repeat (first | (with_reducible first | exact HB.out | apply below_alloc | apply pw_below_drewN | apply below_drew1 | refine below_set ?_ GE200.out) | exact HB.out))) : w.heap.size ≤ gb201)); have n5_ := Aside0.mk ((by rw [hg]; exact Nat.ne_of_lt (blk_lt (g := gb200) (o := .cells #[.int .i64 a0_0, .int .i64 a0_1, .int .i64 a0_2, .int .i64 a0_3, .int .i64 a0_4, .int .i64 a0_5, .int .i64 a0_6, .int .i64 a0_7, .slice A0_8 l0_8.length c0_8, .slice A0_9 l0_9.length c0_9, .slice A0_10 l0_10.length c0_10, .slice A0_11 l0_11.length c0_11, .slice A0_12 l0_12.length c0_12, .slice A0_13 l0_13.length c0_13] 68 (0, 0)) (by (with_reducible repeat (first | refine blk_drewN ?_ _ | refine blk_drew ?_ | refine blk_alloc ?_ _)); exact BK200.out)) : gb200 ≠ gb201)); have n6_ := Aside0.mk ((by rw [hg]; exact Nat.ne_of_gt (blk_lt (g := gb200) (o := .cells #[.int .i64 a0_0, .int .i64 a0_1, .int .i64 a0_2, .int .i64 a0_3, .int .i64 a0_4, .int .i64 a0_5, .int .i64 a0_6, .int .i64 a0_7, .slice A0_8 l0_8.length c0_8, .slice A0_9 l0_9.length c0_9, .slice A0_10 l0_10.length c0_10, .slice A0_11 l0_11.length c0_11, .slice A0_12 l0_12.length c0_12, .slice A0_13 l0_13.length c0_13] 68 (0, 0)) (by (with_reducible repeat (first | refine blk_drewN ?_ _ | refine blk_drew ?_ | refine blk_alloc ?_ _)); exact BK200.out)) : gb201 ≠ gb200)); clear BK200; clear HB; have BK200 := n0_; have HB := n1_; have BK201 := n2_; have GW201 := n3_; have GE201 := n4_; have NB200_201 := n5_; have NB201_200 := n6_; clear n0_ n1_ n2_ n3_ n4_ n5_ n6_; clear hb hbox hg; have hnb21 := NB200_201.out; have hnc21 := NB201_200.out; have hcz22_0 : w20.cell? ⟨gb200, 0, none⟩ = some (.int .i64 a0_0) := (blk_cell BK200.out 0).trans rfl; have hcz22_1 : w20.cell? ⟨gb200, 1, none⟩ = some (.int .i64 a0_1) := (blk_cell BK200.out 1).trans rfl; have hcz22_2 : w20.cell? ⟨gb200, 2, none⟩ = some (.int .i64 a0_2) := (blk_cell BK200.out 2).trans rfl; have hcz22_3 : w20.cell? ⟨gb200, 3, none⟩ = some (.int .i64 a0_3) := (blk_cell BK200.out 3).trans rfl; have hcz22_4 : w20.cell? ⟨gb200, 4, none⟩ = some (.int .i64 a0_4) := (blk_cell BK200.out 4).trans rfl; have hcz22_5 : w20.cell? ⟨gb200, 5, none⟩ = some (.int .i64 a0_5) := (blk_cell BK200.out 5).trans rfl; have hcz22_6 : w20.cell? ⟨gb200, 6, none⟩ = some (.int .i64 a0_6) := (blk_cell BK200.out 6).trans rfl; have hcz22_7 : w20.cell? ⟨gb200, 7, none⟩ = some (.int .i64 a0_7) := (blk_cell BK200.out 7).trans rfl; have hcz22_8 : w20.cell? ⟨gb200, 8, none⟩ = some (.slice A0_8 l0_8.length c0_8) := (blk_cell BK200.out 8).trans rfl; have hcz22_9 : w20.cell? ⟨gb200, 9, none⟩ = some (.slice A0_9 l0_9.length c0_9) := (blk_cell BK200.out 9).trans rfl; have hcz22_10 : w20.cell? ⟨gb200, 10, none⟩ = some (.slice A0_10 l0_10.length c0_10) := (blk_cell BK200.out 10).trans rfl; have hcz22_11 : w20.cell? ⟨gb200, 11, none⟩ = some (.slice A0_11 l0_11.length c0_11) := (blk_cell BK200.out 11).trans rfl; have hcz22_12 : w20.cell? ⟨gb200, 12, none⟩ = some (.slice A0_12 l0_12.length c0_12) := (blk_cell BK200.out 12).trans rfl; have hcz22_13 : w20.cell? ⟨gb200, 13, none⟩ = some (.slice A0_13 l0_13.length c0_13) := (blk_cell BK200.out 13).trans rfl; have hfz22_0 := blk_frozen BK200.out 0; have hfz22_1 := blk_frozen BK200.out 1; have hfz22_2 := blk_frozen BK200.out 2; have hfz22_3 := blk_frozen BK200.out 3; have hfz22_4 := blk_frozen BK200.out 4; have hfz22_5 := blk_frozen BK200.out 5; have hfz22_6 := blk_frozen BK200.out 6; have hfz22_7 := blk_frozen BK200.out 7; have hfz22_8 := blk_frozen BK200.out 8; have hfz22_9 := blk_frozen BK200.out 9; have hfz22_10 := blk_frozen BK200.out 10; have hfz22_11 := blk_frozen BK200.out 11; have hfz22_12 := blk_frozen BK200.out 12; have hfz22_13 := blk_frozen BK200.out 13; have hcz23_0 : w20.cell? ⟨gb201, 0, none⟩ = some (.int .i64 a1_0) := (blk_cell BK201.out 0).trans rfl; have hcz23_1 : w20.cell? ⟨gb201, 1, none⟩ = some (.int .i64 a1_1) := (blk_cell BK201.out 1).trans rfl; have hcz23_2 : w20.cell? ⟨gb201, 2, none⟩ = some (.int .i64 a1_2) := (blk_cell BK201.out 2).trans rfl; have hcz23_3 : w20.cell? ⟨gb201, 3, none⟩ = some (.int .i64 a1_3) := (blk_cell BK201.out 3).trans rfl; have hcz23_4 : w20.cell? ⟨gb201, 4, none⟩ = some (.int .i64 a1_4) := (blk_cell BK201.out 4).trans rfl; have hcz23_5 : w20.cell? ⟨gb201, 5, none⟩ = some (.int .i64 a1_5) := (blk_cell BK201.out 5).trans rfl; have hcz23_6 : w20.cell? ⟨gb201, 6, none⟩ = some (.int .i64 a1_6) := (blk_cell BK201.out 6).trans rfl; have hcz23_7 : w20.cell? ⟨gb201, 7, none⟩ = some (.int .i64 a1_7) := (blk_cell BK201.out 7).trans rfl; have hcz23_8 : w20.cell? ⟨gb201, 8, none⟩ = some (.slice A1_8 l1_8.length c1_8) := (blk_cell BK201.out 8).trans rfl; have hcz23_9 : w20.cell? ⟨gb201, 9, none⟩ = some (.slice A1_9 l1_9.length c1_9) := (blk_cell BK201.out 9).trans rfl; have hcz23_10 : w20.cell? ⟨gb201, 10, none⟩ = some (.slice A1_10 l1_10.length c1_10) := (blk_cell BK201.out 10).trans rfl; have hcz23_11 : w20.cell? ⟨gb201, 11, none⟩ = some (.slice A1_11 l1_11.length c1_11) := (blk_cell BK201.out 11).trans rfl; have hcz23_12 : w20.cell? ⟨gb201, 12, none⟩ = some (.slice A1_12 l1_12.length c1_12) := (blk_cell BK201.out 12).trans rfl; have hcz23_13 : w20.cell? ⟨gb201, 13, none⟩ = some (.slice A1_13 l1_13.length c1_13) := (blk_cell BK201.out 13).trans rfl; have hfz23_0 := blk_frozen BK201.out 0; have hfz23_1 := blk_frozen BK201.out 1; have hfz23_2 := blk_frozen BK201.out 2; have hfz23_3 := blk_frozen BK201.out 3; have hfz23_4 := blk_frozen BK201.out 4; have hfz23_5 := blk_frozen BK201.out 5; have hfz23_6 := blk_frozen BK201.out 6; have hfz23_7 := blk_frozen BK201.out 7; have hfz23_8 := blk_frozen BK201.out 8; have hfz23_9 := blk_frozen BK201.out 9; have hfz23_10 := blk_frozen BK201.out 10; have hfz23_11 := blk_frozen BK201.out 11; have hfz23_12 := blk_frozen BK201.out 12; have hfz23_13 := blk_frozen BK201.out 13) | ((with_reducible refine gate_callee (f := 82) rfl ?_); refine goesL_ (some 39) rfl rfl Try.func82 (by kernel_rfl) rfl #[.agg #[.int .i64 a0_6, .int .i64 a0_7, .slice A0_8 l0_8.length c0_8, .slice A0_9 l0_9.length c0_9], .agg #[.int .i64 a1_6, .int .i64 a1_7, .slice A1_8 l1_8.length c1_8, .slice A1_9 l1_9.length c1_9]] rfl (by (try simp only [List.map_toArray, List.map_cons, List.map_nil]); first | done | rfl | (simp only [List.length_drop, List.length_take]; rfl)) ?_; (with_reducible refine (laws_eqProof.calls k a0_6 a0_7 _ _ l0_8 _ _ l0_9 a1_6 a1_7 _ _ l1_8 _ _ l1_9 true _ ?side1 ?side2 ?side3 ?side4 ?side5 ?side6 ?side7 ?side8 A9.out).mono ?_); (case side1 => repeat (first | exact (Kd.C_below HR0_8.out HB.out) | (with_reducible refine Kd.C_alloc ?_ _) | (with_reducible refine Kd.C_drewN ?_ _) | (with_reducible refine Kd.C_drew ?_))); (case side2 => exact HC0_8.out); (case side3 => repeat (first | exact (Kd.C_below HR0_9.out HB.out) | (with_reducible refine Kd.C_alloc ?_ _) | (with_reducible refine Kd.C_drewN ?_ _) | (with_reducible refine Kd.C_drew ?_))); (case side4 => exact HC0_9.out); (case side5 => repeat (first | exact (Kd.C_below HR1_8.out HB.out) | (with_reducible refine Kd.C_alloc ?_ _) | (with_reducible refine Kd.C_drewN ?_ _) | (with_reducible refine Kd.C_drew ?_))); (case side6 => exact HC1_8.out); (case side7 => repeat (first | exact (Kd.C_below HR1_9.out HB.out) | (with_reducible refine Kd.C_alloc ?_ _) | (with_reducible refine Kd.C_drewN ?_ _) | (with_reducible refine Kd.C_drew ?_))); (case side8 => exact HC1_9.out); rintro e w24 ⟨rfl, hb⟩; refine ⟨_, rfl, ?_⟩; have n0_ := Aside0.mk (blk_below (g := gb200) (o := .cells #[.int .i64 a0_0, .int .i64 a0_1, .int .i64 a0_2, .int .i64 a0_3, .int .i64 a0_4, .int .i64 a0_5, .int .i64 a0_6, .int .i64 a0_7, .slice A0_8 l0_8.length c0_8, .slice A0_9 l0_9.length c0_9, .slice A0_10 l0_10.length c0_10, .slice A0_11 l0_11.length c0_11, .slice A0_12 l0_12.length c0_12, .slice A0_13 l0_13.length c0_13] 68 (0, 0)) (by (with_reducible repeat (first | refine blk_drewN ?_ _ | refine blk_drew ?_ | refine blk_alloc ?_ _)); exact BK200.out) hb); have n1_ := Aside0.mk (blk_below (g := gb201) (o := .cells #[.int .i64 a1_0, .int .i64 a1_1, .int .i64 a1_2, .int .i64 a1_3, .int .i64 a1_4, .int .i64 a1_5, .int .i64 a1_6, .int .i64 a1_7, .slice A1_8 l1_8.length c1_8, .slice A1_9 l1_9.length c1_9, .slice A1_10 l1_10.length c1_10, .slice A1_11 l1_11.length c1_11, .slice A1_12 l1_12.length c1_12, .slice A1_13 l1_13.length c1_13] 68 (0, 0)) (by (with_reducible repeat (first | refine blk_drewN ?_ _ | refine blk_drew ?_ | refine blk_alloc ?_ _)); exact BK201.out) hb); have n2_ := Aside0.mk (below_step (by repeat (first | (with_reducible first | exact HB.out | apply below_alloc | apply pw_below_drewN | apply below_drew1 | refine below_set ?_ GE200.out | refine below_set ?_ GE201.out) | exact HB.out)) hb); clear BK200; clear BK201; clear HB; have BK200 := n0_; have BK201 := n1_; have HB := n2_; clear n0_ n1_ n2_; (try clear hb); (try clear hb2); (try clear hk); (try clear hi); have hcz25_0 : w24.cell? ⟨gb200, 0, none⟩ = some (.int .i64 a0_0) := (blk_cell BK200.out 0).trans rfl; have hcz25_1 : w24.cell? ⟨gb200, 1, none⟩ = some (.int .i64 a0_1) := (blk_cell BK200.out 1).trans rfl; have hcz25_2 : w24.cell? ⟨gb200, 2, none⟩ = some (.int .i64 a0_2) := (blk_cell BK200.out 2).trans rfl; have hcz25_3 : w24.cell? ⟨gb200, 3, none⟩ = some (.int .i64 a0_3) := (blk_cell BK200.out 3).trans rfl; have hcz25_4 : w24.cell? ⟨gb200, 4, none⟩ = some (.int .i64 a0_4) := (blk_cell BK200.out 4).trans rfl; have hcz25_5 : w24.cell? ⟨gb200, 5, none⟩ = some (.int .i64 a0_5) := (blk_cell BK200.out 5).trans rfl; have hcz25_6 : w24.cell? ⟨gb200, 6, none⟩ = some (.int .i64 a0_6) := (blk_cell BK200.out 6).trans rfl; have hcz25_7 : w24.cell? ⟨gb200, 7, none⟩ = some (.int .i64 a0_7) := (blk_cell BK200.out 7).trans rfl; have hcz25_8 : w24.cell? ⟨gb200, 8, none⟩ = some (.slice A0_8 l0_8.length c0_8) := (blk_cell BK200.out 8).trans rfl; have hcz25_9 : w24.cell? ⟨gb200, 9, none⟩ = some (.slice A0_9 l0_9.length c0_9) := (blk_cell BK200.out 9).trans rfl; have hcz25_10 : w24.cell? ⟨gb200, 10, none⟩ = some (.slice A0_10 l0_10.length c0_10) := (blk_cell BK200.out 10).trans rfl; have hcz25_11 : w24.cell? ⟨gb200, 11, none⟩ = some (.slice A0_11 l0_11.length c0_11) := (blk_cell BK200.out 11).trans rfl; have hcz25_12 : w24.cell? ⟨gb200, 12, none⟩ = some (.slice A0_12 l0_12.length c0_12) := (blk_cell BK200.out 12).trans rfl; have hcz25_13 : w24.cell? ⟨gb200, 13, none⟩ = some (.slice A0_13 l0_13.length c0_13) := (blk_cell BK200.out 13).trans rfl; have hfz25_0 := blk_frozen BK200.out 0; have hfz25_1 := blk_frozen BK200.out 1; have hfz25_2 := blk_frozen BK200.out 2; have hfz25_3 := blk_frozen BK200.out 3; have hfz25_4 := blk_frozen BK200.out 4; have hfz25_5 := blk_frozen BK200.out 5; have hfz25_6 := blk_frozen BK200.out 6; have hfz25_7 := blk_frozen BK200.out 7; have hfz25_8 := blk_frozen BK200.out 8; have hfz25_9 := blk_frozen BK200.out 9; have hfz25_10 := blk_frozen BK200.out 10; have hfz25_11 := blk_frozen BK200.out 11; have hfz25_12 := blk_frozen BK200.out 12; have hfz25_13 := blk_frozen BK200.out 13; have hcz26_0 : w24.cell? ⟨gb201, 0, none⟩ = some (.int .i64 a1_0) := (blk_cell BK201.out 0).trans rfl; have hcz26_1 : w24.cell? ⟨gb201, 1, none⟩ = some (.int .i64 a1_1) := (blk_cell BK201.out 1).trans rfl; have hcz26_2 : w24.cell? ⟨gb201, 2, none⟩ = some (.int .i64 a1_2) := (blk_cell BK201.out 2).trans rfl; have hcz26_3 : w24.cell? ⟨gb201, 3, none⟩ = some (.int .i64 a1_3) := (blk_cell BK201.out 3).trans rfl; have hcz26_4 : w24.cell? ⟨gb201, 4, none⟩ = some (.int .i64 a1_4) := (blk_cell BK201.out 4).trans rfl; have hcz26_5 : w24.cell? ⟨gb201, 5, none⟩ = some (.int .i64 a1_5) := (blk_cell BK201.out 5).trans rfl; have hcz26_6 : w24.cell? ⟨gb201, 6, none⟩ = some (.int .i64 a1_6) := (blk_cell BK201.out 6).trans rfl; have hcz26_7 : w24.cell? ⟨gb201, 7, none⟩ = some (.int .i64 a1_7) := (blk_cell BK201.out 7).trans rfl; have hcz26_8 : w24.cell? ⟨gb201, 8, none⟩ = some (.slice A1_8 l1_8.length c1_8) := (blk_cell BK201.out 8).trans rfl; have hcz26_9 : w24.cell? ⟨gb201, 9, none⟩ = some (.slice A1_9 l1_9.length c1_9) := (blk_cell BK201.out 9).trans rfl; have hcz26_10 : w24.cell? ⟨gb201, 10, none⟩ = some (.slice A1_10 l1_10.length c1_10) := (blk_cell BK201.out 10).trans rfl; have hcz26_11 : w24.cell? ⟨gb201, 11, none⟩ = some (.slice A1_11 l1_11.length c1_11) := (blk_cell BK201.out 11).trans rfl; have hcz26_12 : w24.cell? ⟨gb201, 12, none⟩ = some (.slice A1_12 l1_12.length c1_12) := (blk_cell BK201.out 12).trans rfl; have hcz26_13 : w24.cell? ⟨gb201, 13, none⟩ = some (.slice A1_13 l1_13.length c1_13) := (blk_cell BK201.out 13).trans rfl; have hfz26_0 := blk_frozen BK201.out 0; have hfz26_1 := blk_frozen BK201.out 1; have hfz26_2 := blk_frozen BK201.out 2; have hfz26_3 := blk_frozen BK201.out 3; have hfz26_4 := blk_frozen BK201.out 4; have hfz26_5 := blk_frozen BK201.out 5; have hfz26_6 := blk_frozen BK201.out 6; have hfz26_7 := blk_frozen BK201.out 7; have hfz26_8 := blk_frozen BK201.out 8; have hfz26_9 := blk_frozen BK201.out 9; have hfz26_10 := blk_frozen BK201.out 10; have hfz26_11 := blk_frozen BK201.out 11; have hfz26_12 := blk_frozen BK201.out 12; have hfz26_13 := blk_frozen BK201.out 13) | ((with_reducible refine gate_callee (f := 110) rfl ?_); refine goesL_ (some 45) rfl rfl Try.func110 (by kernel_rfl) rfl #[.slice A0_10 l0_10.length c0_10, .slice A1_10 l1_10.length c1_10] rfl (by (try simp only [List.map_toArray, List.map_cons, List.map_nil]); first | done | rfl | (simp only [List.length_drop, List.length_take]; rfl)) ?_; (with_reducible refine (laws_eqBlockS.calls k _ _ l0_10 _ _ l1_10 true _ ?side1 ?side2 ?side3 ?side4 A11.out).mono ?_); (case side1 => repeat (first | exact (Kd.C_below HR0_10.out HB.out) | (with_reducible refine Kd.C_alloc ?_ _) | (with_reducible refine Kd.C_drewN ?_ _) | (with_reducible refine Kd.C_drew ?_))); (case side2 => exact HC0_10.out); (case side3 => repeat (first | exact (Kd.C_below HR1_10.out HB.out) | (with_reducible refine Kd.C_alloc ?_ _) | (with_reducible refine Kd.C_drewN ?_ _) | (with_reducible refine Kd.C_drew ?_))); (case side4 => exact HC1_10.out); rintro e w27 ⟨rfl, hb⟩; refine ⟨_, rfl, ?_⟩; have n0_ := Aside0.mk (blk_below (g := gb200) (o := .cells #[.int .i64 a0_0, .int .i64 a0_1, .int .i64 a0_2, .int .i64 a0_3, .int .i64 a0_4, .int .i64 a0_5, .int .i64 a0_6, .int .i64 a0_7, .slice A0_8 l0_8.length c0_8, .slice A0_9 l0_9.length c0_9, .slice A0_10 l0_10.length c0_10, .slice A0_11 l0_11.length c0_11, .slice A0_12 l0_12.length c0_12, .slice A0_13 l0_13.length c0_13] 68 (0, 0)) (by (with_reducible repeat (first | refine blk_drewN ?_ _ | refine blk_drew ?_ | refine blk_alloc ?_ _)); exact BK200.out) hb); have n1_ := Aside0.mk (blk_below (g := gb201) (o := .cells #[.int .i64 a1_0, .int .i64 a1_1, .int .i64 a1_2, .int .i64 a1_3, .int .i64 a1_4, .int .i64 a1_5, .int .i64 a1_6, .int .i64 a1_7, .slice A1_8 l1_8.length c1_8, .slice A1_9 l1_9.length c1_9, .slice A1_10 l1_10.length c1_10, .slice A1_11 l1_11.length c1_11, .slice A1_12 l1_12.length c1_12, .slice A1_13 l1_13.length c1_13] 68 (0, 0)) (by (with_reducible repeat (first | refine blk_drewN ?_ _ | refine blk_drew ?_ | refine blk_alloc ?_ _)); exact BK201.out) hb); have n2_ := Aside0.mk (below_step (by repeat (first | (with_reducible first | exact HB.out | apply below_alloc | apply pw_below_drewN | apply below_drew1 | refine below_set ?_ GE200.out | refine below_set ?_ GE201.out) | exact HB.out)) hb); clear BK200; clear BK201; clear HB; have BK200 := n0_; have BK201 := n1_; have HB := n2_; clear n0_ n1_ n2_; (try clear hb); (try clear hb2); (try clear hk); (try clear hi); have hcz28_0 : w27.cell? ⟨gb200, 0, none⟩ = some (.int .i64 a0_0) := (blk_cell BK200.out 0).trans rfl; have hcz28_1 : w27.cell? ⟨gb200, 1, none⟩ = some (.int .i64 a0_1) := (blk_cell BK200.out 1).trans rfl; have hcz28_2 : w27.cell? ⟨gb200, 2, none⟩ = some (.int .i64 a0_2) := (blk_cell BK200.out 2).trans rfl; have hcz28_3 : w27.cell? ⟨gb200, 3, none⟩ = some (.int .i64 a0_3) := (blk_cell BK200.out 3).trans rfl; have hcz28_4 : w27.cell? ⟨gb200, 4, none⟩ = some (.int .i64 a0_4) := (blk_cell BK200.out 4).trans rfl; have hcz28_5 : w27.cell? ⟨gb200, 5, none⟩ = some (.int .i64 a0_5) := (blk_cell BK200.out 5).trans rfl; have hcz28_6 : w27.cell? ⟨gb200, 6, none⟩ = some (.int .i64 a0_6) := (blk_cell BK200.out 6).trans rfl; have hcz28_7 : w27.cell? ⟨gb200, 7, none⟩ = some (.int .i64 a0_7) := (blk_cell BK200.out 7).trans rfl; have hcz28_8 : w27.cell? ⟨gb200, 8, none⟩ = some (.slice A0_8 l0_8.length c0_8) := (blk_cell BK200.out 8).trans rfl; have hcz28_9 : w27.cell? ⟨gb200, 9, none⟩ = some (.slice A0_9 l0_9.length c0_9) := (blk_cell BK200.out 9).trans rfl; have hcz28_10 : w27.cell? ⟨gb200, 10, none⟩ = some (.slice A0_10 l0_10.length c0_10) := (blk_cell BK200.out 10).trans rfl; have hcz28_11 : w27.cell? ⟨gb200, 11, none⟩ = some (.slice A0_11 l0_11.length c0_11) := (blk_cell BK200.out 11).trans rfl; have hcz28_12 : w27.cell? ⟨gb200, 12, none⟩ = some (.slice A0_12 l0_12.length c0_12) := (blk_cell BK200.out 12).trans rfl; have hcz28_13 : w27.cell? ⟨gb200, 13, none⟩ = some (.slice A0_13 l0_13.length c0_13) := (blk_cell BK200.out 13).trans rfl; have hfz28_0 := blk_frozen BK200.out 0; have hfz28_1 := blk_frozen BK200.out 1; have hfz28_2 := blk_frozen BK200.out 2; have hfz28_3 := blk_frozen BK200.out 3; have hfz28_4 := blk_frozen BK200.out 4; have hfz28_5 := blk_frozen BK200.out 5; have hfz28_6 := blk_frozen BK200.out 6; have hfz28_7 := blk_frozen BK200.out 7; have hfz28_8 := blk_frozen BK200.out 8; have hfz28_9 := blk_frozen BK200.out 9; have hfz28_10 := blk_frozen BK200.out 10; have hfz28_11 := blk_frozen BK200.out 11; have hfz28_12 := blk_frozen BK200.out 12; have hfz28_13 := blk_frozen BK200.out 13; have hcz29_0 : w27.cell? ⟨gb201, 0, none⟩ = some (.int .i64 a1_0) := (blk_cell BK201.out 0).trans rfl; have hcz29_1 : w27.cell? ⟨gb201, 1, none⟩ = some (.int .i64 a1_1) := (blk_cell BK201.out 1).trans rfl; have hcz29_2 : w27.cell? ⟨gb201, 2, none⟩ = some (.int .i64 a1_2) := (blk_cell BK201.out 2).trans rfl; have hcz29_3 : w27.cell? ⟨gb201, 3, none⟩ = some (.int .i64 a1_3) := (blk_cell BK201.out 3).trans rfl; have hcz29_4 : w27.cell? ⟨gb201, 4, none⟩ = some (.int .i64 a1_4) := (blk_cell BK201.out 4).trans rfl; have hcz29_5 : w27.cell? ⟨gb201, 5, none⟩ = some (.int .i64 a1_5) := (blk_cell BK201.out 5).trans rfl; have hcz29_6 : w27.cell? ⟨gb201, 6, none⟩ = some (.int .i64 a1_6) := (blk_cell BK201.out 6).trans rfl; have hcz29_7 : w27.cell? ⟨gb201, 7, none⟩ = some (.int .i64 a1_7) := (blk_cell BK201.out 7).trans rfl; have hcz29_8 : w27.cell? ⟨gb201, 8, none⟩ = some (.slice A1_8 l1_8.length c1_8) := (blk_cell BK201.out 8).trans rfl; have hcz29_9 : w27.cell? ⟨gb201, 9, none⟩ = some (.slice A1_9 l1_9.length c1_9) := (blk_cell BK201.out 9).trans rfl; have hcz29_10 : w27.cell? ⟨gb201, 10, none⟩ = some (.slice A1_10 l1_10.length c1_10) := (blk_cell BK201.out 10).trans rfl; have hcz29_11 : w27.cell? ⟨gb201, 11, none⟩ = some (.slice A1_11 l1_11.length c1_11) := (blk_cell BK201.out 11).trans rfl; have hcz29_12 : w27.cell? ⟨gb201, 12, none⟩ = some (.slice A1_12 l1_12.length c1_12) := (blk_cell BK201.out 12).trans rfl; have hcz29_13 : w27.cell? ⟨gb201, 13, none⟩ = some (.slice A1_13 l1_13.length c1_13) := (blk_cell BK201.out 13).trans rfl; have hfz29_0 := blk_frozen BK201.out 0; have hfz29_1 := blk_frozen BK201.out 1; have hfz29_2 := blk_frozen BK201.out 2; have hfz29_3 := blk_frozen BK201.out 3; have hfz29_4 := blk_frozen BK201.out 4; have hfz29_5 := blk_frozen BK201.out 5; have hfz29_6 := blk_frozen BK201.out 6; have hfz29_7 := blk_frozen BK201.out 7; have hfz29_8 := blk_frozen BK201.out 8; have hfz29_9 := blk_frozen BK201.out 9; have hfz29_10 := blk_frozen BK201.out 10; have hfz29_11 := blk_frozen BK201.out 11; have hfz29_12 := blk_frozen BK201.out 12; have hfz29_13 := blk_frozen BK201.out 13) | ((with_reducible refine gate_callee (f := 111) rfl ?_); refine goesL_ (some 51) rfl rfl Try.func111 (by kernel_rfl) rfl #[.slice A0_11 l0_11.length c0_11, .slice A1_11 l1_11.length c1_11] rfl (by (try simp only [List.map_toArray, List.map_cons, List.map_nil]); first | done | rfl | (simp only [List.length_drop, List.length_take]; rfl)) ?_; (with_reducible refine (laws_eqVoteS.calls k _ _ l0_11 _ _ l1_11 true _ ?side1 ?side2 ?side3 ?side4 A13.out).mono ?_); (case side1 => repeat (first | exact (Kd.C_below HR0_11.out HB.out) | (with_reducible refine Kd.C_alloc ?_ _) | (with_reducible refine Kd.C_drewN ?_ _) | (with_reducible refine Kd.C_drew ?_))); (case side2 => exact HC0_11.out); (case side3 => repeat (first | exact (Kd.C_below HR1_11.out HB.out) | (with_reducible refine Kd.C_alloc ?_ _) | (with_reducible refine Kd.C_drewN ?_ _) | (with_reducible refine Kd.C_drew ?_))); (case side4 => exact HC1_11.out); rintro e w30 ⟨rfl, hb⟩; refine ⟨_, rfl, ?_⟩; have n0_ := Aside0.mk (blk_below (g := gb200) (o := .cells #[.int .i64 a0_0, .int .i64 a0_1, .int .i64 a0_2, .int .i64 a0_3, .int .i64 a0_4, .int .i64 a0_5, .int .i64 a0_6, .int .i64 a0_7, .slice A0_8 l0_8.length c0_8, .slice A0_9 l0_9.length c0_9, .slice A0_10 l0_10.length c0_10, .slice A0_11 l0_11.length c0_11, .slice A0_12 l0_12.length c0_12, .slice A0_13 l0_13.length c0_13] 68 (0, 0)) (by (with_reducible repeat (first | refine blk_drewN ?_ _ | refine blk_drew ?_ | refine blk_alloc ?_ _)); exact BK200.out) hb); have n1_ := Aside0.mk (blk_below (g := gb201) (o := .cells #[.int .i64 a1_0, .int .i64 a1_1, .int .i64 a1_2, .int .i64 a1_3, .int .i64 a1_4, .int .i64 a1_5, .int .i64 a1_6, .int .i64 a1_7, .slice A1_8 l1_8.length c1_8, .slice A1_9 l1_9.length c1_9, .slice A1_10 l1_10.length c1_10, .slice A1_11 l1_11.length c1_11, .slice A1_12 l1_12.length c1_12, .slice A1_13 l1_13.length c1_13] 68 (0, 0)) (by (with_reducible repeat (first | refine blk_drewN ?_ _ | refine blk_drew ?_ | refine blk_alloc ?_ _)); exact BK201.out) hb); have n2_ := Aside0.mk (below_step (by repeat (first | (with_reducible first | exact HB.out | apply below_alloc | apply pw_below_drewN | apply below_drew1 | refine below_set ?_ GE200.out | refine below_set ?_ GE201.out) | exact HB.out)) hb); clear BK200; clear BK201; clear HB; have BK200 := n0_; have BK201 := n1_; have HB := n2_; clear n0_ n1_ n2_; (try clear hb); (try clear hb2); (try clear hk); (try clear hi); have hcz31_0 : w30.cell? ⟨gb200, 0, none⟩ = some (.int .i64 a0_0) := (blk_cell BK200.out 0).trans rfl; have hcz31_1 : w30.cell? ⟨gb200, 1, none⟩ = some (.int .i64 a0_1) := (blk_cell BK200.out 1).trans rfl; have hcz31_2 : w30.cell? ⟨gb200, 2, none⟩ = some (.int .i64 a0_2) := (blk_cell BK200.out 2).trans rfl; have hcz31_3 : w30.cell? ⟨gb200, 3, none⟩ = some (.int .i64 a0_3) := (blk_cell BK200.out 3).trans rfl; have hcz31_4 : w30.cell? ⟨gb200, 4, none⟩ = some (.int .i64 a0_4) := (blk_cell BK200.out 4).trans rfl; have hcz31_5 : w30.cell? ⟨gb200, 5, none⟩ = some (.int .i64 a0_5) := (blk_cell BK200.out 5).trans rfl; have hcz31_6 : w30.cell? ⟨gb200, 6, none⟩ = some (.int .i64 a0_6) := (blk_cell BK200.out 6).trans rfl; have hcz31_7 : w30.cell? ⟨gb200, 7, none⟩ = some (.int .i64 a0_7) := (blk_cell BK200.out 7).trans rfl; have hcz31_8 : w30.cell? ⟨gb200, 8, none⟩ = some (.slice A0_8 l0_8.length c0_8) := (blk_cell BK200.out 8).trans rfl; have hcz31_9 : w30.cell? ⟨gb200, 9, none⟩ = some (.slice A0_9 l0_9.length c0_9) := (blk_cell BK200.out 9).trans rfl; have hcz31_10 : w30.cell? ⟨gb200, 10, none⟩ = some (.slice A0_10 l0_10.length c0_10) := (blk_cell BK200.out 10).trans rfl; have hcz31_11 : w30.cell? ⟨gb200, 11, none⟩ = some (.slice A0_11 l0_11.length c0_11) := (blk_cell BK200.out 11).trans rfl; have hcz31_12 : w30.cell? ⟨gb200, 12, none⟩ = some (.slice A0_12 l0_12.length c0_12) := (blk_cell BK200.out 12).trans rfl; have hcz31_13 : w30.cell? ⟨gb200, 13, none⟩ = some (.slice A0_13 l0_13.length c0_13) := (blk_cell BK200.out 13).trans rfl; have hfz31_0 := blk_frozen BK200.out 0; have hfz31_1 := blk_frozen BK200.out 1; have hfz31_2 := blk_frozen BK200.out 2; have hfz31_3 := blk_frozen BK200.out 3; have hfz31_4 := blk_frozen BK200.out 4; have hfz31_5 := blk_frozen BK200.out 5; have hfz31_6 := blk_frozen BK200.out 6; have hfz31_7 := blk_frozen BK200.out 7; have hfz31_8 := blk_frozen BK200.out 8; have hfz31_9 := blk_frozen BK200.out 9; have hfz31_10 := blk_frozen BK200.out 10; have hfz31_11 := blk_frozen BK200.out 11; have hfz31_12 := blk_frozen BK200.out 12; have hfz31_13 := blk_frozen BK200.out 13; have hcz32_0 : w30.cell? ⟨gb201, 0, none⟩ = some (.int .i64 a1_0) := (blk_cell BK201.out 0).trans rfl; have hcz32_1 : w30.cell? ⟨gb201, 1, none⟩ = some (.int .i64 a1_1) := (blk_cell BK201.out 1).trans rfl; have hcz32_2 : w30.cell? ⟨gb201, 2, none⟩ = some (.int .i64 a1_2) := (blk_cell BK201.out 2).trans rfl; have hcz32_3 : w30.cell? ⟨gb201, 3, none⟩ = some (.int .i64 a1_3) := (blk_cell BK201.out 3).trans rfl; have hcz32_4 : w30.cell? ⟨gb201, 4, none⟩ = some (.int .i64 a1_4) := (blk_cell BK201.out 4).trans rfl; have hcz32_5 : w30.cell? ⟨gb201, 5, none⟩ = some (.int .i64 a1_5) := (blk_cell BK201.out 5).trans rfl; have hcz32_6 : w30.cell? ⟨gb201, 6, none⟩ = some (.int .i64 a1_6) := (blk_cell BK201.out 6).trans rfl; have hcz32_7 : w30.cell? ⟨gb201, 7, none⟩ = some (.int .i64 a1_7) := (blk_cell BK201.out 7).trans rfl; have hcz32_8 : w30.cell? ⟨gb201, 8, none⟩ = some (.slice A1_8 l1_8.length c1_8) := (blk_cell BK201.out 8).trans rfl; have hcz32_9 : w30.cell? ⟨gb201, 9, none⟩ = some (.slice A1_9 l1_9.length c1_9) := (blk_cell BK201.out 9).trans rfl; have hcz32_10 : w30.cell? ⟨gb201, 10, none⟩ = some (.slice A1_10 l1_10.length c1_10) := (blk_cell BK201.out 10).trans rfl; have hcz32_11 : w30.cell? ⟨gb201, 11, none⟩ = some (.slice A1_11 l1_11.length c1_11) := (blk_cell BK201.out 11).trans rfl; have hcz32_12 : w30.cell? ⟨gb201, 12, none⟩ = some (.slice A1_12 l1_12.length c1_12) := (blk_cell BK201.out 12).trans rfl; have hcz32_13 : w30.cell? ⟨gb201, 13, none⟩ = some (.slice A1_13 l1_13.length c1_13) := (blk_cell BK201.out 13).trans rfl; have hfz32_0 := blk_frozen BK201.out 0; have hfz32_1 := blk_frozen BK201.out 1; have hfz32_2 := blk_frozen BK201.out 2; have hfz32_3 := blk_frozen BK201.out 3; have hfz32_4 := blk_frozen BK201.out 4; have hfz32_5 := blk_frozen BK201.out 5; have hfz32_6 := blk_frozen BK201.out 6; have hfz32_7 := blk_frozen BK201.out 7; have hfz32_8 := blk_frozen BK201.out 8; have hfz32_9 := blk_frozen BK201.out 9; have hfz32_10 := blk_frozen BK201.out 10; have hfz32_11 := blk_frozen BK201.out 11; have hfz32_12 := blk_frozen BK201.out 12; have hfz32_13 := blk_frozen BK201.out 13) | ((with_reducible refine gate_callee (f := 112) rfl ?_); refine goesL_ (some 57) rfl rfl Try.func112 (by kernel_rfl) rfl #[.slice A0_12 l0_12.length c0_12, .slice A1_12 l1_12.length c1_12] rfl (by (try simp only [List.map_toArray, List.map_cons, List.map_nil]); first | done | rfl | (simp only [List.length_drop, List.length_take]; rfl)) ?_; (with_reducible refine (laws_eqNewsS.calls k _ _ l0_12 _ _ l1_12 true _ ?side1 ?side2 ?side3 ?side4 A15.out).mono ?_); (case side1 => repeat (first | exact (Kd.C_below HR0_12.out HB.out) | (with_reducible refine Kd.C_alloc ?_ _) | (with_reducible refine Kd.C_drewN ?_ _) | (with_reducible refine Kd.C_drew ?_))); (case side2 => exact HC0_12.out); (case side3 => repeat (first | exact (Kd.C_below HR1_12.out HB.out) | (with_reducible refine Kd.C_alloc ?_ _) | (with_reducible refine Kd.C_drewN ?_ _) | (with_reducible refine Kd.C_drew ?_))); (case side4 => exact HC1_12.out); rintro e w33 ⟨rfl, hb⟩; refine ⟨_, rfl, ?_⟩; have n0_ := Aside0.mk (blk_below (g := gb200) (o := .cells #[.int .i64 a0_0, .int .i64 a0_1, .int .i64 a0_2, .int .i64 a0_3, .int .i64 a0_4, .int .i64 a0_5, .int .i64 a0_6, .int .i64 a0_7, .slice A0_8 l0_8.length c0_8, .slice A0_9 l0_9.length c0_9, .slice A0_10 l0_10.length c0_10, .slice A0_11 l0_11.length c0_11, .slice A0_12 l0_12.length c0_12, .slice A0_13 l0_13.length c0_13] 68 (0, 0)) (by (with_reducible repeat (first | refine blk_drewN ?_ _ | refine blk_drew ?_ | refine blk_alloc ?_ _)); exact BK200.out) hb); have n1_ := Aside0.mk (blk_below (g := gb201) (o := .cells #[.int .i64 a1_0, .int .i64 a1_1, .int .i64 a1_2, .int .i64 a1_3, .int .i64 a1_4, .int .i64 a1_5, .int .i64 a1_6, .int .i64 a1_7, .slice A1_8 l1_8.length c1_8, .slice A1_9 l1_9.length c1_9, .slice A1_10 l1_10.length c1_10, .slice A1_11 l1_11.length c1_11, .slice A1_12 l1_12.length c1_12, .slice A1_13 l1_13.length c1_13] 68 (0, 0)) (by (with_reducible repeat (first | refine blk_drewN ?_ _ | refine blk_drew ?_ | refine blk_alloc ?_ _)); exact BK201.out) hb); have n2_ := Aside0.mk (below_step (by repeat (first | (with_reducible first | exact HB.out | apply below_alloc | apply pw_below_drewN | apply below_drew1 | refine below_set ?_ GE200.out | refine below_set ?_ GE201.out) | exact HB.out)) hb); clear BK200; clear BK201; clear HB; have BK200 := n0_; have BK201 := n1_; have HB := n2_; clear n0_ n1_ n2_; (try clear hb); (try clear hb2); (try clear hk); (try clear hi); have hcz34_0 : w33.cell? ⟨gb200, 0, none⟩ = some (.int .i64 a0_0) := (blk_cell BK200.out 0).trans rfl; have hcz34_1 : w33.cell? ⟨gb200, 1, none⟩ = some (.int .i64 a0_1) := (blk_cell BK200.out 1).trans rfl; have hcz34_2 : w33.cell? ⟨gb200, 2, none⟩ = some (.int .i64 a0_2) := (blk_cell BK200.out 2).trans rfl; have hcz34_3 : w33.cell? ⟨gb200, 3, none⟩ = some (.int .i64 a0_3) := (blk_cell BK200.out 3).trans rfl; have hcz34_4 : w33.cell? ⟨gb200, 4, none⟩ = some (.int .i64 a0_4) := (blk_cell BK200.out 4).trans rfl; have hcz34_5 : w33.cell? ⟨gb200, 5, none⟩ = some (.int .i64 a0_5) := (blk_cell BK200.out 5).trans rfl; have hcz34_6 : w33.cell? ⟨gb200, 6, none⟩ = some (.int .i64 a0_6) := (blk_cell BK200.out 6).trans rfl; have hcz34_7 : w33.cell? ⟨gb200, 7, none⟩ = some (.int .i64 a0_7) := (blk_cell BK200.out 7).trans rfl; have hcz34_8 : w33.cell? ⟨gb200, 8, none⟩ = some (.slice A0_8 l0_8.length c0_8) := (blk_cell BK200.out 8).trans rfl; have hcz34_9 : w33.cell? ⟨gb200, 9, none⟩ = some (.slice A0_9 l0_9.length c0_9) := (blk_cell BK200.out 9).trans rfl; have hcz34_10 : w33.cell? ⟨gb200, 10, none⟩ = some (.slice A0_10 l0_10.length c0_10) := (blk_cell BK200.out 10).trans rfl; have hcz34_11 : w33.cell? ⟨gb200, 11, none⟩ = some (.slice A0_11 l0_11.length c0_11) := (blk_cell BK200.out 11).trans rfl; have hcz34_12 : w33.cell? ⟨gb200, 12, none⟩ = some (.slice A0_12 l0_12.length c0_12) := (blk_cell BK200.out 12).trans rfl; have hcz34_13 : w33.cell? ⟨gb200, 13, none⟩ = some (.slice A0_13 l0_13.length c0_13) := (blk_cell BK200.out 13).trans rfl; have hfz34_0 := blk_frozen BK200.out 0; have hfz34_1 := blk_frozen BK200.out 1; have hfz34_2 := blk_frozen BK200.out 2; have hfz34_3 := blk_frozen BK200.out 3; have hfz34_4 := blk_frozen BK200.out 4; have hfz34_5 := blk_frozen BK200.out 5; have hfz34_6 := blk_frozen BK200.out 6; have hfz34_7 := blk_frozen BK200.out 7; have hfz34_8 := blk_frozen BK200.out 8; have hfz34_9 := blk_frozen BK200.out 9; have hfz34_10 := blk_frozen BK200.out 10; have hfz34_11 := blk_frozen BK200.out 11; have hfz34_12 := blk_frozen BK200.out 12; have hfz34_13 := blk_frozen BK200.out 13; have hcz35_0 : w33.cell? ⟨gb201, 0, none⟩ = some (.int .i64 a1_0) := (blk_cell BK201.out 0).trans rfl; have hcz35_1 : w33.cell? ⟨gb201, 1, none⟩ = some (.int .i64 a1_1) := (blk_cell BK201.out 1).trans rfl; have hcz35_2 : w33.cell? ⟨gb201, 2, none⟩ = some (.int .i64 a1_2) := (blk_cell BK201.out 2).trans rfl; have hcz35_3 : w33.cell? ⟨gb201, 3, none⟩ = some (.int .i64 a1_3) := (blk_cell BK201.out 3).trans rfl; have hcz35_4 : w33.cell? ⟨gb201, 4, none⟩ = some (.int .i64 a1_4) := (blk_cell BK201.out 4).trans rfl; have hcz35_5 : w33.cell? ⟨gb201, 5, none⟩ = some (.int .i64 a1_5) := (blk_cell BK201.out 5).trans rfl; have hcz35_6 : w33.cell? ⟨gb201, 6, none⟩ = some (.int .i64 a1_6) := (blk_cell BK201.out 6).trans rfl; have hcz35_7 : w33.cell? ⟨gb201, 7, none⟩ = some (.int .i64 a1_7) := (blk_cell BK201.out 7).trans rfl; have hcz35_8 : w33.cell? ⟨gb201, 8, none⟩ = some (.slice A1_8 l1_8.length c1_8) := (blk_cell BK201.out 8).trans rfl; have hcz35_9 : w33.cell? ⟨gb201, 9, none⟩ = some (.slice A1_9 l1_9.length c1_9) := (blk_cell BK201.out 9).trans rfl; have hcz35_10 : w33.cell? ⟨gb201, 10, none⟩ = some (.slice A1_10 l1_10.length c1_10) := (blk_cell BK201.out 10).trans rfl; have hcz35_11 : w33.cell? ⟨gb201, 11, none⟩ = some (.slice A1_11 l1_11.length c1_11) := (blk_cell BK201.out 11).trans rfl; have hcz35_12 : w33.cell? ⟨gb201, 12, none⟩ = some (.slice A1_12 l1_12.length c1_12) := (blk_cell BK201.out 12).trans rfl; have hcz35_13 : w33.cell? ⟨gb201, 13, none⟩ = some (.slice A1_13 l1_13.length c1_13) := (blk_cell BK201.out 13).trans rfl; have hfz35_0 := blk_frozen BK201.out 0; have hfz35_1 := blk_frozen BK201.out 1; have hfz35_2 := blk_frozen BK201.out 2; have hfz35_3 := blk_frozen BK201.out 3; have hfz35_4 := blk_frozen BK201.out 4; have hfz35_5 := blk_frozen BK201.out 5; have hfz35_6 := blk_frozen BK201.out 6; have hfz35_7 := blk_frozen BK201.out 7; have hfz35_8 := blk_frozen BK201.out 8; have hfz35_9 := blk_frozen BK201.out 9; have hfz35_10 := blk_frozen BK201.out 10; have hfz35_11 := blk_frozen BK201.out 11; have hfz35_12 := blk_frozen BK201.out 12; have hfz35_13 := blk_frozen BK201.out 13) | ((with_reducible refine gate_callee (f := 113) rfl ?_); refine goesL_ (some 63) rfl rfl Try.func113 (by kernel_rfl) rfl #[.slice A0_13 l0_13.length c0_13, .slice A1_13 l1_13.length c1_13] rfl (by (try simp only [List.map_toArray, List.map_cons, List.map_nil]); first | done | rfl | (simp only [List.length_drop, List.length_take]; rfl)) ?_; (with_reducible refine (laws_eqInt64S.calls k _ _ l0_13 _ _ l1_13 true _ ?side1 ?side2 ?side3 ?side4 A17.out).mono ?_); (case side1 => repeat (first | exact (Kd.C_below HR0_13.out HB.out) | (with_reducible refine Kd.C_alloc ?_ _) | (with_reducible refine Kd.C_drewN ?_ _) | (with_reducible refine Kd.C_drew ?_))); (case side2 => exact HC0_13.out); (case side3 => repeat (first | exact (Kd.C_below HR1_13.out HB.out) | (with_reducible refine Kd.C_alloc ?_ _) | (with_reducible refine Kd.C_drewN ?_ _) | (with_reducible refine Kd.C_drew ?_))); (case side4 => exact HC1_13.out); rintro e w' ⟨rfl, ⟨nd, rfl⟩⟩; refine ⟨_, rfl, ?_⟩))
            go_ret
            exact ⟨by first | rfl | (simp [errW_none, errW_some] <;> rfl) | (simp [*, errW_none, errW_some] <;> rfl), by repeat (first | (with_reducible first | exact HB.out | apply below_alloc | apply pw_below_drewN | apply below_drew1) | exact HB.out)⟩
           ·replace c18 := Bool.eq_false_iff.mpr c18
            subst c18
            have H1 : (none) = some r := by rw [if_neg (show ¬ (false = true) by decide)] at H; exact H
            clear H
            have H := H1
            clear H1
            exact absurd H (by simp)
          ·replace c16 := Bool.eq_false_iff.mpr c16
           subst c16
           have H1 : (none) = some r := by rw [if_neg (show ¬ (false = true) by decide)] at H; exact H
           clear H
           have H := H1
           clear H1
           exact absurd H (by simp)
         ·replace c14 := Bool.eq_false_iff.mpr c14
          subst c14
          have H1 : (none) = some r := by rw [if_neg (show ¬ (false = true) by decide)] at H; exact H
          clear H
          have H := H1
          clear H1
          exact absurd H (by simp)
        ·replace c12 := Bool.eq_false_iff.mpr c12
         subst c12
         have H1 : (none) = some r := by rw [if_neg (show ¬ (false = true) by decide)] at H; exact H
         clear H
         have H := H1
         clear H1
         exact absurd H (by simp)
       ·replace c10 := Bool.eq_false_iff.mpr c10
        subst c10
        have H1 : (none) = some r := by rw [if_neg (show ¬ (false = true) by decide)] at H; exact H
        clear H
        have H := H1
        clear H1
        exact absurd H (by simp)
      ·rw [if_neg c8] at H
       exact absurd H (by simp)
     ·rw [if_neg c7] at H
      exact absurd H (by simp)
    ·rw [if_neg c6] at H
     exact absurd H (by simp)
   ·rw [if_neg c5] at H
    exact absurd H (by simp)
  ·rw [if_neg c4] at H
   exact absurd H (by simp)
 ·rw [if_neg c3] at H
  exact absurd H (by simp)

/-! ### laws_eqReplicaS: function 122 -/
def laws_eqReplicaS.l0 : Nat → List (S68) → List (S68) → Int → Option (Bool)
 | 0, _, _, _ => none
 | k + 1, x0, x1, x5 => if x5 < (x0.length : Int) then (if 0 ≤ x5 then (if x5 < (x1.length : Int) then ((laws_eqReplica.f k ((rd_T68 x0 x5).f0) ((rd_T68 x0 x5).f1) ((rd_T68 x0 x5).f2) ((rd_T68 x0 x5).f3) ((rd_T68 x0 x5).f4) ((rd_T68 x0 x5).f5) ((rd_T68 x0 x5).f6.f0) ((rd_T68 x0 x5).f6.f1) ((rd_T68 x0 x5).f6.f2) ((rd_T68 x0 x5).f6.f3) ((rd_T68 x0 x5).f7) ((rd_T68 x0 x5).f8) ((rd_T68 x0 x5).f9) ((rd_T68 x0 x5).f10) ((rd_T68 x1 x5).f0) ((rd_T68 x1 x5).f1) ((rd_T68 x1 x5).f2) ((rd_T68 x1 x5).f3) ((rd_T68 x1 x5).f4) ((rd_T68 x1 x5).f5) ((rd_T68 x1 x5).f6.f0) ((rd_T68 x1 x5).f6.f1) ((rd_T68 x1 x5).f6.f2) ((rd_T68 x1 x5).f6.f3) ((rd_T68 x1 x5).f7) ((rd_T68 x1 x5).f8) ((rd_T68 x1 x5).f9) ((rd_T68 x1 x5).f10)).bind fun t209 => (if t209 = true then (laws_eqReplicaS.l0 k x0 x1 (wrap64 (x5 + 1))) else (none))) else (none)) else (none)) else (some true)
def laws_eqReplicaS.f (k : Nat) (l0 : List (S68)) (l1 : List (S68)) : Option (Bool) := if (l0.length : Int) = (l1.length : Int) then (laws_eqReplicaS.l0 k l0 l1 0) else (none)
theorem laws_eqReplicaS.mono_l : ∀ k, (∀ y0 y1 y2, LeO (laws_eqReplicaS.l0 k y0 y1 y2) (laws_eqReplicaS.l0 (k + 1) y0 y1 y2))
 | 0 => fun _ _ _ r h => by simp [laws_eqReplicaS.l0] at h
 | k + 1 => by
  have ih0 := laws_eqReplicaS.mono_l k
  ·intro y0 y1 y2
   unfold laws_eqReplicaS.l0
   repeat' first
   | (with_reducible exact ih0 _ _ _)
   | (with_reducible exact laws_eqReplica.mono _ _ _ _ _ _ _ _ _ _ _ _ _ _ _ _ _ _ _ _ _ _ _ _ _ _ _ _ _)
   | (with_reducible exact LeO.refl _)
   | (with_reducible exact LeO.none _)
   | (with_reducible refine LeO.ite ?_ ?_)
   | (with_reducible refine LeO.bind ?_ (fun _ => ?_))
   | exact ih0 _ _ _
   | exact laws_eqReplica.mono _ _ _ _ _ _ _ _ _ _ _ _ _ _ _ _ _ _ _ _ _ _ _ _ _ _ _ _ _
   | exact LeO.none _
   | refine LeO.ite ?_ ?_
   | refine LeO.bind ?_ (fun _ => ?_)
theorem laws_eqReplicaS.mono : ∀ a0 a1 k, LeO (laws_eqReplicaS.f k a0 a1) (laws_eqReplicaS.f (k + 1) a0 a1) := by
 intro a0 a1 k
 have ih0 := laws_eqReplicaS.mono_l k
 unfold laws_eqReplicaS.f
 repeat' first
   | (with_reducible exact ih0 _ _ _)
   | (with_reducible exact laws_eqReplica.mono _ _ _ _ _ _ _ _ _ _ _ _ _ _ _ _ _ _ _ _ _ _ _ _ _ _ _ _ _)
   | (with_reducible exact LeO.refl _)
   | (with_reducible exact LeO.none _)
   | (with_reducible refine LeO.ite ?_ ?_)
   | (with_reducible refine LeO.bind ?_ (fun _ => ?_))
   | exact ih0 _ _ _
   | exact laws_eqReplica.mono _ _ _ _ _ _ _ _ _ _ _ _ _ _ _ _ _ _ _ _ _ _ _ _ _ _ _ _ _
   | exact LeO.none _
   | refine LeO.ite ?_ ?_
   | refine LeO.bind ?_ (fun _ => ?_)
def laws_eqReplicaS.T6 : Bool × List (List Nat × List Nat) := (true, [([], []), ([], []), ([0, 1], [0, 1]), ([2], [2]), ([], []), ([], []), ([4, 5], [4, 5]), ([6], [6]), ([3, 7], [3, 7]), ([8], [8])])
def laws_eqReplicaS.B6 : List Nat := [0, 0, 3, 7, 0, 0, 48, 112, 255, 511]
theorem laws_eqReplicaS.tab6 : rtab .any (opsOf Try.f122 6) = laws_eqReplicaS.T6 := by kernel_rfl
theorem laws_eqReplicaS.bits6 : waitsOk laws_eqReplicaS.T6.2 laws_eqReplicaS.B6 = true := by kernel_rfl
set_option maxHeartbeats 8000000 in
set_option maxRecDepth 100000 in
theorem laws_eqReplicaS.calls (k : Nat) (A0 : Option Addr) (c0 : Nat) (l0 : List (S68)) (A1 : Option Addr) (c1 : Nat) (l1 : List (S68)) (r : Bool) (w : World) (hr0 : Kd.C k68 w A0 l0.length l0) (hc0 : l0.length ≤ c0) (hr1 : Kd.C k68 w A1 l1.length l1) (hc1 : l1.length ≤ c1) (h : laws_eqReplicaS.f k l0 l1 = some r) :
  Calls Try.prog 122 #[.slice A0 l0.length c0, .slice A1 l1.length c1] w fun e w' => e = .returned (.bool r) ∧ Below w.heap.size w w' := by
 have hu68 := Try.underlying68
 have HR0 := Aside0.mk hr0
 have HC0 := Aside0.mk hc0
 clear hr0 hc0
 have HR1 := Aside0.mk hr1
 have HC1 := Aside0.mk hc1
 clear hr1 hc1
 have HB := Aside0.mk (Below.refl w.heap.size w)
 have H : (if (l0.length : Int) = (l1.length : Int) then (laws_eqReplicaS.l0 k l0 l1 0) else (none)) = some r := h
 clear h
 by_cases c3 : (l0.length : Int) = (l1.length : Int)
 ·rw [if_pos c3] at H
  have c3b0 : ((l0.length : Int) == (l1.length : Int)) = true := beq_iff_eq.mpr c3
  have c3b1 : ((l0.length : Int) != (l1.length : Int)) = false := bne_eq_false_iff_eq.mpr c3
  have c3b2 : (l0.length == l1.length) = true := by first | simpa using c3 | (simp at c3 ⊢; omega)
  clear c3
  have H' := Aside0.mk H
  clear H
  go_enter Try.func122, Try.ntmps122
  go_wp2
  go_loopg [5] k (fun kq v5 w' => ∃ (x5_1 : Int), v5 = .int .i64 x5_1 ∧ Aside0 (laws_eqReplicaS.l0 kq l0 l1 x5_1 = some r) ∧ Aside0 (kq ≤ k) ∧ Aside0 (Below w.heap.size w w'))
  case atStart => exact ⟨(0), (by first | rfl | (simp; done) | (simp [*]; done)), H', ⟨Nat.le_refl _⟩, ⟨by repeat (first | (with_reducible first | exact HB.out | apply below_alloc | apply pw_below_drewN | apply below_drew1) | exact HB.out)⟩⟩
  case round =>
   clear H'
   try clear c1
   try clear p2
   try clear c3
   try clear c3b0
   try clear c3b1
   try clear c3b2
   obtain ⟨x5_1, rfl, HA, HK1, HB⟩ := hrel
   cases gk with
   | zero => exact absurd HA.out (by simp [laws_eqReplicaS.l0])
   | succ k1 =>
    have H := HA.out
    clear HA
    simp only [laws_eqReplicaS.l0] at H
    by_cases c4 : x5_1 < (l0.length : Int)
    ·rw [if_pos c4] at H
     have c4b0 : decide (x5_1 < (l0.length : Int)) = true := decide_eq_true c4
     clear c4
     by_cases c5 : 0 ≤ x5_1
     ·rw [if_pos c5] at H
      have c5b0 : decide (0 ≤ x5_1) = true := decide_eq_true c5
      clear c5
      by_cases c6 : x5_1 < (l1.length : Int)
      ·rw [if_pos c6] at H
       have c6b0 : decide (x5_1 < (l1.length : Int)) = true := decide_eq_true c6
       clear c6
       replace H := Option.bind_eq_some_iff.mp H
       obtain ⟨t209, A70, H⟩ := H
       replace H : (if t209 = true then (laws_eqReplicaS.l0 k1 l0 l1 (wrap64 (x5_1 + 1))) else (none)) = some r := H
       have A7 := Aside0.mk A70
       clear A70
       by_cases c8 : t209 = true
       ·subst c8
        have H1 : (laws_eqReplicaS.l0 k1 l0 l1 (wrap64 (x5_1 + 1))) = some r := by rw [if_pos rfl] at H; exact H
        clear H
        have H := H1
        clear H1
        have H' := Aside0.mk H
        clear H
        try go_wp2
        have n0_ := Aside0.mk (below_drew1 HB.out)
        clear HB
        have HB := n0_
        clear n0_
        have p207 : 0 ≤ (x5_1 : Int) := of_decide_eq_true (by first | (with_reducible assumption) | assumption)
        have q207 : x5_1 < (l0.length : Int) := of_decide_eq_true (by first | (with_reducible assumption) | assumption)
        obtain ⟨ad207, A207_8, c207_8, A207_9, c207_9, A207_10, c207_10, A207_11, c207_11, A207_12, c207_12, A207_13, c207_13, e207, hx207_0, hx207_1, hx207_2, hx207_3, hx207_4, hx207_5, hx207_6, hx207_7, hx207_8, hx207_9, hx207_10, hx207_11, hx207_12, hx207_13, hl207_8, hi207_8, hl207_9, hi207_9, hl207_10, hi207_10, hl207_11, hi207_11, hl207_12, hi207_12, hl207_13, hi207_13⟩ := at_T68 HR0.out x5_1 p207 q207
        have hw207_13 := hx207_13
        have hw207_12 := hx207_12
        have hw207_11 := hx207_11
        have hw207_10 := hx207_10
        have hw207_9 := hx207_9
        have hw207_8 := hx207_8
        have hw207_7 := hx207_7
        have hw207_6 := hx207_6
        have hw207_5 := hx207_5
        have hw207_4 := hx207_4
        have hw207_3 := hx207_3
        have hw207_2 := hx207_2
        have hw207_1 := hx207_1
        have hw207_0 := hx207_0
        cases e207
        replace hx207_0 := (HB.out.cell (World.block_lt_of_cell? w _ hx207_0)).trans hx207_0
        replace hx207_1 := (HB.out.cell (World.block_lt_of_cell? w _ hx207_1)).trans hx207_1
        replace hx207_2 := (HB.out.cell (World.block_lt_of_cell? w _ hx207_2)).trans hx207_2
        replace hx207_3 := (HB.out.cell (World.block_lt_of_cell? w _ hx207_3)).trans hx207_3
        replace hx207_4 := (HB.out.cell (World.block_lt_of_cell? w _ hx207_4)).trans hx207_4
        replace hx207_5 := (HB.out.cell (World.block_lt_of_cell? w _ hx207_5)).trans hx207_5
        replace hx207_6 := (HB.out.cell (World.block_lt_of_cell? w _ hx207_6)).trans hx207_6
        replace hx207_7 := (HB.out.cell (World.block_lt_of_cell? w _ hx207_7)).trans hx207_7
        replace hx207_8 := (HB.out.cell (World.block_lt_of_cell? w _ hx207_8)).trans hx207_8
        replace hx207_9 := (HB.out.cell (World.block_lt_of_cell? w _ hx207_9)).trans hx207_9
        replace hx207_10 := (HB.out.cell (World.block_lt_of_cell? w _ hx207_10)).trans hx207_10
        replace hx207_11 := (HB.out.cell (World.block_lt_of_cell? w _ hx207_11)).trans hx207_11
        replace hx207_12 := (HB.out.cell (World.block_lt_of_cell? w _ hx207_12)).trans hx207_12
        replace hx207_13 := (HB.out.cell (World.block_lt_of_cell? w _ hx207_13)).trans hx207_13
        have HR207_8 := Aside0.mk hi207_8
        have HC207_8 := Aside0.mk hl207_8
        clear hi207_8 hl207_8
        have HR207_9 := Aside0.mk hi207_9
        have HC207_9 := Aside0.mk hl207_9
        clear hi207_9 hl207_9
        have HR207_10 := Aside0.mk hi207_10
        have HC207_10 := Aside0.mk hl207_10
        clear hi207_10 hl207_10
        have HR207_11 := Aside0.mk hi207_11
        have HC207_11 := Aside0.mk hl207_11
        clear hi207_11 hl207_11
        have HR207_12 := Aside0.mk hi207_12
        have HC207_12 := Aside0.mk hl207_12
        clear hi207_12 hl207_12
        have HR207_13 := Aside0.mk hi207_13
        have HC207_13 := Aside0.mk hl207_13
        clear hi207_13 hl207_13
        replace p207 := eq_true p207
        replace q207 := eq_true q207
        have p208 : 0 ≤ (x5_1 : Int) := of_decide_eq_true (by first | (with_reducible assumption) | assumption)
        have q208 : x5_1 < (l1.length : Int) := of_decide_eq_true (by first | (with_reducible assumption) | assumption)
        obtain ⟨ad208, A208_8, c208_8, A208_9, c208_9, A208_10, c208_10, A208_11, c208_11, A208_12, c208_12, A208_13, c208_13, e208, hx208_0, hx208_1, hx208_2, hx208_3, hx208_4, hx208_5, hx208_6, hx208_7, hx208_8, hx208_9, hx208_10, hx208_11, hx208_12, hx208_13, hl208_8, hi208_8, hl208_9, hi208_9, hl208_10, hi208_10, hl208_11, hi208_11, hl208_12, hi208_12, hl208_13, hi208_13⟩ := at_T68 HR1.out x5_1 p208 q208
        have hw208_13 := hx208_13
        have hw208_12 := hx208_12
        have hw208_11 := hx208_11
        have hw208_10 := hx208_10
        have hw208_9 := hx208_9
        have hw208_8 := hx208_8
        have hw208_7 := hx208_7
        have hw208_6 := hx208_6
        have hw208_5 := hx208_5
        have hw208_4 := hx208_4
        have hw208_3 := hx208_3
        have hw208_2 := hx208_2
        have hw208_1 := hx208_1
        have hw208_0 := hx208_0
        cases e208
        replace hx208_0 := (HB.out.cell (World.block_lt_of_cell? w _ hx208_0)).trans hx208_0
        replace hx208_1 := (HB.out.cell (World.block_lt_of_cell? w _ hx208_1)).trans hx208_1
        replace hx208_2 := (HB.out.cell (World.block_lt_of_cell? w _ hx208_2)).trans hx208_2
        replace hx208_3 := (HB.out.cell (World.block_lt_of_cell? w _ hx208_3)).trans hx208_3
        replace hx208_4 := (HB.out.cell (World.block_lt_of_cell? w _ hx208_4)).trans hx208_4
        replace hx208_5 := (HB.out.cell (World.block_lt_of_cell? w _ hx208_5)).trans hx208_5
        replace hx208_6 := (HB.out.cell (World.block_lt_of_cell? w _ hx208_6)).trans hx208_6
        replace hx208_7 := (HB.out.cell (World.block_lt_of_cell? w _ hx208_7)).trans hx208_7
        replace hx208_8 := (HB.out.cell (World.block_lt_of_cell? w _ hx208_8)).trans hx208_8
        replace hx208_9 := (HB.out.cell (World.block_lt_of_cell? w _ hx208_9)).trans hx208_9
        replace hx208_10 := (HB.out.cell (World.block_lt_of_cell? w _ hx208_10)).trans hx208_10
        replace hx208_11 := (HB.out.cell (World.block_lt_of_cell? w _ hx208_11)).trans hx208_11
        replace hx208_12 := (HB.out.cell (World.block_lt_of_cell? w _ hx208_12)).trans hx208_12
        replace hx208_13 := (HB.out.cell (World.block_lt_of_cell? w _ hx208_13)).trans hx208_13
        have HR208_8 := Aside0.mk hi208_8
        have HC208_8 := Aside0.mk hl208_8
        clear hi208_8 hl208_8
        have HR208_9 := Aside0.mk hi208_9
        have HC208_9 := Aside0.mk hl208_9
        clear hi208_9 hl208_9
        have HR208_10 := Aside0.mk hi208_10
        have HC208_10 := Aside0.mk hl208_10
        clear hi208_10 hl208_10
        have HR208_11 := Aside0.mk hi208_11
        have HC208_11 := Aside0.mk hl208_11
        clear hi208_11 hl208_11
        have HR208_12 := Aside0.mk hi208_12
        have HC208_12 := Aside0.mk hl208_12
        clear hi208_12 hl208_12
        have HR208_13 := Aside0.mk hi208_13
        have HC208_13 := Aside0.mk hl208_13
        clear hi208_13 hl208_13
        replace p208 := eq_true p208
        replace q208 := eq_true q208
        refine start_ (n := 10) (S := fun w' => w'.cell? (ad207.add ((x5_1).toNat * 14)) = some (.int .i64 ((rd_T68 l0 x5_1).f0)) ∧ w'.cell? ⟨(ad207.add ((x5_1).toNat * 14)).block, (ad207.add ((x5_1).toNat * 14)).off + 1, none⟩ = some (.int .i64 ((rd_T68 l0 x5_1).f1)) ∧ w'.cell? ⟨(ad207.add ((x5_1).toNat * 14)).block, (ad207.add ((x5_1).toNat * 14)).off + 2, none⟩ = some (.int .i64 ((rd_T68 l0 x5_1).f2)) ∧ w'.cell? ⟨(ad207.add ((x5_1).toNat * 14)).block, (ad207.add ((x5_1).toNat * 14)).off + 3, none⟩ = some (.int .i64 ((rd_T68 l0 x5_1).f3)) ∧ w'.cell? ⟨(ad207.add ((x5_1).toNat * 14)).block, (ad207.add ((x5_1).toNat * 14)).off + 4, none⟩ = some (.int .i64 ((rd_T68 l0 x5_1).f4)) ∧ w'.cell? ⟨(ad207.add ((x5_1).toNat * 14)).block, (ad207.add ((x5_1).toNat * 14)).off + 5, none⟩ = some (.int .i64 ((rd_T68 l0 x5_1).f5)) ∧ w'.cell? ⟨(ad207.add ((x5_1).toNat * 14)).block, (ad207.add ((x5_1).toNat * 14)).off + 6, none⟩ = some (.int .i64 ((rd_T68 l0 x5_1).f6.f0)) ∧ w'.cell? ⟨(ad207.add ((x5_1).toNat * 14)).block, (ad207.add ((x5_1).toNat * 14)).off + 7, none⟩ = some (.int .i64 ((rd_T68 l0 x5_1).f6.f1)) ∧ w'.cell? ⟨(ad207.add ((x5_1).toNat * 14)).block, (ad207.add ((x5_1).toNat * 14)).off + 8, none⟩ = some (.slice A207_8 ((rd_T68 l0 x5_1).f6.f2).length c207_8) ∧ w'.cell? ⟨(ad207.add ((x5_1).toNat * 14)).block, (ad207.add ((x5_1).toNat * 14)).off + 9, none⟩ = some (.slice A207_9 ((rd_T68 l0 x5_1).f6.f3).length c207_9) ∧ w'.cell? ⟨(ad207.add ((x5_1).toNat * 14)).block, (ad207.add ((x5_1).toNat * 14)).off + 10, none⟩ = some (.slice A207_10 ((rd_T68 l0 x5_1).f7).length c207_10) ∧ w'.cell? ⟨(ad207.add ((x5_1).toNat * 14)).block, (ad207.add ((x5_1).toNat * 14)).off + 11, none⟩ = some (.slice A207_11 ((rd_T68 l0 x5_1).f8).length c207_11) ∧ w'.cell? ⟨(ad207.add ((x5_1).toNat * 14)).block, (ad207.add ((x5_1).toNat * 14)).off + 12, none⟩ = some (.slice A207_12 ((rd_T68 l0 x5_1).f9).length c207_12) ∧ w'.cell? ⟨(ad207.add ((x5_1).toNat * 14)).block, (ad207.add ((x5_1).toNat * 14)).off + 13, none⟩ = some (.slice A207_13 ((rd_T68 l0 x5_1).f10).length c207_13) ∧ w'.cell? (ad208.add ((x5_1).toNat * 14)) = some (.int .i64 ((rd_T68 l1 x5_1).f0)) ∧ w'.cell? ⟨(ad208.add ((x5_1).toNat * 14)).block, (ad208.add ((x5_1).toNat * 14)).off + 1, none⟩ = some (.int .i64 ((rd_T68 l1 x5_1).f1)) ∧ w'.cell? ⟨(ad208.add ((x5_1).toNat * 14)).block, (ad208.add ((x5_1).toNat * 14)).off + 2, none⟩ = some (.int .i64 ((rd_T68 l1 x5_1).f2)) ∧ w'.cell? ⟨(ad208.add ((x5_1).toNat * 14)).block, (ad208.add ((x5_1).toNat * 14)).off + 3, none⟩ = some (.int .i64 ((rd_T68 l1 x5_1).f3)) ∧ w'.cell? ⟨(ad208.add ((x5_1).toNat * 14)).block, (ad208.add ((x5_1).toNat * 14)).off + 4, none⟩ = some (.int .i64 ((rd_T68 l1 x5_1).f4)) ∧ w'.cell? ⟨(ad208.add ((x5_1).toNat * 14)).block, (ad208.add ((x5_1).toNat * 14)).off + 5, none⟩ = some (.int .i64 ((rd_T68 l1 x5_1).f5)) ∧ w'.cell? ⟨(ad208.add ((x5_1).toNat * 14)).block, (ad208.add ((x5_1).toNat * 14)).off + 6, none⟩ = some (.int .i64 ((rd_T68 l1 x5_1).f6.f0)) ∧ w'.cell? ⟨(ad208.add ((x5_1).toNat * 14)).block, (ad208.add ((x5_1).toNat * 14)).off + 7, none⟩ = some (.int .i64 ((rd_T68 l1 x5_1).f6.f1)) ∧ w'.cell? ⟨(ad208.add ((x5_1).toNat * 14)).block, (ad208.add ((x5_1).toNat * 14)).off + 8, none⟩ = some (.slice A208_8 ((rd_T68 l1 x5_1).f6.f2).length c208_8) ∧ w'.cell? ⟨(ad208.add ((x5_1).toNat * 14)).block, (ad208.add ((x5_1).toNat * 14)).off + 9, none⟩ = some (.slice A208_9 ((rd_T68 l1 x5_1).f6.f3).length c208_9) ∧ w'.cell? ⟨(ad208.add ((x5_1).toNat * 14)).block, (ad208.add ((x5_1).toNat * 14)).off + 10, none⟩ = some (.slice A208_10 ((rd_T68 l1 x5_1).f7).length c208_10) ∧ w'.cell? ⟨(ad208.add ((x5_1).toNat * 14)).block, (ad208.add ((x5_1).toNat * 14)).off + 11, none⟩ = some (.slice A208_11 ((rd_T68 l1 x5_1).f8).length c208_11) ∧ w'.cell? ⟨(ad208.add ((x5_1).toNat * 14)).block, (ad208.add ((x5_1).toNat * 14)).off + 12, none⟩ = some (.slice A208_12 ((rd_T68 l1 x5_1).f9).length c208_12) ∧ w'.cell? ⟨(ad208.add ((x5_1).toNat * 14)).block, (ad208.add ((x5_1).toNat * 14)).off + 13, none⟩ = some (.slice A208_13 ((rd_T68 l1 x5_1).f10).length c208_13)) (ds := []) (bA 10 0) (by kernel_rfl) rfl rfl ⟨((HB.out.cell (World.block_lt_of_cell? w _ hw207_0)).trans hw207_0), ((HB.out.cell (World.block_lt_of_cell? w _ hw207_1)).trans hw207_1), ((HB.out.cell (World.block_lt_of_cell? w _ hw207_2)).trans hw207_2), ((HB.out.cell (World.block_lt_of_cell? w _ hw207_3)).trans hw207_3), ((HB.out.cell (World.block_lt_of_cell? w _ hw207_4)).trans hw207_4), ((HB.out.cell (World.block_lt_of_cell? w _ hw207_5)).trans hw207_5), ((HB.out.cell (World.block_lt_of_cell? w _ hw207_6)).trans hw207_6), ((HB.out.cell (World.block_lt_of_cell? w _ hw207_7)).trans hw207_7), ((HB.out.cell (World.block_lt_of_cell? w _ hw207_8)).trans hw207_8), ((HB.out.cell (World.block_lt_of_cell? w _ hw207_9)).trans hw207_9), ((HB.out.cell (World.block_lt_of_cell? w _ hw207_10)).trans hw207_10), ((HB.out.cell (World.block_lt_of_cell? w _ hw207_11)).trans hw207_11), ((HB.out.cell (World.block_lt_of_cell? w _ hw207_12)).trans hw207_12), ((HB.out.cell (World.block_lt_of_cell? w _ hw207_13)).trans hw207_13), ((HB.out.cell (World.block_lt_of_cell? w _ hw208_0)).trans hw208_0), ((HB.out.cell (World.block_lt_of_cell? w _ hw208_1)).trans hw208_1), ((HB.out.cell (World.block_lt_of_cell? w _ hw208_2)).trans hw208_2), ((HB.out.cell (World.block_lt_of_cell? w _ hw208_3)).trans hw208_3), ((HB.out.cell (World.block_lt_of_cell? w _ hw208_4)).trans hw208_4), ((HB.out.cell (World.block_lt_of_cell? w _ hw208_5)).trans hw208_5), ((HB.out.cell (World.block_lt_of_cell? w _ hw208_6)).trans hw208_6), ((HB.out.cell (World.block_lt_of_cell? w _ hw208_7)).trans hw208_7), ((HB.out.cell (World.block_lt_of_cell? w _ hw208_8)).trans hw208_8), ((HB.out.cell (World.block_lt_of_cell? w _ hw208_9)).trans hw208_9), ((HB.out.cell (World.block_lt_of_cell? w _ hw208_10)).trans hw208_10), ((HB.out.cell (World.block_lt_of_cell? w _ hw208_11)).trans hw208_11), ((HB.out.cell (World.block_lt_of_cell? w _ hw208_12)).trans hw208_12), ((HB.out.cell (World.block_lt_of_cell? w _ hw208_13)).trans hw208_13)⟩ (fun hHeld => ?_); refine with_tabW laws_eqReplicaS.tab6 laws_eqReplicaS.bits6 (fun HT_ HW_ => ?_)
        generalize wr.drew = w9 at HB HR207_10 HR207_11 HR207_12 HR207_13 HR207_8 HR207_9 HR208_10 HR208_11 HR208_12 HR208_13 HR208_8 HR208_9 hx207_0 hx207_1 hx207_10 hx207_11 hx207_12 hx207_13 hx207_2 hx207_3 hx207_4 hx207_5 hx207_6 hx207_7 hx207_8 hx207_9 hx208_0 hx208_1 hx208_10 hx208_11 hx208_12 hx208_13 hx208_2 hx208_3 hx208_4 hx208_5 hx208_6 hx208_7 hx208_8 hx208_9 hHeld ⊢
        refine pv (i := 0) (N := some 17) (bA 10 1) rfl rfl (any_of HT_.out (by kernel_rfl)) ?_
        refine pv (i := 1) (N := some 18) (bA 10 3) rfl rfl (any_of HT_.out (by kernel_rfl)) ?_
        refine pv (i := 2) (N := some 19) (bA 10 7) rfl rfl (any_of HT_.out (by kernel_rfl)) ?_
        refine pv (i := 4) (N := some 21) (bA 10 23) rfl rfl (any_of HT_.out (by kernel_rfl)) ?_
        refine pv (i := 5) (N := some 22) (bA 10 55) rfl rfl (any_of HT_.out (by kernel_rfl)) ?_
        refine pv (i := 6) (N := some 23) (bA 10 119) rfl rfl (any_of HT_.out (by kernel_rfl)) ?_
        refine take_ (i := 3) (N := some 20) (v := ?_) (a' := ?_) (bA 10 127) rfl rfl (take_ofW HT_.out HW_.out (by kernel_rfl)) (fun _ _ _ h => h) (Or.inl ⟨by rfl, ?_⟩) hHeld ?_ ?_
        rotate_left
        ·rintro w' ⟨s0, s1, s2, s3, s4, s5, s6, s7, s8, s9, s10, s11, s12, s13, s14, s15, s16, s17, s18, s19, s20, s21, s22, s23, s24, s25, s26, s27⟩
         go_simp
         with_reducible rfl
        rotate_left
        ·simp only [sp_]
         rfl
        refine take_ (i := 7) (N := some 24) (v := ?_) (a' := ?_) (bA 10 255) rfl rfl (take_ofW HT_.out HW_.out (by kernel_rfl)) (fun _ _ _ h => h) (Or.inl ⟨by rfl, ?_⟩) hHeld ?_ ?_
        rotate_left
        ·rintro w' ⟨s0, s1, s2, s3, s4, s5, s6, s7, s8, s9, s10, s11, s12, s13, s14, s15, s16, s17, s18, s19, s20, s21, s22, s23, s24, s25, s26, s27⟩
         go_simp
         with_reducible rfl
        rotate_left
        ·simp only [sp_]
         rfl
        refine one_ (i := 8) (N := some 25) (bA 10 511) rfl rfl (one_of HT_.out (by kernel_rfl)) (by decide) (fun K hK => ?_)
        refine goes_ Try.func46 (by kernel_rfl) rfl #[.agg #[.int .i64 ((rd_T68 l0 x5_1).f0), .int .i64 ((rd_T68 l0 x5_1).f1), .int .i64 ((rd_T68 l0 x5_1).f2), .int .i64 ((rd_T68 l0 x5_1).f3), .int .i64 ((rd_T68 l0 x5_1).f4), .int .i64 ((rd_T68 l0 x5_1).f5), .int .i64 ((rd_T68 l0 x5_1).f6.f0), .int .i64 ((rd_T68 l0 x5_1).f6.f1), .slice A207_8 ((rd_T68 l0 x5_1).f6.f2).length c207_8, .slice A207_9 ((rd_T68 l0 x5_1).f6.f3).length c207_9, .slice A207_10 ((rd_T68 l0 x5_1).f7).length c207_10, .slice A207_11 ((rd_T68 l0 x5_1).f8).length c207_11, .slice A207_12 ((rd_T68 l0 x5_1).f9).length c207_12, .slice A207_13 ((rd_T68 l0 x5_1).f10).length c207_13], .agg #[.int .i64 ((rd_T68 l1 x5_1).f0), .int .i64 ((rd_T68 l1 x5_1).f1), .int .i64 ((rd_T68 l1 x5_1).f2), .int .i64 ((rd_T68 l1 x5_1).f3), .int .i64 ((rd_T68 l1 x5_1).f4), .int .i64 ((rd_T68 l1 x5_1).f5), .int .i64 ((rd_T68 l1 x5_1).f6.f0), .int .i64 ((rd_T68 l1 x5_1).f6.f1), .slice A208_8 ((rd_T68 l1 x5_1).f6.f2).length c208_8, .slice A208_9 ((rd_T68 l1 x5_1).f6.f3).length c208_9, .slice A208_10 ((rd_T68 l1 x5_1).f7).length c208_10, .slice A208_11 ((rd_T68 l1 x5_1).f8).length c208_11, .slice A208_12 ((rd_T68 l1 x5_1).f9).length c208_12, .slice A208_13 ((rd_T68 l1 x5_1).f10).length c208_13]] (by rfl) rfl rfl (by (try simp only [List.map_toArray, List.map_cons, List.map_nil]); first | done | rfl | (simp only [List.length_drop, List.length_take]; rfl)) ?_
        with_reducible refine (laws_eqReplica.calls k1 ((rd_T68 l0 x5_1).f0) ((rd_T68 l0 x5_1).f1) ((rd_T68 l0 x5_1).f2) ((rd_T68 l0 x5_1).f3) ((rd_T68 l0 x5_1).f4) ((rd_T68 l0 x5_1).f5) ((rd_T68 l0 x5_1).f6.f0) ((rd_T68 l0 x5_1).f6.f1) _ _ ((rd_T68 l0 x5_1).f6.f2) _ _ ((rd_T68 l0 x5_1).f6.f3) _ _ ((rd_T68 l0 x5_1).f7) _ _ ((rd_T68 l0 x5_1).f8) _ _ ((rd_T68 l0 x5_1).f9) _ _ ((rd_T68 l0 x5_1).f10) ((rd_T68 l1 x5_1).f0) ((rd_T68 l1 x5_1).f1) ((rd_T68 l1 x5_1).f2) ((rd_T68 l1 x5_1).f3) ((rd_T68 l1 x5_1).f4) ((rd_T68 l1 x5_1).f5) ((rd_T68 l1 x5_1).f6.f0) ((rd_T68 l1 x5_1).f6.f1) _ _ ((rd_T68 l1 x5_1).f6.f2) _ _ ((rd_T68 l1 x5_1).f6.f3) _ _ ((rd_T68 l1 x5_1).f7) _ _ ((rd_T68 l1 x5_1).f8) _ _ ((rd_T68 l1 x5_1).f9) _ _ ((rd_T68 l1 x5_1).f10) true _ ?side1 ?side2 ?side3 ?side4 ?side5 ?side6 ?side7 ?side8 ?side9 ?side10 ?side11 ?side12 ?side13 ?side14 ?side15 ?side16 ?side17 ?side18 ?side19 ?side20 ?side21 ?side22 ?side23 ?side24 A7.out).mono ?_
        (case side1 => repeat (first | exact (Kd.C_below HR207_8.out HB.out) | (with_reducible refine Kd.C_alloc ?_ _) | (with_reducible refine Kd.C_drewN ?_ _) | (with_reducible refine Kd.C_drew ?_)))
        (case side2 => exact HC207_8.out)
        (case side3 => repeat (first | exact (Kd.C_below HR207_9.out HB.out) | (with_reducible refine Kd.C_alloc ?_ _) | (with_reducible refine Kd.C_drewN ?_ _) | (with_reducible refine Kd.C_drew ?_)))
        (case side4 => exact HC207_9.out)
        (case side5 => repeat (first | exact (Kd.C_below HR207_10.out HB.out) | (with_reducible refine Kd.C_alloc ?_ _) | (with_reducible refine Kd.C_drewN ?_ _) | (with_reducible refine Kd.C_drew ?_)))
        (case side6 => exact HC207_10.out)
        (case side7 => repeat (first | exact (Kd.C_below HR207_11.out HB.out) | (with_reducible refine Kd.C_alloc ?_ _) | (with_reducible refine Kd.C_drewN ?_ _) | (with_reducible refine Kd.C_drew ?_)))
        (case side8 => exact HC207_11.out)
        (case side9 => repeat (first | exact (Kd.C_below HR207_12.out HB.out) | (with_reducible refine Kd.C_alloc ?_ _) | (with_reducible refine Kd.C_drewN ?_ _) | (with_reducible refine Kd.C_drew ?_)))
        (case side10 => exact HC207_12.out)
        (case side11 => repeat (first | exact (Kd.C_below HR207_13.out HB.out) | (with_reducible refine Kd.C_alloc ?_ _) | (with_reducible refine Kd.C_drewN ?_ _) | (with_reducible refine Kd.C_drew ?_)))
        (case side12 => exact HC207_13.out)
        (case side13 => repeat (first | exact (Kd.C_below HR208_8.out HB.out) | (with_reducible refine Kd.C_alloc ?_ _) | (with_reducible refine Kd.C_drewN ?_ _) | (with_reducible refine Kd.C_drew ?_)))
        (case side14 => exact HC208_8.out)
        (case side15 => repeat (first | exact (Kd.C_below HR208_9.out HB.out) | (with_reducible refine Kd.C_alloc ?_ _) | (with_reducible refine Kd.C_drewN ?_ _) | (with_reducible refine Kd.C_drew ?_)))
        (case side16 => exact HC208_9.out)
        (case side17 => repeat (first | exact (Kd.C_below HR208_10.out HB.out) | (with_reducible refine Kd.C_alloc ?_ _) | (with_reducible refine Kd.C_drewN ?_ _) | (with_reducible refine Kd.C_drew ?_)))
        (case side18 => exact HC208_10.out)
        (case side19 => repeat (first | exact (Kd.C_below HR208_11.out HB.out) | (with_reducible refine Kd.C_alloc ?_ _) | (with_reducible refine Kd.C_drewN ?_ _) | (with_reducible refine Kd.C_drew ?_)))
        (case side20 => exact HC208_11.out)
        (case side21 => repeat (first | exact (Kd.C_below HR208_12.out HB.out) | (with_reducible refine Kd.C_alloc ?_ _) | (with_reducible refine Kd.C_drewN ?_ _) | (with_reducible refine Kd.C_drew ?_)))
        (case side22 => exact HC208_12.out)
        (case side23 => repeat (first | exact (Kd.C_below HR208_13.out HB.out) | (with_reducible refine Kd.C_alloc ?_ _) | (with_reducible refine Kd.C_drewN ?_ _) | (with_reducible refine Kd.C_drew ?_)))
        (case side24 => exact HC208_13.out)
        rintro e w10 ⟨rfl, hb⟩
        refine ⟨_, rfl, ?_⟩
        have n0_ := Aside0.mk (below_step (by repeat (first | (with_reducible first | exact HB.out | apply below_alloc | apply pw_below_drewN | apply below_drew1) | exact HB.out)) hb)
        clear HB
        have HB := n0_
        clear n0_
        (try clear hb)
        (try clear hb2)
        (try clear hk)
        (try clear hi)
        refine hK.out _ _ ⟨((HB.out.cell (World.block_lt_of_cell? w _ hw207_0)).trans hw207_0), ((HB.out.cell (World.block_lt_of_cell? w _ hw207_1)).trans hw207_1), ((HB.out.cell (World.block_lt_of_cell? w _ hw207_2)).trans hw207_2), ((HB.out.cell (World.block_lt_of_cell? w _ hw207_3)).trans hw207_3), ((HB.out.cell (World.block_lt_of_cell? w _ hw207_4)).trans hw207_4), ((HB.out.cell (World.block_lt_of_cell? w _ hw207_5)).trans hw207_5), ((HB.out.cell (World.block_lt_of_cell? w _ hw207_6)).trans hw207_6), ((HB.out.cell (World.block_lt_of_cell? w _ hw207_7)).trans hw207_7), ((HB.out.cell (World.block_lt_of_cell? w _ hw207_8)).trans hw207_8), ((HB.out.cell (World.block_lt_of_cell? w _ hw207_9)).trans hw207_9), ((HB.out.cell (World.block_lt_of_cell? w _ hw207_10)).trans hw207_10), ((HB.out.cell (World.block_lt_of_cell? w _ hw207_11)).trans hw207_11), ((HB.out.cell (World.block_lt_of_cell? w _ hw207_12)).trans hw207_12), ((HB.out.cell (World.block_lt_of_cell? w _ hw207_13)).trans hw207_13), ((HB.out.cell (World.block_lt_of_cell? w _ hw208_0)).trans hw208_0), ((HB.out.cell (World.block_lt_of_cell? w _ hw208_1)).trans hw208_1), ((HB.out.cell (World.block_lt_of_cell? w _ hw208_2)).trans hw208_2), ((HB.out.cell (World.block_lt_of_cell? w _ hw208_3)).trans hw208_3), ((HB.out.cell (World.block_lt_of_cell? w _ hw208_4)).trans hw208_4), ((HB.out.cell (World.block_lt_of_cell? w _ hw208_5)).trans hw208_5), ((HB.out.cell (World.block_lt_of_cell? w _ hw208_6)).trans hw208_6), ((HB.out.cell (World.block_lt_of_cell? w _ hw208_7)).trans hw208_7), ((HB.out.cell (World.block_lt_of_cell? w _ hw208_8)).trans hw208_8), ((HB.out.cell (World.block_lt_of_cell? w _ hw208_9)).trans hw208_9), ((HB.out.cell (World.block_lt_of_cell? w _ hw208_10)).trans hw208_10), ((HB.out.cell (World.block_lt_of_cell? w _ hw208_11)).trans hw208_11), ((HB.out.cell (World.block_lt_of_cell? w _ hw208_12)).trans hw208_12), ((HB.out.cell (World.block_lt_of_cell? w _ hw208_13)).trans hw208_13)⟩ (fun hHeld => ?_)
        clear hK K
        refine norm_ (a' := ?_) ?_ ?_
        rotate_left
        ·show Act.put _ (some 25) _ = _
         simp only [sp_]
         rfl
        refine pv (i := 9) (N := some 26) (bA 10 1023) rfl rfl (any_of HT_.out (by kernel_rfl)) ?_
        refine done_ (done_of HT_.out (by kernel_rfl)) ?_
        try go_wp2
        go_roundg k1
        case measure => have := HK1.out; omega
        case rel => exact ⟨(wrap64 (x5_1 + 1)), (by first | rfl | (simp; done) | (simp [*]; done)), H', ⟨by have := HK1.out; omega⟩, ⟨by repeat (first | (with_reducible first | exact HB.out | apply below_alloc | apply pw_below_drewN | apply below_drew1) | exact HB.out)⟩⟩
       ·replace c8 := Bool.eq_false_iff.mpr c8
        subst c8
        have H1 : (none) = some r := by rw [if_neg (show ¬ (false = true) by decide)] at H; exact H
        clear H
        have H := H1
        clear H1
        exact absurd H (by simp)
      ·rw [if_neg c6] at H
       exact absurd H (by simp)
     ·rw [if_neg c5] at H
      exact absurd H (by simp)
    ·rw [if_neg c4] at H
     have c4b0 : decide (x5_1 < (l0.length : Int)) = false := decide_eq_false c4
     clear c4
     obtain rfl := Option.some.inj H
     go_wp2
     go_ret
     exact ⟨by first | rfl | (simp [errW_none, errW_some] <;> rfl) | (simp [*, errW_none, errW_some] <;> rfl), by repeat (first | (with_reducible first | exact HB.out | apply below_alloc | apply pw_below_drewN | apply below_drew1) | exact HB.out)⟩
 ·rw [if_neg c3] at H
  exact absurd H (by simp)

end Go.Proofs.Ytckgkhlgnblblaa.PFnExactNewCluster
