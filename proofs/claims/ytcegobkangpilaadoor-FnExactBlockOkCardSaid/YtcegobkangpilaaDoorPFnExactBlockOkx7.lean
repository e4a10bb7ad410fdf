-- Written by a program of this session (wip/tools/pp.py over the kit's print).
import Derived.Test.YtcegobkangpilaaDoorPFnExactBlockOkx0
import Derived.Test.YtcegobkangpilaaDoorPFnExactBlockOkx2
import Derived.Test.YtcegobkangpilaaDoorPFnExactBlockOkx5
import Derived.Test.YtcegobkangpilaaDoorPFnExactBlockOkx6
namespace Go.Proofs.YtcegobkangpilaaDoor.PFnExactBlockOk
open Go.RowKit Go.Proofs.YtcegobkangpilaaDoorW.PrintWords Go.Proofs.YtcegobkangpilaaDoorW.PrintLast Go.Proofs.YtcegobkangpilaaDoorW.PrintMore
attribute [local go_sem] max2_int min2_int max_two min_two max_three min_three max_four min_four
attribute [local go_sem high] str_gtr str_leq str_geq
set_option linter.unusedVariables false
set_option linter.unusedSimpArgs false

/-! ### spec_BlockOk: function 56 -/
def spec_BlockOk.f (k : Nat) (a0_0 : Int) (a0_1 : Int) (a0_2 : Int) (a0_3 : Int) (l0_4 : List Int) (l0_5 : List Int) (l0_6 : List ByteArray) (a0_7 : Int) (a1 : Int) : Option (Bool) := (spec_l15Servers.f a1).bind fun t146 => (if t146 = true then ((spec_l1In.f a0_0 1 100000).bind fun t147 => (if t147 = true then (if a1 = 0 then (none) else (if a0_7 = (Int.tmod a0_0 a1) then ((spec_ProofOk.f k a0_2 a0_3 l0_4 l0_5 a1).bind fun t148 => (if t148 = true then (if a0_2 < a0_0 then (if a0_1 = a0_3 then ((spec_l15Moves.f k l0_6).bind fun t149 => (some t149)) else (some false)) else (some false)) else (some false))) else (some false))) else (some false))) else (some false))
theorem spec_BlockOk.mono : ∀ a0 a1 a2 a3 a4 a5 a6 a7 a8 k, LeO (spec_BlockOk.f k a0 a1 a2 a3 a4 a5 a6 a7 a8) (spec_BlockOk.f (k + 1) a0 a1 a2 a3 a4 a5 a6 a7 a8) := by
 intro a0 a1 a2 a3 a4 a5 a6 a7 a8 k
 unfold spec_BlockOk.f
 repeat' first
   | (with_reducible exact spec_ProofOk.mono _ _ _ _ _ _)
   | (with_reducible exact spec_l15Moves.mono _ _)
   | (with_reducible exact LeO.refl _)
   | (with_reducible exact LeO.none _)
   | (with_reducible refine LeO.ite ?_ ?_)
   | (with_reducible refine LeO.bind ?_ (fun _ => ?_))
   | exact spec_ProofOk.mono _ _ _ _ _ _
   | exact spec_l15Moves.mono _ _
   | exact LeO.none _
   | refine LeO.ite ?_ ?_
   | refine LeO.bind ?_ (fun _ => ?_)
def spec_BlockOk.T1 : Bool × List (List Nat × List Nat) := (true, [([], []), ([0], [0]), ([1, 1], [1]), ([2], [2]), ([3, 2], [2, 3]), ([4, 2, 2], [2, 4]), ([2, 5], [2, 5]), ([6, 5], [6]), ([7], [7]), ([8, 7], [7, 8]), ([7], [7]), ([10, 7], [7, 10]), ([7], [7]), ([11, 12, 7], [7, 11, 12]), ([9, 13, 7], [7, 9, 13]), ([7, 14], [7, 14]), ([15, 7], [15]), ([16], [16]), ([17, 16], [16, 17]), ([16], [16]), ([18, 19, 16, 16], [16, 18, 19]), ([16, 20], [16, 20]), ([21, 20], [21]), ([22], [22]), ([23, 22], [22, 23]), ([24, 22], [22, 24]), ([22], [22]), ([26, 22], [22, 26]), ([25, 27, 22], [22, 25, 27]), ([22, 28], [22, 28]), ([29, 22], [29]), ([30], [30]), ([31, 30], [30, 31]), ([30], [30]), ([33, 30], [30, 33]), ([34, 30], [30, 34]), ([32, 35, 30], [30, 32, 35]), ([30, 36], [30, 36]), ([37, 30], [37]), ([38], [38]), ([39, 38], [38, 39]), ([40, 38, 38], [38, 40]), ([38, 41], [38, 41]), ([42, 41, 0, 1, 2, 3, 4, 5, 6, 7, 8, 9, 10, 11, 12, 13, 14, 15, 16, 17, 18, 19, 20, 21, 22, 23, 24, 25, 26, 27, 28, 29, 30, 31, 32, 33, 34, 35, 36, 37, 38, 39, 40, 41, 42], [42])])
def spec_BlockOk.B1 : List Nat := [0, 1, 3, 7, 15, 31, 63, 127, 255, 511, 255, 1279, 255, 7423, 16383, 32767, 65535, 131071, 262143, 131071, 1048575, 2097151, 4194303, 8388607, 16777215, 33554431, 8388607, 75497471, 268435455, 536870911, 1073741823, 2147483647, 4294967295, 2147483647, 10737418239, 27917287423, 68719476735, 137438953471, 274877906943, 549755813887, 1099511627775, 2199023255551, 4398046511103, 8796093022207]
theorem spec_BlockOk.tab1 : rtab .any (opsOf Tryd.f56 1) = spec_BlockOk.T1 := by kernel_rfl
theorem spec_BlockOk.bits1 : waitsOk spec_BlockOk.T1.2 spec_BlockOk.B1 = true := by kernel_rfl
set_option maxHeartbeats 8000000 in
set_option maxRecDepth 100000 in
theorem spec_BlockOk.calls (k : Nat) (a0_0 : Int) (a0_1 : Int) (a0_2 : Int) (a0_3 : Int) (A0_4 : Option Addr) (c0_4 : Nat) (l0_4 : List Int) (A0_5 : Option Addr) (c0_5 : Nat) (l0_5 : List Int) (A0_6 : Option Addr) (c0_6 : Nat) (l0_6 : List ByteArray) (a0_7 : Int) (a1 : Int) (r : Bool) (w : World) (hr0_4 : Kd.C (Kd.int .i64) w A0_4 l0_4.length l0_4) (hc0_4 : l0_4.length ≤ c0_4) (hr0_5 : Kd.C (Kd.int .i64) w A0_5 l0_5.length l0_5) (hc0_5 : l0_5.length ≤ c0_5) (hr0_6 : Kd.C Kd.string w A0_6 l0_6.length l0_6) (hc0_6 : l0_6.length ≤ c0_6) (h : spec_BlockOk.f k a0_0 a0_1 a0_2 a0_3 l0_4 l0_5 l0_6 a0_7 a1 = some r) :
  Calls Tryd.prog 56 #[.agg #[.int .i64 a0_0, .int .i64 a0_1, .int .i64 a0_2, .int .i64 a0_3, .slice A0_4 l0_4.length c0_4, .slice A0_5 l0_5.length c0_5, .slice A0_6 l0_6.length c0_6, .int .i64 a0_7], .int .i64 a1] w fun e w' => e = .returned (.bool r) ∧ Below w.heap.size w w' := by
 have hu81 := Tryd.underlying81
 have hu54 := Tryd.underlying54
 have HR0_4 := Aside0.mk hr0_4
 have HC0_4 := Aside0.mk hc0_4
 clear hr0_4 hc0_4
 have HR0_5 := Aside0.mk hr0_5
 have HC0_5 := Aside0.mk hc0_5
 clear hr0_5 hc0_5
 have HR0_6 := Aside0.mk hr0_6
 have HC0_6 := Aside0.mk hc0_6
 clear hr0_6 hc0_6
 have HB := Aside0.mk (Below.refl w.heap.size w)
 have H : ((spec_l15Servers.f a1).bind fun t146 => (if t146 = true then ((spec_l1In.f a0_0 1 100000).bind fun t147 => (if t147 = true then (if a1 = 0 then (none) else (if a0_7 = (Int.tmod a0_0 a1) then ((spec_ProofOk.f k a0_2 a0_3 l0_4 l0_5 a1).bind fun t148 => (if t148 = true then (if a0_2 < a0_0 then (if a0_1 = a0_3 then ((spec_l15Moves.f k l0_6).bind fun t149 => (some t149)) else (some false)) else (some false)) else (some false))) else (some false))) else (some false))) else (some false))) = some r := h
 clear h
 replace H := Option.bind_eq_some_iff.mp H
 obtain ⟨t146, A30, H⟩ := H
 replace H : (if t146 = true then ((spec_l1In.f a0_0 1 100000).bind fun t147 => (if t147 = true then (if a1 = 0 then (none) else (if a0_7 = (Int.tmod a0_0 a1) then ((spec_ProofOk.f k a0_2 a0_3 l0_4 l0_5 a1).bind fun t148 => (if t148 = true then (if a0_2 < a0_0 then (if a0_1 = a0_3 then ((spec_l15Moves.f k l0_6).bind fun t149 => (some t149)) else (some false)) else (some false)) else (some false))) else (some false))) else (some false))) else (some false)) = some r := H
 have A3 := Aside0.mk A30
 clear A30
 by_cases c4 : t146 = true
 ·subst c4
  have H1 : ((spec_l1In.f a0_0 1 100000).bind fun t147 => (if t147 = true then (if a1 = 0 then (none) else (if a0_7 = (Int.tmod a0_0 a1) then ((spec_ProofOk.f k a0_2 a0_3 l0_4 l0_5 a1).bind fun t148 => (if t148 = true then (if a0_2 < a0_0 then (if a0_1 = a0_3 then ((spec_l15Moves.f k l0_6).bind fun t149 => (some t149)) else (some false)) else (some false)) else (some false))) else (some false))) else (some false))) = some r := by rw [if_pos rfl] at H; exact H
  clear H
  have H := H1
  clear H1
  replace H := Option.bind_eq_some_iff.mp H
  obtain ⟨t147, A50, H⟩ := H
  replace H : (if t147 = true then (if a1 = 0 then (none) else (if a0_7 = (Int.tmod a0_0 a1) then ((spec_ProofOk.f k a0_2 a0_3 l0_4 l0_5 a1).bind fun t148 => (if t148 = true then (if a0_2 < a0_0 then (if a0_1 = a0_3 then ((spec_l15Moves.f k l0_6).bind fun t149 => (some t149)) else (some false)) else (some false)) else (some false))) else (some false))) else (some false)) = some r := H
  have A5 := Aside0.mk A50
  clear A50
  by_cases c6 : t147 = true
  ·subst c6
   have H1 : (if a1 = 0 then (none) else (if a0_7 = (Int.tmod a0_0 a1) then ((spec_ProofOk.f k a0_2 a0_3 l0_4 l0_5 a1).bind fun t148 => (if t148 = true then (if a0_2 < a0_0 then (if a0_1 = a0_3 then ((spec_l15Moves.f k l0_6).bind fun t149 => (some t149)) else (some false)) else (some false)) else (some false))) else (some false))) = some r := by rw [if_pos rfl] at H; exact H
   clear H
   have H := H1
   clear H1
   by_cases c7 : a1 = 0
   ·rw [if_pos c7] at H
    exact absurd H (by simp)
   ·rw [if_neg c7] at H
    have c7b0 : (a1 == 0) = false := beq_eq_false_iff_ne.mpr c7
    have c7b1 : (a1 != 0) = true := bne_iff_ne.mpr c7
    by_cases c8 : a0_7 = (Int.tmod a0_0 a1)
    ·rw [if_pos c8] at H
     have c8b0 : (a0_7 == (Int.tmod a0_0 a1)) = true := beq_iff_eq.mpr c8
     have c8b1 : (a0_7 != (Int.tmod a0_0 a1)) = false := bne_eq_false_iff_eq.mpr c8
     clear c8
     replace H := Option.bind_eq_some_iff.mp H
     obtain ⟨t148, A90, H⟩ := H
     replace H : (if t148 = true then (if a0_2 < a0_0 then (if a0_1 = a0_3 then ((spec_l15Moves.f k l0_6).bind fun t149 => (some t149)) else (some false)) else (some false)) else (some false)) = some r := H
     have A9 := Aside0.mk A90
     clear A90
     by_cases c10 : t148 = true
     ·subst c10
      have H1 : (if a0_2 < a0_0 then (if a0_1 = a0_3 then ((spec_l15Moves.f k l0_6).bind fun t149 => (some t149)) else (some false)) else (some false)) = some r := by rw [if_pos rfl] at H; exact H
      clear H
      have H := H1
      clear H1
      by_cases c11 : a0_2 < a0_0
      ·rw [if_pos c11] at H
       have c11b0 : decide (a0_2 < a0_0) = true := decide_eq_true c11
       clear c11
       by_cases c12 : a0_1 = a0_3
       ·rw [if_pos c12] at H
        have c12b0 : (a0_1 == a0_3) = true := beq_iff_eq.mpr c12
        have c12b1 : (a0_1 != a0_3) = false := bne_eq_false_iff_eq.mpr c12
        clear c12
        replace H := Option.bind_eq_some_iff.mp H
        obtain ⟨t149, A130, H⟩ := H
        replace H : (some t149) = some r := H
        have A13 := Aside0.mk A130
        clear A130
        obtain rfl := Option.some.inj H
        go_enter Tryd.func56, Tryd.ntmps56
        try go_wp2_with (first | ((with_reducible refine gate_dst (N := 2) rfl ?_); refine box_event ?hg (N := 2) ?hd (cs := #[.int .i64 a0_0, .int .i64 a0_1, .int .i64 a0_2, .int .i64 a0_3, .slice A0_4 l0_4.length c0_4, .slice A0_5 l0_5.length c0_5, .slice A0_6 l0_6.length c0_6, .int .i64 a0_7]) (t := 81) ?hr ?_; (case hd => rfl); (case hg => rfl); (case hr => first | (go_simp; done) | (go_simp; rfl)); intro gb145 hg w14 hbox hb; have n0_ := Aside0.mk (below_step (by repeat (first | (with_reducible first | exact HB.out | apply below_alloc | apply pw_below_drewN | apply below_drew1) | exact HB.out)) hb); have n1_ := Aside0.mk (hbox); have n2_ := Aside0.mk ((by rw [hg]; exact (below_size (by repeat (first | (with_reducible first | exact HB.out | apply below_alloc | apply pw_below_drewN | apply below_drew1) | exact HB.out))) : w.heap.size ≤ gb145)); have n3_ := Aside0.mk ((by rw [hg]; exact (below_size (by repeat (first | (with_reducible first | exact HB.out | apply below_alloc | apply pw_below_drewN | apply below_drew1) | exact HB.out))) : w.heap.size ≤ gb145)); clear HB; have HB := n0_; have BK145 := n1_; have GW145 := n2_; have GE145 := n3_; clear n0_ n1_ n2_ n3_; clear hb hbox hg))
        have n0_ := Aside0.mk (blk_drew BK145.out)
        have n1_ := Aside0.mk (below_drew1 HB.out)
        clear BK145
        clear HB
        have BK145 := n0_
        have HB := n1_
        clear n0_ n1_
        refine start_ (n := 44) (S := fun w' => w'.cell? ⟨gb145, 0, none⟩ = some (.int .i64 a0_0) ∧ w'.cell? ⟨gb145, 1, none⟩ = some (.int .i64 a0_1) ∧ w'.cell? ⟨gb145, 2, none⟩ = some (.int .i64 a0_2) ∧ w'.cell? ⟨gb145, 3, none⟩ = some (.int .i64 a0_3) ∧ w'.cell? ⟨gb145, 4, none⟩ = some (.slice A0_4 l0_4.length c0_4) ∧ w'.cell? ⟨gb145, 5, none⟩ = some (.slice A0_5 l0_5.length c0_5) ∧ w'.cell? ⟨gb145, 6, none⟩ = some (.slice A0_6 l0_6.length c0_6) ∧ w'.cell? ⟨gb145, 7, none⟩ = some (.int .i64 a0_7)) (ds := []) (bA 44 0) (by kernel_rfl) rfl rfl ⟨(blk_cell BK145.out 0).trans rfl, (blk_cell BK145.out 1).trans rfl, (blk_cell BK145.out 2).trans rfl, (blk_cell BK145.out 3).trans rfl, (blk_cell BK145.out 4).trans rfl, (blk_cell BK145.out 5).trans rfl, (blk_cell BK145.out 6).trans rfl, (blk_cell BK145.out 7).trans rfl⟩ (fun hHeld => ?_); refine with_tabW spec_BlockOk.tab1 spec_BlockOk.bits1 (fun HT_ HW_ => ?_)
        generalize w14.drew = w15 at BK145 HB hHeld ⊢
        refine pv (i := 0) (N := some 5) (bA 44 1) rfl rfl (any_of HT_.out (by kernel_rfl)) ?_
        refine one_ (i := 1) (N := some 6) (bA 44 3) rfl rfl (one_of HT_.out (by kernel_rfl)) (by decide) (fun K hK => ?_)
        refine goes_ Tryd.func73 (by kernel_rfl) rfl #[.int .i64 a1] (by rfl) rfl rfl (by (try simp only [List.map_toArray, List.map_cons, List.map_nil]); first | done | rfl | (simp only [List.length_drop, List.length_take]; rfl)) ?_
        with_reducible refine (spec_l15Servers.calls a1 true _ A3.out).mono ?_
        rintro e w' ⟨rfl, ⟨nd, rfl⟩⟩
        refine ⟨_, rfl, ?_⟩
        refine hK.out _ _ ⟨(blk_cell BK145.out 0).trans rfl, (blk_cell BK145.out 1).trans rfl, (blk_cell BK145.out 2).trans rfl, (blk_cell BK145.out 3).trans rfl, (blk_cell BK145.out 4).trans rfl, (blk_cell BK145.out 5).trans rfl, (blk_cell BK145.out 6).trans rfl, (blk_cell BK145.out 7).trans rfl⟩ (fun hHeld => ?_)
        clear hK K
        refine norm_ (a' := ?_) ?_ ?_
        rotate_left
        ·show Act.put _ (some 6) _ = _
         simp only [sp_]
         rfl
        refine pv (i := 2) (N := some 7) (bA 44 7) rfl rfl (any_of HT_.out (by kernel_rfl)) ?_
        refine pv (i := 3) (N := some 8) (bA 44 15) rfl rfl (any_of HT_.out (by kernel_rfl)) ?_
        refine take_ (i := 4) (N := some 9) (v := ?_) (a' := ?_) (bA 44 31) rfl rfl (take_ofW HT_.out HW_.out (by kernel_rfl)) (fun _ _ _ h => h) (Or.inl ⟨by rfl, ?_⟩) hHeld ?_ ?_
        rotate_left
        ·rintro w' ⟨s0, s1, s2, s3, s4, s5, s6, s7⟩
         go_simp
         with_reducible rfl
        rotate_left
        ·simp only [sp_]
         rfl
        refine one_ (i := 5) (N := some 10) (bA 44 63) rfl rfl (one_of HT_.out (by kernel_rfl)) (by decide) (fun K hK => ?_)
        refine goes_ Tryd.func74 (by kernel_rfl) rfl #[.int .i64 a0_0, .int .i64 1, .int .i64 100000] (by rfl) rfl rfl (by (try simp only [List.map_toArray, List.map_cons, List.map_nil]); first | done | rfl | (simp only [List.length_drop, List.length_take]; rfl)) ?_
        with_reducible refine (spec_l1In.calls a0_0 1 100000 true _ A5.out).mono ?_
        rintro e w' ⟨rfl, ⟨nd, rfl⟩⟩
        refine ⟨_, rfl, ?_⟩
        refine hK.out _ _ ⟨(blk_cell BK145.out 0).trans rfl, (blk_cell BK145.out 1).trans rfl, (blk_cell BK145.out 2).trans rfl, (blk_cell BK145.out 3).trans rfl, (blk_cell BK145.out 4).trans rfl, (blk_cell BK145.out 5).trans rfl, (blk_cell BK145.out 6).trans rfl, (blk_cell BK145.out 7).trans rfl⟩ (fun hHeld => ?_)
        clear hK K
        refine norm_ (a' := ?_) ?_ ?_
        rotate_left
        ·show Act.put _ (some 10) _ = _
         simp only [sp_]
         rfl
        refine pv (i := 6) (N := some 11) (bA 44 127) rfl rfl (any_of HT_.out (by kernel_rfl)) ?_
        refine pv (i := 7) (N := some 12) (bA 44 255) rfl rfl (any_of HT_.out (by kernel_rfl)) ?_
        refine pv (i := 8) (N := some 13) (bA 44 511) rfl rfl (any_of HT_.out (by kernel_rfl)) ?_
        refine pv (i := 10) (N := some 15) (bA 44 1535) rfl rfl (any_of HT_.out (by kernel_rfl)) ?_
        refine pv (i := 12) (N := some 17) (bA 44 5631) rfl rfl (any_of HT_.out (by kernel_rfl)) ?_
        refine take_ (i := 9) (N := some 14) (v := ?_) (a' := ?_) (bA 44 6143) rfl rfl (take_ofW HT_.out HW_.out (by kernel_rfl)) (fun _ _ _ h => h) (Or.inl ⟨by rfl, ?_⟩) hHeld ?_ ?_
        rotate_left
        ·rintro w' ⟨s0, s1, s2, s3, s4, s5, s6, s7⟩
         go_simp
         with_reducible rfl
        rotate_left
        ·simp only [sp_]
         rfl
        refine take_ (i := 11) (N := some 16) (v := ?_) (a' := ?_) (bA 44 8191) rfl rfl (take_ofW HT_.out HW_.out (by kernel_rfl)) (fun _ _ _ h => h) (Or.inl ⟨by rfl, ?_⟩) hHeld ?_ ?_
        rotate_left
        ·rintro w' ⟨s0, s1, s2, s3, s4, s5, s6, s7⟩
         go_simp
         with_reducible rfl
        rotate_left
        ·simp only [sp_]
         rfl
        refine pv (i := 13) (N := some 18) (bA 44 16383) rfl rfl (any_of HT_.out (by kernel_rfl)) ?_
        refine pv (i := 14) (N := some 19) (bA 44 32767) rfl rfl (any_of HT_.out (by kernel_rfl)) ?_
        refine pv (i := 15) (N := some 20) (bA 44 65535) rfl rfl (any_of HT_.out (by kernel_rfl)) ?_
        refine pv (i := 16) (N := some 21) (bA 44 131071) rfl rfl (any_of HT_.out (by kernel_rfl)) ?_
        refine pv (i := 17) (N := some 22) (bA 44 262143) rfl rfl (any_of HT_.out (by kernel_rfl)) ?_
        refine pv (i := 19) (N := some 24) (bA 44 786431) rfl rfl (any_of HT_.out (by kernel_rfl)) ?_
        refine take_ (i := 18) (N := some 23) (v := ?_) (a' := ?_) (bA 44 1048575) rfl rfl (take_ofW HT_.out HW_.out (by kernel_rfl)) (fun _ _ _ h => h) (Or.inl ⟨by rfl, ?_⟩) hHeld ?_ ?_
        rotate_left
        ·rintro w' ⟨s0, s1, s2, s3, s4, s5, s6, s7⟩
         go_simp
         with_reducible rfl
        rotate_left
        ·simp only [sp_]
         rfl
        refine one_ (i := 20) (N := some 25) (bA 44 2097151) rfl rfl (one_of HT_.out (by kernel_rfl)) (by decide) (fun K hK => ?_)
        refine goes_ Tryd.func36 (by kernel_rfl) rfl #[.agg #[.int .i64 a0_2, .int .i64 a0_3, .slice A0_4 l0_4.length c0_4, .slice A0_5 l0_5.length c0_5], .int .i64 a1] (by rfl) rfl rfl (by (try simp only [List.map_toArray, List.map_cons, List.map_nil]); first | done | rfl | (simp only [List.length_drop, List.length_take]; rfl)) ?_
        with_reducible refine (spec_ProofOk.calls k a0_2 a0_3 _ _ l0_4 _ _ l0_5 a1 true _ ?side1 ?side2 ?side3 ?side4 A9.out).mono ?_
        (case side1 => repeat (first | exact (Kd.C_below HR0_4.out (by repeat (first | (with_reducible first | exact HB.out | apply below_alloc | apply pw_below_drewN | apply below_drew1 | refine below_set ?_ GE145.out) | exact HB.out))) | (with_reducible refine Kd.C_alloc ?_ _) | (with_reducible refine Kd.C_drewN ?_ _) | (with_reducible refine Kd.C_drew ?_)))
        (case side2 => exact HC0_4.out)
        (case side3 => repeat (first | exact (Kd.C_below HR0_5.out (by repeat (first | (with_reducible first | exact HB.out | apply below_alloc | apply pw_below_drewN | apply below_drew1 | refine below_set ?_ GE145.out) | exact HB.out))) | (with_reducible refine Kd.C_alloc ?_ _) | (with_reducible refine Kd.C_drewN ?_ _) | (with_reducible refine Kd.C_drew ?_)))
        (case side4 => exact HC0_5.out)
        rintro e w16 ⟨rfl, hb⟩
        refine ⟨_, rfl, ?_⟩
        have n0_ := Aside0.mk (blk_below (g := gb145) (o := .cells #[.int .i64 a0_0, .int .i64 a0_1, .int .i64 a0_2, .int .i64 a0_3, .slice A0_4 l0_4.length c0_4, .slice A0_5 l0_5.length c0_5, .slice A0_6 l0_6.length c0_6, .int .i64 a0_7] 81 (0, 0)) (by (with_reducible repeat (first | refine blk_drewN ?_ _ | refine blk_drew ?_ | refine blk_alloc ?_ _)); exact BK145.out) hb)
        have n1_ := Aside0.mk (below_step (by repeat (first | (with_reducible first | exact HB.out | apply below_alloc | apply pw_below_drewN | apply below_drew1 | refine below_set ?_ GE145.out) | exact HB.out)) hb)
        clear BK145
        clear HB
        have BK145 := n0_
        have HB := n1_
        clear n0_ n1_
        (try clear hb)
        (try clear hb2)
        (try clear hk)
        (try clear hi)
        refine hK.out _ _ ⟨(blk_cell BK145.out 0).trans rfl, (blk_cell BK145.out 1).trans rfl, (blk_cell BK145.out 2).trans rfl, (blk_cell BK145.out 3).trans rfl, (blk_cell BK145.out 4).trans rfl, (blk_cell BK145.out 5).trans rfl, (blk_cell BK145.out 6).trans rfl, (blk_cell BK145.out 7).trans rfl⟩ (fun hHeld => ?_)
        clear hK K
        refine norm_ (a' := ?_) ?_ ?_
        rotate_left
        ·show Act.put _ (some 25) _ = _
         simp only [sp_]
         rfl
        refine pv (i := 21) (N := some 26) (bA 44 4194303) rfl rfl (any_of HT_.out (by kernel_rfl)) ?_
        refine pv (i := 22) (N := some 27) (bA 44 8388607) rfl rfl (any_of HT_.out (by kernel_rfl)) ?_
        refine pv (i := 23) (N := some 28) (bA 44 16777215) rfl rfl (any_of HT_.out (by kernel_rfl)) ?_
        refine pv (i := 24) (N := some 29) (bA 44 33554431) rfl rfl (any_of HT_.out (by kernel_rfl)) ?_
        refine pv (i := 26) (N := some 31) (bA 44 100663295) rfl rfl (any_of HT_.out (by kernel_rfl)) ?_
        refine take_ (i := 25) (N := some 30) (v := ?_) (a' := ?_) (bA 44 134217727) rfl rfl (take_ofW HT_.out HW_.out (by kernel_rfl)) (fun _ _ _ h => h) (Or.inl ⟨by rfl, ?_⟩) hHeld ?_ ?_
        rotate_left
        ·rintro w' ⟨s0, s1, s2, s3, s4, s5, s6, s7⟩
         go_simp
         with_reducible rfl
        rotate_left
        ·simp only [sp_]
         rfl
        refine take_ (i := 27) (N := some 32) (v := ?_) (a' := ?_) (bA 44 268435455) rfl rfl (take_ofW HT_.out HW_.out (by kernel_rfl)) (fun _ _ _ h => h) (Or.inl ⟨by rfl, ?_⟩) hHeld ?_ ?_
        rotate_left
        ·rintro w' ⟨s0, s1, s2, s3, s4, s5, s6, s7⟩
         go_simp
         with_reducible rfl
        rotate_left
        ·simp only [sp_]
         rfl
        refine pv (i := 28) (N := some 33) (bA 44 536870911) rfl rfl (any_of HT_.out (by kernel_rfl)) ?_
        refine pv (i := 29) (N := some 34) (bA 44 1073741823) rfl rfl (any_of HT_.out (by kernel_rfl)) ?_
        refine pv (i := 30) (N := some 35) (bA 44 2147483647) rfl rfl (any_of HT_.out (by kernel_rfl)) ?_
        refine pv (i := 31) (N := some 36) (bA 44 4294967295) rfl rfl (any_of HT_.out (by kernel_rfl)) ?_
        refine pv (i := 33) (N := some 38) (bA 44 12884901887) rfl rfl (any_of HT_.out (by kernel_rfl)) ?_
        refine pv (i := 34) (N := some 39) (bA 44 30064771071) rfl rfl (any_of HT_.out (by kernel_rfl)) ?_
        refine take_ (i := 32) (N := some 37) (v := ?_) (a' := ?_) (bA 44 34359738367) rfl rfl (take_ofW HT_.out HW_.out (by kernel_rfl)) (fun _ _ _ h => h) (Or.inl ⟨by rfl, ?_⟩) hHeld ?_ ?_
        rotate_left
        ·rintro w' ⟨s0, s1, s2, s3, s4, s5, s6, s7⟩
         go_simp
         with_reducible rfl
        rotate_left
        ·simp only [sp_]
         rfl
        refine take_ (i := 35) (N := some 40) (v := ?_) (a' := ?_) (bA 44 68719476735) rfl rfl (take_ofW HT_.out HW_.out (by kernel_rfl)) (fun _ _ _ h => h) (Or.inl ⟨by rfl, ?_⟩) hHeld ?_ ?_
        rotate_left
        ·rintro w' ⟨s0, s1, s2, s3, s4, s5, s6, s7⟩
         go_simp
         with_reducible rfl
        rotate_left
        ·simp only [sp_]
         rfl
        refine pv (i := 36) (N := some 41) (bA 44 137438953471) rfl rfl (any_of HT_.out (by kernel_rfl)) ?_
        refine pv (i := 37) (N := some 42) (bA 44 274877906943) rfl rfl (any_of HT_.out (by kernel_rfl)) ?_
        refine pv (i := 38) (N := some 43) (bA 44 549755813887) rfl rfl (any_of HT_.out (by kernel_rfl)) ?_
        refine pv (i := 39) (N := some 44) (bA 44 1099511627775) rfl rfl (any_of HT_.out (by kernel_rfl)) ?_
        refine take_ (i := 40) (N := some 45) (v := ?_) (a' := ?_) (bA 44 2199023255551) rfl rfl (take_ofW HT_.out HW_.out (by kernel_rfl)) (fun _ _ _ h => h) (Or.inl ⟨by rfl, ?_⟩) hHeld ?_ ?_
        rotate_left
        ·rintro w' ⟨s0, s1, s2, s3, s4, s5, s6, s7⟩
         go_simp
         with_reducible rfl
        rotate_left
        ·simp only [sp_]
         rfl
        refine one_ (i := 41) (N := some 46) (bA 44 4398046511103) rfl rfl (one_of HT_.out (by kernel_rfl)) (by decide) (fun K hK => ?_)
        refine goes_ Tryd.func108 (by kernel_rfl) rfl #[.slice A0_6 l0_6.length c0_6] (by rfl) rfl rfl (by (try simp only [List.map_toArray, List.map_cons, List.map_nil]); first | done | rfl | (simp only [List.length_drop, List.length_take]; rfl)) ?_
        with_reducible refine (spec_l15Moves.calls k _ _ l0_6 t149 _ ?side1 ?side2 A13.out).mono ?_
        (case side1 => repeat (first | exact (Kd.C_below HR0_6.out HB.out) | (with_reducible refine Kd.C_alloc ?_ _) | (with_reducible refine Kd.C_drewN ?_ _) | (with_reducible refine Kd.C_drew ?_)))
        (case side2 => exact HC0_6.out)
        rintro e w' ⟨rfl, ⟨nd, rfl⟩⟩
        refine ⟨_, rfl, ?_⟩
        refine hK.out _ _ ⟨(blk_cell BK145.out 0).trans rfl, (blk_cell BK145.out 1).trans rfl, (blk_cell BK145.out 2).trans rfl, (blk_cell BK145.out 3).trans rfl, (blk_cell BK145.out 4).trans rfl, (blk_cell BK145.out 5).trans rfl, (blk_cell BK145.out 6).trans rfl, (blk_cell BK145.out 7).trans rfl⟩ (fun hHeld => ?_)
        clear hK K
        refine norm_ (a' := ?_) ?_ ?_
        rotate_left
        ·show Act.put _ (some 46) _ = _
         simp only [sp_]
         rfl
        refine pv (i := 42) (N := some 47) (bA 44 8796093022207) rfl rfl (any_of HT_.out (by kernel_rfl)) ?_
        refine pv (i := 43) (N := some 4) (bA 44 17592186044415) rfl rfl (any_of HT_.out (by kernel_rfl)) ?_
        refine done_ (done_of HT_.out (by kernel_rfl)) ?_
        try go_wp2
        go_ret
        exact ⟨by first | rfl | (simp [errW_none, errW_some] <;> rfl) | (simp [*, errW_none, errW_some] <;> rfl), by repeat (first | (with_reducible first | exact HB.out | apply below_alloc | apply pw_below_drewN | apply below_drew1 | refine below_set ?_ GE145.out) | exact HB.out)⟩
       ·rw [if_neg c12] at H
        have c12b0 : (a0_1 == a0_3) = false := beq_eq_false_iff_ne.mpr c12
        have c12b1 : (a0_1 != a0_3) = true := bne_iff_ne.mpr c12
        obtain rfl := Option.some.inj H
        go_enter Tryd.func56, Tryd.ntmps56
        try go_wp2_with (first | ((with_reducible refine gate_dst (N := 2) rfl ?_); refine box_event ?hg (N := 2) ?hd (cs := #[.int .i64 a0_0, .int .i64 a0_1, .int .i64 a0_2, .int .i64 a0_3, .slice A0_4 l0_4.length c0_4, .slice A0_5 l0_5.length c0_5, .slice A0_6 l0_6.length c0_6, .int .i64 a0_7]) (t := 81) ?hr ?_; (case hd => rfl); (case hg => rfl); (case hr => first | (go_simp; done) | (go_simp; rfl)); intro gb145 hg w17 hbox hb; have n0_ := Aside0.mk (below_step (by repeat (first | (with_reducible first | exact HB.out | apply below_alloc | apply pw_below_drewN | apply below_drew1) | exact HB.out)) hb); have n1_ := Aside0.mk (hbox); have n2_ := Aside0.mk ((by rw [hg]; exact (below_size (by repeat (first | (with_reducible first | exact HB.out | apply below_alloc | apply pw_below_drewN | apply below_drew1) | exact HB.out))) : w.heap.size ≤ gb145)); have n3_ := Aside0.mk ((by rw [hg]; exact (below_size (by repeat (first | (with_reducible first | exact HB.out | apply below_alloc | apply pw_below_drewN | apply below_drew1) | exact HB.out))) : w.heap.size ≤ gb145)); clear HB; have HB := n0_; have BK145 := n1_; have GW145 := n2_; have GE145 := n3_; clear n0_ n1_ n2_ n3_; clear hb hbox hg))
        have n0_ := Aside0.mk (blk_drew BK145.out)
        have n1_ := Aside0.mk (below_drew1 HB.out)
        clear BK145
        clear HB
        have BK145 := n0_
        have HB := n1_
        clear n0_ n1_
        refine start_ (n := 44) (S := fun w' => w'.cell? ⟨gb145, 0, none⟩ = some (.int .i64 a0_0) ∧ w'.cell? ⟨gb145, 1, none⟩ = some (.int .i64 a0_1) ∧ w'.cell? ⟨gb145, 2, none⟩ = some (.int .i64 a0_2) ∧ w'.cell? ⟨gb145, 3, none⟩ = some (.int .i64 a0_3) ∧ w'.cell? ⟨gb145, 4, none⟩ = some (.slice A0_4 l0_4.length c0_4) ∧ w'.cell? ⟨gb145, 5, none⟩ = some (.slice A0_5 l0_5.length c0_5) ∧ w'.cell? ⟨gb145, 6, none⟩ = some (.slice A0_6 l0_6.length c0_6) ∧ w'.cell? ⟨gb145, 7, none⟩ = some (.int .i64 a0_7)) (ds := []) (bA 44 0) (by kernel_rfl) rfl rfl ⟨(blk_cell BK145.out 0).trans rfl, (blk_cell BK145.out 1).trans rfl, (blk_cell BK145.out 2).trans rfl, (blk_cell BK145.out 3).trans rfl, (blk_cell BK145.out 4).trans rfl, (blk_cell BK145.out 5).trans rfl, (blk_cell BK145.out 6).trans rfl, (blk_cell BK145.out 7).trans rfl⟩ (fun hHeld => ?_); refine with_tabW spec_BlockOk.tab1 spec_BlockOk.bits1 (fun HT_ HW_ => ?_)
        generalize w17.drew = w18 at BK145 HB hHeld ⊢
        refine pv (i := 0) (N := some 5) (bA 44 1) rfl rfl (any_of HT_.out (by kernel_rfl)) ?_
        refine one_ (i := 1) (N := some 6) (bA 44 3) rfl rfl (one_of HT_.out (by kernel_rfl)) (by decide) (fun K hK => ?_)
        refine goes_ Tryd.func73 (by kernel_rfl) rfl #[.int .i64 a1] (by rfl) rfl rfl (by (try simp only [List.map_toArray, List.map_cons, List.map_nil]); first | done | rfl | (simp only [List.length_drop, List.length_take]; rfl)) ?_
        with_reducible refine (spec_l15Servers.calls a1 true _ A3.out).mono ?_
        rintro e w' ⟨rfl, ⟨nd, rfl⟩⟩
        refine ⟨_, rfl, ?_⟩
        refine hK.out _ _ ⟨(blk_cell BK145.out 0).trans rfl, (blk_cell BK145.out 1).trans rfl, (blk_cell BK145.out 2).trans rfl, (blk_cell BK145.out 3).trans rfl, (blk_cell BK145.out 4).trans rfl, (blk_cell BK145.out 5).trans rfl, (blk_cell BK145.out 6).trans rfl, (blk_cell BK145.out 7).trans rfl⟩ (fun hHeld => ?_)
        clear hK K
        refine norm_ (a' := ?_) ?_ ?_
        rotate_left
        ·show Act.put _ (some 6) _ = _
         simp only [sp_]
         rfl
        refine pv (i := 2) (N := some 7) (bA 44 7) rfl rfl (any_of HT_.out (by kernel_rfl)) ?_
        refine pv (i := 3) (N := some 8) (bA 44 15) rfl rfl (any_of HT_.out (by kernel_rfl)) ?_
        refine take_ (i := 4) (N := some 9) (v := ?_) (a' := ?_) (bA 44 31) rfl rfl (take_ofW HT_.out HW_.out (by kernel_rfl)) (fun _ _ _ h => h) (Or.inl ⟨by rfl, ?_⟩) hHeld ?_ ?_
        rotate_left
        ·rintro w' ⟨s0, s1, s2, s3, s4, s5, s6, s7⟩
         go_simp
         with_reducible rfl
        rotate_left
        ·simp only [sp_]
         rfl
        refine one_ (i := 5) (N := some 10) (bA 44 63) rfl rfl (one_of HT_.out (by kernel_rfl)) (by decide) (fun K hK => ?_)
        refine goes_ Tryd.func74 (by kernel_rfl) rfl #[.int .i64 a0_0, .int .i64 1, .int .i64 100000] (by rfl) rfl rfl (by (try simp only [List.map_toArray, List.map_cons, List.map_nil]); first | done | rfl | (simp only [List.length_drop, List.length_take]; rfl)) ?_
        with_reducible refine (spec_l1In.calls a0_0 1 100000 true _ A5.out).mono ?_
        rintro e w' ⟨rfl, ⟨nd, rfl⟩⟩
        refine ⟨_, rfl, ?_⟩
        refine hK.out _ _ ⟨(blk_cell BK145.out 0).trans rfl, (blk_cell BK145.out 1).trans rfl, (blk_cell BK145.out 2).trans rfl, (blk_cell BK145.out 3).trans rfl, (blk_cell BK145.out 4).trans rfl, (blk_cell BK145.out 5).trans rfl, (blk_cell BK145.out 6).trans rfl, (blk_cell BK145.out 7).trans rfl⟩ (fun hHeld => ?_)
        clear hK K
        refine norm_ (a' := ?_) ?_ ?_
        rotate_left
        ·show Act.put _ (some 10) _ = _
         simp only [sp_]
         rfl
        refine pv (i := 6) (N := some 11) (bA 44 127) rfl rfl (any_of HT_.out (by kernel_rfl)) ?_
        refine pv (i := 7) (N := some 12) (bA 44 255) rfl rfl (any_of HT_.out (by kernel_rfl)) ?_
        refine pv (i := 8) (N := some 13) (bA 44 511) rfl rfl (any_of HT_.out (by kernel_rfl)) ?_
        refine pv (i := 10) (N := some 15) (bA 44 1535) rfl rfl (any_of HT_.out (by kernel_rfl)) ?_
        refine pv (i := 12) (N := some 17) (bA 44 5631) rfl rfl (any_of HT_.out (by kernel_rfl)) ?_
        refine take_ (i := 9) (N := some 14) (v := ?_) (a' := ?_) (bA 44 6143) rfl rfl (take_ofW HT_.out HW_.out (by kernel_rfl)) (fun _ _ _ h => h) (Or.inl ⟨by rfl, ?_⟩) hHeld ?_ ?_
        rotate_left
        ·rintro w' ⟨s0, s1, s2, s3, s4, s5, s6, s7⟩
         go_simp
         with_reducible rfl
        rotate_left
        ·simp only [sp_]
         rfl
        refine take_ (i := 11) (N := some 16) (v := ?_) (a' := ?_) (bA 44 8191) rfl rfl (take_ofW HT_.out HW_.out (by kernel_rfl)) (fun _ _ _ h => h) (Or.inl ⟨by rfl, ?_⟩) hHeld ?_ ?_
        rotate_left
        ·rintro w' ⟨s0, s1, s2, s3, s4, s5, s6, s7⟩
         go_simp
         with_reducible rfl
        rotate_left
        ·simp only [sp_]
         rfl
        refine pv (i := 13) (N := some 18) (bA 44 16383) rfl rfl (any_of HT_.out (by kernel_rfl)) ?_
        refine pv (i := 14) (N := some 19) (bA 44 32767) rfl rfl (any_of HT_.out (by kernel_rfl)) ?_
        refine pv (i := 15) (N := some 20) (bA 44 65535) rfl rfl (any_of HT_.out (by kernel_rfl)) ?_
        refine pv (i := 16) (N := some 21) (bA 44 131071) rfl rfl (any_of HT_.out (by kernel_rfl)) ?_
        refine pv (i := 17) (N := some 22) (bA 44 262143) rfl rfl (any_of HT_.out (by kernel_rfl)) ?_
        refine pv (i := 19) (N := some 24) (bA 44 786431) rfl rfl (any_of HT_.out (by kernel_rfl)) ?_
        refine take_ (i := 18) (N := some 23) (v := ?_) (a' := ?_) (bA 44 1048575) rfl rfl (take_ofW HT_.out HW_.out (by kernel_rfl)) (fun _ _ _ h => h) (Or.inl ⟨by rfl, ?_⟩) hHeld ?_ ?_
        rotate_left
        ·rintro w' ⟨s0, s1, s2, s3, s4, s5, s6, s7⟩
         go_simp
         with_reducible rfl
        rotate_left
        ·simp only [sp_]
         rfl
        refine one_ (i := 20) (N := some 25) (bA 44 2097151) rfl rfl (one_of HT_.out (by kernel_rfl)) (by decide) (fun K hK => ?_)
        refine goes_ Tryd.func36 (by kernel_rfl) rfl #[.agg #[.int .i64 a0_2, .int .i64 a0_3, .slice A0_4 l0_4.length c0_4, .slice A0_5 l0_5.length c0_5], .int .i64 a1] (by rfl) rfl rfl (by (try simp only [List.map_toArray, List.map_cons, List.map_nil]); first | done | rfl | (simp only [List.length_drop, List.length_take]; rfl)) ?_
        with_reducible refine (spec_ProofOk.calls k a0_2 a0_3 _ _ l0_4 _ _ l0_5 a1 true _ ?side1 ?side2 ?side3 ?side4 A9.out).mono ?_
        (case side1 => repeat (first | exact (Kd.C_below HR0_4.out (by repeat (first | (with_reducible first | exact HB.out | apply below_alloc | apply pw_below_drewN | apply below_drew1 | refine below_set ?_ GE145.out) | exact HB.out))) | (with_reducible refine Kd.C_alloc ?_ _) | (with_reducible refine Kd.C_drewN ?_ _) | (with_reducible refine Kd.C_drew ?_)))
        (case side2 => exact HC0_4.out)
        (case side3 => repeat (first | exact (Kd.C_below HR0_5.out (by repeat (first | (with_reducible first | exact HB.out | apply below_alloc | apply pw_below_drewN | apply below_drew1 | refine below_set ?_ GE145.out) | exact HB.out))) | (with_reducible refine Kd.C_alloc ?_ _) | (with_reducible refine Kd.C_drewN ?_ _) | (with_reducible refine Kd.C_drew ?_)))
        (case side4 => exact HC0_5.out)
        rintro e w19 ⟨rfl, hb⟩
        refine ⟨_, rfl, ?_⟩
        have n0_ := Aside0.mk (blk_below (g := gb145) (o := .cells #[.int .i64 a0_0, .int .i64 a0_1, .int .i64 a0_2, .int .i64 a0_3, .slice A0_4 l0_4.length c0_4, .slice A0_5 l0_5.length c0_5, .slice A0_6 l0_6.length c0_6, .int .i64 a0_7] 81 (0, 0)) (by (with_reducible repeat (first | refine blk_drewN ?_ _ | refine blk_drew ?_ | refine blk_alloc ?_ _)); exact BK145.out) hb)
        have n1_ := Aside0.mk (below_step (by repeat (first | (with_reducible first | exact HB.out | apply below_alloc | apply pw_below_drewN | apply below_drew1 | refine below_set ?_ GE145.out) | exact HB.out)) hb)
        clear BK145
        clear HB
        have BK145 := n0_
        have HB := n1_
        clear n0_ n1_
        (try clear hb)
        (try clear hb2)
        (try clear hk)
        (try clear hi)
        refine hK.out _ _ ⟨(blk_cell BK145.out 0).trans rfl, (blk_cell BK145.out 1).trans rfl, (blk_cell BK145.out 2).trans rfl, (blk_cell BK145.out 3).trans rfl, (blk_cell BK145.out 4).trans rfl, (blk_cell BK145.out 5).trans rfl, (blk_cell BK145.out 6).trans rfl, (blk_cell BK145.out 7).trans rfl⟩ (fun hHeld => ?_)
        clear hK K
        refine norm_ (a' := ?_) ?_ ?_
        rotate_left
        ·show Act.put _ (some 25) _ = _
         simp only [sp_]
         rfl
        refine pv (i := 21) (N := some 26) (bA 44 4194303) rfl rfl (any_of HT_.out (by kernel_rfl)) ?_
        refine pv (i := 22) (N := some 27) (bA 44 8388607) rfl rfl (any_of HT_.out (by kernel_rfl)) ?_
        refine pv (i := 23) (N := some 28) (bA 44 16777215) rfl rfl (any_of HT_.out (by kernel_rfl)) ?_
        refine pv (i := 24) (N := some 29) (bA 44 33554431) rfl rfl (any_of HT_.out (by kernel_rfl)) ?_
        refine pv (i := 26) (N := some 31) (bA 44 100663295) rfl rfl (any_of HT_.out (by kernel_rfl)) ?_
        refine take_ (i := 25) (N := some 30) (v := ?_) (a' := ?_) (bA 44 134217727) rfl rfl (take_ofW HT_.out HW_.out (by kernel_rfl)) (fun _ _ _ h => h) (Or.inl ⟨by rfl, ?_⟩) hHeld ?_ ?_
        rotate_left
        ·rintro w' ⟨s0, s1, s2, s3, s4, s5, s6, s7⟩
         go_simp
         with_reducible rfl
        rotate_left
        ·simp only [sp_]
         rfl
        refine take_ (i := 27) (N := some 32) (v := ?_) (a' := ?_) (bA 44 268435455) rfl rfl (take_ofW HT_.out HW_.out (by kernel_rfl)) (fun _ _ _ h => h) (Or.inl ⟨by rfl, ?_⟩) hHeld ?_ ?_
        rotate_left
        ·rintro w' ⟨s0, s1, s2, s3, s4, s5, s6, s7⟩
         go_simp
         with_reducible rfl
        rotate_left
        ·simp only [sp_]
         rfl
        refine pv (i := 28) (N := some 33) (bA 44 536870911) rfl rfl (any_of HT_.out (by kernel_rfl)) ?_
        refine pv (i := 29) (N := some 34) (bA 44 1073741823) rfl rfl (any_of HT_.out (by kernel_rfl)) ?_
        refine pv (i := 30) (N := some 35) (bA 44 2147483647) rfl rfl (any_of HT_.out (by kernel_rfl)) ?_
        refine pv (i := 31) (N := some 36) (bA 44 4294967295) rfl rfl (any_of HT_.out (by kernel_rfl)) ?_
        refine pv (i := 33) (N := some 38) (bA 44 12884901887) rfl rfl (any_of HT_.out (by kernel_rfl)) ?_
        refine pv (i := 34) (N := some 39) (bA 44 30064771071) rfl rfl (any_of HT_.out (by kernel_rfl)) ?_
        refine take_ (i := 32) (N := some 37) (v := ?_) (a' := ?_) (bA 44 34359738367) rfl rfl (take_ofW HT_.out HW_.out (by kernel_rfl)) (fun _ _ _ h => h) (Or.inl ⟨by rfl, ?_⟩) hHeld ?_ ?_
        rotate_left
        ·rintro w' ⟨s0, s1, s2, s3, s4, s5, s6, s7⟩
         go_simp
         with_reducible rfl
        rotate_left
        ·simp only [sp_]
         rfl
        refine take_ (i := 35) (N := some 40) (v := ?_) (a' := ?_) (bA 44 68719476735) rfl rfl (take_ofW HT_.out HW_.out (by kernel_rfl)) (fun _ _ _ h => h) (Or.inl ⟨by rfl, ?_⟩) hHeld ?_ ?_
        rotate_left
        ·rintro w' ⟨s0, s1, s2, s3, s4, s5, s6, s7⟩
         go_simp
         with_reducible rfl
        rotate_left
        ·simp only [sp_]
         rfl
        refine pv (i := 36) (N := some 41) (bA 44 137438953471) rfl rfl (any_of HT_.out (by kernel_rfl)) ?_
        refine pv (i := 37) (N := some 42) (bA 44 274877906943) rfl rfl (any_of HT_.out (by kernel_rfl)) ?_
        refine pv (i := 38) (N := some 43) (bA 44 549755813887) rfl rfl (any_of HT_.out (by kernel_rfl)) ?_
        refine pu (i := 39) (N := some 44) (bA 44 1099511627775) rfl rfl (any_of HT_.out (by kernel_rfl)) ?_
        refine pu (i := 40) (N := some 45) (bA 44 2199023255551) rfl rfl (any_of HT_.out (by kernel_rfl)) ?_
        refine pu (i := 41) (N := some 46) (bA 44 4398046511103) rfl rfl (any_of HT_.out (by kernel_rfl)) ?_
        refine pv (i := 42) (N := some 47) (bA 44 8796093022207) rfl rfl (any_of HT_.out (by kernel_rfl)) ?_
        refine pv (i := 43) (N := some 4) (bA 44 17592186044415) rfl rfl (any_of HT_.out (by kernel_rfl)) ?_
        refine done_ (done_of HT_.out (by kernel_rfl)) ?_
        try go_wp2
        go_ret
        exact ⟨by first | rfl | (simp [errW_none, errW_some] <;> rfl) | (simp [*, errW_none, errW_some] <;> rfl), by repeat (first | (with_reducible first | exact HB.out | apply below_alloc | apply pw_below_drewN | apply below_drew1 | refine below_set ?_ GE145.out) | exact HB.out)⟩
      ·rw [if_neg c11] at H
       have c11b0 : decide (a0_2 < a0_0) = false := decide_eq_false c11
       clear c11
       obtain rfl := Option.some.inj H
       go_enter Tryd.func56, Tryd.ntmps56
       try go_wp2_with (first | ((with_reducible refine gate_dst (N := 2) rfl ?_); refine box_event ?hg (N := 2) ?hd (cs := #[.int .i64 a0_0, .int .i64 a0_1, .int .i64 a0_2, .int .i64 a0_3, .slice A0_4 l0_4.length c0_4, .slice A0_5 l0_5.length c0_5, .slice A0_6 l0_6.length c0_6, .int .i64 a0_7]) (t := 81) ?hr ?_; (case hd => rfl); (case hg => rfl); (case hr => first | (go_simp; done) | (go_simp; rfl)); intro gb145 hg w20 hbox hb; have n0_ := Aside0.mk (below_step (by repeat (first | (with_reducible first | exact HB.out | apply below_alloc | apply pw_below_drewN | apply below_drew1) | exact HB.out)) hb); have n1_ := Aside0.mk (hbox); have n2_ := Aside0.mk ((by rw [hg]; exact (below_size (by repeat (first | (with_reducible first | exact HB.out | apply below_alloc | apply pw_below_drewN | apply below_drew1) | exact HB.out))) : w.heap.size ≤ gb145)); have n3_ := Aside0.mk ((by rw [hg]; exact (below_size (by repeat (first | (with_reducible first | exact HB.out | apply below_alloc | apply pw_below_drewN | apply below_drew1) | exact HB.out))) : w.heap.size ≤ gb145)); clear HB; have HB := n0_; have BK145 := n1_; have GW145 := n2_; have GE145 := n3_; clear n0_ n1_ n2_ n3_; clear hb hbox hg))
       have n0_ := Aside0.mk (blk_drew BK145.out)
       have n1_ := Aside0.mk (below_drew1 HB.out)
       clear BK145
       clear HB
       have BK145 := n0_
       have HB := n1_
       clear n0_ n1_
       refine start_ (n := 44) (S := fun w' => w'.cell? ⟨gb145, 0, none⟩ = some (.int .i64 a0_0) ∧ w'.cell? ⟨gb145, 1, none⟩ = some (.int .i64 a0_1) ∧ w'.cell? ⟨gb145, 2, none⟩ = some (.int .i64 a0_2) ∧ w'.cell? ⟨gb145, 3, none⟩ = some (.int .i64 a0_3) ∧ w'.cell? ⟨gb145, 4, none⟩ = some (.slice A0_4 l0_4.length c0_4) ∧ w'.cell? ⟨gb145, 5, none⟩ = some (.slice A0_5 l0_5.length c0_5) ∧ w'.cell? ⟨gb145, 6, none⟩ = some (.slice A0_6 l0_6.length c0_6) ∧ w'.cell? ⟨gb145, 7, none⟩ = some (.int .i64 a0_7)) (ds := []) (bA 44 0) (by kernel_rfl) rfl rfl ⟨(blk_cell BK145.out 0).trans rfl, (blk_cell BK145.out 1).trans rfl, (blk_cell BK145.out 2).trans rfl, (blk_cell BK145.out 3).trans rfl, (blk_cell BK145.out 4).trans rfl, (blk_cell BK145.out 5).trans rfl, (blk_cell BK145.out 6).trans rfl, (blk_cell BK145.out 7).trans rfl⟩ (fun hHeld => ?_); refine with_tabW spec_BlockOk.tab1 spec_BlockOk.bits1 (fun HT_ HW_ => ?_)
       generalize w20.drew = w21 at BK145 HB hHeld ⊢
       refine pv (i := 0) (N := some 5) (bA 44 1) rfl rfl (any_of HT_.out (by kernel_rfl)) ?_
       refine one_ (i := 1) (N := some 6) (bA 44 3) rfl rfl (one_of HT_.out (by kernel_rfl)) (by decide) (fun K hK => ?_)
       refine goes_ Tryd.func73 (by kernel_rfl) rfl #[.int .i64 a1] (by rfl) rfl rfl (by (try simp only [List.map_toArray, List.map_cons, List.map_nil]); first | done | rfl | (simp only [List.length_drop, List.length_take]; rfl)) ?_
       with_reducible refine (spec_l15Servers.calls a1 true _ A3.out).mono ?_
       rintro e w' ⟨rfl, ⟨nd, rfl⟩⟩
       refine ⟨_, rfl, ?_⟩
       refine hK.out _ _ ⟨(blk_cell BK145.out 0).trans rfl, (blk_cell BK145.out 1).trans rfl, (blk_cell BK145.out 2).trans rfl, (blk_cell BK145.out 3).trans rfl, (blk_cell BK145.out 4).trans rfl, (blk_cell BK145.out 5).trans rfl, (blk_cell BK145.out 6).trans rfl, (blk_cell BK145.out 7).trans rfl⟩ (fun hHeld => ?_)
       clear hK K
       refine norm_ (a' := ?_) ?_ ?_
       rotate_left
       ·show Act.put _ (some 6) _ = _
        simp only [sp_]
        rfl
       refine pv (i := 2) (N := some 7) (bA 44 7) rfl rfl (any_of HT_.out (by kernel_rfl)) ?_
       refine pv (i := 3) (N := some 8) (bA 44 15) rfl rfl (any_of HT_.out (by kernel_rfl)) ?_
       refine take_ (i := 4) (N := some 9) (v := ?_) (a' := ?_) (bA 44 31) rfl rfl (take_ofW HT_.out HW_.out (by kernel_rfl)) (fun _ _ _ h => h) (Or.inl ⟨by rfl, ?_⟩) hHeld ?_ ?_
       rotate_left
       ·rintro w' ⟨s0, s1, s2, s3, s4, s5, s6, s7⟩
        go_simp
        with_reducible rfl
       rotate_left
       ·simp only [sp_]
        rfl
       refine one_ (i := 5) (N := some 10) (bA 44 63) rfl rfl (one_of HT_.out (by kernel_rfl)) (by decide) (fun K hK => ?_)
       refine goes_ Tryd.func74 (by kernel_rfl) rfl #[.int .i64 a0_0, .int .i64 1, .int .i64 100000] (by rfl) rfl rfl (by (try simp only [List.map_toArray, List.map_cons, List.map_nil]); first | done | rfl | (simp only [List.length_drop, List.length_take]; rfl)) ?_
       with_reducible refine (spec_l1In.calls a0_0 1 100000 true _ A5.out).mono ?_
       rintro e w' ⟨rfl, ⟨nd, rfl⟩⟩
       refine ⟨_, rfl, ?_⟩
       refine hK.out _ _ ⟨(blk_cell BK145.out 0).trans rfl, (blk_cell BK145.out 1).trans rfl, (blk_cell BK145.out 2).trans rfl, (blk_cell BK145.out 3).trans rfl, (blk_cell BK145.out 4).trans rfl, (blk_cell BK145.out 5).trans rfl, (blk_cell BK145.out 6).trans rfl, (blk_cell BK145.out 7).trans rfl⟩ (fun hHeld => ?_)
       clear hK K
       refine norm_ (a' := ?_) ?_ ?_
       rotate_left
       ·show Act.put _ (some 10) _ = _
        simp only [sp_]
        rfl
       refine pv (i := 6) (N := some 11) (bA 44 127) rfl rfl (any_of HT_.out (by kernel_rfl)) ?_
       refine pv (i := 7) (N := some 12) (bA 44 255) rfl rfl (any_of HT_.out (by kernel_rfl)) ?_
       refine pv (i := 8) (N := some 13) (bA 44 511) rfl rfl (any_of HT_.out (by kernel_rfl)) ?_
       refine pv (i := 10) (N := some 15) (bA 44 1535) rfl rfl (any_of HT_.out (by kernel_rfl)) ?_
       refine pv (i := 12) (N := some 17) (bA 44 5631) rfl rfl (any_of HT_.out (by kernel_rfl)) ?_
       refine take_ (i := 9) (N := some 14) (v := ?_) (a' := ?_) (bA 44 6143) rfl rfl (take_ofW HT_.out HW_.out (by kernel_rfl)) (fun _ _ _ h => h) (Or.inl ⟨by rfl, ?_⟩) hHeld ?_ ?_
       rotate_left
       ·rintro w' ⟨s0, s1, s2, s3, s4, s5, s6, s7⟩
        go_simp
        with_reducible rfl
       rotate_left
       ·simp only [sp_]
        rfl
       refine take_ (i := 11) (N := some 16) (v := ?_) (a' := ?_) (bA 44 8191) rfl rfl (take_ofW HT_.out HW_.out (by kernel_rfl)) (fun _ _ _ h => h) (Or.inl ⟨by rfl, ?_⟩) hHeld ?_ ?_
       rotate_left
       ·rintro w' ⟨s0, s1, s2, s3, s4, s5, s6, s7⟩
        go_simp
        with_reducible rfl
       rotate_left
       ·simp only [sp_]
        rfl
       refine pv (i := 13) (N := some 18) (bA 44 16383) rfl rfl (any_of HT_.out (by kernel_rfl)) ?_
       refine pv (i := 14) (N := some 19) (bA 44 32767) rfl rfl (any_of HT_.out (by kernel_rfl)) ?_
       refine pv (i := 15) (N := some 20) (bA 44 65535) rfl rfl (any_of HT_.out (by kernel_rfl)) ?_
       refine pv (i := 16) (N := some 21) (bA 44 131071) rfl rfl (any_of HT_.out (by kernel_rfl)) ?_
       refine pv (i := 17) (N := some 22) (bA 44 262143) rfl rfl (any_of HT_.out (by kernel_rfl)) ?_
       refine pv (i := 19) (N := some 24) (bA 44 786431) rfl rfl (any_of HT_.out (by kernel_rfl)) ?_
       refine take_ (i := 18) (N := some 23) (v := ?_) (a' := ?_) (bA 44 1048575) rfl rfl (take_ofW HT_.out HW_.out (by kernel_rfl)) (fun _ _ _ h => h) (Or.inl ⟨by rfl, ?_⟩) hHeld ?_ ?_
       rotate_left
       ·rintro w' ⟨s0, s1, s2, s3, s4, s5, s6, s7⟩
        go_simp
        with_reducible rfl
       rotate_left
       ·simp only [sp_]
        rfl
       refine one_ (i := 20) (N := some 25) (bA 44 2097151) rfl rfl (one_of HT_.out (by kernel_rfl)) (by decide) (fun K hK => ?_)
       refine goes_ Tryd.func36 (by kernel_rfl) rfl #[.agg #[.int .i64 a0_2, .int .i64 a0_3, .slice A0_4 l0_4.length c0_4, .slice A0_5 l0_5.length c0_5], .int .i64 a1] (by rfl) rfl rfl (by (try simp only [List.map_toArray, List.map_cons, List.map_nil]); first | done | rfl | (simp only [List.length_drop, List.length_take]; rfl)) ?_
       with_reducible refine (spec_ProofOk.calls k a0_2 a0_3 _ _ l0_4 _ _ l0_5 a1 true _ ?side1 ?side2 ?side3 ?side4 A9.out).mono ?_
       (case side1 => repeat (first | exact (Kd.C_below HR0_4.out (by repeat (first | (with_reducible first | exact HB.out | apply below_alloc | apply pw_below_drewN | apply below_drew1 | refine below_set ?_ GE145.out) | exact HB.out))) | (with_reducible refine Kd.C_alloc ?_ _) | (with_reducible refine Kd.C_drewN ?_ _) | (with_reducible refine Kd.C_drew ?_)))
       (case side2 => exact HC0_4.out)
       (case side3 => repeat (first | exact (Kd.C_below HR0_5.out (by repeat (first | (with_reducible first | exact HB.out | apply below_alloc | apply pw_below_drewN | apply below_drew1 | refine below_set ?_ GE145.out) | exact HB.out))) | (with_reducible refine Kd.C_alloc ?_ _) | (with_reducible refine Kd.C_drewN ?_ _) | (with_reducible refine Kd.C_drew ?_)))
       (case side4 => exact HC0_5.out)
       rintro e w22 ⟨rfl, hb⟩
       refine ⟨_, rfl, ?_⟩
       have n0_ := Aside0.mk (blk_below (g := gb145) (o := .cells #[.int .i64 a0_0, .int .i64 a0_1, .int .i64 a0_2, .int .i64 a0_3, .slice A0_4 l0_4.length c0_4, .slice A0_5 l0_5.length c0_5, .slice A0_6 l0_6.length c0_6, .int .i64 a0_7] 81 (0, 0)) (by (with_reducible repeat (first | refine blk_drewN ?_ _ | refine blk_drew ?_ | refine blk_alloc ?_ _)); exact BK145.out) hb)
       have n1_ := Aside0.mk (below_step (by repeat (first | (with_reducible first | exact HB.out | apply below_alloc | apply pw_below_drewN | apply below_drew1 | refine below_set ?_ GE145.out) | exact HB.out)) hb)
       clear BK145
       clear HB
       have BK145 := n0_
       have HB := n1_
       clear n0_ n1_
       (try clear hb)
       (try clear hb2)
       (try clear hk)
       (try clear hi)
       refine hK.out _ _ ⟨(blk_cell BK145.out 0).trans rfl, (blk_cell BK145.out 1).trans rfl, (blk_cell BK145.out 2).trans rfl, (blk_cell BK145.out 3).trans rfl, (blk_cell BK145.out 4).trans rfl, (blk_cell BK145.out 5).trans rfl, (blk_cell BK145.out 6).trans rfl, (blk_cell BK145.out 7).trans rfl⟩ (fun hHeld => ?_)
       clear hK K
       refine norm_ (a' := ?_) ?_ ?_
       rotate_left
       ·show Act.put _ (some 25) _ = _
        simp only [sp_]
        rfl
       refine pv (i := 21) (N := some 26) (bA 44 4194303) rfl rfl (any_of HT_.out (by kernel_rfl)) ?_
       refine pv (i := 22) (N := some 27) (bA 44 8388607) rfl rfl (any_of HT_.out (by kernel_rfl)) ?_
       refine pv (i := 23) (N := some 28) (bA 44 16777215) rfl rfl (any_of HT_.out (by kernel_rfl)) ?_
       refine pv (i := 24) (N := some 29) (bA 44 33554431) rfl rfl (any_of HT_.out (by kernel_rfl)) ?_
       refine pv (i := 26) (N := some 31) (bA 44 100663295) rfl rfl (any_of HT_.out (by kernel_rfl)) ?_
       refine take_ (i := 25) (N := some 30) (v := ?_) (a' := ?_) (bA 44 134217727) rfl rfl (take_ofW HT_.out HW_.out (by kernel_rfl)) (fun _ _ _ h => h) (Or.inl ⟨by rfl, ?_⟩) hHeld ?_ ?_
       rotate_left
       ·rintro w' ⟨s0, s1, s2, s3, s4, s5, s6, s7⟩
        go_simp
        with_reducible rfl
       rotate_left
       ·simp only [sp_]
        rfl
       refine take_ (i := 27) (N := some 32) (v := ?_) (a' := ?_) (bA 44 268435455) rfl rfl (take_ofW HT_.out HW_.out (by kernel_rfl)) (fun _ _ _ h => h) (Or.inl ⟨by rfl, ?_⟩) hHeld ?_ ?_
       rotate_left
       ·rintro w' ⟨s0, s1, s2, s3, s4, s5, s6, s7⟩
        go_simp
        with_reducible rfl
       rotate_left
       ·simp only [sp_]
        rfl
       refine pv (i := 28) (N := some 33) (bA 44 536870911) rfl rfl (any_of HT_.out (by kernel_rfl)) ?_
       refine pv (i := 29) (N := some 34) (bA 44 1073741823) rfl rfl (any_of HT_.out (by kernel_rfl)) ?_
       refine pv (i := 30) (N := some 35) (bA 44 2147483647) rfl rfl (any_of HT_.out (by kernel_rfl)) ?_
       refine pu (i := 31) (N := some 36) (bA 44 4294967295) rfl rfl (any_of HT_.out (by kernel_rfl)) ?_
       refine pu (i := 32) (N := some 37) (bA 44 8589934591) rfl rfl (any_of HT_.out (by kernel_rfl)) ?_
       refine pu (i := 33) (N := some 38) (bA 44 17179869183) rfl rfl (any_of HT_.out (by kernel_rfl)) ?_
       refine pu (i := 34) (N := some 39) (bA 44 34359738367) rfl rfl (any_of HT_.out (by kernel_rfl)) ?_
       refine pu (i := 35) (N := some 40) (bA 44 68719476735) rfl rfl (any_of HT_.out (by kernel_rfl)) ?_
       refine pu (i := 36) (N := some 41) (bA 44 137438953471) rfl rfl (any_of HT_.out (by kernel_rfl)) ?_
       refine pv (i := 37) (N := some 42) (bA 44 274877906943) rfl rfl (any_of HT_.out (by kernel_rfl)) ?_
       refine pv (i := 38) (N := some 43) (bA 44 549755813887) rfl rfl (any_of HT_.out (by kernel_rfl)) ?_
       refine pu (i := 39) (N := some 44) (bA 44 1099511627775) rfl rfl (any_of HT_.out (by kernel_rfl)) ?_
       refine pu (i := 40) (N := some 45) (bA 44 2199023255551) rfl rfl (any_of HT_.out (by kernel_rfl)) ?_
       refine pu (i := 41) (N := some 46) (bA 44 4398046511103) rfl rfl (any_of HT_.out (by kernel_rfl)) ?_
       refine pv (i := 42) (N := some 47) (bA 44 8796093022207) rfl rfl (any_of HT_.out (by kernel_rfl)) ?_
       refine pv (i := 43) (N := some 4) (bA 44 17592186044415) rfl rfl (any_of HT_.out (by kernel_rfl)) ?_
       refine done_ (done_of HT_.out (by kernel_rfl)) ?_
       try go_wp2
       go_ret
       exact ⟨by first | rfl | (simp [errW_none, errW_some] <;> rfl) | (simp [*, errW_none, errW_some] <;> rfl), by repeat (first | (with_reducible first | exact HB.out | apply below_alloc | apply pw_below_drewN | apply below_drew1 | refine below_set ?_ GE145.out) | exact HB.out)⟩
     ·replace c10 := Bool.eq_false_iff.mpr c10
      subst c10
      have H1 : (some false) = some r := by rw [if_neg (show ¬ (false = true) by decide)] at H; exact H
      clear H
      have H := H1
      clear H1
      obtain rfl := Option.some.inj H
      go_enter Tryd.func56, Tryd.ntmps56
      try go_wp2_with (first | ((with_reducible refine gate_dst (N := 2) rfl ?_); refine box_event ?hg (N := 2) ?hd (cs := #[.int .i64 a0_0, .int .i64 a0_1, .int .i64 a0_2, .int .i64 a0_3, .slice A0_4 l0_4.length c0_4, .slice A0_5 l0_5.length c0_5, .slice A0_6 l0_6.length c0_6, .int .i64 a0_7]) (t := 81) ?hr ?_; (case hd => rfl); (case hg => rfl); (case hr => first | (go_simp; done) | (go_simp; rfl)); intro gb145 hg w23 hbox hb; have n0_ := Aside0.mk (below_step (by repeat (first | (with_reducible first | exact HB.out | apply below_alloc | apply pw_below_drewN | apply below_drew1) | exact HB.out)) hb); have n1_ := Aside0.mk (hbox); have n2_ := Aside0.mk ((by rw [hg]; exact (below_size (by repeat (first | (with_reducible first | exact HB.out | apply below_alloc | apply pw_below_drewN | apply below_drew1) | exact HB.out))) : w.heap.size ≤ gb145)); have n3_ := Aside0.mk ((by rw [hg]; exact (below_size (by repeat (first | (with_reducible first | exact HB.out | apply below_alloc | apply pw_below_drewN | apply below_drew1) | exact HB.out))) : w.heap.size ≤ gb145)); clear HB; have HB := n0_; have BK145 := n1_; have GW145 := n2_; have GE145 := n3_; clear n0_ n1_ n2_ n3_; clear hb hbox hg))
      have n0_ := Aside0.mk (blk_drew BK145.out)
      have n1_ := Aside0.mk (below_drew1 HB.out)
      clear BK145
      clear HB
      have BK145 := n0_
      have HB := n1_
      clear n0_ n1_
      refine start_ (n := 44) (S := fun w' => w'.cell? ⟨gb145, 0, none⟩ = some (.int .i64 a0_0) ∧ w'.cell? ⟨gb145, 1, none⟩ = some (.int .i64 a0_1) ∧ w'.cell? ⟨gb145, 2, none⟩ = some (.int .i64 a0_2) ∧ w'.cell? ⟨gb145, 3, none⟩ = some (.int .i64 a0_3) ∧ w'.cell? ⟨gb145, 4, none⟩ = some (.slice A0_4 l0_4.length c0_4) ∧ w'.cell? ⟨gb145, 5, none⟩ = some (.slice A0_5 l0_5.length c0_5) ∧ w'.cell? ⟨gb145, 6, none⟩ = some (.slice A0_6 l0_6.length c0_6) ∧ w'.cell? ⟨gb145, 7, none⟩ = some (.int .i64 a0_7)) (ds := []) (bA 44 0) (by kernel_rfl) rfl rfl ⟨(blk_cell BK145.out 0).trans rfl, (blk_cell BK145.out 1).trans rfl, (blk_cell BK145.out 2).trans rfl, (blk_cell BK145.out 3).trans rfl, (blk_cell BK145.out 4).trans rfl, (blk_cell BK145.out 5).trans rfl, (blk_cell BK145.out 6).trans rfl, (blk_cell BK145.out 7).trans rfl⟩ (fun hHeld => ?_); refine with_tabW spec_BlockOk.tab1 spec_BlockOk.bits1 (fun HT_ HW_ => ?_)
      generalize w23.drew = w24 at BK145 HB hHeld ⊢
      refine pv (i := 0) (N := some 5) (bA 44 1) rfl rfl (any_of HT_.out (by kernel_rfl)) ?_
      refine one_ (i := 1) (N := some 6) (bA 44 3) rfl rfl (one_of HT_.out (by kernel_rfl)) (by decide) (fun K hK => ?_)
      refine goes_ Tryd.func73 (by kernel_rfl) rfl #[.int .i64 a1] (by rfl) rfl rfl (by (try simp only [List.map_toArray, List.map_cons, List.map_nil]); first | done | rfl | (simp only [List.length_drop, List.length_take]; rfl)) ?_
      with_reducible refine (spec_l15Servers.calls a1 true _ A3.out).mono ?_
      rintro e w' ⟨rfl, ⟨nd, rfl⟩⟩
      refine ⟨_, rfl, ?_⟩
      refine hK.out _ _ ⟨(blk_cell BK145.out 0).trans rfl, (blk_cell BK145.out 1).trans rfl, (blk_cell BK145.out 2).trans rfl, (blk_cell BK145.out 3).trans rfl, (blk_cell BK145.out 4).trans rfl, (blk_cell BK145.out 5).trans rfl, (blk_cell BK145.out 6).trans rfl, (blk_cell BK145.out 7).trans rfl⟩ (fun hHeld => ?_)
      clear hK K
      refine norm_ (a' := ?_) ?_ ?_
      rotate_left
      ·show Act.put _ (some 6) _ = _
       simp only [sp_]
       rfl
      refine pv (i := 2) (N := some 7) (bA 44 7) rfl rfl (any_of HT_.out (by kernel_rfl)) ?_
      refine pv (i := 3) (N := some 8) (bA 44 15) rfl rfl (any_of HT_.out (by kernel_rfl)) ?_
      refine take_ (i := 4) (N := some 9) (v := ?_) (a' := ?_) (bA 44 31) rfl rfl (take_ofW HT_.out HW_.out (by kernel_rfl)) (fun _ _ _ h => h) (Or.inl ⟨by rfl, ?_⟩) hHeld ?_ ?_
      rotate_left
      ·rintro w' ⟨s0, s1, s2, s3, s4, s5, s6, s7⟩
       go_simp
       with_reducible rfl
      rotate_left
      ·simp only [sp_]
       rfl
      refine one_ (i := 5) (N := some 10) (bA 44 63) rfl rfl (one_of HT_.out (by kernel_rfl)) (by decide) (fun K hK => ?_)
      refine goes_ Tryd.func74 (by kernel_rfl) rfl #[.int .i64 a0_0, .int .i64 1, .int .i64 100000] (by rfl) rfl rfl (by (try simp only [List.map_toArray, List.map_cons, List.map_nil]); first | done | rfl | (simp only [List.length_drop, List.length_take]; rfl)) ?_
      with_reducible refine (spec_l1In.calls a0_0 1 100000 true _ A5.out).mono ?_
      rintro e w' ⟨rfl, ⟨nd, rfl⟩⟩
      refine ⟨_, rfl, ?_⟩
      refine hK.out _ _ ⟨(blk_cell BK145.out 0).trans rfl, (blk_cell BK145.out 1).trans rfl, (blk_cell BK145.out 2).trans rfl, (blk_cell BK145.out 3).trans rfl, (blk_cell BK145.out 4).trans rfl, (blk_cell BK145.out 5).trans rfl, (blk_cell BK145.out 6).trans rfl, (blk_cell BK145.out 7).trans rfl⟩ (fun hHeld => ?_)
      clear hK K
      refine norm_ (a' := ?_) ?_ ?_
      rotate_left
      ·show Act.put _ (some 10) _ = _
       simp only [sp_]
       rfl
      refine pv (i := 6) (N := some 11) (bA 44 127) rfl rfl (any_of HT_.out (by kernel_rfl)) ?_
      refine pv (i := 7) (N := some 12) (bA 44 255) rfl rfl (any_of HT_.out (by kernel_rfl)) ?_
      refine pv (i := 8) (N := some 13) (bA 44 511) rfl rfl (any_of HT_.out (by kernel_rfl)) ?_
      refine pv (i := 10) (N := some 15) (bA 44 1535) rfl rfl (any_of HT_.out (by kernel_rfl)) ?_
      refine pv (i := 12) (N := some 17) (bA 44 5631) rfl rfl (any_of HT_.out (by kernel_rfl)) ?_
      refine take_ (i := 9) (N := some 14) (v := ?_) (a' := ?_) (bA 44 6143) rfl rfl (take_ofW HT_.out HW_.out (by kernel_rfl)) (fun _ _ _ h => h) (Or.inl ⟨by rfl, ?_⟩) hHeld ?_ ?_
      rotate_left
      ·rintro w' ⟨s0, s1, s2, s3, s4, s5, s6, s7⟩
       go_simp
       with_reducible rfl
      rotate_left
      ·simp only [sp_]
       rfl
      refine take_ (i := 11) (N := some 16) (v := ?_) (a' := ?_) (bA 44 8191) rfl rfl (take_ofW HT_.out HW_.out (by kernel_rfl)) (fun _ _ _ h => h) (Or.inl ⟨by rfl, ?_⟩) hHeld ?_ ?_
      rotate_left
      ·rintro w' ⟨s0, s1, s2, s3, s4, s5, s6, s7⟩
       go_simp
       with_reducible rfl
      rotate_left
      ·simp only [sp_]
       rfl
      refine pv (i := 13) (N := some 18) (bA 44 16383) rfl rfl (any_of HT_.out (by kernel_rfl)) ?_
      refine pv (i := 14) (N := some 19) (bA 44 32767) rfl rfl (any_of HT_.out (by kernel_rfl)) ?_
      refine pv (i := 15) (N := some 20) (bA 44 65535) rfl rfl (any_of HT_.out (by kernel_rfl)) ?_
      refine pv (i := 16) (N := some 21) (bA 44 131071) rfl rfl (any_of HT_.out (by kernel_rfl)) ?_
      refine pv (i := 17) (N := some 22) (bA 44 262143) rfl rfl (any_of HT_.out (by kernel_rfl)) ?_
      refine pv (i := 19) (N := some 24) (bA 44 786431) rfl rfl (any_of HT_.out (by kernel_rfl)) ?_
      refine take_ (i := 18) (N := some 23) (v := ?_) (a' := ?_) (bA 44 1048575) rfl rfl (take_ofW HT_.out HW_.out (by kernel_rfl)) (fun _ _ _ h => h) (Or.inl ⟨by rfl, ?_⟩) hHeld ?_ ?_
      rotate_left
      ·rintro w' ⟨s0, s1, s2, s3, s4, s5, s6, s7⟩
       go_simp
       with_reducible rfl
      rotate_left
      ·simp only [sp_]
       rfl
      refine one_ (i := 20) (N := some 25) (bA 44 2097151) rfl rfl (one_of HT_.out (by kernel_rfl)) (by decide) (fun K hK => ?_)
      refine goes_ Tryd.func36 (by kernel_rfl) rfl #[.agg #[.int .i64 a0_2, .int .i64 a0_3, .slice A0_4 l0_4.length c0_4, .slice A0_5 l0_5.length c0_5], .int .i64 a1] (by rfl) rfl rfl (by (try simp only [List.map_toArray, List.map_cons, List.map_nil]); first | done | rfl | (simp only [List.length_drop, List.length_take]; rfl)) ?_
      with_reducible refine (spec_ProofOk.calls k a0_2 a0_3 _ _ l0_4 _ _ l0_5 a1 false _ ?side1 ?side2 ?side3 ?side4 A9.out).mono ?_
      (case side1 => repeat (first | exact (Kd.C_below HR0_4.out (by repeat (first | (with_reducible first | exact HB.out | apply below_alloc | apply pw_below_drewN | apply below_drew1 | refine below_set ?_ GE145.out) | exact HB.out))) | (with_reducible refine Kd.C_alloc ?_ _) | (with_reducible refine Kd.C_drewN ?_ _) | (with_reducible refine Kd.C_drew ?_)))
      (case side2 => exact HC0_4.out)
      (case side3 => repeat (first | exact (Kd.C_below HR0_5.out (by repeat (first | (with_reducible first | exact HB.out | apply below_alloc | apply pw_below_drewN | apply below_drew1 | refine below_set ?_ GE145.out) | exact HB.out))) | (with_reducible refine Kd.C_alloc ?_ _) | (with_reducible refine Kd.C_drewN ?_ _) | (with_reducible refine Kd.C_drew ?_)))
      (case side4 => exact HC0_5.out)
      rintro e w25 ⟨rfl, hb⟩
      refine ⟨_, rfl, ?_⟩
      have n0_ := Aside0.mk (blk_below (g := gb145) (o := .cells #[.int .i64 a0_0, .int .i64 a0_1, .int .i64 a0_2, .int .i64 a0_3, .slice A0_4 l0_4.length c0_4, .slice A0_5 l0_5.length c0_5, .slice A0_6 l0_6.length c0_6, .int .i64 a0_7] 81 (0, 0)) (by (with_reducible repeat (first | refine blk_drewN ?_ _ | refine blk_drew ?_ | refine blk_alloc ?_ _)); exact BK145.out) hb)
      have n1_ := Aside0.mk (below_step (by repeat (first | (with_reducible first | exact HB.out | apply below_alloc | apply pw_below_drewN | apply below_drew1 | refine below_set ?_ GE145.out) | exact HB.out)) hb)
      clear BK145
      clear HB
      have BK145 := n0_
      have HB := n1_
      clear n0_ n1_
      (try clear hb)
      (try clear hb2)
      (try clear hk)
      (try clear hi)
      refine hK.out _ _ ⟨(blk_cell BK145.out 0).trans rfl, (blk_cell BK145.out 1).trans rfl, (blk_cell BK145.out 2).trans rfl, (blk_cell BK145.out 3).trans rfl, (blk_cell BK145.out 4).trans rfl, (blk_cell BK145.out 5).trans rfl, (blk_cell BK145.out 6).trans rfl, (blk_cell BK145.out 7).trans rfl⟩ (fun hHeld => ?_)
      clear hK K
      refine norm_ (a' := ?_) ?_ ?_
      rotate_left
      ·show Act.put _ (some 25) _ = _
       simp only [sp_]
       rfl
      refine pv (i := 21) (N := some 26) (bA 44 4194303) rfl rfl (any_of HT_.out (by kernel_rfl)) ?_
      refine pv (i := 22) (N := some 27) (bA 44 8388607) rfl rfl (any_of HT_.out (by kernel_rfl)) ?_
      refine pu (i := 23) (N := some 28) (bA 44 16777215) rfl rfl (any_of HT_.out (by kernel_rfl)) ?_
      refine pu (i := 24) (N := some 29) (bA 44 33554431) rfl rfl (any_of HT_.out (by kernel_rfl)) ?_
      refine pu (i := 25) (N := some 30) (bA 44 67108863) rfl rfl (any_of HT_.out (by kernel_rfl)) ?_
      refine pu (i := 26) (N := some 31) (bA 44 134217727) rfl rfl (any_of HT_.out (by kernel_rfl)) ?_
      refine pu (i := 27) (N := some 32) (bA 44 268435455) rfl rfl (any_of HT_.out (by kernel_rfl)) ?_
      refine pu (i := 28) (N := some 33) (bA 44 536870911) rfl rfl (any_of HT_.out (by kernel_rfl)) ?_
      refine pv (i := 29) (N := some 34) (bA 44 1073741823) rfl rfl (any_of HT_.out (by kernel_rfl)) ?_
      refine pv (i := 30) (N := some 35) (bA 44 2147483647) rfl rfl (any_of HT_.out (by kernel_rfl)) ?_
      refine pu (i := 31) (N := some 36) (bA 44 4294967295) rfl rfl (any_of HT_.out (by kernel_rfl)) ?_
      refine pu (i := 32) (N := some 37) (bA 44 8589934591) rfl rfl (any_of HT_.out (by kernel_rfl)) ?_
      refine pu (i := 33) (N := some 38) (bA 44 17179869183) rfl rfl (any_of HT_.out (by kernel_rfl)) ?_
      refine pu (i := 34) (N := some 39) (bA 44 34359738367) rfl rfl (any_of HT_.out (by kernel_rfl)) ?_
      refine pu (i := 35) (N := some 40) (bA 44 68719476735) rfl rfl (any_of HT_.out (by kernel_rfl)) ?_
      refine pu (i := 36) (N := some 41) (bA 44 137438953471) rfl rfl (any_of HT_.out (by kernel_rfl)) ?_
      refine pv (i := 37) (N := some 42) (bA 44 274877906943) rfl rfl (any_of HT_.out (by kernel_rfl)) ?_
      refine pv (i := 38) (N := some 43) (bA 44 549755813887) rfl rfl (any_of HT_.out (by kernel_rfl)) ?_
      refine pu (i := 39) (N := some 44) (bA 44 1099511627775) rfl rfl (any_of HT_.out (by kernel_rfl)) ?_
      refine pu (i := 40) (N := some 45) (bA 44 2199023255551) rfl rfl (any_of HT_.out (by kernel_rfl)) ?_
      refine pu (i := 41) (N := some 46) (bA 44 4398046511103) rfl rfl (any_of HT_.out (by kernel_rfl)) ?_
      refine pv (i := 42) (N := some 47) (bA 44 8796093022207) rfl rfl (any_of HT_.out (by kernel_rfl)) ?_
      refine pv (i := 43) (N := some 4) (bA 44 17592186044415) rfl rfl (any_of HT_.out (by kernel_rfl)) ?_
      refine done_ (done_of HT_.out (by kernel_rfl)) ?_
      try go_wp2
      go_ret
      exact ⟨by first | rfl | (simp [errW_none, errW_some] <;> rfl) | (simp [*, errW_none, errW_some] <;> rfl), by repeat (first | (with_reducible first | exact HB.out | apply below_alloc | apply pw_below_drewN | apply below_drew1 | refine below_set ?_ GE145.out) | exact HB.out)⟩
    ·rw [if_neg c8] at H
     have c8b0 : (a0_7 == (Int.tmod a0_0 a1)) = false := beq_eq_false_iff_ne.mpr c8
     have c8b1 : (a0_7 != (Int.tmod a0_0 a1)) = true := bne_iff_ne.mpr c8
     obtain rfl := Option.some.inj H
     go_enter Tryd.func56, Tryd.ntmps56
     try go_wp2_with (first | ((with_reducible refine gate_dst (N := 2) rfl ?_); refine box_event ?hg (N := 2) ?hd (cs := #[.int .i64 a0_0, .int .i64 a0_1, .int .i64 a0_2, .int .i64 a0_3, .slice A0_4 l0_4.length c0_4, .slice A0_5 l0_5.length c0_5, .slice A0_6 l0_6.length c0_6, .int .i64 a0_7]) (t := 81) ?hr ?_; (case hd => rfl); (case hg => rfl); (case hr => first | (go_simp; done) | (go_simp; rfl)); intro gb145 hg w26 hbox hb; have n0_ := Aside0.mk (below_step (by repeat (first | (with_reducible first | exact HB.out | apply below_alloc | apply pw_below_drewN | apply below_drew1) | exact HB.out)) hb); have n1_ := Aside0.mk (hbox); have n2_ := Aside0.mk ((by rw [hg]; exact (below_size (by repeat (first | (with_reducible first | exact HB.out | apply below_alloc | apply pw_below_drewN | apply below_drew1) | exact HB.out))) : w.heap.size ≤ gb145)); have n3_ := Aside0.mk ((by rw [hg]; exact (below_size (by repeat (first | (with_reducible first | exact HB.out | apply below_alloc | apply pw_below_drewN | apply below_drew1) | exact HB.out))) : w.heap.size ≤ gb145)); clear HB; have HB := n0_; have BK145 := n1_; have GW145 := n2_; have GE145 := n3_; clear n0_ n1_ n2_ n3_; clear hb hbox hg))
     have n0_ := Aside0.mk (blk_drew BK145.out)
     have n1_ := Aside0.mk (below_drew1 HB.out)
     clear BK145
     clear HB
     have BK145 := n0_
     have HB := n1_
     clear n0_ n1_
     refine start_ (n := 44) (S := fun w' => w'.cell? ⟨gb145, 0, none⟩ = some (.int .i64 a0_0) ∧ w'.cell? ⟨gb145, 1, none⟩ = some (.int .i64 a0_1) ∧ w'.cell? ⟨gb145, 2, none⟩ = some (.int .i64 a0_2) ∧ w'.cell? ⟨gb145, 3, none⟩ = some (.int .i64 a0_3) ∧ w'.cell? ⟨gb145, 4, none⟩ = some (.slice A0_4 l0_4.length c0_4) ∧ w'.cell? ⟨gb145, 5, none⟩ = some (.slice A0_5 l0_5.length c0_5) ∧ w'.cell? ⟨gb145, 6, none⟩ = some (.slice A0_6 l0_6.length c0_6) ∧ w'.cell? ⟨gb145, 7, none⟩ = some (.int .i64 a0_7)) (ds := []) (bA 44 0) (by kernel_rfl) rfl rfl ⟨(blk_cell BK145.out 0).trans rfl, (blk_cell BK145.out 1).trans rfl, (blk_cell BK145.out 2).trans rfl, (blk_cell BK145.out 3).trans rfl, (blk_cell BK145.out 4).trans rfl, (blk_cell BK145.out 5).trans rfl, (blk_cell BK145.out 6).trans rfl, (blk_cell BK145.out 7).trans rfl⟩ (fun hHeld => ?_); refine with_tabW spec_BlockOk.tab1 spec_BlockOk.bits1 (fun HT_ HW_ => ?_)
     generalize w26.drew = w27 at BK145 HB hHeld ⊢
     refine pv (i := 0) (N := some 5) (bA 44 1) rfl rfl (any_of HT_.out (by kernel_rfl)) ?_
     refine one_ (i := 1) (N := some 6) (bA 44 3) rfl rfl (one_of HT_.out (by kernel_rfl)) (by decide) (fun K hK => ?_)
     refine goes_ Tryd.func73 (by kernel_rfl) rfl #[.int .i64 a1] (by rfl) rfl rfl (by (try simp only [List.map_toArray, List.map_cons, List.map_nil]); first | done | rfl | (simp only [List.length_drop, List.length_take]; rfl)) ?_
     with_reducible refine (spec_l15Servers.calls a1 true _ A3.out).mono ?_
     rintro e w' ⟨rfl, ⟨nd, rfl⟩⟩
     refine ⟨_, rfl, ?_⟩
     refine hK.out _ _ ⟨(blk_cell BK145.out 0).trans rfl, (blk_cell BK145.out 1).trans rfl, (blk_cell BK145.out 2).trans rfl, (blk_cell BK145.out 3).trans rfl, (blk_cell BK145.out 4).trans rfl, (blk_cell BK145.out 5).trans rfl, (blk_cell BK145.out 6).trans rfl, (blk_cell BK145.out 7).trans rfl⟩ (fun hHeld => ?_)
     clear hK K
     refine norm_ (a' := ?_) ?_ ?_
     rotate_left
     ·show Act.put _ (some 6) _ = _
      simp only [sp_]
      rfl
     refine pv (i := 2) (N := some 7) (bA 44 7) rfl rfl (any_of HT_.out (by kernel_rfl)) ?_
     refine pv (i := 3) (N := some 8) (bA 44 15) rfl rfl (any_of HT_.out (by kernel_rfl)) ?_
     refine take_ (i := 4) (N := some 9) (v := ?_) (a' := ?_) (bA 44 31) rfl rfl (take_ofW HT_.out HW_.out (by kernel_rfl)) (fun _ _ _ h => h) (Or.inl ⟨by rfl, ?_⟩) hHeld ?_ ?_
     rotate_left
     ·rintro w' ⟨s0, s1, s2, s3, s4, s5, s6, s7⟩
      go_simp
      with_reducible rfl
     rotate_left
     ·simp only [sp_]
      rfl
     refine one_ (i := 5) (N := some 10) (bA 44 63) rfl rfl (one_of HT_.out (by kernel_rfl)) (by decide) (fun K hK => ?_)
     refine goes_ Tryd.func74 (by kernel_rfl) rfl #[.int .i64 a0_0, .int .i64 1, .int .i64 100000] (by rfl) rfl rfl (by (try simp only [List.map_toArray, List.map_cons, List.map_nil]); first | done | rfl | (simp only [List.length_drop, List.length_take]; rfl)) ?_
     with_reducible refine (spec_l1In.calls a0_0 1 100000 true _ A5.out).mono ?_
     rintro e w' ⟨rfl, ⟨nd, rfl⟩⟩
     refine ⟨_, rfl, ?_⟩
     refine hK.out _ _ ⟨(blk_cell BK145.out 0).trans rfl, (blk_cell BK145.out 1).trans rfl, (blk_cell BK145.out 2).trans rfl, (blk_cell BK145.out 3).trans rfl, (blk_cell BK145.out 4).trans rfl, (blk_cell BK145.out 5).trans rfl, (blk_cell BK145.out 6).trans rfl, (blk_cell BK145.out 7).trans rfl⟩ (fun hHeld => ?_)
     clear hK K
     refine norm_ (a' := ?_) ?_ ?_
     rotate_left
     ·show Act.put _ (some 10) _ = _
      simp only [sp_]
      rfl
     refine pv (i := 6) (N := some 11) (bA 44 127) rfl rfl (any_of HT_.out (by kernel_rfl)) ?_
     refine pv (i := 7) (N := some 12) (bA 44 255) rfl rfl (any_of HT_.out (by kernel_rfl)) ?_
     refine pv (i := 8) (N := some 13) (bA 44 511) rfl rfl (any_of HT_.out (by kernel_rfl)) ?_
     refine pv (i := 10) (N := some 15) (bA 44 1535) rfl rfl (any_of HT_.out (by kernel_rfl)) ?_
     refine pv (i := 12) (N := some 17) (bA 44 5631) rfl rfl (any_of HT_.out (by kernel_rfl)) ?_
     refine take_ (i := 9) (N := some 14) (v := ?_) (a' := ?_) (bA 44 6143) rfl rfl (take_ofW HT_.out HW_.out (by kernel_rfl)) (fun _ _ _ h => h) (Or.inl ⟨by rfl, ?_⟩) hHeld ?_ ?_
     rotate_left
     ·rintro w' ⟨s0, s1, s2, s3, s4, s5, s6, s7⟩
      go_simp
      with_reducible rfl
     rotate_left
     ·simp only [sp_]
      rfl
     refine take_ (i := 11) (N := some 16) (v := ?_) (a' := ?_) (bA 44 8191) rfl rfl (take_ofW HT_.out HW_.out (by kernel_rfl)) (fun _ _ _ h => h) (Or.inl ⟨by rfl, ?_⟩) hHeld ?_ ?_
     rotate_left
     ·rintro w' ⟨s0, s1, s2, s3, s4, s5, s6, s7⟩
      go_simp
      with_reducible rfl
     rotate_left
     ·simp only [sp_]
      rfl
     refine pv (i := 13) (N := some 18) (bA 44 16383) rfl rfl (any_of HT_.out (by kernel_rfl)) ?_
     refine pv (i := 14) (N := some 19) (bA 44 32767) rfl rfl (any_of HT_.out (by kernel_rfl)) ?_
     refine pv (i := 15) (N := some 20) (bA 44 65535) rfl rfl (any_of HT_.out (by kernel_rfl)) ?_
     refine pv (i := 16) (N := some 21) (bA 44 131071) rfl rfl (any_of HT_.out (by kernel_rfl)) ?_
     refine pu (i := 17) (N := some 22) (bA 44 262143) rfl rfl (any_of HT_.out (by kernel_rfl)) ?_
     refine pu (i := 18) (N := some 23) (bA 44 524287) rfl rfl (any_of HT_.out (by kernel_rfl)) ?_
     refine pu (i := 19) (N := some 24) (bA 44 1048575) rfl rfl (any_of HT_.out (by kernel_rfl)) ?_
     refine pu (i := 20) (N := some 25) (bA 44 2097151) rfl rfl (any_of HT_.out (by kernel_rfl)) ?_
     refine pv (i := 21) (N := some 26) (bA 44 4194303) rfl rfl (any_of HT_.out (by kernel_rfl)) ?_
     refine pv (i := 22) (N := some 27) (bA 44 8388607) rfl rfl (any_of HT_.out (by kernel_rfl)) ?_
     refine pu (i := 23) (N := some 28) (bA 44 16777215) rfl rfl (any_of HT_.out (by kernel_rfl)) ?_
     refine pu (i := 24) (N := some 29) (bA 44 33554431) rfl rfl (any_of HT_.out (by kernel_rfl)) ?_
     refine pu (i := 25) (N := some 30) (bA 44 67108863) rfl rfl (any_of HT_.out (by kernel_rfl)) ?_
     refine pu (i := 26) (N := some 31) (bA 44 134217727) rfl rfl (any_of HT_.out (by kernel_rfl)) ?_
     refine pu (i := 27) (N := some 32) (bA 44 268435455) rfl rfl (any_of HT_.out (by kernel_rfl)) ?_
     refine pu (i := 28) (N := some 33) (bA 44 536870911) rfl rfl (any_of HT_.out (by kernel_rfl)) ?_
     refine pv (i := 29) (N := some 34) (bA 44 1073741823) rfl rfl (any_of HT_.out (by kernel_rfl)) ?_
     refine pv (i := 30) (N := some 35) (bA 44 2147483647) rfl rfl (any_of HT_.out (by kernel_rfl)) ?_
     refine pu (i := 31) (N := some 36) (bA 44 4294967295) rfl rfl (any_of HT_.out (by kernel_rfl)) ?_
     refine pu (i := 32) (N := some 37) (bA 44 8589934591) rfl rfl (any_of HT_.out (by kernel_rfl)) ?_
     refine pu (i := 33) (N := some 38) (bA 44 17179869183) rfl rfl (any_of HT_.out (by kernel_rfl)) ?_
     refine pu (i := 34) (N := some 39) (bA 44 34359738367) rfl rfl (any_of HT_.out (by kernel_rfl)) ?_
     refine pu (i := 35) (N := some 40) (bA 44 68719476735) rfl rfl (any_of HT_.out (by kernel_rfl)) ?_
     refine pu (i := 36) (N := some 41) (bA 44 137438953471) rfl rfl (any_of HT_.out (by kernel_rfl)) ?_
     refine pv (i := 37) (N := some 42) (bA 44 274877906943) rfl rfl (any_of HT_.out (by kernel_rfl)) ?_
     refine pv (i := 38) (N := some 43) (bA 44 549755813887) rfl rfl (any_of HT_.out (by kernel_rfl)) ?_
     refine pu (i := 39) (N := some 44) (bA 44 1099511627775) rfl rfl (any_of HT_.out (by kernel_rfl)) ?_
     refine pu (i := 40) (N := some 45) (bA 44 2199023255551) rfl rfl (any_of HT_.out (by kernel_rfl)) ?_
     refine pu (i := 41) (N := some 46) (bA 44 4398046511103) rfl rfl (any_of HT_.out (by kernel_rfl)) ?_
     refine pv (i := 42) (N := some 47) (bA 44 8796093022207) rfl rfl (any_of HT_.out (by kernel_rfl)) ?_
     refine pv (i := 43) (N := some 4) (bA 44 17592186044415) rfl rfl (any_of HT_.out (by kernel_rfl)) ?_
     refine done_ (done_of HT_.out (by kernel_rfl)) ?_
     try go_wp2
     go_ret
     exact ⟨by first | rfl | (simp [errW_none, errW_some] <;> rfl) | (simp [*, errW_none, errW_some] <;> rfl), by repeat (first | (with_reducible first | exact HB.out | apply below_alloc | apply pw_below_drewN | apply below_drew1 | refine below_set ?_ GE145.out) | exact HB.out)⟩
  ·replace c6 := Bool.eq_false_iff.mpr c6
   subst c6
   have H1 : (some false) = some r := by rw [if_neg (show ¬ (false = true) by decide)] at H; exact H
   clear H
   have H := H1
   clear H1
   obtain rfl := Option.some.inj H
   go_enter Tryd.func56, Tryd.ntmps56
   try go_wp2_with (first | ((with_reducible refine gate_dst (N := 2) rfl ?_); refine box_event ?hg (N := 2) ?hd (cs := #[.int .i64 a0_0, .int .i64 a0_1, .int .i64 a0_2, .int .i64 a0_3, .slice A0_4 l0_4.length c0_4, .slice A0_5 l0_5.length c0_5, .slice A0_6 l0_6.length c0_6, .int .i64 a0_7]) (t := 81) ?hr ?_; (case hd => rfl); (case hg => rfl); (case hr => first | (go_simp; done) | (go_simp; rfl)); intro gb145 hg w28 hbox hb; have n0_ := Aside0.mk (below_step (by repeat (first | (with_reducible first | exact HB.out | apply below_alloc | apply pw_below_drewN | apply below_drew1) | exact HB.out)) hb); have n1_ := Aside0.mk (hbox); have n2_ := Aside0.mk ((by rw [hg]; exact (below_size (by repeat (first | (with_reducible first | exact HB.out | apply below_alloc | apply pw_below_drewN | apply below_drew1) | exact HB.out))) : w.heap.size ≤ gb145)); have n3_ := Aside0.mk ((by rw [hg]; exact (below_size (by repeat (first | (with_reducible first | exact HB.out | apply below_alloc | apply pw_below_drewN | apply below_drew1) | exact HB.out))) : w.heap.size ≤ gb145)); clear HB; have HB := n0_; have BK145 := n1_; have GW145 := n2_; have GE145 := n3_; clear n0_ n1_ n2_ n3_; clear hb hbox hg))
   have n0_ := Aside0.mk (blk_drew BK145.out)
   have n1_ := Aside0.mk (below_drew1 HB.out)
   clear BK145
   clear HB
   have BK145 := n0_
   have HB := n1_
   clear n0_ n1_
   refine start_ (n := 44) (S := fun w' => w'.cell? ⟨gb145, 0, none⟩ = some (.int .i64 a0_0) ∧ w'.cell? ⟨gb145, 1, none⟩ = some (.int .i64 a0_1) ∧ w'.cell? ⟨gb145, 2, none⟩ = some (.int .i64 a0_2) ∧ w'.cell? ⟨gb145, 3, none⟩ = some (.int .i64 a0_3) ∧ w'.cell? ⟨gb145, 4, none⟩ = some (.slice A0_4 l0_4.length c0_4) ∧ w'.cell? ⟨gb145, 5, none⟩ = some (.slice A0_5 l0_5.length c0_5) ∧ w'.cell? ⟨gb145, 6, none⟩ = some (.slice A0_6 l0_6.length c0_6) ∧ w'.cell? ⟨gb145, 7, none⟩ = some (.int .i64 a0_7)) (ds := []) (bA 44 0) (by kernel_rfl) rfl rfl ⟨(blk_cell BK145.out 0).trans rfl, (blk_cell BK145.out 1).trans rfl, (blk_cell BK145.out 2).trans rfl, (blk_cell BK145.out 3).trans rfl, (blk_cell BK145.out 4).trans rfl, (blk_cell BK145.out 5).trans rfl, (blk_cell BK145.out 6).trans rfl, (blk_cell BK145.out 7).trans rfl⟩ (fun hHeld => ?_); refine with_tabW spec_BlockOk.tab1 spec_BlockOk.bits1 (fun HT_ HW_ => ?_)
   generalize w28.drew = w29 at BK145 HB hHeld ⊢
   refine pv (i := 0) (N := some 5) (bA 44 1) rfl rfl (any_of HT_.out (by kernel_rfl)) ?_
   refine one_ (i := 1) (N := some 6) (bA 44 3) rfl rfl (one_of HT_.out (by kernel_rfl)) (by decide) (fun K hK => ?_)
   refine goes_ Tryd.func73 (by kernel_rfl) rfl #[.int .i64 a1] (by rfl) rfl rfl (by (try simp only [List.map_toArray, List.map_cons, List.map_nil]); first | done | rfl | (simp only [List.length_drop, List.length_take]; rfl)) ?_
   with_reducible refine (spec_l15Servers.calls a1 true _ A3.out).mono ?_
   rintro e w' ⟨rfl, ⟨nd, rfl⟩⟩
   refine ⟨_, rfl, ?_⟩
   refine hK.out _ _ ⟨(blk_cell BK145.out 0).trans rfl, (blk_cell BK145.out 1).trans rfl, (blk_cell BK145.out 2).trans rfl, (blk_cell BK145.out 3).trans rfl, (blk_cell BK145.out 4).trans rfl, (blk_cell BK145.out 5).trans rfl, (blk_cell BK145.out 6).trans rfl, (blk_cell BK145.out 7).trans rfl⟩ (fun hHeld => ?_)
   clear hK K
   refine norm_ (a' := ?_) ?_ ?_
   rotate_left
   ·show Act.put _ (some 6) _ = _
    simp only [sp_]
    rfl
   refine pv (i := 2) (N := some 7) (bA 44 7) rfl rfl (any_of HT_.out (by kernel_rfl)) ?_
   refine pv (i := 3) (N := some 8) (bA 44 15) rfl rfl (any_of HT_.out (by kernel_rfl)) ?_
   refine take_ (i := 4) (N := some 9) (v := ?_) (a' := ?_) (bA 44 31) rfl rfl (take_ofW HT_.out HW_.out (by kernel_rfl)) (fun _ _ _ h => h) (Or.inl ⟨by rfl, ?_⟩) hHeld ?_ ?_
   rotate_left
   ·rintro w' ⟨s0, s1, s2, s3, s4, s5, s6, s7⟩
    go_simp
    with_reducible rfl
   rotate_left
   ·simp only [sp_]
    rfl
   refine one_ (i := 5) (N := some 10) (bA 44 63) rfl rfl (one_of HT_.out (by kernel_rfl)) (by decide) (fun K hK => ?_)
   refine goes_ Tryd.func74 (by kernel_rfl) rfl #[.int .i64 a0_0, .int .i64 1, .int .i64 100000] (by rfl) rfl rfl (by (try simp only [List.map_toArray, List.map_cons, List.map_nil]); first | done | rfl | (simp only [List.length_drop, List.length_take]; rfl)) ?_
   with_reducible refine (spec_l1In.calls a0_0 1 100000 false _ A5.out).mono ?_
   rintro e w' ⟨rfl, ⟨nd, rfl⟩⟩
   refine ⟨_, rfl, ?_⟩
   refine hK.out _ _ ⟨(blk_cell BK145.out 0).trans rfl, (blk_cell BK145.out 1).trans rfl, (blk_cell BK145.out 2).trans rfl, (blk_cell BK145.out 3).trans rfl, (blk_cell BK145.out 4).trans rfl, (blk_cell BK145.out 5).trans rfl, (blk_cell BK145.out 6).trans rfl, (blk_cell BK145.out 7).trans rfl⟩ (fun hHeld => ?_)
   clear hK K
   refine norm_ (a' := ?_) ?_ ?_
   rotate_left
   ·show Act.put _ (some 10) _ = _
    simp only [sp_]
    rfl
   refine pv (i := 6) (N := some 11) (bA 44 127) rfl rfl (any_of HT_.out (by kernel_rfl)) ?_
   refine pv (i := 7) (N := some 12) (bA 44 255) rfl rfl (any_of HT_.out (by kernel_rfl)) ?_
   refine pu (i := 8) (N := some 13) (bA 44 511) rfl rfl (any_of HT_.out (by kernel_rfl)) ?_
   refine pu (i := 9) (N := some 14) (bA 44 1023) rfl rfl (any_of HT_.out (by kernel_rfl)) ?_
   refine pu (i := 10) (N := some 15) (bA 44 2047) rfl rfl (any_of HT_.out (by kernel_rfl)) ?_
   refine pu (i := 11) (N := some 16) (bA 44 4095) rfl rfl (any_of HT_.out (by kernel_rfl)) ?_
   refine pu (i := 12) (N := some 17) (bA 44 8191) rfl rfl (any_of HT_.out (by kernel_rfl)) ?_
   refine pu (i := 13) (N := some 18) (bA 44 16383) rfl rfl (any_of HT_.out (by kernel_rfl)) ?_
   refine pu (i := 14) (N := some 19) (bA 44 32767) rfl rfl (any_of HT_.out (by kernel_rfl)) ?_
   refine pv (i := 15) (N := some 20) (bA 44 65535) rfl rfl (any_of HT_.out (by kernel_rfl)) ?_
   refine pv (i := 16) (N := some 21) (bA 44 131071) rfl rfl (any_of HT_.out (by kernel_rfl)) ?_
   refine pu (i := 17) (N := some 22) (bA 44 262143) rfl rfl (any_of HT_.out (by kernel_rfl)) ?_
   refine pu (i := 18) (N := some 23) (bA 44 524287) rfl rfl (any_of HT_.out (by kernel_rfl)) ?_
   refine pu (i := 19) (N := some 24) (bA 44 1048575) rfl rfl (any_of HT_.out (by kernel_rfl)) ?_
   refine pu (i := 20) (N := some 25) (bA 44 2097151) rfl rfl (any_of HT_.out (by kernel_rfl)) ?_
   refine pv (i := 21) (N := some 26) (bA 44 4194303) rfl rfl (any_of HT_.out (by kernel_rfl)) ?_
   refine pv (i := 22) (N := some 27) (bA 44 8388607) rfl rfl (any_of HT_.out (by kernel_rfl)) ?_
   refine pu (i := 23) (N := some 28) (bA 44 16777215) rfl rfl (any_of HT_.out (by kernel_rfl)) ?_
   refine pu (i := 24) (N := some 29) (bA 44 33554431) rfl rfl (any_of HT_.out (by kernel_rfl)) ?_
   refine pu (i := 25) (N := some 30) (bA 44 67108863) rfl rfl (any_of HT_.out (by kernel_rfl)) ?_
   refine pu (i := 26) (N := some 31) (bA 44 134217727) rfl rfl (any_of HT_.out (by kernel_rfl)) ?_
   refine pu (i := 27) (N := some 32) (bA 44 268435455) rfl rfl (any_of HT_.out (by kernel_rfl)) ?_
   refine pu (i := 28) (N := some 33) (bA 44 536870911) rfl rfl (any_of HT_.out (by kernel_rfl)) ?_
   refine pv (i := 29) (N := some 34) (bA 44 1073741823) rfl rfl (any_of HT_.out (by kernel_rfl)) ?_
   refine pv (i := 30) (N := some 35) (bA 44 2147483647) rfl rfl (any_of HT_.out (by kernel_rfl)) ?_
   refine pu (i := 31) (N := some 36) (bA 44 4294967295) rfl rfl (any_of HT_.out (by kernel_rfl)) ?_
   refine pu (i := 32) (N := some 37) (bA 44 8589934591) rfl rfl (any_of HT_.out (by kernel_rfl)) ?_
   refine pu (i := 33) (N := some 38) (bA 44 17179869183) rfl rfl (any_of HT_.out (by kernel_rfl)) ?_
   refine pu (i := 34) (N := some 39) (bA 44 34359738367) rfl rfl (any_of HT_.out (by kernel_rfl)) ?_
   refine pu (i := 35) (N := some 40) (bA 44 68719476735) rfl rfl (any_of HT_.out (by kernel_rfl)) ?_
   refine pu (i := 36) (N := some 41) (bA 44 137438953471) rfl rfl (any_of HT_.out (by kernel_rfl)) ?_
   refine pv (i := 37) (N := some 42) (bA 44 274877906943) rfl rfl (any_of HT_.out (by kernel_rfl)) ?_
   refine pv (i := 38) (N := some 43) (bA 44 549755813887) rfl rfl (any_of HT_.out (by kernel_rfl)) ?_
   refine pu (i := 39) (N := some 44) (bA 44 1099511627775) rfl rfl (any_of HT_.out (by kernel_rfl)) ?_
   refine pu (i := 40) (N := some 45) (bA 44 2199023255551) rfl rfl (any_of HT_.out (by kernel_rfl)) ?_
   refine pu (i := 41) (N := some 46) (bA 44 4398046511103) rfl rfl (any_of HT_.out (by kernel_rfl)) ?_
   refine pv (i := 42) (N := some 47) (bA 44 8796093022207) rfl rfl (any_of HT_.out (by kernel_rfl)) ?_
   refine pv (i := 43) (N := some 4) (bA 44 17592186044415) rfl rfl (any_of HT_.out (by kernel_rfl)) ?_
   refine done_ (done_of HT_.out (by kernel_rfl)) ?_
   try go_wp2
   go_ret
   exact ⟨by first | rfl | (simp [errW_none, errW_some] <;> rfl) | (simp [*, errW_none, errW_some] <;> rfl), by repeat (first | (with_reducible first | exact HB.out | apply below_alloc | apply pw_below_drewN | apply below_drew1 | refine below_set ?_ GE145.out) | exact HB.out)⟩
 ·replace c4 := Bool.eq_false_iff.mpr c4
  subst c4
  have H1 : (some false) = some r := by rw [if_neg (show ¬ (false = true) by decide)] at H; exact H
  clear H
  have H := H1
  clear H1
  obtain rfl := Option.some.inj H
  go_enter Tryd.func56, Tryd.ntmps56
  try go_wp2_with (first | ((with_reducible refine gate_dst (N := 2) rfl ?_); refine box_event ?hg (N := 2) ?hd (cs := #[.int .i64 a0_0, .int .i64 a0_1, .int .i64 a0_2, .int .i64 a0_3, .slice A0_4 l0_4.length c0_4, .slice A0_5 l0_5.length c0_5, .slice A0_6 l0_6.length c0_6, .int .i64 a0_7]) (t := 81) ?hr ?_; (case hd => rfl); (case hg => rfl); (case hr => first | (go_simp; done) | (go_simp; rfl)); intro gb145 hg w30 hbox hb; have n0_ := Aside0.mk (below_step (by repeat (first | (with_reducible first | exact HB.out | apply below_alloc | apply pw_below_drewN | apply below_drew1) | exact HB.out)) hb); have n1_ := Aside0.mk (hbox); have n2_ := Aside0.mk ((by rw [hg]; exact (below_size (by repeat (first | (with_reducible first | exact HB.out | apply below_alloc | apply pw_below_drewN | apply below_drew1) | exact HB.out))) : w.heap.size ≤ gb145)); have n3_ := Aside0.mk ((by rw [hg]; exact (below_size (by repeat (first | (with_reducible first | exact HB.out | apply below_alloc | apply pw_below_drewN | apply below_drew1) | exact HB.out))) : w.heap.size ≤ gb145)); clear HB; have HB := n0_; have BK145 := n1_; have GW145 := n2_; have GE145 := n3_; clear n0_ n1_ n2_ n3_; clear hb hbox hg))
  have n0_ := Aside0.mk (blk_drew BK145.out)
  have n1_ := Aside0.mk (below_drew1 HB.out)
  clear BK145
  clear HB
  have BK145 := n0_
  have HB := n1_
  clear n0_ n1_
  refine start_ (n := 44) (S := fun w' => True) (ds := []) (bA 44 0) (by kernel_rfl) rfl rfl trivial (fun hHeld => ?_); refine with_tabW spec_BlockOk.tab1 spec_BlockOk.bits1 (fun HT_ HW_ => ?_)
  generalize w30.drew = w31 at BK145 HB hHeld ⊢
  refine pv (i := 0) (N := some 5) (bA 44 1) rfl rfl (any_of HT_.out (by kernel_rfl)) ?_
  refine one_ (i := 1) (N := some 6) (bA 44 3) rfl rfl (one_of HT_.out (by kernel_rfl)) (by decide) (fun K hK => ?_)
  refine goes_ Tryd.func73 (by kernel_rfl) rfl #[.int .i64 a1] (by rfl) rfl rfl (by (try simp only [List.map_toArray, List.map_cons, List.map_nil]); first | done | rfl | (simp only [List.length_drop, List.length_take]; rfl)) ?_
  with_reducible refine (spec_l15Servers.calls a1 false _ A3.out).mono ?_
  rintro e w' ⟨rfl, ⟨nd, rfl⟩⟩
  refine ⟨_, rfl, ?_⟩
  refine hK.out _ _ trivial (fun hHeld => ?_)
  clear hK K
  refine norm_ (a' := ?_) ?_ ?_
  rotate_left
  ·show Act.put _ (some 6) _ = _
   simp only [sp_]
   rfl
  refine pv (i := 2) (N := some 7) (bA 44 7) rfl rfl (any_of HT_.out (by kernel_rfl)) ?_
  refine pu (i := 3) (N := some 8) (bA 44 15) rfl rfl (any_of HT_.out (by kernel_rfl)) ?_
  refine pu (i := 4) (N := some 9) (bA 44 31) rfl rfl (any_of HT_.out (by kernel_rfl)) ?_
  refine pu (i := 5) (N := some 10) (bA 44 63) rfl rfl (any_of HT_.out (by kernel_rfl)) ?_
  refine pv (i := 6) (N := some 11) (bA 44 127) rfl rfl (any_of HT_.out (by kernel_rfl)) ?_
  refine pv (i := 7) (N := some 12) (bA 44 255) rfl rfl (any_of HT_.out (by kernel_rfl)) ?_
  refine pu (i := 8) (N := some 13) (bA 44 511) rfl rfl (any_of HT_.out (by kernel_rfl)) ?_
  refine pu (i := 9) (N := some 14) (bA 44 1023) rfl rfl (any_of HT_.out (by kernel_rfl)) ?_
  refine pu (i := 10) (N := some 15) (bA 44 2047) rfl rfl (any_of HT_.out (by kernel_rfl)) ?_
  refine pu (i := 11) (N := some 16) (bA 44 4095) rfl rfl (any_of HT_.out (by kernel_rfl)) ?_
  refine pu (i := 12) (N := some 17) (bA 44 8191) rfl rfl (any_of HT_.out (by kernel_rfl)) ?_
  refine pu (i := 13) (N := some 18) (bA 44 16383) rfl rfl (any_of HT_.out (by kernel_rfl)) ?_
  refine pu (i := 14) (N := some 19) (bA 44 32767) rfl rfl (any_of HT_.out (by kernel_rfl)) ?_
  refine pv (i := 15) (N := some 20) (bA 44 65535) rfl rfl (any_of HT_.out (by kernel_rfl)) ?_
  refine pv (i := 16) (N := some 21) (bA 44 131071) rfl rfl (any_of HT_.out (by kernel_rfl)) ?_
  refine pu (i := 17) (N := some 22) (bA 44 262143) rfl rfl (any_of HT_.out (by kernel_rfl)) ?_
  refine pu (i := 18) (N := some 23) (bA 44 524287) rfl rfl (any_of HT_.out (by kernel_rfl)) ?_
  refine pu (i := 19) (N := some 24) (bA 44 1048575) rfl rfl (any_of HT_.out (by kernel_rfl)) ?_
  refine pu (i := 20) (N := some 25) (bA 44 2097151) rfl rfl (any_of HT_.out (by kernel_rfl)) ?_
  refine pv (i := 21) (N := some 26) (bA 44 4194303) rfl rfl (any_of HT_.out (by kernel_rfl)) ?_
  refine pv (i := 22) (N := some 27) (bA 44 8388607) rfl rfl (any_of HT_.out (by kernel_rfl)) ?_
  refine pu (i := 23) (N := some 28) (bA 44 16777215) rfl rfl (any_of HT_.out (by kernel_rfl)) ?_
  refine pu (i := 24) (N := some 29) (bA 44 33554431) rfl rfl (any_of HT_.out (by kernel_rfl)) ?_
  refine pu (i := 25) (N := some 30) (bA 44 67108863) rfl rfl (any_of HT_.out (by kernel_rfl)) ?_
  refine pu (i := 26) (N := some 31) (bA 44 134217727) rfl rfl (any_of HT_.out (by kernel_rfl)) ?_
  refine pu (i := 27) (N := some 32) (bA 44 268435455) rfl rfl (any_of HT_.out (by kernel_rfl)) ?_
  refine pu (i := 28) (N := some 33) (bA 44 536870911) rfl rfl (any_of HT_.out (by kernel_rfl)) ?_
  refine pv (i := 29) (N := some 34) (bA 44 1073741823) rfl rfl (any_of HT_.out (by kernel_rfl)) ?_
  refine pv (i := 30) (N := some 35) (bA 44 2147483647) rfl rfl (any_of HT_.out (by kernel_rfl)) ?_
  refine pu (i := 31) (N := some 36) (bA 44 4294967295) rfl rfl (any_of HT_.out (by kernel_rfl)) ?_
  refine pu (i := 32) (N := some 37) (bA 44 8589934591) rfl rfl (any_of HT_.out (by kernel_rfl)) ?_
  refine pu (i := 33) (N := some 38) (bA 44 17179869183) rfl rfl (any_of HT_.out (by kernel_rfl)) ?_
  refine pu (i := 34) (N := some 39) (bA 44 34359738367) rfl rfl (any_of HT_.out (by kernel_rfl)) ?_
  refine pu (i := 35) (N := some 40) (bA 44 68719476735) rfl rfl (any_of HT_.out (by kernel_rfl)) ?_
  refine pu (i := 36) (N := some 41) (bA 44 137438953471) rfl rfl (any_of HT_.out (by kernel_rfl)) ?_
  refine pv (i := 37) (N := some 42) (bA 44 274877906943) rfl rfl (any_of HT_.out (by kernel_rfl)) ?_
  refine pv (i := 38) (N := some 43) (bA 44 549755813887) rfl rfl (any_of HT_.out (by kernel_rfl)) ?_
  refine pu (i := 39) (N := some 44) (bA 44 1099511627775) rfl rfl (any_of HT_.out (by kernel_rfl)) ?_
  refine pu (i := 40) (N := some 45) (bA 44 2199023255551) rfl rfl (any_of HT_.out (by kernel_rfl)) ?_
  refine pu (i := 41) (N := some 46) (bA 44 4398046511103) rfl rfl (any_of HT_.out (by kernel_rfl)) ?_
  refine pv (i := 42) (N := some 47) (bA 44 8796093022207) rfl rfl (any_of HT_.out (by kernel_rfl)) ?_
  refine pv (i := 43) (N := some 4) (bA 44 17592186044415) rfl rfl (any_of HT_.out (by kernel_rfl)) ?_
  refine done_ (done_of HT_.out (by kernel_rfl)) ?_
  try go_wp2
  go_ret
  exact ⟨by first | rfl | (simp [errW_none, errW_some] <;> rfl) | (simp [*, errW_none, errW_some] <;> rfl), by repeat (first | (with_reducible first | exact HB.out | apply below_alloc | apply pw_below_drewN | apply below_drew1 | refine below_set ?_ GE145.out) | exact HB.out)⟩

end Go.Proofs.YtcegobkangpilaaDoor.PFnExactBlockOk
