-- Written by a program of this session (wip/tools/pp.py over the kit's print).
import Derived.Test.YtcegobkangpilaaDoorPFnExactBlockOkx0
import Derived.Test.YtcegobkangpilaaDoorPFnExactBlockOkx8
import Derived.Test.YtcegobkangpilaaDoorPFnExactBlockOkx11
import Derived.Test.YtcegobkangpilaaDoorPFnExactBlockOkx12
namespace Go.Proofs.YtcegobkangpilaaDoor.PFnExactBlockOk
open Go.RowKit Go.Proofs.YtcegobkangpilaaDoorW.PrintWords Go.Proofs.YtcegobkangpilaaDoorW.PrintLast Go.Proofs.YtcegobkangpilaaDoorW.PrintMore
attribute [local go_sem] max2_int min2_int max_two min_two max_three min_three max_four min_four
attribute [local go_sem high] str_gtr str_leq str_geq
set_option linter.unusedVariables false
set_option linter.unusedSimpArgs false

/-! ### impl_BlockOk: function 58 -/
def impl_BlockOk.f (k : Nat) (a0_0 : Int) (a0_1 : Int) (a0_2 : Int) (a0_3 : Int) (l0_4 : List Int) (l0_5 : List Int) (l0_6 : List ByteArray) (a0_7 : Int) (a1 : Int) : Option (Bool) := (impl_ProofOk.f k a0_2 a0_3 l0_4 l0_5 a1).bind fun t211 => (if t211 = true then ((impl_isView.f a0_0).bind fun t212 => (if t212 = true then (if a0_2 < a0_0 then (if a0_1 = a0_3 then (if a1 = 0 then (none) else (if a0_7 = (Int.tmod a0_0 a1) then (if (l0_6.length : Int) ≤ 10 then ((slices_ContainsFunc_string_string.f l0_6).bind fun t213 => (some (!t213))) else (some false)) else (some false))) else (some false)) else (some false)) else (some false))) else (some false))
theorem impl_BlockOk.mono : ∀ a0 a1 a2 a3 a4 a5 a6 a7 a8 k, LeO (impl_BlockOk.f k a0 a1 a2 a3 a4 a5 a6 a7 a8) (impl_BlockOk.f (k + 1) a0 a1 a2 a3 a4 a5 a6 a7 a8) := by
 intro a0 a1 a2 a3 a4 a5 a6 a7 a8 k
 unfold impl_BlockOk.f
 repeat' first
   | (with_reducible exact impl_ProofOk.mono _ _ _ _ _ _)
   | (with_reducible exact LeO.refl _)
   | (with_reducible exact LeO.none _)
   | (with_reducible refine LeO.ite ?_ ?_)
   | (with_reducible refine LeO.bind ?_ (fun _ => ?_))
   | exact impl_ProofOk.mono _ _ _ _ _ _
   | exact LeO.none _
   | refine LeO.ite ?_ ?_
   | refine LeO.bind ?_ (fun _ => ?_)
def impl_BlockOk.T1 : Bool × List (List Nat × List Nat) := (true, [([], []), ([0], [0]), ([], []), ([1, 2], [1, 2]), ([3, 3], [3]), ([4], [4]), ([5, 4], [4, 5]), ([6, 4, 4], [4, 6]), ([4, 7], [4, 7]), ([8, 7], [8]), ([9], [9]), ([10, 9], [9, 10]), ([11, 9], [9, 11]), ([9], [9]), ([13, 9], [9, 13]), ([12, 14, 9], [9, 12, 14]), ([9, 15], [9, 15]), ([16, 9], [16]), ([17], [17]), ([18, 17], [17, 18]), ([17], [17]), ([20, 17], [17, 20]), ([21, 17], [17, 21]), ([19, 22, 17], [17, 19, 22]), ([17, 23], [17, 23]), ([24, 17], [24]), ([25], [25]), ([26, 25], [25, 26]), ([25], [25]), ([28, 25], [25, 28]), ([25], [25]), ([29, 30, 25], [25, 29, 30]), ([27, 31, 25], [25, 27, 31]), ([25, 32], [25, 32]), ([33, 25], [33]), ([34], [34]), ([35, 34], [34, 35]), ([36, 34], [34, 36]), ([37, 34], [34, 37]), ([34, 38], [34, 38]), ([39, 34], [39]), ([40], [40]), ([41, 40], [40, 41]), ([42, 40, 40], [40, 42]), ([43, 40], [40, 43]), ([40, 44], [40, 44]), ([45, 43, 0, 1, 2, 3, 4, 5, 6, 7, 8, 9, 10, 11, 12, 13, 14, 15, 16, 17, 18, 19, 20, 21, 22, 23, 24, 25, 26, 27, 28, 29, 30, 31, 32, 33, 34, 35, 36, 37, 38, 39, 40, 41, 42, 43, 44, 45], [45])])
def impl_BlockOk.B1 : List Nat := [0, 1, 0, 7, 15, 31, 63, 127, 255, 511, 1023, 2047, 4095, 1023, 9215, 32767, 65535, 131071, 262143, 524287, 262143, 1310719, 3407871, 8388607, 16777215, 33554431, 67108863, 134217727, 67108863, 335544319, 67108863, 1946157055, 4294967295, 8589934591, 17179869183, 34359738367, 68719476735, 137438953471, 274877906943, 549755813887, 1099511627775, 2199023255551, 4398046511103, 8796093022207, 17592186044415, 35184372088831, 70368744177663]
theorem impl_BlockOk.tab1 : rtab .any (opsOf Tryd.f58 1) = impl_BlockOk.T1 := by kernel_rfl
theorem impl_BlockOk.bits1 : waitsOk impl_BlockOk.T1.2 impl_BlockOk.B1 = true := by kernel_rfl
set_option maxHeartbeats 8000000 in
set_option maxRecDepth 100000 in
theorem impl_BlockOk.calls (k : Nat) (a0_0 : Int) (a0_1 : Int) (a0_2 : Int) (a0_3 : Int) (A0_4 : Option Addr) (c0_4 : Nat) (l0_4 : List Int) (A0_5 : Option Addr) (c0_5 : Nat) (l0_5 : List Int) (A0_6 : Option Addr) (c0_6 : Nat) (l0_6 : List ByteArray) (a0_7 : Int) (a1 : Int) (r : Bool) (w : World) (hr0_4 : Kd.C (Kd.int .i64) w A0_4 l0_4.length l0_4) (hc0_4 : l0_4.length ≤ c0_4) (hr0_5 : Kd.C (Kd.int .i64) w A0_5 l0_5.length l0_5) (hc0_5 : l0_5.length ≤ c0_5) (hr0_6 : Kd.C Kd.string w A0_6 l0_6.length l0_6) (hc0_6 : l0_6.length ≤ c0_6) (h : impl_BlockOk.f k a0_0 a0_1 a0_2 a0_3 l0_4 l0_5 l0_6 a0_7 a1 = some r) (hT : TabOk w) :
  Calls Tryd.prog 58 #[.agg #[.int .i64 a0_0, .int .i64 a0_1, .int .i64 a0_2, .int .i64 a0_3, .slice A0_4 l0_4.length c0_4, .slice A0_5 l0_5.length c0_5, .slice A0_6 l0_6.length c0_6, .int .i64 a0_7], .int .i64 a1] w fun e w' => e = .returned (.bool r) ∧ Below w.heap.size w w' := by
 have HT := Aside0.mk hT
 clear hT
 have hu81 := Tryd.underlying81
 have hu54 := Tryd.underlying54
 have HR0_4 := Aside0.mk hr0_4
 have HC0_4 := Aside0.mk hc0_4
 clear hr0_4 hc0_4
 have HR0_5 := Aside0.mk hr0_5
 have HC0_5 := Aside0.mk hc0_5
 clear hr0_5 hc0_5
 have HR0_6 := Aside0.mk hr0_6
 have HC0_6 := Aside0.mk hc0_6
 clear hr0_6 hc0_6
 have HB := Aside0.mk (Below.refl w.heap.size w)
 have H : ((impl_ProofOk.f k a0_2 a0_3 l0_4 l0_5 a1).bind fun t211 => (if t211 = true then ((impl_isView.f a0_0).bind fun t212 => (if t212 = true then (if a0_2 < a0_0 then (if a0_1 = a0_3 then (if a1 = 0 then (none) else (if a0_7 = (Int.tmod a0_0 a1) then (if (l0_6.length : Int) ≤ 10 then ((slices_ContainsFunc_string_string.f l0_6).bind fun t213 => (some (!t213))) else (some false)) else (some false))) else (some false)) else (some false)) else (some false))) else (some false))) = some r := h
 clear h
 replace H := Option.bind_eq_some_iff.mp H
 obtain ⟨t211, A30, H⟩ := H
 replace H : (if t211 = true then ((impl_isView.f a0_0).bind fun t212 => (if t212 = true then (if a0_2 < a0_0 then (if a0_1 = a0_3 then (if a1 = 0 then (none) else (if a0_7 = (Int.tmod a0_0 a1) then (if (l0_6.length : Int) ≤ 10 then ((slices_ContainsFunc_string_string.f l0_6).bind fun t213 => (some (!t213))) else (some false)) else (some false))) else (some false)) else (some false)) else (some false))) else (some false)) = some r := H
 have A3 := Aside0.mk A30
 clear A30
 by_cases c4 : t211 = true
 ·subst c4
  have H1 : ((impl_isView.f a0_0).bind fun t212 => (if t212 = true then (if a0_2 < a0_0 then (if a0_1 = a0_3 then (if a1 = 0 then (none) else (if a0_7 = (Int.tmod a0_0 a1) then (if (l0_6.length : Int) ≤ 10 then ((slices_ContainsFunc_string_string.f l0_6).bind fun t213 => (some (!t213))) else (some false)) else (some false))) else (some false)) else (some false)) else (some false))) = some r := by rw [if_pos rfl] at H; exact H
  clear H
  have H := H1
  clear H1
  replace H := Option.bind_eq_some_iff.mp H
  obtain ⟨t212, A50, H⟩ := H
  replace H : (if t212 = true then (if a0_2 < a0_0 then (if a0_1 = a0_3 then (if a1 = 0 then (none) else (if a0_7 = (Int.tmod a0_0 a1) then (if (l0_6.length : Int) ≤ 10 then ((slices_ContainsFunc_string_string.f l0_6).bind fun t213 => (some (!t213))) else (some false)) else (some false))) else (some false)) else (some false)) else (some false)) = some r := H
  have A5 := Aside0.mk A50
  clear A50
  by_cases c6 : t212 = true
  ·subst c6
   have H1 : (if a0_2 < a0_0 then (if a0_1 = a0_3 then (if a1 = 0 then (none) else (if a0_7 = (Int.tmod a0_0 a1) then (if (l0_6.length : Int) ≤ 10 then ((slices_ContainsFunc_string_string.f l0_6).bind fun t213 => (some (!t213))) else (some false)) else (some false))) else (some false)) else (some false)) = some r := by rw [if_pos rfl] at H; exact H
   clear H
   have H := H1
   clear H1
   by_cases c7 : a0_2 < a0_0
   ·rw [if_pos c7] at H
    have c7b0 : decide (a0_2 < a0_0) = true := decide_eq_true c7
    clear c7
    by_cases c8 : a0_1 = a0_3
    ·rw [if_pos c8] at H
     have c8b0 : (a0_1 == a0_3) = true := beq_iff_eq.mpr c8
     have c8b1 : (a0_1 != a0_3) = false := bne_eq_false_iff_eq.mpr c8
     clear c8
     by_cases c9 : a1 = 0
     ·rw [if_pos c9] at H
      exact absurd H (by simp)
     ·rw [if_neg c9] at H
      have c9b0 : (a1 == 0) = false := beq_eq_false_iff_ne.mpr c9
      have c9b1 : (a1 != 0) = true := bne_iff_ne.mpr c9
      by_cases c10 : a0_7 = (Int.tmod a0_0 a1)
      ·rw [if_pos c10] at H
       have c10b0 : (a0_7 == (Int.tmod a0_0 a1)) = true := beq_iff_eq.mpr c10
       have c10b1 : (a0_7 != (Int.tmod a0_0 a1)) = false := bne_eq_false_iff_eq.mpr c10
       clear c10
       by_cases c11 : (l0_6.length : Int) ≤ 10
       ·rw [if_pos c11] at H
        have c11b0 : decide ((l0_6.length : Int) ≤ 10) = true := decide_eq_true c11
        have c11b1 : decide (l0_6.length ≤ 10) = true := decide_eq_true (by omega)
        clear c11
        replace H := Option.bind_eq_some_iff.mp H
        obtain ⟨t213, A120, H⟩ := H
        replace H : (some (!t213)) = some r := H
        have A12 := Aside0.mk A120
        clear A120
        obtain rfl := Option.some.inj H
        go_enter Tryd.func58, Tryd.ntmps58
        try go_wp2_with (first | ((with_reducible refine gate_dst (N := 2) rfl ?_); (try (refine gate_guard (by rfl) ?_; dsimp only)); refine box_event ?hg (N := 2) ?hd (cs := #[.int .i64 a0_0, .int .i64 a0_1, .int .i64 a0_2, .int .i64 a0_3, .slice A0_4 l0_4.length c0_4, .slice A0_5 l0_5.length c0_5, .slice A0_6 l0_6.length c0_6, .int .i64 a0_7]) (t := 81) ?hr ?_; (case hd => rfl); (case hg => rfl); (case hr => first | (go_simp; done) | (go_simp; rfl)); intro gb210 hg w13 hbox hb; have n0_ := Aside0.mk (below_step (by repeat (first | (with_reducible first | exact HB.out | apply below_alloc | apply pw_below_drewN | apply below_drew1) | exact HB.out)) hb); have n1_ := Aside0.mk (hbox); have n2_ := Aside0.mk ((by rw [hg]; exact (below_size (by repeat (first | (with_reducible first | exact HB.out | apply below_alloc | apply pw_below_drewN | apply below_drew1) | exact HB.out))) : w.heap.size ≤ gb210)); have n3_ := Aside0.mk ((by rw [hg]; exact (below_size (by repeat (first | (with_reducible first | exact HB.out | apply below_alloc | apply pw_below_drewN | apply below_drew1) | exact HB.out))) : w.heap.size ≤ gb210)); clear HB; have HB := n0_; have BK210 := n1_; have GW210 := n2_; have GE210 := n3_; clear n0_ n1_ n2_ n3_; clear hb hbox hg))
        have n0_ := Aside0.mk (blk_drew BK210.out)
        have n1_ := Aside0.mk (below_drew1 HB.out)
        clear BK210
        clear HB
        have BK210 := n0_
        have HB := n1_
        clear n0_ n1_
        refine start_ (n := 47) (S := fun w' => w'.cell? ⟨gb210, 0, none⟩ = some (.int .i64 a0_0) ∧ w'.cell? ⟨gb210, 1, none⟩ = some (.int .i64 a0_1) ∧ w'.cell? ⟨gb210, 2, none⟩ = some (.int .i64 a0_2) ∧ w'.cell? ⟨gb210, 3, none⟩ = some (.int .i64 a0_3) ∧ w'.cell? ⟨gb210, 4, none⟩ = some (.slice A0_4 l0_4.length c0_4) ∧ w'.cell? ⟨gb210, 5, none⟩ = some (.slice A0_5 l0_5.length c0_5) ∧ w'.cell? ⟨gb210, 6, none⟩ = some (.slice A0_6 l0_6.length c0_6) ∧ w'.cell? ⟨gb210, 7, none⟩ = some (.int .i64 a0_7)) (ds := []) (bA 47 0) (by kernel_rfl) rfl rfl ⟨(blk_cell BK210.out 0).trans rfl, (blk_cell BK210.out 1).trans rfl, (blk_cell BK210.out 2).trans rfl, (blk_cell BK210.out 3).trans rfl, (blk_cell BK210.out 4).trans rfl, (blk_cell BK210.out 5).trans rfl, (blk_cell BK210.out 6).trans rfl, (blk_cell BK210.out 7).trans rfl⟩ (fun hHeld => ?_); refine with_tabW impl_BlockOk.tab1 impl_BlockOk.bits1 (fun HT_ HW_ => ?_)
        generalize w13.drew = w14 at BK210 HB hHeld ⊢
        refine pv (i := 0) (N := some 5) (bA 47 1) rfl rfl (any_of HT_.out (by kernel_rfl)) ?_
        refine pv (i := 2) (N := some 7) (bA 47 5) rfl rfl (any_of HT_.out (by kernel_rfl)) ?_
        refine take_ (i := 1) (N := some 6) (v := ?_) (a' := ?_) (bA 47 7) rfl rfl (take_ofW HT_.out HW_.out (by kernel_rfl)) (fun _ _ _ h => h) (Or.inl ⟨by rfl, ?_⟩) hHeld ?_ ?_
        rotate_left
        ·rintro w' ⟨s0, s1, s2, s3, s4, s5, s6, s7⟩
         go_simp
         with_reducible rfl
        rotate_left
        ·simp only [sp_]
         rfl
        refine one_ (i := 3) (N := some 8) (bA 47 15) rfl rfl (one_of HT_.out (by kernel_rfl)) (by decide) (fun K hK => ?_)
        refine goes_ Tryd.func38 (by kernel_rfl) rfl #[.agg #[.int .i64 a0_2, .int .i64 a0_3, .slice A0_4 l0_4.length c0_4, .slice A0_5 l0_5.length c0_5], .int .i64 a1] (by rfl) rfl rfl (by (try simp only [List.map_toArray, List.map_cons, List.map_nil]); first | done | rfl | (simp only [List.length_drop, List.length_take]; rfl)) ?_
        with_reducible refine (impl_ProofOk.calls k a0_2 a0_3 _ _ l0_4 _ _ l0_5 a1 true _ ?side1 ?side2 ?side3 ?side4 A3.out (tab_at HT.out (by repeat (first | (with_reducible first | exact HB.out | apply below_alloc | apply pw_below_drewN | apply below_drew1 | (refine below_set ?_ (Aside0.out (by assumption)))) | exact HB.out)))).mono ?_
        (case side1 => repeat (first | exact (Kd.C_below HR0_4.out HB.out) | (with_reducible refine Kd.C_alloc ?_ _) | (with_reducible refine Kd.C_drewN ?_ _) | (with_reducible refine Kd.C_drew ?_)))
        (case side2 => exact HC0_4.out)
        (case side3 => repeat (first | exact (Kd.C_below HR0_5.out HB.out) | (with_reducible refine Kd.C_alloc ?_ _) | (with_reducible refine Kd.C_drewN ?_ _) | (with_reducible refine Kd.C_drew ?_)))
        (case side4 => exact HC0_5.out)
        rintro e w15 ⟨rfl, hb⟩
        refine ⟨_, rfl, ?_⟩
        have n0_ := Aside0.mk (blk_below (g := gb210) (o := .cells #[.int .i64 a0_0, .int .i64 a0_1, .int .i64 a0_2, .int .i64 a0_3, .slice A0_4 l0_4.length c0_4, .slice A0_5 l0_5.length c0_5, .slice A0_6 l0_6.length c0_6, .int .i64 a0_7] 81 (0, 0)) (by (with_reducible repeat (first | refine blk_drewN ?_ _ | refine blk_drew ?_ | refine blk_alloc ?_ _)); exact BK210.out) hb)
        have n1_ := Aside0.mk (below_step (by repeat (first | (with_reducible first | exact HB.out | apply below_alloc | apply pw_below_drewN | apply below_drew1 | refine below_set ?_ GE210.out) | exact HB.out)) hb)
        clear BK210
        clear HB
        have BK210 := n0_
        have HB := n1_
        clear n0_ n1_
        (try clear hb)
        (try clear hb2)
        (try clear hk)
        (try clear hi)
        refine hK.out _ _ ⟨(blk_cell BK210.out 0).trans rfl, (blk_cell BK210.out 1).trans rfl, (blk_cell BK210.out 2).trans rfl, (blk_cell BK210.out 3).trans rfl, (blk_cell BK210.out 4).trans rfl, (blk_cell BK210.out 5).trans rfl, (blk_cell BK210.out 6).trans rfl, (blk_cell BK210.out 7).trans rfl⟩ (fun hHeld => ?_)
        clear hK K
        refine norm_ (a' := ?_) ?_ ?_
        rotate_left
        ·show Act.put _ (some 8) _ = _
         simp only [sp_]
         rfl
        refine pv (i := 4) (N := some 9) (bA 47 31) rfl rfl (any_of HT_.out (by kernel_rfl)) ?_
        refine pv (i := 5) (N := some 10) (bA 47 63) rfl rfl (any_of HT_.out (by kernel_rfl)) ?_
        refine take_ (i := 6) (N := some 11) (v := ?_) (a' := ?_) (bA 47 127) rfl rfl (take_ofW HT_.out HW_.out (by kernel_rfl)) (fun _ _ _ h => h) (Or.inl ⟨by rfl, ?_⟩) hHeld ?_ ?_
        rotate_left
        ·rintro w' ⟨s0, s1, s2, s3, s4, s5, s6, s7⟩
         go_simp
         with_reducible rfl
        rotate_left
        ·simp only [sp_]
         rfl
        refine one_ (i := 7) (N := some 12) (bA 47 255) rfl rfl (one_of HT_.out (by kernel_rfl)) (by decide) (fun K hK => ?_)
        refine goes_ Tryd.func79 (by kernel_rfl) rfl #[.int .i64 a0_0] (by rfl) rfl rfl (by (try simp only [List.map_toArray, List.map_cons, List.map_nil]); first | done | rfl | (simp only [List.length_drop, List.length_take]; rfl)) ?_
        with_reducible refine (impl_isView.calls a0_0 true _ A5.out).mono ?_
        rintro e w' ⟨rfl, ⟨nd, rfl⟩⟩
        refine ⟨_, rfl, ?_⟩
        refine hK.out _ _ ⟨(blk_cell BK210.out 0).trans rfl, (blk_cell BK210.out 1).trans rfl, (blk_cell BK210.out 2).trans rfl, (blk_cell BK210.out 3).trans rfl, (blk_cell BK210.out 4).trans rfl, (blk_cell BK210.out 5).trans rfl, (blk_cell BK210.out 6).trans rfl, (blk_cell BK210.out 7).trans rfl⟩ (fun hHeld => ?_)
        clear hK K
        refine norm_ (a' := ?_) ?_ ?_
        rotate_left
        ·show Act.put _ (some 12) _ = _
         simp only [sp_]
         rfl
        refine pv (i := 8) (N := some 13) (bA 47 511) rfl rfl (any_of HT_.out (by kernel_rfl)) ?_
        refine pv (i := 9) (N := some 14) (bA 47 1023) rfl rfl (any_of HT_.out (by kernel_rfl)) ?_
        refine pv (i := 10) (N := some 15) (bA 47 2047) rfl rfl (any_of HT_.out (by kernel_rfl)) ?_
        refine pv (i := 11) (N := some 16) (bA 47 4095) rfl rfl (any_of HT_.out (by kernel_rfl)) ?_
        refine pv (i := 13) (N := some 18) (bA 47 12287) rfl rfl (any_of HT_.out (by kernel_rfl)) ?_
        refine take_ (i := 12) (N := some 17) (v := ?_) (a' := ?_) (bA 47 16383) rfl rfl (take_ofW HT_.out HW_.out (by kernel_rfl)) (fun _ _ _ h => h) (Or.inl ⟨by rfl, ?_⟩) hHeld ?_ ?_
        rotate_left
        ·rintro w' ⟨s0, s1, s2, s3, s4, s5, s6, s7⟩
         go_simp
         with_reducible rfl
        rotate_left
        ·simp only [sp_]
         rfl
        refine take_ (i := 14) (N := some 19) (v := ?_) (a' := ?_) (bA 47 32767) rfl rfl (take_ofW HT_.out HW_.out (by kernel_rfl)) (fun _ _ _ h => h) (Or.inl ⟨by rfl, ?_⟩) hHeld ?_ ?_
        rotate_left
        ·rintro w' ⟨s0, s1, s2, s3, s4, s5, s6, s7⟩
         go_simp
         with_reducible rfl
        rotate_left
        ·simp only [sp_]
         rfl
        refine pv (i := 15) (N := some 20) (bA 47 65535) rfl rfl (any_of HT_.out (by kernel_rfl)) ?_
        refine pv (i := 16) (N := some 21) (bA 47 131071) rfl rfl (any_of HT_.out (by kernel_rfl)) ?_
        refine pv (i := 17) (N := some 22) (bA 47 262143) rfl rfl (any_of HT_.out (by kernel_rfl)) ?_
        refine pv (i := 18) (N := some 23) (bA 47 524287) rfl rfl (any_of HT_.out (by kernel_rfl)) ?_
        refine pv (i := 20) (N := some 25) (bA 47 1572863) rfl rfl (any_of HT_.out (by kernel_rfl)) ?_
        refine pv (i := 21) (N := some 26) (bA 47 3670015) rfl rfl (any_of HT_.out (by kernel_rfl)) ?_
        refine take_ (i := 19) (N := some 24) (v := ?_) (a' := ?_) (bA 47 4194303) rfl rfl (take_ofW HT_.out HW_.out (by kernel_rfl)) (fun _ _ _ h => h) (Or.inl ⟨by rfl, ?_⟩) hHeld ?_ ?_
        rotate_left
        ·rintro w' ⟨s0, s1, s2, s3, s4, s5, s6, s7⟩
         go_simp
         with_reducible rfl
        rotate_left
        ·simp only [sp_]
         rfl
        refine take_ (i := 22) (N := some 27) (v := ?_) (a' := ?_) (bA 47 8388607) rfl rfl (take_ofW HT_.out HW_.out (by kernel_rfl)) (fun _ _ _ h => h) (Or.inl ⟨by rfl, ?_⟩) hHeld ?_ ?_
        rotate_left
        ·rintro w' ⟨s0, s1, s2, s3, s4, s5, s6, s7⟩
         go_simp
         with_reducible rfl
        rotate_left
        ·simp only [sp_]
         rfl
        refine pv (i := 23) (N := some 28) (bA 47 16777215) rfl rfl (any_of HT_.out (by kernel_rfl)) ?_
        refine pv (i := 24) (N := some 29) (bA 47 33554431) rfl rfl (any_of HT_.out (by kernel_rfl)) ?_
        refine pv (i := 25) (N := some 30) (bA 47 67108863) rfl rfl (any_of HT_.out (by kernel_rfl)) ?_
        refine pv (i := 26) (N := some 31) (bA 47 134217727) rfl rfl (any_of HT_.out (by kernel_rfl)) ?_
        refine pv (i := 28) (N := some 33) (bA 47 402653183) rfl rfl (any_of HT_.out (by kernel_rfl)) ?_
        refine pv (i := 30) (N := some 35) (bA 47 1476395007) rfl rfl (any_of HT_.out (by kernel_rfl)) ?_
        refine take_ (i := 27) (N := some 32) (v := ?_) (a' := ?_) (bA 47 1610612735) rfl rfl (take_ofW HT_.out HW_.out (by kernel_rfl)) (fun _ _ _ h => h) (Or.inl ⟨by rfl, ?_⟩) hHeld ?_ ?_
        rotate_left
        ·rintro w' ⟨s0, s1, s2, s3, s4, s5, s6, s7⟩
         go_simp
         with_reducible rfl
        rotate_left
        ·simp only [sp_]
         rfl
        refine take_ (i := 29) (N := some 34) (v := ?_) (a' := ?_) (bA 47 2147483647) rfl rfl (take_ofW HT_.out HW_.out (by kernel_rfl)) (fun _ _ _ h => h) (Or.inl ⟨by rfl, ?_⟩) hHeld ?_ ?_
        rotate_left
        ·rintro w' ⟨s0, s1, s2, s3, s4, s5, s6, s7⟩
         go_simp
         with_reducible rfl
        rotate_left
        ·simp only [sp_]
         rfl
        refine pv (i := 31) (N := some 36) (bA 47 4294967295) rfl rfl (any_of HT_.out (by kernel_rfl)) ?_
        refine pv (i := 32) (N := some 37) (bA 47 8589934591) rfl rfl (any_of HT_.out (by kernel_rfl)) ?_
        refine pv (i := 33) (N := some 38) (bA 47 17179869183) rfl rfl (any_of HT_.out (by kernel_rfl)) ?_
        refine pv (i := 34) (N := some 39) (bA 47 34359738367) rfl rfl (any_of HT_.out (by kernel_rfl)) ?_
        refine pv (i := 35) (N := some 40) (bA 47 68719476735) rfl rfl (any_of HT_.out (by kernel_rfl)) ?_
        refine take_ (i := 36) (N := some 41) (v := ?_) (a' := ?_) (bA 47 137438953471) rfl rfl (take_ofW HT_.out HW_.out (by kernel_rfl)) (fun _ _ _ h => h) (Or.inl ⟨by rfl, ?_⟩) hHeld ?_ ?_
        rotate_left
        ·rintro w' ⟨s0, s1, s2, s3, s4, s5, s6, s7⟩
         go_simp
         with_reducible rfl
        rotate_left
        ·simp only [sp_]
         rfl
        refine pv (i := 37) (N := some 42) (bA 47 274877906943) rfl rfl (any_of HT_.out (by kernel_rfl)) ?_
        refine pv (i := 38) (N := some 43) (bA 47 549755813887) rfl rfl (any_of HT_.out (by kernel_rfl)) ?_
        refine pv (i := 39) (N := some 44) (bA 47 1099511627775) rfl rfl (any_of HT_.out (by kernel_rfl)) ?_
        refine pv (i := 40) (N := some 45) (bA 47 2199023255551) rfl rfl (any_of HT_.out (by kernel_rfl)) ?_
        refine pv (i := 41) (N := some 46) (bA 47 4398046511103) rfl rfl (any_of HT_.out (by kernel_rfl)) ?_
        refine take_ (i := 42) (N := some 47) (v := ?_) (a' := ?_) (bA 47 8796093022207) rfl rfl (take_ofW HT_.out HW_.out (by kernel_rfl)) (fun _ _ _ h => h) (Or.inl ⟨by rfl, ?_⟩) hHeld ?_ ?_
        rotate_left
        ·rintro w' ⟨s0, s1, s2, s3, s4, s5, s6, s7⟩
         go_simp
         with_reducible rfl
        rotate_left
        ·simp only [sp_]
         rfl
        refine one_ (i := 43) (N := some 48) (bA 47 17592186044415) rfl rfl (one_of HT_.out (by kernel_rfl)) (by decide) (fun K hK => ?_)
        refine goes_ Tryd.func110 (by kernel_rfl) rfl #[.slice A0_6 l0_6.length c0_6, .func (.func 111) #[] #[]] (by rfl) rfl rfl (by (try simp only [List.map_toArray, List.map_cons, List.map_nil]); first | done | rfl | (simp only [List.length_drop, List.length_take]; rfl)) ?_
        with_reducible refine (slices_ContainsFunc_string_string.calls _ _ l0_6 t213 _ ?side1 ?side2 A12.out).mono ?_
        (case side1 => repeat (first | exact (Kd.C_below HR0_6.out (by repeat (first | (with_reducible first | exact HB.out | apply below_alloc | apply pw_below_drewN | apply below_drew1 | refine below_set ?_ GE210.out) | exact HB.out))) | (with_reducible refine Kd.C_alloc ?_ _) | (with_reducible refine Kd.C_drewN ?_ _) | (with_reducible refine Kd.C_drew ?_)))
        (case side2 => exact HC0_6.out)
        rintro e w16 ⟨rfl, hb⟩
        refine ⟨_, rfl, ?_⟩
        have n0_ := Aside0.mk (blk_below (g := gb210) (o := .cells #[.int .i64 a0_0, .int .i64 a0_1, .int .i64 a0_2, .int .i64 a0_3, .slice A0_4 l0_4.length c0_4, .slice A0_5 l0_5.length c0_5, .slice A0_6 l0_6.length c0_6, .int .i64 a0_7] 81 (0, 0)) (by (with_reducible repeat (first | refine blk_drewN ?_ _ | refine blk_drew ?_ | refine blk_alloc ?_ _)); exact BK210.out) hb)
        have n1_ := Aside0.mk (below_step (by repeat (first | (with_reducible first | exact HB.out | apply below_alloc | apply pw_below_drewN | apply below_drew1 | refine below_set ?_ GE210.out) | exact HB.out)) hb)
        clear BK210
        clear HB
        have BK210 := n0_
        have HB := n1_
        clear n0_ n1_
        (try clear hb)
        (try clear hb2)
        (try clear hk)
        (try clear hi)
        refine hK.out _ _ ⟨(blk_cell BK210.out 0).trans rfl, (blk_cell BK210.out 1).trans rfl, (blk_cell BK210.out 2).trans rfl, (blk_cell BK210.out 3).trans rfl, (blk_cell BK210.out 4).trans rfl, (blk_cell BK210.out 5).trans rfl, (blk_cell BK210.out 6).trans rfl, (blk_cell BK210.out 7).trans rfl⟩ (fun hHeld => ?_)
        clear hK K
        refine norm_ (a' := ?_) ?_ ?_
        rotate_left
        ·show Act.put _ (some 48) _ = _
         simp only [sp_]
         rfl
        refine pv (i := 44) (N := some 49) (bA 47 35184372088831) rfl rfl (any_of HT_.out (by kernel_rfl)) ?_
        refine pv (i := 45) (N := some 50) (bA 47 70368744177663) rfl rfl (any_of HT_.out (by kernel_rfl)) ?_
        refine pv (i := 46) (N := some 4) (bA 47 140737488355327) rfl rfl (any_of HT_.out (by kernel_rfl)) ?_
        refine done_ (done_of HT_.out (by kernel_rfl)) ?_
        try go_wp2
        go_ret
        exact ⟨by first | rfl | (simp [errW_none, errW_some] <;> rfl) | (simp [*, errW_none, errW_some] <;> rfl), by repeat (first | (with_reducible first | exact HB.out | apply below_alloc | apply pw_below_drewN | apply below_drew1 | refine below_set ?_ GE210.out) | exact HB.out)⟩
       ·rw [if_neg c11] at H
        have c11b0 : decide ((l0_6.length : Int) ≤ 10) = false := decide_eq_false c11
        have c11b1 : decide (l0_6.length ≤ 10) = false := decide_eq_false (by omega)
        clear c11
        obtain rfl := Option.some.inj H
        go_enter Tryd.func58, Tryd.ntmps58
        try go_wp2_with (first | ((with_reducible refine gate_dst (N := 2) rfl ?_); (try (refine gate_guard (by rfl) ?_; dsimp only)); refine box_event ?hg (N := 2) ?hd (cs := #[.int .i64 a0_0, .int .i64 a0_1, .int .i64 a0_2, .int .i64 a0_3, .slice A0_4 l0_4.length c0_4, .slice A0_5 l0_5.length c0_5, .slice A0_6 l0_6.length c0_6, .int .i64 a0_7]) (t := 81) ?hr ?_; (case hd => rfl); (case hg => rfl); (case hr => first | (go_simp; done) | (go_simp; rfl)); intro gb210 hg w17 hbox hb; have n0_ := Aside0.mk (below_step (by repeat (first | (with_reducible first | exact HB.out | apply below_alloc | apply pw_below_drewN | apply below_drew1) | exact HB.out)) hb); have n1_ := Aside0.mk (hbox); have n2_ := Aside0.mk ((by rw [hg]; exact (below_size (by repeat (first | (with_reducible first | exact HB.out | apply below_alloc | apply pw_below_drewN | apply below_drew1) | exact HB.out))) : w.heap.size ≤ gb210)); have n3_ := Aside0.mk ((by rw [hg]; exact (below_size (by repeat (first | (with_reducible first | exact HB.out | apply below_alloc | apply pw_below_drewN | apply below_drew1) | exact HB.out))) : w.heap.size ≤ gb210)); clear HB; have HB := n0_; have BK210 := n1_; have GW210 := n2_; have GE210 := n3_; clear n0_ n1_ n2_ n3_; clear hb hbox hg))
        have n0_ := Aside0.mk (blk_drew BK210.out)
        have n1_ := Aside0.mk (below_drew1 HB.out)
        clear BK210
        clear HB
        have BK210 := n0_
        have HB := n1_
        clear n0_ n1_
        refine start_ (n := 47) (S := fun w' => w'.cell? ⟨gb210, 0, none⟩ = some (.int .i64 a0_0) ∧ w'.cell? ⟨gb210, 1, none⟩ = some (.int .i64 a0_1) ∧ w'.cell? ⟨gb210, 2, none⟩ = some (.int .i64 a0_2) ∧ w'.cell? ⟨gb210, 3, none⟩ = some (.int .i64 a0_3) ∧ w'.cell? ⟨gb210, 4, none⟩ = some (.slice A0_4 l0_4.length c0_4) ∧ w'.cell? ⟨gb210, 5, none⟩ = some (.slice A0_5 l0_5.length c0_5) ∧ w'.cell? ⟨gb210, 6, none⟩ = some (.slice A0_6 l0_6.length c0_6) ∧ w'.cell? ⟨gb210, 7, none⟩ = some (.int .i64 a0_7)) (ds := []) (bA 47 0) (by kernel_rfl) rfl rfl ⟨(blk_cell BK210.out 0).trans rfl, (blk_cell BK210.out 1).trans rfl, (blk_cell BK210.out 2).trans rfl, (blk_cell BK210.out 3).trans rfl, (blk_cell BK210.out 4).trans rfl, (blk_cell BK210.out 5).trans rfl, (blk_cell BK210.out 6).trans rfl, (blk_cell BK210.out 7).trans rfl⟩ (fun hHeld => ?_); refine with_tabW impl_BlockOk.tab1 impl_BlockOk.bits1 (fun HT_ HW_ => ?_)
        generalize w17.drew = w18 at BK210 HB hHeld ⊢
        refine pv (i := 0) (N := some 5) (bA 47 1) rfl rfl (any_of HT_.out (by kernel_rfl)) ?_
        refine pv (i := 2) (N := some 7) (bA 47 5) rfl rfl (any_of HT_.out (by kernel_rfl)) ?_
        refine take_ (i := 1) (N := some 6) (v := ?_) (a' := ?_) (bA 47 7) rfl rfl (take_ofW HT_.out HW_.out (by kernel_rfl)) (fun _ _ _ h => h) (Or.inl ⟨by rfl, ?_⟩) hHeld ?_ ?_
        rotate_left
        ·rintro w' ⟨s0, s1, s2, s3, s4, s5, s6, s7⟩
         go_simp
         with_reducible rfl
        rotate_left
        ·simp only [sp_]
         rfl
        refine one_ (i := 3) (N := some 8) (bA 47 15) rfl rfl (one_of HT_.out (by kernel_rfl)) (by decide) (fun K hK => ?_)
        refine goes_ Tryd.func38 (by kernel_rfl) rfl #[.agg #[.int .i64 a0_2, .int .i64 a0_3, .slice A0_4 l0_4.length c0_4, .slice A0_5 l0_5.length c0_5], .int .i64 a1] (by rfl) rfl rfl (by (try simp only [List.map_toArray, List.map_cons, List.map_nil]); first | done | rfl | (simp only [List.length_drop, List.length_take]; rfl)) ?_
        with_reducible refine (impl_ProofOk.calls k a0_2 a0_3 _ _ l0_4 _ _ l0_5 a1 true _ ?side1 ?side2 ?side3 ?side4 A3.out (tab_at HT.out (by repeat (first | (with_reducible first | exact HB.out | apply below_alloc | apply pw_below_drewN | apply below_drew1 | (refine below_set ?_ (Aside0.out (by assumption)))) | exact HB.out)))).mono ?_
        (case side1 => repeat (first | exact (Kd.C_below HR0_4.out HB.out) | (with_reducible refine Kd.C_alloc ?_ _) | (with_reducible refine Kd.C_drewN ?_ _) | (with_reducible refine Kd.C_drew ?_)))
        (case side2 => exact HC0_4.out)
        (case side3 => repeat (first | exact (Kd.C_below HR0_5.out HB.out) | (with_reducible refine Kd.C_alloc ?_ _) | (with_reducible refine Kd.C_drewN ?_ _) | (with_reducible refine Kd.C_drew ?_)))
        (case side4 => exact HC0_5.out)
        rintro e w19 ⟨rfl, hb⟩
        refine ⟨_, rfl, ?_⟩
        have n0_ := Aside0.mk (blk_below (g := gb210) (o := .cells #[.int .i64 a0_0, .int .i64 a0_1, .int .i64 a0_2, .int .i64 a0_3, .slice A0_4 l0_4.length c0_4, .slice A0_5 l0_5.length c0_5, .slice A0_6 l0_6.length c0_6, .int .i64 a0_7] 81 (0, 0)) (by (with_reducible repeat (first | refine blk_drewN ?_ _ | refine blk_drew ?_ | refine blk_alloc ?_ _)); exact BK210.out) hb)
        have n1_ := Aside0.mk (below_step (by repeat (first | (with_reducible first | exact HB.out | apply below_alloc | apply pw_below_drewN | apply below_drew1 | refine below_set ?_ GE210.out) | exact HB.out)) hb)
        clear BK210
        clear HB
        have BK210 := n0_
        have HB := n1_
        clear n0_ n1_
        (try clear hb)
        (try clear hb2)
        (try clear hk)
        (try clear hi)
        refine hK.out _ _ ⟨(blk_cell BK210.out 0).trans rfl, (blk_cell BK210.out 1).trans rfl, (blk_cell BK210.out 2).trans rfl, (blk_cell BK210.out 3).trans rfl, (blk_cell BK210.out 4).trans rfl, (blk_cell BK210.out 5).trans rfl, (blk_cell BK210.out 6).trans rfl, (blk_cell BK210.out 7).trans rfl⟩ (fun hHeld => ?_)
        clear hK K
        refine norm_ (a' := ?_) ?_ ?_
        rotate_left
        ·show Act.put _ (some 8) _ = _
         simp only [sp_]
         rfl
        refine pv (i := 4) (N := some 9) (bA 47 31) rfl rfl (any_of HT_.out (by kernel_rfl)) ?_
        refine pv (i := 5) (N := some 10) (bA 47 63) rfl rfl (any_of HT_.out (by kernel_rfl)) ?_
        refine take_ (i := 6) (N := some 11) (v := ?_) (a' := ?_) (bA 47 127) rfl rfl (take_ofW HT_.out HW_.out (by kernel_rfl)) (fun _ _ _ h => h) (Or.inl ⟨by rfl, ?_⟩) hHeld ?_ ?_
        rotate_left
        ·rintro w' ⟨s0, s1, s2, s3, s4, s5, s6, s7⟩
         go_simp
         with_reducible rfl
        rotate_left
        ·simp only [sp_]
         rfl
        refine one_ (i := 7) (N := some 12) (bA 47 255) rfl rfl (one_of HT_.out (by kernel_rfl)) (by decide) (fun K hK => ?_)
        refine goes_ Tryd.func79 (by kernel_rfl) rfl #[.int .i64 a0_0] (by rfl) rfl rfl (by (try simp only [List.map_toArray, List.map_cons, List.map_nil]); first | done | rfl | (simp only [List.length_drop, List.length_take]; rfl)) ?_
        with_reducible refine (impl_isView.calls a0_0 true _ A5.out).mono ?_
        rintro e w' ⟨rfl, ⟨nd, rfl⟩⟩
        refine ⟨_, rfl, ?_⟩
        refine hK.out _ _ ⟨(blk_cell BK210.out 0).trans rfl, (blk_cell BK210.out 1).trans rfl, (blk_cell BK210.out 2).trans rfl, (blk_cell BK210.out 3).trans rfl, (blk_cell BK210.out 4).trans rfl, (blk_cell BK210.out 5).trans rfl, (blk_cell BK210.out 6).trans rfl, (blk_cell BK210.out 7).trans rfl⟩ (fun hHeld => ?_)
        clear hK K
        refine norm_ (a' := ?_) ?_ ?_
        rotate_left
        ·show Act.put _ (some 12) _ = _
         simp only [sp_]
         rfl
        refine pv (i := 8) (N := some 13) (bA 47 511) rfl rfl (any_of HT_.out (by kernel_rfl)) ?_
        refine pv (i := 9) (N := some 14) (bA 47 1023) rfl rfl (any_of HT_.out (by kernel_rfl)) ?_
        refine pv (i := 10) (N := some 15) (bA 47 2047) rfl rfl (any_of HT_.out (by kernel_rfl)) ?_
        refine pv (i := 11) (N := some 16) (bA 47 4095) rfl rfl (any_of HT_.out (by kernel_rfl)) ?_
        refine pv (i := 13) (N := some 18) (bA 47 12287) rfl rfl (any_of HT_.out (by kernel_rfl)) ?_
        refine take_ (i := 12) (N := some 17) (v := ?_) (a' := ?_) (bA 47 16383) rfl rfl (take_ofW HT_.out HW_.out (by kernel_rfl)) (fun _ _ _ h => h) (Or.inl ⟨by rfl, ?_⟩) hHeld ?_ ?_
        rotate_left
        ·rintro w' ⟨s0, s1, s2, s3, s4, s5, s6, s7⟩
         go_simp
         with_reducible rfl
        rotate_left
        ·simp only [sp_]
         rfl
        refine take_ (i := 14) (N := some 19) (v := ?_) (a' := ?_) (bA 47 32767) rfl rfl (take_ofW HT_.out HW_.out (by kernel_rfl)) (fun _ _ _ h => h) (Or.inl ⟨by rfl, ?_⟩) hHeld ?_ ?_
        rotate_left
        ·rintro w' ⟨s0, s1, s2, s3, s4, s5, s6, s7⟩
         go_simp
         with_reducible rfl
        rotate_left
        ·simp only [sp_]
         rfl
        refine pv (i := 15) (N := some 20) (bA 47 65535) rfl rfl (any_of HT_.out (by kernel_rfl)) ?_
        refine pv (i := 16) (N := some 21) (bA 47 131071) rfl rfl (any_of HT_.out (by kernel_rfl)) ?_
        refine pv (i := 17) (N := some 22) (bA 47 262143) rfl rfl (any_of HT_.out (by kernel_rfl)) ?_
        refine pv (i := 18) (N := some 23) (bA 47 524287) rfl rfl (any_of HT_.out (by kernel_rfl)) ?_
        refine pv (i := 20) (N := some 25) (bA 47 1572863) rfl rfl (any_of HT_.out (by kernel_rfl)) ?_
        refine pv (i := 21) (N := some 26) (bA 47 3670015) rfl rfl (any_of HT_.out (by kernel_rfl)) ?_
        refine take_ (i := 19) (N := some 24) (v := ?_) (a' := ?_) (bA 47 4194303) rfl rfl (take_ofW HT_.out HW_.out (by kernel_rfl)) (fun _ _ _ h => h) (Or.inl ⟨by rfl, ?_⟩) hHeld ?_ ?_
        rotate_left
        ·rintro w' ⟨s0, s1, s2, s3, s4, s5, s6, s7⟩
         go_simp
         with_reducible rfl
        rotate_left
        ·simp only [sp_]
         rfl
        refine take_ (i := 22) (N := some 27) (v := ?_) (a' := ?_) (bA 47 8388607) rfl rfl (take_ofW HT_.out HW_.out (by kernel_rfl)) (fun _ _ _ h => h) (Or.inl ⟨by rfl, ?_⟩) hHeld ?_ ?_
        rotate_left
        ·rintro w' ⟨s0, s1, s2, s3, s4, s5, s6, s7⟩
         go_simp
         with_reducible rfl
        rotate_left
        ·simp only [sp_]
         rfl
        refine pv (i := 23) (N := some 28) (bA 47 16777215) rfl rfl (any_of HT_.out (by kernel_rfl)) ?_
        refine pv (i := 24) (N := some 29) (bA 47 33554431) rfl rfl (any_of HT_.out (by kernel_rfl)) ?_
        refine pv (i := 25) (N := some 30) (bA 47 67108863) rfl rfl (any_of HT_.out (by kernel_rfl)) ?_
        refine pv (i := 26) (N := some 31) (bA 47 134217727) rfl rfl (any_of HT_.out (by kernel_rfl)) ?_
        refine pv (i := 28) (N := some 33) (bA 47 402653183) rfl rfl (any_of HT_.out (by kernel_rfl)) ?_
        refine pv (i := 30) (N := some 35) (bA 47 1476395007) rfl rfl (any_of HT_.out (by kernel_rfl)) ?_
        refine take_ (i := 27) (N := some 32) (v := ?_) (a' := ?_) (bA 47 1610612735) rfl rfl (take_ofW HT_.out HW_.out (by kernel_rfl)) (fun _ _ _ h => h) (Or.inl ⟨by rfl, ?_⟩) hHeld ?_ ?_
        rotate_left
        ·rintro w' ⟨s0, s1, s2, s3, s4, s5, s6, s7⟩
         go_simp
         with_reducible rfl
        rotate_left
        ·simp only [sp_]
         rfl
        refine take_ (i := 29) (N := some 34) (v := ?_) (a' := ?_) (bA 47 2147483647) rfl rfl (take_ofW HT_.out HW_.out (by kernel_rfl)) (fun _ _ _ h => h) (Or.inl ⟨by rfl, ?_⟩) hHeld ?_ ?_
        rotate_left
        ·rintro w' ⟨s0, s1, s2, s3, s4, s5, s6, s7⟩
         go_simp
         with_reducible rfl
        rotate_left
        ·simp only [sp_]
         rfl
        refine pv (i := 31) (N := some 36) (bA 47 4294967295) rfl rfl (any_of HT_.out (by kernel_rfl)) ?_
        refine pv (i := 32) (N := some 37) (bA 47 8589934591) rfl rfl (any_of HT_.out (by kernel_rfl)) ?_
        refine pv (i := 33) (N := some 38) (bA 47 17179869183) rfl rfl (any_of HT_.out (by kernel_rfl)) ?_
        refine pv (i := 34) (N := some 39) (bA 47 34359738367) rfl rfl (any_of HT_.out (by kernel_rfl)) ?_
        refine pv (i := 35) (N := some 40) (bA 47 68719476735) rfl rfl (any_of HT_.out (by kernel_rfl)) ?_
        refine take_ (i := 36) (N := some 41) (v := ?_) (a' := ?_) (bA 47 137438953471) rfl rfl (take_ofW HT_.out HW_.out (by kernel_rfl)) (fun _ _ _ h => h) (Or.inl ⟨by rfl, ?_⟩) hHeld ?_ ?_
        rotate_left
        ·rintro w' ⟨s0, s1, s2, s3, s4, s5, s6, s7⟩
         go_simp
         with_reducible rfl
        rotate_left
        ·simp only [sp_]
         rfl
        refine pv (i := 37) (N := some 42) (bA 47 274877906943) rfl rfl (any_of HT_.out (by kernel_rfl)) ?_
        refine pv (i := 38) (N := some 43) (bA 47 549755813887) rfl rfl (any_of HT_.out (by kernel_rfl)) ?_
        refine pv (i := 39) (N := some 44) (bA 47 1099511627775) rfl rfl (any_of HT_.out (by kernel_rfl)) ?_
        refine pv (i := 40) (N := some 45) (bA 47 2199023255551) rfl rfl (any_of HT_.out (by kernel_rfl)) ?_
        refine pu (i := 41) (N := some 46) (bA 47 4398046511103) rfl rfl (any_of HT_.out (by kernel_rfl)) ?_
        refine pu (i := 42) (N := some 47) (bA 47 8796093022207) rfl rfl (any_of HT_.out (by kernel_rfl)) ?_
        refine pu (i := 43) (N := some 48) (bA 47 17592186044415) rfl rfl (any_of HT_.out (by kernel_rfl)) ?_
        refine pu (i := 44) (N := some 49) (bA 47 35184372088831) rfl rfl (any_of HT_.out (by kernel_rfl)) ?_
        refine pv (i := 45) (N := some 50) (bA 47 70368744177663) rfl rfl (any_of HT_.out (by kernel_rfl)) ?_
        refine pv (i := 46) (N := some 4) (bA 47 140737488355327) rfl rfl (any_of HT_.out (by kernel_rfl)) ?_
        refine done_ (done_of HT_.out (by kernel_rfl)) ?_
        try go_wp2
        go_ret
        exact ⟨by first | rfl | (simp [errW_none, errW_some] <;> rfl) | (simp [*, errW_none, errW_some] <;> rfl), by repeat (first | (with_reducible first | exact HB.out | apply below_alloc | apply pw_below_drewN | apply below_drew1 | refine below_set ?_ GE210.out) | exact HB.out)⟩
      ·rw [if_neg c10] at H
       have c10b0 : (a0_7 == (Int.tmod a0_0 a1)) = false := beq_eq_false_iff_ne.mpr c10
       have c10b1 : (a0_7 != (Int.tmod a0_0 a1)) = true := bne_iff_ne.mpr c10
       obtain rfl := Option.some.inj H
       go_enter Tryd.func58, Tryd.ntmps58
       try go_wp2_with (first | ((with_reducible refine gate_dst (N := 2) rfl ?_); (try (refine gate_guard (by rfl) ?_; dsimp only)); refine box_event ?hg (N := 2) ?hd (cs := #[.int .i64 a0_0, .int .i64 a0_1, .int .i64 a0_2, .int .i64 a0_3, .slice A0_4 l0_4.length c0_4, .slice A0_5 l0_5.length c0_5, .slice A0_6 l0_6.length c0_6, .int .i64 a0_7]) (t := 81) ?hr ?_; (case hd => rfl); (case hg => rfl); (case hr => first | (go_simp; done) | (go_simp; rfl)); intro gb210 hg w20 hbox hb; have n0_ := Aside0.mk (below_step (by repeat (first | (with_reducible first | exact HB.out | apply below_alloc | apply pw_below_drewN | apply below_drew1) | exact HB.out)) hb); have n1_ := Aside0.mk (hbox); have n2_ := Aside0.mk ((by rw [hg]; exact (below_size (by repeat (first | (with_reducible first | exact HB.out | apply below_alloc | apply pw_below_drewN | apply below_drew1) | exact HB.out))) : w.heap.size ≤ gb210)); have n3_ := Aside0.mk ((by rw [hg]; exact (below_size (by repeat (first | (with_reducible first | exact HB.out | apply below_alloc | apply pw_below_drewN | apply below_drew1) | exact HB.out))) : w.heap.size ≤ gb210)); clear HB; have HB := n0_; have BK210 := n1_; have GW210 := n2_; have GE210 := n3_; clear n0_ n1_ n2_ n3_; clear hb hbox hg))
       have n0_ := Aside0.mk (blk_drew BK210.out)
       have n1_ := Aside0.mk (below_drew1 HB.out)
       clear BK210
       clear HB
       have BK210 := n0_
       have HB := n1_
       clear n0_ n1_
       refine start_ (n := 47) (S := fun w' => w'.cell? ⟨gb210, 0, none⟩ = some (.int .i64 a0_0) ∧ w'.cell? ⟨gb210, 1, none⟩ = some (.int .i64 a0_1) ∧ w'.cell? ⟨gb210, 2, none⟩ = some (.int .i64 a0_2) ∧ w'.cell? ⟨gb210, 3, none⟩ = some (.int .i64 a0_3) ∧ w'.cell? ⟨gb210, 4, none⟩ = some (.slice A0_4 l0_4.length c0_4) ∧ w'.cell? ⟨gb210, 5, none⟩ = some (.slice A0_5 l0_5.length c0_5) ∧ w'.cell? ⟨gb210, 6, none⟩ = some (.slice A0_6 l0_6.length c0_6) ∧ w'.cell? ⟨gb210, 7, none⟩ = some (.int .i64 a0_7)) (ds := []) (bA 47 0) (by kernel_rfl) rfl rfl ⟨(blk_cell BK210.out 0).trans rfl, (blk_cell BK210.out 1).trans rfl, (blk_cell BK210.out 2).trans rfl, (blk_cell BK210.out 3).trans rfl, (blk_cell BK210.out 4).trans rfl, (blk_cell BK210.out 5).trans rfl, (blk_cell BK210.out 6).trans rfl, (blk_cell BK210.out 7).trans rfl⟩ (fun hHeld => ?_); refine with_tabW impl_BlockOk.tab1 impl_BlockOk.bits1 (fun HT_ HW_ => ?_)
       generalize w20.drew = w21 at BK210 HB hHeld ⊢
       refine pv (i := 0) (N := some 5) (bA 47 1) rfl rfl (any_of HT_.out (by kernel_rfl)) ?_
       refine pv (i := 2) (N := some 7) (bA 47 5) rfl rfl (any_of HT_.out (by kernel_rfl)) ?_
       refine take_ (i := 1) (N := some 6) (v := ?_) (a' := ?_) (bA 47 7) rfl rfl (take_ofW HT_.out HW_.out (by kernel_rfl)) (fun _ _ _ h => h) (Or.inl ⟨by rfl, ?_⟩) hHeld ?_ ?_
       rotate_left
       ·rintro w' ⟨s0, s1, s2, s3, s4, s5, s6, s7⟩
        go_simp
        with_reducible rfl
       rotate_left
       ·simp only [sp_]
        rfl
       refine one_ (i := 3) (N := some 8) (bA 47 15) rfl rfl (one_of HT_.out (by kernel_rfl)) (by decide) (fun K hK => ?_)
       refine goes_ Tryd.func38 (by kernel_rfl) rfl #[.agg #[.int .i64 a0_2, .int .i64 a0_3, .slice A0_4 l0_4.length c0_4, .slice A0_5 l0_5.length c0_5], .int .i64 a1] (by rfl) rfl rfl (by (try simp only [List.map_toArray, List.map_cons, List.map_nil]); first | done | rfl | (simp only [List.length_drop, List.length_take]; rfl)) ?_
       with_reducible refine (impl_ProofOk.calls k a0_2 a0_3 _ _ l0_4 _ _ l0_5 a1 true _ ?side1 ?side2 ?side3 ?side4 A3.out (tab_at HT.out (by repeat (first | (with_reducible first | exact HB.out | apply below_alloc | apply pw_below_drewN | apply below_drew1 | (refine below_set ?_ (Aside0.out (by assumption)))) | exact HB.out)))).mono ?_
       (case side1 => repeat (first | exact (Kd.C_below HR0_4.out HB.out) | (with_reducible refine Kd.C_alloc ?_ _) | (with_reducible refine Kd.C_drewN ?_ _) | (with_reducible refine Kd.C_drew ?_)))
       (case side2 => exact HC0_4.out)
       (case side3 => repeat (first | exact (Kd.C_below HR0_5.out HB.out) | (with_reducible refine Kd.C_alloc ?_ _) | (with_reducible refine Kd.C_drewN ?_ _) | (with_reducible refine Kd.C_drew ?_)))
       (case side4 => exact HC0_5.out)
       rintro e w22 ⟨rfl, hb⟩
       refine ⟨_, rfl, ?_⟩
       have n0_ := Aside0.mk (blk_below (g := gb210) (o := .cells #[.int .i64 a0_0, .int .i64 a0_1, .int .i64 a0_2, .int .i64 a0_3, .slice A0_4 l0_4.length c0_4, .slice A0_5 l0_5.length c0_5, .slice A0_6 l0_6.length c0_6, .int .i64 a0_7] 81 (0, 0)) (by (with_reducible repeat (first | refine blk_drewN ?_ _ | refine blk_drew ?_ | refine blk_alloc ?_ _)); exact BK210.out) hb)
       have n1_ := Aside0.mk (below_step (by repeat (first | (with_reducible first | exact HB.out | apply below_alloc | apply pw_below_drewN | apply below_drew1 | refine below_set ?_ GE210.out) | exact HB.out)) hb)
       clear BK210
       clear HB
       have BK210 := n0_
       have HB := n1_
       clear n0_ n1_
       (try clear hb)
       (try clear hb2)
       (try clear hk)
       (try clear hi)
       refine hK.out _ _ ⟨(blk_cell BK210.out 0).trans rfl, (blk_cell BK210.out 1).trans rfl, (blk_cell BK210.out 2).trans rfl, (blk_cell BK210.out 3).trans rfl, (blk_cell BK210.out 4).trans rfl, (blk_cell BK210.out 5).trans rfl, (blk_cell BK210.out 6).trans rfl, (blk_cell BK210.out 7).trans rfl⟩ (fun hHeld => ?_)
       clear hK K
       refine norm_ (a' := ?_) ?_ ?_
       rotate_left
       ·show Act.put _ (some 8) _ = _
        simp only [sp_]
        rfl
       refine pv (i := 4) (N := some 9) (bA 47 31) rfl rfl (any_of HT_.out (by kernel_rfl)) ?_
       refine pv (i := 5) (N := some 10) (bA 47 63) rfl rfl (any_of HT_.out (by kernel_rfl)) ?_
       refine take_ (i := 6) (N := some 11) (v := ?_) (a' := ?_) (bA 47 127) rfl rfl (take_ofW HT_.out HW_.out (by kernel_rfl)) (fun _ _ _ h => h) (Or.inl ⟨by rfl, ?_⟩) hHeld ?_ ?_
       rotate_left
       ·rintro w' ⟨s0, s1, s2, s3, s4, s5, s6, s7⟩
        go_simp
        with_reducible rfl
       rotate_left
       ·simp only [sp_]
        rfl
       refine one_ (i := 7) (N := some 12) (bA 47 255) rfl rfl (one_of HT_.out (by kernel_rfl)) (by decide) (fun K hK => ?_)
       refine goes_ Tryd.func79 (by kernel_rfl) rfl #[.int .i64 a0_0] (by rfl) rfl rfl (by (try simp only [List.map_toArray, List.map_cons, List.map_nil]); first | done | rfl | (simp only [List.length_drop, List.length_take]; rfl)) ?_
       with_reducible refine (impl_isView.calls a0_0 true _ A5.out).mono ?_
       rintro e w' ⟨rfl, ⟨nd, rfl⟩⟩
       refine ⟨_, rfl, ?_⟩
       refine hK.out _ _ ⟨(blk_cell BK210.out 0).trans rfl, (blk_cell BK210.out 1).trans rfl, (blk_cell BK210.out 2).trans rfl, (blk_cell BK210.out 3).trans rfl, (blk_cell BK210.out 4).trans rfl, (blk_cell BK210.out 5).trans rfl, (blk_cell BK210.out 6).trans rfl, (blk_cell BK210.out 7).trans rfl⟩ (fun hHeld => ?_)
       clear hK K
       refine norm_ (a' := ?_) ?_ ?_
       rotate_left
       ·show Act.put _ (some 12) _ = _
        simp only [sp_]
        rfl
       refine pv (i := 8) (N := some 13) (bA 47 511) rfl rfl (any_of HT_.out (by kernel_rfl)) ?_
       refine pv (i := 9) (N := some 14) (bA 47 1023) rfl rfl (any_of HT_.out (by kernel_rfl)) ?_
       refine pv (i := 10) (N := some 15) (bA 47 2047) rfl rfl (any_of HT_.out (by kernel_rfl)) ?_
       refine pv (i := 11) (N := some 16) (bA 47 4095) rfl rfl (any_of HT_.out (by kernel_rfl)) ?_
       refine pv (i := 13) (N := some 18) (bA 47 12287) rfl rfl (any_of HT_.out (by kernel_rfl)) ?_
       refine take_ (i := 12) (N := some 17) (v := ?_) (a' := ?_) (bA 47 16383) rfl rfl (take_ofW HT_.out HW_.out (by kernel_rfl)) (fun _ _ _ h => h) (Or.inl ⟨by rfl, ?_⟩) hHeld ?_ ?_
       rotate_left
       ·rintro w' ⟨s0, s1, s2, s3, s4, s5, s6, s7⟩
        go_simp
        with_reducible rfl
       rotate_left
       ·simp only [sp_]
        rfl
       refine take_ (i := 14) (N := some 19) (v := ?_) (a' := ?_) (bA 47 32767) rfl rfl (take_ofW HT_.out HW_.out (by kernel_rfl)) (fun _ _ _ h => h) (Or.inl ⟨by rfl, ?_⟩) hHeld ?_ ?_
       rotate_left
       ·rintro w' ⟨s0, s1, s2, s3, s4, s5, s6, s7⟩
        go_simp
        with_reducible rfl
       rotate_left
       ·simp only [sp_]
        rfl
       refine pv (i := 15) (N := some 20) (bA 47 65535) rfl rfl (any_of HT_.out (by kernel_rfl)) ?_
       refine pv (i := 16) (N := some 21) (bA 47 131071) rfl rfl (any_of HT_.out (by kernel_rfl)) ?_
       refine pv (i := 17) (N := some 22) (bA 47 262143) rfl rfl (any_of HT_.out (by kernel_rfl)) ?_
       refine pv (i := 18) (N := some 23) (bA 47 524287) rfl rfl (any_of HT_.out (by kernel_rfl)) ?_
       refine pv (i := 20) (N := some 25) (bA 47 1572863) rfl rfl (any_of HT_.out (by kernel_rfl)) ?_
       refine pv (i := 21) (N := some 26) (bA 47 3670015) rfl rfl (any_of HT_.out (by kernel_rfl)) ?_
       refine take_ (i := 19) (N := some 24) (v := ?_) (a' := ?_) (bA 47 4194303) rfl rfl (take_ofW HT_.out HW_.out (by kernel_rfl)) (fun _ _ _ h => h) (Or.inl ⟨by rfl, ?_⟩) hHeld ?_ ?_
       rotate_left
       ·rintro w' ⟨s0, s1, s2, s3, s4, s5, s6, s7⟩
        go_simp
        with_reducible rfl
       rotate_left
       ·simp only [sp_]
        rfl
       refine take_ (i := 22) (N := some 27) (v := ?_) (a' := ?_) (bA 47 8388607) rfl rfl (take_ofW HT_.out HW_.out (by kernel_rfl)) (fun _ _ _ h => h) (Or.inl ⟨by rfl, ?_⟩) hHeld ?_ ?_
       rotate_left
       ·rintro w' ⟨s0, s1, s2, s3, s4, s5, s6, s7⟩
        go_simp
        with_reducible rfl
       rotate_left
       ·simp only [sp_]
        rfl
       refine pv (i := 23) (N := some 28) (bA 47 16777215) rfl rfl (any_of HT_.out (by kernel_rfl)) ?_
       refine pv (i := 24) (N := some 29) (bA 47 33554431) rfl rfl (any_of HT_.out (by kernel_rfl)) ?_
       refine pv (i := 25) (N := some 30) (bA 47 67108863) rfl rfl (any_of HT_.out (by kernel_rfl)) ?_
       refine pv (i := 26) (N := some 31) (bA 47 134217727) rfl rfl (any_of HT_.out (by kernel_rfl)) ?_
       refine pv (i := 28) (N := some 33) (bA 47 402653183) rfl rfl (any_of HT_.out (by kernel_rfl)) ?_
       refine pv (i := 30) (N := some 35) (bA 47 1476395007) rfl rfl (any_of HT_.out (by kernel_rfl)) ?_
       refine take_ (i := 27) (N := some 32) (v := ?_) (a' := ?_) (bA 47 1610612735) rfl rfl (take_ofW HT_.out HW_.out (by kernel_rfl)) (fun _ _ _ h => h) (Or.inl ⟨by rfl, ?_⟩) hHeld ?_ ?_
       rotate_left
       ·rintro w' ⟨s0, s1, s2, s3, s4, s5, s6, s7⟩
        go_simp
        with_reducible rfl
       rotate_left
       ·simp only [sp_]
        rfl
       refine take_ (i := 29) (N := some 34) (v := ?_) (a' := ?_) (bA 47 2147483647) rfl rfl (take_ofW HT_.out HW_.out (by kernel_rfl)) (fun _ _ _ h => h) (Or.inl ⟨by rfl, ?_⟩) hHeld ?_ ?_
       rotate_left
       ·rintro w' ⟨s0, s1, s2, s3, s4, s5, s6, s7⟩
        go_simp
        with_reducible rfl
       rotate_left
       ·simp only [sp_]
        rfl
       refine pv (i := 31) (N := some 36) (bA 47 4294967295) rfl rfl (any_of HT_.out (by kernel_rfl)) ?_
       refine pv (i := 32) (N := some 37) (bA 47 8589934591) rfl rfl (any_of HT_.out (by kernel_rfl)) ?_
       refine pv (i := 33) (N := some 38) (bA 47 17179869183) rfl rfl (any_of HT_.out (by kernel_rfl)) ?_
       refine pv (i := 34) (N := some 39) (bA 47 34359738367) rfl rfl (any_of HT_.out (by kernel_rfl)) ?_
       refine pu (i := 35) (N := some 40) (bA 47 68719476735) rfl rfl (any_of HT_.out (by kernel_rfl)) ?_
       refine pu (i := 36) (N := some 41) (bA 47 137438953471) rfl rfl (any_of HT_.out (by kernel_rfl)) ?_
       refine pu (i := 37) (N := some 42) (bA 47 274877906943) rfl rfl (any_of HT_.out (by kernel_rfl)) ?_
       refine pu (i := 38) (N := some 43) (bA 47 549755813887) rfl rfl (any_of HT_.out (by kernel_rfl)) ?_
       refine pv (i := 39) (N := some 44) (bA 47 1099511627775) rfl rfl (any_of HT_.out (by kernel_rfl)) ?_
       refine pv (i := 40) (N := some 45) (bA 47 2199023255551) rfl rfl (any_of HT_.out (by kernel_rfl)) ?_
       refine pu (i := 41) (N := some 46) (bA 47 4398046511103) rfl rfl (any_of HT_.out (by kernel_rfl)) ?_
       refine pu (i := 42) (N := some 47) (bA 47 8796093022207) rfl rfl (any_of HT_.out (by kernel_rfl)) ?_
       refine pu (i := 43) (N := some 48) (bA 47 17592186044415) rfl rfl (any_of HT_.out (by kernel_rfl)) ?_
       refine pu (i := 44) (N := some 49) (bA 47 35184372088831) rfl rfl (any_of HT_.out (by kernel_rfl)) ?_
       refine pv (i := 45) (N := some 50) (bA 47 70368744177663) rfl rfl (any_of HT_.out (by kernel_rfl)) ?_
       refine pv (i := 46) (N := some 4) (bA 47 140737488355327) rfl rfl (any_of HT_.out (by kernel_rfl)) ?_
       refine done_ (done_of HT_.out (by kernel_rfl)) ?_
       try go_wp2
       go_ret
       exact ⟨by first | rfl | (simp [errW_none, errW_some] <;> rfl) | (simp [*, errW_none, errW_some] <;> rfl), by repeat (first | (with_reducible first | exact HB.out | apply below_alloc | apply pw_below_drewN | apply below_drew1 | refine below_set ?_ GE210.out) | exact HB.out)⟩
    ·rw [if_neg c8] at H
     have c8b0 : (a0_1 == a0_3) = false := beq_eq_false_iff_ne.mpr c8
     have c8b1 : (a0_1 != a0_3) = true := bne_iff_ne.mpr c8
     obtain rfl := Option.some.inj H
     go_enter Tryd.func58, Tryd.ntmps58
     try go_wp2_with (first | ((with_reducible refine gate_dst (N := 2) rfl ?_); (try (refine gate_guard (by rfl) ?_; dsimp only)); refine box_event ?hg (N := 2) ?hd (cs := #[.int .i64 a0_0, .int .i64 a0_1, .int .i64 a0_2, .int .i64 a0_3, .slice A0_4 l0_4.length c0_4, .slice A0_5 l0_5.length c0_5, .slice A0_6 l0_6.length c0_6, .int .i64 a0_7]) (t := 81) ?hr ?_; (case hd => rfl); (case hg => rfl); (case hr => first | (go_simp; done) | (go_simp; rfl)); intro gb210 hg w23 hbox hb; have n0_ := Aside0.mk (below_step (by repeat (first | (with_reducible first | exact HB.out | apply below_alloc | apply pw_below_drewN | apply below_drew1) | exact HB.out)) hb); have n1_ := Aside0.mk (hbox); have n2_ := Aside0.mk ((by rw [hg]; exact (below_size (by repeat (first | (with_reducible first | exact HB.out | apply below_alloc | apply pw_below_drewN | apply below_drew1) | exact HB.out))) : w.heap.size ≤ gb210)); have n3_ := Aside0.mk ((by rw [hg]; exact (below_size (by repeat (first | (with_reducible first | exact HB.out | apply below_alloc | apply pw_below_drewN | apply below_drew1) | exact HB.out))) : w.heap.size ≤ gb210)); clear HB; have HB := n0_; have BK210 := n1_; have GW210 := n2_; have GE210 := n3_; clear n0_ n1_ n2_ n3_; clear hb hbox hg))
     have n0_ := Aside0.mk (blk_drew BK210.out)
     have n1_ := Aside0.mk (below_drew1 HB.out)
     clear BK210
     clear HB
     have BK210 := n0_
     have HB := n1_
     clear n0_ n1_
     refine start_ (n := 47) (S := fun w' => w'.cell? ⟨gb210, 0, none⟩ = some (.int .i64 a0_0) ∧ w'.cell? ⟨gb210, 1, none⟩ = some (.int .i64 a0_1) ∧ w'.cell? ⟨gb210, 2, none⟩ = some (.int .i64 a0_2) ∧ w'.cell? ⟨gb210, 3, none⟩ = some (.int .i64 a0_3) ∧ w'.cell? ⟨gb210, 4, none⟩ = some (.slice A0_4 l0_4.length c0_4) ∧ w'.cell? ⟨gb210, 5, none⟩ = some (.slice A0_5 l0_5.length c0_5) ∧ w'.cell? ⟨gb210, 6, none⟩ = some (.slice A0_6 l0_6.length c0_6) ∧ w'.cell? ⟨gb210, 7, none⟩ = some (.int .i64 a0_7)) (ds := []) (bA 47 0) (by kernel_rfl) rfl rfl ⟨(blk_cell BK210.out 0).trans rfl, (blk_cell BK210.out 1).trans rfl, (blk_cell BK210.out 2).trans rfl, (blk_cell BK210.out 3).trans rfl, (blk_cell BK210.out 4).trans rfl, (blk_cell BK210.out 5).trans rfl, (blk_cell BK210.out 6).trans rfl, (blk_cell BK210.out 7).trans rfl⟩ (fun hHeld => ?_); refine with_tabW impl_BlockOk.tab1 impl_BlockOk.bits1 (fun HT_ HW_ => ?_)
     generalize w23.drew = w24 at BK210 HB hHeld ⊢
     refine pv (i := 0) (N := some 5) (bA 47 1) rfl rfl (any_of HT_.out (by kernel_rfl)) ?_
     refine pv (i := 2) (N := some 7) (bA 47 5) rfl rfl (any_of HT_.out (by kernel_rfl)) ?_
     refine take_ (i := 1) (N := some 6) (v := ?_) (a' := ?_) (bA 47 7) rfl rfl (take_ofW HT_.out HW_.out (by kernel_rfl)) (fun _ _ _ h => h) (Or.inl ⟨by rfl, ?_⟩) hHeld ?_ ?_
     rotate_left
     ·rintro w' ⟨s0, s1, s2, s3, s4, s5, s6, s7⟩
      go_simp
      with_reducible rfl
     rotate_left
     ·simp only [sp_]
      rfl
     refine one_ (i := 3) (N := some 8) (bA 47 15) rfl rfl (one_of HT_.out (by kernel_rfl)) (by decide) (fun K hK => ?_)
     refine goes_ Tryd.func38 (by kernel_rfl) rfl #[.agg #[.int .i64 a0_2, .int .i64 a0_3, .slice A0_4 l0_4.length c0_4, .slice A0_5 l0_5.length c0_5], .int .i64 a1] (by rfl) rfl rfl (by (try simp only [List.map_toArray, List.map_cons, List.map_nil]); first | done | rfl | (simp only [List.length_drop, List.length_take]; rfl)) ?_
     with_reducible refine (impl_ProofOk.calls k a0_2 a0_3 _ _ l0_4 _ _ l0_5 a1 true _ ?side1 ?side2 ?side3 ?side4 A3.out (tab_at HT.out (by repeat (first | (with_reducible first | exact HB.out | apply below_alloc | apply pw_below_drewN | apply below_drew1 | (refine below_set ?_ (Aside0.out (by assumption)))) | exact HB.out)))).mono ?_
     (case side1 => repeat (first | exact (Kd.C_below HR0_4.out HB.out) | (with_reducible refine Kd.C_alloc ?_ _) | (with_reducible refine Kd.C_drewN ?_ _) | (with_reducible refine Kd.C_drew ?_)))
     (case side2 => exact HC0_4.out)
     (case side3 => repeat (first | exact (Kd.C_below HR0_5.out HB.out) | (with_reducible refine Kd.C_alloc ?_ _) | (with_reducible refine Kd.C_drewN ?_ _) | (with_reducible refine Kd.C_drew ?_)))
     (case side4 => exact HC0_5.out)
     rintro e w25 ⟨rfl, hb⟩
     refine ⟨_, rfl, ?_⟩
     have n0_ := Aside0.mk (blk_below (g := gb210) (o := .cells #[.int .i64 a0_0, .int .i64 a0_1, .int .i64 a0_2, .int .i64 a0_3, .slice A0_4 l0_4.length c0_4, .slice A0_5 l0_5.length c0_5, .slice A0_6 l0_6.length c0_6, .int .i64 a0_7] 81 (0, 0)) (by (with_reducible repeat (first | refine blk_drewN ?_ _ | refine blk_drew ?_ | refine blk_alloc ?_ _)); exact BK210.out) hb)
     have n1_ := Aside0.mk (below_step (by repeat (first | (with_reducible first | exact HB.out | apply below_alloc | apply pw_below_drewN | apply below_drew1 | refine below_set ?_ GE210.out) | exact HB.out)) hb)
     clear BK210
     clear HB
     have BK210 := n0_
     have HB := n1_
     clear n0_ n1_
     (try clear hb)
     (try clear hb2)
     (try clear hk)
     (try clear hi)
     refine hK.out _ _ ⟨(blk_cell BK210.out 0).trans rfl, (blk_cell BK210.out 1).trans rfl, (blk_cell BK210.out 2).trans rfl, (blk_cell BK210.out 3).trans rfl, (blk_cell BK210.out 4).trans rfl, (blk_cell BK210.out 5).trans rfl, (blk_cell BK210.out 6).trans rfl, (blk_cell BK210.out 7).trans rfl⟩ (fun hHeld => ?_)
     clear hK K
     refine norm_ (a' := ?_) ?_ ?_
     rotate_left
     ·show Act.put _ (some 8) _ = _
      simp only [sp_]
      rfl
     refine pv (i := 4) (N := some 9) (bA 47 31) rfl rfl (any_of HT_.out (by kernel_rfl)) ?_
     refine pv (i := 5) (N := some 10) (bA 47 63) rfl rfl (any_of HT_.out (by kernel_rfl)) ?_
     refine take_ (i := 6) (N := some 11) (v := ?_) (a' := ?_) (bA 47 127) rfl rfl (take_ofW HT_.out HW_.out (by kernel_rfl)) (fun _ _ _ h => h) (Or.inl ⟨by rfl, ?_⟩) hHeld ?_ ?_
     rotate_left
     ·rintro w' ⟨s0, s1, s2, s3, s4, s5, s6, s7⟩
      go_simp
      with_reducible rfl
     rotate_left
     ·simp only [sp_]
      rfl
     refine one_ (i := 7) (N := some 12) (bA 47 255) rfl rfl (one_of HT_.out (by kernel_rfl)) (by decide) (fun K hK => ?_)
     refine goes_ Tryd.func79 (by kernel_rfl) rfl #[.int .i64 a0_0] (by rfl) rfl rfl (by (try simp only [List.map_toArray, List.map_cons, List.map_nil]); first | done | rfl | (simp only [List.length_drop, List.length_take]; rfl)) ?_
     with_reducible refine (impl_isView.calls a0_0 true _ A5.out).mono ?_
     rintro e w' ⟨rfl, ⟨nd, rfl⟩⟩
     refine ⟨_, rfl, ?_⟩
     refine hK.out _ _ ⟨(blk_cell BK210.out 0).trans rfl, (blk_cell BK210.out 1).trans rfl, (blk_cell BK210.out 2).trans rfl, (blk_cell BK210.out 3).trans rfl, (blk_cell BK210.out 4).trans rfl, (blk_cell BK210.out 5).trans rfl, (blk_cell BK210.out 6).trans rfl, (blk_cell BK210.out 7).trans rfl⟩ (fun hHeld => ?_)
     clear hK K
     refine norm_ (a' := ?_) ?_ ?_
     rotate_left
     ·show Act.put _ (some 12) _ = _
      simp only [sp_]
      rfl
     refine pv (i := 8) (N := some 13) (bA 47 511) rfl rfl (any_of HT_.out (by kernel_rfl)) ?_
     refine pv (i := 9) (N := some 14) (bA 47 1023) rfl rfl (any_of HT_.out (by kernel_rfl)) ?_
     refine pv (i := 10) (N := some 15) (bA 47 2047) rfl rfl (any_of HT_.out (by kernel_rfl)) ?_
     refine pv (i := 11) (N := some 16) (bA 47 4095) rfl rfl (any_of HT_.out (by kernel_rfl)) ?_
     refine pv (i := 13) (N := some 18) (bA 47 12287) rfl rfl (any_of HT_.out (by kernel_rfl)) ?_
     refine take_ (i := 12) (N := some 17) (v := ?_) (a' := ?_) (bA 47 16383) rfl rfl (take_ofW HT_.out HW_.out (by kernel_rfl)) (fun _ _ _ h => h) (Or.inl ⟨by rfl, ?_⟩) hHeld ?_ ?_
     rotate_left
     ·rintro w' ⟨s0, s1, s2, s3, s4, s5, s6, s7⟩
      go_simp
      with_reducible rfl
     rotate_left
     ·simp only [sp_]
      rfl
     refine take_ (i := 14) (N := some 19) (v := ?_) (a' := ?_) (bA 47 32767) rfl rfl (take_ofW HT_.out HW_.out (by kernel_rfl)) (fun _ _ _ h => h) (Or.inl ⟨by rfl, ?_⟩) hHeld ?_ ?_
     rotate_left
     ·rintro w' ⟨s0, s1, s2, s3, s4, s5, s6, s7⟩
      go_simp
      with_reducible rfl
     rotate_left
     ·simp only [sp_]
      rfl
     refine pv (i := 15) (N := some 20) (bA 47 65535) rfl rfl (any_of HT_.out (by kernel_rfl)) ?_
     refine pv (i := 16) (N := some 21) (bA 47 131071) rfl rfl (any_of HT_.out (by kernel_rfl)) ?_
     refine pv (i := 17) (N := some 22) (bA 47 262143) rfl rfl (any_of HT_.out (by kernel_rfl)) ?_
     refine pv (i := 18) (N := some 23) (bA 47 524287) rfl rfl (any_of HT_.out (by kernel_rfl)) ?_
     refine pv (i := 20) (N := some 25) (bA 47 1572863) rfl rfl (any_of HT_.out (by kernel_rfl)) ?_
     refine pv (i := 21) (N := some 26) (bA 47 3670015) rfl rfl (any_of HT_.out (by kernel_rfl)) ?_
     refine take_ (i := 19) (N := some 24) (v := ?_) (a' := ?_) (bA 47 4194303) rfl rfl (take_ofW HT_.out HW_.out (by kernel_rfl)) (fun _ _ _ h => h) (Or.inl ⟨by rfl, ?_⟩) hHeld ?_ ?_
     rotate_left
     ·rintro w' ⟨s0, s1, s2, s3, s4, s5, s6, s7⟩
      go_simp
      with_reducible rfl
     rotate_left
     ·simp only [sp_]
      rfl
     refine take_ (i := 22) (N := some 27) (v := ?_) (a' := ?_) (bA 47 8388607) rfl rfl (take_ofW HT_.out HW_.out (by kernel_rfl)) (fun _ _ _ h => h) (Or.inl ⟨by rfl, ?_⟩) hHeld ?_ ?_
     rotate_left
     ·rintro w' ⟨s0, s1, s2, s3, s4, s5, s6, s7⟩
      go_simp
      with_reducible rfl
     rotate_left
     ·simp only [sp_]
      rfl
     refine pv (i := 23) (N := some 28) (bA 47 16777215) rfl rfl (any_of HT_.out (by kernel_rfl)) ?_
     refine pv (i := 24) (N := some 29) (bA 47 33554431) rfl rfl (any_of HT_.out (by kernel_rfl)) ?_
     refine pv (i := 25) (N := some 30) (bA 47 67108863) rfl rfl (any_of HT_.out (by kernel_rfl)) ?_
     refine pu (i := 26) (N := some 31) (bA 47 134217727) rfl rfl (any_of HT_.out (by kernel_rfl)) ?_
     refine pu (i := 27) (N := some 32) (bA 47 268435455) rfl rfl (any_of HT_.out (by kernel_rfl)) ?_
     refine pu (i := 28) (N := some 33) (bA 47 536870911) rfl rfl (any_of HT_.out (by kernel_rfl)) ?_
     refine pu (i := 29) (N := some 34) (bA 47 1073741823) rfl rfl (any_of HT_.out (by kernel_rfl)) ?_
     refine pu (i := 30) (N := some 35) (bA 47 2147483647) rfl rfl (any_of HT_.out (by kernel_rfl)) ?_
     refine pu (i := 31) (N := some 36) (bA 47 4294967295) rfl rfl (any_of HT_.out (by kernel_rfl)) ?_
     refine pu (i := 32) (N := some 37) (bA 47 8589934591) rfl rfl (any_of HT_.out (by kernel_rfl)) ?_
     refine pv (i := 33) (N := some 38) (bA 47 17179869183) rfl rfl (any_of HT_.out (by kernel_rfl)) ?_
     refine pv (i := 34) (N := some 39) (bA 47 34359738367) rfl rfl (any_of HT_.out (by kernel_rfl)) ?_
     refine pu (i := 35) (N := some 40) (bA 47 68719476735) rfl rfl (any_of HT_.out (by kernel_rfl)) ?_
     refine pu (i := 36) (N := some 41) (bA 47 137438953471) rfl rfl (any_of HT_.out (by kernel_rfl)) ?_
     refine pu (i := 37) (N := some 42) (bA 47 274877906943) rfl rfl (any_of HT_.out (by kernel_rfl)) ?_
     refine pu (i := 38) (N := some 43) (bA 47 549755813887) rfl rfl (any_of HT_.out (by kernel_rfl)) ?_
     refine pv (i := 39) (N := some 44) (bA 47 1099511627775) rfl rfl (any_of HT_.out (by kernel_rfl)) ?_
     refine pv (i := 40) (N := some 45) (bA 47 2199023255551) rfl rfl (any_of HT_.out (by kernel_rfl)) ?_
     refine pu (i := 41) (N := some 46) (bA 47 4398046511103) rfl rfl (any_of HT_.out (by kernel_rfl)) ?_
     refine pu (i := 42) (N := some 47) (bA 47 8796093022207) rfl rfl (any_of HT_.out (by kernel_rfl)) ?_
     refine pu (i := 43) (N := some 48) (bA 47 17592186044415) rfl rfl (any_of HT_.out (by kernel_rfl)) ?_
     refine pu (i := 44) (N := some 49) (bA 47 35184372088831) rfl rfl (any_of HT_.out (by kernel_rfl)) ?_
     refine pv (i := 45) (N := some 50) (bA 47 70368744177663) rfl rfl (any_of HT_.out (by kernel_rfl)) ?_
     refine pv (i := 46) (N := some 4) (bA 47 140737488355327) rfl rfl (any_of HT_.out (by kernel_rfl)) ?_
     refine done_ (done_of HT_.out (by kernel_rfl)) ?_
     try go_wp2
     go_ret
     exact ⟨by first | rfl | (simp [errW_none, errW_some] <;> rfl) | (simp [*, errW_none, errW_some] <;> rfl), by repeat (first | (with_reducible first | exact HB.out | apply below_alloc | apply pw_below_drewN | apply below_drew1 | refine below_set ?_ GE210.out) | exact HB.out)⟩
   ·rw [if_neg c7] at H
    have c7b0 : decide (a0_2 < a0_0) = false := decide_eq_false c7
    clear c7
    obtain rfl := Option.some.inj H
    go_enter Tryd.func58, Tryd.ntmps58
    try go_wp2_with (first | ((with_reducible refine gate_dst (N := 2) rfl ?_); (try (refine gate_guard (by rfl) ?_; dsimp only)); refine box_event ?hg (N := 2) ?hd (cs := #[.int .i64 a0_0, .int .i64 a0_1, .int .i64 a0_2, .int .i64 a0_3, .slice A0_4 l0_4.length c0_4, .slice A0_5 l0_5.length c0_5, .slice A0_6 l0_6.length c0_6, .int .i64 a0_7]) (t := 81) ?hr ?_; (case hd => rfl); (case hg => rfl); (case hr => first | (go_simp; done) | (go_simp; rfl)); intro gb210 hg w26 hbox hb; have n0_ := Aside0.mk (below_step (by repeat (first | (with_reducible first | exact HB.out | apply below_alloc | apply pw_below_drewN | apply below_drew1) | exact HB.out)) hb); have n1_ := Aside0.mk (hbox); have n2_ := Aside0.mk ((by rw [hg]; exact (below_size (by repeat (first | (with_reducible first | exact HB.out | apply below_alloc | apply pw_below_drewN | apply below_drew1) | exact HB.out))) : w.heap.size ≤ gb210)); have n3_ := Aside0.mk ((by rw [hg]; exact (below_size (by repeat (first | (with_reducible first | exact HB.out | apply below_alloc | apply pw_below_drewN | apply below_drew1) | exact HB.out))) : w.heap.size ≤ gb210)); clear HB; have HB := n0_; have BK210 := n1_; have GW210 := n2_; have GE210 := n3_; clear n0_ n1_ n2_ n3_; clear hb hbox hg))
    have n0_ := Aside0.mk (blk_drew BK210.out)
    have n1_ := Aside0.mk (below_drew1 HB.out)
    clear BK210
    clear HB
    have BK210 := n0_
    have HB := n1_
    clear n0_ n1_
    refine start_ (n := 47) (S := fun w' => w'.cell? ⟨gb210, 0, none⟩ = some (.int .i64 a0_0) ∧ w'.cell? ⟨gb210, 1, none⟩ = some (.int .i64 a0_1) ∧ w'.cell? ⟨gb210, 2, none⟩ = some (.int .i64 a0_2) ∧ w'.cell? ⟨gb210, 3, none⟩ = some (.int .i64 a0_3) ∧ w'.cell? ⟨gb210, 4, none⟩ = some (.slice A0_4 l0_4.length c0_4) ∧ w'.cell? ⟨gb210, 5, none⟩ = some (.slice A0_5 l0_5.length c0_5) ∧ w'.cell? ⟨gb210, 6, none⟩ = some (.slice A0_6 l0_6.length c0_6) ∧ w'.cell? ⟨gb210, 7, none⟩ = some (.int .i64 a0_7)) (ds := []) (bA 47 0) (by kernel_rfl) rfl rfl ⟨(blk_cell BK210.out 0).trans rfl, (blk_cell BK210.out 1).trans rfl, (blk_cell BK210.out 2).trans rfl, (blk_cell BK210.out 3).trans rfl, (blk_cell BK210.out 4).trans rfl, (blk_cell BK210.out 5).trans rfl, (blk_cell BK210.out 6).trans rfl, (blk_cell BK210.out 7).trans rfl⟩ (fun hHeld => ?_); refine with_tabW impl_BlockOk.tab1 impl_BlockOk.bits1 (fun HT_ HW_ => ?_)
    generalize w26.drew = w27 at BK210 HB hHeld ⊢
    refine pv (i := 0) (N := some 5) (bA 47 1) rfl rfl (any_of HT_.out (by kernel_rfl)) ?_
    refine pv (i := 2) (N := some 7) (bA 47 5) rfl rfl (any_of HT_.out (by kernel_rfl)) ?_
    refine take_ (i := 1) (N := some 6) (v := ?_) (a' := ?_) (bA 47 7) rfl rfl (take_ofW HT_.out HW_.out (by kernel_rfl)) (fun _ _ _ h => h) (Or.inl ⟨by rfl, ?_⟩) hHeld ?_ ?_
    rotate_left
    ·rintro w' ⟨s0, s1, s2, s3, s4, s5, s6, s7⟩
     go_simp
     with_reducible rfl
    rotate_left
    ·simp only [sp_]
     rfl
    refine one_ (i := 3) (N := some 8) (bA 47 15) rfl rfl (one_of HT_.out (by kernel_rfl)) (by decide) (fun K hK => ?_)
    refine goes_ Tryd.func38 (by kernel_rfl) rfl #[.agg #[.int .i64 a0_2, .int .i64 a0_3, .slice A0_4 l0_4.length c0_4, .slice A0_5 l0_5.length c0_5], .int .i64 a1] (by rfl) rfl rfl (by (try simp only [List.map_toArray, List.map_cons, List.map_nil]); first | done | rfl | (simp only [List.length_drop, List.length_take]; rfl)) ?_
    with_reducible refine (impl_ProofOk.calls k a0_2 a0_3 _ _ l0_4 _ _ l0_5 a1 true _ ?side1 ?side2 ?side3 ?side4 A3.out (tab_at HT.out (by repeat (first | (with_reducible first | exact HB.out | apply below_alloc | apply pw_below_drewN | apply below_drew1 | (refine below_set ?_ (Aside0.out (by assumption)))) | exact HB.out)))).mono ?_
    (case side1 => repeat (first | exact (Kd.C_below HR0_4.out HB.out) | (with_reducible refine Kd.C_alloc ?_ _) | (with_reducible refine Kd.C_drewN ?_ _) | (with_reducible refine Kd.C_drew ?_)))
    (case side2 => exact HC0_4.out)
    (case side3 => repeat (first | exact (Kd.C_below HR0_5.out HB.out) | (with_reducible refine Kd.C_alloc ?_ _) | (with_reducible refine Kd.C_drewN ?_ _) | (with_reducible refine Kd.C_drew ?_)))
    (case side4 => exact HC0_5.out)
    rintro e w28 ⟨rfl, hb⟩
    refine ⟨_, rfl, ?_⟩
    have n0_ := Aside0.mk (blk_below (g := gb210) (o := .cells #[.int .i64 a0_0, .int .i64 a0_1, .int .i64 a0_2, .int .i64 a0_3, .slice A0_4 l0_4.length c0_4, .slice A0_5 l0_5.length c0_5, .slice A0_6 l0_6.length c0_6, .int .i64 a0_7] 81 (0, 0)) (by (with_reducible repeat (first | refine blk_drewN ?_ _ | refine blk_drew ?_ | refine blk_alloc ?_ _)); exact BK210.out) hb)
    have n1_ := Aside0.mk (below_step (by repeat (first | (with_reducible first | exact HB.out | apply below_alloc | apply pw_below_drewN | apply below_drew1 | refine below_set ?_ GE210.out) | exact HB.out)) hb)
    clear BK210
    clear HB
    have BK210 := n0_
    have HB := n1_
    clear n0_ n1_
    (try clear hb)
    (try clear hb2)
    (try clear hk)
    (try clear hi)
    refine hK.out _ _ ⟨(blk_cell BK210.out 0).trans rfl, (blk_cell BK210.out 1).trans rfl, (blk_cell BK210.out 2).trans rfl, (blk_cell BK210.out 3).trans rfl, (blk_cell BK210.out 4).trans rfl, (blk_cell BK210.out 5).trans rfl, (blk_cell BK210.out 6).trans rfl, (blk_cell BK210.out 7).trans rfl⟩ (fun hHeld => ?_)
    clear hK K
    refine norm_ (a' := ?_) ?_ ?_
    rotate_left
    ·show Act.put _ (some 8) _ = _
     simp only [sp_]
     rfl
    refine pv (i := 4) (N := some 9) (bA 47 31) rfl rfl (any_of HT_.out (by kernel_rfl)) ?_
    refine pv (i := 5) (N := some 10) (bA 47 63) rfl rfl (any_of HT_.out (by kernel_rfl)) ?_
    refine take_ (i := 6) (N := some 11) (v := ?_) (a' := ?_) (bA 47 127) rfl rfl (take_ofW HT_.out HW_.out (by kernel_rfl)) (fun _ _ _ h => h) (Or.inl ⟨by rfl, ?_⟩) hHeld ?_ ?_
    rotate_left
    ·rintro w' ⟨s0, s1, s2, s3, s4, s5, s6, s7⟩
     go_simp
     with_reducible rfl
    rotate_left
    ·simp only [sp_]
     rfl
    refine one_ (i := 7) (N := some 12) (bA 47 255) rfl rfl (one_of HT_.out (by kernel_rfl)) (by decide) (fun K hK => ?_)
    refine goes_ Tryd.func79 (by kernel_rfl) rfl #[.int .i64 a0_0] (by rfl) rfl rfl (by (try simp only [List.map_toArray, List.map_cons, List.map_nil]); first | done | rfl | (simp only [List.length_drop, List.length_take]; rfl)) ?_
    with_reducible refine (impl_isView.calls a0_0 true _ A5.out).mono ?_
    rintro e w' ⟨rfl, ⟨nd, rfl⟩⟩
    refine ⟨_, rfl, ?_⟩
    refine hK.out _ _ ⟨(blk_cell BK210.out 0).trans rfl, (blk_cell BK210.out 1).trans rfl, (blk_cell BK210.out 2).trans rfl, (blk_cell BK210.out 3).trans rfl, (blk_cell BK210.out 4).trans rfl, (blk_cell BK210.out 5).trans rfl, (blk_cell BK210.out 6).trans rfl, (blk_cell BK210.out 7).trans rfl⟩ (fun hHeld => ?_)
    clear hK K
    refine norm_ (a' := ?_) ?_ ?_
    rotate_left
    ·show Act.put _ (some 12) _ = _
     simp only [sp_]
     rfl
    refine pv (i := 8) (N := some 13) (bA 47 511) rfl rfl (any_of HT_.out (by kernel_rfl)) ?_
    refine pv (i := 9) (N := some 14) (bA 47 1023) rfl rfl (any_of HT_.out (by kernel_rfl)) ?_
    refine pv (i := 10) (N := some 15) (bA 47 2047) rfl rfl (any_of HT_.out (by kernel_rfl)) ?_
    refine pv (i := 11) (N := some 16) (bA 47 4095) rfl rfl (any_of HT_.out (by kernel_rfl)) ?_
    refine pv (i := 13) (N := some 18) (bA 47 12287) rfl rfl (any_of HT_.out (by kernel_rfl)) ?_
    refine take_ (i := 12) (N := some 17) (v := ?_) (a' := ?_) (bA 47 16383) rfl rfl (take_ofW HT_.out HW_.out (by kernel_rfl)) (fun _ _ _ h => h) (Or.inl ⟨by rfl, ?_⟩) hHeld ?_ ?_
    rotate_left
    ·rintro w' ⟨s0, s1, s2, s3, s4, s5, s6, s7⟩
     go_simp
     with_reducible rfl
    rotate_left
    ·simp only [sp_]
     rfl
    refine take_ (i := 14) (N := some 19) (v := ?_) (a' := ?_) (bA 47 32767) rfl rfl (take_ofW HT_.out HW_.out (by kernel_rfl)) (fun _ _ _ h => h) (Or.inl ⟨by rfl, ?_⟩) hHeld ?_ ?_
    rotate_left
    ·rintro w' ⟨s0, s1, s2, s3, s4, s5, s6, s7⟩
     go_simp
     with_reducible rfl
    rotate_left
    ·simp only [sp_]
     rfl
    refine pv (i := 15) (N := some 20) (bA 47 65535) rfl rfl (any_of HT_.out (by kernel_rfl)) ?_
    refine pv (i := 16) (N := some 21) (bA 47 131071) rfl rfl (any_of HT_.out (by kernel_rfl)) ?_
    refine pv (i := 17) (N := some 22) (bA 47 262143) rfl rfl (any_of HT_.out (by kernel_rfl)) ?_
    refine pu (i := 18) (N := some 23) (bA 47 524287) rfl rfl (any_of HT_.out (by kernel_rfl)) ?_
    refine pu (i := 19) (N := some 24) (bA 47 1048575) rfl rfl (any_of HT_.out (by kernel_rfl)) ?_
    refine pu (i := 20) (N := some 25) (bA 47 2097151) rfl rfl (any_of HT_.out (by kernel_rfl)) ?_
    refine pu (i := 21) (N := some 26) (bA 47 4194303) rfl rfl (any_of HT_.out (by kernel_rfl)) ?_
    refine pu (i := 22) (N := some 27) (bA 47 8388607) rfl rfl (any_of HT_.out (by kernel_rfl)) ?_
    refine pu (i := 23) (N := some 28) (bA 47 16777215) rfl rfl (any_of HT_.out (by kernel_rfl)) ?_
    refine pv (i := 24) (N := some 29) (bA 47 33554431) rfl rfl (any_of HT_.out (by kernel_rfl)) ?_
    refine pv (i := 25) (N := some 30) (bA 47 67108863) rfl rfl (any_of HT_.out (by kernel_rfl)) ?_
    refine pu (i := 26) (N := some 31) (bA 47 134217727) rfl rfl (any_of HT_.out (by kernel_rfl)) ?_
    refine pu (i := 27) (N := some 32) (bA 47 268435455) rfl rfl (any_of HT_.out (by kernel_rfl)) ?_
    refine pu (i := 28) (N := some 33) (bA 47 536870911) rfl rfl (any_of HT_.out (by kernel_rfl)) ?_
    refine pu (i := 29) (N := some 34) (bA 47 1073741823) rfl rfl (any_of HT_.out (by kernel_rfl)) ?_
    refine pu (i := 30) (N := some 35) (bA 47 2147483647) rfl rfl (any_of HT_.out (by kernel_rfl)) ?_
    refine pu (i := 31) (N := some 36) (bA 47 4294967295) rfl rfl (any_of HT_.out (by kernel_rfl)) ?_
    refine pu (i := 32) (N := some 37) (bA 47 8589934591) rfl rfl (any_of HT_.out (by kernel_rfl)) ?_
    refine pv (i := 33) (N := some 38) (bA 47 17179869183) rfl rfl (any_of HT_.out (by kernel_rfl)) ?_
    refine pv (i := 34) (N := some 39) (bA 47 34359738367) rfl rfl (any_of HT_.out (by kernel_rfl)) ?_
    refine pu (i := 35) (N := some 40) (bA 47 68719476735) rfl rfl (any_of HT_.out (by kernel_rfl)) ?_
    refine pu (i := 36) (N := some 41) (bA 47 137438953471) rfl rfl (any_of HT_.out (by kernel_rfl)) ?_
    refine pu (i := 37) (N := some 42) (bA 47 274877906943) rfl rfl (any_of HT_.out (by kernel_rfl)) ?_
    refine pu (i := 38) (N := some 43) (bA 47 549755813887) rfl rfl (any_of HT_.out (by kernel_rfl)) ?_
    refine pv (i := 39) (N := some 44) (bA 47 1099511627775) rfl rfl (any_of HT_.out (by kernel_rfl)) ?_
    refine pv (i := 40) (N := some 45) (bA 47 2199023255551) rfl rfl (any_of HT_.out (by kernel_rfl)) ?_
    refine pu (i := 41) (N := some 46) (bA 47 4398046511103) rfl rfl (any_of HT_.out (by kernel_rfl)) ?_
    refine pu (i := 42) (N := some 47) (bA 47 8796093022207) rfl rfl (any_of HT_.out (by kernel_rfl)) ?_
    refine pu (i := 43) (N := some 48) (bA 47 17592186044415) rfl rfl (any_of HT_.out (by kernel_rfl)) ?_
    refine pu (i := 44) (N := some 49) (bA 47 35184372088831) rfl rfl (any_of HT_.out (by kernel_rfl)) ?_
    refine pv (i := 45) (N := some 50) (bA 47 70368744177663) rfl rfl (any_of HT_.out (by kernel_rfl)) ?_
    refine pv (i := 46) (N := some 4) (bA 47 140737488355327) rfl rfl (any_of HT_.out (by kernel_rfl)) ?_
    refine done_ (done_of HT_.out (by kernel_rfl)) ?_
    try go_wp2
    go_ret
    exact ⟨by first | rfl | (simp [errW_none, errW_some] <;> rfl) | (simp [*, errW_none, errW_some] <;> rfl), by repeat (first | (with_reducible first | exact HB.out | apply below_alloc | apply pw_below_drewN | apply below_drew1 | refine below_set ?_ GE210.out) | exact HB.out)⟩
  ·replace c6 := Bool.eq_false_iff.mpr c6
   subst c6
   have H1 : (some false) = some r := by rw [if_neg (show ¬ (false = true) by decide)] at H; exact H
   clear H
   have H := H1
   clear H1
   obtain rfl := Option.some.inj H
   go_enter Tryd.func58, Tryd.ntmps58
   try go_wp2_with (first | ((with_reducible refine gate_dst (N := 2) rfl ?_); (try (refine gate_guard (by rfl) ?_; dsimp only)); refine box_event ?hg (N := 2) ?hd (cs := #[.int .i64 a0_0, .int .i64 a0_1, .int .i64 a0_2, .int .i64 a0_3, .slice A0_4 l0_4.length c0_4, .slice A0_5 l0_5.length c0_5, .slice A0_6 l0_6.length c0_6, .int .i64 a0_7]) (t := 81) ?hr ?_; (case hd => rfl); (case hg => rfl); (case hr => first | (go_simp; done) | (go_simp; rfl)); intro gb210 hg w29 hbox hb; have n0_ := Aside0.mk (below_step (by repeat (first | (with_reducible first | exact HB.out | apply below_alloc | apply pw_below_drewN | apply below_drew1) | exact HB.out)) hb); have n1_ := Aside0.mk (hbox); have n2_ := Aside0.mk ((by rw [hg]; exact (below_size (by repeat (first | (with_reducible first | exact HB.out | apply below_alloc | apply pw_below_drewN | apply below_drew1) | exact HB.out))) : w.heap.size ≤ gb210)); have n3_ := Aside0.mk ((by rw [hg]; exact (below_size (by repeat (first | (with_reducible first | exact HB.out | apply below_alloc | apply pw_below_drewN | apply below_drew1) | exact HB.out))) : w.heap.size ≤ gb210)); clear HB; have HB := n0_; have BK210 := n1_; have GW210 := n2_; have GE210 := n3_; clear n0_ n1_ n2_ n3_; clear hb hbox hg))
   have n0_ := Aside0.mk (blk_drew BK210.out)
   have n1_ := Aside0.mk (below_drew1 HB.out)
   clear BK210
   clear HB
   have BK210 := n0_
   have HB := n1_
   clear n0_ n1_
   refine start_ (n := 47) (S := fun w' => w'.cell? ⟨gb210, 0, none⟩ = some (.int .i64 a0_0) ∧ w'.cell? ⟨gb210, 1, none⟩ = some (.int .i64 a0_1) ∧ w'.cell? ⟨gb210, 2, none⟩ = some (.int .i64 a0_2) ∧ w'.cell? ⟨gb210, 3, none⟩ = some (.int .i64 a0_3) ∧ w'.cell? ⟨gb210, 4, none⟩ = some (.slice A0_4 l0_4.length c0_4) ∧ w'.cell? ⟨gb210, 5, none⟩ = some (.slice A0_5 l0_5.length c0_5) ∧ w'.cell? ⟨gb210, 6, none⟩ = some (.slice A0_6 l0_6.length c0_6) ∧ w'.cell? ⟨gb210, 7, none⟩ = some (.int .i64 a0_7)) (ds := []) (bA 47 0) (by kernel_rfl) rfl rfl ⟨(blk_cell BK210.out 0).trans rfl, (blk_cell BK210.out 1).trans rfl, (blk_cell BK210.out 2).trans rfl, (blk_cell BK210.out 3).trans rfl, (blk_cell BK210.out 4).trans rfl, (blk_cell BK210.out 5).trans rfl, (blk_cell BK210.out 6).trans rfl, (blk_cell BK210.out 7).trans rfl⟩ (fun hHeld => ?_); refine with_tabW impl_BlockOk.tab1 impl_BlockOk.bits1 (fun HT_ HW_ => ?_)
   generalize w29.drew = w30 at BK210 HB hHeld ⊢
   refine pv (i := 0) (N := some 5) (bA 47 1) rfl rfl (any_of HT_.out (by kernel_rfl)) ?_
   refine pv (i := 2) (N := some 7) (bA 47 5) rfl rfl (any_of HT_.out (by kernel_rfl)) ?_
   refine take_ (i := 1) (N := some 6) (v := ?_) (a' := ?_) (bA 47 7) rfl rfl (take_ofW HT_.out HW_.out (by kernel_rfl)) (fun _ _ _ h => h) (Or.inl ⟨by rfl, ?_⟩) hHeld ?_ ?_
   rotate_left
   ·rintro w' ⟨s0, s1, s2, s3, s4, s5, s6, s7⟩
    go_simp
    with_reducible rfl
   rotate_left
   ·simp only [sp_]
    rfl
   refine one_ (i := 3) (N := some 8) (bA 47 15) rfl rfl (one_of HT_.out (by kernel_rfl)) (by decide) (fun K hK => ?_)
   refine goes_ Tryd.func38 (by kernel_rfl) rfl #[.agg #[.int .i64 a0_2, .int .i64 a0_3, .slice A0_4 l0_4.length c0_4, .slice A0_5 l0_5.length c0_5], .int .i64 a1] (by rfl) rfl rfl (by (try simp only [List.map_toArray, List.map_cons, List.map_nil]); first | done | rfl | (simp only [List.length_drop, List.length_take]; rfl)) ?_
   with_reducible refine (impl_ProofOk.calls k a0_2 a0_3 _ _ l0_4 _ _ l0_5 a1 true _ ?side1 ?side2 ?side3 ?side4 A3.out (tab_at HT.out (by repeat (first | (with_reducible first | exact HB.out | apply below_alloc | apply pw_below_drewN | apply below_drew1 | (refine below_set ?_ (Aside0.out (by assumption)))) | exact HB.out)))).mono ?_
   (case side1 => repeat (first | exact (Kd.C_below HR0_4.out HB.out) | (with_reducible refine Kd.C_alloc ?_ _) | (with_reducible refine Kd.C_drewN ?_ _) | (with_reducible refine Kd.C_drew ?_)))
   (case side2 => exact HC0_4.out)
   (case side3 => repeat (first | exact (Kd.C_below HR0_5.out HB.out) | (with_reducible refine Kd.C_alloc ?_ _) | (with_reducible refine Kd.C_drewN ?_ _) | (with_reducible refine Kd.C_drew ?_)))
   (case side4 => exact HC0_5.out)
   rintro e w31 ⟨rfl, hb⟩
   refine ⟨_, rfl, ?_⟩
   have n0_ := Aside0.mk (blk_below (g := gb210) (o := .cells #[.int .i64 a0_0, .int .i64 a0_1, .int .i64 a0_2, .int .i64 a0_3, .slice A0_4 l0_4.length c0_4, .slice A0_5 l0_5.length c0_5, .slice A0_6 l0_6.length c0_6, .int .i64 a0_7] 81 (0, 0)) (by (with_reducible repeat (first | refine blk_drewN ?_ _ | refine blk_drew ?_ | refine blk_alloc ?_ _)); exact BK210.out) hb)
   have n1_ := Aside0.mk (below_step (by repeat (first | (with_reducible first | exact HB.out | apply below_alloc | apply pw_below_drewN | apply below_drew1 | refine below_set ?_ GE210.out) | exact HB.out)) hb)
   clear BK210
   clear HB
   have BK210 := n0_
   have HB := n1_
   clear n0_ n1_
   (try clear hb)
   (try clear hb2)
   (try clear hk)
   (try clear hi)
   refine hK.out _ _ ⟨(blk_cell BK210.out 0).trans rfl, (blk_cell BK210.out 1).trans rfl, (blk_cell BK210.out 2).trans rfl, (blk_cell BK210.out 3).trans rfl, (blk_cell BK210.out 4).trans rfl, (blk_cell BK210.out 5).trans rfl, (blk_cell BK210.out 6).trans rfl, (blk_cell BK210.out 7).trans rfl⟩ (fun hHeld => ?_)
   clear hK K
   refine norm_ (a' := ?_) ?_ ?_
   rotate_left
   ·show Act.put _ (some 8) _ = _
    simp only [sp_]
    rfl
   refine pv (i := 4) (N := some 9) (bA 47 31) rfl rfl (any_of HT_.out (by kernel_rfl)) ?_
   refine pv (i := 5) (N := some 10) (bA 47 63) rfl rfl (any_of HT_.out (by kernel_rfl)) ?_
   refine take_ (i := 6) (N := some 11) (v := ?_) (a' := ?_) (bA 47 127) rfl rfl (take_ofW HT_.out HW_.out (by kernel_rfl)) (fun _ _ _ h => h) (Or.inl ⟨by rfl, ?_⟩) hHeld ?_ ?_
   rotate_left
   ·rintro w' ⟨s0, s1, s2, s3, s4, s5, s6, s7⟩
    go_simp
    with_reducible rfl
   rotate_left
   ·simp only [sp_]
    rfl
   refine one_ (i := 7) (N := some 12) (bA 47 255) rfl rfl (one_of HT_.out (by kernel_rfl)) (by decide) (fun K hK => ?_)
   refine goes_ Tryd.func79 (by kernel_rfl) rfl #[.int .i64 a0_0] (by rfl) rfl rfl (by (try simp only [List.map_toArray, List.map_cons, List.map_nil]); first | done | rfl | (simp only [List.length_drop, List.length_take]; rfl)) ?_
   with_reducible refine (impl_isView.calls a0_0 false _ A5.out).mono ?_
   rintro e w' ⟨rfl, ⟨nd, rfl⟩⟩
   refine ⟨_, rfl, ?_⟩
   refine hK.out _ _ ⟨(blk_cell BK210.out 0).trans rfl, (blk_cell BK210.out 1).trans rfl, (blk_cell BK210.out 2).trans rfl, (blk_cell BK210.out 3).trans rfl, (blk_cell BK210.out 4).trans rfl, (blk_cell BK210.out 5).trans rfl, (blk_cell BK210.out 6).trans rfl, (blk_cell BK210.out 7).trans rfl⟩ (fun hHeld => ?_)
   clear hK K
   refine norm_ (a' := ?_) ?_ ?_
   rotate_left
   ·show Act.put _ (some 12) _ = _
    simp only [sp_]
    rfl
   refine pv (i := 8) (N := some 13) (bA 47 511) rfl rfl (any_of HT_.out (by kernel_rfl)) ?_
   refine pv (i := 9) (N := some 14) (bA 47 1023) rfl rfl (any_of HT_.out (by kernel_rfl)) ?_
   refine pu (i := 10) (N := some 15) (bA 47 2047) rfl rfl (any_of HT_.out (by kernel_rfl)) ?_
   refine pu (i := 11) (N := some 16) (bA 47 4095) rfl rfl (any_of HT_.out (by kernel_rfl)) ?_
   refine pu (i := 12) (N := some 17) (bA 47 8191) rfl rfl (any_of HT_.out (by kernel_rfl)) ?_
   refine pu (i := 13) (N := some 18) (bA 47 16383) rfl rfl (any_of HT_.out (by kernel_rfl)) ?_
   refine pu (i := 14) (N := some 19) (bA 47 32767) rfl rfl (any_of HT_.out (by kernel_rfl)) ?_
   refine pu (i := 15) (N := some 20) (bA 47 65535) rfl rfl (any_of HT_.out (by kernel_rfl)) ?_
   refine pv (i := 16) (N := some 21) (bA 47 131071) rfl rfl (any_of HT_.out (by kernel_rfl)) ?_
   refine pv (i := 17) (N := some 22) (bA 47 262143) rfl rfl (any_of HT_.out (by kernel_rfl)) ?_
   refine pu (i := 18) (N := some 23) (bA 47 524287) rfl rfl (any_of HT_.out (by kernel_rfl)) ?_
   refine pu (i := 19) (N := some 24) (bA 47 1048575) rfl rfl (any_of HT_.out (by kernel_rfl)) ?_
   refine pu (i := 20) (N := some 25) (bA 47 2097151) rfl rfl (any_of HT_.out (by kernel_rfl)) ?_
   refine pu (i := 21) (N := some 26) (bA 47 4194303) rfl rfl (any_of HT_.out (by kernel_rfl)) ?_
   refine pu (i := 22) (N := some 27) (bA 47 8388607) rfl rfl (any_of HT_.out (by kernel_rfl)) ?_
   refine pu (i := 23) (N := some 28) (bA 47 16777215) rfl rfl (any_of HT_.out (by kernel_rfl)) ?_
   refine pv (i := 24) (N := some 29) (bA 47 33554431) rfl rfl (any_of HT_.out (by kernel_rfl)) ?_
   refine pv (i := 25) (N := some 30) (bA 47 67108863) rfl rfl (any_of HT_.out (by kernel_rfl)) ?_
   refine pu (i := 26) (N := some 31) (bA 47 134217727) rfl rfl (any_of HT_.out (by kernel_rfl)) ?_
   refine pu (i := 27) (N := some 32) (bA 47 268435455) rfl rfl (any_of HT_.out (by kernel_rfl)) ?_
   refine pu (i := 28) (N := some 33) (bA 47 536870911) rfl rfl (any_of HT_.out (by kernel_rfl)) ?_
   refine pu (i := 29) (N := some 34) (bA 47 1073741823) rfl rfl (any_of HT_.out (by kernel_rfl)) ?_
   refine pu (i := 30) (N := some 35) (bA 47 2147483647) rfl rfl (any_of HT_.out (by kernel_rfl)) ?_
   refine pu (i := 31) (N := some 36) (bA 47 4294967295) rfl rfl (any_of HT_.out (by kernel_rfl)) ?_
   refine pu (i := 32) (N := some 37) (bA 47 8589934591) rfl rfl (any_of HT_.out (by kernel_rfl)) ?_
   refine pv (i := 33) (N := some 38) (bA 47 17179869183) rfl rfl (any_of HT_.out (by kernel_rfl)) ?_
   refine pv (i := 34) (N := some 39) (bA 47 34359738367) rfl rfl (any_of HT_.out (by kernel_rfl)) ?_
   refine pu (i := 35) (N := some 40) (bA 47 68719476735) rfl rfl (any_of HT_.out (by kernel_rfl)) ?_
   refine pu (i := 36) (N := some 41) (bA 47 137438953471) rfl rfl (any_of HT_.out (by kernel_rfl)) ?_
   refine pu (i := 37) (N := some 42) (bA 47 274877906943) rfl rfl (any_of HT_.out (by kernel_rfl)) ?_
   refine pu (i := 38) (N := some 43) (bA 47 549755813887) rfl rfl (any_of HT_.out (by kernel_rfl)) ?_
   refine pv (i := 39) (N := some 44) (bA 47 1099511627775) rfl rfl (any_of HT_.out (by kernel_rfl)) ?_
   refine pv (i := 40) (N := some 45) (bA 47 2199023255551) rfl rfl (any_of HT_.out (by kernel_rfl)) ?_
   refine pu (i := 41) (N := some 46) (bA 47 4398046511103) rfl rfl (any_of HT_.out (by kernel_rfl)) ?_
   refine pu (i := 42) (N := some 47) (bA 47 8796093022207) rfl rfl (any_of HT_.out (by kernel_rfl)) ?_
   refine pu (i := 43) (N := some 48) (bA 47 17592186044415) rfl rfl (any_of HT_.out (by kernel_rfl)) ?_
   refine pu (i := 44) (N := some 49) (bA 47 35184372088831) rfl rfl (any_of HT_.out (by kernel_rfl)) ?_
   refine pv (i := 45) (N := some 50) (bA 47 70368744177663) rfl rfl (any_of HT_.out (by kernel_rfl)) ?_
   refine pv (i := 46) (N := some 4) (bA 47 140737488355327) rfl rfl (any_of HT_.out (by kernel_rfl)) ?_
   refine done_ (done_of HT_.out (by kernel_rfl)) ?_
   try go_wp2
   go_ret
   exact ⟨by first | rfl | (simp [errW_none, errW_some] <;> rfl) | (simp [*, errW_none, errW_some] <;> rfl), by repeat (first | (with_reducible first | exact HB.out | apply below_alloc | apply pw_below_drewN | apply below_drew1 | refine below_set ?_ GE210.out) | exact HB.out)⟩
 ·replace c4 := Bool.eq_false_iff.mpr c4
  subst c4
  have H1 : (some false) = some r := by rw [if_neg (show ¬ (false = true) by decide)] at H; exact H
  clear H
  have H := H1
  clear H1
  obtain rfl := Option.some.inj H
  go_enter Tryd.func58, Tryd.ntmps58
  try go_wp2_with (first | ((with_reducible refine gate_dst (N := 2) rfl ?_); (try (refine gate_guard (by rfl) ?_; dsimp only)); refine box_event ?hg (N := 2) ?hd (cs := #[.int .i64 a0_0, .int .i64 a0_1, .int .i64 a0_2, .int .i64 a0_3, .slice A0_4 l0_4.length c0_4, .slice A0_5 l0_5.length c0_5, .slice A0_6 l0_6.length c0_6, .int .i64 a0_7]) (t := 81) ?hr ?_; (case hd => rfl); (case hg => rfl); (case hr => first | (go_simp; done) | (go_simp; rfl)); intro gb210 hg w32 hbox hb; have n0_ := Aside0.mk (below_step (by repeat (first | (with_reducible first | exact HB.out | apply below_alloc | apply pw_below_drewN | apply below_drew1) | exact HB.out)) hb); have n1_ := Aside0.mk (hbox); have n2_ := Aside0.mk ((by rw [hg]; exact (below_size (by repeat (first | (with_reducible first | exact HB.out | apply below_alloc | apply pw_below_drewN | apply below_drew1) | exact HB.out))) : w.heap.size ≤ gb210)); have n3_ := Aside0.mk ((by rw [hg]; exact (below_size (by repeat (first | (with_reducible first | exact HB.out | apply below_alloc | apply pw_below_drewN | apply below_drew1) | exact HB.out))) : w.heap.size ≤ gb210)); clear HB; have HB := n0_; have BK210 := n1_; have GW210 := n2_; have GE210 := n3_; clear n0_ n1_ n2_ n3_; clear hb hbox hg))
  have n0_ := Aside0.mk (blk_drew BK210.out)
  have n1_ := Aside0.mk (below_drew1 HB.out)
  clear BK210
  clear HB
  have BK210 := n0_
  have HB := n1_
  clear n0_ n1_
  refine start_ (n := 47) (S := fun w' => w'.cell? ⟨gb210, 0, none⟩ = some (.int .i64 a0_0) ∧ w'.cell? ⟨gb210, 1, none⟩ = some (.int .i64 a0_1) ∧ w'.cell? ⟨gb210, 2, none⟩ = some (.int .i64 a0_2) ∧ w'.cell? ⟨gb210, 3, none⟩ = some (.int .i64 a0_3) ∧ w'.cell? ⟨gb210, 4, none⟩ = some (.slice A0_4 l0_4.length c0_4) ∧ w'.cell? ⟨gb210, 5, none⟩ = some (.slice A0_5 l0_5.length c0_5) ∧ w'.cell? ⟨gb210, 6, none⟩ = some (.slice A0_6 l0_6.length c0_6) ∧ w'.cell? ⟨gb210, 7, none⟩ = some (.int .i64 a0_7)) (ds := []) (bA 47 0) (by kernel_rfl) rfl rfl ⟨(blk_cell BK210.out 0).trans rfl, (blk_cell BK210.out 1).trans rfl, (blk_cell BK210.out 2).trans rfl, (blk_cell BK210.out 3).trans rfl, (blk_cell BK210.out 4).trans rfl, (blk_cell BK210.out 5).trans rfl, (blk_cell BK210.out 6).trans rfl, (blk_cell BK210.out 7).trans rfl⟩ (fun hHeld => ?_); refine with_tabW impl_BlockOk.tab1 impl_BlockOk.bits1 (fun HT_ HW_ => ?_)
  generalize w32.drew = w33 at BK210 HB hHeld ⊢
  refine pv (i := 0) (N := some 5) (bA 47 1) rfl rfl (any_of HT_.out (by kernel_rfl)) ?_
  refine pv (i := 2) (N := some 7) (bA 47 5) rfl rfl (any_of HT_.out (by kernel_rfl)) ?_
  refine take_ (i := 1) (N := some 6) (v := ?_) (a' := ?_) (bA 47 7) rfl rfl (take_ofW HT_.out HW_.out (by kernel_rfl)) (fun _ _ _ h => h) (Or.inl ⟨by rfl, ?_⟩) hHeld ?_ ?_
  rotate_left
  ·rintro w' ⟨s0, s1, s2, s3, s4, s5, s6, s7⟩
   go_simp
   with_reducible rfl
  rotate_left
  ·simp only [sp_]
   rfl
  refine one_ (i := 3) (N := some 8) (bA 47 15) rfl rfl (one_of HT_.out (by kernel_rfl)) (by decide) (fun K hK => ?_)
  refine goes_ Tryd.func38 (by kernel_rfl) rfl #[.agg #[.int .i64 a0_2, .int .i64 a0_3, .slice A0_4 l0_4.length c0_4, .slice A0_5 l0_5.length c0_5], .int .i64 a1] (by rfl) rfl rfl (by (try simp only [List.map_toArray, List.map_cons, List.map_nil]); first | done | rfl | (simp only [List.length_drop, List.length_take]; rfl)) ?_
  with_reducible refine (impl_ProofOk.calls k a0_2 a0_3 _ _ l0_4 _ _ l0_5 a1 false _ ?side1 ?side2 ?side3 ?side4 A3.out (tab_at HT.out (by repeat (first | (with_reducible first | exact HB.out | apply below_alloc | apply pw_below_drewN | apply below_drew1 | (refine below_set ?_ (Aside0.out (by assumption)))) | exact HB.out)))).mono ?_
  (case side1 => repeat (first | exact (Kd.C_below HR0_4.out HB.out) | (with_reducible refine Kd.C_alloc ?_ _) | (with_reducible refine Kd.C_drewN ?_ _) | (with_reducible refine Kd.C_drew ?_)))
  (case side2 => exact HC0_4.out)
  (case side3 => repeat (first | exact (Kd.C_below HR0_5.out HB.out) | (with_reducible refine Kd.C_alloc ?_ _) | (with_reducible refine Kd.C_drewN ?_ _) | (with_reducible refine Kd.C_drew ?_)))
  (case side4 => exact HC0_5.out)
  rintro e w34 ⟨rfl, hb⟩
  refine ⟨_, rfl, ?_⟩
  have n0_ := Aside0.mk (blk_below (g := gb210) (o := .cells #[.int .i64 a0_0, .int .i64 a0_1, .int .i64 a0_2, .int .i64 a0_3, .slice A0_4 l0_4.length c0_4, .slice A0_5 l0_5.length c0_5, .slice A0_6 l0_6.length c0_6, .int .i64 a0_7] 81 (0, 0)) (by (with_reducible repeat (first | refine blk_drewN ?_ _ | refine blk_drew ?_ | refine blk_alloc ?_ _)); exact BK210.out) hb)
  have n1_ := Aside0.mk (below_step (by repeat (first | (with_reducible first | exact HB.out | apply below_alloc | apply pw_below_drewN | apply below_drew1 | refine below_set ?_ GE210.out) | exact HB.out)) hb)
  clear BK210
  clear HB
  have BK210 := n0_
  have HB := n1_
  clear n0_ n1_
  (try clear hb)
  (try clear hb2)
  (try clear hk)
  (try clear hi)
  refine hK.out _ _ ⟨(blk_cell BK210.out 0).trans rfl, (blk_cell BK210.out 1).trans rfl, (blk_cell BK210.out 2).trans rfl, (blk_cell BK210.out 3).trans rfl, (blk_cell BK210.out 4).trans rfl, (blk_cell BK210.out 5).trans rfl, (blk_cell BK210.out 6).trans rfl, (blk_cell BK210.out 7).trans rfl⟩ (fun hHeld => ?_)
  clear hK K
  refine norm_ (a' := ?_) ?_ ?_
  rotate_left
  ·show Act.put _ (some 8) _ = _
   simp only [sp_]
   rfl
  refine pv (i := 4) (N := some 9) (bA 47 31) rfl rfl (any_of HT_.out (by kernel_rfl)) ?_
  refine pu (i := 5) (N := some 10) (bA 47 63) rfl rfl (any_of HT_.out (by kernel_rfl)) ?_
  refine pu (i := 6) (N := some 11) (bA 47 127) rfl rfl (any_of HT_.out (by kernel_rfl)) ?_
  refine pu (i := 7) (N := some 12) (bA 47 255) rfl rfl (any_of HT_.out (by kernel_rfl)) ?_
  refine pv (i := 8) (N := some 13) (bA 47 511) rfl rfl (any_of HT_.out (by kernel_rfl)) ?_
  refine pv (i := 9) (N := some 14) (bA 47 1023) rfl rfl (any_of HT_.out (by kernel_rfl)) ?_
  refine pu (i := 10) (N := some 15) (bA 47 2047) rfl rfl (any_of HT_.out (by kernel_rfl)) ?_
  refine pu (i := 11) (N := some 16) (bA 47 4095) rfl rfl (any_of HT_.out (by kernel_rfl)) ?_
  refine pu (i := 12) (N := some 17) (bA 47 8191) rfl rfl (any_of HT_.out (by kernel_rfl)) ?_
  refine pu (i := 13) (N := some 18) (bA 47 16383) rfl rfl (any_of HT_.out (by kernel_rfl)) ?_
  refine pu (i := 14) (N := some 19) (bA 47 32767) rfl rfl (any_of HT_.out (by kernel_rfl)) ?_
  refine pu (i := 15) (N := some 20) (bA 47 65535) rfl rfl (any_of HT_.out (by kernel_rfl)) ?_
  refine pv (i := 16) (N := some 21) (bA 47 131071) rfl rfl (any_of HT_.out (by kernel_rfl)) ?_
  refine pv (i := 17) (N := some 22) (bA 47 262143) rfl rfl (any_of HT_.out (by kernel_rfl)) ?_
  refine pu (i := 18) (N := some 23) (bA 47 524287) rfl rfl (any_of HT_.out (by kernel_rfl)) ?_
  refine pu (i := 19) (N := some 24) (bA 47 1048575) rfl rfl (any_of HT_.out (by kernel_rfl)) ?_
  refine pu (i := 20) (N := some 25) (bA 47 2097151) rfl rfl (any_of HT_.out (by kernel_rfl)) ?_
  refine pu (i := 21) (N := some 26) (bA 47 4194303) rfl rfl (any_of HT_.out (by kernel_rfl)) ?_
  refine pu (i := 22) (N := some 27) (bA 47 8388607) rfl rfl (any_of HT_.out (by kernel_rfl)) ?_
  refine pu (i := 23) (N := some 28) (bA 47 16777215) rfl rfl (any_of HT_.out (by kernel_rfl)) ?_
  refine pv (i := 24) (N := some 29) (bA 47 33554431) rfl rfl (any_of HT_.out (by kernel_rfl)) ?_
  refine pv (i := 25) (N := some 30) (bA 47 67108863) rfl rfl (any_of HT_.out (by kernel_rfl)) ?_
  refine pu (i := 26) (N := some 31) (bA 47 134217727) rfl rfl (any_of HT_.out (by kernel_rfl)) ?_
  refine pu (i := 27) (N := some 32) (bA 47 268435455) rfl rfl (any_of HT_.out (by kernel_rfl)) ?_
  refine pu (i := 28) (N := some 33) (bA 47 536870911) rfl rfl (any_of HT_.out (by kernel_rfl)) ?_
  refine pu (i := 29) (N := some 34) (bA 47 1073741823) rfl rfl (any_of HT_.out (by kernel_rfl)) ?_
  refine pu (i := 30) (N := some 35) (bA 47 2147483647) rfl rfl (any_of HT_.out (by kernel_rfl)) ?_
  refine pu (i := 31) (N := some 36) (bA 47 4294967295) rfl rfl (any_of HT_.out (by kernel_rfl)) ?_
  refine pu (i := 32) (N := some 37) (bA 47 8589934591) rfl rfl (any_of HT_.out (by kernel_rfl)) ?_
  refine pv (i := 33) (N := some 38) (bA 47 17179869183) rfl rfl (any_of HT_.out (by kernel_rfl)) ?_
  refine pv (i := 34) (N := some 39) (bA 47 34359738367) rfl rfl (any_of HT_.out (by kernel_rfl)) ?_
  refine pu (i := 35) (N := some 40) (bA 47 68719476735) rfl rfl (any_of HT_.out (by kernel_rfl)) ?_
  refine pu (i := 36) (N := some 41) (bA 47 137438953471) rfl rfl (any_of HT_.out (by kernel_rfl)) ?_
  refine pu (i := 37) (N := some 42) (bA 47 274877906943) rfl rfl (any_of HT_.out (by kernel_rfl)) ?_
  refine pu (i := 38) (N := some 43) (bA 47 549755813887) rfl rfl (any_of HT_.out (by kernel_rfl)) ?_
  refine pv (i := 39) (N := some 44) (bA 47 1099511627775) rfl rfl (any_of HT_.out (by kernel_rfl)) ?_
  refine pv (i := 40) (N := some 45) (bA 47 2199023255551) rfl rfl (any_of HT_.out (by kernel_rfl)) ?_
  refine pu (i := 41) (N := some 46) (bA 47 4398046511103) rfl rfl (any_of HT_.out (by kernel_rfl)) ?_
  refine pu (i := 42) (N := some 47) (bA 47 8796093022207) rfl rfl (any_of HT_.out (by kernel_rfl)) ?_
  refine pu (i := 43) (N := some 48) (bA 47 17592186044415) rfl rfl (any_of HT_.out (by kernel_rfl)) ?_
  refine pu (i := 44) (N := some 49) (bA 47 35184372088831) rfl rfl (any_of HT_.out (by kernel_rfl)) ?_
  refine pv (i := 45) (N := some 50) (bA 47 70368744177663) rfl rfl (any_of HT_.out (by kernel_rfl)) ?_
  refine pv (i := 46) (N := some 4) (bA 47 140737488355327) rfl rfl (any_of HT_.out (by kernel_rfl)) ?_
  refine done_ (done_of HT_.out (by kernel_rfl)) ?_
  try go_wp2
  go_ret
  exact ⟨by first | rfl | (simp [errW_none, errW_some] <;> rfl) | (simp [*, errW_none, errW_some] <;> rfl), by repeat (first | (with_reducible first | exact HB.out | apply below_alloc | apply pw_below_drewN | apply below_drew1 | refine below_set ?_ GE210.out) | exact HB.out)⟩

end Go.Proofs.YtcegobkangpilaaDoor.PFnExactBlockOk
