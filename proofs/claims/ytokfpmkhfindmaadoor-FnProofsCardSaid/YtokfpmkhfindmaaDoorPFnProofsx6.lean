-- Written by a program of this session (wip/tools/pp.py over the kit's print).
import Derived.Test.YtokfpmkhfindmaaDoorPFnProofsx0
import Derived.Test.YtokfpmkhfindmaaDoorPFnProofsx5
namespace Go.Proofs.YtokfpmkhfindmaaDoor.PFnProofs
open Go.RowKit Go.Proofs.YtokfpmkhfindmaaDoorW.PrintWords Go.Proofs.YtokfpmkhfindmaaDoorW.PrintLast Go.Proofs.YtokfpmkhfindmaaDoorW.PrintMore
attribute [local go_sem] max2_int min2_int max_two min_two max_three min_three max_four min_four
attribute [local go_sem high] str_gtr str_leq str_geq
set_option linter.unusedVariables false
set_option linter.unusedSimpArgs false

/-! ### impl_VoteOk: function 25 -/
def impl_VoteOk.f (k : Nat) (a0_0 : Int) (a0_1 : Int) (a0_2 : Int) (a0_3 : Int) (a1 : Int) : Option (Bool) := (impl_Quorum.f a1).bind fun t151 => (if t151 > 0 then ((impl_within.f a0_2 0 (wrap64 (a1 - 1))).bind fun t152 => (if t152 = true then ((impl_isView.f a0_0).bind fun t153 => (if t153 = true then ((impl_isName.f a0_1).bind fun t154 => (if t154 = true then ((impl_ballot.f a0_0 a0_1).bind fun t155 => ((impl_Signed.f k a0_2 t155 a0_3).bind fun t156 => (some t156))) else (some false))) else (some false))) else (some false))) else (some false))
theorem impl_VoteOk.mono : ∀ a0 a1 a2 a3 a4 k, LeO (impl_VoteOk.f k a0 a1 a2 a3 a4) (impl_VoteOk.f (k + 1) a0 a1 a2 a3 a4) := by
 intro a0 a1 a2 a3 a4 k
 unfold impl_VoteOk.f
 repeat' first
   | (with_reducible exact impl_Signed.mono _ _ _ _)
   | (with_reducible exact LeO.refl _)
   | (with_reducible exact LeO.none _)
   | (with_reducible refine LeO.ite ?_ ?_)
   | (with_reducible refine LeO.bind ?_ (fun _ => ?_))
   | exact impl_Signed.mono _ _ _ _
   | exact LeO.none _
   | refine LeO.ite ?_ ?_
   | refine LeO.bind ?_ (fun _ => ?_)
def impl_VoteOk.T1 : Bool × List (List Nat × List Nat) := (true, [([], []), ([0], [0]), ([1], [1]), ([2, 1], [2]), ([3], [3]), ([4, 3], [3, 4]), ([3], [3]), ([6, 3], [3, 6]), ([5, 7, 3, 3], [3, 5, 7]), ([3, 8], [3, 8]), ([9, 8], [9]), ([10], [10]), ([11, 10], [10, 11]), ([12, 10, 10], [10, 12]), ([10, 13], [10, 13]), ([14, 13], [14]), ([15], [15]), ([16, 15], [15, 16]), ([17, 15, 15], [15, 17]), ([15, 18], [15, 18]), ([19, 18], [19]), ([20], [20]), ([21, 20], [20, 21]), ([20], [20]), ([23, 20], [20, 23]), ([20], [20]), ([25, 20], [20, 25]), ([24, 26, 20, 20], [20, 24, 26]), ([20], [20]), ([28, 20], [20, 28]), ([22, 27, 29, 27, 20], [20, 22, 27, 29]), ([20, 30], [20, 30]), ([31, 30, 0, 1, 2, 3, 4, 5, 6, 7, 8, 9, 10, 11, 12, 13, 14, 15, 16, 17, 18, 19, 20, 21, 22, 23, 24, 25, 26, 27, 28, 29, 30, 31], [31])])
def impl_VoteOk.B1 : List Nat := [0, 1, 3, 7, 15, 31, 15, 79, 255, 511, 1023, 2047, 4095, 8191, 16383, 32767, 65535, 131071, 262143, 524287, 1048575, 2097151, 4194303, 2097151, 10485759, 2097151, 35651583, 127926271, 2097151, 270532607, 1073741823, 2147483647, 4294967295]
theorem impl_VoteOk.tab1 : rtab .any (opsOf Tryd.f25 1) = impl_VoteOk.T1 := by kernel_rfl
theorem impl_VoteOk.bits1 : waitsOk impl_VoteOk.T1.2 impl_VoteOk.B1 = true := by kernel_rfl
set_option maxHeartbeats 8000000 in
set_option maxRecDepth 100000 in
theorem impl_VoteOk.calls (k : Nat) (a0_0 : Int) (a0_1 : Int) (a0_2 : Int) (a0_3 : Int) (a1 : Int) (r : Bool) (w : World) (h : impl_VoteOk.f k a0_0 a0_1 a0_2 a0_3 a1 = some r) (hT : TabOk w) :
  Calls Tryd.prog 25 #[.agg #[.int .i64 a0_0, .int .i64 a0_1, .int .i64 a0_2, .int .i64 a0_3], .int .i64 a1] w fun e w' => e = .returned (.bool r) ∧ Below w.heap.size w w' := by
 have HT := Aside0.mk hT
 clear hT
 have hu43 := Tryd.underlying43
 have HB := Aside0.mk (Below.refl w.heap.size w)
 have H : ((impl_Quorum.f a1).bind fun t151 => (if t151 > 0 then ((impl_within.f a0_2 0 (wrap64 (a1 - 1))).bind fun t152 => (if t152 = true then ((impl_isView.f a0_0).bind fun t153 => (if t153 = true then ((impl_isName.f a0_1).bind fun t154 => (if t154 = true then ((impl_ballot.f a0_0 a0_1).bind fun t155 => ((impl_Signed.f k a0_2 t155 a0_3).bind fun t156 => (some t156))) else (some false))) else (some false))) else (some false))) else (some false))) = some r := h
 clear h
 replace H := Option.bind_eq_some_iff.mp H
 obtain ⟨t151, A30, H⟩ := H
 replace H : (if t151 > 0 then ((impl_within.f a0_2 0 (wrap64 (a1 - 1))).bind fun t152 => (if t152 = true then ((impl_isView.f a0_0).bind fun t153 => (if t153 = true then ((impl_isName.f a0_1).bind fun t154 => (if t154 = true then ((impl_ballot.f a0_0 a0_1).bind fun t155 => ((impl_Signed.f k a0_2 t155 a0_3).bind fun t156 => (some t156))) else (some false))) else (some false))) else (some false))) else (some false)) = some r := H
 have A3 := Aside0.mk A30
 clear A30
 by_cases c4 : t151 > 0
 ·rw [if_pos c4] at H
  have c4b0 : decide (0 < t151) = true := decide_eq_true c4
  clear c4
  replace H := Option.bind_eq_some_iff.mp H
  obtain ⟨t152, A50, H⟩ := H
  replace H : (if t152 = true then ((impl_isView.f a0_0).bind fun t153 => (if t153 = true then ((impl_isName.f a0_1).bind fun t154 => (if t154 = true then ((impl_ballot.f a0_0 a0_1).bind fun t155 => ((impl_Signed.f k a0_2 t155 a0_3).bind fun t156 => (some t156))) else (some false))) else (some false))) else (some false)) = some r := H
  have A5 := Aside0.mk A50
  clear A50
  by_cases c6 : t152 = true
  ·subst c6
   have H1 : ((impl_isView.f a0_0).bind fun t153 => (if t153 = true then ((impl_isName.f a0_1).bind fun t154 => (if t154 = true then ((impl_ballot.f a0_0 a0_1).bind fun t155 => ((impl_Signed.f k a0_2 t155 a0_3).bind fun t156 => (some t156))) else (some false))) else (some false))) = some r := by rw [if_pos rfl] at H; exact H
   clear H
   have H := H1
   clear H1
   replace H := Option.bind_eq_some_iff.mp H
   obtain ⟨t153, A70, H⟩ := H
   replace H : (if t153 = true then ((impl_isName.f a0_1).bind fun t154 => (if t154 = true then ((impl_ballot.f a0_0 a0_1).bind fun t155 => ((impl_Signed.f k a0_2 t155 a0_3).bind fun t156 => (some t156))) else (some false))) else (some false)) = some r := H
   have A7 := Aside0.mk A70
   clear A70
   by_cases c8 : t153 = true
   ·subst c8
    have H1 : ((impl_isName.f a0_1).bind fun t154 => (if t154 = true then ((impl_ballot.f a0_0 a0_1).bind fun t155 => ((impl_Signed.f k a0_2 t155 a0_3).bind fun t156 => (some t156))) else (some false))) = some r := by rw [if_pos rfl] at H; exact H
    clear H
    have H := H1
    clear H1
    replace H := Option.bind_eq_some_iff.mp H
    obtain ⟨t154, A90, H⟩ := H
    replace H : (if t154 = true then ((impl_ballot.f a0_0 a0_1).bind fun t155 => ((impl_Signed.f k a0_2 t155 a0_3).bind fun t156 => (some t156))) else (some false)) = some r := H
    have A9 := Aside0.mk A90
    clear A90
    by_cases c10 : t154 = true
    ·subst c10
     have H1 : ((impl_ballot.f a0_0 a0_1).bind fun t155 => ((impl_Signed.f k a0_2 t155 a0_3).bind fun t156 => (some t156))) = some r := by rw [if_pos rfl] at H; exact H
     clear H
     have H := H1
     clear H1
     replace H := Option.bind_eq_some_iff.mp H
     obtain ⟨t155, A110, H⟩ := H
     replace H : ((impl_Signed.f k a0_2 t155 a0_3).bind fun t156 => (some t156)) = some r := H
     have A11 := Aside0.mk A110
     clear A110
     replace H := Option.bind_eq_some_iff.mp H
     obtain ⟨t156, A120, H⟩ := H
     replace H : (some t156) = some r := H
     have A12 := Aside0.mk A120
     clear A120
     obtain rfl := Option.some.inj H
     go_enter Tryd.func25, Tryd.ntmps25
     try go_wp2_with (first | ((with_reducible refine gate_dst (N := 2) rfl ?_); refine box_event ?hg (N := 2) ?hd (cs := #[.int .i64 a0_0, .int .i64 a0_1, .int .i64 a0_2, .int .i64 a0_3]) (t := 43) ?hr ?_; (case hd => rfl); (case hg => rfl); (case hr => first | (go_simp; done) | (go_simp; rfl)); intro gb150 hg w13 hbox hb; have n0_ := Aside0.mk (below_step d1 hb); have n1_ := Aside0.mk (hbox); have n2_ := Aside0.mk ((by rw [hg]; exact (below_size d1) : w.heap.size ≤ gb150)); have n3_ := Aside0.mk ((by rw [hg]; exact (below_size d1) : w.heap.size ≤ gb150)); clear HB; have HB := n0_; have BK150 := n1_; have GW150 := n2_; have GE150 := n3_; clear n0_ n1_ n2_ n3_; clear hb hbox hg))
     have n0_ := Aside0.mk (blk_drew BK150.out)
     have n1_ := Aside0.mk (below_drew1 HB.out)
     clear BK150
     clear HB
     have BK150 := n0_
     have HB := n1_
     clear n0_ n1_
     refine start_ (n := 33) (S := fun w' => w'.cell? ⟨gb150, 0, none⟩ = some (.int .i64 a0_0) ∧ w'.cell? ⟨gb150, 1, none⟩ = some (.int .i64 a0_1) ∧ w'.cell? ⟨gb150, 2, none⟩ = some (.int .i64 a0_2) ∧ w'.cell? ⟨gb150, 3, none⟩ = some (.int .i64 a0_3)) (ds := []) (bA 33 0) (by kernel_rfl) rfl rfl ⟨(blk_cell BK150.out 0).trans rfl, (blk_cell BK150.out 1).trans rfl, (blk_cell BK150.out 2).trans rfl, (blk_cell BK150.out 3).trans rfl⟩ (fun hHeld => ?_); refine with_tabW impl_VoteOk.tab1 impl_VoteOk.bits1 (fun HT_ HW_ => ?_)
     generalize w13.drew = w14 at BK150 HB hHeld ⊢
     refine pv (i := 0) (N := some 5) (bA 33 1) rfl rfl o0 ?_
     refine one_ (i := 1) (N := some 6) (bA 33 3) rfl rfl (one_of HT_.out (by kernel_rfl)) (by decide) (fun K hK => ?_)
     refine goes_ Tryd.func39 (by kernel_rfl) rfl #[.int .i64 a1] (by rfl) rfl rfl d0 ?_
     with_reducible refine (impl_Quorum.calls a1 t151 _ A3.out).mono ?_
     rintro e w' ⟨rfl, ⟨nd, rfl⟩⟩
     refine ⟨_, rfl, ?_⟩
     refine hK.out _ _ ⟨(blk_cell BK150.out 0).trans rfl, (blk_cell BK150.out 1).trans rfl, (blk_cell BK150.out 2).trans rfl, (blk_cell BK150.out 3).trans rfl⟩ (fun hHeld => ?_)
     clear hK K
     refine norm_ (a' := ?_) ?_ ?_
     rotate_left
     ·show Act.put _ (some 6) _ = _
      simp only [sp_]
      rfl
     refine pv (i := 2) (N := some 7) (bA 33 7) rfl rfl o0 ?_
     refine pv (i := 3) (N := some 8) (bA 33 15) rfl rfl o0 ?_
     refine pv (i := 4) (N := some 9) (bA 33 31) rfl rfl o0 ?_
     refine pv (i := 6) (N := some 11) (bA 33 95) rfl rfl o0 ?_
     refine pv (i := 7) (N := some 12) (bA 33 223) rfl rfl o0 ?_
     refine take_ (i := 5) (N := some 10) (v := ?_) (a' := ?_) (bA 33 255) rfl rfl o5 (fun _ _ _ h => h) (Or.inl ⟨(by rfl), ?_⟩) hHeld ?_ ?_
     rotate_left
     ·rintro w' ⟨s0, s1, s2, s3⟩
      go_simp
      with_reducible rfl
     rotate_left
     ·simp only [sp_]
      rfl
     refine one_ (i := 8) (N := some 13) (bA 33 511) rfl rfl (one_of HT_.out (by kernel_rfl)) (by decide) (fun K hK => ?_)
     refine goes_ Tryd.func63 (by kernel_rfl) rfl #[.int .i64 a0_2, .int .i64 0, .int .i64 (wrap64 (a1 - 1))] (by rfl) rfl rfl d0 ?_
     with_reducible refine (impl_within.calls a0_2 0 (wrap64 (a1 - 1)) true _ A5.out).mono ?_
     rintro e w' ⟨rfl, ⟨nd, rfl⟩⟩
     refine ⟨_, rfl, ?_⟩
     refine hK.out _ _ ⟨(blk_cell BK150.out 0).trans rfl, (blk_cell BK150.out 1).trans rfl, (blk_cell BK150.out 2).trans rfl, (blk_cell BK150.out 3).trans rfl⟩ (fun hHeld => ?_)
     clear hK K
     refine norm_ (a' := ?_) ?_ ?_
     rotate_left
     ·show Act.put _ (some 13) _ = _
      simp only [sp_]
      rfl
     refine pv (i := 9) (N := some 14) (bA 33 1023) rfl rfl o0 ?_
     refine pv (i := 10) (N := some 15) (bA 33 2047) rfl rfl o0 ?_
     refine pv (i := 11) (N := some 16) (bA 33 4095) rfl rfl o0 ?_
     refine take_ (i := 12) (N := some 17) (v := ?_) (a' := ?_) (bA 33 8191) rfl rfl o5 (fun _ _ _ h => h) (Or.inl ⟨(by rfl), ?_⟩) hHeld ?_ ?_
     rotate_left
     ·rintro w' ⟨s0, s1, s2, s3⟩
      go_simp
      with_reducible rfl
     rotate_left
     ·simp only [sp_]
      rfl
     refine one_ (i := 13) (N := some 18) (bA 33 16383) rfl rfl (one_of HT_.out (by kernel_rfl)) (by decide) (fun K hK => ?_)
     refine goes_ Tryd.func54 (by kernel_rfl) rfl #[.int .i64 a0_0] (by rfl) rfl rfl d0 ?_
     with_reducible refine (impl_isView.calls a0_0 true _ A7.out).mono ?_
     rintro e w' ⟨rfl, ⟨nd, rfl⟩⟩
     refine ⟨_, rfl, ?_⟩
     refine hK.out _ _ ⟨(blk_cell BK150.out 0).trans rfl, (blk_cell BK150.out 1).trans rfl, (blk_cell BK150.out 2).trans rfl, (blk_cell BK150.out 3).trans rfl⟩ (fun hHeld => ?_)
     clear hK K
     refine norm_ (a' := ?_) ?_ ?_
     rotate_left
     ·show Act.put _ (some 18) _ = _
      simp only [sp_]
      rfl
     refine pv (i := 14) (N := some 19) (bA 33 32767) rfl rfl o0 ?_
     refine pv (i := 15) (N := some 20) (bA 33 65535) rfl rfl o0 ?_
     refine pv (i := 16) (N := some 21) (bA 33 131071) rfl rfl o0 ?_
     refine take_ (i := 17) (N := some 22) (v := ?_) (a' := ?_) (bA 33 262143) rfl rfl o5 (fun _ _ _ h => h) (Or.inl ⟨(by rfl), ?_⟩) hHeld ?_ ?_
     rotate_left
     ·rintro w' ⟨s0, s1, s2, s3⟩
      go_simp
      with_reducible rfl
     rotate_left
     ·simp only [sp_]
      rfl
     refine one_ (i := 18) (N := some 23) (bA 33 524287) rfl rfl (one_of HT_.out (by kernel_rfl)) (by decide) (fun K hK => ?_)
     refine goes_ Tryd.func55 (by kernel_rfl) rfl #[.int .i64 a0_1] (by rfl) rfl rfl d0 ?_
     with_reducible refine (impl_isName.calls a0_1 true _ A9.out).mono ?_
     rintro e w' ⟨rfl, ⟨nd, rfl⟩⟩
     refine ⟨_, rfl, ?_⟩
     refine hK.out _ _ ⟨(blk_cell BK150.out 0).trans rfl, (blk_cell BK150.out 1).trans rfl, (blk_cell BK150.out 2).trans rfl, (blk_cell BK150.out 3).trans rfl⟩ (fun hHeld => ?_)
     clear hK K
     refine norm_ (a' := ?_) ?_ ?_
     rotate_left
     ·show Act.put _ (some 23) _ = _
      simp only [sp_]
      rfl
     refine pv (i := 19) (N := some 24) (bA 33 1048575) rfl rfl o0 ?_
     refine pv (i := 20) (N := some 25) (bA 33 2097151) rfl rfl o0 ?_
     refine pv (i := 21) (N := some 26) (bA 33 4194303) rfl rfl o0 ?_
     refine pv (i := 23) (N := some 28) (bA 33 12582911) rfl rfl o0 ?_
     refine pv (i := 25) (N := some 30) (bA 33 46137343) rfl rfl o0 ?_
     refine pv (i := 28) (N := some 33) (bA 33 314572799) rfl rfl o0 ?_
     refine take_ (i := 22) (N := some 27) (v := ?_) (a' := ?_) (bA 33 318767103) rfl rfl o5 (fun _ _ _ h => h) (Or.inl ⟨(by rfl), ?_⟩) hHeld ?_ ?_
     rotate_left
     ·rintro w' ⟨s0, s1, s2, s3⟩
      go_simp
      with_reducible rfl
     rotate_left
     ·simp only [sp_]
      rfl
     refine take_ (i := 24) (N := some 29) (v := ?_) (a' := ?_) (bA 33 335544319) rfl rfl o5 (fun _ _ _ h => h) (Or.inl ⟨(by rfl), ?_⟩) hHeld ?_ ?_
     rotate_left
     ·rintro w' ⟨s0, s1, s2, s3⟩
      go_simp
      with_reducible rfl
     rotate_left
     ·simp only [sp_]
      rfl
     refine take_ (i := 26) (N := some 31) (v := ?_) (a' := ?_) (bA 33 402653183) rfl rfl o5 (fun _ _ _ h => h) (Or.inl ⟨(by rfl), ?_⟩) hHeld ?_ ?_
     rotate_left
     ·rintro w' ⟨s0, s1, s2, s3⟩
      go_simp
      with_reducible rfl
     rotate_left
     ·simp only [sp_]
      rfl
     refine take_ (i := 29) (N := some 34) (v := ?_) (a' := ?_) (bA 33 939524095) rfl rfl o5 (fun _ _ _ h => h) (Or.inl ⟨(by rfl), ?_⟩) hHeld ?_ ?_
     rotate_left
     ·rintro w' ⟨s0, s1, s2, s3⟩
      go_simp
      with_reducible rfl
     rotate_left
     ·simp only [sp_]
      rfl
     refine one_ (i := 27) (N := some 32) (bA 33 1073741823) rfl rfl (one_of HT_.out (by kernel_rfl)) (by decide) (fun K hK => ?_)
     refine goes_ Tryd.func57 (by kernel_rfl) rfl #[.int .i64 a0_0, .int .i64 a0_1] (by rfl) rfl rfl d0 ?_
     with_reducible refine (impl_ballot.calls a0_0 a0_1 t155 _ A11.out (tab_at HT.out d6)).mono ?_
     rintro e w15 ⟨rfl, hb⟩
     refine ⟨_, rfl, ?_⟩
     have n0_ := Aside0.mk (blk_below (g := gb150) (o := .cells #[.int .i64 a0_0, .int .i64 a0_1, .int .i64 a0_2, .int .i64 a0_3] 43 (0, 0)) (by (with_reducible repeat (first | refine blk_drewN ?_ _ | refine blk_drew ?_ | refine blk_alloc ?_ _)); exact BK150.out) hb)
     have n1_ := Aside0.mk (below_step o28 hb)
     clear BK150
     clear HB
     have BK150 := n0_
     have HB := n1_
     clear n0_ n1_
     (try clear hb)
     (try clear hb2)
     (try clear hk)
     (try clear hi)
     refine hK.out _ _ ⟨(blk_cell BK150.out 0).trans rfl, (blk_cell BK150.out 1).trans rfl, (blk_cell BK150.out 2).trans rfl, (blk_cell BK150.out 3).trans rfl⟩ (fun hHeld => ?_)
     clear hK K
     refine norm_ (a' := ?_) ?_ ?_
     rotate_left
     ·show Act.put _ (some 32) _ = _
      simp only [sp_]
      rfl
     refine one_ (i := 30) (N := some 35) (bA 33 2147483647) rfl rfl (one_of HT_.out (by kernel_rfl)) (by decide) (fun K hK => ?_)
     refine goes_ Tryd.func64 (by kernel_rfl) rfl #[.int .i64 a0_2, .string t155, .int .i64 a0_3] (by rfl) rfl rfl d0 ?_
     with_reducible refine (impl_Signed.calls k a0_2 t155 a0_3 t156 _ A12.out (tab_at HT.out d6)).mono ?_
     rintro e w16 ⟨rfl, hb⟩
     refine ⟨_, rfl, ?_⟩
     have n0_ := Aside0.mk (blk_below (g := gb150) (o := .cells #[.int .i64 a0_0, .int .i64 a0_1, .int .i64 a0_2, .int .i64 a0_3] 43 (0, 0)) (by (with_reducible repeat (first | refine blk_drewN ?_ _ | refine blk_drew ?_ | refine blk_alloc ?_ _)); exact BK150.out) hb)
     have n1_ := Aside0.mk (below_step o28 hb)
     clear BK150
     clear HB
     have BK150 := n0_
     have HB := n1_
     clear n0_ n1_
     (try clear hb)
     (try clear hb2)
     (try clear hk)
     (try clear hi)
     refine hK.out _ _ ⟨(blk_cell BK150.out 0).trans rfl, (blk_cell BK150.out 1).trans rfl, (blk_cell BK150.out 2).trans rfl, (blk_cell BK150.out 3).trans rfl⟩ (fun hHeld => ?_)
     clear hK K
     refine norm_ (a' := ?_) ?_ ?_
     rotate_left
     ·show Act.put _ (some 35) _ = _
      simp only [sp_]
      rfl
     refine pv (i := 31) (N := some 36) (bA 33 4294967295) rfl rfl o0 ?_
     refine pv (i := 32) (N := some 4) (bA 33 8589934591) rfl rfl o0 ?_
     refine done_ (done_of HT_.out (by kernel_rfl)) ?_
     try go_wp2
     go_ret
     exact ⟨o2, o28⟩
    ·replace c10 := Bool.eq_false_iff.mpr c10
     subst c10
     have H1 : (some false) = some r := by rw [if_neg (show ¬ (false = true) by decide)] at H; exact H
     clear H
     have H := H1
     clear H1
     obtain rfl := Option.some.inj H
     go_enter Tryd.func25, Tryd.ntmps25
     try go_wp2_with (first | ((with_reducible refine gate_dst (N := 2) rfl ?_); refine box_event ?hg (N := 2) ?hd (cs := #[.int .i64 a0_0, .int .i64 a0_1, .int .i64 a0_2, .int .i64 a0_3]) (t := 43) ?hr ?_; (case hd => rfl); (case hg => rfl); (case hr => first | (go_simp; done) | (go_simp; rfl)); intro gb150 hg w17 hbox hb; have n0_ := Aside0.mk (below_step d1 hb); have n1_ := Aside0.mk (hbox); have n2_ := Aside0.mk ((by rw [hg]; exact (below_size d1) : w.heap.size ≤ gb150)); have n3_ := Aside0.mk ((by rw [hg]; exact (below_size d1) : w.heap.size ≤ gb150)); clear HB; have HB := n0_; have BK150 := n1_; have GW150 := n2_; have GE150 := n3_; clear n0_ n1_ n2_ n3_; clear hb hbox hg))
     have n0_ := Aside0.mk (blk_drew BK150.out)
     have n1_ := Aside0.mk (below_drew1 HB.out)
     clear BK150
     clear HB
     have BK150 := n0_
     have HB := n1_
     clear n0_ n1_
     refine start_ (n := 33) (S := fun w' => w'.cell? ⟨gb150, 0, none⟩ = some (.int .i64 a0_0) ∧ w'.cell? ⟨gb150, 1, none⟩ = some (.int .i64 a0_1) ∧ w'.cell? ⟨gb150, 2, none⟩ = some (.int .i64 a0_2) ∧ w'.cell? ⟨gb150, 3, none⟩ = some (.int .i64 a0_3)) (ds := []) (bA 33 0) (by kernel_rfl) rfl rfl ⟨(blk_cell BK150.out 0).trans rfl, (blk_cell BK150.out 1).trans rfl, (blk_cell BK150.out 2).trans rfl, (blk_cell BK150.out 3).trans rfl⟩ (fun hHeld => ?_); refine with_tabW impl_VoteOk.tab1 impl_VoteOk.bits1 (fun HT_ HW_ => ?_)
     generalize w17.drew = w18 at BK150 HB hHeld ⊢
     refine pv (i := 0) (N := some 5) (bA 33 1) rfl rfl o0 ?_
     refine one_ (i := 1) (N := some 6) (bA 33 3) rfl rfl (one_of HT_.out (by kernel_rfl)) (by decide) (fun K hK => ?_)
     refine goes_ Tryd.func39 (by kernel_rfl) rfl #[.int .i64 a1] (by rfl) rfl rfl d0 ?_
     with_reducible refine (impl_Quorum.calls a1 t151 _ A3.out).mono ?_
     rintro e w' ⟨rfl, ⟨nd, rfl⟩⟩
     refine ⟨_, rfl, ?_⟩
     refine hK.out _ _ ⟨(blk_cell BK150.out 0).trans rfl, (blk_cell BK150.out 1).trans rfl, (blk_cell BK150.out 2).trans rfl, (blk_cell BK150.out 3).trans rfl⟩ (fun hHeld => ?_)
     clear hK K
     refine norm_ (a' := ?_) ?_ ?_
     rotate_left
     ·show Act.put _ (some 6) _ = _
      simp only [sp_]
      rfl
     refine pv (i := 2) (N := some 7) (bA 33 7) rfl rfl o0 ?_
     refine pv (i := 3) (N := some 8) (bA 33 15) rfl rfl o0 ?_
     refine pv (i := 4) (N := some 9) (bA 33 31) rfl rfl o0 ?_
     refine pv (i := 6) (N := some 11) (bA 33 95) rfl rfl o0 ?_
     refine pv (i := 7) (N := some 12) (bA 33 223) rfl rfl o0 ?_
     refine take_ (i := 5) (N := some 10) (v := ?_) (a' := ?_) (bA 33 255) rfl rfl o5 (fun _ _ _ h => h) (Or.inl ⟨(by rfl), ?_⟩) hHeld ?_ ?_
     rotate_left
     ·rintro w' ⟨s0, s1, s2, s3⟩
      go_simp
      with_reducible rfl
     rotate_left
     ·simp only [sp_]
      rfl
     refine one_ (i := 8) (N := some 13) (bA 33 511) rfl rfl (one_of HT_.out (by kernel_rfl)) (by decide) (fun K hK => ?_)
     refine goes_ Tryd.func63 (by kernel_rfl) rfl #[.int .i64 a0_2, .int .i64 0, .int .i64 (wrap64 (a1 - 1))] (by rfl) rfl rfl d0 ?_
     with_reducible refine (impl_within.calls a0_2 0 (wrap64 (a1 - 1)) true _ A5.out).mono ?_
     rintro e w' ⟨rfl, ⟨nd, rfl⟩⟩
     refine ⟨_, rfl, ?_⟩
     refine hK.out _ _ ⟨(blk_cell BK150.out 0).trans rfl, (blk_cell BK150.out 1).trans rfl, (blk_cell BK150.out 2).trans rfl, (blk_cell BK150.out 3).trans rfl⟩ (fun hHeld => ?_)
     clear hK K
     refine norm_ (a' := ?_) ?_ ?_
     rotate_left
     ·show Act.put _ (some 13) _ = _
      simp only [sp_]
      rfl
     refine pv (i := 9) (N := some 14) (bA 33 1023) rfl rfl o0 ?_
     refine pv (i := 10) (N := some 15) (bA 33 2047) rfl rfl o0 ?_
     refine pv (i := 11) (N := some 16) (bA 33 4095) rfl rfl o0 ?_
     refine take_ (i := 12) (N := some 17) (v := ?_) (a' := ?_) (bA 33 8191) rfl rfl o5 (fun _ _ _ h => h) (Or.inl ⟨(by rfl), ?_⟩) hHeld ?_ ?_
     rotate_left
     ·rintro w' ⟨s0, s1, s2, s3⟩
      go_simp
      with_reducible rfl
     rotate_left
     ·simp only [sp_]
      rfl
     refine one_ (i := 13) (N := some 18) (bA 33 16383) rfl rfl (one_of HT_.out (by kernel_rfl)) (by decide) (fun K hK => ?_)
     refine goes_ Tryd.func54 (by kernel_rfl) rfl #[.int .i64 a0_0] (by rfl) rfl rfl d0 ?_
     with_reducible refine (impl_isView.calls a0_0 true _ A7.out).mono ?_
     rintro e w' ⟨rfl, ⟨nd, rfl⟩⟩
     refine ⟨_, rfl, ?_⟩
     refine hK.out _ _ ⟨(blk_cell BK150.out 0).trans rfl, (blk_cell BK150.out 1).trans rfl, (blk_cell BK150.out 2).trans rfl, (blk_cell BK150.out 3).trans rfl⟩ (fun hHeld => ?_)
     clear hK K
     refine norm_ (a' := ?_) ?_ ?_
     rotate_left
     ·show Act.put _ (some 18) _ = _
      simp only [sp_]
      rfl
     refine pv (i := 14) (N := some 19) (bA 33 32767) rfl rfl o0 ?_
     refine pv (i := 15) (N := some 20) (bA 33 65535) rfl rfl o0 ?_
     refine pv (i := 16) (N := some 21) (bA 33 131071) rfl rfl o0 ?_
     refine take_ (i := 17) (N := some 22) (v := ?_) (a' := ?_) (bA 33 262143) rfl rfl o5 (fun _ _ _ h => h) (Or.inl ⟨(by rfl), ?_⟩) hHeld ?_ ?_
     rotate_left
     ·rintro w' ⟨s0, s1, s2, s3⟩
      go_simp
      with_reducible rfl
     rotate_left
     ·simp only [sp_]
      rfl
     refine one_ (i := 18) (N := some 23) (bA 33 524287) rfl rfl (one_of HT_.out (by kernel_rfl)) (by decide) (fun K hK => ?_)
     refine goes_ Tryd.func55 (by kernel_rfl) rfl #[.int .i64 a0_1] (by rfl) rfl rfl d0 ?_
     with_reducible refine (impl_isName.calls a0_1 false _ A9.out).mono ?_
     rintro e w' ⟨rfl, ⟨nd, rfl⟩⟩
     refine ⟨_, rfl, ?_⟩
     refine hK.out _ _ ⟨(blk_cell BK150.out 0).trans rfl, (blk_cell BK150.out 1).trans rfl, (blk_cell BK150.out 2).trans rfl, (blk_cell BK150.out 3).trans rfl⟩ (fun hHeld => ?_)
     clear hK K
     refine norm_ (a' := ?_) ?_ ?_
     rotate_left
     ·show Act.put _ (some 23) _ = _
      simp only [sp_]
      rfl
     refine pv (i := 19) (N := some 24) (bA 33 1048575) rfl rfl o0 ?_
     refine pv (i := 20) (N := some 25) (bA 33 2097151) rfl rfl o0 ?_
     refine pu (i := 21) (N := some 26) (bA 33 4194303) rfl rfl o0 ?_
     refine pu (i := 22) (N := some 27) (bA 33 8388607) rfl rfl o0 ?_
     refine pu (i := 23) (N := some 28) (bA 33 16777215) rfl rfl o0 ?_
     refine pu (i := 24) (N := some 29) (bA 33 33554431) rfl rfl o0 ?_
     refine pu (i := 25) (N := some 30) (bA 33 67108863) rfl rfl o0 ?_
     refine pu (i := 26) (N := some 31) (bA 33 134217727) rfl rfl o0 ?_
     refine pu (i := 27) (N := some 32) (bA 33 268435455) rfl rfl o0 ?_
     refine pu (i := 28) (N := some 33) (bA 33 536870911) rfl rfl o0 ?_
     refine pu (i := 29) (N := some 34) (bA 33 1073741823) rfl rfl o0 ?_
     refine pu (i := 30) (N := some 35) (bA 33 2147483647) rfl rfl o0 ?_
     refine pv (i := 31) (N := some 36) (bA 33 4294967295) rfl rfl o0 ?_
     refine pv (i := 32) (N := some 4) (bA 33 8589934591) rfl rfl o0 ?_
     refine done_ (done_of HT_.out (by kernel_rfl)) ?_
     try go_wp2
     go_ret
     exact ⟨o2, o28⟩
   ·replace c8 := Bool.eq_false_iff.mpr c8
    subst c8
    have H1 : (some false) = some r := by rw [if_neg (show ¬ (false = true) by decide)] at H; exact H
    clear H
    have H := H1
    clear H1
    obtain rfl := Option.some.inj H
    go_enter Tryd.func25, Tryd.ntmps25
    try go_wp2_with (first | ((with_reducible refine gate_dst (N := 2) rfl ?_); refine box_event ?hg (N := 2) ?hd (cs := #[.int .i64 a0_0, .int .i64 a0_1, .int .i64 a0_2, .int .i64 a0_3]) (t := 43) ?hr ?_; (case hd => rfl); (case hg => rfl); (case hr => first | (go_simp; done) | (go_simp; rfl)); intro gb150 hg w19 hbox hb; have n0_ := Aside0.mk (below_step d1 hb); have n1_ := Aside0.mk (hbox); have n2_ := Aside0.mk ((by rw [hg]; exact (below_size d1) : w.heap.size ≤ gb150)); have n3_ := Aside0.mk ((by rw [hg]; exact (below_size d1) : w.heap.size ≤ gb150)); clear HB; have HB := n0_; have BK150 := n1_; have GW150 := n2_; have GE150 := n3_; clear n0_ n1_ n2_ n3_; clear hb hbox hg))
    have n0_ := Aside0.mk (blk_drew BK150.out)
    have n1_ := Aside0.mk (below_drew1 HB.out)
    clear BK150
    clear HB
    have BK150 := n0_
    have HB := n1_
    clear n0_ n1_
    refine start_ (n := 33) (S := fun w' => w'.cell? ⟨gb150, 0, none⟩ = some (.int .i64 a0_0) ∧ w'.cell? ⟨gb150, 1, none⟩ = some (.int .i64 a0_1) ∧ w'.cell? ⟨gb150, 2, none⟩ = some (.int .i64 a0_2) ∧ w'.cell? ⟨gb150, 3, none⟩ = some (.int .i64 a0_3)) (ds := []) (bA 33 0) (by kernel_rfl) rfl rfl ⟨(blk_cell BK150.out 0).trans rfl, (blk_cell BK150.out 1).trans rfl, (blk_cell BK150.out 2).trans rfl, (blk_cell BK150.out 3).trans rfl⟩ (fun hHeld => ?_); refine with_tabW impl_VoteOk.tab1 impl_VoteOk.bits1 (fun HT_ HW_ => ?_)
    generalize w19.drew = w20 at BK150 HB hHeld ⊢
    refine pv (i := 0) (N := some 5) (bA 33 1) rfl rfl o0 ?_
    refine one_ (i := 1) (N := some 6) (bA 33 3) rfl rfl (one_of HT_.out (by kernel_rfl)) (by decide) (fun K hK => ?_)
    refine goes_ Tryd.func39 (by kernel_rfl) rfl #[.int .i64 a1] (by rfl) rfl rfl d0 ?_
    with_reducible refine (impl_Quorum.calls a1 t151 _ A3.out).mono ?_
    rintro e w' ⟨rfl, ⟨nd, rfl⟩⟩
    refine ⟨_, rfl, ?_⟩
    refine hK.out _ _ ⟨(blk_cell BK150.out 0).trans rfl, (blk_cell BK150.out 1).trans rfl, (blk_cell BK150.out 2).trans rfl, (blk_cell BK150.out 3).trans rfl⟩ (fun hHeld => ?_)
    clear hK K
    refine norm_ (a' := ?_) ?_ ?_
    rotate_left
    ·show Act.put _ (some 6) _ = _
     simp only [sp_]
     rfl
    refine pv (i := 2) (N := some 7) (bA 33 7) rfl rfl o0 ?_
    refine pv (i := 3) (N := some 8) (bA 33 15) rfl rfl o0 ?_
    refine pv (i := 4) (N := some 9) (bA 33 31) rfl rfl o0 ?_
    refine pv (i := 6) (N := some 11) (bA 33 95) rfl rfl o0 ?_
    refine pv (i := 7) (N := some 12) (bA 33 223) rfl rfl o0 ?_
    refine take_ (i := 5) (N := some 10) (v := ?_) (a' := ?_) (bA 33 255) rfl rfl o5 (fun _ _ _ h => h) (Or.inl ⟨(by rfl), ?_⟩) hHeld ?_ ?_
    rotate_left
    ·rintro w' ⟨s0, s1, s2, s3⟩
     go_simp
     with_reducible rfl
    rotate_left
    ·simp only [sp_]
     rfl
    refine one_ (i := 8) (N := some 13) (bA 33 511) rfl rfl (one_of HT_.out (by kernel_rfl)) (by decide) (fun K hK => ?_)
    refine goes_ Tryd.func63 (by kernel_rfl) rfl #[.int .i64 a0_2, .int .i64 0, .int .i64 (wrap64 (a1 - 1))] (by rfl) rfl rfl d0 ?_
    with_reducible refine (impl_within.calls a0_2 0 (wrap64 (a1 - 1)) true _ A5.out).mono ?_
    rintro e w' ⟨rfl, ⟨nd, rfl⟩⟩
    refine ⟨_, rfl, ?_⟩
    refine hK.out _ _ ⟨(blk_cell BK150.out 0).trans rfl, (blk_cell BK150.out 1).trans rfl, (blk_cell BK150.out 2).trans rfl, (blk_cell BK150.out 3).trans rfl⟩ (fun hHeld => ?_)
    clear hK K
    refine norm_ (a' := ?_) ?_ ?_
    rotate_left
    ·show Act.put _ (some 13) _ = _
     simp only [sp_]
     rfl
    refine pv (i := 9) (N := some 14) (bA 33 1023) rfl rfl o0 ?_
    refine pv (i := 10) (N := some 15) (bA 33 2047) rfl rfl o0 ?_
    refine pv (i := 11) (N := some 16) (bA 33 4095) rfl rfl o0 ?_
    refine take_ (i := 12) (N := some 17) (v := ?_) (a' := ?_) (bA 33 8191) rfl rfl o5 (fun _ _ _ h => h) (Or.inl ⟨(by rfl), ?_⟩) hHeld ?_ ?_
    rotate_left
    ·rintro w' ⟨s0, s1, s2, s3⟩
     go_simp
     with_reducible rfl
    rotate_left
    ·simp only [sp_]
     rfl
    refine one_ (i := 13) (N := some 18) (bA 33 16383) rfl rfl (one_of HT_.out (by kernel_rfl)) (by decide) (fun K hK => ?_)
    refine goes_ Tryd.func54 (by kernel_rfl) rfl #[.int .i64 a0_0] (by rfl) rfl rfl d0 ?_
    with_reducible refine (impl_isView.calls a0_0 false _ A7.out).mono ?_
    rintro e w' ⟨rfl, ⟨nd, rfl⟩⟩
    refine ⟨_, rfl, ?_⟩
    refine hK.out _ _ ⟨(blk_cell BK150.out 0).trans rfl, (blk_cell BK150.out 1).trans rfl, (blk_cell BK150.out 2).trans rfl, (blk_cell BK150.out 3).trans rfl⟩ (fun hHeld => ?_)
    clear hK K
    refine norm_ (a' := ?_) ?_ ?_
    rotate_left
    ·show Act.put _ (some 18) _ = _
     simp only [sp_]
     rfl
    refine pv (i := 14) (N := some 19) (bA 33 32767) rfl rfl o0 ?_
    refine pv (i := 15) (N := some 20) (bA 33 65535) rfl rfl o0 ?_
    refine pu (i := 16) (N := some 21) (bA 33 131071) rfl rfl o0 ?_
    refine pu (i := 17) (N := some 22) (bA 33 262143) rfl rfl o0 ?_
    refine pu (i := 18) (N := some 23) (bA 33 524287) rfl rfl o0 ?_
    refine pv (i := 19) (N := some 24) (bA 33 1048575) rfl rfl o0 ?_
    refine pv (i := 20) (N := some 25) (bA 33 2097151) rfl rfl o0 ?_
    refine pu (i := 21) (N := some 26) (bA 33 4194303) rfl rfl o0 ?_
    refine pu (i := 22) (N := some 27) (bA 33 8388607) rfl rfl o0 ?_
    refine pu (i := 23) (N := some 28) (bA 33 16777215) rfl rfl o0 ?_
    refine pu (i := 24) (N := some 29) (bA 33 33554431) rfl rfl o0 ?_
    refine pu (i := 25) (N := some 30) (bA 33 67108863) rfl rfl o0 ?_
    refine pu (i := 26) (N := some 31) (bA 33 134217727) rfl rfl o0 ?_
    refine pu (i := 27) (N := some 32) (bA 33 268435455) rfl rfl o0 ?_
    refine pu (i := 28) (N := some 33) (bA 33 536870911) rfl rfl o0 ?_
    refine pu (i := 29) (N := some 34) (bA 33 1073741823) rfl rfl o0 ?_
    refine pu (i := 30) (N := some 35) (bA 33 2147483647) rfl rfl o0 ?_
    refine pv (i := 31) (N := some 36) (bA 33 4294967295) rfl rfl o0 ?_
    refine pv (i := 32) (N := some 4) (bA 33 8589934591) rfl rfl o0 ?_
    refine done_ (done_of HT_.out (by kernel_rfl)) ?_
    try go_wp2
    go_ret
    exact ⟨o2, o28⟩
  ·replace c6 := Bool.eq_false_iff.mpr c6
   subst c6
   have H1 : (some false) = some r := by rw [if_neg (show ¬ (false = true) by decide)] at H; exact H
   clear H
   have H := H1
   clear H1
   obtain rfl := Option.some.inj H
   go_enter Tryd.func25, Tryd.ntmps25
   try go_wp2_with (first | ((with_reducible refine gate_dst (N := 2) rfl ?_); refine box_event ?hg (N := 2) ?hd (cs := #[.int .i64 a0_0, .int .i64 a0_1, .int .i64 a0_2, .int .i64 a0_3]) (t := 43) ?hr ?_; (case hd => rfl); (case hg => rfl); (case hr => first | (go_simp; done) | (go_simp; rfl)); intro gb150 hg w21 hbox hb; have n0_ := Aside0.mk (below_step d1 hb); have n1_ := Aside0.mk (hbox); have n2_ := Aside0.mk ((by rw [hg]; exact (below_size d1) : w.heap.size ≤ gb150)); have n3_ := Aside0.mk ((by rw [hg]; exact (below_size d1) : w.heap.size ≤ gb150)); clear HB; have HB := n0_; have BK150 := n1_; have GW150 := n2_; have GE150 := n3_; clear n0_ n1_ n2_ n3_; clear hb hbox hg))
   have n0_ := Aside0.mk (blk_drew BK150.out)
   have n1_ := Aside0.mk (below_drew1 HB.out)
   clear BK150
   clear HB
   have BK150 := n0_
   have HB := n1_
   clear n0_ n1_
   refine start_ (n := 33) (S := fun w' => w'.cell? ⟨gb150, 0, none⟩ = some (.int .i64 a0_0) ∧ w'.cell? ⟨gb150, 1, none⟩ = some (.int .i64 a0_1) ∧ w'.cell? ⟨gb150, 2, none⟩ = some (.int .i64 a0_2) ∧ w'.cell? ⟨gb150, 3, none⟩ = some (.int .i64 a0_3)) (ds := []) (bA 33 0) (by kernel_rfl) rfl rfl ⟨(blk_cell BK150.out 0).trans rfl, (blk_cell BK150.out 1).trans rfl, (blk_cell BK150.out 2).trans rfl, (blk_cell BK150.out 3).trans rfl⟩ (fun hHeld => ?_); refine with_tabW impl_VoteOk.tab1 impl_VoteOk.bits1 (fun HT_ HW_ => ?_)
   generalize w21.drew = w22 at BK150 HB hHeld ⊢
   refine pv (i := 0) (N := some 5) (bA 33 1) rfl rfl o0 ?_
   refine one_ (i := 1) (N := some 6) (bA 33 3) rfl rfl (one_of HT_.out (by kernel_rfl)) (by decide) (fun K hK => ?_)
   refine goes_ Tryd.func39 (by kernel_rfl) rfl #[.int .i64 a1] (by rfl) rfl rfl d0 ?_
   with_reducible refine (impl_Quorum.calls a1 t151 _ A3.out).mono ?_
   rintro e w' ⟨rfl, ⟨nd, rfl⟩⟩
   refine ⟨_, rfl, ?_⟩
   refine hK.out _ _ ⟨(blk_cell BK150.out 0).trans rfl, (blk_cell BK150.out 1).trans rfl, (blk_cell BK150.out 2).trans rfl, (blk_cell BK150.out 3).trans rfl⟩ (fun hHeld => ?_)
   clear hK K
   refine norm_ (a' := ?_) ?_ ?_
   rotate_left
   ·show Act.put _ (some 6) _ = _
    simp only [sp_]
    rfl
   refine pv (i := 2) (N := some 7) (bA 33 7) rfl rfl o0 ?_
   refine pv (i := 3) (N := some 8) (bA 33 15) rfl rfl o0 ?_
   refine pv (i := 4) (N := some 9) (bA 33 31) rfl rfl o0 ?_
   refine pv (i := 6) (N := some 11) (bA 33 95) rfl rfl o0 ?_
   refine pv (i := 7) (N := some 12) (bA 33 223) rfl rfl o0 ?_
   refine take_ (i := 5) (N := some 10) (v := ?_) (a' := ?_) (bA 33 255) rfl rfl o5 (fun _ _ _ h => h) (Or.inl ⟨(by rfl), ?_⟩) hHeld ?_ ?_
   rotate_left
   ·rintro w' ⟨s0, s1, s2, s3⟩
    go_simp
    with_reducible rfl
   rotate_left
   ·simp only [sp_]
    rfl
   refine one_ (i := 8) (N := some 13) (bA 33 511) rfl rfl (one_of HT_.out (by kernel_rfl)) (by decide) (fun K hK => ?_)
   refine goes_ Tryd.func63 (by kernel_rfl) rfl #[.int .i64 a0_2, .int .i64 0, .int .i64 (wrap64 (a1 - 1))] (by rfl) rfl rfl d0 ?_
   with_reducible refine (impl_within.calls a0_2 0 (wrap64 (a1 - 1)) false _ A5.out).mono ?_
   rintro e w' ⟨rfl, ⟨nd, rfl⟩⟩
   refine ⟨_, rfl, ?_⟩
   refine hK.out _ _ ⟨(blk_cell BK150.out 0).trans rfl, (blk_cell BK150.out 1).trans rfl, (blk_cell BK150.out 2).trans rfl, (blk_cell BK150.out 3).trans rfl⟩ (fun hHeld => ?_)
   clear hK K
   refine norm_ (a' := ?_) ?_ ?_
   rotate_left
   ·show Act.put _ (some 13) _ = _
    simp only [sp_]
    rfl
   refine pv (i := 9) (N := some 14) (bA 33 1023) rfl rfl o0 ?_
   refine pv (i := 10) (N := some 15) (bA 33 2047) rfl rfl o0 ?_
   refine pu (i := 11) (N := some 16) (bA 33 4095) rfl rfl o0 ?_
   refine pu (i := 12) (N := some 17) (bA 33 8191) rfl rfl o0 ?_
   refine pu (i := 13) (N := some 18) (bA 33 16383) rfl rfl o0 ?_
   refine pv (i := 14) (N := some 19) (bA 33 32767) rfl rfl o0 ?_
   refine pv (i := 15) (N := some 20) (bA 33 65535) rfl rfl o0 ?_
   refine pu (i := 16) (N := some 21) (bA 33 131071) rfl rfl o0 ?_
   refine pu (i := 17) (N := some 22) (bA 33 262143) rfl rfl o0 ?_
   refine pu (i := 18) (N := some 23) (bA 33 524287) rfl rfl o0 ?_
   refine pv (i := 19) (N := some 24) (bA 33 1048575) rfl rfl o0 ?_
   refine pv (i := 20) (N := some 25) (bA 33 2097151) rfl rfl o0 ?_
   refine pu (i := 21) (N := some 26) (bA 33 4194303) rfl rfl o0 ?_
   refine pu (i := 22) (N := some 27) (bA 33 8388607) rfl rfl o0 ?_
   refine pu (i := 23) (N := some 28) (bA 33 16777215) rfl rfl o0 ?_
   refine pu (i := 24) (N := some 29) (bA 33 33554431) rfl rfl o0 ?_
   refine pu (i := 25) (N := some 30) (bA 33 67108863) rfl rfl o0 ?_
   refine pu (i := 26) (N := some 31) (bA 33 134217727) rfl rfl o0 ?_
   refine pu (i := 27) (N := some 32) (bA 33 268435455) rfl rfl o0 ?_
   refine pu (i := 28) (N := some 33) (bA 33 536870911) rfl rfl o0 ?_
   refine pu (i := 29) (N := some 34) (bA 33 1073741823) rfl rfl o0 ?_
   refine pu (i := 30) (N := some 35) (bA 33 2147483647) rfl rfl o0 ?_
   refine pv (i := 31) (N := some 36) (bA 33 4294967295) rfl rfl o0 ?_
   refine pv (i := 32) (N := some 4) (bA 33 8589934591) rfl rfl o0 ?_
   refine done_ (done_of HT_.out (by kernel_rfl)) ?_
   try go_wp2
   go_ret
   exact ⟨o2, o28⟩
 ·rw [if_neg c4] at H
  have c4b0 : decide (0 < t151) = false := decide_eq_false c4
  clear c4
  obtain rfl := Option.some.inj H
  go_enter Tryd.func25, Tryd.ntmps25
  try go_wp2_with (first | ((with_reducible refine gate_dst (N := 2) rfl ?_); refine box_event ?hg (N := 2) ?hd (cs := #[.int .i64 a0_0, .int .i64 a0_1, .int .i64 a0_2, .int .i64 a0_3]) (t := 43) ?hr ?_; (case hd => rfl); (case hg => rfl); (case hr => first | (go_simp; done) | (go_simp; rfl)); intro gb150 hg w23 hbox hb; have n0_ := Aside0.mk (below_step d1 hb); have n1_ := Aside0.mk (hbox); have n2_ := Aside0.mk ((by rw [hg]; exact (below_size d1) : w.heap.size ≤ gb150)); have n3_ := Aside0.mk ((by rw [hg]; exact (below_size d1) : w.heap.size ≤ gb150)); clear HB; have HB := n0_; have BK150 := n1_; have GW150 := n2_; have GE150 := n3_; clear n0_ n1_ n2_ n3_; clear hb hbox hg))
  have n0_ := Aside0.mk (blk_drew BK150.out)
  have n1_ := Aside0.mk (below_drew1 HB.out)
  clear BK150
  clear HB
  have BK150 := n0_
  have HB := n1_
  clear n0_ n1_
  refine start_ (n := 33) (S := fun w' => True) (ds := []) (bA 33 0) (by kernel_rfl) rfl rfl trivial (fun hHeld => ?_); refine with_tabW impl_VoteOk.tab1 impl_VoteOk.bits1 (fun HT_ HW_ => ?_)
  generalize w23.drew = w24 at BK150 HB hHeld ⊢
  refine pv (i := 0) (N := some 5) (bA 33 1) rfl rfl o0 ?_
  refine one_ (i := 1) (N := some 6) (bA 33 3) rfl rfl (one_of HT_.out (by kernel_rfl)) (by decide) (fun K hK => ?_)
  refine goes_ Tryd.func39 (by kernel_rfl) rfl #[.int .i64 a1] (by rfl) rfl rfl d0 ?_
  with_reducible refine (impl_Quorum.calls a1 t151 _ A3.out).mono ?_
  rintro e w' ⟨rfl, ⟨nd, rfl⟩⟩
  refine ⟨_, rfl, ?_⟩
  refine hK.out _ _ trivial (fun hHeld => ?_)
  clear hK K
  refine norm_ (a' := ?_) ?_ ?_
  rotate_left
  ·show Act.put _ (some 6) _ = _
   simp only [sp_]
   rfl
  refine pv (i := 2) (N := some 7) (bA 33 7) rfl rfl o0 ?_
  refine pv (i := 3) (N := some 8) (bA 33 15) rfl rfl o0 ?_
  refine pu (i := 4) (N := some 9) (bA 33 31) rfl rfl o0 ?_
  refine pu (i := 5) (N := some 10) (bA 33 63) rfl rfl o0 ?_
  refine pu (i := 6) (N := some 11) (bA 33 127) rfl rfl o0 ?_
  refine pu (i := 7) (N := some 12) (bA 33 255) rfl rfl o0 ?_
  refine pu (i := 8) (N := some 13) (bA 33 511) rfl rfl o0 ?_
  refine pv (i := 9) (N := some 14) (bA 33 1023) rfl rfl o0 ?_
  refine pv (i := 10) (N := some 15) (bA 33 2047) rfl rfl o0 ?_
  refine pu (i := 11) (N := some 16) (bA 33 4095) rfl rfl o0 ?_
  refine pu (i := 12) (N := some 17) (bA 33 8191) rfl rfl o0 ?_
  refine pu (i := 13) (N := some 18) (bA 33 16383) rfl rfl o0 ?_
  refine pv (i := 14) (N := some 19) (bA 33 32767) rfl rfl o0 ?_
  refine pv (i := 15) (N := some 20) (bA 33 65535) rfl rfl o0 ?_
  refine pu (i := 16) (N := some 21) (bA 33 131071) rfl rfl o0 ?_
  refine pu (i := 17) (N := some 22) (bA 33 262143) rfl rfl o0 ?_
  refine pu (i := 18) (N := some 23) (bA 33 524287) rfl rfl o0 ?_
  refine pv (i := 19) (N := some 24) (bA 33 1048575) rfl rfl o0 ?_
  refine pv (i := 20) (N := some 25) (bA 33 2097151) rfl rfl o0 ?_
  refine pu (i := 21) (N := some 26) (bA 33 4194303) rfl rfl o0 ?_
  refine pu (i := 22) (N := some 27) (bA 33 8388607) rfl rfl o0 ?_
  refine pu (i := 23) (N := some 28) (bA 33 16777215) rfl rfl o0 ?_
  refine pu (i := 24) (N := some 29) (bA 33 33554431) rfl rfl o0 ?_
  refine pu (i := 25) (N := some 30) (bA 33 67108863) rfl rfl o0 ?_
  refine pu (i := 26) (N := some 31) (bA 33 134217727) rfl rfl o0 ?_
  refine pu (i := 27) (N := some 32) (bA 33 268435455) rfl rfl o0 ?_
  refine pu (i := 28) (N := some 33) (bA 33 536870911) rfl rfl o0 ?_
  refine pu (i := 29) (N := some 34) (bA 33 1073741823) rfl rfl o0 ?_
  refine pu (i := 30) (N := some 35) (bA 33 2147483647) rfl rfl o0 ?_
  refine pv (i := 31) (N := some 36) (bA 33 4294967295) rfl rfl o0 ?_
  refine pv (i := 32) (N := some 4) (bA 33 8589934591) rfl rfl o0 ?_
  refine done_ (done_of HT_.out (by kernel_rfl)) ?_
  try go_wp2
  go_ret
  exact ⟨o2, o28⟩

end Go.Proofs.YtokfpmkhfindmaaDoor.PFnProofs
