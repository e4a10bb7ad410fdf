-- Written by a program of this session (wip/tools/pp.py over the kit's print).
import Derived.Test.YtokfpmkhfindmaaDoorPFnProofsx0
import Derived.Test.YtokfpmkhfindmaaDoorPFnProofsx1
import Derived.Test.YtokfpmkhfindmaaDoorPFnProofsx2
namespace Go.Proofs.YtokfpmkhfindmaaDoor.PFnProofs
open Go.RowKit Go.Proofs.YtokfpmkhfindmaaDoorW.PrintWords Go.Proofs.YtokfpmkhfindmaaDoorW.PrintLast Go.Proofs.YtokfpmkhfindmaaDoorW.PrintMore
attribute [local go_sem] max2_int min2_int max_two min_two max_three min_three max_four min_four
attribute [local go_sem high] str_gtr str_leq str_geq
set_option linter.unusedVariables false
set_option linter.unusedSimpArgs false

attribute [local go_sem high] eqA43
/-! ### spec_VoteOk: function 26 -/
def spec_VoteOk.f (k : Nat) (a0_0 : Int) (a0_1 : Int) (a0_2 : Int) (a0_3 : Int) (a1 : Int) : Option (Bool) := (spec_l15Servers.f a1).bind fun t116 => (if t116 = true then ((spec_l1In.f a0_2 0 (wrap64 (a1 - 1))).bind fun t117 => (if t117 = true then ((spec_l1In.f a0_0 1 100000).bind fun t118 => (if t118 = true then ((spec_l15Name.f a0_1).bind fun t119 => (if t119 = true then ((spec_l15Voted.f k a0_2 a0_0 a0_1).bind fun bt120 => (some (bt120.1 == a0_0 && (bt120.2.1 == a0_1 && (bt120.2.2.1 == a0_2 && (bt120.2.2.2 == a0_3)))))) else (some false))) else (some false))) else (some false))) else (some false))
theorem spec_VoteOk.mono : ∀ a0 a1 a2 a3 a4 k, LeO (spec_VoteOk.f k a0 a1 a2 a3 a4) (spec_VoteOk.f (k + 1) a0 a1 a2 a3 a4) := by
 intro a0 a1 a2 a3 a4 k
 unfold spec_VoteOk.f
 repeat' first
   | (with_reducible exact spec_l15Voted.mono _ _ _ _)
   | (with_reducible exact LeO.refl _)
   | (with_reducible exact LeO.none _)
   | (with_reducible refine LeO.ite ?_ ?_)
   | (with_reducible refine LeO.bind ?_ (fun _ => ?_))
   | exact spec_l15Voted.mono _ _ _ _
   | exact LeO.none _
   | refine LeO.ite ?_ ?_
   | refine LeO.bind ?_ (fun _ => ?_)
def spec_VoteOk.T1 : Bool × List (List Nat × List Nat) := (true, [([], []), ([0], [0]), ([1, 1], [1]), ([2], [2]), ([3, 2], [2, 3]), ([2], [2]), ([5, 2], [2, 5]), ([4, 6, 2, 2], [2, 4, 6]), ([2, 7], [2, 7]), ([8, 7], [8]), ([9], [9]), ([10, 9], [9, 10]), ([11, 9, 9], [9, 11]), ([9, 12], [9, 12]), ([13, 12], [13]), ([14], [14]), ([15, 14], [14, 15]), ([16, 14, 14], [14, 16]), ([14, 17], [14, 17]), ([18, 17], [18]), ([19], [19]), ([20, 19], [19, 20]), ([19], [19]), ([22, 19], [19, 22]), ([19], [19]), ([24, 19], [19, 24]), ([21, 23, 25, 19, 19], [19, 21, 23, 25]), ([19], [19]), ([26, 27, 19], [19, 26, 27]), ([19, 28], [19, 28]), ([29, 26, 0, 1, 2, 3, 4, 5, 6, 7, 8, 9, 10, 11, 12, 13, 14, 15, 16, 17, 18, 19, 20, 21, 22, 23, 24, 25, 26, 27, 28, 29], [29])])
def spec_VoteOk.B1 : List Nat := [0, 1, 3, 7, 15, 7, 39, 127, 255, 511, 1023, 2047, 4095, 8191, 16383, 32767, 65535, 131071, 262143, 524287, 1048575, 2097151, 1048575, 5242879, 1048575, 17825791, 67108863, 1048575, 268435455, 536870911, 1073741823]
theorem spec_VoteOk.tab1 : rtab .any (opsOf Tryd.f26 1) = spec_VoteOk.T1 := by kernel_rfl
theorem spec_VoteOk.bits1 : waitsOk spec_VoteOk.T1.2 spec_VoteOk.B1 = true := by kernel_rfl
set_option maxHeartbeats 8000000 in
set_option maxRecDepth 100000 in
theorem spec_VoteOk.calls (k : Nat) (a0_0 : Int) (a0_1 : Int) (a0_2 : Int) (a0_3 : Int) (a1 : Int) (r : Bool) (w : World) (h : spec_VoteOk.f k a0_0 a0_1 a0_2 a0_3 a1 = some r) :
  Calls Tryd.prog 26 #[.agg #[.int .i64 a0_0, .int .i64 a0_1, .int .i64 a0_2, .int .i64 a0_3], .int .i64 a1] w fun e w' => e = .returned (.bool r) ∧ Below w.heap.size w w' := by
 have hu43 := Tryd.underlying43
 have HB := Aside0.mk (Below.refl w.heap.size w)
 have H : ((spec_l15Servers.f a1).bind fun t116 => (if t116 = true then ((spec_l1In.f a0_2 0 (wrap64 (a1 - 1))).bind fun t117 => (if t117 = true then ((spec_l1In.f a0_0 1 100000).bind fun t118 => (if t118 = true then ((spec_l15Name.f a0_1).bind fun t119 => (if t119 = true then ((spec_l15Voted.f k a0_2 a0_0 a0_1).bind fun bt120 => (some (bt120.1 == a0_0 && (bt120.2.1 == a0_1 && (bt120.2.2.1 == a0_2 && (bt120.2.2.2 == a0_3)))))) else (some false))) else (some false))) else (some false))) else (some false))) = some r := h
 clear h
 replace H := Option.bind_eq_some_iff.mp H
 obtain ⟨t116, A30, H⟩ := H
 replace H : (if t116 = true then ((spec_l1In.f a0_2 0 (wrap64 (a1 - 1))).bind fun t117 => (if t117 = true then ((spec_l1In.f a0_0 1 100000).bind fun t118 => (if t118 = true then ((spec_l15Name.f a0_1).bind fun t119 => (if t119 = true then ((spec_l15Voted.f k a0_2 a0_0 a0_1).bind fun bt120 => (some (bt120.1 == a0_0 && (bt120.2.1 == a0_1 && (bt120.2.2.1 == a0_2 && (bt120.2.2.2 == a0_3)))))) else (some false))) else (some false))) else (some false))) else (some false)) = some r := H
 have A3 := Aside0.mk A30
 clear A30
 by_cases c4 : t116 = true
 ·subst c4
  have H1 : ((spec_l1In.f a0_2 0 (wrap64 (a1 - 1))).bind fun t117 => (if t117 = true then ((spec_l1In.f a0_0 1 100000).bind fun t118 => (if t118 = true then ((spec_l15Name.f a0_1).bind fun t119 => (if t119 = true then ((spec_l15Voted.f k a0_2 a0_0 a0_1).bind fun bt120 => (some (bt120.1 == a0_0 && (bt120.2.1 == a0_1 && (bt120.2.2.1 == a0_2 && (bt120.2.2.2 == a0_3)))))) else (some false))) else (some false))) else (some false))) = some r := by rw [if_pos rfl] at H; exact H
  clear H
  have H := H1
  clear H1
  replace H := Option.bind_eq_some_iff.mp H
  obtain ⟨t117, A50, H⟩ := H
  replace H : (if t117 = true then ((spec_l1In.f a0_0 1 100000).bind fun t118 => (if t118 = true then ((spec_l15Name.f a0_1).bind fun t119 => (if t119 = true then ((spec_l15Voted.f k a0_2 a0_0 a0_1).bind fun bt120 => (some (bt120.1 == a0_0 && (bt120.2.1 == a0_1 && (bt120.2.2.1 == a0_2 && (bt120.2.2.2 == a0_3)))))) else (some false))) else (some false))) else (some false)) = some r := H
  have A5 := Aside0.mk A50
  clear A50
  by_cases c6 : t117 = true
  ·subst c6
   have H1 : ((spec_l1In.f a0_0 1 100000).bind fun t118 => (if t118 = true then ((spec_l15Name.f a0_1).bind fun t119 => (if t119 = true then ((spec_l15Voted.f k a0_2 a0_0 a0_1).bind fun bt120 => (some (bt120.1 == a0_0 && (bt120.2.1 == a0_1 && (bt120.2.2.1 == a0_2 && (bt120.2.2.2 == a0_3)))))) else (some false))) else (some false))) = some r := by rw [if_pos rfl] at H; exact H
   clear H
   have H := H1
   clear H1
   replace H := Option.bind_eq_some_iff.mp H
   obtain ⟨t118, A70, H⟩ := H
   replace H : (if t118 = true then ((spec_l15Name.f a0_1).bind fun t119 => (if t119 = true then ((spec_l15Voted.f k a0_2 a0_0 a0_1).bind fun bt120 => (some (bt120.1 == a0_0 && (bt120.2.1 == a0_1 && (bt120.2.2.1 == a0_2 && (bt120.2.2.2 == a0_3)))))) else (some false))) else (some false)) = some r := H
   have A7 := Aside0.mk A70
   clear A70
   by_cases c8 : t118 = true
   ·subst c8
    have H1 : ((spec_l15Name.f a0_1).bind fun t119 => (if t119 = true then ((spec_l15Voted.f k a0_2 a0_0 a0_1).bind fun bt120 => (some (bt120.1 == a0_0 && (bt120.2.1 == a0_1 && (bt120.2.2.1 == a0_2 && (bt120.2.2.2 == a0_3)))))) else (some false))) = some r := by rw [if_pos rfl] at H; exact H
    clear H
    have H := H1
    clear H1
    replace H := Option.bind_eq_some_iff.mp H
    obtain ⟨t119, A90, H⟩ := H
    replace H : (if t119 = true then ((spec_l15Voted.f k a0_2 a0_0 a0_1).bind fun bt120 => (some (bt120.1 == a0_0 && (bt120.2.1 == a0_1 && (bt120.2.2.1 == a0_2 && (bt120.2.2.2 == a0_3)))))) else (some false)) = some r := H
    have A9 := Aside0.mk A90
    clear A90
    by_cases c10 : t119 = true
    ·subst c10
     have H1 : ((spec_l15Voted.f k a0_2 a0_0 a0_1).bind fun bt120 => (some (bt120.1 == a0_0 && (bt120.2.1 == a0_1 && (bt120.2.2.1 == a0_2 && (bt120.2.2.2 == a0_3)))))) = some r := by rw [if_pos rfl] at H; exact H
     clear H
     have H := H1
     clear H1
     replace H := Option.bind_eq_some_iff.mp H
     obtain ⟨⟨t120, t121, t122, t123⟩, A110, H⟩ := H
     replace H : (some (t120 == a0_0 && (t121 == a0_1 && (t122 == a0_2 && (t123 == a0_3))))) = some r := H
     have A11 := Aside0.mk A110
     clear A110
     obtain rfl := Option.some.inj H
     go_enter Tryd.func26, Tryd.ntmps26
     try go_wp2_with (first | ((with_reducible refine gate_dst (N := 2) rfl ?_); refine box_event ?hg (N := 2) ?hd (cs := #[.int .i64 a0_0, .int .i64 a0_1, .int .i64 a0_2, .int .i64 a0_3]) (t := 43) ?hr ?_; (case hd => rfl); (case hg => rfl); (case hr => first | (go_simp; done) | (go_simp; rfl)); intro gb115 hg w12 hbox hb; have n0_ := Aside0.mk (below_step d1 hb); have n1_ := Aside0.mk (hbox); have n2_ := Aside0.mk ((by rw [hg]; exact (below_size d1) : w.heap.size ≤ gb115)); have n3_ := Aside0.mk ((by rw [hg]; exact (below_size d1) : w.heap.size ≤ gb115)); clear HB; have HB := n0_; have BK115 := n1_; have GW115 := n2_; have GE115 := n3_; clear n0_ n1_ n2_ n3_; clear hb hbox hg))
     have n0_ := Aside0.mk (blk_drew BK115.out)
     have n1_ := Aside0.mk (below_drew1 HB.out)
     clear BK115
     clear HB
     have BK115 := n0_
     have HB := n1_
     clear n0_ n1_
     refine start_ (n := 31) (S := fun w' => w'.cell? ⟨gb115, 0, none⟩ = some (.int .i64 a0_0) ∧ w'.cell? ⟨gb115, 1, none⟩ = some (.int .i64 a0_1) ∧ w'.cell? ⟨gb115, 2, none⟩ = some (.int .i64 a0_2) ∧ w'.cell? ⟨gb115, 3, none⟩ = some (.int .i64 a0_3)) (ds := []) (bA 31 0) (by kernel_rfl) rfl rfl ⟨(blk_cell BK115.out 0).trans rfl, (blk_cell BK115.out 1).trans rfl, (blk_cell BK115.out 2).trans rfl, (blk_cell BK115.out 3).trans rfl⟩ (fun hHeld => ?_); refine with_tabW spec_VoteOk.tab1 spec_VoteOk.bits1 (fun HT_ HW_ => ?_)
     generalize w12.drew = w13 at BK115 HB hHeld ⊢
     refine pv (i := 0) (N := some 5) (bA 31 1) rfl rfl o0 ?_
     refine one_ (i := 1) (N := some 6) (bA 31 3) rfl rfl (one_of HT_.out (by kernel_rfl)) (by decide) (fun K hK => ?_)
     refine goes_ Tryd.func37 (by kernel_rfl) rfl #[.int .i64 a1] (by rfl) rfl rfl d0 ?_
     with_reducible refine (spec_l15Servers.calls a1 true _ A3.out).mono ?_
     rintro e w' ⟨rfl, ⟨nd, rfl⟩⟩
     refine ⟨_, rfl, ?_⟩
     refine hK.out _ _ ⟨(blk_cell BK115.out 0).trans rfl, (blk_cell BK115.out 1).trans rfl, (blk_cell BK115.out 2).trans rfl, (blk_cell BK115.out 3).trans rfl⟩ (fun hHeld => ?_)
     clear hK K
     refine norm_ (a' := ?_) ?_ ?_
     rotate_left
     ·show Act.put _ (some 6) _ = _
      simp only [sp_]
      rfl
     refine pv (i := 2) (N := some 7) (bA 31 7) rfl rfl o0 ?_
     refine pv (i := 3) (N := some 8) (bA 31 15) rfl rfl o0 ?_
     refine pv (i := 5) (N := some 10) (bA 31 47) rfl rfl o0 ?_
     refine pv (i := 6) (N := some 11) (bA 31 111) rfl rfl o0 ?_
     refine take_ (i := 4) (N := some 9) (v := ?_) (a' := ?_) (bA 31 127) rfl rfl o5 (fun _ _ _ h => h) (Or.inl ⟨(by rfl), ?_⟩) hHeld ?_ ?_
     rotate_left
     ·rintro w' ⟨s0, s1, s2, s3⟩
      go_simp
      with_reducible rfl
     rotate_left
     ·simp only [sp_]
      rfl
     refine one_ (i := 7) (N := some 12) (bA 31 255) rfl rfl (one_of HT_.out (by kernel_rfl)) (by decide) (fun K hK => ?_)
     refine goes_ Tryd.func61 (by kernel_rfl) rfl #[.int .i64 a0_2, .int .i64 0, .int .i64 (wrap64 (a1 - 1))] (by rfl) rfl rfl d0 ?_
     with_reducible refine (spec_l1In.calls a0_2 0 (wrap64 (a1 - 1)) true _ A5.out).mono ?_
     rintro e w' ⟨rfl, ⟨nd, rfl⟩⟩
     refine ⟨_, rfl, ?_⟩
     refine hK.out _ _ ⟨(blk_cell BK115.out 0).trans rfl, (blk_cell BK115.out 1).trans rfl, (blk_cell BK115.out 2).trans rfl, (blk_cell BK115.out 3).trans rfl⟩ (fun hHeld => ?_)
     clear hK K
     refine norm_ (a' := ?_) ?_ ?_
     rotate_left
     ·show Act.put _ (some 12) _ = _
      simp only [sp_]
      rfl
     refine pv (i := 8) (N := some 13) (bA 31 511) rfl rfl o0 ?_
     refine pv (i := 9) (N := some 14) (bA 31 1023) rfl rfl o0 ?_
     refine pv (i := 10) (N := some 15) (bA 31 2047) rfl rfl o0 ?_
     refine take_ (i := 11) (N := some 16) (v := ?_) (a' := ?_) (bA 31 4095) rfl rfl o5 (fun _ _ _ h => h) (Or.inl ⟨(by rfl), ?_⟩) hHeld ?_ ?_
     rotate_left
     ·rintro w' ⟨s0, s1, s2, s3⟩
      go_simp
      with_reducible rfl
     rotate_left
     ·simp only [sp_]
      rfl
     refine one_ (i := 12) (N := some 17) (bA 31 8191) rfl rfl (one_of HT_.out (by kernel_rfl)) (by decide) (fun K hK => ?_)
     refine goes_ Tryd.func61 (by kernel_rfl) rfl #[.int .i64 a0_0, .int .i64 1, .int .i64 100000] (by rfl) rfl rfl d0 ?_
     with_reducible refine (spec_l1In.calls a0_0 1 100000 true _ A7.out).mono ?_
     rintro e w' ⟨rfl, ⟨nd, rfl⟩⟩
     refine ⟨_, rfl, ?_⟩
     refine hK.out _ _ ⟨(blk_cell BK115.out 0).trans rfl, (blk_cell BK115.out 1).trans rfl, (blk_cell BK115.out 2).trans rfl, (blk_cell BK115.out 3).trans rfl⟩ (fun hHeld => ?_)
     clear hK K
     refine norm_ (a' := ?_) ?_ ?_
     rotate_left
     ·show Act.put _ (some 17) _ = _
      simp only [sp_]
      rfl
     refine pv (i := 13) (N := some 18) (bA 31 16383) rfl rfl o0 ?_
     refine pv (i := 14) (N := some 19) (bA 31 32767) rfl rfl o0 ?_
     refine pv (i := 15) (N := some 20) (bA 31 65535) rfl rfl o0 ?_
     refine take_ (i := 16) (N := some 21) (v := ?_) (a' := ?_) (bA 31 131071) rfl rfl o5 (fun _ _ _ h => h) (Or.inl ⟨(by rfl), ?_⟩) hHeld ?_ ?_
     rotate_left
     ·rintro w' ⟨s0, s1, s2, s3⟩
      go_simp
      with_reducible rfl
     rotate_left
     ·simp only [sp_]
      rfl
     refine one_ (i := 17) (N := some 22) (bA 31 262143) rfl rfl (one_of HT_.out (by kernel_rfl)) (by decide) (fun K hK => ?_)
     refine goes_ Tryd.func62 (by kernel_rfl) rfl #[.int .i64 a0_1] (by rfl) rfl rfl d0 ?_
     with_reducible refine (spec_l15Name.calls a0_1 true _ A9.out).mono ?_
     rintro e w' ⟨rfl, ⟨nd, rfl⟩⟩
     refine ⟨_, rfl, ?_⟩
     refine hK.out _ _ ⟨(blk_cell BK115.out 0).trans rfl, (blk_cell BK115.out 1).trans rfl, (blk_cell BK115.out 2).trans rfl, (blk_cell BK115.out 3).trans rfl⟩ (fun hHeld => ?_)
     clear hK K
     refine norm_ (a' := ?_) ?_ ?_
     rotate_left
     ·show Act.put _ (some 22) _ = _
      simp only [sp_]
      rfl
     refine pv (i := 18) (N := some 23) (bA 31 524287) rfl rfl o0 ?_
     refine pv (i := 19) (N := some 24) (bA 31 1048575) rfl rfl o0 ?_
     refine pv (i := 20) (N := some 25) (bA 31 2097151) rfl rfl o0 ?_
     refine pv (i := 22) (N := some 27) (bA 31 6291455) rfl rfl o0 ?_
     refine pv (i := 24) (N := some 29) (bA 31 23068671) rfl rfl o0 ?_
     refine take_ (i := 21) (N := some 26) (v := ?_) (a' := ?_) (bA 31 25165823) rfl rfl o5 (fun _ _ _ h => h) (Or.inl ⟨(by rfl), ?_⟩) hHeld ?_ ?_
     rotate_left
     ·rintro w' ⟨s0, s1, s2, s3⟩
      go_simp
      with_reducible rfl
     rotate_left
     ·simp only [sp_]
      rfl
     refine take_ (i := 23) (N := some 28) (v := ?_) (a' := ?_) (bA 31 33554431) rfl rfl o5 (fun _ _ _ h => h) (Or.inl ⟨(by rfl), ?_⟩) hHeld ?_ ?_
     rotate_left
     ·rintro w' ⟨s0, s1, s2, s3⟩
      go_simp
      with_reducible rfl
     rotate_left
     ·simp only [sp_]
      rfl
     refine take_ (i := 25) (N := some 30) (v := ?_) (a' := ?_) (bA 31 67108863) rfl rfl o5 (fun _ _ _ h => h) (Or.inl ⟨(by rfl), ?_⟩) hHeld ?_ ?_
     rotate_left
     ·rintro w' ⟨s0, s1, s2, s3⟩
      go_simp
      with_reducible rfl
     rotate_left
     ·simp only [sp_]
      rfl
     refine take_ (i := 27) (N := some 32) (v := ?_) (a' := ?_) (bA 31 201326591) rfl rfl o5 (fun _ _ _ h => h) (Or.inl ⟨(by rfl), ?_⟩) hHeld ?_ ?_
     rotate_left
     ·rintro w' ⟨s0, s1, s2, s3⟩
      go_simp
      with_reducible rfl
     rotate_left
     ·simp only [sp_]
      rfl
     refine one_ (i := 26) (N := some 31) (bA 31 268435455) rfl rfl (one_of HT_.out (by kernel_rfl)) (by decide) (fun K hK => ?_)
     refine goes_ Tryd.func65 (by kernel_rfl) rfl #[.int .i64 a0_2, .int .i64 a0_0, .int .i64 a0_1] (by rfl) rfl rfl d0 ?_
     with_reducible refine (spec_l15Voted.calls k a0_2 a0_0 a0_1 t120 t121 t122 t123 _ A11.out).mono ?_
     rintro e w14 ⟨rfl, hb⟩
     refine ⟨_, rfl, ?_⟩
     have n0_ := Aside0.mk (blk_below (g := gb115) (o := .cells #[.int .i64 a0_0, .int .i64 a0_1, .int .i64 a0_2, .int .i64 a0_3] 43 (0, 0)) (by (with_reducible repeat (first | refine blk_drewN ?_ _ | refine blk_drew ?_ | refine blk_alloc ?_ _)); exact BK115.out) hb)
     have n1_ := Aside0.mk (below_step o32 hb)
     clear BK115
     clear HB
     have BK115 := n0_
     have HB := n1_
     clear n0_ n1_
     (try clear hb)
     (try clear hb2)
     (try clear hk)
     (try clear hi)
     refine hK.out _ _ ⟨(blk_cell BK115.out 0).trans rfl, (blk_cell BK115.out 1).trans rfl, (blk_cell BK115.out 2).trans rfl, (blk_cell BK115.out 3).trans rfl⟩ (fun hHeld => ?_)
     clear hK K
     refine norm_ (a' := ?_) ?_ ?_
     rotate_left
     ·show Act.put _ (some 31) _ = _
      simp only [sp_]
      rfl
     refine pv (i := 28) (N := some 33) (bA 31 536870911) rfl rfl o0 ?_
     refine pv (i := 29) (N := some 34) (bA 31 1073741823) rfl rfl o0 ?_
     refine pv (i := 30) (N := some 4) (bA 31 2147483647) rfl rfl o0 ?_
     refine done_ (done_of HT_.out (by kernel_rfl)) ?_
     try go_wp2
     go_ret
     exact ⟨o2, o32⟩
    ·replace c10 := Bool.eq_false_iff.mpr c10
     subst c10
     have H1 : (some false) = some r := by rw [if_neg (show ¬ (false = true) by decide)] at H; exact H
     clear H
     have H := H1
     clear H1
     obtain rfl := Option.some.inj H
     go_enter Tryd.func26, Tryd.ntmps26
     try go_wp2_with (first | ((with_reducible refine gate_dst (N := 2) rfl ?_); refine box_event ?hg (N := 2) ?hd (cs := #[.int .i64 a0_0, .int .i64 a0_1, .int .i64 a0_2, .int .i64 a0_3]) (t := 43) ?hr ?_; (case hd => rfl); (case hg => rfl); (case hr => first | (go_simp; done) | (go_simp; rfl)); intro gb115 hg w15 hbox hb; have n0_ := Aside0.mk (below_step d1 hb); have n1_ := Aside0.mk (hbox); have n2_ := Aside0.mk ((by rw [hg]; exact (below_size d1) : w.heap.size ≤ gb115)); have n3_ := Aside0.mk ((by rw [hg]; exact (below_size d1) : w.heap.size ≤ gb115)); clear HB; have HB := n0_; have BK115 := n1_; have GW115 := n2_; have GE115 := n3_; clear n0_ n1_ n2_ n3_; clear hb hbox hg))
     have n0_ := Aside0.mk (blk_drew BK115.out)
     have n1_ := Aside0.mk (below_drew1 HB.out)
     clear BK115
     clear HB
     have BK115 := n0_
     have HB := n1_
     clear n0_ n1_
     refine start_ (n := 31) (S := fun w' => w'.cell? ⟨gb115, 0, none⟩ = some (.int .i64 a0_0) ∧ w'.cell? ⟨gb115, 1, none⟩ = some (.int .i64 a0_1) ∧ w'.cell? ⟨gb115, 2, none⟩ = some (.int .i64 a0_2) ∧ w'.cell? ⟨gb115, 3, none⟩ = some (.int .i64 a0_3)) (ds := []) (bA 31 0) (by kernel_rfl) rfl rfl ⟨(blk_cell BK115.out 0).trans rfl, (blk_cell BK115.out 1).trans rfl, (blk_cell BK115.out 2).trans rfl, (blk_cell BK115.out 3).trans rfl⟩ (fun hHeld => ?_); refine with_tabW spec_VoteOk.tab1 spec_VoteOk.bits1 (fun HT_ HW_ => ?_)
     generalize w15.drew = w16 at BK115 HB hHeld ⊢
     refine pv (i := 0) (N := some 5) (bA 31 1) rfl rfl o0 ?_
     refine one_ (i := 1) (N := some 6) (bA 31 3) rfl rfl (one_of HT_.out (by kernel_rfl)) (by decide) (fun K hK => ?_)
     refine goes_ Tryd.func37 (by kernel_rfl) rfl #[.int .i64 a1] (by rfl) rfl rfl d0 ?_
     with_reducible refine (spec_l15Servers.calls a1 true _ A3.out).mono ?_
     rintro e w' ⟨rfl, ⟨nd, rfl⟩⟩
     refine ⟨_, rfl, ?_⟩
     refine hK.out _ _ ⟨(blk_cell BK115.out 0).trans rfl, (blk_cell BK115.out 1).trans rfl, (blk_cell BK115.out 2).trans rfl, (blk_cell BK115.out 3).trans rfl⟩ (fun hHeld => ?_)
     clear hK K
     refine norm_ (a' := ?_) ?_ ?_
     rotate_left
     ·show Act.put _ (some 6) _ = _
      simp only [sp_]
      rfl
     refine pv (i := 2) (N := some 7) (bA 31 7) rfl rfl o0 ?_
     refine pv (i := 3) (N := some 8) (bA 31 15) rfl rfl o0 ?_
     refine pv (i := 5) (N := some 10) (bA 31 47) rfl rfl o0 ?_
     refine pv (i := 6) (N := some 11) (bA 31 111) rfl rfl o0 ?_
     refine take_ (i := 4) (N := some 9) (v := ?_) (a' := ?_) (bA 31 127) rfl rfl o5 (fun _ _ _ h => h) (Or.inl ⟨(by rfl), ?_⟩) hHeld ?_ ?_
     rotate_left
     ·rintro w' ⟨s0, s1, s2, s3⟩
      go_simp
      with_reducible rfl
     rotate_left
     ·simp only [sp_]
      rfl
     refine one_ (i := 7) (N := some 12) (bA 31 255) rfl rfl (one_of HT_.out (by kernel_rfl)) (by decide) (fun K hK => ?_)
     refine goes_ Tryd.func61 (by kernel_rfl) rfl #[.int .i64 a0_2, .int .i64 0, .int .i64 (wrap64 (a1 - 1))] (by rfl) rfl rfl d0 ?_
     with_reducible refine (spec_l1In.calls a0_2 0 (wrap64 (a1 - 1)) true _ A5.out).mono ?_
     rintro e w' ⟨rfl, ⟨nd, rfl⟩⟩
     refine ⟨_, rfl, ?_⟩
     refine hK.out _ _ ⟨(blk_cell BK115.out 0).trans rfl, (blk_cell BK115.out 1).trans rfl, (blk_cell BK115.out 2).trans rfl, (blk_cell BK115.out 3).trans rfl⟩ (fun hHeld => ?_)
     clear hK K
     refine norm_ (a' := ?_) ?_ ?_
     rotate_left
     ·show Act.put _ (some 12) _ = _
      simp only [sp_]
      rfl
     refine pv (i := 8) (N := some 13) (bA 31 511) rfl rfl o0 ?_
     refine pv (i := 9) (N := some 14) (bA 31 1023) rfl rfl o0 ?_
     refine pv (i := 10) (N := some 15) (bA 31 2047) rfl rfl o0 ?_
     refine take_ (i := 11) (N := some 16) (v := ?_) (a' := ?_) (bA 31 4095) rfl rfl o5 (fun _ _ _ h => h) (Or.inl ⟨(by rfl), ?_⟩) hHeld ?_ ?_
     rotate_left
     ·rintro w' ⟨s0, s1, s2, s3⟩
      go_simp
      with_reducible rfl
     rotate_left
     ·simp only [sp_]
      rfl
     refine one_ (i := 12) (N := some 17) (bA 31 8191) rfl rfl (one_of HT_.out (by kernel_rfl)) (by decide) (fun K hK => ?_)
     refine goes_ Tryd.func61 (by kernel_rfl) rfl #[.int .i64 a0_0, .int .i64 1, .int .i64 100000] (by rfl) rfl rfl d0 ?_
     with_reducible refine (spec_l1In.calls a0_0 1 100000 true _ A7.out).mono ?_
     rintro e w' ⟨rfl, ⟨nd, rfl⟩⟩
     refine ⟨_, rfl, ?_⟩
     refine hK.out _ _ ⟨(blk_cell BK115.out 0).trans rfl, (blk_cell BK115.out 1).trans rfl, (blk_cell BK115.out 2).trans rfl, (blk_cell BK115.out 3).trans rfl⟩ (fun hHeld => ?_)
     clear hK K
     refine norm_ (a' := ?_) ?_ ?_
     rotate_left
     ·show Act.put _ (some 17) _ = _
      simp only [sp_]
      rfl
     refine pv (i := 13) (N := some 18) (bA 31 16383) rfl rfl o0 ?_
     refine pv (i := 14) (N := some 19) (bA 31 32767) rfl rfl o0 ?_
     refine pv (i := 15) (N := some 20) (bA 31 65535) rfl rfl o0 ?_
     refine take_ (i := 16) (N := some 21) (v := ?_) (a' := ?_) (bA 31 131071) rfl rfl o5 (fun _ _ _ h => h) (Or.inl ⟨(by rfl), ?_⟩) hHeld ?_ ?_
     rotate_left
     ·rintro w' ⟨s0, s1, s2, s3⟩
      go_simp
      with_reducible rfl
     rotate_left
     ·simp only [sp_]
      rfl
     refine one_ (i := 17) (N := some 22) (bA 31 262143) rfl rfl (one_of HT_.out (by kernel_rfl)) (by decide) (fun K hK => ?_)
     refine goes_ Tryd.func62 (by kernel_rfl) rfl #[.int .i64 a0_1] (by rfl) rfl rfl d0 ?_
     with_reducible refine (spec_l15Name.calls a0_1 false _ A9.out).mono ?_
     rintro e w' ⟨rfl, ⟨nd, rfl⟩⟩
     refine ⟨_, rfl, ?_⟩
     refine hK.out _ _ ⟨(blk_cell BK115.out 0).trans rfl, (blk_cell BK115.out 1).trans rfl, (blk_cell BK115.out 2).trans rfl, (blk_cell BK115.out 3).trans rfl⟩ (fun hHeld => ?_)
     clear hK K
     refine norm_ (a' := ?_) ?_ ?_
     rotate_left
     ·show Act.put _ (some 22) _ = _
      simp only [sp_]
      rfl
     refine pv (i := 18) (N := some 23) (bA 31 524287) rfl rfl o0 ?_
     refine pv (i := 19) (N := some 24) (bA 31 1048575) rfl rfl o0 ?_
     refine pu (i := 20) (N := some 25) (bA 31 2097151) rfl rfl o0 ?_
     refine pu (i := 21) (N := some 26) (bA 31 4194303) rfl rfl o0 ?_
     refine pu (i := 22) (N := some 27) (bA 31 8388607) rfl rfl o0 ?_
     refine pu (i := 23) (N := some 28) (bA 31 16777215) rfl rfl o0 ?_
     refine pu (i := 24) (N := some 29) (bA 31 33554431) rfl rfl o0 ?_
     refine pu (i := 25) (N := some 30) (bA 31 67108863) rfl rfl o0 ?_
     refine pu (i := 26) (N := some 31) (bA 31 134217727) rfl rfl o0 ?_
     refine pu (i := 27) (N := some 32) (bA 31 268435455) rfl rfl o0 ?_
     refine pu (i := 28) (N := some 33) (bA 31 536870911) rfl rfl o0 ?_
     refine pv (i := 29) (N := some 34) (bA 31 1073741823) rfl rfl o0 ?_
     refine pv (i := 30) (N := some 4) (bA 31 2147483647) rfl rfl o0 ?_
     refine done_ (done_of HT_.out (by kernel_rfl)) ?_
     try go_wp2
     go_ret
     exact ⟨o2, o32⟩
   ·replace c8 := Bool.eq_false_iff.mpr c8
    subst c8
    have H1 : (some false) = some r := by rw [if_neg (show ¬ (false = true) by decide)] at H; exact H
    clear H
    have H := H1
    clear H1
    obtain rfl := Option.some.inj H
    go_enter Tryd.func26, Tryd.ntmps26
    try go_wp2_with (first | ((with_reducible refine gate_dst (N := 2) rfl ?_); refine box_event ?hg (N := 2) ?hd (cs := #[.int .i64 a0_0, .int .i64 a0_1, .int .i64 a0_2, .int .i64 a0_3]) (t := 43) ?hr ?_; (case hd => rfl); (case hg => rfl); (case hr => first | (go_simp; done) | (go_simp; rfl)); intro gb115 hg w17 hbox hb; have n0_ := Aside0.mk (below_step d1 hb); have n1_ := Aside0.mk (hbox); have n2_ := Aside0.mk ((by rw [hg]; exact (below_size d1) : w.heap.size ≤ gb115)); have n3_ := Aside0.mk ((by rw [hg]; exact (below_size d1) : w.heap.size ≤ gb115)); clear HB; have HB := n0_; have BK115 := n1_; have GW115 := n2_; have GE115 := n3_; clear n0_ n1_ n2_ n3_; clear hb hbox hg))
    have n0_ := Aside0.mk (blk_drew BK115.out)
    have n1_ := Aside0.mk (below_drew1 HB.out)
    clear BK115
    clear HB
    have BK115 := n0_
    have HB := n1_
    clear n0_ n1_
    refine start_ (n := 31) (S := fun w' => w'.cell? ⟨gb115, 0, none⟩ = some (.int .i64 a0_0) ∧ w'.cell? ⟨gb115, 1, none⟩ = some (.int .i64 a0_1) ∧ w'.cell? ⟨gb115, 2, none⟩ = some (.int .i64 a0_2) ∧ w'.cell? ⟨gb115, 3, none⟩ = some (.int .i64 a0_3)) (ds := []) (bA 31 0) (by kernel_rfl) rfl rfl ⟨(blk_cell BK115.out 0).trans rfl, (blk_cell BK115.out 1).trans rfl, (blk_cell BK115.out 2).trans rfl, (blk_cell BK115.out 3).trans rfl⟩ (fun hHeld => ?_); refine with_tabW spec_VoteOk.tab1 spec_VoteOk.bits1 (fun HT_ HW_ => ?_)
    generalize w17.drew = w18 at BK115 HB hHeld ⊢
    refine pv (i := 0) (N := some 5) (bA 31 1) rfl rfl o0 ?_
    refine one_ (i := 1) (N := some 6) (bA 31 3) rfl rfl (one_of HT_.out (by kernel_rfl)) (by decide) (fun K hK => ?_)
    refine goes_ Tryd.func37 (by kernel_rfl) rfl #[.int .i64 a1] (by rfl) rfl rfl d0 ?_
    with_reducible refine (spec_l15Servers.calls a1 true _ A3.out).mono ?_
    rintro e w' ⟨rfl, ⟨nd, rfl⟩⟩
    refine ⟨_, rfl, ?_⟩
    refine hK.out _ _ ⟨(blk_cell BK115.out 0).trans rfl, (blk_cell BK115.out 1).trans rfl, (blk_cell BK115.out 2).trans rfl, (blk_cell BK115.out 3).trans rfl⟩ (fun hHeld => ?_)
    clear hK K
    refine norm_ (a' := ?_) ?_ ?_
    rotate_left
    ·show Act.put _ (some 6) _ = _
     simp only [sp_]
     rfl
    refine pv (i := 2) (N := some 7) (bA 31 7) rfl rfl o0 ?_
    refine pv (i := 3) (N := some 8) (bA 31 15) rfl rfl o0 ?_
    refine pv (i := 5) (N := some 10) (bA 31 47) rfl rfl o0 ?_
    refine pv (i := 6) (N := some 11) (bA 31 111) rfl rfl o0 ?_
    refine take_ (i := 4) (N := some 9) (v := ?_) (a' := ?_) (bA 31 127) rfl rfl o5 (fun _ _ _ h => h) (Or.inl ⟨(by rfl), ?_⟩) hHeld ?_ ?_
    rotate_left
    ·rintro w' ⟨s0, s1, s2, s3⟩
     go_simp
     with_reducible rfl
    rotate_left
    ·simp only [sp_]
     rfl
    refine one_ (i := 7) (N := some 12) (bA 31 255) rfl rfl (one_of HT_.out (by kernel_rfl)) (by decide) (fun K hK => ?_)
    refine goes_ Tryd.func61 (by kernel_rfl) rfl #[.int .i64 a0_2, .int .i64 0, .int .i64 (wrap64 (a1 - 1))] (by rfl) rfl rfl d0 ?_
    with_reducible refine (spec_l1In.calls a0_2 0 (wrap64 (a1 - 1)) true _ A5.out).mono ?_
    rintro e w' ⟨rfl, ⟨nd, rfl⟩⟩
    refine ⟨_, rfl, ?_⟩
    refine hK.out _ _ ⟨(blk_cell BK115.out 0).trans rfl, (blk_cell BK115.out 1).trans rfl, (blk_cell BK115.out 2).trans rfl, (blk_cell BK115.out 3).trans rfl⟩ (fun hHeld => ?_)
    clear hK K
    refine norm_ (a' := ?_) ?_ ?_
    rotate_left
    ·show Act.put _ (some 12) _ = _
     simp only [sp_]
     rfl
    refine pv (i := 8) (N := some 13) (bA 31 511) rfl rfl o0 ?_
    refine pv (i := 9) (N := some 14) (bA 31 1023) rfl rfl o0 ?_
    refine pv (i := 10) (N := some 15) (bA 31 2047) rfl rfl o0 ?_
    refine take_ (i := 11) (N := some 16) (v := ?_) (a' := ?_) (bA 31 4095) rfl rfl o5 (fun _ _ _ h => h) (Or.inl ⟨(by rfl), ?_⟩) hHeld ?_ ?_
    rotate_left
    ·rintro w' ⟨s0, s1, s2, s3⟩
     go_simp
     with_reducible rfl
    rotate_left
    ·simp only [sp_]
     rfl
    refine one_ (i := 12) (N := some 17) (bA 31 8191) rfl rfl (one_of HT_.out (by kernel_rfl)) (by decide) (fun K hK => ?_)
    refine goes_ Tryd.func61 (by kernel_rfl) rfl #[.int .i64 a0_0, .int .i64 1, .int .i64 100000] (by rfl) rfl rfl d0 ?_
    with_reducible refine (spec_l1In.calls a0_0 1 100000 false _ A7.out).mono ?_
    rintro e w' ⟨rfl, ⟨nd, rfl⟩⟩
    refine ⟨_, rfl, ?_⟩
    refine hK.out _ _ ⟨(blk_cell BK115.out 0).trans rfl, (blk_cell BK115.out 1).trans rfl, (blk_cell BK115.out 2).trans rfl, (blk_cell BK115.out 3).trans rfl⟩ (fun hHeld => ?_)
    clear hK K
    refine norm_ (a' := ?_) ?_ ?_
    rotate_left
    ·show Act.put _ (some 17) _ = _
     simp only [sp_]
     rfl
    refine pv (i := 13) (N := some 18) (bA 31 16383) rfl rfl o0 ?_
    refine pv (i := 14) (N := some 19) (bA 31 32767) rfl rfl o0 ?_
    refine pu (i := 15) (N := some 20) (bA 31 65535) rfl rfl o0 ?_
    refine pu (i := 16) (N := some 21) (bA 31 131071) rfl rfl o0 ?_
    refine pu (i := 17) (N := some 22) (bA 31 262143) rfl rfl o0 ?_
    refine pv (i := 18) (N := some 23) (bA 31 524287) rfl rfl o0 ?_
    refine pv (i := 19) (N := some 24) (bA 31 1048575) rfl rfl o0 ?_
    refine pu (i := 20) (N := some 25) (bA 31 2097151) rfl rfl o0 ?_
    refine pu (i := 21) (N := some 26) (bA 31 4194303) rfl rfl o0 ?_
    refine pu (i := 22) (N := some 27) (bA 31 8388607) rfl rfl o0 ?_
    refine pu (i := 23) (N := some 28) (bA 31 16777215) rfl rfl o0 ?_
    refine pu (i := 24) (N := some 29) (bA 31 33554431) rfl rfl o0 ?_
    refine pu (i := 25) (N := some 30) (bA 31 67108863) rfl rfl o0 ?_
    refine pu (i := 26) (N := some 31) (bA 31 134217727) rfl rfl o0 ?_
    refine pu (i := 27) (N := some 32) (bA 31 268435455) rfl rfl o0 ?_
    refine pu (i := 28) (N := some 33) (bA 31 536870911) rfl rfl o0 ?_
    refine pv (i := 29) (N := some 34) (bA 31 1073741823) rfl rfl o0 ?_
    refine pv (i := 30) (N := some 4) (bA 31 2147483647) rfl rfl o0 ?_
    refine done_ (done_of HT_.out (by kernel_rfl)) ?_
    try go_wp2
    go_ret
    exact ⟨o2, o32⟩
  ·replace c6 := Bool.eq_false_iff.mpr c6
   subst c6
   have H1 : (some false) = some r := by rw [if_neg (show ¬ (false = true) by decide)] at H; exact H
   clear H
   have H := H1
   clear H1
   obtain rfl := Option.some.inj H
   go_enter Tryd.func26, Tryd.ntmps26
   try go_wp2_with (first | ((with_reducible refine gate_dst (N := 2) rfl ?_); refine box_event ?hg (N := 2) ?hd (cs := #[.int .i64 a0_0, .int .i64 a0_1, .int .i64 a0_2, .int .i64 a0_3]) (t := 43) ?hr ?_; (case hd => rfl); (case hg => rfl); (case hr => first | (go_simp; done) | (go_simp; rfl)); intro gb115 hg w19 hbox hb; have n0_ := Aside0.mk (below_step d1 hb); have n1_ := Aside0.mk (hbox); have n2_ := Aside0.mk ((by rw [hg]; exact (below_size d1) : w.heap.size ≤ gb115)); have n3_ := Aside0.mk ((by rw [hg]; exact (below_size d1) : w.heap.size ≤ gb115)); clear HB; have HB := n0_; have BK115 := n1_; have GW115 := n2_; have GE115 := n3_; clear n0_ n1_ n2_ n3_; clear hb hbox hg))
   have n0_ := Aside0.mk (blk_drew BK115.out)
   have n1_ := Aside0.mk (below_drew1 HB.out)
   clear BK115
   clear HB
   have BK115 := n0_
   have HB := n1_
   clear n0_ n1_
   refine start_ (n := 31) (S := fun w' => w'.cell? ⟨gb115, 0, none⟩ = some (.int .i64 a0_0) ∧ w'.cell? ⟨gb115, 1, none⟩ = some (.int .i64 a0_1) ∧ w'.cell? ⟨gb115, 2, none⟩ = some (.int .i64 a0_2) ∧ w'.cell? ⟨gb115, 3, none⟩ = some (.int .i64 a0_3)) (ds := []) (bA 31 0) (by kernel_rfl) rfl rfl ⟨(blk_cell BK115.out 0).trans rfl, (blk_cell BK115.out 1).trans rfl, (blk_cell BK115.out 2).trans rfl, (blk_cell BK115.out 3).trans rfl⟩ (fun hHeld => ?_); refine with_tabW spec_VoteOk.tab1 spec_VoteOk.bits1 (fun HT_ HW_ => ?_)
   generalize w19.drew = w20 at BK115 HB hHeld ⊢
   refine pv (i := 0) (N := some 5) (bA 31 1) rfl rfl o0 ?_
   refine one_ (i := 1) (N := some 6) (bA 31 3) rfl rfl (one_of HT_.out (by kernel_rfl)) (by decide) (fun K hK => ?_)
   refine goes_ Tryd.func37 (by kernel_rfl) rfl #[.int .i64 a1] (by rfl) rfl rfl d0 ?_
   with_reducible refine (spec_l15Servers.calls a1 true _ A3.out).mono ?_
   rintro e w' ⟨rfl, ⟨nd, rfl⟩⟩
   refine ⟨_, rfl, ?_⟩
   refine hK.out _ _ ⟨(blk_cell BK115.out 0).trans rfl, (blk_cell BK115.out 1).trans rfl, (blk_cell BK115.out 2).trans rfl, (blk_cell BK115.out 3).trans rfl⟩ (fun hHeld => ?_)
   clear hK K
   refine norm_ (a' := ?_) ?_ ?_
   rotate_left
   ·show Act.put _ (some 6) _ = _
    simp only [sp_]
    rfl
   refine pv (i := 2) (N := some 7) (bA 31 7) rfl rfl o0 ?_
   refine pv (i := 3) (N := some 8) (bA 31 15) rfl rfl o0 ?_
   refine pv (i := 5) (N := some 10) (bA 31 47) rfl rfl o0 ?_
   refine pv (i := 6) (N := some 11) (bA 31 111) rfl rfl o0 ?_
   refine take_ (i := 4) (N := some 9) (v := ?_) (a' := ?_) (bA 31 127) rfl rfl o5 (fun _ _ _ h => h) (Or.inl ⟨(by rfl), ?_⟩) hHeld ?_ ?_
   rotate_left
   ·rintro w' ⟨s0, s1, s2, s3⟩
    go_simp
    with_reducible rfl
   rotate_left
   ·simp only [sp_]
    rfl
   refine one_ (i := 7) (N := some 12) (bA 31 255) rfl rfl (one_of HT_.out (by kernel_rfl)) (by decide) (fun K hK => ?_)
   refine goes_ Tryd.func61 (by kernel_rfl) rfl #[.int .i64 a0_2, .int .i64 0, .int .i64 (wrap64 (a1 - 1))] (by rfl) rfl rfl d0 ?_
   with_reducible refine (spec_l1In.calls a0_2 0 (wrap64 (a1 - 1)) false _ A5.out).mono ?_
   rintro e w' ⟨rfl, ⟨nd, rfl⟩⟩
   refine ⟨_, rfl, ?_⟩
   refine hK.out _ _ ⟨(blk_cell BK115.out 0).trans rfl, (blk_cell BK115.out 1).trans rfl, (blk_cell BK115.out 2).trans rfl, (blk_cell BK115.out 3).trans rfl⟩ (fun hHeld => ?_)
   clear hK K
   refine norm_ (a' := ?_) ?_ ?_
   rotate_left
   ·show Act.put _ (some 12) _ = _
    simp only [sp_]
    rfl
   refine pv (i := 8) (N := some 13) (bA 31 511) rfl rfl o0 ?_
   refine pv (i := 9) (N := some 14) (bA 31 1023) rfl rfl o0 ?_
   refine pu (i := 10) (N := some 15) (bA 31 2047) rfl rfl o0 ?_
   refine pu (i := 11) (N := some 16) (bA 31 4095) rfl rfl o0 ?_
   refine pu (i := 12) (N := some 17) (bA 31 8191) rfl rfl o0 ?_
   refine pv (i := 13) (N := some 18) (bA 31 16383) rfl rfl o0 ?_
   refine pv (i := 14) (N := some 19) (bA 31 32767) rfl rfl o0 ?_
   refine pu (i := 15) (N := some 20) (bA 31 65535) rfl rfl o0 ?_
   refine pu (i := 16) (N := some 21) (bA 31 131071) rfl rfl o0 ?_
   refine pu (i := 17) (N := some 22) (bA 31 262143) rfl rfl o0 ?_
   refine pv (i := 18) (N := some 23) (bA 31 524287) rfl rfl o0 ?_
   refine pv (i := 19) (N := some 24) (bA 31 1048575) rfl rfl o0 ?_
   refine pu (i := 20) (N := some 25) (bA 31 2097151) rfl rfl o0 ?_
   refine pu (i := 21) (N := some 26) (bA 31 4194303) rfl rfl o0 ?_
   refine pu (i := 22) (N := some 27) (bA 31 8388607) rfl rfl o0 ?_
   refine pu (i := 23) (N := some 28) (bA 31 16777215) rfl rfl o0 ?_
   refine pu (i := 24) (N := some 29) (bA 31 33554431) rfl rfl o0 ?_
   refine pu (i := 25) (N := some 30) (bA 31 67108863) rfl rfl o0 ?_
   refine pu (i := 26) (N := some 31) (bA 31 134217727) rfl rfl o0 ?_
   refine pu (i := 27) (N := some 32) (bA 31 268435455) rfl rfl o0 ?_
   refine pu (i := 28) (N := some 33) (bA 31 536870911) rfl rfl o0 ?_
   refine pv (i := 29) (N := some 34) (bA 31 1073741823) rfl rfl o0 ?_
   refine pv (i := 30) (N := some 4) (bA 31 2147483647) rfl rfl o0 ?_
   refine done_ (done_of HT_.out (by kernel_rfl)) ?_
   try go_wp2
   go_ret
   exact ⟨o2, o32⟩
 ·replace c4 := Bool.eq_false_iff.mpr c4
  subst c4
  have H1 : (some false) = some r := by rw [if_neg (show ¬ (false = true) by decide)] at H; exact H
  clear H
  have H := H1
  clear H1
  obtain rfl := Option.some.inj H
  go_enter Tryd.func26, Tryd.ntmps26
  try go_wp2_with (first | ((with_reducible refine gate_dst (N := 2) rfl ?_); refine box_event ?hg (N := 2) ?hd (cs := #[.int .i64 a0_0, .int .i64 a0_1, .int .i64 a0_2, .int .i64 a0_3]) (t := 43) ?hr ?_; (case hd => rfl); (case hg => rfl); (case hr => first | (go_simp; done) | (go_simp; rfl)); intro gb115 hg w21 hbox hb; have n0_ := Aside0.mk (below_step d1 hb); have n1_ := Aside0.mk (hbox); have n2_ := Aside0.mk ((by rw [hg]; exact (below_size d1) : w.heap.size ≤ gb115)); have n3_ := Aside0.mk ((by rw [hg]; exact (below_size d1) : w.heap.size ≤ gb115)); clear HB; have HB := n0_; have BK115 := n1_; have GW115 := n2_; have GE115 := n3_; clear n0_ n1_ n2_ n3_; clear hb hbox hg))
  have n0_ := Aside0.mk (blk_drew BK115.out)
  have n1_ := Aside0.mk (below_drew1 HB.out)
  clear BK115
  clear HB
  have BK115 := n0_
  have HB := n1_
  clear n0_ n1_
  refine start_ (n := 31) (S := fun w' => True) (ds := []) (bA 31 0) (by kernel_rfl) rfl rfl trivial (fun hHeld => ?_); refine with_tabW spec_VoteOk.tab1 spec_VoteOk.bits1 (fun HT_ HW_ => ?_)
  generalize w21.drew = w22 at BK115 HB hHeld ⊢
  refine pv (i := 0) (N := some 5) (bA 31 1) rfl rfl o0 ?_
  refine one_ (i := 1) (N := some 6) (bA 31 3) rfl rfl (one_of HT_.out (by kernel_rfl)) (by decide) (fun K hK => ?_)
  refine goes_ Tryd.func37 (by kernel_rfl) rfl #[.int .i64 a1] (by rfl) rfl rfl d0 ?_
  with_reducible refine (spec_l15Servers.calls a1 false _ A3.out).mono ?_
  rintro e w' ⟨rfl, ⟨nd, rfl⟩⟩
  refine ⟨_, rfl, ?_⟩
  refine hK.out _ _ trivial (fun hHeld => ?_)
  clear hK K
  refine norm_ (a' := ?_) ?_ ?_
  rotate_left
  ·show Act.put _ (some 6) _ = _
   simp only [sp_]
   rfl
  refine pv (i := 2) (N := some 7) (bA 31 7) rfl rfl o0 ?_
  refine pu (i := 3) (N := some 8) (bA 31 15) rfl rfl o0 ?_
  refine pu (i := 4) (N := some 9) (bA 31 31) rfl rfl o0 ?_
  refine pu (i := 5) (N := some 10) (bA 31 63) rfl rfl o0 ?_
  refine pu (i := 6) (N := some 11) (bA 31 127) rfl rfl o0 ?_
  refine pu (i := 7) (N := some 12) (bA 31 255) rfl rfl o0 ?_
  refine pv (i := 8) (N := some 13) (bA 31 511) rfl rfl o0 ?_
  refine pv (i := 9) (N := some 14) (bA 31 1023) rfl rfl o0 ?_
  refine pu (i := 10) (N := some 15) (bA 31 2047) rfl rfl o0 ?_
  refine pu (i := 11) (N := some 16) (bA 31 4095) rfl rfl o0 ?_
  refine pu (i := 12) (N := some 17) (bA 31 8191) rfl rfl o0 ?_
  refine pv (i := 13) (N := some 18) (bA 31 16383) rfl rfl o0 ?_
  refine pv (i := 14) (N := some 19) (bA 31 32767) rfl rfl o0 ?_
  refine pu (i := 15) (N := some 20) (bA 31 65535) rfl rfl o0 ?_
  refine pu (i := 16) (N := some 21) (bA 31 131071) rfl rfl o0 ?_
  refine pu (i := 17) (N := some 22) (bA 31 262143) rfl rfl o0 ?_
  refine pv (i := 18) (N := some 23) (bA 31 524287) rfl rfl o0 ?_
  refine pv (i := 19) (N := some 24) (bA 31 1048575) rfl rfl o0 ?_
  refine pu (i := 20) (N := some 25) (bA 31 2097151) rfl rfl o0 ?_
  refine pu (i := 21) (N := some 26) (bA 31 4194303) rfl rfl o0 ?_
  refine pu (i := 22) (N := some 27) (bA 31 8388607) rfl rfl o0 ?_
  refine pu (i := 23) (N := some 28) (bA 31 16777215) rfl rfl o0 ?_
  refine pu (i := 24) (N := some 29) (bA 31 33554431) rfl rfl o0 ?_
  refine pu (i := 25) (N := some 30) (bA 31 67108863) rfl rfl o0 ?_
  refine pu (i := 26) (N := some 31) (bA 31 134217727) rfl rfl o0 ?_
  refine pu (i := 27) (N := some 32) (bA 31 268435455) rfl rfl o0 ?_
  refine pu (i := 28) (N := some 33) (bA 31 536870911) rfl rfl o0 ?_
  refine pv (i := 29) (N := some 34) (bA 31 1073741823) rfl rfl o0 ?_
  refine pv (i := 30) (N := some 4) (bA 31 2147483647) rfl rfl o0 ?_
  refine done_ (done_of HT_.out (by kernel_rfl)) ?_
  try go_wp2
  go_ret
  exact ⟨o2, o32⟩

end Go.Proofs.YtokfpmkhfindmaaDoor.PFnProofs
