-- Written by a program of this session (wip/tools/pp.py over the kit's print).
import Derived.Test.YtokhjhkkncbjeaaDoorVFnBlocks
import Derived.Test.YtokhjhkkncbjeaaDoorPFnBlocksx0
import Derived.Test.YtokhjhkkncbjeaaDoorPFnBlocksx9
import Derived.Test.YtokhjhkkncbjeaaDoorPFnBlocksx17
import Derived.Test.YtokhjhkkncbjeaaDoorPFnBlocksx18
namespace Go.Proofs.YtokhjhkkncbjeaaDoor.PFnBlocks
open Go.RowKit Go.Proofs.YtokhjhkkncbjeaaDoorW.PrintWords Go.Proofs.YtokhjhkkncbjeaaDoorW.PrintLast Go.Proofs.YtokhjhkkncbjeaaDoorW.PrintMore
attribute [local go_sem] max2_int min2_int max_two min_two max_three min_three max_four min_four
attribute [local go_sem high] str_gtr str_leq str_geq
set_option linter.unusedVariables false
set_option linter.unusedSimpArgs false

/-! ### impl_VoteOk: function 59 -/
def impl_VoteOk.f (k : Nat) (a0_0 : Int) (a0_1 : Int) (a0_2 : Int) (a0_3 : Int) (a1 : Int) : Option (Bool) := (impl_Quorum.f a1).bind fun t625 => (if t625 > 0 then ((impl_within.f a0_2 0 (wrap64 (a1 - 1))).bind fun t626 => (if t626 = true then ((impl_isView.f a0_0).bind fun t627 => (if t627 = true then ((impl_isName.f a0_1).bind fun t628 => (if t628 = true then ((impl_ballot.f a0_0 a0_1).bind fun t629 => ((impl_Signed.f k a0_2 t629 a0_3).bind fun t630 => (some t630))) else (some false))) else (some false))) else (some false))) else (some false))
theorem impl_VoteOk.mono : ∀ a0 a1 a2 a3 a4 k, LeO (impl_VoteOk.f k a0 a1 a2 a3 a4) (impl_VoteOk.f (k + 1) a0 a1 a2 a3 a4) := by
 intro a0 a1 a2 a3 a4 k
 unfold impl_VoteOk.f
 repeat' with_reducible first
   | exact impl_Signed.mono _ _ _ _
   | exact LeO.refl _
   | exact LeO.none _
   | refine LeO.ite ?_ ?_
   | refine LeO.bind ?_ (fun _ => ?_)
def impl_VoteOk.T1 : Bool × List (List Nat × List Nat) := (true, [([], []), ([0], [0]), ([1], [1]), ([2, 1], [2]), ([3], [3]), ([4, 3], [3, 4]), ([3], [3]), ([6, 3], [3, 6]), ([5, 7, 3, 3], [3, 5, 7]), ([3, 8], [3, 8]), ([9, 8], [9]), ([10], [10]), ([11, 10], [10, 11]), ([12, 10, 10], [10, 12]), ([10, 13], [10, 13]), ([14, 13], [14]), ([15], [15]), ([16, 15], [15, 16]), ([17, 15, 15], [15, 17]), ([15, 18], [15, 18]), ([19, 18], [19]), ([20], [20]), ([21, 20], [20, 21]), ([20], [20]), ([23, 20], [20, 23]), ([20], [20]), ([25, 20], [20, 25]), ([24, 26, 20, 20], [20, 24, 26]), ([20], [20]), ([28, 20], [20, 28]), ([22, 27, 29, 27, 20], [20, 22, 27, 29]), ([20, 30], [20, 30]), ([31, 30, 0, 1, 2, 3, 4, 5, 6, 7, 8, 9, 10, 11, 12, 13, 14, 15, 16, 17, 18, 19, 20, 21, 22, 23, 24, 25, 26, 27, 28, 29, 30, 31], [31])])
def impl_VoteOk.B1 : List Nat := [0, 1, 3, 7, 15, 31, 15, 79, 255, 511, 1023, 2047, 4095, 8191, 16383, 32767, 65535, 131071, 262143, 524287, 1048575, 2097151, 4194303, 2097151, 10485759, 2097151, 35651583, 127926271, 2097151, 270532607, 1073741823, 2147483647, 4294967295]
theorem impl_VoteOk.tab1 : rtab .any (opsOf Tryd.f59 1) = impl_VoteOk.T1 := by kernel_rfl
theorem impl_VoteOk.bits1 : waitsOk impl_VoteOk.T1.2 impl_VoteOk.B1 = true := by kernel_rfl
set_option maxHeartbeats 8000000 in
set_option maxRecDepth 100000 in
theorem impl_VoteOk.calls (k : Nat) (a0_0 : Int) (a0_1 : Int) (a0_2 : Int) (a0_3 : Int) (a1 : Int) (r : Bool) (w : World) (h : impl_VoteOk.f k a0_0 a0_1 a0_2 a0_3 a1 = some r) (hT : TabOk w) :
  Calls Tryd.prog 59 #[.agg #[.int .i64 a0_0, .int .i64 a0_1, .int .i64 a0_2, .int .i64 a0_3], .int .i64 a1] w fun e w' => e = .returned (.bool r) ∧ Below w.heap.size w w' := by
 have HT := Aside0.mk hT
 clear hT
 have hu86 := Tryd.underlying86
 have HB := Aside0.mk (Below.refl w.heap.size w)
 have H : ((impl_Quorum.f a1).bind fun t625 => (if t625 > 0 then ((impl_within.f a0_2 0 (wrap64 (a1 - 1))).bind fun t626 => (if t626 = true then ((impl_isView.f a0_0).bind fun t627 => (if t627 = true then ((impl_isName.f a0_1).bind fun t628 => (if t628 = true then ((impl_ballot.f a0_0 a0_1).bind fun t629 => ((impl_Signed.f k a0_2 t629 a0_3).bind fun t630 => (some t630))) else (some false))) else (some false))) else (some false))) else (some false))) = some r := h
 clear h
 replace H := Option.bind_eq_some_iff.mp H
 obtain ⟨t625, A30, H⟩ := H
 try dsimp only at H
 have A3 := Aside0.mk A30
 clear A30
 by_cases c4 : t625 > 0
 ·rw [if_pos c4] at H
  have c4b0 : decide (0 < t625) = true := decide_eq_true c4
  clear c4
  replace H := Option.bind_eq_some_iff.mp H
  obtain ⟨t626, A50, H⟩ := H
  try dsimp only at H
  have A5 := Aside0.mk A50
  clear A50
  by_cases c6 : t626 = true
  ·subst c6
   have H1 : ((impl_isView.f a0_0).bind fun t627 => (if t627 = true then ((impl_isName.f a0_1).bind fun t628 => (if t628 = true then ((impl_ballot.f a0_0 a0_1).bind fun t629 => ((impl_Signed.f k a0_2 t629 a0_3).bind fun t630 => (some t630))) else (some false))) else (some false))) = some r := by rw [if_pos rfl] at H; exact H
   clear H
   have H := H1
   clear H1
   replace H := Option.bind_eq_some_iff.mp H
   obtain ⟨t627, A70, H⟩ := H
   try dsimp only at H
   have A7 := Aside0.mk A70
   clear A70
   by_cases c8 : t627 = true
   ·subst c8
    have H1 : ((impl_isName.f a0_1).bind fun t628 => (if t628 = true then ((impl_ballot.f a0_0 a0_1).bind fun t629 => ((impl_Signed.f k a0_2 t629 a0_3).bind fun t630 => (some t630))) else (some false))) = some r := by rw [if_pos rfl] at H; exact H
    clear H
    have H := H1
    clear H1
    replace H := Option.bind_eq_some_iff.mp H
    obtain ⟨t628, A90, H⟩ := H
    try dsimp only at H
    have A9 := Aside0.mk A90
    clear A90
    by_cases c10 : t628 = true
    ·subst c10
     have H1 : ((impl_ballot.f a0_0 a0_1).bind fun t629 => ((impl_Signed.f k a0_2 t629 a0_3).bind fun t630 => (some t630))) = some r := by rw [if_pos rfl] at H; exact H
     clear H
     have H := H1
     clear H1
     replace H := Option.bind_eq_some_iff.mp H
     obtain ⟨t629, A110, H⟩ := H
     try dsimp only at H
     have A11 := Aside0.mk A110
     clear A110
     replace H := Option.bind_eq_some_iff.mp H
     obtain ⟨t630, A120, H⟩ := H
     replace H : (some t630) = some r := H
     have A12 := Aside0.mk A120
     clear A120
     obtain rfl := Option.some.inj H
     go_enter Tryd.func59, Tryd.ntmps59
     try go_wp2_with (first | ((with_reducible refine gate_dst (N := 2) rfl ?_); refine box_event ?hg (N := 2) ?hd (cs := #[.int .i64 a0_0, .int .i64 a0_1, .int .i64 a0_2, .int .i64 a0_3]) (t := 86) ?hr ?_; (case hd => rfl); (case hg => rfl); (case hr => first | (go_simp; done) | (go_simp; rfl)); intro gb624 hg w13 hbox hb; have BK624 := Aside0.mk (hbox); have GW624 := Aside0.mk ((by rw [hg]; exact (below_size Z0) : w.heap.size ≤ gb624)); have GE624 := Aside0.mk ((by rw [hg]; exact (below_size Z0) : w.heap.size ≤ gb624)); replace HB := Aside0.mk (below_step Z0 hb); clear hb hbox hg))
     replace BK624 := Aside0.mk (blk_drew BK624.out)
     replace HB := Aside0.mk (below_drew1 HB.out)
     refine wp_quiet_below (by kernel_rfl) (by kernel_rfl) ?_
     generalize w13.drew = w14 at BK624 HB ⊢
     have sq0_ : ∀ p_ : Bw w14, p_.W.cell? ⟨gb624, 0, none⟩ = some (.int .i64 a0_0) := fun p_ => p_.cell ((blk_cell BK624.out 0).trans rfl)
     have sq1_ : ∀ p_ : Bw w14, p_.W.cell? ⟨gb624, 1, none⟩ = some (.int .i64 a0_1) := fun p_ => p_.cell ((blk_cell BK624.out 1).trans rfl)
     have sq2_ : ∀ p_ : Bw w14, p_.W.cell? ⟨gb624, 2, none⟩ = some (.int .i64 a0_2) := fun p_ => p_.cell ((blk_cell BK624.out 2).trans rfl)
     have sq3_ : ∀ p_ : Bw w14, p_.W.cell? ⟨gb624, 3, none⟩ = some (.int .i64 a0_3) := fun p_ => p_.cell ((blk_cell BK624.out 3).trans rfl)
     have eq20_ : ∀ args w, (callFunc 20 args).run Tryd.prog w = .ok (.enter 20 args) w := enters_ Tryd.func20 (by kernel_rfl) rfl
     have eq38_ : ∀ args w, (callFunc 38 args).run Tryd.prog w = .ok (.enter 38 args) w := enters_ Tryd.func38 (by kernel_rfl) rfl
     have eq57_ : ∀ args w, (callFunc 57 args).run Tryd.prog w = .ok (.enter 57 args) w := enters_ Tryd.func57 (by kernel_rfl) rfl
     have eq71_ : ∀ args w, (callFunc 71 args).run Tryd.prog w = .ok (.enter 71 args) w := enters_ Tryd.func71 (by kernel_rfl) rfl
     have eq72_ : ∀ args w, (callFunc 72 args).run Tryd.prog w = .ok (.enter 72 args) w := enters_ Tryd.func72 (by kernel_rfl) rfl
     have eq73_ : ∀ args w, (callFunc 73 args).run Tryd.prog w = .ok (.enter 73 args) w := enters_ Tryd.func73 (by kernel_rfl) rfl
     repeat (go_big_quiet_step ((rename_i p_; have hb := p_.h; have n0_ := Aside0.mk (blk_below (g := gb624) (o := .cells #[.int .i64 a0_0, .int .i64 a0_1, .int .i64 a0_2, .int .i64 a0_3] 86 (0, 0)) (by (with_reducible repeat (first | refine blk_drewN ?_ _ | refine blk_drew ?_ | refine blk_alloc ?_ _)); exact BK624.out) hb); have n1_ := Aside0.mk (below_step J16 hb); have BK624 := n0_; have HB := n1_; first | (go_at_fn 57; with_reducible exact Calls.bw0 (impl_Quorum.calls a1 t625 _ A3.out)) | (go_at_fn 20; with_reducible exact Calls.bw0 (impl_within.calls a0_2 0 (wrap64 (a1 - 1)) true _ A5.out)) | (go_at_fn 38; with_reducible exact Calls.bw0 (impl_isView.calls a0_0 true _ A7.out)) | (go_at_fn 71; with_reducible exact Calls.bw0 (impl_isName.calls a0_1 true _ A9.out)) | (go_at_fn 73; with_reducible exact Calls.bw (impl_ballot.calls a0_0 a0_1 t629 _ A11.out (tab_at HT.out Z8))) | (go_at_fn 72; with_reducible exact Calls.bw (impl_Signed.calls k a0_2 t629 a0_3 t630 _ A12.out (tab_at HT.out Z8))))))
     refine wpQuiet_nil ?_
     clear sq0_ sq1_ sq2_ sq3_ eq20_ eq38_ eq57_ eq71_ eq72_ eq73_
     rintro w16 ⟨q_, hq_⟩
     have hb := q_.h
     rw [← hq_] at hb
     clear hq_ q_
     replace BK624 := Aside0.mk (blk_below (g := gb624) (o := .cells #[.int .i64 a0_0, .int .i64 a0_1, .int .i64 a0_2, .int .i64 a0_3] 86 (0, 0)) (by (with_reducible repeat (first | refine blk_drewN ?_ _ | refine blk_drew ?_ | refine blk_alloc ?_ _)); exact BK624.out) hb)
     replace HB := Aside0.mk (below_step J16 hb)
     (try clear hb)
     (try clear hb2)
     (try clear hk)
     (try clear hi)
     try go_wp2
     go_ret
     exact ⟨J0, J16⟩
    ·replace c10 := Bool.eq_false_iff.mpr c10
     subst c10
     have H1 : (some false) = some r := by rw [if_neg (show ¬ (false = true) by decide)] at H; exact H
     clear H
     have H := H1
     clear H1
     obtain rfl := Option.some.inj H
     go_enter Tryd.func59, Tryd.ntmps59
     try go_wp2_with (first | ((with_reducible refine gate_dst (N := 2) rfl ?_); refine box_event ?hg (N := 2) ?hd (cs := #[.int .i64 a0_0, .int .i64 a0_1, .int .i64 a0_2, .int .i64 a0_3]) (t := 86) ?hr ?_; (case hd => rfl); (case hg => rfl); (case hr => first | (go_simp; done) | (go_simp; rfl)); intro gb624 hg w17 hbox hb; have BK624 := Aside0.mk (hbox); have GW624 := Aside0.mk ((by rw [hg]; exact (below_size Z0) : w.heap.size ≤ gb624)); have GE624 := Aside0.mk ((by rw [hg]; exact (below_size Z0) : w.heap.size ≤ gb624)); replace HB := Aside0.mk (below_step Z0 hb); clear hb hbox hg))
     replace BK624 := Aside0.mk (blk_drew BK624.out)
     replace HB := Aside0.mk (below_drew1 HB.out)
     refine wp_quiet_drawn (by kernel_rfl) (by kernel_rfl) ?_
     generalize w17.drew = w18 at BK624 HB ⊢
     have sq0_ : ∀ p_ : Bd w18, (w18.drewN p_.n).cell? ⟨gb624, 0, none⟩ = some (.int .i64 a0_0) := fun p_ => p_.cell ((blk_cell BK624.out 0).trans rfl)
     have sq1_ : ∀ p_ : Bd w18, (w18.drewN p_.n).cell? ⟨gb624, 1, none⟩ = some (.int .i64 a0_1) := fun p_ => p_.cell ((blk_cell BK624.out 1).trans rfl)
     have sq2_ : ∀ p_ : Bd w18, (w18.drewN p_.n).cell? ⟨gb624, 2, none⟩ = some (.int .i64 a0_2) := fun p_ => p_.cell ((blk_cell BK624.out 2).trans rfl)
     have sq3_ : ∀ p_ : Bd w18, (w18.drewN p_.n).cell? ⟨gb624, 3, none⟩ = some (.int .i64 a0_3) := fun p_ => p_.cell ((blk_cell BK624.out 3).trans rfl)
     have eq20_ : ∀ args w, (callFunc 20 args).run Tryd.prog w = .ok (.enter 20 args) w := enters_ Tryd.func20 (by kernel_rfl) rfl
     have eq38_ : ∀ args w, (callFunc 38 args).run Tryd.prog w = .ok (.enter 38 args) w := enters_ Tryd.func38 (by kernel_rfl) rfl
     have eq57_ : ∀ args w, (callFunc 57 args).run Tryd.prog w = .ok (.enter 57 args) w := enters_ Tryd.func57 (by kernel_rfl) rfl
     have eq71_ : ∀ args w, (callFunc 71 args).run Tryd.prog w = .ok (.enter 71 args) w := enters_ Tryd.func71 (by kernel_rfl) rfl
     repeat (go_big_quiet_step ((rename_i p_; first | (go_at_fn 57; with_reducible exact Calls.bd (impl_Quorum.calls a1 t625 _ A3.out)) | (go_at_fn 20; with_reducible exact Calls.bd (impl_within.calls a0_2 0 (wrap64 (a1 - 1)) true _ A5.out)) | (go_at_fn 38; with_reducible exact Calls.bd (impl_isView.calls a0_0 true _ A7.out)) | (go_at_fn 71; with_reducible exact Calls.bd (impl_isName.calls a0_1 false _ A9.out)))))
     refine wpQuiet_nil ?_
     clear sq0_ sq1_ sq2_ sq3_ eq20_ eq38_ eq57_ eq71_
     rintro _ ⟨⟨nd⟩, rfl⟩
     try go_wp2
     go_ret
     exact ⟨J0, J16⟩
   ·replace c8 := Bool.eq_false_iff.mpr c8
    subst c8
    have H1 : (some false) = some r := by rw [if_neg (show ¬ (false = true) by decide)] at H; exact H
    clear H
    have H := H1
    clear H1
    obtain rfl := Option.some.inj H
    go_enter Tryd.func59, Tryd.ntmps59
    try go_wp2_with (first | ((with_reducible refine gate_dst (N := 2) rfl ?_); refine box_event ?hg (N := 2) ?hd (cs := #[.int .i64 a0_0, .int .i64 a0_1, .int .i64 a0_2, .int .i64 a0_3]) (t := 86) ?hr ?_; (case hd => rfl); (case hg => rfl); (case hr => first | (go_simp; done) | (go_simp; rfl)); intro gb624 hg w19 hbox hb; have BK624 := Aside0.mk (hbox); have GW624 := Aside0.mk ((by rw [hg]; exact (below_size Z0) : w.heap.size ≤ gb624)); have GE624 := Aside0.mk ((by rw [hg]; exact (below_size Z0) : w.heap.size ≤ gb624)); replace HB := Aside0.mk (below_step Z0 hb); clear hb hbox hg))
    replace BK624 := Aside0.mk (blk_drew BK624.out)
    replace HB := Aside0.mk (below_drew1 HB.out)
    refine wp_quiet_drawn (by kernel_rfl) (by kernel_rfl) ?_
    generalize w19.drew = w20 at BK624 HB ⊢
    have sq0_ : ∀ p_ : Bd w20, (w20.drewN p_.n).cell? ⟨gb624, 0, none⟩ = some (.int .i64 a0_0) := fun p_ => p_.cell ((blk_cell BK624.out 0).trans rfl)
    have sq1_ : ∀ p_ : Bd w20, (w20.drewN p_.n).cell? ⟨gb624, 1, none⟩ = some (.int .i64 a0_1) := fun p_ => p_.cell ((blk_cell BK624.out 1).trans rfl)
    have sq2_ : ∀ p_ : Bd w20, (w20.drewN p_.n).cell? ⟨gb624, 2, none⟩ = some (.int .i64 a0_2) := fun p_ => p_.cell ((blk_cell BK624.out 2).trans rfl)
    have sq3_ : ∀ p_ : Bd w20, (w20.drewN p_.n).cell? ⟨gb624, 3, none⟩ = some (.int .i64 a0_3) := fun p_ => p_.cell ((blk_cell BK624.out 3).trans rfl)
    have eq20_ : ∀ args w, (callFunc 20 args).run Tryd.prog w = .ok (.enter 20 args) w := enters_ Tryd.func20 (by kernel_rfl) rfl
    have eq38_ : ∀ args w, (callFunc 38 args).run Tryd.prog w = .ok (.enter 38 args) w := enters_ Tryd.func38 (by kernel_rfl) rfl
    have eq57_ : ∀ args w, (callFunc 57 args).run Tryd.prog w = .ok (.enter 57 args) w := enters_ Tryd.func57 (by kernel_rfl) rfl
    repeat (go_big_quiet_step ((rename_i p_; first | (go_at_fn 57; with_reducible exact Calls.bd (impl_Quorum.calls a1 t625 _ A3.out)) | (go_at_fn 20; with_reducible exact Calls.bd (impl_within.calls a0_2 0 (wrap64 (a1 - 1)) true _ A5.out)) | (go_at_fn 38; with_reducible exact Calls.bd (impl_isView.calls a0_0 false _ A7.out)))))
    refine wpQuiet_nil ?_
    clear sq0_ sq1_ sq2_ sq3_ eq20_ eq38_ eq57_
    rintro _ ⟨⟨nd⟩, rfl⟩
    try go_wp2
    go_ret
    exact ⟨J0, J16⟩
  ·replace c6 := Bool.eq_false_iff.mpr c6
   subst c6
   have H1 : (some false) = some r := by rw [if_neg (show ¬ (false = true) by decide)] at H; exact H
   clear H
   have H := H1
   clear H1
   obtain rfl := Option.some.inj H
   go_enter Tryd.func59, Tryd.ntmps59
   try go_wp2_with (first | ((with_reducible refine gate_dst (N := 2) rfl ?_); refine box_event ?hg (N := 2) ?hd (cs := #[.int .i64 a0_0, .int .i64 a0_1, .int .i64 a0_2, .int .i64 a0_3]) (t := 86) ?hr ?_; (case hd => rfl); (case hg => rfl); (case hr => first | (go_simp; done) | (go_simp; rfl)); intro gb624 hg w21 hbox hb; have BK624 := Aside0.mk (hbox); have GW624 := Aside0.mk ((by rw [hg]; exact (below_size Z0) : w.heap.size ≤ gb624)); have GE624 := Aside0.mk ((by rw [hg]; exact (below_size Z0) : w.heap.size ≤ gb624)); replace HB := Aside0.mk (below_step Z0 hb); clear hb hbox hg))
   replace BK624 := Aside0.mk (blk_drew BK624.out)
   replace HB := Aside0.mk (below_drew1 HB.out)
   refine wp_quiet_drawn (by kernel_rfl) (by kernel_rfl) ?_
   generalize w21.drew = w22 at BK624 HB ⊢
   have sq0_ : ∀ p_ : Bd w22, (w22.drewN p_.n).cell? ⟨gb624, 0, none⟩ = some (.int .i64 a0_0) := fun p_ => p_.cell ((blk_cell BK624.out 0).trans rfl)
   have sq1_ : ∀ p_ : Bd w22, (w22.drewN p_.n).cell? ⟨gb624, 1, none⟩ = some (.int .i64 a0_1) := fun p_ => p_.cell ((blk_cell BK624.out 1).trans rfl)
   have sq2_ : ∀ p_ : Bd w22, (w22.drewN p_.n).cell? ⟨gb624, 2, none⟩ = some (.int .i64 a0_2) := fun p_ => p_.cell ((blk_cell BK624.out 2).trans rfl)
   have sq3_ : ∀ p_ : Bd w22, (w22.drewN p_.n).cell? ⟨gb624, 3, none⟩ = some (.int .i64 a0_3) := fun p_ => p_.cell ((blk_cell BK624.out 3).trans rfl)
   have eq20_ : ∀ args w, (callFunc 20 args).run Tryd.prog w = .ok (.enter 20 args) w := enters_ Tryd.func20 (by kernel_rfl) rfl
   have eq57_ : ∀ args w, (callFunc 57 args).run Tryd.prog w = .ok (.enter 57 args) w := enters_ Tryd.func57 (by kernel_rfl) rfl
   repeat (go_big_quiet_step ((rename_i p_; first | (go_at_fn 57; with_reducible exact Calls.bd (impl_Quorum.calls a1 t625 _ A3.out)) | (go_at_fn 20; with_reducible exact Calls.bd (impl_within.calls a0_2 0 (wrap64 (a1 - 1)) false _ A5.out)))))
   refine wpQuiet_nil ?_
   clear sq0_ sq1_ sq2_ sq3_ eq20_ eq57_
   rintro _ ⟨⟨nd⟩, rfl⟩
   try go_wp2
   go_ret
   exact ⟨J0, J16⟩
 ·rw [if_neg c4] at H
  have c4b0 : decide (0 < t625) = false := decide_eq_false c4
  clear c4
  obtain rfl := Option.some.inj H
  go_enter Tryd.func59, Tryd.ntmps59
  try go_wp2_with (first | ((with_reducible refine gate_dst (N := 2) rfl ?_); refine box_event ?hg (N := 2) ?hd (cs := #[.int .i64 a0_0, .int .i64 a0_1, .int .i64 a0_2, .int .i64 a0_3]) (t := 86) ?hr ?_; (case hd => rfl); (case hg => rfl); (case hr => first | (go_simp; done) | (go_simp; rfl)); intro gb624 hg w23 hbox hb; have BK624 := Aside0.mk (hbox); have GW624 := Aside0.mk ((by rw [hg]; exact (below_size Z0) : w.heap.size ≤ gb624)); have GE624 := Aside0.mk ((by rw [hg]; exact (below_size Z0) : w.heap.size ≤ gb624)); replace HB := Aside0.mk (below_step Z0 hb); clear hb hbox hg))
  replace BK624 := Aside0.mk (blk_drew BK624.out)
  replace HB := Aside0.mk (below_drew1 HB.out)
  refine wp_quiet_drawn (by kernel_rfl) (by kernel_rfl) ?_
  generalize w23.drew = w24 at BK624 HB ⊢
  have eq57_ : ∀ args w, (callFunc 57 args).run Tryd.prog w = .ok (.enter 57 args) w := enters_ Tryd.func57 (by kernel_rfl) rfl
  repeat (go_big_quiet_step ((rename_i p_; go_at_fn 57; with_reducible exact Calls.bd (impl_Quorum.calls a1 t625 _ A3.out))))
  refine wpQuiet_nil ?_
  clear eq57_
  rintro _ ⟨⟨nd⟩, rfl⟩
  try go_wp2
  go_ret
  exact ⟨J0, J16⟩

end Go.Proofs.YtokhjhkkncbjeaaDoor.PFnBlocks
