-- Written by a program of this session (wip/tools/pp.py over the kit's print).
import Derived.Test.YtokhjhkkncbjeaaDoorVFnBlocks
import Derived.Test.YtokhjhkkncbjeaaDoorPFnBlocksx0
import Derived.Test.YtokhjhkkncbjeaaDoorPFnBlocksx1
import Derived.Test.YtokhjhkkncbjeaaDoorPFnBlocksx2
import Derived.Test.YtokhjhkkncbjeaaDoorPFnBlocksx3
namespace Go.Proofs.YtokhjhkkncbjeaaDoor.PFnBlocks
open Go.RowKit Go.Proofs.YtokhjhkkncbjeaaDoorW.PrintWords Go.Proofs.YtokhjhkkncbjeaaDoorW.PrintLast Go.Proofs.YtokhjhkkncbjeaaDoorW.PrintMore
attribute [local go_sem] max2_int min2_int max_two min_two max_three min_three max_four min_four
attribute [local go_sem high] str_gtr str_leq str_geq
set_option linter.unusedVariables false
set_option linter.unusedSimpArgs false

attribute [local go_sem high] eqA86
/-! ### spec_VoteOk: function 64 -/
def spec_VoteOk.f (k : Nat) (a0_0 : Int) (a0_1 : Int) (a0_2 : Int) (a0_3 : Int) (a1 : Int) : Option (Bool) := (spec_l15Servers.f a1).bind fun t138 => (if t138 = true then ((spec_l1In.f a0_2 0 (wrap64 (a1 - 1))).bind fun t139 => (if t139 = true then ((spec_l1In.f a0_0 1 100000).bind fun t140 => (if t140 = true then ((spec_l15Name.f a0_1).bind fun t141 => (if t141 = true then ((spec_l15Voted.f k a0_2 a0_0 a0_1).bind fun bt142 => (some (bt142.1 == a0_0 && (bt142.2.1 == a0_1 && (bt142.2.2.1 == a0_2 && (bt142.2.2.2 == a0_3)))))) else (some false))) else (some false))) else (some false))) else (some false))
theorem spec_VoteOk.mono : ∀ a0 a1 a2 a3 a4 k, LeO (spec_VoteOk.f k a0 a1 a2 a3 a4) (spec_VoteOk.f (k + 1) a0 a1 a2 a3 a4) := by
 intro a0 a1 a2 a3 a4 k
 unfold spec_VoteOk.f
 repeat' with_reducible first
   | exact spec_l15Voted.mono _ _ _ _
   | exact LeO.refl _
   | exact LeO.none _
   | refine LeO.ite ?_ ?_
   | refine LeO.bind ?_ (fun _ => ?_)
def spec_VoteOk.T1 : Bool × List (List Nat × List Nat) := (true, [([], []), ([0], [0]), ([1, 1], [1]), ([2], [2]), ([3, 2], [2, 3]), ([2], [2]), ([5, 2], [2, 5]), ([4, 6, 2, 2], [2, 4, 6]), ([2, 7], [2, 7]), ([8, 7], [8]), ([9], [9]), ([10, 9], [9, 10]), ([11, 9, 9], [9, 11]), ([9, 12], [9, 12]), ([13, 12], [13]), ([14], [14]), ([15, 14], [14, 15]), ([16, 14, 14], [14, 16]), ([14, 17], [14, 17]), ([18, 17], [18]), ([19], [19]), ([20, 19], [19, 20]), ([19], [19]), ([22, 19], [19, 22]), ([19], [19]), ([24, 19], [19, 24]), ([21, 23, 25, 19, 19], [19, 21, 23, 25]), ([19], [19]), ([26, 27, 19], [19, 26, 27]), ([19, 28], [19, 28]), ([29, 26, 0, 1, 2, 3, 4, 5, 6, 7, 8, 9, 10, 11, 12, 13, 14, 15, 16, 17, 18, 19, 20, 21, 22, 23, 24, 25, 26, 27, 28, 29], [29])])
def spec_VoteOk.B1 : List Nat := [0, 1, 3, 7, 15, 7, 39, 127, 255, 511, 1023, 2047, 4095, 8191, 16383, 32767, 65535, 131071, 262143, 524287, 1048575, 2097151, 1048575, 5242879, 1048575, 17825791, 67108863, 1048575, 268435455, 536870911, 1073741823]
theorem spec_VoteOk.tab1 : rtab .any (opsOf Tryd.f64 1) = spec_VoteOk.T1 := by kernel_rfl
theorem spec_VoteOk.bits1 : waitsOk spec_VoteOk.T1.2 spec_VoteOk.B1 = true := by kernel_rfl
set_option maxHeartbeats 8000000 in
set_option maxRecDepth 100000 in
theorem spec_VoteOk.calls (k : Nat) (a0_0 : Int) (a0_1 : Int) (a0_2 : Int) (a0_3 : Int) (a1 : Int) (r : Bool) (w : World) (h : spec_VoteOk.f k a0_0 a0_1 a0_2 a0_3 a1 = some r) :
  Calls Tryd.prog 64 #[.agg #[.int .i64 a0_0, .int .i64 a0_1, .int .i64 a0_2, .int .i64 a0_3], .int .i64 a1] w fun e w' => e = .returned (.bool r) ∧ Below w.heap.size w w' := by
 have hu86 := Tryd.underlying86
 have HB := Aside0.mk (Below.refl w.heap.size w)
 have H : ((spec_l15Servers.f a1).bind fun t138 => (if t138 = true then ((spec_l1In.f a0_2 0 (wrap64 (a1 - 1))).bind fun t139 => (if t139 = true then ((spec_l1In.f a0_0 1 100000).bind fun t140 => (if t140 = true then ((spec_l15Name.f a0_1).bind fun t141 => (if t141 = true then ((spec_l15Voted.f k a0_2 a0_0 a0_1).bind fun bt142 => (some (bt142.1 == a0_0 && (bt142.2.1 == a0_1 && (bt142.2.2.1 == a0_2 && (bt142.2.2.2 == a0_3)))))) else (some false))) else (some false))) else (some false))) else (some false))) = some r := h
 clear h
 replace H := Option.bind_eq_some_iff.mp H
 obtain ⟨t138, A30, H⟩ := H
 try dsimp only at H
 have A3 := Aside0.mk A30
 clear A30
 by_cases c4 : t138 = true
 ·subst c4
  have H1 : ((spec_l1In.f a0_2 0 (wrap64 (a1 - 1))).bind fun t139 => (if t139 = true then ((spec_l1In.f a0_0 1 100000).bind fun t140 => (if t140 = true then ((spec_l15Name.f a0_1).bind fun t141 => (if t141 = true then ((spec_l15Voted.f k a0_2 a0_0 a0_1).bind fun bt142 => (some (bt142.1 == a0_0 && (bt142.2.1 == a0_1 && (bt142.2.2.1 == a0_2 && (bt142.2.2.2 == a0_3)))))) else (some false))) else (some false))) else (some false))) = some r := by rw [if_pos rfl] at H; exact H
  clear H
  have H := H1
  clear H1
  replace H := Option.bind_eq_some_iff.mp H
  obtain ⟨t139, A50, H⟩ := H
  try dsimp only at H
  have A5 := Aside0.mk A50
  clear A50
  by_cases c6 : t139 = true
  ·subst c6
   have H1 : ((spec_l1In.f a0_0 1 100000).bind fun t140 => (if t140 = true then ((spec_l15Name.f a0_1).bind fun t141 => (if t141 = true then ((spec_l15Voted.f k a0_2 a0_0 a0_1).bind fun bt142 => (some (bt142.1 == a0_0 && (bt142.2.1 == a0_1 && (bt142.2.2.1 == a0_2 && (bt142.2.2.2 == a0_3)))))) else (some false))) else (some false))) = some r := by rw [if_pos rfl] at H; exact H
   clear H
   have H := H1
   clear H1
   replace H := Option.bind_eq_some_iff.mp H
   obtain ⟨t140, A70, H⟩ := H
   try dsimp only at H
   have A7 := Aside0.mk A70
   clear A70
   by_cases c8 : t140 = true
   ·subst c8
    have H1 : ((spec_l15Name.f a0_1).bind fun t141 => (if t141 = true then ((spec_l15Voted.f k a0_2 a0_0 a0_1).bind fun bt142 => (some (bt142.1 == a0_0 && (bt142.2.1 == a0_1 && (bt142.2.2.1 == a0_2 && (bt142.2.2.2 == a0_3)))))) else (some false))) = some r := by rw [if_pos rfl] at H; exact H
    clear H
    have H := H1
    clear H1
    replace H := Option.bind_eq_some_iff.mp H
    obtain ⟨t141, A90, H⟩ := H
    try dsimp only at H
    have A9 := Aside0.mk A90
    clear A90
    by_cases c10 : t141 = true
    ·subst c10
     have H1 : ((spec_l15Voted.f k a0_2 a0_0 a0_1).bind fun bt142 => (some (bt142.1 == a0_0 && (bt142.2.1 == a0_1 && (bt142.2.2.1 == a0_2 && (bt142.2.2.2 == a0_3)))))) = some r := by rw [if_pos rfl] at H; exact H
     clear H
     have H := H1
     clear H1
     replace H := Option.bind_eq_some_iff.mp H
     obtain ⟨⟨t142, t143, t144, t145⟩, A110, H⟩ := H
     try dsimp only at H
     have A11 := Aside0.mk A110
     clear A110
     obtain rfl := Option.some.inj H
     go_enter Tryd.func64, Tryd.ntmps64
     try go_wp2_with (first | ((with_reducible refine gate_dst (N := 2) rfl ?_); refine box_event ?hg (N := 2) ?hd (cs := #[.int .i64 a0_0, .int .i64 a0_1, .int .i64 a0_2, .int .i64 a0_3]) (t := 86) ?hr ?_; (case hd => rfl); (case hg => rfl); (case hr => first | (go_simp; done) | (go_simp; rfl)); intro gb137 hg w12 hbox hb; have BK137 := Aside0.mk (hbox); have GW137 := Aside0.mk ((by rw [hg]; exact (below_size Z0) : w.heap.size ≤ gb137)); have GE137 := Aside0.mk ((by rw [hg]; exact (below_size Z0) : w.heap.size ≤ gb137)); replace HB := Aside0.mk (below_step Z0 hb); clear hb hbox hg))
     replace BK137 := Aside0.mk (blk_drew BK137.out)
     replace HB := Aside0.mk (below_drew1 HB.out)
     refine wp_quiet_below (by kernel_rfl) (by kernel_rfl) ?_
     generalize w12.drew = w13 at BK137 HB ⊢
     have sq0_ : ∀ p_ : Bw w13, p_.W.cell? ⟨gb137, 0, none⟩ = some (.int .i64 a0_0) := fun p_ => p_.cell ((blk_cell BK137.out 0).trans rfl)
     have sq1_ : ∀ p_ : Bw w13, p_.W.cell? ⟨gb137, 1, none⟩ = some (.int .i64 a0_1) := fun p_ => p_.cell ((blk_cell BK137.out 1).trans rfl)
     have sq2_ : ∀ p_ : Bw w13, p_.W.cell? ⟨gb137, 2, none⟩ = some (.int .i64 a0_2) := fun p_ => p_.cell ((blk_cell BK137.out 2).trans rfl)
     have sq3_ : ∀ p_ : Bw w13, p_.W.cell? ⟨gb137, 3, none⟩ = some (.int .i64 a0_3) := fun p_ => p_.cell ((blk_cell BK137.out 3).trans rfl)
     have eq32_ : ∀ args w, (callFunc 32 args).run Tryd.prog w = .ok (.enter 32 args) w := enters_ Tryd.func32 (by kernel_rfl) rfl
     have eq41_ : ∀ args w, (callFunc 41 args).run Tryd.prog w = .ok (.enter 41 args) w := enters_ Tryd.func41 (by kernel_rfl) rfl
     have eq62_ : ∀ args w, (callFunc 62 args).run Tryd.prog w = .ok (.enter 62 args) w := enters_ Tryd.func62 (by kernel_rfl) rfl
     have eq65_ : ∀ args w, (callFunc 65 args).run Tryd.prog w = .ok (.enter 65 args) w := enters_ Tryd.func65 (by kernel_rfl) rfl
     repeat (go_big_quiet_step ((rename_i p_; have hb := p_.h; have n0_ := Aside0.mk (blk_below (g := gb137) (o := .cells #[.int .i64 a0_0, .int .i64 a0_1, .int .i64 a0_2, .int .i64 a0_3] 86 (0, 0)) (by (with_reducible repeat (first | refine blk_drewN ?_ _ | refine blk_drew ?_ | refine blk_alloc ?_ _)); exact BK137.out) hb); have n1_ := Aside0.mk (below_step J19 hb); have BK137 := n0_; have HB := n1_; first | (go_at_fn 41; with_reducible exact Calls.bw0 (spec_l15Servers.calls a1 true _ A3.out)) | (go_at_fn 32; with_reducible exact Calls.bw0 (spec_l1In.calls a0_2 0 (wrap64 (a1 - 1)) true _ A5.out)) | (go_at_fn 32; with_reducible exact Calls.bw0 (spec_l1In.calls a0_0 1 100000 true _ A7.out)) | (go_at_fn 62; with_reducible exact Calls.bw0 (spec_l15Name.calls a0_1 true _ A9.out)) | (go_at_fn 65; with_reducible exact Calls.bw (spec_l15Voted.calls k a0_2 a0_0 a0_1 t142 t143 t144 t145 _ A11.out)))))
     refine wpQuiet_nil ?_
     clear sq0_ sq1_ sq2_ sq3_ eq32_ eq41_ eq62_ eq65_
     rintro w14 ⟨q_, hq_⟩
     have hb := q_.h
     rw [← hq_] at hb
     clear hq_ q_
     replace BK137 := Aside0.mk (blk_below (g := gb137) (o := .cells #[.int .i64 a0_0, .int .i64 a0_1, .int .i64 a0_2, .int .i64 a0_3] 86 (0, 0)) (by (with_reducible repeat (first | refine blk_drewN ?_ _ | refine blk_drew ?_ | refine blk_alloc ?_ _)); exact BK137.out) hb)
     replace HB := Aside0.mk (below_step J19 hb)
     (try clear hb)
     (try clear hb2)
     (try clear hk)
     (try clear hi)
     try go_wp2
     go_ret
     exact ⟨J0, J19⟩
    ·replace c10 := Bool.eq_false_iff.mpr c10
     subst c10
     have H1 : (some false) = some r := by rw [if_neg (show ¬ (false = true) by decide)] at H; exact H
     clear H
     have H := H1
     clear H1
     obtain rfl := Option.some.inj H
     go_enter Tryd.func64, Tryd.ntmps64
     try go_wp2_with (first | ((with_reducible refine gate_dst (N := 2) rfl ?_); refine box_event ?hg (N := 2) ?hd (cs := #[.int .i64 a0_0, .int .i64 a0_1, .int .i64 a0_2, .int .i64 a0_3]) (t := 86) ?hr ?_; (case hd => rfl); (case hg => rfl); (case hr => first | (go_simp; done) | (go_simp; rfl)); intro gb137 hg w15 hbox hb; have BK137 := Aside0.mk (hbox); have GW137 := Aside0.mk ((by rw [hg]; exact (below_size Z0) : w.heap.size ≤ gb137)); have GE137 := Aside0.mk ((by rw [hg]; exact (below_size Z0) : w.heap.size ≤ gb137)); replace HB := Aside0.mk (below_step Z0 hb); clear hb hbox hg))
     replace BK137 := Aside0.mk (blk_drew BK137.out)
     replace HB := Aside0.mk (below_drew1 HB.out)
     refine wp_quiet_drawn (by kernel_rfl) (by kernel_rfl) ?_
     generalize w15.drew = w16 at BK137 HB ⊢
     have sq0_ : ∀ p_ : Bd w16, (w16.drewN p_.n).cell? ⟨gb137, 0, none⟩ = some (.int .i64 a0_0) := fun p_ => p_.cell ((blk_cell BK137.out 0).trans rfl)
     have sq1_ : ∀ p_ : Bd w16, (w16.drewN p_.n).cell? ⟨gb137, 1, none⟩ = some (.int .i64 a0_1) := fun p_ => p_.cell ((blk_cell BK137.out 1).trans rfl)
     have sq2_ : ∀ p_ : Bd w16, (w16.drewN p_.n).cell? ⟨gb137, 2, none⟩ = some (.int .i64 a0_2) := fun p_ => p_.cell ((blk_cell BK137.out 2).trans rfl)
     have sq3_ : ∀ p_ : Bd w16, (w16.drewN p_.n).cell? ⟨gb137, 3, none⟩ = some (.int .i64 a0_3) := fun p_ => p_.cell ((blk_cell BK137.out 3).trans rfl)
     have eq32_ : ∀ args w, (callFunc 32 args).run Tryd.prog w = .ok (.enter 32 args) w := enters_ Tryd.func32 (by kernel_rfl) rfl
     have eq41_ : ∀ args w, (callFunc 41 args).run Tryd.prog w = .ok (.enter 41 args) w := enters_ Tryd.func41 (by kernel_rfl) rfl
     have eq62_ : ∀ args w, (callFunc 62 args).run Tryd.prog w = .ok (.enter 62 args) w := enters_ Tryd.func62 (by kernel_rfl) rfl
     repeat (go_big_quiet_step ((rename_i p_; first | (go_at_fn 41; with_reducible exact Calls.bd (spec_l15Servers.calls a1 true _ A3.out)) | (go_at_fn 32; with_reducible exact Calls.bd (spec_l1In.calls a0_2 0 (wrap64 (a1 - 1)) true _ A5.out)) | (go_at_fn 32; with_reducible exact Calls.bd (spec_l1In.calls a0_0 1 100000 true _ A7.out)) | (go_at_fn 62; with_reducible exact Calls.bd (spec_l15Name.calls a0_1 false _ A9.out)))))
     refine wpQuiet_nil ?_
     clear sq0_ sq1_ sq2_ sq3_ eq32_ eq41_ eq62_
     rintro _ ⟨⟨nd⟩, rfl⟩
     try go_wp2
     go_ret
     exact ⟨J0, J19⟩
   ·replace c8 := Bool.eq_false_iff.mpr c8
    subst c8
    have H1 : (some false) = some r := by rw [if_neg (show ¬ (false = true) by decide)] at H; exact H
    clear H
    have H := H1
    clear H1
    obtain rfl := Option.some.inj H
    go_enter Tryd.func64, Tryd.ntmps64
    try go_wp2_with (first | ((with_reducible refine gate_dst (N := 2) rfl ?_); refine box_event ?hg (N := 2) ?hd (cs := #[.int .i64 a0_0, .int .i64 a0_1, .int .i64 a0_2, .int .i64 a0_3]) (t := 86) ?hr ?_; (case hd => rfl); (case hg => rfl); (case hr => first | (go_simp; done) | (go_simp; rfl)); intro gb137 hg w17 hbox hb; have BK137 := Aside0.mk (hbox); have GW137 := Aside0.mk ((by rw [hg]; exact (below_size Z0) : w.heap.size ≤ gb137)); have GE137 := Aside0.mk ((by rw [hg]; exact (below_size Z0) : w.heap.size ≤ gb137)); replace HB := Aside0.mk (below_step Z0 hb); clear hb hbox hg))
    replace BK137 := Aside0.mk (blk_drew BK137.out)
    replace HB := Aside0.mk (below_drew1 HB.out)
    refine wp_quiet_drawn (by kernel_rfl) (by kernel_rfl) ?_
    generalize w17.drew = w18 at BK137 HB ⊢
    have sq0_ : ∀ p_ : Bd w18, (w18.drewN p_.n).cell? ⟨gb137, 0, none⟩ = some (.int .i64 a0_0) := fun p_ => p_.cell ((blk_cell BK137.out 0).trans rfl)
    have sq1_ : ∀ p_ : Bd w18, (w18.drewN p_.n).cell? ⟨gb137, 1, none⟩ = some (.int .i64 a0_1) := fun p_ => p_.cell ((blk_cell BK137.out 1).trans rfl)
    have sq2_ : ∀ p_ : Bd w18, (w18.drewN p_.n).cell? ⟨gb137, 2, none⟩ = some (.int .i64 a0_2) := fun p_ => p_.cell ((blk_cell BK137.out 2).trans rfl)
    have sq3_ : ∀ p_ : Bd w18, (w18.drewN p_.n).cell? ⟨gb137, 3, none⟩ = some (.int .i64 a0_3) := fun p_ => p_.cell ((blk_cell BK137.out 3).trans rfl)
    have eq32_ : ∀ args w, (callFunc 32 args).run Tryd.prog w = .ok (.enter 32 args) w := enters_ Tryd.func32 (by kernel_rfl) rfl
    have eq41_ : ∀ args w, (callFunc 41 args).run Tryd.prog w = .ok (.enter 41 args) w := enters_ Tryd.func41 (by kernel_rfl) rfl
    repeat (go_big_quiet_step ((rename_i p_; first | (go_at_fn 41; with_reducible exact Calls.bd (spec_l15Servers.calls a1 true _ A3.out)) | (go_at_fn 32; with_reducible exact Calls.bd (spec_l1In.calls a0_2 0 (wrap64 (a1 - 1)) true _ A5.out)) | (go_at_fn 32; with_reducible exact Calls.bd (spec_l1In.calls a0_0 1 100000 false _ A7.out)))))
    refine wpQuiet_nil ?_
    clear sq0_ sq1_ sq2_ sq3_ eq32_ eq41_
    rintro _ ⟨⟨nd⟩, rfl⟩
    try go_wp2
    go_ret
    exact ⟨J0, J19⟩
  ·replace c6 := Bool.eq_false_iff.mpr c6
   subst c6
   have H1 : (some false) = some r := by rw [if_neg (show ¬ (false = true) by decide)] at H; exact H
   clear H
   have H := H1
   clear H1
   obtain rfl := Option.some.inj H
   go_enter Tryd.func64, Tryd.ntmps64
   try go_wp2_with (first | ((with_reducible refine gate_dst (N := 2) rfl ?_); refine box_event ?hg (N := 2) ?hd (cs := #[.int .i64 a0_0, .int .i64 a0_1, .int .i64 a0_2, .int .i64 a0_3]) (t := 86) ?hr ?_; (case hd => rfl); (case hg => rfl); (case hr => first | (go_simp; done) | (go_simp; rfl)); intro gb137 hg w19 hbox hb; have BK137 := Aside0.mk (hbox); have GW137 := Aside0.mk ((by rw [hg]; exact (below_size Z0) : w.heap.size ≤ gb137)); have GE137 := Aside0.mk ((by rw [hg]; exact (below_size Z0) : w.heap.size ≤ gb137)); replace HB := Aside0.mk (below_step Z0 hb); clear hb hbox hg))
   replace BK137 := Aside0.mk (blk_drew BK137.out)
   replace HB := Aside0.mk (below_drew1 HB.out)
   refine wp_quiet_drawn (by kernel_rfl) (by kernel_rfl) ?_
   generalize w19.drew = w20 at BK137 HB ⊢
   have sq0_ : ∀ p_ : Bd w20, (w20.drewN p_.n).cell? ⟨gb137, 0, none⟩ = some (.int .i64 a0_0) := fun p_ => p_.cell ((blk_cell BK137.out 0).trans rfl)
   have sq1_ : ∀ p_ : Bd w20, (w20.drewN p_.n).cell? ⟨gb137, 1, none⟩ = some (.int .i64 a0_1) := fun p_ => p_.cell ((blk_cell BK137.out 1).trans rfl)
   have sq2_ : ∀ p_ : Bd w20, (w20.drewN p_.n).cell? ⟨gb137, 2, none⟩ = some (.int .i64 a0_2) := fun p_ => p_.cell ((blk_cell BK137.out 2).trans rfl)
   have sq3_ : ∀ p_ : Bd w20, (w20.drewN p_.n).cell? ⟨gb137, 3, none⟩ = some (.int .i64 a0_3) := fun p_ => p_.cell ((blk_cell BK137.out 3).trans rfl)
   have eq32_ : ∀ args w, (callFunc 32 args).run Tryd.prog w = .ok (.enter 32 args) w := enters_ Tryd.func32 (by kernel_rfl) rfl
   have eq41_ : ∀ args w, (callFunc 41 args).run Tryd.prog w = .ok (.enter 41 args) w := enters_ Tryd.func41 (by kernel_rfl) rfl
   repeat (go_big_quiet_step ((rename_i p_; first | (go_at_fn 41; with_reducible exact Calls.bd (spec_l15Servers.calls a1 true _ A3.out)) | (go_at_fn 32; with_reducible exact Calls.bd (spec_l1In.calls a0_2 0 (wrap64 (a1 - 1)) false _ A5.out)))))
   refine wpQuiet_nil ?_
   clear sq0_ sq1_ sq2_ sq3_ eq32_ eq41_
   rintro _ ⟨⟨nd⟩, rfl⟩
   try go_wp2
   go_ret
   exact ⟨J0, J19⟩
 ·replace c4 := Bool.eq_false_iff.mpr c4
  subst c4
  have H1 : (some false) = some r := by rw [if_neg (show ¬ (false = true) by decide)] at H; exact H
  clear H
  have H := H1
  clear H1
  obtain rfl := Option.some.inj H
  go_enter Tryd.func64, Tryd.ntmps64
  try go_wp2_with (first | ((with_reducible refine gate_dst (N := 2) rfl ?_); refine box_event ?hg (N := 2) ?hd (cs := #[.int .i64 a0_0, .int .i64 a0_1, .int .i64 a0_2, .int .i64 a0_3]) (t := 86) ?hr ?_; (case hd => rfl); (case hg => rfl); (case hr => first | (go_simp; done) | (go_simp; rfl)); intro gb137 hg w21 hbox hb; have BK137 := Aside0.mk (hbox); have GW137 := Aside0.mk ((by rw [hg]; exact (below_size Z0) : w.heap.size ≤ gb137)); have GE137 := Aside0.mk ((by rw [hg]; exact (below_size Z0) : w.heap.size ≤ gb137)); replace HB := Aside0.mk (below_step Z0 hb); clear hb hbox hg))
  replace BK137 := Aside0.mk (blk_drew BK137.out)
  replace HB := Aside0.mk (below_drew1 HB.out)
  refine wp_quiet_drawn (by kernel_rfl) (by kernel_rfl) ?_
  generalize w21.drew = w22 at BK137 HB ⊢
  have eq41_ : ∀ args w, (callFunc 41 args).run Tryd.prog w = .ok (.enter 41 args) w := enters_ Tryd.func41 (by kernel_rfl) rfl
  repeat (go_big_quiet_step ((rename_i p_; go_at_fn 41; with_reducible exact Calls.bd (spec_l15Servers.calls a1 false _ A3.out))))
  refine wpQuiet_nil ?_
  clear eq41_
  rintro _ ⟨⟨nd⟩, rfl⟩
  try go_wp2
  go_ret
  exact ⟨J0, J19⟩

end Go.Proofs.YtokhjhkkncbjeaaDoor.PFnBlocks
