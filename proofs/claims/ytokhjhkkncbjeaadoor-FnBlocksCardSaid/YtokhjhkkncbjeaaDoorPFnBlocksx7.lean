-- Written by a program of this session (wip/tools/pp.py over the kit's print).
import Derived.Test.YtokhjhkkncbjeaaDoorVFnBlocks
import Derived.Test.YtokhjhkkncbjeaaDoorPFnBlocksx0
import Derived.Test.YtokhjhkkncbjeaaDoorPFnBlocksx2
import Derived.Test.YtokhjhkkncbjeaaDoorPFnBlocksx3
namespace Go.Proofs.YtokhjhkkncbjeaaDoor.PFnBlocks
open Go.RowKit Go.Proofs.YtokhjhkkncbjeaaDoorW.PrintWords Go.Proofs.YtokhjhkkncbjeaaDoorW.PrintLast Go.Proofs.YtokhjhkkncbjeaaDoorW.PrintMore
attribute [local go_sem] max2_int min2_int max_two min_two max_three min_three max_four min_four
attribute [local go_sem high] str_gtr str_leq str_geq
set_option linter.unusedVariables false
set_option linter.unusedSimpArgs false

/-! ### spec_MoveOk: function 68 -/
def spec_MoveOk.f (a0_0 : Int) (a0_1 : Int) (a0_2 : Int) (a0_3 : Int) : Option (Bool) := (spec_l1In.f a0_0 0 7).bind fun t229 => (if t229 = true then ((spec_l1In.f a0_1 0 7).bind fun t230 => (if t230 = true then ((spec_l1In.f a0_2 1 1000000000).bind fun t231 => (if t231 = true then ((spec_l1In.f a0_3 0 999999).bind fun t232 => (some t232)) else (some false))) else (some false))) else (some false))
set_option maxHeartbeats 8000000 in
set_option maxRecDepth 100000 in
theorem spec_MoveOk.calls (a0_0 : Int) (a0_1 : Int) (a0_2 : Int) (a0_3 : Int) (r : Bool) (w : World) (h : spec_MoveOk.f a0_0 a0_1 a0_2 a0_3 = some r) :
  Calls Tryd.prog 68 #[.agg #[.int .i64 a0_0, .int .i64 a0_1, .int .i64 a0_2, .int .i64 a0_3]] w fun e w' => e = .returned (.bool r) ∧ Below w.heap.size w w' := by
 have hu73 := Tryd.underlying73
 have HB := Aside0.mk (Below.refl w.heap.size w)
 have H : ((spec_l1In.f a0_0 0 7).bind fun t229 => (if t229 = true then ((spec_l1In.f a0_1 0 7).bind fun t230 => (if t230 = true then ((spec_l1In.f a0_2 1 1000000000).bind fun t231 => (if t231 = true then ((spec_l1In.f a0_3 0 999999).bind fun t232 => (some t232)) else (some false))) else (some false))) else (some false))) = some r := h
 clear h
 replace H := Option.bind_eq_some_iff.mp H
 obtain ⟨t229, A20, H⟩ := H
 try dsimp only at H
 have A2 := Aside0.mk A20
 clear A20
 by_cases c3 : t229 = true
 ·subst c3
  have H1 : ((spec_l1In.f a0_1 0 7).bind fun t230 => (if t230 = true then ((spec_l1In.f a0_2 1 1000000000).bind fun t231 => (if t231 = true then ((spec_l1In.f a0_3 0 999999).bind fun t232 => (some t232)) else (some false))) else (some false))) = some r := by rw [if_pos rfl] at H; exact H
  clear H
  have H := H1
  clear H1
  replace H := Option.bind_eq_some_iff.mp H
  obtain ⟨t230, A40, H⟩ := H
  try dsimp only at H
  have A4 := Aside0.mk A40
  clear A40
  by_cases c5 : t230 = true
  ·subst c5
   have H1 : ((spec_l1In.f a0_2 1 1000000000).bind fun t231 => (if t231 = true then ((spec_l1In.f a0_3 0 999999).bind fun t232 => (some t232)) else (some false))) = some r := by rw [if_pos rfl] at H; exact H
   clear H
   have H := H1
   clear H1
   replace H := Option.bind_eq_some_iff.mp H
   obtain ⟨t231, A60, H⟩ := H
   try dsimp only at H
   have A6 := Aside0.mk A60
   clear A60
   by_cases c7 : t231 = true
   ·subst c7
    have H1 : ((spec_l1In.f a0_3 0 999999).bind fun t232 => (some t232)) = some r := by rw [if_pos rfl] at H; exact H
    clear H
    have H := H1
    clear H1
    replace H := Option.bind_eq_some_iff.mp H
    obtain ⟨t232, A80, H⟩ := H
    replace H : (some t232) = some r := H
    have A8 := Aside0.mk A80
    clear A80
    obtain rfl := Option.some.inj H
    go_enter Tryd.func68, Tryd.ntmps68
    go_wp2_with (first | ((with_reducible refine gate_dst (N := 1) rfl ?_); refine box_event ?hg (N := 1) ?hd (cs := #[.int .i64 a0_0, .int .i64 a0_1, .int .i64 a0_2, .int .i64 a0_3]) (t := 73) ?hr ?_; (case hd => rfl); (case hg => rfl); (case hr => first | (go_simp; done) | (go_simp; rfl)); intro gb228 hg w9 hbox hb; have BK228 := Aside0.mk (hbox); have GW228 := Aside0.mk ((by rw [hg]; exact (below_size Z0) : w.heap.size ≤ gb228)); have GE228 := Aside0.mk ((by rw [hg]; exact (below_size Z0) : w.heap.size ≤ gb228)); replace HB := Aside0.mk (below_step Z0 hb); clear hb hbox hg; have hcz10_0 : w9.cell? ⟨gb228, 0, none⟩ = some (.int .i64 a0_0) := (blk_cell BK228.out 0).trans rfl; have hcz10_1 : w9.cell? ⟨gb228, 1, none⟩ = some (.int .i64 a0_1) := (blk_cell BK228.out 1).trans rfl; have hcz10_2 : w9.cell? ⟨gb228, 2, none⟩ = some (.int .i64 a0_2) := (blk_cell BK228.out 2).trans rfl; have hcz10_3 : w9.cell? ⟨gb228, 3, none⟩ = some (.int .i64 a0_3) := (blk_cell BK228.out 3).trans rfl; have hfz10_0 := blk_frozen BK228.out 0; have hfz10_1 := blk_frozen BK228.out 1; have hfz10_2 := blk_frozen BK228.out 2; have hfz10_3 := blk_frozen BK228.out 3) | ((with_reducible refine gate_callee (f := 32) rfl ?_); refine goesL_ (some 5) rfl rfl Tryd.func32 (by kernel_rfl) rfl #[.int .i64 a0_0, .int .i64 0, .int .i64 7] rfl Z2 ?_; (with_reducible refine (spec_l1In.calls a0_0 0 7 true _ A2.out).mono ?_); rintro e w' ⟨rfl, ⟨nd, rfl⟩⟩; refine ⟨_, rfl, ?_⟩) | (go_at_call 32; (with_reducible refine (spec_l1In.calls a0_1 0 7 true _ A4.out).mono ?_); rintro e w' ⟨rfl, ⟨nd, rfl⟩⟩) | (go_at_call 32; (with_reducible refine (spec_l1In.calls a0_2 1 1000000000 true _ A6.out).mono ?_); rintro e w' ⟨rfl, ⟨nd, rfl⟩⟩) | (go_at_call 32; (with_reducible refine (spec_l1In.calls a0_3 0 999999 t232 _ A8.out).mono ?_); rintro e w' ⟨rfl, ⟨nd, rfl⟩⟩))
    go_ret
    exact ⟨J0, J1⟩
   ·replace c7 := Bool.eq_false_iff.mpr c7
    subst c7
    have H1 : (some false) = some r := by rw [if_neg (show ¬ (false = true) by decide)] at H; exact H
    clear H
    have H := H1
    clear H1
    obtain rfl := Option.some.inj H
    go_enter Tryd.func68, Tryd.ntmps68
    go_wp2_with (first | ((with_reducible refine gate_dst (N := 1) rfl ?_); refine box_event ?hg (N := 1) ?hd (cs := #[.int .i64 a0_0, .int .i64 a0_1, .int .i64 a0_2, .int .i64 a0_3]) (t := 73) ?hr ?_; (case hd => rfl); (case hg => rfl); (case hr => first | (go_simp; done) | (go_simp; rfl)); intro gb228 hg w11 hbox hb; have BK228 := Aside0.mk (hbox); have GW228 := Aside0.mk ((by rw [hg]; exact (below_size Z0) : w.heap.size ≤ gb228)); have GE228 := Aside0.mk ((by rw [hg]; exact (below_size Z0) : w.heap.size ≤ gb228)); replace HB := Aside0.mk (below_step Z0 hb); clear hb hbox hg; have hcz12_0 : w11.cell? ⟨gb228, 0, none⟩ = some (.int .i64 a0_0) := (blk_cell BK228.out 0).trans rfl; have hcz12_1 : w11.cell? ⟨gb228, 1, none⟩ = some (.int .i64 a0_1) := (blk_cell BK228.out 1).trans rfl; have hcz12_2 : w11.cell? ⟨gb228, 2, none⟩ = some (.int .i64 a0_2) := (blk_cell BK228.out 2).trans rfl; have hcz12_3 : w11.cell? ⟨gb228, 3, none⟩ = some (.int .i64 a0_3) := (blk_cell BK228.out 3).trans rfl; have hfz12_0 := blk_frozen BK228.out 0; have hfz12_1 := blk_frozen BK228.out 1; have hfz12_2 := blk_frozen BK228.out 2; have hfz12_3 := blk_frozen BK228.out 3) | ((with_reducible refine gate_callee (f := 32) rfl ?_); refine goesL_ (some 5) rfl rfl Tryd.func32 (by kernel_rfl) rfl #[.int .i64 a0_0, .int .i64 0, .int .i64 7] rfl Z2 ?_; (with_reducible refine (spec_l1In.calls a0_0 0 7 true _ A2.out).mono ?_); rintro e w' ⟨rfl, ⟨nd, rfl⟩⟩; refine ⟨_, rfl, ?_⟩) | (go_at_call 32; (with_reducible refine (spec_l1In.calls a0_1 0 7 true _ A4.out).mono ?_); rintro e w' ⟨rfl, ⟨nd, rfl⟩⟩) | (go_at_call 32; (with_reducible refine (spec_l1In.calls a0_2 1 1000000000 false _ A6.out).mono ?_); rintro e w' ⟨rfl, ⟨nd, rfl⟩⟩))
    go_ret
    exact ⟨J0, J39⟩
  ·replace c5 := Bool.eq_false_iff.mpr c5
   subst c5
   have H1 : (some false) = some r := by rw [if_neg (show ¬ (false = true) by decide)] at H; exact H
   clear H
   have H := H1
   clear H1
   obtain rfl := Option.some.inj H
   go_enter Tryd.func68, Tryd.ntmps68
   go_wp2_with (first | ((with_reducible refine gate_dst (N := 1) rfl ?_); refine box_event ?hg (N := 1) ?hd (cs := #[.int .i64 a0_0, .int .i64 a0_1, .int .i64 a0_2, .int .i64 a0_3]) (t := 73) ?hr ?_; (case hd => rfl); (case hg => rfl); (case hr => first | (go_simp; done) | (go_simp; rfl)); intro gb228 hg w13 hbox hb; have BK228 := Aside0.mk (hbox); have GW228 := Aside0.mk ((by rw [hg]; exact (below_size Z0) : w.heap.size ≤ gb228)); have GE228 := Aside0.mk ((by rw [hg]; exact (below_size Z0) : w.heap.size ≤ gb228)); replace HB := Aside0.mk (below_step Z0 hb); clear hb hbox hg; have hcz14_0 : w13.cell? ⟨gb228, 0, none⟩ = some (.int .i64 a0_0) := (blk_cell BK228.out 0).trans rfl; have hcz14_1 : w13.cell? ⟨gb228, 1, none⟩ = some (.int .i64 a0_1) := (blk_cell BK228.out 1).trans rfl; have hcz14_2 : w13.cell? ⟨gb228, 2, none⟩ = some (.int .i64 a0_2) := (blk_cell BK228.out 2).trans rfl; have hcz14_3 : w13.cell? ⟨gb228, 3, none⟩ = some (.int .i64 a0_3) := (blk_cell BK228.out 3).trans rfl; have hfz14_0 := blk_frozen BK228.out 0; have hfz14_1 := blk_frozen BK228.out 1; have hfz14_2 := blk_frozen BK228.out 2; have hfz14_3 := blk_frozen BK228.out 3) | ((with_reducible refine gate_callee (f := 32) rfl ?_); refine goesL_ (some 5) rfl rfl Tryd.func32 (by kernel_rfl) rfl #[.int .i64 a0_0, .int .i64 0, .int .i64 7] rfl Z2 ?_; (with_reducible refine (spec_l1In.calls a0_0 0 7 true _ A2.out).mono ?_); rintro e w' ⟨rfl, ⟨nd, rfl⟩⟩; refine ⟨_, rfl, ?_⟩) | (go_at_call 32; (with_reducible refine (spec_l1In.calls a0_1 0 7 false _ A4.out).mono ?_); rintro e w' ⟨rfl, ⟨nd, rfl⟩⟩))
   go_ret
   exact ⟨J0, J39⟩
 ·replace c3 := Bool.eq_false_iff.mpr c3
  subst c3
  have H1 : (some false) = some r := by rw [if_neg (show ¬ (false = true) by decide)] at H; exact H
  clear H
  have H := H1
  clear H1
  obtain rfl := Option.some.inj H
  go_enter Tryd.func68, Tryd.ntmps68
  go_wp2_with (first | ((with_reducible refine gate_dst (N := 1) rfl ?_); refine box_event ?hg (N := 1) ?hd (cs := #[.int .i64 a0_0, .int .i64 a0_1, .int .i64 a0_2, .int .i64 a0_3]) (t := 73) ?hr ?_; (case hd => rfl); (case hg => rfl); (case hr => first | (go_simp; done) | (go_simp; rfl)); intro gb228 hg w15 hbox hb; have BK228 := Aside0.mk (hbox); have GW228 := Aside0.mk ((by rw [hg]; exact (below_size Z0) : w.heap.size ≤ gb228)); have GE228 := Aside0.mk ((by rw [hg]; exact (below_size Z0) : w.heap.size ≤ gb228)); replace HB := Aside0.mk (below_step Z0 hb); clear hb hbox hg; have hcz16_0 : w15.cell? ⟨gb228, 0, none⟩ = some (.int .i64 a0_0) := (blk_cell BK228.out 0).trans rfl; have hcz16_1 : w15.cell? ⟨gb228, 1, none⟩ = some (.int .i64 a0_1) := (blk_cell BK228.out 1).trans rfl; have hcz16_2 : w15.cell? ⟨gb228, 2, none⟩ = some (.int .i64 a0_2) := (blk_cell BK228.out 2).trans rfl; have hcz16_3 : w15.cell? ⟨gb228, 3, none⟩ = some (.int .i64 a0_3) := (blk_cell BK228.out 3).trans rfl; have hfz16_0 := blk_frozen BK228.out 0; have hfz16_1 := blk_frozen BK228.out 1; have hfz16_2 := blk_frozen BK228.out 2; have hfz16_3 := blk_frozen BK228.out 3) | ((with_reducible refine gate_callee (f := 32) rfl ?_); refine goesL_ (some 5) rfl rfl Tryd.func32 (by kernel_rfl) rfl #[.int .i64 a0_0, .int .i64 0, .int .i64 7] rfl Z2 ?_; (with_reducible refine (spec_l1In.calls a0_0 0 7 false _ A2.out).mono ?_); rintro e w' ⟨rfl, ⟨nd, rfl⟩⟩; refine ⟨_, rfl, ?_⟩))
  go_ret
  exact ⟨J0, J39⟩

/-! ### spec_ShowMove: function 47 -/
def spec_ShowMove.f (k : Nat) (a0_0 : Int) (a0_1 : Int) (a0_2 : Int) (a0_3 : Int) : Option (ByteArray) := (spec_MoveOk.f a0_0 a0_1 a0_2 a0_3).bind fun t234 => (if t234 = true then ((spec_l2Int.f k a0_0).bind fun t235 => (if t235.size + 1 ≤ 9223372036854775807 then ((spec_l2Int.f k a0_1).bind fun t236 => (if (t235 ++ (⟨#[32]⟩ : ByteArray)).size + t236.size ≤ 9223372036854775807 then (if ((t235 ++ (⟨#[32]⟩ : ByteArray)) ++ t236).size + 1 ≤ 9223372036854775807 then ((spec_l2Int.f k a0_2).bind fun t237 => (if (((t235 ++ (⟨#[32]⟩ : ByteArray)) ++ t236) ++ (⟨#[32]⟩ : ByteArray)).size + t237.size ≤ 9223372036854775807 then (if ((((t235 ++ (⟨#[32]⟩ : ByteArray)) ++ t236) ++ (⟨#[32]⟩ : ByteArray)) ++ t237).size + 1 ≤ 9223372036854775807 then ((spec_l2Int.f k a0_3).bind fun t238 => (if (((((t235 ++ (⟨#[32]⟩ : ByteArray)) ++ t236) ++ (⟨#[32]⟩ : ByteArray)) ++ t237) ++ (⟨#[32]⟩ : ByteArray)).size + t238.size ≤ 9223372036854775807 then (some ((((((t235 ++ (⟨#[32]⟩ : ByteArray)) ++ t236) ++ (⟨#[32]⟩ : ByteArray)) ++ t237) ++ (⟨#[32]⟩ : ByteArray)) ++ t238)) else (none))) else (none)) else (none))) else (none)) else (none))) else (none))) else (some (⟨#[]⟩ : ByteArray)))
theorem spec_ShowMove.mono : ∀ a0 a1 a2 a3 k, LeO (spec_ShowMove.f k a0 a1 a2 a3) (spec_ShowMove.f (k + 1) a0 a1 a2 a3) := by
 intro a0 a1 a2 a3 k
 unfold spec_ShowMove.f
 repeat' with_reducible first
   | exact spec_l2Int.mono _ _
   | exact LeO.refl _
   | exact LeO.none _
   | refine LeO.ite ?_ ?_
   | refine LeO.bind ?_ (fun _ => ?_)
def spec_ShowMove.T3 : Bool × List (List Nat × List Nat) := (true, [([], []), ([0], [0]), ([1], [1]), ([2], [2]), ([], []), ([4], [4]), ([5, 2], [5]), ([3, 6], [3, 6]), ([7], [7]), ([], []), ([9], [9]), ([10, 6], [10]), ([8, 11], [8, 11]), ([12], [12]), ([], []), ([14], [14]), ([15, 11], [15]), ([13, 16], [13, 16]), ([17, 16, 0, 1, 2, 3, 4, 5, 6, 7, 8, 9, 10, 11, 12, 13, 14, 15, 16, 17], [17])])
def spec_ShowMove.B3 : List Nat := [0, 1, 3, 7, 0, 16, 55, 127, 255, 0, 512, 1655, 4095, 8191, 0, 16384, 52855, 131071, 262143]
theorem spec_ShowMove.tab3 : rtab .any (opsOf Tryd.f47 3) = spec_ShowMove.T3 := by kernel_rfl
theorem spec_ShowMove.bits3 : waitsOk spec_ShowMove.T3.2 spec_ShowMove.B3 = true := by kernel_rfl
set_option maxHeartbeats 8000000 in
set_option maxRecDepth 100000 in
theorem spec_ShowMove.calls (k : Nat) (a0_0 : Int) (a0_1 : Int) (a0_2 : Int) (a0_3 : Int) (r : ByteArray) (w : World) (h : spec_ShowMove.f k a0_0 a0_1 a0_2 a0_3 = some r) :
  Calls Tryd.prog 47 #[.agg #[.int .i64 a0_0, .int .i64 a0_1, .int .i64 a0_2, .int .i64 a0_3]] w fun e w' => e = .returned (.string r) ∧ Below w.heap.size w w' := by
 have hu73 := Tryd.underlying73
 have HB := Aside0.mk (Below.refl w.heap.size w)
 have H : ((spec_MoveOk.f a0_0 a0_1 a0_2 a0_3).bind fun t234 => (if t234 = true then ((spec_l2Int.f k a0_0).bind fun t235 => (if t235.size + 1 ≤ 9223372036854775807 then ((spec_l2Int.f k a0_1).bind fun t236 => (if (t235 ++ (⟨#[32]⟩ : ByteArray)).size + t236.size ≤ 9223372036854775807 then (if ((t235 ++ (⟨#[32]⟩ : ByteArray)) ++ t236).size + 1 ≤ 9223372036854775807 then ((spec_l2Int.f k a0_2).bind fun t237 => (if (((t235 ++ (⟨#[32]⟩ : ByteArray)) ++ t236) ++ (⟨#[32]⟩ : ByteArray)).size + t237.size ≤ 9223372036854775807 then (if ((((t235 ++ (⟨#[32]⟩ : ByteArray)) ++ t236) ++ (⟨#[32]⟩ : ByteArray)) ++ t237).size + 1 ≤ 9223372036854775807 then ((spec_l2Int.f k a0_3).bind fun t238 => (if (((((t235 ++ (⟨#[32]⟩ : ByteArray)) ++ t236) ++ (⟨#[32]⟩ : ByteArray)) ++ t237) ++ (⟨#[32]⟩ : ByteArray)).size + t238.size ≤ 9223372036854775807 then (some ((((((t235 ++ (⟨#[32]⟩ : ByteArray)) ++ t236) ++ (⟨#[32]⟩ : ByteArray)) ++ t237) ++ (⟨#[32]⟩ : ByteArray)) ++ t238)) else (none))) else (none)) else (none))) else (none)) else (none))) else (none))) else (some (⟨#[]⟩ : ByteArray)))) = some r := h
 clear h
 replace H := Option.bind_eq_some_iff.mp H
 obtain ⟨t234, A20, H⟩ := H
 try dsimp only at H
 have A2 := Aside0.mk A20
 clear A20
 have HC3 := Aside0.mk H
 clear H
 go_enter Tryd.func47, Tryd.ntmps47
 go_upto_if 5 with (first | ((with_reducible refine gate_dst (N := 1) rfl ?_); refine box_event ?hg (N := 1) ?hd (cs := #[.int .i64 a0_0, .int .i64 a0_1, .int .i64 a0_2, .int .i64 a0_3]) (t := 73) ?hr ?_; (case hd => rfl); (case hg => rfl); (case hr => first | (go_simp; done) | (go_simp; rfl)); intro gb233 hg w4 hbox hb; have BK233 := Aside0.mk (hbox); have GW233 := Aside0.mk ((by rw [hg]; exact (below_size Z0) : w.heap.size ≤ gb233)); have GE233 := Aside0.mk ((by rw [hg]; exact (below_size Z0) : w.heap.size ≤ gb233)); replace HB := Aside0.mk (below_step Z0 hb); clear hb hbox hg; have hcz5_0 : w4.cell? ⟨gb233, 0, none⟩ = some (.int .i64 a0_0) := (blk_cell BK233.out 0).trans rfl; have hcz5_1 : w4.cell? ⟨gb233, 1, none⟩ = some (.int .i64 a0_1) := (blk_cell BK233.out 1).trans rfl; have hcz5_2 : w4.cell? ⟨gb233, 2, none⟩ = some (.int .i64 a0_2) := (blk_cell BK233.out 2).trans rfl; have hcz5_3 : w4.cell? ⟨gb233, 3, none⟩ = some (.int .i64 a0_3) := (blk_cell BK233.out 3).trans rfl; have hfz5_0 := blk_frozen BK233.out 0; have hfz5_1 := blk_frozen BK233.out 1; have hfz5_2 := blk_frozen BK233.out 2; have hfz5_3 := blk_frozen BK233.out 3) | ((with_reducible refine gate_callee (f := 68) rfl ?_); refine goesL_ (some 4) rfl rfl Tryd.func68 (by kernel_rfl) rfl #[.agg #[.int .i64 a0_0, .int .i64 a0_1, .int .i64 a0_2, .int .i64 a0_3]] rfl Z2 ?_; (with_reducible refine (spec_MoveOk.calls a0_0 a0_1 a0_2 a0_3 t234 _ A2.out).mono ?_); rintro e w6 ⟨rfl, hb⟩; refine ⟨_, rfl, ?_⟩; replace BK233 := Aside0.mk (blk_below (g := gb233) (o := .cells #[.int .i64 a0_0, .int .i64 a0_1, .int .i64 a0_2, .int .i64 a0_3] 73 (0, 0)) Z36 hb); replace HB := Aside0.mk (below_step Z31 hb); (try clear hb); (try clear hb2); (try clear hk); (try clear hi)))
 (try simp only [Act.put, List.setIfInBounds_toArray, List.set_cons_zero, List.set_cons_succ])
 have H := HC3.out
 clear HC3
 by_cases c7 : t234 = true
 ·subst c7
  have H1 : ((spec_l2Int.f k a0_0).bind fun t235 => (if t235.size + 1 ≤ 9223372036854775807 then ((spec_l2Int.f k a0_1).bind fun t236 => (if (t235 ++ (⟨#[32]⟩ : ByteArray)).size + t236.size ≤ 9223372036854775807 then (if ((t235 ++ (⟨#[32]⟩ : ByteArray)) ++ t236).size + 1 ≤ 9223372036854775807 then ((spec_l2Int.f k a0_2).bind fun t237 => (if (((t235 ++ (⟨#[32]⟩ : ByteArray)) ++ t236) ++ (⟨#[32]⟩ : ByteArray)).size + t237.size ≤ 9223372036854775807 then (if ((((t235 ++ (⟨#[32]⟩ : ByteArray)) ++ t236) ++ (⟨#[32]⟩ : ByteArray)) ++ t237).size + 1 ≤ 9223372036854775807 then ((spec_l2Int.f k a0_3).bind fun t238 => (if (((((t235 ++ (⟨#[32]⟩ : ByteArray)) ++ t236) ++ (⟨#[32]⟩ : ByteArray)) ++ t237) ++ (⟨#[32]⟩ : ByteArray)).size + t238.size ≤ 9223372036854775807 then (some ((((((t235 ++ (⟨#[32]⟩ : ByteArray)) ++ t236) ++ (⟨#[32]⟩ : ByteArray)) ++ t237) ++ (⟨#[32]⟩ : ByteArray)) ++ t238)) else (none))) else (none)) else (none))) else (none)) else (none))) else (none))) = some r := by rw [if_pos rfl] at H; exact H
  clear H
  have H := H1
  clear H1
  replace H := Option.bind_eq_some_iff.mp H
  obtain ⟨t235, A80, H⟩ := H
  try dsimp only at H
  have A8 := Aside0.mk A80
  clear A80
  by_cases c9 : t235.size + 1 ≤ 9223372036854775807
  ·rw [if_pos c9] at H
   have c9b0 := eq_true c9
   have c9b1 : decide (t235.size + 1 ≤ 9223372036854775807) = true := decide_eq_true c9
   try have c9b2 : (9223372036854775807 < t235.size + 1) = False := eq_false (Nat.not_lt.2 c9)
   replace H := Option.bind_eq_some_iff.mp H
   obtain ⟨t236, A100, H⟩ := H
   try dsimp only at H
   have A10 := Aside0.mk A100
   clear A100
   by_cases c11 : (t235 ++ (⟨#[32]⟩ : ByteArray)).size + t236.size ≤ 9223372036854775807
   ·rw [if_pos c11] at H
    have c11b0 := eq_true c11
    have c11b1 : decide ((t235 ++ (⟨#[32]⟩ : ByteArray)).size + t236.size ≤ 9223372036854775807) = true := decide_eq_true c11
    try have c11b2 : (9223372036854775807 < (t235 ++ (⟨#[32]⟩ : ByteArray)).size + t236.size) = False := eq_false (Nat.not_lt.2 c11)
    try have c11b3 : (9223372036854775807 < t235.size + 1 + t236.size) = False := by have h_ := c11; simp only [ByteArray.size_append] at h_; exact eq_false (Nat.not_lt.2 h_)
    by_cases c12 : ((t235 ++ (⟨#[32]⟩ : ByteArray)) ++ t236).size + 1 ≤ 9223372036854775807
    ·rw [if_pos c12] at H
     have c12b0 := eq_true c12
     have c12b1 : decide (((t235 ++ (⟨#[32]⟩ : ByteArray)) ++ t236).size + 1 ≤ 9223372036854775807) = true := decide_eq_true c12
     try have c12b2 : (9223372036854775807 < ((t235 ++ (⟨#[32]⟩ : ByteArray)) ++ t236).size + 1) = False := eq_false (Nat.not_lt.2 c12)
     try have c12b3 : (9223372036854775807 < t235.size + 1 + t236.size + 1) = False := by have h_ := c12; simp only [ByteArray.size_append] at h_; exact eq_false (Nat.not_lt.2 h_)
     replace H := Option.bind_eq_some_iff.mp H
     obtain ⟨t237, A130, H⟩ := H
     try dsimp only at H
     have A13 := Aside0.mk A130
     clear A130
     by_cases c14 : (((t235 ++ (⟨#[32]⟩ : ByteArray)) ++ t236) ++ (⟨#[32]⟩ : ByteArray)).size + t237.size ≤ 9223372036854775807
     ·rw [if_pos c14] at H
      have c14b0 := eq_true c14
      have c14b1 : decide ((((t235 ++ (⟨#[32]⟩ : ByteArray)) ++ t236) ++ (⟨#[32]⟩ : ByteArray)).size + t237.size ≤ 9223372036854775807) = true := decide_eq_true c14
      try have c14b2 : (9223372036854775807 < (((t235 ++ (⟨#[32]⟩ : ByteArray)) ++ t236) ++ (⟨#[32]⟩ : ByteArray)).size + t237.size) = False := eq_false (Nat.not_lt.2 c14)
      try have c14b3 : (9223372036854775807 < t235.size + 1 + t236.size + 1 + t237.size) = False := by have h_ := c14; simp only [ByteArray.size_append] at h_; exact eq_false (Nat.not_lt.2 h_)
      by_cases c15 : ((((t235 ++ (⟨#[32]⟩ : ByteArray)) ++ t236) ++ (⟨#[32]⟩ : ByteArray)) ++ t237).size + 1 ≤ 9223372036854775807
      ·rw [if_pos c15] at H
       have c15b0 := eq_true c15
       have c15b1 : decide (((((t235 ++ (⟨#[32]⟩ : ByteArray)) ++ t236) ++ (⟨#[32]⟩ : ByteArray)) ++ t237).size + 1 ≤ 9223372036854775807) = true := decide_eq_true c15
       try have c15b2 : (9223372036854775807 < ((((t235 ++ (⟨#[32]⟩ : ByteArray)) ++ t236) ++ (⟨#[32]⟩ : ByteArray)) ++ t237).size + 1) = False := eq_false (Nat.not_lt.2 c15)
       try have c15b3 : (9223372036854775807 < t235.size + 1 + t236.size + 1 + t237.size + 1) = False := by have h_ := c15; simp only [ByteArray.size_append] at h_; exact eq_false (Nat.not_lt.2 h_)
       replace H := Option.bind_eq_some_iff.mp H
       obtain ⟨t238, A160, H⟩ := H
       try dsimp only at H
       have A16 := Aside0.mk A160
       clear A160
       by_cases c17 : (((((t235 ++ (⟨#[32]⟩ : ByteArray)) ++ t236) ++ (⟨#[32]⟩ : ByteArray)) ++ t237) ++ (⟨#[32]⟩ : ByteArray)).size + t238.size ≤ 9223372036854775807
       ·rw [if_pos c17] at H
        have c17b0 := eq_true c17
        have c17b1 : decide ((((((t235 ++ (⟨#[32]⟩ : ByteArray)) ++ t236) ++ (⟨#[32]⟩ : ByteArray)) ++ t237) ++ (⟨#[32]⟩ : ByteArray)).size + t238.size ≤ 9223372036854775807) = true := decide_eq_true c17
        try have c17b2 : (9223372036854775807 < (((((t235 ++ (⟨#[32]⟩ : ByteArray)) ++ t236) ++ (⟨#[32]⟩ : ByteArray)) ++ t237) ++ (⟨#[32]⟩ : ByteArray)).size + t238.size) = False := eq_false (Nat.not_lt.2 c17)
        try have c17b3 : (9223372036854775807 < t235.size + 1 + t236.size + 1 + t237.size + 1 + t238.size) = False := by have h_ := c17; simp only [ByteArray.size_append] at h_; exact eq_false (Nat.not_lt.2 h_)
        obtain rfl := Option.some.inj H
        try go_wp2
        replace BK233 := Aside0.mk (blk_drew BK233.out)
        replace HB := Aside0.mk (below_drew1 HB.out)
        refine wp_quiet_below (by kernel_rfl) (by kernel_rfl) ?_
        generalize w6.drew = w18 at BK233 HB ⊢
        have sq0_ : ∀ p_ : Bw w18, p_.W.cell? ⟨gb233, 0, none⟩ = some (.int .i64 a0_0) := fun p_ => p_.cell ((blk_cell BK233.out 0).trans rfl)
        have sq1_ : ∀ p_ : Bw w18, p_.W.cell? ⟨gb233, 1, none⟩ = some (.int .i64 a0_1) := fun p_ => p_.cell ((blk_cell BK233.out 1).trans rfl)
        have sq2_ : ∀ p_ : Bw w18, p_.W.cell? ⟨gb233, 2, none⟩ = some (.int .i64 a0_2) := fun p_ => p_.cell ((blk_cell BK233.out 2).trans rfl)
        have sq3_ : ∀ p_ : Bw w18, p_.W.cell? ⟨gb233, 3, none⟩ = some (.int .i64 a0_3) := fun p_ => p_.cell ((blk_cell BK233.out 3).trans rfl)
        have eq69_ : ∀ args w, (callFunc 69 args).run Tryd.prog w = .ok (.enter 69 args) w := enters_ Tryd.func69 (by kernel_rfl) rfl
        repeat (go_big_quiet_step ((rename_i p_; have hb := p_.h; have n0_ := Aside0.mk (blk_below (g := gb233) (o := .cells #[.int .i64 a0_0, .int .i64 a0_1, .int .i64 a0_2, .int .i64 a0_3] 73 (0, 0)) Z36 hb); have n1_ := Aside0.mk (below_step Z31 hb); have BK233 := n0_; have HB := n1_; first | (go_at_fn 69; with_reducible exact Calls.bw (spec_l2Int.calls k a0_0 t235 _ A8.out)) | (go_at_fn 69; with_reducible exact Calls.bw (spec_l2Int.calls k a0_1 t236 _ A10.out)) | (go_at_fn 69; with_reducible exact Calls.bw (spec_l2Int.calls k a0_2 t237 _ A13.out)) | (go_at_fn 69; with_reducible exact Calls.bw (spec_l2Int.calls k a0_3 t238 _ A16.out)))))
        refine wpQuiet_nil ?_
        clear sq0_ sq1_ sq2_ sq3_ eq69_
        rintro w22 ⟨q_, hq_⟩
        have hb := q_.h
        rw [← hq_] at hb
        clear hq_ q_
        replace BK233 := Aside0.mk (blk_below (g := gb233) (o := .cells #[.int .i64 a0_0, .int .i64 a0_1, .int .i64 a0_2, .int .i64 a0_3] 73 (0, 0)) Z36 hb)
        replace HB := Aside0.mk (below_step Z31 hb)
        (try clear hb)
        (try clear hb2)
        (try clear hk)
        (try clear hi)
        try go_wp2
        go_ret
        exact ⟨J0, (by repeat (first | (with_reducible first | exact HB.out | apply below_alloc | apply pw_below_drewN | apply below_drew1 | refine below_set ?_ GE233.out) | exact HB.out))⟩
       ·rw [if_neg c17] at H
        exact absurd H (by simp)
      ·rw [if_neg c15] at H
       exact absurd H (by simp)
     ·rw [if_neg c14] at H
      exact absurd H (by simp)
    ·rw [if_neg c12] at H
     exact absurd H (by simp)
   ·rw [if_neg c11] at H
    exact absurd H (by simp)
  ·rw [if_neg c9] at H
   exact absurd H (by simp)
 ·replace c7 := Bool.eq_false_iff.mpr c7
  subst c7
  have H1 : (some (⟨#[]⟩ : ByteArray)) = some r := by rw [if_neg (show ¬ (false = true) by decide)] at H; exact H
  clear H
  have H := H1
  clear H1
  obtain rfl := Option.some.inj H
  go_wp2
  go_ret
  exact ⟨J0, (by repeat (first | (with_reducible first | exact HB.out | apply below_alloc | apply pw_below_drewN | apply below_drew1 | refine below_set ?_ GE233.out) | exact HB.out))⟩

/-! ### spec_l1From: function 48 -/
def spec_l1From.f (s0_0 : List Int) (s0_1 : Int) (s0_2 : Int) (a1 : Int) (a2 : Int) : Option (Int × Int × Int) := (spec_l1Below.f s0_0 s0_1 s0_2 (wrap64 ((wrap64 (a2 - a1)) + 1))).bind fun bt239 => (some (wrap64 (a1 + bt239.1), bt239.2.1, bt239.2.2))
set_option maxHeartbeats 8000000 in
set_option maxRecDepth 100000 in
theorem spec_l1From.calls (g : Nat) (s0_0 : List Int) (s0_1 : Int) (s0_2 : Int) (a1 : Int) (a2 : Int) (r1 : Int) (r2 : Int) (r3 : Int) (w0 w : World) (hI : IsS67 w0 w g s0_0 s0_1 s0_2) (hB : Below w0.heap.size w0 w) (h : spec_l1From.f s0_0 s0_1 s0_2 a1 a2 = some (r1, r2, r3)) :
  Calls Tryd.prog 48 #[.pointer (some ⟨g, 0, none⟩), .int .i64 a1, .int .i64 a2] w fun e w' => e = .returned (.int .i64 r1) ∧ IsS67 w0 w' g s0_0 r2 r3 ∧ Below w0.heap.size w0 w' ∧ KeepBut w w' g none := by
 have HI0 := Aside0.mk hI
 have HK := Aside0.mk (KeepBut.refl w g none)
 have HL := Aside0.mk hB.size
 clear hI
 have HW0 := Aside0.mk hB.size
 have HB := Aside0.mk hB
 clear hB
 have H : ((spec_l1Below.f s0_0 s0_1 s0_2 (wrap64 ((wrap64 (a2 - a1)) + 1))).bind fun bt239 => (some (wrap64 (a1 + bt239.1), bt239.2.1, bt239.2.2))) = some (r1, r2, r3) := h
 clear h
 replace H := Option.bind_eq_some_iff.mp H
 obtain ⟨⟨t239, t240, t241⟩, A40, H⟩ := H
 try dsimp only at H
 have A4 := Aside0.mk A40
 clear A40
 simp only [Option.some.injEq, Prod.mk.injEq] at H
 obtain ⟨rfl, rfl, rfl⟩ := H
 go_enter Tryd.func48, Tryd.ntmps48
 go_wp2_with (first | ((with_reducible refine gate_callee (f := 46) rfl ?_); refine goesL_ (some 13) rfl rfl Tryd.func46 (by kernel_rfl) rfl #[.pointer (some ⟨g, 0, none⟩), .int .i64 (wrap64 ((wrap64 (a2 - a1)) + 1))] rfl Z2 ?_; (with_reducible refine (spec_l1Below.calls g s0_0 s0_1 s0_2 (wrap64 ((wrap64 (a2 - a1)) + 1)) t239 t240 t241 w0 _ ?side1 ?side2 A4.out).mono ?_); (case side1 => exact J3); (case side2 => exact J4); rintro e w5 ⟨rfl, hi, hb, hk⟩; refine ⟨_, rfl, ?_⟩; replace HK := Aside0.mk (KeepBut.trans Z15 hk (.inl rfl)); replace HB := Aside0.mk (hb); replace HI0 := Aside0.mk (hi); (try clear hb); (try clear hb2); (try clear hk); (try clear hi)))
 go_ret
 exact ⟨J0, J3, J4, J14⟩

end Go.Proofs.YtokhjhkkncbjeaaDoor.PFnBlocks
