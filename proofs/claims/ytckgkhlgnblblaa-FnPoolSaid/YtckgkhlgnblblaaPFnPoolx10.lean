-- Written by a program of this session (wip/tools/pp.py over the kit's print).
import Derived.Test.YtckgkhlgnblblaaPFnPoolx0
import Derived.Test.YtckgkhlgnblblaaPFnPoolx7
import Derived.Test.YtckgkhlgnblblaaPFnPoolx9
namespace Go.Proofs.Ytckgkhlgnblblaa.PFnPool
open Go.RowKit Go.Proofs.YtckgkhlgnblblaaW.PrintWords Go.Proofs.YtckgkhlgnblblaaW.PrintLast Go.Proofs.YtckgkhlgnblblaaW.PrintMore
attribute [local go_sem] max2_int min2_int max_two min_two max_three min_three max_four min_four
attribute [local go_sem high] str_gtr str_leq str_geq
set_option linter.unusedVariables false
set_option linter.unusedSimpArgs false

/-! ### spec_DrawOffered: function 55 -/
def spec_DrawOffered.f (k : Nat) (l0 : List Int) : Option ((List (S86)) × Int × ByteArray) := (spec_l1New.f k l0).bind fun bt337 => ((spec_l14Draw.f k bt337.1 bt337.2.1 bt337.2.2).bind fun bt341 => ((spec_l1Below.f bt337.1 bt341.2.1 bt341.2.2 8).bind fun bt346 => ((spec_l1DrawText.f k bt337.1 bt346.2.1 bt346.2.2).bind fun bt349 => ((spec_l1Once.f bt337.1 bt349.2.1 bt349.2.2 12).bind fun bt353 => (if bt353.1 = true then ((some (([(-1), 1000000000, 1000000001] : List Int) : List Int)).bind fun y356 => ((spec_l1Below.f bt337.1 bt353.2.1 bt353.2.2 3).bind fun bt359 => (if 0 ≤ bt359.1 then (if bt359.1 < (y356.length : Int) then (some (bt341.1, rd y356 bt359.1, bt349.1)) else (none)) else (none)))) else (some (bt341.1, bt346.1, bt349.1)))))))
theorem spec_DrawOffered.mono : ∀ a0 k, LeO (spec_DrawOffered.f k a0) (spec_DrawOffered.f (k + 1) a0) := by
 intro a0 k
 unfold spec_DrawOffered.f
 repeat' first
   | (with_reducible exact spec_l14Draw.mono _ _ _ _)
   | (with_reducible exact spec_l1DrawText.mono _ _ _ _)
   | (with_reducible exact spec_l1New.mono _ _)
   | (with_reducible exact LeO.refl _)
   | (with_reducible exact LeO.none _)
   | (with_reducible refine LeO.ite ?_ ?_)
   | (with_reducible refine LeO.bind ?_ (fun _ => ?_))
   | exact spec_l14Draw.mono _ _ _ _
   | exact spec_l1DrawText.mono _ _ _ _
   | exact spec_l1New.mono _ _
   | exact LeO.none _
   | refine LeO.ite ?_ ?_
   | refine LeO.bind ?_ (fun _ => ?_)
set_option maxHeartbeats 8000000 in
set_option maxRecDepth 100000 in
theorem spec_DrawOffered.calls (k : Nat) (A0 : Option Addr) (c0 : Nat) (l0 : List Int) (r1 : List (S86)) (r2 : Int) (r3 : ByteArray) (w : World) (hr0 : Kd.C (Kd.int .u8) w A0 l0.length l0) (hc0 : l0.length ≤ c0) (h : spec_DrawOffered.f k l0 = some (r1, r2, r3)) :
  Calls Try.prog 55 #[.slice A0 l0.length c0] w fun e w' => ∃ v0_ : Value, e = .returned (.tuple #[v0_, .agg #[.int .i64 r2, .string r3]]) ∧ Kd.R k86 86 w' w.heap.size (fun _ => True) v0_ r1 ∧ Below w.heap.size w w' := by
 have hu86 := Try.underlying86
 have HR0 := Aside0.mk hr0
 have HC0 := Aside0.mk hc0
 clear hr0 hc0
 have HB := Aside0.mk (Below.refl w.heap.size w)
 have H : ((spec_l1New.f k l0).bind fun bt337 => ((spec_l14Draw.f k bt337.1 bt337.2.1 bt337.2.2).bind fun bt341 => ((spec_l1Below.f bt337.1 bt341.2.1 bt341.2.2 8).bind fun bt346 => ((spec_l1DrawText.f k bt337.1 bt346.2.1 bt346.2.2).bind fun bt349 => ((spec_l1Once.f bt337.1 bt349.2.1 bt349.2.2 12).bind fun bt353 => (if bt353.1 = true then ((some (([(-1), 1000000000, 1000000001] : List Int) : List Int)).bind fun y356 => ((spec_l1Below.f bt337.1 bt353.2.1 bt353.2.2 3).bind fun bt359 => (if 0 ≤ bt359.1 then (if bt359.1 < (y356.length : Int) then (some (bt341.1, rd y356 bt359.1, bt349.1)) else (none)) else (none)))) else (some (bt341.1, bt346.1, bt349.1)))))))) = some (r1, r2, r3) := h
 clear h
 replace H := Option.bind_eq_some_iff.mp H
 obtain ⟨⟨t337, t338, t339⟩, A20, H⟩ := H
 replace H : ((spec_l14Draw.f k t337 t338 t339).bind fun bt341 => ((spec_l1Below.f t337 bt341.2.1 bt341.2.2 8).bind fun bt346 => ((spec_l1DrawText.f k t337 bt346.2.1 bt346.2.2).bind fun bt349 => ((spec_l1Once.f t337 bt349.2.1 bt349.2.2 12).bind fun bt353 => (if bt353.1 = true then ((some (([(-1), 1000000000, 1000000001] : List Int) : List Int)).bind fun y356 => ((spec_l1Below.f t337 bt353.2.1 bt353.2.2 3).bind fun bt359 => (if 0 ≤ bt359.1 then (if bt359.1 < (y356.length : Int) then (some (bt341.1, rd y356 bt359.1, bt349.1)) else (none)) else (none)))) else (some (bt341.1, bt346.1, bt349.1))))))) = some (r1, r2, r3) := H
 have A2 := Aside0.mk A20
 clear A20
 replace H := Option.bind_eq_some_iff.mp H
 obtain ⟨⟨t341, t344, t345⟩, A30, H⟩ := H
 replace H : ((spec_l1Below.f t337 t344 t345 8).bind fun bt346 => ((spec_l1DrawText.f k t337 bt346.2.1 bt346.2.2).bind fun bt349 => ((spec_l1Once.f t337 bt349.2.1 bt349.2.2 12).bind fun bt353 => (if bt353.1 = true then ((some (([(-1), 1000000000, 1000000001] : List Int) : List Int)).bind fun y356 => ((spec_l1Below.f t337 bt353.2.1 bt353.2.2 3).bind fun bt359 => (if 0 ≤ bt359.1 then (if bt359.1 < (y356.length : Int) then (some (t341, rd y356 bt359.1, bt349.1)) else (none)) else (none)))) else (some (t341, bt346.1, bt349.1)))))) = some (r1, r2, r3) := H
 have A3 := Aside0.mk A30
 clear A30
 replace H := Option.bind_eq_some_iff.mp H
 obtain ⟨⟨t346, t347, t348⟩, A40, H⟩ := H
 replace H : ((spec_l1DrawText.f k t337 t347 t348).bind fun bt349 => ((spec_l1Once.f t337 bt349.2.1 bt349.2.2 12).bind fun bt353 => (if bt353.1 = true then ((some (([(-1), 1000000000, 1000000001] : List Int) : List Int)).bind fun y356 => ((spec_l1Below.f t337 bt353.2.1 bt353.2.2 3).bind fun bt359 => (if 0 ≤ bt359.1 then (if bt359.1 < (y356.length : Int) then (some (t341, rd y356 bt359.1, bt349.1)) else (none)) else (none)))) else (some (t341, t346, bt349.1))))) = some (r1, r2, r3) := H
 have A4 := Aside0.mk A40
 clear A40
 replace H := Option.bind_eq_some_iff.mp H
 obtain ⟨⟨t349, t350, t351⟩, A50, H⟩ := H
 replace H : ((spec_l1Once.f t337 t350 t351 12).bind fun bt353 => (if bt353.1 = true then ((some (([(-1), 1000000000, 1000000001] : List Int) : List Int)).bind fun y356 => ((spec_l1Below.f t337 bt353.2.1 bt353.2.2 3).bind fun bt359 => (if 0 ≤ bt359.1 then (if bt359.1 < (y356.length : Int) then (some (t341, rd y356 bt359.1, t349)) else (none)) else (none)))) else (some (t341, t346, t349)))) = some (r1, r2, r3) := H
 have A5 := Aside0.mk A50
 clear A50
 replace H := Option.bind_eq_some_iff.mp H
 obtain ⟨⟨t353, t354, t355⟩, A60, H⟩ := H
 replace H : (if t353 = true then ((some (([(-1), 1000000000, 1000000001] : List Int) : List Int)).bind fun y356 => ((spec_l1Below.f t337 t354 t355 3).bind fun bt359 => (if 0 ≤ bt359.1 then (if bt359.1 < (y356.length : Int) then (some (t341, rd y356 bt359.1, t349)) else (none)) else (none)))) else (some (t341, t346, t349))) = some (r1, r2, r3) := H
 have A6 := Aside0.mk A60
 clear A60
 have HC7 := Aside0.mk H
 clear H
 go_enter Try.func55, Try.ntmps55
 go_upto_if 17 with (first | ((with_reducible refine gate_dst (N := 3) rfl ?_); refine box_event ?hg (N := 3) ?hd (cs := #[.int .i64 0, .string (⟨#[]⟩ : ByteArray)]) (t := 86) ?hr ?_; (case hd => rfl); (case hg => rfl); (case hr => first | (go_simp; done) | (go_simp; rfl)); intro gb336 hg w8 hbox hb; have n0_ := Aside0.mk (below_step (by repeat (first | (with_reducible first | exact HB.out | apply below_alloc | apply pw_below_drewN | apply below_drew1) | exact HB.out)) hb); have n1_ := Aside0.mk (hbox); have n2_ := Aside0.mk ((by rw [hg]; exact (below_size (by repeat (first | (with_reducible first | exact HB.out | apply below_alloc | apply pw_below_drewN | apply below_drew1) | exact HB.out))) : w.heap.size ≤ gb336)); have n3_ := Aside0.mk ((by rw [hg]; exact (below_size (by repeat (first | (with_reducible first | exact HB.out | apply below_alloc | apply pw_below_drewN | apply below_drew1) | exact HB.out))) : w.heap.size ≤ gb336)); clear HB; have HB := n0_; have BK336 := n1_; have GW336 := n2_; have GE336 := n3_; clear n0_ n1_ n2_ n3_; clear hb hbox hg) | ((with_reducible refine gate_callee (f := 128) rfl ?_); refine goesL_ (some 8) rfl rfl Try.func128 (by kernel_rfl) rfl #[.slice A0 l0.length c0] rfl (by (try simp only [List.map_toArray, List.map_cons, List.map_nil]); first | done | rfl | (simp only [List.length_drop, List.length_take]; rfl)) ?_; (with_reducible refine (spec_l1New.calls k _ _ l0 t337 t338 t339 w _ ?side1 ?side2 ?side3 A2.out).mono ?_); (case side1 => repeat (first | (with_reducible first | exact HB.out | apply below_alloc | apply pw_below_drewN | apply below_drew1 | refine below_set ?_ GE336.out) | exact HB.out)); (case side2 => exact HR0.out); (case side3 => exact HC0.out); rintro e w9 ⟨g340, rfl, hi, hb, hb2⟩; refine ⟨_, rfl, ?_⟩; have n0_ := Aside0.mk (blk_below (g := gb336) (o := .cells #[.int .i64 0, .string (⟨#[]⟩ : ByteArray)] 86 (0, 0)) (by (with_reducible repeat (first | refine blk_drewN ?_ _ | refine blk_drew ?_ | refine blk_alloc ?_ _)); exact BK336.out) hb2); have n1_ := Aside0.mk (hb); have n2_ := Aside0.mk (hi); have n3_ := Aside0.mk (IsS184.ne_blk hi (blk_below (g := gb336) (o := .cells #[.int .i64 0, .string (⟨#[]⟩ : ByteArray)] 86 (0, 0)) (by (with_reducible repeat (first | refine blk_drewN ?_ _ | refine blk_drew ?_ | refine blk_alloc ?_ _)); exact BK336.out) hb2) (by decide)); have n4_ := Aside0.mk (Ne.symm (IsS184.ne_blk hi (blk_below (g := gb336) (o := .cells #[.int .i64 0, .string (⟨#[]⟩ : ByteArray)] 86 (0, 0)) (by (with_reducible repeat (first | refine blk_drewN ?_ _ | refine blk_drew ?_ | refine blk_alloc ?_ _)); exact BK336.out) hb2) (by decide))); clear BK336; clear HB; have BK336 := n0_; have HB := n1_; have HI340 := n2_; have NB340_336 := n3_; have NB336_340 := n4_; clear n0_ n1_ n2_ n3_ n4_; (try clear hb); (try clear hb2); (try clear hk); (try clear hi)) | ((with_reducible refine gate_callee (f := 129) rfl ?_); refine goesL_ (some 10) rfl rfl Try.func129 (by kernel_rfl) rfl #[.pointer (some ⟨g340, 0, none⟩)] rfl (by (try simp only [List.map_toArray, List.map_cons, List.map_nil]); first | done | rfl | (simp only [List.length_drop, List.length_take]; rfl)) ?_; (with_reducible refine (spec_l14Draw.calls k g340 t337 t338 t339 t341 t344 t345 w _ ?side1 ?side2 A3.out).mono ?_); (case side1 => repeat (first | (with_reducible first | exact HI340.out | apply IsS184.alloc | apply IsS184.drewN | apply IsS184.drew | apply IsS184.set_1 | apply IsS184.set_2 | refine IsS184.far ?_ NB340_336.out _) | exact HI340.out)); (case side2 => repeat (first | (with_reducible first | exact HB.out | apply below_alloc | apply pw_below_drewN | apply below_drew1 | refine below_set ?_ (IsS184.ge HI340.out) | refine below_set ?_ GE336.out) | exact HB.out)); rintro e w10 ⟨v342, rfl, ho0, hi, hb, hk⟩; refine ⟨_, rfl, ?_⟩; have n0_ := Aside0.mk (KeepBut.blk hk (g' := gb336) (o := .cells #[.int .i64 0, .string (⟨#[]⟩ : ByteArray)] 86 (0, 0)) (by (with_reducible repeat (first | refine blk_drewN ?_ _ | refine blk_drew ?_ | refine blk_alloc ?_ _)); exact BK336.out) NB336_340.out (by simp)); have n1_ := Aside0.mk (Kd.R_lower (Kd.R_newB ho0 (g := gb336) (o := .cells #[.int .i64 0, .string (⟨#[]⟩ : ByteArray)] 86 (0, 0)) (by (with_reducible repeat (first | refine blk_drewN ?_ _ | refine blk_drew ?_ | refine blk_alloc ?_ _)); exact BK336.out)) (below_size (by repeat (first | (with_reducible first | exact HB.out | apply below_alloc | apply pw_below_drewN | apply below_drew1 | refine below_set ?_ (IsS184.ge HI340.out) | refine below_set ?_ GE336.out) | exact HB.out)))); have n2_ := Aside0.mk (hb); have n3_ := Aside0.mk (hi); clear BK336; clear HB; clear HI340; have BK336 := n0_; have HO343 := n1_; have HB := n2_; have HI340 := n3_; clear n0_ n1_ n2_ n3_; (try clear hb); (try clear hb2); (try clear hk); (try clear hi); (try clear ho0)) | ((with_reducible refine gate_callee (f := 130) rfl ?_); refine goesL_ (some 12) rfl rfl Try.func130 (by kernel_rfl) rfl #[.pointer (some ⟨g340, 0, none⟩), .int .i64 8] rfl (by (try simp only [List.map_toArray, List.map_cons, List.map_nil]); first | done | rfl | (simp only [List.length_drop, List.length_take]; rfl)) ?_; (with_reducible refine (spec_l1Below.calls g340 t337 t344 t345 8 t346 t347 t348 w _ ?side1 ?side2 A4.out).mono ?_); (case side1 => repeat (first | (with_reducible first | exact HI340.out | apply IsS184.alloc | apply IsS184.drewN | apply IsS184.drew | apply IsS184.set_1 | apply IsS184.set_2 | refine IsS184.far ?_ NB340_336.out _) | exact HI340.out)); (case side2 => repeat (first | (with_reducible first | exact HB.out | apply below_alloc | apply pw_below_drewN | apply below_drew1 | refine below_set ?_ (IsS184.ge HI340.out) | refine below_set ?_ GE336.out) | exact HB.out)); rintro e w11 ⟨rfl, hi, hb, hk⟩; refine ⟨_, rfl, ?_⟩; have n0_ := Aside0.mk (KeepBut.blk hk (g' := gb336) (o := .cells #[.int .i64 0, .string (⟨#[]⟩ : ByteArray)] 86 (0, 0)) (by (with_reducible repeat (first | refine blk_drewN ?_ _ | refine blk_drew ?_ | refine blk_alloc ?_ _)); exact BK336.out) NB336_340.out (by simp)); have n1_ := Aside0.mk (Kd.R_mono (Kd.R_keep (IsS184.apart (show IsS184 w _ g340 t337 t344 t345 from by repeat (first | (with_reducible first | exact HI340.out | apply IsS184.alloc | apply IsS184.drewN | apply IsS184.drew | apply IsS184.set_1 | apply IsS184.set_2 | refine IsS184.far ?_ NB340_336.out _) | exact HI340.out)) (by (with_reducible repeat (first | apply Kd.R_alloc | apply Kd.R_drewN | apply Kd.R_drew)); exact HO343.out) (by decide)) hk (fun _ h => h.2)) (fun _ h => h.1)); have n2_ := Aside0.mk (hb); have n3_ := Aside0.mk (hi); clear BK336; clear HO343; clear HB; clear HI340; have BK336 := n0_; have HO343 := n1_; have HB := n2_; have HI340 := n3_; clear n0_ n1_ n2_ n3_; (try clear hb); (try clear hb2); (try clear hk); (try clear hi)) | ((with_reducible refine gate_callee (f := 131) rfl ?_); refine goesL_ (some 14) rfl rfl Try.func131 (by kernel_rfl) rfl #[.pointer (some ⟨g340, 0, none⟩)] rfl (by (try simp only [List.map_toArray, List.map_cons, List.map_nil]); first | done | rfl | (simp only [List.length_drop, List.length_take]; rfl)) ?_; (with_reducible refine (spec_l1DrawText.calls k g340 t337 t347 t348 t349 t350 t351 w _ ?side1 ?side2 A5.out).mono ?_); (case side1 => repeat (first | (with_reducible first | exact HI340.out | apply IsS184.alloc | apply IsS184.drewN | apply IsS184.drew | apply IsS184.set_1 | apply IsS184.set_2 | refine IsS184.far ?_ NB340_336.out _) | exact HI340.out)); (case side2 => repeat (first | (with_reducible first | exact HB.out | apply below_alloc | apply pw_below_drewN | apply below_drew1 | refine below_set ?_ (IsS184.ge HI340.out) | refine below_set ?_ GE336.out) | exact HB.out)); rintro e w12 ⟨rfl, hi, hb, hk⟩; refine ⟨_, rfl, ?_⟩; have n0_ := Aside0.mk (KeepBut.blk hk (g' := gb336) (o := .cells #[.int .i64 0, .string (⟨#[]⟩ : ByteArray)] 86 (0, 0)) (by (with_reducible repeat (first | refine blk_drewN ?_ _ | refine blk_drew ?_ | refine blk_alloc ?_ _)); exact BK336.out) NB336_340.out (by simp)); have n1_ := Aside0.mk (Kd.R_mono (Kd.R_keep (IsS184.apart (show IsS184 w _ g340 t337 t347 t348 from by repeat (first | (with_reducible first | exact HI340.out | apply IsS184.alloc | apply IsS184.drewN | apply IsS184.drew | apply IsS184.set_1 | apply IsS184.set_2 | refine IsS184.far ?_ NB340_336.out _) | exact HI340.out)) (by (with_reducible repeat (first | apply Kd.R_alloc | apply Kd.R_drewN | apply Kd.R_drew)); exact HO343.out) (by decide)) hk (fun _ h => h.2)) (fun _ h => h.1)); have n2_ := Aside0.mk (hb); have n3_ := Aside0.mk (hi); clear BK336; clear HO343; clear HB; clear HI340; have BK336 := n0_; have HO343 := n1_; have HB := n2_; have HI340 := n3_; clear n0_ n1_ n2_ n3_; (try clear hb); (try clear hb2); (try clear hk); (try clear hi)) | ((with_reducible refine gate_dst (N := 6) rfl ?_); refine box_event ?hg (N := 6) ?hd (cs := #[.int .i64 0, .string (⟨#[]⟩ : ByteArray)]) (t := 86) ?hr ?_; (case hd => rfl); (case hg => rfl); (case hr => first | (go_simp; done) | (go_simp; rfl)); intro gb352 hg w13 hbox hb; have n0_ := Aside0.mk (Kd.R_below (Kd.R_elderB (by (with_reducible repeat (first | apply Kd.R_alloc | apply Kd.R_drewN | apply Kd.R_drew)); exact HO343.out) gb352 (Nat.le_of_eq hg.symm)) hb); have n1_ := Aside0.mk (blk_below (g := gb336) (o := .cells #[.int .i64 0, .string (⟨#[]⟩ : ByteArray)] 86 (0, 0)) (by (with_reducible repeat (first | refine blk_drewN ?_ _ | refine blk_drew ?_ | refine blk_alloc ?_ _)); exact BK336.out) hb); have n2_ := Aside0.mk (IsS184.below (by repeat (first | (with_reducible first | exact HI340.out | apply IsS184.alloc | apply IsS184.drewN | apply IsS184.drew | apply IsS184.set_1 | apply IsS184.set_2 | refine IsS184.far ?_ NB340_336.out _) | exact HI340.out)) hb); have n3_ := Aside0.mk (below_step (by repeat (first | (with_reducible first | exact HB.out | apply below_alloc | apply pw_below_drewN | apply below_drew1 | refine below_set ?_ (IsS184.ge HI340.out) | refine below_set ?_ GE336.out) | exact HB.out)) hb); have n4_ := Aside0.mk (hbox); have n5_ := Aside0.mk ((by rw [hg]; exact (below_size (by repeat (first | (with_reducible first | exact HB.out | apply below_alloc | apply pw_below_drewN | apply below_drew1 | refine below_set ?_ (IsS184.ge HI340.out) | refine below_set ?_ GE336.out) | exact HB.out))) : w.heap.size ≤ gb352)); have n6_ := Aside0.mk ((by rw [hg]; exact (below_size (by repeat (first | (with_reducible first | exact HB.out | apply below_alloc | apply pw_below_drewN | apply below_drew1 | refine below_set ?_ (IsS184.ge HI340.out) | refine below_set ?_ GE336.out) | exact HB.out))) : w.heap.size ≤ gb352)); have n7_ := Aside0.mk ((by rw [hg]; exact Nat.ne_of_lt (blk_lt (g := gb336) (o := .cells #[.int .i64 0, .string (⟨#[]⟩ : ByteArray)] 86 (0, 0)) (by (with_reducible repeat (first | refine blk_drewN ?_ _ | refine blk_drew ?_ | refine blk_alloc ?_ _)); exact BK336.out)) : gb336 ≠ gb352)); have n8_ := Aside0.mk ((by rw [hg]; exact Nat.ne_of_gt (blk_lt (g := gb336) (o := .cells #[.int .i64 0, .string (⟨#[]⟩ : ByteArray)] 86 (0, 0)) (by (with_reducible repeat (first | refine blk_drewN ?_ _ | refine blk_drew ?_ | refine blk_alloc ?_ _)); exact BK336.out)) : gb352 ≠ gb336)); have n9_ := Aside0.mk ((by rw [hg]; exact Nat.ne_of_lt (IsS184.lt (show IsS184 w _ g340 t337 t350 t351 from by repeat (first | (with_reducible first | exact HI340.out | apply IsS184.alloc | apply IsS184.drewN | apply IsS184.drew | apply IsS184.set_1 | apply IsS184.set_2 | refine IsS184.far ?_ NB340_336.out _) | exact HI340.out))) : g340 ≠ gb352)); have n10_ := Aside0.mk ((by rw [hg]; exact Nat.ne_of_gt (IsS184.lt (show IsS184 w _ g340 t337 t350 t351 from by repeat (first | (with_reducible first | exact HI340.out | apply IsS184.alloc | apply IsS184.drewN | apply IsS184.drew | apply IsS184.set_1 | apply IsS184.set_2 | refine IsS184.far ?_ NB340_336.out _) | exact HI340.out))) : gb352 ≠ g340)); clear HO343; clear BK336; clear HI340; clear HB; have HO343 := n0_; have BK336 := n1_; have HI340 := n2_; have HB := n3_; have BK352 := n4_; have GW352 := n5_; have GE352 := n6_; have NB336_352 := n7_; have NB352_336 := n8_; have NB340_352 := n9_; have NB352_340 := n10_; clear n0_ n1_ n2_ n3_ n4_ n5_ n6_ n7_ n8_ n9_ n10_; clear hb hbox hg; have hnb14 := NB352_336.out; have hnc14 := NB336_352.out; have hnb15 := NB352_340.out; have hnc15 := NB340_352.out; have hcz16_0 : w13.cell? ⟨gb352, 0, none⟩ = some (.int .i64 0) := (blk_cell BK352.out 0).trans rfl; have hcz16_1 : w13.cell? ⟨gb352, 1, none⟩ = some (.string (⟨#[]⟩ : ByteArray)) := (blk_cell BK352.out 1).trans rfl; have hfz16_0 := blk_frozen BK352.out 0; have hfz16_1 := blk_frozen BK352.out 1) | ((with_reducible refine gate_callee (f := 132) rfl ?_); refine goesL_ (some 17) rfl rfl Try.func132 (by kernel_rfl) rfl #[.pointer (some ⟨g340, 0, none⟩), .int .i64 12] rfl (by (try simp only [List.map_toArray, List.map_cons, List.map_nil]); first | done | rfl | (simp only [List.length_drop, List.length_take]; rfl)) ?_; (with_reducible refine (spec_l1Once.calls g340 t337 t350 t351 12 t353 t354 t355 w _ ?side1 ?side2 A6.out).mono ?_); (case side1 => repeat (first | (with_reducible first | exact HI340.out | apply IsS184.alloc | apply IsS184.drewN | apply IsS184.drew | apply IsS184.set_1 | apply IsS184.set_2 | refine IsS184.far ?_ NB340_336.out _ | refine IsS184.far ?_ NB340_352.out _) | exact HI340.out)); (case side2 => repeat (first | (with_reducible first | exact HB.out | apply below_alloc | apply pw_below_drewN | apply below_drew1 | refine below_set ?_ (IsS184.ge HI340.out) | refine below_set ?_ GE336.out | refine below_set ?_ GE352.out) | exact HB.out)); rintro e w17 ⟨rfl, hi, hb, hk⟩; refine ⟨_, rfl, ?_⟩; have n0_ := Aside0.mk (KeepBut.blk hk (g' := gb336) (o := .cells #[.int .i64 0, .string (⟨#[]⟩ : ByteArray)] 86 (0, 0)) (by (with_reducible repeat (first | refine blk_drewN ?_ _ | refine blk_drew ?_ | refine blk_alloc ?_ _)); refine blk_far ?_ NB336_352.out _; (with_reducible repeat (first | refine blk_drewN ?_ _ | refine blk_drew ?_ | refine blk_alloc ?_ _)); refine blk_far ?_ NB336_352.out _; (with_reducible repeat (first | refine blk_drewN ?_ _ | refine blk_drew ?_ | refine blk_alloc ?_ _)); exact BK336.out) NB336_340.out (by simp)); have n1_ := Aside0.mk (Kd.R_mono (Kd.R_keep (IsS184.apart (show IsS184 w _ g340 t337 t350 t351 from by repeat (first | (with_reducible first | exact HI340.out | apply IsS184.alloc | apply IsS184.drewN | apply IsS184.drew | apply IsS184.set_1 | apply IsS184.set_2 | refine IsS184.far ?_ NB340_336.out _ | refine IsS184.far ?_ NB340_352.out _) | exact HI340.out)) (by (with_reducible repeat (first | apply Kd.R_alloc | apply Kd.R_drewN | apply Kd.R_drew)); exact (Kd.R_mono (Kd.R_far (p := ⟨gb352, 1, none⟩) (Kd.R_far (p := ⟨gb352, 0, none⟩) (Kd.R_mono HO343.out (fun k_ hk => (⟨hk, hk.2⟩ : _ ∧ k_ ≠ gb352))) (fun _ hk => hk.2) (.int .i64 t346)) (fun _ hk => hk.2) (.string t349)) (fun _ h_ => h_.1))) (by decide)) hk (fun _ h => h.2)) (fun _ h => h.1)); have n2_ := Aside0.mk (KeepBut.blk hk (g' := gb352) (o := .cells #[.int .i64 t346, .string t349] 86 (0, 0)) (by (with_reducible repeat (first | refine blk_drewN ?_ _ | refine blk_drew ?_ | refine blk_alloc ?_ _)); refine blk_put (cs := #[.int .i64 t346, .string (⟨#[]⟩ : ByteArray)]) ?_ 1 _ rfl; (with_reducible repeat (first | refine blk_drewN ?_ _ | refine blk_drew ?_ | refine blk_alloc ?_ _)); refine blk_put (cs := #[.int .i64 0, .string (⟨#[]⟩ : ByteArray)]) ?_ 0 _ rfl; (with_reducible repeat (first | refine blk_drewN ?_ _ | refine blk_drew ?_ | refine blk_alloc ?_ _)); exact BK352.out) NB352_340.out (by simp)); have n3_ := Aside0.mk (hb); have n4_ := Aside0.mk (hi); clear BK336; clear HO343; clear BK352; clear HB; clear HI340; have BK336 := n0_; have HO343 := n1_; have BK352 := n2_; have HB := n3_; have HI340 := n4_; clear n0_ n1_ n2_ n3_ n4_; (try clear hb); (try clear hb2); (try clear hk); (try clear hi)))
 (try simp only [Act.put, List.setIfInBounds_toArray, List.set_cons_zero, List.set_cons_succ])
 have H := HC7.out
 clear HC7
 by_cases c18 : t353 = true
 ·subst c18
  have H1 : ((some (([(-1), 1000000000, 1000000001] : List Int) : List Int)).bind fun y356 => ((spec_l1Below.f t337 t354 t355 3).bind fun bt359 => (if 0 ≤ bt359.1 then (if bt359.1 < (y356.length : Int) then (some (t341, rd y356 bt359.1, t349)) else (none)) else (none)))) = some (r1, r2, r3) := by rw [if_pos rfl] at H; exact H
  clear H
  have H := H1
  clear H1
  obtain ⟨y356, hy356⟩ : ∃ y_ : List Int, y_ = (([(-1), 1000000000, 1000000001] : List Int)) := ⟨_, rfl⟩
  replace H : ((spec_l1Below.f t337 t354 t355 3).bind fun bt359 => (if 0 ≤ bt359.1 then (if bt359.1 < (y356.length : Int) then (some (t341, rd y356 bt359.1, t349)) else (none)) else (none))) = some (r1, r2, r3) := by first | (rw [hy356]; with_reducible exact H) | (have H2_ := (Option.bind_some _ _).symm.trans H; rw [hy356]; with_reducible exact H2_) | (have H2_ := (Option.bind_some _ _).symm.trans H; with_reducible exact H2_) | with_reducible exact H | (rw [hy356]; exact H) | exact H
  have Ny356 := Aside0.mk hy356
  clear hy356
  replace H := Option.bind_eq_some_iff.mp H
  obtain ⟨⟨t359, t360, t361⟩, A190, H⟩ := H
  replace H : (if 0 ≤ t359 then (if t359 < (y356.length : Int) then (some (t341, rd y356 t359, t349)) else (none)) else (none)) = some (r1, r2, r3) := H
  have A19 := Aside0.mk A190
  clear A190
  by_cases c20 : 0 ≤ t359
  ·rw [if_pos c20] at H
   have c20b0 : decide (0 ≤ t359) = true := decide_eq_true c20
   clear c20
   (first | rw [c20b0] | (simp only [i64_w, i32_w]; rw [c20b0]) | skip)
   by_cases c21 : t359 < (y356.length : Int)
   ·rw [if_pos c21] at H
    have c21b0 : decide (t359 < (y356.length : Int)) = true := decide_eq_true c21
    clear c21
    simp only [Option.some.injEq, Prod.mk.injEq] at H
    obtain ⟨rfl, rfl, rfl⟩ := H
    try go_wp2_with (first | ((with_reducible refine gate_dst (N := 18) rfl ?_); refine Kd.R_lit (Kd.int .i64) _ 2 ?hg (N := 18) ?hd (xs := ([(-1), 1000000000, 1000000001] : List Int)) (inner := [.int .i64 (-1), .int .i64 1000000000, .int .i64 1000000001]) (ok := fun _ => True) (okp := fun _ => True) ?hr ?hp (fun _ hk => hk) trivial (Below.refl _ _) (Nat.le_refl _) (by simp) ?_; (case hd => rfl); (case hg => rfl); (case hr => first | (go_simp; done) | (go_simp; rfl)); (case hp => exact (Reps.one (show Kd.M (Kd.int .i64) _ _ _ (-1) [.int .i64 (-1)] from rfl) (Reps.one (show Kd.M (Kd.int .i64) _ _ _ 1000000000 [.int .i64 1000000000] from rfl) (Reps.one (show Kd.M (Kd.int .i64) _ _ _ 1000000001 [.int .i64 1000000001] from rfl) (Reps.none _ _))))); intro v357 w22 ho23 hb hg_ hnew_; clear hg_ hnew_; (first | rw [← Ny356.out] at ho23 | (simp only [Int.reduceToNat] at ho23; rw [← Ny356.out] at ho23)); have n0_ := Aside0.mk (Kd.R_below (by (with_reducible repeat (first | apply Kd.R_alloc | apply Kd.R_drewN | apply Kd.R_drew)); exact HO343.out) hb); have n1_ := Aside0.mk (Kd.R_lower ho23 (below_size (by repeat (first | (with_reducible first | exact HB.out | apply below_alloc | apply pw_below_drewN | apply below_drew1 | refine below_set ?_ (IsS184.ge HI340.out) | refine below_set ?_ GE336.out | refine below_set ?_ GE352.out) | exact HB.out)))); have n2_ := Aside0.mk (blk_below (g := gb336) (o := .cells #[.int .i64 0, .string (⟨#[]⟩ : ByteArray)] 86 (0, 0)) (by (with_reducible repeat (first | refine blk_drewN ?_ _ | refine blk_drew ?_ | refine blk_alloc ?_ _)); exact BK336.out) hb); have n3_ := Aside0.mk (IsS184.below (by repeat (first | (with_reducible first | exact HI340.out | apply IsS184.alloc | apply IsS184.drewN | apply IsS184.drew | apply IsS184.set_1 | apply IsS184.set_2 | refine IsS184.far ?_ NB340_336.out _ | refine IsS184.far ?_ NB340_352.out _) | exact HI340.out)) hb); have n4_ := Aside0.mk (blk_below (g := gb352) (o := .cells #[.int .i64 t346, .string t349] 86 (0, 0)) (by (with_reducible repeat (first | refine blk_drewN ?_ _ | refine blk_drew ?_ | refine blk_alloc ?_ _)); exact BK352.out) hb); have n5_ := Aside0.mk (below_step (by repeat (first | (with_reducible first | exact HB.out | apply below_alloc | apply pw_below_drewN | apply below_drew1 | refine below_set ?_ (IsS184.ge HI340.out) | refine below_set ?_ GE336.out | refine below_set ?_ GE352.out) | exact HB.out)) hb); clear HO343; clear BK336; clear HI340; clear BK352; clear HB; have HO343 := n0_; have HO358 := n1_; have BK336 := n2_; have HI340 := n3_; have BK352 := n4_; have HB := n5_; clear n0_ n1_ n2_ n3_ n4_ n5_; clear hb ho23) | ((with_reducible refine gate_callee (f := 130) rfl ?_); refine goesL_ (some 20) rfl rfl Try.func130 (by kernel_rfl) rfl #[.pointer (some ⟨g340, 0, none⟩), .int .i64 3] rfl (by (try simp only [List.map_toArray, List.map_cons, List.map_nil]); first | done | rfl | (simp only [List.length_drop, List.length_take]; rfl)) ?_; (with_reducible refine (spec_l1Below.calls g340 t337 t354 t355 3 t359 t360 t361 w _ ?side1 ?side2 A19.out).mono ?_); (case side1 => repeat (first | (with_reducible first | exact HI340.out | apply IsS184.alloc | apply IsS184.drewN | apply IsS184.drew | apply IsS184.set_1 | apply IsS184.set_2 | refine IsS184.far ?_ NB340_336.out _ | refine IsS184.far ?_ NB340_352.out _) | exact HI340.out)); (case side2 => repeat (first | (with_reducible first | exact HB.out | apply below_alloc | apply pw_below_drewN | apply below_drew1 | refine below_set ?_ (IsS184.ge HI340.out) | refine below_set ?_ GE336.out | refine below_set ?_ GE352.out) | exact HB.out)); rintro e w24 ⟨rfl, hi, hb, hk⟩; refine ⟨_, rfl, ?_⟩; have n0_ := Aside0.mk (KeepBut.blk hk (g' := gb336) (o := .cells #[.int .i64 0, .string (⟨#[]⟩ : ByteArray)] 86 (0, 0)) (by (with_reducible repeat (first | refine blk_drewN ?_ _ | refine blk_drew ?_ | refine blk_alloc ?_ _)); exact BK336.out) NB336_340.out (by simp)); have n1_ := Aside0.mk (Kd.R_mono (Kd.R_keep (IsS184.apart (show IsS184 w _ g340 t337 t354 t355 from by repeat (first | (with_reducible first | exact HI340.out | apply IsS184.alloc | apply IsS184.drewN | apply IsS184.drew | apply IsS184.set_1 | apply IsS184.set_2 | refine IsS184.far ?_ NB340_336.out _ | refine IsS184.far ?_ NB340_352.out _) | exact HI340.out)) (by (with_reducible repeat (first | apply Kd.R_alloc | apply Kd.R_drewN | apply Kd.R_drew)); exact HO343.out) (by decide)) hk (fun _ h => h.2)) (fun _ h => h.1)); have n2_ := Aside0.mk (KeepBut.blk hk (g' := gb352) (o := .cells #[.int .i64 t346, .string t349] 86 (0, 0)) (by (with_reducible repeat (first | refine blk_drewN ?_ _ | refine blk_drew ?_ | refine blk_alloc ?_ _)); exact BK352.out) NB352_340.out (by simp)); have n3_ := Aside0.mk (Kd.R_mono (Kd.R_keep (IsS184.apart (show IsS184 w _ g340 t337 t354 t355 from by repeat (first | (with_reducible first | exact HI340.out | apply IsS184.alloc | apply IsS184.drewN | apply IsS184.drew | apply IsS184.set_1 | apply IsS184.set_2 | refine IsS184.far ?_ NB340_336.out _ | refine IsS184.far ?_ NB340_352.out _) | exact HI340.out)) (by (with_reducible repeat (first | apply Kd.R_alloc | apply Kd.R_drewN | apply Kd.R_drew)); exact HO358.out) (by decide)) hk (fun _ h => h.2)) (fun _ h => h.1)); have n4_ := Aside0.mk (hb); have n5_ := Aside0.mk (hi); clear BK336; clear HO343; clear BK352; clear HO358; clear HB; clear HI340; have BK336 := n0_; have HO343 := n1_; have BK352 := n2_; have HO358 := n3_; have HB := n4_; have HI340 := n5_; clear n0_ n1_ n2_ n3_ n4_ n5_; (try clear hb); (try clear hb2); (try clear hk); (try clear hi); obtain ⟨Ao25, co25, eo25⟩ := Kd.R_slice HO358.out; subst eo25; have p362 : 0 ≤ (t359 : Int) := of_decide_eq_true (by first | (with_reducible assumption) | assumption); have q362 : t359 < (y356.length : Int) := of_decide_eq_true (by first | (with_reducible assumption) | assumption); obtain ⟨ad362, e362, hx362_0⟩ := Kd.at_int (Kd.R_reads' HO358.out).2.2 t359 p362 q362; cases e362; replace p362 := eq_true p362; replace q362 := eq_true q362; have hnb26 := NB352_336.out; have hnc26 := NB336_352.out; have hnb27 := NB352_340.out; have hnc27 := NB340_352.out; have hcz28_0 : w24.cell? ⟨gb352, 0, none⟩ = some (.int .i64 t346) := (blk_cell BK352.out 0).trans rfl; have hcz28_1 : w24.cell? ⟨gb352, 1, none⟩ = some (.string t349) := (blk_cell BK352.out 1).trans rfl; have hfz28_0 := blk_frozen BK352.out 0; have hfz28_1 := blk_frozen BK352.out 1))
    have n0_ : Aside0 (Kd.R k86 86 (w24.setCell ⟨gb352, 0, none⟩ (.int .i64 (rd y356 t359))) w.heap.size (fun k_ => k_ ≠ gb336 ∧ k_ ≠ gb352) v342 t341) := ⟨by (with_reducible repeat (first | apply Kd.R_alloc | apply Kd.R_drewN | apply Kd.R_drew)); exact Kd.R_mono (Kd.R_far (p := ⟨gb352, 0, none⟩) (Kd.R_mono HO343.out (fun k_ hk => (⟨hk, hk.2⟩ : _ ∧ k_ ≠ gb352))) (fun _ hk => hk.2) (.int .i64 (rd y356 t359))) (fun _ hk => And.intro hk.1.1.2 hk.1.2)⟩
    have n1_ : Aside0 (Kd.R (Kd.int .i64) 2 (w24.setCell ⟨gb352, 0, none⟩ (.int .i64 (rd y356 t359))) w.heap.size (fun _ => True) (.slice (some ad362) y356.length co25) y356) := ⟨by (with_reducible repeat (first | apply Kd.R_alloc | apply Kd.R_drewN | apply Kd.R_drew)); exact Kd.R_mono (Kd.R_far (p := ⟨gb352, 0, none⟩) (Kd.R_types HO358.out BK352.out (by decide)) (fun _ hk => hk.2) (.int .i64 (rd y356 t359))) (fun _ hk => trivial)⟩
    have n2_ : Aside0 ((w24.setCell ⟨gb352, 0, none⟩ (.int .i64 (rd y356 t359))).heap[gb336]? = some (.cells #[.int .i64 0, .string (⟨#[]⟩ : ByteArray)] 86 (0, 0))) := ⟨by (with_reducible repeat (first | refine blk_drewN ?_ _ | refine blk_drew ?_ | refine blk_alloc ?_ _)); refine blk_far ?_ NB336_352.out _; (with_reducible repeat (first | refine blk_drewN ?_ _ | refine blk_drew ?_ | refine blk_alloc ?_ _)); exact BK336.out⟩
    have n3_ : Aside0 ((w24.setCell ⟨gb352, 0, none⟩ (.int .i64 (rd y356 t359))).heap[gb352]? = some (.cells #[.int .i64 (rd y356 t359), .string t349] 86 (0, 0))) := ⟨by (with_reducible repeat (first | refine blk_drewN ?_ _ | refine blk_drew ?_ | refine blk_alloc ?_ _)); refine blk_put (cs := #[.int .i64 t346, .string t349]) ?_ 0 _ rfl; (with_reducible repeat (first | refine blk_drewN ?_ _ | refine blk_drew ?_ | refine blk_alloc ?_ _)); exact BK352.out⟩
    have n4_ : Aside0 (IsS184 w (w24.setCell ⟨gb352, 0, none⟩ (.int .i64 (rd y356 t359))) g340 t337 t360 t361) := ⟨by repeat (first | (with_reducible first | exact HI340.out | apply IsS184.alloc | apply IsS184.drewN | apply IsS184.drew | apply IsS184.set_1 | apply IsS184.set_2 | refine IsS184.far ?_ NB340_336.out _ | refine IsS184.far ?_ NB340_352.out _) | exact HI340.out)⟩
    have n5_ : Aside0 (Below w.heap.size w (w24.setCell ⟨gb352, 0, none⟩ (.int .i64 (rd y356 t359)))) := ⟨by repeat (first | (with_reducible first | exact HB.out | apply below_alloc | apply pw_below_drewN | apply below_drew1 | refine below_set ?_ (IsS184.ge HI340.out) | refine below_set ?_ GE336.out | refine below_set ?_ GE352.out) | exact HB.out)⟩
    (try clear HO343)
    (try clear HO358)
    (try clear BK336)
    (try clear BK352)
    (try clear HI340)
    (try clear HB)
    generalize (w24.setCell ⟨gb352, 0, none⟩ (.int .i64 (rd y356 t359))) = w29 at n0_ n1_ n2_ n3_ n4_ n5_ ⊢
    have HO343 := n0_
    have HO358 := n1_
    have BK336 := n2_
    have BK352 := n3_
    have HI340 := n4_
    have HB := n5_
    clear n0_ n1_ n2_ n3_ n4_ n5_
    have n0_ := Aside0.mk (Kd.R_drew HO343.out)
    have n1_ := Aside0.mk (Kd.R_drew HO358.out)
    have n2_ := Aside0.mk (blk_drew BK336.out)
    have n3_ := Aside0.mk (blk_drew BK352.out)
    have n4_ := Aside0.mk (IsS184.drew HI340.out)
    have n5_ := Aside0.mk (below_drew1 HB.out)
    clear HO343
    clear HO358
    clear BK336
    clear BK352
    clear HI340
    clear HB
    have HO343 := n0_
    have HO358 := n1_
    have BK336 := n2_
    have BK352 := n3_
    have HI340 := n4_
    have HB := n5_
    clear n0_ n1_ n2_ n3_ n4_ n5_
    refine start_ (n := 4) (S := fun w' => w'.cell? ⟨gb352, 0, none⟩ = some (.int .i64 (rd y356 t359)) ∧ w'.cell? ⟨gb352, 1, none⟩ = some (.string t349)) (ds := []) #[false, false, false, false] (by kernel_rfl) rfl rfl ⟨(blk_cell BK352.out 0).trans rfl, (blk_cell BK352.out 1).trans rfl⟩ (fun hHeld => ?_)
    generalize w29.drew = w30 at HO343 HO358 BK336 BK352 HI340 HB hHeld ⊢
    refine pure_ (i := 0) (N := some 24) (v := ?_) (a' := ?_) #[true, false, false, false] rfl rfl (by kernel_rfl) (fun _ _ _ h => h) (Or.inl ⟨by rfl, ?_⟩) ?_ ?_
    rotate_left
    ·intro w'
     go_simp
     with_reducible rfl
    rotate_left
    ·simp only [sp_]
     rfl
    refine pure_ (i := 2) (N := some 2) (v := ?_) (a' := ?_) #[true, false, true, false] rfl rfl (by kernel_rfl) (fun _ _ _ h => h) (Or.inl ⟨by rfl, ?_⟩) ?_ ?_
    rotate_left
    ·intro w'
     go_simp
     with_reducible rfl
    rotate_left
    ·simp only [sp_]
     rfl
    refine take_ (i := 1) (N := some 25) (v := ?_) (a' := ?_) #[true, true, true, false] rfl rfl (by kernel_rfl) (fun _ _ _ h => h) (Or.inl ⟨by rfl, ?_⟩) hHeld ?_ ?_
    rotate_left
    ·rintro w' ⟨s0, s1⟩
     go_simp
     with_reducible rfl
    rotate_left
    ·simp only [sp_]
     rfl
    refine one_ (i := 3) (N := none) #[true, true, true, true] rfl rfl (by kernel_rfl) (by decide) (fun K hK => ?_)
    have hs31 : w30.cell? ⟨gb336, 0, none⟩ = some (.int .i64 0) := (blk_cell BK336.out 0).trans rfl
    have hfs31 := blk_frozen BK336.out 0
    have hns31_1 := NB352_336.out
    have hms31_1 := NB336_352.out
    have hs32 : w30.cell? ⟨gb336, 1, none⟩ = some (.string (⟨#[]⟩ : ByteArray)) := (blk_cell BK336.out 1).trans rfl
    have hfs32 := blk_frozen BK336.out 1
    have hns32_1 := NB352_336.out
    have hms32_1 := NB336_352.out
    refine skip_ (w1 := ?_) (by rfl) rfl ?_ ?_
    rotate_left
    ·go_simp
     rfl
    refine hK.out _ _ ⟨((cell_far (p := ⟨gb336, _, none⟩) NB352_336.out _).trans (((cell_far (p := ⟨gb336, _, none⟩) NB352_336.out _).trans (hHeld.1)))), ((cell_far (p := ⟨gb336, _, none⟩) NB352_336.out _).trans (((cell_far (p := ⟨gb336, _, none⟩) NB352_336.out _).trans (hHeld.2))))⟩ (fun hHeld => ?_)
    clear hK K
    refine done_ (by kernel_rfl) ?_
    try go_wp2
    refine bodyPost_ret (results_tc rfl _ _ gb336 86 #[.int .i64 (rd y356 t359), .string t349] (0, 0) _ rfl (by (with_reducible repeat (first | refine blk_drewN ?_ _ | refine blk_drew ?_ | refine blk_alloc ?_ _)); refine blk_put (cs := #[.int .i64 (rd y356 t359), .string (⟨#[]⟩ : ByteArray)]) ?_ 1 _ rfl; (with_reducible repeat (first | refine blk_drewN ?_ _ | refine blk_drew ?_ | refine blk_alloc ?_ _)); refine blk_put (cs := #[.int .i64 0, .string (⟨#[]⟩ : ByteArray)]) ?_ 0 _ rfl; (with_reducible repeat (first | refine blk_drewN ?_ _ | refine blk_drew ?_ | refine blk_alloc ?_ _)); exact BK336.out) Try.underlying86 rfl (by kernel_rfl)) rfl ?_
    exact ⟨_, by first | rfl | (simp [errW_none, errW_some] <;> rfl) | (simp [*, errW_none, errW_some] <;> rfl), by (with_reducible repeat (first | apply Kd.R_alloc | apply Kd.R_drewN | apply Kd.R_drew)); exact Kd.R_mono (Kd.R_far (p := ⟨gb336, 1, none⟩) (Kd.R_far (p := ⟨gb336, 0, none⟩) (Kd.R_mono HO343.out (fun k_ hk => (⟨hk, hk.1⟩ : _ ∧ k_ ≠ gb336))) (fun _ hk => hk.2) (.int .i64 (rd y356 t359))) (fun _ hk => hk.2) (.string t349)) (fun _ hk => trivial), by repeat (first | (with_reducible first | exact HB.out | apply below_alloc | apply pw_below_drewN | apply below_drew1 | refine below_set ?_ (IsS184.ge HI340.out) | refine below_set ?_ GE336.out | refine below_set ?_ GE352.out) | exact HB.out)⟩
   ·rw [if_neg c21] at H
    exact absurd H (by simp)
  ·rw [if_neg c20] at H
   exact absurd H (by simp)
 ·replace c18 := Bool.eq_false_iff.mpr c18
  subst c18
  have H1 : (some (t341, t346, t349)) = some (r1, r2, r3) := by rw [if_neg (show ¬ (false = true) by decide)] at H; exact H
  clear H
  have H := H1
  clear H1
  simp only [Option.some.injEq, Prod.mk.injEq] at H
  obtain ⟨rfl, rfl, rfl⟩ := H
  try go_wp2
  have n0_ := Aside0.mk (Kd.R_drew HO343.out)
  have n1_ := Aside0.mk (blk_drew BK336.out)
  have n2_ := Aside0.mk (blk_drew BK352.out)
  have n3_ := Aside0.mk (IsS184.drew HI340.out)
  have n4_ := Aside0.mk (below_drew1 HB.out)
  clear HO343
  clear BK336
  clear BK352
  clear HI340
  clear HB
  have HO343 := n0_
  have BK336 := n1_
  have BK352 := n2_
  have HI340 := n3_
  have HB := n4_
  clear n0_ n1_ n2_ n3_ n4_
  refine start_ (n := 4) (S := fun w' => w'.cell? ⟨gb352, 0, none⟩ = some (.int .i64 t346) ∧ w'.cell? ⟨gb352, 1, none⟩ = some (.string t349)) (ds := []) #[false, false, false, false] (by kernel_rfl) rfl rfl ⟨(blk_cell BK352.out 0).trans rfl, (blk_cell BK352.out 1).trans rfl⟩ (fun hHeld => ?_)
  generalize w17.drew = w33 at HO343 BK336 BK352 HI340 HB hHeld ⊢
  refine pure_ (i := 0) (N := some 24) (v := ?_) (a' := ?_) #[true, false, false, false] rfl rfl (by kernel_rfl) (fun _ _ _ h => h) (Or.inl ⟨by rfl, ?_⟩) ?_ ?_
  rotate_left
  ·intro w'
   go_simp
   with_reducible rfl
  rotate_left
  ·simp only [sp_]
   rfl
  refine pure_ (i := 2) (N := some 2) (v := ?_) (a' := ?_) #[true, false, true, false] rfl rfl (by kernel_rfl) (fun _ _ _ h => h) (Or.inl ⟨by rfl, ?_⟩) ?_ ?_
  rotate_left
  ·intro w'
   go_simp
   with_reducible rfl
  rotate_left
  ·simp only [sp_]
   rfl
  refine take_ (i := 1) (N := some 25) (v := ?_) (a' := ?_) #[true, true, true, false] rfl rfl (by kernel_rfl) (fun _ _ _ h => h) (Or.inl ⟨by rfl, ?_⟩) hHeld ?_ ?_
  rotate_left
  ·rintro w' ⟨s0, s1⟩
   go_simp
   with_reducible rfl
  rotate_left
  ·simp only [sp_]
   rfl
  refine one_ (i := 3) (N := none) #[true, true, true, true] rfl rfl (by kernel_rfl) (by decide) (fun K hK => ?_)
  have hs34 : w33.cell? ⟨gb336, 0, none⟩ = some (.int .i64 0) := (blk_cell BK336.out 0).trans rfl
  have hfs34 := blk_frozen BK336.out 0
  have hns34_1 := NB352_336.out
  have hms34_1 := NB336_352.out
  have hs35 : w33.cell? ⟨gb336, 1, none⟩ = some (.string (⟨#[]⟩ : ByteArray)) := (blk_cell BK336.out 1).trans rfl
  have hfs35 := blk_frozen BK336.out 1
  have hns35_1 := NB352_336.out
  have hms35_1 := NB336_352.out
  refine skip_ (w1 := ?_) (by rfl) rfl ?_ ?_
  rotate_left
  ·go_simp
   rfl
  refine hK.out _ _ ⟨((cell_far (p := ⟨gb336, _, none⟩) NB352_336.out _).trans (((cell_far (p := ⟨gb336, _, none⟩) NB352_336.out _).trans (hHeld.1)))), ((cell_far (p := ⟨gb336, _, none⟩) NB352_336.out _).trans (((cell_far (p := ⟨gb336, _, none⟩) NB352_336.out _).trans (hHeld.2))))⟩ (fun hHeld => ?_)
  clear hK K
  refine done_ (by kernel_rfl) ?_
  try go_wp2
  refine bodyPost_ret (results_tc rfl _ _ gb336 86 #[.int .i64 t346, .string t349] (0, 0) _ rfl (by (with_reducible repeat (first | refine blk_drewN ?_ _ | refine blk_drew ?_ | refine blk_alloc ?_ _)); refine blk_put (cs := #[.int .i64 t346, .string (⟨#[]⟩ : ByteArray)]) ?_ 1 _ rfl; (with_reducible repeat (first | refine blk_drewN ?_ _ | refine blk_drew ?_ | refine blk_alloc ?_ _)); refine blk_put (cs := #[.int .i64 0, .string (⟨#[]⟩ : ByteArray)]) ?_ 0 _ rfl; (with_reducible repeat (first | refine blk_drewN ?_ _ | refine blk_drew ?_ | refine blk_alloc ?_ _)); exact BK336.out) Try.underlying86 rfl (by kernel_rfl)) rfl ?_
  exact ⟨_, by first | rfl | (simp [errW_none, errW_some] <;> rfl) | (simp [*, errW_none, errW_some] <;> rfl), by (with_reducible repeat (first | apply Kd.R_alloc | apply Kd.R_drewN | apply Kd.R_drew)); exact Kd.R_mono (Kd.R_far (p := ⟨gb336, 1, none⟩) (Kd.R_far (p := ⟨gb336, 0, none⟩) (Kd.R_mono HO343.out (fun k_ hk => (⟨hk, hk.1.2⟩ : _ ∧ k_ ≠ gb336))) (fun _ hk => hk.2) (.int .i64 t346)) (fun _ hk => hk.2) (.string t349)) (fun _ hk => trivial), by repeat (first | (with_reducible first | exact HB.out | apply below_alloc | apply pw_below_drewN | apply below_drew1 | refine below_set ?_ (IsS184.ge HI340.out) | refine below_set ?_ GE336.out | refine below_set ?_ GE352.out) | exact HB.out)⟩

end Go.Proofs.Ytckgkhlgnblblaa.PFnPool
