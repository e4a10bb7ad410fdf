-- Written by a program of this session (wip/tools/pp.py over the kit's print).
import Derived.Test.YtokfpmkhfindmaaDoorPFnProofsx0
import Derived.Test.YtokfpmkhfindmaaDoorPFnProofsx9
import Derived.Test.YtokfpmkhfindmaaDoorPFnProofsx10
namespace Go.Proofs.YtokfpmkhfindmaaDoor.PFnProofs
open Go.RowKit Go.Proofs.YtokfpmkhfindmaaDoorW.PrintWords Go.Proofs.YtokfpmkhfindmaaDoorW.PrintLast Go.Proofs.YtokfpmkhfindmaaDoorW.PrintMore
attribute [local go_sem] max2_int min2_int max_two min_two max_three min_three max_four min_four
attribute [local go_sem high] str_gtr str_leq str_geq
set_option linter.unusedVariables false
set_option linter.unusedSimpArgs false

/-! ### spec_DrawProofOk: function 18 -/
def spec_DrawProofOk.f (k : Nat) (l0 : List Int) : Option (Int × Int × List Int × List Int × Int) := (spec_l1New.f k l0).bind fun bt345 => ((spec_l15DrawProof.f k bt345.1 bt345.2.1 bt345.2.2).bind fun bt349 => ((spec_l15DrawN.f bt345.1 bt349.2.2.2.2.1 bt349.2.2.2.2.2).bind fun bt360 => (some (bt349.1, bt349.2.1, bt349.2.2.1, bt349.2.2.2.1, bt360.1))))
theorem spec_DrawProofOk.mono : ∀ a0 k, LeO (spec_DrawProofOk.f k a0) (spec_DrawProofOk.f (k + 1) a0) := by
 intro a0 k
 unfold spec_DrawProofOk.f
 repeat' first
   | (with_reducible exact spec_l15DrawProof.mono _ _ _ _)
   | (with_reducible exact spec_l1New.mono _ _)
   | (with_reducible exact LeO.refl _)
   | (with_reducible exact LeO.none _)
   | (with_reducible refine LeO.ite ?_ ?_)
   | (with_reducible refine LeO.bind ?_ (fun _ => ?_))
   | exact spec_l15DrawProof.mono _ _ _ _
   | exact spec_l1New.mono _ _
   | exact LeO.none _
   | refine LeO.ite ?_ ?_
   | refine LeO.bind ?_ (fun _ => ?_)
set_option maxHeartbeats 8000000 in
set_option maxRecDepth 100000 in
theorem spec_DrawProofOk.calls (k : Nat) (A0 : Option Addr) (c0 : Nat) (l0 : List Int) (r1 : Int) (r2 : Int) (r3 : List Int) (r4 : List Int) (r5 : Int) (w : World) (hr0 : Kd.C (Kd.int .u8) w A0 l0.length l0) (hc0 : l0.length ≤ c0) (h : spec_DrawProofOk.f k l0 = some (r1, r2, r3, r4, r5)) :
  Calls Tryd.prog 18 #[.slice A0 l0.length c0] w fun e w' => ∃ v2_ v3_ : Value, e = .returned (.tuple #[.agg #[.int .i64 r1, .int .i64 r2, v2_, v3_], .int .i64 r5]) ∧ Kd.Q (Kd.int .i64) 2 w' w.heap.size (fun k_ => some k_ ≠ (v3_ : Value).ownBlock) v2_ r3 ∧ Kd.R (Kd.int .i64) 2 w' w.heap.size (fun k_ => some k_ ≠ (v2_ : Value).ownBlock) v3_ r4 ∧ Below w.heap.size w w' := by
 have hu26 := Tryd.underlying26
 have HR0 := Aside0.mk hr0
 have HC0 := Aside0.mk hc0
 clear hr0 hc0
 have HB := Aside0.mk (Below.refl w.heap.size w)
 have H : ((spec_l1New.f k l0).bind fun bt345 => ((spec_l15DrawProof.f k bt345.1 bt345.2.1 bt345.2.2).bind fun bt349 => ((spec_l15DrawN.f bt345.1 bt349.2.2.2.2.1 bt349.2.2.2.2.2).bind fun bt360 => (some (bt349.1, bt349.2.1, bt349.2.2.1, bt349.2.2.2.1, bt360.1))))) = some (r1, r2, r3, r4, r5) := h
 clear h
 replace H := Option.bind_eq_some_iff.mp H
 obtain ⟨⟨t345, t346, t347⟩, A20, H⟩ := H
 replace H : ((spec_l15DrawProof.f k t345 t346 t347).bind fun bt349 => ((spec_l15DrawN.f t345 bt349.2.2.2.2.1 bt349.2.2.2.2.2).bind fun bt360 => (some (bt349.1, bt349.2.1, bt349.2.2.1, bt349.2.2.2.1, bt360.1)))) = some (r1, r2, r3, r4, r5) := H
 have A2 := Aside0.mk A20
 clear A20
 replace H := Option.bind_eq_some_iff.mp H
 obtain ⟨⟨t349, t350, t351, t354, t357, t358⟩, A30, H⟩ := H
 replace H : ((spec_l15DrawN.f t345 t357 t358).bind fun bt360 => (some (t349, t350, t351, t354, bt360.1))) = some (r1, r2, r3, r4, r5) := H
 have A3 := Aside0.mk A30
 clear A30
 replace H := Option.bind_eq_some_iff.mp H
 obtain ⟨⟨t360, t361, t362⟩, A40, H⟩ := H
 replace H : (some (t349, t350, t351, t354, t360)) = some (r1, r2, r3, r4, r5) := H
 have A4 := Aside0.mk A40
 clear A40
 simp only [Option.some.injEq, Prod.mk.injEq] at H
 obtain ⟨rfl, rfl, rfl, rfl, rfl⟩ := H
 go_enter Tryd.func18, Tryd.ntmps18
 try go_wp2_with (first | ((with_reducible refine gate_dst (N := 2) rfl ?_); refine box_event ?hg (N := 2) ?hd (cs := #[.int .i64 0, .int .i64 0, .slice none 0 0, .slice none 0 0]) (t := 26) ?hr ?_; (case hd => rfl); (case hg => rfl); (case hr => first | (go_simp; done) | (go_simp; rfl)); intro gb344 hg w5 hbox hb; have n0_ := Aside0.mk (below_step d1 hb); have n1_ := Aside0.mk (hbox); have n2_ := Aside0.mk ((by rw [hg]; exact (below_size d1) : w.heap.size ≤ gb344)); have n3_ := Aside0.mk ((by rw [hg]; exact (below_size d1) : w.heap.size ≤ gb344)); clear HB; have HB := n0_; have BK344 := n1_; have GW344 := n2_; have GE344 := n3_; clear n0_ n1_ n2_ n3_; clear hb hbox hg) | ((with_reducible refine gate_callee (f := 46) rfl ?_); refine goesL_ (some 7) rfl rfl Tryd.func46 (by kernel_rfl) rfl #[.slice A0 l0.length c0] rfl d0 ?_; (with_reducible refine (spec_l1New.calls k _ _ l0 t345 t346 t347 w _ ?side1 ?side2 ?side3 A2.out).mono ?_); (case side1 => exact (by repeat (first | (with_reducible first | exact HB.out | apply below_alloc | apply pw_below_drewN | apply below_drew1 | refine below_set ?_ GE344.out) | exact HB.out))); (case side2 => exact HR0.out); (case side3 => exact HC0.out); rintro e w6 ⟨g348, rfl, hi, hb, hb2⟩; refine ⟨_, rfl, ?_⟩; have n0_ := Aside0.mk (blk_below (g := gb344) (o := .cells #[.int .i64 0, .int .i64 0, .slice none 0 0, .slice none 0 0] 26 (0, 0)) d68 hb2); have n1_ := Aside0.mk (hb); have n2_ := Aside0.mk (hi); have n3_ := Aside0.mk (IsS96.ne_blk hi (blk_below (g := gb344) (o := .cells #[.int .i64 0, .int .i64 0, .slice none 0 0, .slice none 0 0] 26 (0, 0)) d68 hb2) (by decide)); have n4_ := Aside0.mk (Ne.symm (IsS96.ne_blk hi (blk_below (g := gb344) (o := .cells #[.int .i64 0, .int .i64 0, .slice none 0 0, .slice none 0 0] 26 (0, 0)) d68 hb2) (by decide))); clear BK344; clear HB; have BK344 := n0_; have HB := n1_; have HI348 := n2_; have NB348_344 := n3_; have NB344_348 := n4_; clear n0_ n1_ n2_ n3_ n4_; (try clear hb); (try clear hb2); (try clear hk); (try clear hi)) | ((with_reducible refine gate_callee (f := 49) rfl ?_); refine goesL_ (some 9) rfl rfl Tryd.func49 (by kernel_rfl) rfl #[.pointer (some ⟨g348, 0, none⟩)] rfl d0 ?_; (with_reducible refine (spec_l15DrawProof.calls k g348 t345 t346 t347 t349 t350 t351 t354 t357 t358 w _ ?side1 ?side2 A3.out).mono ?_); (case side1 => exact o40); (case side2 => exact (by repeat (first | (with_reducible first | exact HB.out | apply below_alloc | apply pw_below_drewN | apply below_drew1 | refine below_set ?_ (IsS96.ge HI348.out) | refine below_set ?_ GE344.out) | exact HB.out))); rintro e w7 ⟨v352, v355, rfl, ho0, ho1, hi, hb, hk⟩; refine ⟨_, rfl, ?_⟩; have n0_ := Aside0.mk (KeepBut.blk hk (g' := gb344) (o := .cells #[.int .i64 0, .int .i64 0, .slice none 0 0, .slice none 0 0] 26 (0, 0)) d68 NB344_348.out (by simp)); have n1_ := Aside0.mk (Kd.Q_lower ho0 (below_size d66)); have n2_ := Aside0.mk (Kd.R_lower ho1 (below_size d66)); have n3_ := Aside0.mk (hb); have n4_ := Aside0.mk (hi); clear BK344; clear HB; clear HI348; have BK344 := n0_; have HO353 := n1_; have HO356 := n2_; have HB := n3_; have HI348 := n4_; clear n0_ n1_ n2_ n3_ n4_; (try clear hb); (try clear hb2); (try clear hk); (try clear hi); (try clear ho0); (try clear ho1)) | ((with_reducible refine gate_dst (N := 5) rfl ?_); refine box_event ?hg (N := 5) ?hd (cs := #[.int .i64 0, .int .i64 0, .slice none 0 0, .slice none 0 0]) (t := 26) ?hr ?_; (case hd => rfl); (case hg => rfl); (case hr => first | (go_simp; done) | (go_simp; rfl)); intro gb359 hg w8 hbox hb; have n0_ := Aside0.mk (Kd.Q_below (by (with_reducible repeat (first | apply Kd.Q_alloc | apply Kd.Q_drewN | apply Kd.Q_drew)); exact HO353.out) hb); have n1_ := Aside0.mk (Kd.R_below (by (with_reducible repeat (first | apply Kd.R_alloc | apply Kd.R_drewN | apply Kd.R_drew)); exact HO356.out) hb); have n2_ := Aside0.mk (blk_below (g := gb344) (o := .cells #[.int .i64 0, .int .i64 0, .slice none 0 0, .slice none 0 0] 26 (0, 0)) d68 hb); have n3_ := Aside0.mk (IsS96.below o40 hb); have n4_ := Aside0.mk (below_step d66 hb); have n5_ := Aside0.mk (hbox); have n6_ := Aside0.mk ((by rw [hg]; exact (below_size d66) : w.heap.size ≤ gb359)); have n7_ := Aside0.mk ((by rw [hg]; exact (below_size d66) : w.heap.size ≤ gb359)); have n8_ := Aside0.mk ((by rw [hg]; exact Nat.ne_of_lt (blk_lt (g := gb344) (o := .cells #[.int .i64 0, .int .i64 0, .slice none 0 0, .slice none 0 0] 26 (0, 0)) d68) : gb344 ≠ gb359)); have n9_ := Aside0.mk ((by rw [hg]; exact Nat.ne_of_gt (blk_lt (g := gb344) (o := .cells #[.int .i64 0, .int .i64 0, .slice none 0 0, .slice none 0 0] 26 (0, 0)) d68) : gb359 ≠ gb344)); have n10_ := Aside0.mk ((by rw [hg]; exact Nat.ne_of_lt (IsS96.lt (show IsS96 w _ g348 t345 t357 t358 from o40)) : g348 ≠ gb359)); have n11_ := Aside0.mk ((by rw [hg]; exact Nat.ne_of_gt (IsS96.lt (show IsS96 w _ g348 t345 t357 t358 from o40)) : gb359 ≠ g348)); clear HO353; clear HO356; clear BK344; clear HI348; clear HB; have HO353 := n0_; have HO356 := n1_; have BK344 := n2_; have HI348 := n3_; have HB := n4_; have BK359 := n5_; have GW359 := n6_; have GE359 := n7_; have NB344_359 := n8_; have NB359_344 := n9_; have NB348_359 := n10_; have NB359_348 := n11_; clear n0_ n1_ n2_ n3_ n4_ n5_ n6_ n7_ n8_ n9_ n10_ n11_; clear hb hbox hg; have hnb9 := NB359_344.out; have hnc9 := NB344_359.out; have hnb10 := NB359_348.out; have hnc10 := NB348_359.out; have hcz11_0 : w8.cell? ⟨gb359, 0, none⟩ = some (.int .i64 0) := (blk_cell BK359.out 0).trans rfl; have hcz11_1 : w8.cell? ⟨gb359, 1, none⟩ = some (.int .i64 0) := (blk_cell BK359.out 1).trans rfl; have hcz11_2 : w8.cell? ⟨gb359, 2, none⟩ = some (.slice none 0 0) := (blk_cell BK359.out 2).trans rfl; have hcz11_3 : w8.cell? ⟨gb359, 3, none⟩ = some (.slice none 0 0) := (blk_cell BK359.out 3).trans rfl; have hfz11_0 := blk_frozen BK359.out 0; have hfz11_1 := blk_frozen BK359.out 1; have hfz11_2 := blk_frozen BK359.out 2; have hfz11_3 := blk_frozen BK359.out 3; obtain ⟨Ao12, co12, eo12, _⟩ := Kd.Q_slice HO353.out; subst eo12; obtain ⟨Ao13, co13, eo13⟩ := Kd.R_slice HO356.out; subst eo13))
 have n0_ : Aside0 (Kd.Q (Kd.int .i64) 2 ((((w8.setCell ⟨gb359, 0, none⟩ (.int .i64 t349)).setCell ⟨gb359, 1, none⟩ (.int .i64 t350)).setCell ⟨gb359, 2, none⟩ (.slice Ao12 t351.length co12)).setCell ⟨gb359, 3, none⟩ (.slice Ao13 t354.length co13)) w.heap.size (fun k_ => some k_ ≠ (.slice Ao13 t354.length co13 : Value).ownBlock) (.slice Ao12 t351.length co12) t351) := ⟨(by (with_reducible repeat (first | apply Kd.Q_alloc | apply Kd.Q_drewN | apply Kd.Q_drew)); exact Kd.Q_mono (Kd.Q_far (p := ⟨gb359, 3, none⟩) (Kd.Q_far (p := ⟨gb359, 2, none⟩) (Kd.Q_far (p := ⟨gb359, 1, none⟩) (Kd.Q_far (p := ⟨gb359, 0, none⟩) (Kd.Q_types HO353.out BK359.out (by decide)) (fun _ hk => hk.2) (.int .i64 t349)) (fun _ hk => hk.2) (.int .i64 t350)) (fun _ hk => hk.2) (.slice Ao12 t351.length co12)) (fun _ hk => hk.2) (.slice Ao13 t354.length co13)) (fun _ hk => hk.1))⟩
 have n1_ : Aside0 (Kd.R (Kd.int .i64) 2 ((((w8.setCell ⟨gb359, 0, none⟩ (.int .i64 t349)).setCell ⟨gb359, 1, none⟩ (.int .i64 t350)).setCell ⟨gb359, 2, none⟩ (.slice Ao12 t351.length co12)).setCell ⟨gb359, 3, none⟩ (.slice Ao13 t354.length co13)) w.heap.size (fun k_ => some k_ ≠ (.slice Ao12 t351.length co12 : Value).ownBlock) (.slice Ao13 t354.length co13) t354) := ⟨(by (with_reducible repeat (first | apply Kd.R_alloc | apply Kd.R_drewN | apply Kd.R_drew)); exact Kd.R_mono (Kd.R_far (p := ⟨gb359, 3, none⟩) (Kd.R_far (p := ⟨gb359, 2, none⟩) (Kd.R_far (p := ⟨gb359, 1, none⟩) (Kd.R_far (p := ⟨gb359, 0, none⟩) (Kd.R_types HO356.out BK359.out (by decide)) (fun _ hk => hk.2) (.int .i64 t349)) (fun _ hk => hk.2) (.int .i64 t350)) (fun _ hk => hk.2) (.slice Ao12 t351.length co12)) (fun _ hk => hk.2) (.slice Ao13 t354.length co13)) (fun _ hk => hk.1))⟩
 have n2_ : Aside0 (((((w8.setCell ⟨gb359, 0, none⟩ (.int .i64 t349)).setCell ⟨gb359, 1, none⟩ (.int .i64 t350)).setCell ⟨gb359, 2, none⟩ (.slice Ao12 t351.length co12)).setCell ⟨gb359, 3, none⟩ (.slice Ao13 t354.length co13)).heap[gb344]? = some (.cells #[.int .i64 0, .int .i64 0, .slice none 0 0, .slice none 0 0] 26 (0, 0))) := ⟨(by (with_reducible repeat (first | refine blk_drewN ?_ _ | refine blk_drew ?_ | refine blk_alloc ?_ _)); refine blk_far ?_ NB344_359.out _; (with_reducible repeat (first | refine blk_drewN ?_ _ | refine blk_drew ?_ | refine blk_alloc ?_ _)); refine blk_far ?_ NB344_359.out _; (with_reducible repeat (first | refine blk_drewN ?_ _ | refine blk_drew ?_ | refine blk_alloc ?_ _)); refine blk_far ?_ NB344_359.out _; (with_reducible repeat (first | refine blk_drewN ?_ _ | refine blk_drew ?_ | refine blk_alloc ?_ _)); refine blk_far ?_ NB344_359.out _; (with_reducible repeat (first | refine blk_drewN ?_ _ | refine blk_drew ?_ | refine blk_alloc ?_ _)); exact BK344.out)⟩
 have n3_ : Aside0 (((((w8.setCell ⟨gb359, 0, none⟩ (.int .i64 t349)).setCell ⟨gb359, 1, none⟩ (.int .i64 t350)).setCell ⟨gb359, 2, none⟩ (.slice Ao12 t351.length co12)).setCell ⟨gb359, 3, none⟩ (.slice Ao13 t354.length co13)).heap[gb359]? = some (.cells #[.int .i64 t349, .int .i64 t350, .slice Ao12 t351.length co12, .slice Ao13 t354.length co13] 26 (0, 0))) := ⟨(by (with_reducible repeat (first | refine blk_drewN ?_ _ | refine blk_drew ?_ | refine blk_alloc ?_ _)); refine blk_put (cs := #[.int .i64 t349, .int .i64 t350, .slice Ao12 t351.length co12, .slice none 0 0]) ?_ 3 _ rfl; (with_reducible repeat (first | refine blk_drewN ?_ _ | refine blk_drew ?_ | refine blk_alloc ?_ _)); refine blk_put (cs := #[.int .i64 t349, .int .i64 t350, .slice none 0 0, .slice none 0 0]) ?_ 2 _ rfl; (with_reducible repeat (first | refine blk_drewN ?_ _ | refine blk_drew ?_ | refine blk_alloc ?_ _)); refine blk_put (cs := #[.int .i64 t349, .int .i64 0, .slice none 0 0, .slice none 0 0]) ?_ 1 _ rfl; (with_reducible repeat (first | refine blk_drewN ?_ _ | refine blk_drew ?_ | refine blk_alloc ?_ _)); refine blk_put (cs := #[.int .i64 0, .int .i64 0, .slice none 0 0, .slice none 0 0]) ?_ 0 _ rfl; (with_reducible repeat (first | refine blk_drewN ?_ _ | refine blk_drew ?_ | refine blk_alloc ?_ _)); exact BK359.out)⟩
 have n4_ : Aside0 (IsS96 w ((((w8.setCell ⟨gb359, 0, none⟩ (.int .i64 t349)).setCell ⟨gb359, 1, none⟩ (.int .i64 t350)).setCell ⟨gb359, 2, none⟩ (.slice Ao12 t351.length co12)).setCell ⟨gb359, 3, none⟩ (.slice Ao13 t354.length co13)) g348 t345 t357 t358) := ⟨o35⟩
 have n5_ : Aside0 (Below w.heap.size w ((((w8.setCell ⟨gb359, 0, none⟩ (.int .i64 t349)).setCell ⟨gb359, 1, none⟩ (.int .i64 t350)).setCell ⟨gb359, 2, none⟩ (.slice Ao12 t351.length co12)).setCell ⟨gb359, 3, none⟩ (.slice Ao13 t354.length co13))) := ⟨o49⟩
 (try clear HO353)
 (try clear HO356)
 (try clear BK344)
 (try clear BK359)
 (try clear HI348)
 (try clear HB)
 generalize ((((w8.setCell ⟨gb359, 0, none⟩ (.int .i64 t349)).setCell ⟨gb359, 1, none⟩ (.int .i64 t350)).setCell ⟨gb359, 2, none⟩ (.slice Ao12 t351.length co12)).setCell ⟨gb359, 3, none⟩ (.slice Ao13 t354.length co13)) = w14 at n0_ n1_ n2_ n3_ n4_ n5_ ⊢
 have HO353 := n0_
 have HO356 := n1_
 have BK344 := n2_
 have BK359 := n3_
 have HI348 := n4_
 have HB := n5_
 clear n0_ n1_ n2_ n3_ n4_ n5_
 have n0_ := Aside0.mk (Kd.Q_drew HO353.out)
 have n1_ := Aside0.mk (Kd.R_drew HO356.out)
 have n2_ := Aside0.mk (blk_drew BK344.out)
 have n3_ := Aside0.mk (blk_drew BK359.out)
 have n4_ := Aside0.mk (IsS96.drew HI348.out)
 have n5_ := Aside0.mk (below_drew1 HB.out)
 clear HO353
 clear HO356
 clear BK344
 clear BK359
 clear HI348
 clear HB
 have HO353 := n0_
 have HO356 := n1_
 have BK344 := n2_
 have BK359 := n3_
 have HI348 := n4_
 have HB := n5_
 clear n0_ n1_ n2_ n3_ n4_ n5_
 refine start_ (n := 5) (S := fun w' => w'.cell? ⟨gb359, 0, none⟩ = some (.int .i64 t349) ∧ w'.cell? ⟨gb359, 1, none⟩ = some (.int .i64 t350) ∧ w'.cell? ⟨gb359, 2, none⟩ = some (.slice Ao12 t351.length co12) ∧ w'.cell? ⟨gb359, 3, none⟩ = some (.slice Ao13 t354.length co13)) (ds := []) #[false, false, false, false, false] (by kernel_rfl) rfl rfl ⟨(blk_cell BK359.out 0).trans rfl, (blk_cell BK359.out 1).trans rfl, (blk_cell BK359.out 2).trans rfl, (blk_cell BK359.out 3).trans rfl⟩ (fun hHeld => ?_)
 generalize w14.drew = w15 at HO353 HO356 BK344 BK359 HI348 HB hHeld ⊢
 refine pure_ (i := 1) (N := some 11) (v := ?_) (a' := ?_) #[false, true, false, false, false] rfl rfl (by kernel_rfl) (fun _ _ _ h => h) (Or.inl ⟨(by rfl), ?_⟩) ?_ ?_
 rotate_left
 ·intro w'
  go_simp
  with_reducible rfl
 rotate_left
 ·simp only [sp_]
  rfl
 refine take_ (i := 0) (N := some 10) (v := ?_) (a' := ?_) #[true, true, false, false, false] rfl rfl (by kernel_rfl) (fun _ _ _ h => h) (Or.inl ⟨(by rfl), ?_⟩) hHeld ?_ ?_
 rotate_left
 ·rintro w' ⟨s0, s1, s2, s3⟩
  go_simp
  with_reducible rfl
 rotate_left
 ·simp only [sp_]
  rfl
 refine one_ (i := 2) (N := some 12) #[true, true, true, false, false] rfl rfl (by kernel_rfl) (by decide) (fun K hK => ?_)
 refine goes_ Tryd.func48 (by kernel_rfl) rfl #[.pointer (some ⟨g348, 0, none⟩)] (by rfl) rfl rfl d0 ?_
 with_reducible refine (spec_l15DrawN.calls g348 t345 t357 t358 t360 t361 t362 w _ ?side1 ?side2 A4.out).mono ?_
 (case side1 => exact o35)
 (case side2 => exact o49)
 rintro e w16 ⟨rfl, hi, hb, hk⟩
 refine ⟨_, rfl, ?_⟩
 have n0_ := Aside0.mk (KeepBut.blk hk (g' := gb344) (o := .cells #[.int .i64 0, .int .i64 0, .slice none 0 0, .slice none 0 0] 26 (0, 0)) d68 NB344_348.out (by simp))
 have n1_ := Aside0.mk (Kd.Q_mono (Kd.Q_keep (IsS96.apartQ (show IsS96 w _ g348 t345 t357 t358 from o35) (by (with_reducible repeat (first | apply Kd.Q_alloc | apply Kd.Q_drewN | apply Kd.Q_drew)); exact HO353.out) (by decide)) hk (fun _ h => h.2)) (fun _ h => h.1))
 have n2_ := Aside0.mk (Kd.R_mono (Kd.R_keep (IsS96.apart (show IsS96 w _ g348 t345 t357 t358 from o35) (by (with_reducible repeat (first | apply Kd.R_alloc | apply Kd.R_drewN | apply Kd.R_drew)); exact HO356.out) (by decide)) hk (fun _ h => h.2)) (fun _ h => h.1))
 have n3_ := Aside0.mk (KeepBut.blk hk (g' := gb359) (o := .cells #[.int .i64 t349, .int .i64 t350, .slice Ao12 t351.length co12, .slice Ao13 t354.length co13] 26 (0, 0)) (by (with_reducible repeat (first | refine blk_drewN ?_ _ | refine blk_drew ?_ | refine blk_alloc ?_ _)); exact BK359.out) NB359_348.out (by simp))
 have n4_ := Aside0.mk (hb)
 have n5_ := Aside0.mk (hi)
 clear BK344
 clear HO353
 clear HO356
 clear BK359
 clear HB
 clear HI348
 have BK344 := n0_
 have HO353 := n1_
 have HO356 := n2_
 have BK359 := n3_
 have HB := n4_
 have HI348 := n5_
 clear n0_ n1_ n2_ n3_ n4_ n5_
 (try clear hb)
 (try clear hb2)
 (try clear hk)
 (try clear hi)
 refine hK.out _ _ ⟨(blk_cell BK359.out 0).trans rfl, (blk_cell BK359.out 1).trans rfl, (blk_cell BK359.out 2).trans rfl, (blk_cell BK359.out 3).trans rfl⟩ (fun hHeld => ?_)
 clear hK K
 refine norm_ (a' := ?_) ?_ ?_
 rotate_left
 ·show Act.put _ (some 12) _ = _
  simp only [sp_]
  rfl
 refine one_ (i := 3) (N := none) #[true, true, true, true, false] rfl rfl (by kernel_rfl) (by decide) (fun K hK => ?_)
 have hs17 : w16.cell? ⟨gb344, 0, none⟩ = some (.int .i64 0) := (blk_cell BK344.out 0).trans rfl
 have hfs17 := blk_frozen BK344.out 0
 have hns17_1 := NB359_344.out
 have hms17_1 := NB344_359.out
 have hs18 : w16.cell? ⟨gb344, 1, none⟩ = some (.int .i64 0) := (blk_cell BK344.out 1).trans rfl
 have hfs18 := blk_frozen BK344.out 1
 have hns18_1 := NB359_344.out
 have hms18_1 := NB344_359.out
 have hs19 : w16.cell? ⟨gb344, 2, none⟩ = some (.slice none 0 0) := (blk_cell BK344.out 2).trans rfl
 have hfs19 := blk_frozen BK344.out 2
 have hns19_1 := NB359_344.out
 have hms19_1 := NB344_359.out
 have hs20 : w16.cell? ⟨gb344, 3, none⟩ = some (.slice none 0 0) := (blk_cell BK344.out 3).trans rfl
 have hfs20 := blk_frozen BK344.out 3
 have hns20_1 := NB359_344.out
 have hms20_1 := NB344_359.out
 refine skip_ (w1 := ?_) (by rfl) rfl ?_ ?_
 rotate_left
 ·go_simp
  rfl
 refine hK.out _ _ ⟨((cell_far (p := ⟨gb344, _, none⟩) NB359_344.out _).trans (((cell_far (p := ⟨gb344, _, none⟩) NB359_344.out _).trans (((cell_far (p := ⟨gb344, _, none⟩) NB359_344.out _).trans (((cell_far (p := ⟨gb344, _, none⟩) NB359_344.out _).trans (hHeld.1)))))))), ((cell_far (p := ⟨gb344, _, none⟩) NB359_344.out _).trans (((cell_far (p := ⟨gb344, _, none⟩) NB359_344.out _).trans (((cell_far (p := ⟨gb344, _, none⟩) NB359_344.out _).trans (((cell_far (p := ⟨gb344, _, none⟩) NB359_344.out _).trans (hHeld.2.1)))))))), ((cell_far (p := ⟨gb344, _, none⟩) NB359_344.out _).trans (((cell_far (p := ⟨gb344, _, none⟩) NB359_344.out _).trans (((cell_far (p := ⟨gb344, _, none⟩) NB359_344.out _).trans (((cell_far (p := ⟨gb344, _, none⟩) NB359_344.out _).trans (hHeld.2.2.1)))))))), ((cell_far (p := ⟨gb344, _, none⟩) NB359_344.out _).trans (((cell_far (p := ⟨gb344, _, none⟩) NB359_344.out _).trans (((cell_far (p := ⟨gb344, _, none⟩) NB359_344.out _).trans (((cell_far (p := ⟨gb344, _, none⟩) NB359_344.out _).trans (hHeld.2.2.2))))))))⟩ (fun hHeld => ?_)
 clear hK K
 refine pure_ (i := 4) (N := some 3) (v := ?_) (a' := ?_) #[true, true, true, true, true] rfl rfl (by kernel_rfl) (fun _ _ _ h => h) (Or.inl ⟨(by rfl), ?_⟩) ?_ ?_
 rotate_left
 ·intro w'
  go_simp
  with_reducible rfl
 rotate_left
 ·simp only [sp_]
  rfl
 refine done_ (by kernel_rfl) ?_
 try go_wp2
 refine bodyPost_ret (results_ct rfl _ _ gb344 26 #[.int .i64 t349, .int .i64 t350, .slice Ao12 t351.length co12, .slice Ao13 t354.length co13] (0, 0) _ rfl (by (with_reducible repeat (first | refine blk_drewN ?_ _ | refine blk_drew ?_ | refine blk_alloc ?_ _)); refine blk_put (cs := #[.int .i64 t349, .int .i64 t350, .slice Ao12 t351.length co12, .slice none 0 0]) ?_ 3 _ rfl; (with_reducible repeat (first | refine blk_drewN ?_ _ | refine blk_drew ?_ | refine blk_alloc ?_ _)); refine blk_put (cs := #[.int .i64 t349, .int .i64 t350, .slice none 0 0, .slice none 0 0]) ?_ 2 _ rfl; (with_reducible repeat (first | refine blk_drewN ?_ _ | refine blk_drew ?_ | refine blk_alloc ?_ _)); refine blk_put (cs := #[.int .i64 t349, .int .i64 0, .slice none 0 0, .slice none 0 0]) ?_ 1 _ rfl; (with_reducible repeat (first | refine blk_drewN ?_ _ | refine blk_drew ?_ | refine blk_alloc ?_ _)); refine blk_put (cs := #[.int .i64 0, .int .i64 0, .slice none 0 0, .slice none 0 0]) ?_ 0 _ rfl; (with_reducible repeat (first | refine blk_drewN ?_ _ | refine blk_drew ?_ | refine blk_alloc ?_ _)); exact BK344.out) Tryd.underlying26 rfl (by kernel_rfl)) rfl ?_
 exact ⟨_, _, o2, (by (with_reducible repeat (first | apply Kd.Q_alloc | apply Kd.Q_drewN | apply Kd.Q_drew)); exact Kd.Q_mono (Kd.Q_far (p := ⟨gb344, 3, none⟩) (Kd.Q_far (p := ⟨gb344, 2, none⟩) (Kd.Q_far (p := ⟨gb344, 1, none⟩) (Kd.Q_far (p := ⟨gb344, 0, none⟩) (Kd.Q_types HO353.out BK344.out (by decide)) (fun _ hk => hk.2) (.int .i64 t349)) (fun _ hk => hk.2) (.int .i64 t350)) (fun _ hk => hk.2) (.slice Ao12 t351.length co12)) (fun _ hk => hk.2) (.slice Ao13 t354.length co13)) (fun _ hk => hk.1)), (by (with_reducible repeat (first | apply Kd.R_alloc | apply Kd.R_drewN | apply Kd.R_drew)); exact Kd.R_mono (Kd.R_far (p := ⟨gb344, 3, none⟩) (Kd.R_far (p := ⟨gb344, 2, none⟩) (Kd.R_far (p := ⟨gb344, 1, none⟩) (Kd.R_far (p := ⟨gb344, 0, none⟩) (Kd.R_types HO356.out BK344.out (by decide)) (fun _ hk => hk.2) (.int .i64 t349)) (fun _ hk => hk.2) (.int .i64 t350)) (fun _ hk => hk.2) (.slice Ao12 t351.length co12)) (fun _ hk => hk.2) (.slice Ao13 t354.length co13)) (fun _ hk => hk.1)), o49⟩

/-! ### spec_DrawVoteOk: function 19 -/
def spec_DrawVoteOk.f (k : Nat) (l0 : List Int) : Option (Int × Int × Int × Int × Int) := (spec_l1New.f k l0).bind fun bt364 => ((spec_l15DrawVote.f k bt364.1 bt364.2.1 bt364.2.2).bind fun bt368 => ((spec_l15DrawN.f bt364.1 bt368.2.2.2.2.1 bt368.2.2.2.2.2).bind fun bt375 => (some (bt368.1, bt368.2.1, bt368.2.2.1, bt368.2.2.2.1, bt375.1))))
theorem spec_DrawVoteOk.mono : ∀ a0 k, LeO (spec_DrawVoteOk.f k a0) (spec_DrawVoteOk.f (k + 1) a0) := by
 intro a0 k
 unfold spec_DrawVoteOk.f
 repeat' first
   | (with_reducible exact spec_l15DrawVote.mono _ _ _ _)
   | (with_reducible exact spec_l1New.mono _ _)
   | (with_reducible exact LeO.refl _)
   | (with_reducible exact LeO.none _)
   | (with_reducible refine LeO.ite ?_ ?_)
   | (with_reducible refine LeO.bind ?_ (fun _ => ?_))
   | exact spec_l15DrawVote.mono _ _ _ _
   | exact spec_l1New.mono _ _
   | exact LeO.none _
   | refine LeO.ite ?_ ?_
   | refine LeO.bind ?_ (fun _ => ?_)
set_option maxHeartbeats 8000000 in
set_option maxRecDepth 100000 in
theorem spec_DrawVoteOk.calls (k : Nat) (A0 : Option Addr) (c0 : Nat) (l0 : List Int) (r1 : Int) (r2 : Int) (r3 : Int) (r4 : Int) (r5 : Int) (w : World) (hr0 : Kd.C (Kd.int .u8) w A0 l0.length l0) (hc0 : l0.length ≤ c0) (h : spec_DrawVoteOk.f k l0 = some (r1, r2, r3, r4, r5)) :
  Calls Tryd.prog 19 #[.slice A0 l0.length c0] w fun e w' => e = .returned (.tuple #[.agg #[.int .i64 r1, .int .i64 r2, .int .i64 r3, .int .i64 r4], .int .i64 r5]) ∧ Below w.heap.size w w' := by
 have hu43 := Tryd.underlying43
 have HR0 := Aside0.mk hr0
 have HC0 := Aside0.mk hc0
 clear hr0 hc0
 have HB := Aside0.mk (Below.refl w.heap.size w)
 have H : ((spec_l1New.f k l0).bind fun bt364 => ((spec_l15DrawVote.f k bt364.1 bt364.2.1 bt364.2.2).bind fun bt368 => ((spec_l15DrawN.f bt364.1 bt368.2.2.2.2.1 bt368.2.2.2.2.2).bind fun bt375 => (some (bt368.1, bt368.2.1, bt368.2.2.1, bt368.2.2.2.1, bt375.1))))) = some (r1, r2, r3, r4, r5) := h
 clear h
 replace H := Option.bind_eq_some_iff.mp H
 obtain ⟨⟨t364, t365, t366⟩, A20, H⟩ := H
 replace H : ((spec_l15DrawVote.f k t364 t365 t366).bind fun bt368 => ((spec_l15DrawN.f t364 bt368.2.2.2.2.1 bt368.2.2.2.2.2).bind fun bt375 => (some (bt368.1, bt368.2.1, bt368.2.2.1, bt368.2.2.2.1, bt375.1)))) = some (r1, r2, r3, r4, r5) := H
 have A2 := Aside0.mk A20
 clear A20
 replace H := Option.bind_eq_some_iff.mp H
 obtain ⟨⟨t368, t369, t370, t371, t372, t373⟩, A30, H⟩ := H
 replace H : ((spec_l15DrawN.f t364 t372 t373).bind fun bt375 => (some (t368, t369, t370, t371, bt375.1))) = some (r1, r2, r3, r4, r5) := H
 have A3 := Aside0.mk A30
 clear A30
 replace H := Option.bind_eq_some_iff.mp H
 obtain ⟨⟨t375, t376, t377⟩, A40, H⟩ := H
 replace H : (some (t368, t369, t370, t371, t375)) = some (r1, r2, r3, r4, r5) := H
 have A4 := Aside0.mk A40
 clear A40
 simp only [Option.some.injEq, Prod.mk.injEq] at H
 obtain ⟨rfl, rfl, rfl, rfl, rfl⟩ := H
 go_enter Tryd.func19, Tryd.ntmps19
 try go_wp2_with (first | ((with_reducible refine gate_dst (N := 2) rfl ?_); refine box_event ?hg (N := 2) ?hd (cs := #[.int .i64 0, .int .i64 0, .int .i64 0, .int .i64 0]) (t := 43) ?hr ?_; (case hd => rfl); (case hg => rfl); (case hr => first | (go_simp; done) | (go_simp; rfl)); intro gb363 hg w5 hbox hb; have n0_ := Aside0.mk (below_step d1 hb); have n1_ := Aside0.mk (hbox); have n2_ := Aside0.mk ((by rw [hg]; exact (below_size d1) : w.heap.size ≤ gb363)); have n3_ := Aside0.mk ((by rw [hg]; exact (below_size d1) : w.heap.size ≤ gb363)); clear HB; have HB := n0_; have BK363 := n1_; have GW363 := n2_; have GE363 := n3_; clear n0_ n1_ n2_ n3_; clear hb hbox hg) | ((with_reducible refine gate_callee (f := 46) rfl ?_); refine goesL_ (some 7) rfl rfl Tryd.func46 (by kernel_rfl) rfl #[.slice A0 l0.length c0] rfl d0 ?_; (with_reducible refine (spec_l1New.calls k _ _ l0 t364 t365 t366 w _ ?side1 ?side2 ?side3 A2.out).mono ?_); (case side1 => exact (by repeat (first | (with_reducible first | exact HB.out | apply below_alloc | apply pw_below_drewN | apply below_drew1 | refine below_set ?_ GE363.out) | exact HB.out))); (case side2 => exact HR0.out); (case side3 => exact HC0.out); rintro e w6 ⟨g367, rfl, hi, hb, hb2⟩; refine ⟨_, rfl, ?_⟩; have n0_ := Aside0.mk (blk_below (g := gb363) (o := .cells #[.int .i64 0, .int .i64 0, .int .i64 0, .int .i64 0] 43 (0, 0)) d69 hb2); have n1_ := Aside0.mk (hb); have n2_ := Aside0.mk (hi); have n3_ := Aside0.mk (IsS96.ne_blk hi (blk_below (g := gb363) (o := .cells #[.int .i64 0, .int .i64 0, .int .i64 0, .int .i64 0] 43 (0, 0)) d69 hb2) (by decide)); have n4_ := Aside0.mk (Ne.symm (IsS96.ne_blk hi (blk_below (g := gb363) (o := .cells #[.int .i64 0, .int .i64 0, .int .i64 0, .int .i64 0] 43 (0, 0)) d69 hb2) (by decide))); clear BK363; clear HB; have BK363 := n0_; have HB := n1_; have HI367 := n2_; have NB367_363 := n3_; have NB363_367 := n4_; clear n0_ n1_ n2_ n3_ n4_; (try clear hb); (try clear hb2); (try clear hk); (try clear hi)) | ((with_reducible refine gate_callee (f := 50) rfl ?_); refine goesL_ (some 9) rfl rfl Tryd.func50 (by kernel_rfl) rfl #[.pointer (some ⟨g367, 0, none⟩)] rfl d0 ?_; (with_reducible refine (spec_l15DrawVote.calls k g367 t364 t365 t366 t368 t369 t370 t371 t372 t373 w _ ?side1 ?side2 A3.out).mono ?_); (case side1 => exact o41); (case side2 => exact (by repeat (first | (with_reducible first | exact HB.out | apply below_alloc | apply pw_below_drewN | apply below_drew1 | refine below_set ?_ (IsS96.ge HI367.out) | refine below_set ?_ GE363.out) | exact HB.out))); rintro e w7 ⟨rfl, hi, hb, hk⟩; refine ⟨_, rfl, ?_⟩; have n0_ := Aside0.mk (KeepBut.blk hk (g' := gb363) (o := .cells #[.int .i64 0, .int .i64 0, .int .i64 0, .int .i64 0] 43 (0, 0)) d69 NB363_367.out (by simp)); have n1_ := Aside0.mk (hb); have n2_ := Aside0.mk (hi); clear BK363; clear HB; clear HI367; have BK363 := n0_; have HB := n1_; have HI367 := n2_; clear n0_ n1_ n2_; (try clear hb); (try clear hb2); (try clear hk); (try clear hi)) | ((with_reducible refine gate_dst (N := 5) rfl ?_); refine box_event ?hg (N := 5) ?hd (cs := #[.int .i64 0, .int .i64 0, .int .i64 0, .int .i64 0]) (t := 43) ?hr ?_; (case hd => rfl); (case hg => rfl); (case hr => first | (go_simp; done) | (go_simp; rfl)); intro gb374 hg w8 hbox hb; have n0_ := Aside0.mk (blk_below (g := gb363) (o := .cells #[.int .i64 0, .int .i64 0, .int .i64 0, .int .i64 0] 43 (0, 0)) d69 hb); have n1_ := Aside0.mk (IsS96.below o41 hb); have n2_ := Aside0.mk (below_step d88 hb); have n3_ := Aside0.mk (hbox); have n4_ := Aside0.mk ((by rw [hg]; exact (below_size d88) : w.heap.size ≤ gb374)); have n5_ := Aside0.mk ((by rw [hg]; exact (below_size d88) : w.heap.size ≤ gb374)); have n6_ := Aside0.mk ((by rw [hg]; exact Nat.ne_of_lt (blk_lt (g := gb363) (o := .cells #[.int .i64 0, .int .i64 0, .int .i64 0, .int .i64 0] 43 (0, 0)) d69) : gb363 ≠ gb374)); have n7_ := Aside0.mk ((by rw [hg]; exact Nat.ne_of_gt (blk_lt (g := gb363) (o := .cells #[.int .i64 0, .int .i64 0, .int .i64 0, .int .i64 0] 43 (0, 0)) d69) : gb374 ≠ gb363)); have n8_ := Aside0.mk ((by rw [hg]; exact Nat.ne_of_lt (IsS96.lt (show IsS96 w _ g367 t364 t372 t373 from o41)) : g367 ≠ gb374)); have n9_ := Aside0.mk ((by rw [hg]; exact Nat.ne_of_gt (IsS96.lt (show IsS96 w _ g367 t364 t372 t373 from o41)) : gb374 ≠ g367)); clear BK363; clear HI367; clear HB; have BK363 := n0_; have HI367 := n1_; have HB := n2_; have BK374 := n3_; have GW374 := n4_; have GE374 := n5_; have NB363_374 := n6_; have NB374_363 := n7_; have NB367_374 := n8_; have NB374_367 := n9_; clear n0_ n1_ n2_ n3_ n4_ n5_ n6_ n7_ n8_ n9_; clear hb hbox hg; have hnb9 := NB374_363.out; have hnc9 := NB363_374.out; have hnb10 := NB374_367.out; have hnc10 := NB367_374.out; have hcz11_0 : w8.cell? ⟨gb374, 0, none⟩ = some (.int .i64 0) := (blk_cell BK374.out 0).trans rfl; have hcz11_1 : w8.cell? ⟨gb374, 1, none⟩ = some (.int .i64 0) := (blk_cell BK374.out 1).trans rfl; have hcz11_2 : w8.cell? ⟨gb374, 2, none⟩ = some (.int .i64 0) := (blk_cell BK374.out 2).trans rfl; have hcz11_3 : w8.cell? ⟨gb374, 3, none⟩ = some (.int .i64 0) := (blk_cell BK374.out 3).trans rfl; have hfz11_0 := blk_frozen BK374.out 0; have hfz11_1 := blk_frozen BK374.out 1; have hfz11_2 := blk_frozen BK374.out 2; have hfz11_3 := blk_frozen BK374.out 3))
 have n0_ : Aside0 (((((w8.setCell ⟨gb374, 0, none⟩ (.int .i64 t368)).setCell ⟨gb374, 1, none⟩ (.int .i64 t369)).setCell ⟨gb374, 2, none⟩ (.int .i64 t370)).setCell ⟨gb374, 3, none⟩ (.int .i64 t371)).heap[gb363]? = some (.cells #[.int .i64 0, .int .i64 0, .int .i64 0, .int .i64 0] 43 (0, 0))) := ⟨(by (with_reducible repeat (first | refine blk_drewN ?_ _ | refine blk_drew ?_ | refine blk_alloc ?_ _)); refine blk_far ?_ NB363_374.out _; (with_reducible repeat (first | refine blk_drewN ?_ _ | refine blk_drew ?_ | refine blk_alloc ?_ _)); refine blk_far ?_ NB363_374.out _; (with_reducible repeat (first | refine blk_drewN ?_ _ | refine blk_drew ?_ | refine blk_alloc ?_ _)); refine blk_far ?_ NB363_374.out _; (with_reducible repeat (first | refine blk_drewN ?_ _ | refine blk_drew ?_ | refine blk_alloc ?_ _)); refine blk_far ?_ NB363_374.out _; (with_reducible repeat (first | refine blk_drewN ?_ _ | refine blk_drew ?_ | refine blk_alloc ?_ _)); exact BK363.out)⟩
 have n1_ : Aside0 (((((w8.setCell ⟨gb374, 0, none⟩ (.int .i64 t368)).setCell ⟨gb374, 1, none⟩ (.int .i64 t369)).setCell ⟨gb374, 2, none⟩ (.int .i64 t370)).setCell ⟨gb374, 3, none⟩ (.int .i64 t371)).heap[gb374]? = some (.cells #[.int .i64 t368, .int .i64 t369, .int .i64 t370, .int .i64 t371] 43 (0, 0))) := ⟨(by (with_reducible repeat (first | refine blk_drewN ?_ _ | refine blk_drew ?_ | refine blk_alloc ?_ _)); refine blk_put (cs := #[.int .i64 t368, .int .i64 t369, .int .i64 t370, .int .i64 0]) ?_ 3 _ rfl; (with_reducible repeat (first | refine blk_drewN ?_ _ | refine blk_drew ?_ | refine blk_alloc ?_ _)); refine blk_put (cs := #[.int .i64 t368, .int .i64 t369, .int .i64 0, .int .i64 0]) ?_ 2 _ rfl; (with_reducible repeat (first | refine blk_drewN ?_ _ | refine blk_drew ?_ | refine blk_alloc ?_ _)); refine blk_put (cs := #[.int .i64 t368, .int .i64 0, .int .i64 0, .int .i64 0]) ?_ 1 _ rfl; (with_reducible repeat (first | refine blk_drewN ?_ _ | refine blk_drew ?_ | refine blk_alloc ?_ _)); refine blk_put (cs := #[.int .i64 0, .int .i64 0, .int .i64 0, .int .i64 0]) ?_ 0 _ rfl; (with_reducible repeat (first | refine blk_drewN ?_ _ | refine blk_drew ?_ | refine blk_alloc ?_ _)); exact BK374.out)⟩
 have n2_ : Aside0 (IsS96 w ((((w8.setCell ⟨gb374, 0, none⟩ (.int .i64 t368)).setCell ⟨gb374, 1, none⟩ (.int .i64 t369)).setCell ⟨gb374, 2, none⟩ (.int .i64 t370)).setCell ⟨gb374, 3, none⟩ (.int .i64 t371)) g367 t364 t372 t373) := ⟨(by repeat (first | (with_reducible first | exact HI367.out | apply IsS96.alloc | apply IsS96.drewN | apply IsS96.drew | apply IsS96.set_1 | apply IsS96.set_2 | refine IsS96.far ?_ NB367_363.out _ | refine IsS96.far ?_ NB367_374.out _) | exact HI367.out))⟩
 have n3_ : Aside0 (Below w.heap.size w ((((w8.setCell ⟨gb374, 0, none⟩ (.int .i64 t368)).setCell ⟨gb374, 1, none⟩ (.int .i64 t369)).setCell ⟨gb374, 2, none⟩ (.int .i64 t370)).setCell ⟨gb374, 3, none⟩ (.int .i64 t371))) := ⟨o50⟩
 (try clear BK363)
 (try clear BK374)
 (try clear HI367)
 (try clear HB)
 generalize ((((w8.setCell ⟨gb374, 0, none⟩ (.int .i64 t368)).setCell ⟨gb374, 1, none⟩ (.int .i64 t369)).setCell ⟨gb374, 2, none⟩ (.int .i64 t370)).setCell ⟨gb374, 3, none⟩ (.int .i64 t371)) = w12 at n0_ n1_ n2_ n3_ ⊢
 have BK363 := n0_
 have BK374 := n1_
 have HI367 := n2_
 have HB := n3_
 clear n0_ n1_ n2_ n3_
 have n0_ := Aside0.mk (blk_drew BK363.out)
 have n1_ := Aside0.mk (blk_drew BK374.out)
 have n2_ := Aside0.mk (IsS96.drew HI367.out)
 have n3_ := Aside0.mk (below_drew1 HB.out)
 clear BK363
 clear BK374
 clear HI367
 clear HB
 have BK363 := n0_
 have BK374 := n1_
 have HI367 := n2_
 have HB := n3_
 clear n0_ n1_ n2_ n3_
 refine start_ (n := 5) (S := fun w' => w'.cell? ⟨gb374, 0, none⟩ = some (.int .i64 t368) ∧ w'.cell? ⟨gb374, 1, none⟩ = some (.int .i64 t369) ∧ w'.cell? ⟨gb374, 2, none⟩ = some (.int .i64 t370) ∧ w'.cell? ⟨gb374, 3, none⟩ = some (.int .i64 t371)) (ds := []) #[false, false, false, false, false] (by kernel_rfl) rfl rfl ⟨(blk_cell BK374.out 0).trans rfl, (blk_cell BK374.out 1).trans rfl, (blk_cell BK374.out 2).trans rfl, (blk_cell BK374.out 3).trans rfl⟩ (fun hHeld => ?_)
 generalize w12.drew = w13 at BK363 BK374 HI367 HB hHeld ⊢
 refine pure_ (i := 1) (N := some 11) (v := ?_) (a' := ?_) #[false, true, false, false, false] rfl rfl (by kernel_rfl) (fun _ _ _ h => h) (Or.inl ⟨(by rfl), ?_⟩) ?_ ?_
 rotate_left
 ·intro w'
  go_simp
  with_reducible rfl
 rotate_left
 ·simp only [sp_]
  rfl
 refine take_ (i := 0) (N := some 10) (v := ?_) (a' := ?_) #[true, true, false, false, false] rfl rfl (by kernel_rfl) (fun _ _ _ h => h) (Or.inl ⟨(by rfl), ?_⟩) hHeld ?_ ?_
 rotate_left
 ·rintro w' ⟨s0, s1, s2, s3⟩
  go_simp
  with_reducible rfl
 rotate_left
 ·simp only [sp_]
  rfl
 refine one_ (i := 2) (N := some 12) #[true, true, true, false, false] rfl rfl (by kernel_rfl) (by decide) (fun K hK => ?_)
 refine goes_ Tryd.func48 (by kernel_rfl) rfl #[.pointer (some ⟨g367, 0, none⟩)] (by rfl) rfl rfl d0 ?_
 with_reducible refine (spec_l15DrawN.calls g367 t364 t372 t373 t375 t376 t377 w _ ?side1 ?side2 A4.out).mono ?_
 (case side1 => exact (by repeat (first | (with_reducible first | exact HI367.out | apply IsS96.alloc | apply IsS96.drewN | apply IsS96.drew | apply IsS96.set_1 | apply IsS96.set_2 | refine IsS96.far ?_ NB367_363.out _ | refine IsS96.far ?_ NB367_374.out _) | exact HI367.out)))
 (case side2 => exact o50)
 rintro e w14 ⟨rfl, hi, hb, hk⟩
 refine ⟨_, rfl, ?_⟩
 have n0_ := Aside0.mk (KeepBut.blk hk (g' := gb363) (o := .cells #[.int .i64 0, .int .i64 0, .int .i64 0, .int .i64 0] 43 (0, 0)) d69 NB363_367.out (by simp))
 have n1_ := Aside0.mk (KeepBut.blk hk (g' := gb374) (o := .cells #[.int .i64 t368, .int .i64 t369, .int .i64 t370, .int .i64 t371] 43 (0, 0)) (by (with_reducible repeat (first | refine blk_drewN ?_ _ | refine blk_drew ?_ | refine blk_alloc ?_ _)); exact BK374.out) NB374_367.out (by simp))
 have n2_ := Aside0.mk (hb)
 have n3_ := Aside0.mk (hi)
 clear BK363
 clear BK374
 clear HB
 clear HI367
 have BK363 := n0_
 have BK374 := n1_
 have HB := n2_
 have HI367 := n3_
 clear n0_ n1_ n2_ n3_
 (try clear hb)
 (try clear hb2)
 (try clear hk)
 (try clear hi)
 refine hK.out _ _ ⟨(blk_cell BK374.out 0).trans rfl, (blk_cell BK374.out 1).trans rfl, (blk_cell BK374.out 2).trans rfl, (blk_cell BK374.out 3).trans rfl⟩ (fun hHeld => ?_)
 clear hK K
 refine norm_ (a' := ?_) ?_ ?_
 rotate_left
 ·show Act.put _ (some 12) _ = _
  simp only [sp_]
  rfl
 refine one_ (i := 3) (N := none) #[true, true, true, true, false] rfl rfl (by kernel_rfl) (by decide) (fun K hK => ?_)
 have hs15 : w14.cell? ⟨gb363, 0, none⟩ = some (.int .i64 0) := (blk_cell BK363.out 0).trans rfl
 have hfs15 := blk_frozen BK363.out 0
 have hns15_1 := NB374_363.out
 have hms15_1 := NB363_374.out
 have hs16 : w14.cell? ⟨gb363, 1, none⟩ = some (.int .i64 0) := (blk_cell BK363.out 1).trans rfl
 have hfs16 := blk_frozen BK363.out 1
 have hns16_1 := NB374_363.out
 have hms16_1 := NB363_374.out
 have hs17 : w14.cell? ⟨gb363, 2, none⟩ = some (.int .i64 0) := (blk_cell BK363.out 2).trans rfl
 have hfs17 := blk_frozen BK363.out 2
 have hns17_1 := NB374_363.out
 have hms17_1 := NB363_374.out
 have hs18 : w14.cell? ⟨gb363, 3, none⟩ = some (.int .i64 0) := (blk_cell BK363.out 3).trans rfl
 have hfs18 := blk_frozen BK363.out 3
 have hns18_1 := NB374_363.out
 have hms18_1 := NB363_374.out
 refine skip_ (w1 := ?_) (by rfl) rfl ?_ ?_
 rotate_left
 ·go_simp
  rfl
 refine hK.out _ _ ⟨((cell_far (p := ⟨gb363, _, none⟩) NB374_363.out _).trans (((cell_far (p := ⟨gb363, _, none⟩) NB374_363.out _).trans (((cell_far (p := ⟨gb363, _, none⟩) NB374_363.out _).trans (((cell_far (p := ⟨gb363, _, none⟩) NB374_363.out _).trans (hHeld.1)))))))), ((cell_far (p := ⟨gb363, _, none⟩) NB374_363.out _).trans (((cell_far (p := ⟨gb363, _, none⟩) NB374_363.out _).trans (((cell_far (p := ⟨gb363, _, none⟩) NB374_363.out _).trans (((cell_far (p := ⟨gb363, _, none⟩) NB374_363.out _).trans (hHeld.2.1)))))))), ((cell_far (p := ⟨gb363, _, none⟩) NB374_363.out _).trans (((cell_far (p := ⟨gb363, _, none⟩) NB374_363.out _).trans (((cell_far (p := ⟨gb363, _, none⟩) NB374_363.out _).trans (((cell_far (p := ⟨gb363, _, none⟩) NB374_363.out _).trans (hHeld.2.2.1)))))))), ((cell_far (p := ⟨gb363, _, none⟩) NB374_363.out _).trans (((cell_far (p := ⟨gb363, _, none⟩) NB374_363.out _).trans (((cell_far (p := ⟨gb363, _, none⟩) NB374_363.out _).trans (((cell_far (p := ⟨gb363, _, none⟩) NB374_363.out _).trans (hHeld.2.2.2))))))))⟩ (fun hHeld => ?_)
 clear hK K
 refine pure_ (i := 4) (N := some 3) (v := ?_) (a' := ?_) #[true, true, true, true, true] rfl rfl (by kernel_rfl) (fun _ _ _ h => h) (Or.inl ⟨(by rfl), ?_⟩) ?_ ?_
 rotate_left
 ·intro w'
  go_simp
  with_reducible rfl
 rotate_left
 ·simp only [sp_]
  rfl
 refine done_ (by kernel_rfl) ?_
 try go_wp2
 refine bodyPost_ret (results_ct rfl _ _ gb363 43 #[.int .i64 t368, .int .i64 t369, .int .i64 t370, .int .i64 t371] (0, 0) _ rfl (by (with_reducible repeat (first | refine blk_drewN ?_ _ | refine blk_drew ?_ | refine blk_alloc ?_ _)); refine blk_put (cs := #[.int .i64 t368, .int .i64 t369, .int .i64 t370, .int .i64 0]) ?_ 3 _ rfl; (with_reducible repeat (first | refine blk_drewN ?_ _ | refine blk_drew ?_ | refine blk_alloc ?_ _)); refine blk_put (cs := #[.int .i64 t368, .int .i64 t369, .int .i64 0, .int .i64 0]) ?_ 2 _ rfl; (with_reducible repeat (first | refine blk_drewN ?_ _ | refine blk_drew ?_ | refine blk_alloc ?_ _)); refine blk_put (cs := #[.int .i64 t368, .int .i64 0, .int .i64 0, .int .i64 0]) ?_ 1 _ rfl; (with_reducible repeat (first | refine blk_drewN ?_ _ | refine blk_drew ?_ | refine blk_alloc ?_ _)); refine blk_put (cs := #[.int .i64 0, .int .i64 0, .int .i64 0, .int .i64 0]) ?_ 0 _ rfl; (with_reducible repeat (first | refine blk_drewN ?_ _ | refine blk_drew ?_ | refine blk_alloc ?_ _)); exact BK363.out) Tryd.underlying43 rfl (by kernel_rfl)) rfl ?_
 exact ⟨o2, o50⟩

/-! ### spec_l2DrawServer: function 51 -/
def spec_l2DrawServer.f (s0_0 : List Int) (s0_1 : Int) (s0_2 : Int) : Option (Int × Int × Int) := (spec_l1Once.f s0_0 s0_1 s0_2 8).bind fun bt378 => (if bt378.1 = true then ((some (([(-1), 0, 6, 7, (-9223372036854775808)] : List Int) : List Int)).bind fun y381 => ((spec_l1Below.f s0_0 bt378.2.1 bt378.2.2 5).bind fun bt384 => (if 0 ≤ bt384.1 then (if bt384.1 < (y381.length : Int) then (some (rd y381 bt384.1, bt384.2.1, bt384.2.2)) else (none)) else (none)))) else ((spec_l1Below.f s0_0 bt378.2.1 bt378.2.2 4).bind fun bt388 => (some (bt388.1, bt388.2.1, bt388.2.2))))
set_option maxHeartbeats 8000000 in
set_option maxRecDepth 100000 in
theorem spec_l2DrawServer.calls (g : Nat) (s0_0 : List Int) (s0_1 : Int) (s0_2 : Int) (r1 : Int) (r2 : Int) (r3 : Int) (w0 w : World) (hI : IsS96 w0 w g s0_0 s0_1 s0_2) (hB : Below w0.heap.size w0 w) (h : spec_l2DrawServer.f s0_0 s0_1 s0_2 = some (r1, r2, r3)) :
  Calls Tryd.prog 51 #[.pointer (some ⟨g, 0, none⟩)] w fun e w' => e = .returned (.int .i64 r1) ∧ IsS96 w0 w' g s0_0 r2 r3 ∧ Below w0.heap.size w0 w' ∧ KeepBut w w' g none := by
 have HI0 := Aside0.mk hI
 have HK := Aside0.mk (KeepBut.refl w g none)
 have HL := Aside0.mk hB.size
 clear hI
 have HW0 := Aside0.mk hB.size
 have HB := Aside0.mk hB
 clear hB
 have H : ((spec_l1Once.f s0_0 s0_1 s0_2 8).bind fun bt378 => (if bt378.1 = true then ((some (([(-1), 0, 6, 7, (-9223372036854775808)] : List Int) : List Int)).bind fun y381 => ((spec_l1Below.f s0_0 bt378.2.1 bt378.2.2 5).bind fun bt384 => (if 0 ≤ bt384.1 then (if bt384.1 < (y381.length : Int) then (some (rd y381 bt384.1, bt384.2.1, bt384.2.2)) else (none)) else (none)))) else ((spec_l1Below.f s0_0 bt378.2.1 bt378.2.2 4).bind fun bt388 => (some (bt388.1, bt388.2.1, bt388.2.2))))) = some (r1, r2, r3) := h
 clear h
 replace H := Option.bind_eq_some_iff.mp H
 obtain ⟨⟨t378, t379, t380⟩, A20, H⟩ := H
 replace H : (if t378 = true then ((some (([(-1), 0, 6, 7, (-9223372036854775808)] : List Int) : List Int)).bind fun y381 => ((spec_l1Below.f s0_0 t379 t380 5).bind fun bt384 => (if 0 ≤ bt384.1 then (if bt384.1 < (y381.length : Int) then (some (rd y381 bt384.1, bt384.2.1, bt384.2.2)) else (none)) else (none)))) else ((spec_l1Below.f s0_0 t379 t380 4).bind fun bt388 => (some (bt388.1, bt388.2.1, bt388.2.2)))) = some (r1, r2, r3) := H
 have A2 := Aside0.mk A20
 clear A20
 have HC3 := Aside0.mk H
 clear H
 go_enter Tryd.func51, Tryd.ntmps51
 go_upto_if 4 with (first | ((with_reducible refine gate_callee (f := 76) rfl ?_); refine goesL_ (some 4) rfl rfl Tryd.func76 (by kernel_rfl) rfl #[.pointer (some ⟨g, 0, none⟩), .int .i64 8] rfl d0 ?_; (with_reducible refine (spec_l1Once.calls g s0_0 s0_1 s0_2 8 t378 t379 t380 w0 _ ?side1 ?side2 A2.out).mono ?_); (case side1 => exact o3); (case side2 => exact o4); rintro e w4 ⟨rfl, hi, hb, hk⟩; refine ⟨_, rfl, ?_⟩; have n0_ := Aside0.mk (KeepBut.trans d3 hk (.inl rfl)); have n1_ := Aside0.mk (hb); have n2_ := Aside0.mk (hi); clear HK; clear HB; clear HI0; have HK := n0_; have HB := n1_; have HI0 := n2_; clear n0_ n1_ n2_; (try clear hb); (try clear hb2); (try clear hk); (try clear hi)))
 (try simp only [Act.put, List.setIfInBounds_toArray, List.set_cons_zero, List.set_cons_succ])
 have H := HC3.out
 clear HC3
 by_cases c5 : t378 = true
 ·subst c5
  have H1 : ((some (([(-1), 0, 6, 7, (-9223372036854775808)] : List Int) : List Int)).bind fun y381 => ((spec_l1Below.f s0_0 t379 t380 5).bind fun bt384 => (if 0 ≤ bt384.1 then (if bt384.1 < (y381.length : Int) then (some (rd y381 bt384.1, bt384.2.1, bt384.2.2)) else (none)) else (none)))) = some (r1, r2, r3) := by rw [if_pos rfl] at H; exact H
  clear H
  have H := H1
  clear H1
  obtain ⟨y381, hy381⟩ : ∃ y_ : List Int, y_ = (([(-1), 0, 6, 7, (-9223372036854775808)] : List Int)) := ⟨_, rfl⟩
  replace H : ((spec_l1Below.f s0_0 t379 t380 5).bind fun bt384 => (if 0 ≤ bt384.1 then (if bt384.1 < (y381.length : Int) then (some (rd y381 bt384.1, bt384.2.1, bt384.2.2)) else (none)) else (none))) = some (r1, r2, r3) := by first | (rw [hy381]; with_reducible exact H) | (have H2_ := (Option.bind_some _ _).symm.trans H; rw [hy381]; with_reducible exact H2_) | (have H2_ := (Option.bind_some _ _).symm.trans H; with_reducible exact H2_) | with_reducible exact H | (rw [hy381]; exact H) | exact H
  have Ny381 := Aside0.mk hy381
  clear hy381
  replace H := Option.bind_eq_some_iff.mp H
  obtain ⟨⟨t384, t385, t386⟩, A60, H⟩ := H
  replace H : (if 0 ≤ t384 then (if t384 < (y381.length : Int) then (some (rd y381 t384, t385, t386)) else (none)) else (none)) = some (r1, r2, r3) := H
  have A6 := Aside0.mk A60
  clear A60
  by_cases c7 : 0 ≤ t384
  ·rw [if_pos c7] at H
   have c7b0 : decide (0 ≤ t384) = true := decide_eq_true c7
   clear c7
   (first | rw [c7b0] | (simp only [i64_w, i32_w]; rw [c7b0]) | skip)
   by_cases c8 : t384 < (y381.length : Int)
   ·rw [if_pos c8] at H
    have c8b0 : decide (t384 < (y381.length : Int)) = true := decide_eq_true c8
    clear c8
    simp only [Option.some.injEq, Prod.mk.injEq] at H
    obtain ⟨rfl, rfl, rfl⟩ := H
    go_wp2_with (first | ((with_reducible refine gate_dst (N := 5) rfl ?_); refine Kd.R_lit (Kd.int .i64) _ 2 ?hg (N := 5) ?hd (xs := ([(-1), 0, 6, 7, (-9223372036854775808)] : List Int)) (inner := [.int .i64 (-1), .int .i64 0, .int .i64 6, .int .i64 7, .int .i64 (-9223372036854775808)]) (ok := fun _ => True) (okp := fun _ => True) ?hr ?hp (fun _ hk => hk) trivial (Below.refl _ _) (Nat.le_refl _) (by simp) ?_; (case hd => rfl); (case hg => rfl); (case hr => first | (go_simp; done) | (go_simp; rfl)); (case hp => exact (Reps.one (show Kd.M (Kd.int .i64) _ _ _ (-1) [.int .i64 (-1)] from rfl) (Reps.one (show Kd.M (Kd.int .i64) _ _ _ 0 [.int .i64 0] from rfl) (Reps.one (show Kd.M (Kd.int .i64) _ _ _ 6 [.int .i64 6] from rfl) (Reps.one (show Kd.M (Kd.int .i64) _ _ _ 7 [.int .i64 7] from rfl) (Reps.one (show Kd.M (Kd.int .i64) _ _ _ (-9223372036854775808) [.int .i64 (-9223372036854775808)] from rfl) (Reps.none _ _))))))); intro v382 w9 ho10 hb hg_ hnew_; clear hg_ hnew_; (first | rw [← Ny381.out] at ho10 | (simp only [Int.reduceToNat] at ho10; rw [← Ny381.out] at ho10)); have n0_ := Aside0.mk (Kd.R_lower ho10 (keep_size (w := w) (g := g) (row := none) d3)); have n1_ := Aside0.mk (IsS96.below d55 hb); have n2_ := Aside0.mk (KeepBut.trans d3 (KeepBut.of_below hb g none) (.inl rfl)); have n3_ := Aside0.mk (below_step d54 hb); clear HI0; clear HK; clear HB; have HO383 := n0_; have HI0 := n1_; have HK := n2_; have HB := n3_; clear n0_ n1_ n2_ n3_; clear hb ho10) | ((with_reducible refine gate_callee (f := 52) rfl ?_); refine goesL_ (some 7) rfl rfl Tryd.func52 (by kernel_rfl) rfl #[.pointer (some ⟨g, 0, none⟩), .int .i64 5] rfl d0 ?_; (with_reducible refine (spec_l1Below.calls g s0_0 t379 t380 5 t384 t385 t386 w0 _ ?side1 ?side2 A6.out).mono ?_); (case side1 => exact o3); (case side2 => exact o4); rintro e w11 ⟨rfl, hi, hb, hk⟩; refine ⟨_, rfl, ?_⟩; have n0_ := Aside0.mk (Kd.R_mono (Kd.R_keep (IsS96.apart (show IsS96 w0 _ g s0_0 t379 t380 from o3) (by (with_reducible repeat (first | apply Kd.R_alloc | apply Kd.R_drewN | apply Kd.R_drew)); exact HO383.out) (by decide)) hk (fun _ h => h.2)) (fun _ h => h.1)); have n1_ := Aside0.mk (KeepBut.trans d3 hk (.inl rfl)); have n2_ := Aside0.mk (hb); have n3_ := Aside0.mk (hi); clear HO383; clear HK; clear HB; clear HI0; have HO383 := n0_; have HK := n1_; have HB := n2_; have HI0 := n3_; clear n0_ n1_ n2_ n3_; (try clear hb); (try clear hb2); (try clear hk); (try clear hi); obtain ⟨Ao12, co12, eo12⟩ := Kd.R_slice HO383.out; subst eo12; have p387 : 0 ≤ (t384 : Int) := od_; have q387 : t384 < (y381.length : Int) := od_; obtain ⟨ad387, e387, hx387_0⟩ := Kd.at_int (Kd.R_reads' HO383.out).2.2 t384 p387 q387; cases e387; replace p387 := eq_true p387; replace q387 := eq_true q387))
    go_ret
    exact ⟨o2, o3, o4, o16⟩
   ·rw [if_neg c8] at H
    exact absurd H (by simp)
  ·rw [if_neg c7] at H
   exact absurd H (by simp)
 ·replace c5 := Bool.eq_false_iff.mpr c5
  subst c5
  have H1 : ((spec_l1Below.f s0_0 t379 t380 4).bind fun bt388 => (some (bt388.1, bt388.2.1, bt388.2.2))) = some (r1, r2, r3) := by rw [if_neg (show ¬ (false = true) by decide)] at H; exact H
  clear H
  have H := H1
  clear H1
  replace H := Option.bind_eq_some_iff.mp H
  obtain ⟨⟨t388, t389, t390⟩, A130, H⟩ := H
  replace H : (some (t388, t389, t390)) = some (r1, r2, r3) := H
  have A13 := Aside0.mk A130
  clear A130
  simp only [Option.some.injEq, Prod.mk.injEq] at H
  obtain ⟨rfl, rfl, rfl⟩ := H
  go_wp2_with (first | ((with_reducible refine gate_callee (f := 52) rfl ?_); refine goesL_ (some 11) rfl rfl Tryd.func52 (by kernel_rfl) rfl #[.pointer (some ⟨g, 0, none⟩), .int .i64 4] rfl d0 ?_; (with_reducible refine (spec_l1Below.calls g s0_0 t379 t380 4 t388 t389 t390 w0 _ ?side1 ?side2 A13.out).mono ?_); (case side1 => exact o3); (case side2 => exact o4); rintro e w14 ⟨rfl, hi, hb, hk⟩; refine ⟨_, rfl, ?_⟩; have n0_ := Aside0.mk (KeepBut.trans d3 hk (.inl rfl)); have n1_ := Aside0.mk (hb); have n2_ := Aside0.mk (hi); clear HK; clear HB; clear HI0; have HK := n0_; have HB := n1_; have HI0 := n2_; clear n0_ n1_ n2_; (try clear hb); (try clear hb2); (try clear hk); (try clear hi)))
  go_ret
  exact ⟨o2, o3, o4, o16⟩

/-! ### spec_DrawVoted: function 20 -/
def spec_DrawVoted.f (k : Nat) (l0 : List Int) : Option (Int × Int × Int) := (spec_l1New.f k l0).bind fun bt391 => ((spec_l2DrawServer.f bt391.1 bt391.2.1 bt391.2.2).bind fun bt395 => ((some (([0, 1, 5, 100000, 100001] : List Int) : List Int)).bind fun y398 => ((spec_l1Below.f bt391.1 bt395.2.1 bt395.2.2 5).bind fun bt401 => (if 0 ≤ bt401.1 then (if bt401.1 < (y398.length : Int) then ((some (([(-1), 0, 77, 2147483646, 2147483647] : List Int) : List Int)).bind fun y405 => ((spec_l1Below.f bt391.1 bt401.2.1 bt401.2.2 5).bind fun bt408 => (if 0 ≤ bt408.1 then (if bt408.1 < (y405.length : Int) then (some (bt395.1, rd y398 bt401.1, rd y405 bt408.1)) else (none)) else (none)))) else (none)) else (none)))))
theorem spec_DrawVoted.mono : ∀ a0 k, LeO (spec_DrawVoted.f k a0) (spec_DrawVoted.f (k + 1) a0) := by
 intro a0 k
 unfold spec_DrawVoted.f
 repeat' first
   | (with_reducible exact spec_l1New.mono _ _)
   | (with_reducible exact LeO.refl _)
   | (with_reducible exact LeO.none _)
   | (with_reducible refine LeO.ite ?_ ?_)
   | (with_reducible refine LeO.bind ?_ (fun _ => ?_))
   | exact spec_l1New.mono _ _
   | exact LeO.none _
   | refine LeO.ite ?_ ?_
   | refine LeO.bind ?_ (fun _ => ?_)
def spec_DrawVoted.T2 : Bool × List (List Nat × List Nat) := (true, [([], []), ([0], [0]), ([], []), ([], []), ([3, 1], [3]), ([2, 4], [2, 4]), ([5], [5]), ([], []), ([], []), ([8, 4], [8]), ([7, 9], [7, 9]), ([10], [10]), ([1, 9, 0, 1], [1]), ([6, 12, 0, 1, 2, 3, 4, 5, 6, 12], [6]), ([11, 13, 0, 1, 2, 3, 4, 5, 6, 7, 8, 9, 10, 11, 12, 13], [11])])
def spec_DrawVoted.B2 : List Nat := [0, 1, 0, 0, 11, 31, 63, 0, 0, 283, 923, 1947, 795, 4991, 16383]
theorem spec_DrawVoted.tab2 : rtab .any (opsOf Tryd.f20 2) = spec_DrawVoted.T2 := by kernel_rfl
theorem spec_DrawVoted.bits2 : waitsOk spec_DrawVoted.T2.2 spec_DrawVoted.B2 = true := by kernel_rfl
set_option maxHeartbeats 8000000 in
set_option maxRecDepth 100000 in
theorem spec_DrawVoted.calls (k : Nat) (A0 : Option Addr) (c0 : Nat) (l0 : List Int) (r1 : Int) (r2 : Int) (r3 : Int) (w : World) (hr0 : Kd.C (Kd.int .u8) w A0 l0.length l0) (hc0 : l0.length ≤ c0) (h : spec_DrawVoted.f k l0 = some (r1, r2, r3)) :
  Calls Tryd.prog 20 #[.slice A0 l0.length c0] w fun e w' => e = .returned (.tuple #[.int .i64 r1, .int .i64 r2, .int .i64 r3]) ∧ Below w.heap.size w w' := by
 have HR0 := Aside0.mk hr0
 have HC0 := Aside0.mk hc0
 clear hr0 hc0
 have HB := Aside0.mk (Below.refl w.heap.size w)
 have H : ((spec_l1New.f k l0).bind fun bt391 => ((spec_l2DrawServer.f bt391.1 bt391.2.1 bt391.2.2).bind fun bt395 => ((some (([0, 1, 5, 100000, 100001] : List Int) : List Int)).bind fun y398 => ((spec_l1Below.f bt391.1 bt395.2.1 bt395.2.2 5).bind fun bt401 => (if 0 ≤ bt401.1 then (if bt401.1 < (y398.length : Int) then ((some (([(-1), 0, 77, 2147483646, 2147483647] : List Int) : List Int)).bind fun y405 => ((spec_l1Below.f bt391.1 bt401.2.1 bt401.2.2 5).bind fun bt408 => (if 0 ≤ bt408.1 then (if bt408.1 < (y405.length : Int) then (some (bt395.1, rd y398 bt401.1, rd y405 bt408.1)) else (none)) else (none)))) else (none)) else (none)))))) = some (r1, r2, r3) := h
 clear h
 replace H := Option.bind_eq_some_iff.mp H
 obtain ⟨⟨t391, t392, t393⟩, A20, H⟩ := H
 replace H : ((spec_l2DrawServer.f t391 t392 t393).bind fun bt395 => ((some (([0, 1, 5, 100000, 100001] : List Int) : List Int)).bind fun y398 => ((spec_l1Below.f t391 bt395.2.1 bt395.2.2 5).bind fun bt401 => (if 0 ≤ bt401.1 then (if bt401.1 < (y398.length : Int) then ((some (([(-1), 0, 77, 2147483646, 2147483647] : List Int) : List Int)).bind fun y405 => ((spec_l1Below.f t391 bt401.2.1 bt401.2.2 5).bind fun bt408 => (if 0 ≤ bt408.1 then (if bt408.1 < (y405.length : Int) then (some (bt395.1, rd y398 bt401.1, rd y405 bt408.1)) else (none)) else (none)))) else (none)) else (none))))) = some (r1, r2, r3) := H
 have A2 := Aside0.mk A20
 clear A20
 replace H := Option.bind_eq_some_iff.mp H
 obtain ⟨⟨t395, t396, t397⟩, A30, H⟩ := H
 replace H : ((some (([0, 1, 5, 100000, 100001] : List Int) : List Int)).bind fun y398 => ((spec_l1Below.f t391 t396 t397 5).bind fun bt401 => (if 0 ≤ bt401.1 then (if bt401.1 < (y398.length : Int) then ((some (([(-1), 0, 77, 2147483646, 2147483647] : List Int) : List Int)).bind fun y405 => ((spec_l1Below.f t391 bt401.2.1 bt401.2.2 5).bind fun bt408 => (if 0 ≤ bt408.1 then (if bt408.1 < (y405.length : Int) then (some (t395, rd y398 bt401.1, rd y405 bt408.1)) else (none)) else (none)))) else (none)) else (none)))) = some (r1, r2, r3) := H
 have A3 := Aside0.mk A30
 clear A30
 obtain ⟨y398, hy398⟩ : ∃ y_ : List Int, y_ = (([0, 1, 5, 100000, 100001] : List Int)) := ⟨_, rfl⟩
 replace H : ((spec_l1Below.f t391 t396 t397 5).bind fun bt401 => (if 0 ≤ bt401.1 then (if bt401.1 < (y398.length : Int) then ((some (([(-1), 0, 77, 2147483646, 2147483647] : List Int) : List Int)).bind fun y405 => ((spec_l1Below.f t391 bt401.2.1 bt401.2.2 5).bind fun bt408 => (if 0 ≤ bt408.1 then (if bt408.1 < (y405.length : Int) then (some (t395, rd y398 bt401.1, rd y405 bt408.1)) else (none)) else (none)))) else (none)) else (none))) = some (r1, r2, r3) := by first | (rw [hy398]; with_reducible exact H) | (have H2_ := (Option.bind_some _ _).symm.trans H; rw [hy398]; with_reducible exact H2_) | (have H2_ := (Option.bind_some _ _).symm.trans H; with_reducible exact H2_) | with_reducible exact H | (rw [hy398]; exact H) | exact H
 have Ny398 := Aside0.mk hy398
 clear hy398
 replace H := Option.bind_eq_some_iff.mp H
 obtain ⟨⟨t401, t402, t403⟩, A40, H⟩ := H
 replace H : (if 0 ≤ t401 then (if t401 < (y398.length : Int) then ((some (([(-1), 0, 77, 2147483646, 2147483647] : List Int) : List Int)).bind fun y405 => ((spec_l1Below.f t391 t402 t403 5).bind fun bt408 => (if 0 ≤ bt408.1 then (if bt408.1 < (y405.length : Int) then (some (t395, rd y398 t401, rd y405 bt408.1)) else (none)) else (none)))) else (none)) else (none)) = some (r1, r2, r3) := H
 have A4 := Aside0.mk A40
 clear A40
 by_cases c5 : 0 ≤ t401
 ·rw [if_pos c5] at H
  have c5b0 : decide (0 ≤ t401) = true := decide_eq_true c5
  clear c5
  by_cases c6 : t401 < (y398.length : Int)
  ·rw [if_pos c6] at H
   have c6b0 : decide (t401 < (y398.length : Int)) = true := decide_eq_true c6
   clear c6
   obtain ⟨y405, hy405⟩ : ∃ y_ : List Int, y_ = (([(-1), 0, 77, 2147483646, 2147483647] : List Int)) := ⟨_, rfl⟩
   replace H : ((spec_l1Below.f t391 t402 t403 5).bind fun bt408 => (if 0 ≤ bt408.1 then (if bt408.1 < (y405.length : Int) then (some (t395, rd y398 t401, rd y405 bt408.1)) else (none)) else (none))) = some (r1, r2, r3) := by first | (rw [hy405]; with_reducible exact H) | (have H2_ := (Option.bind_some _ _).symm.trans H; rw [hy405]; with_reducible exact H2_) | (have H2_ := (Option.bind_some _ _).symm.trans H; with_reducible exact H2_) | with_reducible exact H | (rw [hy405]; exact H) | exact H
   have Ny405 := Aside0.mk hy405
   clear hy405
   replace H := Option.bind_eq_some_iff.mp H
   obtain ⟨⟨t408, t409, t410⟩, A70, H⟩ := H
   replace H : (if 0 ≤ t408 then (if t408 < (y405.length : Int) then (some (t395, rd y398 t401, rd y405 t408)) else (none)) else (none)) = some (r1, r2, r3) := H
   have A7 := Aside0.mk A70
   clear A70
   by_cases c8 : 0 ≤ t408
   ·rw [if_pos c8] at H
    have c8b0 : decide (0 ≤ t408) = true := decide_eq_true c8
    clear c8
    by_cases c9 : t408 < (y405.length : Int)
    ·rw [if_pos c9] at H
     have c9b0 : decide (t408 < (y405.length : Int)) = true := decide_eq_true c9
     clear c9
     simp only [Option.some.injEq, Prod.mk.injEq] at H
     obtain ⟨rfl, rfl, rfl⟩ := H
     go_enter Tryd.func20, Tryd.ntmps20
     try go_wp2_with (first | ((with_reducible refine gate_callee (f := 46) rfl ?_); refine goesL_ (some 7) rfl rfl Tryd.func46 (by kernel_rfl) rfl #[.slice A0 l0.length c0] rfl d0 ?_; (with_reducible refine (spec_l1New.calls k _ _ l0 t391 t392 t393 w _ ?side1 ?side2 ?side3 A2.out).mono ?_); (case side1 => exact o7); (case side2 => exact HR0.out); (case side3 => exact HC0.out); rintro e w10 ⟨g394, rfl, hi, hb, hb2⟩; refine ⟨_, rfl, ?_⟩; have n0_ := Aside0.mk (hb); have n1_ := Aside0.mk (hi); clear HB; have HB := n0_; have HI394 := n1_; clear n0_ n1_; (try clear hb); (try clear hb2); (try clear hk); (try clear hi)))
     have pi404 : (0 ≤ (t401 : Int)) = True := eq_true (od_)
     have qi404 : (t401 < (y398.length : Int)) = True := eq_true (od_)
     have pi411 : (0 ≤ (t408 : Int)) = True := eq_true (od_)
     have qi411 : (t408 < (y405.length : Int)) = True := eq_true (od_)
     have n0_ := Aside0.mk (IsS96.drew HI394.out)
     have n1_ := Aside0.mk (below_drew1 HB.out)
     clear HI394
     clear HB
     have HI394 := n0_
     have HB := n1_
     clear n0_ n1_
     refine start_ (n := 15) (S := fun w' => True) (ds := []) (bA 15 0) (by kernel_rfl) rfl rfl trivial (fun hHeld => ?_); refine with_tabW spec_DrawVoted.tab2 spec_DrawVoted.bits2 (fun HT_ HW_ => ?_)
     generalize w10.drew = w11 at HI394 HB hHeld ⊢
     refine pv (i := 0) (N := some 8) (bA 15 1) rfl rfl o0 ?_
     refine pv (i := 3) (N := some 11) (bA 15 9) rfl rfl o0 ?_
     refine pv (i := 8) (N := some 16) (bA 15 265) rfl rfl o0 ?_
     refine inv_at [1, 2, 4, 5, 6, 7, 9, 10, 11, 12, 13, 14] (fun a0_ b a w' => ∃ (v399 : Value) (adz_v399 : Addr) (v406 : Value) (adz_v406 : Addr) (m5_ : Value) (m10_ : Value), a = putSel a0_ b [(1, 9, .int .i64 t395), (2, 10, v399), (4, 12, .int .i64 t401), (5, 13, m5_), (6, 14, .int .i64 (rd y398 t401)), (7, 15, v406), (9, 17, .int .i64 t408), (10, 18, m10_), (11, 19, .int .i64 (rd y405 t408)), (12, 2, .int .i64 t395), (13, 3, .int .i64 (rd y398 t401)), (14, 4, .int .i64 (rd y405 t408))] ∧ (b 1 = false → IsS96 w w' g394 t391 t392 t393) ∧ (Below w.heap.size w w') ∧ (b 1 = true → b 4 = false → IsS96 w w' g394 t391 t396 t397) ∧ (b 2 = true → Kd.R (Kd.int .i64) 2 w' w.heap.size (fun _ => True) v399 y398) ∧ (b 2 = true → ∃ c_, (v399 : Value) = .slice (some adz_v399) y398.length c_) ∧ (b 4 = true → b 9 = false → IsS96 w w' g394 t391 t402 t403) ∧ (b 7 = true → Kd.R (Kd.int .i64) 2 w' w.heap.size (fun _ => True) v406 y405) ∧ (b 7 = true → ∃ c_, (v406 : Value) = .slice (some adz_v406) y405.length c_) ∧ (b 9 = true → IsS96 w w' g394 t391 t409 t410) ∧ (b 5 = true → (m5_ : Value) = .pointer (some (adz_v399.add (t401).toNat))) ∧ (b 10 = true → (m10_ : Value) = .pointer (some (adz_v406.add (t408).toNat)))) HT_.out HW_.out (by kernel_rfl) (by kernel_rfl) ?_ ?_ ?_
     ·exact ⟨.bool false, ⟨0, 0, none⟩, .bool false, ⟨0, 0, none⟩, .bool false, .bool false, (by simp only [putSel, Bool.false_eq_true, if_false]), fun _ => HI394.out, HB.out, fun h_ => absurd h_ (by decide), fun h_ => absurd h_ (by decide), fun h_ => absurd h_ (by decide), fun h_ => absurd h_ (by decide), fun h_ => absurd h_ (by decide), fun h_ => absurd h_ (by decide), fun h_ => absurd h_ (by decide), fun h_ => absurd h_ (by decide), fun h_ => absurd h_ (by decide)⟩
     ·skip
      clear HB HI394
      refine steps_cons ?_ ?_
      ·rintro b a w' ⟨v399, adz_v399, v406, adz_v406, m5_, m10_, ha, Q_HI394, Q_HB, Q_HI394_e1, Q_HO400, Q_HA_HO400, Q_HI394_e4, Q_HO407, Q_HA_HO407, Q_HI394_e9, Q_X5_, Q_X10_⟩ hb_ hon hoff
       refine ⟨_, rfl, fun K hK => ?_⟩
       have e8 : a.tmps[8]? = some (.pointer (some ⟨g394, 0, none⟩)) := by rw [ha]; exact (putSel_off rfl).trans rfl
       replace ha := Aside0.mk ha
       have HI394 := Aside0.mk (Q_HI394 hb_)
       have HB := Aside0.mk Q_HB
       refine goes_ Tryd.func51 (by kernel_rfl) rfl #[.pointer (some ⟨g394, 0, none⟩)] (by rfl) rfl rfl (by first | (simp only [List.map_toArray, List.map_cons, List.map_nil, Act.eval, Array.getD_eq_getD_getElem?, Option.getD_some, e8]; done) | (simp only [List.map_toArray, List.map_cons, List.map_nil, Act.eval, Array.getD_eq_getD_getElem?, Option.getD_some, e8]; rfl)) ?_
       with_reducible refine (spec_l2DrawServer.calls g394 t391 t392 t393 t395 t396 t397 w _ ?side1 ?side2 A3.out).mono ?_
       (case side1 => exact o9)
       (case side2 => exact o43)
       rintro e w12 ⟨rfl, hi, hb, hk⟩
       refine ⟨_, rfl, ?_⟩
       have n0_ := Aside0.mk (hb)
       have n1_ := Aside0.mk (hi)
       have z_HO400 := fun (h0_ : b 2 = true) => (show Kd.R (Kd.int .i64) 2 w12 w.heap.size (fun _ => True) v399 y398 from (by first | exact (Kd.R_mono (Kd.R_keep (IsS96.apart (show IsS96 w _ g394 t391 t392 t393 from o9) d74 (by decide)) hk (fun _ h => h.2)) (fun _ h => h.1)) | exact Kd.R_mono (Kd.R_mono (Kd.R_keep (IsS96.apart (show IsS96 w _ g394 t391 t392 t393 from o9) d74 (by decide)) hk (fun _ h => h.2)) (fun _ h => h.1)) (fun _ h_ => by first | trivial | exact h_ | exact h_.1)))
       have z_HO407 := fun (h0_ : b 7 = true) => (show Kd.R (Kd.int .i64) 2 w12 w.heap.size (fun _ => True) v406 y405 from (by first | exact (Kd.R_mono (Kd.R_keep (IsS96.apart (show IsS96 w _ g394 t391 t392 t393 from o9) d75 (by decide)) hk (fun _ h => h.2)) (fun _ h => h.1)) | exact Kd.R_mono (Kd.R_mono (Kd.R_keep (IsS96.apart (show IsS96 w _ g394 t391 t392 t393 from o9) d75 (by decide)) hk (fun _ h => h.2)) (fun _ h => h.1)) (fun _ h_ => by first | trivial | exact h_ | exact h_.1)))
       clear HB
       clear HI394
       have HB := n0_
       have HI394 := n1_
       clear n0_ n1_
       (try clear hb)
       (try clear hb2)
       (try clear hk)
       (try clear hi)
       refine hK.out _ _ ⟨v399, adz_v399, v406, adz_v406, m5_, m10_, (by rw [ha.out]; exact putSel_upk 0 hb_ rfl rfl rfl), fun h0_ => absurd ((up_self b 1).symm.trans h0_) (by decide), d96, fun _ _ => d97, z_HO400, Q_HA_HO400, fun h0_ _ => absurd ((hoff 4 (by kernel_rfl)).symm.trans h0_) (by decide), z_HO407, Q_HA_HO407, fun h0_ => absurd ((hoff 9 (by kernel_rfl)).symm.trans h0_) (by decide), fun h0_ => absurd ((hoff 5 (by kernel_rfl)).symm.trans h0_) (by decide), fun h0_ => absurd ((hoff 10 (by kernel_rfl)).symm.trans h0_) (by decide)⟩
      refine steps_cons ?_ ?_
      ·rintro b a w' ⟨v399, adz_v399, v406, adz_v406, m5_, m10_, ha, Q_HI394, Q_HB, Q_HI394_e1, Q_HO400, Q_HA_HO400, Q_HI394_e4, Q_HO407, Q_HA_HO407, Q_HI394_e9, Q_X5_, Q_X10_⟩ hb_ hon hoff
       refine ⟨_, rfl, fun K hK => ?_⟩
       replace ha := Aside0.mk ha
       have HB := Aside0.mk Q_HB
       refine Kd.R_lit_step (Kd.int .i64) _ 2 ?hg (N := 10) ?hd (xs := ([0, 1, 5, 100000, 100001] : List Int)) (inner := [.int .i64 0, .int .i64 1, .int .i64 5, .int .i64 100000, .int .i64 100001]) (ok := fun _ => True) (okp := fun _ => True) ?hr ?hp (fun _ hk => hk) trivial (Below.refl _ _) (Nat.le_refl _) (by simp) ?_; (case hd => rfl); (case hg => rfl); (case hr => first | (go_simp; done) | (go_simp; rfl)); (case hp => exact (Reps.one (show Kd.M (Kd.int .i64) _ _ _ 0 [.int .i64 0] from rfl) (Reps.one (show Kd.M (Kd.int .i64) _ _ _ 1 [.int .i64 1] from rfl) (Reps.one (show Kd.M (Kd.int .i64) _ _ _ 5 [.int .i64 5] from rfl) (Reps.one (show Kd.M (Kd.int .i64) _ _ _ 100000 [.int .i64 100000] from rfl) (Reps.one (show Kd.M (Kd.int .i64) _ _ _ 100001 [.int .i64 100001] from rfl) (Reps.none _ _)))))))
       intro v399 w12 ho13 hb hg_ hnew_
       clear hg_ hnew_
       (first | rw [← Ny398.out] at ho13 | (simp only [Int.reduceToNat] at ho13; rw [← Ny398.out] at ho13))
       have n0_ := Aside0.mk (Kd.R_lower ho13 (below_size d1))
       have n2_ := Aside0.mk (below_step d1 hb)
       have z_HI394 := fun (h0_ : b 1 = false) => (show IsS96 w w12 g394 t391 t392 t393 from (by first | exact (IsS96.below (by repeat (first | (with_reducible first | exact (Q_HI394 h0_) | apply IsS96.alloc | apply IsS96.drewN | apply IsS96.drew | apply IsS96.set_1 | apply IsS96.set_2) | exact (Q_HI394 h0_))) hb)))
       have z_HI394_e1 := fun (h0_ : b 1 = true) (h1_ : b 4 = false) => (show IsS96 w w12 g394 t391 t396 t397 from (by first | exact (IsS96.below (by repeat (first | (with_reducible first | exact (Q_HI394_e1 h0_ h1_) | apply IsS96.alloc | apply IsS96.drewN | apply IsS96.drew | apply IsS96.set_1 | apply IsS96.set_2) | exact (Q_HI394_e1 h0_ h1_))) hb)))
       have z_HI394_e4 := fun (h0_ : b 4 = true) (h1_ : b 9 = false) => (show IsS96 w w12 g394 t391 t402 t403 from (by first | exact (IsS96.below (by repeat (first | (with_reducible first | exact (Q_HI394_e4 h0_ h1_) | apply IsS96.alloc | apply IsS96.drewN | apply IsS96.drew | apply IsS96.set_1 | apply IsS96.set_2) | exact (Q_HI394_e4 h0_ h1_))) hb)))
       have z_HO407 := fun (h0_ : b 7 = true) => (show Kd.R (Kd.int .i64) 2 w12 w.heap.size (fun _ => True) v406 y405 from (by first | exact (Kd.R_elder' d75 (Kd.R_base ho13) hb) | exact Kd.R_mono (Kd.R_elder' d75 (Kd.R_base ho13) hb) (fun _ h_ => by first | trivial | exact h_ | exact h_.1)))
       have z_HI394_e9 := fun (h0_ : b 9 = true) => (show IsS96 w w12 g394 t391 t409 t410 from (by first | exact (IsS96.below (by repeat (first | (with_reducible first | exact (Q_HI394_e9 h0_) | apply IsS96.alloc | apply IsS96.drewN | apply IsS96.drew | apply IsS96.set_1 | apply IsS96.set_2) | exact (Q_HI394_e9 h0_))) hb)))
       clear HB
       have HO400 := n0_
       have HB := n2_
       clear n0_ n2_
       clear hb ho13
       obtain ⟨Ao14, co14, eo14⟩ := Kd.R_slice HO400.out
       subst eo14
       obtain ⟨ado14, fo14, _⟩ := Kd.at_int (Kd.R_reads' HO400.out).2.2 0 (by decide) (by rw [Ny398.out]; simp)
       cases fo14
       refine hK.out _ _ ⟨.slice (some ado14) y398.length co14, ado14, v406, adz_v406, m5_, m10_, (by rw [ha.out]; exact putSel_upk 1 hb_ rfl rfl rfl), z_HI394, d1, z_HI394_e1, fun _ => (by (with_reducible repeat (first | apply Kd.R_alloc | apply Kd.R_drewN | apply Kd.R_drew)); exact HO400.out), fun _ => ⟨_, rfl⟩, z_HI394_e4, z_HO407, Q_HA_HO407, z_HI394_e9, fun h0_ => absurd ((hoff 5 (by kernel_rfl)).symm.trans h0_) (by decide), Q_X10_⟩
      refine steps_cons ?_ ?_
      ·rintro b a w' ⟨v399, adz_v399, v406, adz_v406, m5_, m10_, ha, Q_HI394, Q_HB, Q_HI394_e1, Q_HO400, Q_HA_HO400, Q_HI394_e4, Q_HO407, Q_HA_HO407, Q_HI394_e9, Q_X5_, Q_X10_⟩ hb_ hon hoff
       refine ⟨_, rfl, fun K hK => ?_⟩
       have e11 : a.tmps[11]? = some (.pointer (some ⟨g394, 0, none⟩)) := by rw [ha]; exact (putSel_off rfl).trans rfl
       replace ha := Aside0.mk ha
       have HB := Aside0.mk Q_HB
       have HI394 := Aside0.mk (Q_HI394_e1 (hon 1 (by kernel_rfl)) hb_)
       refine goes_ Tryd.func52 (by kernel_rfl) rfl #[.pointer (some ⟨g394, 0, none⟩), .int .i64 5] (by rfl) rfl rfl (by first | (simp only [List.map_toArray, List.map_cons, List.map_nil, Act.eval, Array.getD_eq_getD_getElem?, Option.getD_some, e11]; done) | (simp only [List.map_toArray, List.map_cons, List.map_nil, Act.eval, Array.getD_eq_getD_getElem?, Option.getD_some, e11]; rfl)) ?_
       with_reducible refine (spec_l1Below.calls g394 t391 t396 t397 5 t401 t402 t403 w _ ?side1 ?side2 A4.out).mono ?_
       (case side1 => exact o9)
       (case side2 => exact o43)
       rintro e w14 ⟨rfl, hi, hb, hk⟩
       refine ⟨_, rfl, ?_⟩
       have n0_ := Aside0.mk (hb)
       have n1_ := Aside0.mk (hi)
       have z_HO400 := fun (h0_ : b 2 = true) => (show Kd.R (Kd.int .i64) 2 w14 w.heap.size (fun _ => True) v399 y398 from (by first | exact (Kd.R_mono (Kd.R_keep (IsS96.apart (show IsS96 w _ g394 t391 t396 t397 from o9) d74 (by decide)) hk (fun _ h => h.2)) (fun _ h => h.1)) | exact Kd.R_mono (Kd.R_mono (Kd.R_keep (IsS96.apart (show IsS96 w _ g394 t391 t396 t397 from o9) d74 (by decide)) hk (fun _ h => h.2)) (fun _ h => h.1)) (fun _ h_ => by first | trivial | exact h_ | exact h_.1)))
       have z_HO407 := fun (h0_ : b 7 = true) => (show Kd.R (Kd.int .i64) 2 w14 w.heap.size (fun _ => True) v406 y405 from (by first | exact (Kd.R_mono (Kd.R_keep (IsS96.apart (show IsS96 w _ g394 t391 t396 t397 from o9) d75 (by decide)) hk (fun _ h => h.2)) (fun _ h => h.1)) | exact Kd.R_mono (Kd.R_mono (Kd.R_keep (IsS96.apart (show IsS96 w _ g394 t391 t396 t397 from o9) d75 (by decide)) hk (fun _ h => h.2)) (fun _ h => h.1)) (fun _ h_ => by first | trivial | exact h_ | exact h_.1)))
       clear HB
       clear HI394
       have HB := n0_
       have HI394 := n1_
       clear n0_ n1_
       (try clear hb)
       (try clear hb2)
       (try clear hk)
       (try clear hi)
       refine hK.out _ _ ⟨v399, adz_v399, v406, adz_v406, m5_, m10_, (by rw [ha.out]; exact putSel_upk 2 hb_ rfl rfl rfl), fun h0_ => absurd ((hon 1 (by kernel_rfl)).symm.trans h0_) (by decide), d96, fun _ h1_ => absurd ((up_self b 4).symm.trans h1_) (by decide), z_HO400, Q_HA_HO400, fun _ _ => d97, z_HO407, Q_HA_HO407, fun h0_ => absurd ((hoff 9 (by kernel_rfl)).symm.trans h0_) (by decide), fun h0_ => absurd ((hoff 5 (by kernel_rfl)).symm.trans h0_) (by decide), fun h0_ => absurd ((hoff 10 (by kernel_rfl)).symm.trans h0_) (by decide)⟩
      refine steps_cons ?_ ?_
      ·rintro b a w' ⟨v399, adz_v399, v406, adz_v406, m5_, m10_, ha, Q_HI394, Q_HB, Q_HI394_e1, Q_HO400, Q_HA_HO400, Q_HI394_e4, Q_HO407, Q_HA_HO407, Q_HI394_e9, Q_X5_, Q_X10_⟩ hb_ hon hoff
       refine ⟨_, rfl, fun K hK => ?_⟩
       have e10 : a.tmps[10]? = some (v399) := by rw [ha]; exact putSel_on (e := (2, 10, v399)) 1 rfl rfl (hon 2 (by kernel_rfl)) rfl
       have e12 : a.tmps[12]? = some (.int .i64 t401) := by rw [ha]; exact putSel_on (e := (4, 12, .int .i64 t401)) 2 rfl rfl (hon 4 (by kernel_rfl)) rfl
       replace ha := Aside0.mk ha
       have HB := Aside0.mk Q_HB
       have HO400 := Aside0.mk (Q_HO400 (hon 2 (by kernel_rfl)))
       have HA_HO400 := Aside0.mk (Q_HA_HO400 (hon 2 (by kernel_rfl)))
       obtain ⟨c_, hv_⟩ := HA_HO400.out
       rw [hv_] at e10
       refine value_ (w1 := w') (v := .pointer (some (adz_v399.add (t401).toNat))) (by rfl) rfl ?_ ?_
       ·go_simp
        (try simp only [i64_w])
        try rfl
       refine hK.out _ _ ⟨v399, adz_v399, v406, adz_v406, (.pointer (some (adz_v399.add (t401).toNat))), m10_, (by rw [ha.out]; exact putSel_upk 3 hb_ rfl rfl rfl), fun h0_ => absurd ((hon 1 (by kernel_rfl)).symm.trans h0_) (by decide), Q_HB, fun _ h1_ => absurd ((hon 4 (by kernel_rfl)).symm.trans h1_) (by decide), Q_HO400, Q_HA_HO400, Q_HI394_e4, Q_HO407, Q_HA_HO407, Q_HI394_e9, fun _ => rfl, Q_X10_⟩
      refine steps_cons ?_ ?_
      ·rintro b a w' ⟨v399, adz_v399, v406, adz_v406, m5_, m10_, ha, Q_HI394, Q_HB, Q_HI394_e1, Q_HO400, Q_HA_HO400, Q_HI394_e4, Q_HO407, Q_HA_HO407, Q_HI394_e9, Q_X5_, Q_X10_⟩ hb_ hon hoff
       refine ⟨_, rfl, fun K hK => ?_⟩
       have e13 : a.tmps[13]? = some (m5_) := by rw [ha]; exact putSel_on (e := (5, 13, m5_)) 3 rfl rfl (hon 5 (by kernel_rfl)) rfl
       rw [Q_X5_ (hon 5 (by kernel_rfl))] at e13
       replace ha := Aside0.mk ha
       have HB := Aside0.mk Q_HB
       have HO400 := Aside0.mk (Q_HO400 (hon 2 (by kernel_rfl)))
       have HA_HO400 := Aside0.mk (Q_HA_HO400 (hon 2 (by kernel_rfl)))
       obtain ⟨c_, hv_⟩ := HA_HO400.out
       have hF_ := HO400.out
       rw [hv_] at hF_
       obtain ⟨ad_, ea_, hx_⟩ := Kd.at_int (Kd.R_reads' hF_).2.2 t401 (of_eq_true pi404) (of_eq_true qi404)
       cases ea_
       refine value_ (w1 := w') (v := .int .i64 (rd y398 t401)) (by rfl) rfl ?_ ?_
       ·go_simp
        (try simp only [i64_w])
        try rfl
       refine hK.out _ _ ⟨v399, adz_v399, v406, adz_v406, m5_, m10_, (by rw [ha.out]; exact putSel_upk 4 hb_ rfl rfl rfl), fun h0_ => absurd ((hon 1 (by kernel_rfl)).symm.trans h0_) (by decide), Q_HB, fun _ h1_ => absurd ((hon 4 (by kernel_rfl)).symm.trans h1_) (by decide), Q_HO400, Q_HA_HO400, Q_HI394_e4, Q_HO407, Q_HA_HO407, Q_HI394_e9, Q_X5_, Q_X10_⟩
      refine steps_cons ?_ ?_
      ·rintro b a w' ⟨v399, adz_v399, v406, adz_v406, m5_, m10_, ha, Q_HI394, Q_HB, Q_HI394_e1, Q_HO400, Q_HA_HO400, Q_HI394_e4, Q_HO407, Q_HA_HO407, Q_HI394_e9, Q_X5_, Q_X10_⟩ hb_ hon hoff
       refine ⟨_, rfl, fun K hK => ?_⟩
       replace ha := Aside0.mk ha
       have HB := Aside0.mk Q_HB
       refine Kd.R_lit_step (Kd.int .i64) _ 2 ?hg (N := 15) ?hd (xs := ([(-1), 0, 77, 2147483646, 2147483647] : List Int)) (inner := [.int .i64 (-1), .int .i64 0, .int .i64 77, .int .i64 2147483646, .int .i64 2147483647]) (ok := fun _ => True) (okp := fun _ => True) ?hr ?hp (fun _ hk => hk) trivial (Below.refl _ _) (Nat.le_refl _) (by simp) ?_; (case hd => rfl); (case hg => rfl); (case hr => first | (go_simp; done) | (go_simp; rfl)); (case hp => exact (Reps.one (show Kd.M (Kd.int .i64) _ _ _ (-1) [.int .i64 (-1)] from rfl) (Reps.one (show Kd.M (Kd.int .i64) _ _ _ 0 [.int .i64 0] from rfl) (Reps.one (show Kd.M (Kd.int .i64) _ _ _ 77 [.int .i64 77] from rfl) (Reps.one (show Kd.M (Kd.int .i64) _ _ _ 2147483646 [.int .i64 2147483646] from rfl) (Reps.one (show Kd.M (Kd.int .i64) _ _ _ 2147483647 [.int .i64 2147483647] from rfl) (Reps.none _ _)))))))
       intro v406 w12 ho13 hb hg_ hnew_
       clear hg_ hnew_
       (first | rw [← Ny405.out] at ho13 | (simp only [Int.reduceToNat] at ho13; rw [← Ny405.out] at ho13))
       have n0_ := Aside0.mk (Kd.R_lower ho13 (below_size d1))
       have n2_ := Aside0.mk (below_step d1 hb)
       have z_HI394 := fun (h0_ : b 1 = false) => (show IsS96 w w12 g394 t391 t392 t393 from (by first | exact (IsS96.below (by repeat (first | (with_reducible first | exact (Q_HI394 h0_) | apply IsS96.alloc | apply IsS96.drewN | apply IsS96.drew | apply IsS96.set_1 | apply IsS96.set_2) | exact (Q_HI394 h0_))) hb)))
       have z_HI394_e1 := fun (h0_ : b 1 = true) (h1_ : b 4 = false) => (show IsS96 w w12 g394 t391 t396 t397 from (by first | exact (IsS96.below (by repeat (first | (with_reducible first | exact (Q_HI394_e1 h0_ h1_) | apply IsS96.alloc | apply IsS96.drewN | apply IsS96.drew | apply IsS96.set_1 | apply IsS96.set_2) | exact (Q_HI394_e1 h0_ h1_))) hb)))
       have z_HO400 := fun (h0_ : b 2 = true) => (show Kd.R (Kd.int .i64) 2 w12 w.heap.size (fun _ => True) v399 y398 from (by first | exact (Kd.R_elder' d74 (Kd.R_base ho13) hb) | exact Kd.R_mono (Kd.R_elder' d74 (Kd.R_base ho13) hb) (fun _ h_ => by first | trivial | exact h_ | exact h_.1)))
       have z_HI394_e4 := fun (h0_ : b 4 = true) (h1_ : b 9 = false) => (show IsS96 w w12 g394 t391 t402 t403 from (by first | exact (IsS96.below (by repeat (first | (with_reducible first | exact (Q_HI394_e4 h0_ h1_) | apply IsS96.alloc | apply IsS96.drewN | apply IsS96.drew | apply IsS96.set_1 | apply IsS96.set_2) | exact (Q_HI394_e4 h0_ h1_))) hb)))
       have z_HI394_e9 := fun (h0_ : b 9 = true) => (show IsS96 w w12 g394 t391 t409 t410 from (by first | exact (IsS96.below (by repeat (first | (with_reducible first | exact (Q_HI394_e9 h0_) | apply IsS96.alloc | apply IsS96.drewN | apply IsS96.drew | apply IsS96.set_1 | apply IsS96.set_2) | exact (Q_HI394_e9 h0_))) hb)))
       clear HB
       have HO407 := n0_
       have HB := n2_
       clear n0_ n2_
       clear hb ho13
       obtain ⟨Ao14, co14, eo14⟩ := Kd.R_slice HO407.out
       subst eo14
       obtain ⟨ado14, fo14, _⟩ := Kd.at_int (Kd.R_reads' HO407.out).2.2 0 (by decide) (by rw [Ny405.out]; simp)
       cases fo14
       refine hK.out _ _ ⟨v399, adz_v399, .slice (some ado14) y405.length co14, ado14, m5_, m10_, (by rw [ha.out]; exact putSel_upk 5 hb_ rfl rfl rfl), z_HI394, d1, z_HI394_e1, z_HO400, Q_HA_HO400, z_HI394_e4, fun _ => (by (with_reducible repeat (first | apply Kd.R_alloc | apply Kd.R_drewN | apply Kd.R_drew)); exact HO407.out), fun _ => ⟨_, rfl⟩, z_HI394_e9, Q_X5_, fun h0_ => absurd ((hoff 10 (by kernel_rfl)).symm.trans h0_) (by decide)⟩
      refine steps_cons ?_ ?_
      ·rintro b a w' ⟨v399, adz_v399, v406, adz_v406, m5_, m10_, ha, Q_HI394, Q_HB, Q_HI394_e1, Q_HO400, Q_HA_HO400, Q_HI394_e4, Q_HO407, Q_HA_HO407, Q_HI394_e9, Q_X5_, Q_X10_⟩ hb_ hon hoff
       refine ⟨_, rfl, fun K hK => ?_⟩
       have e16 : a.tmps[16]? = some (.pointer (some ⟨g394, 0, none⟩)) := by rw [ha]; exact (putSel_off rfl).trans rfl
       replace ha := Aside0.mk ha
       have HB := Aside0.mk Q_HB
       have HI394 := Aside0.mk (Q_HI394_e4 (hon 4 (by kernel_rfl)) hb_)
       refine goes_ Tryd.func52 (by kernel_rfl) rfl #[.pointer (some ⟨g394, 0, none⟩), .int .i64 5] (by rfl) rfl rfl (by first | (simp only [List.map_toArray, List.map_cons, List.map_nil, Act.eval, Array.getD_eq_getD_getElem?, Option.getD_some, e16]; done) | (simp only [List.map_toArray, List.map_cons, List.map_nil, Act.eval, Array.getD_eq_getD_getElem?, Option.getD_some, e16]; rfl)) ?_
       with_reducible refine (spec_l1Below.calls g394 t391 t402 t403 5 t408 t409 t410 w _ ?side1 ?side2 A7.out).mono ?_
       (case side1 => exact o9)
       (case side2 => exact o43)
       rintro e w15 ⟨rfl, hi, hb, hk⟩
       refine ⟨_, rfl, ?_⟩
       have n0_ := Aside0.mk (hb)
       have n1_ := Aside0.mk (hi)
       have z_HO400 := fun (h0_ : b 2 = true) => (show Kd.R (Kd.int .i64) 2 w15 w.heap.size (fun _ => True) v399 y398 from (by first | exact (Kd.R_mono (Kd.R_keep (IsS96.apart (show IsS96 w _ g394 t391 t402 t403 from o9) d74 (by decide)) hk (fun _ h => h.2)) (fun _ h => h.1)) | exact Kd.R_mono (Kd.R_mono (Kd.R_keep (IsS96.apart (show IsS96 w _ g394 t391 t402 t403 from o9) d74 (by decide)) hk (fun _ h => h.2)) (fun _ h => h.1)) (fun _ h_ => by first | trivial | exact h_ | exact h_.1)))
       have z_HO407 := fun (h0_ : b 7 = true) => (show Kd.R (Kd.int .i64) 2 w15 w.heap.size (fun _ => True) v406 y405 from (by first | exact (Kd.R_mono (Kd.R_keep (IsS96.apart (show IsS96 w _ g394 t391 t402 t403 from o9) d75 (by decide)) hk (fun _ h => h.2)) (fun _ h => h.1)) | exact Kd.R_mono (Kd.R_mono (Kd.R_keep (IsS96.apart (show IsS96 w _ g394 t391 t402 t403 from o9) d75 (by decide)) hk (fun _ h => h.2)) (fun _ h => h.1)) (fun _ h_ => by first | trivial | exact h_ | exact h_.1)))
       clear HB
       clear HI394
       have HB := n0_
       have HI394 := n1_
       clear n0_ n1_
       (try clear hb)
       (try clear hb2)
       (try clear hk)
       (try clear hi)
       refine hK.out _ _ ⟨v399, adz_v399, v406, adz_v406, m5_, m10_, (by rw [ha.out]; exact putSel_upk 6 hb_ rfl rfl rfl), fun h0_ => absurd ((hon 1 (by kernel_rfl)).symm.trans h0_) (by decide), d96, fun _ h1_ => absurd ((hon 4 (by kernel_rfl)).symm.trans h1_) (by decide), z_HO400, Q_HA_HO400, fun _ h1_ => absurd ((up_self b 9).symm.trans h1_) (by decide), z_HO407, Q_HA_HO407, fun _ => d97, Q_X5_, fun h0_ => absurd ((hoff 10 (by kernel_rfl)).symm.trans h0_) (by decide)⟩
      refine steps_cons ?_ ?_
      ·rintro b a w' ⟨v399, adz_v399, v406, adz_v406, m5_, m10_, ha, Q_HI394, Q_HB, Q_HI394_e1, Q_HO400, Q_HA_HO400, Q_HI394_e4, Q_HO407, Q_HA_HO407, Q_HI394_e9, Q_X5_, Q_X10_⟩ hb_ hon hoff
       refine ⟨_, rfl, fun K hK => ?_⟩
       have e15 : a.tmps[15]? = some (v406) := by rw [ha]; exact putSel_on (e := (7, 15, v406)) 5 rfl rfl (hon 7 (by kernel_rfl)) rfl
       have e17 : a.tmps[17]? = some (.int .i64 t408) := by rw [ha]; exact putSel_on (e := (9, 17, .int .i64 t408)) 6 rfl rfl (hon 9 (by kernel_rfl)) rfl
       replace ha := Aside0.mk ha
       have HB := Aside0.mk Q_HB
       have HO407 := Aside0.mk (Q_HO407 (hon 7 (by kernel_rfl)))
       have HA_HO407 := Aside0.mk (Q_HA_HO407 (hon 7 (by kernel_rfl)))
       have HI394 := Aside0.mk (Q_HI394_e9 (hon 9 (by kernel_rfl)))
       obtain ⟨c_, hv_⟩ := HA_HO407.out
       rw [hv_] at e15
       refine value_ (w1 := w') (v := .pointer (some (adz_v406.add (t408).toNat))) (by rfl) rfl ?_ ?_
       ·go_simp
        (try simp only [i64_w])
        try rfl
       refine hK.out _ _ ⟨v399, adz_v399, v406, adz_v406, m5_, (.pointer (some (adz_v406.add (t408).toNat))), (by rw [ha.out]; exact putSel_upk 7 hb_ rfl rfl rfl), fun h0_ => absurd ((hon 1 (by kernel_rfl)).symm.trans h0_) (by decide), Q_HB, fun _ h1_ => absurd ((hon 4 (by kernel_rfl)).symm.trans h1_) (by decide), Q_HO400, Q_HA_HO400, fun _ h1_ => absurd ((hon 9 (by kernel_rfl)).symm.trans h1_) (by decide), Q_HO407, Q_HA_HO407, Q_HI394_e9, Q_X5_, fun _ => rfl⟩
      refine steps_cons ?_ ?_
      ·rintro b a w' ⟨v399, adz_v399, v406, adz_v406, m5_, m10_, ha, Q_HI394, Q_HB, Q_HI394_e1, Q_HO400, Q_HA_HO400, Q_HI394_e4, Q_HO407, Q_HA_HO407, Q_HI394_e9, Q_X5_, Q_X10_⟩ hb_ hon hoff
       refine ⟨_, rfl, fun K hK => ?_⟩
       have e18 : a.tmps[18]? = some (m10_) := by rw [ha]; exact putSel_on (e := (10, 18, m10_)) 7 rfl rfl (hon 10 (by kernel_rfl)) rfl
       rw [Q_X10_ (hon 10 (by kernel_rfl))] at e18
       replace ha := Aside0.mk ha
       have HB := Aside0.mk Q_HB
       have HO407 := Aside0.mk (Q_HO407 (hon 7 (by kernel_rfl)))
       have HA_HO407 := Aside0.mk (Q_HA_HO407 (hon 7 (by kernel_rfl)))
       have HI394 := Aside0.mk (Q_HI394_e9 (hon 9 (by kernel_rfl)))
       obtain ⟨c_, hv_⟩ := HA_HO407.out
       have hF_ := HO407.out
       rw [hv_] at hF_
       obtain ⟨ad_, ea_, hx_⟩ := Kd.at_int (Kd.R_reads' hF_).2.2 t408 (of_eq_true pi411) (of_eq_true qi411)
       cases ea_
       refine value_ (w1 := w') (v := .int .i64 (rd y405 t408)) (by rfl) rfl ?_ ?_
       ·go_simp
        (try simp only [i64_w])
        try rfl
       refine hK.out _ _ ⟨v399, adz_v399, v406, adz_v406, m5_, m10_, (by rw [ha.out]; exact putSel_upk 8 hb_ rfl rfl rfl), fun h0_ => absurd ((hon 1 (by kernel_rfl)).symm.trans h0_) (by decide), Q_HB, fun _ h1_ => absurd ((hon 4 (by kernel_rfl)).symm.trans h1_) (by decide), Q_HO400, Q_HA_HO400, fun _ h1_ => absurd ((hon 9 (by kernel_rfl)).symm.trans h1_) (by decide), Q_HO407, Q_HA_HO407, Q_HI394_e9, Q_X5_, Q_X10_⟩
      refine steps_cons ?_ ?_
      ·rintro b a w' ⟨v399, adz_v399, v406, adz_v406, m5_, m10_, ha, Q_HI394, Q_HB, Q_HI394_e1, Q_HO400, Q_HA_HO400, Q_HI394_e4, Q_HO407, Q_HA_HO407, Q_HI394_e9, Q_X5_, Q_X10_⟩ hb_ hon hoff
       refine ⟨_, rfl, fun K hK => ?_⟩
       have e9 : a.tmps[9]? = some (.int .i64 t395) := by rw [ha]; exact putSel_on (e := (1, 9, .int .i64 t395)) 0 rfl rfl (hon 1 (by kernel_rfl)) rfl
       replace ha := Aside0.mk ha
       have HB := Aside0.mk Q_HB
       have HI394 := Aside0.mk (Q_HI394_e9 (hon 9 (by kernel_rfl)))
       refine value_ (w1 := w') (v := .int .i64 t395) (by rfl) rfl ?_ ?_
       ·go_simp
        (try simp only [i64_w])
        try rfl
       refine hK.out _ _ ⟨v399, adz_v399, v406, adz_v406, m5_, m10_, (by rw [ha.out]; exact putSel_upk 9 hb_ rfl rfl rfl), fun h0_ => absurd ((hon 1 (by kernel_rfl)).symm.trans h0_) (by decide), Q_HB, fun _ h1_ => absurd ((hon 4 (by kernel_rfl)).symm.trans h1_) (by decide), Q_HO400, Q_HA_HO400, fun _ h1_ => absurd ((hon 9 (by kernel_rfl)).symm.trans h1_) (by decide), Q_HO407, Q_HA_HO407, Q_HI394_e9, Q_X5_, Q_X10_⟩
      refine steps_cons ?_ ?_
      ·rintro b a w' ⟨v399, adz_v399, v406, adz_v406, m5_, m10_, ha, Q_HI394, Q_HB, Q_HI394_e1, Q_HO400, Q_HA_HO400, Q_HI394_e4, Q_HO407, Q_HA_HO407, Q_HI394_e9, Q_X5_, Q_X10_⟩ hb_ hon hoff
       refine ⟨_, rfl, fun K hK => ?_⟩
       have e14 : a.tmps[14]? = some (.int .i64 (rd y398 t401)) := by rw [ha]; exact putSel_on (e := (6, 14, .int .i64 (rd y398 t401))) 4 rfl rfl (hon 6 (by kernel_rfl)) rfl
       replace ha := Aside0.mk ha
       have HB := Aside0.mk Q_HB
       have HO400 := Aside0.mk (Q_HO400 (hon 2 (by kernel_rfl)))
       have HA_HO400 := Aside0.mk (Q_HA_HO400 (hon 2 (by kernel_rfl)))
       have HI394 := Aside0.mk (Q_HI394_e9 (hon 9 (by kernel_rfl)))
       refine value_ (w1 := w') (v := .int .i64 (rd y398 t401)) (by rfl) rfl ?_ ?_
       ·go_simp
        (try simp only [i64_w])
        try rfl
       refine hK.out _ _ ⟨v399, adz_v399, v406, adz_v406, m5_, m10_, (by rw [ha.out]; exact putSel_upk 10 hb_ rfl rfl rfl), fun h0_ => absurd ((hon 1 (by kernel_rfl)).symm.trans h0_) (by decide), Q_HB, fun _ h1_ => absurd ((hon 4 (by kernel_rfl)).symm.trans h1_) (by decide), Q_HO400, Q_HA_HO400, fun _ h1_ => absurd ((hon 9 (by kernel_rfl)).symm.trans h1_) (by decide), Q_HO407, Q_HA_HO407, Q_HI394_e9, Q_X5_, Q_X10_⟩
      refine steps_cons ?_ ?_
      ·rintro b a w' ⟨v399, adz_v399, v406, adz_v406, m5_, m10_, ha, Q_HI394, Q_HB, Q_HI394_e1, Q_HO400, Q_HA_HO400, Q_HI394_e4, Q_HO407, Q_HA_HO407, Q_HI394_e9, Q_X5_, Q_X10_⟩ hb_ hon hoff
       refine ⟨_, rfl, fun K hK => ?_⟩
       have e19 : a.tmps[19]? = some (.int .i64 (rd y405 t408)) := by rw [ha]; exact putSel_on (e := (11, 19, .int .i64 (rd y405 t408))) 8 rfl rfl (hon 11 (by kernel_rfl)) rfl
       replace ha := Aside0.mk ha
       have HB := Aside0.mk Q_HB
       have HO400 := Aside0.mk (Q_HO400 (hon 2 (by kernel_rfl)))
       have HA_HO400 := Aside0.mk (Q_HA_HO400 (hon 2 (by kernel_rfl)))
       have HO407 := Aside0.mk (Q_HO407 (hon 7 (by kernel_rfl)))
       have HA_HO407 := Aside0.mk (Q_HA_HO407 (hon 7 (by kernel_rfl)))
       have HI394 := Aside0.mk (Q_HI394_e9 (hon 9 (by kernel_rfl)))
       refine value_ (w1 := w') (v := .int .i64 (rd y405 t408)) (by rfl) rfl ?_ ?_
       ·go_simp
        (try simp only [i64_w])
        try rfl
       refine hK.out _ _ ⟨v399, adz_v399, v406, adz_v406, m5_, m10_, (by rw [ha.out]; exact putSel_upk 11 hb_ rfl rfl rfl), fun h0_ => absurd ((hon 1 (by kernel_rfl)).symm.trans h0_) (by decide), Q_HB, fun _ h1_ => absurd ((hon 4 (by kernel_rfl)).symm.trans h1_) (by decide), Q_HO400, Q_HA_HO400, fun _ h1_ => absurd ((hon 9 (by kernel_rfl)).symm.trans h1_) (by decide), Q_HO407, Q_HA_HO407, Q_HI394_e9, Q_X5_, Q_X10_⟩
      exact steps_nil
     rintro b a w21 hall ⟨v399, adz_v399, v406, adz_v406, m5_, m10_, ha, Q_HI394, Q_HB, Q_HI394_e1, Q_HO400, Q_HA_HO400, Q_HI394_e4, Q_HO407, Q_HA_HO407, Q_HI394_e9, Q_X5_, Q_X10_⟩
     clear HB HI394
     have hb1_ := hall 1 (by kernel_rfl)
     have hb2_ := hall 2 (by kernel_rfl)
     have hb4_ := hall 4 (by kernel_rfl)
     have hb5_ := hall 5 (by kernel_rfl)
     have hb6_ := hall 6 (by kernel_rfl)
     have hb7_ := hall 7 (by kernel_rfl)
     have hb9_ := hall 9 (by kernel_rfl)
     have hb10_ := hall 10 (by kernel_rfl)
     have hb11_ := hall 11 (by kernel_rfl)
     have hb12_ := hall 12 (by kernel_rfl)
     have hb13_ := hall 13 (by kernel_rfl)
     have hb14_ := hall 14 (by kernel_rfl)
     subst ha
     obtain rfl := Q_X5_ hb5_
     obtain rfl := Q_X10_ hb10_
     simp only [putSel, hb1_, hb2_, hb4_, hb5_, hb6_, hb7_, hb9_, hb10_, hb11_, hb12_, hb13_, hb14_, if_true, Act.put, List.setIfInBounds_toArray, List.set_cons_zero, List.set_cons_succ]
     clear Q_HI394
     have HB := Aside0.mk Q_HB
     clear Q_HB
     clear Q_HI394_e1
     have HO400 := Aside0.mk (Q_HO400 hb2_)
     clear Q_HO400
     have HA_HO400 := Aside0.mk (Q_HA_HO400 hb2_)
     clear Q_HA_HO400
     clear Q_HI394_e4
     have HO407 := Aside0.mk (Q_HO407 hb7_)
     clear Q_HO407
     have HA_HO407 := Aside0.mk (Q_HA_HO407 hb7_)
     clear Q_HA_HO407
     have HI394 := Aside0.mk (Q_HI394_e9 hb9_)
     clear Q_HI394_e9
     clear hall hb1_ hb2_ hb4_ hb5_ hb6_ hb7_ hb9_ hb10_ hb11_ hb12_ hb13_ hb14_
     obtain ⟨co22, eo22⟩ := HA_HO400.out
     clear HA_HO400
     subst eo22
     obtain ⟨co23, eo23⟩ := HA_HO407.out
     clear HA_HO407
     subst eo23
     try go_wp2
     go_ret3
     exact ⟨o2, o43⟩
    ·rw [if_neg c9] at H
     exact absurd H (by simp)
   ·rw [if_neg c8] at H
    exact absurd H (by simp)
  ·rw [if_neg c6] at H
   exact absurd H (by simp)
 ·rw [if_neg c5] at H
  exact absurd H (by simp)

end Go.Proofs.YtokfpmkhfindmaaDoor.PFnProofs
