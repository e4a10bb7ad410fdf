-- Written by a program of this session (wip/tools/pp.py over the kit's print).
import Derived.Test.YtokhjhkkncbjeaaDoorPFnBlocksx0
import Derived.Test.YtokhjhkkncbjeaaDoorPFnBlocksx3
import Derived.Test.YtokhjhkkncbjeaaDoorPFnBlocksx11
namespace Go.Proofs.YtokhjhkkncbjeaaDoor.PFnBlocks
open Go.RowKit Go.Proofs.YtokhjhkkncbjeaaDoorW.PrintWords Go.Proofs.YtokhjhkkncbjeaaDoorW.PrintLast Go.Proofs.YtokhjhkkncbjeaaDoorW.PrintMore
attribute [local go_sem] max2_int min2_int max_two min_two max_three min_three max_four min_four
attribute [local go_sem high] str_gtr str_leq str_geq
set_option linter.unusedVariables false
set_option linter.unusedSimpArgs false

/-! ### spec_ShowBlock: function 12 -/
mutual
def spec_ShowBlock.j0 : Nat → List Int → Bool → Int → Int → Int → Int → List Int → List Int → List ByteArray → Int → Option (ByteArray)
 | 0, _, _, _, _, _, _, _, _, _, _ => none
 | k + 1, x3, x38, x423000, x423001, x423002, x423003, x423004, x423005, x423006, x423007 => if x38 = true then (some (⟨#[]⟩ : ByteArray)) else (spec_ShowBlock.l0 k x3 0 x423000 x423001 x423002 x423003 x423004 x423005 x423006 x423007)
def spec_ShowBlock.l0 : Nat → List Int → Int → Int → Int → Int → Int → List Int → List Int → List ByteArray → Int → Option (ByteArray)
 | 0, _, _, _, _, _, _, _, _, _, _ => none
 | k + 1, x3, x4, x423000, x423001, x423002, x423003, x423004, x423005, x423006, x423007 => if x4 < (x423004.length : Int) then (if 0 ≤ x4 then (if x4 < (x423005.length : Int) then ((some (([rd x423004 x4, rd x423005 x4] : List Int) : List Int)).bind fun y428 => (if x3.length + y428.length < 17592186044416 then (spec_ShowBlock.l0 k (x3 ++ y428) (wrap64 (x4 + 1)) x423000 x423001 x423002 x423003 x423004 x423005 x423006 x423007) else (none))) else (none)) else (none)) else (spec_ShowBlock.l1 k x3 (([] : List Int)) 0 x423000 x423001 x423002 x423003 x423004 x423005 x423006 x423007)
def spec_ShowBlock.l1 : Nat → List Int → List Int → Int → Int → Int → Int → Int → List Int → List Int → List ByteArray → Int → Option (ByteArray)
 | 0, _, _, _, _, _, _, _, _, _, _, _ => none
 | k + 1, x3, x5, x6, x423000, x423001, x423002, x423003, x423004, x423005, x423006, x423007 => if x6 < (x3.length : Int) then (if 0 ≤ x6 then ((spec_l1In.f (rd x3 x6) 0 1099511627776).bind fun t438 => (if t438 = true then ((spec_l1Number.f k (rd x3 x6)).bind fun t440 => (if x5.length + t440.length < 140737488355328 then (spec_ShowBlock.l1 k x3 (x5 ++ t440) (wrap64 (x6 + 1)) x423000 x423001 x423002 x423003 x423004 x423005 x423006 x423007) else (none))) else (some (⟨#[]⟩ : ByteArray)))) else (none)) else ((spec_Texts.f k x423006).bind fun t446 => (if (t446.length : Int) = 0 then (some (⟨#[]⟩ : ByteArray)) else ((spec_l1In.f x423007 0 1099511627776).bind fun t449 => (if t449 = true then (if x5.length + t446.length < 140737488355328 then ((some (x5 ++ t446 : List Int)).bind fun y450 => ((spec_l1Number.f k x423007).bind fun t453 => (if y450.length + t453.length < 140737488355328 then (some (strOfNums (y450 ++ t453))) else (none)))) else (none)) else (some (⟨#[]⟩ : ByteArray))))))
end
def spec_ShowBlock.f (k : Nat) (a0_0 : Int) (a0_1 : Int) (a0_2 : Int) (a0_3 : Int) (l0_4 : List Int) (l0_5 : List Int) (l0_6 : List ByteArray) (a0_7 : Int) : Option (ByteArray) := (some (([a0_0, a0_1, a0_2, a0_3, (l0_4.length : Int)] : List Int) : List Int)).bind fun y423 => (if (l0_4.length : Int) > 7 then (spec_ShowBlock.j0 k y423 true a0_0 a0_1 a0_2 a0_3 l0_4 l0_5 l0_6 a0_7) else (spec_ShowBlock.j0 k y423 ((l0_4.length : Int) != (l0_5.length : Int)) a0_0 a0_1 a0_2 a0_3 l0_4 l0_5 l0_6 a0_7))
theorem spec_ShowBlock.mono_l : ∀ k, (∀ y0 y1 y2 y3 y4 y5 y6 y7 y8 y9, LeO (spec_ShowBlock.j0 k y0 y1 y2 y3 y4 y5 y6 y7 y8 y9) (spec_ShowBlock.j0 (k + 1) y0 y1 y2 y3 y4 y5 y6 y7 y8 y9)) ∧ (∀ y0 y1 y2 y3 y4 y5 y6 y7 y8 y9, LeO (spec_ShowBlock.l0 k y0 y1 y2 y3 y4 y5 y6 y7 y8 y9) (spec_ShowBlock.l0 (k + 1) y0 y1 y2 y3 y4 y5 y6 y7 y8 y9)) ∧ (∀ y0 y1 y2 y3 y4 y5 y6 y7 y8 y9 y10, LeO (spec_ShowBlock.l1 k y0 y1 y2 y3 y4 y5 y6 y7 y8 y9 y10) (spec_ShowBlock.l1 (k + 1) y0 y1 y2 y3 y4 y5 y6 y7 y8 y9 y10))
 | 0 => ⟨fun _ _ _ _ _ _ _ _ _ _ r h => by simp [spec_ShowBlock.j0] at h, fun _ _ _ _ _ _ _ _ _ _ r h => by simp [spec_ShowBlock.l0] at h, fun _ _ _ _ _ _ _ _ _ _ _ r h => by simp [spec_ShowBlock.l1] at h⟩
 | k + 1 => by
  obtain ⟨ih0, ih1, ih2⟩ := spec_ShowBlock.mono_l k
  refine ⟨?_, ?_, ?_⟩
  ·intro y0 y1 y2 y3 y4 y5 y6 y7 y8 y9
   unfold spec_ShowBlock.j0
   repeat' with_reducible first
   | exact ih0 _ _ _ _ _ _ _ _ _ _
   | exact ih1 _ _ _ _ _ _ _ _ _ _
   | exact ih2 _ _ _ _ _ _ _ _ _ _ _
   | exact spec_Texts.mono _ _
   | exact spec_l1Number.mono _ _
   | exact LeO.refl _
   | exact LeO.none _
   | refine LeO.ite ?_ ?_
   | refine LeO.bind ?_ (fun _ => ?_)
  ·intro y0 y1 y2 y3 y4 y5 y6 y7 y8 y9
   unfold spec_ShowBlock.l0
   repeat' with_reducible first
   | exact ih0 _ _ _ _ _ _ _ _ _ _
   | exact ih1 _ _ _ _ _ _ _ _ _ _
   | exact ih2 _ _ _ _ _ _ _ _ _ _ _
   | exact spec_Texts.mono _ _
   | exact spec_l1Number.mono _ _
   | exact LeO.refl _
   | exact LeO.none _
   | refine LeO.ite ?_ ?_
   | refine LeO.bind ?_ (fun _ => ?_)
  ·intro y0 y1 y2 y3 y4 y5 y6 y7 y8 y9 y10
   unfold spec_ShowBlock.l1
   repeat' with_reducible first
   | exact ih0 _ _ _ _ _ _ _ _ _ _
   | exact ih1 _ _ _ _ _ _ _ _ _ _
   | exact ih2 _ _ _ _ _ _ _ _ _ _ _
   | exact spec_Texts.mono _ _
   | exact spec_l1Number.mono _ _
   | exact LeO.refl _
   | exact LeO.none _
   | refine LeO.ite ?_ ?_
   | refine LeO.bind ?_ (fun _ => ?_)
theorem spec_ShowBlock.mono : ∀ a0 a1 a2 a3 a4 a5 a6 a7 k, LeO (spec_ShowBlock.f k a0 a1 a2 a3 a4 a5 a6 a7) (spec_ShowBlock.f (k + 1) a0 a1 a2 a3 a4 a5 a6 a7) := by
 intro a0 a1 a2 a3 a4 a5 a6 a7 k
 obtain ⟨ih0, ih1, ih2⟩ := spec_ShowBlock.mono_l k
 unfold spec_ShowBlock.f
 repeat' with_reducible first
   | exact ih0 _ _ _ _ _ _ _ _ _ _
   | exact ih1 _ _ _ _ _ _ _ _ _ _
   | exact ih2 _ _ _ _ _ _ _ _ _ _ _
   | exact spec_Texts.mono _ _
   | exact spec_l1Number.mono _ _
   | exact LeO.refl _
   | exact LeO.none _
   | refine LeO.ite ?_ ?_
   | refine LeO.bind ?_ (fun _ => ?_)
def spec_ShowBlock.T7 : Bool × List (List Nat × List Nat) := (true, [([], []), ([], []), ([1], [1]), ([2], [2]), ([], []), ([3, 4], [3, 4]), ([5], [5]), ([], []), ([7], [7]), ([8], [8]), ([], []), ([9, 10], [9, 10]), ([11], [11]), ([6, 12], [6, 12]), ([0, 13], [0, 13]), ([14, 14, 0, 1, 2, 3, 4, 5, 6, 7, 8, 9, 10, 11, 12, 13, 14], [0, 14])])
def spec_ShowBlock.B7 : List Nat := [0, 0, 2, 6, 0, 30, 62, 0, 128, 384, 0, 1920, 3968, 8190, 16383, 32767]
theorem spec_ShowBlock.tab7 : rtab .any (opsOf Tryd.f12 7) = spec_ShowBlock.T7 := by kernel_rfl
theorem spec_ShowBlock.bits7 : waitsOk spec_ShowBlock.T7.2 spec_ShowBlock.B7 = true := by kernel_rfl
def spec_ShowBlock.T18 : Bool × List (List Nat × List Nat) := (true, [([], []), ([], []), ([0, 1], [0, 1]), ([], []), ([3], [3]), ([4, 2], [4]), ([2, 5, 5], [2, 5]), ([6], [6]), ([7, 6, 0, 1, 2, 3, 4, 5, 6, 7], [7])])
def spec_ShowBlock.B18 : List Nat := [0, 0, 3, 0, 8, 31, 63, 127, 255]
theorem spec_ShowBlock.tab18 : rtab .any (opsOf Tryd.f12 18) = spec_ShowBlock.T18 := by kernel_rfl
theorem spec_ShowBlock.bits18 : waitsOk spec_ShowBlock.T18.2 spec_ShowBlock.B18 = true := by kernel_rfl
set_option maxHeartbeats 8000000 in
set_option maxRecDepth 100000 in
theorem spec_ShowBlock.calls (k : Nat) (a0_0 : Int) (a0_1 : Int) (a0_2 : Int) (a0_3 : Int) (A0_4 : Option Addr) (c0_4 : Nat) (l0_4 : List Int) (A0_5 : Option Addr) (c0_5 : Nat) (l0_5 : List Int) (A0_6 : Option Addr) (c0_6 : Nat) (l0_6 : List ByteArray) (a0_7 : Int) (r : ByteArray) (w : World) (hr0_4 : Kd.C (Kd.int .i64) w A0_4 l0_4.length l0_4) (hc0_4 : l0_4.length ≤ c0_4) (hr0_5 : Kd.C (Kd.int .i64) w A0_5 l0_5.length l0_5) (hc0_5 : l0_5.length ≤ c0_5) (hr0_6 : Kd.C Kd.string w A0_6 l0_6.length l0_6) (hc0_6 : l0_6.length ≤ c0_6) (h : spec_ShowBlock.f k a0_0 a0_1 a0_2 a0_3 l0_4 l0_5 l0_6 a0_7 = some r) :
  Calls Tryd.prog 12 #[.agg #[.int .i64 a0_0, .int .i64 a0_1, .int .i64 a0_2, .int .i64 a0_3, .slice A0_4 l0_4.length c0_4, .slice A0_5 l0_5.length c0_5, .slice A0_6 l0_6.length c0_6, .int .i64 a0_7]] w fun e w' => e = .returned (.string r) ∧ Below w.heap.size w w' := by
 have hu29 := Tryd.underlying29
 have HR0_4 := Aside0.mk hr0_4
 have HC0_4 := Aside0.mk hc0_4
 clear hr0_4 hc0_4
 have HR0_5 := Aside0.mk hr0_5
 have HC0_5 := Aside0.mk hc0_5
 clear hr0_5 hc0_5
 have HR0_6 := Aside0.mk hr0_6
 have HC0_6 := Aside0.mk hc0_6
 clear hr0_6 hc0_6
 have HB := Aside0.mk (Below.refl w.heap.size w)
 have H : ((some (([a0_0, a0_1, a0_2, a0_3, (l0_4.length : Int)] : List Int) : List Int)).bind fun y423 => (if (l0_4.length : Int) > 7 then (spec_ShowBlock.j0 k y423 true a0_0 a0_1 a0_2 a0_3 l0_4 l0_5 l0_6 a0_7) else (spec_ShowBlock.j0 k y423 ((l0_4.length : Int) != (l0_5.length : Int)) a0_0 a0_1 a0_2 a0_3 l0_4 l0_5 l0_6 a0_7))) = some r := h
 clear h
 obtain ⟨y423, hy423⟩ : ∃ y_ : List Int, y_ = (([a0_0, a0_1, a0_2, a0_3, (l0_4.length : Int)] : List Int)) := ⟨_, rfl⟩
 replace H : (if (l0_4.length : Int) > 7 then (spec_ShowBlock.j0 k y423 true a0_0 a0_1 a0_2 a0_3 l0_4 l0_5 l0_6 a0_7) else (spec_ShowBlock.j0 k y423 ((l0_4.length : Int) != (l0_5.length : Int)) a0_0 a0_1 a0_2 a0_3 l0_4 l0_5 l0_6 a0_7)) = some r := by first | (rw [hy423]; with_reducible exact H) | (have H2_ := (Option.bind_some _ _).symm.trans H; rw [hy423]; with_reducible exact H2_) | (have H2_ := (Option.bind_some _ _).symm.trans H; with_reducible exact H2_) | with_reducible exact H | (rw [hy423]; exact H) | exact H
 have Ny423 := Aside0.mk hy423
 clear hy423
 have HC2 := Aside0.mk H
 clear H
 go_enter Tryd.func12, Tryd.ntmps12
 go_upto_region 2 with (first | ((with_reducible refine gate_dst (N := 1) rfl ?_); (try (refine gate_guard (by rfl) ?_; dsimp only)); refine box_event ?hg (N := 1) ?hd (cs := #[.int .i64 a0_0, .int .i64 a0_1, .int .i64 a0_2, .int .i64 a0_3, .slice A0_4 l0_4.length c0_4, .slice A0_5 l0_5.length c0_5, .slice A0_6 l0_6.length c0_6, .int .i64 a0_7]) (t := 29) ?hr ?_; (case hd => rfl); (case hg => rfl); (case hr => first | (go_simp; done) | (go_simp; rfl)); intro gb422 hg w3 hbox hb; have BK422 := Aside0.mk (hbox); have GW422 := Aside0.mk ((by rw [hg]; exact (below_size Z0) : w.heap.size ≤ gb422)); have GE422 := Aside0.mk ((by rw [hg]; exact (below_size Z0) : w.heap.size ≤ gb422)); replace HB := Aside0.mk (below_step Z0 hb); clear hb hbox hg; have hcz4_0 : w3.cell? ⟨gb422, 0, none⟩ = some (.int .i64 a0_0) := (blk_cell BK422.out 0).trans rfl; have hcz4_1 : w3.cell? ⟨gb422, 1, none⟩ = some (.int .i64 a0_1) := (blk_cell BK422.out 1).trans rfl; have hcz4_2 : w3.cell? ⟨gb422, 2, none⟩ = some (.int .i64 a0_2) := (blk_cell BK422.out 2).trans rfl; have hcz4_3 : w3.cell? ⟨gb422, 3, none⟩ = some (.int .i64 a0_3) := (blk_cell BK422.out 3).trans rfl; have hcz4_4 : w3.cell? ⟨gb422, 4, none⟩ = some (.slice A0_4 l0_4.length c0_4) := (blk_cell BK422.out 4).trans rfl; have hcz4_5 : w3.cell? ⟨gb422, 5, none⟩ = some (.slice A0_5 l0_5.length c0_5) := (blk_cell BK422.out 5).trans rfl; have hcz4_6 : w3.cell? ⟨gb422, 6, none⟩ = some (.slice A0_6 l0_6.length c0_6) := (blk_cell BK422.out 6).trans rfl; have hcz4_7 : w3.cell? ⟨gb422, 7, none⟩ = some (.int .i64 a0_7) := (blk_cell BK422.out 7).trans rfl; have hfz4_0 := blk_frozen BK422.out 0; have hfz4_1 := blk_frozen BK422.out 1; have hfz4_2 := blk_frozen BK422.out 2; have hfz4_3 := blk_frozen BK422.out 3; have hfz4_4 := blk_frozen BK422.out 4; have hfz4_5 := blk_frozen BK422.out 5; have hfz4_6 := blk_frozen BK422.out 6; have hfz4_7 := blk_frozen BK422.out 7) | ((with_reducible refine gate_dst (N := 22) rfl ?_); (try (refine gate_guard (by rfl) ?_; dsimp only)); refine Kd.R_lit (Kd.int .i64) _ 2 ?hg (N := 22) ?hd (xs := ([a0_0, a0_1, a0_2, a0_3, (l0_4.length : Int)] : List Int)) (inner := [.int .i64 a0_0, .int .i64 a0_1, .int .i64 a0_2, .int .i64 a0_3, .int .i64 (l0_4.length : Int)]) (ok := fun _ => True) (okp := fun _ => True) ?hr ?hp (fun _ hk => hk) trivial (Below.refl _ _) (Nat.le_refl _) (by simp) ?_; (case hd => rfl); (case hg => rfl); (case hr => first | (go_simp; done) | (go_simp; rfl)); (case hp => exact (Reps.one (show Kd.M (Kd.int .i64) _ _ _ a0_0 [.int .i64 a0_0] from rfl) (Reps.one (show Kd.M (Kd.int .i64) _ _ _ a0_1 [.int .i64 a0_1] from rfl) (Reps.one (show Kd.M (Kd.int .i64) _ _ _ a0_2 [.int .i64 a0_2] from rfl) (Reps.one (show Kd.M (Kd.int .i64) _ _ _ a0_3 [.int .i64 a0_3] from rfl) (Reps.one (show Kd.M (Kd.int .i64) _ _ _ (l0_4.length : Int) [.int .i64 (l0_4.length : Int)] from rfl) (Reps.none _ _))))))); intro v424 w5 ho6 hb hg_ hnew_; clear hg_ hnew_; (first | rw [← Ny423.out] at ho6 | (simp only [Int.reduceToNat] at ho6; rw [← Ny423.out] at ho6)); have HO425 := Aside0.mk (Kd.R_lower ho6 (below_size Z5)); replace BK422 := Aside0.mk (blk_below (g := gb422) (o := .cells #[.int .i64 a0_0, .int .i64 a0_1, .int .i64 a0_2, .int .i64 a0_3, .slice A0_4 l0_4.length c0_4, .slice A0_5 l0_5.length c0_5, .slice A0_6 l0_6.length c0_6, .int .i64 a0_7] 29 (0, 0)) Z17 hb); replace HB := Aside0.mk (below_step Z5 hb); clear hb ho6))
 (try simp only [Act.put, List.setIfInBounds_toArray, List.set_cons_zero, List.set_cons_succ])
 go_cut [38] (fun v38 wc => ∃ (kq : Nat) (x38_1 : Bool), v38 = .bool x38_1 ∧ Aside0 (spec_ShowBlock.j0 kq y423 x38_1 a0_0 a0_1 a0_2 a0_3 l0_4 l0_5 l0_6 a0_7 = some r) ∧ Aside0 (kq ≤ k) ∧ Aside0 (Kd.R (Kd.int .i64) 2 wc w.heap.size (fun _ => True) v424 y423) ∧ Aside0 (wc.heap[gb422]? = some (.cells #[.int .i64 a0_0, .int .i64 a0_1, .int .i64 a0_2, .int .i64 a0_3, (.slice A0_4 l0_4.length c0_4), (.slice A0_5 l0_5.length c0_5), (.slice A0_6 l0_6.length c0_6), .int .i64 a0_7] 29 (0, 0))) ∧ Aside0 (Below w.heap.size w wc))
 case first =>
  have H := HC2.out
  clear HC2
  by_cases c7 : (l0_4.length : Int) > 7
  ·rw [if_pos c7] at H
   have c7b0 : decide (7 < (l0_4.length : Int)) = true := decide_eq_true c7
   have c7b1 : decide (7 < l0_4.length) = true := decide_eq_true (by omega)
   clear c7
   (first | rw [c7b0] | (simp only [i64_w, i32_w]; rw [c7b0]) | skip)
   have H' := Aside0.mk H
   clear H
   have hcz8_0 : w5.cell? ⟨gb422, 0, none⟩ = some (.int .i64 a0_0) := (blk_cell BK422.out 0).trans rfl
   have hcz8_1 : w5.cell? ⟨gb422, 1, none⟩ = some (.int .i64 a0_1) := (blk_cell BK422.out 1).trans rfl
   have hcz8_2 : w5.cell? ⟨gb422, 2, none⟩ = some (.int .i64 a0_2) := (blk_cell BK422.out 2).trans rfl
   have hcz8_3 : w5.cell? ⟨gb422, 3, none⟩ = some (.int .i64 a0_3) := (blk_cell BK422.out 3).trans rfl
   have hcz8_4 : w5.cell? ⟨gb422, 4, none⟩ = some (.slice A0_4 l0_4.length c0_4) := (blk_cell BK422.out 4).trans rfl
   have hcz8_5 : w5.cell? ⟨gb422, 5, none⟩ = some (.slice A0_5 l0_5.length c0_5) := (blk_cell BK422.out 5).trans rfl
   have hcz8_6 : w5.cell? ⟨gb422, 6, none⟩ = some (.slice A0_6 l0_6.length c0_6) := (blk_cell BK422.out 6).trans rfl
   have hcz8_7 : w5.cell? ⟨gb422, 7, none⟩ = some (.int .i64 a0_7) := (blk_cell BK422.out 7).trans rfl
   have hfz8_0 := blk_frozen BK422.out 0
   have hfz8_1 := blk_frozen BK422.out 1
   have hfz8_2 := blk_frozen BK422.out 2
   have hfz8_3 := blk_frozen BK422.out 3
   have hfz8_4 := blk_frozen BK422.out 4
   have hfz8_5 := blk_frozen BK422.out 5
   have hfz8_6 := blk_frozen BK422.out 6
   have hfz8_7 := blk_frozen BK422.out 7
   go_wp2
   go_meet
   case rel => exact ⟨_, (true), Z4, H', ⟨J32⟩, ⟨(by (with_reducible repeat (first | apply Kd.R_alloc | apply Kd.R_drewN | apply Kd.R_drew)); exact HO425.out)⟩, ⟨J27⟩, ⟨J12⟩⟩
  ·rw [if_neg c7] at H
   have c7b0 : decide (7 < (l0_4.length : Int)) = false := decide_eq_false c7
   have c7b1 : decide (7 < l0_4.length) = false := decide_eq_false (by omega)
   clear c7
   (first | rw [c7b0] | (simp only [i64_w, i32_w]; rw [c7b0]) | skip)
   have H' := Aside0.mk H
   clear H
   have hcz9_0 : w5.cell? ⟨gb422, 0, none⟩ = some (.int .i64 a0_0) := (blk_cell BK422.out 0).trans rfl
   have hcz9_1 : w5.cell? ⟨gb422, 1, none⟩ = some (.int .i64 a0_1) := (blk_cell BK422.out 1).trans rfl
   have hcz9_2 : w5.cell? ⟨gb422, 2, none⟩ = some (.int .i64 a0_2) := (blk_cell BK422.out 2).trans rfl
   have hcz9_3 : w5.cell? ⟨gb422, 3, none⟩ = some (.int .i64 a0_3) := (blk_cell BK422.out 3).trans rfl
   have hcz9_4 : w5.cell? ⟨gb422, 4, none⟩ = some (.slice A0_4 l0_4.length c0_4) := (blk_cell BK422.out 4).trans rfl
   have hcz9_5 : w5.cell? ⟨gb422, 5, none⟩ = some (.slice A0_5 l0_5.length c0_5) := (blk_cell BK422.out 5).trans rfl
   have hcz9_6 : w5.cell? ⟨gb422, 6, none⟩ = some (.slice A0_6 l0_6.length c0_6) := (blk_cell BK422.out 6).trans rfl
   have hcz9_7 : w5.cell? ⟨gb422, 7, none⟩ = some (.int .i64 a0_7) := (blk_cell BK422.out 7).trans rfl
   have hfz9_0 := blk_frozen BK422.out 0
   have hfz9_1 := blk_frozen BK422.out 1
   have hfz9_2 := blk_frozen BK422.out 2
   have hfz9_3 := blk_frozen BK422.out 3
   have hfz9_4 := blk_frozen BK422.out 4
   have hfz9_5 := blk_frozen BK422.out 5
   have hfz9_6 := blk_frozen BK422.out 6
   have hfz9_7 := blk_frozen BK422.out 7
   go_wp2
   go_meet
   case rel => exact ⟨_, (((l0_4.length : Int) != (l0_5.length : Int))), Z4, H', ⟨J32⟩, ⟨(by (with_reducible repeat (first | apply Kd.R_alloc | apply Kd.R_drewN | apply Kd.R_drew)); exact HO425.out)⟩, ⟨J27⟩, ⟨J12⟩⟩
 case rest =>
  clear HC2
  try clear c1
  try clear p2
  try clear c7
  try clear c7b0
  try clear c7b1
  try clear hcz4_0
  try clear hcz4_1
  try clear hcz4_2
  try clear hcz4_3
  try clear hcz4_4
  try clear hcz4_5
  try clear hcz4_6
  try clear hcz4_7
  try clear hcz8_0
  try clear hcz8_1
  try clear hcz8_2
  try clear hcz8_3
  try clear hcz8_4
  try clear hcz8_5
  try clear hcz8_6
  try clear hcz8_7
  try clear hcz9_0
  try clear hcz9_1
  try clear hcz9_2
  try clear hcz9_3
  try clear hcz9_4
  try clear hcz9_5
  try clear hcz9_6
  try clear hcz9_7
  try clear hfz4_0
  try clear hfz4_1
  try clear hfz4_2
  try clear hfz4_3
  try clear hfz4_4
  try clear hfz4_5
  try clear hfz4_6
  try clear hfz4_7
  try clear hfz8_0
  try clear hfz8_1
  try clear hfz8_2
  try clear hfz8_3
  try clear hfz8_4
  try clear hfz8_5
  try clear hfz8_6
  try clear hfz8_7
  try clear hfz9_0
  try clear hfz9_1
  try clear hfz9_2
  try clear hfz9_3
  try clear hfz9_4
  try clear hfz9_5
  try clear hfz9_6
  try clear hfz9_7
  obtain ⟨kq, x38_1, rfl, HA, HJ1, HO_3, BK422, HB⟩ := hcut
  cases kq with
  | zero => exact absurd HA.out (by simp [spec_ShowBlock.j0])
  | succ kj1 =>
   have H := HA.out
   clear HA
   simp only [spec_ShowBlock.j0] at H
   by_cases c10 : x38_1 = true
   ·subst c10
    have H1 : (some (⟨#[]⟩ : ByteArray)) = some r := by rw [if_pos rfl] at H; exact H
    clear H
    have H := H1
    clear H1
    obtain rfl := Option.some.inj H
    go_wp2
    go_ret
    exact ⟨J0, J12⟩
   ·replace c10 := Bool.eq_false_iff.mpr c10
    subst c10
    have H1 : (spec_ShowBlock.l0 kj1 y423 0 a0_0 a0_1 a0_2 a0_3 l0_4 l0_5 l0_6 a0_7) = some r := by rw [if_neg (show ¬ (false = true) by decide)] at H; exact H
    clear H
    have H := H1
    clear H1
    have H' := Aside0.mk H
    clear H
    go_wp2
    go_loopg [3, 4] kj1 (fun kq v3 v4 w' => ∃ (x3_2 : List Int) (x4_2 : Int), v4 = .int .i64 x4_2 ∧ Aside0 (spec_ShowBlock.l0 kq x3_2 x4_2 a0_0 a0_1 a0_2 a0_3 l0_4 l0_5 l0_6 a0_7 = some r) ∧ Aside0 (kq ≤ kj1) ∧ Aside0 (Kd.R (Kd.int .i64) 2 w' w.heap.size (fun _ => True) v3 x3_2) ∧ Aside0 (w'.heap[gb422]? = some (.cells #[.int .i64 a0_0, .int .i64 a0_1, .int .i64 a0_2, .int .i64 a0_3, (.slice A0_4 l0_4.length c0_4), (.slice A0_5 l0_5.length c0_5), (.slice A0_6 l0_6.length c0_6), .int .i64 a0_7] 29 (0, 0))) ∧ Aside0 (Below w.heap.size w w'))
    case atStart => exact ⟨(y423), (0), Z4, H', ⟨Nat.le_refl _⟩, ⟨J23⟩, ⟨J27⟩, ⟨J12⟩⟩
    case round =>
     clear H'
     try clear c1
     try clear p2
     try clear c7
     try clear c7b0
     try clear c7b1
     try clear c10
     try clear hcz4_0
     try clear hcz4_1
     try clear hcz4_2
     try clear hcz4_3
     try clear hcz4_4
     try clear hcz4_5
     try clear hcz4_6
     try clear hcz4_7
     try clear hcz8_0
     try clear hcz8_1
     try clear hcz8_2
     try clear hcz8_3
     try clear hcz8_4
     try clear hcz8_5
     try clear hcz8_6
     try clear hcz8_7
     try clear hcz9_0
     try clear hcz9_1
     try clear hcz9_2
     try clear hcz9_3
     try clear hcz9_4
     try clear hcz9_5
     try clear hcz9_6
     try clear hcz9_7
     try clear hfz4_0
     try clear hfz4_1
     try clear hfz4_2
     try clear hfz4_3
     try clear hfz4_4
     try clear hfz4_5
     try clear hfz4_6
     try clear hfz4_7
     try clear hfz8_0
     try clear hfz8_1
     try clear hfz8_2
     try clear hfz8_3
     try clear hfz8_4
     try clear hfz8_5
     try clear hfz8_6
     try clear hfz8_7
     try clear hfz9_0
     try clear hfz9_1
     try clear hfz9_2
     try clear hfz9_3
     try clear hfz9_4
     try clear hfz9_5
     try clear hfz9_6
     try clear hfz9_7
     try clear p2
     obtain ⟨x3_2, x4_2, rfl, HA, HK2, HO_3, BK422, HB⟩ := hrel
     cases gk with
     | zero => exact absurd HA.out (by simp [spec_ShowBlock.l0])
     | succ k2 =>
      have H := HA.out
      clear HA
      simp only [spec_ShowBlock.l0] at H
      by_cases c11 : x4_2 < (l0_4.length : Int)
      ·rw [if_pos c11] at H
       have c11b0 : decide (x4_2 < (l0_4.length : Int)) = true := decide_eq_true c11
       clear c11
       by_cases c12 : 0 ≤ x4_2
       ·rw [if_pos c12] at H
        have c12b0 : decide (0 ≤ x4_2) = true := decide_eq_true c12
        clear c12
        by_cases c13 : x4_2 < (l0_5.length : Int)
        ·rw [if_pos c13] at H
         have c13b0 : decide (x4_2 < (l0_5.length : Int)) = true := decide_eq_true c13
         clear c13
         obtain ⟨y428, hy428⟩ : ∃ y_ : List Int, y_ = (([rd l0_4 x4_2, rd l0_5 x4_2] : List Int)) := ⟨_, rfl⟩
         replace H : (if x3_2.length + y428.length < 17592186044416 then (spec_ShowBlock.l0 k2 (x3_2 ++ y428) (wrap64 (x4_2 + 1)) a0_0 a0_1 a0_2 a0_3 l0_4 l0_5 l0_6 a0_7) else (none)) = some r := by first | (rw [hy428]; with_reducible exact H) | (have H2_ := (Option.bind_some _ _).symm.trans H; rw [hy428]; with_reducible exact H2_) | (have H2_ := (Option.bind_some _ _).symm.trans H; with_reducible exact H2_) | with_reducible exact H | (rw [hy428]; exact H) | exact H
         have Ny428 := Aside0.mk hy428
         clear hy428
         by_cases c14 : x3_2.length + y428.length < 17592186044416
         ·rw [if_pos c14] at H
          have LMc14 := Aside0.mk c14
          clear c14
          obtain ⟨y431, hy431⟩ : ∃ y_ : List Int, y_ = (x3_2 ++ y428) := ⟨_, rfl⟩
          replace H : (spec_ShowBlock.l0 k2 y431 (wrap64 (x4_2 + 1)) a0_0 a0_1 a0_2 a0_3 l0_4 l0_5 l0_6 a0_7) = some r := by first | (rw [hy431]; with_reducible exact H) | (have H2_ := (Option.bind_some _ _).symm.trans H; rw [hy431]; with_reducible exact H2_) | (have H2_ := (Option.bind_some _ _).symm.trans H; with_reducible exact H2_) | with_reducible exact H | (rw [hy431]; exact H) | exact H
          have Ny431 := Aside0.mk hy431
          clear hy431
          have H' := Aside0.mk H
          clear H
          have hcz15_0 : wr.cell? ⟨gb422, 0, none⟩ = some (.int .i64 a0_0) := (blk_cell BK422.out 0).trans rfl
          have hcz15_1 : wr.cell? ⟨gb422, 1, none⟩ = some (.int .i64 a0_1) := (blk_cell BK422.out 1).trans rfl
          have hcz15_2 : wr.cell? ⟨gb422, 2, none⟩ = some (.int .i64 a0_2) := (blk_cell BK422.out 2).trans rfl
          have hcz15_3 : wr.cell? ⟨gb422, 3, none⟩ = some (.int .i64 a0_3) := (blk_cell BK422.out 3).trans rfl
          have hcz15_4 : wr.cell? ⟨gb422, 4, none⟩ = some (.slice A0_4 l0_4.length c0_4) := (blk_cell BK422.out 4).trans rfl
          have hcz15_5 : wr.cell? ⟨gb422, 5, none⟩ = some (.slice A0_5 l0_5.length c0_5) := (blk_cell BK422.out 5).trans rfl
          have hcz15_6 : wr.cell? ⟨gb422, 6, none⟩ = some (.slice A0_6 l0_6.length c0_6) := (blk_cell BK422.out 6).trans rfl
          have hcz15_7 : wr.cell? ⟨gb422, 7, none⟩ = some (.int .i64 a0_7) := (blk_cell BK422.out 7).trans rfl
          have hfz15_0 := blk_frozen BK422.out 0
          have hfz15_1 := blk_frozen BK422.out 1
          have hfz15_2 := blk_frozen BK422.out 2
          have hfz15_3 := blk_frozen BK422.out 3
          have hfz15_4 := blk_frozen BK422.out 4
          have hfz15_5 := blk_frozen BK422.out 5
          have hfz15_6 := blk_frozen BK422.out 6
          have hfz15_7 := blk_frozen BK422.out 7
          try go_wp2
          replace HO_3 := Aside0.mk (Kd.R_drew HO_3.out)
          replace BK422 := Aside0.mk (blk_drew BK422.out)
          replace HB := Aside0.mk (below_drew1 HB.out)
          have p426 : 0 ≤ (x4_2 : Int) := od_
          have q426 : x4_2 < (l0_4.length : Int) := od_
          obtain ⟨ad426, e426, hx426_0⟩ := Kd.at_int HR0_4.out x4_2 p426 q426
          have hw426_0 := hx426_0
          cases e426
          replace hx426_0 := (HB.out.cell (World.block_lt_of_cell? w _ hx426_0)).trans hx426_0
          replace p426 := eq_true p426
          replace q426 := eq_true q426
          have p427 : 0 ≤ (x4_2 : Int) := od_
          have q427 : x4_2 < (l0_5.length : Int) := od_
          obtain ⟨ad427, e427, hx427_0⟩ := Kd.at_int HR0_5.out x4_2 p427 q427
          have hw427_0 := hx427_0
          cases e427
          replace hx427_0 := (HB.out.cell (World.block_lt_of_cell? w _ hx427_0)).trans hx427_0
          replace p427 := eq_true p427
          replace q427 := eq_true q427
          refine start_ (n := 16) (S := fun w' => w'.cell? ⟨gb422, 0, none⟩ = some (.int .i64 a0_0) ∧ w'.cell? ⟨gb422, 1, none⟩ = some (.int .i64 a0_1) ∧ w'.cell? ⟨gb422, 2, none⟩ = some (.int .i64 a0_2) ∧ w'.cell? ⟨gb422, 3, none⟩ = some (.int .i64 a0_3) ∧ w'.cell? ⟨gb422, 4, none⟩ = some (.slice (some ad426) l0_4.length c0_4) ∧ w'.cell? ⟨gb422, 5, none⟩ = some (.slice (some ad427) l0_5.length c0_5) ∧ w'.cell? ⟨gb422, 6, none⟩ = some (.slice A0_6 l0_6.length c0_6) ∧ w'.cell? ⟨gb422, 7, none⟩ = some (.int .i64 a0_7) ∧ w'.cell? (ad426.add (x4_2).toNat) = some (.int .i64 (rd l0_4 x4_2)) ∧ w'.cell? (ad427.add (x4_2).toNat) = some (.int .i64 (rd l0_5 x4_2))) (ds := []) (bA 16 0) (by kernel_rfl) rfl rfl ⟨(blk_cell BK422.out 0).trans rfl, (blk_cell BK422.out 1).trans rfl, (blk_cell BK422.out 2).trans rfl, (blk_cell BK422.out 3).trans rfl, (blk_cell BK422.out 4).trans rfl, (blk_cell BK422.out 5).trans rfl, (blk_cell BK422.out 6).trans rfl, (blk_cell BK422.out 7).trans rfl, ((HB.out.cell (World.block_lt_of_cell? w _ hw426_0)).trans hw426_0), ((HB.out.cell (World.block_lt_of_cell? w _ hw427_0)).trans hw427_0)⟩ (fun hHeld => ?_); refine with_tabW spec_ShowBlock.tab7 spec_ShowBlock.bits7 (fun HT_ HW_ => ?_)
          generalize wr.drew = w16 at HO_3 BK422 HB hx426_0 hx427_0 hHeld ⊢
          refine pv (i := 0) (N := some 47) (bA 16 1) rfl rfl J13 ?_
          refine pv (i := 1) (N := some 48) (bA 16 3) rfl rfl J13 ?_
          refine pv (i := 2) (N := some 49) (bA 16 7) rfl rfl J13 ?_
          refine pv (i := 4) (N := some 51) (bA 16 23) rfl rfl J13 ?_
          refine pv (i := 7) (N := some 54) (bA 16 151) rfl rfl J13 ?_
          refine pv (i := 8) (N := some 55) (bA 16 407) rfl rfl J13 ?_
          refine pv (i := 10) (N := some 57) (bA 16 1431) rfl rfl J13 ?_
          refine take_ (i := 3) (N := some 50) (v := ?_) (a' := ?_) (bA 16 1439) rfl rfl J28 (fun _ _ _ h => h) (Or.inl ⟨(by rfl), ?_⟩) hHeld ?_ ?_
          rotate_left
          ·rintro w' ⟨s0, s1, s2, s3, s4, s5, s6, s7, s8, s9⟩
           go_simp
           with_reducible rfl
          rotate_left
          ·simp only [sp_]
           rfl
          refine pv (i := 5) (N := some 52) (bA 16 1471) rfl rfl J13 ?_
          refine take_ (i := 6) (N := some 53) (v := ?_) (a' := ?_) (bA 16 1535) rfl rfl J28 (fun _ _ _ h => h) (Or.inl ⟨(by rfl), ?_⟩) hHeld ?_ ?_
          rotate_left
          ·rintro w' ⟨s0, s1, s2, s3, s4, s5, s6, s7, s8, s9⟩
           go_simp
           with_reducible rfl
          rotate_left
          ·simp only [sp_]
           rfl
          refine take_ (i := 9) (N := some 56) (v := ?_) (a' := ?_) (bA 16 2047) rfl rfl J28 (fun _ _ _ h => h) (Or.inl ⟨(by rfl), ?_⟩) hHeld ?_ ?_
          rotate_left
          ·rintro w' ⟨s0, s1, s2, s3, s4, s5, s6, s7, s8, s9⟩
           go_simp
           with_reducible rfl
          rotate_left
          ·simp only [sp_]
           rfl
          refine pv (i := 11) (N := some 58) (bA 16 4095) rfl rfl J13 ?_
          refine take_ (i := 12) (N := some 59) (v := ?_) (a' := ?_) (bA 16 8191) rfl rfl J28 (fun _ _ _ h => h) (Or.inl ⟨(by rfl), ?_⟩) hHeld ?_ ?_
          rotate_left
          ·rintro w' ⟨s0, s1, s2, s3, s4, s5, s6, s7, s8, s9⟩
           go_simp
           with_reducible rfl
          rotate_left
          ·simp only [sp_]
           rfl
          refine one_ (i := 13) (N := some 60) (bA 16 16383) rfl rfl (one_of HT_.out (by kernel_rfl)) (by decide) (fun K hK => ?_)
          refine Kd.R_lit_step (Kd.int .i64) _ 2 ?hg (N := 60) ?hd (xs := ([rd l0_4 x4_2, rd l0_5 x4_2] : List Int)) (inner := [.int .i64 (rd l0_4 x4_2), .int .i64 (rd l0_5 x4_2)]) (ok := fun _ => True) (okp := fun _ => True) ?hr ?hp (fun _ hk => hk) trivial (Below.refl _ _) (Nat.le_refl _) (by simp) ?_; (case hd => rfl); (case hg => rfl); (case hr => first | (go_simp; done) | (go_simp; rfl)); (case hp => exact (Reps.one (show Kd.M (Kd.int .i64) _ _ _ (rd l0_4 x4_2) [.int .i64 (rd l0_4 x4_2)] from rfl) (Reps.one (show Kd.M (Kd.int .i64) _ _ _ (rd l0_5 x4_2) [.int .i64 (rd l0_5 x4_2)] from rfl) (Reps.none _ _))))
          intro v429 w17 ho18 hb hg_ hnew_
          clear hg_ hnew_
          (first | rw [← Ny428.out] at ho18 | (simp only [Int.reduceToNat] at ho18; rw [← Ny428.out] at ho18))
          have HO430 := Aside0.mk (Kd.R_lower (Kd.R_new' ho18 (Kd.R_lt Z7)) (below_size Z5))
          replace HO_3 := Aside0.mk (Kd.R_elder' Z7 (Kd.R_base ho18) hb)
          replace BK422 := Aside0.mk (blk_below (g := gb422) (o := .cells #[.int .i64 a0_0, .int .i64 a0_1, .int .i64 a0_2, .int .i64 a0_3, .slice (some ad426) l0_4.length c0_4, .slice (some ad427) l0_5.length c0_5, .slice A0_6 l0_6.length c0_6, .int .i64 a0_7] 29 (0, 0)) Z17 hb)
          replace HB := Aside0.mk (below_step Z5 hb)
          clear hb ho18
          obtain ⟨Ao20, co20, eo20⟩ := Kd.R_slice HO430.out
          (first | subst eo20 | (injection eo20 with f1_ f2_ f3_; have f4_ := f1_.symm; have f5_ := f3_.symm; clear f1_ f2_ f3_; subst f4_; subst f5_))
          refine hK.out _ _ ⟨(blk_cell BK422.out 0).trans rfl, (blk_cell BK422.out 1).trans rfl, (blk_cell BK422.out 2).trans rfl, (blk_cell BK422.out 3).trans rfl, (blk_cell BK422.out 4).trans rfl, (blk_cell BK422.out 5).trans rfl, (blk_cell BK422.out 6).trans rfl, (blk_cell BK422.out 7).trans rfl, ((HB.out.cell (World.block_lt_of_cell? w _ hw426_0)).trans hw426_0), ((HB.out.cell (World.block_lt_of_cell? w _ hw427_0)).trans hw427_0)⟩ (fun hHeld => ?_)
          clear hK K
          refine norm_ (a' := ?_) ?_ ?_
          rotate_left
          ·show Act.put _ (some 60) _ = _
           simp only [sp_]
           rfl
          refine one_ (i := 14) (N := some 61) (bA 16 32767) rfl rfl (one_of HT_.out (by kernel_rfl)) (by decide) (fun K hK => ?_)
          refine Kd.R_append_rows_step (Kd.int .i64) (w0 := w) w.heap.size (by rfl) (.tmp 47) (.tmp 60) 24 2 (.int .i64 0) 8 rfl Tryd.underlying24 info2 rfl (by decide) (by omega) u3 x3_2 y428 _ _ _ (fun k_ => some k_ ≠ (.slice Ao20 y428.length co20 : Value).ownBlock) (fun _ => False) rfl rfl ?aO ?aR (fun _ _ h => h) (fun _ h => h.elim) ?aF ?aB ?aS ?aL ?_
          (case aR => repeat (first | exact (Kd.R_reads' HO430.out).2.2 | (with_reducible refine Kd.C_alloc ?_ _) | (with_reducible refine Kd.C_drewN ?_ _) | (with_reducible refine Kd.C_drew ?_)))
          (case aB => exact Z5)
          (case aF => exact (fun k_ hk => Kd.fresh' (Kd.R_lt (by (with_reducible repeat (first | apply Kd.R_alloc | apply Kd.R_drewN | apply Kd.R_drew)); exact HO430.out)) k_ hk))
          (case aO => exact Z35)
          (case aS => exact (below_size Z5))
          (case aL => have := LMc14.out; omega)
          intro v432 w19 ho hb hg hat
          rw [← Ny431.out] at ho
          replace BK422 := Aside0.mk (blk_grown (g := gb422) (o := .cells #[.int .i64 a0_0, .int .i64 a0_1, .int .i64 a0_2, .int .i64 a0_3, .slice (some ad426) l0_4.length c0_4, .slice (some ad427) l0_5.length c0_5, .slice A0_6 l0_6.length c0_6, .int .i64 a0_7] 29 (0, 0)) Z17 hg (Kd.R_ne HO_3.out BK422.out (by decide)))
          replace HO430 := Aside0.mk (Kd.R_after (ok := (fun _ => True)) (by (with_reducible repeat (first | apply Kd.R_alloc | apply Kd.R_drewN | apply Kd.R_drew)); exact HO430.out) hg hat)
          replace HB := Aside0.mk (hb)
          have HO433 := Aside0.mk (ho)
          clear HO_3
          clear ho hb hg hat
          refine hK.out _ _ ⟨(blk_cell BK422.out 0).trans rfl, (blk_cell BK422.out 1).trans rfl, (blk_cell BK422.out 2).trans rfl, (blk_cell BK422.out 3).trans rfl, (blk_cell BK422.out 4).trans rfl, (blk_cell BK422.out 5).trans rfl, (blk_cell BK422.out 6).trans rfl, (blk_cell BK422.out 7).trans rfl, ((HB.out.cell (World.block_lt_of_cell? w _ hw426_0)).trans hw426_0), ((HB.out.cell (World.block_lt_of_cell? w _ hw427_0)).trans hw427_0)⟩ (fun hHeld => ?_)
          clear hK K
          refine norm_ (a' := ?_) ?_ ?_
          rotate_left
          ·show Act.put _ (some 61) _ = _
           simp only [sp_]
           rfl
          refine pv (i := 15) (N := some 3) (bA 16 65535) rfl rfl J13 ?_
          refine done_ (done_of HT_.out (by kernel_rfl)) ?_
          try go_wp2
          go_roundg k2
          case measure => have := HJ1.out; have := HK2.out; omega
          case rel => exact ⟨(y431), (wrap64 (x4_2 + 1)), Z4, H', ⟨(by have := HJ1.out; have := HK2.out; omega)⟩, ⟨(by (with_reducible repeat (first | apply Kd.R_alloc | apply Kd.R_drewN | apply Kd.R_drew)); exact Kd.R_mono HO433.out (fun _ hk => trivial))⟩, ⟨J27⟩, ⟨J12⟩⟩
         ·rw [if_neg c14] at H
          exact absurd H (by simp)
        ·rw [if_neg c13] at H
         exact absurd H (by simp)
       ·rw [if_neg c12] at H
        exact absurd H (by simp)
      ·rw [if_neg c11] at H
       have c11b0 : decide (x4_2 < (l0_4.length : Int)) = false := decide_eq_false c11
       clear c11
       obtain ⟨y434, hy434⟩ : ∃ y_ : List Int, y_ = (([] : List Int)) := ⟨_, rfl⟩
       replace H : (spec_ShowBlock.l1 k2 x3_2 y434 0 a0_0 a0_1 a0_2 a0_3 l0_4 l0_5 l0_6 a0_7) = some r := by first | (rw [hy434]; with_reducible exact H) | (have H2_ := (Option.bind_some _ _).symm.trans H; rw [hy434]; with_reducible exact H2_) | (have H2_ := (Option.bind_some _ _).symm.trans H; with_reducible exact H2_) | with_reducible exact H | (rw [hy434]; exact H) | exact H
       have Ny434 := Aside0.mk hy434
       clear hy434
       have H' := Aside0.mk H
       clear H
       have hcz21_0 : wr.cell? ⟨gb422, 0, none⟩ = some (.int .i64 a0_0) := (blk_cell BK422.out 0).trans rfl
       have hcz21_1 : wr.cell? ⟨gb422, 1, none⟩ = some (.int .i64 a0_1) := (blk_cell BK422.out 1).trans rfl
       have hcz21_2 : wr.cell? ⟨gb422, 2, none⟩ = some (.int .i64 a0_2) := (blk_cell BK422.out 2).trans rfl
       have hcz21_3 : wr.cell? ⟨gb422, 3, none⟩ = some (.int .i64 a0_3) := (blk_cell BK422.out 3).trans rfl
       have hcz21_4 : wr.cell? ⟨gb422, 4, none⟩ = some (.slice A0_4 l0_4.length c0_4) := (blk_cell BK422.out 4).trans rfl
       have hcz21_5 : wr.cell? ⟨gb422, 5, none⟩ = some (.slice A0_5 l0_5.length c0_5) := (blk_cell BK422.out 5).trans rfl
       have hcz21_6 : wr.cell? ⟨gb422, 6, none⟩ = some (.slice A0_6 l0_6.length c0_6) := (blk_cell BK422.out 6).trans rfl
       have hcz21_7 : wr.cell? ⟨gb422, 7, none⟩ = some (.int .i64 a0_7) := (blk_cell BK422.out 7).trans rfl
       have hfz21_0 := blk_frozen BK422.out 0
       have hfz21_1 := blk_frozen BK422.out 1
       have hfz21_2 := blk_frozen BK422.out 2
       have hfz21_3 := blk_frozen BK422.out 3
       have hfz21_4 := blk_frozen BK422.out 4
       have hfz21_5 := blk_frozen BK422.out 5
       have hfz21_6 := blk_frozen BK422.out 6
       have hfz21_7 := blk_frozen BK422.out 7
       go_wp2_with (first | ((with_reducible refine gate_dst (N := 62) rfl ?_); (try (refine gate_guard (by rfl) ?_; dsimp only)); refine Kd.R_lit (Kd.int .u8) _ 5 ?hg (N := 62) ?hd (xs := ([] : List Int)) (inner := []) (ok := fun _ => True) (okp := fun _ => True) ?hr ?hp (fun _ hk => hk) trivial (Below.refl _ _) (Nat.le_refl _) (by simp) ?_; (case hd => rfl); (case hg => rfl); (case hr => first | (go_simp; done) | (go_simp; rfl)); (case hp => exact (Reps.none _ _)); intro v435 w22 ho23 hb hg_ hnew_; clear hg_ hnew_; (first | rw [← Ny434.out] at ho23 | (simp only [Int.reduceToNat] at ho23; rw [← Ny434.out] at ho23)); replace HO_3 := Aside0.mk (Kd.R_below Z7 hb); have HO436 := Aside0.mk (Kd.R_lower ho23 (below_size Z5)); replace BK422 := Aside0.mk (blk_below (g := gb422) (o := .cells #[.int .i64 a0_0, .int .i64 a0_1, .int .i64 a0_2, .int .i64 a0_3, .slice A0_4 l0_4.length c0_4, .slice A0_5 l0_5.length c0_5, .slice A0_6 l0_6.length c0_6, .int .i64 a0_7] 29 (0, 0)) Z17 hb); replace HB := Aside0.mk (below_step Z5 hb); clear hb ho23))
       go_loopg [5, 6] k2 (fun kq v5 v6 w' => ∃ (x5_3 : List Int) (x6_3 : Int), v6 = .int .i64 x6_3 ∧ Aside0 (spec_ShowBlock.l1 kq x3_2 x5_3 x6_3 a0_0 a0_1 a0_2 a0_3 l0_4 l0_5 l0_6 a0_7 = some r) ∧ Aside0 (kq ≤ k2) ∧ Aside0 (Kd.R (Kd.int .i64) 2 w' w.heap.size (fun _ => True) u3 x3_2) ∧ Aside0 (Kd.R (Kd.int .u8) 5 w' w.heap.size (fun _ => True) v5 x5_3) ∧ Aside0 (w'.heap[gb422]? = some (.cells #[.int .i64 a0_0, .int .i64 a0_1, .int .i64 a0_2, .int .i64 a0_3, (.slice A0_4 l0_4.length c0_4), (.slice A0_5 l0_5.length c0_5), (.slice A0_6 l0_6.length c0_6), .int .i64 a0_7] 29 (0, 0))) ∧ Aside0 (Below w.heap.size w w'))
       case atStart => exact ⟨(y434), (0), Z4, H', ⟨Nat.le_refl _⟩, ⟨J23⟩, ⟨(by (with_reducible repeat (first | apply Kd.R_alloc | apply Kd.R_drewN | apply Kd.R_drew)); exact HO436.out)⟩, ⟨J27⟩, ⟨J12⟩⟩
       case round =>
        clear H'
        try clear c1
        try clear p2
        try clear p4
        try clear q4
        try clear hx4
        try clear p6
        try clear c7
        try clear c7b0
        try clear c7b1
        try clear c10
        try clear c11
        try clear c11b0
        try clear c12
        try clear c12b0
        try clear c13
        try clear c13b0
        try clear c14
        try clear hcz15_0
        try clear hcz15_1
        try clear hcz15_2
        try clear hcz15_3
        try clear hcz15_4
        try clear hcz15_5
        try clear hcz15_6
        try clear hcz15_7
        try clear hcz21_0
        try clear hcz21_1
        try clear hcz21_2
        try clear hcz21_3
        try clear hcz21_4
        try clear hcz21_5
        try clear hcz21_6
        try clear hcz21_7
        try clear hcz4_0
        try clear hcz4_1
        try clear hcz4_2
        try clear hcz4_3
        try clear hcz4_4
        try clear hcz4_5
        try clear hcz4_6
        try clear hcz4_7
        try clear hcz8_0
        try clear hcz8_1
        try clear hcz8_2
        try clear hcz8_3
        try clear hcz8_4
        try clear hcz8_5
        try clear hcz8_6
        try clear hcz8_7
        try clear hcz9_0
        try clear hcz9_1
        try clear hcz9_2
        try clear hcz9_3
        try clear hcz9_4
        try clear hcz9_5
        try clear hcz9_6
        try clear hcz9_7
        try clear hfz15_0
        try clear hfz15_1
        try clear hfz15_2
        try clear hfz15_3
        try clear hfz15_4
        try clear hfz15_5
        try clear hfz15_6
        try clear hfz15_7
        try clear hfz21_0
        try clear hfz21_1
        try clear hfz21_2
        try clear hfz21_3
        try clear hfz21_4
        try clear hfz21_5
        try clear hfz21_6
        try clear hfz21_7
        try clear hfz4_0
        try clear hfz4_1
        try clear hfz4_2
        try clear hfz4_3
        try clear hfz4_4
        try clear hfz4_5
        try clear hfz4_6
        try clear hfz4_7
        try clear hfz8_0
        try clear hfz8_1
        try clear hfz8_2
        try clear hfz8_3
        try clear hfz8_4
        try clear hfz8_5
        try clear hfz8_6
        try clear hfz8_7
        try clear hfz9_0
        try clear hfz9_1
        try clear hfz9_2
        try clear hfz9_3
        try clear hfz9_4
        try clear hfz9_5
        try clear hfz9_6
        try clear hfz9_7
        try clear hx426_0
        try clear hx427_0
        try clear p2
        try clear p426
        try clear p427
        try clear q426
        try clear q427
        obtain ⟨x5_3, x6_3, rfl, HA, HK3, HO_3, HO_5, BK422, HB⟩ := hrel
        cases gk with
        | zero => exact absurd HA.out (by simp [spec_ShowBlock.l1])
        | succ k3 =>
         have H := HA.out
         clear HA
         simp only [spec_ShowBlock.l1] at H
         by_cases c24 : x6_3 < (x3_2.length : Int)
         ·rw [if_pos c24] at H
          have c24b0 : decide (x6_3 < (x3_2.length : Int)) = true := decide_eq_true c24
          clear c24
          by_cases c25 : 0 ≤ x6_3
          ·rw [if_pos c25] at H
           have c25b0 : decide (0 ≤ x6_3) = true := decide_eq_true c25
           clear c25
           replace H := Option.bind_eq_some_iff.mp H
           obtain ⟨t438, A260, H⟩ := H
           try dsimp only at H
           have A26 := Aside0.mk A260
           clear A260
           have HC27 := Aside0.mk H
           clear H
           obtain ⟨Ao28, co28, eo28⟩ := Kd.R_slice HO_3.out
           subst eo28
           have p437 : 0 ≤ (x6_3 : Int) := od_
           have q437 : x6_3 < (x3_2.length : Int) := od_
           obtain ⟨ad437, e437, hx437_0⟩ := Kd.at_int (Kd.R_reads' HO_3.out).2.2 x6_3 p437 q437
           cases e437
           replace p437 := eq_true p437
           replace q437 := eq_true q437
           go_upto_if 74 with (first | ((with_reducible refine gate_callee (f := 32) rfl ?_); refine goesL_ (some 73) rfl rfl Tryd.func32 (by kernel_rfl) rfl #[.int .i64 (rd x3_2 x6_3), .int .i64 0, .int .i64 1099511627776] rfl Z2 ?_; (with_reducible refine (spec_l1In.calls (rd x3_2 x6_3) 0 1099511627776 t438 _ A26.out).mono ?_); rintro e w' ⟨rfl, ⟨nd, rfl⟩⟩; refine ⟨_, rfl, ?_⟩))
           (try simp only [Act.put, List.setIfInBounds_toArray, List.set_cons_zero, List.set_cons_succ])
           (try (rw [drewN_self wr]; generalize hq_ : World.drewN wr _ = wr; replace HO_3 := Aside0.mk (Kd.R_at hq_ HO_3.out); replace HO_5 := Aside0.mk (Kd.R_at hq_ HO_5.out); replace BK422 := Aside0.mk (blk_at hq_ BK422.out); replace HB := Aside0.mk (below_at hq_ HB.out); clear hq_))
           have H := HC27.out
           clear HC27
           by_cases c29 : t438 = true
           ·subst c29
            have H1 : ((spec_l1Number.f k3 (rd x3_2 x6_3)).bind fun t440 => (if x5_3.length + t440.length < 140737488355328 then (spec_ShowBlock.l1 k3 x3_2 (x5_3 ++ t440) (wrap64 (x6_3 + 1)) a0_0 a0_1 a0_2 a0_3 l0_4 l0_5 l0_6 a0_7) else (none))) = some r := by rw [if_pos rfl] at H; exact H
            clear H
            have H := H1
            clear H1
            replace H := Option.bind_eq_some_iff.mp H
            obtain ⟨t440, A300, H⟩ := H
            try dsimp only at H
            have A30 := Aside0.mk A300
            clear A300
            by_cases c31 : x5_3.length + t440.length < 140737488355328
            ·rw [if_pos c31] at H
             have LMc31 := Aside0.mk c31
             clear c31
             obtain ⟨y443, hy443⟩ : ∃ y_ : List Int, y_ = (x5_3 ++ t440) := ⟨_, rfl⟩
             replace H : (spec_ShowBlock.l1 k3 x3_2 y443 (wrap64 (x6_3 + 1)) a0_0 a0_1 a0_2 a0_3 l0_4 l0_5 l0_6 a0_7) = some r := by first | (rw [hy443]; with_reducible exact H) | (have H2_ := (Option.bind_some _ _).symm.trans H; rw [hy443]; with_reducible exact H2_) | (have H2_ := (Option.bind_some _ _).symm.trans H; with_reducible exact H2_) | with_reducible exact H | (rw [hy443]; exact H) | exact H
             have Ny443 := Aside0.mk hy443
             clear hy443
             have H' := Aside0.mk H
             clear H
             have p439 : 0 ≤ (x6_3 : Int) := od_
             have q439 : x6_3 < (x3_2.length : Int) := od_
             obtain ⟨ad439, e439, hx439_0⟩ := Kd.at_int (Kd.R_reads' HO_3.out).2.2 x6_3 p439 q439
             obtain rfl : ad437 = ad439 := (by injection e439)
             replace p439 := eq_true p439
             replace q439 := eq_true q439
             go_wp2_with (first | ((with_reducible refine gate_callee (f := 33) rfl ?_); refine goesL_ (some 80) rfl rfl Tryd.func33 (by kernel_rfl) rfl #[.int .i64 (rd x3_2 x6_3)] rfl Z2 ?_; (with_reducible refine (spec_l1Number.calls k3 (rd x3_2 x6_3) t440 _ A30.out).mono ?_); rintro e w32 ⟨v441, rfl, ho0, hb⟩; refine ⟨_, rfl, ?_⟩; replace HO_3 := Aside0.mk (Kd.R_below Z7 hb); have HO442 := Aside0.mk (Kd.R_lower (Kd.R_new' ho0 (Kd.R_lt Z13)) (below_size Z5)); replace HO_5 := Aside0.mk (Kd.R_elder' Z13 (Kd.R_base ho0) hb); replace BK422 := Aside0.mk (blk_below (g := gb422) (o := .cells #[.int .i64 a0_0, .int .i64 a0_1, .int .i64 a0_2, .int .i64 a0_3, .slice A0_4 l0_4.length c0_4, .slice A0_5 l0_5.length c0_5, .slice A0_6 l0_6.length c0_6, .int .i64 a0_7] 29 (0, 0)) Z17 hb); replace HB := Aside0.mk (below_step Z5 hb); (try clear hb); (try clear hb2); (try clear hk); (try clear hi); (try clear ho0); obtain ⟨Ao34, co34, eo34⟩ := Kd.R_slice HO442.out; subst eo34) | ((with_reducible refine gate_builtin (b := .append) (xs := #[.tmp 75, .tmp 80]) rfl ?_); (try (refine gate_guard (by rfl) ?_; dsimp only)); at_builtin; refine Kd.R_append_rows (Kd.int .u8) (w0 := w) w.heap.size rfl (.tmp 75) (.tmp 80) 22 5 (.int .u8 0) 1 rfl Tryd.underlying22 info5 rfl (by decide) (by omega) u5 x5_3 t440 _ _ _ (fun k_ => some k_ ≠ (.slice Ao34 t440.length co34 : Value).ownBlock) (fun _ => False) rfl rfl ?aO ?aR (fun _ _ h => h) (fun _ h => h.elim) ?aF ?aB ?aS ?aL ?_; (case aR => repeat (first | exact (Kd.R_reads' HO442.out).2.2 | (with_reducible refine Kd.C_alloc ?_ _) | (with_reducible refine Kd.C_drewN ?_ _) | (with_reducible refine Kd.C_drew ?_))); (case aB => exact Z5); (case aF => exact (fun k_ hk => Kd.fresh' (Kd.R_lt (by (with_reducible repeat (first | apply Kd.R_alloc | apply Kd.R_drewN | apply Kd.R_drew)); exact HO442.out)) k_ hk)); (case aO => exact (by (with_reducible repeat (first | apply Kd.R_alloc | apply Kd.R_drewN | apply Kd.R_drew)); exact Kd.R_mono HO_5.out (fun _ hk => hk.2))); (case aS => exact (below_size Z5)); (case aL => have := LMc31.out; omega); intro v444 w33 ho hb hg hat; rw [← Ny443.out] at ho; replace HO_3 := Aside0.mk (Kd.R_over' Z7 (Kd.R_typed Z13) (by decide) hg); replace BK422 := Aside0.mk (blk_grown (g := gb422) (o := .cells #[.int .i64 a0_0, .int .i64 a0_1, .int .i64 a0_2, .int .i64 a0_3, .slice A0_4 l0_4.length c0_4, .slice A0_5 l0_5.length c0_5, .slice A0_6 l0_6.length c0_6, .int .i64 a0_7] 29 (0, 0)) Z17 hg (Kd.R_ne HO_5.out BK422.out (by decide))); replace HO442 := Aside0.mk (Kd.R_after (ok := (fun _ => True)) (by (with_reducible repeat (first | apply Kd.R_alloc | apply Kd.R_drewN | apply Kd.R_drew)); exact HO442.out) hg hat); replace HB := Aside0.mk (hb); have HO445 := Aside0.mk (ho); clear HO_5; clear ho hb hg hat))
             go_roundg k3
             case measure => have := HJ1.out; have := HK2.out; have := HK3.out; omega
             case rel => exact ⟨(y443), (wrap64 (x6_3 + 1)), Z4, H', ⟨(by have := HJ1.out; have := HK2.out; have := HK3.out; omega)⟩, ⟨J23⟩, ⟨(by (with_reducible repeat (first | apply Kd.R_alloc | apply Kd.R_drewN | apply Kd.R_drew)); exact Kd.R_mono HO445.out (fun _ hk => trivial))⟩, ⟨J27⟩, ⟨J12⟩⟩
            ·rw [if_neg c31] at H
             exact absurd H (by simp)
           ·replace c29 := Bool.eq_false_iff.mpr c29
            subst c29
            have H1 : (some (⟨#[]⟩ : ByteArray)) = some r := by rw [if_neg (show ¬ (false = true) by decide)] at H; exact H
            clear H
            have H := H1
            clear H1
            obtain rfl := Option.some.inj H
            go_wp2
            go_ret
            exact ⟨J0, J12⟩
          ·rw [if_neg c25] at H
           exact absurd H (by simp)
         ·rw [if_neg c24] at H
          have c24b0 : decide (x6_3 < (x3_2.length : Int)) = false := decide_eq_false c24
          clear c24
          replace H := Option.bind_eq_some_iff.mp H
          obtain ⟨t446, A350, H⟩ := H
          try dsimp only at H
          have A35 := Aside0.mk A350
          clear A350
          by_cases c36 : (t446.length : Int) = 0
          ·rw [if_pos c36] at H
           have c36b0 : ((t446.length : Int) == 0) = true := beq_iff_eq.mpr c36
           have c36b1 : ((t446.length : Int) != 0) = false := bne_eq_false_iff_eq.mpr c36
           clear c36
           obtain rfl := Option.some.inj H
           obtain ⟨Ao37, co37, eo37⟩ := Kd.R_slice HO_3.out
           subst eo37
           have hcz38_0 : wr.cell? ⟨gb422, 0, none⟩ = some (.int .i64 a0_0) := (blk_cell BK422.out 0).trans rfl
           have hcz38_1 : wr.cell? ⟨gb422, 1, none⟩ = some (.int .i64 a0_1) := (blk_cell BK422.out 1).trans rfl
           have hcz38_2 : wr.cell? ⟨gb422, 2, none⟩ = some (.int .i64 a0_2) := (blk_cell BK422.out 2).trans rfl
           have hcz38_3 : wr.cell? ⟨gb422, 3, none⟩ = some (.int .i64 a0_3) := (blk_cell BK422.out 3).trans rfl
           have hcz38_4 : wr.cell? ⟨gb422, 4, none⟩ = some (.slice A0_4 l0_4.length c0_4) := (blk_cell BK422.out 4).trans rfl
           have hcz38_5 : wr.cell? ⟨gb422, 5, none⟩ = some (.slice A0_5 l0_5.length c0_5) := (blk_cell BK422.out 5).trans rfl
           have hcz38_6 : wr.cell? ⟨gb422, 6, none⟩ = some (.slice A0_6 l0_6.length c0_6) := (blk_cell BK422.out 6).trans rfl
           have hcz38_7 : wr.cell? ⟨gb422, 7, none⟩ = some (.int .i64 a0_7) := (blk_cell BK422.out 7).trans rfl
           have hfz38_0 := blk_frozen BK422.out 0
           have hfz38_1 := blk_frozen BK422.out 1
           have hfz38_2 := blk_frozen BK422.out 2
           have hfz38_3 := blk_frozen BK422.out 3
           have hfz38_4 := blk_frozen BK422.out 4
           have hfz38_5 := blk_frozen BK422.out 5
           have hfz38_6 := blk_frozen BK422.out 6
           have hfz38_7 := blk_frozen BK422.out 7
           go_wp2_with (first | ((with_reducible refine gate_callee (f := 34) rfl ?_); refine goesL_ (some 84) rfl rfl Tryd.func34 (by kernel_rfl) rfl #[.slice A0_6 l0_6.length c0_6] rfl Z2 ?_; (with_reducible refine (spec_Texts.calls k3 _ _ l0_6 t446 _ ?side1 ?side2 A35.out).mono ?_); (case side1 => exact J15); (case side2 => exact HC0_6.out); rintro e w39 ⟨v447, rfl, ho0, hb⟩; refine ⟨_, rfl, ?_⟩; replace HO_3 := Aside0.mk (Kd.R_below Z7 hb); have HO448 := Aside0.mk (Kd.R_lower (Kd.R_new' ho0 (Kd.R_lt Z13)) (below_size Z5)); replace HO_5 := Aside0.mk (Kd.R_elder' Z13 (Kd.R_base ho0) hb); replace BK422 := Aside0.mk (blk_below (g := gb422) (o := .cells #[.int .i64 a0_0, .int .i64 a0_1, .int .i64 a0_2, .int .i64 a0_3, .slice A0_4 l0_4.length c0_4, .slice A0_5 l0_5.length c0_5, .slice A0_6 l0_6.length c0_6, .int .i64 a0_7] 29 (0, 0)) Z17 hb); replace HB := Aside0.mk (below_step Z5 hb); (try clear hb); (try clear hb2); (try clear hk); (try clear hi); (try clear ho0); obtain ⟨Ao40, co40, eo40⟩ := Kd.R_slice HO448.out; subst eo40))
           go_ret
           exact ⟨J0, J12⟩
          ·rw [if_neg c36] at H
           have c36b0 : ((t446.length : Int) == 0) = false := beq_eq_false_iff_ne.mpr c36
           have c36b1 : ((t446.length : Int) != 0) = true := bne_iff_ne.mpr c36
           have c36b2 : ¬ (t446 = []) := fun h_ => c36 (by rw [h_]; rfl)
           replace H := Option.bind_eq_some_iff.mp H
           obtain ⟨t449, A410, H⟩ := H
           try dsimp only at H
           have A41 := Aside0.mk A410
           clear A410
           have HC42 := Aside0.mk H
           clear H
           obtain ⟨Ao43, co43, eo43⟩ := Kd.R_slice HO_3.out
           subst eo43
           have hcz44_0 : wr.cell? ⟨gb422, 0, none⟩ = some (.int .i64 a0_0) := (blk_cell BK422.out 0).trans rfl
           have hcz44_1 : wr.cell? ⟨gb422, 1, none⟩ = some (.int .i64 a0_1) := (blk_cell BK422.out 1).trans rfl
           have hcz44_2 : wr.cell? ⟨gb422, 2, none⟩ = some (.int .i64 a0_2) := (blk_cell BK422.out 2).trans rfl
           have hcz44_3 : wr.cell? ⟨gb422, 3, none⟩ = some (.int .i64 a0_3) := (blk_cell BK422.out 3).trans rfl
           have hcz44_4 : wr.cell? ⟨gb422, 4, none⟩ = some (.slice A0_4 l0_4.length c0_4) := (blk_cell BK422.out 4).trans rfl
           have hcz44_5 : wr.cell? ⟨gb422, 5, none⟩ = some (.slice A0_5 l0_5.length c0_5) := (blk_cell BK422.out 5).trans rfl
           have hcz44_6 : wr.cell? ⟨gb422, 6, none⟩ = some (.slice A0_6 l0_6.length c0_6) := (blk_cell BK422.out 6).trans rfl
           have hcz44_7 : wr.cell? ⟨gb422, 7, none⟩ = some (.int .i64 a0_7) := (blk_cell BK422.out 7).trans rfl
           have hfz44_0 := blk_frozen BK422.out 0
           have hfz44_1 := blk_frozen BK422.out 1
           have hfz44_2 := blk_frozen BK422.out 2
           have hfz44_3 := blk_frozen BK422.out 3
           have hfz44_4 := blk_frozen BK422.out 4
           have hfz44_5 := blk_frozen BK422.out 5
           have hfz44_6 := blk_frozen BK422.out 6
           have hfz44_7 := blk_frozen BK422.out 7
           go_upto_if 93 with (first | ((with_reducible refine gate_callee (f := 34) rfl ?_); refine goesL_ (some 84) rfl rfl Tryd.func34 (by kernel_rfl) rfl #[.slice A0_6 l0_6.length c0_6] rfl Z2 ?_; (with_reducible refine (spec_Texts.calls k3 _ _ l0_6 t446 _ ?side1 ?side2 A35.out).mono ?_); (case side1 => exact J15); (case side2 => exact HC0_6.out); rintro e w45 ⟨v447, rfl, ho0, hb⟩; refine ⟨_, rfl, ?_⟩; replace HO_3 := Aside0.mk (Kd.R_below Z7 hb); have HO448 := Aside0.mk (Kd.R_lower (Kd.R_new' ho0 (Kd.R_lt Z13)) (below_size Z5)); replace HO_5 := Aside0.mk (Kd.R_elder' Z13 (Kd.R_base ho0) hb); replace BK422 := Aside0.mk (blk_below (g := gb422) (o := .cells #[.int .i64 a0_0, .int .i64 a0_1, .int .i64 a0_2, .int .i64 a0_3, .slice A0_4 l0_4.length c0_4, .slice A0_5 l0_5.length c0_5, .slice A0_6 l0_6.length c0_6, .int .i64 a0_7] 29 (0, 0)) Z17 hb); replace HB := Aside0.mk (below_step Z5 hb); (try clear hb); (try clear hb2); (try clear hk); (try clear hi); (try clear ho0); obtain ⟨Ao46, co46, eo46⟩ := Kd.R_slice HO448.out; subst eo46; have hcz47_0 : w45.cell? ⟨gb422, 0, none⟩ = some (.int .i64 a0_0) := (blk_cell BK422.out 0).trans rfl; have hcz47_1 : w45.cell? ⟨gb422, 1, none⟩ = some (.int .i64 a0_1) := (blk_cell BK422.out 1).trans rfl; have hcz47_2 : w45.cell? ⟨gb422, 2, none⟩ = some (.int .i64 a0_2) := (blk_cell BK422.out 2).trans rfl; have hcz47_3 : w45.cell? ⟨gb422, 3, none⟩ = some (.int .i64 a0_3) := (blk_cell BK422.out 3).trans rfl; have hcz47_4 : w45.cell? ⟨gb422, 4, none⟩ = some (.slice A0_4 l0_4.length c0_4) := (blk_cell BK422.out 4).trans rfl; have hcz47_5 : w45.cell? ⟨gb422, 5, none⟩ = some (.slice A0_5 l0_5.length c0_5) := (blk_cell BK422.out 5).trans rfl; have hcz47_6 : w45.cell? ⟨gb422, 6, none⟩ = some (.slice A0_6 l0_6.length c0_6) := (blk_cell BK422.out 6).trans rfl; have hcz47_7 : w45.cell? ⟨gb422, 7, none⟩ = some (.int .i64 a0_7) := (blk_cell BK422.out 7).trans rfl; have hfz47_0 := blk_frozen BK422.out 0; have hfz47_1 := blk_frozen BK422.out 1; have hfz47_2 := blk_frozen BK422.out 2; have hfz47_3 := blk_frozen BK422.out 3; have hfz47_4 := blk_frozen BK422.out 4; have hfz47_5 := blk_frozen BK422.out 5; have hfz47_6 := blk_frozen BK422.out 6; have hfz47_7 := blk_frozen BK422.out 7) | (go_at_call 32; (with_reducible refine (spec_l1In.calls a0_7 0 1099511627776 t449 _ A41.out).mono ?_); rintro e w' ⟨rfl, ⟨nd, rfl⟩⟩))
           (try simp only [Act.put, List.setIfInBounds_toArray, List.set_cons_zero, List.set_cons_succ])
           (try (rw [drewN_self w45]; generalize hq_ : World.drewN w45 _ = w45; replace HO_3 := Aside0.mk (Kd.R_at hq_ HO_3.out); replace HO_5 := Aside0.mk (Kd.R_at hq_ HO_5.out); replace HO448 := Aside0.mk (Kd.R_at hq_ HO448.out); replace BK422 := Aside0.mk (blk_at hq_ BK422.out); replace HB := Aside0.mk (below_at hq_ HB.out); clear hq_))
           have H := HC42.out
           clear HC42
           by_cases c48 : t449 = true
           ·subst c48
            have H1 : (if x5_3.length + t446.length < 140737488355328 then ((some (x5_3 ++ t446 : List Int)).bind fun y450 => ((spec_l1Number.f k3 a0_7).bind fun t453 => (if y450.length + t453.length < 140737488355328 then (some (strOfNums (y450 ++ t453))) else (none)))) else (none)) = some r := by rw [if_pos rfl] at H; exact H
            clear H
            have H := H1
            clear H1
            by_cases c49 : x5_3.length + t446.length < 140737488355328
            ·rw [if_pos c49] at H
             have LMc49 := Aside0.mk c49
             clear c49
             obtain ⟨y450, hy450⟩ : ∃ y_ : List Int, y_ = (x5_3 ++ t446) := ⟨_, rfl⟩
             replace H : ((spec_l1Number.f k3 a0_7).bind fun t453 => (if y450.length + t453.length < 140737488355328 then (some (strOfNums (y450 ++ t453))) else (none))) = some r := by first | (rw [hy450]; with_reducible exact H) | (have H2_ := (Option.bind_some _ _).symm.trans H; rw [hy450]; with_reducible exact H2_) | (have H2_ := (Option.bind_some _ _).symm.trans H; with_reducible exact H2_) | with_reducible exact H | (rw [hy450]; exact H) | exact H
             have Ny450 := Aside0.mk hy450
             clear hy450
             replace H := Option.bind_eq_some_iff.mp H
             obtain ⟨t453, A500, H⟩ := H
             try dsimp only at H
             have A50 := Aside0.mk A500
             clear A500
             by_cases c51 : y450.length + t453.length < 140737488355328
             ·rw [if_pos c51] at H
              have LMc51 := Aside0.mk c51
              clear c51
              obtain ⟨y456, hy456⟩ : ∃ y_ : List Int, y_ = (y450 ++ t453) := ⟨_, rfl⟩
              replace H : (some (strOfNums y456)) = some r := by first | (rw [hy456]; with_reducible exact H) | (have H2_ := (Option.bind_some _ _).symm.trans H; rw [hy456]; with_reducible exact H2_) | (have H2_ := (Option.bind_some _ _).symm.trans H; with_reducible exact H2_) | with_reducible exact H | (rw [hy456]; exact H) | exact H
              have Ny456 := Aside0.mk hy456
              clear hy456
              obtain rfl := Option.some.inj H
              try go_wp2
              replace HO_3 := Aside0.mk (Kd.R_drew HO_3.out)
              replace HO_5 := Aside0.mk (Kd.R_drew HO_5.out)
              replace HO448 := Aside0.mk (Kd.R_drew HO448.out)
              replace BK422 := Aside0.mk (blk_drew BK422.out)
              replace HB := Aside0.mk (below_drew1 HB.out)
              refine start_ (n := 9) (S := fun w' => w'.cell? ⟨gb422, 0, none⟩ = some (.int .i64 a0_0) ∧ w'.cell? ⟨gb422, 1, none⟩ = some (.int .i64 a0_1) ∧ w'.cell? ⟨gb422, 2, none⟩ = some (.int .i64 a0_2) ∧ w'.cell? ⟨gb422, 3, none⟩ = some (.int .i64 a0_3) ∧ w'.cell? ⟨gb422, 4, none⟩ = some (.slice A0_4 l0_4.length c0_4) ∧ w'.cell? ⟨gb422, 5, none⟩ = some (.slice A0_5 l0_5.length c0_5) ∧ w'.cell? ⟨gb422, 6, none⟩ = some (.slice A0_6 l0_6.length c0_6) ∧ w'.cell? ⟨gb422, 7, none⟩ = some (.int .i64 a0_7)) (ds := []) (bA 9 0) (by kernel_rfl) rfl rfl ⟨(blk_cell BK422.out 0).trans rfl, (blk_cell BK422.out 1).trans rfl, (blk_cell BK422.out 2).trans rfl, (blk_cell BK422.out 3).trans rfl, (blk_cell BK422.out 4).trans rfl, (blk_cell BK422.out 5).trans rfl, (blk_cell BK422.out 6).trans rfl, (blk_cell BK422.out 7).trans rfl⟩ (fun hHeld => ?_); refine with_tabW spec_ShowBlock.tab18 spec_ShowBlock.bits18 (fun HT_ HW_ => ?_)
              generalize w45.drew = w52 at HO_3 HO_5 HO448 BK422 HB hHeld ⊢
              refine pv (i := 0) (N := some 94) (bA 9 1) rfl rfl J13 ?_
              refine pv (i := 1) (N := some 95) (bA 9 3) rfl rfl J13 ?_
              refine pv (i := 3) (N := some 97) (bA 9 11) rfl rfl J13 ?_
              refine take_ (i := 4) (N := some 98) (v := ?_) (a' := ?_) (bA 9 27) rfl rfl J28 (fun _ _ _ h => h) (Or.inl ⟨(by rfl), ?_⟩) hHeld ?_ ?_
              rotate_left
              ·rintro w' ⟨s0, s1, s2, s3, s4, s5, s6, s7⟩
               go_simp
               with_reducible rfl
              rotate_left
              ·simp only [sp_]
               rfl
              refine one_ (i := 2) (N := some 96) (bA 9 31) rfl rfl (one_of HT_.out (by kernel_rfl)) (by decide) (fun K hK => ?_)
              refine Kd.R_append_rows_step (Kd.int .u8) (w0 := w) w.heap.size (by rfl) (.tmp 94) (.tmp 95) 22 5 (.int .u8 0) 1 rfl Tryd.underlying22 info5 rfl (by decide) (by omega) u5 x5_3 t446 _ _ _ (fun k_ => some k_ ≠ (.slice Ao46 t446.length co46 : Value).ownBlock) (fun _ => False) rfl rfl ?aO ?aR (fun _ _ h => h) (fun _ h => h.elim) ?aF ?aB ?aS ?aL ?_
              (case aR => repeat (first | exact (Kd.R_reads' HO448.out).2.2 | (with_reducible refine Kd.C_alloc ?_ _) | (with_reducible refine Kd.C_drewN ?_ _) | (with_reducible refine Kd.C_drew ?_)))
              (case aB => exact Z5)
              (case aF => exact (fun k_ hk => Kd.fresh' (Kd.R_lt Z29) k_ hk))
              (case aO => exact (by (with_reducible repeat (first | apply Kd.R_alloc | apply Kd.R_drewN | apply Kd.R_drew)); exact Kd.R_mono HO_5.out (fun _ hk => hk.2)))
              (case aS => exact (below_size Z5))
              (case aL => have := LMc49.out; omega)
              intro v451 w53 ho hb hg hat
              rw [← Ny450.out] at ho
              replace HO_3 := Aside0.mk (Kd.R_over' Z7 (Kd.R_typed Z13) (by decide) hg)
              replace BK422 := Aside0.mk (blk_grown (g := gb422) (o := .cells #[.int .i64 a0_0, .int .i64 a0_1, .int .i64 a0_2, .int .i64 a0_3, .slice A0_4 l0_4.length c0_4, .slice A0_5 l0_5.length c0_5, .slice A0_6 l0_6.length c0_6, .int .i64 a0_7] 29 (0, 0)) Z17 hg (Kd.R_ne HO_5.out BK422.out (by decide)))
              replace HO448 := Aside0.mk (Kd.R_after (ok := (fun _ => True)) Z29 hg hat)
              replace HB := Aside0.mk (hb)
              have HO452 := Aside0.mk (ho)
              clear HO_5
              clear ho hb hg hat
              refine hK.out _ _ ⟨(blk_cell BK422.out 0).trans rfl, (blk_cell BK422.out 1).trans rfl, (blk_cell BK422.out 2).trans rfl, (blk_cell BK422.out 3).trans rfl, (blk_cell BK422.out 4).trans rfl, (blk_cell BK422.out 5).trans rfl, (blk_cell BK422.out 6).trans rfl, (blk_cell BK422.out 7).trans rfl⟩ (fun hHeld => ?_)
              clear hK K
              refine norm_ (a' := ?_) ?_ ?_
              rotate_left
              ·show Act.put _ (some 96) _ = _
               simp only [sp_]
               rfl
              refine one_ (i := 5) (N := some 99) (bA 9 63) rfl rfl (one_of HT_.out (by kernel_rfl)) (by decide) (fun K hK => ?_)
              refine goes_ Tryd.func33 (by kernel_rfl) rfl #[.int .i64 a0_7] (by rfl) rfl rfl Z2 ?_
              with_reducible refine (spec_l1Number.calls k3 a0_7 t453 _ A50.out).mono ?_
              rintro e w54 ⟨v454, rfl, ho0, hb⟩
              refine ⟨_, rfl, ?_⟩
              replace HO_3 := Aside0.mk (Kd.R_below Z7 hb)
              have HO455 := Aside0.mk (Kd.R_lower (Kd.R_new' (Kd.R_new' ho0 (Kd.R_lt Z29)) (Kd.R_lt Z34)) (below_size Z5))
              replace HO448 := Aside0.mk (Kd.R_elder' Z29 (Kd.R_base ho0) hb)
              replace HO452 := Aside0.mk (Kd.R_elder' Z34 (Kd.R_base ho0) hb)
              replace BK422 := Aside0.mk (blk_below (g := gb422) (o := .cells #[.int .i64 a0_0, .int .i64 a0_1, .int .i64 a0_2, .int .i64 a0_3, .slice A0_4 l0_4.length c0_4, .slice A0_5 l0_5.length c0_5, .slice A0_6 l0_6.length c0_6, .int .i64 a0_7] 29 (0, 0)) Z17 hb)
              replace HB := Aside0.mk (below_step Z5 hb)
              (try clear hb)
              (try clear hb2)
              (try clear hk)
              (try clear hi)
              (try clear ho0)
              obtain ⟨Ao56, co56, eo56⟩ := Kd.R_slice HO455.out
              (first | subst eo56 | (injection eo56 with f1_ f2_ f3_; have f4_ := f1_.symm; have f5_ := f3_.symm; clear f1_ f2_ f3_; subst f4_; subst f5_))
              refine hK.out _ _ ⟨(blk_cell BK422.out 0).trans rfl, (blk_cell BK422.out 1).trans rfl, (blk_cell BK422.out 2).trans rfl, (blk_cell BK422.out 3).trans rfl, (blk_cell BK422.out 4).trans rfl, (blk_cell BK422.out 5).trans rfl, (blk_cell BK422.out 6).trans rfl, (blk_cell BK422.out 7).trans rfl⟩ (fun hHeld => ?_)
              clear hK K
              refine norm_ (a' := ?_) ?_ ?_
              rotate_left
              ·show Act.put _ (some 99) _ = _
               simp only [sp_]
               rfl
              refine one_ (i := 6) (N := some 100) (bA 9 127) rfl rfl (one_of HT_.out (by kernel_rfl)) (by decide) (fun K hK => ?_)
              refine Kd.R_append_rows_step (Kd.int .u8) (w0 := w) w.heap.size (by rfl) (.tmp 96) (.tmp 99) 22 5 (.int .u8 0) 1 rfl Tryd.underlying22 info5 rfl (by decide) (by omega) v451 y450 t453 _ _ _ (fun k_ => some k_ ≠ (.slice Ao46 t446.length co46 : Value).ownBlock ∧ some k_ ≠ (.slice Ao56 t453.length co56 : Value).ownBlock) (fun _ => False) rfl rfl ?aO ?aR (fun _ _ h => h) (fun _ h => h.elim) ?aF ?aB ?aS ?aL ?_
              (case aR => repeat (first | exact (Kd.R_reads' HO455.out).2.2 | (with_reducible refine Kd.C_alloc ?_ _) | (with_reducible refine Kd.C_drewN ?_ _) | (with_reducible refine Kd.C_drew ?_)))
              (case aB => exact Z5)
              (case aF => exact (fun k_ hk => ⟨Kd.fresh' (Kd.R_lt Z29) k_ hk, Kd.fresh' (Kd.R_lt (by (with_reducible repeat (first | apply Kd.R_alloc | apply Kd.R_drewN | apply Kd.R_drew)); exact HO455.out)) k_ hk⟩))
              (case aO => exact Z34)
              (case aS => exact (below_size Z5))
              (case aL => have := LMc51.out; omega)
              intro v457 w55 ho hb hg hat
              rw [← Ny456.out] at ho
              replace HO_3 := Aside0.mk (Kd.R_over' Z7 (Kd.R_typed Z34) (by decide) hg)
              replace BK422 := Aside0.mk (blk_grown (g := gb422) (o := .cells #[.int .i64 a0_0, .int .i64 a0_1, .int .i64 a0_2, .int .i64 a0_3, .slice A0_4 l0_4.length c0_4, .slice A0_5 l0_5.length c0_5, .slice A0_6 l0_6.length c0_6, .int .i64 a0_7] 29 (0, 0)) Z17 hg (Kd.R_ne HO452.out BK422.out (by decide)))
              replace HO448 := Aside0.mk (Kd.R_after (ok := (fun k_ => some k_ ≠ (.slice Ao56 t453.length co56 : Value).ownBlock)) (by (with_reducible repeat (first | apply Kd.R_alloc | apply Kd.R_drewN | apply Kd.R_drew)); exact Kd.R_mono HO448.out (fun _ hk => And.intro hk.2 hk.1.2)) hg hat)
              replace HO455 := Aside0.mk (Kd.R_after (ok := (fun k_ => some k_ ≠ (.slice Ao46 t446.length co46 : Value).ownBlock)) (by (with_reducible repeat (first | apply Kd.R_alloc | apply Kd.R_drewN | apply Kd.R_drew)); exact Kd.R_mono HO455.out (fun _ hk => And.intro hk.1.2 hk.2)) hg hat)
              replace HB := Aside0.mk (hb)
              have HO458 := Aside0.mk (ho)
              clear HO452
              clear ho hb hg hat
              refine hK.out _ _ ⟨(blk_cell BK422.out 0).trans rfl, (blk_cell BK422.out 1).trans rfl, (blk_cell BK422.out 2).trans rfl, (blk_cell BK422.out 3).trans rfl, (blk_cell BK422.out 4).trans rfl, (blk_cell BK422.out 5).trans rfl, (blk_cell BK422.out 6).trans rfl, (blk_cell BK422.out 7).trans rfl⟩ (fun hHeld => ?_)
              clear hK K
              refine norm_ (a' := ?_) ?_ ?_
              rotate_left
              ·show Act.put _ (some 100) _ = _
               simp only [sp_]
               rfl
              refine one_ (i := 7) (N := some 101) (bA 9 255) rfl rfl (one_of HT_.out (by kernel_rfl)) (by decide) (fun K hK => ?_)
              have hcv57 := own_string (P := Tryd.prog) Tryd.underlying22 Tryd.underlying5 Tryd.underlying9 (Kd.own_of_R HO458.out)
              refine value_ (w1 := ?_) (v := ?_) (by rfl) rfl ?_ ?_
              rotate_left 2
              ·go_simp
               constructor
               ·rfl
               ·rfl
              clear hcv57
              refine hK.out _ _ ⟨(blk_cell BK422.out 0).trans rfl, (blk_cell BK422.out 1).trans rfl, (blk_cell BK422.out 2).trans rfl, (blk_cell BK422.out 3).trans rfl, (blk_cell BK422.out 4).trans rfl, (blk_cell BK422.out 5).trans rfl, (blk_cell BK422.out 6).trans rfl, (blk_cell BK422.out 7).trans rfl⟩ (fun hHeld => ?_)
              clear hK K
              refine norm_ (a' := ?_) ?_ ?_
              rotate_left
              ·show Act.put _ (some 101) _ = _
               simp only [sp_]
               rfl
              refine pv (i := 8) (N := some 2) (bA 9 511) rfl rfl J13 ?_
              refine done_ (done_of HT_.out (by kernel_rfl)) ?_
              try go_wp2
              go_ret
              exact ⟨J0, J12⟩
             ·rw [if_neg c51] at H
              exact absurd H (by simp)
            ·rw [if_neg c49] at H
             exact absurd H (by simp)
           ·replace c48 := Bool.eq_false_iff.mpr c48
            subst c48
            have H1 : (some (⟨#[]⟩ : ByteArray)) = some r := by rw [if_neg (show ¬ (false = true) by decide)] at H; exact H
            clear H
            have H := H1
            clear H1
            obtain rfl := Option.some.inj H
            go_wp2
            go_ret
            exact ⟨J0, J12⟩

end Go.Proofs.YtokhjhkkncbjeaaDoor.PFnBlocks
