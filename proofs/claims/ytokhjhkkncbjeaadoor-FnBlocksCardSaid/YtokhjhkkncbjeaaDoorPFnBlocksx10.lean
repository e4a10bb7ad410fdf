-- Written by a program of this session (wip/tools/pp.py over the kit's print).
import Derived.Test.YtokhjhkkncbjeaaDoorPFnBlocksx0
import Derived.Test.YtokhjhkkncbjeaaDoorPFnBlocksx9
namespace Go.Proofs.YtokhjhkkncbjeaaDoor.PFnBlocks
open Go.RowKit Go.Proofs.YtokhjhkkncbjeaaDoorW.PrintWords Go.Proofs.YtokhjhkkncbjeaaDoorW.PrintLast Go.Proofs.YtokhjhkkncbjeaaDoorW.PrintMore
attribute [local go_sem] max2_int min2_int max_two min_two max_three min_three max_four min_four
attribute [local go_sem high] str_gtr str_leq str_geq
set_option linter.unusedVariables false
set_option linter.unusedSimpArgs false

/-! ### impl_ShowBlock: function 6 -/
mutual
def impl_ShowBlock.j0 : Nat → List Int → Bool → Int → Int → Int → Int → List Int → List Int → List ByteArray → Int → Option (ByteArray)
 | 0, _, _, _, _, _, _, _, _, _, _ => none
 | k + 1, x3, x35, x352000, x352001, x352002, x352003, x352004, x352005, x352006, x352007 => if x35 = true then (some (⟨#[]⟩ : ByteArray)) else (impl_ShowBlock.l0 k x3 (([x352000, x352001, x352002, x352003, (x352004.length : Int)] : List Int)) x352004 (x352004.length : Int) 0 x352000 x352001 x352002 x352003 x352004 x352005 x352006 x352007)
def impl_ShowBlock.l0 : Nat → List Int → List Int → List Int → Int → Int → Int → Int → Int → Int → List Int → List Int → List ByteArray → Int → Option (ByteArray)
 | 0, _, _, _, _, _, _, _, _, _, _, _, _, _ => none
 | k + 1, x3, x4, x53, x54, x55, x352000, x352001, x352002, x352003, x352004, x352005, x352006, x352007 => if x55 < x54 then (if 0 ≤ x55 then (if x55 < (x53.length : Int) then (if x55 < (x352005.length : Int) then ((some (([rd x53 x55, rd x352005 x55] : List Int) : List Int)).bind fun y360 => (if x4.length + y360.length < 17592186044416 then (impl_ShowBlock.l0 k x3 (x4 ++ y360) x53 x54 (wrap64 (x55 + 1)) x352000 x352001 x352002 x352003 x352004 x352005 x352006 x352007) else (none))) else (none)) else (none)) else (none)) else (if x4.length < 17592186044416 then ((some (x4 ++ [x352007] : List Int)).bind fun y369 => (impl_ShowBlock.l1 k x3 x4 (([] : List Int)) y369 (y369.length : Int) 0 x352000 x352001 x352002 x352003 x352004 x352005 x352006 x352007)) else (none))
def impl_ShowBlock.l1 : Nat → List Int → List Int → List Int → List Int → Int → Int → Int → Int → Int → Int → List Int → List Int → List ByteArray → Int → Option (ByteArray)
 | 0, _, _, _, _, _, _, _, _, _, _, _, _, _, _ => none
 | k + 1, x3, x4, x7, x76, x77, x78, x352000, x352001, x352002, x352003, x352004, x352005, x352006, x352007 => if x78 < x77 then (if 0 ≤ x78 then (if x78 < (x76.length : Int) then ((impl_within.f (rd x76 x78) 0 1099511627776).bind fun t373 => (if t373 = true then (impl_ShowBlock.l1 k x3 x4 x7 x76 x77 (wrap64 (x78 + 1)) x352000 x352001 x352002 x352003 x352004 x352005 x352006 x352007) else (some (⟨#[]⟩ : ByteArray)))) else (none)) else (none)) else (impl_ShowBlock.l2 k x3 x7 x4 (x4.length : Int) 0 x352000 x352001 x352002 x352003 x352004 x352005 x352006 x352007)
def impl_ShowBlock.l2 : Nat → List Int → List Int → List Int → Int → Int → Int → Int → Int → Int → List Int → List Int → List ByteArray → Int → Option (ByteArray)
 | 0, _, _, _, _, _, _, _, _, _, _, _, _, _ => none
 | k + 1, x3, x7, x86, x87, x88, x352000, x352001, x352002, x352003, x352004, x352005, x352006, x352007 => if x88 < x87 then (if 0 ≤ x88 then (if x88 < (x86.length : Int) then ((impl_Number.f k (rd x86 x88)).bind fun t375 => (if x7.length + t375.length < 140737488355328 then (impl_ShowBlock.l2 k x3 (x7 ++ t375) x86 x87 (wrap64 (x88 + 1)) x352000 x352001 x352002 x352003 x352004 x352005 x352006 x352007) else (none))) else (none)) else (none)) else (if x7.length + x3.length < 140737488355328 then ((some (x7 ++ x3 : List Int)).bind fun y381 => ((impl_Number.f k x352007).bind fun t384 => (if y381.length + t384.length < 140737488355328 then (some (strOfNums (y381 ++ t384))) else (none)))) else (none))
end
def impl_ShowBlock.f (k : Nat) (a0_0 : Int) (a0_1 : Int) (a0_2 : Int) (a0_3 : Int) (l0_4 : List Int) (l0_5 : List Int) (l0_6 : List ByteArray) (a0_7 : Int) : Option (ByteArray) := (impl_Texts.f k l0_6).bind fun t352 => (if (l0_4.length : Int) = (l0_5.length : Int) then (if (l0_4.length : Int) > 7 then (impl_ShowBlock.j0 k t352 true a0_0 a0_1 a0_2 a0_3 l0_4 l0_5 l0_6 a0_7) else (impl_ShowBlock.j0 k t352 ((t352.length : Int) == 0) a0_0 a0_1 a0_2 a0_3 l0_4 l0_5 l0_6 a0_7)) else (impl_ShowBlock.j0 k t352 true a0_0 a0_1 a0_2 a0_3 l0_4 l0_5 l0_6 a0_7))
theorem impl_ShowBlock.mono_l : ∀ k, (∀ y0 y1 y2 y3 y4 y5 y6 y7 y8 y9, LeO (impl_ShowBlock.j0 k y0 y1 y2 y3 y4 y5 y6 y7 y8 y9) (impl_ShowBlock.j0 (k + 1) y0 y1 y2 y3 y4 y5 y6 y7 y8 y9)) ∧ (∀ y0 y1 y2 y3 y4 y5 y6 y7 y8 y9 y10 y11 y12, LeO (impl_ShowBlock.l0 k y0 y1 y2 y3 y4 y5 y6 y7 y8 y9 y10 y11 y12) (impl_ShowBlock.l0 (k + 1) y0 y1 y2 y3 y4 y5 y6 y7 y8 y9 y10 y11 y12)) ∧ (∀ y0 y1 y2 y3 y4 y5 y6 y7 y8 y9 y10 y11 y12 y13, LeO (impl_ShowBlock.l1 k y0 y1 y2 y3 y4 y5 y6 y7 y8 y9 y10 y11 y12 y13) (impl_ShowBlock.l1 (k + 1) y0 y1 y2 y3 y4 y5 y6 y7 y8 y9 y10 y11 y12 y13)) ∧ (∀ y0 y1 y2 y3 y4 y5 y6 y7 y8 y9 y10 y11 y12, LeO (impl_ShowBlock.l2 k y0 y1 y2 y3 y4 y5 y6 y7 y8 y9 y10 y11 y12) (impl_ShowBlock.l2 (k + 1) y0 y1 y2 y3 y4 y5 y6 y7 y8 y9 y10 y11 y12))
 | 0 => ⟨fun _ _ _ _ _ _ _ _ _ _ r h => by simp [impl_ShowBlock.j0] at h, fun _ _ _ _ _ _ _ _ _ _ _ _ _ r h => by simp [impl_ShowBlock.l0] at h, fun _ _ _ _ _ _ _ _ _ _ _ _ _ _ r h => by simp [impl_ShowBlock.l1] at h, fun _ _ _ _ _ _ _ _ _ _ _ _ _ r h => by simp [impl_ShowBlock.l2] at h⟩
 | k + 1 => by
  obtain ⟨ih0, ih1, ih2, ih3⟩ := impl_ShowBlock.mono_l k
  refine ⟨?_, ?_, ?_, ?_⟩
  ·intro y0 y1 y2 y3 y4 y5 y6 y7 y8 y9
   unfold impl_ShowBlock.j0
   repeat' with_reducible first
   | exact ih0 _ _ _ _ _ _ _ _ _ _
   | exact ih1 _ _ _ _ _ _ _ _ _ _ _ _ _
   | exact ih2 _ _ _ _ _ _ _ _ _ _ _ _ _ _
   | exact ih3 _ _ _ _ _ _ _ _ _ _ _ _ _
   | exact impl_Number.mono _ _
   | exact impl_Texts.mono _ _
   | exact LeO.refl _
   | exact LeO.none _
   | refine LeO.ite ?_ ?_
   | refine LeO.bind ?_ (fun _ => ?_)
  ·intro y0 y1 y2 y3 y4 y5 y6 y7 y8 y9 y10 y11 y12
   unfold impl_ShowBlock.l0
   repeat' with_reducible first
   | exact ih0 _ _ _ _ _ _ _ _ _ _
   | exact ih1 _ _ _ _ _ _ _ _ _ _ _ _ _
   | exact ih2 _ _ _ _ _ _ _ _ _ _ _ _ _ _
   | exact ih3 _ _ _ _ _ _ _ _ _ _ _ _ _
   | exact impl_Number.mono _ _
   | exact impl_Texts.mono _ _
   | exact LeO.refl _
   | exact LeO.none _
   | refine LeO.ite ?_ ?_
   | refine LeO.bind ?_ (fun _ => ?_)
  ·intro y0 y1 y2 y3 y4 y5 y6 y7 y8 y9 y10 y11 y12 y13
   unfold impl_ShowBlock.l1
   repeat' with_reducible first
   | exact ih0 _ _ _ _ _ _ _ _ _ _
   | exact ih1 _ _ _ _ _ _ _ _ _ _ _ _ _
   | exact ih2 _ _ _ _ _ _ _ _ _ _ _ _ _ _
   | exact ih3 _ _ _ _ _ _ _ _ _ _ _ _ _
   | exact impl_Number.mono _ _
   | exact impl_Texts.mono _ _
   | exact LeO.refl _
   | exact LeO.none _
   | refine LeO.ite ?_ ?_
   | refine LeO.bind ?_ (fun _ => ?_)
  ·intro y0 y1 y2 y3 y4 y5 y6 y7 y8 y9 y10 y11 y12
   unfold impl_ShowBlock.l2
   repeat' with_reducible first
   | exact ih0 _ _ _ _ _ _ _ _ _ _
   | exact ih1 _ _ _ _ _ _ _ _ _ _ _ _ _
   | exact ih2 _ _ _ _ _ _ _ _ _ _ _ _ _ _
   | exact ih3 _ _ _ _ _ _ _ _ _ _ _ _ _
   | exact impl_Number.mono _ _
   | exact impl_Texts.mono _ _
   | exact LeO.refl _
   | exact LeO.none _
   | refine LeO.ite ?_ ?_
   | refine LeO.bind ?_ (fun _ => ?_)
theorem impl_ShowBlock.mono : ∀ a0 a1 a2 a3 a4 a5 a6 a7 k, LeO (impl_ShowBlock.f k a0 a1 a2 a3 a4 a5 a6 a7) (impl_ShowBlock.f (k + 1) a0 a1 a2 a3 a4 a5 a6 a7) := by
 intro a0 a1 a2 a3 a4 a5 a6 a7 k
 obtain ⟨ih0, ih1, ih2, ih3⟩ := impl_ShowBlock.mono_l k
 unfold impl_ShowBlock.f
 repeat' with_reducible first
   | exact ih0 _ _ _ _ _ _ _ _ _ _
   | exact ih1 _ _ _ _ _ _ _ _ _ _ _ _ _
   | exact ih2 _ _ _ _ _ _ _ _ _ _ _ _ _ _
   | exact ih3 _ _ _ _ _ _ _ _ _ _ _ _ _
   | exact impl_Number.mono _ _
   | exact impl_Texts.mono _ _
   | exact LeO.refl _
   | exact LeO.none _
   | refine LeO.ite ?_ ?_
   | refine LeO.bind ?_ (fun _ => ?_)
set_option maxHeartbeats 8000000 in
set_option maxRecDepth 100000 in
theorem impl_ShowBlock.calls (k : Nat) (a0_0 : Int) (a0_1 : Int) (a0_2 : Int) (a0_3 : Int) (A0_4 : Option Addr) (c0_4 : Nat) (l0_4 : List Int) (A0_5 : Option Addr) (c0_5 : Nat) (l0_5 : List Int) (A0_6 : Option Addr) (c0_6 : Nat) (l0_6 : List ByteArray) (a0_7 : Int) (r : ByteArray) (w : World) (hr0_4 : Kd.C (Kd.int .i64) w A0_4 l0_4.length l0_4) (hc0_4 : l0_4.length ≤ c0_4) (hr0_5 : Kd.C (Kd.int .i64) w A0_5 l0_5.length l0_5) (hc0_5 : l0_5.length ≤ c0_5) (hr0_6 : Kd.C Kd.string w A0_6 l0_6.length l0_6) (hc0_6 : l0_6.length ≤ c0_6) (h : impl_ShowBlock.f k a0_0 a0_1 a0_2 a0_3 l0_4 l0_5 l0_6 a0_7 = some r) :
  Calls Tryd.prog 6 #[.agg #[.int .i64 a0_0, .int .i64 a0_1, .int .i64 a0_2, .int .i64 a0_3, .slice A0_4 l0_4.length c0_4, .slice A0_5 l0_5.length c0_5, .slice A0_6 l0_6.length c0_6, .int .i64 a0_7]] w fun e w' => e = .returned (.string r) ∧ Below w.heap.size w w' := by
 have hu29 := Tryd.underlying29
 have HR0_4 := Aside0.mk hr0_4
 have HC0_4 := Aside0.mk hc0_4
 clear hr0_4 hc0_4
 have HR0_5 := Aside0.mk hr0_5
 have HC0_5 := Aside0.mk hc0_5
 clear hr0_5 hc0_5
 have HR0_6 := Aside0.mk hr0_6
 have HC0_6 := Aside0.mk hc0_6
 clear hr0_6 hc0_6
 have HB := Aside0.mk (Below.refl w.heap.size w)
 have H : ((impl_Texts.f k l0_6).bind fun t352 => (if (l0_4.length : Int) = (l0_5.length : Int) then (if (l0_4.length : Int) > 7 then (impl_ShowBlock.j0 k t352 true a0_0 a0_1 a0_2 a0_3 l0_4 l0_5 l0_6 a0_7) else (impl_ShowBlock.j0 k t352 ((t352.length : Int) == 0) a0_0 a0_1 a0_2 a0_3 l0_4 l0_5 l0_6 a0_7)) else (impl_ShowBlock.j0 k t352 true a0_0 a0_1 a0_2 a0_3 l0_4 l0_5 l0_6 a0_7))) = some r := h
 clear h
 replace H := Option.bind_eq_some_iff.mp H
 obtain ⟨t352, A20, H⟩ := H
 try dsimp only at H
 have A2 := Aside0.mk A20
 clear A20
 have HC3 := Aside0.mk H
 clear H
 go_enter Tryd.func6, Tryd.ntmps6
 go_upto_region 2 with (first | ((with_reducible refine gate_dst (N := 1) rfl ?_); (try (refine gate_guard (by rfl) ?_; dsimp only)); refine box_event ?hg (N := 1) ?hd (cs := #[.int .i64 a0_0, .int .i64 a0_1, .int .i64 a0_2, .int .i64 a0_3, .slice A0_4 l0_4.length c0_4, .slice A0_5 l0_5.length c0_5, .slice A0_6 l0_6.length c0_6, .int .i64 a0_7]) (t := 29) ?hr ?_; (case hd => rfl); (case hg => rfl); (case hr => first | (go_simp; done) | (go_simp; rfl)); intro gb351 hg w4 hbox hb; have BK351 := Aside0.mk (hbox); have GW351 := Aside0.mk ((by rw [hg]; exact (below_size Z0) : w.heap.size ≤ gb351)); have GE351 := Aside0.mk ((by rw [hg]; exact (below_size Z0) : w.heap.size ≤ gb351)); replace HB := Aside0.mk (below_step Z0 hb); clear hb hbox hg; have hcz5_0 : w4.cell? ⟨gb351, 0, none⟩ = some (.int .i64 a0_0) := (blk_cell BK351.out 0).trans rfl; have hcz5_1 : w4.cell? ⟨gb351, 1, none⟩ = some (.int .i64 a0_1) := (blk_cell BK351.out 1).trans rfl; have hcz5_2 : w4.cell? ⟨gb351, 2, none⟩ = some (.int .i64 a0_2) := (blk_cell BK351.out 2).trans rfl; have hcz5_3 : w4.cell? ⟨gb351, 3, none⟩ = some (.int .i64 a0_3) := (blk_cell BK351.out 3).trans rfl; have hcz5_4 : w4.cell? ⟨gb351, 4, none⟩ = some (.slice A0_4 l0_4.length c0_4) := (blk_cell BK351.out 4).trans rfl; have hcz5_5 : w4.cell? ⟨gb351, 5, none⟩ = some (.slice A0_5 l0_5.length c0_5) := (blk_cell BK351.out 5).trans rfl; have hcz5_6 : w4.cell? ⟨gb351, 6, none⟩ = some (.slice A0_6 l0_6.length c0_6) := (blk_cell BK351.out 6).trans rfl; have hcz5_7 : w4.cell? ⟨gb351, 7, none⟩ = some (.int .i64 a0_7) := (blk_cell BK351.out 7).trans rfl; have hfz5_0 := blk_frozen BK351.out 0; have hfz5_1 := blk_frozen BK351.out 1; have hfz5_2 := blk_frozen BK351.out 2; have hfz5_3 := blk_frozen BK351.out 3; have hfz5_4 := blk_frozen BK351.out 4; have hfz5_5 := blk_frozen BK351.out 5; have hfz5_6 := blk_frozen BK351.out 6; have hfz5_7 := blk_frozen BK351.out 7) | ((with_reducible refine gate_callee (f := 19) rfl ?_); refine goesL_ (some 14) rfl rfl Tryd.func19 (by kernel_rfl) rfl #[.slice A0_6 l0_6.length c0_6] rfl Z2 ?_; (with_reducible refine (impl_Texts.calls k _ _ l0_6 t352 _ ?side1 ?side2 A2.out).mono ?_); (case side1 => exact J15); (case side2 => exact HC0_6.out); rintro e w6 ⟨v353, rfl, ho0, hb⟩; refine ⟨_, rfl, ?_⟩; have HO354 := Aside0.mk (Kd.R_lower ho0 (below_size Z6)); replace BK351 := Aside0.mk (blk_below (g := gb351) (o := .cells #[.int .i64 a0_0, .int .i64 a0_1, .int .i64 a0_2, .int .i64 a0_3, .slice A0_4 l0_4.length c0_4, .slice A0_5 l0_5.length c0_5, .slice A0_6 l0_6.length c0_6, .int .i64 a0_7] 29 (0, 0)) Z19 hb); replace HB := Aside0.mk (below_step Z6 hb); (try clear hb); (try clear hb2); (try clear hk); (try clear hi); (try clear ho0)))
 (try simp only [Act.put, List.setIfInBounds_toArray, List.set_cons_zero, List.set_cons_succ])
 go_cut [35] (fun v35 wc => ∃ (kq : Nat) (x35_2 : Bool), v35 = .bool x35_2 ∧ Aside0 (impl_ShowBlock.j0 kq t352 x35_2 a0_0 a0_1 a0_2 a0_3 l0_4 l0_5 l0_6 a0_7 = some r) ∧ Aside0 (kq ≤ k) ∧ Aside0 (Kd.R (Kd.int .u8) 5 wc w.heap.size (fun _ => True) v353 t352) ∧ Aside0 (wc.heap[gb351]? = some (.cells #[.int .i64 a0_0, .int .i64 a0_1, .int .i64 a0_2, .int .i64 a0_3, (.slice A0_4 l0_4.length c0_4), (.slice A0_5 l0_5.length c0_5), (.slice A0_6 l0_6.length c0_6), .int .i64 a0_7] 29 (0, 0))) ∧ Aside0 (Below w.heap.size w wc))
 case first =>
  have H := HC3.out
  clear HC3
  by_cases c7 : (l0_4.length : Int) = (l0_5.length : Int)
  ·rw [if_pos c7] at H
   have c7b0 : ((l0_4.length : Int) == (l0_5.length : Int)) = true := beq_iff_eq.mpr c7
   have c7b1 : ((l0_4.length : Int) != (l0_5.length : Int)) = false := bne_eq_false_iff_eq.mpr c7
   have c7b2 : (l0_4.length == l0_5.length) = true := by first | simpa using c7 | (simp at c7 ⊢; omega)
   clear c7
   (first | rw [c7b0] | (simp only [i64_w, i32_w]; rw [c7b0]) | skip)
   try rw [c7b1]
   by_cases c8 : (l0_4.length : Int) > 7
   ·rw [if_pos c8] at H
    have c8b0 : decide (7 < (l0_4.length : Int)) = true := decide_eq_true c8
    have c8b1 : decide (7 < l0_4.length) = true := decide_eq_true (by omega)
    clear c8
    have H' := Aside0.mk H
    clear H
    have hcz9_0 : w6.cell? ⟨gb351, 0, none⟩ = some (.int .i64 a0_0) := (blk_cell BK351.out 0).trans rfl
    have hcz9_1 : w6.cell? ⟨gb351, 1, none⟩ = some (.int .i64 a0_1) := (blk_cell BK351.out 1).trans rfl
    have hcz9_2 : w6.cell? ⟨gb351, 2, none⟩ = some (.int .i64 a0_2) := (blk_cell BK351.out 2).trans rfl
    have hcz9_3 : w6.cell? ⟨gb351, 3, none⟩ = some (.int .i64 a0_3) := (blk_cell BK351.out 3).trans rfl
    have hcz9_4 : w6.cell? ⟨gb351, 4, none⟩ = some (.slice A0_4 l0_4.length c0_4) := (blk_cell BK351.out 4).trans rfl
    have hcz9_5 : w6.cell? ⟨gb351, 5, none⟩ = some (.slice A0_5 l0_5.length c0_5) := (blk_cell BK351.out 5).trans rfl
    have hcz9_6 : w6.cell? ⟨gb351, 6, none⟩ = some (.slice A0_6 l0_6.length c0_6) := (blk_cell BK351.out 6).trans rfl
    have hcz9_7 : w6.cell? ⟨gb351, 7, none⟩ = some (.int .i64 a0_7) := (blk_cell BK351.out 7).trans rfl
    have hfz9_0 := blk_frozen BK351.out 0
    have hfz9_1 := blk_frozen BK351.out 1
    have hfz9_2 := blk_frozen BK351.out 2
    have hfz9_3 := blk_frozen BK351.out 3
    have hfz9_4 := blk_frozen BK351.out 4
    have hfz9_5 := blk_frozen BK351.out 5
    have hfz9_6 := blk_frozen BK351.out 6
    have hfz9_7 := blk_frozen BK351.out 7
    go_wp2
    go_meet
    case rel => exact ⟨_, (true), Z4, H', ⟨J32⟩, ⟨J44⟩, ⟨J21⟩, ⟨J11⟩⟩
   ·rw [if_neg c8] at H
    have c8b0 : decide (7 < (l0_4.length : Int)) = false := decide_eq_false c8
    have c8b1 : decide (7 < l0_4.length) = false := decide_eq_false (by omega)
    clear c8
    have H' := Aside0.mk H
    clear H
    have hcz10_0 : w6.cell? ⟨gb351, 0, none⟩ = some (.int .i64 a0_0) := (blk_cell BK351.out 0).trans rfl
    have hcz10_1 : w6.cell? ⟨gb351, 1, none⟩ = some (.int .i64 a0_1) := (blk_cell BK351.out 1).trans rfl
    have hcz10_2 : w6.cell? ⟨gb351, 2, none⟩ = some (.int .i64 a0_2) := (blk_cell BK351.out 2).trans rfl
    have hcz10_3 : w6.cell? ⟨gb351, 3, none⟩ = some (.int .i64 a0_3) := (blk_cell BK351.out 3).trans rfl
    have hcz10_4 : w6.cell? ⟨gb351, 4, none⟩ = some (.slice A0_4 l0_4.length c0_4) := (blk_cell BK351.out 4).trans rfl
    have hcz10_5 : w6.cell? ⟨gb351, 5, none⟩ = some (.slice A0_5 l0_5.length c0_5) := (blk_cell BK351.out 5).trans rfl
    have hcz10_6 : w6.cell? ⟨gb351, 6, none⟩ = some (.slice A0_6 l0_6.length c0_6) := (blk_cell BK351.out 6).trans rfl
    have hcz10_7 : w6.cell? ⟨gb351, 7, none⟩ = some (.int .i64 a0_7) := (blk_cell BK351.out 7).trans rfl
    have hfz10_0 := blk_frozen BK351.out 0
    have hfz10_1 := blk_frozen BK351.out 1
    have hfz10_2 := blk_frozen BK351.out 2
    have hfz10_3 := blk_frozen BK351.out 3
    have hfz10_4 := blk_frozen BK351.out 4
    have hfz10_5 := blk_frozen BK351.out 5
    have hfz10_6 := blk_frozen BK351.out 6
    have hfz10_7 := blk_frozen BK351.out 7
    obtain ⟨Ao11, co11, eo11⟩ := Kd.R_slice HO354.out
    subst eo11
    go_wp2
    go_meet
    case rel => exact ⟨_, (((t352.length : Int) == 0)), Z4, H', ⟨J32⟩, ⟨J44⟩, ⟨J21⟩, ⟨J11⟩⟩
  ·rw [if_neg c7] at H
   have c7b0 : ((l0_4.length : Int) == (l0_5.length : Int)) = false := beq_eq_false_iff_ne.mpr c7
   have c7b1 : ((l0_4.length : Int) != (l0_5.length : Int)) = true := bne_iff_ne.mpr c7
   have c7b2 : (l0_4.length == l0_5.length) = false := by first | simpa using c7 | (simp at c7 ⊢; omega)
   (first | rw [c7b0] | (simp only [i64_w, i32_w]; rw [c7b0]) | skip)
   try rw [c7b1]
   have H' := Aside0.mk H
   clear H
   have hcz12_0 : w6.cell? ⟨gb351, 0, none⟩ = some (.int .i64 a0_0) := (blk_cell BK351.out 0).trans rfl
   have hcz12_1 : w6.cell? ⟨gb351, 1, none⟩ = some (.int .i64 a0_1) := (blk_cell BK351.out 1).trans rfl
   have hcz12_2 : w6.cell? ⟨gb351, 2, none⟩ = some (.int .i64 a0_2) := (blk_cell BK351.out 2).trans rfl
   have hcz12_3 : w6.cell? ⟨gb351, 3, none⟩ = some (.int .i64 a0_3) := (blk_cell BK351.out 3).trans rfl
   have hcz12_4 : w6.cell? ⟨gb351, 4, none⟩ = some (.slice A0_4 l0_4.length c0_4) := (blk_cell BK351.out 4).trans rfl
   have hcz12_5 : w6.cell? ⟨gb351, 5, none⟩ = some (.slice A0_5 l0_5.length c0_5) := (blk_cell BK351.out 5).trans rfl
   have hcz12_6 : w6.cell? ⟨gb351, 6, none⟩ = some (.slice A0_6 l0_6.length c0_6) := (blk_cell BK351.out 6).trans rfl
   have hcz12_7 : w6.cell? ⟨gb351, 7, none⟩ = some (.int .i64 a0_7) := (blk_cell BK351.out 7).trans rfl
   have hfz12_0 := blk_frozen BK351.out 0
   have hfz12_1 := blk_frozen BK351.out 1
   have hfz12_2 := blk_frozen BK351.out 2
   have hfz12_3 := blk_frozen BK351.out 3
   have hfz12_4 := blk_frozen BK351.out 4
   have hfz12_5 := blk_frozen BK351.out 5
   have hfz12_6 := blk_frozen BK351.out 6
   have hfz12_7 := blk_frozen BK351.out 7
   go_wp2
   go_meet
   case rel => exact ⟨_, (true), Z4, H', ⟨J32⟩, ⟨J44⟩, ⟨J21⟩, ⟨J11⟩⟩
 case rest =>
  clear HC3
  try clear c1
  try clear p2
  try clear c6
  try clear c7
  try clear c7b0
  try clear c7b1
  try clear c7b2
  try clear c8
  try clear c8b0
  try clear c8b1
  try clear hcz10_0
  try clear hcz10_1
  try clear hcz10_2
  try clear hcz10_3
  try clear hcz10_4
  try clear hcz10_5
  try clear hcz10_6
  try clear hcz10_7
  try clear hcz12_0
  try clear hcz12_1
  try clear hcz12_2
  try clear hcz12_3
  try clear hcz12_4
  try clear hcz12_5
  try clear hcz12_6
  try clear hcz12_7
  try clear hcz5_0
  try clear hcz5_1
  try clear hcz5_2
  try clear hcz5_3
  try clear hcz5_4
  try clear hcz5_5
  try clear hcz5_6
  try clear hcz5_7
  try clear hcz9_0
  try clear hcz9_1
  try clear hcz9_2
  try clear hcz9_3
  try clear hcz9_4
  try clear hcz9_5
  try clear hcz9_6
  try clear hcz9_7
  try clear hfz10_0
  try clear hfz10_1
  try clear hfz10_2
  try clear hfz10_3
  try clear hfz10_4
  try clear hfz10_5
  try clear hfz10_6
  try clear hfz10_7
  try clear hfz12_0
  try clear hfz12_1
  try clear hfz12_2
  try clear hfz12_3
  try clear hfz12_4
  try clear hfz12_5
  try clear hfz12_6
  try clear hfz12_7
  try clear hfz5_0
  try clear hfz5_1
  try clear hfz5_2
  try clear hfz5_3
  try clear hfz5_4
  try clear hfz5_5
  try clear hfz5_6
  try clear hfz5_7
  try clear hfz9_0
  try clear hfz9_1
  try clear hfz9_2
  try clear hfz9_3
  try clear hfz9_4
  try clear hfz9_5
  try clear hfz9_6
  try clear hfz9_7
  obtain ⟨kq, x35_2, rfl, HA, HJ2, HO_3, BK351, HB⟩ := hcut
  cases kq with
  | zero => exact absurd HA.out (by simp [impl_ShowBlock.j0])
  | succ kj2 =>
   have H := HA.out
   clear HA
   simp only [impl_ShowBlock.j0] at H
   by_cases c13 : x35_2 = true
   ·subst c13
    have H1 : (some (⟨#[]⟩ : ByteArray)) = some r := by rw [if_pos rfl] at H; exact H
    clear H
    have H := H1
    clear H1
    obtain rfl := Option.some.inj H
    go_wp2
    go_ret
    exact ⟨J0, J11⟩
   ·replace c13 := Bool.eq_false_iff.mpr c13
    subst c13
    have H1 : (impl_ShowBlock.l0 kj2 t352 (([a0_0, a0_1, a0_2, a0_3, (l0_4.length : Int)] : List Int)) l0_4 (l0_4.length : Int) 0 a0_0 a0_1 a0_2 a0_3 l0_4 l0_5 l0_6 a0_7) = some r := by rw [if_neg (show ¬ (false = true) by decide)] at H; exact H
    clear H
    have H := H1
    clear H1
    obtain ⟨y355, hy355⟩ : ∃ y_ : List Int, y_ = (([a0_0, a0_1, a0_2, a0_3, (l0_4.length : Int)] : List Int)) := ⟨_, rfl⟩
    replace H : (impl_ShowBlock.l0 kj2 t352 y355 l0_4 (l0_4.length : Int) 0 a0_0 a0_1 a0_2 a0_3 l0_4 l0_5 l0_6 a0_7) = some r := by first | (rw [hy355]; with_reducible exact H) | (have H2_ := (Option.bind_some _ _).symm.trans H; rw [hy355]; with_reducible exact H2_) | (have H2_ := (Option.bind_some _ _).symm.trans H; with_reducible exact H2_) | with_reducible exact H | (rw [hy355]; exact H) | exact H
    have Ny355 := Aside0.mk hy355
    clear hy355
    have H' := Aside0.mk H
    clear H
    have hcz14_0 : wc.cell? ⟨gb351, 0, none⟩ = some (.int .i64 a0_0) := (blk_cell BK351.out 0).trans rfl
    have hcz14_1 : wc.cell? ⟨gb351, 1, none⟩ = some (.int .i64 a0_1) := (blk_cell BK351.out 1).trans rfl
    have hcz14_2 : wc.cell? ⟨gb351, 2, none⟩ = some (.int .i64 a0_2) := (blk_cell BK351.out 2).trans rfl
    have hcz14_3 : wc.cell? ⟨gb351, 3, none⟩ = some (.int .i64 a0_3) := (blk_cell BK351.out 3).trans rfl
    have hcz14_4 : wc.cell? ⟨gb351, 4, none⟩ = some (.slice A0_4 l0_4.length c0_4) := (blk_cell BK351.out 4).trans rfl
    have hcz14_5 : wc.cell? ⟨gb351, 5, none⟩ = some (.slice A0_5 l0_5.length c0_5) := (blk_cell BK351.out 5).trans rfl
    have hcz14_6 : wc.cell? ⟨gb351, 6, none⟩ = some (.slice A0_6 l0_6.length c0_6) := (blk_cell BK351.out 6).trans rfl
    have hcz14_7 : wc.cell? ⟨gb351, 7, none⟩ = some (.int .i64 a0_7) := (blk_cell BK351.out 7).trans rfl
    have hfz14_0 := blk_frozen BK351.out 0
    have hfz14_1 := blk_frozen BK351.out 1
    have hfz14_2 := blk_frozen BK351.out 2
    have hfz14_3 := blk_frozen BK351.out 3
    have hfz14_4 := blk_frozen BK351.out 4
    have hfz14_5 := blk_frozen BK351.out 5
    have hfz14_6 := blk_frozen BK351.out 6
    have hfz14_7 := blk_frozen BK351.out 7
    go_wp2_with (first | ((with_reducible refine gate_dst (N := 50) rfl ?_); (try (refine gate_guard (by rfl) ?_; dsimp only)); refine Kd.R_lit (Kd.int .i64) _ 2 ?hg (N := 50) ?hd (xs := ([a0_0, a0_1, a0_2, a0_3, (l0_4.length : Int)] : List Int)) (inner := [.int .i64 a0_0, .int .i64 a0_1, .int .i64 a0_2, .int .i64 a0_3, .int .i64 (l0_4.length : Int)]) (ok := fun _ => True) (okp := fun _ => True) ?hr ?hp (fun _ hk => hk) trivial (Below.refl _ _) (Nat.le_refl _) (by simp) ?_; (case hd => rfl); (case hg => rfl); (case hr => first | (go_simp; done) | (go_simp; rfl)); (case hp => exact (Reps.one (show Kd.M (Kd.int .i64) _ _ _ a0_0 [.int .i64 a0_0] from rfl) (Reps.one (show Kd.M (Kd.int .i64) _ _ _ a0_1 [.int .i64 a0_1] from rfl) (Reps.one (show Kd.M (Kd.int .i64) _ _ _ a0_2 [.int .i64 a0_2] from rfl) (Reps.one (show Kd.M (Kd.int .i64) _ _ _ a0_3 [.int .i64 a0_3] from rfl) (Reps.one (show Kd.M (Kd.int .i64) _ _ _ (l0_4.length : Int) [.int .i64 (l0_4.length : Int)] from rfl) (Reps.none _ _))))))); intro v356 w15 ho16 hb hg_ hnew_; clear hg_ hnew_; (first | rw [← Ny355.out] at ho16 | (simp only [Int.reduceToNat] at ho16; rw [← Ny355.out] at ho16)); replace HO_3 := Aside0.mk (Kd.R_below Z7 hb); have HO357 := Aside0.mk (Kd.R_lower ho16 (below_size Z6)); replace BK351 := Aside0.mk (blk_below (g := gb351) (o := .cells #[.int .i64 a0_0, .int .i64 a0_1, .int .i64 a0_2, .int .i64 a0_3, .slice A0_4 l0_4.length c0_4, .slice A0_5 l0_5.length c0_5, .slice A0_6 l0_6.length c0_6, .int .i64 a0_7] 29 (0, 0)) Z19 hb); replace HB := Aside0.mk (below_step Z6 hb); clear hb ho16; have hcz17_0 : w15.cell? ⟨gb351, 0, none⟩ = some (.int .i64 a0_0) := (blk_cell BK351.out 0).trans rfl; have hcz17_1 : w15.cell? ⟨gb351, 1, none⟩ = some (.int .i64 a0_1) := (blk_cell BK351.out 1).trans rfl; have hcz17_2 : w15.cell? ⟨gb351, 2, none⟩ = some (.int .i64 a0_2) := (blk_cell BK351.out 2).trans rfl; have hcz17_3 : w15.cell? ⟨gb351, 3, none⟩ = some (.int .i64 a0_3) := (blk_cell BK351.out 3).trans rfl; have hcz17_4 : w15.cell? ⟨gb351, 4, none⟩ = some (.slice A0_4 l0_4.length c0_4) := (blk_cell BK351.out 4).trans rfl; have hcz17_5 : w15.cell? ⟨gb351, 5, none⟩ = some (.slice A0_5 l0_5.length c0_5) := (blk_cell BK351.out 5).trans rfl; have hcz17_6 : w15.cell? ⟨gb351, 6, none⟩ = some (.slice A0_6 l0_6.length c0_6) := (blk_cell BK351.out 6).trans rfl; have hcz17_7 : w15.cell? ⟨gb351, 7, none⟩ = some (.int .i64 a0_7) := (blk_cell BK351.out 7).trans rfl; have hfz17_0 := blk_frozen BK351.out 0; have hfz17_1 := blk_frozen BK351.out 1; have hfz17_2 := blk_frozen BK351.out 2; have hfz17_3 := blk_frozen BK351.out 3; have hfz17_4 := blk_frozen BK351.out 4; have hfz17_5 := blk_frozen BK351.out 5; have hfz17_6 := blk_frozen BK351.out 6; have hfz17_7 := blk_frozen BK351.out 7))
    go_loopg [4, 55] kj2 (fun kq v4 v55 w' => ∃ (x4_2 : List Int) (x55_2 : Int), v55 = .int .i64 x55_2 ∧ Aside0 (impl_ShowBlock.l0 kq t352 x4_2 l0_4 (l0_4.length : Int) x55_2 a0_0 a0_1 a0_2 a0_3 l0_4 l0_5 l0_6 a0_7 = some r) ∧ Aside0 (kq ≤ kj2) ∧ Aside0 (Kd.R (Kd.int .u8) 5 w' w.heap.size (fun _ => True) v353 t352) ∧ Aside0 (Kd.R (Kd.int .i64) 2 w' w.heap.size (fun _ => True) v4 x4_2) ∧ Aside0 (w'.heap[gb351]? = some (.cells #[.int .i64 a0_0, .int .i64 a0_1, .int .i64 a0_2, .int .i64 a0_3, (.slice A0_4 l0_4.length c0_4), (.slice A0_5 l0_5.length c0_5), (.slice A0_6 l0_6.length c0_6), .int .i64 a0_7] 29 (0, 0))) ∧ Aside0 (Below w.heap.size w w'))
    case atStart => exact ⟨(y355), (0), Z4, H', ⟨Nat.le_refl _⟩, ⟨J23⟩, ⟨(by (with_reducible repeat (first | apply Kd.R_alloc | apply Kd.R_drewN | apply Kd.R_drew)); exact HO357.out)⟩, ⟨J21⟩, ⟨J11⟩⟩
    case round =>
     clear H'
     try clear c1
     try clear p2
     try clear c6
     try clear c7
     try clear c7b0
     try clear c7b1
     try clear c7b2
     try clear c8
     try clear c8b0
     try clear c8b1
     try clear c13
     try clear hcz10_0
     try clear hcz10_1
     try clear hcz10_2
     try clear hcz10_3
     try clear hcz10_4
     try clear hcz10_5
     try clear hcz10_6
     try clear hcz10_7
     try clear hcz12_0
     try clear hcz12_1
     try clear hcz12_2
     try clear hcz12_3
     try clear hcz12_4
     try clear hcz12_5
     try clear hcz12_6
     try clear hcz12_7
     try clear hcz14_0
     try clear hcz14_1
     try clear hcz14_2
     try clear hcz14_3
     try clear hcz14_4
     try clear hcz14_5
     try clear hcz14_6
     try clear hcz14_7
     try clear hcz17_0
     try clear hcz17_1
     try clear hcz17_2
     try clear hcz17_3
     try clear hcz17_4
     try clear hcz17_5
     try clear hcz17_6
     try clear hcz17_7
     try clear hcz5_0
     try clear hcz5_1
     try clear hcz5_2
     try clear hcz5_3
     try clear hcz5_4
     try clear hcz5_5
     try clear hcz5_6
     try clear hcz5_7
     try clear hcz9_0
     try clear hcz9_1
     try clear hcz9_2
     try clear hcz9_3
     try clear hcz9_4
     try clear hcz9_5
     try clear hcz9_6
     try clear hcz9_7
     try clear hfz10_0
     try clear hfz10_1
     try clear hfz10_2
     try clear hfz10_3
     try clear hfz10_4
     try clear hfz10_5
     try clear hfz10_6
     try clear hfz10_7
     try clear hfz12_0
     try clear hfz12_1
     try clear hfz12_2
     try clear hfz12_3
     try clear hfz12_4
     try clear hfz12_5
     try clear hfz12_6
     try clear hfz12_7
     try clear hfz14_0
     try clear hfz14_1
     try clear hfz14_2
     try clear hfz14_3
     try clear hfz14_4
     try clear hfz14_5
     try clear hfz14_6
     try clear hfz14_7
     try clear hfz17_0
     try clear hfz17_1
     try clear hfz17_2
     try clear hfz17_3
     try clear hfz17_4
     try clear hfz17_5
     try clear hfz17_6
     try clear hfz17_7
     try clear hfz5_0
     try clear hfz5_1
     try clear hfz5_2
     try clear hfz5_3
     try clear hfz5_4
     try clear hfz5_5
     try clear hfz5_6
     try clear hfz5_7
     try clear hfz9_0
     try clear hfz9_1
     try clear hfz9_2
     try clear hfz9_3
     try clear hfz9_4
     try clear hfz9_5
     try clear hfz9_6
     try clear hfz9_7
     try clear p2
     obtain ⟨x4_2, x55_2, rfl, HA, HK2, HO_3, HO_4, BK351, HB⟩ := hrel
     cases gk with
     | zero => exact absurd HA.out (by simp [impl_ShowBlock.l0])
     | succ k2 =>
      have H := HA.out
      clear HA
      simp only [impl_ShowBlock.l0] at H
      by_cases c18 : x55_2 < (l0_4.length : Int)
      ·rw [if_pos c18] at H
       have c18b0 : decide (x55_2 < (l0_4.length : Int)) = true := decide_eq_true c18
       clear c18
       by_cases c19 : 0 ≤ x55_2
       ·rw [if_pos c19] at H
        have c19b0 : decide (0 ≤ x55_2) = true := decide_eq_true c19
        clear c19
        by_cases c20 : x55_2 < (l0_4.length : Int)
        ·rw [if_pos c20] at H
         have c20b0 : decide (x55_2 < (l0_4.length : Int)) = true := decide_eq_true c20
         clear c20
         by_cases c21 : x55_2 < (l0_5.length : Int)
         ·rw [if_pos c21] at H
          have c21b0 : decide (x55_2 < (l0_5.length : Int)) = true := decide_eq_true c21
          clear c21
          obtain ⟨y360, hy360⟩ : ∃ y_ : List Int, y_ = (([rd l0_4 x55_2, rd l0_5 x55_2] : List Int)) := ⟨_, rfl⟩
          replace H : (if x4_2.length + y360.length < 17592186044416 then (impl_ShowBlock.l0 k2 t352 (x4_2 ++ y360) l0_4 (l0_4.length : Int) (wrap64 (x55_2 + 1)) a0_0 a0_1 a0_2 a0_3 l0_4 l0_5 l0_6 a0_7) else (none)) = some r := by first | (rw [hy360]; with_reducible exact H) | (have H2_ := (Option.bind_some _ _).symm.trans H; rw [hy360]; with_reducible exact H2_) | (have H2_ := (Option.bind_some _ _).symm.trans H; with_reducible exact H2_) | with_reducible exact H | (rw [hy360]; exact H) | exact H
          have Ny360 := Aside0.mk hy360
          clear hy360
          by_cases c22 : x4_2.length + y360.length < 17592186044416
          ·rw [if_pos c22] at H
           have LMc22 := Aside0.mk c22
           clear c22
           obtain ⟨y363, hy363⟩ : ∃ y_ : List Int, y_ = (x4_2 ++ y360) := ⟨_, rfl⟩
           replace H : (impl_ShowBlock.l0 k2 t352 y363 l0_4 (l0_4.length : Int) (wrap64 (x55_2 + 1)) a0_0 a0_1 a0_2 a0_3 l0_4 l0_5 l0_6 a0_7) = some r := by first | (rw [hy363]; with_reducible exact H) | (have H2_ := (Option.bind_some _ _).symm.trans H; rw [hy363]; with_reducible exact H2_) | (have H2_ := (Option.bind_some _ _).symm.trans H; with_reducible exact H2_) | with_reducible exact H | (rw [hy363]; exact H) | exact H
           have Ny363 := Aside0.mk hy363
           clear hy363
           have H' := Aside0.mk H
           clear H
           have p358 : 0 ≤ (x55_2 : Int) := od_
           have q358 : x55_2 < (l0_4.length : Int) := od_
           obtain ⟨ad358, e358, hx358_0⟩ := Kd.at_int HR0_4.out x55_2 p358 q358
           cases e358
           replace hx358_0 := (HB.out.cell (World.block_lt_of_cell? w _ hx358_0)).trans hx358_0
           replace p358 := eq_true p358
           replace q358 := eq_true q358
           have hcz23_0 : wr.cell? ⟨gb351, 0, none⟩ = some (.int .i64 a0_0) := (blk_cell BK351.out 0).trans rfl
           have hcz23_1 : wr.cell? ⟨gb351, 1, none⟩ = some (.int .i64 a0_1) := (blk_cell BK351.out 1).trans rfl
           have hcz23_2 : wr.cell? ⟨gb351, 2, none⟩ = some (.int .i64 a0_2) := (blk_cell BK351.out 2).trans rfl
           have hcz23_3 : wr.cell? ⟨gb351, 3, none⟩ = some (.int .i64 a0_3) := (blk_cell BK351.out 3).trans rfl
           have hcz23_4 : wr.cell? ⟨gb351, 4, none⟩ = some (.slice (some ad358) l0_4.length c0_4) := (blk_cell BK351.out 4).trans rfl
           have hcz23_5 : wr.cell? ⟨gb351, 5, none⟩ = some (.slice A0_5 l0_5.length c0_5) := (blk_cell BK351.out 5).trans rfl
           have hcz23_6 : wr.cell? ⟨gb351, 6, none⟩ = some (.slice A0_6 l0_6.length c0_6) := (blk_cell BK351.out 6).trans rfl
           have hcz23_7 : wr.cell? ⟨gb351, 7, none⟩ = some (.int .i64 a0_7) := (blk_cell BK351.out 7).trans rfl
           have hfz23_0 := blk_frozen BK351.out 0
           have hfz23_1 := blk_frozen BK351.out 1
           have hfz23_2 := blk_frozen BK351.out 2
           have hfz23_3 := blk_frozen BK351.out 3
           have hfz23_4 := blk_frozen BK351.out 4
           have hfz23_5 := blk_frozen BK351.out 5
           have hfz23_6 := blk_frozen BK351.out 6
           have hfz23_7 := blk_frozen BK351.out 7
           have p359 : 0 ≤ (x55_2 : Int) := od_
           have q359 : x55_2 < (l0_5.length : Int) := od_
           obtain ⟨ad359, e359, hx359_0⟩ := Kd.at_int HR0_5.out x55_2 p359 q359
           cases e359
           replace hx359_0 := (HB.out.cell (World.block_lt_of_cell? w _ hx359_0)).trans hx359_0
           replace p359 := eq_true p359
           replace q359 := eq_true q359
           go_wp2_with (first | ((with_reducible refine gate_dst (N := 68) rfl ?_); (try (refine gate_guard (by rfl) ?_; dsimp only)); refine Kd.R_lit (Kd.int .i64) _ 2 ?hg (N := 68) ?hd (xs := ([rd l0_4 x55_2, rd l0_5 x55_2] : List Int)) (inner := [.int .i64 (rd l0_4 x55_2), .int .i64 (rd l0_5 x55_2)]) (ok := fun _ => True) (okp := fun _ => True) ?hr ?hp (fun _ hk => hk) trivial (Below.refl _ _) (Nat.le_refl _) (by simp) ?_; (case hd => rfl); (case hg => rfl); (case hr => first | (go_simp; done) | (go_simp; rfl)); (case hp => exact (Reps.one (show Kd.M (Kd.int .i64) _ _ _ (rd l0_4 x55_2) [.int .i64 (rd l0_4 x55_2)] from rfl) (Reps.one (show Kd.M (Kd.int .i64) _ _ _ (rd l0_5 x55_2) [.int .i64 (rd l0_5 x55_2)] from rfl) (Reps.none _ _)))); intro v361 w24 ho25 hb hg_ hnew_; clear hg_ hnew_; (first | rw [← Ny360.out] at ho25 | (simp only [Int.reduceToNat] at ho25; rw [← Ny360.out] at ho25)); replace HO_3 := Aside0.mk (Kd.R_below Z7 hb); have HO362 := Aside0.mk (Kd.R_lower (Kd.R_new' ho25 (Kd.R_lt Z25)) (below_size Z6)); replace HO_4 := Aside0.mk (Kd.R_elder' Z25 (Kd.R_base ho25) hb); replace BK351 := Aside0.mk (blk_below (g := gb351) (o := .cells #[.int .i64 a0_0, .int .i64 a0_1, .int .i64 a0_2, .int .i64 a0_3, .slice (some ad358) l0_4.length c0_4, .slice (some ad359) l0_5.length c0_5, .slice A0_6 l0_6.length c0_6, .int .i64 a0_7] 29 (0, 0)) Z19 hb); replace HB := Aside0.mk (below_step Z6 hb); clear hb ho25; obtain ⟨Ao27, co27, eo27⟩ := Kd.R_slice HO362.out; subst eo27) | ((with_reducible refine gate_builtin (b := .append) (xs := #[.tmp 60, .tmp 68]) rfl ?_); (try (refine gate_guard (by rfl) ?_; dsimp only)); at_builtin; refine Kd.R_append_rows (Kd.int .i64) (w0 := w) w.heap.size rfl (.tmp 60) (.tmp 68) 24 2 (.int .i64 0) 8 rfl Tryd.underlying24 info2 rfl (by decide) (by omega) u4 x4_2 y360 _ _ _ (fun k_ => some k_ ≠ (.slice Ao27 y360.length co27 : Value).ownBlock) (fun _ => False) rfl rfl ?aO ?aR (fun _ _ h => h) (fun _ h => h.elim) ?aF ?aB ?aS ?aL ?_; (case aR => repeat (first | exact (Kd.R_reads' HO362.out).2.2 | (with_reducible refine Kd.C_alloc ?_ _) | (with_reducible refine Kd.C_drewN ?_ _) | (with_reducible refine Kd.C_drew ?_))); (case aB => exact Z6); (case aF => exact (fun k_ hk => Kd.fresh' (Kd.R_lt (by (with_reducible repeat (first | apply Kd.R_alloc | apply Kd.R_drewN | apply Kd.R_drew)); exact HO362.out)) k_ hk)); (case aO => exact (by (with_reducible repeat (first | apply Kd.R_alloc | apply Kd.R_drewN | apply Kd.R_drew)); exact Kd.R_mono HO_4.out (fun _ hk => hk.2))); (case aS => exact (below_size Z6)); (case aL => have := LMc22.out; omega); intro v364 w26 ho hb hg hat; rw [← Ny363.out] at ho; replace HO_3 := Aside0.mk (Kd.R_over' Z7 (Kd.R_typed Z25) (by decide) hg); replace BK351 := Aside0.mk (blk_grown (g := gb351) (o := .cells #[.int .i64 a0_0, .int .i64 a0_1, .int .i64 a0_2, .int .i64 a0_3, .slice (some ad358) l0_4.length c0_4, .slice (some ad359) l0_5.length c0_5, .slice A0_6 l0_6.length c0_6, .int .i64 a0_7] 29 (0, 0)) Z19 hg (Kd.R_ne HO_4.out BK351.out (by decide))); replace HO362 := Aside0.mk (Kd.R_after (ok := (fun _ => True)) (by (with_reducible repeat (first | apply Kd.R_alloc | apply Kd.R_drewN | apply Kd.R_drew)); exact HO362.out) hg hat); replace HB := Aside0.mk (hb); have HO365 := Aside0.mk (ho); clear HO_4; clear ho hb hg hat))
           go_roundg k2
           case measure => have := HJ2.out; have := HK2.out; omega
           case rel => exact ⟨(y363), (wrap64 (x55_2 + 1)), Z4, H', ⟨(by have := HJ2.out; have := HK2.out; omega)⟩, ⟨J23⟩, ⟨(by (with_reducible repeat (first | apply Kd.R_alloc | apply Kd.R_drewN | apply Kd.R_drew)); exact Kd.R_mono HO365.out (fun _ hk => trivial))⟩, ⟨J21⟩, ⟨J11⟩⟩
          ·rw [if_neg c22] at H
           exact absurd H (by simp)
         ·rw [if_neg c21] at H
          exact absurd H (by simp)
        ·rw [if_neg c20] at H
         exact absurd H (by simp)
       ·rw [if_neg c19] at H
        exact absurd H (by simp)
      ·rw [if_neg c18] at H
       have c18b0 : decide (x55_2 < (l0_4.length : Int)) = false := decide_eq_false c18
       clear c18
       obtain ⟨y366, hy366⟩ : ∃ y_ : List Int, y_ = (([] : List Int)) := ⟨_, rfl⟩
       replace H : (if x4_2.length < 17592186044416 then ((some (x4_2 ++ [a0_7] : List Int)).bind fun y369 => (impl_ShowBlock.l1 k2 t352 x4_2 y366 y369 (y369.length : Int) 0 a0_0 a0_1 a0_2 a0_3 l0_4 l0_5 l0_6 a0_7)) else (none)) = some r := by first | (rw [hy366]; with_reducible exact H) | (have H2_ := (Option.bind_some _ _).symm.trans H; rw [hy366]; with_reducible exact H2_) | (have H2_ := (Option.bind_some _ _).symm.trans H; with_reducible exact H2_) | with_reducible exact H | (rw [hy366]; exact H) | exact H
       have Ny366 := Aside0.mk hy366
       clear hy366
       by_cases c28 : x4_2.length < 17592186044416
       ·rw [if_pos c28] at H
        have LMc28 := Aside0.mk c28
        clear c28
        obtain ⟨y369, hy369⟩ : ∃ y_ : List Int, y_ = (x4_2 ++ [a0_7]) := ⟨_, rfl⟩
        replace H : (impl_ShowBlock.l1 k2 t352 x4_2 y366 y369 (y369.length : Int) 0 a0_0 a0_1 a0_2 a0_3 l0_4 l0_5 l0_6 a0_7) = some r := by first | (rw [hy369]; with_reducible exact H) | (have H2_ := (Option.bind_some _ _).symm.trans H; rw [hy369]; with_reducible exact H2_) | (have H2_ := (Option.bind_some _ _).symm.trans H; with_reducible exact H2_) | with_reducible exact H | (rw [hy369]; exact H) | exact H
        have Ny369 := Aside0.mk hy369
        clear hy369
        have H' := Aside0.mk H
        clear H
        go_wp2_with (first | ((with_reducible refine gate_dst (N := 71) rfl ?_); (try (refine gate_guard (by rfl) ?_; dsimp only)); refine Kd.R_lit (Kd.int .u8) _ 5 ?hg (N := 71) ?hd (xs := ([] : List Int)) (inner := []) (ok := fun _ => True) (okp := fun _ => True) ?hr ?hp (fun _ hk => hk) trivial (Below.refl _ _) (Nat.le_refl _) (by simp) ?_; (case hd => rfl); (case hg => rfl); (case hr => first | (go_simp; done) | (go_simp; rfl)); (case hp => exact (Reps.none _ _)); intro v367 w29 ho30 hb hg_ hnew_; clear hg_ hnew_; (first | rw [← Ny366.out] at ho30 | (simp only [Int.reduceToNat] at ho30; rw [← Ny366.out] at ho30)); replace HO_4 := Aside0.mk (Kd.R_below Z25 hb); have HO368 := Aside0.mk (Kd.R_lower (Kd.R_new' ho30 (Kd.R_lt Z7)) (below_size Z6)); replace HO_3 := Aside0.mk (Kd.R_elder' Z7 (Kd.R_base ho30) hb); replace BK351 := Aside0.mk (blk_below (g := gb351) (o := .cells #[.int .i64 a0_0, .int .i64 a0_1, .int .i64 a0_2, .int .i64 a0_3, .slice A0_4 l0_4.length c0_4, .slice A0_5 l0_5.length c0_5, .slice A0_6 l0_6.length c0_6, .int .i64 a0_7] 29 (0, 0)) Z19 hb); replace HB := Aside0.mk (below_step Z6 hb); clear hb ho30; have hcz31_0 : w29.cell? ⟨gb351, 0, none⟩ = some (.int .i64 a0_0) := (blk_cell BK351.out 0).trans rfl; have hcz31_1 : w29.cell? ⟨gb351, 1, none⟩ = some (.int .i64 a0_1) := (blk_cell BK351.out 1).trans rfl; have hcz31_2 : w29.cell? ⟨gb351, 2, none⟩ = some (.int .i64 a0_2) := (blk_cell BK351.out 2).trans rfl; have hcz31_3 : w29.cell? ⟨gb351, 3, none⟩ = some (.int .i64 a0_3) := (blk_cell BK351.out 3).trans rfl; have hcz31_4 : w29.cell? ⟨gb351, 4, none⟩ = some (.slice A0_4 l0_4.length c0_4) := (blk_cell BK351.out 4).trans rfl; have hcz31_5 : w29.cell? ⟨gb351, 5, none⟩ = some (.slice A0_5 l0_5.length c0_5) := (blk_cell BK351.out 5).trans rfl; have hcz31_6 : w29.cell? ⟨gb351, 6, none⟩ = some (.slice A0_6 l0_6.length c0_6) := (blk_cell BK351.out 6).trans rfl; have hcz31_7 : w29.cell? ⟨gb351, 7, none⟩ = some (.int .i64 a0_7) := (blk_cell BK351.out 7).trans rfl; have hfz31_0 := blk_frozen BK351.out 0; have hfz31_1 := blk_frozen BK351.out 1; have hfz31_2 := blk_frozen BK351.out 2; have hfz31_3 := blk_frozen BK351.out 3; have hfz31_4 := blk_frozen BK351.out 4; have hfz31_5 := blk_frozen BK351.out 5; have hfz31_6 := blk_frozen BK351.out 6; have hfz31_7 := blk_frozen BK351.out 7) | ((with_reducible refine gate_builtin (b := .append) (xs := #[.tmp 72, .tmp 75]) rfl ?_); (try (refine gate_guard (by rfl) ?_; dsimp only)); at_builtin; refine Kd.R_append_beside .i64 (w0 := w) w.heap.size rfl (.tmp 72) (.tmp 75) 24 2 (.int .i64 0) 8 rfl Tryd.underlying24 info2 rfl (by decide) (by omega) u4 x4_2 a0_7 [.int .i64 a0_7] (fun _ => True) (fun _ => False) rfl rfl ?aP (fun _ hk => hk.elim) ?aF ?aO ?aB ?aS ?aL ?_; (case aP => exact rfl); (case aB => exact Z6); (case aF => exact (fun _ _ => trivial)); (case aO => exact Z25); (case aS => exact (below_size Z6)); (case aL => have := LMc28.out; omega); intro v370 w32 ho hkp_ hb hg hat; have m8_ := Aside0.mk hkp_; clear hkp_; rw [← Ny369.out] at ho; replace HO_3 := Aside0.mk (Kd.R_over' Z7 (Kd.R_typed Z25) (by decide) hg); replace BK351 := Aside0.mk (blk_grown (g := gb351) (o := .cells #[.int .i64 a0_0, .int .i64 a0_1, .int .i64 a0_2, .int .i64 a0_3, .slice A0_4 l0_4.length c0_4, .slice A0_5 l0_5.length c0_5, .slice A0_6 l0_6.length c0_6, .int .i64 a0_7] 29 (0, 0)) Z19 hg (Kd.R_ne HO_4.out BK351.out (by decide))); replace HO368 := Aside0.mk (Kd.R_over' (by (with_reducible repeat (first | apply Kd.R_alloc | apply Kd.R_drewN | apply Kd.R_drew)); exact HO368.out) (Kd.R_typed Z25) (by decide) hg); replace HB := Aside0.mk (hb); have HO371 := Aside0.mk (ho); clear HO_4; have HO_4 := m8_; clear m8_; clear ho hb hg hat; obtain ⟨Ao33, co33, eo33⟩ := Kd.R_slice HO371.out; subst eo33))
        go_loopg [78] k2 (fun kq v78 w' => ∃ (x78_3 : Int), v78 = .int .i64 x78_3 ∧ Aside0 (impl_ShowBlock.l1 kq t352 x4_2 y366 y369 (y369.length : Int) x78_3 a0_0 a0_1 a0_2 a0_3 l0_4 l0_5 l0_6 a0_7 = some r) ∧ Aside0 (kq ≤ k2) ∧ Aside0 (Kd.R (Kd.int .u8) 5 w' w.heap.size (fun k_ => some k_ ≠ (v367 : Value).ownBlock) v353 t352) ∧ Aside0 (Kd.R (Kd.int .i64) 2 w' w.heap.size (fun _ => True) u4 x4_2) ∧ Aside0 (Kd.R (Kd.int .u8) 5 w' w.heap.size (fun k_ => some k_ ≠ (v353 : Value).ownBlock) v367 y366) ∧ Aside0 (Kd.R (Kd.int .i64) 2 w' w.heap.size (fun _ => True) (.slice Ao33 y369.length co33) y369) ∧ Aside0 (w'.heap[gb351]? = some (.cells #[.int .i64 a0_0, .int .i64 a0_1, .int .i64 a0_2, .int .i64 a0_3, (.slice A0_4 l0_4.length c0_4), (.slice A0_5 l0_5.length c0_5), (.slice A0_6 l0_6.length c0_6), .int .i64 a0_7] 29 (0, 0))) ∧ Aside0 (Below w.heap.size w w'))
        case atStart => exact ⟨(0), Z4, H', ⟨Nat.le_refl _⟩, ⟨(by (with_reducible repeat (first | apply Kd.R_alloc | apply Kd.R_drewN | apply Kd.R_drew)); exact Kd.R_mono HO_3.out (fun _ hk => hk.2))⟩, ⟨J45⟩, ⟨(by (with_reducible repeat (first | apply Kd.R_alloc | apply Kd.R_drewN | apply Kd.R_drew)); exact Kd.R_mono HO368.out (fun _ hk => hk.2))⟩, ⟨(by (with_reducible repeat (first | apply Kd.R_alloc | apply Kd.R_drewN | apply Kd.R_drew)); exact HO371.out)⟩, ⟨J21⟩, ⟨J11⟩⟩
        case round =>
         clear H'
         try clear c1
         try clear c2
         try clear p2
         try clear p3
         try clear q3
         try clear hx3
         try clear c6
         try clear p6
         try clear c7
         try clear c7b0
         try clear c7b1
         try clear c7b2
         try clear c8
         try clear c8b0
         try clear c8b1
         try clear c13
         try clear c18
         try clear c18b0
         try clear c19
         try clear c19b0
         try clear c20
         try clear c20b0
         try clear c21
         try clear c21b0
         try clear c22
         try clear c28
         try clear hcz10_0
         try clear hcz10_1
         try clear hcz10_2
         try clear hcz10_3
         try clear hcz10_4
         try clear hcz10_5
         try clear hcz10_6
         try clear hcz10_7
         try clear hcz12_0
         try clear hcz12_1
         try clear hcz12_2
         try clear hcz12_3
         try clear hcz12_4
         try clear hcz12_5
         try clear hcz12_6
         try clear hcz12_7
         try clear hcz14_0
         try clear hcz14_1
         try clear hcz14_2
         try clear hcz14_3
         try clear hcz14_4
         try clear hcz14_5
         try clear hcz14_6
         try clear hcz14_7
         try clear hcz17_0
         try clear hcz17_1
         try clear hcz17_2
         try clear hcz17_3
         try clear hcz17_4
         try clear hcz17_5
         try clear hcz17_6
         try clear hcz17_7
         try clear hcz23_0
         try clear hcz23_1
         try clear hcz23_2
         try clear hcz23_3
         try clear hcz23_4
         try clear hcz23_5
         try clear hcz23_6
         try clear hcz23_7
         try clear hcz31_0
         try clear hcz31_1
         try clear hcz31_2
         try clear hcz31_3
         try clear hcz31_4
         try clear hcz31_5
         try clear hcz31_6
         try clear hcz31_7
         try clear hcz5_0
         try clear hcz5_1
         try clear hcz5_2
         try clear hcz5_3
         try clear hcz5_4
         try clear hcz5_5
         try clear hcz5_6
         try clear hcz5_7
         try clear hcz9_0
         try clear hcz9_1
         try clear hcz9_2
         try clear hcz9_3
         try clear hcz9_4
         try clear hcz9_5
         try clear hcz9_6
         try clear hcz9_7
         try clear hfz10_0
         try clear hfz10_1
         try clear hfz10_2
         try clear hfz10_3
         try clear hfz10_4
         try clear hfz10_5
         try clear hfz10_6
         try clear hfz10_7
         try clear hfz12_0
         try clear hfz12_1
         try clear hfz12_2
         try clear hfz12_3
         try clear hfz12_4
         try clear hfz12_5
         try clear hfz12_6
         try clear hfz12_7
         try clear hfz14_0
         try clear hfz14_1
         try clear hfz14_2
         try clear hfz14_3
         try clear hfz14_4
         try clear hfz14_5
         try clear hfz14_6
         try clear hfz14_7
         try clear hfz17_0
         try clear hfz17_1
         try clear hfz17_2
         try clear hfz17_3
         try clear hfz17_4
         try clear hfz17_5
         try clear hfz17_6
         try clear hfz17_7
         try clear hfz23_0
         try clear hfz23_1
         try clear hfz23_2
         try clear hfz23_3
         try clear hfz23_4
         try clear hfz23_5
         try clear hfz23_6
         try clear hfz23_7
         try clear hfz31_0
         try clear hfz31_1
         try clear hfz31_2
         try clear hfz31_3
         try clear hfz31_4
         try clear hfz31_5
         try clear hfz31_6
         try clear hfz31_7
         try clear hfz5_0
         try clear hfz5_1
         try clear hfz5_2
         try clear hfz5_3
         try clear hfz5_4
         try clear hfz5_5
         try clear hfz5_6
         try clear hfz5_7
         try clear hfz9_0
         try clear hfz9_1
         try clear hfz9_2
         try clear hfz9_3
         try clear hfz9_4
         try clear hfz9_5
         try clear hfz9_6
         try clear hfz9_7
         try clear hx358_0
         try clear hx359_0
         try clear p2
         try clear p358
         try clear p359
         try clear q358
         try clear q359
         obtain ⟨x78_3, rfl, HA, HK3, HO_3, HO_4, HO_7, HO_76, BK351, HB⟩ := hrel
         cases gk with
         | zero => exact absurd HA.out (by simp [impl_ShowBlock.l1])
         | succ k3 =>
          have H := HA.out
          clear HA
          simp only [impl_ShowBlock.l1] at H
          by_cases c34 : x78_3 < (y369.length : Int)
          ·rw [if_pos c34] at H
           have c34b0 : decide (x78_3 < (y369.length : Int)) = true := decide_eq_true c34
           clear c34
           by_cases c35 : 0 ≤ x78_3
           ·rw [if_pos c35] at H
            have c35b0 : decide (0 ≤ x78_3) = true := decide_eq_true c35
            clear c35
            by_cases c36 : x78_3 < (y369.length : Int)
            ·rw [if_pos c36] at H
             have c36b0 : decide (x78_3 < (y369.length : Int)) = true := decide_eq_true c36
             clear c36
             replace H := Option.bind_eq_some_iff.mp H
             obtain ⟨t373, A370, H⟩ := H
             try dsimp only at H
             have A37 := Aside0.mk A370
             clear A370
             have HC38 := Aside0.mk H
             clear H
             have p372 : 0 ≤ (x78_3 : Int) := od_
             have q372 : x78_3 < (y369.length : Int) := od_
             obtain ⟨ad372, e372, hx372_0⟩ := Kd.at_int (Kd.R_reads' HO_76.out).2.2 x78_3 p372 q372
             cases e372
             replace p372 := eq_true p372
             replace q372 := eq_true q372
             go_upto_if 84 with (first | ((with_reducible refine gate_callee (f := 20) rfl ?_); refine goesL_ (some 83) rfl rfl Tryd.func20 (by kernel_rfl) rfl #[.int .i64 (rd y369 x78_3), .int .i64 0, .int .i64 1099511627776] rfl Z2 ?_; (with_reducible refine (impl_within.calls (rd y369 x78_3) 0 1099511627776 t373 _ A37.out).mono ?_); rintro e w' ⟨rfl, ⟨nd, rfl⟩⟩; refine ⟨_, rfl, ?_⟩))
             (try simp only [Act.put, List.setIfInBounds_toArray, List.set_cons_zero, List.set_cons_succ])
             have H := HC38.out
             clear HC38
             by_cases c39 : t373 = true
             ·subst c39
              have H1 : (impl_ShowBlock.l1 k3 t352 x4_2 y366 y369 (y369.length : Int) (wrap64 (x78_3 + 1)) a0_0 a0_1 a0_2 a0_3 l0_4 l0_5 l0_6 a0_7) = some r := by rw [if_pos rfl] at H; exact H
              clear H
              have H := H1
              clear H1
              have H' := Aside0.mk H
              clear H
              go_wp2
              go_roundg k3
              case measure => have := HJ2.out; have := HK2.out; have := HK3.out; omega
              case rel => exact ⟨(wrap64 (x78_3 + 1)), Z4, H', ⟨(by have := HJ2.out; have := HK2.out; have := HK3.out; omega)⟩, ⟨J23⟩, ⟨J45⟩, ⟨(by (with_reducible repeat (first | apply Kd.R_alloc | apply Kd.R_drewN | apply Kd.R_drew)); exact HO_7.out)⟩, ⟨(by (with_reducible repeat (first | apply Kd.R_alloc | apply Kd.R_drewN | apply Kd.R_drew)); exact HO_76.out)⟩, ⟨J21⟩, ⟨J11⟩⟩
             ·replace c39 := Bool.eq_false_iff.mpr c39
              subst c39
              have H1 : (some (⟨#[]⟩ : ByteArray)) = some r := by rw [if_neg (show ¬ (false = true) by decide)] at H; exact H
              clear H
              have H := H1
              clear H1
              obtain rfl := Option.some.inj H
              go_wp2
              go_ret
              exact ⟨J0, J11⟩
            ·rw [if_neg c36] at H
             exact absurd H (by simp)
           ·rw [if_neg c35] at H
            exact absurd H (by simp)
          ·rw [if_neg c34] at H
           have c34b0 : decide (x78_3 < (y369.length : Int)) = false := decide_eq_false c34
           clear c34
           have H' := Aside0.mk H
           clear H
           obtain ⟨Ao40, co40, eo40⟩ := Kd.R_slice HO_4.out
           subst eo40
           go_wp2
           go_loopg [7, 88] k3 (fun kq v7 v88 w' => ∃ (x7_4 : List Int) (x88_4 : Int), v88 = .int .i64 x88_4 ∧ Aside0 (impl_ShowBlock.l2 kq t352 x7_4 x4_2 (x4_2.length : Int) x88_4 a0_0 a0_1 a0_2 a0_3 l0_4 l0_5 l0_6 a0_7 = some r) ∧ Aside0 (kq ≤ k3) ∧ Aside0 (Kd.R (Kd.int .u8) 5 w' w.heap.size (fun k_ => some k_ ≠ (v7 : Value).ownBlock) v353 t352) ∧ Aside0 (Kd.R (Kd.int .u8) 5 w' w.heap.size (fun k_ => some k_ ≠ (v353 : Value).ownBlock) v7 x7_4) ∧ Aside0 (Kd.R (Kd.int .i64) 2 w' w.heap.size (fun _ => True) (.slice Ao40 x4_2.length co40) x4_2) ∧ Aside0 (w'.heap[gb351]? = some (.cells #[.int .i64 a0_0, .int .i64 a0_1, .int .i64 a0_2, .int .i64 a0_3, (.slice A0_4 l0_4.length c0_4), (.slice A0_5 l0_5.length c0_5), (.slice A0_6 l0_6.length c0_6), .int .i64 a0_7] 29 (0, 0))) ∧ Aside0 (Below w.heap.size w w'))
           case atStart => exact ⟨(y366), (0), Z4, H', ⟨Nat.le_refl _⟩, ⟨J23⟩, ⟨(by (with_reducible repeat (first | apply Kd.R_alloc | apply Kd.R_drewN | apply Kd.R_drew)); exact HO_7.out)⟩, ⟨J45⟩, ⟨J21⟩, ⟨J11⟩⟩
           case round =>
            clear H'
            try clear c1
            try clear c2
            try clear p2
            try clear c3
            try clear p3
            try clear q3
            try clear hx3
            try clear c6
            try clear p6
            try clear c7
            try clear c7b0
            try clear c7b1
            try clear c7b2
            try clear c8
            try clear c8b0
            try clear c8b1
            try clear c13
            try clear c18
            try clear c18b0
            try clear c19
            try clear c19b0
            try clear c20
            try clear c20b0
            try clear c21
            try clear c21b0
            try clear c22
            try clear c28
            try clear c34
            try clear c34b0
            try clear c35
            try clear c35b0
            try clear p35
            try clear q35
            try clear hx35
            try clear c36
            try clear c36b0
            try clear p37
            try clear q37
            try clear hx37
            try clear c39
            try clear hcz10_0
            try clear hcz10_1
            try clear hcz10_2
            try clear hcz10_3
            try clear hcz10_4
            try clear hcz10_5
            try clear hcz10_6
            try clear hcz10_7
            try clear hcz12_0
            try clear hcz12_1
            try clear hcz12_2
            try clear hcz12_3
            try clear hcz12_4
            try clear hcz12_5
            try clear hcz12_6
            try clear hcz12_7
            try clear hcz14_0
            try clear hcz14_1
            try clear hcz14_2
            try clear hcz14_3
            try clear hcz14_4
            try clear hcz14_5
            try clear hcz14_6
            try clear hcz14_7
            try clear hcz17_0
            try clear hcz17_1
            try clear hcz17_2
            try clear hcz17_3
            try clear hcz17_4
            try clear hcz17_5
            try clear hcz17_6
            try clear hcz17_7
            try clear hcz23_0
            try clear hcz23_1
            try clear hcz23_2
            try clear hcz23_3
            try clear hcz23_4
            try clear hcz23_5
            try clear hcz23_6
            try clear hcz23_7
            try clear hcz31_0
            try clear hcz31_1
            try clear hcz31_2
            try clear hcz31_3
            try clear hcz31_4
            try clear hcz31_5
            try clear hcz31_6
            try clear hcz31_7
            try clear hcz5_0
            try clear hcz5_1
            try clear hcz5_2
            try clear hcz5_3
            try clear hcz5_4
            try clear hcz5_5
            try clear hcz5_6
            try clear hcz5_7
            try clear hcz9_0
            try clear hcz9_1
            try clear hcz9_2
            try clear hcz9_3
            try clear hcz9_4
            try clear hcz9_5
            try clear hcz9_6
            try clear hcz9_7
            try clear hfz10_0
            try clear hfz10_1
            try clear hfz10_2
            try clear hfz10_3
            try clear hfz10_4
            try clear hfz10_5
            try clear hfz10_6
            try clear hfz10_7
            try clear hfz12_0
            try clear hfz12_1
            try clear hfz12_2
            try clear hfz12_3
            try clear hfz12_4
            try clear hfz12_5
            try clear hfz12_6
            try clear hfz12_7
            try clear hfz14_0
            try clear hfz14_1
            try clear hfz14_2
            try clear hfz14_3
            try clear hfz14_4
            try clear hfz14_5
            try clear hfz14_6
            try clear hfz14_7
            try clear hfz17_0
            try clear hfz17_1
            try clear hfz17_2
            try clear hfz17_3
            try clear hfz17_4
            try clear hfz17_5
            try clear hfz17_6
            try clear hfz17_7
            try clear hfz23_0
            try clear hfz23_1
            try clear hfz23_2
            try clear hfz23_3
            try clear hfz23_4
            try clear hfz23_5
            try clear hfz23_6
            try clear hfz23_7
            try clear hfz31_0
            try clear hfz31_1
            try clear hfz31_2
            try clear hfz31_3
            try clear hfz31_4
            try clear hfz31_5
            try clear hfz31_6
            try clear hfz31_7
            try clear hfz5_0
            try clear hfz5_1
            try clear hfz5_2
            try clear hfz5_3
            try clear hfz5_4
            try clear hfz5_5
            try clear hfz5_6
            try clear hfz5_7
            try clear hfz9_0
            try clear hfz9_1
            try clear hfz9_2
            try clear hfz9_3
            try clear hfz9_4
            try clear hfz9_5
            try clear hfz9_6
            try clear hfz9_7
            try clear hx358_0
            try clear hx359_0
            try clear hx372_0
            try clear p2
            try clear p3
            try clear p358
            try clear p359
            try clear p372
            try clear p6
            try clear q3
            try clear q358
            try clear q359
            try clear q372
            obtain ⟨x7_4, x88_4, rfl, HA, HK4, HO_3, HO_7, HO_86, BK351, HB⟩ := hrel
            cases gk with
            | zero => exact absurd HA.out (by simp [impl_ShowBlock.l2])
            | succ k4 =>
             have H := HA.out
             clear HA
             simp only [impl_ShowBlock.l2] at H
             by_cases c41 : x88_4 < (x4_2.length : Int)
             ·rw [if_pos c41] at H
              have c41b0 : decide (x88_4 < (x4_2.length : Int)) = true := decide_eq_true c41
              clear c41
              by_cases c42 : 0 ≤ x88_4
              ·rw [if_pos c42] at H
               have c42b0 : decide (0 ≤ x88_4) = true := decide_eq_true c42
               clear c42
               by_cases c43 : x88_4 < (x4_2.length : Int)
               ·rw [if_pos c43] at H
                have c43b0 : decide (x88_4 < (x4_2.length : Int)) = true := decide_eq_true c43
                clear c43
                replace H := Option.bind_eq_some_iff.mp H
                obtain ⟨t375, A440, H⟩ := H
                try dsimp only at H
                have A44 := Aside0.mk A440
                clear A440
                by_cases c45 : x7_4.length + t375.length < 140737488355328
                ·rw [if_pos c45] at H
                 have LMc45 := Aside0.mk c45
                 clear c45
                 obtain ⟨y378, hy378⟩ : ∃ y_ : List Int, y_ = (x7_4 ++ t375) := ⟨_, rfl⟩
                 replace H : (impl_ShowBlock.l2 k4 t352 y378 x4_2 (x4_2.length : Int) (wrap64 (x88_4 + 1)) a0_0 a0_1 a0_2 a0_3 l0_4 l0_5 l0_6 a0_7) = some r := by first | (rw [hy378]; with_reducible exact H) | (have H2_ := (Option.bind_some _ _).symm.trans H; rw [hy378]; with_reducible exact H2_) | (have H2_ := (Option.bind_some _ _).symm.trans H; with_reducible exact H2_) | with_reducible exact H | (rw [hy378]; exact H) | exact H
                 have Ny378 := Aside0.mk hy378
                 clear hy378
                 have H' := Aside0.mk H
                 clear H
                 have p374 : 0 ≤ (x88_4 : Int) := od_
                 have q374 : x88_4 < (x4_2.length : Int) := od_
                 obtain ⟨ad374, e374, hx374_0⟩ := Kd.at_int (Kd.R_reads' HO_86.out).2.2 x88_4 p374 q374
                 cases e374
                 replace p374 := eq_true p374
                 replace q374 := eq_true q374
                 go_wp2_with (first | ((with_reducible refine gate_callee (f := 21) rfl ?_); refine goesL_ (some 94) rfl rfl Tryd.func21 (by kernel_rfl) rfl #[.int .i64 (rd x4_2 x88_4)] rfl Z2 ?_; (with_reducible refine (impl_Number.calls k4 (rd x4_2 x88_4) t375 _ A44.out).mono ?_); rintro e w46 ⟨v376, rfl, ho0, hb⟩; refine ⟨_, rfl, ?_⟩; replace HO_86 := Aside0.mk (Kd.R_below Z37 hb); have HO377 := Aside0.mk (Kd.R_lower (Kd.R_new' (Kd.R_new' ho0 (Kd.R_lt Z7)) (Kd.R_lt Z27)) (below_size Z6)); replace HO_3 := Aside0.mk (Kd.R_elder' Z7 (Kd.R_base ho0) hb); replace HO_7 := Aside0.mk (Kd.R_elder' Z27 (Kd.R_base ho0) hb); replace BK351 := Aside0.mk (blk_below (g := gb351) (o := .cells #[.int .i64 a0_0, .int .i64 a0_1, .int .i64 a0_2, .int .i64 a0_3, .slice A0_4 l0_4.length c0_4, .slice A0_5 l0_5.length c0_5, .slice A0_6 l0_6.length c0_6, .int .i64 a0_7] 29 (0, 0)) Z19 hb); replace HB := Aside0.mk (below_step Z6 hb); (try clear hb); (try clear hb2); (try clear hk); (try clear hi); (try clear ho0); obtain ⟨Ao48, co48, eo48⟩ := Kd.R_slice HO377.out; subst eo48) | ((with_reducible refine gate_builtin (b := .append) (xs := #[.tmp 92, .tmp 94]) rfl ?_); (try (refine gate_guard (by rfl) ?_; dsimp only)); at_builtin; refine Kd.R_append_rows (Kd.int .u8) (w0 := w) w.heap.size rfl (.tmp 92) (.tmp 94) 22 5 (.int .u8 0) 1 rfl Tryd.underlying22 info5 rfl (by decide) (by omega) u7 x7_4 t375 _ _ _ (fun k_ => some k_ ≠ (v353 : Value).ownBlock ∧ some k_ ≠ (.slice Ao48 t375.length co48 : Value).ownBlock) (fun _ => False) rfl rfl ?aO ?aR (fun _ _ h => h) (fun _ h => h.elim) ?aF ?aB ?aS ?aL ?_; (case aR => repeat (first | exact (Kd.R_reads' HO377.out).2.2 | (with_reducible refine Kd.C_alloc ?_ _) | (with_reducible refine Kd.C_drewN ?_ _) | (with_reducible refine Kd.C_drew ?_))); (case aB => exact Z6); (case aF => exact (fun k_ hk => ⟨Kd.fresh' (Kd.R_lt Z7) k_ hk, Kd.fresh' (Kd.R_lt (by (with_reducible repeat (first | apply Kd.R_alloc | apply Kd.R_drewN | apply Kd.R_drew)); exact HO377.out)) k_ hk⟩)); (case aO => exact Z27); (case aS => exact (below_size Z6)); (case aL => have := LMc45.out; omega); intro v379 w47 ho hb hg hat; rw [← Ny378.out] at ho; replace HO_3 := Aside0.mk (Kd.R_after (ok := (fun k_ => some k_ ≠ (.slice Ao48 t375.length co48 : Value).ownBlock)) (by (with_reducible repeat (first | apply Kd.R_alloc | apply Kd.R_drewN | apply Kd.R_drew)); exact Kd.R_mono HO_3.out (fun _ hk => And.intro hk.2 hk.1)) hg hat); replace HO_86 := Aside0.mk (Kd.R_over' Z37 (Kd.R_typed Z27) (by decide) hg); replace BK351 := Aside0.mk (blk_grown (g := gb351) (o := .cells #[.int .i64 a0_0, .int .i64 a0_1, .int .i64 a0_2, .int .i64 a0_3, .slice A0_4 l0_4.length c0_4, .slice A0_5 l0_5.length c0_5, .slice A0_6 l0_6.length c0_6, .int .i64 a0_7] 29 (0, 0)) Z19 hg (Kd.R_ne HO_7.out BK351.out (by decide))); replace HO377 := Aside0.mk (Kd.R_after (ok := (fun k_ => some k_ ≠ (v353 : Value).ownBlock)) (by (with_reducible repeat (first | apply Kd.R_alloc | apply Kd.R_drewN | apply Kd.R_drew)); exact Kd.R_mono HO377.out (fun _ hk => And.intro hk.1.2 hk.2)) hg hat); replace HB := Aside0.mk (hb); have HO380 := Aside0.mk (ho); clear HO_7; clear ho hb hg hat))
                 go_roundg k4
                 case measure => have := HJ2.out; have := HK2.out; have := HK3.out; have := HK4.out; omega
                 case rel => exact ⟨(y378), (wrap64 (x88_4 + 1)), Z4, H', ⟨(by have := HJ2.out; have := HK2.out; have := HK3.out; have := HK4.out; omega)⟩, ⟨(by (with_reducible repeat (first | apply Kd.R_alloc | apply Kd.R_drewN | apply Kd.R_drew)); exact Kd.R_mono HO_3.out (fun _ hk => hk.2))⟩, ⟨(by (with_reducible repeat (first | apply Kd.R_alloc | apply Kd.R_drewN | apply Kd.R_drew)); exact Kd.R_mono HO380.out (fun _ hk => hk.1))⟩, ⟨(by (with_reducible repeat (first | apply Kd.R_alloc | apply Kd.R_drewN | apply Kd.R_drew)); exact HO_86.out)⟩, ⟨J21⟩, ⟨J11⟩⟩
                ·rw [if_neg c45] at H
                 exact absurd H (by simp)
               ·rw [if_neg c43] at H
                exact absurd H (by simp)
              ·rw [if_neg c42] at H
               exact absurd H (by simp)
             ·rw [if_neg c41] at H
              have c41b0 : decide (x88_4 < (x4_2.length : Int)) = false := decide_eq_false c41
              clear c41
              by_cases c49 : x7_4.length + t352.length < 140737488355328
              ·rw [if_pos c49] at H
               have LMc49 := Aside0.mk c49
               clear c49
               obtain ⟨y381, hy381⟩ : ∃ y_ : List Int, y_ = (x7_4 ++ t352) := ⟨_, rfl⟩
               replace H : ((impl_Number.f k4 a0_7).bind fun t384 => (if y381.length + t384.length < 140737488355328 then (some (strOfNums (y381 ++ t384))) else (none))) = some r := by first | (rw [hy381]; with_reducible exact H) | (have H2_ := (Option.bind_some _ _).symm.trans H; rw [hy381]; with_reducible exact H2_) | (have H2_ := (Option.bind_some _ _).symm.trans H; with_reducible exact H2_) | with_reducible exact H | (rw [hy381]; exact H) | exact H
               have Ny381 := Aside0.mk hy381
               clear hy381
               replace H := Option.bind_eq_some_iff.mp H
               obtain ⟨t384, A500, H⟩ := H
               try dsimp only at H
               have A50 := Aside0.mk A500
               clear A500
               by_cases c51 : y381.length + t384.length < 140737488355328
               ·rw [if_pos c51] at H
                have LMc51 := Aside0.mk c51
                clear c51
                obtain ⟨y387, hy387⟩ : ∃ y_ : List Int, y_ = (y381 ++ t384) := ⟨_, rfl⟩
                replace H : (some (strOfNums y387)) = some r := by first | (rw [hy387]; with_reducible exact H) | (have H2_ := (Option.bind_some _ _).symm.trans H; rw [hy387]; with_reducible exact H2_) | (have H2_ := (Option.bind_some _ _).symm.trans H; with_reducible exact H2_) | with_reducible exact H | (rw [hy387]; exact H) | exact H
                have Ny387 := Aside0.mk hy387
                clear hy387
                obtain rfl := Option.some.inj H
                obtain ⟨Ao53, co53, eo53⟩ := Kd.R_slice HO_3.out
                subst eo53
                go_wp2_with (first | ((with_reducible refine gate_builtin (b := .append) (xs := #[.tmp 97, .tmp 98]) rfl ?_); (try (refine gate_guard (by rfl) ?_; dsimp only)); at_builtin; refine Kd.R_append_rows (Kd.int .u8) (w0 := w) w.heap.size rfl (.tmp 97) (.tmp 98) 22 5 (.int .u8 0) 1 rfl Tryd.underlying22 info5 rfl (by decide) (by omega) u7 x7_4 t352 _ _ _ (fun k_ => some k_ ≠ (.slice Ao53 t352.length co53 : Value).ownBlock) (fun _ => False) rfl rfl ?aO ?aR (fun _ _ h => h) (fun _ h => h.elim) ?aF ?aB ?aS ?aL ?_; (case aR => repeat (first | exact (Kd.R_reads' HO_3.out).2.2 | (with_reducible refine Kd.C_alloc ?_ _) | (with_reducible refine Kd.C_drewN ?_ _) | (with_reducible refine Kd.C_drew ?_))); (case aB => exact Z6); (case aF => exact (fun k_ hk => Kd.fresh' (Kd.R_lt Z7) k_ hk)); (case aO => exact Z27); (case aS => exact (below_size Z6)); (case aL => have := LMc49.out; omega); intro v382 w52 ho hb hg hat; rw [← Ny381.out] at ho; replace HO_3 := Aside0.mk (Kd.R_after (ok := (fun _ => True)) (by (with_reducible repeat (first | apply Kd.R_alloc | apply Kd.R_drewN | apply Kd.R_drew)); exact Kd.R_mono HO_3.out (fun _ hk => ⟨trivial, hk⟩)) hg hat); replace HO_86 := Aside0.mk (Kd.R_over' Z37 (Kd.R_typed Z27) (by decide) hg); replace BK351 := Aside0.mk (blk_grown (g := gb351) (o := .cells #[.int .i64 a0_0, .int .i64 a0_1, .int .i64 a0_2, .int .i64 a0_3, .slice A0_4 l0_4.length c0_4, .slice A0_5 l0_5.length c0_5, .slice A0_6 l0_6.length c0_6, .int .i64 a0_7] 29 (0, 0)) Z19 hg (Kd.R_ne HO_7.out BK351.out (by decide))); replace HB := Aside0.mk (hb); have HO383 := Aside0.mk (ho); clear HO_7; clear ho hb hg hat; have hcz54_0 : w52.cell? ⟨gb351, 0, none⟩ = some (.int .i64 a0_0) := (blk_cell BK351.out 0).trans rfl; have hcz54_1 : w52.cell? ⟨gb351, 1, none⟩ = some (.int .i64 a0_1) := (blk_cell BK351.out 1).trans rfl; have hcz54_2 : w52.cell? ⟨gb351, 2, none⟩ = some (.int .i64 a0_2) := (blk_cell BK351.out 2).trans rfl; have hcz54_3 : w52.cell? ⟨gb351, 3, none⟩ = some (.int .i64 a0_3) := (blk_cell BK351.out 3).trans rfl; have hcz54_4 : w52.cell? ⟨gb351, 4, none⟩ = some (.slice A0_4 l0_4.length c0_4) := (blk_cell BK351.out 4).trans rfl; have hcz54_5 : w52.cell? ⟨gb351, 5, none⟩ = some (.slice A0_5 l0_5.length c0_5) := (blk_cell BK351.out 5).trans rfl; have hcz54_6 : w52.cell? ⟨gb351, 6, none⟩ = some (.slice A0_6 l0_6.length c0_6) := (blk_cell BK351.out 6).trans rfl; have hcz54_7 : w52.cell? ⟨gb351, 7, none⟩ = some (.int .i64 a0_7) := (blk_cell BK351.out 7).trans rfl; have hfz54_0 := blk_frozen BK351.out 0; have hfz54_1 := blk_frozen BK351.out 1; have hfz54_2 := blk_frozen BK351.out 2; have hfz54_3 := blk_frozen BK351.out 3; have hfz54_4 := blk_frozen BK351.out 4; have hfz54_5 := blk_frozen BK351.out 5; have hfz54_6 := blk_frozen BK351.out 6; have hfz54_7 := blk_frozen BK351.out 7) | ((with_reducible refine gate_callee (f := 21) rfl ?_); refine goesL_ (some 103) rfl rfl Tryd.func21 (by kernel_rfl) rfl #[.int .i64 a0_7] rfl Z2 ?_; (with_reducible refine (impl_Number.calls k4 a0_7 t384 _ A50.out).mono ?_); rintro e w55 ⟨v385, rfl, ho0, hb⟩; refine ⟨_, rfl, ?_⟩; have HO386 := Aside0.mk (Kd.R_lower (Kd.R_new' ho0 (Kd.R_lt (by (with_reducible repeat (first | apply Kd.R_alloc | apply Kd.R_drewN | apply Kd.R_drew)); exact HO383.out))) (below_size Z6)); replace HO383 := Aside0.mk (Kd.R_elder' (by (with_reducible repeat (first | apply Kd.R_alloc | apply Kd.R_drewN | apply Kd.R_drew)); exact HO383.out) (Kd.R_base ho0) hb); replace BK351 := Aside0.mk (blk_below (g := gb351) (o := .cells #[.int .i64 a0_0, .int .i64 a0_1, .int .i64 a0_2, .int .i64 a0_3, .slice A0_4 l0_4.length c0_4, .slice A0_5 l0_5.length c0_5, .slice A0_6 l0_6.length c0_6, .int .i64 a0_7] 29 (0, 0)) Z19 hb); replace HB := Aside0.mk (below_step Z6 hb); (try clear hb); (try clear hb2); (try clear hk); (try clear hi); (try clear ho0); obtain ⟨Ao57, co57, eo57⟩ := Kd.R_slice HO386.out; subst eo57) | ((with_reducible refine gate_builtin (b := .append) (xs := #[.tmp 100, .tmp 103]) rfl ?_); (try (refine gate_guard (by rfl) ?_; dsimp only)); at_builtin; refine Kd.R_append_rows (Kd.int .u8) (w0 := w) w.heap.size rfl (.tmp 100) (.tmp 103) 22 5 (.int .u8 0) 1 rfl Tryd.underlying22 info5 rfl (by decide) (by omega) v382 y381 t384 _ _ _ (fun k_ => some k_ ≠ (.slice Ao57 t384.length co57 : Value).ownBlock) (fun _ => False) rfl rfl ?aO ?aR (fun _ _ h => h) (fun _ h => h.elim) ?aF ?aB ?aS ?aL ?_; (case aR => repeat (first | exact (Kd.R_reads' HO386.out).2.2 | (with_reducible refine Kd.C_alloc ?_ _) | (with_reducible refine Kd.C_drewN ?_ _) | (with_reducible refine Kd.C_drew ?_))); (case aB => exact Z0); (case aF => exact (fun k_ hk => Kd.fresh' (Kd.R_lt (by (with_reducible repeat (first | apply Kd.R_alloc | apply Kd.R_drewN | apply Kd.R_drew)); exact HO386.out)) k_ hk)); (case aO => exact (by (with_reducible repeat (first | apply Kd.R_alloc | apply Kd.R_drewN | apply Kd.R_drew)); exact Kd.R_mono HO383.out (fun _ hk => hk.2))); (case aS => exact (below_size Z0)); (case aL => have := LMc51.out; omega); intro v388 w56 ho hb hg hat; rw [← Ny387.out] at ho; replace HO386 := Aside0.mk (Kd.R_after (ok := (fun _ => True)) (by (with_reducible repeat (first | apply Kd.R_alloc | apply Kd.R_drewN | apply Kd.R_drew)); exact HO386.out) hg hat); replace HB := Aside0.mk (hb); have HO389 := Aside0.mk (ho); clear HO383; clear ho hb hg hat; have hcv58 := own_string (P := Tryd.prog) Tryd.underlying22 Tryd.underlying5 Tryd.underlying9 (Kd.own_of_R HO389.out)))
                go_ret
                exact ⟨J0, J1⟩
               ·rw [if_neg c51] at H
                exact absurd H (by simp)
              ·rw [if_neg c49] at H
               exact absurd H (by simp)
       ·rw [if_neg c28] at H
        exact absurd H (by simp)

end Go.Proofs.YtokhjhkkncbjeaaDoor.PFnBlocks
