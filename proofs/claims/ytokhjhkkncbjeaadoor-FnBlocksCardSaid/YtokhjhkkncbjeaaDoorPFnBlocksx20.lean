-- Written by a program of this session (wip/tools/pp.py over the kit's print).
import Derived.Test.YtokhjhkkncbjeaaDoorVFnBlocks
import Derived.Test.YtokhjhkkncbjeaaDoorPFnBlocksx0
import Derived.Test.YtokhjhkkncbjeaaDoorPFnBlocksx17
import Derived.Test.YtokhjhkkncbjeaaDoorPFnBlocksx18
import Derived.Test.YtokhjhkkncbjeaaDoorPFnBlocksx19
namespace Go.Proofs.YtokhjhkkncbjeaaDoor.PFnBlocks
open Go.RowKit Go.Proofs.YtokhjhkkncbjeaaDoorW.PrintWords Go.Proofs.YtokhjhkkncbjeaaDoorW.PrintLast Go.Proofs.YtokhjhkkncbjeaaDoorW.PrintMore
attribute [local go_sem] max2_int min2_int max_two min_two max_three min_three max_four min_four
attribute [local go_sem high] str_gtr str_leq str_geq
set_option linter.unusedVariables false
set_option linter.unusedSimpArgs false

/-! ### impl_ProofOk: function 37 -/
mutual
def impl_ProofOk.j0 : Nat → Int → Int → Bool → Int → Int → List Int → List Int → Option (Bool)
 | 0, _, _, _, _, _, _, _ => none
 | k + 1, x1, x5, x15, x632000, x632001, x632002, x632003 => if x15 = true then (some (decide (x5 > 0))) else (if (x632002.length : Int) < x5 then (impl_ProofOk.j1 k x1 true x632000 x632001 x632002 x632003) else (impl_ProofOk.j1 k x1 ((x632003.length : Int) != (x632002.length : Int)) x632000 x632001 x632002 x632003))
def impl_ProofOk.j1 : Nat → Int → Bool → Int → Int → List Int → List Int → Option (Bool)
 | 0, _, _, _, _, _, _ => none
 | k + 1, x1, x31, x632000, x632001, x632002, x632003 => if x31 = true then (some false) else (impl_ProofOk.l0 k x1 x632002 (x632002.length : Int) 0 x632000 x632001 x632002 x632003)
def impl_ProofOk.l0 : Nat → Int → List Int → Int → Int → Int → Int → List Int → List Int → Option (Bool)
 | 0, _, _, _, _, _, _, _, _ => none
 | k + 1, x1, x33, x34, x35, x632000, x632001, x632002, x632003 => if x35 < x34 then (if 0 ≤ x35 then (if x35 < (x33.length : Int) then (if x35 > 0 then (if 0 ≤ (wrap64 (x35 - 1)) then (if (wrap64 (x35 - 1)) < (x632002.length : Int) then (if (rd x632002 (wrap64 (x35 - 1))) ≥ (rd x33 x35) then (some false) else (if x35 < (x632003.length : Int) then ((impl_VoteOk.f k x632000 x632001 (rd x33 x35) (rd x632003 x35) x1).bind fun t637 => (if t637 = true then (impl_ProofOk.l0 k x1 x33 x34 (wrap64 (x35 + 1)) x632000 x632001 x632002 x632003) else (some false))) else (none))) else (none)) else (none)) else (if x35 < (x632003.length : Int) then ((impl_VoteOk.f k x632000 x632001 (rd x33 x35) (rd x632003 x35) x1).bind fun t639 => (if t639 = true then (impl_ProofOk.l0 k x1 x33 x34 (wrap64 (x35 + 1)) x632000 x632001 x632002 x632003) else (some false))) else (none))) else (none)) else (none)) else (some true)
end
def impl_ProofOk.f (k : Nat) (a0_0 : Int) (a0_1 : Int) (l0_2 : List Int) (l0_3 : List Int) (a1 : Int) : Option (Bool) := (impl_Quorum.f a1).bind fun t632 => (if t632 < 0 then (impl_ProofOk.j0 k a1 t632 true a0_0 a0_1 l0_2 l0_3) else ((impl_Proof_isFirst.f a0_0 a0_1 l0_2 l0_3).bind fun t633 => (impl_ProofOk.j0 k a1 t632 t633 a0_0 a0_1 l0_2 l0_3)))
theorem impl_ProofOk.mono_l : ∀ k, (∀ y0 y1 y2 y3 y4 y5 y6, LeO (impl_ProofOk.j0 k y0 y1 y2 y3 y4 y5 y6) (impl_ProofOk.j0 (k + 1) y0 y1 y2 y3 y4 y5 y6)) ∧ (∀ y0 y1 y2 y3 y4 y5, LeO (impl_ProofOk.j1 k y0 y1 y2 y3 y4 y5) (impl_ProofOk.j1 (k + 1) y0 y1 y2 y3 y4 y5)) ∧ (∀ y0 y1 y2 y3 y4 y5 y6 y7, LeO (impl_ProofOk.l0 k y0 y1 y2 y3 y4 y5 y6 y7) (impl_ProofOk.l0 (k + 1) y0 y1 y2 y3 y4 y5 y6 y7))
 | 0 => ⟨fun _ _ _ _ _ _ _ r h => by simp [impl_ProofOk.j0] at h, fun _ _ _ _ _ _ r h => by simp [impl_ProofOk.j1] at h, fun _ _ _ _ _ _ _ _ r h => by simp [impl_ProofOk.l0] at h⟩
 | k + 1 => by
  obtain ⟨ih0, ih1, ih2⟩ := impl_ProofOk.mono_l k
  refine ⟨?_, ?_, ?_⟩
  ·intro y0 y1 y2 y3 y4 y5 y6
   unfold impl_ProofOk.j0
   repeat' with_reducible first
   | exact ih0 _ _ _ _ _ _ _
   | exact ih1 _ _ _ _ _ _
   | exact ih2 _ _ _ _ _ _ _ _
   | exact impl_VoteOk.mono _ _ _ _ _ _
   | exact LeO.refl _
   | exact LeO.none _
   | refine LeO.ite ?_ ?_
   | refine LeO.bind ?_ (fun _ => ?_)
  ·intro y0 y1 y2 y3 y4 y5
   unfold impl_ProofOk.j1
   repeat' with_reducible first
   | exact ih0 _ _ _ _ _ _ _
   | exact ih1 _ _ _ _ _ _
   | exact ih2 _ _ _ _ _ _ _ _
   | exact impl_VoteOk.mono _ _ _ _ _ _
   | exact LeO.refl _
   | exact LeO.none _
   | refine LeO.ite ?_ ?_
   | refine LeO.bind ?_ (fun _ => ?_)
  ·intro y0 y1 y2 y3 y4 y5 y6 y7
   unfold impl_ProofOk.l0
   repeat' with_reducible first
   | exact ih0 _ _ _ _ _ _ _
   | exact ih1 _ _ _ _ _ _
   | exact ih2 _ _ _ _ _ _ _ _
   | exact impl_VoteOk.mono _ _ _ _ _ _
   | exact LeO.refl _
   | exact LeO.none _
   | refine LeO.ite ?_ ?_
   | refine LeO.bind ?_ (fun _ => ?_)
theorem impl_ProofOk.mono : ∀ a0 a1 a2 a3 a4 k, LeO (impl_ProofOk.f k a0 a1 a2 a3 a4) (impl_ProofOk.f (k + 1) a0 a1 a2 a3 a4) := by
 intro a0 a1 a2 a3 a4 k
 obtain ⟨ih0, ih1, ih2⟩ := impl_ProofOk.mono_l k
 unfold impl_ProofOk.f
 repeat' with_reducible first
   | exact ih0 _ _ _ _ _ _ _
   | exact ih1 _ _ _ _ _ _
   | exact ih2 _ _ _ _ _ _ _ _
   | exact impl_VoteOk.mono _ _ _ _ _ _
   | exact LeO.refl _
   | exact LeO.none _
   | refine LeO.ite ?_ ?_
   | refine LeO.bind ?_ (fun _ => ?_)
def impl_ProofOk.T9 : Bool × List (List Nat × List Nat) := (true, [([], []), ([0], [0]), ([1], [1]), ([2], [2]), ([3, 2], [2, 3]), ([2], [2]), ([5, 2], [2, 5]), ([4, 6, 2], [2, 4, 6]), ([7, 2], [2, 7]), ([2], [2]), ([8, 9, 2], [2, 8, 9]), ([2, 10], [2, 10]), ([11, 2], [11]), ([12], [12]), ([13, 12], [12, 13]), ([12], [12]), ([15, 12], [12, 15]), ([12], [12]), ([12], [12]), ([18, 12], [12, 18]), ([12], [12]), ([19, 20, 12], [12, 19, 20]), ([21, 12], [12, 21]), ([14, 16, 17, 22, 12], [12, 14, 16, 17, 22]), ([12], [12]), ([23, 24, 12, 12], [12, 23, 24]), ([25, 12], [12, 25]), ([12, 26], [12, 26])])
def impl_ProofOk.B9 : List Nat := [0, 1, 3, 7, 15, 7, 39, 127, 255, 7, 1023, 2047, 4095, 8191, 16383, 8191, 40959, 8191, 8191, 270335, 8191, 1843199, 3940351, 8388607, 8191, 33554431, 67108863, 134217727]
theorem impl_ProofOk.tab9 : rtab .any (opsOf Tryd.f37 9) = impl_ProofOk.T9 := by kernel_rfl
theorem impl_ProofOk.bits9 : waitsOk impl_ProofOk.T9.2 impl_ProofOk.B9 = true := by kernel_rfl
set_option maxHeartbeats 8000000 in
set_option maxRecDepth 100000 in
theorem impl_ProofOk.calls (k : Nat) (a0_0 : Int) (a0_1 : Int) (A0_2 : Option Addr) (c0_2 : Nat) (l0_2 : List Int) (A0_3 : Option Addr) (c0_3 : Nat) (l0_3 : List Int) (a1 : Int) (r : Bool) (w : World) (hr0_2 : Kd.C (Kd.int .i64) w A0_2 l0_2.length l0_2) (hc0_2 : l0_2.length ≤ c0_2) (hr0_3 : Kd.C (Kd.int .i64) w A0_3 l0_3.length l0_3) (hc0_3 : l0_3.length ≤ c0_3) (h : impl_ProofOk.f k a0_0 a0_1 l0_2 l0_3 a1 = some r) (hT : TabOk w) :
  Calls Tryd.prog 37 #[.agg #[.int .i64 a0_0, .int .i64 a0_1, .slice A0_2 l0_2.length c0_2, .slice A0_3 l0_3.length c0_3], .int .i64 a1] w fun e w' => e = .returned (.bool r) ∧ Below w.heap.size w w' := by
 have HT := Aside0.mk hT
 clear hT
 have hu26 := Tryd.underlying26
 have hu86 := Tryd.underlying86
 have HR0_2 := Aside0.mk hr0_2
 have HC0_2 := Aside0.mk hc0_2
 clear hr0_2 hc0_2
 have HR0_3 := Aside0.mk hr0_3
 have HC0_3 := Aside0.mk hc0_3
 clear hr0_3 hc0_3
 have HB := Aside0.mk (Below.refl w.heap.size w)
 have H : ((impl_Quorum.f a1).bind fun t632 => (if t632 < 0 then (impl_ProofOk.j0 k a1 t632 true a0_0 a0_1 l0_2 l0_3) else ((impl_Proof_isFirst.f a0_0 a0_1 l0_2 l0_3).bind fun t633 => (impl_ProofOk.j0 k a1 t632 t633 a0_0 a0_1 l0_2 l0_3)))) = some r := h
 clear h
 replace H := Option.bind_eq_some_iff.mp H
 obtain ⟨t632, A30, H⟩ := H
 try dsimp only at H
 have A3 := Aside0.mk A30
 clear A30
 have HC4 := Aside0.mk H
 clear H
 go_enter Tryd.func37, Tryd.ntmps37
 go_upto_region 2 with (first | ((with_reducible refine gate_dst (N := 2) rfl ?_); (try (refine gate_guard (by rfl) ?_; dsimp only)); refine box_event ?hg (N := 2) ?hd (cs := #[.int .i64 a0_0, .int .i64 a0_1, .slice A0_2 l0_2.length c0_2, .slice A0_3 l0_3.length c0_3]) (t := 26) ?hr ?_; (case hd => rfl); (case hg => rfl); (case hr => first | (go_simp; done) | (go_simp; rfl)); intro gb631 hg w5 hbox hb; have BK631 := Aside0.mk (hbox); have GW631 := Aside0.mk ((by rw [hg]; exact (below_size Z0) : w.heap.size ≤ gb631)); have GE631 := Aside0.mk ((by rw [hg]; exact (below_size Z0) : w.heap.size ≤ gb631)); replace HB := Aside0.mk (below_step Z0 hb); clear hb hbox hg) | ((with_reducible refine gate_callee (f := 57) rfl ?_); refine goesL_ (some 9) rfl rfl Tryd.func57 (by kernel_rfl) rfl #[.int .i64 a1] rfl Z2 ?_; (with_reducible refine (impl_Quorum.calls a1 t632 _ A3.out).mono ?_); rintro e w' ⟨rfl, ⟨nd, rfl⟩⟩; refine ⟨_, rfl, ?_⟩))
 (try simp only [Act.put, List.setIfInBounds_toArray, List.set_cons_zero, List.set_cons_succ])
 go_cut [15] (fun v15 wc => ∃ (kq : Nat) (x15_3 : Bool), v15 = .bool x15_3 ∧ Aside0 (impl_ProofOk.j0 kq a1 t632 x15_3 a0_0 a0_1 l0_2 l0_3 = some r) ∧ Aside0 (kq ≤ k) ∧ Aside0 (wc.heap[gb631]? = some (.cells #[.int .i64 a0_0, .int .i64 a0_1, (.slice A0_2 l0_2.length c0_2), (.slice A0_3 l0_3.length c0_3)] 26 (0, 0))) ∧ Aside0 (Below w.heap.size w wc))
 case first =>
  have H := HC4.out
  clear HC4
  by_cases c6 : t632 < 0
  ·rw [if_pos c6] at H
   have c6b0 : decide (t632 < 0) = true := decide_eq_true c6
   clear c6
   (first | rw [c6b0] | (simp only [i64_w, i32_w]; rw [c6b0]) | skip)
   have H' := Aside0.mk H
   clear H
   go_wp2
   go_meet
   case rel => exact ⟨_, (true), Z4, H', ⟨J32⟩, ⟨J25⟩, ⟨J7⟩⟩
  ·rw [if_neg c6] at H
   have c6b0 : decide (t632 < 0) = false := decide_eq_false c6
   clear c6
   (first | rw [c6b0] | (simp only [i64_w, i32_w]; rw [c6b0]) | skip)
   replace H := Option.bind_eq_some_iff.mp H
   obtain ⟨t633, A70, H⟩ := H
   try dsimp only at H
   have A7 := Aside0.mk A70
   clear A70
   have H' := Aside0.mk H
   clear H
   have hcz8_0 : w5.cell? ⟨gb631, 0, none⟩ = some (.int .i64 a0_0) := (blk_cell BK631.out 0).trans rfl
   have hcz8_1 : w5.cell? ⟨gb631, 1, none⟩ = some (.int .i64 a0_1) := (blk_cell BK631.out 1).trans rfl
   have hcz8_2 : w5.cell? ⟨gb631, 2, none⟩ = some (.slice A0_2 l0_2.length c0_2) := (blk_cell BK631.out 2).trans rfl
   have hcz8_3 : w5.cell? ⟨gb631, 3, none⟩ = some (.slice A0_3 l0_3.length c0_3) := (blk_cell BK631.out 3).trans rfl
   have hfz8_0 := blk_frozen BK631.out 0
   have hfz8_1 := blk_frozen BK631.out 1
   have hfz8_2 := blk_frozen BK631.out 2
   have hfz8_3 := blk_frozen BK631.out 3
   go_wp2_with (first | (go_at_call 58; (with_reducible refine (impl_Proof_isFirst.calls a0_0 a0_1 _ _ l0_2 _ _ l0_3 t633 _ ?side1 ?side2 ?side3 ?side4 A7.out).mono ?_); (case side1 => exact (by repeat (first | exact (Kd.C_below HR0_2.out HB.out) | (with_reducible refine Kd.C_alloc ?_ _) | (with_reducible refine Kd.C_drewN ?_ _) | (with_reducible refine Kd.C_drew ?_)))); (case side2 => exact HC0_2.out); (case side3 => exact (by repeat (first | exact (Kd.C_below HR0_3.out HB.out) | (with_reducible refine Kd.C_alloc ?_ _) | (with_reducible refine Kd.C_drewN ?_ _) | (with_reducible refine Kd.C_drew ?_)))); (case side4 => exact HC0_3.out); rintro e w9 ⟨rfl, hb⟩; replace BK631 := Aside0.mk (blk_below (g := gb631) (o := .cells #[.int .i64 a0_0, .int .i64 a0_1, .slice A0_2 l0_2.length c0_2, .slice A0_3 l0_3.length c0_3] 26 (0, 0)) Z28 hb); replace HB := Aside0.mk (below_step Z24 hb); (try clear hb); (try clear hb2); (try clear hk); (try clear hi)))
   go_meet
   case rel => exact ⟨_, (t633), Z4, H', ⟨J32⟩, ⟨J25⟩, ⟨J7⟩⟩
 case rest =>
  clear HC4
  try clear p2
  try clear c3
  try clear c5
  try clear c6
  try clear c6b0
  try clear hcz8_0
  try clear hcz8_1
  try clear hcz8_2
  try clear hcz8_3
  try clear hfz8_0
  try clear hfz8_1
  try clear hfz8_2
  try clear hfz8_3
  obtain ⟨kq, x15_3, rfl, HA, HJ3, BK631, HB⟩ := hcut
  cases kq with
  | zero => exact absurd HA.out (by simp [impl_ProofOk.j0])
  | succ kj3 =>
   have H := HA.out
   clear HA
   simp only [impl_ProofOk.j0] at H
   by_cases c10 : x15_3 = true
   ·subst c10
    have H1 : (some (decide (t632 > 0))) = some r := by rw [if_pos rfl] at H; exact H
    clear H
    have H := H1
    clear H1
    obtain rfl := Option.some.inj H
    go_wp2
    go_ret
    exact ⟨J0, J7⟩
   ·replace c10 := Bool.eq_false_iff.mpr c10
    subst c10
    have H1 : (if (l0_2.length : Int) < t632 then (impl_ProofOk.j1 kj3 a1 true a0_0 a0_1 l0_2 l0_3) else (impl_ProofOk.j1 kj3 a1 ((l0_3.length : Int) != (l0_2.length : Int)) a0_0 a0_1 l0_2 l0_3)) = some r := by rw [if_neg (show ¬ (false = true) by decide)] at H; exact H
    clear H
    have H := H1
    clear H1
    have HC11 := Aside0.mk H
    clear H
    go_upto_region 4 with (fail)
    go_cut [31] (fun v31 wc => ∃ (kq : Nat) (x31_10 : Bool), v31 = .bool x31_10 ∧ Aside0 (impl_ProofOk.j1 kq a1 x31_10 a0_0 a0_1 l0_2 l0_3 = some r) ∧ Aside0 (kq ≤ kj3) ∧ Aside0 (wc.heap[gb631]? = some (.cells #[.int .i64 a0_0, .int .i64 a0_1, (.slice A0_2 l0_2.length c0_2), (.slice A0_3 l0_3.length c0_3)] 26 (0, 0))) ∧ Aside0 (Below w.heap.size w wc))
    case first =>
     have H := HC11.out
     clear HC11
     by_cases c12 : (l0_2.length : Int) < t632
     ·rw [if_pos c12] at H
      have c12b0 : decide ((l0_2.length : Int) < t632) = true := decide_eq_true c12
      clear c12
      (first | rw [c12b0] | (simp only [i64_w, i32_w]; rw [c12b0]) | skip)
      have H' := Aside0.mk H
      clear H
      have hcz13_0 : wc.cell? ⟨gb631, 0, none⟩ = some (.int .i64 a0_0) := (blk_cell BK631.out 0).trans rfl
      have hcz13_1 : wc.cell? ⟨gb631, 1, none⟩ = some (.int .i64 a0_1) := (blk_cell BK631.out 1).trans rfl
      have hcz13_2 : wc.cell? ⟨gb631, 2, none⟩ = some (.slice A0_2 l0_2.length c0_2) := (blk_cell BK631.out 2).trans rfl
      have hcz13_3 : wc.cell? ⟨gb631, 3, none⟩ = some (.slice A0_3 l0_3.length c0_3) := (blk_cell BK631.out 3).trans rfl
      have hfz13_0 := blk_frozen BK631.out 0
      have hfz13_1 := blk_frozen BK631.out 1
      have hfz13_2 := blk_frozen BK631.out 2
      have hfz13_3 := blk_frozen BK631.out 3
      go_wp2
      go_meet
      case rel => exact ⟨_, (true), Z4, H', ⟨(by have := HJ3.out; first | omega | exact Nat.le_refl _)⟩, ⟨J25⟩, ⟨J7⟩⟩
     ·rw [if_neg c12] at H
      have c12b0 : decide ((l0_2.length : Int) < t632) = false := decide_eq_false c12
      clear c12
      (first | rw [c12b0] | (simp only [i64_w, i32_w]; rw [c12b0]) | skip)
      have H' := Aside0.mk H
      clear H
      have hcz14_0 : wc.cell? ⟨gb631, 0, none⟩ = some (.int .i64 a0_0) := (blk_cell BK631.out 0).trans rfl
      have hcz14_1 : wc.cell? ⟨gb631, 1, none⟩ = some (.int .i64 a0_1) := (blk_cell BK631.out 1).trans rfl
      have hcz14_2 : wc.cell? ⟨gb631, 2, none⟩ = some (.slice A0_2 l0_2.length c0_2) := (blk_cell BK631.out 2).trans rfl
      have hcz14_3 : wc.cell? ⟨gb631, 3, none⟩ = some (.slice A0_3 l0_3.length c0_3) := (blk_cell BK631.out 3).trans rfl
      have hfz14_0 := blk_frozen BK631.out 0
      have hfz14_1 := blk_frozen BK631.out 1
      have hfz14_2 := blk_frozen BK631.out 2
      have hfz14_3 := blk_frozen BK631.out 3
      go_wp2
      go_meet
      case rel => exact ⟨_, (((l0_3.length : Int) != (l0_2.length : Int))), Z4, H', ⟨(by have := HJ3.out; first | omega | exact Nat.le_refl _)⟩, ⟨J25⟩, ⟨J7⟩⟩
    case rest =>
     clear HC11
     try clear c1
     try clear p2
     try clear c3
     try clear c5
     try clear c6
     try clear c6b0
     try clear c10
     try clear c12
     try clear c12b0
     try clear hcz13_0
     try clear hcz13_1
     try clear hcz13_2
     try clear hcz13_3
     try clear hcz14_0
     try clear hcz14_1
     try clear hcz14_2
     try clear hcz14_3
     try clear hcz8_0
     try clear hcz8_1
     try clear hcz8_2
     try clear hcz8_3
     try clear hfz13_0
     try clear hfz13_1
     try clear hfz13_2
     try clear hfz13_3
     try clear hfz14_0
     try clear hfz14_1
     try clear hfz14_2
     try clear hfz14_3
     try clear hfz8_0
     try clear hfz8_1
     try clear hfz8_2
     try clear hfz8_3
     try clear p2
     obtain ⟨kq, x31_10, rfl, HA, HJ10, BK631, HB⟩ := hcut
     cases kq with
     | zero => exact absurd HA.out (by simp [impl_ProofOk.j1])
     | succ kj10 =>
      have H := HA.out
      clear HA
      simp only [impl_ProofOk.j1] at H
      by_cases c15 : x31_10 = true
      ·subst c15
       have H1 : (some false) = some r := by rw [if_pos rfl] at H; exact H
       clear H
       have H := H1
       clear H1
       obtain rfl := Option.some.inj H
       go_wp2
       go_ret
       exact ⟨J0, J7⟩
      ·replace c15 := Bool.eq_false_iff.mpr c15
       subst c15
       have H1 : (impl_ProofOk.l0 kj10 a1 l0_2 (l0_2.length : Int) 0 a0_0 a0_1 l0_2 l0_3) = some r := by rw [if_neg (show ¬ (false = true) by decide)] at H; exact H
       clear H
       have H := H1
       clear H1
       have H' := Aside0.mk H
       clear H
       have hcz16_0 : wc.cell? ⟨gb631, 0, none⟩ = some (.int .i64 a0_0) := (blk_cell BK631.out 0).trans rfl
       have hcz16_1 : wc.cell? ⟨gb631, 1, none⟩ = some (.int .i64 a0_1) := (blk_cell BK631.out 1).trans rfl
       have hcz16_2 : wc.cell? ⟨gb631, 2, none⟩ = some (.slice A0_2 l0_2.length c0_2) := (blk_cell BK631.out 2).trans rfl
       have hcz16_3 : wc.cell? ⟨gb631, 3, none⟩ = some (.slice A0_3 l0_3.length c0_3) := (blk_cell BK631.out 3).trans rfl
       have hfz16_0 := blk_frozen BK631.out 0
       have hfz16_1 := blk_frozen BK631.out 1
       have hfz16_2 := blk_frozen BK631.out 2
       have hfz16_3 := blk_frozen BK631.out 3
       go_wp2
       go_loopg [35] kj10 (fun kq v35 w' => ∃ (x35_3 : Int), v35 = .int .i64 x35_3 ∧ Aside0 (impl_ProofOk.l0 kq a1 l0_2 (l0_2.length : Int) x35_3 a0_0 a0_1 l0_2 l0_3 = some r) ∧ Aside0 (kq ≤ kj10) ∧ Aside0 (w'.heap[gb631]? = some (.cells #[.int .i64 a0_0, .int .i64 a0_1, (.slice A0_2 l0_2.length c0_2), (.slice A0_3 l0_3.length c0_3)] 26 (0, 0))) ∧ Aside0 (Below w.heap.size w w'))
       case atStart => exact ⟨(0), Z4, H', ⟨Nat.le_refl _⟩, ⟨J25⟩, ⟨J7⟩⟩
       case round =>
        clear H'
        try clear c1
        try clear p2
        try clear c3
        try clear c5
        try clear c6
        try clear c6b0
        try clear c10
        try clear c12
        try clear c12b0
        try clear c15
        try clear hcz13_0
        try clear hcz13_1
        try clear hcz13_2
        try clear hcz13_3
        try clear hcz14_0
        try clear hcz14_1
        try clear hcz14_2
        try clear hcz14_3
        try clear hcz16_0
        try clear hcz16_1
        try clear hcz16_2
        try clear hcz16_3
        try clear hcz8_0
        try clear hcz8_1
        try clear hcz8_2
        try clear hcz8_3
        try clear hfz13_0
        try clear hfz13_1
        try clear hfz13_2
        try clear hfz13_3
        try clear hfz14_0
        try clear hfz14_1
        try clear hfz14_2
        try clear hfz14_3
        try clear hfz16_0
        try clear hfz16_1
        try clear hfz16_2
        try clear hfz16_3
        try clear hfz8_0
        try clear hfz8_1
        try clear hfz8_2
        try clear hfz8_3
        try clear p2
        obtain ⟨x35_3, rfl, HA, HK3, BK631, HB⟩ := hrel
        cases gk with
        | zero => exact absurd HA.out (by simp [impl_ProofOk.l0])
        | succ k3 =>
         have H := HA.out
         clear HA
         simp only [impl_ProofOk.l0] at H
         by_cases c17 : x35_3 < (l0_2.length : Int)
         ·rw [if_pos c17] at H
          have c17b0 : decide (x35_3 < (l0_2.length : Int)) = true := decide_eq_true c17
          clear c17
          by_cases c18 : 0 ≤ x35_3
          ·rw [if_pos c18] at H
           have c18b0 : decide (0 ≤ x35_3) = true := decide_eq_true c18
           clear c18
           by_cases c19 : x35_3 < (l0_2.length : Int)
           ·rw [if_pos c19] at H
            have c19b0 : decide (x35_3 < (l0_2.length : Int)) = true := decide_eq_true c19
            clear c19
            by_cases c20 : x35_3 > 0
            ·rw [if_pos c20] at H
             have c20b0 : decide (0 < x35_3) = true := decide_eq_true c20
             clear c20
             obtain ⟨ji21, hji21⟩ : ∃ j_ : Int, (wrap64 (x35_3 - 1)) = j_ := ⟨_, rfl⟩
             replace H : (if 0 ≤ (ji21) then (if (ji21) < (l0_2.length : Int) then (if (rd l0_2 (ji21)) ≥ (rd l0_2 x35_3) then (some false) else (if x35_3 < (l0_3.length : Int) then ((impl_VoteOk.f k3 a0_0 a0_1 (rd l0_2 x35_3) (rd l0_3 x35_3) a1).bind fun t637 => (if t637 = true then (impl_ProofOk.l0 k3 a1 l0_2 (l0_2.length : Int) (wrap64 (x35_3 + 1)) a0_0 a0_1 l0_2 l0_3) else (some false))) else (none))) else (none)) else (none)) = some r := by first | (rw [hji21] at H; exact H) | (simp only [hji21] at H ⊢; exact H)
             have hji21w : (IntKind.i64.wrap (x35_3 - 1)) = ji21 := (i64_w _).trans hji21
             by_cases c22 : 0 ≤ (ji21)
             ·rw [if_pos c22] at H
              have c22b0 : decide (0 ≤ (ji21)) = true := decide_eq_true c22
              clear c22
              by_cases c23 : (ji21) < (l0_2.length : Int)
              ·rw [if_pos c23] at H
               have c23b0 : decide ((ji21) < (l0_2.length : Int)) = true := decide_eq_true c23
               clear c23
               by_cases c24 : (rd l0_2 (ji21)) ≥ (rd l0_2 x35_3)
               ·rw [if_pos c24] at H
                have c24b0 : decide ((rd l0_2 x35_3) ≤ (rd l0_2 (ji21))) = true := decide_eq_true c24
                clear c24
                obtain rfl := Option.some.inj H
                have p634 : 0 ≤ (x35_3 : Int) := od_
                have q634 : x35_3 < (l0_2.length : Int) := od_
                obtain ⟨ad634, e634, hx634_0⟩ := Kd.at_int HR0_2.out x35_3 p634 q634
                cases e634
                replace hx634_0 := (HB.out.cell (World.block_lt_of_cell? w _ hx634_0)).trans hx634_0
                replace p634 := eq_true p634
                replace q634 := eq_true q634
                try go_wp2
                replace BK631 := Aside0.mk (blk_drew BK631.out)
                replace HB := Aside0.mk (below_drew1 HB.out)
                have p635 : 0 ≤ ((ji21) : Int) := od_
                have q635 : (ji21) < (l0_2.length : Int) := od_
                obtain ⟨ad635, e635, hx635_0⟩ := Kd.at_int HR0_2.out (ji21) p635 q635
                have hw635_0 := hx635_0
                obtain rfl : ad634 = ad635 := (by injection e635)
                replace hx635_0 := (HB.out.cell (World.block_lt_of_cell? w _ hx635_0)).trans hx635_0
                replace p635 := eq_true p635
                replace q635 := eq_true q635
                refine wp_quiet_drawn (by kernel_rfl) (by kernel_rfl) ?_
                generalize wr.drew = w25 at BK631 HB hx635_0 ⊢
                have sq0_ : ∀ p_ : Bd w25, (w25.drewN p_.n).cell? ⟨gb631, 0, none⟩ = some (.int .i64 a0_0) := fun p_ => p_.cell ((blk_cell BK631.out 0).trans rfl)
                have sq1_ : ∀ p_ : Bd w25, (w25.drewN p_.n).cell? ⟨gb631, 1, none⟩ = some (.int .i64 a0_1) := fun p_ => p_.cell ((blk_cell BK631.out 1).trans rfl)
                have sq2_ : ∀ p_ : Bd w25, (w25.drewN p_.n).cell? ⟨gb631, 2, none⟩ = some (.slice (some ad634) l0_2.length c0_2) := fun p_ => p_.cell ((blk_cell BK631.out 2).trans rfl)
                have sq3_ : ∀ p_ : Bd w25, (w25.drewN p_.n).cell? ⟨gb631, 3, none⟩ = some (.slice A0_3 l0_3.length c0_3) := fun p_ => p_.cell ((blk_cell BK631.out 3).trans rfl)
                have sq4_ : ∀ p_ : Bd w25, (w25.drewN p_.n).cell? (ad634.add ((ji21)).toNat) = some (.int .i64 (rd l0_2 (ji21))) := fun p_ => p_.cell (((HB.out.cell (World.block_lt_of_cell? w _ hw635_0)).trans hw635_0))
                repeat (go_big_quiet_step (fail))
                refine wpQuiet_nil ?_
                clear sq0_ sq1_ sq2_ sq3_ sq4_
                rintro _ ⟨⟨nd⟩, rfl⟩
                try go_wp2
                go_ret
                exact ⟨(by first | rfl | (simp [errW_none, errW_some] <;> rfl) | (simp only [← hji21]; first | rfl | (simp [errW_none, errW_some] <;> rfl)) | (simp [*, errW_none, errW_some] <;> rfl)), J7⟩
               ·rw [if_neg c24] at H
                have c24b0 : decide ((rd l0_2 x35_3) ≤ (rd l0_2 (ji21))) = false := decide_eq_false c24
                clear c24
                by_cases c26 : x35_3 < (l0_3.length : Int)
                ·rw [if_pos c26] at H
                 have c26b0 : decide (x35_3 < (l0_3.length : Int)) = true := decide_eq_true c26
                 clear c26
                 replace H := Option.bind_eq_some_iff.mp H
                 obtain ⟨t637, A270, H⟩ := H
                 try dsimp only at H
                 have A27 := Aside0.mk A270
                 clear A270
                 have HC28 := Aside0.mk H
                 clear H
                 have p634 : 0 ≤ (x35_3 : Int) := od_
                 have q634 : x35_3 < (l0_2.length : Int) := od_
                 obtain ⟨ad634, e634, hx634_0⟩ := Kd.at_int HR0_2.out x35_3 p634 q634
                 cases e634
                 replace hx634_0 := (HB.out.cell (World.block_lt_of_cell? w _ hx634_0)).trans hx634_0
                 replace p634 := eq_true p634
                 replace q634 := eq_true q634
                 try go_wp2
                 replace BK631 := Aside0.mk (blk_drew BK631.out)
                 replace HB := Aside0.mk (below_drew1 HB.out)
                 have p635 : 0 ≤ ((ji21) : Int) := od_
                 have q635 : (ji21) < (l0_2.length : Int) := od_
                 obtain ⟨ad635, e635, hx635_0⟩ := Kd.at_int HR0_2.out (ji21) p635 q635
                 have hw635_0 := hx635_0
                 obtain rfl : ad634 = ad635 := (by injection e635)
                 replace hx635_0 := (HB.out.cell (World.block_lt_of_cell? w _ hx635_0)).trans hx635_0
                 replace p635 := eq_true p635
                 replace q635 := eq_true q635
                 have p636 : 0 ≤ (x35_3 : Int) := od_
                 have q636 : x35_3 < (l0_3.length : Int) := od_
                 obtain ⟨ad636, e636, hx636_0⟩ := Kd.at_int HR0_3.out x35_3 p636 q636
                 have hw636_0 := hx636_0
                 cases e636
                 replace hx636_0 := (HB.out.cell (World.block_lt_of_cell? w _ hx636_0)).trans hx636_0
                 replace p636 := eq_true p636
                 replace q636 := eq_true q636
                 refine wp_quiet_below (by kernel_rfl) (by kernel_rfl) ?_
                 generalize wr.drew = w29 at BK631 HB hx635_0 hx636_0 ⊢
                 have sq0_ : ∀ p_ : Bw w29, p_.W.cell? ⟨gb631, 0, none⟩ = some (.int .i64 a0_0) := fun p_ => p_.cell ((blk_cell BK631.out 0).trans rfl)
                 have sq1_ : ∀ p_ : Bw w29, p_.W.cell? ⟨gb631, 1, none⟩ = some (.int .i64 a0_1) := fun p_ => p_.cell ((blk_cell BK631.out 1).trans rfl)
                 have sq2_ : ∀ p_ : Bw w29, p_.W.cell? ⟨gb631, 2, none⟩ = some (.slice (some ad634) l0_2.length c0_2) := fun p_ => p_.cell ((blk_cell BK631.out 2).trans rfl)
                 have sq3_ : ∀ p_ : Bw w29, p_.W.cell? ⟨gb631, 3, none⟩ = some (.slice (some ad636) l0_3.length c0_3) := fun p_ => p_.cell ((blk_cell BK631.out 3).trans rfl)
                 have sq4_ : ∀ p_ : Bw w29, p_.W.cell? (ad634.add ((ji21)).toNat) = some (.int .i64 (rd l0_2 (ji21))) := fun p_ => p_.cell (((HB.out.cell (World.block_lt_of_cell? w _ hw635_0)).trans hw635_0))
                 have sq5_ : ∀ p_ : Bw w29, p_.W.cell? (ad636.add (x35_3).toNat) = some (.int .i64 (rd l0_3 x35_3)) := fun p_ => p_.cell (((HB.out.cell (World.block_lt_of_cell? w _ hw636_0)).trans hw636_0))
                 have eq59_ : ∀ args w, (callFunc 59 args).run Tryd.prog w = .ok (.enter 59 args) w := enters_ Tryd.func59 (by kernel_rfl) rfl
                 repeat (go_big_quiet_step ((rename_i p_; have hb := p_.h; have n0_ := Aside0.mk (blk_below (g := gb631) (o := .cells #[.int .i64 a0_0, .int .i64 a0_1, .slice (some ad634) l0_2.length c0_2, .slice (some ad636) l0_3.length c0_3] 26 (0, 0)) Z28 hb); have n1_ := Aside0.mk (below_step Z24 hb); have BK631 := n0_; have HB := n1_; go_at_fn 59; with_reducible exact Calls.bw (impl_VoteOk.calls k3 a0_0 a0_1 (rd l0_2 x35_3) (rd l0_3 x35_3) a1 t637 _ A27.out (tab_at HT.out Z8)))))
                 refine wpQuiet_nil ?_
                 clear sq0_ sq1_ sq2_ sq3_ sq4_ sq5_ eq59_
                 rintro w30 ⟨q_, hq_⟩
                 have hb := q_.h
                 rw [← hq_] at hb
                 clear hq_ q_
                 replace BK631 := Aside0.mk (blk_below (g := gb631) (o := .cells #[.int .i64 a0_0, .int .i64 a0_1, .slice (some ad634) l0_2.length c0_2, .slice (some ad636) l0_3.length c0_3] 26 (0, 0)) Z28 hb)
                 replace HB := Aside0.mk (below_step Z24 hb)
                 (try clear hb)
                 (try clear hb2)
                 (try clear hk)
                 (try clear hi)
                 go_upto_if 67 with (fail)
                 have H := HC28.out
                 clear HC28
                 by_cases c31 : t637 = true
                 ·subst c31
                  have H1 : (impl_ProofOk.l0 k3 a1 l0_2 (l0_2.length : Int) (wrap64 (x35_3 + 1)) a0_0 a0_1 l0_2 l0_3) = some r := by rw [if_pos rfl] at H; exact H
                  clear H
                  have H := H1
                  clear H1
                  have H' := Aside0.mk H
                  clear H
                  go_wp2
                  go_roundg k3
                  case measure => have := HJ3.out; have := HJ10.out; have := HK3.out; omega
                  case rel => exact ⟨(wrap64 (x35_3 + 1)), Z4, H', ⟨(by have := HJ3.out; have := HJ10.out; have := HK3.out; omega)⟩, ⟨J25⟩, ⟨J7⟩⟩
                 ·replace c31 := Bool.eq_false_iff.mpr c31
                  subst c31
                  have H1 : (some false) = some r := by rw [if_neg (show ¬ (false = true) by decide)] at H; exact H
                  clear H
                  have H := H1
                  clear H1
                  obtain rfl := Option.some.inj H
                  go_wp2
                  go_ret
                  exact ⟨(by first | rfl | (simp [errW_none, errW_some] <;> rfl) | (simp only [← hji21]; first | rfl | (simp [errW_none, errW_some] <;> rfl)) | (simp [*, errW_none, errW_some] <;> rfl)), J7⟩
                ·rw [if_neg c26] at H
                 exact absurd H (by simp)
              ·rw [if_neg c23] at H
               exact absurd H (by simp)
             ·rw [if_neg c22] at H
              exact absurd H (by simp)
            ·rw [if_neg c20] at H
             have c20b0 : decide (0 < x35_3) = false := decide_eq_false c20
             clear c20
             by_cases c32 : x35_3 < (l0_3.length : Int)
             ·rw [if_pos c32] at H
              have c32b0 : decide (x35_3 < (l0_3.length : Int)) = true := decide_eq_true c32
              clear c32
              replace H := Option.bind_eq_some_iff.mp H
              obtain ⟨t639, A330, H⟩ := H
              try dsimp only at H
              have A33 := Aside0.mk A330
              clear A330
              have HC34 := Aside0.mk H
              clear H
              have p634 : 0 ≤ (x35_3 : Int) := od_
              have q634 : x35_3 < (l0_2.length : Int) := od_
              obtain ⟨ad634, e634, hx634_0⟩ := Kd.at_int HR0_2.out x35_3 p634 q634
              cases e634
              replace hx634_0 := (HB.out.cell (World.block_lt_of_cell? w _ hx634_0)).trans hx634_0
              replace p634 := eq_true p634
              replace q634 := eq_true q634
              try go_wp2
              replace BK631 := Aside0.mk (blk_drew BK631.out)
              replace HB := Aside0.mk (below_drew1 HB.out)
              have p638 : 0 ≤ (x35_3 : Int) := od_
              have q638 : x35_3 < (l0_3.length : Int) := od_
              obtain ⟨ad638, e638, hx638_0⟩ := Kd.at_int HR0_3.out x35_3 p638 q638
              have hw638_0 := hx638_0
              cases e638
              replace hx638_0 := (HB.out.cell (World.block_lt_of_cell? w _ hx638_0)).trans hx638_0
              replace p638 := eq_true p638
              replace q638 := eq_true q638
              refine wp_quiet_below (by kernel_rfl) (by kernel_rfl) ?_
              generalize wr.drew = w35 at BK631 HB hx638_0 ⊢
              have sq0_ : ∀ p_ : Bw w35, p_.W.cell? ⟨gb631, 0, none⟩ = some (.int .i64 a0_0) := fun p_ => p_.cell ((blk_cell BK631.out 0).trans rfl)
              have sq1_ : ∀ p_ : Bw w35, p_.W.cell? ⟨gb631, 1, none⟩ = some (.int .i64 a0_1) := fun p_ => p_.cell ((blk_cell BK631.out 1).trans rfl)
              have sq2_ : ∀ p_ : Bw w35, p_.W.cell? ⟨gb631, 2, none⟩ = some (.slice (some ad634) l0_2.length c0_2) := fun p_ => p_.cell ((blk_cell BK631.out 2).trans rfl)
              have sq3_ : ∀ p_ : Bw w35, p_.W.cell? ⟨gb631, 3, none⟩ = some (.slice (some ad638) l0_3.length c0_3) := fun p_ => p_.cell ((blk_cell BK631.out 3).trans rfl)
              have sq4_ : ∀ p_ : Bw w35, p_.W.cell? (ad638.add (x35_3).toNat) = some (.int .i64 (rd l0_3 x35_3)) := fun p_ => p_.cell (((HB.out.cell (World.block_lt_of_cell? w _ hw638_0)).trans hw638_0))
              have eq59_ : ∀ args w, (callFunc 59 args).run Tryd.prog w = .ok (.enter 59 args) w := enters_ Tryd.func59 (by kernel_rfl) rfl
              repeat (go_big_quiet_step ((rename_i p_; have hb := p_.h; have n0_ := Aside0.mk (blk_below (g := gb631) (o := .cells #[.int .i64 a0_0, .int .i64 a0_1, .slice (some ad634) l0_2.length c0_2, .slice (some ad638) l0_3.length c0_3] 26 (0, 0)) Z28 hb); have n1_ := Aside0.mk (below_step Z24 hb); have BK631 := n0_; have HB := n1_; go_at_fn 59; with_reducible exact Calls.bw (impl_VoteOk.calls k3 a0_0 a0_1 (rd l0_2 x35_3) (rd l0_3 x35_3) a1 t639 _ A33.out (tab_at HT.out Z8)))))
              refine wpQuiet_nil ?_
              clear sq0_ sq1_ sq2_ sq3_ sq4_ eq59_
              rintro w36 ⟨q_, hq_⟩
              have hb := q_.h
              rw [← hq_] at hb
              clear hq_ q_
              replace BK631 := Aside0.mk (blk_below (g := gb631) (o := .cells #[.int .i64 a0_0, .int .i64 a0_1, .slice (some ad634) l0_2.length c0_2, .slice (some ad638) l0_3.length c0_3] 26 (0, 0)) Z28 hb)
              replace HB := Aside0.mk (below_step Z24 hb)
              (try clear hb)
              (try clear hb2)
              (try clear hk)
              (try clear hi)
              go_upto_if 67 with (fail)
              have H := HC34.out
              clear HC34
              by_cases c37 : t639 = true
              ·subst c37
               have H1 : (impl_ProofOk.l0 k3 a1 l0_2 (l0_2.length : Int) (wrap64 (x35_3 + 1)) a0_0 a0_1 l0_2 l0_3) = some r := by rw [if_pos rfl] at H; exact H
               clear H
               have H := H1
               clear H1
               have H' := Aside0.mk H
               clear H
               go_wp2
               go_roundg k3
               case measure => have := HJ3.out; have := HJ10.out; have := HK3.out; omega
               case rel => exact ⟨(wrap64 (x35_3 + 1)), Z4, H', ⟨(by have := HJ3.out; have := HJ10.out; have := HK3.out; omega)⟩, ⟨J25⟩, ⟨J7⟩⟩
              ·replace c37 := Bool.eq_false_iff.mpr c37
               subst c37
               have H1 : (some false) = some r := by rw [if_neg (show ¬ (false = true) by decide)] at H; exact H
               clear H
               have H := H1
               clear H1
               obtain rfl := Option.some.inj H
               go_wp2
               go_ret
               exact ⟨J0, J7⟩
             ·rw [if_neg c32] at H
              exact absurd H (by simp)
           ·rw [if_neg c19] at H
            exact absurd H (by simp)
          ·rw [if_neg c18] at H
           exact absurd H (by simp)
         ·rw [if_neg c17] at H
          have c17b0 : decide (x35_3 < (l0_2.length : Int)) = false := decide_eq_false c17
          clear c17
          obtain rfl := Option.some.inj H
          go_wp2
          go_ret
          exact ⟨J0, J7⟩

end Go.Proofs.YtokhjhkkncbjeaaDoor.PFnBlocks
