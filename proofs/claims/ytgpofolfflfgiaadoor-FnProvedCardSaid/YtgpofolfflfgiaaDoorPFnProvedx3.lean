-- Written by a program of this session (wip/tools/pp.py over the kit's print).
import Derived.Test.YtgpofolfflfgiaaDoorPFnProvedx0
import Derived.Test.YtgpofolfflfgiaaDoorPFnProvedx2
namespace Go.Proofs.YtgpofolfflfgiaaDoor.PFnProved
open Go.RowKit Go.Proofs.YtgpofolfflfgiaaDoorW.PrintWords Go.Proofs.YtgpofolfflfgiaaDoorW.PrintLast Go.Proofs.YtgpofolfflfgiaaDoorW.PrintMore
attribute [local go_sem] max2_int min2_int max_two min_two max_three min_three max_four min_four
attribute [local go_sem high] str_gtr str_leq str_geq
set_option linter.unusedVariables false
set_option linter.unusedSimpArgs false

/-! ### spec_LeavesOk: function 20 -/
def spec_LeavesOk.l0 : Nat → List (S42) → Int → Option (Bool)
 | 0, _, _ => none
 | k + 1, x0, x3 => if x3 < (x0.length : Int) then (if 0 ≤ x3 then ((spec_l1In.f ((rd_T42 x0 x3).f0) 0 255).bind fun t105 => (if t105 = true then ((spec_l12Value.f ((rd_T42 x0 x3).f1)).bind fun t107 => (if t107 = true then (if x3 > 0 then (if 0 ≤ (wrap64 (x3 - 1)) then (if (wrap64 (x3 - 1)) < (x0.length : Int) then (if ((rd_T42 x0 x3).f0) ≤ ((rd_T42 x0 (wrap64 (x3 - 1))).f0) then (some false) else (spec_LeavesOk.l0 k x0 (wrap64 (x3 + 1)))) else (none)) else (none)) else (spec_LeavesOk.l0 k x0 (wrap64 (x3 + 1)))) else (some false))) else (some false))) else (none)) else (some true)
def spec_LeavesOk.f (k : Nat) (l0 : List (S42)) : Option (Bool) := spec_LeavesOk.l0 k l0 0
theorem spec_LeavesOk.mono_l : ∀ k, (∀ y0 y1, LeO (spec_LeavesOk.l0 k y0 y1) (spec_LeavesOk.l0 (k + 1) y0 y1))
 | 0 => fun _ _ r h => by simp [spec_LeavesOk.l0] at h
 | k + 1 => by
  have ih0 := spec_LeavesOk.mono_l k
  ·intro y0 y1
   unfold spec_LeavesOk.l0
   repeat' first
   | (with_reducible exact ih0 _ _)
   | (with_reducible exact LeO.refl _)
   | (with_reducible exact LeO.none _)
   | (with_reducible refine LeO.ite ?_ ?_)
   | (with_reducible refine LeO.bind ?_ (fun _ => ?_))
   | exact ih0 _ _
   | exact LeO.none _
   | refine LeO.ite ?_ ?_
   | refine LeO.bind ?_ (fun _ => ?_)
theorem spec_LeavesOk.mono : ∀ a0 k, LeO (spec_LeavesOk.f k a0) (spec_LeavesOk.f (k + 1) a0) := by
 intro a0 k
 have ih0 := spec_LeavesOk.mono_l k
 unfold spec_LeavesOk.f
 repeat' first
   | (with_reducible exact ih0 _ _)
   | (with_reducible exact LeO.refl _)
   | (with_reducible exact LeO.none _)
   | (with_reducible refine LeO.ite ?_ ?_)
   | (with_reducible refine LeO.bind ?_ (fun _ => ?_))
   | exact ih0 _ _
   | exact LeO.none _
   | refine LeO.ite ?_ ?_
   | refine LeO.bind ?_ (fun _ => ?_)
def spec_LeavesOk.T4 : Bool × List (List Nat × List Nat) := (true, [([], []), ([], []), ([0, 1], [0, 1]), ([2], [2]), ([3], [3]), ([4], [4]), ([5], [5]), ([6, 5], [6]), ([7], [7]), ([7], [7]), ([8, 9, 7], [7, 8, 9]), ([10, 7], [7, 10]), ([11, 7], [7, 11]), ([12, 7, 7], [7, 12]), ([13, 7], [7, 13]), ([7, 14], [7, 14]), ([15, 13], [15]), ([16], [16]), ([17, 16], [16, 17]), ([18, 16, 16], [16, 18]), ([19], [19]), ([19], [19]), ([20, 21, 19], [19, 20, 21]), ([22, 19], [19, 22]), ([23, 19], [19, 23]), ([19], [19]), ([19], [19]), ([26, 19], [19, 26]), ([25, 27, 19], [19, 25, 27]), ([28, 19], [19, 28]), ([29, 19], [19, 29]), ([24, 30, 19], [19, 24, 30]), ([19, 31, 16], [16, 19, 31]), ([16, 32], [16, 32])])
def spec_LeavesOk.B4 : List Nat := [0, 0, 3, 7, 15, 31, 63, 127, 255, 255, 1023, 2047, 4095, 8191, 16383, 32767, 65535, 131071, 262143, 524287, 1048575, 1048575, 4194303, 8388607, 16777215, 1048575, 1048575, 68157439, 235929599, 504365055, 1041235967, 2147483647, 4294967295, 8589934591]
theorem spec_LeavesOk.tab4 : rtab .any (opsOf Tryd.f20 4) = spec_LeavesOk.T4 := by kernel_rfl
theorem spec_LeavesOk.bits4 : waitsOk spec_LeavesOk.T4.2 spec_LeavesOk.B4 = true := by kernel_rfl
set_option maxHeartbeats 8000000 in
set_option maxRecDepth 100000 in
theorem spec_LeavesOk.calls (k : Nat) (A0 : Option Addr) (c0 : Nat) (l0 : List (S42)) (r : Bool) (w : World) (hr0 : Kd.C k42 w A0 l0.length l0) (hc0 : l0.length ≤ c0) (h : spec_LeavesOk.f k l0 = some r) :
  Calls Tryd.prog 20 #[.slice A0 l0.length c0] w fun e w' => e = .returned (.bool r) ∧ Below w.heap.size w w' := by
 have HR0 := Aside0.mk hr0
 have HC0 := Aside0.mk hc0
 clear hr0 hc0
 have HB := Aside0.mk (Below.refl w.heap.size w)
 have H : (spec_LeavesOk.l0 k l0 0) = some r := h
 clear h
 have H' := Aside0.mk H
 clear H
 go_enter Tryd.func20, Tryd.ntmps20
 go_wp2
 go_loopg [3] k (fun kq v3 w' => ∃ (x3_1 : Int), v3 = .int .i64 x3_1 ∧ Aside0 (spec_LeavesOk.l0 kq l0 x3_1 = some r) ∧ Aside0 (kq ≤ k) ∧ Aside0 (Below w.heap.size w w'))
 case atStart => exact ⟨(0), (by first | rfl | (simp; done) | (simp [*]; done)), H', ⟨Nat.le_refl _⟩, ⟨by repeat (first | (with_reducible first | exact HB.out | apply below_alloc | apply pw_below_drewN | apply below_drew1) | exact HB.out)⟩⟩
 case round =>
  clear H'
  obtain ⟨x3_1, rfl, HA, HK1, HB⟩ := hrel
  cases gk with
  | zero => exact absurd HA.out (by simp [spec_LeavesOk.l0])
  | succ k1 =>
   have H := HA.out
   clear HA
   simp only [spec_LeavesOk.l0] at H
   by_cases c2 : x3_1 < (l0.length : Int)
   ·rw [if_pos c2] at H
    have c2b0 : decide (x3_1 < (l0.length : Int)) = true := decide_eq_true c2
    clear c2
    by_cases c3 : 0 ≤ x3_1
    ·rw [if_pos c3] at H
     have c3b0 : decide (0 ≤ x3_1) = true := decide_eq_true c3
     clear c3
     replace H := Option.bind_eq_some_iff.mp H
     obtain ⟨t105, A40, H⟩ := H
     replace H : (if t105 = true then ((spec_l12Value.f ((rd_T42 l0 x3_1).f1)).bind fun t107 => (if t107 = true then (if x3_1 > 0 then (if 0 ≤ (wrap64 (x3_1 - 1)) then (if (wrap64 (x3_1 - 1)) < (l0.length : Int) then (if ((rd_T42 l0 x3_1).f0) ≤ ((rd_T42 l0 (wrap64 (x3_1 - 1))).f0) then (some false) else (spec_LeavesOk.l0 k1 l0 (wrap64 (x3_1 + 1)))) else (none)) else (none)) else (spec_LeavesOk.l0 k1 l0 (wrap64 (x3_1 + 1)))) else (some false))) else (some false)) = some r := H
     have A4 := Aside0.mk A40
     clear A40
     by_cases c5 : t105 = true
     ·subst c5
      have H1 : ((spec_l12Value.f ((rd_T42 l0 x3_1).f1)).bind fun t107 => (if t107 = true then (if x3_1 > 0 then (if 0 ≤ (wrap64 (x3_1 - 1)) then (if (wrap64 (x3_1 - 1)) < (l0.length : Int) then (if ((rd_T42 l0 x3_1).f0) ≤ ((rd_T42 l0 (wrap64 (x3_1 - 1))).f0) then (some false) else (spec_LeavesOk.l0 k1 l0 (wrap64 (x3_1 + 1)))) else (none)) else (none)) else (spec_LeavesOk.l0 k1 l0 (wrap64 (x3_1 + 1)))) else (some false))) = some r := by rw [if_pos rfl] at H; exact H
      clear H
      have H := H1
      clear H1
      replace H := Option.bind_eq_some_iff.mp H
      obtain ⟨t107, A60, H⟩ := H
      replace H : (if t107 = true then (if x3_1 > 0 then (if 0 ≤ (wrap64 (x3_1 - 1)) then (if (wrap64 (x3_1 - 1)) < (l0.length : Int) then (if ((rd_T42 l0 x3_1).f0) ≤ ((rd_T42 l0 (wrap64 (x3_1 - 1))).f0) then (some false) else (spec_LeavesOk.l0 k1 l0 (wrap64 (x3_1 + 1)))) else (none)) else (none)) else (spec_LeavesOk.l0 k1 l0 (wrap64 (x3_1 + 1)))) else (some false)) = some r := H
      have A6 := Aside0.mk A60
      clear A60
      by_cases c7 : t107 = true
      ·subst c7
       have H1 : (if x3_1 > 0 then (if 0 ≤ (wrap64 (x3_1 - 1)) then (if (wrap64 (x3_1 - 1)) < (l0.length : Int) then (if ((rd_T42 l0 x3_1).f0) ≤ ((rd_T42 l0 (wrap64 (x3_1 - 1))).f0) then (some false) else (spec_LeavesOk.l0 k1 l0 (wrap64 (x3_1 + 1)))) else (none)) else (none)) else (spec_LeavesOk.l0 k1 l0 (wrap64 (x3_1 + 1)))) = some r := by rw [if_pos rfl] at H; exact H
       clear H
       have H := H1
       clear H1
       by_cases c8 : x3_1 > 0
       ·rw [if_pos c8] at H
        have c8b0 : decide (0 < x3_1) = true := decide_eq_true c8
        clear c8
        obtain ⟨ji9, hji9⟩ : ∃ j_ : Int, (wrap64 (x3_1 - 1)) = j_ := ⟨_, rfl⟩
        replace H : (if 0 ≤ (ji9) then (if (ji9) < (l0.length : Int) then (if ((rd_T42 l0 x3_1).f0) ≤ ((rd_T42 l0 (ji9)).f0) then (some false) else (spec_LeavesOk.l0 k1 l0 (wrap64 (x3_1 + 1)))) else (none)) else (none)) = some r := by first | (rw [hji9] at H; exact H) | (simp only [hji9] at H ⊢; exact H)
        (try rw [hji9] at A4)
        (try rw [hji9] at A6)
        have hji9w : (IntKind.i64.wrap (x3_1 - 1)) = ji9 := (i64_w _).trans hji9
        by_cases c10 : 0 ≤ (ji9)
        ·rw [if_pos c10] at H
         have c10b0 : decide (0 ≤ (ji9)) = true := decide_eq_true c10
         clear c10
         by_cases c11 : (ji9) < (l0.length : Int)
         ·rw [if_pos c11] at H
          have c11b0 : decide ((ji9) < (l0.length : Int)) = true := decide_eq_true c11
          clear c11
          have HC12 := Aside0.mk H
          clear H
          try go_wp2
          have n0_ := Aside0.mk (below_drew1 HB.out)
          clear HB
          have HB := n0_
          clear n0_
          have p104 : 0 ≤ (x3_1 : Int) := of_decide_eq_true (by first | (with_reducible assumption) | assumption)
          have q104 : x3_1 < (l0.length : Int) := of_decide_eq_true (by first | (with_reducible assumption) | assumption)
          obtain ⟨ad104, e104, hx104_0, hx104_1⟩ := at_T42 HR0.out x3_1 p104 q104
          have hw104_1 := hx104_1
          have hw104_0 := hx104_0
          cases e104
          replace hx104_0 := (HB.out.cell (World.block_lt_of_cell? w _ hx104_0)).trans hx104_0
          replace hx104_1 := (HB.out.cell (World.block_lt_of_cell? w _ hx104_1)).trans hx104_1
          replace p104 := eq_true p104
          replace q104 := eq_true q104
          have p106 : 0 ≤ (x3_1 : Int) := of_decide_eq_true (by first | (with_reducible assumption) | assumption)
          have q106 : x3_1 < (l0.length : Int) := of_decide_eq_true (by first | (with_reducible assumption) | assumption)
          obtain ⟨ad106, e106, hx106_0, hx106_1⟩ := at_T42 HR0.out x3_1 p106 q106
          have hw106_1 := hx106_1
          have hw106_0 := hx106_0
          obtain rfl : ad104 = ad106 := (by injection e106)
          replace hx106_0 := (HB.out.cell (World.block_lt_of_cell? w _ hx106_0)).trans hx106_0
          replace hx106_1 := (HB.out.cell (World.block_lt_of_cell? w _ hx106_1)).trans hx106_1
          replace p106 := eq_true p106
          replace q106 := eq_true q106
          have p108 : 0 ≤ (x3_1 : Int) := of_decide_eq_true (by first | (with_reducible assumption) | assumption)
          have q108 : x3_1 < (l0.length : Int) := of_decide_eq_true (by first | (with_reducible assumption) | assumption)
          obtain ⟨ad108, e108, hx108_0, hx108_1⟩ := at_T42 HR0.out x3_1 p108 q108
          have hw108_1 := hx108_1
          have hw108_0 := hx108_0
          obtain rfl : ad104 = ad108 := (by injection e108)
          replace hx108_0 := (HB.out.cell (World.block_lt_of_cell? w _ hx108_0)).trans hx108_0
          replace hx108_1 := (HB.out.cell (World.block_lt_of_cell? w _ hx108_1)).trans hx108_1
          replace p108 := eq_true p108
          replace q108 := eq_true q108
          have p109 : 0 ≤ ((ji9) : Int) := of_decide_eq_true (by first | (with_reducible assumption) | assumption)
          have q109 : (ji9) < (l0.length : Int) := of_decide_eq_true (by first | (with_reducible assumption) | assumption)
          obtain ⟨ad109, e109, hx109_0, hx109_1⟩ := at_T42 HR0.out (ji9) p109 q109
          have hw109_1 := hx109_1
          have hw109_0 := hx109_0
          obtain rfl : ad104 = ad109 := (by injection e109)
          replace hx109_0 := (HB.out.cell (World.block_lt_of_cell? w _ hx109_0)).trans hx109_0
          replace hx109_1 := (HB.out.cell (World.block_lt_of_cell? w _ hx109_1)).trans hx109_1
          replace p109 := eq_true p109
          replace q109 := eq_true q109
          refine start_ (n := 34) (S := fun w' => w'.cell? (ad104.add ((x3_1).toNat * 2)) = some (.int .i64 ((rd_T42 l0 x3_1).f0)) ∧ w'.cell? ⟨(ad104.add ((x3_1).toNat * 2)).block, (ad104.add ((x3_1).toNat * 2)).off + 1, none⟩ = some (.int .i64 ((rd_T42 l0 x3_1).f1)) ∧ w'.cell? (ad104.add ((x3_1).toNat * 2)) = some (.int .i64 ((rd_T42 l0 x3_1).f0)) ∧ w'.cell? ⟨(ad104.add ((x3_1).toNat * 2)).block, (ad104.add ((x3_1).toNat * 2)).off + 1, none⟩ = some (.int .i64 ((rd_T42 l0 x3_1).f1)) ∧ w'.cell? (ad104.add ((x3_1).toNat * 2)) = some (.int .i64 ((rd_T42 l0 x3_1).f0)) ∧ w'.cell? ⟨(ad104.add ((x3_1).toNat * 2)).block, (ad104.add ((x3_1).toNat * 2)).off + 1, none⟩ = some (.int .i64 ((rd_T42 l0 x3_1).f1)) ∧ w'.cell? (ad104.add (((ji9)).toNat * 2)) = some (.int .i64 ((rd_T42 l0 (ji9)).f0)) ∧ w'.cell? ⟨(ad104.add (((ji9)).toNat * 2)).block, (ad104.add (((ji9)).toNat * 2)).off + 1, none⟩ = some (.int .i64 ((rd_T42 l0 (ji9)).f1))) (ds := []) (bA 34 0) (by kernel_rfl) rfl rfl ⟨((HB.out.cell (World.block_lt_of_cell? w _ hw104_0)).trans hw104_0), ((HB.out.cell (World.block_lt_of_cell? w _ hw104_1)).trans hw104_1), ((HB.out.cell (World.block_lt_of_cell? w _ hw106_0)).trans hw106_0), ((HB.out.cell (World.block_lt_of_cell? w _ hw106_1)).trans hw106_1), ((HB.out.cell (World.block_lt_of_cell? w _ hw108_0)).trans hw108_0), ((HB.out.cell (World.block_lt_of_cell? w _ hw108_1)).trans hw108_1), ((HB.out.cell (World.block_lt_of_cell? w _ hw109_0)).trans hw109_0), ((HB.out.cell (World.block_lt_of_cell? w _ hw109_1)).trans hw109_1)⟩ (fun hHeld => ?_); refine with_tabW spec_LeavesOk.tab4 spec_LeavesOk.bits4 (fun HT_ HW_ => ?_)
          generalize wr.drew = w13 at HB hx104_0 hx104_1 hx106_0 hx106_1 hx108_0 hx108_1 hx109_0 hx109_1 hHeld ⊢
          refine pv (i := 0) (N := some 10) (bA 34 1) rfl rfl (any_of HT_.out (by kernel_rfl)) ?_
          refine pv (i := 1) (N := some 11) (bA 34 3) rfl rfl (any_of HT_.out (by kernel_rfl)) ?_
          refine pv (i := 2) (N := some 12) (bA 34 7) rfl rfl (any_of HT_.out (by kernel_rfl)) ?_
          refine pv (i := 3) (N := some 13) (bA 34 15) rfl rfl (any_of HT_.out (by kernel_rfl)) ?_
          refine take_ (i := 4) (N := some 14) (v := ?_) (a' := ?_) (bA 34 31) rfl rfl (take_ofW HT_.out HW_.out (by kernel_rfl)) (fun _ _ _ h => h) (Or.inl ⟨by rfl, ?_⟩) hHeld ?_ ?_
          rotate_left
          ·rintro w' ⟨s0, s1, s2, s3, s4, s5, s6, s7⟩
           go_simp
           with_reducible rfl
          rotate_left
          ·simp only [sp_]
           rfl
          refine one_ (i := 5) (N := some 15) (bA 34 63) rfl rfl (one_of HT_.out (by kernel_rfl)) (by decide) (fun K hK => ?_)
          refine goes_ Tryd.func41 (by kernel_rfl) rfl #[.int .i64 ((rd_T42 l0 x3_1).f0), .int .i64 0, .int .i64 255] (by rfl) rfl rfl (by (try simp only [List.map_toArray, List.map_cons, List.map_nil]); first | done | rfl | (simp only [List.length_drop, List.length_take]; rfl)) ?_
          with_reducible refine (spec_l1In.calls ((rd_T42 l0 x3_1).f0) 0 255 true _ A4.out).mono ?_
          rintro e w' ⟨rfl, ⟨nd, rfl⟩⟩
          refine ⟨_, rfl, ?_⟩
          refine hK.out _ _ ⟨((HB.out.cell (World.block_lt_of_cell? w _ hw104_0)).trans hw104_0), ((HB.out.cell (World.block_lt_of_cell? w _ hw104_1)).trans hw104_1), ((HB.out.cell (World.block_lt_of_cell? w _ hw106_0)).trans hw106_0), ((HB.out.cell (World.block_lt_of_cell? w _ hw106_1)).trans hw106_1), ((HB.out.cell (World.block_lt_of_cell? w _ hw108_0)).trans hw108_0), ((HB.out.cell (World.block_lt_of_cell? w _ hw108_1)).trans hw108_1), ((HB.out.cell (World.block_lt_of_cell? w _ hw109_0)).trans hw109_0), ((HB.out.cell (World.block_lt_of_cell? w _ hw109_1)).trans hw109_1)⟩ (fun hHeld => ?_)
          clear hK K
          refine norm_ (a' := ?_) ?_ ?_
          rotate_left
          ·show Act.put _ (some 15) _ = _
           simp only [sp_]
           rfl
          refine pv (i := 6) (N := some 16) (bA 34 127) rfl rfl (any_of HT_.out (by kernel_rfl)) ?_
          refine pv (i := 7) (N := some 17) (bA 34 255) rfl rfl (any_of HT_.out (by kernel_rfl)) ?_
          refine pv (i := 8) (N := some 18) (bA 34 511) rfl rfl (any_of HT_.out (by kernel_rfl)) ?_
          refine pv (i := 9) (N := some 19) (bA 34 1023) rfl rfl (any_of HT_.out (by kernel_rfl)) ?_
          refine pv (i := 10) (N := some 20) (bA 34 2047) rfl rfl (any_of HT_.out (by kernel_rfl)) ?_
          refine pv (i := 11) (N := some 21) (bA 34 4095) rfl rfl (any_of HT_.out (by kernel_rfl)) ?_
          refine take_ (i := 12) (N := some 22) (v := ?_) (a' := ?_) (bA 34 8191) rfl rfl (take_ofW HT_.out HW_.out (by kernel_rfl)) (fun _ _ _ h => h) (Or.inl ⟨by rfl, ?_⟩) hHeld ?_ ?_
          rotate_left
          ·rintro w' ⟨s0, s1, s2, s3, s4, s5, s6, s7⟩
           go_simp
           with_reducible rfl
          rotate_left
          ·simp only [sp_]
           rfl
          refine one_ (i := 13) (N := some 23) (bA 34 16383) rfl rfl (one_of HT_.out (by kernel_rfl)) (by decide) (fun K hK => ?_)
          refine goes_ Tryd.func42 (by kernel_rfl) rfl #[.int .i64 ((rd_T42 l0 x3_1).f1)] (by rfl) rfl rfl (by (try simp only [List.map_toArray, List.map_cons, List.map_nil]); first | done | rfl | (simp only [List.length_drop, List.length_take]; rfl)) ?_
          with_reducible refine (spec_l12Value.calls ((rd_T42 l0 x3_1).f1) true _ A6.out).mono ?_
          rintro e w' ⟨rfl, ⟨nd, rfl⟩⟩
          refine ⟨_, rfl, ?_⟩
          refine hK.out _ _ ⟨((HB.out.cell (World.block_lt_of_cell? w _ hw104_0)).trans hw104_0), ((HB.out.cell (World.block_lt_of_cell? w _ hw104_1)).trans hw104_1), ((HB.out.cell (World.block_lt_of_cell? w _ hw106_0)).trans hw106_0), ((HB.out.cell (World.block_lt_of_cell? w _ hw106_1)).trans hw106_1), ((HB.out.cell (World.block_lt_of_cell? w _ hw108_0)).trans hw108_0), ((HB.out.cell (World.block_lt_of_cell? w _ hw108_1)).trans hw108_1), ((HB.out.cell (World.block_lt_of_cell? w _ hw109_0)).trans hw109_0), ((HB.out.cell (World.block_lt_of_cell? w _ hw109_1)).trans hw109_1)⟩ (fun hHeld => ?_)
          clear hK K
          refine norm_ (a' := ?_) ?_ ?_
          rotate_left
          ·show Act.put _ (some 23) _ = _
           simp only [sp_]
           rfl
          refine pv (i := 14) (N := some 24) (bA 34 32767) rfl rfl (any_of HT_.out (by kernel_rfl)) ?_
          refine pv (i := 15) (N := some 25) (bA 34 65535) rfl rfl (any_of HT_.out (by kernel_rfl)) ?_
          refine pv (i := 16) (N := some 26) (bA 34 131071) rfl rfl (any_of HT_.out (by kernel_rfl)) ?_
          refine pv (i := 17) (N := some 27) (bA 34 262143) rfl rfl (any_of HT_.out (by kernel_rfl)) ?_
          refine pv (i := 18) (N := some 28) (bA 34 524287) rfl rfl (any_of HT_.out (by kernel_rfl)) ?_
          refine pv (i := 19) (N := some 29) (bA 34 1048575) rfl rfl (any_of HT_.out (by kernel_rfl)) ?_
          refine pv (i := 20) (N := some 30) (bA 34 2097151) rfl rfl (any_of HT_.out (by kernel_rfl)) ?_
          refine pv (i := 21) (N := some 31) (bA 34 4194303) rfl rfl (any_of HT_.out (by kernel_rfl)) ?_
          refine pv (i := 22) (N := some 32) (bA 34 8388607) rfl rfl (any_of HT_.out (by kernel_rfl)) ?_
          refine pv (i := 23) (N := some 33) (bA 34 16777215) rfl rfl (any_of HT_.out (by kernel_rfl)) ?_
          refine pv (i := 25) (N := some 35) (bA 34 50331647) rfl rfl (any_of HT_.out (by kernel_rfl)) ?_
          refine pv (i := 26) (N := some 36) (bA 34 117440511) rfl rfl (any_of HT_.out (by kernel_rfl)) ?_
          refine pv (i := 27) (N := some 37) (bA 34 251658239) rfl rfl (any_of HT_.out (by kernel_rfl)) ?_
          refine pv (i := 28) (N := some 38) (bA 34 520093695) rfl rfl (any_of HT_.out (by kernel_rfl)) ?_
          refine pv (i := 29) (N := some 39) (bA 34 1056964607) rfl rfl (any_of HT_.out (by kernel_rfl)) ?_
          refine take_ (i := 24) (N := some 34) (v := ?_) (a' := ?_) (bA 34 1073741823) rfl rfl (take_ofW HT_.out HW_.out (by kernel_rfl)) (fun _ _ _ h => h) (Or.inl ⟨by rfl, ?_⟩) hHeld ?_ ?_
          rotate_left
          ·rintro w' ⟨s0, s1, s2, s3, s4, s5, s6, s7⟩
           go_simp
           with_reducible rfl
          rotate_left
          ·simp only [sp_]
           rfl
          refine take_ (i := 30) (N := some 40) (v := ?_) (a' := ?_) (bA 34 2147483647) rfl rfl (take_ofW HT_.out HW_.out (by kernel_rfl)) (fun _ _ _ h => h) (Or.inl ⟨by rfl, ?_⟩) hHeld ?_ ?_
          rotate_left
          ·rintro w' ⟨s0, s1, s2, s3, s4, s5, s6, s7⟩
           go_simp
           with_reducible rfl
          rotate_left
          ·simp only [sp_]
           rfl
          refine pv (i := 31) (N := some 41) (bA 34 4294967295) rfl rfl (any_of HT_.out (by kernel_rfl)) ?_
          refine pv (i := 32) (N := some 42) (bA 34 8589934591) rfl rfl (any_of HT_.out (by kernel_rfl)) ?_
          refine pv (i := 33) (N := some 43) (bA 34 17179869183) rfl rfl (any_of HT_.out (by kernel_rfl)) ?_
          refine done_ (done_of HT_.out (by kernel_rfl)) ?_
          go_upto_if 43 with (fail)
          (try (rw [drewN_self w13]; generalize hq_ : World.drewN w13 _ = w13; have n0_ := Aside0.mk (below_at hq_ HB.out); clear hq_ HB; have HB := n0_; clear n0_))
          have H := HC12.out
          clear HC12
          by_cases c14 : ((rd_T42 l0 x3_1).f0) ≤ ((rd_T42 l0 (ji9)).f0)
          ·rw [if_pos c14] at H
           have c14b0 : decide (((rd_T42 l0 x3_1).f0) ≤ ((rd_T42 l0 (ji9)).f0)) = true := decide_eq_true c14
           clear c14
           (first | rw [c14b0] | (simp only [i64_w, i32_w]; rw [c14b0]) | skip)
           obtain rfl := Option.some.inj H
           go_wp2
           go_ret
           exact ⟨by first | rfl | (simp [errW_none, errW_some] <;> rfl) | (simp only [← hji9]; first | rfl | (simp [errW_none, errW_some] <;> rfl)) | (simp [*, errW_none, errW_some] <;> rfl), by repeat (first | (with_reducible first | exact HB.out | apply below_alloc | apply pw_below_drewN | apply below_drew1) | exact HB.out)⟩
          ·rw [if_neg c14] at H
           have c14b0 : decide (((rd_T42 l0 x3_1).f0) ≤ ((rd_T42 l0 (ji9)).f0)) = false := decide_eq_false c14
           clear c14
           (first | rw [c14b0] | (simp only [i64_w, i32_w]; rw [c14b0]) | skip)
           have H' := Aside0.mk H
           clear H
           go_wp2
           go_roundg k1
           case measure => have := HK1.out; omega
           case rel => exact ⟨(wrap64 (x3_1 + 1)), (by first | rfl | (simp; done) | (simp [*]; done)), H', ⟨by have := HK1.out; omega⟩, ⟨by repeat (first | (with_reducible first | exact HB.out | apply below_alloc | apply pw_below_drewN | apply below_drew1) | exact HB.out)⟩⟩
         ·rw [if_neg c11] at H
          exact absurd H (by simp)
        ·rw [if_neg c10] at H
         exact absurd H (by simp)
       ·rw [if_neg c8] at H
        have c8b0 : decide (0 < x3_1) = false := decide_eq_false c8
        clear c8
        have H' := Aside0.mk H
        clear H
        try go_wp2
        have n0_ := Aside0.mk (below_drew1 HB.out)
        clear HB
        have HB := n0_
        clear n0_
        have p104 : 0 ≤ (x3_1 : Int) := of_decide_eq_true (by first | (with_reducible assumption) | assumption)
        have q104 : x3_1 < (l0.length : Int) := of_decide_eq_true (by first | (with_reducible assumption) | assumption)
        obtain ⟨ad104, e104, hx104_0, hx104_1⟩ := at_T42 HR0.out x3_1 p104 q104
        have hw104_1 := hx104_1
        have hw104_0 := hx104_0
        cases e104
        replace hx104_0 := (HB.out.cell (World.block_lt_of_cell? w _ hx104_0)).trans hx104_0
        replace hx104_1 := (HB.out.cell (World.block_lt_of_cell? w _ hx104_1)).trans hx104_1
        replace p104 := eq_true p104
        replace q104 := eq_true q104
        have p106 : 0 ≤ (x3_1 : Int) := of_decide_eq_true (by first | (with_reducible assumption) | assumption)
        have q106 : x3_1 < (l0.length : Int) := of_decide_eq_true (by first | (with_reducible assumption) | assumption)
        obtain ⟨ad106, e106, hx106_0, hx106_1⟩ := at_T42 HR0.out x3_1 p106 q106
        have hw106_1 := hx106_1
        have hw106_0 := hx106_0
        obtain rfl : ad104 = ad106 := (by injection e106)
        replace hx106_0 := (HB.out.cell (World.block_lt_of_cell? w _ hx106_0)).trans hx106_0
        replace hx106_1 := (HB.out.cell (World.block_lt_of_cell? w _ hx106_1)).trans hx106_1
        replace p106 := eq_true p106
        replace q106 := eq_true q106
        refine start_ (n := 34) (S := fun w' => w'.cell? (ad104.add ((x3_1).toNat * 2)) = some (.int .i64 ((rd_T42 l0 x3_1).f0)) ∧ w'.cell? ⟨(ad104.add ((x3_1).toNat * 2)).block, (ad104.add ((x3_1).toNat * 2)).off + 1, none⟩ = some (.int .i64 ((rd_T42 l0 x3_1).f1)) ∧ w'.cell? (ad104.add ((x3_1).toNat * 2)) = some (.int .i64 ((rd_T42 l0 x3_1).f0)) ∧ w'.cell? ⟨(ad104.add ((x3_1).toNat * 2)).block, (ad104.add ((x3_1).toNat * 2)).off + 1, none⟩ = some (.int .i64 ((rd_T42 l0 x3_1).f1))) (ds := []) (bA 34 0) (by kernel_rfl) rfl rfl ⟨((HB.out.cell (World.block_lt_of_cell? w _ hw104_0)).trans hw104_0), ((HB.out.cell (World.block_lt_of_cell? w _ hw104_1)).trans hw104_1), ((HB.out.cell (World.block_lt_of_cell? w _ hw106_0)).trans hw106_0), ((HB.out.cell (World.block_lt_of_cell? w _ hw106_1)).trans hw106_1)⟩ (fun hHeld => ?_); refine with_tabW spec_LeavesOk.tab4 spec_LeavesOk.bits4 (fun HT_ HW_ => ?_)
        generalize wr.drew = w15 at HB hx104_0 hx104_1 hx106_0 hx106_1 hHeld ⊢
        refine pv (i := 0) (N := some 10) (bA 34 1) rfl rfl (any_of HT_.out (by kernel_rfl)) ?_
        refine pv (i := 1) (N := some 11) (bA 34 3) rfl rfl (any_of HT_.out (by kernel_rfl)) ?_
        refine pv (i := 2) (N := some 12) (bA 34 7) rfl rfl (any_of HT_.out (by kernel_rfl)) ?_
        refine pv (i := 3) (N := some 13) (bA 34 15) rfl rfl (any_of HT_.out (by kernel_rfl)) ?_
        refine take_ (i := 4) (N := some 14) (v := ?_) (a' := ?_) (bA 34 31) rfl rfl (take_ofW HT_.out HW_.out (by kernel_rfl)) (fun _ _ _ h => h) (Or.inl ⟨by rfl, ?_⟩) hHeld ?_ ?_
        rotate_left
        ·rintro w' ⟨s0, s1, s2, s3⟩
         go_simp
         with_reducible rfl
        rotate_left
        ·simp only [sp_]
         rfl
        refine one_ (i := 5) (N := some 15) (bA 34 63) rfl rfl (one_of HT_.out (by kernel_rfl)) (by decide) (fun K hK => ?_)
        refine goes_ Tryd.func41 (by kernel_rfl) rfl #[.int .i64 ((rd_T42 l0 x3_1).f0), .int .i64 0, .int .i64 255] (by rfl) rfl rfl (by (try simp only [List.map_toArray, List.map_cons, List.map_nil]); first | done | rfl | (simp only [List.length_drop, List.length_take]; rfl)) ?_
        with_reducible refine (spec_l1In.calls ((rd_T42 l0 x3_1).f0) 0 255 true _ A4.out).mono ?_
        rintro e w' ⟨rfl, ⟨nd, rfl⟩⟩
        refine ⟨_, rfl, ?_⟩
        refine hK.out _ _ ⟨((HB.out.cell (World.block_lt_of_cell? w _ hw104_0)).trans hw104_0), ((HB.out.cell (World.block_lt_of_cell? w _ hw104_1)).trans hw104_1), ((HB.out.cell (World.block_lt_of_cell? w _ hw106_0)).trans hw106_0), ((HB.out.cell (World.block_lt_of_cell? w _ hw106_1)).trans hw106_1)⟩ (fun hHeld => ?_)
        clear hK K
        refine norm_ (a' := ?_) ?_ ?_
        rotate_left
        ·show Act.put _ (some 15) _ = _
         simp only [sp_]
         rfl
        refine pv (i := 6) (N := some 16) (bA 34 127) rfl rfl (any_of HT_.out (by kernel_rfl)) ?_
        refine pv (i := 7) (N := some 17) (bA 34 255) rfl rfl (any_of HT_.out (by kernel_rfl)) ?_
        refine pv (i := 8) (N := some 18) (bA 34 511) rfl rfl (any_of HT_.out (by kernel_rfl)) ?_
        refine pv (i := 9) (N := some 19) (bA 34 1023) rfl rfl (any_of HT_.out (by kernel_rfl)) ?_
        refine pv (i := 10) (N := some 20) (bA 34 2047) rfl rfl (any_of HT_.out (by kernel_rfl)) ?_
        refine pv (i := 11) (N := some 21) (bA 34 4095) rfl rfl (any_of HT_.out (by kernel_rfl)) ?_
        refine take_ (i := 12) (N := some 22) (v := ?_) (a' := ?_) (bA 34 8191) rfl rfl (take_ofW HT_.out HW_.out (by kernel_rfl)) (fun _ _ _ h => h) (Or.inl ⟨by rfl, ?_⟩) hHeld ?_ ?_
        rotate_left
        ·rintro w' ⟨s0, s1, s2, s3⟩
         go_simp
         with_reducible rfl
        rotate_left
        ·simp only [sp_]
         rfl
        refine one_ (i := 13) (N := some 23) (bA 34 16383) rfl rfl (one_of HT_.out (by kernel_rfl)) (by decide) (fun K hK => ?_)
        refine goes_ Tryd.func42 (by kernel_rfl) rfl #[.int .i64 ((rd_T42 l0 x3_1).f1)] (by rfl) rfl rfl (by (try simp only [List.map_toArray, List.map_cons, List.map_nil]); first | done | rfl | (simp only [List.length_drop, List.length_take]; rfl)) ?_
        with_reducible refine (spec_l12Value.calls ((rd_T42 l0 x3_1).f1) true _ A6.out).mono ?_
        rintro e w' ⟨rfl, ⟨nd, rfl⟩⟩
        refine ⟨_, rfl, ?_⟩
        refine hK.out _ _ ⟨((HB.out.cell (World.block_lt_of_cell? w _ hw104_0)).trans hw104_0), ((HB.out.cell (World.block_lt_of_cell? w _ hw104_1)).trans hw104_1), ((HB.out.cell (World.block_lt_of_cell? w _ hw106_0)).trans hw106_0), ((HB.out.cell (World.block_lt_of_cell? w _ hw106_1)).trans hw106_1)⟩ (fun hHeld => ?_)
        clear hK K
        refine norm_ (a' := ?_) ?_ ?_
        rotate_left
        ·show Act.put _ (some 23) _ = _
         simp only [sp_]
         rfl
        refine pv (i := 14) (N := some 24) (bA 34 32767) rfl rfl (any_of HT_.out (by kernel_rfl)) ?_
        refine pv (i := 15) (N := some 25) (bA 34 65535) rfl rfl (any_of HT_.out (by kernel_rfl)) ?_
        refine pv (i := 16) (N := some 26) (bA 34 131071) rfl rfl (any_of HT_.out (by kernel_rfl)) ?_
        refine pv (i := 17) (N := some 27) (bA 34 262143) rfl rfl (any_of HT_.out (by kernel_rfl)) ?_
        refine pv (i := 18) (N := some 28) (bA 34 524287) rfl rfl (any_of HT_.out (by kernel_rfl)) ?_
        refine pv (i := 19) (N := some 29) (bA 34 1048575) rfl rfl (any_of HT_.out (by kernel_rfl)) ?_
        refine pu (i := 20) (N := some 30) (bA 34 2097151) rfl rfl (any_of HT_.out (by kernel_rfl)) ?_
        refine pu (i := 21) (N := some 31) (bA 34 4194303) rfl rfl (any_of HT_.out (by kernel_rfl)) ?_
        refine pu (i := 22) (N := some 32) (bA 34 8388607) rfl rfl (any_of HT_.out (by kernel_rfl)) ?_
        refine pu (i := 23) (N := some 33) (bA 34 16777215) rfl rfl (any_of HT_.out (by kernel_rfl)) ?_
        refine pu (i := 24) (N := some 34) (bA 34 33554431) rfl rfl (any_of HT_.out (by kernel_rfl)) ?_
        refine pu (i := 25) (N := some 35) (bA 34 67108863) rfl rfl (any_of HT_.out (by kernel_rfl)) ?_
        refine pu (i := 26) (N := some 36) (bA 34 134217727) rfl rfl (any_of HT_.out (by kernel_rfl)) ?_
        refine pu (i := 27) (N := some 37) (bA 34 268435455) rfl rfl (any_of HT_.out (by kernel_rfl)) ?_
        refine pu (i := 28) (N := some 38) (bA 34 536870911) rfl rfl (any_of HT_.out (by kernel_rfl)) ?_
        refine pu (i := 29) (N := some 39) (bA 34 1073741823) rfl rfl (any_of HT_.out (by kernel_rfl)) ?_
        refine pu (i := 30) (N := some 40) (bA 34 2147483647) rfl rfl (any_of HT_.out (by kernel_rfl)) ?_
        refine pu (i := 31) (N := some 41) (bA 34 4294967295) rfl rfl (any_of HT_.out (by kernel_rfl)) ?_
        refine pv (i := 32) (N := some 42) (bA 34 8589934591) rfl rfl (any_of HT_.out (by kernel_rfl)) ?_
        refine pv (i := 33) (N := some 43) (bA 34 17179869183) rfl rfl (any_of HT_.out (by kernel_rfl)) ?_
        refine done_ (done_of HT_.out (by kernel_rfl)) ?_
        try go_wp2
        go_roundg k1
        case measure => have := HK1.out; omega
        case rel => exact ⟨(wrap64 (x3_1 + 1)), (by first | rfl | (simp; done) | (simp [*]; done)), H', ⟨by have := HK1.out; omega⟩, ⟨by repeat (first | (with_reducible first | exact HB.out | apply below_alloc | apply pw_below_drewN | apply below_drew1) | exact HB.out)⟩⟩
      ·replace c7 := Bool.eq_false_iff.mpr c7
       subst c7
       have H1 : (some false) = some r := by rw [if_neg (show ¬ (false = true) by decide)] at H; exact H
       clear H
       have H := H1
       clear H1
       obtain rfl := Option.some.inj H
       try go_wp2
       have n0_ := Aside0.mk (below_drew1 HB.out)
       clear HB
       have HB := n0_
       clear n0_
       have p104 : 0 ≤ (x3_1 : Int) := of_decide_eq_true (by first | (with_reducible assumption) | assumption)
       have q104 : x3_1 < (l0.length : Int) := of_decide_eq_true (by first | (with_reducible assumption) | assumption)
       obtain ⟨ad104, e104, hx104_0, hx104_1⟩ := at_T42 HR0.out x3_1 p104 q104
       have hw104_1 := hx104_1
       have hw104_0 := hx104_0
       cases e104
       replace hx104_0 := (HB.out.cell (World.block_lt_of_cell? w _ hx104_0)).trans hx104_0
       replace hx104_1 := (HB.out.cell (World.block_lt_of_cell? w _ hx104_1)).trans hx104_1
       replace p104 := eq_true p104
       replace q104 := eq_true q104
       have p106 : 0 ≤ (x3_1 : Int) := of_decide_eq_true (by first | (with_reducible assumption) | assumption)
       have q106 : x3_1 < (l0.length : Int) := of_decide_eq_true (by first | (with_reducible assumption) | assumption)
       obtain ⟨ad106, e106, hx106_0, hx106_1⟩ := at_T42 HR0.out x3_1 p106 q106
       have hw106_1 := hx106_1
       have hw106_0 := hx106_0
       obtain rfl : ad104 = ad106 := (by injection e106)
       replace hx106_0 := (HB.out.cell (World.block_lt_of_cell? w _ hx106_0)).trans hx106_0
       replace hx106_1 := (HB.out.cell (World.block_lt_of_cell? w _ hx106_1)).trans hx106_1
       replace p106 := eq_true p106
       replace q106 := eq_true q106
       refine start_ (n := 34) (S := fun w' => w'.cell? (ad104.add ((x3_1).toNat * 2)) = some (.int .i64 ((rd_T42 l0 x3_1).f0)) ∧ w'.cell? ⟨(ad104.add ((x3_1).toNat * 2)).block, (ad104.add ((x3_1).toNat * 2)).off + 1, none⟩ = some (.int .i64 ((rd_T42 l0 x3_1).f1)) ∧ w'.cell? (ad104.add ((x3_1).toNat * 2)) = some (.int .i64 ((rd_T42 l0 x3_1).f0)) ∧ w'.cell? ⟨(ad104.add ((x3_1).toNat * 2)).block, (ad104.add ((x3_1).toNat * 2)).off + 1, none⟩ = some (.int .i64 ((rd_T42 l0 x3_1).f1))) (ds := []) (bA 34 0) (by kernel_rfl) rfl rfl ⟨((HB.out.cell (World.block_lt_of_cell? w _ hw104_0)).trans hw104_0), ((HB.out.cell (World.block_lt_of_cell? w _ hw104_1)).trans hw104_1), ((HB.out.cell (World.block_lt_of_cell? w _ hw106_0)).trans hw106_0), ((HB.out.cell (World.block_lt_of_cell? w _ hw106_1)).trans hw106_1)⟩ (fun hHeld => ?_); refine with_tabW spec_LeavesOk.tab4 spec_LeavesOk.bits4 (fun HT_ HW_ => ?_)
       generalize wr.drew = w16 at HB hx104_0 hx104_1 hx106_0 hx106_1 hHeld ⊢
       refine pv (i := 0) (N := some 10) (bA 34 1) rfl rfl (any_of HT_.out (by kernel_rfl)) ?_
       refine pv (i := 1) (N := some 11) (bA 34 3) rfl rfl (any_of HT_.out (by kernel_rfl)) ?_
       refine pv (i := 2) (N := some 12) (bA 34 7) rfl rfl (any_of HT_.out (by kernel_rfl)) ?_
       refine pv (i := 3) (N := some 13) (bA 34 15) rfl rfl (any_of HT_.out (by kernel_rfl)) ?_
       refine take_ (i := 4) (N := some 14) (v := ?_) (a' := ?_) (bA 34 31) rfl rfl (take_ofW HT_.out HW_.out (by kernel_rfl)) (fun _ _ _ h => h) (Or.inl ⟨by rfl, ?_⟩) hHeld ?_ ?_
       rotate_left
       ·rintro w' ⟨s0, s1, s2, s3⟩
        go_simp
        with_reducible rfl
       rotate_left
       ·simp only [sp_]
        rfl
       refine one_ (i := 5) (N := some 15) (bA 34 63) rfl rfl (one_of HT_.out (by kernel_rfl)) (by decide) (fun K hK => ?_)
       refine goes_ Tryd.func41 (by kernel_rfl) rfl #[.int .i64 ((rd_T42 l0 x3_1).f0), .int .i64 0, .int .i64 255] (by rfl) rfl rfl (by (try simp only [List.map_toArray, List.map_cons, List.map_nil]); first | done | rfl | (simp only [List.length_drop, List.length_take]; rfl)) ?_
       with_reducible refine (spec_l1In.calls ((rd_T42 l0 x3_1).f0) 0 255 true _ A4.out).mono ?_
       rintro e w' ⟨rfl, ⟨nd, rfl⟩⟩
       refine ⟨_, rfl, ?_⟩
       refine hK.out _ _ ⟨((HB.out.cell (World.block_lt_of_cell? w _ hw104_0)).trans hw104_0), ((HB.out.cell (World.block_lt_of_cell? w _ hw104_1)).trans hw104_1), ((HB.out.cell (World.block_lt_of_cell? w _ hw106_0)).trans hw106_0), ((HB.out.cell (World.block_lt_of_cell? w _ hw106_1)).trans hw106_1)⟩ (fun hHeld => ?_)
       clear hK K
       refine norm_ (a' := ?_) ?_ ?_
       rotate_left
       ·show Act.put _ (some 15) _ = _
        simp only [sp_]
        rfl
       refine pv (i := 6) (N := some 16) (bA 34 127) rfl rfl (any_of HT_.out (by kernel_rfl)) ?_
       refine pv (i := 7) (N := some 17) (bA 34 255) rfl rfl (any_of HT_.out (by kernel_rfl)) ?_
       refine pv (i := 8) (N := some 18) (bA 34 511) rfl rfl (any_of HT_.out (by kernel_rfl)) ?_
       refine pv (i := 9) (N := some 19) (bA 34 1023) rfl rfl (any_of HT_.out (by kernel_rfl)) ?_
       refine pv (i := 10) (N := some 20) (bA 34 2047) rfl rfl (any_of HT_.out (by kernel_rfl)) ?_
       refine pv (i := 11) (N := some 21) (bA 34 4095) rfl rfl (any_of HT_.out (by kernel_rfl)) ?_
       refine take_ (i := 12) (N := some 22) (v := ?_) (a' := ?_) (bA 34 8191) rfl rfl (take_ofW HT_.out HW_.out (by kernel_rfl)) (fun _ _ _ h => h) (Or.inl ⟨by rfl, ?_⟩) hHeld ?_ ?_
       rotate_left
       ·rintro w' ⟨s0, s1, s2, s3⟩
        go_simp
        with_reducible rfl
       rotate_left
       ·simp only [sp_]
        rfl
       refine one_ (i := 13) (N := some 23) (bA 34 16383) rfl rfl (one_of HT_.out (by kernel_rfl)) (by decide) (fun K hK => ?_)
       refine goes_ Tryd.func42 (by kernel_rfl) rfl #[.int .i64 ((rd_T42 l0 x3_1).f1)] (by rfl) rfl rfl (by (try simp only [List.map_toArray, List.map_cons, List.map_nil]); first | done | rfl | (simp only [List.length_drop, List.length_take]; rfl)) ?_
       with_reducible refine (spec_l12Value.calls ((rd_T42 l0 x3_1).f1) false _ A6.out).mono ?_
       rintro e w' ⟨rfl, ⟨nd, rfl⟩⟩
       refine ⟨_, rfl, ?_⟩
       refine hK.out _ _ ⟨((HB.out.cell (World.block_lt_of_cell? w _ hw104_0)).trans hw104_0), ((HB.out.cell (World.block_lt_of_cell? w _ hw104_1)).trans hw104_1), ((HB.out.cell (World.block_lt_of_cell? w _ hw106_0)).trans hw106_0), ((HB.out.cell (World.block_lt_of_cell? w _ hw106_1)).trans hw106_1)⟩ (fun hHeld => ?_)
       clear hK K
       refine norm_ (a' := ?_) ?_ ?_
       rotate_left
       ·show Act.put _ (some 23) _ = _
        simp only [sp_]
        rfl
       refine pv (i := 14) (N := some 24) (bA 34 32767) rfl rfl (any_of HT_.out (by kernel_rfl)) ?_
       refine pv (i := 15) (N := some 25) (bA 34 65535) rfl rfl (any_of HT_.out (by kernel_rfl)) ?_
       refine pv (i := 16) (N := some 26) (bA 34 131071) rfl rfl (any_of HT_.out (by kernel_rfl)) ?_
       refine pu (i := 17) (N := some 27) (bA 34 262143) rfl rfl (any_of HT_.out (by kernel_rfl)) ?_
       refine pu (i := 18) (N := some 28) (bA 34 524287) rfl rfl (any_of HT_.out (by kernel_rfl)) ?_
       refine pu (i := 19) (N := some 29) (bA 34 1048575) rfl rfl (any_of HT_.out (by kernel_rfl)) ?_
       refine pu (i := 20) (N := some 30) (bA 34 2097151) rfl rfl (any_of HT_.out (by kernel_rfl)) ?_
       refine pu (i := 21) (N := some 31) (bA 34 4194303) rfl rfl (any_of HT_.out (by kernel_rfl)) ?_
       refine pu (i := 22) (N := some 32) (bA 34 8388607) rfl rfl (any_of HT_.out (by kernel_rfl)) ?_
       refine pu (i := 23) (N := some 33) (bA 34 16777215) rfl rfl (any_of HT_.out (by kernel_rfl)) ?_
       refine pu (i := 24) (N := some 34) (bA 34 33554431) rfl rfl (any_of HT_.out (by kernel_rfl)) ?_
       refine pu (i := 25) (N := some 35) (bA 34 67108863) rfl rfl (any_of HT_.out (by kernel_rfl)) ?_
       refine pu (i := 26) (N := some 36) (bA 34 134217727) rfl rfl (any_of HT_.out (by kernel_rfl)) ?_
       refine pu (i := 27) (N := some 37) (bA 34 268435455) rfl rfl (any_of HT_.out (by kernel_rfl)) ?_
       refine pu (i := 28) (N := some 38) (bA 34 536870911) rfl rfl (any_of HT_.out (by kernel_rfl)) ?_
       refine pu (i := 29) (N := some 39) (bA 34 1073741823) rfl rfl (any_of HT_.out (by kernel_rfl)) ?_
       refine pu (i := 30) (N := some 40) (bA 34 2147483647) rfl rfl (any_of HT_.out (by kernel_rfl)) ?_
       refine pu (i := 31) (N := some 41) (bA 34 4294967295) rfl rfl (any_of HT_.out (by kernel_rfl)) ?_
       refine pu (i := 32) (N := some 42) (bA 34 8589934591) rfl rfl (any_of HT_.out (by kernel_rfl)) ?_
       refine pv (i := 33) (N := some 43) (bA 34 17179869183) rfl rfl (any_of HT_.out (by kernel_rfl)) ?_
       refine done_ (done_of HT_.out (by kernel_rfl)) ?_
       try go_wp2
       go_ret
       exact ⟨by first | rfl | (simp [errW_none, errW_some] <;> rfl) | (simp [*, errW_none, errW_some] <;> rfl), by repeat (first | (with_reducible first | exact HB.out | apply below_alloc | apply pw_below_drewN | apply below_drew1) | exact HB.out)⟩
     ·replace c5 := Bool.eq_false_iff.mpr c5
      subst c5
      have H1 : (some false) = some r := by rw [if_neg (show ¬ (false = true) by decide)] at H; exact H
      clear H
      have H := H1
      clear H1
      obtain rfl := Option.some.inj H
      try go_wp2
      have n0_ := Aside0.mk (below_drew1 HB.out)
      clear HB
      have HB := n0_
      clear n0_
      have p104 : 0 ≤ (x3_1 : Int) := of_decide_eq_true (by first | (with_reducible assumption) | assumption)
      have q104 : x3_1 < (l0.length : Int) := of_decide_eq_true (by first | (with_reducible assumption) | assumption)
      obtain ⟨ad104, e104, hx104_0, hx104_1⟩ := at_T42 HR0.out x3_1 p104 q104
      have hw104_1 := hx104_1
      have hw104_0 := hx104_0
      cases e104
      replace hx104_0 := (HB.out.cell (World.block_lt_of_cell? w _ hx104_0)).trans hx104_0
      replace hx104_1 := (HB.out.cell (World.block_lt_of_cell? w _ hx104_1)).trans hx104_1
      replace p104 := eq_true p104
      replace q104 := eq_true q104
      refine start_ (n := 34) (S := fun w' => w'.cell? (ad104.add ((x3_1).toNat * 2)) = some (.int .i64 ((rd_T42 l0 x3_1).f0)) ∧ w'.cell? ⟨(ad104.add ((x3_1).toNat * 2)).block, (ad104.add ((x3_1).toNat * 2)).off + 1, none⟩ = some (.int .i64 ((rd_T42 l0 x3_1).f1))) (ds := []) (bA 34 0) (by kernel_rfl) rfl rfl ⟨((HB.out.cell (World.block_lt_of_cell? w _ hw104_0)).trans hw104_0), ((HB.out.cell (World.block_lt_of_cell? w _ hw104_1)).trans hw104_1)⟩ (fun hHeld => ?_); refine with_tabW spec_LeavesOk.tab4 spec_LeavesOk.bits4 (fun HT_ HW_ => ?_)
      generalize wr.drew = w17 at HB hx104_0 hx104_1 hHeld ⊢
      refine pv (i := 0) (N := some 10) (bA 34 1) rfl rfl (any_of HT_.out (by kernel_rfl)) ?_
      refine pv (i := 1) (N := some 11) (bA 34 3) rfl rfl (any_of HT_.out (by kernel_rfl)) ?_
      refine pv (i := 2) (N := some 12) (bA 34 7) rfl rfl (any_of HT_.out (by kernel_rfl)) ?_
      refine pv (i := 3) (N := some 13) (bA 34 15) rfl rfl (any_of HT_.out (by kernel_rfl)) ?_
      refine take_ (i := 4) (N := some 14) (v := ?_) (a' := ?_) (bA 34 31) rfl rfl (take_ofW HT_.out HW_.out (by kernel_rfl)) (fun _ _ _ h => h) (Or.inl ⟨by rfl, ?_⟩) hHeld ?_ ?_
      rotate_left
      ·rintro w' ⟨s0, s1⟩
       go_simp
       with_reducible rfl
      rotate_left
      ·simp only [sp_]
       rfl
      refine one_ (i := 5) (N := some 15) (bA 34 63) rfl rfl (one_of HT_.out (by kernel_rfl)) (by decide) (fun K hK => ?_)
      refine goes_ Tryd.func41 (by kernel_rfl) rfl #[.int .i64 ((rd_T42 l0 x3_1).f0), .int .i64 0, .int .i64 255] (by rfl) rfl rfl (by (try simp only [List.map_toArray, List.map_cons, List.map_nil]); first | done | rfl | (simp only [List.length_drop, List.length_take]; rfl)) ?_
      with_reducible refine (spec_l1In.calls ((rd_T42 l0 x3_1).f0) 0 255 false _ A4.out).mono ?_
      rintro e w' ⟨rfl, ⟨nd, rfl⟩⟩
      refine ⟨_, rfl, ?_⟩
      refine hK.out _ _ ⟨((HB.out.cell (World.block_lt_of_cell? w _ hw104_0)).trans hw104_0), ((HB.out.cell (World.block_lt_of_cell? w _ hw104_1)).trans hw104_1)⟩ (fun hHeld => ?_)
      clear hK K
      refine norm_ (a' := ?_) ?_ ?_
      rotate_left
      ·show Act.put _ (some 15) _ = _
       simp only [sp_]
       rfl
      refine pv (i := 6) (N := some 16) (bA 34 127) rfl rfl (any_of HT_.out (by kernel_rfl)) ?_
      refine pv (i := 7) (N := some 17) (bA 34 255) rfl rfl (any_of HT_.out (by kernel_rfl)) ?_
      refine pu (i := 8) (N := some 18) (bA 34 511) rfl rfl (any_of HT_.out (by kernel_rfl)) ?_
      refine pu (i := 9) (N := some 19) (bA 34 1023) rfl rfl (any_of HT_.out (by kernel_rfl)) ?_
      refine pu (i := 10) (N := some 20) (bA 34 2047) rfl rfl (any_of HT_.out (by kernel_rfl)) ?_
      refine pu (i := 11) (N := some 21) (bA 34 4095) rfl rfl (any_of HT_.out (by kernel_rfl)) ?_
      refine pu (i := 12) (N := some 22) (bA 34 8191) rfl rfl (any_of HT_.out (by kernel_rfl)) ?_
      refine pu (i := 13) (N := some 23) (bA 34 16383) rfl rfl (any_of HT_.out (by kernel_rfl)) ?_
      refine pu (i := 14) (N := some 24) (bA 34 32767) rfl rfl (any_of HT_.out (by kernel_rfl)) ?_
      refine pv (i := 15) (N := some 25) (bA 34 65535) rfl rfl (any_of HT_.out (by kernel_rfl)) ?_
      refine pv (i := 16) (N := some 26) (bA 34 131071) rfl rfl (any_of HT_.out (by kernel_rfl)) ?_
      refine pu (i := 17) (N := some 27) (bA 34 262143) rfl rfl (any_of HT_.out (by kernel_rfl)) ?_
      refine pu (i := 18) (N := some 28) (bA 34 524287) rfl rfl (any_of HT_.out (by kernel_rfl)) ?_
      refine pu (i := 19) (N := some 29) (bA 34 1048575) rfl rfl (any_of HT_.out (by kernel_rfl)) ?_
      refine pu (i := 20) (N := some 30) (bA 34 2097151) rfl rfl (any_of HT_.out (by kernel_rfl)) ?_
      refine pu (i := 21) (N := some 31) (bA 34 4194303) rfl rfl (any_of HT_.out (by kernel_rfl)) ?_
      refine pu (i := 22) (N := some 32) (bA 34 8388607) rfl rfl (any_of HT_.out (by kernel_rfl)) ?_
      refine pu (i := 23) (N := some 33) (bA 34 16777215) rfl rfl (any_of HT_.out (by kernel_rfl)) ?_
      refine pu (i := 24) (N := some 34) (bA 34 33554431) rfl rfl (any_of HT_.out (by kernel_rfl)) ?_
      refine pu (i := 25) (N := some 35) (bA 34 67108863) rfl rfl (any_of HT_.out (by kernel_rfl)) ?_
      refine pu (i := 26) (N := some 36) (bA 34 134217727) rfl rfl (any_of HT_.out (by kernel_rfl)) ?_
      refine pu (i := 27) (N := some 37) (bA 34 268435455) rfl rfl (any_of HT_.out (by kernel_rfl)) ?_
      refine pu (i := 28) (N := some 38) (bA 34 536870911) rfl rfl (any_of HT_.out (by kernel_rfl)) ?_
      refine pu (i := 29) (N := some 39) (bA 34 1073741823) rfl rfl (any_of HT_.out (by kernel_rfl)) ?_
      refine pu (i := 30) (N := some 40) (bA 34 2147483647) rfl rfl (any_of HT_.out (by kernel_rfl)) ?_
      refine pu (i := 31) (N := some 41) (bA 34 4294967295) rfl rfl (any_of HT_.out (by kernel_rfl)) ?_
      refine pu (i := 32) (N := some 42) (bA 34 8589934591) rfl rfl (any_of HT_.out (by kernel_rfl)) ?_
      refine pv (i := 33) (N := some 43) (bA 34 17179869183) rfl rfl (any_of HT_.out (by kernel_rfl)) ?_
      refine done_ (done_of HT_.out (by kernel_rfl)) ?_
      try go_wp2
      go_ret
      exact ⟨by first | rfl | (simp [errW_none, errW_some] <;> rfl) | (simp [*, errW_none, errW_some] <;> rfl), by repeat (first | (with_reducible first | exact HB.out | apply below_alloc | apply pw_below_drewN | apply below_drew1) | exact HB.out)⟩
    ·rw [if_neg c3] at H
     exact absurd H (by simp)
   ·rw [if_neg c2] at H
    have c2b0 : decide (x3_1 < (l0.length : Int)) = false := decide_eq_false c2
    clear c2
    obtain rfl := Option.some.inj H
    go_wp2
    go_ret
    exact ⟨by first | rfl | (simp [errW_none, errW_some] <;> rfl) | (simp [*, errW_none, errW_some] <;> rfl), by repeat (first | (with_reducible first | exact HB.out | apply below_alloc | apply pw_below_drewN | apply below_drew1) | exact HB.out)⟩

end Go.Proofs.YtgpofolfflfgiaaDoor.PFnProved
