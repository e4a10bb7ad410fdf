-- Written by a program of this session (wip/tools/pp.py over the kit's print).
import Derived.Test.YtckgkhlgnblblaaPFnPoolx0
import Derived.Test.YtckgkhlgnblblaaPFnPoolx2
namespace Go.Proofs.Ytckgkhlgnblblaa.PFnPool
open Go.RowKit Go.Proofs.YtckgkhlgnblblaaW.PrintWords Go.Proofs.YtckgkhlgnblblaaW.PrintLast Go.Proofs.YtckgkhlgnblblaaW.PrintMore
attribute [local go_sem] max2_int min2_int max_two min_two max_three min_three max_four min_four
attribute [local go_sem high] str_gtr str_leq str_geq
set_option linter.unusedVariables false
set_option linter.unusedSimpArgs false

/-! ### spec_l14Next: function 140 -/
mutual
def spec_l14Next.l0 : Nat → Int → List (S86) → Int → Int → ByteArray → Int → ByteArray → Option (Int × ByteArray × (List (S86)))
 | 0, _, _, _, _, _, _, _ => none
 | k + 1, x5, x7, x8, x114000, x114001, x116000, x116001 => if (wrap64 ((wrap64 ((wrap64 (2 * x8)) + 1)) + 1)) < x5 then (if 0 ≤ (wrap64 ((wrap64 ((wrap64 (2 * x8)) + 1)) + 1)) then (if (wrap64 ((wrap64 ((wrap64 (2 * x8)) + 1)) + 1)) < (x7.length : Int) then (if 0 ≤ (wrap64 ((wrap64 (2 * x8)) + 1)) then (if (wrap64 ((wrap64 (2 * x8)) + 1)) < (x7.length : Int) then ((spec_l14Ahead.f ((rd_T86 x7 (wrap64 ((wrap64 ((wrap64 (2 * x8)) + 1)) + 1))).f0) ((rd_T86 x7 (wrap64 ((wrap64 ((wrap64 (2 * x8)) + 1)) + 1))).f1) ((rd_T86 x7 (wrap64 ((wrap64 (2 * x8)) + 1))).f0) ((rd_T86 x7 (wrap64 ((wrap64 (2 * x8)) + 1))).f1)).bind fun t129 => (spec_l14Next.j1 k x5 x7 x8 (wrap64 ((wrap64 (2 * x8)) + 1)) t129 x114000 x114001 x116000 x116001)) else (none)) else (none)) else (none)) else (none)) else (spec_l14Next.j1 k x5 x7 x8 (wrap64 ((wrap64 (2 * x8)) + 1)) false x114000 x114001 x116000 x116001)
def spec_l14Next.j1 : Nat → Int → List (S86) → Int → Int → Bool → Int → ByteArray → Int → ByteArray → Option (Int × ByteArray × (List (S86)))
 | 0, _, _, _, _, _, _, _, _, _ => none
 | k + 1, x5, x7, x8, x9, x50, x114000, x114001, x116000, x116001 => if x50 = true then (if (wrap64 (x9 + 1)) ≥ x5 then (some (x114000, x114001, x7)) else (if 0 ≤ (wrap64 (x9 + 1)) then (if (wrap64 (x9 + 1)) < (x7.length : Int) then ((spec_l14Ahead.f ((rd_T86 x7 (wrap64 (x9 + 1))).f0) ((rd_T86 x7 (wrap64 (x9 + 1))).f1) x116000 x116001).bind fun t131 => (if t131 = true then (if 0 ≤ x8 then (if x8 < (x7.length : Int) then (spec_l14Next.l0 k x5 ((x7.set (x8 : Int).toNat (⟨(rd_T86 x7 (wrap64 (x9 + 1))).f0, (rd_T86 x7 (wrap64 (x9 + 1))).f1⟩ : S86)).set ((wrap64 (x9 + 1)) : Int).toNat (⟨x116000, x116001⟩ : S86)) (wrap64 (x9 + 1)) x114000 x114001 x116000 x116001) else (none)) else (none)) else (some (x114000, x114001, x7)))) else (none)) else (none))) else (if x9 ≥ x5 then (some (x114000, x114001, x7)) else (if 0 ≤ x9 then (if x9 < (x7.length : Int) then ((spec_l14Ahead.f ((rd_T86 x7 x9).f0) ((rd_T86 x7 x9).f1) x116000 x116001).bind fun t136 => (if t136 = true then (if 0 ≤ x8 then (if x8 < (x7.length : Int) then (spec_l14Next.l0 k x5 ((x7.set (x8 : Int).toNat (⟨(rd_T86 x7 x9).f0, (rd_T86 x7 x9).f1⟩ : S86)).set (x9 : Int).toNat (⟨x116000, x116001⟩ : S86)) x9 x114000 x114001 x116000 x116001) else (none)) else (none)) else (some (x114000, x114001, x7)))) else (none)) else (none)))
end
def spec_l14Next.f (k : Nat) (l0 : List (S86)) : Option (Int × ByteArray × (List (S86))) := if 0 < (l0.length : Int) then (if 0 ≤ (wrap64 ((l0.length : Int) - 1)) then (if (wrap64 ((l0.length : Int) - 1)) < (l0.length : Int) then ((some (([] : List (S86)) : List (S86))).bind fun y116 => (if (wrap64 ((l0.length : Int) - 1)) ≤ (l0.length : Int) then ((some (l0.take ((wrap64 ((l0.length : Int) - 1)) : Int).toNat : List (S86))).bind fun y119 => (if y116.length + y119.length < 5864062014805 then ((some (y116 ++ y119 : List (S86))).bind fun y123 => (if (wrap64 ((l0.length : Int) - 1)) = 0 then (some ((rd_T86 l0 0).f0, (rd_T86 l0 0).f1, y123)) else (if 0 < (y123.length : Int) then (spec_l14Next.l0 k (wrap64 ((l0.length : Int) - 1)) (y123.set (0 : Int).toNat (⟨(rd_T86 l0 (wrap64 ((l0.length : Int) - 1))).f0, (rd_T86 l0 (wrap64 ((l0.length : Int) - 1))).f1⟩ : S86)) 0 ((rd_T86 l0 0).f0) ((rd_T86 l0 0).f1) ((rd_T86 l0 (wrap64 ((l0.length : Int) - 1))).f0) ((rd_T86 l0 (wrap64 ((l0.length : Int) - 1))).f1)) else (none)))) else (none))) else (none))) else (none)) else (none)) else (none)
theorem spec_l14Next.mono_l : ∀ k, (∀ y0 y1 y2 y3 y4 y5 y6, LeO (spec_l14Next.l0 k y0 y1 y2 y3 y4 y5 y6) (spec_l14Next.l0 (k + 1) y0 y1 y2 y3 y4 y5 y6)) ∧ (∀ y0 y1 y2 y3 y4 y5 y6 y7 y8, LeO (spec_l14Next.j1 k y0 y1 y2 y3 y4 y5 y6 y7 y8) (spec_l14Next.j1 (k + 1) y0 y1 y2 y3 y4 y5 y6 y7 y8))
 | 0 => ⟨fun _ _ _ _ _ _ _ r h => by simp [spec_l14Next.l0] at h, fun _ _ _ _ _ _ _ _ _ r h => by simp [spec_l14Next.j1] at h⟩
 | k + 1 => by
  obtain ⟨ih0, ih1⟩ := spec_l14Next.mono_l k
  refine ⟨?_, ?_⟩
  ·intro y0 y1 y2 y3 y4 y5 y6
   unfold spec_l14Next.l0
   repeat' first
   | (with_reducible exact ih0 _ _ _ _ _ _ _)
   | (with_reducible exact ih1 _ _ _ _ _ _ _ _ _)
   | (with_reducible exact LeO.refl _)
   | (with_reducible exact LeO.none _)
   | (with_reducible refine LeO.ite ?_ ?_)
   | (with_reducible refine LeO.bind ?_ (fun _ => ?_))
   | exact ih0 _ _ _ _ _ _ _
   | exact ih1 _ _ _ _ _ _ _ _ _
   | exact LeO.none _
   | refine LeO.ite ?_ ?_
   | refine LeO.bind ?_ (fun _ => ?_)
  ·intro y0 y1 y2 y3 y4 y5 y6 y7 y8
   unfold spec_l14Next.j1
   repeat' first
   | (with_reducible exact ih0 _ _ _ _ _ _ _)
   | (with_reducible exact ih1 _ _ _ _ _ _ _ _ _)
   | (with_reducible exact LeO.refl _)
   | (with_reducible exact LeO.none _)
   | (with_reducible refine LeO.ite ?_ ?_)
   | (with_reducible refine LeO.bind ?_ (fun _ => ?_))
   | exact ih0 _ _ _ _ _ _ _
   | exact ih1 _ _ _ _ _ _ _ _ _
   | exact LeO.none _
   | refine LeO.ite ?_ ?_
   | refine LeO.bind ?_ (fun _ => ?_)
theorem spec_l14Next.mono : ∀ a0 k, LeO (spec_l14Next.f k a0) (spec_l14Next.f (k + 1) a0) := by
 intro a0 k
 obtain ⟨ih0, ih1⟩ := spec_l14Next.mono_l k
 unfold spec_l14Next.f
 repeat' first
   | (with_reducible exact ih0 _ _ _ _ _ _ _)
   | (with_reducible exact ih1 _ _ _ _ _ _ _ _ _)
   | (with_reducible exact LeO.refl _)
   | (with_reducible exact LeO.none _)
   | (with_reducible refine LeO.ite ?_ ?_)
   | (with_reducible refine LeO.bind ?_ (fun _ => ?_))
   | exact ih0 _ _ _ _ _ _ _
   | exact ih1 _ _ _ _ _ _ _ _ _
   | exact LeO.none _
   | refine LeO.ite ?_ ?_
   | refine LeO.bind ?_ (fun _ => ?_)
def spec_l14Next.T10 : Bool × List (List Nat × List Nat) := (true, [([], []), ([0], [0]), ([], []), ([1, 2], [1, 2]), ([3], [3]), ([4], [4]), ([4], [4]), ([6, 4], [4, 6]), ([5, 7, 4], [4, 5, 7]), ([8, 4], [4, 8]), ([4], [4]), ([4], [4]), ([10, 11, 4], [4, 10, 11]), ([12, 4], [4, 12]), ([9, 13, 4, 4], [4, 9, 13]), ([4, 14], [4, 14])])
def spec_l14Next.B10 : List Nat := [0, 1, 0, 7, 15, 31, 31, 95, 255, 511, 31, 31, 3103, 7199, 16383, 32767]
theorem spec_l14Next.tab10 : rtab .any (opsOf Try.f140 10) = spec_l14Next.T10 := by kernel_rfl
theorem spec_l14Next.bits10 : waitsOk spec_l14Next.T10.2 spec_l14Next.B10 = true := by kernel_rfl
def spec_l14Next.T12 : Bool × List (List Nat × List Nat) := (true, [([], []), ([], []), ([0, 1], [0, 1]), ([2], [2]), ([3], [3]), ([3], [3]), ([4, 5, 3], [3, 4, 5]), ([6, 3], [3, 6]), ([3], [3]), ([7, 8, 3, 3], [3, 7, 8]), ([9, 3], [3, 9]), ([3, 10], [3, 10])])
def spec_l14Next.B12 : List Nat := [0, 0, 3, 7, 15, 15, 63, 127, 15, 511, 1023, 2047]
theorem spec_l14Next.tab12 : rtab .any (opsOf Try.f140 12) = spec_l14Next.T12 := by kernel_rfl
theorem spec_l14Next.bits12 : waitsOk spec_l14Next.T12.2 spec_l14Next.B12 = true := by kernel_rfl
set_option maxHeartbeats 8000000 in
set_option maxRecDepth 100000 in
theorem spec_l14Next.calls (k : Nat) (A0 : Option Addr) (c0 : Nat) (l0 : List (S86)) (r1 : Int) (r2 : ByteArray) (r3 : List (S86)) (w : World) (hr0 : Kd.C k86 w A0 l0.length l0) (hc0 : l0.length ≤ c0) (h : spec_l14Next.f k l0 = some (r1, r2, r3)) :
  Calls Try.prog 140 #[.slice A0 l0.length c0] w fun e w' => ∃ v2_ : Value, e = .returned (.tuple #[.agg #[.int .i64 r1, .string r2], v2_]) ∧ Kd.R k86 86 w' w.heap.size (fun _ => True) v2_ r3 ∧ Below w.heap.size w w' := by
 have hu86 := Try.underlying86
 have HR0 := Aside0.mk hr0
 have HC0 := Aside0.mk hc0
 clear hr0 hc0
 have HB := Aside0.mk (Below.refl w.heap.size w)
 have H : (if 0 < (l0.length : Int) then (if 0 ≤ (wrap64 ((l0.length : Int) - 1)) then (if (wrap64 ((l0.length : Int) - 1)) < (l0.length : Int) then ((some (([] : List (S86)) : List (S86))).bind fun y116 => (if (wrap64 ((l0.length : Int) - 1)) ≤ (l0.length : Int) then ((some (l0.take ((wrap64 ((l0.length : Int) - 1)) : Int).toNat : List (S86))).bind fun y119 => (if y116.length + y119.length < 5864062014805 then ((some (y116 ++ y119 : List (S86))).bind fun y123 => (if (wrap64 ((l0.length : Int) - 1)) = 0 then (some ((rd_T86 l0 0).f0, (rd_T86 l0 0).f1, y123)) else (if 0 < (y123.length : Int) then (spec_l14Next.l0 k (wrap64 ((l0.length : Int) - 1)) (y123.set (0 : Int).toNat (⟨(rd_T86 l0 (wrap64 ((l0.length : Int) - 1))).f0, (rd_T86 l0 (wrap64 ((l0.length : Int) - 1))).f1⟩ : S86)) 0 ((rd_T86 l0 0).f0) ((rd_T86 l0 0).f1) ((rd_T86 l0 (wrap64 ((l0.length : Int) - 1))).f0) ((rd_T86 l0 (wrap64 ((l0.length : Int) - 1))).f1)) else (none)))) else (none))) else (none))) else (none)) else (none)) else (none)) = some (r1, r2, r3) := h
 clear h
 by_cases c2 : 0 < (l0.length : Int)
 ·rw [if_pos c2] at H
  have c2b0 : decide (0 < (l0.length : Int)) = true := decide_eq_true c2
  have c2b1 : decide (0 < l0.length) = true := decide_eq_true (by omega)
  clear c2
  obtain ⟨ji3, hji3⟩ : ∃ j_ : Int, (wrap64 ((l0.length : Int) - 1)) = j_ := ⟨_, rfl⟩
  replace H : (if 0 ≤ (ji3) then (if (ji3) < (l0.length : Int) then ((some (([] : List (S86)) : List (S86))).bind fun y116 => (if (ji3) ≤ (l0.length : Int) then ((some (l0.take ((ji3) : Int).toNat : List (S86))).bind fun y119 => (if y116.length + y119.length < 5864062014805 then ((some (y116 ++ y119 : List (S86))).bind fun y123 => (if (ji3) = 0 then (some ((rd_T86 l0 0).f0, (rd_T86 l0 0).f1, y123)) else (if 0 < (y123.length : Int) then (spec_l14Next.l0 k ji3 (y123.set (0 : Int).toNat (⟨(rd_T86 l0 (ji3)).f0, (rd_T86 l0 (ji3)).f1⟩ : S86)) 0 ((rd_T86 l0 0).f0) ((rd_T86 l0 0).f1) ((rd_T86 l0 (ji3)).f0) ((rd_T86 l0 (ji3)).f1)) else (none)))) else (none))) else (none))) else (none)) else (none)) = some (r1, r2, r3) := by first | (rw [hji3] at H; exact H) | (simp only [hji3] at H ⊢; exact H)
  have hji3w : (IntKind.i64.wrap ((l0.length : Int) - 1)) = ji3 := (i64_w _).trans hji3
  by_cases c4 : 0 ≤ (ji3)
  ·rw [if_pos c4] at H
   have c4b0 : decide (0 ≤ (ji3)) = true := decide_eq_true c4
   clear c4
   by_cases c5 : (ji3) < (l0.length : Int)
   ·rw [if_pos c5] at H
    have c5b0 : decide ((ji3) < (l0.length : Int)) = true := decide_eq_true c5
    clear c5
    obtain ⟨y116, hy116⟩ : ∃ y_ : List (S86), y_ = (([] : List (S86))) := ⟨_, rfl⟩
    replace H : (if (ji3) ≤ (l0.length : Int) then ((some (l0.take ((ji3) : Int).toNat : List (S86))).bind fun y119 => (if y116.length + y119.length < 5864062014805 then ((some (y116 ++ y119 : List (S86))).bind fun y123 => (if (ji3) = 0 then (some ((rd_T86 l0 0).f0, (rd_T86 l0 0).f1, y123)) else (if 0 < (y123.length : Int) then (spec_l14Next.l0 k ji3 (y123.set (0 : Int).toNat (⟨(rd_T86 l0 (ji3)).f0, (rd_T86 l0 (ji3)).f1⟩ : S86)) 0 ((rd_T86 l0 0).f0) ((rd_T86 l0 0).f1) ((rd_T86 l0 (ji3)).f0) ((rd_T86 l0 (ji3)).f1)) else (none)))) else (none))) else (none)) = some (r1, r2, r3) := by first | (rw [hy116]; with_reducible exact H) | (have H2_ := (Option.bind_some _ _).symm.trans H; rw [hy116]; with_reducible exact H2_) | (have H2_ := (Option.bind_some _ _).symm.trans H; with_reducible exact H2_) | with_reducible exact H | (rw [hy116]; exact H) | exact H
    have Ny116 := Aside0.mk hy116
    clear hy116
    have c6b0 := eq_true (of_decide_eq_true (by first | (with_reducible assumption) | assumption) : 0 ≤ (ji3))
    by_cases c7 : (ji3) ≤ (l0.length : Int)
    ·rw [if_pos c7] at H
     have c7b0 := eq_true c7
     have c7b1 : decide ((ji3) ≤ (l0.length : Int)) = true := decide_eq_true c7
     clear c7
     obtain ⟨y119, hy119⟩ : ∃ y_ : List (S86), y_ = (l0.take ((ji3) : Int).toNat) := ⟨_, rfl⟩
     replace H : (if y116.length + y119.length < 5864062014805 then ((some (y116 ++ y119 : List (S86))).bind fun y123 => (if (ji3) = 0 then (some ((rd_T86 l0 0).f0, (rd_T86 l0 0).f1, y123)) else (if 0 < (y123.length : Int) then (spec_l14Next.l0 k ji3 (y123.set (0 : Int).toNat (⟨(rd_T86 l0 (ji3)).f0, (rd_T86 l0 (ji3)).f1⟩ : S86)) 0 ((rd_T86 l0 0).f0) ((rd_T86 l0 0).f1) ((rd_T86 l0 (ji3)).f0) ((rd_T86 l0 (ji3)).f1)) else (none)))) else (none)) = some (r1, r2, r3) := by first | (rw [hy119]; with_reducible exact H) | (have H2_ := (Option.bind_some _ _).symm.trans H; rw [hy119]; with_reducible exact H2_) | (have H2_ := (Option.bind_some _ _).symm.trans H; with_reducible exact H2_) | with_reducible exact H | (rw [hy119]; exact H) | exact H
     have Ny119 := Aside0.mk hy119
     clear hy119
     by_cases c8 : y116.length + y119.length < 5864062014805
     ·rw [if_pos c8] at H
      have LMc8 := Aside0.mk c8
      clear c8
      obtain ⟨y123, hy123⟩ : ∃ y_ : List (S86), y_ = (y116 ++ y119) := ⟨_, rfl⟩
      replace H : (if (ji3) = 0 then (some ((rd_T86 l0 0).f0, (rd_T86 l0 0).f1, y123)) else (if 0 < (y123.length : Int) then (spec_l14Next.l0 k ji3 (y123.set (0 : Int).toNat (⟨(rd_T86 l0 (ji3)).f0, (rd_T86 l0 (ji3)).f1⟩ : S86)) 0 ((rd_T86 l0 0).f0) ((rd_T86 l0 0).f1) ((rd_T86 l0 (ji3)).f0) ((rd_T86 l0 (ji3)).f1)) else (none))) = some (r1, r2, r3) := by first | (rw [hy123]; with_reducible exact H) | (have H2_ := (Option.bind_some _ _).symm.trans H; rw [hy123]; with_reducible exact H2_) | (have H2_ := (Option.bind_some _ _).symm.trans H; with_reducible exact H2_) | with_reducible exact H | (rw [hy123]; exact H) | exact H
      have Ny123 := Aside0.mk hy123
      clear hy123
      by_cases c9 : (ji3) = 0
      ·rw [if_pos c9] at H
       have c9b0 : ((ji3) == 0) = true := beq_iff_eq.mpr c9
       have c9b1 : ((ji3) != 0) = false := bne_eq_false_iff_eq.mpr c9
       clear c9
       simp only [Option.some.injEq, Prod.mk.injEq] at H
       obtain ⟨rfl, rfl, rfl⟩ := H
       go_enter Try.func140, Try.ntmps140
       go_wp2_with (first | ((with_reducible refine gate_dst (N := 2) rfl ?_); refine box_event ?hg (N := 2) ?hd (cs := #[.int .i64 0, .string (⟨#[]⟩ : ByteArray)]) (t := 86) ?hr ?_; (case hd => rfl); (case hg => rfl); (case hr => first | (go_simp; done) | (go_simp; rfl)); intro gb111 hg w10 hbox hb; have n0_ := Aside0.mk (below_step (by repeat (first | (with_reducible first | exact HB.out | apply below_alloc | apply pw_below_drewN | apply below_drew1) | exact HB.out)) hb); have n1_ := Aside0.mk (hbox); have n2_ := Aside0.mk ((by rw [hg]; exact (below_size (by repeat (first | (with_reducible first | exact HB.out | apply below_alloc | apply pw_below_drewN | apply below_drew1) | exact HB.out))) : w.heap.size ≤ gb111)); have n3_ := Aside0.mk ((by rw [hg]; exact (below_size (by repeat (first | (with_reducible first | exact HB.out | apply below_alloc | apply pw_below_drewN | apply below_drew1) | exact HB.out))) : w.heap.size ≤ gb111)); clear HB; have HB := n0_; have BK111 := n1_; have GW111 := n2_; have GE111 := n3_; clear n0_ n1_ n2_ n3_; clear hb hbox hg; have p112 : 0 ≤ (0 : Int) := (by omega); have q112 : 0 < (l0.length : Int) := of_decide_eq_true (by first | (with_reducible assumption) | assumption); obtain ⟨ad112, e112, hx112_0, hx112_1⟩ := at_T86 HR0.out 0 p112 q112; cases e112; have qi112 : (0 < l0.length) = True := eq_true (by omega); (try rw [show ((0 : Int)).toNat = 0 from rfl] at hx112_0); (try rw [show 0 * 2 = 0 from rfl] at hx112_0); (try rw [Addr.add_zero'] at hx112_0); (try rw [show ((0 : Int)).toNat = 0 from rfl] at hx112_1); (try rw [show 0 * 2 = 0 from rfl] at hx112_1); (try rw [Addr.add_zero'] at hx112_1); replace hx112_0 := (HB.out.cell (World.block_lt_of_cell? w _ hx112_0)).trans hx112_0; replace hx112_1 := (HB.out.cell (World.block_lt_of_cell? w _ hx112_1)).trans hx112_1; replace p112 := eq_true p112; replace q112 := eq_true q112) | ((with_reducible refine gate_dst (N := 4) rfl ?_); refine box_event ?hg (N := 4) ?hd (cs := #[.int .i64 0, .string (⟨#[]⟩ : ByteArray)]) (t := 86) ?hr ?_; (case hd => rfl); (case hg => rfl); (case hr => first | (go_simp; done) | (go_simp; rfl)); intro gb113 hg w11 hbox hb; have n0_ := Aside0.mk (blk_below (g := gb111) (o := .cells #[.int .i64 0, .string (⟨#[]⟩ : ByteArray)] 86 (0, 0)) (by (with_reducible repeat (first | refine blk_drewN ?_ _ | refine blk_drew ?_ | refine blk_alloc ?_ _)); exact BK111.out) hb); have n1_ := Aside0.mk (below_step (by repeat (first | (with_reducible first | exact HB.out | apply below_alloc | apply pw_below_drewN | apply below_drew1 | refine below_set ?_ GE111.out) | exact HB.out)) hb); have n2_ := Aside0.mk (hbox); have n3_ := Aside0.mk ((by rw [hg]; exact (below_size (by repeat (first | (with_reducible first | exact HB.out | apply below_alloc | apply pw_below_drewN | apply below_drew1 | refine below_set ?_ GE111.out) | exact HB.out))) : w.heap.size ≤ gb113)); have n4_ := Aside0.mk ((by rw [hg]; exact (below_size (by repeat (first | (with_reducible first | exact HB.out | apply below_alloc | apply pw_below_drewN | apply below_drew1 | refine below_set ?_ GE111.out) | exact HB.out))) : w.heap.size ≤ gb113)); have n5_ := Aside0.mk ((by rw [hg]; exact Nat.ne_of_lt (blk_lt (g := gb111) (o := .cells #[.int .i64 0, .string (⟨#[]⟩ : ByteArray)] 86 (0, 0)) (by (with_reducible repeat (first | refine blk_drewN ?_ _ | refine blk_drew ?_ | refine blk_alloc ?_ _)); exact BK111.out)) : gb111 ≠ gb113)); have n6_ := Aside0.mk ((by rw [hg]; exact Nat.ne_of_gt (blk_lt (g := gb111) (o := .cells #[.int .i64 0, .string (⟨#[]⟩ : ByteArray)] 86 (0, 0)) (by (with_reducible repeat (first | refine blk_drewN ?_ _ | refine blk_drew ?_ | refine blk_alloc ?_ _)); exact BK111.out)) : gb113 ≠ gb111)); clear BK111; clear HB; have BK111 := n0_; have HB := n1_; have BK113 := n2_; have GW113 := n3_; have GE113 := n4_; have NB111_113 := n5_; have NB113_111 := n6_; clear n0_ n1_ n2_ n3_ n4_ n5_ n6_; clear hb hbox hg; have hnb12 := NB113_111.out; have hnc12 := NB111_113.out; have hcz13_0 : w11.cell? ⟨gb113, 0, none⟩ = some (.int .i64 0) := (blk_cell BK113.out 0).trans rfl; have hcz13_1 : w11.cell? ⟨gb113, 1, none⟩ = some (.string (⟨#[]⟩ : ByteArray)) := (blk_cell BK113.out 1).trans rfl; have hfz13_0 := blk_frozen BK113.out 0; have hfz13_1 := blk_frozen BK113.out 1; have p114 : 0 ≤ ((ji3) : Int) := of_decide_eq_true (by first | (with_reducible assumption) | assumption); have q114 : (ji3) < (l0.length : Int) := of_decide_eq_true (by first | (with_reducible assumption) | assumption); obtain ⟨ad114, e114, hx114_0, hx114_1⟩ := at_T86 HR0.out (ji3) p114 q114; obtain rfl : ad112 = ad114 := (by injection e114); have hn114_0 : ad112.block ≠ gb113 := Nat.ne_of_lt (Nat.lt_of_lt_of_le (by have := World.block_lt_of_cell? _ _ hx114_0; first | rwa [add_block] at this | exact this) GW113.out); have hn114_1 : ad112.block ≠ gb113 := Nat.ne_of_lt (Nat.lt_of_lt_of_le (by have := World.block_lt_of_cell? _ _ hx114_0; first | rwa [add_block] at this | exact this) GW113.out); replace hx114_0 := (HB.out.cell (World.block_lt_of_cell? w _ hx114_0)).trans hx114_0; replace hx114_1 := (HB.out.cell (World.block_lt_of_cell? w _ hx114_1)).trans hx114_1; replace hx114_0 := (cell_far (p := ⟨gb113, 0, none⟩) (by first | (rw [add_block]; exact hn114_0) | (show (Addr.add _ _).block ≠ _; rw [add_block]; exact hn114_0) | exact hn114_0) (.int .i64 ((rd_T86 l0 0).f0))).trans hx114_0; replace hx114_1 := (cell_far (p := ⟨gb113, 0, none⟩) (by first | (rw [add_block]; exact hn114_0) | (show (Addr.add _ _).block ≠ _; rw [add_block]; exact hn114_0) | exact hn114_0) (.int .i64 ((rd_T86 l0 0).f0))).trans hx114_1; replace hx114_0 := (cell_far (p := ⟨gb113, 1, none⟩) (by first | (rw [add_block]; exact hn114_1) | (show (Addr.add _ _).block ≠ _; rw [add_block]; exact hn114_1) | exact hn114_1) (.string ((rd_T86 l0 0).f1))).trans hx114_0; replace hx114_1 := (cell_far (p := ⟨gb113, 1, none⟩) (by first | (rw [add_block]; exact hn114_1) | (show (Addr.add _ _).block ≠ _; rw [add_block]; exact hn114_1) | exact hn114_1) (.string ((rd_T86 l0 0).f1))).trans hx114_1; clear hn114_0; clear hn114_1; replace p114 := eq_true p114; replace q114 := eq_true q114) | ((with_reducible refine gate_dst (N := 6) rfl ?_); refine box_event ?hg (N := 6) ?hd (cs := #[.int .i64 0, .string (⟨#[]⟩ : ByteArray)]) (t := 86) ?hr ?_; (case hd => rfl); (case hg => rfl); (case hr => first | (go_simp; done) | (go_simp; rfl)); intro gb115 hg w14 hbox hb; have n0_ := Aside0.mk (blk_below (g := gb111) (o := .cells #[.int .i64 0, .string (⟨#[]⟩ : ByteArray)] 86 (0, 0)) (by (with_reducible repeat (first | refine blk_drewN ?_ _ | refine blk_drew ?_ | refine blk_alloc ?_ _)); refine blk_far ?_ NB111_113.out _; (with_reducible repeat (first | refine blk_drewN ?_ _ | refine blk_drew ?_ | refine blk_alloc ?_ _)); refine blk_far ?_ NB111_113.out _; (with_reducible repeat (first | refine blk_drewN ?_ _ | refine blk_drew ?_ | refine blk_alloc ?_ _)); exact BK111.out) hb); have n1_ := Aside0.mk (blk_below (g := gb113) (o := .cells #[.int .i64 ((rd_T86 l0 0).f0), .string ((rd_T86 l0 0).f1)] 86 (0, 0)) (by (with_reducible repeat (first | refine blk_drewN ?_ _ | refine blk_drew ?_ | refine blk_alloc ?_ _)); refine blk_put (cs := #[.int .i64 ((rd_T86 l0 0).f0), .string (⟨#[]⟩ : ByteArray)]) ?_ 1 _ rfl; (with_reducible repeat (first | refine blk_drewN ?_ _ | refine blk_drew ?_ | refine blk_alloc ?_ _)); refine blk_put (cs := #[.int .i64 0, .string (⟨#[]⟩ : ByteArray)]) ?_ 0 _ rfl; (with_reducible repeat (first | refine blk_drewN ?_ _ | refine blk_drew ?_ | refine blk_alloc ?_ _)); exact BK113.out) hb); have n2_ := Aside0.mk (below_step (by repeat (first | (with_reducible first | exact HB.out | apply below_alloc | apply pw_below_drewN | apply below_drew1 | refine below_set ?_ GE111.out | refine below_set ?_ GE113.out) | exact HB.out)) hb); have n3_ := Aside0.mk (hbox); have n4_ := Aside0.mk ((by rw [hg]; exact (below_size (by repeat (first | (with_reducible first | exact HB.out | apply below_alloc | apply pw_below_drewN | apply below_drew1 | refine below_set ?_ GE111.out | refine below_set ?_ GE113.out) | exact HB.out))) : w.heap.size ≤ gb115)); have n5_ := Aside0.mk ((by rw [hg]; exact (below_size (by repeat (first | (with_reducible first | exact HB.out | apply below_alloc | apply pw_below_drewN | apply below_drew1 | refine below_set ?_ GE111.out | refine below_set ?_ GE113.out) | exact HB.out))) : w.heap.size ≤ gb115)); have n6_ := Aside0.mk ((by rw [hg]; exact Nat.ne_of_lt (blk_lt (g := gb111) (o := .cells #[.int .i64 0, .string (⟨#[]⟩ : ByteArray)] 86 (0, 0)) (by (with_reducible repeat (first | refine blk_drewN ?_ _ | refine blk_drew ?_ | refine blk_alloc ?_ _)); refine blk_far ?_ NB111_113.out _; (with_reducible repeat (first | refine blk_drewN ?_ _ | refine blk_drew ?_ | refine blk_alloc ?_ _)); refine blk_far ?_ NB111_113.out _; (with_reducible repeat (first | refine blk_drewN ?_ _ | refine blk_drew ?_ | refine blk_alloc ?_ _)); exact BK111.out)) : gb111 ≠ gb115)); have n7_ := Aside0.mk ((by rw [hg]; exact Nat.ne_of_gt (blk_lt (g := gb111) (o := .cells #[.int .i64 0, .string (⟨#[]⟩ : ByteArray)] 86 (0, 0)) (by (with_reducible repeat (first | refine blk_drewN ?_ _ | refine blk_drew ?_ | refine blk_alloc ?_ _)); refine blk_far ?_ NB111_113.out _; (with_reducible repeat (first | refine blk_drewN ?_ _ | refine blk_drew ?_ | refine blk_alloc ?_ _)); refine blk_far ?_ NB111_113.out _; (with_reducible repeat (first | refine blk_drewN ?_ _ | refine blk_drew ?_ | refine blk_alloc ?_ _)); exact BK111.out)) : gb115 ≠ gb111)); have n8_ := Aside0.mk ((by rw [hg]; exact Nat.ne_of_lt (blk_lt (g := gb113) (o := .cells #[.int .i64 ((rd_T86 l0 0).f0), .string ((rd_T86 l0 0).f1)] 86 (0, 0)) (by (with_reducible repeat (first | refine blk_drewN ?_ _ | refine blk_drew ?_ | refine blk_alloc ?_ _)); refine blk_put (cs := #[.int .i64 ((rd_T86 l0 0).f0), .string (⟨#[]⟩ : ByteArray)]) ?_ 1 _ rfl; (with_reducible repeat (first | refine blk_drewN ?_ _ | refine blk_drew ?_ | refine blk_alloc ?_ _)); refine blk_put (cs := #[.int .i64 0, .string (⟨#[]⟩ : ByteArray)]) ?_ 0 _ rfl; (with_reducible repeat (first | refine blk_drewN ?_ _ | refine blk_drew ?_ | refine blk_alloc ?_ _)); exact BK113.out)) : gb113 ≠ gb115)); have n9_ := Aside0.mk ((by rw [hg]; exact Nat.ne_of_gt (blk_lt (g := gb113) (o := .cells #[.int .i64 ((rd_T86 l0 0).f0), .string ((rd_T86 l0 0).f1)] 86 (0, 0)) (by (with_reducible repeat (first | refine blk_drewN ?_ _ | refine blk_drew ?_ | refine blk_alloc ?_ _)); refine blk_put (cs := #[.int .i64 ((rd_T86 l0 0).f0), .string (⟨#[]⟩ : ByteArray)]) ?_ 1 _ rfl; (with_reducible repeat (first | refine blk_drewN ?_ _ | refine blk_drew ?_ | refine blk_alloc ?_ _)); refine blk_put (cs := #[.int .i64 0, .string (⟨#[]⟩ : ByteArray)]) ?_ 0 _ rfl; (with_reducible repeat (first | refine blk_drewN ?_ _ | refine blk_drew ?_ | refine blk_alloc ?_ _)); exact BK113.out)) : gb115 ≠ gb113)); clear BK111; clear BK113; clear HB; have BK111 := n0_; have BK113 := n1_; have HB := n2_; have BK115 := n3_; have GW115 := n4_; have GE115 := n5_; have NB111_115 := n6_; have NB115_111 := n7_; have NB113_115 := n8_; have NB115_113 := n9_; clear n0_ n1_ n2_ n3_ n4_ n5_ n6_ n7_ n8_ n9_; clear hb hbox hg; have hnb15 := NB115_111.out; have hnc15 := NB111_115.out; have hnb16 := NB115_113.out; have hnc16 := NB113_115.out; have hcz17_0 : w14.cell? ⟨gb115, 0, none⟩ = some (.int .i64 0) := (blk_cell BK115.out 0).trans rfl; have hcz17_1 : w14.cell? ⟨gb115, 1, none⟩ = some (.string (⟨#[]⟩ : ByteArray)) := (blk_cell BK115.out 1).trans rfl; have hfz17_0 := blk_frozen BK115.out 0; have hfz17_1 := blk_frozen BK115.out 1) | ((with_reducible refine gate_dst (N := 20) rfl ?_); refine Kd.R_lit k86 _ 86 ?hg (N := 20) ?hd (xs := ([] : List (S86))) (inner := []) (ok := fun _ => True) (okp := fun _ => True) ?hr ?hp (fun _ hk => hk) trivial (Below.refl _ _) (Nat.le_refl _) (by simp) ?_; (case hd => rfl); (case hg => rfl); (case hr => first | (go_simp; done) | (go_simp; rfl)); (case hp => exact (Reps.none _ _)); intro v117 w18 ho19 hb hg_ hnew_; clear hg_ hnew_; (first | rw [← Ny116.out] at ho19 | (simp only [Int.reduceToNat] at ho19; rw [← Ny116.out] at ho19)); have n0_ := Aside0.mk (Kd.R_lower (Kd.R_newB (Kd.R_newB (Kd.R_newB ho19 (g := gb111) (o := .cells #[.int .i64 0, .string (⟨#[]⟩ : ByteArray)] 86 (0, 0)) (by (with_reducible repeat (first | refine blk_drewN ?_ _ | refine blk_drew ?_ | refine blk_alloc ?_ _)); refine blk_far ?_ NB111_115.out _; (with_reducible repeat (first | refine blk_drewN ?_ _ | refine blk_drew ?_ | refine blk_alloc ?_ _)); refine blk_far ?_ NB111_115.out _; (with_reducible repeat (first | refine blk_drewN ?_ _ | refine blk_drew ?_ | refine blk_alloc ?_ _)); exact BK111.out)) (g := gb113) (o := .cells #[.int .i64 ((rd_T86 l0 0).f0), .string ((rd_T86 l0 0).f1)] 86 (0, 0)) (by (with_reducible repeat (first | refine blk_drewN ?_ _ | refine blk_drew ?_ | refine blk_alloc ?_ _)); refine blk_far ?_ NB113_115.out _; (with_reducible repeat (first | refine blk_drewN ?_ _ | refine blk_drew ?_ | refine blk_alloc ?_ _)); refine blk_far ?_ NB113_115.out _; (with_reducible repeat (first | refine blk_drewN ?_ _ | refine blk_drew ?_ | refine blk_alloc ?_ _)); exact BK113.out)) (g := gb115) (o := .cells #[.int .i64 ((rd_T86 l0 (ji3)).f0), .string ((rd_T86 l0 (ji3)).f1)] 86 (0, 0)) (by (with_reducible repeat (first | refine blk_drewN ?_ _ | refine blk_drew ?_ | refine blk_alloc ?_ _)); refine blk_put (cs := #[.int .i64 ((rd_T86 l0 (ji3)).f0), .string (⟨#[]⟩ : ByteArray)]) ?_ 1 _ rfl; (with_reducible repeat (first | refine blk_drewN ?_ _ | refine blk_drew ?_ | refine blk_alloc ?_ _)); refine blk_put (cs := #[.int .i64 0, .string (⟨#[]⟩ : ByteArray)]) ?_ 0 _ rfl; (with_reducible repeat (first | refine blk_drewN ?_ _ | refine blk_drew ?_ | refine blk_alloc ?_ _)); exact BK115.out)) (below_size (by repeat (first | (with_reducible first | exact HB.out | apply below_alloc | apply pw_below_drewN | apply below_drew1 | refine below_set ?_ GE111.out | refine below_set ?_ GE113.out | refine below_set ?_ GE115.out) | exact HB.out)))); have n1_ := Aside0.mk (blk_below (g := gb111) (o := .cells #[.int .i64 0, .string (⟨#[]⟩ : ByteArray)] 86 (0, 0)) (by (with_reducible repeat (first | refine blk_drewN ?_ _ | refine blk_drew ?_ | refine blk_alloc ?_ _)); refine blk_far ?_ NB111_115.out _; (with_reducible repeat (first | refine blk_drewN ?_ _ | refine blk_drew ?_ | refine blk_alloc ?_ _)); refine blk_far ?_ NB111_115.out _; (with_reducible repeat (first | refine blk_drewN ?_ _ | refine blk_drew ?_ | refine blk_alloc ?_ _)); exact BK111.out) hb); have n2_ := Aside0.mk (blk_below (g := gb113) (o := .cells #[.int .i64 ((rd_T86 l0 0).f0), .string ((rd_T86 l0 0).f1)] 86 (0, 0)) (by (with_reducible repeat (first | refine blk_drewN ?_ _ | refine blk_drew ?_ | refine blk_alloc ?_ _)); refine blk_far ?_ NB113_115.out _; (with_reducible repeat (first | refine blk_drewN ?_ _ | refine blk_drew ?_ | refine blk_alloc ?_ _)); refine blk_far ?_ NB113_115.out _; (with_reducible repeat (first | refine blk_drewN ?_ _ | refine blk_drew ?_ | refine blk_alloc ?_ _)); exact BK113.out) hb); have n3_ := Aside0.mk (blk_below (g := gb115) (o := .cells #[.int .i64 ((rd_T86 l0 (ji3)).f0), .string ((rd_T86 l0 (ji3)).f1)] 86 (0, 0)) (by (with_reducible repeat (first | refine blk_drewN ?_ _ | refine blk_drew ?_ | refine blk_alloc ?_ _)); refine blk_put (cs := #[.int .i64 ((rd_T86 l0 (ji3)).f0), .string (⟨#[]⟩ : ByteArray)]) ?_ 1 _ rfl; (with_reducible repeat (first | refine blk_drewN ?_ _ | refine blk_drew ?_ | refine blk_alloc ?_ _)); refine blk_put (cs := #[.int .i64 0, .string (⟨#[]⟩ : ByteArray)]) ?_ 0 _ rfl; (with_reducible repeat (first | refine blk_drewN ?_ _ | refine blk_drew ?_ | refine blk_alloc ?_ _)); exact BK115.out) hb); have n4_ := Aside0.mk (below_step (by repeat (first | (with_reducible first | exact HB.out | apply below_alloc | apply pw_below_drewN | apply below_drew1 | refine below_set ?_ GE111.out | refine below_set ?_ GE113.out | refine below_set ?_ GE115.out) | exact HB.out)) hb); clear BK111; clear BK113; clear BK115; clear HB; have HO118 := n0_; have BK111 := n1_; have BK113 := n2_; have BK115 := n3_; have HB := n4_; clear n0_ n1_ n2_ n3_ n4_; clear hb ho19; have q20 : ((ji3) : Int) ≤ ((l0.length : Int) : Int) := of_decide_eq_true (by first | (with_reducible assumption) | assumption); obtain ⟨i020, hi020, _, hsz20, _⟩ := info_parts info86; have hroom20 : l0.length ≤ c0 := HC0.out; have hC20 : Kd.C k86 _ (some ad112) l0.length l0 := HR0.out; have hcut20 := cut_to (P := Try.prog) 26 86 .i64 Try.underlying26 hi020 (some ad112) l0.length c0 (ji3) (of_decide_eq_true (by first | (with_reducible assumption) | assumption)) q20 hroom20; have hr20 := Kd.C_take (m := ((ji3) : Int).toNat) hC20 (by omega); have hy20 : y119.length = ((ji3) : Int).toNat := (by rw [Ny119.out, List.length_take]; omega); rw [← Ny119.out] at hr20; rw [← hy20] at hcut20; have HR122 := Aside0.mk hr20; have HC122 := Aside0.mk (show y119.length ≤ c0 from by omega); clear hr20 hC20 hroom20 hi020 hsz20; have KY20 := Aside0.mk hy20; clear hy20; replace q20 := eq_true q20) | ((with_reducible refine gate_builtin (b := .append) (xs := #[.tmp 20, .tmp 23]) rfl ?_); at_builtin; refine Kd.R_append_rows k86 (w0 := w) w.heap.size rfl (.tmp 20) (.tmp 23) 26 86 (.agg #[(.int .i64 0), (.string ⟨#[]⟩)]) 24 rfl Try.underlying26 info86 rfl (by decide) (by omega) v117 y116 y119 _ _ _ (fun k_ => k_ ≠ gb111 ∧ k_ ≠ gb113 ∧ k_ ≠ gb115) (fun _ => False) rfl rfl ?aO ?aR (fun _ _ h => h) (fun _ h => h.elim) ?aF ?aB ?aS ?aL ?_; (case aR => repeat (first | exact (Kd.C_below HR122.out HB.out) | (with_reducible refine Kd.C_alloc ?_ _) | (with_reducible refine Kd.C_drewN ?_ _) | (with_reducible refine Kd.C_drew ?_))); (case aB => exact (by repeat (first | (with_reducible first | exact HB.out | apply below_alloc | apply pw_below_drewN | apply below_drew1 | refine below_set ?_ GE111.out | refine below_set ?_ GE113.out | refine below_set ?_ GE115.out) | exact HB.out))); (case aF => exact (fun k_ hk => ⟨Kd.freshB (g := gb111) (o := .cells #[.int .i64 0, .string (⟨#[]⟩ : ByteArray)] 86 (0, 0)) (by (with_reducible repeat (first | refine blk_drewN ?_ _ | refine blk_drew ?_ | refine blk_alloc ?_ _)); exact BK111.out) k_ hk, Kd.freshB (g := gb113) (o := .cells #[.int .i64 ((rd_T86 l0 0).f0), .string ((rd_T86 l0 0).f1)] 86 (0, 0)) (by (with_reducible repeat (first | refine blk_drewN ?_ _ | refine blk_drew ?_ | refine blk_alloc ?_ _)); exact BK113.out) k_ hk, Kd.freshB (g := gb115) (o := .cells #[.int .i64 ((rd_T86 l0 (ji3)).f0), .string ((rd_T86 l0 (ji3)).f1)] 86 (0, 0)) (by (with_reducible repeat (first | refine blk_drewN ?_ _ | refine blk_drew ?_ | refine blk_alloc ?_ _)); exact BK115.out) k_ hk⟩)); (case aO => exact (by (with_reducible repeat (first | apply Kd.R_alloc | apply Kd.R_drewN | apply Kd.R_drew)); exact Kd.R_mono HO118.out (fun _ hk => ⟨hk.1.1.2, ⟨hk.1.2, hk.2⟩⟩))); (case aS => exact (below_size (by repeat (first | (with_reducible first | exact HB.out | apply below_alloc | apply pw_below_drewN | apply below_drew1 | refine below_set ?_ GE111.out | refine below_set ?_ GE113.out | refine below_set ?_ GE115.out) | exact HB.out)))); (case aL => have := LMc8.out; omega); intro v124 w21 ho hb hg hat; rw [← Ny123.out] at ho; have n0_ := Aside0.mk (blk_grown (g := gb111) (o := .cells #[.int .i64 0, .string (⟨#[]⟩ : ByteArray)] 86 (0, 0)) (by (with_reducible repeat (first | refine blk_drewN ?_ _ | refine blk_drew ?_ | refine blk_alloc ?_ _)); exact BK111.out) hg (Kd.R_away HO118.out (fun _ hk => hk.1.1.2))); have n1_ := Aside0.mk (blk_grown (g := gb113) (o := .cells #[.int .i64 ((rd_T86 l0 0).f0), .string ((rd_T86 l0 0).f1)] 86 (0, 0)) (by (with_reducible repeat (first | refine blk_drewN ?_ _ | refine blk_drew ?_ | refine blk_alloc ?_ _)); exact BK113.out) hg (Kd.R_away HO118.out (fun _ hk => hk.1.2))); have n2_ := Aside0.mk (blk_grown (g := gb115) (o := .cells #[.int .i64 ((rd_T86 l0 (ji3)).f0), .string ((rd_T86 l0 (ji3)).f1)] 86 (0, 0)) (by (with_reducible repeat (first | refine blk_drewN ?_ _ | refine blk_drew ?_ | refine blk_alloc ?_ _)); exact BK115.out) hg (Kd.R_away HO118.out (fun _ hk => hk.2))); have n3_ := Aside0.mk (hb); have n4_ := Aside0.mk (ho); clear BK111; clear BK113; clear BK115; clear HB; clear HO118; have BK111 := n0_; have BK113 := n1_; have BK115 := n2_; have HB := n3_; have HO125 := n4_; clear n0_ n1_ n2_ n3_ n4_; clear ho hb hg hat; have hcz22_0 : w21.cell? ⟨gb113, 0, none⟩ = some (.int .i64 ((rd_T86 l0 0).f0)) := (blk_cell BK113.out 0).trans rfl; have hcz22_1 : w21.cell? ⟨gb113, 1, none⟩ = some (.string ((rd_T86 l0 0).f1)) := (blk_cell BK113.out 1).trans rfl; have hfz22_0 := blk_frozen BK113.out 0; have hfz22_1 := blk_frozen BK113.out 1; have hcz23_0 : w21.cell? ⟨gb111, 0, none⟩ = some (.int .i64 0) := (blk_cell BK111.out 0).trans rfl; have hcz23_1 : w21.cell? ⟨gb111, 1, none⟩ = some (.string (⟨#[]⟩ : ByteArray)) := (blk_cell BK111.out 1).trans rfl; have hfz23_0 := blk_frozen BK111.out 0; have hfz23_1 := blk_frozen BK111.out 1))
       refine bodyPost_ret (results_ct rfl _ _ gb111 86 #[.int .i64 ((rd_T86 l0 0).f0), .string ((rd_T86 l0 0).f1)] (0, 0) _ rfl (by (with_reducible repeat (first | refine blk_drewN ?_ _ | refine blk_drew ?_ | refine blk_alloc ?_ _)); refine blk_put (cs := #[.int .i64 ((rd_T86 l0 0).f0), .string (⟨#[]⟩ : ByteArray)]) ?_ 1 _ rfl; (with_reducible repeat (first | refine blk_drewN ?_ _ | refine blk_drew ?_ | refine blk_alloc ?_ _)); refine blk_put (cs := #[.int .i64 0, .string (⟨#[]⟩ : ByteArray)]) ?_ 0 _ rfl; (with_reducible repeat (first | refine blk_drewN ?_ _ | refine blk_drew ?_ | refine blk_alloc ?_ _)); exact BK111.out) Try.underlying86 rfl (by kernel_rfl)) rfl ?_
       exact ⟨_, by first | rfl | (simp [errW_none, errW_some] <;> rfl) | (simp only [← hji3]; first | rfl | (simp [errW_none, errW_some] <;> rfl)) | (simp [*, errW_none, errW_some] <;> rfl), by (with_reducible repeat (first | apply Kd.R_alloc | apply Kd.R_drewN | apply Kd.R_drew)); exact Kd.R_mono (Kd.R_far (p := ⟨gb111, 1, none⟩) (Kd.R_far (p := ⟨gb111, 0, none⟩) (Kd.R_mono HO125.out (fun k_ hk => (⟨hk, hk.1⟩ : _ ∧ k_ ≠ gb111))) (fun _ hk => hk.2) (.int .i64 ((rd_T86 l0 0).f0))) (fun _ hk => hk.2) (.string ((rd_T86 l0 0).f1))) (fun _ hk => trivial), by repeat (first | (with_reducible first | exact HB.out | apply below_alloc | apply pw_below_drewN | apply below_drew1 | refine below_set ?_ GE111.out | refine below_set ?_ GE113.out | refine below_set ?_ GE115.out) | exact HB.out)⟩
      ·rw [if_neg c9] at H
       have c9b0 : ((ji3) == 0) = false := beq_eq_false_iff_ne.mpr c9
       have c9b1 : ((ji3) != 0) = true := bne_iff_ne.mpr c9
       by_cases c24 : 0 < (y123.length : Int)
       ·rw [if_pos c24] at H
        have c24b0 : decide (0 < (y123.length : Int)) = true := decide_eq_true c24
        have c24b1 : decide (0 < y123.length) = true := decide_eq_true (by omega)
        clear c24
        obtain ⟨y126, hy126⟩ : ∃ y_ : List (S86), y_ = (y123.set (0 : Int).toNat (⟨(rd_T86 l0 (ji3)).f0, (rd_T86 l0 (ji3)).f1⟩ : S86)) := ⟨_, rfl⟩
        replace H : (spec_l14Next.l0 k ji3 y126 0 ((rd_T86 l0 0).f0) ((rd_T86 l0 0).f1) ((rd_T86 l0 (ji3)).f0) ((rd_T86 l0 (ji3)).f1)) = some (r1, r2, r3) := by first | (rw [hy126]; with_reducible exact H) | (have H2_ := (Option.bind_some _ _).symm.trans H; rw [hy126]; with_reducible exact H2_) | (have H2_ := (Option.bind_some _ _).symm.trans H; with_reducible exact H2_) | with_reducible exact H | (rw [hy126]; exact H) | exact H
        have Ny126 := Aside0.mk hy126
        clear hy126
        have H' := Aside0.mk H
        clear H
        go_enter Try.func140, Try.ntmps140
        go_wp2_with (first | ((with_reducible refine gate_dst (N := 2) rfl ?_); refine box_event ?hg (N := 2) ?hd (cs := #[.int .i64 0, .string (⟨#[]⟩ : ByteArray)]) (t := 86) ?hr ?_; (case hd => rfl); (case hg => rfl); (case hr => first | (go_simp; done) | (go_simp; rfl)); intro gb111 hg w26 hbox hb; have n0_ := Aside0.mk (below_step (by repeat (first | (with_reducible first | exact HB.out | apply below_alloc | apply pw_below_drewN | apply below_drew1) | exact HB.out)) hb); have n1_ := Aside0.mk (hbox); have n2_ := Aside0.mk ((by rw [hg]; exact (below_size (by repeat (first | (with_reducible first | exact HB.out | apply below_alloc | apply pw_below_drewN | apply below_drew1) | exact HB.out))) : w.heap.size ≤ gb111)); have n3_ := Aside0.mk ((by rw [hg]; exact (below_size (by repeat (first | (with_reducible first | exact HB.out | apply below_alloc | apply pw_below_drewN | apply below_drew1) | exact HB.out))) : w.heap.size ≤ gb111)); clear HB; have HB := n0_; have BK111 := n1_; have GW111 := n2_; have GE111 := n3_; clear n0_ n1_ n2_ n3_; clear hb hbox hg; have p112 : 0 ≤ (0 : Int) := (by omega); have q112 : 0 < (l0.length : Int) := of_decide_eq_true (by first | (with_reducible assumption) | assumption); obtain ⟨ad112, e112, hx112_0, hx112_1⟩ := at_T86 HR0.out 0 p112 q112; cases e112; have qi112 : (0 < l0.length) = True := eq_true (by omega); (try rw [show ((0 : Int)).toNat = 0 from rfl] at hx112_0); (try rw [show 0 * 2 = 0 from rfl] at hx112_0); (try rw [Addr.add_zero'] at hx112_0); (try rw [show ((0 : Int)).toNat = 0 from rfl] at hx112_1); (try rw [show 0 * 2 = 0 from rfl] at hx112_1); (try rw [Addr.add_zero'] at hx112_1); replace hx112_0 := (HB.out.cell (World.block_lt_of_cell? w _ hx112_0)).trans hx112_0; replace hx112_1 := (HB.out.cell (World.block_lt_of_cell? w _ hx112_1)).trans hx112_1; replace p112 := eq_true p112; replace q112 := eq_true q112) | ((with_reducible refine gate_dst (N := 4) rfl ?_); refine box_event ?hg (N := 4) ?hd (cs := #[.int .i64 0, .string (⟨#[]⟩ : ByteArray)]) (t := 86) ?hr ?_; (case hd => rfl); (case hg => rfl); (case hr => first | (go_simp; done) | (go_simp; rfl)); intro gb113 hg w27 hbox hb; have n0_ := Aside0.mk (blk_below (g := gb111) (o := .cells #[.int .i64 0, .string (⟨#[]⟩ : ByteArray)] 86 (0, 0)) (by (with_reducible repeat (first | refine blk_drewN ?_ _ | refine blk_drew ?_ | refine blk_alloc ?_ _)); exact BK111.out) hb); have n1_ := Aside0.mk (below_step (by repeat (first | (with_reducible first | exact HB.out | apply below_alloc | apply pw_below_drewN | apply below_drew1 | refine below_set ?_ GE111.out) | exact HB.out)) hb); have n2_ := Aside0.mk (hbox); have n3_ := Aside0.mk ((by rw [hg]; exact (below_size (by repeat (first | (with_reducible first | exact HB.out | apply below_alloc | apply pw_below_drewN | apply below_drew1 | refine below_set ?_ GE111.out) | exact HB.out))) : w.heap.size ≤ gb113)); have n4_ := Aside0.mk ((by rw [hg]; exact (below_size (by repeat (first | (with_reducible first | exact HB.out | apply below_alloc | apply pw_below_drewN | apply below_drew1 | refine below_set ?_ GE111.out) | exact HB.out))) : w.heap.size ≤ gb113)); have n5_ := Aside0.mk ((by rw [hg]; exact Nat.ne_of_lt (blk_lt (g := gb111) (o := .cells #[.int .i64 0, .string (⟨#[]⟩ : ByteArray)] 86 (0, 0)) (by (with_reducible repeat (first | refine blk_drewN ?_ _ | refine blk_drew ?_ | refine blk_alloc ?_ _)); exact BK111.out)) : gb111 ≠ gb113)); have n6_ := Aside0.mk ((by rw [hg]; exact Nat.ne_of_gt (blk_lt (g := gb111) (o := .cells #[.int .i64 0, .string (⟨#[]⟩ : ByteArray)] 86 (0, 0)) (by (with_reducible repeat (first | refine blk_drewN ?_ _ | refine blk_drew ?_ | refine blk_alloc ?_ _)); exact BK111.out)) : gb113 ≠ gb111)); clear BK111; clear HB; have BK111 := n0_; have HB := n1_; have BK113 := n2_; have GW113 := n3_; have GE113 := n4_; have NB111_113 := n5_; have NB113_111 := n6_; clear n0_ n1_ n2_ n3_ n4_ n5_ n6_; clear hb hbox hg; have hnb28 := NB113_111.out; have hnc28 := NB111_113.out; have hcz29_0 : w27.cell? ⟨gb113, 0, none⟩ = some (.int .i64 0) := (blk_cell BK113.out 0).trans rfl; have hcz29_1 : w27.cell? ⟨gb113, 1, none⟩ = some (.string (⟨#[]⟩ : ByteArray)) := (blk_cell BK113.out 1).trans rfl; have hfz29_0 := blk_frozen BK113.out 0; have hfz29_1 := blk_frozen BK113.out 1; have p114 : 0 ≤ ((ji3) : Int) := of_decide_eq_true (by first | (with_reducible assumption) | assumption); have q114 : (ji3) < (l0.length : Int) := of_decide_eq_true (by first | (with_reducible assumption) | assumption); obtain ⟨ad114, e114, hx114_0, hx114_1⟩ := at_T86 HR0.out (ji3) p114 q114; obtain rfl : ad112 = ad114 := (by injection e114); have hn114_0 : ad112.block ≠ gb113 := Nat.ne_of_lt (Nat.lt_of_lt_of_le (by have := World.block_lt_of_cell? _ _ hx114_0; first | rwa [add_block] at this | exact this) GW113.out); have hn114_1 : ad112.block ≠ gb113 := Nat.ne_of_lt (Nat.lt_of_lt_of_le (by have := World.block_lt_of_cell? _ _ hx114_0; first | rwa [add_block] at this | exact this) GW113.out); replace hx114_0 := (HB.out.cell (World.block_lt_of_cell? w _ hx114_0)).trans hx114_0; replace hx114_1 := (HB.out.cell (World.block_lt_of_cell? w _ hx114_1)).trans hx114_1; replace hx114_0 := (cell_far (p := ⟨gb113, 0, none⟩) (by first | (rw [add_block]; exact hn114_0) | (show (Addr.add _ _).block ≠ _; rw [add_block]; exact hn114_0) | exact hn114_0) (.int .i64 ((rd_T86 l0 0).f0))).trans hx114_0; replace hx114_1 := (cell_far (p := ⟨gb113, 0, none⟩) (by first | (rw [add_block]; exact hn114_0) | (show (Addr.add _ _).block ≠ _; rw [add_block]; exact hn114_0) | exact hn114_0) (.int .i64 ((rd_T86 l0 0).f0))).trans hx114_1; replace hx114_0 := (cell_far (p := ⟨gb113, 1, none⟩) (by first | (rw [add_block]; exact hn114_1) | (show (Addr.add _ _).block ≠ _; rw [add_block]; exact hn114_1) | exact hn114_1) (.string ((rd_T86 l0 0).f1))).trans hx114_0; replace hx114_1 := (cell_far (p := ⟨gb113, 1, none⟩) (by first | (rw [add_block]; exact hn114_1) | (show (Addr.add _ _).block ≠ _; rw [add_block]; exact hn114_1) | exact hn114_1) (.string ((rd_T86 l0 0).f1))).trans hx114_1; clear hn114_0; clear hn114_1; replace p114 := eq_true p114; replace q114 := eq_true q114) | ((with_reducible refine gate_dst (N := 6) rfl ?_); refine box_event ?hg (N := 6) ?hd (cs := #[.int .i64 0, .string (⟨#[]⟩ : ByteArray)]) (t := 86) ?hr ?_; (case hd => rfl); (case hg => rfl); (case hr => first | (go_simp; done) | (go_simp; rfl)); intro gb115 hg w30 hbox hb; have n0_ := Aside0.mk (blk_below (g := gb111) (o := .cells #[.int .i64 0, .string (⟨#[]⟩ : ByteArray)] 86 (0, 0)) (by (with_reducible repeat (first | refine blk_drewN ?_ _ | refine blk_drew ?_ | refine blk_alloc ?_ _)); refine blk_far ?_ NB111_113.out _; (with_reducible repeat (first | refine blk_drewN ?_ _ | refine blk_drew ?_ | refine blk_alloc ?_ _)); refine blk_far ?_ NB111_113.out _; (with_reducible repeat (first | refine blk_drewN ?_ _ | refine blk_drew ?_ | refine blk_alloc ?_ _)); exact BK111.out) hb); have n1_ := Aside0.mk (blk_below (g := gb113) (o := .cells #[.int .i64 ((rd_T86 l0 0).f0), .string ((rd_T86 l0 0).f1)] 86 (0, 0)) (by (with_reducible repeat (first | refine blk_drewN ?_ _ | refine blk_drew ?_ | refine blk_alloc ?_ _)); refine blk_put (cs := #[.int .i64 ((rd_T86 l0 0).f0), .string (⟨#[]⟩ : ByteArray)]) ?_ 1 _ rfl; (with_reducible repeat (first | refine blk_drewN ?_ _ | refine blk_drew ?_ | refine blk_alloc ?_ _)); refine blk_put (cs := #[.int .i64 0, .string (⟨#[]⟩ : ByteArray)]) ?_ 0 _ rfl; (with_reducible repeat (first | refine blk_drewN ?_ _ | refine blk_drew ?_ | refine blk_alloc ?_ _)); exact BK113.out) hb); have n2_ := Aside0.mk (below_step (by repeat (first | (with_reducible first | exact HB.out | apply below_alloc | apply pw_below_drewN | apply below_drew1 | refine below_set ?_ GE111.out | refine below_set ?_ GE113.out) | exact HB.out)) hb); have n3_ := Aside0.mk (hbox); have n4_ := Aside0.mk ((by rw [hg]; exact (below_size (by repeat (first | (with_reducible first | exact HB.out | apply below_alloc | apply pw_below_drewN | apply below_drew1 | refine below_set ?_ GE111.out | refine below_set ?_ GE113.out) | exact HB.out))) : w.heap.size ≤ gb115)); have n5_ := Aside0.mk ((by rw [hg]; exact (below_size (by repeat (first | (with_reducible first | exact HB.out | apply below_alloc | apply pw_below_drewN | apply below_drew1 | refine below_set ?_ GE111.out | refine below_set ?_ GE113.out) | exact HB.out))) : w.heap.size ≤ gb115)); have n6_ := Aside0.mk ((by rw [hg]; exact Nat.ne_of_lt (blk_lt (g := gb111) (o := .cells #[.int .i64 0, .string (⟨#[]⟩ : ByteArray)] 86 (0, 0)) (by (with_reducible repeat (first | refine blk_drewN ?_ _ | refine blk_drew ?_ | refine blk_alloc ?_ _)); refine blk_far ?_ NB111_113.out _; (with_reducible repeat (first | refine blk_drewN ?_ _ | refine blk_drew ?_ | refine blk_alloc ?_ _)); refine blk_far ?_ NB111_113.out _; (with_reducible repeat (first | refine blk_drewN ?_ _ | refine blk_drew ?_ | refine blk_alloc ?_ _)); exact BK111.out)) : gb111 ≠ gb115)); have n7_ := Aside0.mk ((by rw [hg]; exact Nat.ne_of_gt (blk_lt (g := gb111) (o := .cells #[.int .i64 0, .string (⟨#[]⟩ : ByteArray)] 86 (0, 0)) (by (with_reducible repeat (first | refine blk_drewN ?_ _ | refine blk_drew ?_ | refine blk_alloc ?_ _)); refine blk_far ?_ NB111_113.out _; (with_reducible repeat (first | refine blk_drewN ?_ _ | refine blk_drew ?_ | refine blk_alloc ?_ _)); refine blk_far ?_ NB111_113.out _; (with_reducible repeat (first | refine blk_drewN ?_ _ | refine blk_drew ?_ | refine blk_alloc ?_ _)); exact BK111.out)) : gb115 ≠ gb111)); have n8_ := Aside0.mk ((by rw [hg]; exact Nat.ne_of_lt (blk_lt (g := gb113) (o := .cells #[.int .i64 ((rd_T86 l0 0).f0), .string ((rd_T86 l0 0).f1)] 86 (0, 0)) (by (with_reducible repeat (first | refine blk_drewN ?_ _ | refine blk_drew ?_ | refine blk_alloc ?_ _)); refine blk_put (cs := #[.int .i64 ((rd_T86 l0 0).f0), .string (⟨#[]⟩ : ByteArray)]) ?_ 1 _ rfl; (with_reducible repeat (first | refine blk_drewN ?_ _ | refine blk_drew ?_ | refine blk_alloc ?_ _)); refine blk_put (cs := #[.int .i64 0, .string (⟨#[]⟩ : ByteArray)]) ?_ 0 _ rfl; (with_reducible repeat (first | refine blk_drewN ?_ _ | refine blk_drew ?_ | refine blk_alloc ?_ _)); exact BK113.out)) : gb113 ≠ gb115)); have n9_ := Aside0.mk ((by rw [hg]; exact Nat.ne_of_gt (blk_lt (g := gb113) (o := .cells #[.int .i64 ((rd_T86 l0 0).f0), .string ((rd_T86 l0 0).f1)] 86 (0, 0)) (by (with_reducible repeat (first | refine blk_drewN ?_ _ | refine blk_drew ?_ | refine blk_alloc ?_ _)); refine blk_put (cs := #[.int .i64 ((rd_T86 l0 0).f0), .string (⟨#[]⟩ : ByteArray)]) ?_ 1 _ rfl; (with_reducible repeat (first | refine blk_drewN ?_ _ | refine blk_drew ?_ | refine blk_alloc ?_ _)); refine blk_put (cs := #[.int .i64 0, .string (⟨#[]⟩ : ByteArray)]) ?_ 0 _ rfl; (with_reducible repeat (first | refine blk_drewN ?_ _ | refine blk_drew ?_ | refine blk_alloc ?_ _)); exact BK113.out)) : gb115 ≠ gb113)); clear BK111; clear BK113; clear HB; have BK111 := n0_; have BK113 := n1_; have HB := n2_; have BK115 := n3_; have GW115 := n4_; have GE115 := n5_; have NB111_115 := n6_; have NB115_111 := n7_; have NB113_115 := n8_; have NB115_113 := n9_; clear n0_ n1_ n2_ n3_ n4_ n5_ n6_ n7_ n8_ n9_; clear hb hbox hg; have hnb31 := NB115_111.out; have hnc31 := NB111_115.out; have hnb32 := NB115_113.out; have hnc32 := NB113_115.out; have hcz33_0 : w30.cell? ⟨gb115, 0, none⟩ = some (.int .i64 0) := (blk_cell BK115.out 0).trans rfl; have hcz33_1 : w30.cell? ⟨gb115, 1, none⟩ = some (.string (⟨#[]⟩ : ByteArray)) := (blk_cell BK115.out 1).trans rfl; have hfz33_0 := blk_frozen BK115.out 0; have hfz33_1 := blk_frozen BK115.out 1) | ((with_reducible refine gate_dst (N := 20) rfl ?_); refine Kd.R_lit k86 _ 86 ?hg (N := 20) ?hd (xs := ([] : List (S86))) (inner := []) (ok := fun _ => True) (okp := fun _ => True) ?hr ?hp (fun _ hk => hk) trivial (Below.refl _ _) (Nat.le_refl _) (by simp) ?_; (case hd => rfl); (case hg => rfl); (case hr => first | (go_simp; done) | (go_simp; rfl)); (case hp => exact (Reps.none _ _)); intro v117 w34 ho35 hb hg_ hnew_; clear hg_ hnew_; (first | rw [← Ny116.out] at ho35 | (simp only [Int.reduceToNat] at ho35; rw [← Ny116.out] at ho35)); have n0_ := Aside0.mk (Kd.R_lower (Kd.R_newB (Kd.R_newB (Kd.R_newB ho35 (g := gb111) (o := .cells #[.int .i64 0, .string (⟨#[]⟩ : ByteArray)] 86 (0, 0)) (by (with_reducible repeat (first | refine blk_drewN ?_ _ | refine blk_drew ?_ | refine blk_alloc ?_ _)); refine blk_far ?_ NB111_115.out _; (with_reducible repeat (first | refine blk_drewN ?_ _ | refine blk_drew ?_ | refine blk_alloc ?_ _)); refine blk_far ?_ NB111_115.out _; (with_reducible repeat (first | refine blk_drewN ?_ _ | refine blk_drew ?_ | refine blk_alloc ?_ _)); exact BK111.out)) (g := gb113) (o := .cells #[.int .i64 ((rd_T86 l0 0).f0), .string ((rd_T86 l0 0).f1)] 86 (0, 0)) (by (with_reducible repeat (first | refine blk_drewN ?_ _ | refine blk_drew ?_ | refine blk_alloc ?_ _)); refine blk_far ?_ NB113_115.out _; (with_reducible repeat (first | refine blk_drewN ?_ _ | refine blk_drew ?_ | refine blk_alloc ?_ _)); refine blk_far ?_ NB113_115.out _; (with_reducible repeat (first | refine blk_drewN ?_ _ | refine blk_drew ?_ | refine blk_alloc ?_ _)); exact BK113.out)) (g := gb115) (o := .cells #[.int .i64 ((rd_T86 l0 (ji3)).f0), .string ((rd_T86 l0 (ji3)).f1)] 86 (0, 0)) (by (with_reducible repeat (first | refine blk_drewN ?_ _ | refine blk_drew ?_ | refine blk_alloc ?_ _)); refine blk_put (cs := #[.int .i64 ((rd_T86 l0 (ji3)).f0), .string (⟨#[]⟩ : ByteArray)]) ?_ 1 _ rfl; (with_reducible repeat (first | refine blk_drewN ?_ _ | refine blk_drew ?_ | refine blk_alloc ?_ _)); refine blk_put (cs := #[.int .i64 0, .string (⟨#[]⟩ : ByteArray)]) ?_ 0 _ rfl; (with_reducible repeat (first | refine blk_drewN ?_ _ | refine blk_drew ?_ | refine blk_alloc ?_ _)); exact BK115.out)) (below_size (by repeat (first | (with_reducible first | exact HB.out | apply below_alloc | apply pw_below_drewN | apply below_drew1 | refine below_set ?_ GE111.out | refine below_set ?_ GE113.out | refine below_set ?_ GE115.out) | exact HB.out)))); have n1_ := Aside0.mk (blk_below (g := gb111) (o := .cells #[.int .i64 0, .string (⟨#[]⟩ : ByteArray)] 86 (0, 0)) (by (with_reducible repeat (first | refine blk_drewN ?_ _ | refine blk_drew ?_ | refine blk_alloc ?_ _)); refine blk_far ?_ NB111_115.out _; (with_reducible repeat (first | refine blk_drewN ?_ _ | refine blk_drew ?_ | refine blk_alloc ?_ _)); refine blk_far ?_ NB111_115.out _; (with_reducible repeat (first | refine blk_drewN ?_ _ | refine blk_drew ?_ | refine blk_alloc ?_ _)); exact BK111.out) hb); have n2_ := Aside0.mk (blk_below (g := gb113) (o := .cells #[.int .i64 ((rd_T86 l0 0).f0), .string ((rd_T86 l0 0).f1)] 86 (0, 0)) (by (with_reducible repeat (first | refine blk_drewN ?_ _ | refine blk_drew ?_ | refine blk_alloc ?_ _)); refine blk_far ?_ NB113_115.out _; (with_reducible repeat (first | refine blk_drewN ?_ _ | refine blk_drew ?_ | refine blk_alloc ?_ _)); refine blk_far ?_ NB113_115.out _; (with_reducible repeat (first | refine blk_drewN ?_ _ | refine blk_drew ?_ | refine blk_alloc ?_ _)); exact BK113.out) hb); have n3_ := Aside0.mk (blk_below (g := gb115) (o := .cells #[.int .i64 ((rd_T86 l0 (ji3)).f0), .string ((rd_T86 l0 (ji3)).f1)] 86 (0, 0)) (by (with_reducible repeat (first | refine blk_drewN ?_ _ | refine blk_drew ?_ | refine blk_alloc ?_ _)); refine blk_put (cs := #[.int .i64 ((rd_T86 l0 (ji3)).f0), .string (⟨#[]⟩ : ByteArray)]) ?_ 1 _ rfl; (with_reducible repeat (first | refine blk_drewN ?_ _ | refine blk_drew ?_ | refine blk_alloc ?_ _)); refine blk_put (cs := #[.int .i64 0, .string (⟨#[]⟩ : ByteArray)]) ?_ 0 _ rfl; (with_reducible repeat (first | refine blk_drewN ?_ _ | refine blk_drew ?_ | refine blk_alloc ?_ _)); exact BK115.out) hb); have n4_ := Aside0.mk (below_step (by repeat (first | (with_reducible first | exact HB.out | apply below_alloc | apply pw_below_drewN | apply below_drew1 | refine below_set ?_ GE111.out | refine below_set ?_ GE113.out | refine below_set ?_ GE115.out) | exact HB.out)) hb); clear BK111; clear BK113; clear BK115; clear HB; have HO118 := n0_; have BK111 := n1_; have BK113 := n2_; have BK115 := n3_; have HB := n4_; clear n0_ n1_ n2_ n3_ n4_; clear hb ho35; have q36 : ((ji3) : Int) ≤ ((l0.length : Int) : Int) := of_decide_eq_true (by first | (with_reducible assumption) | assumption); obtain ⟨i036, hi036, _, hsz36, _⟩ := info_parts info86; have hroom36 : l0.length ≤ c0 := HC0.out; have hC36 : Kd.C k86 _ (some ad112) l0.length l0 := HR0.out; have hcut36 := cut_to (P := Try.prog) 26 86 .i64 Try.underlying26 hi036 (some ad112) l0.length c0 (ji3) (of_decide_eq_true (by first | (with_reducible assumption) | assumption)) q36 hroom36; have hr36 := Kd.C_take (m := ((ji3) : Int).toNat) hC36 (by omega); have hy36 : y119.length = ((ji3) : Int).toNat := (by rw [Ny119.out, List.length_take]; omega); rw [← Ny119.out] at hr36; rw [← hy36] at hcut36; have HR122 := Aside0.mk hr36; have HC122 := Aside0.mk (show y119.length ≤ c0 from by omega); clear hr36 hC36 hroom36 hi036 hsz36; have KY36 := Aside0.mk hy36; clear hy36; replace q36 := eq_true q36) | ((with_reducible refine gate_builtin (b := .append) (xs := #[.tmp 20, .tmp 23]) rfl ?_); at_builtin; refine Kd.R_append_rows k86 (w0 := w) w.heap.size rfl (.tmp 20) (.tmp 23) 26 86 (.agg #[(.int .i64 0), (.string ⟨#[]⟩)]) 24 rfl Try.underlying26 info86 rfl (by decide) (by omega) v117 y116 y119 _ _ _ (fun k_ => k_ ≠ gb111 ∧ k_ ≠ gb113 ∧ k_ ≠ gb115) (fun _ => False) rfl rfl ?aO ?aR (fun _ _ h => h) (fun _ h => h.elim) ?aF ?aB ?aS ?aL ?_; (case aR => repeat (first | exact (Kd.C_below HR122.out HB.out) | (with_reducible refine Kd.C_alloc ?_ _) | (with_reducible refine Kd.C_drewN ?_ _) | (with_reducible refine Kd.C_drew ?_))); (case aB => exact (by repeat (first | (with_reducible first | exact HB.out | apply below_alloc | apply pw_below_drewN | apply below_drew1 | refine below_set ?_ GE111.out | refine below_set ?_ GE113.out | refine below_set ?_ GE115.out) | exact HB.out))); (case aF => exact (fun k_ hk => ⟨Kd.freshB (g := gb111) (o := .cells #[.int .i64 0, .string (⟨#[]⟩ : ByteArray)] 86 (0, 0)) (by (with_reducible repeat (first | refine blk_drewN ?_ _ | refine blk_drew ?_ | refine blk_alloc ?_ _)); exact BK111.out) k_ hk, Kd.freshB (g := gb113) (o := .cells #[.int .i64 ((rd_T86 l0 0).f0), .string ((rd_T86 l0 0).f1)] 86 (0, 0)) (by (with_reducible repeat (first | refine blk_drewN ?_ _ | refine blk_drew ?_ | refine blk_alloc ?_ _)); exact BK113.out) k_ hk, Kd.freshB (g := gb115) (o := .cells #[.int .i64 ((rd_T86 l0 (ji3)).f0), .string ((rd_T86 l0 (ji3)).f1)] 86 (0, 0)) (by (with_reducible repeat (first | refine blk_drewN ?_ _ | refine blk_drew ?_ | refine blk_alloc ?_ _)); exact BK115.out) k_ hk⟩)); (case aO => exact (by (with_reducible repeat (first | apply Kd.R_alloc | apply Kd.R_drewN | apply Kd.R_drew)); exact Kd.R_mono HO118.out (fun _ hk => ⟨hk.1.1.2, ⟨hk.1.2, hk.2⟩⟩))); (case aS => exact (below_size (by repeat (first | (with_reducible first | exact HB.out | apply below_alloc | apply pw_below_drewN | apply below_drew1 | refine below_set ?_ GE111.out | refine below_set ?_ GE113.out | refine below_set ?_ GE115.out) | exact HB.out)))); (case aL => have := LMc8.out; omega); intro v124 w37 ho hb hg hat; rw [← Ny123.out] at ho; have n0_ := Aside0.mk (blk_grown (g := gb111) (o := .cells #[.int .i64 0, .string (⟨#[]⟩ : ByteArray)] 86 (0, 0)) (by (with_reducible repeat (first | refine blk_drewN ?_ _ | refine blk_drew ?_ | refine blk_alloc ?_ _)); exact BK111.out) hg (Kd.R_away HO118.out (fun _ hk => hk.1.1.2))); have n1_ := Aside0.mk (blk_grown (g := gb113) (o := .cells #[.int .i64 ((rd_T86 l0 0).f0), .string ((rd_T86 l0 0).f1)] 86 (0, 0)) (by (with_reducible repeat (first | refine blk_drewN ?_ _ | refine blk_drew ?_ | refine blk_alloc ?_ _)); exact BK113.out) hg (Kd.R_away HO118.out (fun _ hk => hk.1.2))); have n2_ := Aside0.mk (blk_grown (g := gb115) (o := .cells #[.int .i64 ((rd_T86 l0 (ji3)).f0), .string ((rd_T86 l0 (ji3)).f1)] 86 (0, 0)) (by (with_reducible repeat (first | refine blk_drewN ?_ _ | refine blk_drew ?_ | refine blk_alloc ?_ _)); exact BK115.out) hg (Kd.R_away HO118.out (fun _ hk => hk.2))); have n3_ := Aside0.mk (hb); have n4_ := Aside0.mk (ho); clear BK111; clear BK113; clear BK115; clear HB; clear HO118; have BK111 := n0_; have BK113 := n1_; have BK115 := n2_; have HB := n3_; have HO125 := n4_; clear n0_ n1_ n2_ n3_ n4_; clear ho hb hg hat; have hcz38_0 : w37.cell? ⟨gb115, 0, none⟩ = some (.int .i64 ((rd_T86 l0 (ji3)).f0)) := (blk_cell BK115.out 0).trans rfl; have hcz38_1 : w37.cell? ⟨gb115, 1, none⟩ = some (.string ((rd_T86 l0 (ji3)).f1)) := (blk_cell BK115.out 1).trans rfl; have hfz38_0 := blk_frozen BK115.out 0; have hfz38_1 := blk_frozen BK115.out 1; have p25 : 0 ≤ (0 : Int) := (by omega); have q25 : (0 : Int) < ((y123.length : Int) : Int) := of_decide_eq_true (by first | (with_reducible assumption) | assumption); have qi25 : (0 < y123.length) = True := eq_true (by omega); obtain ⟨go25, co25, eo25, gb25, gl25, cl25, HG25⟩ := Kd.R_form HO125.out (by omega); (first | cases eo25 | (injection eo25 with ea_ en_ ec_; (first | subst ea_ | (injection ea_ with ea_; subst ea_)); subst ec_; clear en_)); have GB25 := Aside0.mk gb25; have GG25 := Aside0.mk HG25; clear gb25 gl25 HG25; obtain ⟨ce25, hcl25, hM25, hcc25, hfr25⟩ := Kd.R_elem HO125.out z86 (0 : Int) p25 q25; obtain rfl := k86_openM hM25; have hx25_0 : w37.cell? ⟨go25, (0 : Int).toNat * 2, none⟩ = some (.int .i64 ((rd_T86 y123 0).f0)) := hcc25 0 _ rfl; have hx25_1 : w37.cell? ⟨go25, (0 : Int).toNat * 2 + 1, none⟩ = some (.string ((rd_T86 y123 0).f1)) := hcc25 1 _ rfl; have hf25_0 : w37.frozen? ⟨go25, (0 : Int).toNat * 2, none⟩ = false := hfr25 0; have hf25_1 : w37.frozen? ⟨go25, (0 : Int).toNat * 2 + 1, none⟩ = false := hfr25 1; clear hcl25 hcc25 hfr25 hM25; (try rw [show ((0 : Int)).toNat = 0 from rfl] at hx25_0); (try simp only [Nat.reduceMul, Nat.zero_mul, Nat.zero_add, Nat.reduceAdd] at hx25_0); (try rw [show ((0 : Int)).toNat = 0 from rfl] at hf25_0); (try simp only [Nat.reduceMul, Nat.zero_mul, Nat.zero_add, Nat.reduceAdd] at hf25_0); (try rw [show ((0 : Int)).toNat = 0 from rfl] at hx25_1); (try simp only [Nat.reduceMul, Nat.zero_mul, Nat.zero_add, Nat.reduceAdd] at hx25_1); (try rw [show ((0 : Int)).toNat = 0 from rfl] at hf25_1); (try simp only [Nat.reduceMul, Nat.zero_mul, Nat.zero_add, Nat.reduceAdd] at hf25_1); replace p25 := eq_true p25; replace q25 := eq_true q25; have HX39 := Aside0.mk (show Kd.R k86 86 w37 w.heap.size (fun k_ => k_ ≠ gb111 ∧ k_ ≠ gb113 ∧ k_ ≠ gb115) (.slice (some ⟨go25, 0, none⟩) y123.length co25) y123 from (by (with_reducible repeat (first | apply Kd.R_alloc | apply Kd.R_drewN | apply Kd.R_drew)); exact HO125.out)); obtain ⟨ce39, hcl39, hM39, hcc39, hfr39⟩ := Kd.R_elem HX39.out z86 (0 : Int) (by omega) (by have h_ : (0 : Int) < ((y123.length : Int) : Int) := of_decide_eq_true (by first | (with_reducible assumption) | assumption); first | exact h_ | (have e_ := (Kd.R_reads' HO125.out).1; omega) | simpa using h_); obtain rfl := k86_openM hM39; have HP39 := Kd.R_seg HX39.out (0 : Int) (by omega) (by have h_ : (0 : Int) < ((y123.length : Int) : Int) := of_decide_eq_true (by first | (with_reducible assumption) | assumption); first | exact h_ | (have e_ := (Kd.R_reads' HO125.out).1; omega) | simpa using h_) (seg := [.int .i64 ((rd_T86 l0 (ji3)).f0), .string ((rd_T86 l0 (ji3)).f1)]) (j := 0) hcl39 hcc39 (show 2 ≤ 2 from by decide) (x' := (⟨(rd_T86 l0 (ji3)).f0, (rd_T86 l0 (ji3)).f1⟩ : S86)) (k86_mkM _ _ _ (⟨(rd_T86 l0 (ji3)).f0, (rd_T86 l0 (ji3)).f1⟩ : S86) ) (fun _ hk => hk); have hx39_0 := hcc39 0 _ rfl; (try simp only [show (k86).sz = 2 from rfl, Nat.mul_one, Nat.add_zero] at hx39_0); (try rw [show ((0 : Int)).toNat = 0 from rfl] at hx39_0); (try simp only [Nat.reduceMul, Nat.zero_mul, Nat.zero_add, Nat.reduceAdd] at hx39_0); have hf39_0 := hfr39 0; (try simp only [show (k86).sz = 2 from rfl, Nat.mul_one, Nat.add_zero] at hf39_0); (try rw [show ((0 : Int)).toNat = 0 from rfl] at hf39_0); (try simp only [Nat.reduceMul, Nat.zero_mul, Nat.zero_add, Nat.reduceAdd] at hf39_0); have hx39_1 := hcc39 1 _ rfl; (try simp only [show (k86).sz = 2 from rfl, Nat.mul_one, Nat.add_zero] at hx39_1); (try rw [show ((0 : Int)).toNat = 0 from rfl] at hx39_1); (try simp only [Nat.reduceMul, Nat.zero_mul, Nat.zero_add, Nat.reduceAdd] at hx39_1); have hf39_1 := hfr39 1; (try simp only [show (k86).sz = 2 from rfl, Nat.mul_one, Nat.add_zero] at hf39_1); (try rw [show ((0 : Int)).toNat = 0 from rfl] at hf39_1); (try simp only [Nat.reduceMul, Nat.zero_mul, Nat.zero_add, Nat.reduceAdd] at hf39_1); clear hcl39 hcc39 hfr39 hM39) | ((with_reducible refine gate_store (t := 86) (p := 31) rfl ?_); refine store_event (t := 86) (p := 31) (v := ?vo_w40) (w1 := ((w37.setCell ⟨go25, 0, none⟩ (.int .i64 ((rd_T86 l0 (ji3)).f0))).setCell ⟨go25, 1, none⟩ (.string ((rd_T86 l0 (ji3)).f1)))) ?hg ?ho ?hn ?hr ?_; (case ho => rfl); (case hg => rfl); (case hn => rfl); (case hr => first | (go_simp; done) | (go_simp; rfl)); intro w40 hw; have hg : w37.grownBy w40 (some go25) := (by rw [hw]; exact HP39.2); have hp_ : Kd.R k86 86 w40 w.heap.size (fun k_ => k_ ≠ gb111 ∧ k_ ≠ gb113 ∧ k_ ≠ gb115) (.slice (some ⟨go25, 0, none⟩) y123.length co25) y126 := (by rw [hw, Ny126.out]; exact HP39.1); clear HP39; have n0_ := Aside0.mk (blk_grown (g := gb111) (o := .cells #[.int .i64 0, .string (⟨#[]⟩ : ByteArray)] 86 (0, 0)) (by (with_reducible repeat (first | refine blk_drewN ?_ _ | refine blk_drew ?_ | refine blk_alloc ?_ _)); exact BK111.out) hg (Kd.R_away HO125.out (fun _ hk => hk.1))); have n1_ := Aside0.mk (blk_grown (g := gb113) (o := .cells #[.int .i64 ((rd_T86 l0 0).f0), .string ((rd_T86 l0 0).f1)] 86 (0, 0)) (by (with_reducible repeat (first | refine blk_drewN ?_ _ | refine blk_drew ?_ | refine blk_alloc ?_ _)); exact BK113.out) hg (Kd.R_away HO125.out (fun _ hk => hk.2.1))); have n2_ := Aside0.mk (blk_grown (g := gb115) (o := .cells #[.int .i64 ((rd_T86 l0 (ji3)).f0), .string ((rd_T86 l0 (ji3)).f1)] 86 (0, 0)) (by (with_reducible repeat (first | refine blk_drewN ?_ _ | refine blk_drew ?_ | refine blk_alloc ?_ _)); exact BK115.out) hg (Kd.R_away HO125.out (fun _ hk => hk.2.2))); have n3_ := Aside0.mk (hp_); have n4_ := Aside0.mk ((by rw [hw]; exact below_set (below_set (HB.out) GB25.out) GB25.out : Below w.heap.size w w40)); clear BK111; clear BK113; clear BK115; clear HO125; clear HB; have BK111 := n0_; have BK113 := n1_; have BK115 := n2_; have HO125 := n3_; have HB := n4_; clear n0_ n1_ n2_ n3_ n4_; clear hg hw hp_))
        go_loopg [8] k (fun kq v8 w' => ∃ (x7_1 : List (S86)) (x8_1 : Int) (x112000_1 : Int) (x112001_1 : ByteArray) (x114000_1 : Int) (x114001_1 : ByteArray) (x116000_1 : Int) (x116001_1 : ByteArray), v8 = .int .i64 x8_1 ∧ Aside0 (spec_l14Next.l0 kq ji3 x7_1 x8_1 x114000_1 x114001_1 x116000_1 x116001_1 = some (r1, r2, r3)) ∧ Aside0 (kq ≤ k) ∧ Aside0 (Kd.R k86 86 w' w.heap.size (fun k_ => k_ ≠ gb111 ∧ k_ ≠ gb113 ∧ k_ ≠ gb115) (.slice (some ⟨go25, 0, none⟩) y123.length co25) x7_1) ∧ Aside0 (w'.heap[gb111]? = some (.cells #[.int .i64 x112000_1, .string x112001_1] 86 (0, 0))) ∧ Aside0 (w'.heap[gb113]? = some (.cells #[.int .i64 x114000_1, .string x114001_1] 86 (0, 0))) ∧ Aside0 (w'.heap[gb115]? = some (.cells #[.int .i64 x116000_1, .string x116001_1] 86 (0, 0))) ∧ Aside0 (Below w.heap.size w w'))
        case atStart => exact ⟨(y126), (0), (0), ((⟨#[]⟩ : ByteArray)), ((rd_T86 l0 0).f0), ((rd_T86 l0 0).f1), ((rd_T86 l0 (ji3)).f0), ((rd_T86 l0 (ji3)).f1), (by first | rfl | (simp; done) | (simp [*]; done)), H', ⟨Nat.le_refl _⟩, ⟨by (with_reducible repeat (first | apply Kd.R_alloc | apply Kd.R_drewN | apply Kd.R_drew)); exact HO125.out⟩, ⟨by (with_reducible repeat (first | refine blk_drewN ?_ _ | refine blk_drew ?_ | refine blk_alloc ?_ _)); exact BK111.out⟩, ⟨by (with_reducible repeat (first | refine blk_drewN ?_ _ | refine blk_drew ?_ | refine blk_alloc ?_ _)); exact BK113.out⟩, ⟨by (with_reducible repeat (first | refine blk_drewN ?_ _ | refine blk_drew ?_ | refine blk_alloc ?_ _)); exact BK115.out⟩, ⟨by repeat (first | (with_reducible first | exact HB.out | apply below_alloc | apply pw_below_drewN | apply below_drew1 | refine below_set ?_ GE111.out | refine below_set ?_ GE113.out | refine below_set ?_ GE115.out) | exact HB.out)⟩⟩
        case round =>
         clear H'
         try clear c1
         try clear p1
         try clear q1
         try clear hx1
         try clear qi1
         try clear c2
         try clear c2b0
         try clear c2b1
         try clear p2
         try clear q2
         try clear hx2
         try clear qi2
         try clear hf2
         try clear c3
         try clear q3
         try clear hx3
         try clear hf3
         try clear c4
         try clear c4b0
         try clear c5
         try clear c5b0
         try clear c6
         try clear c6b0
         try clear p6
         try clear c7
         try clear c7b0
         try clear c7b1
         try clear c8
         try clear c9
         try clear c9b0
         try clear c9b1
         try clear p11
         try clear q11
         try clear hx11
         try clear qi11
         try clear c12
         try clear c14
         try clear c15
         try clear c16
         try clear q20
         try clear c24
         try clear c24b0
         try clear c24b1
         try clear c25
         try clear p25
         try clear q25
         try clear hx25
         try clear qi25
         try clear hf25
         try clear c28
         try clear c31
         try clear c32
         try clear q36
         try clear c39
         try clear hx39
         try clear hf39
         try clear hcz13_0
         try clear hcz13_1
         try clear hcz17_0
         try clear hcz17_1
         try clear hcz22_0
         try clear hcz22_1
         try clear hcz23_0
         try clear hcz23_1
         try clear hcz29_0
         try clear hcz29_1
         try clear hcz33_0
         try clear hcz33_1
         try clear hcz38_0
         try clear hcz38_1
         try clear hfz13_0
         try clear hfz13_1
         try clear hfz17_0
         try clear hfz17_1
         try clear hfz22_0
         try clear hfz22_1
         try clear hfz23_0
         try clear hfz23_1
         try clear hfz29_0
         try clear hfz29_1
         try clear hfz33_0
         try clear hfz33_1
         try clear hfz38_0
         try clear hfz38_1
         try clear hx112_0
         try clear hx112_1
         try clear hx114_0
         try clear hx114_1
         try clear hx25_0
         try clear hx25_1
         try clear hx39_0
         try clear hx39_1
         try clear p112
         try clear p114
         try clear p25
         try clear q112
         try clear q114
         try clear q20
         try clear q25
         try clear q36
         obtain ⟨x7_1, x8_1, x112000_1, x112001_1, x114000_1, x114001_1, x116000_1, x116001_1, rfl, HA, HK1, HO_7, BK111, BK113, BK115, HB⟩ := hrel
         have hl7_1 := (Kd.R_reads' HO_7.out).1
         rw [hl7_1] at HO_7
         (try simp only [hl7_1])
         (try simp only [hl7_1] at BK111)
         (try simp only [hl7_1] at BK113)
         (try simp only [hl7_1] at BK115)
         cases gk with
         | zero => exact absurd HA.out (by simp [spec_l14Next.l0])
         | succ k1 =>
          have H := HA.out
          clear HA
          simp only [spec_l14Next.l0] at H
          have HC41 := Aside0.mk H
          clear H
          go_upto_region 10 with (fail)
          go_cut [50] (fun v50 wc => ∃ (kq : Nat) (x50_40 : Bool), v50 = .bool x50_40 ∧ Aside0 (spec_l14Next.j1 kq ji3 x7_1 x8_1 (wrap64 ((wrap64 (2 * x8_1)) + 1)) x50_40 x114000_1 x114001_1 x116000_1 x116001_1 = some (r1, r2, r3)) ∧ Aside0 (kq ≤ k1) ∧ Aside0 (Kd.R k86 86 wc w.heap.size (fun k_ => k_ ≠ gb111 ∧ k_ ≠ gb113 ∧ k_ ≠ gb115) (.slice (some ⟨go25, 0, none⟩) x7_1.length co25) x7_1) ∧ Aside0 (wc.heap[gb111]? = some (.cells #[.int .i64 x112000_1, .string x112001_1] 86 (0, 0))) ∧ Aside0 (wc.heap[gb113]? = some (.cells #[.int .i64 x114000_1, .string x114001_1] 86 (0, 0))) ∧ Aside0 (wc.heap[gb115]? = some (.cells #[.int .i64 x116000_1, .string x116001_1] 86 (0, 0))) ∧ Aside0 (Below w.heap.size w wc))
          case first =>
           have H := HC41.out
           clear HC41
           by_cases c42 : (wrap64 ((wrap64 ((wrap64 (2 * x8_1)) + 1)) + 1)) < ji3
           ·rw [if_pos c42] at H
            have c42b0 : decide ((wrap64 ((wrap64 ((wrap64 (2 * x8_1)) + 1)) + 1)) < ji3) = true := decide_eq_true c42
            clear c42
            (first | rw [c42b0] | (simp only [i64_w, i32_w]; rw [c42b0]) | skip)
            obtain ⟨ji43, hji43⟩ : ∃ j_ : Int, (wrap64 ((wrap64 ((wrap64 (2 * x8_1)) + 1)) + 1)) = j_ := ⟨_, rfl⟩
            replace H : (if 0 ≤ (ji43) then (if (ji43) < (x7_1.length : Int) then (if 0 ≤ (wrap64 ((wrap64 (2 * x8_1)) + 1)) then (if (wrap64 ((wrap64 (2 * x8_1)) + 1)) < (x7_1.length : Int) then ((spec_l14Ahead.f ((rd_T86 x7_1 (ji43)).f0) ((rd_T86 x7_1 (ji43)).f1) ((rd_T86 x7_1 (wrap64 ((wrap64 (2 * x8_1)) + 1))).f0) ((rd_T86 x7_1 (wrap64 ((wrap64 (2 * x8_1)) + 1))).f1)).bind fun t129 => (spec_l14Next.j1 k1 ji3 x7_1 x8_1 (wrap64 ((wrap64 (2 * x8_1)) + 1)) t129 x114000_1 x114001_1 x116000_1 x116001_1)) else (none)) else (none)) else (none)) else (none)) = some (r1, r2, r3) := by first | (rw [hji43] at H; exact H) | (simp only [hji43] at H ⊢; exact H)
            (try rw [hji43] at c42b0)
            have hji43w : (IntKind.i64.wrap ((wrap64 ((wrap64 (2 * x8_1)) + 1)) + 1)) = ji43 := (i64_w _).trans hji43
            by_cases c44 : 0 ≤ (ji43)
            ·rw [if_pos c44] at H
             have c44b0 : decide (0 ≤ (ji43)) = true := decide_eq_true c44
             clear c44
             by_cases c45 : (ji43) < (x7_1.length : Int)
             ·rw [if_pos c45] at H
              have c45b0 : decide ((ji43) < (x7_1.length : Int)) = true := decide_eq_true c45
              clear c45
              obtain ⟨ji46, hji46⟩ : ∃ j_ : Int, (wrap64 ((wrap64 (2 * x8_1)) + 1)) = j_ := ⟨_, rfl⟩
              replace H : (if 0 ≤ (ji46) then (if (ji46) < (x7_1.length : Int) then ((spec_l14Ahead.f ((rd_T86 x7_1 (ji43)).f0) ((rd_T86 x7_1 (ji43)).f1) ((rd_T86 x7_1 (ji46)).f0) ((rd_T86 x7_1 (ji46)).f1)).bind fun t129 => (spec_l14Next.j1 k1 ji3 x7_1 x8_1 ji46 t129 x114000_1 x114001_1 x116000_1 x116001_1)) else (none)) else (none)) = some (r1, r2, r3) := by first | (rw [hji46] at H; exact H) | (simp only [hji46] at H ⊢; exact H)
              (try rw [hji46] at c42b0)
              have hji46w : (IntKind.i64.wrap ((wrap64 (2 * x8_1)) + 1)) = ji46 := (i64_w _).trans hji46
              have hji43bji46 : (wrap64 (ji46 + 1)) = ji43 := by rw [← hji46]; exact hji43
              have hji43bji46w : (IntKind.i64.wrap (ji46 + 1)) = ji43 := (i64_w _).trans hji43bji46
              by_cases c47 : 0 ≤ (ji46)
              ·rw [if_pos c47] at H
               have c47b0 : decide (0 ≤ (ji46)) = true := decide_eq_true c47
               clear c47
               by_cases c48 : (ji46) < (x7_1.length : Int)
               ·rw [if_pos c48] at H
                have c48b0 : decide ((ji46) < (x7_1.length : Int)) = true := decide_eq_true c48
                clear c48
                replace H := Option.bind_eq_some_iff.mp H
                obtain ⟨t129, A490, H⟩ := H
                replace H : (spec_l14Next.j1 k1 ji3 x7_1 x8_1 ji46 t129 x114000_1 x114001_1 x116000_1 x116001_1) = some (r1, r2, r3) := H
                have A49 := Aside0.mk A490
                clear A490
                have H' := Aside0.mk H
                clear H
                try go_wp2
                have n0_ := Aside0.mk (Kd.R_drew HO_7.out)
                have n1_ := Aside0.mk (blk_drew BK111.out)
                have n2_ := Aside0.mk (blk_drew BK113.out)
                have n3_ := Aside0.mk (blk_drew BK115.out)
                have n4_ := Aside0.mk (below_drew1 HB.out)
                clear HO_7
                clear BK111
                clear BK113
                clear BK115
                clear HB
                have HO_7 := n0_
                have BK111 := n1_
                have BK113 := n2_
                have BK115 := n3_
                have HB := n4_
                clear n0_ n1_ n2_ n3_ n4_
                have p127 : 0 ≤ ((ji43) : Int) := of_decide_eq_true (by first | (with_reducible assumption) | assumption)
                have q127 : (ji43) < (x7_1.length : Int) := of_decide_eq_true (by first | (with_reducible assumption) | assumption)
                obtain ⟨ad127, e127, hx127_0, hx127_1⟩ := at_T86 (Kd.R_reads' HO_7.out).2.2 (ji43) p127 q127
                obtain rfl : (⟨go25, 0, none⟩ : Addr) = ad127 := (by injection e127)
                (first | simp only [add_plain] at hx127_0 | simp only [add_at] at hx127_0 | simp only [Addr.add, Nat.zero_add] at hx127_0 | skip)
                (first | simp only [add_plain] at hx127_1 | simp only [add_at] at hx127_1 | simp only [Addr.add, Nat.zero_add] at hx127_1 | skip)
                replace p127 := eq_true p127
                replace q127 := eq_true q127
                have p128 : 0 ≤ ((ji46) : Int) := of_decide_eq_true (by first | (with_reducible assumption) | assumption)
                have q128 : (ji46) < (x7_1.length : Int) := of_decide_eq_true (by first | (with_reducible assumption) | assumption)
                obtain ⟨ad128, e128, hx128_0, hx128_1⟩ := at_T86 (Kd.R_reads' HO_7.out).2.2 (ji46) p128 q128
                obtain rfl : (⟨go25, 0, none⟩ : Addr) = ad128 := (by injection e128)
                (first | simp only [add_plain] at hx128_0 | simp only [add_at] at hx128_0 | simp only [Addr.add, Nat.zero_add] at hx128_0 | skip)
                (first | simp only [add_plain] at hx128_1 | simp only [add_at] at hx128_1 | simp only [Addr.add, Nat.zero_add] at hx128_1 | skip)
                replace p128 := eq_true p128
                replace q128 := eq_true q128
                refine start_ (n := 16) (S := fun w' => w'.cell? ⟨go25, ((ji43)).toNat * 2, none⟩ = some (.int .i64 ((rd_T86 x7_1 (ji43)).f0)) ∧ w'.cell? ⟨go25, ((ji43)).toNat * 2 + 1, none⟩ = some (.string ((rd_T86 x7_1 (ji43)).f1)) ∧ w'.cell? ⟨go25, ((ji46)).toNat * 2, none⟩ = some (.int .i64 ((rd_T86 x7_1 (ji46)).f0)) ∧ w'.cell? ⟨go25, ((ji46)).toNat * 2 + 1, none⟩ = some (.string ((rd_T86 x7_1 (ji46)).f1))) (ds := []) (bA 16 0) (by kernel_rfl) rfl rfl ⟨hx127_0, hx127_1, hx128_0, hx128_1⟩ (fun hHeld => ?_); refine with_tabW spec_l14Next.tab10 spec_l14Next.bits10 (fun HT_ HW_ => ?_)
                generalize wr.drew = w50 at HO_7 BK111 BK113 BK115 HB hx127_0 hx127_1 hx128_0 hx128_1 hHeld ⊢
                refine pv (i := 0) (N := some 35) (bA 16 1) rfl rfl (any_of HT_.out (by kernel_rfl)) ?_
                refine pv (i := 1) (N := some 36) (bA 16 3) rfl rfl (any_of HT_.out (by kernel_rfl)) ?_
                refine pv (i := 2) (N := some 37) (bA 16 7) rfl rfl (any_of HT_.out (by kernel_rfl)) ?_
                refine pv (i := 3) (N := some 38) (bA 16 15) rfl rfl (any_of HT_.out (by kernel_rfl)) ?_
                refine pv (i := 4) (N := some 39) (bA 16 31) rfl rfl (any_of HT_.out (by kernel_rfl)) ?_
                refine pv (i := 5) (N := some 40) (bA 16 63) rfl rfl (any_of HT_.out (by kernel_rfl)) ?_
                refine pv (i := 6) (N := some 41) (bA 16 127) rfl rfl (any_of HT_.out (by kernel_rfl)) ?_
                refine pv (i := 7) (N := some 42) (bA 16 255) rfl rfl (any_of HT_.out (by kernel_rfl)) ?_
                refine pv (i := 8) (N := some 43) (bA 16 511) rfl rfl (any_of HT_.out (by kernel_rfl)) ?_
                refine pv (i := 10) (N := some 45) (bA 16 1535) rfl rfl (any_of HT_.out (by kernel_rfl)) ?_
                refine pv (i := 11) (N := some 46) (bA 16 3583) rfl rfl (any_of HT_.out (by kernel_rfl)) ?_
                refine pv (i := 12) (N := some 47) (bA 16 7679) rfl rfl (any_of HT_.out (by kernel_rfl)) ?_
                refine take_ (i := 9) (N := some 44) (v := ?_) (a' := ?_) (bA 16 8191) rfl rfl (take_ofW HT_.out HW_.out (by kernel_rfl)) (fun _ _ _ h => h) (Or.inl ⟨by rfl, ?_⟩) hHeld ?_ ?_
                rotate_left
                ·rintro w' ⟨s0, s1, s2, s3⟩
                 go_simp
                 with_reducible rfl
                rotate_left
                ·simp only [sp_]
                 rfl
                refine take_ (i := 13) (N := some 48) (v := ?_) (a' := ?_) (bA 16 16383) rfl rfl (take_ofW HT_.out HW_.out (by kernel_rfl)) (fun _ _ _ h => h) (Or.inl ⟨by rfl, ?_⟩) hHeld ?_ ?_
                rotate_left
                ·rintro w' ⟨s0, s1, s2, s3⟩
                 go_simp
                 with_reducible rfl
                rotate_left
                ·simp only [sp_]
                 rfl
                refine one_ (i := 14) (N := some 49) (bA 16 32767) rfl rfl (one_of HT_.out (by kernel_rfl)) (by decide) (fun K hK => ?_)
                refine goes_ Try.func139 (by kernel_rfl) rfl #[.agg #[.int .i64 ((rd_T86 x7_1 (ji43)).f0), .string ((rd_T86 x7_1 (ji43)).f1)], .agg #[.int .i64 ((rd_T86 x7_1 (ji46)).f0), .string ((rd_T86 x7_1 (ji46)).f1)]] (by rfl) rfl rfl (by (try simp only [List.map_toArray, List.map_cons, List.map_nil]); first | done | (simp only [hji43, hji46]; rfl) | rfl | (simp only [List.length_drop, List.length_take]; rfl)) ?_
                with_reducible refine (spec_l14Ahead.calls ((rd_T86 x7_1 (ji43)).f0) ((rd_T86 x7_1 (ji43)).f1) ((rd_T86 x7_1 (ji46)).f0) ((rd_T86 x7_1 (ji46)).f1) t129 _ A49.out).mono ?_
                rintro e w51 ⟨rfl, hb⟩
                have HS0_ := (hb.cell (World.block_lt_of_cell? _ _ (hHeld.1))).trans (hHeld.1)
                have HS1_ := (hb.cell (World.block_lt_of_cell? _ _ (hHeld.2.1))).trans (hHeld.2.1)
                have HS2_ := (hb.cell (World.block_lt_of_cell? _ _ (hHeld.2.2.1))).trans (hHeld.2.2.1)
                have HS3_ := (hb.cell (World.block_lt_of_cell? _ _ (hHeld.2.2.2))).trans (hHeld.2.2.2)
                refine ⟨_, rfl, ?_⟩
                have n0_ := Aside0.mk (Kd.R_below (by (with_reducible repeat (first | apply Kd.R_alloc | apply Kd.R_drewN | apply Kd.R_drew)); exact HO_7.out) hb)
                have n1_ := Aside0.mk (blk_below (g := gb111) (o := .cells #[.int .i64 x112000_1, .string x112001_1] 86 (0, 0)) (by (with_reducible repeat (first | refine blk_drewN ?_ _ | refine blk_drew ?_ | refine blk_alloc ?_ _)); exact BK111.out) hb)
                have n2_ := Aside0.mk (blk_below (g := gb113) (o := .cells #[.int .i64 x114000_1, .string x114001_1] 86 (0, 0)) (by (with_reducible repeat (first | refine blk_drewN ?_ _ | refine blk_drew ?_ | refine blk_alloc ?_ _)); exact BK113.out) hb)
                have n3_ := Aside0.mk (blk_below (g := gb115) (o := .cells #[.int .i64 x116000_1, .string x116001_1] 86 (0, 0)) (by (with_reducible repeat (first | refine blk_drewN ?_ _ | refine blk_drew ?_ | refine blk_alloc ?_ _)); exact BK115.out) hb)
                have n4_ := Aside0.mk (below_step (by repeat (first | (with_reducible first | exact HB.out | apply below_alloc | apply pw_below_drewN | apply below_drew1 | refine below_set ?_ GE111.out | refine below_set ?_ GE113.out | refine below_set ?_ GE115.out) | exact HB.out)) hb)
                clear HO_7
                clear BK111
                clear BK113
                clear BK115
                clear HB
                have HO_7 := n0_
                have BK111 := n1_
                have BK113 := n2_
                have BK115 := n3_
                have HB := n4_
                clear n0_ n1_ n2_ n3_ n4_
                (try clear hb)
                (try clear hb2)
                (try clear hk)
                (try clear hi)
                refine hK.out _ _ ⟨HS0_, HS1_, HS2_, HS3_⟩ (fun hHeld => ?_)
                clear hK K
                refine norm_ (a' := ?_) ?_ ?_
                rotate_left
                ·show Act.put _ (some 49) _ = _
                 simp only [sp_]
                 rfl
                refine pv (i := 15) (N := some 50) (bA 16 65535) rfl rfl (any_of HT_.out (by kernel_rfl)) ?_
                refine done_ (done_of HT_.out (by kernel_rfl)) ?_
                try go_wp2
                (try simp only [← hji43, ← hji46])
                (try simp only [← hji43, ← hji46] at H')
                go_meet
                case rel => exact ⟨_, (t129), (by first | rfl | (simp; done) | (simp [*]; done)), H', ⟨by have := HK1.out; first | omega | exact Nat.le_refl _⟩, ⟨by (try simp only [hl7_1]); (with_reducible repeat (first | apply Kd.R_alloc | apply Kd.R_drewN | apply Kd.R_drew)); exact HO_7.out⟩, ⟨by (try simp only [hl7_1]); (with_reducible repeat (first | refine blk_drewN ?_ _ | refine blk_drew ?_ | refine blk_alloc ?_ _)); exact BK111.out⟩, ⟨by (try simp only [hl7_1]); (with_reducible repeat (first | refine blk_drewN ?_ _ | refine blk_drew ?_ | refine blk_alloc ?_ _)); exact BK113.out⟩, ⟨by (try simp only [hl7_1]); (with_reducible repeat (first | refine blk_drewN ?_ _ | refine blk_drew ?_ | refine blk_alloc ?_ _)); exact BK115.out⟩, ⟨by repeat (first | (with_reducible first | exact HB.out | apply below_alloc | apply pw_below_drewN | apply below_drew1 | refine below_set ?_ GE111.out | refine below_set ?_ GE113.out | refine below_set ?_ GE115.out) | exact HB.out)⟩⟩
               ·rw [if_neg c48] at H
                exact absurd H (by simp)
              ·rw [if_neg c47] at H
               exact absurd H (by simp)
             ·rw [if_neg c45] at H
              exact absurd H (by simp)
            ·rw [if_neg c44] at H
             exact absurd H (by simp)
           ·rw [if_neg c42] at H
            have c42b0 : decide ((wrap64 ((wrap64 ((wrap64 (2 * x8_1)) + 1)) + 1)) < ji3) = false := decide_eq_false c42
            clear c42
            (first | rw [c42b0] | (simp only [i64_w, i32_w]; rw [c42b0]) | skip)
            have H' := Aside0.mk H
            clear H
            try go_wp2
            have n0_ := Aside0.mk (Kd.R_drew HO_7.out)
            have n1_ := Aside0.mk (blk_drew BK111.out)
            have n2_ := Aside0.mk (blk_drew BK113.out)
            have n3_ := Aside0.mk (blk_drew BK115.out)
            have n4_ := Aside0.mk (below_drew1 HB.out)
            clear HO_7
            clear BK111
            clear BK113
            clear BK115
            clear HB
            have HO_7 := n0_
            have BK111 := n1_
            have BK113 := n2_
            have BK115 := n3_
            have HB := n4_
            clear n0_ n1_ n2_ n3_ n4_
            refine start_ (n := 16) (S := fun w' => True) (ds := []) (bA 16 0) (by kernel_rfl) rfl rfl trivial (fun hHeld => ?_); refine with_tabW spec_l14Next.tab10 spec_l14Next.bits10 (fun HT_ HW_ => ?_)
            generalize wr.drew = w52 at HO_7 BK111 BK113 BK115 HB hHeld ⊢
            refine pv (i := 0) (N := some 35) (bA 16 1) rfl rfl (any_of HT_.out (by kernel_rfl)) ?_
            refine pv (i := 1) (N := some 36) (bA 16 3) rfl rfl (any_of HT_.out (by kernel_rfl)) ?_
            refine pv (i := 2) (N := some 37) (bA 16 7) rfl rfl (any_of HT_.out (by kernel_rfl)) ?_
            refine pv (i := 3) (N := some 38) (bA 16 15) rfl rfl (any_of HT_.out (by kernel_rfl)) ?_
            refine pv (i := 4) (N := some 39) (bA 16 31) rfl rfl (any_of HT_.out (by kernel_rfl)) ?_
            refine pu (i := 5) (N := some 40) (bA 16 63) rfl rfl (any_of HT_.out (by kernel_rfl)) ?_
            refine pu (i := 6) (N := some 41) (bA 16 127) rfl rfl (any_of HT_.out (by kernel_rfl)) ?_
            refine pu (i := 7) (N := some 42) (bA 16 255) rfl rfl (any_of HT_.out (by kernel_rfl)) ?_
            refine pu (i := 8) (N := some 43) (bA 16 511) rfl rfl (any_of HT_.out (by kernel_rfl)) ?_
            refine pu (i := 9) (N := some 44) (bA 16 1023) rfl rfl (any_of HT_.out (by kernel_rfl)) ?_
            refine pu (i := 10) (N := some 45) (bA 16 2047) rfl rfl (any_of HT_.out (by kernel_rfl)) ?_
            refine pu (i := 11) (N := some 46) (bA 16 4095) rfl rfl (any_of HT_.out (by kernel_rfl)) ?_
            refine pu (i := 12) (N := some 47) (bA 16 8191) rfl rfl (any_of HT_.out (by kernel_rfl)) ?_
            refine pu (i := 13) (N := some 48) (bA 16 16383) rfl rfl (any_of HT_.out (by kernel_rfl)) ?_
            refine pu (i := 14) (N := some 49) (bA 16 32767) rfl rfl (any_of HT_.out (by kernel_rfl)) ?_
            refine pv (i := 15) (N := some 50) (bA 16 65535) rfl rfl (any_of HT_.out (by kernel_rfl)) ?_
            refine done_ (done_of HT_.out (by kernel_rfl)) ?_
            try go_wp2
            go_meet
            case rel => exact ⟨_, (false), (by first | rfl | (simp; done) | (simp [*]; done)), H', ⟨by have := HK1.out; first | omega | exact Nat.le_refl _⟩, ⟨by (try simp only [hl7_1]); (with_reducible repeat (first | apply Kd.R_alloc | apply Kd.R_drewN | apply Kd.R_drew)); exact HO_7.out⟩, ⟨by (try simp only [hl7_1]); (with_reducible repeat (first | refine blk_drewN ?_ _ | refine blk_drew ?_ | refine blk_alloc ?_ _)); exact BK111.out⟩, ⟨by (try simp only [hl7_1]); (with_reducible repeat (first | refine blk_drewN ?_ _ | refine blk_drew ?_ | refine blk_alloc ?_ _)); exact BK113.out⟩, ⟨by (try simp only [hl7_1]); (with_reducible repeat (first | refine blk_drewN ?_ _ | refine blk_drew ?_ | refine blk_alloc ?_ _)); exact BK115.out⟩, ⟨by repeat (first | (with_reducible first | exact HB.out | apply below_alloc | apply pw_below_drewN | apply below_drew1 | refine below_set ?_ GE111.out | refine below_set ?_ GE113.out | refine below_set ?_ GE115.out) | exact HB.out)⟩⟩
          case rest =>
           clear HC41
           try clear c1
           try clear p1
           try clear q1
           try clear hx1
           try clear qi1
           try clear c2
           try clear c2b0
           try clear c2b1
           try clear p2
           try clear q2
           try clear hx2
           try clear qi2
           try clear hf2
           try clear c3
           try clear q3
           try clear hx3
           try clear hf3
           try clear c4
           try clear c4b0
           try clear c5
           try clear c5b0
           try clear c6
           try clear c6b0
           try clear p6
           try clear c7
           try clear c7b0
           try clear c7b1
           try clear c8
           try clear c9
           try clear c9b0
           try clear c9b1
           try clear p11
           try clear q11
           try clear hx11
           try clear qi11
           try clear c12
           try clear p12
           try clear q12
           try clear hx12
           try clear c13
           try clear c14
           try clear c15
           try clear c16
           try clear q20
           try clear c24
           try clear c24b0
           try clear c24b1
           try clear c25
           try clear p25
           try clear q25
           try clear hx25
           try clear qi25
           try clear hf25
           try clear c28
           try clear c31
           try clear c32
           try clear q36
           try clear c39
           try clear hx39
           try clear hf39
           try clear c42
           try clear c42b0
           try clear c44
           try clear c44b0
           try clear c45
           try clear c45b0
           try clear c47
           try clear c47b0
           try clear c48
           try clear c48b0
           try clear hcz13_0
           try clear hcz13_1
           try clear hcz17_0
           try clear hcz17_1
           try clear hcz22_0
           try clear hcz22_1
           try clear hcz23_0
           try clear hcz23_1
           try clear hcz29_0
           try clear hcz29_1
           try clear hcz33_0
           try clear hcz33_1
           try clear hcz38_0
           try clear hcz38_1
           try clear hfz13_0
           try clear hfz13_1
           try clear hfz17_0
           try clear hfz17_1
           try clear hfz22_0
           try clear hfz22_1
           try clear hfz23_0
           try clear hfz23_1
           try clear hfz29_0
           try clear hfz29_1
           try clear hfz33_0
           try clear hfz33_1
           try clear hfz38_0
           try clear hfz38_1
           try clear hx112_0
           try clear hx112_1
           try clear hx114_0
           try clear hx114_1
           try clear hx127_0
           try clear hx127_1
           try clear hx128_0
           try clear hx128_1
           try clear hx25_0
           try clear hx25_1
           try clear hx39_0
           try clear hx39_1
           try clear p1
           try clear p11
           try clear p112
           try clear p114
           try clear p127
           try clear p128
           try clear p2
           try clear p25
           try clear p6
           try clear q1
           try clear q11
           try clear q112
           try clear q114
           try clear q127
           try clear q128
           try clear q2
           try clear q20
           try clear q25
           try clear q3
           try clear q36
           obtain ⟨kq, x50_40, rfl, HA, HJ40, HO_7, BK111, BK113, BK115, HB⟩ := hcut
           cases kq with
           | zero => exact absurd HA.out (by simp [spec_l14Next.j1])
           | succ kj40 =>
            have H := HA.out
            clear HA
            simp only [spec_l14Next.j1] at H
            by_cases c53 : x50_40 = true
            ·subst c53
             have H1 : (if (wrap64 ((wrap64 ((wrap64 (2 * x8_1)) + 1)) + 1)) ≥ ji3 then (some (x114000_1, x114001_1, x7_1)) else (if 0 ≤ (wrap64 ((wrap64 ((wrap64 (2 * x8_1)) + 1)) + 1)) then (if (wrap64 ((wrap64 ((wrap64 (2 * x8_1)) + 1)) + 1)) < (x7_1.length : Int) then ((spec_l14Ahead.f ((rd_T86 x7_1 (wrap64 ((wrap64 ((wrap64 (2 * x8_1)) + 1)) + 1))).f0) ((rd_T86 x7_1 (wrap64 ((wrap64 ((wrap64 (2 * x8_1)) + 1)) + 1))).f1) x116000_1 x116001_1).bind fun t131 => (if t131 = true then (if 0 ≤ x8_1 then (if x8_1 < (x7_1.length : Int) then (spec_l14Next.l0 kj40 ji3 ((x7_1.set (x8_1 : Int).toNat (⟨(rd_T86 x7_1 (wrap64 ((wrap64 ((wrap64 (2 * x8_1)) + 1)) + 1))).f0, (rd_T86 x7_1 (wrap64 ((wrap64 ((wrap64 (2 * x8_1)) + 1)) + 1))).f1⟩ : S86)).set ((wrap64 ((wrap64 ((wrap64 (2 * x8_1)) + 1)) + 1)) : Int).toNat (⟨x116000_1, x116001_1⟩ : S86)) (wrap64 ((wrap64 ((wrap64 (2 * x8_1)) + 1)) + 1)) x114000_1 x114001_1 x116000_1 x116001_1) else (none)) else (none)) else (some (x114000_1, x114001_1, x7_1)))) else (none)) else (none))) = some (r1, r2, r3) := by rw [if_pos rfl] at H; exact H
             clear H
             have H := H1
             clear H1
             by_cases c54 : (wrap64 ((wrap64 ((wrap64 (2 * x8_1)) + 1)) + 1)) ≥ ji3
             ·rw [if_pos c54] at H
              have c54b0 : decide (ji3 ≤ (wrap64 ((wrap64 ((wrap64 (2 * x8_1)) + 1)) + 1))) = true := decide_eq_true c54
              clear c54
              simp only [Option.some.injEq, Prod.mk.injEq] at H
              obtain ⟨rfl, rfl, rfl⟩ := H
              try go_wp2
              have n0_ := Aside0.mk (Kd.R_drew HO_7.out)
              have n1_ := Aside0.mk (blk_drew BK111.out)
              have n2_ := Aside0.mk (blk_drew BK113.out)
              have n3_ := Aside0.mk (blk_drew BK115.out)
              have n4_ := Aside0.mk (below_drew1 HB.out)
              clear HO_7
              clear BK111
              clear BK113
              clear BK115
              clear HB
              have HO_7 := n0_
              have BK111 := n1_
              have BK113 := n2_
              have BK115 := n3_
              have HB := n4_
              clear n0_ n1_ n2_ n3_ n4_
              refine start_ (n := 12) (S := fun w' => True) (ds := []) (bA 12 0) (by kernel_rfl) rfl rfl trivial (fun hHeld => ?_); refine with_tabW spec_l14Next.tab12 spec_l14Next.bits12 (fun HT_ HW_ => ?_)
              generalize wc.drew = w55 at HO_7 BK111 BK113 BK115 HB hHeld ⊢
              refine pv (i := 0) (N := some 53) (bA 12 1) rfl rfl (any_of HT_.out (by kernel_rfl)) ?_
              refine pv (i := 1) (N := some 54) (bA 12 3) rfl rfl (any_of HT_.out (by kernel_rfl)) ?_
              refine pv (i := 2) (N := some 55) (bA 12 7) rfl rfl (any_of HT_.out (by kernel_rfl)) ?_
              refine pv (i := 3) (N := some 56) (bA 12 15) rfl rfl (any_of HT_.out (by kernel_rfl)) ?_
              refine pu (i := 4) (N := some 57) (bA 12 31) rfl rfl (any_of HT_.out (by kernel_rfl)) ?_
              refine pu (i := 5) (N := some 58) (bA 12 63) rfl rfl (any_of HT_.out (by kernel_rfl)) ?_
              refine pu (i := 6) (N := some 59) (bA 12 127) rfl rfl (any_of HT_.out (by kernel_rfl)) ?_
              refine pu (i := 7) (N := some 60) (bA 12 255) rfl rfl (any_of HT_.out (by kernel_rfl)) ?_
              refine pu (i := 8) (N := some 61) (bA 12 511) rfl rfl (any_of HT_.out (by kernel_rfl)) ?_
              refine pu (i := 9) (N := some 62) (bA 12 1023) rfl rfl (any_of HT_.out (by kernel_rfl)) ?_
              refine pu (i := 10) (N := some 63) (bA 12 2047) rfl rfl (any_of HT_.out (by kernel_rfl)) ?_
              refine pv (i := 11) (N := some 64) (bA 12 4095) rfl rfl (any_of HT_.out (by kernel_rfl)) ?_
              refine done_ (done_of HT_.out (by kernel_rfl)) ?_
              have hnb56 := NB113_111.out
              have hnc56 := NB111_113.out
              have hnb57 := NB113_115.out
              have hnc57 := NB115_113.out
              have hcz58_0 : w55.cell? ⟨gb113, 0, none⟩ = some (.int .i64 x114000_1) := (blk_cell BK113.out 0).trans rfl
              have hcz58_1 : w55.cell? ⟨gb113, 1, none⟩ = some (.string x114001_1) := (blk_cell BK113.out 1).trans rfl
              have hfz58_0 := blk_frozen BK113.out 0
              have hfz58_1 := blk_frozen BK113.out 1
              have hnb59 := NB111_115.out
              have hnc59 := NB115_111.out
              have hcz60_0 : w55.cell? ⟨gb111, 0, none⟩ = some (.int .i64 x112000_1) := (blk_cell BK111.out 0).trans rfl
              have hcz60_1 : w55.cell? ⟨gb111, 1, none⟩ = some (.string x112001_1) := (blk_cell BK111.out 1).trans rfl
              have hfz60_0 := blk_frozen BK111.out 0
              have hfz60_1 := blk_frozen BK111.out 1
              try go_wp2
              refine bodyPost_ret (results_ct rfl _ _ gb111 86 #[.int .i64 x114000_1, .string x114001_1] (0, 0) _ rfl (by (with_reducible repeat (first | refine blk_drewN ?_ _ | refine blk_drew ?_ | refine blk_alloc ?_ _)); refine blk_put (cs := #[.int .i64 x114000_1, .string x112001_1]) ?_ 1 _ rfl; (with_reducible repeat (first | refine blk_drewN ?_ _ | refine blk_drew ?_ | refine blk_alloc ?_ _)); refine blk_put (cs := #[.int .i64 x112000_1, .string x112001_1]) ?_ 0 _ rfl; (with_reducible repeat (first | refine blk_drewN ?_ _ | refine blk_drew ?_ | refine blk_alloc ?_ _)); exact BK111.out) Try.underlying86 rfl (by kernel_rfl)) rfl ?_
              exact ⟨_, by first | rfl | (simp [errW_none, errW_some] <;> rfl) | (simp only [← hji3]; first | rfl | (simp [errW_none, errW_some] <;> rfl)) | (simp [*, errW_none, errW_some] <;> rfl), by (with_reducible repeat (first | apply Kd.R_alloc | apply Kd.R_drewN | apply Kd.R_drew)); exact Kd.R_mono (Kd.R_far (p := ⟨gb111, 1, none⟩) (Kd.R_far (p := ⟨gb111, 0, none⟩) (Kd.R_mono HO_7.out (fun k_ hk => (⟨hk, hk.1⟩ : _ ∧ k_ ≠ gb111))) (fun _ hk => hk.2) (.int .i64 x114000_1)) (fun _ hk => hk.2) (.string x114001_1)) (fun _ hk => trivial), by repeat (first | (with_reducible first | exact HB.out | apply below_alloc | apply pw_below_drewN | apply below_drew1 | refine below_set ?_ GE111.out | refine below_set ?_ GE113.out | refine below_set ?_ GE115.out) | exact HB.out)⟩
             ·rw [if_neg c54] at H
              have c54b0 : decide (ji3 ≤ (wrap64 ((wrap64 ((wrap64 (2 * x8_1)) + 1)) + 1))) = false := decide_eq_false c54
              clear c54
              obtain ⟨ji61, hji61⟩ : ∃ j_ : Int, (wrap64 ((wrap64 ((wrap64 (2 * x8_1)) + 1)) + 1)) = j_ := ⟨_, rfl⟩
              replace H : (if 0 ≤ (ji61) then (if (ji61) < (x7_1.length : Int) then ((spec_l14Ahead.f ((rd_T86 x7_1 (ji61)).f0) ((rd_T86 x7_1 (ji61)).f1) x116000_1 x116001_1).bind fun t131 => (if t131 = true then (if 0 ≤ x8_1 then (if x8_1 < (x7_1.length : Int) then (spec_l14Next.l0 kj40 ji3 ((x7_1.set (x8_1 : Int).toNat (⟨(rd_T86 x7_1 (ji61)).f0, (rd_T86 x7_1 (ji61)).f1⟩ : S86)).set ((ji61) : Int).toNat (⟨x116000_1, x116001_1⟩ : S86)) ji61 x114000_1 x114001_1 x116000_1 x116001_1) else (none)) else (none)) else (some (x114000_1, x114001_1, x7_1)))) else (none)) else (none)) = some (r1, r2, r3) := by first | (rw [hji61] at H; exact H) | (simp only [hji61] at H ⊢; exact H)
              (try rw [hji61] at c54b0)
              have hji61w : (IntKind.i64.wrap ((wrap64 ((wrap64 (2 * x8_1)) + 1)) + 1)) = ji61 := (i64_w _).trans hji61
              by_cases c62 : 0 ≤ (ji61)
              ·rw [if_pos c62] at H
               have c62b0 : decide (0 ≤ (ji61)) = true := decide_eq_true c62
               clear c62
               by_cases c63 : (ji61) < (x7_1.length : Int)
               ·rw [if_pos c63] at H
                have c63b0 : decide ((ji61) < (x7_1.length : Int)) = true := decide_eq_true c63
                clear c63
                replace H := Option.bind_eq_some_iff.mp H
                obtain ⟨t131, A640, H⟩ := H
                replace H : (if t131 = true then (if 0 ≤ x8_1 then (if x8_1 < (x7_1.length : Int) then (spec_l14Next.l0 kj40 ji3 ((x7_1.set (x8_1 : Int).toNat (⟨(rd_T86 x7_1 (ji61)).f0, (rd_T86 x7_1 (ji61)).f1⟩ : S86)).set ((ji61) : Int).toNat (⟨x116000_1, x116001_1⟩ : S86)) ji61 x114000_1 x114001_1 x116000_1 x116001_1) else (none)) else (none)) else (some (x114000_1, x114001_1, x7_1))) = some (r1, r2, r3) := H
                have A64 := Aside0.mk A640
                clear A640
                by_cases c65 : t131 = true
                ·subst c65
                 have H1 : (if 0 ≤ x8_1 then (if x8_1 < (x7_1.length : Int) then (spec_l14Next.l0 kj40 ji3 ((x7_1.set (x8_1 : Int).toNat (⟨(rd_T86 x7_1 (ji61)).f0, (rd_T86 x7_1 (ji61)).f1⟩ : S86)).set ((ji61) : Int).toNat (⟨x116000_1, x116001_1⟩ : S86)) ji61 x114000_1 x114001_1 x116000_1 x116001_1) else (none)) else (none)) = some (r1, r2, r3) := by rw [if_pos rfl] at H; exact H
                 clear H
                 have H := H1
                 clear H1
                 by_cases c66 : 0 ≤ x8_1
                 ·rw [if_pos c66] at H
                  have c66b0 : decide (0 ≤ x8_1) = true := decide_eq_true c66
                  clear c66
                  by_cases c67 : x8_1 < (x7_1.length : Int)
                  ·rw [if_pos c67] at H
                   have c67b0 : decide (x8_1 < (x7_1.length : Int)) = true := decide_eq_true c67
                   clear c67
                   obtain ⟨y133, hy133⟩ : ∃ y_ : List (S86), y_ = (x7_1.set (x8_1 : Int).toNat (⟨(rd_T86 x7_1 (ji61)).f0, (rd_T86 x7_1 (ji61)).f1⟩ : S86)) := ⟨_, rfl⟩
                   replace H : (spec_l14Next.l0 kj40 ji3 (y133.set ((ji61) : Int).toNat (⟨x116000_1, x116001_1⟩ : S86)) ji61 x114000_1 x114001_1 x116000_1 x116001_1) = some (r1, r2, r3) := by first | (rw [hy133]; with_reducible exact H) | (have H2_ := (Option.bind_some _ _).symm.trans H; rw [hy133]; with_reducible exact H2_) | (have H2_ := (Option.bind_some _ _).symm.trans H; with_reducible exact H2_) | with_reducible exact H | (rw [hy133]; exact H) | exact H
                   have Ny133 := Aside0.mk hy133
                   clear hy133
                   obtain ⟨y134, hy134⟩ : ∃ y_ : List (S86), y_ = (y133.set ((ji61) : Int).toNat (⟨x116000_1, x116001_1⟩ : S86)) := ⟨_, rfl⟩
                   replace H : (spec_l14Next.l0 kj40 ji3 y134 ji61 x114000_1 x114001_1 x116000_1 x116001_1) = some (r1, r2, r3) := by first | (rw [hy134]; with_reducible exact H) | (have H2_ := (Option.bind_some _ _).symm.trans H; rw [hy134]; with_reducible exact H2_) | (have H2_ := (Option.bind_some _ _).symm.trans H; with_reducible exact H2_) | with_reducible exact H | (rw [hy134]; exact H) | exact H
                   have Ny134 := Aside0.mk hy134
                   clear hy134
                   have H' := Aside0.mk H
                   clear H
                   try go_wp2
                   have n0_ := Aside0.mk (Kd.R_drew HO_7.out)
                   have n1_ := Aside0.mk (blk_drew BK111.out)
                   have n2_ := Aside0.mk (blk_drew BK113.out)
                   have n3_ := Aside0.mk (blk_drew BK115.out)
                   have n4_ := Aside0.mk (below_drew1 HB.out)
                   clear HO_7
                   clear BK111
                   clear BK113
                   clear BK115
                   clear HB
                   have HO_7 := n0_
                   have BK111 := n1_
                   have BK113 := n2_
                   have BK115 := n3_
                   have HB := n4_
                   clear n0_ n1_ n2_ n3_ n4_
                   have p130 : 0 ≤ ((ji61) : Int) := of_decide_eq_true (by first | (with_reducible assumption) | assumption)
                   have q130 : (ji61) < (x7_1.length : Int) := of_decide_eq_true (by first | (with_reducible assumption) | assumption)
                   obtain ⟨ad130, e130, hx130_0, hx130_1⟩ := at_T86 (Kd.R_reads' HO_7.out).2.2 (ji61) p130 q130
                   obtain rfl : (⟨go25, 0, none⟩ : Addr) = ad130 := (by injection e130)
                   (first | simp only [add_plain] at hx130_0 | simp only [add_at] at hx130_0 | simp only [Addr.add, Nat.zero_add] at hx130_0 | skip)
                   (first | simp only [add_plain] at hx130_1 | simp only [add_at] at hx130_1 | simp only [Addr.add, Nat.zero_add] at hx130_1 | skip)
                   replace p130 := eq_true p130
                   replace q130 := eq_true q130
                   refine start_ (n := 12) (S := fun w' => w'.cell? ⟨gb115, 0, none⟩ = some (.int .i64 x116000_1) ∧ w'.cell? ⟨gb115, 1, none⟩ = some (.string x116001_1) ∧ w'.cell? ⟨go25, ((ji61)).toNat * 2, none⟩ = some (.int .i64 ((rd_T86 x7_1 (ji61)).f0)) ∧ w'.cell? ⟨go25, ((ji61)).toNat * 2 + 1, none⟩ = some (.string ((rd_T86 x7_1 (ji61)).f1))) (ds := []) (bA 12 0) (by kernel_rfl) rfl rfl ⟨(blk_cell BK115.out 0).trans rfl, (blk_cell BK115.out 1).trans rfl, hx130_0, hx130_1⟩ (fun hHeld => ?_); refine with_tabW spec_l14Next.tab12 spec_l14Next.bits12 (fun HT_ HW_ => ?_)
                   generalize wc.drew = w70 at HO_7 BK111 BK113 BK115 HB hx130_0 hx130_1 hHeld ⊢
                   refine pv (i := 0) (N := some 53) (bA 12 1) rfl rfl (any_of HT_.out (by kernel_rfl)) ?_
                   refine pv (i := 1) (N := some 54) (bA 12 3) rfl rfl (any_of HT_.out (by kernel_rfl)) ?_
                   refine pv (i := 2) (N := some 55) (bA 12 7) rfl rfl (any_of HT_.out (by kernel_rfl)) ?_
                   refine pv (i := 3) (N := some 56) (bA 12 15) rfl rfl (any_of HT_.out (by kernel_rfl)) ?_
                   refine pv (i := 4) (N := some 57) (bA 12 31) rfl rfl (any_of HT_.out (by kernel_rfl)) ?_
                   refine pv (i := 5) (N := some 58) (bA 12 63) rfl rfl (any_of HT_.out (by kernel_rfl)) ?_
                   refine pv (i := 6) (N := some 59) (bA 12 127) rfl rfl (any_of HT_.out (by kernel_rfl)) ?_
                   refine take_ (i := 7) (N := some 60) (v := ?_) (a' := ?_) (bA 12 255) rfl rfl (take_ofW HT_.out HW_.out (by kernel_rfl)) (fun _ _ _ h => h) (Or.inl ⟨by rfl, ?_⟩) hHeld ?_ ?_
                   rotate_left
                   ·rintro w' ⟨s0, s1, s2, s3⟩
                    go_simp
                    with_reducible rfl
                   rotate_left
                   ·simp only [sp_]
                    rfl
                   refine take_ (i := 8) (N := some 61) (v := ?_) (a' := ?_) (bA 12 511) rfl rfl (take_ofW HT_.out HW_.out (by kernel_rfl)) (fun _ _ _ h => h) (Or.inl ⟨by rfl, ?_⟩) hHeld ?_ ?_
                   rotate_left
                   ·rintro w' ⟨s0, s1, s2, s3⟩
                    go_simp
                    with_reducible rfl
                   rotate_left
                   ·simp only [sp_]
                    rfl
                   refine one_ (i := 9) (N := some 62) (bA 12 1023) rfl rfl (one_of HT_.out (by kernel_rfl)) (by decide) (fun K hK => ?_)
                   refine goes_ Try.func139 (by kernel_rfl) rfl #[.agg #[.int .i64 ((rd_T86 x7_1 (ji61)).f0), .string ((rd_T86 x7_1 (ji61)).f1)], .agg #[.int .i64 x116000_1, .string x116001_1]] (by rfl) rfl rfl (by (try simp only [List.map_toArray, List.map_cons, List.map_nil]); first | done | (simp only [hji61]; rfl) | rfl | (simp only [List.length_drop, List.length_take]; rfl)) ?_
                   with_reducible refine (spec_l14Ahead.calls ((rd_T86 x7_1 (ji61)).f0) ((rd_T86 x7_1 (ji61)).f1) x116000_1 x116001_1 true _ A64.out).mono ?_
                   rintro e w71 ⟨rfl, hb⟩
                   have HS2_ := (hb.cell (World.block_lt_of_cell? _ _ (hHeld.2.2.1))).trans (hHeld.2.2.1)
                   have HS3_ := (hb.cell (World.block_lt_of_cell? _ _ (hHeld.2.2.2))).trans (hHeld.2.2.2)
                   refine ⟨_, rfl, ?_⟩
                   have n0_ := Aside0.mk (Kd.R_below (by (with_reducible repeat (first | apply Kd.R_alloc | apply Kd.R_drewN | apply Kd.R_drew)); exact HO_7.out) hb)
                   have n1_ := Aside0.mk (blk_below (g := gb111) (o := .cells #[.int .i64 x112000_1, .string x112001_1] 86 (0, 0)) (by (with_reducible repeat (first | refine blk_drewN ?_ _ | refine blk_drew ?_ | refine blk_alloc ?_ _)); exact BK111.out) hb)
                   have n2_ := Aside0.mk (blk_below (g := gb113) (o := .cells #[.int .i64 x114000_1, .string x114001_1] 86 (0, 0)) (by (with_reducible repeat (first | refine blk_drewN ?_ _ | refine blk_drew ?_ | refine blk_alloc ?_ _)); exact BK113.out) hb)
                   have n3_ := Aside0.mk (blk_below (g := gb115) (o := .cells #[.int .i64 x116000_1, .string x116001_1] 86 (0, 0)) (by (with_reducible repeat (first | refine blk_drewN ?_ _ | refine blk_drew ?_ | refine blk_alloc ?_ _)); exact BK115.out) hb)
                   have n4_ := Aside0.mk (below_step (by repeat (first | (with_reducible first | exact HB.out | apply below_alloc | apply pw_below_drewN | apply below_drew1 | refine below_set ?_ GE111.out | refine below_set ?_ GE113.out | refine below_set ?_ GE115.out) | exact HB.out)) hb)
                   clear HO_7
                   clear BK111
                   clear BK113
                   clear BK115
                   clear HB
                   have HO_7 := n0_
                   have BK111 := n1_
                   have BK113 := n2_
                   have BK115 := n3_
                   have HB := n4_
                   clear n0_ n1_ n2_ n3_ n4_
                   (try clear hb)
                   (try clear hb2)
                   (try clear hk)
                   (try clear hi)
                   refine hK.out _ _ ⟨(blk_cell BK115.out 0).trans rfl, (blk_cell BK115.out 1).trans rfl, HS2_, HS3_⟩ (fun hHeld => ?_)
                   clear hK K
                   refine norm_ (a' := ?_) ?_ ?_
                   rotate_left
                   ·show Act.put _ (some 62) _ = _
                    simp only [sp_]
                    rfl
                   refine pv (i := 10) (N := some 63) (bA 12 2047) rfl rfl (any_of HT_.out (by kernel_rfl)) ?_
                   refine pv (i := 11) (N := some 64) (bA 12 4095) rfl rfl (any_of HT_.out (by kernel_rfl)) ?_
                   refine done_ (done_of HT_.out (by kernel_rfl)) ?_
                   have p132 : 0 ≤ ((ji61) : Int) := of_decide_eq_true (by first | (with_reducible assumption) | assumption)
                   have q132 : (ji61) < (x7_1.length : Int) := of_decide_eq_true (by first | (with_reducible assumption) | assumption)
                   obtain ⟨ad132, e132, hx132_0, hx132_1⟩ := at_T86 (Kd.R_reads' HO_7.out).2.2 (ji61) p132 q132
                   obtain rfl : (⟨go25, 0, none⟩ : Addr) = ad132 := (by injection e132)
                   (first | simp only [add_plain] at hx132_0 | simp only [add_at] at hx132_0 | simp only [Addr.add, Nat.zero_add] at hx132_0 | skip)
                   (first | simp only [add_plain] at hx132_1 | simp only [add_at] at hx132_1 | simp only [Addr.add, Nat.zero_add] at hx132_1 | skip)
                   replace p132 := eq_true p132
                   replace q132 := eq_true q132
                   have p68 : 0 ≤ (x8_1 : Int) := of_decide_eq_true (by first | (with_reducible assumption) | assumption)
                   have q68 : (x8_1 : Int) < ((x7_1.length : Int) : Int) := of_decide_eq_true (by first | (with_reducible assumption) | assumption)
                   obtain ⟨ce68, hcl68, hM68, hcc68, hfr68⟩ := Kd.R_elem HO_7.out z86 (x8_1 : Int) p68 q68
                   obtain rfl := k86_openM hM68
                   have hx68_0 : w71.cell? ⟨go25, (x8_1 : Int).toNat * 2, none⟩ = some (.int .i64 ((rd_T86 x7_1 x8_1).f0)) := hcc68 0 _ rfl
                   have hx68_1 : w71.cell? ⟨go25, (x8_1 : Int).toNat * 2 + 1, none⟩ = some (.string ((rd_T86 x7_1 x8_1).f1)) := hcc68 1 _ rfl
                   have hf68_0 : w71.frozen? ⟨go25, (x8_1 : Int).toNat * 2, none⟩ = false := hfr68 0
                   have hf68_1 : w71.frozen? ⟨go25, (x8_1 : Int).toNat * 2 + 1, none⟩ = false := hfr68 1
                   clear hcl68 hcc68 hfr68 hM68
                   replace p68 := eq_true p68
                   replace q68 := eq_true q68
                   have HX72 := Aside0.mk (show Kd.R k86 86 w71 w.heap.size (fun k_ => k_ ≠ gb111 ∧ k_ ≠ gb113 ∧ k_ ≠ gb115) (.slice (some ⟨go25, 0, none⟩) x7_1.length co25) x7_1 from (by (with_reducible repeat (first | apply Kd.R_alloc | apply Kd.R_drewN | apply Kd.R_drew)); exact HO_7.out))
                   obtain ⟨ce72, hcl72, hM72, hcc72, hfr72⟩ := Kd.R_elem HX72.out z86 (x8_1 : Int) (of_decide_eq_true (by first | (with_reducible assumption) | assumption)) (by have h_ : (x8_1 : Int) < ((x7_1.length : Int) : Int) := of_decide_eq_true (by first | (with_reducible assumption) | assumption); first | exact h_ | (have e_ := (Kd.R_reads' HO_7.out).1; omega) | simpa using h_)
                   obtain rfl := k86_openM hM72
                   have HP72 := Kd.R_seg HX72.out (x8_1 : Int) (of_decide_eq_true (by first | (with_reducible assumption) | assumption)) (by have h_ : (x8_1 : Int) < ((x7_1.length : Int) : Int) := of_decide_eq_true (by first | (with_reducible assumption) | assumption); first | exact h_ | (have e_ := (Kd.R_reads' HO_7.out).1; omega) | simpa using h_) (seg := [.int .i64 ((rd_T86 x7_1 (ji61)).f0), .string ((rd_T86 x7_1 (ji61)).f1)]) (j := 0) hcl72 hcc72 (show 2 ≤ 2 from by decide) (x' := (⟨(rd_T86 x7_1 (ji61)).f0, (rd_T86 x7_1 (ji61)).f1⟩ : S86)) (k86_mkM _ _ _ (⟨(rd_T86 x7_1 (ji61)).f0, (rd_T86 x7_1 (ji61)).f1⟩ : S86) ) (fun _ hk => hk)
                   have hx72_0 := hcc72 0 _ rfl
                   (try simp only [show (k86).sz = 2 from rfl, Nat.mul_one, Nat.add_zero] at hx72_0)
                   have hf72_0 := hfr72 0
                   (try simp only [show (k86).sz = 2 from rfl, Nat.mul_one, Nat.add_zero] at hf72_0)
                   have hx72_1 := hcc72 1 _ rfl
                   (try simp only [show (k86).sz = 2 from rfl, Nat.mul_one, Nat.add_zero] at hx72_1)
                   have hf72_1 := hfr72 1
                   (try simp only [show (k86).sz = 2 from rfl, Nat.mul_one, Nat.add_zero] at hf72_1)
                   clear hcl72 hcc72 hfr72 hM72
                   try go_wp2_with (first | ((with_reducible refine gate_store (t := 86) (p := 73) rfl ?_); refine store_event (t := 86) (p := 73) (v := ?vo_w73) (w1 := ((w71.setCell ⟨go25, (x8_1 : Int).toNat * 2, none⟩ (.int .i64 ((rd_T86 x7_1 (ji61)).f0))).setCell ⟨go25, (x8_1 : Int).toNat * 2 + 1, none⟩ (.string ((rd_T86 x7_1 (ji61)).f1)))) ?hg ?ho ?hn ?hr ?_; (case ho => rfl); (case hg => rfl); (case hn => rfl); (case hr => first | (go_simp; done) | (go_simp; rfl)); intro w73 hw; have hg : w71.grownBy w73 (some go25) := (by rw [hw]; exact HP72.2); have hp_ : Kd.R k86 86 w73 w.heap.size (fun k_ => k_ ≠ gb111 ∧ k_ ≠ gb113 ∧ k_ ≠ gb115) (.slice (some ⟨go25, 0, none⟩) x7_1.length co25) y133 := (by rw [hw, Ny133.out]; exact HP72.1); clear HP72; have n0_ := Aside0.mk (hp_); have n1_ := Aside0.mk (blk_grown (g := gb111) (o := .cells #[.int .i64 x112000_1, .string x112001_1] 86 (0, 0)) (by (with_reducible repeat (first | refine blk_drewN ?_ _ | refine blk_drew ?_ | refine blk_alloc ?_ _)); exact BK111.out) hg (Kd.R_away HO_7.out (fun _ hk => hk.1))); have n2_ := Aside0.mk (blk_grown (g := gb113) (o := .cells #[.int .i64 x114000_1, .string x114001_1] 86 (0, 0)) (by (with_reducible repeat (first | refine blk_drewN ?_ _ | refine blk_drew ?_ | refine blk_alloc ?_ _)); exact BK113.out) hg (Kd.R_away HO_7.out (fun _ hk => hk.2.1))); have n3_ := Aside0.mk (blk_grown (g := gb115) (o := .cells #[.int .i64 x116000_1, .string x116001_1] 86 (0, 0)) (by (with_reducible repeat (first | refine blk_drewN ?_ _ | refine blk_drew ?_ | refine blk_alloc ?_ _)); exact BK115.out) hg (Kd.R_away HO_7.out (fun _ hk => hk.2.2))); have n4_ := Aside0.mk ((by rw [hw]; exact below_set (below_set (HB.out) GB25.out) GB25.out : Below w.heap.size w w73)); clear HO_7; clear BK111; clear BK113; clear BK115; clear HB; have HO_7 := n0_; have BK111 := n1_; have BK113 := n2_; have BK115 := n3_; have HB := n4_; clear n0_ n1_ n2_ n3_ n4_; clear hg hw hp_; have hnb74 := NB115_111.out; have hnc74 := NB111_115.out; have hnb75 := NB115_113.out; have hnc75 := NB113_115.out; have hcz76_0 : w73.cell? ⟨gb115, 0, none⟩ = some (.int .i64 x116000_1) := (blk_cell BK115.out 0).trans rfl; have hcz76_1 : w73.cell? ⟨gb115, 1, none⟩ = some (.string x116001_1) := (blk_cell BK115.out 1).trans rfl; have hfz76_0 := blk_frozen BK115.out 0; have hfz76_1 := blk_frozen BK115.out 1; have p69 : 0 ≤ ((ji61) : Int) := of_decide_eq_true (by first | (with_reducible assumption) | assumption); have q69 : ((ji61) : Int) < ((x7_1.length : Int) : Int) := of_decide_eq_true (by first | (with_reducible assumption) | assumption); obtain ⟨ce69, hcl69, hM69, hcc69, hfr69⟩ := Kd.R_elem HO_7.out z86 ((ji61) : Int) p69 q69; obtain rfl := k86_openM hM69; have hx69_0 : w73.cell? ⟨go25, ((ji61) : Int).toNat * 2, none⟩ = some (.int .i64 ((rd_T86 y133 (ji61)).f0)) := hcc69 0 _ rfl; have hx69_1 : w73.cell? ⟨go25, ((ji61) : Int).toNat * 2 + 1, none⟩ = some (.string ((rd_T86 y133 (ji61)).f1)) := hcc69 1 _ rfl; have hf69_0 : w73.frozen? ⟨go25, ((ji61) : Int).toNat * 2, none⟩ = false := hfr69 0; have hf69_1 : w73.frozen? ⟨go25, ((ji61) : Int).toNat * 2 + 1, none⟩ = false := hfr69 1; clear hcl69 hcc69 hfr69 hM69; replace p69 := eq_true p69; replace q69 := eq_true q69; have HX77 := Aside0.mk (show Kd.R k86 86 w73 w.heap.size (fun k_ => k_ ≠ gb111 ∧ k_ ≠ gb113 ∧ k_ ≠ gb115) (.slice (some ⟨go25, 0, none⟩) x7_1.length co25) y133 from (by (with_reducible repeat (first | apply Kd.R_alloc | apply Kd.R_drewN | apply Kd.R_drew)); exact HO_7.out)); obtain ⟨ce77, hcl77, hM77, hcc77, hfr77⟩ := Kd.R_elem HX77.out z86 ((ji61) : Int) (of_decide_eq_true (by first | (with_reducible assumption) | assumption)) (by have h_ : ((ji61) : Int) < ((x7_1.length : Int) : Int) := of_decide_eq_true (by first | (with_reducible assumption) | assumption); first | exact h_ | (have e_ := (Kd.R_reads' HO_7.out).1; omega) | simpa using h_); obtain rfl := k86_openM hM77; have HP77 := Kd.R_seg HX77.out ((ji61) : Int) (of_decide_eq_true (by first | (with_reducible assumption) | assumption)) (by have h_ : ((ji61) : Int) < ((x7_1.length : Int) : Int) := of_decide_eq_true (by first | (with_reducible assumption) | assumption); first | exact h_ | (have e_ := (Kd.R_reads' HO_7.out).1; omega) | simpa using h_) (seg := [.int .i64 x116000_1, .string x116001_1]) (j := 0) hcl77 hcc77 (show 2 ≤ 2 from by decide) (x' := (⟨x116000_1, x116001_1⟩ : S86)) (k86_mkM _ _ _ (⟨x116000_1, x116001_1⟩ : S86) ) (fun _ hk => hk); have hx77_0 := hcc77 0 _ rfl; (try simp only [show (k86).sz = 2 from rfl, Nat.mul_one, Nat.add_zero] at hx77_0); have hf77_0 := hfr77 0; (try simp only [show (k86).sz = 2 from rfl, Nat.mul_one, Nat.add_zero] at hf77_0); have hx77_1 := hcc77 1 _ rfl; (try simp only [show (k86).sz = 2 from rfl, Nat.mul_one, Nat.add_zero] at hx77_1); have hf77_1 := hfr77 1; (try simp only [show (k86).sz = 2 from rfl, Nat.mul_one, Nat.add_zero] at hf77_1); clear hcl77 hcc77 hfr77 hM77) | ((with_reducible refine gate_store (t := 86) (p := 77) rfl ?_); refine store_event (t := 86) (p := 77) (v := ?vo_w78) (w1 := ((w73.setCell ⟨go25, ((ji61) : Int).toNat * 2, none⟩ (.int .i64 x116000_1)).setCell ⟨go25, ((ji61) : Int).toNat * 2 + 1, none⟩ (.string x116001_1))) ?hg ?ho ?hn ?hr ?_; (case ho => rfl); (case hg => rfl); (case hn => rfl); (case hr => first | (go_simp; done) | (go_simp; rfl)); intro w78 hw; have hg : w73.grownBy w78 (some go25) := (by rw [hw]; exact HP77.2); have hp_ : Kd.R k86 86 w78 w.heap.size (fun k_ => k_ ≠ gb111 ∧ k_ ≠ gb113 ∧ k_ ≠ gb115) (.slice (some ⟨go25, 0, none⟩) x7_1.length co25) y134 := (by rw [hw, Ny134.out]; exact HP77.1); clear HP77; have n0_ := Aside0.mk (hp_); have n1_ := Aside0.mk (blk_grown (g := gb111) (o := .cells #[.int .i64 x112000_1, .string x112001_1] 86 (0, 0)) (by (with_reducible repeat (first | refine blk_drewN ?_ _ | refine blk_drew ?_ | refine blk_alloc ?_ _)); exact BK111.out) hg (Kd.R_away HO_7.out (fun _ hk => hk.1))); have n2_ := Aside0.mk (blk_grown (g := gb113) (o := .cells #[.int .i64 x114000_1, .string x114001_1] 86 (0, 0)) (by (with_reducible repeat (first | refine blk_drewN ?_ _ | refine blk_drew ?_ | refine blk_alloc ?_ _)); exact BK113.out) hg (Kd.R_away HO_7.out (fun _ hk => hk.2.1))); have n3_ := Aside0.mk (blk_grown (g := gb115) (o := .cells #[.int .i64 x116000_1, .string x116001_1] 86 (0, 0)) (by (with_reducible repeat (first | refine blk_drewN ?_ _ | refine blk_drew ?_ | refine blk_alloc ?_ _)); exact BK115.out) hg (Kd.R_away HO_7.out (fun _ hk => hk.2.2))); have n4_ := Aside0.mk ((by rw [hw]; exact below_set (below_set (HB.out) GB25.out) GB25.out : Below w.heap.size w w78)); clear HO_7; clear BK111; clear BK113; clear BK115; clear HB; have HO_7 := n0_; have BK111 := n1_; have BK113 := n2_; have BK115 := n3_; have HB := n4_; clear n0_ n1_ n2_ n3_ n4_; clear hg hw hp_))
                   (try simp only [← hl7_1])
                   go_roundg kj40
                   case measure => have := HK1.out; have := HJ40.out; omega
                   case rel => exact ⟨(y134), (ji61), (x112000_1), (x112001_1), (x114000_1), (x114001_1), (x116000_1), (x116001_1), (by first | rfl | (simp; done) | (simp only [← hji61] <;> (first | rfl | simp)) | (simp [*]; done)), H', ⟨by have := HK1.out; have := HJ40.out; omega⟩, ⟨by (try simp only [hl7_1]); (with_reducible repeat (first | apply Kd.R_alloc | apply Kd.R_drewN | apply Kd.R_drew)); exact HO_7.out⟩, ⟨by (try simp only [hl7_1]); (with_reducible repeat (first | refine blk_drewN ?_ _ | refine blk_drew ?_ | refine blk_alloc ?_ _)); exact BK111.out⟩, ⟨by (try simp only [hl7_1]); (with_reducible repeat (first | refine blk_drewN ?_ _ | refine blk_drew ?_ | refine blk_alloc ?_ _)); exact BK113.out⟩, ⟨by (try simp only [hl7_1]); (with_reducible repeat (first | refine blk_drewN ?_ _ | refine blk_drew ?_ | refine blk_alloc ?_ _)); exact BK115.out⟩, ⟨by repeat (first | (with_reducible first | exact HB.out | apply below_alloc | apply pw_below_drewN | apply below_drew1 | refine below_set ?_ GE111.out | refine below_set ?_ GE113.out | refine below_set ?_ GE115.out) | exact HB.out)⟩⟩
                  ·rw [if_neg c67] at H
                   exact absurd H (by simp)
                 ·rw [if_neg c66] at H
                  exact absurd H (by simp)
                ·replace c65 := Bool.eq_false_iff.mpr c65
                 subst c65
                 have H1 : (some (x114000_1, x114001_1, x7_1)) = some (r1, r2, r3) := by rw [if_neg (show ¬ (false = true) by decide)] at H; exact H
                 clear H
                 have H := H1
                 clear H1
                 simp only [Option.some.injEq, Prod.mk.injEq] at H
                 obtain ⟨rfl, rfl, rfl⟩ := H
                 try go_wp2
                 have n0_ := Aside0.mk (Kd.R_drew HO_7.out)
                 have n1_ := Aside0.mk (blk_drew BK111.out)
                 have n2_ := Aside0.mk (blk_drew BK113.out)
                 have n3_ := Aside0.mk (blk_drew BK115.out)
                 have n4_ := Aside0.mk (below_drew1 HB.out)
                 clear HO_7
                 clear BK111
                 clear BK113
                 clear BK115
                 clear HB
                 have HO_7 := n0_
                 have BK111 := n1_
                 have BK113 := n2_
                 have BK115 := n3_
                 have HB := n4_
                 clear n0_ n1_ n2_ n3_ n4_
                 have p130 : 0 ≤ ((ji61) : Int) := of_decide_eq_true (by first | (with_reducible assumption) | assumption)
                 have q130 : (ji61) < (x7_1.length : Int) := of_decide_eq_true (by first | (with_reducible assumption) | assumption)
                 obtain ⟨ad130, e130, hx130_0, hx130_1⟩ := at_T86 (Kd.R_reads' HO_7.out).2.2 (ji61) p130 q130
                 obtain rfl : (⟨go25, 0, none⟩ : Addr) = ad130 := (by injection e130)
                 (first | simp only [add_plain] at hx130_0 | simp only [add_at] at hx130_0 | simp only [Addr.add, Nat.zero_add] at hx130_0 | skip)
                 (first | simp only [add_plain] at hx130_1 | simp only [add_at] at hx130_1 | simp only [Addr.add, Nat.zero_add] at hx130_1 | skip)
                 replace p130 := eq_true p130
                 replace q130 := eq_true q130
                 refine start_ (n := 12) (S := fun w' => w'.cell? ⟨gb115, 0, none⟩ = some (.int .i64 x116000_1) ∧ w'.cell? ⟨gb115, 1, none⟩ = some (.string x116001_1) ∧ w'.cell? ⟨go25, ((ji61)).toNat * 2, none⟩ = some (.int .i64 ((rd_T86 x7_1 (ji61)).f0)) ∧ w'.cell? ⟨go25, ((ji61)).toNat * 2 + 1, none⟩ = some (.string ((rd_T86 x7_1 (ji61)).f1))) (ds := []) (bA 12 0) (by kernel_rfl) rfl rfl ⟨(blk_cell BK115.out 0).trans rfl, (blk_cell BK115.out 1).trans rfl, hx130_0, hx130_1⟩ (fun hHeld => ?_); refine with_tabW spec_l14Next.tab12 spec_l14Next.bits12 (fun HT_ HW_ => ?_)
                 generalize wc.drew = w79 at HO_7 BK111 BK113 BK115 HB hx130_0 hx130_1 hHeld ⊢
                 refine pv (i := 0) (N := some 53) (bA 12 1) rfl rfl (any_of HT_.out (by kernel_rfl)) ?_
                 refine pv (i := 1) (N := some 54) (bA 12 3) rfl rfl (any_of HT_.out (by kernel_rfl)) ?_
                 refine pv (i := 2) (N := some 55) (bA 12 7) rfl rfl (any_of HT_.out (by kernel_rfl)) ?_
                 refine pv (i := 3) (N := some 56) (bA 12 15) rfl rfl (any_of HT_.out (by kernel_rfl)) ?_
                 refine pv (i := 4) (N := some 57) (bA 12 31) rfl rfl (any_of HT_.out (by kernel_rfl)) ?_
                 refine pv (i := 5) (N := some 58) (bA 12 63) rfl rfl (any_of HT_.out (by kernel_rfl)) ?_
                 refine pv (i := 6) (N := some 59) (bA 12 127) rfl rfl (any_of HT_.out (by kernel_rfl)) ?_
                 refine take_ (i := 7) (N := some 60) (v := ?_) (a' := ?_) (bA 12 255) rfl rfl (take_ofW HT_.out HW_.out (by kernel_rfl)) (fun _ _ _ h => h) (Or.inl ⟨by rfl, ?_⟩) hHeld ?_ ?_
                 rotate_left
                 ·rintro w' ⟨s0, s1, s2, s3⟩
                  go_simp
                  with_reducible rfl
                 rotate_left
                 ·simp only [sp_]
                  rfl
                 refine take_ (i := 8) (N := some 61) (v := ?_) (a' := ?_) (bA 12 511) rfl rfl (take_ofW HT_.out HW_.out (by kernel_rfl)) (fun _ _ _ h => h) (Or.inl ⟨by rfl, ?_⟩) hHeld ?_ ?_
                 rotate_left
                 ·rintro w' ⟨s0, s1, s2, s3⟩
                  go_simp
                  with_reducible rfl
                 rotate_left
                 ·simp only [sp_]
                  rfl
                 refine one_ (i := 9) (N := some 62) (bA 12 1023) rfl rfl (one_of HT_.out (by kernel_rfl)) (by decide) (fun K hK => ?_)
                 refine goes_ Try.func139 (by kernel_rfl) rfl #[.agg #[.int .i64 ((rd_T86 x7_1 (ji61)).f0), .string ((rd_T86 x7_1 (ji61)).f1)], .agg #[.int .i64 x116000_1, .string x116001_1]] (by rfl) rfl rfl (by (try simp only [List.map_toArray, List.map_cons, List.map_nil]); first | done | (simp only [hji61]; rfl) | rfl | (simp only [List.length_drop, List.length_take]; rfl)) ?_
                 with_reducible refine (spec_l14Ahead.calls ((rd_T86 x7_1 (ji61)).f0) ((rd_T86 x7_1 (ji61)).f1) x116000_1 x116001_1 false _ A64.out).mono ?_
                 rintro e w80 ⟨rfl, hb⟩
                 have HS2_ := (hb.cell (World.block_lt_of_cell? _ _ (hHeld.2.2.1))).trans (hHeld.2.2.1)
                 have HS3_ := (hb.cell (World.block_lt_of_cell? _ _ (hHeld.2.2.2))).trans (hHeld.2.2.2)
                 refine ⟨_, rfl, ?_⟩
                 have n0_ := Aside0.mk (Kd.R_below (by (with_reducible repeat (first | apply Kd.R_alloc | apply Kd.R_drewN | apply Kd.R_drew)); exact HO_7.out) hb)
                 have n1_ := Aside0.mk (blk_below (g := gb111) (o := .cells #[.int .i64 x112000_1, .string x112001_1] 86 (0, 0)) (by (with_reducible repeat (first | refine blk_drewN ?_ _ | refine blk_drew ?_ | refine blk_alloc ?_ _)); exact BK111.out) hb)
                 have n2_ := Aside0.mk (blk_below (g := gb113) (o := .cells #[.int .i64 x114000_1, .string x114001_1] 86 (0, 0)) (by (with_reducible repeat (first | refine blk_drewN ?_ _ | refine blk_drew ?_ | refine blk_alloc ?_ _)); exact BK113.out) hb)
                 have n3_ := Aside0.mk (blk_below (g := gb115) (o := .cells #[.int .i64 x116000_1, .string x116001_1] 86 (0, 0)) (by (with_reducible repeat (first | refine blk_drewN ?_ _ | refine blk_drew ?_ | refine blk_alloc ?_ _)); exact BK115.out) hb)
                 have n4_ := Aside0.mk (below_step (by repeat (first | (with_reducible first | exact HB.out | apply below_alloc | apply pw_below_drewN | apply below_drew1 | refine below_set ?_ GE111.out | refine below_set ?_ GE113.out | refine below_set ?_ GE115.out) | exact HB.out)) hb)
                 clear HO_7
                 clear BK111
                 clear BK113
                 clear BK115
                 clear HB
                 have HO_7 := n0_
                 have BK111 := n1_
                 have BK113 := n2_
                 have BK115 := n3_
                 have HB := n4_
                 clear n0_ n1_ n2_ n3_ n4_
                 (try clear hb)
                 (try clear hb2)
                 (try clear hk)
                 (try clear hi)
                 refine hK.out _ _ ⟨(blk_cell BK115.out 0).trans rfl, (blk_cell BK115.out 1).trans rfl, HS2_, HS3_⟩ (fun hHeld => ?_)
                 clear hK K
                 refine norm_ (a' := ?_) ?_ ?_
                 rotate_left
                 ·show Act.put _ (some 62) _ = _
                  simp only [sp_]
                  rfl
                 refine pv (i := 10) (N := some 63) (bA 12 2047) rfl rfl (any_of HT_.out (by kernel_rfl)) ?_
                 refine pv (i := 11) (N := some 64) (bA 12 4095) rfl rfl (any_of HT_.out (by kernel_rfl)) ?_
                 refine done_ (done_of HT_.out (by kernel_rfl)) ?_
                 have hnb81 := NB113_111.out
                 have hnc81 := NB111_113.out
                 have hnb82 := NB113_115.out
                 have hnc82 := NB115_113.out
                 have hcz83_0 : w80.cell? ⟨gb113, 0, none⟩ = some (.int .i64 x114000_1) := (blk_cell BK113.out 0).trans rfl
                 have hcz83_1 : w80.cell? ⟨gb113, 1, none⟩ = some (.string x114001_1) := (blk_cell BK113.out 1).trans rfl
                 have hfz83_0 := blk_frozen BK113.out 0
                 have hfz83_1 := blk_frozen BK113.out 1
                 have hnb84 := NB111_115.out
                 have hnc84 := NB115_111.out
                 have hcz85_0 : w80.cell? ⟨gb111, 0, none⟩ = some (.int .i64 x112000_1) := (blk_cell BK111.out 0).trans rfl
                 have hcz85_1 : w80.cell? ⟨gb111, 1, none⟩ = some (.string x112001_1) := (blk_cell BK111.out 1).trans rfl
                 have hfz85_0 := blk_frozen BK111.out 0
                 have hfz85_1 := blk_frozen BK111.out 1
                 try go_wp2
                 refine bodyPost_ret (results_ct rfl _ _ gb111 86 #[.int .i64 x114000_1, .string x114001_1] (0, 0) _ rfl (by (with_reducible repeat (first | refine blk_drewN ?_ _ | refine blk_drew ?_ | refine blk_alloc ?_ _)); refine blk_put (cs := #[.int .i64 x114000_1, .string x112001_1]) ?_ 1 _ rfl; (with_reducible repeat (first | refine blk_drewN ?_ _ | refine blk_drew ?_ | refine blk_alloc ?_ _)); refine blk_put (cs := #[.int .i64 x112000_1, .string x112001_1]) ?_ 0 _ rfl; (with_reducible repeat (first | refine blk_drewN ?_ _ | refine blk_drew ?_ | refine blk_alloc ?_ _)); exact BK111.out) Try.underlying86 rfl (by kernel_rfl)) rfl ?_
                 exact ⟨_, by first | rfl | (simp [errW_none, errW_some] <;> rfl) | (simp only [← hji3, ← hji61]; first | rfl | (simp [errW_none, errW_some] <;> rfl)) | (simp [*, errW_none, errW_some] <;> rfl), by (with_reducible repeat (first | apply Kd.R_alloc | apply Kd.R_drewN | apply Kd.R_drew)); exact Kd.R_mono (Kd.R_far (p := ⟨gb111, 1, none⟩) (Kd.R_far (p := ⟨gb111, 0, none⟩) (Kd.R_mono HO_7.out (fun k_ hk => (⟨hk, hk.1⟩ : _ ∧ k_ ≠ gb111))) (fun _ hk => hk.2) (.int .i64 x114000_1)) (fun _ hk => hk.2) (.string x114001_1)) (fun _ hk => trivial), by repeat (first | (with_reducible first | exact HB.out | apply below_alloc | apply pw_below_drewN | apply below_drew1 | refine below_set ?_ GE111.out | refine below_set ?_ GE113.out | refine below_set ?_ GE115.out) | exact HB.out)⟩
               ·rw [if_neg c63] at H
                exact absurd H (by simp)
              ·rw [if_neg c62] at H
               exact absurd H (by simp)
            ·replace c53 := Bool.eq_false_iff.mpr c53
             subst c53
             have H1 : (if (wrap64 ((wrap64 (2 * x8_1)) + 1)) ≥ ji3 then (some (x114000_1, x114001_1, x7_1)) else (if 0 ≤ (wrap64 ((wrap64 (2 * x8_1)) + 1)) then (if (wrap64 ((wrap64 (2 * x8_1)) + 1)) < (x7_1.length : Int) then ((spec_l14Ahead.f ((rd_T86 x7_1 (wrap64 ((wrap64 (2 * x8_1)) + 1))).f0) ((rd_T86 x7_1 (wrap64 ((wrap64 (2 * x8_1)) + 1))).f1) x116000_1 x116001_1).bind fun t136 => (if t136 = true then (if 0 ≤ x8_1 then (if x8_1 < (x7_1.length : Int) then (spec_l14Next.l0 kj40 ji3 ((x7_1.set (x8_1 : Int).toNat (⟨(rd_T86 x7_1 (wrap64 ((wrap64 (2 * x8_1)) + 1))).f0, (rd_T86 x7_1 (wrap64 ((wrap64 (2 * x8_1)) + 1))).f1⟩ : S86)).set ((wrap64 ((wrap64 (2 * x8_1)) + 1)) : Int).toNat (⟨x116000_1, x116001_1⟩ : S86)) (wrap64 ((wrap64 (2 * x8_1)) + 1)) x114000_1 x114001_1 x116000_1 x116001_1) else (none)) else (none)) else (some (x114000_1, x114001_1, x7_1)))) else (none)) else (none))) = some (r1, r2, r3) := by rw [if_neg (show ¬ (false = true) by decide)] at H; exact H
             clear H
             have H := H1
             clear H1
             by_cases c86 : (wrap64 ((wrap64 (2 * x8_1)) + 1)) ≥ ji3
             ·rw [if_pos c86] at H
              have c86b0 : decide (ji3 ≤ (wrap64 ((wrap64 (2 * x8_1)) + 1))) = true := decide_eq_true c86
              clear c86
              simp only [Option.some.injEq, Prod.mk.injEq] at H
              obtain ⟨rfl, rfl, rfl⟩ := H
              try go_wp2
              have n0_ := Aside0.mk (Kd.R_drew HO_7.out)
              have n1_ := Aside0.mk (blk_drew BK111.out)
              have n2_ := Aside0.mk (blk_drew BK113.out)
              have n3_ := Aside0.mk (blk_drew BK115.out)
              have n4_ := Aside0.mk (below_drew1 HB.out)
              clear HO_7
              clear BK111
              clear BK113
              clear BK115
              clear HB
              have HO_7 := n0_
              have BK111 := n1_
              have BK113 := n2_
              have BK115 := n3_
              have HB := n4_
              clear n0_ n1_ n2_ n3_ n4_
              refine start_ (n := 12) (S := fun w' => True) (ds := []) (bA 12 0) (by kernel_rfl) rfl rfl trivial (fun hHeld => ?_); refine with_tabW spec_l14Next.tab12 spec_l14Next.bits12 (fun HT_ HW_ => ?_)
              generalize wc.drew = w87 at HO_7 BK111 BK113 BK115 HB hHeld ⊢
              refine pv (i := 0) (N := some 53) (bA 12 1) rfl rfl (any_of HT_.out (by kernel_rfl)) ?_
              refine pv (i := 1) (N := some 54) (bA 12 3) rfl rfl (any_of HT_.out (by kernel_rfl)) ?_
              refine pv (i := 2) (N := some 55) (bA 12 7) rfl rfl (any_of HT_.out (by kernel_rfl)) ?_
              refine pv (i := 3) (N := some 56) (bA 12 15) rfl rfl (any_of HT_.out (by kernel_rfl)) ?_
              refine pu (i := 4) (N := some 57) (bA 12 31) rfl rfl (any_of HT_.out (by kernel_rfl)) ?_
              refine pu (i := 5) (N := some 58) (bA 12 63) rfl rfl (any_of HT_.out (by kernel_rfl)) ?_
              refine pu (i := 6) (N := some 59) (bA 12 127) rfl rfl (any_of HT_.out (by kernel_rfl)) ?_
              refine pu (i := 7) (N := some 60) (bA 12 255) rfl rfl (any_of HT_.out (by kernel_rfl)) ?_
              refine pu (i := 8) (N := some 61) (bA 12 511) rfl rfl (any_of HT_.out (by kernel_rfl)) ?_
              refine pu (i := 9) (N := some 62) (bA 12 1023) rfl rfl (any_of HT_.out (by kernel_rfl)) ?_
              refine pu (i := 10) (N := some 63) (bA 12 2047) rfl rfl (any_of HT_.out (by kernel_rfl)) ?_
              refine pv (i := 11) (N := some 64) (bA 12 4095) rfl rfl (any_of HT_.out (by kernel_rfl)) ?_
              refine done_ (done_of HT_.out (by kernel_rfl)) ?_
              have hnb88 := NB113_111.out
              have hnc88 := NB111_113.out
              have hnb89 := NB113_115.out
              have hnc89 := NB115_113.out
              have hcz90_0 : w87.cell? ⟨gb113, 0, none⟩ = some (.int .i64 x114000_1) := (blk_cell BK113.out 0).trans rfl
              have hcz90_1 : w87.cell? ⟨gb113, 1, none⟩ = some (.string x114001_1) := (blk_cell BK113.out 1).trans rfl
              have hfz90_0 := blk_frozen BK113.out 0
              have hfz90_1 := blk_frozen BK113.out 1
              have hnb91 := NB111_115.out
              have hnc91 := NB115_111.out
              have hcz92_0 : w87.cell? ⟨gb111, 0, none⟩ = some (.int .i64 x112000_1) := (blk_cell BK111.out 0).trans rfl
              have hcz92_1 : w87.cell? ⟨gb111, 1, none⟩ = some (.string x112001_1) := (blk_cell BK111.out 1).trans rfl
              have hfz92_0 := blk_frozen BK111.out 0
              have hfz92_1 := blk_frozen BK111.out 1
              try go_wp2
              refine bodyPost_ret (results_ct rfl _ _ gb111 86 #[.int .i64 x114000_1, .string x114001_1] (0, 0) _ rfl (by (with_reducible repeat (first | refine blk_drewN ?_ _ | refine blk_drew ?_ | refine blk_alloc ?_ _)); refine blk_put (cs := #[.int .i64 x114000_1, .string x112001_1]) ?_ 1 _ rfl; (with_reducible repeat (first | refine blk_drewN ?_ _ | refine blk_drew ?_ | refine blk_alloc ?_ _)); refine blk_put (cs := #[.int .i64 x112000_1, .string x112001_1]) ?_ 0 _ rfl; (with_reducible repeat (first | refine blk_drewN ?_ _ | refine blk_drew ?_ | refine blk_alloc ?_ _)); exact BK111.out) Try.underlying86 rfl (by kernel_rfl)) rfl ?_
              exact ⟨_, by first | rfl | (simp [errW_none, errW_some] <;> rfl) | (simp only [← hji3]; first | rfl | (simp [errW_none, errW_some] <;> rfl)) | (simp [*, errW_none, errW_some] <;> rfl), by (with_reducible repeat (first | apply Kd.R_alloc | apply Kd.R_drewN | apply Kd.R_drew)); exact Kd.R_mono (Kd.R_far (p := ⟨gb111, 1, none⟩) (Kd.R_far (p := ⟨gb111, 0, none⟩) (Kd.R_mono HO_7.out (fun k_ hk => (⟨hk, hk.1⟩ : _ ∧ k_ ≠ gb111))) (fun _ hk => hk.2) (.int .i64 x114000_1)) (fun _ hk => hk.2) (.string x114001_1)) (fun _ hk => trivial), by repeat (first | (with_reducible first | exact HB.out | apply below_alloc | apply pw_below_drewN | apply below_drew1 | refine below_set ?_ GE111.out | refine below_set ?_ GE113.out | refine below_set ?_ GE115.out) | exact HB.out)⟩
             ·rw [if_neg c86] at H
              have c86b0 : decide (ji3 ≤ (wrap64 ((wrap64 (2 * x8_1)) + 1))) = false := decide_eq_false c86
              clear c86
              obtain ⟨ji93, hji93⟩ : ∃ j_ : Int, (wrap64 ((wrap64 (2 * x8_1)) + 1)) = j_ := ⟨_, rfl⟩
              replace H : (if 0 ≤ (ji93) then (if (ji93) < (x7_1.length : Int) then ((spec_l14Ahead.f ((rd_T86 x7_1 (ji93)).f0) ((rd_T86 x7_1 (ji93)).f1) x116000_1 x116001_1).bind fun t136 => (if t136 = true then (if 0 ≤ x8_1 then (if x8_1 < (x7_1.length : Int) then (spec_l14Next.l0 kj40 ji3 ((x7_1.set (x8_1 : Int).toNat (⟨(rd_T86 x7_1 (ji93)).f0, (rd_T86 x7_1 (ji93)).f1⟩ : S86)).set ((ji93) : Int).toNat (⟨x116000_1, x116001_1⟩ : S86)) (ji93) x114000_1 x114001_1 x116000_1 x116001_1) else (none)) else (none)) else (some (x114000_1, x114001_1, x7_1)))) else (none)) else (none)) = some (r1, r2, r3) := by first | (rw [hji93] at H; exact H) | (simp only [hji93] at H ⊢; exact H)
              (try rw [hji93] at c86b0)
              have hji93w : (IntKind.i64.wrap ((wrap64 (2 * x8_1)) + 1)) = ji93 := (i64_w _).trans hji93
              by_cases c94 : 0 ≤ (ji93)
              ·rw [if_pos c94] at H
               have c94b0 : decide (0 ≤ (ji93)) = true := decide_eq_true c94
               clear c94
               by_cases c95 : (ji93) < (x7_1.length : Int)
               ·rw [if_pos c95] at H
                have c95b0 : decide ((ji93) < (x7_1.length : Int)) = true := decide_eq_true c95
                clear c95
                replace H := Option.bind_eq_some_iff.mp H
                obtain ⟨t136, A960, H⟩ := H
                replace H : (if t136 = true then (if 0 ≤ x8_1 then (if x8_1 < (x7_1.length : Int) then (spec_l14Next.l0 kj40 ji3 ((x7_1.set (x8_1 : Int).toNat (⟨(rd_T86 x7_1 (ji93)).f0, (rd_T86 x7_1 (ji93)).f1⟩ : S86)).set ((ji93) : Int).toNat (⟨x116000_1, x116001_1⟩ : S86)) (ji93) x114000_1 x114001_1 x116000_1 x116001_1) else (none)) else (none)) else (some (x114000_1, x114001_1, x7_1))) = some (r1, r2, r3) := H
                have A96 := Aside0.mk A960
                clear A960
                by_cases c97 : t136 = true
                ·subst c97
                 have H1 : (if 0 ≤ x8_1 then (if x8_1 < (x7_1.length : Int) then (spec_l14Next.l0 kj40 ji3 ((x7_1.set (x8_1 : Int).toNat (⟨(rd_T86 x7_1 (ji93)).f0, (rd_T86 x7_1 (ji93)).f1⟩ : S86)).set ((ji93) : Int).toNat (⟨x116000_1, x116001_1⟩ : S86)) (ji93) x114000_1 x114001_1 x116000_1 x116001_1) else (none)) else (none)) = some (r1, r2, r3) := by rw [if_pos rfl] at H; exact H
                 clear H
                 have H := H1
                 clear H1
                 by_cases c98 : 0 ≤ x8_1
                 ·rw [if_pos c98] at H
                  have c98b0 : decide (0 ≤ x8_1) = true := decide_eq_true c98
                  clear c98
                  by_cases c99 : x8_1 < (x7_1.length : Int)
                  ·rw [if_pos c99] at H
                   have c99b0 : decide (x8_1 < (x7_1.length : Int)) = true := decide_eq_true c99
                   clear c99
                   obtain ⟨y138, hy138⟩ : ∃ y_ : List (S86), y_ = (x7_1.set (x8_1 : Int).toNat (⟨(rd_T86 x7_1 (ji93)).f0, (rd_T86 x7_1 (ji93)).f1⟩ : S86)) := ⟨_, rfl⟩
                   replace H : (spec_l14Next.l0 kj40 ji3 (y138.set ((ji93) : Int).toNat (⟨x116000_1, x116001_1⟩ : S86)) (ji93) x114000_1 x114001_1 x116000_1 x116001_1) = some (r1, r2, r3) := by first | (rw [hy138]; with_reducible exact H) | (have H2_ := (Option.bind_some _ _).symm.trans H; rw [hy138]; with_reducible exact H2_) | (have H2_ := (Option.bind_some _ _).symm.trans H; with_reducible exact H2_) | with_reducible exact H | (rw [hy138]; exact H) | exact H
                   have Ny138 := Aside0.mk hy138
                   clear hy138
                   obtain ⟨y139, hy139⟩ : ∃ y_ : List (S86), y_ = (y138.set ((ji93) : Int).toNat (⟨x116000_1, x116001_1⟩ : S86)) := ⟨_, rfl⟩
                   replace H : (spec_l14Next.l0 kj40 ji3 y139 (ji93) x114000_1 x114001_1 x116000_1 x116001_1) = some (r1, r2, r3) := by first | (rw [hy139]; with_reducible exact H) | (have H2_ := (Option.bind_some _ _).symm.trans H; rw [hy139]; with_reducible exact H2_) | (have H2_ := (Option.bind_some _ _).symm.trans H; with_reducible exact H2_) | with_reducible exact H | (rw [hy139]; exact H) | exact H
                   have Ny139 := Aside0.mk hy139
                   clear hy139
                   have H' := Aside0.mk H
                   clear H
                   try go_wp2
                   have n0_ := Aside0.mk (Kd.R_drew HO_7.out)
                   have n1_ := Aside0.mk (blk_drew BK111.out)
                   have n2_ := Aside0.mk (blk_drew BK113.out)
                   have n3_ := Aside0.mk (blk_drew BK115.out)
                   have n4_ := Aside0.mk (below_drew1 HB.out)
                   clear HO_7
                   clear BK111
                   clear BK113
                   clear BK115
                   clear HB
                   have HO_7 := n0_
                   have BK111 := n1_
                   have BK113 := n2_
                   have BK115 := n3_
                   have HB := n4_
                   clear n0_ n1_ n2_ n3_ n4_
                   have p135 : 0 ≤ ((ji93) : Int) := of_decide_eq_true (by first | (with_reducible assumption) | assumption)
                   have q135 : (ji93) < (x7_1.length : Int) := of_decide_eq_true (by first | (with_reducible assumption) | assumption)
                   obtain ⟨ad135, e135, hx135_0, hx135_1⟩ := at_T86 (Kd.R_reads' HO_7.out).2.2 (ji93) p135 q135
                   obtain rfl : (⟨go25, 0, none⟩ : Addr) = ad135 := (by injection e135)
                   (first | simp only [add_plain] at hx135_0 | simp only [add_at] at hx135_0 | simp only [Addr.add, Nat.zero_add] at hx135_0 | skip)
                   (first | simp only [add_plain] at hx135_1 | simp only [add_at] at hx135_1 | simp only [Addr.add, Nat.zero_add] at hx135_1 | skip)
                   replace p135 := eq_true p135
                   replace q135 := eq_true q135
                   refine start_ (n := 12) (S := fun w' => w'.cell? ⟨gb115, 0, none⟩ = some (.int .i64 x116000_1) ∧ w'.cell? ⟨gb115, 1, none⟩ = some (.string x116001_1) ∧ w'.cell? ⟨go25, ((ji93)).toNat * 2, none⟩ = some (.int .i64 ((rd_T86 x7_1 (ji93)).f0)) ∧ w'.cell? ⟨go25, ((ji93)).toNat * 2 + 1, none⟩ = some (.string ((rd_T86 x7_1 (ji93)).f1))) (ds := []) (bA 12 0) (by kernel_rfl) rfl rfl ⟨(blk_cell BK115.out 0).trans rfl, (blk_cell BK115.out 1).trans rfl, hx135_0, hx135_1⟩ (fun hHeld => ?_); refine with_tabW spec_l14Next.tab12 spec_l14Next.bits12 (fun HT_ HW_ => ?_)
                   generalize wc.drew = w102 at HO_7 BK111 BK113 BK115 HB hx135_0 hx135_1 hHeld ⊢
                   refine pv (i := 0) (N := some 53) (bA 12 1) rfl rfl (any_of HT_.out (by kernel_rfl)) ?_
                   refine pv (i := 1) (N := some 54) (bA 12 3) rfl rfl (any_of HT_.out (by kernel_rfl)) ?_
                   refine pv (i := 2) (N := some 55) (bA 12 7) rfl rfl (any_of HT_.out (by kernel_rfl)) ?_
                   refine pv (i := 3) (N := some 56) (bA 12 15) rfl rfl (any_of HT_.out (by kernel_rfl)) ?_
                   refine pv (i := 4) (N := some 57) (bA 12 31) rfl rfl (any_of HT_.out (by kernel_rfl)) ?_
                   refine pv (i := 5) (N := some 58) (bA 12 63) rfl rfl (any_of HT_.out (by kernel_rfl)) ?_
                   refine pv (i := 6) (N := some 59) (bA 12 127) rfl rfl (any_of HT_.out (by kernel_rfl)) ?_
                   refine take_ (i := 7) (N := some 60) (v := ?_) (a' := ?_) (bA 12 255) rfl rfl (take_ofW HT_.out HW_.out (by kernel_rfl)) (fun _ _ _ h => h) (Or.inl ⟨by rfl, ?_⟩) hHeld ?_ ?_
                   rotate_left
                   ·rintro w' ⟨s0, s1, s2, s3⟩
                    go_simp
                    with_reducible rfl
                   rotate_left
                   ·simp only [sp_]
                    rfl
                   refine take_ (i := 8) (N := some 61) (v := ?_) (a' := ?_) (bA 12 511) rfl rfl (take_ofW HT_.out HW_.out (by kernel_rfl)) (fun _ _ _ h => h) (Or.inl ⟨by rfl, ?_⟩) hHeld ?_ ?_
                   rotate_left
                   ·rintro w' ⟨s0, s1, s2, s3⟩
                    go_simp
                    with_reducible rfl
                   rotate_left
                   ·simp only [sp_]
                    rfl
                   refine one_ (i := 9) (N := some 62) (bA 12 1023) rfl rfl (one_of HT_.out (by kernel_rfl)) (by decide) (fun K hK => ?_)
                   refine goes_ Try.func139 (by kernel_rfl) rfl #[.agg #[.int .i64 ((rd_T86 x7_1 (ji93)).f0), .string ((rd_T86 x7_1 (ji93)).f1)], .agg #[.int .i64 x116000_1, .string x116001_1]] (by rfl) rfl rfl (by (try simp only [List.map_toArray, List.map_cons, List.map_nil]); first | done | (simp only [hji93]; rfl) | rfl | (simp only [List.length_drop, List.length_take]; rfl)) ?_
                   with_reducible refine (spec_l14Ahead.calls ((rd_T86 x7_1 (ji93)).f0) ((rd_T86 x7_1 (ji93)).f1) x116000_1 x116001_1 true _ A96.out).mono ?_
                   rintro e w103 ⟨rfl, hb⟩
                   have HS2_ := (hb.cell (World.block_lt_of_cell? _ _ (hHeld.2.2.1))).trans (hHeld.2.2.1)
                   have HS3_ := (hb.cell (World.block_lt_of_cell? _ _ (hHeld.2.2.2))).trans (hHeld.2.2.2)
                   refine ⟨_, rfl, ?_⟩
                   have n0_ := Aside0.mk (Kd.R_below (by (with_reducible repeat (first | apply Kd.R_alloc | apply Kd.R_drewN | apply Kd.R_drew)); exact HO_7.out) hb)
                   have n1_ := Aside0.mk (blk_below (g := gb111) (o := .cells #[.int .i64 x112000_1, .string x112001_1] 86 (0, 0)) (by (with_reducible repeat (first | refine blk_drewN ?_ _ | refine blk_drew ?_ | refine blk_alloc ?_ _)); exact BK111.out) hb)
                   have n2_ := Aside0.mk (blk_below (g := gb113) (o := .cells #[.int .i64 x114000_1, .string x114001_1] 86 (0, 0)) (by (with_reducible repeat (first | refine blk_drewN ?_ _ | refine blk_drew ?_ | refine blk_alloc ?_ _)); exact BK113.out) hb)
                   have n3_ := Aside0.mk (blk_below (g := gb115) (o := .cells #[.int .i64 x116000_1, .string x116001_1] 86 (0, 0)) (by (with_reducible repeat (first | refine blk_drewN ?_ _ | refine blk_drew ?_ | refine blk_alloc ?_ _)); exact BK115.out) hb)
                   have n4_ := Aside0.mk (below_step (by repeat (first | (with_reducible first | exact HB.out | apply below_alloc | apply pw_below_drewN | apply below_drew1 | refine below_set ?_ GE111.out | refine below_set ?_ GE113.out | refine below_set ?_ GE115.out) | exact HB.out)) hb)
                   clear HO_7
                   clear BK111
                   clear BK113
                   clear BK115
                   clear HB
                   have HO_7 := n0_
                   have BK111 := n1_
                   have BK113 := n2_
                   have BK115 := n3_
                   have HB := n4_
                   clear n0_ n1_ n2_ n3_ n4_
                   (try clear hb)
                   (try clear hb2)
                   (try clear hk)
                   (try clear hi)
                   refine hK.out _ _ ⟨(blk_cell BK115.out 0).trans rfl, (blk_cell BK115.out 1).trans rfl, HS2_, HS3_⟩ (fun hHeld => ?_)
                   clear hK K
                   refine norm_ (a' := ?_) ?_ ?_
                   rotate_left
                   ·show Act.put _ (some 62) _ = _
                    simp only [sp_]
                    rfl
                   refine pv (i := 10) (N := some 63) (bA 12 2047) rfl rfl (any_of HT_.out (by kernel_rfl)) ?_
                   refine pv (i := 11) (N := some 64) (bA 12 4095) rfl rfl (any_of HT_.out (by kernel_rfl)) ?_
                   refine done_ (done_of HT_.out (by kernel_rfl)) ?_
                   have p137 : 0 ≤ ((ji93) : Int) := of_decide_eq_true (by first | (with_reducible assumption) | assumption)
                   have q137 : (ji93) < (x7_1.length : Int) := of_decide_eq_true (by first | (with_reducible assumption) | assumption)
                   obtain ⟨ad137, e137, hx137_0, hx137_1⟩ := at_T86 (Kd.R_reads' HO_7.out).2.2 (ji93) p137 q137
                   obtain rfl : (⟨go25, 0, none⟩ : Addr) = ad137 := (by injection e137)
                   (first | simp only [add_plain] at hx137_0 | simp only [add_at] at hx137_0 | simp only [Addr.add, Nat.zero_add] at hx137_0 | skip)
                   (first | simp only [add_plain] at hx137_1 | simp only [add_at] at hx137_1 | simp only [Addr.add, Nat.zero_add] at hx137_1 | skip)
                   replace p137 := eq_true p137
                   replace q137 := eq_true q137
                   have p100 : 0 ≤ (x8_1 : Int) := of_decide_eq_true (by first | (with_reducible assumption) | assumption)
                   have q100 : (x8_1 : Int) < ((x7_1.length : Int) : Int) := of_decide_eq_true (by first | (with_reducible assumption) | assumption)
                   obtain ⟨ce100, hcl100, hM100, hcc100, hfr100⟩ := Kd.R_elem HO_7.out z86 (x8_1 : Int) p100 q100
                   obtain rfl := k86_openM hM100
                   have hx100_0 : w103.cell? ⟨go25, (x8_1 : Int).toNat * 2, none⟩ = some (.int .i64 ((rd_T86 x7_1 x8_1).f0)) := hcc100 0 _ rfl
                   have hx100_1 : w103.cell? ⟨go25, (x8_1 : Int).toNat * 2 + 1, none⟩ = some (.string ((rd_T86 x7_1 x8_1).f1)) := hcc100 1 _ rfl
                   have hf100_0 : w103.frozen? ⟨go25, (x8_1 : Int).toNat * 2, none⟩ = false := hfr100 0
                   have hf100_1 : w103.frozen? ⟨go25, (x8_1 : Int).toNat * 2 + 1, none⟩ = false := hfr100 1
                   clear hcl100 hcc100 hfr100 hM100
                   replace p100 := eq_true p100
                   replace q100 := eq_true q100
                   have HX104 := Aside0.mk (show Kd.R k86 86 w103 w.heap.size (fun k_ => k_ ≠ gb111 ∧ k_ ≠ gb113 ∧ k_ ≠ gb115) (.slice (some ⟨go25, 0, none⟩) x7_1.length co25) x7_1 from (by (with_reducible repeat (first | apply Kd.R_alloc | apply Kd.R_drewN | apply Kd.R_drew)); exact HO_7.out))
                   obtain ⟨ce104, hcl104, hM104, hcc104, hfr104⟩ := Kd.R_elem HX104.out z86 (x8_1 : Int) (of_decide_eq_true (by first | (with_reducible assumption) | assumption)) (by have h_ : (x8_1 : Int) < ((x7_1.length : Int) : Int) := of_decide_eq_true (by first | (with_reducible assumption) | assumption); first | exact h_ | (have e_ := (Kd.R_reads' HO_7.out).1; omega) | simpa using h_)
                   obtain rfl := k86_openM hM104
                   have HP104 := Kd.R_seg HX104.out (x8_1 : Int) (of_decide_eq_true (by first | (with_reducible assumption) | assumption)) (by have h_ : (x8_1 : Int) < ((x7_1.length : Int) : Int) := of_decide_eq_true (by first | (with_reducible assumption) | assumption); first | exact h_ | (have e_ := (Kd.R_reads' HO_7.out).1; omega) | simpa using h_) (seg := [.int .i64 ((rd_T86 x7_1 (ji93)).f0), .string ((rd_T86 x7_1 (ji93)).f1)]) (j := 0) hcl104 hcc104 (show 2 ≤ 2 from by decide) (x' := (⟨(rd_T86 x7_1 (ji93)).f0, (rd_T86 x7_1 (ji93)).f1⟩ : S86)) (k86_mkM _ _ _ (⟨(rd_T86 x7_1 (ji93)).f0, (rd_T86 x7_1 (ji93)).f1⟩ : S86) ) (fun _ hk => hk)
                   have hx104_0 := hcc104 0 _ rfl
                   (try simp only [show (k86).sz = 2 from rfl, Nat.mul_one, Nat.add_zero] at hx104_0)
                   have hf104_0 := hfr104 0
                   (try simp only [show (k86).sz = 2 from rfl, Nat.mul_one, Nat.add_zero] at hf104_0)
                   have hx104_1 := hcc104 1 _ rfl
                   (try simp only [show (k86).sz = 2 from rfl, Nat.mul_one, Nat.add_zero] at hx104_1)
                   have hf104_1 := hfr104 1
                   (try simp only [show (k86).sz = 2 from rfl, Nat.mul_one, Nat.add_zero] at hf104_1)
                   clear hcl104 hcc104 hfr104 hM104
                   try go_wp2_with (first | ((with_reducible refine gate_store (t := 86) (p := 73) rfl ?_); refine store_event (t := 86) (p := 73) (v := ?vo_w105) (w1 := ((w103.setCell ⟨go25, (x8_1 : Int).toNat * 2, none⟩ (.int .i64 ((rd_T86 x7_1 (ji93)).f0))).setCell ⟨go25, (x8_1 : Int).toNat * 2 + 1, none⟩ (.string ((rd_T86 x7_1 (ji93)).f1)))) ?hg ?ho ?hn ?hr ?_; (case ho => rfl); (case hg => rfl); (case hn => rfl); (case hr => first | (go_simp; done) | (go_simp; rfl)); intro w105 hw; have hg : w103.grownBy w105 (some go25) := (by rw [hw]; exact HP104.2); have hp_ : Kd.R k86 86 w105 w.heap.size (fun k_ => k_ ≠ gb111 ∧ k_ ≠ gb113 ∧ k_ ≠ gb115) (.slice (some ⟨go25, 0, none⟩) x7_1.length co25) y138 := (by rw [hw, Ny138.out]; exact HP104.1); clear HP104; have n0_ := Aside0.mk (hp_); have n1_ := Aside0.mk (blk_grown (g := gb111) (o := .cells #[.int .i64 x112000_1, .string x112001_1] 86 (0, 0)) (by (with_reducible repeat (first | refine blk_drewN ?_ _ | refine blk_drew ?_ | refine blk_alloc ?_ _)); exact BK111.out) hg (Kd.R_away HO_7.out (fun _ hk => hk.1))); have n2_ := Aside0.mk (blk_grown (g := gb113) (o := .cells #[.int .i64 x114000_1, .string x114001_1] 86 (0, 0)) (by (with_reducible repeat (first | refine blk_drewN ?_ _ | refine blk_drew ?_ | refine blk_alloc ?_ _)); exact BK113.out) hg (Kd.R_away HO_7.out (fun _ hk => hk.2.1))); have n3_ := Aside0.mk (blk_grown (g := gb115) (o := .cells #[.int .i64 x116000_1, .string x116001_1] 86 (0, 0)) (by (with_reducible repeat (first | refine blk_drewN ?_ _ | refine blk_drew ?_ | refine blk_alloc ?_ _)); exact BK115.out) hg (Kd.R_away HO_7.out (fun _ hk => hk.2.2))); have n4_ := Aside0.mk ((by rw [hw]; exact below_set (below_set (HB.out) GB25.out) GB25.out : Below w.heap.size w w105)); clear HO_7; clear BK111; clear BK113; clear BK115; clear HB; have HO_7 := n0_; have BK111 := n1_; have BK113 := n2_; have BK115 := n3_; have HB := n4_; clear n0_ n1_ n2_ n3_ n4_; clear hg hw hp_; have hnb106 := NB115_111.out; have hnc106 := NB111_115.out; have hnb107 := NB115_113.out; have hnc107 := NB113_115.out; have hcz108_0 : w105.cell? ⟨gb115, 0, none⟩ = some (.int .i64 x116000_1) := (blk_cell BK115.out 0).trans rfl; have hcz108_1 : w105.cell? ⟨gb115, 1, none⟩ = some (.string x116001_1) := (blk_cell BK115.out 1).trans rfl; have hfz108_0 := blk_frozen BK115.out 0; have hfz108_1 := blk_frozen BK115.out 1; have p101 : 0 ≤ ((ji93) : Int) := of_decide_eq_true (by first | (with_reducible assumption) | assumption); have q101 : ((ji93) : Int) < ((x7_1.length : Int) : Int) := of_decide_eq_true (by first | (with_reducible assumption) | assumption); obtain ⟨ce101, hcl101, hM101, hcc101, hfr101⟩ := Kd.R_elem HO_7.out z86 ((ji93) : Int) p101 q101; obtain rfl := k86_openM hM101; have hx101_0 : w105.cell? ⟨go25, ((ji93) : Int).toNat * 2, none⟩ = some (.int .i64 ((rd_T86 y138 (ji93)).f0)) := hcc101 0 _ rfl; have hx101_1 : w105.cell? ⟨go25, ((ji93) : Int).toNat * 2 + 1, none⟩ = some (.string ((rd_T86 y138 (ji93)).f1)) := hcc101 1 _ rfl; have hf101_0 : w105.frozen? ⟨go25, ((ji93) : Int).toNat * 2, none⟩ = false := hfr101 0; have hf101_1 : w105.frozen? ⟨go25, ((ji93) : Int).toNat * 2 + 1, none⟩ = false := hfr101 1; clear hcl101 hcc101 hfr101 hM101; replace p101 := eq_true p101; replace q101 := eq_true q101; have HX109 := Aside0.mk (show Kd.R k86 86 w105 w.heap.size (fun k_ => k_ ≠ gb111 ∧ k_ ≠ gb113 ∧ k_ ≠ gb115) (.slice (some ⟨go25, 0, none⟩) x7_1.length co25) y138 from (by (with_reducible repeat (first | apply Kd.R_alloc | apply Kd.R_drewN | apply Kd.R_drew)); exact HO_7.out)); obtain ⟨ce109, hcl109, hM109, hcc109, hfr109⟩ := Kd.R_elem HX109.out z86 ((ji93) : Int) (of_decide_eq_true (by first | (with_reducible assumption) | assumption)) (by have h_ : ((ji93) : Int) < ((x7_1.length : Int) : Int) := of_decide_eq_true (by first | (with_reducible assumption) | assumption); first | exact h_ | (have e_ := (Kd.R_reads' HO_7.out).1; omega) | simpa using h_); obtain rfl := k86_openM hM109; have HP109 := Kd.R_seg HX109.out ((ji93) : Int) (of_decide_eq_true (by first | (with_reducible assumption) | assumption)) (by have h_ : ((ji93) : Int) < ((x7_1.length : Int) : Int) := of_decide_eq_true (by first | (with_reducible assumption) | assumption); first | exact h_ | (have e_ := (Kd.R_reads' HO_7.out).1; omega) | simpa using h_) (seg := [.int .i64 x116000_1, .string x116001_1]) (j := 0) hcl109 hcc109 (show 2 ≤ 2 from by decide) (x' := (⟨x116000_1, x116001_1⟩ : S86)) (k86_mkM _ _ _ (⟨x116000_1, x116001_1⟩ : S86) ) (fun _ hk => hk); have hx109_0 := hcc109 0 _ rfl; (try simp only [show (k86).sz = 2 from rfl, Nat.mul_one, Nat.add_zero] at hx109_0); have hf109_0 := hfr109 0; (try simp only [show (k86).sz = 2 from rfl, Nat.mul_one, Nat.add_zero] at hf109_0); have hx109_1 := hcc109 1 _ rfl; (try simp only [show (k86).sz = 2 from rfl, Nat.mul_one, Nat.add_zero] at hx109_1); have hf109_1 := hfr109 1; (try simp only [show (k86).sz = 2 from rfl, Nat.mul_one, Nat.add_zero] at hf109_1); clear hcl109 hcc109 hfr109 hM109) | ((with_reducible refine gate_store (t := 86) (p := 77) rfl ?_); refine store_event (t := 86) (p := 77) (v := ?vo_w110) (w1 := ((w105.setCell ⟨go25, ((ji93) : Int).toNat * 2, none⟩ (.int .i64 x116000_1)).setCell ⟨go25, ((ji93) : Int).toNat * 2 + 1, none⟩ (.string x116001_1))) ?hg ?ho ?hn ?hr ?_; (case ho => rfl); (case hg => rfl); (case hn => rfl); (case hr => first | (go_simp; done) | (go_simp; rfl)); intro w110 hw; have hg : w105.grownBy w110 (some go25) := (by rw [hw]; exact HP109.2); have hp_ : Kd.R k86 86 w110 w.heap.size (fun k_ => k_ ≠ gb111 ∧ k_ ≠ gb113 ∧ k_ ≠ gb115) (.slice (some ⟨go25, 0, none⟩) x7_1.length co25) y139 := (by rw [hw, Ny139.out]; exact HP109.1); clear HP109; have n0_ := Aside0.mk (hp_); have n1_ := Aside0.mk (blk_grown (g := gb111) (o := .cells #[.int .i64 x112000_1, .string x112001_1] 86 (0, 0)) (by (with_reducible repeat (first | refine blk_drewN ?_ _ | refine blk_drew ?_ | refine blk_alloc ?_ _)); exact BK111.out) hg (Kd.R_away HO_7.out (fun _ hk => hk.1))); have n2_ := Aside0.mk (blk_grown (g := gb113) (o := .cells #[.int .i64 x114000_1, .string x114001_1] 86 (0, 0)) (by (with_reducible repeat (first | refine blk_drewN ?_ _ | refine blk_drew ?_ | refine blk_alloc ?_ _)); exact BK113.out) hg (Kd.R_away HO_7.out (fun _ hk => hk.2.1))); have n3_ := Aside0.mk (blk_grown (g := gb115) (o := .cells #[.int .i64 x116000_1, .string x116001_1] 86 (0, 0)) (by (with_reducible repeat (first | refine blk_drewN ?_ _ | refine blk_drew ?_ | refine blk_alloc ?_ _)); exact BK115.out) hg (Kd.R_away HO_7.out (fun _ hk => hk.2.2))); have n4_ := Aside0.mk ((by rw [hw]; exact below_set (below_set (HB.out) GB25.out) GB25.out : Below w.heap.size w w110)); clear HO_7; clear BK111; clear BK113; clear BK115; clear HB; have HO_7 := n0_; have BK111 := n1_; have BK113 := n2_; have BK115 := n3_; have HB := n4_; clear n0_ n1_ n2_ n3_ n4_; clear hg hw hp_))
                   (try simp only [← hl7_1])
                   go_roundg kj40
                   case measure => have := HK1.out; have := HJ40.out; omega
                   case rel => exact ⟨(y139), ((ji93)), (x112000_1), (x112001_1), (x114000_1), (x114001_1), (x116000_1), (x116001_1), (by first | rfl | (simp; done) | (simp only [← hji93] <;> (first | rfl | simp)) | (simp [*]; done)), H', ⟨by have := HK1.out; have := HJ40.out; omega⟩, ⟨by (try simp only [hl7_1]); (with_reducible repeat (first | apply Kd.R_alloc | apply Kd.R_drewN | apply Kd.R_drew)); exact HO_7.out⟩, ⟨by (try simp only [hl7_1]); (with_reducible repeat (first | refine blk_drewN ?_ _ | refine blk_drew ?_ | refine blk_alloc ?_ _)); exact BK111.out⟩, ⟨by (try simp only [hl7_1]); (with_reducible repeat (first | refine blk_drewN ?_ _ | refine blk_drew ?_ | refine blk_alloc ?_ _)); exact BK113.out⟩, ⟨by (try simp only [hl7_1]); (with_reducible repeat (first | refine blk_drewN ?_ _ | refine blk_drew ?_ | refine blk_alloc ?_ _)); exact BK115.out⟩, ⟨by repeat (first | (with_reducible first | exact HB.out | apply below_alloc | apply pw_below_drewN | apply below_drew1 | refine below_set ?_ GE111.out | refine below_set ?_ GE113.out | refine below_set ?_ GE115.out) | exact HB.out)⟩⟩
                  ·rw [if_neg c99] at H
                   exact absurd H (by simp)
                 ·rw [if_neg c98] at H
                  exact absurd H (by simp)
                ·replace c97 := Bool.eq_false_iff.mpr c97
                 subst c97
                 have H1 : (some (x114000_1, x114001_1, x7_1)) = some (r1, r2, r3) := by rw [if_neg (show ¬ (false = true) by decide)] at H; exact H
                 clear H
                 have H := H1
                 clear H1
                 simp only [Option.some.injEq, Prod.mk.injEq] at H
                 obtain ⟨rfl, rfl, rfl⟩ := H
                 try go_wp2
                 have n0_ := Aside0.mk (Kd.R_drew HO_7.out)
                 have n1_ := Aside0.mk (blk_drew BK111.out)
                 have n2_ := Aside0.mk (blk_drew BK113.out)
                 have n3_ := Aside0.mk (blk_drew BK115.out)
                 have n4_ := Aside0.mk (below_drew1 HB.out)
                 clear HO_7
                 clear BK111
                 clear BK113
                 clear BK115
                 clear HB
                 have HO_7 := n0_
                 have BK111 := n1_
                 have BK113 := n2_
                 have BK115 := n3_
                 have HB := n4_
                 clear n0_ n1_ n2_ n3_ n4_
                 have p135 : 0 ≤ ((ji93) : Int) := of_decide_eq_true (by first | (with_reducible assumption) | assumption)
                 have q135 : (ji93) < (x7_1.length : Int) := of_decide_eq_true (by first | (with_reducible assumption) | assumption)
                 obtain ⟨ad135, e135, hx135_0, hx135_1⟩ := at_T86 (Kd.R_reads' HO_7.out).2.2 (ji93) p135 q135
                 obtain rfl : (⟨go25, 0, none⟩ : Addr) = ad135 := (by injection e135)
                 (first | simp only [add_plain] at hx135_0 | simp only [add_at] at hx135_0 | simp only [Addr.add, Nat.zero_add] at hx135_0 | skip)
                 (first | simp only [add_plain] at hx135_1 | simp only [add_at] at hx135_1 | simp only [Addr.add, Nat.zero_add] at hx135_1 | skip)
                 replace p135 := eq_true p135
                 replace q135 := eq_true q135
                 refine start_ (n := 12) (S := fun w' => w'.cell? ⟨gb115, 0, none⟩ = some (.int .i64 x116000_1) ∧ w'.cell? ⟨gb115, 1, none⟩ = some (.string x116001_1) ∧ w'.cell? ⟨go25, ((ji93)).toNat * 2, none⟩ = some (.int .i64 ((rd_T86 x7_1 (ji93)).f0)) ∧ w'.cell? ⟨go25, ((ji93)).toNat * 2 + 1, none⟩ = some (.string ((rd_T86 x7_1 (ji93)).f1))) (ds := []) (bA 12 0) (by kernel_rfl) rfl rfl ⟨(blk_cell BK115.out 0).trans rfl, (blk_cell BK115.out 1).trans rfl, hx135_0, hx135_1⟩ (fun hHeld => ?_); refine with_tabW spec_l14Next.tab12 spec_l14Next.bits12 (fun HT_ HW_ => ?_)
                 generalize wc.drew = w111 at HO_7 BK111 BK113 BK115 HB hx135_0 hx135_1 hHeld ⊢
                 refine pv (i := 0) (N := some 53) (bA 12 1) rfl rfl (any_of HT_.out (by kernel_rfl)) ?_
                 refine pv (i := 1) (N := some 54) (bA 12 3) rfl rfl (any_of HT_.out (by kernel_rfl)) ?_
                 refine pv (i := 2) (N := some 55) (bA 12 7) rfl rfl (any_of HT_.out (by kernel_rfl)) ?_
                 refine pv (i := 3) (N := some 56) (bA 12 15) rfl rfl (any_of HT_.out (by kernel_rfl)) ?_
                 refine pv (i := 4) (N := some 57) (bA 12 31) rfl rfl (any_of HT_.out (by kernel_rfl)) ?_
                 refine pv (i := 5) (N := some 58) (bA 12 63) rfl rfl (any_of HT_.out (by kernel_rfl)) ?_
                 refine pv (i := 6) (N := some 59) (bA 12 127) rfl rfl (any_of HT_.out (by kernel_rfl)) ?_
                 refine take_ (i := 7) (N := some 60) (v := ?_) (a' := ?_) (bA 12 255) rfl rfl (take_ofW HT_.out HW_.out (by kernel_rfl)) (fun _ _ _ h => h) (Or.inl ⟨by rfl, ?_⟩) hHeld ?_ ?_
                 rotate_left
                 ·rintro w' ⟨s0, s1, s2, s3⟩
                  go_simp
                  with_reducible rfl
                 rotate_left
                 ·simp only [sp_]
                  rfl
                 refine take_ (i := 8) (N := some 61) (v := ?_) (a' := ?_) (bA 12 511) rfl rfl (take_ofW HT_.out HW_.out (by kernel_rfl)) (fun _ _ _ h => h) (Or.inl ⟨by rfl, ?_⟩) hHeld ?_ ?_
                 rotate_left
                 ·rintro w' ⟨s0, s1, s2, s3⟩
                  go_simp
                  with_reducible rfl
                 rotate_left
                 ·simp only [sp_]
                  rfl
                 refine one_ (i := 9) (N := some 62) (bA 12 1023) rfl rfl (one_of HT_.out (by kernel_rfl)) (by decide) (fun K hK => ?_)
                 refine goes_ Try.func139 (by kernel_rfl) rfl #[.agg #[.int .i64 ((rd_T86 x7_1 (ji93)).f0), .string ((rd_T86 x7_1 (ji93)).f1)], .agg #[.int .i64 x116000_1, .string x116001_1]] (by rfl) rfl rfl (by (try simp only [List.map_toArray, List.map_cons, List.map_nil]); first | done | (simp only [hji93]; rfl) | rfl | (simp only [List.length_drop, List.length_take]; rfl)) ?_
                 with_reducible refine (spec_l14Ahead.calls ((rd_T86 x7_1 (ji93)).f0) ((rd_T86 x7_1 (ji93)).f1) x116000_1 x116001_1 false _ A96.out).mono ?_
                 rintro e w112 ⟨rfl, hb⟩
                 have HS2_ := (hb.cell (World.block_lt_of_cell? _ _ (hHeld.2.2.1))).trans (hHeld.2.2.1)
                 have HS3_ := (hb.cell (World.block_lt_of_cell? _ _ (hHeld.2.2.2))).trans (hHeld.2.2.2)
                 refine ⟨_, rfl, ?_⟩
                 have n0_ := Aside0.mk (Kd.R_below (by (with_reducible repeat (first | apply Kd.R_alloc | apply Kd.R_drewN | apply Kd.R_drew)); exact HO_7.out) hb)
                 have n1_ := Aside0.mk (blk_below (g := gb111) (o := .cells #[.int .i64 x112000_1, .string x112001_1] 86 (0, 0)) (by (with_reducible repeat (first | refine blk_drewN ?_ _ | refine blk_drew ?_ | refine blk_alloc ?_ _)); exact BK111.out) hb)
                 have n2_ := Aside0.mk (blk_below (g := gb113) (o := .cells #[.int .i64 x114000_1, .string x114001_1] 86 (0, 0)) (by (with_reducible repeat (first | refine blk_drewN ?_ _ | refine blk_drew ?_ | refine blk_alloc ?_ _)); exact BK113.out) hb)
                 have n3_ := Aside0.mk (blk_below (g := gb115) (o := .cells #[.int .i64 x116000_1, .string x116001_1] 86 (0, 0)) (by (with_reducible repeat (first | refine blk_drewN ?_ _ | refine blk_drew ?_ | refine blk_alloc ?_ _)); exact BK115.out) hb)
                 have n4_ := Aside0.mk (below_step (by repeat (first | (with_reducible first | exact HB.out | apply below_alloc | apply pw_below_drewN | apply below_drew1 | refine below_set ?_ GE111.out | refine below_set ?_ GE113.out | refine below_set ?_ GE115.out) | exact HB.out)) hb)
                 clear HO_7
                 clear BK111
                 clear BK113
                 clear BK115
                 clear HB
                 have HO_7 := n0_
                 have BK111 := n1_
                 have BK113 := n2_
                 have BK115 := n3_
                 have HB := n4_
                 clear n0_ n1_ n2_ n3_ n4_
                 (try clear hb)
                 (try clear hb2)
                 (try clear hk)
                 (try clear hi)
                 refine hK.out _ _ ⟨(blk_cell BK115.out 0).trans rfl, (blk_cell BK115.out 1).trans rfl, HS2_, HS3_⟩ (fun hHeld => ?_)
                 clear hK K
                 refine norm_ (a' := ?_) ?_ ?_
                 rotate_left
                 ·show Act.put _ (some 62) _ = _
                  simp only [sp_]
                  rfl
                 refine pv (i := 10) (N := some 63) (bA 12 2047) rfl rfl (any_of HT_.out (by kernel_rfl)) ?_
                 refine pv (i := 11) (N := some 64) (bA 12 4095) rfl rfl (any_of HT_.out (by kernel_rfl)) ?_
                 refine done_ (done_of HT_.out (by kernel_rfl)) ?_
                 have hnb113 := NB113_111.out
                 have hnc113 := NB111_113.out
                 have hnb114 := NB113_115.out
                 have hnc114 := NB115_113.out
                 have hcz115_0 : w112.cell? ⟨gb113, 0, none⟩ = some (.int .i64 x114000_1) := (blk_cell BK113.out 0).trans rfl
                 have hcz115_1 : w112.cell? ⟨gb113, 1, none⟩ = some (.string x114001_1) := (blk_cell BK113.out 1).trans rfl
                 have hfz115_0 := blk_frozen BK113.out 0
                 have hfz115_1 := blk_frozen BK113.out 1
                 have hnb116 := NB111_115.out
                 have hnc116 := NB115_111.out
                 have hcz117_0 : w112.cell? ⟨gb111, 0, none⟩ = some (.int .i64 x112000_1) := (blk_cell BK111.out 0).trans rfl
                 have hcz117_1 : w112.cell? ⟨gb111, 1, none⟩ = some (.string x112001_1) := (blk_cell BK111.out 1).trans rfl
                 have hfz117_0 := blk_frozen BK111.out 0
                 have hfz117_1 := blk_frozen BK111.out 1
                 try go_wp2
                 refine bodyPost_ret (results_ct rfl _ _ gb111 86 #[.int .i64 x114000_1, .string x114001_1] (0, 0) _ rfl (by (with_reducible repeat (first | refine blk_drewN ?_ _ | refine blk_drew ?_ | refine blk_alloc ?_ _)); refine blk_put (cs := #[.int .i64 x114000_1, .string x112001_1]) ?_ 1 _ rfl; (with_reducible repeat (first | refine blk_drewN ?_ _ | refine blk_drew ?_ | refine blk_alloc ?_ _)); refine blk_put (cs := #[.int .i64 x112000_1, .string x112001_1]) ?_ 0 _ rfl; (with_reducible repeat (first | refine blk_drewN ?_ _ | refine blk_drew ?_ | refine blk_alloc ?_ _)); exact BK111.out) Try.underlying86 rfl (by kernel_rfl)) rfl ?_
                 exact ⟨_, by first | rfl | (simp [errW_none, errW_some] <;> rfl) | (simp only [← hji3, ← hji93]; first | rfl | (simp [errW_none, errW_some] <;> rfl)) | (simp [*, errW_none, errW_some] <;> rfl), by (with_reducible repeat (first | apply Kd.R_alloc | apply Kd.R_drewN | apply Kd.R_drew)); exact Kd.R_mono (Kd.R_far (p := ⟨gb111, 1, none⟩) (Kd.R_far (p := ⟨gb111, 0, none⟩) (Kd.R_mono HO_7.out (fun k_ hk => (⟨hk, hk.1⟩ : _ ∧ k_ ≠ gb111))) (fun _ hk => hk.2) (.int .i64 x114000_1)) (fun _ hk => hk.2) (.string x114001_1)) (fun _ hk => trivial), by repeat (first | (with_reducible first | exact HB.out | apply below_alloc | apply pw_below_drewN | apply below_drew1 | refine below_set ?_ GE111.out | refine below_set ?_ GE113.out | refine below_set ?_ GE115.out) | exact HB.out)⟩
               ·rw [if_neg c95] at H
                exact absurd H (by simp)
              ·rw [if_neg c94] at H
               exact absurd H (by simp)
       ·rw [if_neg c24] at H
        exact absurd H (by simp)
     ·rw [if_neg c8] at H
      exact absurd H (by simp)
    ·rw [if_neg c7] at H
     exact absurd H (by simp)
   ·rw [if_neg c5] at H
    exact absurd H (by simp)
  ·rw [if_neg c4] at H
   exact absurd H (by simp)
 ·rw [if_neg c2] at H
  exact absurd H (by simp)

end Go.Proofs.Ytckgkhlgnblblaa.PFnPool
