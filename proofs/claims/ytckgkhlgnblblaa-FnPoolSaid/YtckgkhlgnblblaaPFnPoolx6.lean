-- Written by a program of this session (wip/tools/pp.py over the kit's print).
import Derived.Test.YtckgkhlgnblblaaPFnPoolx0
import Derived.Test.YtckgkhlgnblblaaPFnPoolx4
import Derived.Test.YtckgkhlgnblblaaPFnPoolx5
namespace Go.Proofs.Ytckgkhlgnblblaa.PFnPool
open Go.RowKit Go.Proofs.YtckgkhlgnblblaaW.PrintWords Go.Proofs.YtckgkhlgnblblaaW.PrintLast Go.Proofs.YtckgkhlgnblblaaW.PrintMore
attribute [local go_sem] max2_int min2_int max_two min_two max_three min_three max_four min_four
attribute [local go_sem high] str_gtr str_leq str_geq
set_option linter.unusedVariables false
set_option linter.unusedSimpArgs false

/-! ### impl_next: function 137 -/
mutual
def impl_next.l0 : Nat → List (S86) → Int → List (S86) → Int → Option (Int × ByteArray × (List (S86)))
 | 0, _, _, _, _ => none
 | k + 1, x0, x4, x5, x6 => if (wrap64 ((wrap64 (2 * x6)) + 1)) < x4 then (if (wrap64 ((wrap64 ((wrap64 (2 * x6)) + 1)) + 1)) < x4 then (if 0 ≤ (wrap64 ((wrap64 ((wrap64 (2 * x6)) + 1)) + 1)) then (if (wrap64 ((wrap64 ((wrap64 (2 * x6)) + 1)) + 1)) < (x5.length : Int) then (if 0 ≤ (wrap64 ((wrap64 (2 * x6)) + 1)) then (if (wrap64 ((wrap64 (2 * x6)) + 1)) < (x5.length : Int) then ((impl_Offer_ahead.f ((rd_T86 x5 (wrap64 ((wrap64 ((wrap64 (2 * x6)) + 1)) + 1))).f0) ((rd_T86 x5 (wrap64 ((wrap64 ((wrap64 (2 * x6)) + 1)) + 1))).f1) ((rd_T86 x5 (wrap64 ((wrap64 (2 * x6)) + 1))).f0) ((rd_T86 x5 (wrap64 ((wrap64 (2 * x6)) + 1))).f1)).bind fun t188 => (impl_next.j1 k x0 x4 x5 x6 (wrap64 ((wrap64 (2 * x6)) + 1)) t188)) else (none)) else (none)) else (none)) else (none)) else (impl_next.j1 k x0 x4 x5 x6 (wrap64 ((wrap64 (2 * x6)) + 1)) false)) else (if 0 < (x0.length : Int) then (some ((rd_T86 x0 0).f0, (rd_T86 x0 0).f1, x5)) else (none))
def impl_next.j1 : Nat → List (S86) → Int → List (S86) → Int → Int → Bool → Option (Int × ByteArray × (List (S86)))
 | 0, _, _, _, _, _, _ => none
 | k + 1, x0, x4, x5, x6, x7, x50 => if x50 = true then (if 0 ≤ (wrap64 (x7 + 1)) then (if (wrap64 (x7 + 1)) < (x5.length : Int) then (if 0 ≤ x6 then (if x6 < (x5.length : Int) then ((impl_Offer_ahead.f ((rd_T86 x5 (wrap64 (x7 + 1))).f0) ((rd_T86 x5 (wrap64 (x7 + 1))).f1) ((rd_T86 x5 x6).f0) ((rd_T86 x5 x6).f1)).bind fun t191 => (if t191 = true then (impl_next.l0 k x0 x4 ((x5.set (x6 : Int).toNat (⟨(rd_T86 x5 (wrap64 (x7 + 1))).f0, (rd_T86 x5 (wrap64 (x7 + 1))).f1⟩ : S86)).set ((wrap64 (x7 + 1)) : Int).toNat (⟨(rd_T86 x5 x6).f0, (rd_T86 x5 x6).f1⟩ : S86)) (wrap64 (x7 + 1))) else (if 0 < (x0.length : Int) then (some ((rd_T86 x0 0).f0, (rd_T86 x0 0).f1, x5)) else (none)))) else (none)) else (none)) else (none)) else (none)) else (if 0 ≤ x7 then (if x7 < (x5.length : Int) then (if 0 ≤ x6 then (if x6 < (x5.length : Int) then ((impl_Offer_ahead.f ((rd_T86 x5 x7).f0) ((rd_T86 x5 x7).f1) ((rd_T86 x5 x6).f0) ((rd_T86 x5 x6).f1)).bind fun t199 => (if t199 = true then (impl_next.l0 k x0 x4 ((x5.set (x6 : Int).toNat (⟨(rd_T86 x5 x7).f0, (rd_T86 x5 x7).f1⟩ : S86)).set (x7 : Int).toNat (⟨(rd_T86 x5 x6).f0, (rd_T86 x5 x6).f1⟩ : S86)) x7) else (if 0 < (x0.length : Int) then (some ((rd_T86 x0 0).f0, (rd_T86 x0 0).f1, x5)) else (none)))) else (none)) else (none)) else (none)) else (none))
end
def impl_next.f (k : Nat) (l0 : List (S86)) : Option (Int × ByteArray × (List (S86))) := if 0 ≤ (wrap64 ((l0.length : Int) - 1)) then (if (wrap64 ((l0.length : Int) - 1)) ≤ (l0.length : Int) then ((impl_Offer.f (l0.take ((wrap64 ((l0.length : Int) - 1)) : Int).toNat)).bind fun t179 => (if (wrap64 ((l0.length : Int) - 1)) = 0 then (if 0 < (l0.length : Int) then (some ((rd_T86 l0 0).f0, (rd_T86 l0 0).f1, t179)) else (none)) else (if (wrap64 ((l0.length : Int) - 1)) < (l0.length : Int) then (if 0 < (t179.length : Int) then (impl_next.l0 k l0 (wrap64 ((l0.length : Int) - 1)) (t179.set (0 : Int).toNat (⟨(rd_T86 l0 (wrap64 ((l0.length : Int) - 1))).f0, (rd_T86 l0 (wrap64 ((l0.length : Int) - 1))).f1⟩ : S86)) 0) else (none)) else (none)))) else (none)) else (none)
theorem impl_next.mono_l : ∀ k, (∀ y0 y1 y2 y3, LeO (impl_next.l0 k y0 y1 y2 y3) (impl_next.l0 (k + 1) y0 y1 y2 y3)) ∧ (∀ y0 y1 y2 y3 y4 y5, LeO (impl_next.j1 k y0 y1 y2 y3 y4 y5) (impl_next.j1 (k + 1) y0 y1 y2 y3 y4 y5))
 | 0 => ⟨fun _ _ _ _ r h => by simp [impl_next.l0] at h, fun _ _ _ _ _ _ r h => by simp [impl_next.j1] at h⟩
 | k + 1 => by
  obtain ⟨ih0, ih1⟩ := impl_next.mono_l k
  refine ⟨?_, ?_⟩
  ·intro y0 y1 y2 y3
   unfold impl_next.l0
   repeat' first
   | (with_reducible exact ih0 _ _ _ _)
   | (with_reducible exact ih1 _ _ _ _ _ _)
   | (with_reducible exact LeO.refl _)
   | (with_reducible exact LeO.none _)
   | (with_reducible refine LeO.ite ?_ ?_)
   | (with_reducible refine LeO.bind ?_ (fun _ => ?_))
   | exact ih0 _ _ _ _
   | exact ih1 _ _ _ _ _ _
   | exact LeO.none _
   | refine LeO.ite ?_ ?_
   | refine LeO.bind ?_ (fun _ => ?_)
  ·intro y0 y1 y2 y3 y4 y5
   unfold impl_next.j1
   repeat' first
   | (with_reducible exact ih0 _ _ _ _)
   | (with_reducible exact ih1 _ _ _ _ _ _)
   | (with_reducible exact LeO.refl _)
   | (with_reducible exact LeO.none _)
   | (with_reducible refine LeO.ite ?_ ?_)
   | (with_reducible refine LeO.bind ?_ (fun _ => ?_))
   | exact ih0 _ _ _ _
   | exact ih1 _ _ _ _ _ _
   | exact LeO.none _
   | refine LeO.ite ?_ ?_
   | refine LeO.bind ?_ (fun _ => ?_)
theorem impl_next.mono : ∀ a0 k, LeO (impl_next.f k a0) (impl_next.f (k + 1) a0) := by
 intro a0 k
 obtain ⟨ih0, ih1⟩ := impl_next.mono_l k
 unfold impl_next.f
 repeat' first
   | (with_reducible exact ih0 _ _ _ _)
   | (with_reducible exact ih1 _ _ _ _ _ _)
   | (with_reducible exact LeO.refl _)
   | (with_reducible exact LeO.none _)
   | (with_reducible refine LeO.ite ?_ ?_)
   | (with_reducible refine LeO.bind ?_ (fun _ => ?_))
   | exact ih0 _ _ _ _
   | exact ih1 _ _ _ _ _ _
   | exact LeO.none _
   | refine LeO.ite ?_ ?_
   | refine LeO.bind ?_ (fun _ => ?_)
def impl_next.T9 : Bool × List (List Nat × List Nat) := (true, [([], []), ([0], [0]), ([], []), ([1, 2], [1, 2]), ([3], [3]), ([4], [4]), ([4], [4]), ([6, 4], [4, 6]), ([5, 7, 4], [4, 5, 7]), ([8, 4], [4, 8]), ([4], [4]), ([4], [4]), ([10, 11, 4], [4, 10, 11]), ([12, 4], [4, 12]), ([9, 13, 4, 4], [4, 9, 13]), ([4, 14], [4, 14])])
def impl_next.B9 : List Nat := [0, 1, 0, 7, 15, 31, 31, 95, 255, 511, 31, 31, 3103, 7199, 16383, 32767]
theorem impl_next.tab9 : rtab .any (opsOf Try.f137 9) = impl_next.T9 := by kernel_rfl
theorem impl_next.bits9 : waitsOk impl_next.T9.2 impl_next.B9 = true := by kernel_rfl
def impl_next.T11 : Bool × List (List Nat × List Nat) := (true, [([], []), ([], []), ([0, 1], [0, 1]), ([2], [2]), ([], []), ([], []), ([4, 5], [4, 5]), ([6], [6]), ([3, 7], [3, 7]), ([8], [8])])
def impl_next.B11 : List Nat := [0, 0, 3, 7, 0, 0, 48, 112, 255, 511]
theorem impl_next.tab11 : rtab .any (opsOf Try.f137 11) = impl_next.T11 := by kernel_rfl
theorem impl_next.bits11 : waitsOk impl_next.T11.2 impl_next.B11 = true := by kernel_rfl
def impl_next.T12 : Bool × List (List Nat × List Nat) := (true, [([], []), ([], []), ([], []), ([], []), ([], []), ([], []), ([4, 5], [4, 5]), ([6], [6]), ([], []), ([], []), ([8, 9], [8, 9]), ([10], [10]), ([0, 1, 0, 1, 4, 5, 6, 7, 11], [0, 1]), ([12, 7, 0, 1, 4, 5, 6, 7, 11], [7, 12]), ([2, 3, 0, 1, 2, 3, 4, 5, 6, 7, 8, 9, 10, 11, 12, 13], [2, 3]), ([14, 11, 13, 0, 1, 2, 3, 4, 5, 6, 7, 8, 9, 10, 11, 12, 13], [11, 14])])
def impl_next.B12 : List Nat := [0, 0, 0, 0, 0, 0, 48, 112, 0, 0, 768, 1792, 4083, 8179, 16383, 32767]
theorem impl_next.tab12 : rtab .any (opsOf Try.f137 12) = impl_next.T12 := by kernel_rfl
theorem impl_next.bits12 : waitsOk impl_next.T12.2 impl_next.B12 = true := by kernel_rfl
set_option maxHeartbeats 8000000 in
set_option maxRecDepth 100000 in
theorem impl_next.calls (k : Nat) (A0 : Option Addr) (c0 : Nat) (l0 : List (S86)) (r1 : Int) (r2 : ByteArray) (r3 : List (S86)) (w : World) (hr0 : Kd.C k86 w A0 l0.length l0) (hc0 : l0.length ≤ c0) (h : impl_next.f k l0 = some (r1, r2, r3)) :
  Calls Try.prog 137 #[.slice A0 l0.length c0] w fun e w' => ∃ v2_ : Value, e = .returned (.tuple #[.agg #[.int .i64 r1, .string r2], v2_]) ∧ Kd.R k86 86 w' w.heap.size (fun _ => True) v2_ r3 ∧ Below w.heap.size w w' := by
 have hu86 := Try.underlying86
 have HR0 := Aside0.mk hr0
 have HC0 := Aside0.mk hc0
 clear hr0 hc0
 have HB := Aside0.mk (Below.refl w.heap.size w)
 have H : (if 0 ≤ (wrap64 ((l0.length : Int) - 1)) then (if (wrap64 ((l0.length : Int) - 1)) ≤ (l0.length : Int) then ((impl_Offer.f (l0.take ((wrap64 ((l0.length : Int) - 1)) : Int).toNat)).bind fun t179 => (if (wrap64 ((l0.length : Int) - 1)) = 0 then (if 0 < (l0.length : Int) then (some ((rd_T86 l0 0).f0, (rd_T86 l0 0).f1, t179)) else (none)) else (if (wrap64 ((l0.length : Int) - 1)) < (l0.length : Int) then (if 0 < (t179.length : Int) then (impl_next.l0 k l0 (wrap64 ((l0.length : Int) - 1)) (t179.set (0 : Int).toNat (⟨(rd_T86 l0 (wrap64 ((l0.length : Int) - 1))).f0, (rd_T86 l0 (wrap64 ((l0.length : Int) - 1))).f1⟩ : S86)) 0) else (none)) else (none)))) else (none)) else (none)) = some (r1, r2, r3) := h
 clear h
 obtain ⟨ji2, hji2⟩ : ∃ j_ : Int, (wrap64 ((l0.length : Int) - 1)) = j_ := ⟨_, rfl⟩
 replace H : (if 0 ≤ (ji2) then (if (ji2) ≤ (l0.length : Int) then ((impl_Offer.f (l0.take ((ji2) : Int).toNat)).bind fun t179 => (if (ji2) = 0 then (if 0 < (l0.length : Int) then (some ((rd_T86 l0 0).f0, (rd_T86 l0 0).f1, t179)) else (none)) else (if (ji2) < (l0.length : Int) then (if 0 < (t179.length : Int) then (impl_next.l0 k l0 ji2 (t179.set (0 : Int).toNat (⟨(rd_T86 l0 (ji2)).f0, (rd_T86 l0 (ji2)).f1⟩ : S86)) 0) else (none)) else (none)))) else (none)) else (none)) = some (r1, r2, r3) := by first | (rw [hji2] at H; exact H) | (simp only [hji2] at H ⊢; exact H)
 have hji2w : (IntKind.i64.wrap ((l0.length : Int) - 1)) = ji2 := (i64_w _).trans hji2
 by_cases c3 : 0 ≤ (ji2)
 ·rw [if_pos c3] at H
  have c3b0 := eq_true c3
  have c3b1 : decide (0 ≤ (ji2)) = true := decide_eq_true c3
  clear c3
  by_cases c4 : (ji2) ≤ (l0.length : Int)
  ·rw [if_pos c4] at H
   have c4b0 := eq_true c4
   have c4b1 : decide ((ji2) ≤ (l0.length : Int)) = true := decide_eq_true c4
   clear c4
   obtain ⟨y175, hy175⟩ : ∃ y_ : List (S86), y_ = (l0.take ((ji2) : Int).toNat) := ⟨_, rfl⟩
   replace H : ((impl_Offer.f y175).bind fun t179 => (if (ji2) = 0 then (if 0 < (l0.length : Int) then (some ((rd_T86 l0 0).f0, (rd_T86 l0 0).f1, t179)) else (none)) else (if (ji2) < (l0.length : Int) then (if 0 < (t179.length : Int) then (impl_next.l0 k l0 ji2 (t179.set (0 : Int).toNat (⟨(rd_T86 l0 (ji2)).f0, (rd_T86 l0 (ji2)).f1⟩ : S86)) 0) else (none)) else (none)))) = some (r1, r2, r3) := by first | (rw [hy175]; with_reducible exact H) | (have H2_ := (Option.bind_some _ _).symm.trans H; rw [hy175]; with_reducible exact H2_) | (have H2_ := (Option.bind_some _ _).symm.trans H; with_reducible exact H2_) | with_reducible exact H | (rw [hy175]; exact H) | exact H
   have Ny175 := Aside0.mk hy175
   clear hy175
   replace H := Option.bind_eq_some_iff.mp H
   obtain ⟨t179, A50, H⟩ := H
   replace H : (if (ji2) = 0 then (if 0 < (l0.length : Int) then (some ((rd_T86 l0 0).f0, (rd_T86 l0 0).f1, t179)) else (none)) else (if (ji2) < (l0.length : Int) then (if 0 < (t179.length : Int) then (impl_next.l0 k l0 ji2 (t179.set (0 : Int).toNat (⟨(rd_T86 l0 (ji2)).f0, (rd_T86 l0 (ji2)).f1⟩ : S86)) 0) else (none)) else (none))) = some (r1, r2, r3) := H
   have A5 := Aside0.mk A50
   clear A50
   by_cases c6 : (ji2) = 0
   ·rw [if_pos c6] at H
    have c6b0 : ((ji2) == 0) = true := beq_iff_eq.mpr c6
    have c6b1 : ((ji2) != 0) = false := bne_eq_false_iff_eq.mpr c6
    clear c6
    by_cases c7 : 0 < (l0.length : Int)
    ·rw [if_pos c7] at H
     have c7b0 : decide (0 < (l0.length : Int)) = true := decide_eq_true c7
     have c7b1 : decide (0 < l0.length) = true := decide_eq_true (by omega)
     clear c7
     simp only [Option.some.injEq, Prod.mk.injEq] at H
     obtain ⟨rfl, rfl, rfl⟩ := H
     go_enter Try.func137, Try.ntmps137
     go_wp2_with (first | ((with_reducible refine gate_dst (N := 2) rfl ?_); refine box_event ?hg (N := 2) ?hd (cs := #[.int .i64 0, .string (⟨#[]⟩ : ByteArray)]) (t := 86) ?hr ?_; (case hd => rfl); (case hg => rfl); (case hr => first | (go_simp; done) | (go_simp; rfl)); intro gb174 hg w8 hbox hb; have n0_ := Aside0.mk (below_step (by repeat (first | (with_reducible first | exact HB.out | apply below_alloc | apply pw_below_drewN | apply below_drew1) | exact HB.out)) hb); have n1_ := Aside0.mk (hbox); have n2_ := Aside0.mk ((by rw [hg]; exact (below_size (by repeat (first | (with_reducible first | exact HB.out | apply below_alloc | apply pw_below_drewN | apply below_drew1) | exact HB.out))) : w.heap.size ≤ gb174)); have n3_ := Aside0.mk ((by rw [hg]; exact (below_size (by repeat (first | (with_reducible first | exact HB.out | apply below_alloc | apply pw_below_drewN | apply below_drew1) | exact HB.out))) : w.heap.size ≤ gb174)); clear HB; have HB := n0_; have BK174 := n1_; have GW174 := n2_; have GE174 := n3_; clear n0_ n1_ n2_ n3_; clear hb hbox hg; have q9 : ((ji2) : Int) ≤ ((l0.length : Int) : Int) := of_decide_eq_true (by first | (with_reducible assumption) | assumption); obtain ⟨i09, hi09, _, hsz9, _⟩ := info_parts info86; have hroom9 : l0.length ≤ c0 := HC0.out; have hC9 : Kd.C k86 _ A0 l0.length l0 := HR0.out; have hcut9 := cut_to (P := Try.prog) 26 86 .i64 Try.underlying26 hi09 A0 l0.length c0 (ji2) (of_decide_eq_true (by first | (with_reducible assumption) | assumption)) q9 hroom9; have hr9 := Kd.C_take (m := ((ji2) : Int).toNat) hC9 (by omega); have hy9 : y175.length = ((ji2) : Int).toNat := (by rw [Ny175.out, List.length_take]; omega); rw [← Ny175.out] at hr9; rw [← hy9] at hcut9; have HR178 := Aside0.mk hr9; have HC178 := Aside0.mk (show y175.length ≤ c0 from by omega); clear hr9 hC9 hroom9 hi09 hsz9; have KY9 := Aside0.mk hy9; clear hy9; replace q9 := eq_true q9) | ((with_reducible refine gate_callee (f := 134) rfl ?_); refine goesL_ (some 14) rfl rfl Try.func134 (by kernel_rfl) rfl #[.slice A0 y175.length c0] rfl (by (try simp only [List.map_toArray, List.map_cons, List.map_nil]); first | done | rfl | (simp only [List.length_drop, List.length_take]; rfl)) ?_; (with_reducible refine (impl_Offer.calls _ _ y175 t179 _ ?side1 ?side2 A5.out).mono ?_); (case side1 => repeat (first | exact (Kd.C_below HR178.out HB.out) | (with_reducible refine Kd.C_alloc ?_ _) | (with_reducible refine Kd.C_drewN ?_ _) | (with_reducible refine Kd.C_drew ?_))); (case side2 => exact HC178.out); rintro e w10 ⟨v180, rfl, ho0, hb⟩; refine ⟨_, rfl, ?_⟩; have n0_ := Aside0.mk (Kd.R_lower (Kd.R_newB ho0 (g := gb174) (o := .cells #[.int .i64 0, .string (⟨#[]⟩ : ByteArray)] 86 (0, 0)) (by (with_reducible repeat (first | refine blk_drewN ?_ _ | refine blk_drew ?_ | refine blk_alloc ?_ _)); exact BK174.out)) (below_size (by repeat (first | (with_reducible first | exact HB.out | apply below_alloc | apply pw_below_drewN | apply below_drew1 | refine below_set ?_ GE174.out) | exact HB.out)))); have n1_ := Aside0.mk (blk_below (g := gb174) (o := .cells #[.int .i64 0, .string (⟨#[]⟩ : ByteArray)] 86 (0, 0)) (by (with_reducible repeat (first | refine blk_drewN ?_ _ | refine blk_drew ?_ | refine blk_alloc ?_ _)); exact BK174.out) hb); have n2_ := Aside0.mk (below_step (by repeat (first | (with_reducible first | exact HB.out | apply below_alloc | apply pw_below_drewN | apply below_drew1 | refine below_set ?_ GE174.out) | exact HB.out)) hb); clear BK174; clear HB; have HO181 := n0_; have BK174 := n1_; have HB := n2_; clear n0_ n1_ n2_; (try clear hb); (try clear hb2); (try clear hk); (try clear hi); (try clear ho0); have p182 : 0 ≤ (0 : Int) := (by omega); have q182 : 0 < (l0.length : Int) := of_decide_eq_true (by first | (with_reducible assumption) | assumption); obtain ⟨ad182, e182, hx182_0, hx182_1⟩ := at_T86 HR0.out 0 p182 q182; cases e182; have qi182 : (0 < l0.length) = True := eq_true (by omega); (try rw [show ((0 : Int)).toNat = 0 from rfl] at hx182_0); (try rw [show 0 * 2 = 0 from rfl] at hx182_0); (try rw [Addr.add_zero'] at hx182_0); (try rw [show ((0 : Int)).toNat = 0 from rfl] at hx182_1); (try rw [show 0 * 2 = 0 from rfl] at hx182_1); (try rw [Addr.add_zero'] at hx182_1); replace hx182_0 := (HB.out.cell (World.block_lt_of_cell? w _ hx182_0)).trans hx182_0; replace hx182_1 := (HB.out.cell (World.block_lt_of_cell? w _ hx182_1)).trans hx182_1; replace p182 := eq_true p182; replace q182 := eq_true q182; have hcz11_0 : w10.cell? ⟨gb174, 0, none⟩ = some (.int .i64 0) := (blk_cell BK174.out 0).trans rfl; have hcz11_1 : w10.cell? ⟨gb174, 1, none⟩ = some (.string (⟨#[]⟩ : ByteArray)) := (blk_cell BK174.out 1).trans rfl; have hfz11_0 := blk_frozen BK174.out 0; have hfz11_1 := blk_frozen BK174.out 1))
     refine bodyPost_ret (results_ct rfl _ _ gb174 86 #[.int .i64 ((rd_T86 l0 0).f0), .string ((rd_T86 l0 0).f1)] (0, 0) _ rfl (by (with_reducible repeat (first | refine blk_drewN ?_ _ | refine blk_drew ?_ | refine blk_alloc ?_ _)); refine blk_put (cs := #[.int .i64 ((rd_T86 l0 0).f0), .string (⟨#[]⟩ : ByteArray)]) ?_ 1 _ rfl; (with_reducible repeat (first | refine blk_drewN ?_ _ | refine blk_drew ?_ | refine blk_alloc ?_ _)); refine blk_put (cs := #[.int .i64 0, .string (⟨#[]⟩ : ByteArray)]) ?_ 0 _ rfl; (with_reducible repeat (first | refine blk_drewN ?_ _ | refine blk_drew ?_ | refine blk_alloc ?_ _)); exact BK174.out) Try.underlying86 rfl (by kernel_rfl)) rfl ?_
     exact ⟨_, by first | rfl | (simp [errW_none, errW_some] <;> rfl) | (simp only [← hji2]; first | rfl | (simp [errW_none, errW_some] <;> rfl)) | (simp [*, errW_none, errW_some] <;> rfl), by (with_reducible repeat (first | apply Kd.R_alloc | apply Kd.R_drewN | apply Kd.R_drew)); exact Kd.R_mono (Kd.R_far (p := ⟨gb174, 1, none⟩) (Kd.R_far (p := ⟨gb174, 0, none⟩) (Kd.R_mono HO181.out (fun k_ hk => (⟨hk, hk.2⟩ : _ ∧ k_ ≠ gb174))) (fun _ hk => hk.2) (.int .i64 ((rd_T86 l0 0).f0))) (fun _ hk => hk.2) (.string ((rd_T86 l0 0).f1))) (fun _ hk => trivial), by repeat (first | (with_reducible first | exact HB.out | apply below_alloc | apply pw_below_drewN | apply below_drew1 | refine below_set ?_ GE174.out) | exact HB.out)⟩
    ·rw [if_neg c7] at H
     exact absurd H (by simp)
   ·rw [if_neg c6] at H
    have c6b0 : ((ji2) == 0) = false := beq_eq_false_iff_ne.mpr c6
    have c6b1 : ((ji2) != 0) = true := bne_iff_ne.mpr c6
    by_cases c12 : (ji2) < (l0.length : Int)
    ·rw [if_pos c12] at H
     have c12b0 : decide ((ji2) < (l0.length : Int)) = true := decide_eq_true c12
     clear c12
     by_cases c13 : 0 < (t179.length : Int)
     ·rw [if_pos c13] at H
      have c13b0 : decide (0 < (t179.length : Int)) = true := decide_eq_true c13
      have c13b1 : decide (0 < t179.length) = true := decide_eq_true (by omega)
      clear c13
      obtain ⟨y184, hy184⟩ : ∃ y_ : List (S86), y_ = (t179.set (0 : Int).toNat (⟨(rd_T86 l0 (ji2)).f0, (rd_T86 l0 (ji2)).f1⟩ : S86)) := ⟨_, rfl⟩
      replace H : (impl_next.l0 k l0 ji2 y184 0) = some (r1, r2, r3) := by first | (rw [hy184]; with_reducible exact H) | (have H2_ := (Option.bind_some _ _).symm.trans H; rw [hy184]; with_reducible exact H2_) | (have H2_ := (Option.bind_some _ _).symm.trans H; with_reducible exact H2_) | with_reducible exact H | (rw [hy184]; exact H) | exact H
      have Ny184 := Aside0.mk hy184
      clear hy184
      have H' := Aside0.mk H
      clear H
      go_enter Try.func137, Try.ntmps137
      go_wp2_with (first | ((with_reducible refine gate_dst (N := 2) rfl ?_); refine box_event ?hg (N := 2) ?hd (cs := #[.int .i64 0, .string (⟨#[]⟩ : ByteArray)]) (t := 86) ?hr ?_; (case hd => rfl); (case hg => rfl); (case hr => first | (go_simp; done) | (go_simp; rfl)); intro gb174 hg w15 hbox hb; have n0_ := Aside0.mk (below_step (by repeat (first | (with_reducible first | exact HB.out | apply below_alloc | apply pw_below_drewN | apply below_drew1) | exact HB.out)) hb); have n1_ := Aside0.mk (hbox); have n2_ := Aside0.mk ((by rw [hg]; exact (below_size (by repeat (first | (with_reducible first | exact HB.out | apply below_alloc | apply pw_below_drewN | apply below_drew1) | exact HB.out))) : w.heap.size ≤ gb174)); have n3_ := Aside0.mk ((by rw [hg]; exact (below_size (by repeat (first | (with_reducible first | exact HB.out | apply below_alloc | apply pw_below_drewN | apply below_drew1) | exact HB.out))) : w.heap.size ≤ gb174)); clear HB; have HB := n0_; have BK174 := n1_; have GW174 := n2_; have GE174 := n3_; clear n0_ n1_ n2_ n3_; clear hb hbox hg; have q16 : ((ji2) : Int) ≤ ((l0.length : Int) : Int) := of_decide_eq_true (by first | (with_reducible assumption) | assumption); obtain ⟨i016, hi016, _, hsz16, _⟩ := info_parts info86; have hroom16 : l0.length ≤ c0 := HC0.out; have hC16 : Kd.C k86 _ A0 l0.length l0 := HR0.out; have hcut16 := cut_to (P := Try.prog) 26 86 .i64 Try.underlying26 hi016 A0 l0.length c0 (ji2) (of_decide_eq_true (by first | (with_reducible assumption) | assumption)) q16 hroom16; have hr16 := Kd.C_take (m := ((ji2) : Int).toNat) hC16 (by omega); have hy16 : y175.length = ((ji2) : Int).toNat := (by rw [Ny175.out, List.length_take]; omega); rw [← Ny175.out] at hr16; rw [← hy16] at hcut16; have HR178 := Aside0.mk hr16; have HC178 := Aside0.mk (show y175.length ≤ c0 from by omega); clear hr16 hC16 hroom16 hi016 hsz16; have KY16 := Aside0.mk hy16; clear hy16; replace q16 := eq_true q16) | ((with_reducible refine gate_callee (f := 134) rfl ?_); refine goesL_ (some 14) rfl rfl Try.func134 (by kernel_rfl) rfl #[.slice A0 y175.length c0] rfl (by (try simp only [List.map_toArray, List.map_cons, List.map_nil]); first | done | rfl | (simp only [List.length_drop, List.length_take]; rfl)) ?_; (with_reducible refine (impl_Offer.calls _ _ y175 t179 _ ?side1 ?side2 A5.out).mono ?_); (case side1 => repeat (first | exact (Kd.C_below HR178.out HB.out) | (with_reducible refine Kd.C_alloc ?_ _) | (with_reducible refine Kd.C_drewN ?_ _) | (with_reducible refine Kd.C_drew ?_))); (case side2 => exact HC178.out); rintro e w17 ⟨v180, rfl, ho0, hb⟩; refine ⟨_, rfl, ?_⟩; have n0_ := Aside0.mk (Kd.R_lower (Kd.R_newB ho0 (g := gb174) (o := .cells #[.int .i64 0, .string (⟨#[]⟩ : ByteArray)] 86 (0, 0)) (by (with_reducible repeat (first | refine blk_drewN ?_ _ | refine blk_drew ?_ | refine blk_alloc ?_ _)); exact BK174.out)) (below_size (by repeat (first | (with_reducible first | exact HB.out | apply below_alloc | apply pw_below_drewN | apply below_drew1 | refine below_set ?_ GE174.out) | exact HB.out)))); have n1_ := Aside0.mk (blk_below (g := gb174) (o := .cells #[.int .i64 0, .string (⟨#[]⟩ : ByteArray)] 86 (0, 0)) (by (with_reducible repeat (first | refine blk_drewN ?_ _ | refine blk_drew ?_ | refine blk_alloc ?_ _)); exact BK174.out) hb); have n2_ := Aside0.mk (below_step (by repeat (first | (with_reducible first | exact HB.out | apply below_alloc | apply pw_below_drewN | apply below_drew1 | refine below_set ?_ GE174.out) | exact HB.out)) hb); clear BK174; clear HB; have HO181 := n0_; have BK174 := n1_; have HB := n2_; clear n0_ n1_ n2_; (try clear hb); (try clear hb2); (try clear hk); (try clear hi); (try clear ho0); have p183 : 0 ≤ ((ji2) : Int) := of_decide_eq_true (by first | (with_reducible assumption) | assumption); have q183 : (ji2) < (l0.length : Int) := of_decide_eq_true (by first | (with_reducible assumption) | assumption); obtain ⟨ad183, e183, hx183_0, hx183_1⟩ := at_T86 HR0.out (ji2) p183 q183; cases e183; replace hx183_0 := (HB.out.cell (World.block_lt_of_cell? w _ hx183_0)).trans hx183_0; replace hx183_1 := (HB.out.cell (World.block_lt_of_cell? w _ hx183_1)).trans hx183_1; replace p183 := eq_true p183; replace q183 := eq_true q183; have p14 : 0 ≤ (0 : Int) := (by omega); have q14 : (0 : Int) < ((t179.length : Int) : Int) := of_decide_eq_true (by first | (with_reducible assumption) | assumption); have qi14 : (0 < t179.length) = True := eq_true (by omega); obtain ⟨go14, co14, eo14, gb14, gl14, cl14, HG14⟩ := Kd.R_form HO181.out (by omega); (first | cases eo14 | (injection eo14 with ea_ en_ ec_; (first | subst ea_ | (injection ea_ with ea_; subst ea_)); subst ec_; clear en_)); have GB14 := Aside0.mk gb14; have GG14 := Aside0.mk HG14; clear gb14 gl14 HG14; obtain ⟨ce14, hcl14, hM14, hcc14, hfr14⟩ := Kd.R_elem HO181.out z86 (0 : Int) p14 q14; obtain rfl := k86_openM hM14; have hx14_0 : w17.cell? ⟨go14, (0 : Int).toNat * 2, none⟩ = some (.int .i64 ((rd_T86 t179 0).f0)) := hcc14 0 _ rfl; have hx14_1 : w17.cell? ⟨go14, (0 : Int).toNat * 2 + 1, none⟩ = some (.string ((rd_T86 t179 0).f1)) := hcc14 1 _ rfl; have hf14_0 : w17.frozen? ⟨go14, (0 : Int).toNat * 2, none⟩ = false := hfr14 0; have hf14_1 : w17.frozen? ⟨go14, (0 : Int).toNat * 2 + 1, none⟩ = false := hfr14 1; clear hcl14 hcc14 hfr14 hM14; (try rw [show ((0 : Int)).toNat = 0 from rfl] at hx14_0); (try simp only [Nat.reduceMul, Nat.zero_mul, Nat.zero_add, Nat.reduceAdd] at hx14_0); (try rw [show ((0 : Int)).toNat = 0 from rfl] at hf14_0); (try simp only [Nat.reduceMul, Nat.zero_mul, Nat.zero_add, Nat.reduceAdd] at hf14_0); (try rw [show ((0 : Int)).toNat = 0 from rfl] at hx14_1); (try simp only [Nat.reduceMul, Nat.zero_mul, Nat.zero_add, Nat.reduceAdd] at hx14_1); (try rw [show ((0 : Int)).toNat = 0 from rfl] at hf14_1); (try simp only [Nat.reduceMul, Nat.zero_mul, Nat.zero_add, Nat.reduceAdd] at hf14_1); replace p14 := eq_true p14; replace q14 := eq_true q14; have n_ := Aside0.mk (Kd.R_mono (ok' := (fun k_ => k_ ≠ gb174)) HO181.out (fun k_ hk => hk.2)); clear HO181; have HO181 := n_; clear n_; have HX18 := Aside0.mk (show Kd.R k86 86 w17 w.heap.size (fun k_ => k_ ≠ gb174) (.slice (some ⟨go14, 0, none⟩) t179.length co14) t179 from (by (with_reducible repeat (first | apply Kd.R_alloc | apply Kd.R_drewN | apply Kd.R_drew)); exact HO181.out)); obtain ⟨ce18, hcl18, hM18, hcc18, hfr18⟩ := Kd.R_elem HX18.out z86 (0 : Int) (by omega) (by have h_ : (0 : Int) < ((t179.length : Int) : Int) := of_decide_eq_true (by first | (with_reducible assumption) | assumption); first | exact h_ | (have e_ := (Kd.R_reads' HO181.out).1; omega) | simpa using h_); obtain rfl := k86_openM hM18; have HP18 := Kd.R_seg HX18.out (0 : Int) (by omega) (by have h_ : (0 : Int) < ((t179.length : Int) : Int) := of_decide_eq_true (by first | (with_reducible assumption) | assumption); first | exact h_ | (have e_ := (Kd.R_reads' HO181.out).1; omega) | simpa using h_) (seg := [.int .i64 ((rd_T86 l0 (ji2)).f0), .string ((rd_T86 l0 (ji2)).f1)]) (j := 0) hcl18 hcc18 (show 2 ≤ 2 from by decide) (x' := (⟨(rd_T86 l0 (ji2)).f0, (rd_T86 l0 (ji2)).f1⟩ : S86)) (k86_mkM _ _ _ (⟨(rd_T86 l0 (ji2)).f0, (rd_T86 l0 (ji2)).f1⟩ : S86) ) (fun _ hk => hk); have hx18_0 := hcc18 0 _ rfl; (try simp only [show (k86).sz = 2 from rfl, Nat.mul_one, Nat.add_zero] at hx18_0); (try rw [show ((0 : Int)).toNat = 0 from rfl] at hx18_0); (try simp only [Nat.reduceMul, Nat.zero_mul, Nat.zero_add, Nat.reduceAdd] at hx18_0); have hf18_0 := hfr18 0; (try simp only [show (k86).sz = 2 from rfl, Nat.mul_one, Nat.add_zero] at hf18_0); (try rw [show ((0 : Int)).toNat = 0 from rfl] at hf18_0); (try simp only [Nat.reduceMul, Nat.zero_mul, Nat.zero_add, Nat.reduceAdd] at hf18_0); have hx18_1 := hcc18 1 _ rfl; (try simp only [show (k86).sz = 2 from rfl, Nat.mul_one, Nat.add_zero] at hx18_1); (try rw [show ((0 : Int)).toNat = 0 from rfl] at hx18_1); (try simp only [Nat.reduceMul, Nat.zero_mul, Nat.zero_add, Nat.reduceAdd] at hx18_1); have hf18_1 := hfr18 1; (try simp only [show (k86).sz = 2 from rfl, Nat.mul_one, Nat.add_zero] at hf18_1); (try rw [show ((0 : Int)).toNat = 0 from rfl] at hf18_1); (try simp only [Nat.reduceMul, Nat.zero_mul, Nat.zero_add, Nat.reduceAdd] at hf18_1); clear hcl18 hcc18 hfr18 hM18) | ((with_reducible refine gate_store (t := 86) (p := 26) rfl ?_); refine store_event (t := 86) (p := 26) (v := ?vo_w19) (w1 := ((w17.setCell ⟨go14, 0, none⟩ (.int .i64 ((rd_T86 l0 (ji2)).f0))).setCell ⟨go14, 1, none⟩ (.string ((rd_T86 l0 (ji2)).f1)))) ?hg ?ho ?hn ?hr ?_; (case ho => rfl); (case hg => rfl); (case hn => rfl); (case hr => first | (go_simp; done) | (go_simp; rfl)); intro w19 hw; have hg : w17.grownBy w19 (some go14) := (by rw [hw]; exact HP18.2); have hp_ : Kd.R k86 86 w19 w.heap.size (fun k_ => k_ ≠ gb174) (.slice (some ⟨go14, 0, none⟩) t179.length co14) y184 := (by rw [hw, Ny184.out]; exact HP18.1); clear HP18; have n0_ := Aside0.mk (blk_grown (g := gb174) (o := .cells #[.int .i64 0, .string (⟨#[]⟩ : ByteArray)] 86 (0, 0)) (by (with_reducible repeat (first | refine blk_drewN ?_ _ | refine blk_drew ?_ | refine blk_alloc ?_ _)); exact BK174.out) hg (Kd.R_away HO181.out (fun _ hk => hk))); have n1_ := Aside0.mk (hp_); have n2_ := Aside0.mk ((by rw [hw]; exact below_set (below_set (HB.out) GB14.out) GB14.out : Below w.heap.size w w19)); clear BK174; clear HO181; clear HB; have BK174 := n0_; have HO181 := n1_; have HB := n2_; clear n0_ n1_ n2_; clear hg hw hp_))
      go_loopg [6] k (fun kq v6 w' => ∃ (x5_1 : List (S86)) (x6_1 : Int) (x175000_1 : Int) (x175001_1 : ByteArray), v6 = .int .i64 x6_1 ∧ Aside0 (impl_next.l0 kq l0 ji2 x5_1 x6_1 = some (r1, r2, r3)) ∧ Aside0 (kq ≤ k) ∧ Aside0 (Kd.R k86 86 w' w.heap.size (fun k_ => k_ ≠ gb174) (.slice (some ⟨go14, 0, none⟩) t179.length co14) x5_1) ∧ Aside0 (w'.heap[gb174]? = some (.cells #[.int .i64 x175000_1, .string x175001_1] 86 (0, 0))) ∧ Aside0 (Below w.heap.size w w'))
      case atStart => exact ⟨(y184), (0), (0), ((⟨#[]⟩ : ByteArray)), (by first | rfl | (simp; done) | (simp [*]; done)), H', ⟨Nat.le_refl _⟩, ⟨by (with_reducible repeat (first | apply Kd.R_alloc | apply Kd.R_drewN | apply Kd.R_drew)); exact HO181.out⟩, ⟨by (with_reducible repeat (first | refine blk_drewN ?_ _ | refine blk_drew ?_ | refine blk_alloc ?_ _)); exact BK174.out⟩, ⟨by repeat (first | (with_reducible first | exact HB.out | apply below_alloc | apply pw_below_drewN | apply below_drew1 | refine below_set ?_ GE174.out) | exact HB.out)⟩⟩
      case round =>
       clear H'
       try clear c1
       try clear p1
       try clear q1
       try clear hx1
       try clear qi1
       try clear hf1
       try clear p2
       try clear c3
       try clear c3b0
       try clear c3b1
       try clear c4
       try clear c4b0
       try clear c4b1
       try clear c6
       try clear c6b0
       try clear c6b1
       try clear p6
       try clear c7
       try clear c7b0
       try clear c7b1
       try clear q9
       try clear c12
       try clear c12b0
       try clear c13
       try clear c13b0
       try clear c13b1
       try clear c14
       try clear p14
       try clear q14
       try clear hx14
       try clear qi14
       try clear hf14
       try clear q16
       try clear c18
       try clear p18
       try clear q18
       try clear hx18
       try clear qi18
       try clear hf18
       try clear hcz11_0
       try clear hcz11_1
       try clear hfz11_0
       try clear hfz11_1
       try clear hx14_0
       try clear hx14_1
       try clear hx182_0
       try clear hx182_1
       try clear hx183_0
       try clear hx183_1
       try clear hx18_0
       try clear hx18_1
       try clear p14
       try clear p182
       try clear p183
       try clear q14
       try clear q16
       try clear q182
       try clear q183
       try clear q9
       obtain ⟨x5_1, x6_1, x175000_1, x175001_1, rfl, HA, HK1, HO_5, BK174, HB⟩ := hrel
       have hl5_1 := (Kd.R_reads' HO_5.out).1
       rw [hl5_1] at HO_5
       (try simp only [hl5_1])
       (try simp only [hl5_1] at BK174)
       cases gk with
       | zero => exact absurd HA.out (by simp [impl_next.l0])
       | succ k1 =>
        have H := HA.out
        clear HA
        simp only [impl_next.l0] at H
        by_cases c20 : (wrap64 ((wrap64 (2 * x6_1)) + 1)) < ji2
        ·rw [if_pos c20] at H
         have c20b0 : decide ((wrap64 ((wrap64 (2 * x6_1)) + 1)) < ji2) = true := decide_eq_true c20
         clear c20
         have HC21 := Aside0.mk H
         clear H
         go_upto_region 9 with (fail)
         go_cut [50] (fun v50 wc => ∃ (kq : Nat) (x50_20 : Bool), v50 = .bool x50_20 ∧ Aside0 (impl_next.j1 kq l0 ji2 x5_1 x6_1 (wrap64 ((wrap64 (2 * x6_1)) + 1)) x50_20 = some (r1, r2, r3)) ∧ Aside0 (kq ≤ k1) ∧ Aside0 (Kd.R k86 86 wc w.heap.size (fun k_ => k_ ≠ gb174) (.slice (some ⟨go14, 0, none⟩) x5_1.length co14) x5_1) ∧ Aside0 (wc.heap[gb174]? = some (.cells #[.int .i64 x175000_1, .string x175001_1] 86 (0, 0))) ∧ Aside0 (Below w.heap.size w wc))
         case first =>
          have H := HC21.out
          clear HC21
          by_cases c22 : (wrap64 ((wrap64 ((wrap64 (2 * x6_1)) + 1)) + 1)) < ji2
          ·rw [if_pos c22] at H
           have c22b0 : decide ((wrap64 ((wrap64 ((wrap64 (2 * x6_1)) + 1)) + 1)) < ji2) = true := decide_eq_true c22
           clear c22
           (first | rw [c22b0] | (simp only [i64_w, i32_w]; rw [c22b0]) | skip)
           obtain ⟨ji23, hji23⟩ : ∃ j_ : Int, (wrap64 ((wrap64 ((wrap64 (2 * x6_1)) + 1)) + 1)) = j_ := ⟨_, rfl⟩
           replace H : (if 0 ≤ (ji23) then (if (ji23) < (x5_1.length : Int) then (if 0 ≤ (wrap64 ((wrap64 (2 * x6_1)) + 1)) then (if (wrap64 ((wrap64 (2 * x6_1)) + 1)) < (x5_1.length : Int) then ((impl_Offer_ahead.f ((rd_T86 x5_1 (ji23)).f0) ((rd_T86 x5_1 (ji23)).f1) ((rd_T86 x5_1 (wrap64 ((wrap64 (2 * x6_1)) + 1))).f0) ((rd_T86 x5_1 (wrap64 ((wrap64 (2 * x6_1)) + 1))).f1)).bind fun t188 => (impl_next.j1 k1 l0 ji2 x5_1 x6_1 (wrap64 ((wrap64 (2 * x6_1)) + 1)) t188)) else (none)) else (none)) else (none)) else (none)) = some (r1, r2, r3) := by first | (rw [hji23] at H; exact H) | (simp only [hji23] at H ⊢; exact H)
           (try rw [hji23] at c22b0)
           have hji23w : (IntKind.i64.wrap ((wrap64 ((wrap64 (2 * x6_1)) + 1)) + 1)) = ji23 := (i64_w _).trans hji23
           by_cases c24 : 0 ≤ (ji23)
           ·rw [if_pos c24] at H
            have c24b0 : decide (0 ≤ (ji23)) = true := decide_eq_true c24
            clear c24
            by_cases c25 : (ji23) < (x5_1.length : Int)
            ·rw [if_pos c25] at H
             have c25b0 : decide ((ji23) < (x5_1.length : Int)) = true := decide_eq_true c25
             clear c25
             obtain ⟨ji26, hji26⟩ : ∃ j_ : Int, (wrap64 ((wrap64 (2 * x6_1)) + 1)) = j_ := ⟨_, rfl⟩
             replace H : (if 0 ≤ (ji26) then (if (ji26) < (x5_1.length : Int) then ((impl_Offer_ahead.f ((rd_T86 x5_1 (ji23)).f0) ((rd_T86 x5_1 (ji23)).f1) ((rd_T86 x5_1 (ji26)).f0) ((rd_T86 x5_1 (ji26)).f1)).bind fun t188 => (impl_next.j1 k1 l0 ji2 x5_1 x6_1 ji26 t188)) else (none)) else (none)) = some (r1, r2, r3) := by first | (rw [hji26] at H; exact H) | (simp only [hji26] at H ⊢; exact H)
             (try rw [hji26] at c20b0)
             (try rw [hji26] at c22b0)
             have hji26w : (IntKind.i64.wrap ((wrap64 (2 * x6_1)) + 1)) = ji26 := (i64_w _).trans hji26
             have hji23bji26 : (wrap64 (ji26 + 1)) = ji23 := by rw [← hji26]; exact hji23
             have hji23bji26w : (IntKind.i64.wrap (ji26 + 1)) = ji23 := (i64_w _).trans hji23bji26
             by_cases c27 : 0 ≤ (ji26)
             ·rw [if_pos c27] at H
              have c27b0 : decide (0 ≤ (ji26)) = true := decide_eq_true c27
              clear c27
              by_cases c28 : (ji26) < (x5_1.length : Int)
              ·rw [if_pos c28] at H
               have c28b0 : decide ((ji26) < (x5_1.length : Int)) = true := decide_eq_true c28
               clear c28
               replace H := Option.bind_eq_some_iff.mp H
               obtain ⟨t188, A290, H⟩ := H
               replace H : (impl_next.j1 k1 l0 ji2 x5_1 x6_1 ji26 t188) = some (r1, r2, r3) := H
               have A29 := Aside0.mk A290
               clear A290
               have H' := Aside0.mk H
               clear H
               try go_wp2
               have n0_ := Aside0.mk (Kd.R_drew HO_5.out)
               have n1_ := Aside0.mk (blk_drew BK174.out)
               have n2_ := Aside0.mk (below_drew1 HB.out)
               clear HO_5
               clear BK174
               clear HB
               have HO_5 := n0_
               have BK174 := n1_
               have HB := n2_
               clear n0_ n1_ n2_
               have p186 : 0 ≤ ((ji23) : Int) := of_decide_eq_true (by first | (with_reducible assumption) | assumption)
               have q186 : (ji23) < (x5_1.length : Int) := of_decide_eq_true (by first | (with_reducible assumption) | assumption)
               obtain ⟨ad186, e186, hx186_0, hx186_1⟩ := at_T86 (Kd.R_reads' HO_5.out).2.2 (ji23) p186 q186
               obtain rfl : (⟨go14, 0, none⟩ : Addr) = ad186 := (by injection e186)
               (first | simp only [add_plain] at hx186_0 | simp only [add_at] at hx186_0 | simp only [Addr.add, Nat.zero_add] at hx186_0 | skip)
               (first | simp only [add_plain] at hx186_1 | simp only [add_at] at hx186_1 | simp only [Addr.add, Nat.zero_add] at hx186_1 | skip)
               replace p186 := eq_true p186
               replace q186 := eq_true q186
               have p187 : 0 ≤ ((ji26) : Int) := of_decide_eq_true (by first | (with_reducible assumption) | assumption)
               have q187 : (ji26) < (x5_1.length : Int) := of_decide_eq_true (by first | (with_reducible assumption) | assumption)
               obtain ⟨ad187, e187, hx187_0, hx187_1⟩ := at_T86 (Kd.R_reads' HO_5.out).2.2 (ji26) p187 q187
               obtain rfl : (⟨go14, 0, none⟩ : Addr) = ad187 := (by injection e187)
               (first | simp only [add_plain] at hx187_0 | simp only [add_at] at hx187_0 | simp only [Addr.add, Nat.zero_add] at hx187_0 | skip)
               (first | simp only [add_plain] at hx187_1 | simp only [add_at] at hx187_1 | simp only [Addr.add, Nat.zero_add] at hx187_1 | skip)
               replace p187 := eq_true p187
               replace q187 := eq_true q187
               refine start_ (n := 16) (S := fun w' => w'.cell? ⟨go14, ((ji23)).toNat * 2, none⟩ = some (.int .i64 ((rd_T86 x5_1 (ji23)).f0)) ∧ w'.cell? ⟨go14, ((ji23)).toNat * 2 + 1, none⟩ = some (.string ((rd_T86 x5_1 (ji23)).f1)) ∧ w'.cell? ⟨go14, ((ji26)).toNat * 2, none⟩ = some (.int .i64 ((rd_T86 x5_1 (ji26)).f0)) ∧ w'.cell? ⟨go14, ((ji26)).toNat * 2 + 1, none⟩ = some (.string ((rd_T86 x5_1 (ji26)).f1))) (ds := []) (bA 16 0) (by kernel_rfl) rfl rfl ⟨hx186_0, hx186_1, hx187_0, hx187_1⟩ (fun hHeld => ?_); refine with_tabW impl_next.tab9 impl_next.bits9 (fun HT_ HW_ => ?_)
               generalize wr.drew = w30 at HO_5 BK174 HB hx186_0 hx186_1 hx187_0 hx187_1 hHeld ⊢
               refine pv (i := 0) (N := some 35) (bA 16 1) rfl rfl (any_of HT_.out (by kernel_rfl)) ?_
               refine pv (i := 1) (N := some 36) (bA 16 3) rfl rfl (any_of HT_.out (by kernel_rfl)) ?_
               refine pv (i := 2) (N := some 37) (bA 16 7) rfl rfl (any_of HT_.out (by kernel_rfl)) ?_
               refine pv (i := 3) (N := some 38) (bA 16 15) rfl rfl (any_of HT_.out (by kernel_rfl)) ?_
               refine pv (i := 4) (N := some 39) (bA 16 31) rfl rfl (any_of HT_.out (by kernel_rfl)) ?_
               refine pv (i := 5) (N := some 40) (bA 16 63) rfl rfl (any_of HT_.out (by kernel_rfl)) ?_
               refine pv (i := 6) (N := some 41) (bA 16 127) rfl rfl (any_of HT_.out (by kernel_rfl)) ?_
               refine pv (i := 7) (N := some 42) (bA 16 255) rfl rfl (any_of HT_.out (by kernel_rfl)) ?_
               refine pv (i := 8) (N := some 43) (bA 16 511) rfl rfl (any_of HT_.out (by kernel_rfl)) ?_
               refine pv (i := 10) (N := some 45) (bA 16 1535) rfl rfl (any_of HT_.out (by kernel_rfl)) ?_
               refine pv (i := 11) (N := some 46) (bA 16 3583) rfl rfl (any_of HT_.out (by kernel_rfl)) ?_
               refine pv (i := 12) (N := some 47) (bA 16 7679) rfl rfl (any_of HT_.out (by kernel_rfl)) ?_
               refine take_ (i := 9) (N := some 44) (v := ?_) (a' := ?_) (bA 16 8191) rfl rfl (take_ofW HT_.out HW_.out (by kernel_rfl)) (fun _ _ _ h => h) (Or.inl ⟨by rfl, ?_⟩) hHeld ?_ ?_
               rotate_left
               ·rintro w' ⟨s0, s1, s2, s3⟩
                go_simp
                with_reducible rfl
               rotate_left
               ·simp only [sp_]
                rfl
               refine take_ (i := 13) (N := some 48) (v := ?_) (a' := ?_) (bA 16 16383) rfl rfl (take_ofW HT_.out HW_.out (by kernel_rfl)) (fun _ _ _ h => h) (Or.inl ⟨by rfl, ?_⟩) hHeld ?_ ?_
               rotate_left
               ·rintro w' ⟨s0, s1, s2, s3⟩
                go_simp
                with_reducible rfl
               rotate_left
               ·simp only [sp_]
                rfl
               refine one_ (i := 14) (N := some 49) (bA 16 32767) rfl rfl (one_of HT_.out (by kernel_rfl)) (by decide) (fun K hK => ?_)
               refine goes_ Try.func135 (by kernel_rfl) rfl #[.agg #[.int .i64 ((rd_T86 x5_1 (ji23)).f0), .string ((rd_T86 x5_1 (ji23)).f1)], .agg #[.int .i64 ((rd_T86 x5_1 (ji26)).f0), .string ((rd_T86 x5_1 (ji26)).f1)]] (by rfl) rfl rfl (by (try simp only [List.map_toArray, List.map_cons, List.map_nil]); first | done | (simp only [hji23, hji26]; rfl) | rfl | (simp only [List.length_drop, List.length_take]; rfl)) ?_
               with_reducible refine (impl_Offer_ahead.calls ((rd_T86 x5_1 (ji23)).f0) ((rd_T86 x5_1 (ji23)).f1) ((rd_T86 x5_1 (ji26)).f0) ((rd_T86 x5_1 (ji26)).f1) t188 _ A29.out).mono ?_
               rintro e w31 ⟨rfl, hb⟩
               have HS0_ := (hb.cell (World.block_lt_of_cell? _ _ (hHeld.1))).trans (hHeld.1)
               have HS1_ := (hb.cell (World.block_lt_of_cell? _ _ (hHeld.2.1))).trans (hHeld.2.1)
               have HS2_ := (hb.cell (World.block_lt_of_cell? _ _ (hHeld.2.2.1))).trans (hHeld.2.2.1)
               have HS3_ := (hb.cell (World.block_lt_of_cell? _ _ (hHeld.2.2.2))).trans (hHeld.2.2.2)
               refine ⟨_, rfl, ?_⟩
               have n0_ := Aside0.mk (Kd.R_below (by (with_reducible repeat (first | apply Kd.R_alloc | apply Kd.R_drewN | apply Kd.R_drew)); exact HO_5.out) hb)
               have n1_ := Aside0.mk (blk_below (g := gb174) (o := .cells #[.int .i64 x175000_1, .string x175001_1] 86 (0, 0)) (by (with_reducible repeat (first | refine blk_drewN ?_ _ | refine blk_drew ?_ | refine blk_alloc ?_ _)); exact BK174.out) hb)
               have n2_ := Aside0.mk (below_step (by repeat (first | (with_reducible first | exact HB.out | apply below_alloc | apply pw_below_drewN | apply below_drew1 | refine below_set ?_ GE174.out) | exact HB.out)) hb)
               clear HO_5
               clear BK174
               clear HB
               have HO_5 := n0_
               have BK174 := n1_
               have HB := n2_
               clear n0_ n1_ n2_
               (try clear hb)
               (try clear hb2)
               (try clear hk)
               (try clear hi)
               refine hK.out _ _ ⟨HS0_, HS1_, HS2_, HS3_⟩ (fun hHeld => ?_)
               clear hK K
               refine norm_ (a' := ?_) ?_ ?_
               rotate_left
               ·show Act.put _ (some 49) _ = _
                simp only [sp_]
                rfl
               refine pv (i := 15) (N := some 50) (bA 16 65535) rfl rfl (any_of HT_.out (by kernel_rfl)) ?_
               refine done_ (done_of HT_.out (by kernel_rfl)) ?_
               try go_wp2
               (try simp only [← hji23, ← hji26])
               (try simp only [← hji23, ← hji26] at H')
               go_meet
               case rel => exact ⟨_, (t188), (by first | rfl | (simp; done) | (simp [*]; done)), H', ⟨by have := HK1.out; first | omega | exact Nat.le_refl _⟩, ⟨by (try simp only [hl5_1]); (with_reducible repeat (first | apply Kd.R_alloc | apply Kd.R_drewN | apply Kd.R_drew)); exact HO_5.out⟩, ⟨by (try simp only [hl5_1]); (with_reducible repeat (first | refine blk_drewN ?_ _ | refine blk_drew ?_ | refine blk_alloc ?_ _)); exact BK174.out⟩, ⟨by repeat (first | (with_reducible first | exact HB.out | apply below_alloc | apply pw_below_drewN | apply below_drew1 | refine below_set ?_ GE174.out) | exact HB.out)⟩⟩
              ·rw [if_neg c28] at H
               exact absurd H (by simp)
             ·rw [if_neg c27] at H
              exact absurd H (by simp)
            ·rw [if_neg c25] at H
             exact absurd H (by simp)
           ·rw [if_neg c24] at H
            exact absurd H (by simp)
          ·rw [if_neg c22] at H
           have c22b0 : decide ((wrap64 ((wrap64 ((wrap64 (2 * x6_1)) + 1)) + 1)) < ji2) = false := decide_eq_false c22
           clear c22
           (first | rw [c22b0] | (simp only [i64_w, i32_w]; rw [c22b0]) | skip)
           have H' := Aside0.mk H
           clear H
           try go_wp2
           have n0_ := Aside0.mk (Kd.R_drew HO_5.out)
           have n1_ := Aside0.mk (blk_drew BK174.out)
           have n2_ := Aside0.mk (below_drew1 HB.out)
           clear HO_5
           clear BK174
           clear HB
           have HO_5 := n0_
           have BK174 := n1_
           have HB := n2_
           clear n0_ n1_ n2_
           refine start_ (n := 16) (S := fun w' => True) (ds := []) (bA 16 0) (by kernel_rfl) rfl rfl trivial (fun hHeld => ?_); refine with_tabW impl_next.tab9 impl_next.bits9 (fun HT_ HW_ => ?_)
           generalize wr.drew = w32 at HO_5 BK174 HB hHeld ⊢
           refine pv (i := 0) (N := some 35) (bA 16 1) rfl rfl (any_of HT_.out (by kernel_rfl)) ?_
           refine pv (i := 1) (N := some 36) (bA 16 3) rfl rfl (any_of HT_.out (by kernel_rfl)) ?_
           refine pv (i := 2) (N := some 37) (bA 16 7) rfl rfl (any_of HT_.out (by kernel_rfl)) ?_
           refine pv (i := 3) (N := some 38) (bA 16 15) rfl rfl (any_of HT_.out (by kernel_rfl)) ?_
           refine pv (i := 4) (N := some 39) (bA 16 31) rfl rfl (any_of HT_.out (by kernel_rfl)) ?_
           refine pu (i := 5) (N := some 40) (bA 16 63) rfl rfl (any_of HT_.out (by kernel_rfl)) ?_
           refine pu (i := 6) (N := some 41) (bA 16 127) rfl rfl (any_of HT_.out (by kernel_rfl)) ?_
           refine pu (i := 7) (N := some 42) (bA 16 255) rfl rfl (any_of HT_.out (by kernel_rfl)) ?_
           refine pu (i := 8) (N := some 43) (bA 16 511) rfl rfl (any_of HT_.out (by kernel_rfl)) ?_
           refine pu (i := 9) (N := some 44) (bA 16 1023) rfl rfl (any_of HT_.out (by kernel_rfl)) ?_
           refine pu (i := 10) (N := some 45) (bA 16 2047) rfl rfl (any_of HT_.out (by kernel_rfl)) ?_
           refine pu (i := 11) (N := some 46) (bA 16 4095) rfl rfl (any_of HT_.out (by kernel_rfl)) ?_
           refine pu (i := 12) (N := some 47) (bA 16 8191) rfl rfl (any_of HT_.out (by kernel_rfl)) ?_
           refine pu (i := 13) (N := some 48) (bA 16 16383) rfl rfl (any_of HT_.out (by kernel_rfl)) ?_
           refine pu (i := 14) (N := some 49) (bA 16 32767) rfl rfl (any_of HT_.out (by kernel_rfl)) ?_
           refine pv (i := 15) (N := some 50) (bA 16 65535) rfl rfl (any_of HT_.out (by kernel_rfl)) ?_
           refine done_ (done_of HT_.out (by kernel_rfl)) ?_
           try go_wp2
           go_meet
           case rel => exact ⟨_, (false), (by first | rfl | (simp; done) | (simp [*]; done)), H', ⟨by have := HK1.out; first | omega | exact Nat.le_refl _⟩, ⟨by (try simp only [hl5_1]); (with_reducible repeat (first | apply Kd.R_alloc | apply Kd.R_drewN | apply Kd.R_drew)); exact HO_5.out⟩, ⟨by (try simp only [hl5_1]); (with_reducible repeat (first | refine blk_drewN ?_ _ | refine blk_drew ?_ | refine blk_alloc ?_ _)); exact BK174.out⟩, ⟨by repeat (first | (with_reducible first | exact HB.out | apply below_alloc | apply pw_below_drewN | apply below_drew1 | refine below_set ?_ GE174.out) | exact HB.out)⟩⟩
         case rest =>
          clear HC21
          try clear c1
          try clear p1
          try clear q1
          try clear hx1
          try clear qi1
          try clear hf1
          try clear c2
          try clear p2
          try clear c3
          try clear c3b0
          try clear c3b1
          try clear c4
          try clear c4b0
          try clear c4b1
          try clear c6
          try clear c6b0
          try clear c6b1
          try clear p6
          try clear c7
          try clear c7b0
          try clear c7b1
          try clear q9
          try clear c12
          try clear c12b0
          try clear c13
          try clear c13b0
          try clear c13b1
          try clear c14
          try clear p14
          try clear q14
          try clear hx14
          try clear qi14
          try clear hf14
          try clear q16
          try clear c18
          try clear p18
          try clear q18
          try clear hx18
          try clear qi18
          try clear hf18
          try clear c20
          try clear c20b0
          try clear c22
          try clear c22b0
          try clear c24
          try clear c24b0
          try clear c25
          try clear c25b0
          try clear c27
          try clear c27b0
          try clear c28
          try clear c28b0
          try clear hcz11_0
          try clear hcz11_1
          try clear hfz11_0
          try clear hfz11_1
          try clear hx14_0
          try clear hx14_1
          try clear hx182_0
          try clear hx182_1
          try clear hx183_0
          try clear hx183_1
          try clear hx186_0
          try clear hx186_1
          try clear hx187_0
          try clear hx187_1
          try clear hx18_0
          try clear hx18_1
          try clear p1
          try clear p14
          try clear p18
          try clear p182
          try clear p183
          try clear p186
          try clear p187
          try clear p2
          try clear p6
          try clear q1
          try clear q14
          try clear q16
          try clear q18
          try clear q182
          try clear q183
          try clear q186
          try clear q187
          try clear q9
          obtain ⟨kq, x50_20, rfl, HA, HJ20, HO_5, BK174, HB⟩ := hcut
          cases kq with
          | zero => exact absurd HA.out (by simp [impl_next.j1])
          | succ kj20 =>
           have H := HA.out
           clear HA
           simp only [impl_next.j1] at H
           by_cases c33 : x50_20 = true
           ·subst c33
            have H1 : (if 0 ≤ (wrap64 ((wrap64 ((wrap64 (2 * x6_1)) + 1)) + 1)) then (if (wrap64 ((wrap64 ((wrap64 (2 * x6_1)) + 1)) + 1)) < (x5_1.length : Int) then (if 0 ≤ x6_1 then (if x6_1 < (x5_1.length : Int) then ((impl_Offer_ahead.f ((rd_T86 x5_1 (wrap64 ((wrap64 ((wrap64 (2 * x6_1)) + 1)) + 1))).f0) ((rd_T86 x5_1 (wrap64 ((wrap64 ((wrap64 (2 * x6_1)) + 1)) + 1))).f1) ((rd_T86 x5_1 x6_1).f0) ((rd_T86 x5_1 x6_1).f1)).bind fun t191 => (if t191 = true then (impl_next.l0 kj20 l0 ji2 ((x5_1.set (x6_1 : Int).toNat (⟨(rd_T86 x5_1 (wrap64 ((wrap64 ((wrap64 (2 * x6_1)) + 1)) + 1))).f0, (rd_T86 x5_1 (wrap64 ((wrap64 ((wrap64 (2 * x6_1)) + 1)) + 1))).f1⟩ : S86)).set ((wrap64 ((wrap64 ((wrap64 (2 * x6_1)) + 1)) + 1)) : Int).toNat (⟨(rd_T86 x5_1 x6_1).f0, (rd_T86 x5_1 x6_1).f1⟩ : S86)) (wrap64 ((wrap64 ((wrap64 (2 * x6_1)) + 1)) + 1))) else (if 0 < (l0.length : Int) then (some ((rd_T86 l0 0).f0, (rd_T86 l0 0).f1, x5_1)) else (none)))) else (none)) else (none)) else (none)) else (none)) = some (r1, r2, r3) := by rw [if_pos rfl] at H; exact H
            clear H
            have H := H1
            clear H1
            obtain ⟨ji34, hji34⟩ : ∃ j_ : Int, (wrap64 ((wrap64 ((wrap64 (2 * x6_1)) + 1)) + 1)) = j_ := ⟨_, rfl⟩
            replace H : (if 0 ≤ (ji34) then (if (ji34) < (x5_1.length : Int) then (if 0 ≤ x6_1 then (if x6_1 < (x5_1.length : Int) then ((impl_Offer_ahead.f ((rd_T86 x5_1 (ji34)).f0) ((rd_T86 x5_1 (ji34)).f1) ((rd_T86 x5_1 x6_1).f0) ((rd_T86 x5_1 x6_1).f1)).bind fun t191 => (if t191 = true then (impl_next.l0 kj20 l0 ji2 ((x5_1.set (x6_1 : Int).toNat (⟨(rd_T86 x5_1 (ji34)).f0, (rd_T86 x5_1 (ji34)).f1⟩ : S86)).set ((ji34) : Int).toNat (⟨(rd_T86 x5_1 x6_1).f0, (rd_T86 x5_1 x6_1).f1⟩ : S86)) ji34) else (if 0 < (l0.length : Int) then (some ((rd_T86 l0 0).f0, (rd_T86 l0 0).f1, x5_1)) else (none)))) else (none)) else (none)) else (none)) else (none)) = some (r1, r2, r3) := by first | (rw [hji34] at H; exact H) | (simp only [hji34] at H ⊢; exact H)
            have hji34w : (IntKind.i64.wrap ((wrap64 ((wrap64 (2 * x6_1)) + 1)) + 1)) = ji34 := (i64_w _).trans hji34
            by_cases c35 : 0 ≤ (ji34)
            ·rw [if_pos c35] at H
             have c35b0 : decide (0 ≤ (ji34)) = true := decide_eq_true c35
             clear c35
             by_cases c36 : (ji34) < (x5_1.length : Int)
             ·rw [if_pos c36] at H
              have c36b0 : decide ((ji34) < (x5_1.length : Int)) = true := decide_eq_true c36
              clear c36
              by_cases c37 : 0 ≤ x6_1
              ·rw [if_pos c37] at H
               have c37b0 : decide (0 ≤ x6_1) = true := decide_eq_true c37
               clear c37
               by_cases c38 : x6_1 < (x5_1.length : Int)
               ·rw [if_pos c38] at H
                have c38b0 : decide (x6_1 < (x5_1.length : Int)) = true := decide_eq_true c38
                clear c38
                replace H := Option.bind_eq_some_iff.mp H
                obtain ⟨t191, A390, H⟩ := H
                replace H : (if t191 = true then (impl_next.l0 kj20 l0 ji2 ((x5_1.set (x6_1 : Int).toNat (⟨(rd_T86 x5_1 (ji34)).f0, (rd_T86 x5_1 (ji34)).f1⟩ : S86)).set ((ji34) : Int).toNat (⟨(rd_T86 x5_1 x6_1).f0, (rd_T86 x5_1 x6_1).f1⟩ : S86)) ji34) else (if 0 < (l0.length : Int) then (some ((rd_T86 l0 0).f0, (rd_T86 l0 0).f1, x5_1)) else (none))) = some (r1, r2, r3) := H
                have A39 := Aside0.mk A390
                clear A390
                by_cases c40 : t191 = true
                ·subst c40
                 have H1 : (impl_next.l0 kj20 l0 ji2 ((x5_1.set (x6_1 : Int).toNat (⟨(rd_T86 x5_1 (ji34)).f0, (rd_T86 x5_1 (ji34)).f1⟩ : S86)).set ((ji34) : Int).toNat (⟨(rd_T86 x5_1 x6_1).f0, (rd_T86 x5_1 x6_1).f1⟩ : S86)) ji34) = some (r1, r2, r3) := by rw [if_pos rfl] at H; exact H
                 clear H
                 have H := H1
                 clear H1
                 obtain ⟨y194, hy194⟩ : ∃ y_ : List (S86), y_ = (x5_1.set (x6_1 : Int).toNat (⟨(rd_T86 x5_1 (ji34)).f0, (rd_T86 x5_1 (ji34)).f1⟩ : S86)) := ⟨_, rfl⟩
                 replace H : (impl_next.l0 kj20 l0 ji2 (y194.set ((ji34) : Int).toNat (⟨(rd_T86 x5_1 x6_1).f0, (rd_T86 x5_1 x6_1).f1⟩ : S86)) ji34) = some (r1, r2, r3) := by first | (rw [hy194]; with_reducible exact H) | (have H2_ := (Option.bind_some _ _).symm.trans H; rw [hy194]; with_reducible exact H2_) | (have H2_ := (Option.bind_some _ _).symm.trans H; with_reducible exact H2_) | with_reducible exact H | (rw [hy194]; exact H) | exact H
                 have Ny194 := Aside0.mk hy194
                 clear hy194
                 obtain ⟨y195, hy195⟩ : ∃ y_ : List (S86), y_ = (y194.set ((ji34) : Int).toNat (⟨(rd_T86 x5_1 x6_1).f0, (rd_T86 x5_1 x6_1).f1⟩ : S86)) := ⟨_, rfl⟩
                 replace H : (impl_next.l0 kj20 l0 ji2 y195 ji34) = some (r1, r2, r3) := by first | (rw [hy195]; with_reducible exact H) | (have H2_ := (Option.bind_some _ _).symm.trans H; rw [hy195]; with_reducible exact H2_) | (have H2_ := (Option.bind_some _ _).symm.trans H; with_reducible exact H2_) | with_reducible exact H | (rw [hy195]; exact H) | exact H
                 have Ny195 := Aside0.mk hy195
                 clear hy195
                 have H' := Aside0.mk H
                 clear H
                 try go_wp2
                 have n0_ := Aside0.mk (Kd.R_drew HO_5.out)
                 have n1_ := Aside0.mk (blk_drew BK174.out)
                 have n2_ := Aside0.mk (below_drew1 HB.out)
                 clear HO_5
                 clear BK174
                 clear HB
                 have HO_5 := n0_
                 have BK174 := n1_
                 have HB := n2_
                 clear n0_ n1_ n2_
                 have p189 : 0 ≤ ((ji34) : Int) := of_decide_eq_true (by first | (with_reducible assumption) | assumption)
                 have q189 : (ji34) < (x5_1.length : Int) := of_decide_eq_true (by first | (with_reducible assumption) | assumption)
                 obtain ⟨ad189, e189, hx189_0, hx189_1⟩ := at_T86 (Kd.R_reads' HO_5.out).2.2 (ji34) p189 q189
                 obtain rfl : (⟨go14, 0, none⟩ : Addr) = ad189 := (by injection e189)
                 (first | simp only [add_plain] at hx189_0 | simp only [add_at] at hx189_0 | simp only [Addr.add, Nat.zero_add] at hx189_0 | skip)
                 (first | simp only [add_plain] at hx189_1 | simp only [add_at] at hx189_1 | simp only [Addr.add, Nat.zero_add] at hx189_1 | skip)
                 replace p189 := eq_true p189
                 replace q189 := eq_true q189
                 have p190 : 0 ≤ (x6_1 : Int) := of_decide_eq_true (by first | (with_reducible assumption) | assumption)
                 have q190 : x6_1 < (x5_1.length : Int) := of_decide_eq_true (by first | (with_reducible assumption) | assumption)
                 obtain ⟨ad190, e190, hx190_0, hx190_1⟩ := at_T86 (Kd.R_reads' HO_5.out).2.2 x6_1 p190 q190
                 obtain rfl : (⟨go14, 0, none⟩ : Addr) = ad190 := (by injection e190)
                 (first | simp only [add_plain] at hx190_0 | simp only [add_at] at hx190_0 | simp only [Addr.add, Nat.zero_add] at hx190_0 | skip)
                 (first | simp only [add_plain] at hx190_1 | simp only [add_at] at hx190_1 | simp only [Addr.add, Nat.zero_add] at hx190_1 | skip)
                 replace p190 := eq_true p190
                 replace q190 := eq_true q190
                 refine start_ (n := 10) (S := fun w' => w'.cell? ⟨go14, ((ji34)).toNat * 2, none⟩ = some (.int .i64 ((rd_T86 x5_1 (ji34)).f0)) ∧ w'.cell? ⟨go14, ((ji34)).toNat * 2 + 1, none⟩ = some (.string ((rd_T86 x5_1 (ji34)).f1)) ∧ w'.cell? ⟨go14, (x6_1).toNat * 2, none⟩ = some (.int .i64 ((rd_T86 x5_1 x6_1).f0)) ∧ w'.cell? ⟨go14, (x6_1).toNat * 2 + 1, none⟩ = some (.string ((rd_T86 x5_1 x6_1).f1))) (ds := []) (bA 10 0) (by kernel_rfl) rfl rfl ⟨hx189_0, hx189_1, hx190_0, hx190_1⟩ (fun hHeld => ?_); refine with_tabW impl_next.tab11 impl_next.bits11 (fun HT_ HW_ => ?_)
                 generalize wc.drew = w43 at HO_5 BK174 HB hx189_0 hx189_1 hx190_0 hx190_1 hHeld ⊢
                 refine pv (i := 0) (N := some 53) (bA 10 1) rfl rfl (any_of HT_.out (by kernel_rfl)) ?_
                 refine pv (i := 1) (N := some 54) (bA 10 3) rfl rfl (any_of HT_.out (by kernel_rfl)) ?_
                 refine pv (i := 2) (N := some 55) (bA 10 7) rfl rfl (any_of HT_.out (by kernel_rfl)) ?_
                 refine pv (i := 4) (N := some 57) (bA 10 23) rfl rfl (any_of HT_.out (by kernel_rfl)) ?_
                 refine pv (i := 5) (N := some 58) (bA 10 55) rfl rfl (any_of HT_.out (by kernel_rfl)) ?_
                 refine pv (i := 6) (N := some 59) (bA 10 119) rfl rfl (any_of HT_.out (by kernel_rfl)) ?_
                 refine take_ (i := 3) (N := some 56) (v := ?_) (a' := ?_) (bA 10 127) rfl rfl (take_ofW HT_.out HW_.out (by kernel_rfl)) (fun _ _ _ h => h) (Or.inl ⟨by rfl, ?_⟩) hHeld ?_ ?_
                 rotate_left
                 ·rintro w' ⟨s0, s1, s2, s3⟩
                  go_simp
                  with_reducible rfl
                 rotate_left
                 ·simp only [sp_]
                  rfl
                 refine take_ (i := 7) (N := some 60) (v := ?_) (a' := ?_) (bA 10 255) rfl rfl (take_ofW HT_.out HW_.out (by kernel_rfl)) (fun _ _ _ h => h) (Or.inl ⟨by rfl, ?_⟩) hHeld ?_ ?_
                 rotate_left
                 ·rintro w' ⟨s0, s1, s2, s3⟩
                  go_simp
                  with_reducible rfl
                 rotate_left
                 ·simp only [sp_]
                  rfl
                 refine one_ (i := 8) (N := some 61) (bA 10 511) rfl rfl (one_of HT_.out (by kernel_rfl)) (by decide) (fun K hK => ?_)
                 refine goes_ Try.func135 (by kernel_rfl) rfl #[.agg #[.int .i64 ((rd_T86 x5_1 (ji34)).f0), .string ((rd_T86 x5_1 (ji34)).f1)], .agg #[.int .i64 ((rd_T86 x5_1 x6_1).f0), .string ((rd_T86 x5_1 x6_1).f1)]] (by rfl) rfl rfl (by (try simp only [List.map_toArray, List.map_cons, List.map_nil]); first | done | (simp only [hji34]; rfl) | rfl | (simp only [List.length_drop, List.length_take]; rfl)) ?_
                 with_reducible refine (impl_Offer_ahead.calls ((rd_T86 x5_1 (ji34)).f0) ((rd_T86 x5_1 (ji34)).f1) ((rd_T86 x5_1 x6_1).f0) ((rd_T86 x5_1 x6_1).f1) true _ A39.out).mono ?_
                 rintro e w44 ⟨rfl, hb⟩
                 have HS0_ := (hb.cell (World.block_lt_of_cell? _ _ (hHeld.1))).trans (hHeld.1)
                 have HS1_ := (hb.cell (World.block_lt_of_cell? _ _ (hHeld.2.1))).trans (hHeld.2.1)
                 have HS2_ := (hb.cell (World.block_lt_of_cell? _ _ (hHeld.2.2.1))).trans (hHeld.2.2.1)
                 have HS3_ := (hb.cell (World.block_lt_of_cell? _ _ (hHeld.2.2.2))).trans (hHeld.2.2.2)
                 refine ⟨_, rfl, ?_⟩
                 have n0_ := Aside0.mk (Kd.R_below (by (with_reducible repeat (first | apply Kd.R_alloc | apply Kd.R_drewN | apply Kd.R_drew)); exact HO_5.out) hb)
                 have n1_ := Aside0.mk (blk_below (g := gb174) (o := .cells #[.int .i64 x175000_1, .string x175001_1] 86 (0, 0)) (by (with_reducible repeat (first | refine blk_drewN ?_ _ | refine blk_drew ?_ | refine blk_alloc ?_ _)); exact BK174.out) hb)
                 have n2_ := Aside0.mk (below_step (by repeat (first | (with_reducible first | exact HB.out | apply below_alloc | apply pw_below_drewN | apply below_drew1 | refine below_set ?_ GE174.out) | exact HB.out)) hb)
                 clear HO_5
                 clear BK174
                 clear HB
                 have HO_5 := n0_
                 have BK174 := n1_
                 have HB := n2_
                 clear n0_ n1_ n2_
                 (try clear hb)
                 (try clear hb2)
                 (try clear hk)
                 (try clear hi)
                 refine hK.out _ _ ⟨HS0_, HS1_, HS2_, HS3_⟩ (fun hHeld => ?_)
                 clear hK K
                 refine norm_ (a' := ?_) ?_ ?_
                 rotate_left
                 ·show Act.put _ (some 61) _ = _
                  simp only [sp_]
                  rfl
                 refine pv (i := 9) (N := some 62) (bA 10 1023) rfl rfl (any_of HT_.out (by kernel_rfl)) ?_
                 refine done_ (done_of HT_.out (by kernel_rfl)) ?_
                 try go_wp2
                 have n0_ := Aside0.mk (Kd.R_drew HO_5.out)
                 have n1_ := Aside0.mk (blk_drew BK174.out)
                 have n2_ := Aside0.mk (below_drew1 HB.out)
                 clear HO_5
                 clear BK174
                 clear HB
                 have HO_5 := n0_
                 have BK174 := n1_
                 have HB := n2_
                 clear n0_ n1_ n2_
                 have p192 : 0 ≤ ((ji34) : Int) := of_decide_eq_true (by first | (with_reducible assumption) | assumption)
                 have q192 : (ji34) < (x5_1.length : Int) := of_decide_eq_true (by first | (with_reducible assumption) | assumption)
                 obtain ⟨ad192, e192, hx192_0, hx192_1⟩ := at_T86 (Kd.R_reads' HO_5.out).2.2 (ji34) p192 q192
                 obtain rfl : (⟨go14, 0, none⟩ : Addr) = ad192 := (by injection e192)
                 (first | simp only [add_plain] at hx192_0 | simp only [add_at] at hx192_0 | simp only [Addr.add, Nat.zero_add] at hx192_0 | skip)
                 (first | simp only [add_plain] at hx192_1 | simp only [add_at] at hx192_1 | simp only [Addr.add, Nat.zero_add] at hx192_1 | skip)
                 replace p192 := eq_true p192
                 replace q192 := eq_true q192
                 have p193 : 0 ≤ (x6_1 : Int) := of_decide_eq_true (by first | (with_reducible assumption) | assumption)
                 have q193 : x6_1 < (x5_1.length : Int) := of_decide_eq_true (by first | (with_reducible assumption) | assumption)
                 obtain ⟨ad193, e193, hx193_0, hx193_1⟩ := at_T86 (Kd.R_reads' HO_5.out).2.2 x6_1 p193 q193
                 obtain rfl : (⟨go14, 0, none⟩ : Addr) = ad193 := (by injection e193)
                 (first | simp only [add_plain] at hx193_0 | simp only [add_at] at hx193_0 | simp only [Addr.add, Nat.zero_add] at hx193_0 | skip)
                 (first | simp only [add_plain] at hx193_1 | simp only [add_at] at hx193_1 | simp only [Addr.add, Nat.zero_add] at hx193_1 | skip)
                 replace p193 := eq_true p193
                 replace q193 := eq_true q193
                 have p41 : 0 ≤ (x6_1 : Int) := of_decide_eq_true (by first | (with_reducible assumption) | assumption)
                 have q41 : (x6_1 : Int) < ((x5_1.length : Int) : Int) := of_decide_eq_true (by first | (with_reducible assumption) | assumption)
                 obtain ⟨ce41, hcl41, hM41, hcc41, hfr41⟩ := Kd.R_elem HO_5.out z86 (x6_1 : Int) p41 q41
                 obtain rfl := k86_openM hM41
                 have hx41_0 : World.cell? _ ⟨go14, (x6_1 : Int).toNat * 2, none⟩ = some (.int .i64 ((rd_T86 x5_1 x6_1).f0)) := hcc41 0 _ rfl
                 have hx41_1 : World.cell? _ ⟨go14, (x6_1 : Int).toNat * 2 + 1, none⟩ = some (.string ((rd_T86 x5_1 x6_1).f1)) := hcc41 1 _ rfl
                 have hf41_0 : World.frozen? _ ⟨go14, (x6_1 : Int).toNat * 2, none⟩ = false := hfr41 0
                 have hf41_1 : World.frozen? _ ⟨go14, (x6_1 : Int).toNat * 2 + 1, none⟩ = false := hfr41 1
                 clear hcl41 hcc41 hfr41 hM41
                 replace p41 := eq_true p41
                 replace q41 := eq_true q41
                 obtain ⟨ce46, hcl46, hM46, hcc46, hfr46⟩ := Kd.R_elem HO_5.out z86 (x6_1 : Int) (of_decide_eq_true (by first | (with_reducible assumption) | assumption)) (by have h_ : (x6_1 : Int) < ((x5_1.length : Int) : Int) := of_decide_eq_true (by first | (with_reducible assumption) | assumption); first | exact h_ | (have e_ := (Kd.R_reads' HO_5.out).1; omega) | simpa using h_)
                 obtain rfl := k86_openM hM46
                 have HP46 := (Kd.R_seg HO_5.out (x6_1 : Int) (of_decide_eq_true (by first | (with_reducible assumption) | assumption)) (by have h_ : (x6_1 : Int) < ((x5_1.length : Int) : Int) := of_decide_eq_true (by first | (with_reducible assumption) | assumption); first | exact h_ | (have e_ := (Kd.R_reads' HO_5.out).1; omega) | simpa using h_) (seg := [.int .i64 ((rd_T86 x5_1 (ji34)).f0), .string ((rd_T86 x5_1 (ji34)).f1)]) (j := 0) hcl46 hcc46 (show 2 ≤ 2 from by decide) (x' := (⟨(rd_T86 x5_1 (ji34)).f0, (rd_T86 x5_1 (ji34)).f1⟩ : S86)) (k86_mkM _ _ _ (⟨(rd_T86 x5_1 (ji34)).f0, (rd_T86 x5_1 (ji34)).f1⟩ : S86) ) (fun _ hk => hk)).1
                 rw [← Ny194.out] at HP46
                 have HQ46 := Aside0.mk HP46
                 clear hcl46 hcc46 hfr46 hM46 HP46
                 have p42 : 0 ≤ ((ji34) : Int) := of_decide_eq_true (by first | (with_reducible assumption) | assumption)
                 have q42 : ((ji34) : Int) < ((x5_1.length : Int) : Int) := of_decide_eq_true (by first | (with_reducible assumption) | assumption)
                 obtain ⟨ce42, hcl42, hM42, hcc42, hfr42⟩ := Kd.R_elem HQ46.out z86 ((ji34) : Int) p42 q42
                 obtain rfl := k86_openM hM42
                 have hx42_0 : World.cell? _ ⟨go14, ((ji34) : Int).toNat * 2, none⟩ = some (.int .i64 ((rd_T86 y194 (ji34)).f0)) := hcc42 0 _ rfl
                 have hx42_1 : World.cell? _ ⟨go14, ((ji34) : Int).toNat * 2 + 1, none⟩ = some (.string ((rd_T86 y194 (ji34)).f1)) := hcc42 1 _ rfl
                 have hf42_0 : World.frozen? _ ⟨go14, ((ji34) : Int).toNat * 2, none⟩ = false := hfr42 0
                 have hf42_1 : World.frozen? _ ⟨go14, ((ji34) : Int).toNat * 2 + 1, none⟩ = false := hfr42 1
                 clear hcl42 hcc42 hfr42 hM42
                 replace p42 := eq_true p42
                 replace q42 := eq_true q42
                 obtain ⟨ce47, hcl47, hM47, hcc47, hfr47⟩ := Kd.R_elem HQ46.out z86 ((ji34) : Int) (of_decide_eq_true (by first | (with_reducible assumption) | assumption)) (by have h_ : ((ji34) : Int) < ((x5_1.length : Int) : Int) := of_decide_eq_true (by first | (with_reducible assumption) | assumption); first | exact h_ | (have e_ := (Kd.R_reads' HO_5.out).1; omega) | simpa using h_)
                 obtain rfl := k86_openM hM47
                 have HP47 := (Kd.R_seg HQ46.out ((ji34) : Int) (of_decide_eq_true (by first | (with_reducible assumption) | assumption)) (by have h_ : ((ji34) : Int) < ((x5_1.length : Int) : Int) := of_decide_eq_true (by first | (with_reducible assumption) | assumption); first | exact h_ | (have e_ := (Kd.R_reads' HO_5.out).1; omega) | simpa using h_) (seg := [.int .i64 ((rd_T86 x5_1 x6_1).f0), .string ((rd_T86 x5_1 x6_1).f1)]) (j := 0) hcl47 hcc47 (show 2 ≤ 2 from by decide) (x' := (⟨(rd_T86 x5_1 x6_1).f0, (rd_T86 x5_1 x6_1).f1⟩ : S86)) (k86_mkM _ _ _ (⟨(rd_T86 x5_1 x6_1).f0, (rd_T86 x5_1 x6_1).f1⟩ : S86) ) (fun _ hk => hk)).1
                 rw [← Ny195.out] at HP47
                 have HQ47 := Aside0.mk HP47
                 clear hcl47 hcc47 hfr47 hM47 HP47
                 refine start_ (n := 16) (S := fun w' => w'.cell? ⟨go14, ((ji34)).toNat * 2, none⟩ = some (.int .i64 ((rd_T86 x5_1 (ji34)).f0)) ∧ w'.cell? ⟨go14, ((ji34)).toNat * 2 + 1, none⟩ = some (.string ((rd_T86 x5_1 (ji34)).f1)) ∧ w'.cell? ⟨go14, (x6_1).toNat * 2, none⟩ = some (.int .i64 ((rd_T86 x5_1 x6_1).f0)) ∧ w'.cell? ⟨go14, (x6_1).toNat * 2 + 1, none⟩ = some (.string ((rd_T86 x5_1 x6_1).f1))) (ds := [13, 15]) (bA 16 0) (by kernel_rfl) rfl rfl ⟨hx192_0, hx192_1, hx193_0, hx193_1⟩ (fun hHeld => ?_); refine with_tabW impl_next.tab12 impl_next.bits12 (fun HT_ HW_ => ?_)
                 generalize w44.drew = w45 at HO_5 BK174 HB HQ46 HQ47 hf41_0 hf41_1 hf42_0 hf42_1 hx192_0 hx192_1 hx193_0 hx193_1 hx41_0 hx41_1 hx42_0 hx42_1 hHeld ⊢
                 try (have hf42_0b := hf42_0; simp [World.setCells, go_sem, show k86.sz = 2 from rfl] at hf42_0b)
                 try (have hf42_1b := hf42_1; simp [World.setCells, go_sem, show k86.sz = 2 from rfl] at hf42_1b)
                 try (have hx42_0b := hx42_0; simp [World.setCells, go_sem, show k86.sz = 2 from rfl] at hx42_0b)
                 try (have hx42_1b := hx42_1; simp [World.setCells, go_sem, show k86.sz = 2 from rfl] at hx42_1b)
                 refine pv (i := 0) (N := some 63) (bA 16 1) rfl rfl (any_of HT_.out (by kernel_rfl)) ?_
                 refine pv (i := 1) (N := some 64) (bA 16 3) rfl rfl (any_of HT_.out (by kernel_rfl)) ?_
                 refine pv (i := 2) (N := some 65) (bA 16 7) rfl rfl (any_of HT_.out (by kernel_rfl)) ?_
                 refine pv (i := 3) (N := some 66) (bA 16 15) rfl rfl (any_of HT_.out (by kernel_rfl)) ?_
                 refine pv (i := 4) (N := some 67) (bA 16 31) rfl rfl (any_of HT_.out (by kernel_rfl)) ?_
                 refine pv (i := 5) (N := some 68) (bA 16 63) rfl rfl (any_of HT_.out (by kernel_rfl)) ?_
                 refine pv (i := 6) (N := some 69) (bA 16 127) rfl rfl (any_of HT_.out (by kernel_rfl)) ?_
                 refine pv (i := 8) (N := some 71) (bA 16 383) rfl rfl (any_of HT_.out (by kernel_rfl)) ?_
                 refine pv (i := 9) (N := some 72) (bA 16 895) rfl rfl (any_of HT_.out (by kernel_rfl)) ?_
                 refine pv (i := 10) (N := some 73) (bA 16 1919) rfl rfl (any_of HT_.out (by kernel_rfl)) ?_
                 refine take_ (i := 7) (N := some 70) (v := ?_) (a' := ?_) (bA 16 2047) rfl rfl (take_ofW HT_.out HW_.out (by kernel_rfl)) (fun _ _ _ h => h) (Or.inl ⟨by rfl, ?_⟩) hHeld ?_ ?_
                 rotate_left
                 ·rintro w' ⟨s0, s1, s2, s3⟩
                  go_simp
                  with_reducible rfl
                 rotate_left
                 ·simp only [sp_]
                  rfl
                 refine take_ (i := 11) (N := some 74) (v := ?_) (a' := ?_) (bA 16 4095) rfl rfl (take_ofW HT_.out HW_.out (by kernel_rfl)) (fun _ _ _ h => h) (Or.inl ⟨by rfl, ?_⟩) hHeld ?_ ?_
                 rotate_left
                 ·rintro w' ⟨s0, s1, s2, s3⟩
                  go_simp
                  with_reducible rfl
                 rotate_left
                 ·simp only [sp_]
                  rfl
                 refine pv (i := 12) (N := some 75) (bA 16 8191) rfl rfl (any_of HT_.out (by kernel_rfl)) ?_
                 refine last_ (i := 13) (N := none) (bA 16 16383) rfl rfl (one_of HT_.out (by kernel_rfl)) (by decide) (fun K hK => ?_)
                 refine skip_ (w1 := ?_) (by rfl) rfl ?_ ?_
                 rotate_left
                 ·go_simp
                  rfl
                 refine hK.out _ _ ?_
                 clear hK K
                 refine pv (i := 14) (N := some 76) (bA 16 32767) rfl rfl (any_of HT_.out (by kernel_rfl)) ?_
                 refine last_ (i := 15) (N := none) (bA 16 65535) rfl rfl (one_of HT_.out (by kernel_rfl)) (by decide) (fun K hK => ?_)
                 refine skip_ (w1 := ?_) (by rfl) rfl ?_ ?_
                 rotate_left
                 ·go_simp
                  rfl
                 refine hK.out _ _ ?_
                 clear hK K
                 refine done_ (done_of HT_.out (by kernel_rfl)) ?_
                 try go_wp2
                 (try simp only [← hl5_1])
                 go_roundg kj20
                 case measure => have := HK1.out; have := HJ20.out; omega
                 case rel => exact ⟨(y195), (ji34), (x175000_1), (x175001_1), (by first | rfl | (simp; done) | (simp only [← hji34] <;> (first | rfl | simp)) | (simp [*]; done)), H', ⟨by have := HK1.out; have := HJ20.out; omega⟩, ⟨by (try simp only [hl5_1]); (with_reducible repeat (first | apply Kd.R_alloc | apply Kd.R_drewN | apply Kd.R_drew)); exact HQ47.out⟩, ⟨by (try simp only [hl5_1]); (with_reducible repeat (first | refine blk_drewN ?_ _ | refine blk_drew ?_ | refine blk_alloc ?_ _)); refine blk_far ?_ (by have h_ := Kd.R_away HO_5.out (fun _ hk => hk); intro e_; exact h_ (by rw [e_]; rfl)) _; (with_reducible repeat (first | refine blk_drewN ?_ _ | refine blk_drew ?_ | refine blk_alloc ?_ _)); refine blk_far ?_ (by have h_ := Kd.R_away HO_5.out (fun _ hk => hk); intro e_; exact h_ (by rw [e_]; rfl)) _; (with_reducible repeat (first | refine blk_drewN ?_ _ | refine blk_drew ?_ | refine blk_alloc ?_ _)); refine blk_far ?_ (by have h_ := Kd.R_away HO_5.out (fun _ hk => hk); intro e_; exact h_ (by rw [e_]; rfl)) _; (with_reducible repeat (first | refine blk_drewN ?_ _ | refine blk_drew ?_ | refine blk_alloc ?_ _)); refine blk_far ?_ (by have h_ := Kd.R_away HO_5.out (fun _ hk => hk); intro e_; exact h_ (by rw [e_]; rfl)) _; (with_reducible repeat (first | refine blk_drewN ?_ _ | refine blk_drew ?_ | refine blk_alloc ?_ _)); exact BK174.out⟩, ⟨by repeat (first | (with_reducible first | exact HB.out | apply below_alloc | apply pw_below_drewN | apply below_drew1 | refine below_set ?_ GB14.out | refine below_set ?_ GB14.out | refine below_set ?_ GB14.out | refine below_set ?_ GB14.out | refine below_set ?_ GE174.out) | exact HB.out)⟩⟩
                ·replace c40 := Bool.eq_false_iff.mpr c40
                 subst c40
                 have H1 : (if 0 < (l0.length : Int) then (some ((rd_T86 l0 0).f0, (rd_T86 l0 0).f1, x5_1)) else (none)) = some (r1, r2, r3) := by rw [if_neg (show ¬ (false = true) by decide)] at H; exact H
                 clear H
                 have H := H1
                 clear H1
                 by_cases c48 : 0 < (l0.length : Int)
                 ·rw [if_pos c48] at H
                  have c48b0 : decide (0 < (l0.length : Int)) = true := decide_eq_true c48
                  have c48b1 : decide (0 < l0.length) = true := decide_eq_true (by omega)
                  clear c48
                  simp only [Option.some.injEq, Prod.mk.injEq] at H
                  obtain ⟨rfl, rfl, rfl⟩ := H
                  try go_wp2
                  have n0_ := Aside0.mk (Kd.R_drew HO_5.out)
                  have n1_ := Aside0.mk (blk_drew BK174.out)
                  have n2_ := Aside0.mk (below_drew1 HB.out)
                  clear HO_5
                  clear BK174
                  clear HB
                  have HO_5 := n0_
                  have BK174 := n1_
                  have HB := n2_
                  clear n0_ n1_ n2_
                  have p189 : 0 ≤ ((ji34) : Int) := of_decide_eq_true (by first | (with_reducible assumption) | assumption)
                  have q189 : (ji34) < (x5_1.length : Int) := of_decide_eq_true (by first | (with_reducible assumption) | assumption)
                  obtain ⟨ad189, e189, hx189_0, hx189_1⟩ := at_T86 (Kd.R_reads' HO_5.out).2.2 (ji34) p189 q189
                  obtain rfl : (⟨go14, 0, none⟩ : Addr) = ad189 := (by injection e189)
                  (first | simp only [add_plain] at hx189_0 | simp only [add_at] at hx189_0 | simp only [Addr.add, Nat.zero_add] at hx189_0 | skip)
                  (first | simp only [add_plain] at hx189_1 | simp only [add_at] at hx189_1 | simp only [Addr.add, Nat.zero_add] at hx189_1 | skip)
                  replace p189 := eq_true p189
                  replace q189 := eq_true q189
                  have p190 : 0 ≤ (x6_1 : Int) := of_decide_eq_true (by first | (with_reducible assumption) | assumption)
                  have q190 : x6_1 < (x5_1.length : Int) := of_decide_eq_true (by first | (with_reducible assumption) | assumption)
                  obtain ⟨ad190, e190, hx190_0, hx190_1⟩ := at_T86 (Kd.R_reads' HO_5.out).2.2 x6_1 p190 q190
                  obtain rfl : (⟨go14, 0, none⟩ : Addr) = ad190 := (by injection e190)
                  (first | simp only [add_plain] at hx190_0 | simp only [add_at] at hx190_0 | simp only [Addr.add, Nat.zero_add] at hx190_0 | skip)
                  (first | simp only [add_plain] at hx190_1 | simp only [add_at] at hx190_1 | simp only [Addr.add, Nat.zero_add] at hx190_1 | skip)
                  replace p190 := eq_true p190
                  replace q190 := eq_true q190
                  refine start_ (n := 10) (S := fun w' => w'.cell? ⟨go14, ((ji34)).toNat * 2, none⟩ = some (.int .i64 ((rd_T86 x5_1 (ji34)).f0)) ∧ w'.cell? ⟨go14, ((ji34)).toNat * 2 + 1, none⟩ = some (.string ((rd_T86 x5_1 (ji34)).f1)) ∧ w'.cell? ⟨go14, (x6_1).toNat * 2, none⟩ = some (.int .i64 ((rd_T86 x5_1 x6_1).f0)) ∧ w'.cell? ⟨go14, (x6_1).toNat * 2 + 1, none⟩ = some (.string ((rd_T86 x5_1 x6_1).f1))) (ds := []) (bA 10 0) (by kernel_rfl) rfl rfl ⟨hx189_0, hx189_1, hx190_0, hx190_1⟩ (fun hHeld => ?_); refine with_tabW impl_next.tab11 impl_next.bits11 (fun HT_ HW_ => ?_)
                  generalize wc.drew = w49 at HO_5 BK174 HB hx189_0 hx189_1 hx190_0 hx190_1 hHeld ⊢
                  refine pv (i := 0) (N := some 53) (bA 10 1) rfl rfl (any_of HT_.out (by kernel_rfl)) ?_
                  refine pv (i := 1) (N := some 54) (bA 10 3) rfl rfl (any_of HT_.out (by kernel_rfl)) ?_
                  refine pv (i := 2) (N := some 55) (bA 10 7) rfl rfl (any_of HT_.out (by kernel_rfl)) ?_
                  refine pv (i := 4) (N := some 57) (bA 10 23) rfl rfl (any_of HT_.out (by kernel_rfl)) ?_
                  refine pv (i := 5) (N := some 58) (bA 10 55) rfl rfl (any_of HT_.out (by kernel_rfl)) ?_
                  refine pv (i := 6) (N := some 59) (bA 10 119) rfl rfl (any_of HT_.out (by kernel_rfl)) ?_
                  refine take_ (i := 3) (N := some 56) (v := ?_) (a' := ?_) (bA 10 127) rfl rfl (take_ofW HT_.out HW_.out (by kernel_rfl)) (fun _ _ _ h => h) (Or.inl ⟨by rfl, ?_⟩) hHeld ?_ ?_
                  rotate_left
                  ·rintro w' ⟨s0, s1, s2, s3⟩
                   go_simp
                   with_reducible rfl
                  rotate_left
                  ·simp only [sp_]
                   rfl
                  refine take_ (i := 7) (N := some 60) (v := ?_) (a' := ?_) (bA 10 255) rfl rfl (take_ofW HT_.out HW_.out (by kernel_rfl)) (fun _ _ _ h => h) (Or.inl ⟨by rfl, ?_⟩) hHeld ?_ ?_
                  rotate_left
                  ·rintro w' ⟨s0, s1, s2, s3⟩
                   go_simp
                   with_reducible rfl
                  rotate_left
                  ·simp only [sp_]
                   rfl
                  refine one_ (i := 8) (N := some 61) (bA 10 511) rfl rfl (one_of HT_.out (by kernel_rfl)) (by decide) (fun K hK => ?_)
                  refine goes_ Try.func135 (by kernel_rfl) rfl #[.agg #[.int .i64 ((rd_T86 x5_1 (ji34)).f0), .string ((rd_T86 x5_1 (ji34)).f1)], .agg #[.int .i64 ((rd_T86 x5_1 x6_1).f0), .string ((rd_T86 x5_1 x6_1).f1)]] (by rfl) rfl rfl (by (try simp only [List.map_toArray, List.map_cons, List.map_nil]); first | done | (simp only [hji34]; rfl) | rfl | (simp only [List.length_drop, List.length_take]; rfl)) ?_
                  with_reducible refine (impl_Offer_ahead.calls ((rd_T86 x5_1 (ji34)).f0) ((rd_T86 x5_1 (ji34)).f1) ((rd_T86 x5_1 x6_1).f0) ((rd_T86 x5_1 x6_1).f1) false _ A39.out).mono ?_
                  rintro e w50 ⟨rfl, hb⟩
                  have HS0_ := (hb.cell (World.block_lt_of_cell? _ _ (hHeld.1))).trans (hHeld.1)
                  have HS1_ := (hb.cell (World.block_lt_of_cell? _ _ (hHeld.2.1))).trans (hHeld.2.1)
                  have HS2_ := (hb.cell (World.block_lt_of_cell? _ _ (hHeld.2.2.1))).trans (hHeld.2.2.1)
                  have HS3_ := (hb.cell (World.block_lt_of_cell? _ _ (hHeld.2.2.2))).trans (hHeld.2.2.2)
                  refine ⟨_, rfl, ?_⟩
                  have n0_ := Aside0.mk (Kd.R_below (by (with_reducible repeat (first | apply Kd.R_alloc | apply Kd.R_drewN | apply Kd.R_drew)); exact HO_5.out) hb)
                  have n1_ := Aside0.mk (blk_below (g := gb174) (o := .cells #[.int .i64 x175000_1, .string x175001_1] 86 (0, 0)) (by (with_reducible repeat (first | refine blk_drewN ?_ _ | refine blk_drew ?_ | refine blk_alloc ?_ _)); exact BK174.out) hb)
                  have n2_ := Aside0.mk (below_step (by repeat (first | (with_reducible first | exact HB.out | apply below_alloc | apply pw_below_drewN | apply below_drew1 | refine below_set ?_ GE174.out) | exact HB.out)) hb)
                  clear HO_5
                  clear BK174
                  clear HB
                  have HO_5 := n0_
                  have BK174 := n1_
                  have HB := n2_
                  clear n0_ n1_ n2_
                  (try clear hb)
                  (try clear hb2)
                  (try clear hk)
                  (try clear hi)
                  refine hK.out _ _ ⟨HS0_, HS1_, HS2_, HS3_⟩ (fun hHeld => ?_)
                  clear hK K
                  refine norm_ (a' := ?_) ?_ ?_
                  rotate_left
                  ·show Act.put _ (some 61) _ = _
                   simp only [sp_]
                   rfl
                  refine pv (i := 9) (N := some 62) (bA 10 1023) rfl rfl (any_of HT_.out (by kernel_rfl)) ?_
                  refine done_ (done_of HT_.out (by kernel_rfl)) ?_
                  have p196 : 0 ≤ (0 : Int) := (by omega)
                  have q196 : 0 < (l0.length : Int) := of_decide_eq_true (by first | (with_reducible assumption) | assumption)
                  obtain ⟨ad196, e196, hx196_0, hx196_1⟩ := at_T86 HR0.out 0 p196 q196
                  obtain rfl : ad183 = ad196 := (by injection e196)
                  have qi196 : (0 < l0.length) = True := eq_true (by omega)
                  (try rw [show ((0 : Int)).toNat = 0 from rfl] at hx196_0)
                  (try rw [show 0 * 2 = 0 from rfl] at hx196_0)
                  (try rw [Addr.add_zero'] at hx196_0)
                  (try rw [show ((0 : Int)).toNat = 0 from rfl] at hx196_1)
                  (try rw [show 0 * 2 = 0 from rfl] at hx196_1)
                  (try rw [Addr.add_zero'] at hx196_1)
                  replace hx196_0 := (HB.out.cell (World.block_lt_of_cell? w _ hx196_0)).trans hx196_0
                  replace hx196_1 := (HB.out.cell (World.block_lt_of_cell? w _ hx196_1)).trans hx196_1
                  replace p196 := eq_true p196
                  replace q196 := eq_true q196
                  have hcz51_0 : w50.cell? ⟨gb174, 0, none⟩ = some (.int .i64 x175000_1) := (blk_cell BK174.out 0).trans rfl
                  have hcz51_1 : w50.cell? ⟨gb174, 1, none⟩ = some (.string x175001_1) := (blk_cell BK174.out 1).trans rfl
                  have hfz51_0 := blk_frozen BK174.out 0
                  have hfz51_1 := blk_frozen BK174.out 1
                  try go_wp2
                  refine bodyPost_ret (results_ct rfl _ _ gb174 86 #[.int .i64 ((rd_T86 l0 0).f0), .string ((rd_T86 l0 0).f1)] (0, 0) _ rfl (by (with_reducible repeat (first | refine blk_drewN ?_ _ | refine blk_drew ?_ | refine blk_alloc ?_ _)); refine blk_put (cs := #[.int .i64 ((rd_T86 l0 0).f0), .string x175001_1]) ?_ 1 _ rfl; (with_reducible repeat (first | refine blk_drewN ?_ _ | refine blk_drew ?_ | refine blk_alloc ?_ _)); refine blk_put (cs := #[.int .i64 x175000_1, .string x175001_1]) ?_ 0 _ rfl; (with_reducible repeat (first | refine blk_drewN ?_ _ | refine blk_drew ?_ | refine blk_alloc ?_ _)); exact BK174.out) Try.underlying86 rfl (by kernel_rfl)) rfl ?_
                  exact ⟨_, by first | rfl | (simp [errW_none, errW_some] <;> rfl) | (simp only [← hji2, ← hji34]; first | rfl | (simp [errW_none, errW_some] <;> rfl)) | (simp [*, errW_none, errW_some] <;> rfl), by (with_reducible repeat (first | apply Kd.R_alloc | apply Kd.R_drewN | apply Kd.R_drew)); exact Kd.R_mono (Kd.R_far (p := ⟨gb174, 1, none⟩) (Kd.R_far (p := ⟨gb174, 0, none⟩) (Kd.R_mono HO_5.out (fun k_ hk => (⟨hk, hk⟩ : _ ∧ k_ ≠ gb174))) (fun _ hk => hk.2) (.int .i64 ((rd_T86 l0 0).f0))) (fun _ hk => hk.2) (.string ((rd_T86 l0 0).f1))) (fun _ hk => trivial), by repeat (first | (with_reducible first | exact HB.out | apply below_alloc | apply pw_below_drewN | apply below_drew1 | refine below_set ?_ GE174.out) | exact HB.out)⟩
                 ·rw [if_neg c48] at H
                  exact absurd H (by simp)
               ·rw [if_neg c38] at H
                exact absurd H (by simp)
              ·rw [if_neg c37] at H
               exact absurd H (by simp)
             ·rw [if_neg c36] at H
              exact absurd H (by simp)
            ·rw [if_neg c35] at H
             exact absurd H (by simp)
           ·replace c33 := Bool.eq_false_iff.mpr c33
            subst c33
            have H1 : (if 0 ≤ (wrap64 ((wrap64 (2 * x6_1)) + 1)) then (if (wrap64 ((wrap64 (2 * x6_1)) + 1)) < (x5_1.length : Int) then (if 0 ≤ x6_1 then (if x6_1 < (x5_1.length : Int) then ((impl_Offer_ahead.f ((rd_T86 x5_1 (wrap64 ((wrap64 (2 * x6_1)) + 1))).f0) ((rd_T86 x5_1 (wrap64 ((wrap64 (2 * x6_1)) + 1))).f1) ((rd_T86 x5_1 x6_1).f0) ((rd_T86 x5_1 x6_1).f1)).bind fun t199 => (if t199 = true then (impl_next.l0 kj20 l0 ji2 ((x5_1.set (x6_1 : Int).toNat (⟨(rd_T86 x5_1 (wrap64 ((wrap64 (2 * x6_1)) + 1))).f0, (rd_T86 x5_1 (wrap64 ((wrap64 (2 * x6_1)) + 1))).f1⟩ : S86)).set ((wrap64 ((wrap64 (2 * x6_1)) + 1)) : Int).toNat (⟨(rd_T86 x5_1 x6_1).f0, (rd_T86 x5_1 x6_1).f1⟩ : S86)) (wrap64 ((wrap64 (2 * x6_1)) + 1))) else (if 0 < (l0.length : Int) then (some ((rd_T86 l0 0).f0, (rd_T86 l0 0).f1, x5_1)) else (none)))) else (none)) else (none)) else (none)) else (none)) = some (r1, r2, r3) := by rw [if_neg (show ¬ (false = true) by decide)] at H; exact H
            clear H
            have H := H1
            clear H1
            obtain ⟨ji52, hji52⟩ : ∃ j_ : Int, (wrap64 ((wrap64 (2 * x6_1)) + 1)) = j_ := ⟨_, rfl⟩
            replace H : (if 0 ≤ (ji52) then (if (ji52) < (x5_1.length : Int) then (if 0 ≤ x6_1 then (if x6_1 < (x5_1.length : Int) then ((impl_Offer_ahead.f ((rd_T86 x5_1 (ji52)).f0) ((rd_T86 x5_1 (ji52)).f1) ((rd_T86 x5_1 x6_1).f0) ((rd_T86 x5_1 x6_1).f1)).bind fun t199 => (if t199 = true then (impl_next.l0 kj20 l0 ji2 ((x5_1.set (x6_1 : Int).toNat (⟨(rd_T86 x5_1 (ji52)).f0, (rd_T86 x5_1 (ji52)).f1⟩ : S86)).set ((ji52) : Int).toNat (⟨(rd_T86 x5_1 x6_1).f0, (rd_T86 x5_1 x6_1).f1⟩ : S86)) (ji52)) else (if 0 < (l0.length : Int) then (some ((rd_T86 l0 0).f0, (rd_T86 l0 0).f1, x5_1)) else (none)))) else (none)) else (none)) else (none)) else (none)) = some (r1, r2, r3) := by first | (rw [hji52] at H; exact H) | (simp only [hji52] at H ⊢; exact H)
            (try rw [hji52] at c20b0)
            have hji52w : (IntKind.i64.wrap ((wrap64 (2 * x6_1)) + 1)) = ji52 := (i64_w _).trans hji52
            by_cases c53 : 0 ≤ (ji52)
            ·rw [if_pos c53] at H
             have c53b0 : decide (0 ≤ (ji52)) = true := decide_eq_true c53
             clear c53
             by_cases c54 : (ji52) < (x5_1.length : Int)
             ·rw [if_pos c54] at H
              have c54b0 : decide ((ji52) < (x5_1.length : Int)) = true := decide_eq_true c54
              clear c54
              by_cases c55 : 0 ≤ x6_1
              ·rw [if_pos c55] at H
               have c55b0 : decide (0 ≤ x6_1) = true := decide_eq_true c55
               clear c55
               by_cases c56 : x6_1 < (x5_1.length : Int)
               ·rw [if_pos c56] at H
                have c56b0 : decide (x6_1 < (x5_1.length : Int)) = true := decide_eq_true c56
                clear c56
                replace H := Option.bind_eq_some_iff.mp H
                obtain ⟨t199, A570, H⟩ := H
                replace H : (if t199 = true then (impl_next.l0 kj20 l0 ji2 ((x5_1.set (x6_1 : Int).toNat (⟨(rd_T86 x5_1 (ji52)).f0, (rd_T86 x5_1 (ji52)).f1⟩ : S86)).set ((ji52) : Int).toNat (⟨(rd_T86 x5_1 x6_1).f0, (rd_T86 x5_1 x6_1).f1⟩ : S86)) (ji52)) else (if 0 < (l0.length : Int) then (some ((rd_T86 l0 0).f0, (rd_T86 l0 0).f1, x5_1)) else (none))) = some (r1, r2, r3) := H
                have A57 := Aside0.mk A570
                clear A570
                by_cases c58 : t199 = true
                ·subst c58
                 have H1 : (impl_next.l0 kj20 l0 ji2 ((x5_1.set (x6_1 : Int).toNat (⟨(rd_T86 x5_1 (ji52)).f0, (rd_T86 x5_1 (ji52)).f1⟩ : S86)).set ((ji52) : Int).toNat (⟨(rd_T86 x5_1 x6_1).f0, (rd_T86 x5_1 x6_1).f1⟩ : S86)) (ji52)) = some (r1, r2, r3) := by rw [if_pos rfl] at H; exact H
                 clear H
                 have H := H1
                 clear H1
                 obtain ⟨y202, hy202⟩ : ∃ y_ : List (S86), y_ = (x5_1.set (x6_1 : Int).toNat (⟨(rd_T86 x5_1 (ji52)).f0, (rd_T86 x5_1 (ji52)).f1⟩ : S86)) := ⟨_, rfl⟩
                 replace H : (impl_next.l0 kj20 l0 ji2 (y202.set ((ji52) : Int).toNat (⟨(rd_T86 x5_1 x6_1).f0, (rd_T86 x5_1 x6_1).f1⟩ : S86)) (ji52)) = some (r1, r2, r3) := by first | (rw [hy202]; with_reducible exact H) | (have H2_ := (Option.bind_some _ _).symm.trans H; rw [hy202]; with_reducible exact H2_) | (have H2_ := (Option.bind_some _ _).symm.trans H; with_reducible exact H2_) | with_reducible exact H | (rw [hy202]; exact H) | exact H
                 have Ny202 := Aside0.mk hy202
                 clear hy202
                 obtain ⟨y203, hy203⟩ : ∃ y_ : List (S86), y_ = (y202.set ((ji52) : Int).toNat (⟨(rd_T86 x5_1 x6_1).f0, (rd_T86 x5_1 x6_1).f1⟩ : S86)) := ⟨_, rfl⟩
                 replace H : (impl_next.l0 kj20 l0 ji2 y203 (ji52)) = some (r1, r2, r3) := by first | (rw [hy203]; with_reducible exact H) | (have H2_ := (Option.bind_some _ _).symm.trans H; rw [hy203]; with_reducible exact H2_) | (have H2_ := (Option.bind_some _ _).symm.trans H; with_reducible exact H2_) | with_reducible exact H | (rw [hy203]; exact H) | exact H
                 have Ny203 := Aside0.mk hy203
                 clear hy203
                 have H' := Aside0.mk H
                 clear H
                 try go_wp2
                 have n0_ := Aside0.mk (Kd.R_drew HO_5.out)
                 have n1_ := Aside0.mk (blk_drew BK174.out)
                 have n2_ := Aside0.mk (below_drew1 HB.out)
                 clear HO_5
                 clear BK174
                 clear HB
                 have HO_5 := n0_
                 have BK174 := n1_
                 have HB := n2_
                 clear n0_ n1_ n2_
                 have p197 : 0 ≤ ((ji52) : Int) := of_decide_eq_true (by first | (with_reducible assumption) | assumption)
                 have q197 : (ji52) < (x5_1.length : Int) := of_decide_eq_true (by first | (with_reducible assumption) | assumption)
                 obtain ⟨ad197, e197, hx197_0, hx197_1⟩ := at_T86 (Kd.R_reads' HO_5.out).2.2 (ji52) p197 q197
                 obtain rfl : (⟨go14, 0, none⟩ : Addr) = ad197 := (by injection e197)
                 (first | simp only [add_plain] at hx197_0 | simp only [add_at] at hx197_0 | simp only [Addr.add, Nat.zero_add] at hx197_0 | skip)
                 (first | simp only [add_plain] at hx197_1 | simp only [add_at] at hx197_1 | simp only [Addr.add, Nat.zero_add] at hx197_1 | skip)
                 replace p197 := eq_true p197
                 replace q197 := eq_true q197
                 have p198 : 0 ≤ (x6_1 : Int) := of_decide_eq_true (by first | (with_reducible assumption) | assumption)
                 have q198 : x6_1 < (x5_1.length : Int) := of_decide_eq_true (by first | (with_reducible assumption) | assumption)
                 obtain ⟨ad198, e198, hx198_0, hx198_1⟩ := at_T86 (Kd.R_reads' HO_5.out).2.2 x6_1 p198 q198
                 obtain rfl : (⟨go14, 0, none⟩ : Addr) = ad198 := (by injection e198)
                 (first | simp only [add_plain] at hx198_0 | simp only [add_at] at hx198_0 | simp only [Addr.add, Nat.zero_add] at hx198_0 | skip)
                 (first | simp only [add_plain] at hx198_1 | simp only [add_at] at hx198_1 | simp only [Addr.add, Nat.zero_add] at hx198_1 | skip)
                 replace p198 := eq_true p198
                 replace q198 := eq_true q198
                 refine start_ (n := 10) (S := fun w' => w'.cell? ⟨go14, ((ji52)).toNat * 2, none⟩ = some (.int .i64 ((rd_T86 x5_1 (ji52)).f0)) ∧ w'.cell? ⟨go14, ((ji52)).toNat * 2 + 1, none⟩ = some (.string ((rd_T86 x5_1 (ji52)).f1)) ∧ w'.cell? ⟨go14, (x6_1).toNat * 2, none⟩ = some (.int .i64 ((rd_T86 x5_1 x6_1).f0)) ∧ w'.cell? ⟨go14, (x6_1).toNat * 2 + 1, none⟩ = some (.string ((rd_T86 x5_1 x6_1).f1))) (ds := []) (bA 10 0) (by kernel_rfl) rfl rfl ⟨hx197_0, hx197_1, hx198_0, hx198_1⟩ (fun hHeld => ?_); refine with_tabW impl_next.tab11 impl_next.bits11 (fun HT_ HW_ => ?_)
                 generalize wc.drew = w61 at HO_5 BK174 HB hx197_0 hx197_1 hx198_0 hx198_1 hHeld ⊢
                 refine pv (i := 0) (N := some 53) (bA 10 1) rfl rfl (any_of HT_.out (by kernel_rfl)) ?_
                 refine pv (i := 1) (N := some 54) (bA 10 3) rfl rfl (any_of HT_.out (by kernel_rfl)) ?_
                 refine pv (i := 2) (N := some 55) (bA 10 7) rfl rfl (any_of HT_.out (by kernel_rfl)) ?_
                 refine pv (i := 4) (N := some 57) (bA 10 23) rfl rfl (any_of HT_.out (by kernel_rfl)) ?_
                 refine pv (i := 5) (N := some 58) (bA 10 55) rfl rfl (any_of HT_.out (by kernel_rfl)) ?_
                 refine pv (i := 6) (N := some 59) (bA 10 119) rfl rfl (any_of HT_.out (by kernel_rfl)) ?_
                 refine take_ (i := 3) (N := some 56) (v := ?_) (a' := ?_) (bA 10 127) rfl rfl (take_ofW HT_.out HW_.out (by kernel_rfl)) (fun _ _ _ h => h) (Or.inl ⟨by rfl, ?_⟩) hHeld ?_ ?_
                 rotate_left
                 ·rintro w' ⟨s0, s1, s2, s3⟩
                  go_simp
                  with_reducible rfl
                 rotate_left
                 ·simp only [sp_]
                  rfl
                 refine take_ (i := 7) (N := some 60) (v := ?_) (a' := ?_) (bA 10 255) rfl rfl (take_ofW HT_.out HW_.out (by kernel_rfl)) (fun _ _ _ h => h) (Or.inl ⟨by rfl, ?_⟩) hHeld ?_ ?_
                 rotate_left
                 ·rintro w' ⟨s0, s1, s2, s3⟩
                  go_simp
                  with_reducible rfl
                 rotate_left
                 ·simp only [sp_]
                  rfl
                 refine one_ (i := 8) (N := some 61) (bA 10 511) rfl rfl (one_of HT_.out (by kernel_rfl)) (by decide) (fun K hK => ?_)
                 refine goes_ Try.func135 (by kernel_rfl) rfl #[.agg #[.int .i64 ((rd_T86 x5_1 (ji52)).f0), .string ((rd_T86 x5_1 (ji52)).f1)], .agg #[.int .i64 ((rd_T86 x5_1 x6_1).f0), .string ((rd_T86 x5_1 x6_1).f1)]] (by rfl) rfl rfl (by (try simp only [List.map_toArray, List.map_cons, List.map_nil]); first | done | (simp only [hji52]; rfl) | rfl | (simp only [List.length_drop, List.length_take]; rfl)) ?_
                 with_reducible refine (impl_Offer_ahead.calls ((rd_T86 x5_1 (ji52)).f0) ((rd_T86 x5_1 (ji52)).f1) ((rd_T86 x5_1 x6_1).f0) ((rd_T86 x5_1 x6_1).f1) true _ A57.out).mono ?_
                 rintro e w62 ⟨rfl, hb⟩
                 have HS0_ := (hb.cell (World.block_lt_of_cell? _ _ (hHeld.1))).trans (hHeld.1)
                 have HS1_ := (hb.cell (World.block_lt_of_cell? _ _ (hHeld.2.1))).trans (hHeld.2.1)
                 have HS2_ := (hb.cell (World.block_lt_of_cell? _ _ (hHeld.2.2.1))).trans (hHeld.2.2.1)
                 have HS3_ := (hb.cell (World.block_lt_of_cell? _ _ (hHeld.2.2.2))).trans (hHeld.2.2.2)
                 refine ⟨_, rfl, ?_⟩
                 have n0_ := Aside0.mk (Kd.R_below (by (with_reducible repeat (first | apply Kd.R_alloc | apply Kd.R_drewN | apply Kd.R_drew)); exact HO_5.out) hb)
                 have n1_ := Aside0.mk (blk_below (g := gb174) (o := .cells #[.int .i64 x175000_1, .string x175001_1] 86 (0, 0)) (by (with_reducible repeat (first | refine blk_drewN ?_ _ | refine blk_drew ?_ | refine blk_alloc ?_ _)); exact BK174.out) hb)
                 have n2_ := Aside0.mk (below_step (by repeat (first | (with_reducible first | exact HB.out | apply below_alloc | apply pw_below_drewN | apply below_drew1 | refine below_set ?_ GE174.out) | exact HB.out)) hb)
                 clear HO_5
                 clear BK174
                 clear HB
                 have HO_5 := n0_
                 have BK174 := n1_
                 have HB := n2_
                 clear n0_ n1_ n2_
                 (try clear hb)
                 (try clear hb2)
                 (try clear hk)
                 (try clear hi)
                 refine hK.out _ _ ⟨HS0_, HS1_, HS2_, HS3_⟩ (fun hHeld => ?_)
                 clear hK K
                 refine norm_ (a' := ?_) ?_ ?_
                 rotate_left
                 ·show Act.put _ (some 61) _ = _
                  simp only [sp_]
                  rfl
                 refine pv (i := 9) (N := some 62) (bA 10 1023) rfl rfl (any_of HT_.out (by kernel_rfl)) ?_
                 refine done_ (done_of HT_.out (by kernel_rfl)) ?_
                 try go_wp2
                 have n0_ := Aside0.mk (Kd.R_drew HO_5.out)
                 have n1_ := Aside0.mk (blk_drew BK174.out)
                 have n2_ := Aside0.mk (below_drew1 HB.out)
                 clear HO_5
                 clear BK174
                 clear HB
                 have HO_5 := n0_
                 have BK174 := n1_
                 have HB := n2_
                 clear n0_ n1_ n2_
                 have p200 : 0 ≤ ((ji52) : Int) := of_decide_eq_true (by first | (with_reducible assumption) | assumption)
                 have q200 : (ji52) < (x5_1.length : Int) := of_decide_eq_true (by first | (with_reducible assumption) | assumption)
                 obtain ⟨ad200, e200, hx200_0, hx200_1⟩ := at_T86 (Kd.R_reads' HO_5.out).2.2 (ji52) p200 q200
                 obtain rfl : (⟨go14, 0, none⟩ : Addr) = ad200 := (by injection e200)
                 (first | simp only [add_plain] at hx200_0 | simp only [add_at] at hx200_0 | simp only [Addr.add, Nat.zero_add] at hx200_0 | skip)
                 (first | simp only [add_plain] at hx200_1 | simp only [add_at] at hx200_1 | simp only [Addr.add, Nat.zero_add] at hx200_1 | skip)
                 replace p200 := eq_true p200
                 replace q200 := eq_true q200
                 have p201 : 0 ≤ (x6_1 : Int) := of_decide_eq_true (by first | (with_reducible assumption) | assumption)
                 have q201 : x6_1 < (x5_1.length : Int) := of_decide_eq_true (by first | (with_reducible assumption) | assumption)
                 obtain ⟨ad201, e201, hx201_0, hx201_1⟩ := at_T86 (Kd.R_reads' HO_5.out).2.2 x6_1 p201 q201
                 obtain rfl : (⟨go14, 0, none⟩ : Addr) = ad201 := (by injection e201)
                 (first | simp only [add_plain] at hx201_0 | simp only [add_at] at hx201_0 | simp only [Addr.add, Nat.zero_add] at hx201_0 | skip)
                 (first | simp only [add_plain] at hx201_1 | simp only [add_at] at hx201_1 | simp only [Addr.add, Nat.zero_add] at hx201_1 | skip)
                 replace p201 := eq_true p201
                 replace q201 := eq_true q201
                 have p59 : 0 ≤ (x6_1 : Int) := of_decide_eq_true (by first | (with_reducible assumption) | assumption)
                 have q59 : (x6_1 : Int) < ((x5_1.length : Int) : Int) := of_decide_eq_true (by first | (with_reducible assumption) | assumption)
                 obtain ⟨ce59, hcl59, hM59, hcc59, hfr59⟩ := Kd.R_elem HO_5.out z86 (x6_1 : Int) p59 q59
                 obtain rfl := k86_openM hM59
                 have hx59_0 : World.cell? _ ⟨go14, (x6_1 : Int).toNat * 2, none⟩ = some (.int .i64 ((rd_T86 x5_1 x6_1).f0)) := hcc59 0 _ rfl
                 have hx59_1 : World.cell? _ ⟨go14, (x6_1 : Int).toNat * 2 + 1, none⟩ = some (.string ((rd_T86 x5_1 x6_1).f1)) := hcc59 1 _ rfl
                 have hf59_0 : World.frozen? _ ⟨go14, (x6_1 : Int).toNat * 2, none⟩ = false := hfr59 0
                 have hf59_1 : World.frozen? _ ⟨go14, (x6_1 : Int).toNat * 2 + 1, none⟩ = false := hfr59 1
                 clear hcl59 hcc59 hfr59 hM59
                 replace p59 := eq_true p59
                 replace q59 := eq_true q59
                 obtain ⟨ce64, hcl64, hM64, hcc64, hfr64⟩ := Kd.R_elem HO_5.out z86 (x6_1 : Int) (of_decide_eq_true (by first | (with_reducible assumption) | assumption)) (by have h_ : (x6_1 : Int) < ((x5_1.length : Int) : Int) := of_decide_eq_true (by first | (with_reducible assumption) | assumption); first | exact h_ | (have e_ := (Kd.R_reads' HO_5.out).1; omega) | simpa using h_)
                 obtain rfl := k86_openM hM64
                 have HP64 := (Kd.R_seg HO_5.out (x6_1 : Int) (of_decide_eq_true (by first | (with_reducible assumption) | assumption)) (by have h_ : (x6_1 : Int) < ((x5_1.length : Int) : Int) := of_decide_eq_true (by first | (with_reducible assumption) | assumption); first | exact h_ | (have e_ := (Kd.R_reads' HO_5.out).1; omega) | simpa using h_) (seg := [.int .i64 ((rd_T86 x5_1 (ji52)).f0), .string ((rd_T86 x5_1 (ji52)).f1)]) (j := 0) hcl64 hcc64 (show 2 ≤ 2 from by decide) (x' := (⟨(rd_T86 x5_1 (ji52)).f0, (rd_T86 x5_1 (ji52)).f1⟩ : S86)) (k86_mkM _ _ _ (⟨(rd_T86 x5_1 (ji52)).f0, (rd_T86 x5_1 (ji52)).f1⟩ : S86) ) (fun _ hk => hk)).1
                 rw [← Ny202.out] at HP64
                 have HQ64 := Aside0.mk HP64
                 clear hcl64 hcc64 hfr64 hM64 HP64
                 have p60 : 0 ≤ ((ji52) : Int) := of_decide_eq_true (by first | (with_reducible assumption) | assumption)
                 have q60 : ((ji52) : Int) < ((x5_1.length : Int) : Int) := of_decide_eq_true (by first | (with_reducible assumption) | assumption)
                 obtain ⟨ce60, hcl60, hM60, hcc60, hfr60⟩ := Kd.R_elem HQ64.out z86 ((ji52) : Int) p60 q60
                 obtain rfl := k86_openM hM60
                 have hx60_0 : World.cell? _ ⟨go14, ((ji52) : Int).toNat * 2, none⟩ = some (.int .i64 ((rd_T86 y202 (ji52)).f0)) := hcc60 0 _ rfl
                 have hx60_1 : World.cell? _ ⟨go14, ((ji52) : Int).toNat * 2 + 1, none⟩ = some (.string ((rd_T86 y202 (ji52)).f1)) := hcc60 1 _ rfl
                 have hf60_0 : World.frozen? _ ⟨go14, ((ji52) : Int).toNat * 2, none⟩ = false := hfr60 0
                 have hf60_1 : World.frozen? _ ⟨go14, ((ji52) : Int).toNat * 2 + 1, none⟩ = false := hfr60 1
                 clear hcl60 hcc60 hfr60 hM60
                 replace p60 := eq_true p60
                 replace q60 := eq_true q60
                 obtain ⟨ce65, hcl65, hM65, hcc65, hfr65⟩ := Kd.R_elem HQ64.out z86 ((ji52) : Int) (of_decide_eq_true (by first | (with_reducible assumption) | assumption)) (by have h_ : ((ji52) : Int) < ((x5_1.length : Int) : Int) := of_decide_eq_true (by first | (with_reducible assumption) | assumption); first | exact h_ | (have e_ := (Kd.R_reads' HO_5.out).1; omega) | simpa using h_)
                 obtain rfl := k86_openM hM65
                 have HP65 := (Kd.R_seg HQ64.out ((ji52) : Int) (of_decide_eq_true (by first | (with_reducible assumption) | assumption)) (by have h_ : ((ji52) : Int) < ((x5_1.length : Int) : Int) := of_decide_eq_true (by first | (with_reducible assumption) | assumption); first | exact h_ | (have e_ := (Kd.R_reads' HO_5.out).1; omega) | simpa using h_) (seg := [.int .i64 ((rd_T86 x5_1 x6_1).f0), .string ((rd_T86 x5_1 x6_1).f1)]) (j := 0) hcl65 hcc65 (show 2 ≤ 2 from by decide) (x' := (⟨(rd_T86 x5_1 x6_1).f0, (rd_T86 x5_1 x6_1).f1⟩ : S86)) (k86_mkM _ _ _ (⟨(rd_T86 x5_1 x6_1).f0, (rd_T86 x5_1 x6_1).f1⟩ : S86) ) (fun _ hk => hk)).1
                 rw [← Ny203.out] at HP65
                 have HQ65 := Aside0.mk HP65
                 clear hcl65 hcc65 hfr65 hM65 HP65
                 refine start_ (n := 16) (S := fun w' => w'.cell? ⟨go14, ((ji52)).toNat * 2, none⟩ = some (.int .i64 ((rd_T86 x5_1 (ji52)).f0)) ∧ w'.cell? ⟨go14, ((ji52)).toNat * 2 + 1, none⟩ = some (.string ((rd_T86 x5_1 (ji52)).f1)) ∧ w'.cell? ⟨go14, (x6_1).toNat * 2, none⟩ = some (.int .i64 ((rd_T86 x5_1 x6_1).f0)) ∧ w'.cell? ⟨go14, (x6_1).toNat * 2 + 1, none⟩ = some (.string ((rd_T86 x5_1 x6_1).f1))) (ds := [13, 15]) (bA 16 0) (by kernel_rfl) rfl rfl ⟨hx200_0, hx200_1, hx201_0, hx201_1⟩ (fun hHeld => ?_); refine with_tabW impl_next.tab12 impl_next.bits12 (fun HT_ HW_ => ?_)
                 generalize w62.drew = w63 at HO_5 BK174 HB HQ64 HQ65 hf59_0 hf59_1 hf60_0 hf60_1 hx200_0 hx200_1 hx201_0 hx201_1 hx59_0 hx59_1 hx60_0 hx60_1 hHeld ⊢
                 try (have hf60_0b := hf60_0; simp [World.setCells, go_sem, show k86.sz = 2 from rfl] at hf60_0b)
                 try (have hf60_1b := hf60_1; simp [World.setCells, go_sem, show k86.sz = 2 from rfl] at hf60_1b)
                 try (have hx60_0b := hx60_0; simp [World.setCells, go_sem, show k86.sz = 2 from rfl] at hx60_0b)
                 try (have hx60_1b := hx60_1; simp [World.setCells, go_sem, show k86.sz = 2 from rfl] at hx60_1b)
                 refine pv (i := 0) (N := some 63) (bA 16 1) rfl rfl (any_of HT_.out (by kernel_rfl)) ?_
                 refine pv (i := 1) (N := some 64) (bA 16 3) rfl rfl (any_of HT_.out (by kernel_rfl)) ?_
                 refine pv (i := 2) (N := some 65) (bA 16 7) rfl rfl (any_of HT_.out (by kernel_rfl)) ?_
                 refine pv (i := 3) (N := some 66) (bA 16 15) rfl rfl (any_of HT_.out (by kernel_rfl)) ?_
                 refine pv (i := 4) (N := some 67) (bA 16 31) rfl rfl (any_of HT_.out (by kernel_rfl)) ?_
                 refine pv (i := 5) (N := some 68) (bA 16 63) rfl rfl (any_of HT_.out (by kernel_rfl)) ?_
                 refine pv (i := 6) (N := some 69) (bA 16 127) rfl rfl (any_of HT_.out (by kernel_rfl)) ?_
                 refine pv (i := 8) (N := some 71) (bA 16 383) rfl rfl (any_of HT_.out (by kernel_rfl)) ?_
                 refine pv (i := 9) (N := some 72) (bA 16 895) rfl rfl (any_of HT_.out (by kernel_rfl)) ?_
                 refine pv (i := 10) (N := some 73) (bA 16 1919) rfl rfl (any_of HT_.out (by kernel_rfl)) ?_
                 refine take_ (i := 7) (N := some 70) (v := ?_) (a' := ?_) (bA 16 2047) rfl rfl (take_ofW HT_.out HW_.out (by kernel_rfl)) (fun _ _ _ h => h) (Or.inl ⟨by rfl, ?_⟩) hHeld ?_ ?_
                 rotate_left
                 ·rintro w' ⟨s0, s1, s2, s3⟩
                  go_simp
                  with_reducible rfl
                 rotate_left
                 ·simp only [sp_]
                  rfl
                 refine take_ (i := 11) (N := some 74) (v := ?_) (a' := ?_) (bA 16 4095) rfl rfl (take_ofW HT_.out HW_.out (by kernel_rfl)) (fun _ _ _ h => h) (Or.inl ⟨by rfl, ?_⟩) hHeld ?_ ?_
                 rotate_left
                 ·rintro w' ⟨s0, s1, s2, s3⟩
                  go_simp
                  with_reducible rfl
                 rotate_left
                 ·simp only [sp_]
                  rfl
                 refine pv (i := 12) (N := some 75) (bA 16 8191) rfl rfl (any_of HT_.out (by kernel_rfl)) ?_
                 refine last_ (i := 13) (N := none) (bA 16 16383) rfl rfl (one_of HT_.out (by kernel_rfl)) (by decide) (fun K hK => ?_)
                 refine skip_ (w1 := ?_) (by rfl) rfl ?_ ?_
                 rotate_left
                 ·go_simp
                  rfl
                 refine hK.out _ _ ?_
                 clear hK K
                 refine pv (i := 14) (N := some 76) (bA 16 32767) rfl rfl (any_of HT_.out (by kernel_rfl)) ?_
                 refine last_ (i := 15) (N := none) (bA 16 65535) rfl rfl (one_of HT_.out (by kernel_rfl)) (by decide) (fun K hK => ?_)
                 refine skip_ (w1 := ?_) (by rfl) rfl ?_ ?_
                 rotate_left
                 ·go_simp
                  rfl
                 refine hK.out _ _ ?_
                 clear hK K
                 refine done_ (done_of HT_.out (by kernel_rfl)) ?_
                 try go_wp2
                 (try simp only [← hl5_1])
                 go_roundg kj20
                 case measure => have := HK1.out; have := HJ20.out; omega
                 case rel => exact ⟨(y203), ((ji52)), (x175000_1), (x175001_1), (by first | rfl | (simp; done) | (simp only [← hji52] <;> (first | rfl | simp)) | (simp [*]; done)), H', ⟨by have := HK1.out; have := HJ20.out; omega⟩, ⟨by (try simp only [hl5_1]); (with_reducible repeat (first | apply Kd.R_alloc | apply Kd.R_drewN | apply Kd.R_drew)); exact HQ65.out⟩, ⟨by (try simp only [hl5_1]); (with_reducible repeat (first | refine blk_drewN ?_ _ | refine blk_drew ?_ | refine blk_alloc ?_ _)); refine blk_far ?_ (by have h_ := Kd.R_away HO_5.out (fun _ hk => hk); intro e_; exact h_ (by rw [e_]; rfl)) _; (with_reducible repeat (first | refine blk_drewN ?_ _ | refine blk_drew ?_ | refine blk_alloc ?_ _)); refine blk_far ?_ (by have h_ := Kd.R_away HO_5.out (fun _ hk => hk); intro e_; exact h_ (by rw [e_]; rfl)) _; (with_reducible repeat (first | refine blk_drewN ?_ _ | refine blk_drew ?_ | refine blk_alloc ?_ _)); refine blk_far ?_ (by have h_ := Kd.R_away HO_5.out (fun _ hk => hk); intro e_; exact h_ (by rw [e_]; rfl)) _; (with_reducible repeat (first | refine blk_drewN ?_ _ | refine blk_drew ?_ | refine blk_alloc ?_ _)); refine blk_far ?_ (by have h_ := Kd.R_away HO_5.out (fun _ hk => hk); intro e_; exact h_ (by rw [e_]; rfl)) _; (with_reducible repeat (first | refine blk_drewN ?_ _ | refine blk_drew ?_ | refine blk_alloc ?_ _)); exact BK174.out⟩, ⟨by repeat (first | (with_reducible first | exact HB.out | apply below_alloc | apply pw_below_drewN | apply below_drew1 | refine below_set ?_ GB14.out | refine below_set ?_ GB14.out | refine below_set ?_ GB14.out | refine below_set ?_ GB14.out | refine below_set ?_ GE174.out) | exact HB.out)⟩⟩
                ·replace c58 := Bool.eq_false_iff.mpr c58
                 subst c58
                 have H1 : (if 0 < (l0.length : Int) then (some ((rd_T86 l0 0).f0, (rd_T86 l0 0).f1, x5_1)) else (none)) = some (r1, r2, r3) := by rw [if_neg (show ¬ (false = true) by decide)] at H; exact H
                 clear H
                 have H := H1
                 clear H1
                 by_cases c66 : 0 < (l0.length : Int)
                 ·rw [if_pos c66] at H
                  have c66b0 : decide (0 < (l0.length : Int)) = true := decide_eq_true c66
                  have c66b1 : decide (0 < l0.length) = true := decide_eq_true (by omega)
                  clear c66
                  simp only [Option.some.injEq, Prod.mk.injEq] at H
                  obtain ⟨rfl, rfl, rfl⟩ := H
                  try go_wp2
                  have n0_ := Aside0.mk (Kd.R_drew HO_5.out)
                  have n1_ := Aside0.mk (blk_drew BK174.out)
                  have n2_ := Aside0.mk (below_drew1 HB.out)
                  clear HO_5
                  clear BK174
                  clear HB
                  have HO_5 := n0_
                  have BK174 := n1_
                  have HB := n2_
                  clear n0_ n1_ n2_
                  have p197 : 0 ≤ ((ji52) : Int) := of_decide_eq_true (by first | (with_reducible assumption) | assumption)
                  have q197 : (ji52) < (x5_1.length : Int) := of_decide_eq_true (by first | (with_reducible assumption) | assumption)
                  obtain ⟨ad197, e197, hx197_0, hx197_1⟩ := at_T86 (Kd.R_reads' HO_5.out).2.2 (ji52) p197 q197
                  obtain rfl : (⟨go14, 0, none⟩ : Addr) = ad197 := (by injection e197)
                  (first | simp only [add_plain] at hx197_0 | simp only [add_at] at hx197_0 | simp only [Addr.add, Nat.zero_add] at hx197_0 | skip)
                  (first | simp only [add_plain] at hx197_1 | simp only [add_at] at hx197_1 | simp only [Addr.add, Nat.zero_add] at hx197_1 | skip)
                  replace p197 := eq_true p197
                  replace q197 := eq_true q197
                  have p198 : 0 ≤ (x6_1 : Int) := of_decide_eq_true (by first | (with_reducible assumption) | assumption)
                  have q198 : x6_1 < (x5_1.length : Int) := of_decide_eq_true (by first | (with_reducible assumption) | assumption)
                  obtain ⟨ad198, e198, hx198_0, hx198_1⟩ := at_T86 (Kd.R_reads' HO_5.out).2.2 x6_1 p198 q198
                  obtain rfl : (⟨go14, 0, none⟩ : Addr) = ad198 := (by injection e198)
                  (first | simp only [add_plain] at hx198_0 | simp only [add_at] at hx198_0 | simp only [Addr.add, Nat.zero_add] at hx198_0 | skip)
                  (first | simp only [add_plain] at hx198_1 | simp only [add_at] at hx198_1 | simp only [Addr.add, Nat.zero_add] at hx198_1 | skip)
                  replace p198 := eq_true p198
                  replace q198 := eq_true q198
                  refine start_ (n := 10) (S := fun w' => w'.cell? ⟨go14, ((ji52)).toNat * 2, none⟩ = some (.int .i64 ((rd_T86 x5_1 (ji52)).f0)) ∧ w'.cell? ⟨go14, ((ji52)).toNat * 2 + 1, none⟩ = some (.string ((rd_T86 x5_1 (ji52)).f1)) ∧ w'.cell? ⟨go14, (x6_1).toNat * 2, none⟩ = some (.int .i64 ((rd_T86 x5_1 x6_1).f0)) ∧ w'.cell? ⟨go14, (x6_1).toNat * 2 + 1, none⟩ = some (.string ((rd_T86 x5_1 x6_1).f1))) (ds := []) (bA 10 0) (by kernel_rfl) rfl rfl ⟨hx197_0, hx197_1, hx198_0, hx198_1⟩ (fun hHeld => ?_); refine with_tabW impl_next.tab11 impl_next.bits11 (fun HT_ HW_ => ?_)
                  generalize wc.drew = w67 at HO_5 BK174 HB hx197_0 hx197_1 hx198_0 hx198_1 hHeld ⊢
                  refine pv (i := 0) (N := some 53) (bA 10 1) rfl rfl (any_of HT_.out (by kernel_rfl)) ?_
                  refine pv (i := 1) (N := some 54) (bA 10 3) rfl rfl (any_of HT_.out (by kernel_rfl)) ?_
                  refine pv (i := 2) (N := some 55) (bA 10 7) rfl rfl (any_of HT_.out (by kernel_rfl)) ?_
                  refine pv (i := 4) (N := some 57) (bA 10 23) rfl rfl (any_of HT_.out (by kernel_rfl)) ?_
                  refine pv (i := 5) (N := some 58) (bA 10 55) rfl rfl (any_of HT_.out (by kernel_rfl)) ?_
                  refine pv (i := 6) (N := some 59) (bA 10 119) rfl rfl (any_of HT_.out (by kernel_rfl)) ?_
                  refine take_ (i := 3) (N := some 56) (v := ?_) (a' := ?_) (bA 10 127) rfl rfl (take_ofW HT_.out HW_.out (by kernel_rfl)) (fun _ _ _ h => h) (Or.inl ⟨by rfl, ?_⟩) hHeld ?_ ?_
                  rotate_left
                  ·rintro w' ⟨s0, s1, s2, s3⟩
                   go_simp
                   with_reducible rfl
                  rotate_left
                  ·simp only [sp_]
                   rfl
                  refine take_ (i := 7) (N := some 60) (v := ?_) (a' := ?_) (bA 10 255) rfl rfl (take_ofW HT_.out HW_.out (by kernel_rfl)) (fun _ _ _ h => h) (Or.inl ⟨by rfl, ?_⟩) hHeld ?_ ?_
                  rotate_left
                  ·rintro w' ⟨s0, s1, s2, s3⟩
                   go_simp
                   with_reducible rfl
                  rotate_left
                  ·simp only [sp_]
                   rfl
                  refine one_ (i := 8) (N := some 61) (bA 10 511) rfl rfl (one_of HT_.out (by kernel_rfl)) (by decide) (fun K hK => ?_)
                  refine goes_ Try.func135 (by kernel_rfl) rfl #[.agg #[.int .i64 ((rd_T86 x5_1 (ji52)).f0), .string ((rd_T86 x5_1 (ji52)).f1)], .agg #[.int .i64 ((rd_T86 x5_1 x6_1).f0), .string ((rd_T86 x5_1 x6_1).f1)]] (by rfl) rfl rfl (by (try simp only [List.map_toArray, List.map_cons, List.map_nil]); first | done | (simp only [hji52]; rfl) | rfl | (simp only [List.length_drop, List.length_take]; rfl)) ?_
                  with_reducible refine (impl_Offer_ahead.calls ((rd_T86 x5_1 (ji52)).f0) ((rd_T86 x5_1 (ji52)).f1) ((rd_T86 x5_1 x6_1).f0) ((rd_T86 x5_1 x6_1).f1) false _ A57.out).mono ?_
                  rintro e w68 ⟨rfl, hb⟩
                  have HS0_ := (hb.cell (World.block_lt_of_cell? _ _ (hHeld.1))).trans (hHeld.1)
                  have HS1_ := (hb.cell (World.block_lt_of_cell? _ _ (hHeld.2.1))).trans (hHeld.2.1)
                  have HS2_ := (hb.cell (World.block_lt_of_cell? _ _ (hHeld.2.2.1))).trans (hHeld.2.2.1)
                  have HS3_ := (hb.cell (World.block_lt_of_cell? _ _ (hHeld.2.2.2))).trans (hHeld.2.2.2)
                  refine ⟨_, rfl, ?_⟩
                  have n0_ := Aside0.mk (Kd.R_below (by (with_reducible repeat (first | apply Kd.R_alloc | apply Kd.R_drewN | apply Kd.R_drew)); exact HO_5.out) hb)
                  have n1_ := Aside0.mk (blk_below (g := gb174) (o := .cells #[.int .i64 x175000_1, .string x175001_1] 86 (0, 0)) (by (with_reducible repeat (first | refine blk_drewN ?_ _ | refine blk_drew ?_ | refine blk_alloc ?_ _)); exact BK174.out) hb)
                  have n2_ := Aside0.mk (below_step (by repeat (first | (with_reducible first | exact HB.out | apply below_alloc | apply pw_below_drewN | apply below_drew1 | refine below_set ?_ GE174.out) | exact HB.out)) hb)
                  clear HO_5
                  clear BK174
                  clear HB
                  have HO_5 := n0_
                  have BK174 := n1_
                  have HB := n2_
                  clear n0_ n1_ n2_
                  (try clear hb)
                  (try clear hb2)
                  (try clear hk)
                  (try clear hi)
                  refine hK.out _ _ ⟨HS0_, HS1_, HS2_, HS3_⟩ (fun hHeld => ?_)
                  clear hK K
                  refine norm_ (a' := ?_) ?_ ?_
                  rotate_left
                  ·show Act.put _ (some 61) _ = _
                   simp only [sp_]
                   rfl
                  refine pv (i := 9) (N := some 62) (bA 10 1023) rfl rfl (any_of HT_.out (by kernel_rfl)) ?_
                  refine done_ (done_of HT_.out (by kernel_rfl)) ?_
                  have p204 : 0 ≤ (0 : Int) := (by omega)
                  have q204 : 0 < (l0.length : Int) := of_decide_eq_true (by first | (with_reducible assumption) | assumption)
                  obtain ⟨ad204, e204, hx204_0, hx204_1⟩ := at_T86 HR0.out 0 p204 q204
                  obtain rfl : ad183 = ad204 := (by injection e204)
                  have qi204 : (0 < l0.length) = True := eq_true (by omega)
                  (try rw [show ((0 : Int)).toNat = 0 from rfl] at hx204_0)
                  (try rw [show 0 * 2 = 0 from rfl] at hx204_0)
                  (try rw [Addr.add_zero'] at hx204_0)
                  (try rw [show ((0 : Int)).toNat = 0 from rfl] at hx204_1)
                  (try rw [show 0 * 2 = 0 from rfl] at hx204_1)
                  (try rw [Addr.add_zero'] at hx204_1)
                  replace hx204_0 := (HB.out.cell (World.block_lt_of_cell? w _ hx204_0)).trans hx204_0
                  replace hx204_1 := (HB.out.cell (World.block_lt_of_cell? w _ hx204_1)).trans hx204_1
                  replace p204 := eq_true p204
                  replace q204 := eq_true q204
                  have hcz69_0 : w68.cell? ⟨gb174, 0, none⟩ = some (.int .i64 x175000_1) := (blk_cell BK174.out 0).trans rfl
                  have hcz69_1 : w68.cell? ⟨gb174, 1, none⟩ = some (.string x175001_1) := (blk_cell BK174.out 1).trans rfl
                  have hfz69_0 := blk_frozen BK174.out 0
                  have hfz69_1 := blk_frozen BK174.out 1
                  try go_wp2
                  refine bodyPost_ret (results_ct rfl _ _ gb174 86 #[.int .i64 ((rd_T86 l0 0).f0), .string ((rd_T86 l0 0).f1)] (0, 0) _ rfl (by (with_reducible repeat (first | refine blk_drewN ?_ _ | refine blk_drew ?_ | refine blk_alloc ?_ _)); refine blk_put (cs := #[.int .i64 ((rd_T86 l0 0).f0), .string x175001_1]) ?_ 1 _ rfl; (with_reducible repeat (first | refine blk_drewN ?_ _ | refine blk_drew ?_ | refine blk_alloc ?_ _)); refine blk_put (cs := #[.int .i64 x175000_1, .string x175001_1]) ?_ 0 _ rfl; (with_reducible repeat (first | refine blk_drewN ?_ _ | refine blk_drew ?_ | refine blk_alloc ?_ _)); exact BK174.out) Try.underlying86 rfl (by kernel_rfl)) rfl ?_
                  exact ⟨_, by first | rfl | (simp [errW_none, errW_some] <;> rfl) | (simp only [← hji2, ← hji52]; first | rfl | (simp [errW_none, errW_some] <;> rfl)) | (simp [*, errW_none, errW_some] <;> rfl), by (with_reducible repeat (first | apply Kd.R_alloc | apply Kd.R_drewN | apply Kd.R_drew)); exact Kd.R_mono (Kd.R_far (p := ⟨gb174, 1, none⟩) (Kd.R_far (p := ⟨gb174, 0, none⟩) (Kd.R_mono HO_5.out (fun k_ hk => (⟨hk, hk⟩ : _ ∧ k_ ≠ gb174))) (fun _ hk => hk.2) (.int .i64 ((rd_T86 l0 0).f0))) (fun _ hk => hk.2) (.string ((rd_T86 l0 0).f1))) (fun _ hk => trivial), by repeat (first | (with_reducible first | exact HB.out | apply below_alloc | apply pw_below_drewN | apply below_drew1 | refine below_set ?_ GE174.out) | exact HB.out)⟩
                 ·rw [if_neg c66] at H
                  exact absurd H (by simp)
               ·rw [if_neg c56] at H
                exact absurd H (by simp)
              ·rw [if_neg c55] at H
               exact absurd H (by simp)
             ·rw [if_neg c54] at H
              exact absurd H (by simp)
            ·rw [if_neg c53] at H
             exact absurd H (by simp)
        ·rw [if_neg c20] at H
         have c20b0 : decide ((wrap64 ((wrap64 (2 * x6_1)) + 1)) < ji2) = false := decide_eq_false c20
         clear c20
         by_cases c70 : 0 < (l0.length : Int)
         ·rw [if_pos c70] at H
          have c70b0 : decide (0 < (l0.length : Int)) = true := decide_eq_true c70
          have c70b1 : decide (0 < l0.length) = true := decide_eq_true (by omega)
          clear c70
          simp only [Option.some.injEq, Prod.mk.injEq] at H
          obtain ⟨rfl, rfl, rfl⟩ := H
          have p185 : 0 ≤ (0 : Int) := (by omega)
          have q185 : 0 < (l0.length : Int) := of_decide_eq_true (by first | (with_reducible assumption) | assumption)
          obtain ⟨ad185, e185, hx185_0, hx185_1⟩ := at_T86 HR0.out 0 p185 q185
          obtain rfl : ad183 = ad185 := (by injection e185)
          have qi185 : (0 < l0.length) = True := eq_true (by omega)
          (try rw [show ((0 : Int)).toNat = 0 from rfl] at hx185_0)
          (try rw [show 0 * 2 = 0 from rfl] at hx185_0)
          (try rw [Addr.add_zero'] at hx185_0)
          (try rw [show ((0 : Int)).toNat = 0 from rfl] at hx185_1)
          (try rw [show 0 * 2 = 0 from rfl] at hx185_1)
          (try rw [Addr.add_zero'] at hx185_1)
          replace hx185_0 := (HB.out.cell (World.block_lt_of_cell? w _ hx185_0)).trans hx185_0
          replace hx185_1 := (HB.out.cell (World.block_lt_of_cell? w _ hx185_1)).trans hx185_1
          replace p185 := eq_true p185
          replace q185 := eq_true q185
          have hcz71_0 : wr.cell? ⟨gb174, 0, none⟩ = some (.int .i64 x175000_1) := (blk_cell BK174.out 0).trans rfl
          have hcz71_1 : wr.cell? ⟨gb174, 1, none⟩ = some (.string x175001_1) := (blk_cell BK174.out 1).trans rfl
          have hfz71_0 := blk_frozen BK174.out 0
          have hfz71_1 := blk_frozen BK174.out 1
          go_wp2
          refine bodyPost_ret (results_ct rfl _ _ gb174 86 #[.int .i64 ((rd_T86 l0 0).f0), .string ((rd_T86 l0 0).f1)] (0, 0) _ rfl (by (with_reducible repeat (first | refine blk_drewN ?_ _ | refine blk_drew ?_ | refine blk_alloc ?_ _)); refine blk_put (cs := #[.int .i64 ((rd_T86 l0 0).f0), .string x175001_1]) ?_ 1 _ rfl; (with_reducible repeat (first | refine blk_drewN ?_ _ | refine blk_drew ?_ | refine blk_alloc ?_ _)); refine blk_put (cs := #[.int .i64 x175000_1, .string x175001_1]) ?_ 0 _ rfl; (with_reducible repeat (first | refine blk_drewN ?_ _ | refine blk_drew ?_ | refine blk_alloc ?_ _)); exact BK174.out) Try.underlying86 rfl (by kernel_rfl)) rfl ?_
          exact ⟨_, by first | rfl | (simp [errW_none, errW_some] <;> rfl) | (simp only [← hji2]; first | rfl | (simp [errW_none, errW_some] <;> rfl)) | (simp [*, errW_none, errW_some] <;> rfl), by (with_reducible repeat (first | apply Kd.R_alloc | apply Kd.R_drewN | apply Kd.R_drew)); exact Kd.R_mono (Kd.R_far (p := ⟨gb174, 1, none⟩) (Kd.R_far (p := ⟨gb174, 0, none⟩) (Kd.R_mono HO_5.out (fun k_ hk => (⟨hk, hk⟩ : _ ∧ k_ ≠ gb174))) (fun _ hk => hk.2) (.int .i64 ((rd_T86 l0 0).f0))) (fun _ hk => hk.2) (.string ((rd_T86 l0 0).f1))) (fun _ hk => trivial), by repeat (first | (with_reducible first | exact HB.out | apply below_alloc | apply pw_below_drewN | apply below_drew1 | refine below_set ?_ GE174.out) | exact HB.out)⟩
         ·rw [if_neg c70] at H
          exact absurd H (by simp)
     ·rw [if_neg c13] at H
      exact absurd H (by simp)
    ·rw [if_neg c12] at H
     exact absurd H (by simp)
  ·rw [if_neg c4] at H
   exact absurd H (by simp)
 ·rw [if_neg c3] at H
  exact absurd H (by simp)

end Go.Proofs.Ytckgkhlgnblblaa.PFnPool
