-- Written by a program of this session (wip/tools/pp.py over the kit's print).
import Derived.Test.YtgpofolfflfgiaaPFnExactOfferedx0
import Derived.Test.YtgpofolfflfgiaaPFnExactOfferedx1
import Derived.Test.YtgpofolfflfgiaaPFnExactOfferedx3
import Derived.Test.YtgpofolfflfgiaaPFnExactOfferedx5
import Derived.Test.YtgpofolfflfgiaaPFnExactOfferedx6
namespace Go.Proofs.Ytgpofolfflfgiaa.PFnExactOffered
open Go.RowKit Go.Proofs.YtgpofolfflfgiaaW.PrintWords Go.Proofs.YtgpofolfflfgiaaW.PrintLast Go.Proofs.YtgpofolfflfgiaaW.PrintMore
attribute [local go_sem] max2_int min2_int max_two min_two max_three min_three max_four min_four
attribute [local go_sem high] str_gtr str_leq str_geq
set_option linter.unusedVariables false
set_option linter.unusedSimpArgs false

/-! ### laws_FnExactOffered: function 11 -/
def laws_FnExactOffered.f (k : Nat) (l0 : List (S63)) (a1_0 : Int) (a1_1 : ByteArray) : Option (Bool) := (laws_szOfferS.f k l0 1048576).bind fun t196 => (if t196 < 0 then (some true) else ((laws_szOffer.f a1_0 a1_1 t196).bind fun t197 => (if t197 < 0 then (some true) else ((laws_toOfferS.f k l0).bind fun t198 => ((laws_toOffer.f a1_0 a1_1).bind fun bt201 => ((spec_Offered.f k t198 bt201.1 bt201.2).bind fun bt203 => ((laws_toOfferS.f k l0).bind fun t207 => ((laws_toOffer.f a1_0 a1_1).bind fun bt210 => ((impl_Offered.f k t207 bt210.1 bt210.2).bind fun bt212 => ((laws_eqOfferS.f k bt212.1 bt203.1).bind fun t216 => (if t216 = true then (if (bt212.2 != bt203.2) = true then (none) else ((laws_toOfferS.f k l0).bind fun t217 => ((laws_eqOfferS.f k t207 t217).bind fun t220 => (if t220 = true then ((laws_markOfferS.f k t207 1).bind fun bt221 => (if bt221.1 < 0 then (none) else ((laws_eqOfferS.f k bt212.1 bt203.1).bind fun t223 => (if t223 = true then ((laws_markOfferS.f k bt212.1 1).bind fun bt224 => ((laws_heldOfferS.f k bt224.2 1).bind fun t226 => (if t226 < 0 then (none) else (if t226 = bt224.1 then ((laws_toOfferS.f k l0).bind fun t227 => ((laws_toOffer.f a1_0 a1_1).bind fun bt230 => ((impl_Offered.f k t227 bt230.1 bt230.2).bind fun bt232 => ((laws_eqOfferS.f k bt232.1 bt203.1).bind fun t236 => (if t236 = true then (if (bt232.2 != bt203.2) = true then (none) else ((laws_heldOfferS.f k bt224.2 1).bind fun t237 => (if t237 < 0 then (none) else (if t237 = bt224.1 then (some true) else (none))))) else (none)))))) else (none))))) else (none))))) else (none))))) else (none))))))))))))
theorem laws_FnExactOffered.mono : ∀ a0 a1 a2 k, LeO (laws_FnExactOffered.f k a0 a1 a2) (laws_FnExactOffered.f (k + 1) a0 a1 a2) := by
  intro a0 a1 a2 k
  unfold laws_FnExactOffered.f
  repeat' first
      | (with_reducible exact impl_Offered.mono _ _ _ _)
      | (with_reducible exact laws_eqOfferS.mono _ _ _)
      | (with_reducible exact laws_heldOfferS.mono _ _ _)
      | (with_reducible exact laws_markOfferS.mono _ _ _)
      | (with_reducible exact laws_szOfferS.mono _ _ _)
      | (with_reducible exact laws_toOfferS.mono _ _)
      | (with_reducible exact spec_Offered.mono _ _ _ _)
      | (with_reducible exact LeO.refl _)
      | (with_reducible exact LeO.none _)
      | (with_reducible refine LeO.ite ?_ ?_)
      | (with_reducible refine LeO.bind ?_ (fun _ => ?_))
      | exact impl_Offered.mono _ _ _ _
      | exact laws_eqOfferS.mono _ _ _
      | exact laws_heldOfferS.mono _ _ _
      | exact laws_markOfferS.mono _ _ _
      | exact laws_szOfferS.mono _ _ _
      | exact laws_toOfferS.mono _ _
      | exact spec_Offered.mono _ _ _ _
      | exact LeO.none _
      | refine LeO.ite ?_ ?_
      | refine LeO.bind ?_ (fun _ => ?_)
def laws_FnExactOffered.T8 : Bool × List (List Nat × List Nat) := (true, [([], []), ([0], [0]), ([], []), ([2, 1], [2]), ([1, 3, 3], [1, 3]), ([4], [4]), ([5], [5]), ([5], [5]), ([6, 4, 0, 1, 2, 3, 4, 5, 6], [6]), ([7, 8, 0, 1, 2, 3, 4, 5, 6, 7, 8], [7])])
def laws_FnExactOffered.B8 : List Nat := [0, 1, 0, 7, 15, 31, 63, 63, 127, 511]
theorem laws_FnExactOffered.tab8 : rtab .any (opsOf Try.f11 8) = laws_FnExactOffered.T8 := by kernel_rfl
theorem laws_FnExactOffered.bits8 : waitsOk laws_FnExactOffered.T8.2 laws_FnExactOffered.B8 = true := by kernel_rfl
def laws_FnExactOffered.T27 : Bool × List (List Nat × List Nat) := (true, [([], []), ([0], [0]), ([], []), ([2, 1], [2]), ([1, 3, 3], [1, 3]), ([4], [4]), ([5], [5]), ([5], [5]), ([6, 4, 0, 1, 2, 3, 4, 5, 6], [6]), ([7, 8, 0, 1, 2, 3, 4, 5, 6, 7, 8], [7])])
def laws_FnExactOffered.B27 : List Nat := [0, 1, 0, 7, 15, 31, 63, 63, 127, 511]
theorem laws_FnExactOffered.tab27 : rtab .any (opsOf Try.f11 27) = laws_FnExactOffered.T27 := by kernel_rfl
theorem laws_FnExactOffered.bits27 : waitsOk laws_FnExactOffered.T27.2 laws_FnExactOffered.B27 = true := by kernel_rfl
set_option maxHeartbeats 8000000 in
set_option maxRecDepth 100000 in
theorem laws_FnExactOffered.calls (k : Nat) (A0 : Option Addr) (c0 : Nat) (l0 : List (S63)) (a1_0 : Int) (a1_1 : ByteArray) (r : Bool) (w : World) (hr0 : Kd.C k63 w A0 l0.length l0) (hc0 : l0.length ≤ c0) (h : laws_FnExactOffered.f k l0 a1_0 a1_1 = some r) :
    Calls Try.prog 11 #[.slice A0 l0.length c0, .agg #[.int .i64 a1_0, .string a1_1]] w fun e w' => e = .returned (.bool r) ∧ Below w.heap.size w w' := by
  have hu63 := Try.underlying63
  have HR0 := Aside0.mk hr0
  have HC0 := Aside0.mk hc0
  clear hr0 hc0
  have HB := Aside0.mk (Below.refl w.heap.size w)
  have H : ((laws_szOfferS.f k l0 1048576).bind fun t196 => (if t196 < 0 then (some true) else ((laws_szOffer.f a1_0 a1_1 t196).bind fun t197 => (if t197 < 0 then (some true) else ((laws_toOfferS.f k l0).bind fun t198 => ((laws_toOffer.f a1_0 a1_1).bind fun bt201 => ((spec_Offered.f k t198 bt201.1 bt201.2).bind fun bt203 => ((laws_toOfferS.f k l0).bind fun t207 => ((laws_toOffer.f a1_0 a1_1).bind fun bt210 => ((impl_Offered.f k t207 bt210.1 bt210.2).bind fun bt212 => ((laws_eqOfferS.f k bt212.1 bt203.1).bind fun t216 => (if t216 = true then (if (bt212.2 != bt203.2) = true then (none) else ((laws_toOfferS.f k l0).bind fun t217 => ((laws_eqOfferS.f k t207 t217).bind fun t220 => (if t220 = true then ((laws_markOfferS.f k t207 1).bind fun bt221 => (if bt221.1 < 0 then (none) else ((laws_eqOfferS.f k bt212.1 bt203.1).bind fun t223 => (if t223 = true then ((laws_markOfferS.f k bt212.1 1).bind fun bt224 => ((laws_heldOfferS.f k bt224.2 1).bind fun t226 => (if t226 < 0 then (none) else (if t226 = bt224.1 then ((laws_toOfferS.f k l0).bind fun t227 => ((laws_toOffer.f a1_0 a1_1).bind fun bt230 => ((impl_Offered.f k t227 bt230.1 bt230.2).bind fun bt232 => ((laws_eqOfferS.f k bt232.1 bt203.1).bind fun t236 => (if t236 = true then (if (bt232.2 != bt203.2) = true then (none) else ((laws_heldOfferS.f k bt224.2 1).bind fun t237 => (if t237 < 0 then (none) else (if t237 = bt224.1 then (some true) else (none))))) else (none)))))) else (none))))) else (none))))) else (none))))) else (none))))))))))))) = some r := h
  clear h
  replace H := Option.bind_eq_some_iff.mp H
  obtain ⟨t196, A30, H⟩ := H
  replace H : (if t196 < 0 then (some true) else ((laws_szOffer.f a1_0 a1_1 t196).bind fun t197 => (if t197 < 0 then (some true) else ((laws_toOfferS.f k l0).bind fun t198 => ((laws_toOffer.f a1_0 a1_1).bind fun bt201 => ((spec_Offered.f k t198 bt201.1 bt201.2).bind fun bt203 => ((laws_toOfferS.f k l0).bind fun t207 => ((laws_toOffer.f a1_0 a1_1).bind fun bt210 => ((impl_Offered.f k t207 bt210.1 bt210.2).bind fun bt212 => ((laws_eqOfferS.f k bt212.1 bt203.1).bind fun t216 => (if t216 = true then (if (bt212.2 != bt203.2) = true then (none) else ((laws_toOfferS.f k l0).bind fun t217 => ((laws_eqOfferS.f k t207 t217).bind fun t220 => (if t220 = true then ((laws_markOfferS.f k t207 1).bind fun bt221 => (if bt221.1 < 0 then (none) else ((laws_eqOfferS.f k bt212.1 bt203.1).bind fun t223 => (if t223 = true then ((laws_markOfferS.f k bt212.1 1).bind fun bt224 => ((laws_heldOfferS.f k bt224.2 1).bind fun t226 => (if t226 < 0 then (none) else (if t226 = bt224.1 then ((laws_toOfferS.f k l0).bind fun t227 => ((laws_toOffer.f a1_0 a1_1).bind fun bt230 => ((impl_Offered.f k t227 bt230.1 bt230.2).bind fun bt232 => ((laws_eqOfferS.f k bt232.1 bt203.1).bind fun t236 => (if t236 = true then (if (bt232.2 != bt203.2) = true then (none) else ((laws_heldOfferS.f k bt224.2 1).bind fun t237 => (if t237 < 0 then (none) else (if t237 = bt224.1 then (some true) else (none))))) else (none)))))) else (none))))) else (none))))) else (none))))) else (none)))))))))))) = some r := H
  have A3 := Aside0.mk A30
  clear A30
  by_cases c4 : t196 < 0
  · rw [if_pos c4] at H
    have c4b0 : decide (t196 < 0) = true := decide_eq_true c4
    clear c4
    obtain rfl := Option.some.inj H
    go_enter Try.func11, Try.ntmps11
    go_wp2_with (first | ((with_reducible refine gate_dst (N := 3) rfl ?_); refine box_event ?hg (N := 3) ?hd (cs := #[.int .i64 a1_0, .string a1_1]) (t := 63) ?hr ?_; (case hd => rfl); (case hg => rfl); (case hr => first | (go_simp; done) | (go_simp; rfl)); intro gb195 hg w5 hbox hb; have n0_ := Aside0.mk (below_step (by repeat (first | (with_reducible first | exact HB.out | apply below_alloc | apply pw_below_drewN | apply below_drew1) | exact HB.out)) hb); have n1_ := Aside0.mk (hbox); have n2_ := Aside0.mk ((by rw [hg]; exact (below_size (by repeat (first | (with_reducible first | exact HB.out | apply below_alloc | apply pw_below_drewN | apply below_drew1) | exact HB.out))) : w.heap.size ≤ gb195)); have n3_ := Aside0.mk ((by rw [hg]; exact (below_size (by repeat (first | (with_reducible first | exact HB.out | apply below_alloc | apply pw_below_drewN | apply below_drew1) | exact HB.out))) : w.heap.size ≤ gb195)); clear HB; have HB := n0_; have BK195 := n1_; have GW195 := n2_; have GE195 := n3_; clear n0_ n1_ n2_ n3_; clear hb hbox hg) | ((with_reducible refine gate_callee (f := 27) rfl ?_); refine goesL_ (some 18) rfl rfl Try.func27 (by kernel_rfl) rfl #[.slice A0 l0.length c0, .int .i64 1048576] rfl (by (try simp only [List.map_toArray, List.map_cons, List.map_nil]); first | done | rfl | (simp only [List.length_drop, List.length_take]; rfl)) ?_; (with_reducible refine (laws_szOfferS.calls k _ _ l0 1048576 t196 _ ?side1 ?side2 A3.out).mono ?_); (case side1 => repeat (first | exact (Kd.C_below HR0.out HB.out) | (with_reducible refine Kd.C_alloc ?_ _) | (with_reducible refine Kd.C_drewN ?_ _) | (with_reducible refine Kd.C_drew ?_))); (case side2 => exact HC0.out); rintro e w6 ⟨rfl, hb⟩; refine ⟨_, rfl, ?_⟩; have n0_ := Aside0.mk (blk_below (g := gb195) (o := .cells #[.int .i64 a1_0, .string a1_1] 63 (0, 0)) (by (with_reducible repeat (first | refine blk_drewN ?_ _ | refine blk_drew ?_ | refine blk_alloc ?_ _)); exact BK195.out) hb); have n1_ := Aside0.mk (below_step (by repeat (first | (with_reducible first | exact HB.out | apply below_alloc | apply pw_below_drewN | apply below_drew1 | refine below_set ?_ GE195.out) | exact HB.out)) hb); clear BK195; clear HB; have BK195 := n0_; have HB := n1_; clear n0_ n1_; (try clear hb); (try clear hb2); (try clear hk); (try clear hi)))
    go_ret
    exact ⟨by first | rfl | (simp [errW_none, errW_some] <;> rfl) | (simp [*, errW_none, errW_some] <;> rfl), by repeat (first | (with_reducible first | exact HB.out | apply below_alloc | apply pw_below_drewN | apply below_drew1 | refine below_set ?_ GE195.out) | exact HB.out)⟩
  · rw [if_neg c4] at H
    have c4b0 : decide (t196 < 0) = false := decide_eq_false c4
    clear c4
    replace H := Option.bind_eq_some_iff.mp H
    obtain ⟨t197, A70, H⟩ := H
    replace H : (if t197 < 0 then (some true) else ((laws_toOfferS.f k l0).bind fun t198 => ((laws_toOffer.f a1_0 a1_1).bind fun bt201 => ((spec_Offered.f k t198 bt201.1 bt201.2).bind fun bt203 => ((laws_toOfferS.f k l0).bind fun t207 => ((laws_toOffer.f a1_0 a1_1).bind fun bt210 => ((impl_Offered.f k t207 bt210.1 bt210.2).bind fun bt212 => ((laws_eqOfferS.f k bt212.1 bt203.1).bind fun t216 => (if t216 = true then (if (bt212.2 != bt203.2) = true then (none) else ((laws_toOfferS.f k l0).bind fun t217 => ((laws_eqOfferS.f k t207 t217).bind fun t220 => (if t220 = true then ((laws_markOfferS.f k t207 1).bind fun bt221 => (if bt221.1 < 0 then (none) else ((laws_eqOfferS.f k bt212.1 bt203.1).bind fun t223 => (if t223 = true then ((laws_markOfferS.f k bt212.1 1).bind fun bt224 => ((laws_heldOfferS.f k bt224.2 1).bind fun t226 => (if t226 < 0 then (none) else (if t226 = bt224.1 then ((laws_toOfferS.f k l0).bind fun t227 => ((laws_toOffer.f a1_0 a1_1).bind fun bt230 => ((impl_Offered.f k t227 bt230.1 bt230.2).bind fun bt232 => ((laws_eqOfferS.f k bt232.1 bt203.1).bind fun t236 => (if t236 = true then (if (bt232.2 != bt203.2) = true then (none) else ((laws_heldOfferS.f k bt224.2 1).bind fun t237 => (if t237 < 0 then (none) else (if t237 = bt224.1 then (some true) else (none))))) else (none)))))) else (none))))) else (none))))) else (none))))) else (none)))))))))) = some r := H
    have A7 := Aside0.mk A70
    clear A70
    by_cases c8 : t197 < 0
    · rw [if_pos c8] at H
      have c8b0 : decide (t197 < 0) = true := decide_eq_true c8
      clear c8
      obtain rfl := Option.some.inj H
      go_enter Try.func11, Try.ntmps11
      go_wp2_with (first | ((with_reducible refine gate_dst (N := 3) rfl ?_); refine box_event ?hg (N := 3) ?hd (cs := #[.int .i64 a1_0, .string a1_1]) (t := 63) ?hr ?_; (case hd => rfl); (case hg => rfl); (case hr => first | (go_simp; done) | (go_simp; rfl)); intro gb195 hg w9 hbox hb; have n0_ := Aside0.mk (below_step (by repeat (first | (with_reducible first | exact HB.out | apply below_alloc | apply pw_below_drewN | apply below_drew1) | exact HB.out)) hb); have n1_ := Aside0.mk (hbox); have n2_ := Aside0.mk ((by rw [hg]; exact (below_size (by repeat (first | (with_reducible first | exact HB.out | apply below_alloc | apply pw_below_drewN | apply below_drew1) | exact HB.out))) : w.heap.size ≤ gb195)); have n3_ := Aside0.mk ((by rw [hg]; exact (below_size (by repeat (first | (with_reducible first | exact HB.out | apply below_alloc | apply pw_below_drewN | apply below_drew1) | exact HB.out))) : w.heap.size ≤ gb195)); clear HB; have HB := n0_; have BK195 := n1_; have GW195 := n2_; have GE195 := n3_; clear n0_ n1_ n2_ n3_; clear hb hbox hg) | ((with_reducible refine gate_callee (f := 27) rfl ?_); refine goesL_ (some 18) rfl rfl Try.func27 (by kernel_rfl) rfl #[.slice A0 l0.length c0, .int .i64 1048576] rfl (by (try simp only [List.map_toArray, List.map_cons, List.map_nil]); first | done | rfl | (simp only [List.length_drop, List.length_take]; rfl)) ?_; (with_reducible refine (laws_szOfferS.calls k _ _ l0 1048576 t196 _ ?side1 ?side2 A3.out).mono ?_); (case side1 => repeat (first | exact (Kd.C_below HR0.out HB.out) | (with_reducible refine Kd.C_alloc ?_ _) | (with_reducible refine Kd.C_drewN ?_ _) | (with_reducible refine Kd.C_drew ?_))); (case side2 => exact HC0.out); rintro e w10 ⟨rfl, hb⟩; refine ⟨_, rfl, ?_⟩; have n0_ := Aside0.mk (blk_below (g := gb195) (o := .cells #[.int .i64 a1_0, .string a1_1] 63 (0, 0)) (by (with_reducible repeat (first | refine blk_drewN ?_ _ | refine blk_drew ?_ | refine blk_alloc ?_ _)); exact BK195.out) hb); have n1_ := Aside0.mk (below_step (by repeat (first | (with_reducible first | exact HB.out | apply below_alloc | apply pw_below_drewN | apply below_drew1 | refine below_set ?_ GE195.out) | exact HB.out)) hb); clear BK195; clear HB; have BK195 := n0_; have HB := n1_; clear n0_ n1_; (try clear hb); (try clear hb2); (try clear hk); (try clear hi); have hcz11_0 : w10.cell? ⟨gb195, 0, none⟩ = some (.int .i64 a1_0) := (blk_cell BK195.out 0).trans rfl; have hcz11_1 : w10.cell? ⟨gb195, 1, none⟩ = some (.string a1_1) := (blk_cell BK195.out 1).trans rfl; have hfz11_0 := blk_frozen BK195.out 0; have hfz11_1 := blk_frozen BK195.out 1) | ((with_reducible refine gate_callee (f := 43) rfl ?_); refine goesL_ (some 23) rfl rfl Try.func43 (by kernel_rfl) rfl #[.agg #[.int .i64 a1_0, .string a1_1], .int .i64 t196] rfl (by (try simp only [List.map_toArray, List.map_cons, List.map_nil]); first | done | rfl | (simp only [List.length_drop, List.length_take]; rfl)) ?_; (with_reducible refine (laws_szOffer.calls a1_0 a1_1 t196 t197 _ A7.out).mono ?_); rintro e w12 ⟨rfl, hb⟩; refine ⟨_, rfl, ?_⟩; have n0_ := Aside0.mk (blk_below (g := gb195) (o := .cells #[.int .i64 a1_0, .string a1_1] 63 (0, 0)) (by (with_reducible repeat (first | refine blk_drewN ?_ _ | refine blk_drew ?_ | refine blk_alloc ?_ _)); exact BK195.out) hb); have n1_ := Aside0.mk (below_step (by repeat (first | (with_reducible first | exact HB.out | apply below_alloc | apply pw_below_drewN | apply below_drew1 | refine below_set ?_ GE195.out) | exact HB.out)) hb); clear BK195; clear HB; have BK195 := n0_; have HB := n1_; clear n0_ n1_; (try clear hb); (try clear hb2); (try clear hk); (try clear hi)))
      go_ret
      exact ⟨by first | rfl | (simp [errW_none, errW_some] <;> rfl) | (simp [*, errW_none, errW_some] <;> rfl), by repeat (first | (with_reducible first | exact HB.out | apply below_alloc | apply pw_below_drewN | apply below_drew1 | refine below_set ?_ GE195.out) | exact HB.out)⟩
    · rw [if_neg c8] at H
      have c8b0 : decide (t197 < 0) = false := decide_eq_false c8
      clear c8
      replace H := Option.bind_eq_some_iff.mp H
      obtain ⟨t198, A130, H⟩ := H
      replace H : ((laws_toOffer.f a1_0 a1_1).bind fun bt201 => ((spec_Offered.f k t198 bt201.1 bt201.2).bind fun bt203 => ((laws_toOfferS.f k l0).bind fun t207 => ((laws_toOffer.f a1_0 a1_1).bind fun bt210 => ((impl_Offered.f k t207 bt210.1 bt210.2).bind fun bt212 => ((laws_eqOfferS.f k bt212.1 bt203.1).bind fun t216 => (if t216 = true then (if (bt212.2 != bt203.2) = true then (none) else ((laws_toOfferS.f k l0).bind fun t217 => ((laws_eqOfferS.f k t207 t217).bind fun t220 => (if t220 = true then ((laws_markOfferS.f k t207 1).bind fun bt221 => (if bt221.1 < 0 then (none) else ((laws_eqOfferS.f k bt212.1 bt203.1).bind fun t223 => (if t223 = true then ((laws_markOfferS.f k bt212.1 1).bind fun bt224 => ((laws_heldOfferS.f k bt224.2 1).bind fun t226 => (if t226 < 0 then (none) else (if t226 = bt224.1 then ((laws_toOfferS.f k l0).bind fun t227 => ((laws_toOffer.f a1_0 a1_1).bind fun bt230 => ((impl_Offered.f k t227 bt230.1 bt230.2).bind fun bt232 => ((laws_eqOfferS.f k bt232.1 bt203.1).bind fun t236 => (if t236 = true then (if (bt232.2 != bt203.2) = true then (none) else ((laws_heldOfferS.f k bt224.2 1).bind fun t237 => (if t237 < 0 then (none) else (if t237 = bt224.1 then (some true) else (none))))) else (none)))))) else (none))))) else (none))))) else (none))))) else (none)))))))) = some r := H
      have A13 := Aside0.mk A130
      clear A130
      replace H := Option.bind_eq_some_iff.mp H
      obtain ⟨⟨t201, t202⟩, A140, H⟩ := H
      replace H : ((spec_Offered.f k t198 t201 t202).bind fun bt203 => ((laws_toOfferS.f k l0).bind fun t207 => ((laws_toOffer.f a1_0 a1_1).bind fun bt210 => ((impl_Offered.f k t207 bt210.1 bt210.2).bind fun bt212 => ((laws_eqOfferS.f k bt212.1 bt203.1).bind fun t216 => (if t216 = true then (if (bt212.2 != bt203.2) = true then (none) else ((laws_toOfferS.f k l0).bind fun t217 => ((laws_eqOfferS.f k t207 t217).bind fun t220 => (if t220 = true then ((laws_markOfferS.f k t207 1).bind fun bt221 => (if bt221.1 < 0 then (none) else ((laws_eqOfferS.f k bt212.1 bt203.1).bind fun t223 => (if t223 = true then ((laws_markOfferS.f k bt212.1 1).bind fun bt224 => ((laws_heldOfferS.f k bt224.2 1).bind fun t226 => (if t226 < 0 then (none) else (if t226 = bt224.1 then ((laws_toOfferS.f k l0).bind fun t227 => ((laws_toOffer.f a1_0 a1_1).bind fun bt230 => ((impl_Offered.f k t227 bt230.1 bt230.2).bind fun bt232 => ((laws_eqOfferS.f k bt232.1 bt203.1).bind fun t236 => (if t236 = true then (if (bt232.2 != bt203.2) = true then (none) else ((laws_heldOfferS.f k bt224.2 1).bind fun t237 => (if t237 < 0 then (none) else (if t237 = bt224.1 then (some true) else (none))))) else (none)))))) else (none))))) else (none))))) else (none))))) else (none))))))) = some r := H
      have A14 := Aside0.mk A140
      clear A140
      replace H := Option.bind_eq_some_iff.mp H
      obtain ⟨⟨t203, t206⟩, A150, H⟩ := H
      replace H : ((laws_toOfferS.f k l0).bind fun t207 => ((laws_toOffer.f a1_0 a1_1).bind fun bt210 => ((impl_Offered.f k t207 bt210.1 bt210.2).bind fun bt212 => ((laws_eqOfferS.f k bt212.1 t203).bind fun t216 => (if t216 = true then (if (bt212.2 != t206) = true then (none) else ((laws_toOfferS.f k l0).bind fun t217 => ((laws_eqOfferS.f k t207 t217).bind fun t220 => (if t220 = true then ((laws_markOfferS.f k t207 1).bind fun bt221 => (if bt221.1 < 0 then (none) else ((laws_eqOfferS.f k bt212.1 t203).bind fun t223 => (if t223 = true then ((laws_markOfferS.f k bt212.1 1).bind fun bt224 => ((laws_heldOfferS.f k bt224.2 1).bind fun t226 => (if t226 < 0 then (none) else (if t226 = bt224.1 then ((laws_toOfferS.f k l0).bind fun t227 => ((laws_toOffer.f a1_0 a1_1).bind fun bt230 => ((impl_Offered.f k t227 bt230.1 bt230.2).bind fun bt232 => ((laws_eqOfferS.f k bt232.1 t203).bind fun t236 => (if t236 = true then (if (bt232.2 != t206) = true then (none) else ((laws_heldOfferS.f k bt224.2 1).bind fun t237 => (if t237 < 0 then (none) else (if t237 = bt224.1 then (some true) else (none))))) else (none)))))) else (none))))) else (none))))) else (none))))) else (none)))))) = some r := H
      have A15 := Aside0.mk A150
      clear A150
      replace H := Option.bind_eq_some_iff.mp H
      obtain ⟨t207, A160, H⟩ := H
      replace H : ((laws_toOffer.f a1_0 a1_1).bind fun bt210 => ((impl_Offered.f k t207 bt210.1 bt210.2).bind fun bt212 => ((laws_eqOfferS.f k bt212.1 t203).bind fun t216 => (if t216 = true then (if (bt212.2 != t206) = true then (none) else ((laws_toOfferS.f k l0).bind fun t217 => ((laws_eqOfferS.f k t207 t217).bind fun t220 => (if t220 = true then ((laws_markOfferS.f k t207 1).bind fun bt221 => (if bt221.1 < 0 then (none) else ((laws_eqOfferS.f k bt212.1 t203).bind fun t223 => (if t223 = true then ((laws_markOfferS.f k bt212.1 1).bind fun bt224 => ((laws_heldOfferS.f k bt224.2 1).bind fun t226 => (if t226 < 0 then (none) else (if t226 = bt224.1 then ((laws_toOfferS.f k l0).bind fun t227 => ((laws_toOffer.f a1_0 a1_1).bind fun bt230 => ((impl_Offered.f k t227 bt230.1 bt230.2).bind fun bt232 => ((laws_eqOfferS.f k bt232.1 t203).bind fun t236 => (if t236 = true then (if (bt232.2 != t206) = true then (none) else ((laws_heldOfferS.f k bt224.2 1).bind fun t237 => (if t237 < 0 then (none) else (if t237 = bt224.1 then (some true) else (none))))) else (none)))))) else (none))))) else (none))))) else (none))))) else (none))))) = some r := H
      have A16 := Aside0.mk A160
      clear A160
      replace H := Option.bind_eq_some_iff.mp H
      obtain ⟨⟨t210, t211⟩, A170, H⟩ := H
      replace H : ((impl_Offered.f k t207 t210 t211).bind fun bt212 => ((laws_eqOfferS.f k bt212.1 t203).bind fun t216 => (if t216 = true then (if (bt212.2 != t206) = true then (none) else ((laws_toOfferS.f k l0).bind fun t217 => ((laws_eqOfferS.f k t207 t217).bind fun t220 => (if t220 = true then ((laws_markOfferS.f k t207 1).bind fun bt221 => (if bt221.1 < 0 then (none) else ((laws_eqOfferS.f k bt212.1 t203).bind fun t223 => (if t223 = true then ((laws_markOfferS.f k bt212.1 1).bind fun bt224 => ((laws_heldOfferS.f k bt224.2 1).bind fun t226 => (if t226 < 0 then (none) else (if t226 = bt224.1 then ((laws_toOfferS.f k l0).bind fun t227 => ((laws_toOffer.f a1_0 a1_1).bind fun bt230 => ((impl_Offered.f k t227 bt230.1 bt230.2).bind fun bt232 => ((laws_eqOfferS.f k bt232.1 t203).bind fun t236 => (if t236 = true then (if (bt232.2 != t206) = true then (none) else ((laws_heldOfferS.f k bt224.2 1).bind fun t237 => (if t237 < 0 then (none) else (if t237 = bt224.1 then (some true) else (none))))) else (none)))))) else (none))))) else (none))))) else (none))))) else (none)))) = some r := H
      have A17 := Aside0.mk A170
      clear A170
      replace H := Option.bind_eq_some_iff.mp H
      obtain ⟨⟨t212, t215⟩, A180, H⟩ := H
      replace H : ((laws_eqOfferS.f k t212 t203).bind fun t216 => (if t216 = true then (if (t215 != t206) = true then (none) else ((laws_toOfferS.f k l0).bind fun t217 => ((laws_eqOfferS.f k t207 t217).bind fun t220 => (if t220 = true then ((laws_markOfferS.f k t207 1).bind fun bt221 => (if bt221.1 < 0 then (none) else ((laws_eqOfferS.f k t212 t203).bind fun t223 => (if t223 = true then ((laws_markOfferS.f k t212 1).bind fun bt224 => ((laws_heldOfferS.f k bt224.2 1).bind fun t226 => (if t226 < 0 then (none) else (if t226 = bt224.1 then ((laws_toOfferS.f k l0).bind fun t227 => ((laws_toOffer.f a1_0 a1_1).bind fun bt230 => ((impl_Offered.f k t227 bt230.1 bt230.2).bind fun bt232 => ((laws_eqOfferS.f k bt232.1 t203).bind fun t236 => (if t236 = true then (if (bt232.2 != t206) = true then (none) else ((laws_heldOfferS.f k bt224.2 1).bind fun t237 => (if t237 < 0 then (none) else (if t237 = bt224.1 then (some true) else (none))))) else (none)))))) else (none))))) else (none))))) else (none))))) else (none))) = some r := H
      have A18 := Aside0.mk A180
      clear A180
      replace H := Option.bind_eq_some_iff.mp H
      obtain ⟨t216, A190, H⟩ := H
      replace H : (if t216 = true then (if (t215 != t206) = true then (none) else ((laws_toOfferS.f k l0).bind fun t217 => ((laws_eqOfferS.f k t207 t217).bind fun t220 => (if t220 = true then ((laws_markOfferS.f k t207 1).bind fun bt221 => (if bt221.1 < 0 then (none) else ((laws_eqOfferS.f k t212 t203).bind fun t223 => (if t223 = true then ((laws_markOfferS.f k t212 1).bind fun bt224 => ((laws_heldOfferS.f k bt224.2 1).bind fun t226 => (if t226 < 0 then (none) else (if t226 = bt224.1 then ((laws_toOfferS.f k l0).bind fun t227 => ((laws_toOffer.f a1_0 a1_1).bind fun bt230 => ((impl_Offered.f k t227 bt230.1 bt230.2).bind fun bt232 => ((laws_eqOfferS.f k bt232.1 t203).bind fun t236 => (if t236 = true then (if (bt232.2 != t206) = true then (none) else ((laws_heldOfferS.f k bt224.2 1).bind fun t237 => (if t237 < 0 then (none) else (if t237 = bt224.1 then (some true) else (none))))) else (none)))))) else (none))))) else (none))))) else (none))))) else (none)) = some r := H
      have A19 := Aside0.mk A190
      clear A190
      by_cases c20 : t216 = true
      · subst c20
        have H1 : (if (t215 != t206) = true then (none) else ((laws_toOfferS.f k l0).bind fun t217 => ((laws_eqOfferS.f k t207 t217).bind fun t220 => (if t220 = true then ((laws_markOfferS.f k t207 1).bind fun bt221 => (if bt221.1 < 0 then (none) else ((laws_eqOfferS.f k t212 t203).bind fun t223 => (if t223 = true then ((laws_markOfferS.f k t212 1).bind fun bt224 => ((laws_heldOfferS.f k bt224.2 1).bind fun t226 => (if t226 < 0 then (none) else (if t226 = bt224.1 then ((laws_toOfferS.f k l0).bind fun t227 => ((laws_toOffer.f a1_0 a1_1).bind fun bt230 => ((impl_Offered.f k t227 bt230.1 bt230.2).bind fun bt232 => ((laws_eqOfferS.f k bt232.1 t203).bind fun t236 => (if t236 = true then (if (bt232.2 != t206) = true then (none) else ((laws_heldOfferS.f k bt224.2 1).bind fun t237 => (if t237 < 0 then (none) else (if t237 = bt224.1 then (some true) else (none))))) else (none)))))) else (none))))) else (none))))) else (none))))) = some r := by rw [if_pos rfl] at H; exact H
        clear H
        have H := H1
        clear H1
        by_cases c21 : (t215 != t206) = true
        · rw [if_pos c21] at H
          exact absurd H (by simp)
        · rw [if_neg c21] at H
          have c21b0 : (t215 != t206) = false := by simpa using c21
          (try (have c21b1 : decide (t215 = t206) = true := by simpa using c21))
          (try (have c21b2 : (t215 == t206) = true := by simpa using c21))
          clear c21
          replace H := Option.bind_eq_some_iff.mp H
          obtain ⟨t217, A220, H⟩ := H
          replace H : ((laws_eqOfferS.f k t207 t217).bind fun t220 => (if t220 = true then ((laws_markOfferS.f k t207 1).bind fun bt221 => (if bt221.1 < 0 then (none) else ((laws_eqOfferS.f k t212 t203).bind fun t223 => (if t223 = true then ((laws_markOfferS.f k t212 1).bind fun bt224 => ((laws_heldOfferS.f k bt224.2 1).bind fun t226 => (if t226 < 0 then (none) else (if t226 = bt224.1 then ((laws_toOfferS.f k l0).bind fun t227 => ((laws_toOffer.f a1_0 a1_1).bind fun bt230 => ((impl_Offered.f k t227 bt230.1 bt230.2).bind fun bt232 => ((laws_eqOfferS.f k bt232.1 t203).bind fun t236 => (if t236 = true then (if (bt232.2 != t206) = true then (none) else ((laws_heldOfferS.f k bt224.2 1).bind fun t237 => (if t237 < 0 then (none) else (if t237 = bt224.1 then (some true) else (none))))) else (none)))))) else (none))))) else (none))))) else (none))) = some r := H
          have A22 := Aside0.mk A220
          clear A220
          replace H := Option.bind_eq_some_iff.mp H
          obtain ⟨t220, A230, H⟩ := H
          replace H : (if t220 = true then ((laws_markOfferS.f k t207 1).bind fun bt221 => (if bt221.1 < 0 then (none) else ((laws_eqOfferS.f k t212 t203).bind fun t223 => (if t223 = true then ((laws_markOfferS.f k t212 1).bind fun bt224 => ((laws_heldOfferS.f k bt224.2 1).bind fun t226 => (if t226 < 0 then (none) else (if t226 = bt224.1 then ((laws_toOfferS.f k l0).bind fun t227 => ((laws_toOffer.f a1_0 a1_1).bind fun bt230 => ((impl_Offered.f k t227 bt230.1 bt230.2).bind fun bt232 => ((laws_eqOfferS.f k bt232.1 t203).bind fun t236 => (if t236 = true then (if (bt232.2 != t206) = true then (none) else ((laws_heldOfferS.f k bt224.2 1).bind fun t237 => (if t237 < 0 then (none) else (if t237 = bt224.1 then (some true) else (none))))) else (none)))))) else (none))))) else (none))))) else (none)) = some r := H
          have A23 := Aside0.mk A230
          clear A230
          by_cases c24 : t220 = true
          · subst c24
            have H1 : ((laws_markOfferS.f k t207 1).bind fun bt221 => (if bt221.1 < 0 then (none) else ((laws_eqOfferS.f k t212 t203).bind fun t223 => (if t223 = true then ((laws_markOfferS.f k t212 1).bind fun bt224 => ((laws_heldOfferS.f k bt224.2 1).bind fun t226 => (if t226 < 0 then (none) else (if t226 = bt224.1 then ((laws_toOfferS.f k l0).bind fun t227 => ((laws_toOffer.f a1_0 a1_1).bind fun bt230 => ((impl_Offered.f k t227 bt230.1 bt230.2).bind fun bt232 => ((laws_eqOfferS.f k bt232.1 t203).bind fun t236 => (if t236 = true then (if (bt232.2 != t206) = true then (none) else ((laws_heldOfferS.f k bt224.2 1).bind fun t237 => (if t237 < 0 then (none) else (if t237 = bt224.1 then (some true) else (none))))) else (none)))))) else (none))))) else (none))))) = some r := by rw [if_pos rfl] at H; exact H
            clear H
            have H := H1
            clear H1
            replace H := Option.bind_eq_some_iff.mp H
            obtain ⟨⟨t221, t222⟩, A250, H⟩ := H
            replace H : (if t221 < 0 then (none) else ((laws_eqOfferS.f k t212 t203).bind fun t223 => (if t223 = true then ((laws_markOfferS.f k t212 1).bind fun bt224 => ((laws_heldOfferS.f k bt224.2 1).bind fun t226 => (if t226 < 0 then (none) else (if t226 = bt224.1 then ((laws_toOfferS.f k l0).bind fun t227 => ((laws_toOffer.f a1_0 a1_1).bind fun bt230 => ((impl_Offered.f k t227 bt230.1 bt230.2).bind fun bt232 => ((laws_eqOfferS.f k bt232.1 t203).bind fun t236 => (if t236 = true then (if (bt232.2 != t206) = true then (none) else ((laws_heldOfferS.f k bt224.2 1).bind fun t237 => (if t237 < 0 then (none) else (if t237 = bt224.1 then (some true) else (none))))) else (none)))))) else (none))))) else (none)))) = some r := H
            have A25 := Aside0.mk A250
            clear A250
            by_cases c26 : t221 < 0
            · rw [if_pos c26] at H
              exact absurd H (by simp)
            · rw [if_neg c26] at H
              have c26b0 : decide (t221 < 0) = false := decide_eq_false c26
              clear c26
              replace H := Option.bind_eq_some_iff.mp H
              obtain ⟨t223, A270, H⟩ := H
              replace H : (if t223 = true then ((laws_markOfferS.f k t212 1).bind fun bt224 => ((laws_heldOfferS.f k bt224.2 1).bind fun t226 => (if t226 < 0 then (none) else (if t226 = bt224.1 then ((laws_toOfferS.f k l0).bind fun t227 => ((laws_toOffer.f a1_0 a1_1).bind fun bt230 => ((impl_Offered.f k t227 bt230.1 bt230.2).bind fun bt232 => ((laws_eqOfferS.f k bt232.1 t203).bind fun t236 => (if t236 = true then (if (bt232.2 != t206) = true then (none) else ((laws_heldOfferS.f k bt224.2 1).bind fun t237 => (if t237 < 0 then (none) else (if t237 = bt224.1 then (some true) else (none))))) else (none)))))) else (none))))) else (none)) = some r := H
              have A27 := Aside0.mk A270
              clear A270
              by_cases c28 : t223 = true
              · subst c28
                have H1 : ((laws_markOfferS.f k t212 1).bind fun bt224 => ((laws_heldOfferS.f k bt224.2 1).bind fun t226 => (if t226 < 0 then (none) else (if t226 = bt224.1 then ((laws_toOfferS.f k l0).bind fun t227 => ((laws_toOffer.f a1_0 a1_1).bind fun bt230 => ((impl_Offered.f k t227 bt230.1 bt230.2).bind fun bt232 => ((laws_eqOfferS.f k bt232.1 t203).bind fun t236 => (if t236 = true then (if (bt232.2 != t206) = true then (none) else ((laws_heldOfferS.f k bt224.2 1).bind fun t237 => (if t237 < 0 then (none) else (if t237 = bt224.1 then (some true) else (none))))) else (none)))))) else (none))))) = some r := by rw [if_pos rfl] at H; exact H
                clear H
                have H := H1
                clear H1
                replace H := Option.bind_eq_some_iff.mp H
                obtain ⟨⟨t224, t225⟩, A290, H⟩ := H
                replace H : ((laws_heldOfferS.f k t225 1).bind fun t226 => (if t226 < 0 then (none) else (if t226 = t224 then ((laws_toOfferS.f k l0).bind fun t227 => ((laws_toOffer.f a1_0 a1_1).bind fun bt230 => ((impl_Offered.f k t227 bt230.1 bt230.2).bind fun bt232 => ((laws_eqOfferS.f k bt232.1 t203).bind fun t236 => (if t236 = true then (if (bt232.2 != t206) = true then (none) else ((laws_heldOfferS.f k t225 1).bind fun t237 => (if t237 < 0 then (none) else (if t237 = t224 then (some true) else (none))))) else (none)))))) else (none)))) = some r := H
                have A29 := Aside0.mk A290
                clear A290
                replace H := Option.bind_eq_some_iff.mp H
                obtain ⟨t226, A300, H⟩ := H
                replace H : (if t226 < 0 then (none) else (if t226 = t224 then ((laws_toOfferS.f k l0).bind fun t227 => ((laws_toOffer.f a1_0 a1_1).bind fun bt230 => ((impl_Offered.f k t227 bt230.1 bt230.2).bind fun bt232 => ((laws_eqOfferS.f k bt232.1 t203).bind fun t236 => (if t236 = true then (if (bt232.2 != t206) = true then (none) else ((laws_heldOfferS.f k t225 1).bind fun t237 => (if t237 < 0 then (none) else (if t237 = t224 then (some true) else (none))))) else (none)))))) else (none))) = some r := H
                have A30 := Aside0.mk A300
                clear A300
                by_cases c31 : t226 < 0
                · rw [if_pos c31] at H
                  exact absurd H (by simp)
                · rw [if_neg c31] at H
                  have c31b0 : decide (t226 < 0) = false := decide_eq_false c31
                  clear c31
                  by_cases c32 : t226 = t224
                  · rw [if_pos c32] at H
                    have c32b0 : (t226 == t224) = true := beq_iff_eq.mpr c32
                    have c32b1 : (t226 != t224) = false := bne_eq_false_iff_eq.mpr c32
                    clear c32
                    replace H := Option.bind_eq_some_iff.mp H
                    obtain ⟨t227, A330, H⟩ := H
                    replace H : ((laws_toOffer.f a1_0 a1_1).bind fun bt230 => ((impl_Offered.f k t227 bt230.1 bt230.2).bind fun bt232 => ((laws_eqOfferS.f k bt232.1 t203).bind fun t236 => (if t236 = true then (if (bt232.2 != t206) = true then (none) else ((laws_heldOfferS.f k t225 1).bind fun t237 => (if t237 < 0 then (none) else (if t237 = t224 then (some true) else (none))))) else (none))))) = some r := H
                    have A33 := Aside0.mk A330
                    clear A330
                    replace H := Option.bind_eq_some_iff.mp H
                    obtain ⟨⟨t230, t231⟩, A340, H⟩ := H
                    replace H : ((impl_Offered.f k t227 t230 t231).bind fun bt232 => ((laws_eqOfferS.f k bt232.1 t203).bind fun t236 => (if t236 = true then (if (bt232.2 != t206) = true then (none) else ((laws_heldOfferS.f k t225 1).bind fun t237 => (if t237 < 0 then (none) else (if t237 = t224 then (some true) else (none))))) else (none)))) = some r := H
                    have A34 := Aside0.mk A340
                    clear A340
                    replace H := Option.bind_eq_some_iff.mp H
                    obtain ⟨⟨t232, t235⟩, A350, H⟩ := H
                    replace H : ((laws_eqOfferS.f k t232 t203).bind fun t236 => (if t236 = true then (if (t235 != t206) = true then (none) else ((laws_heldOfferS.f k t225 1).bind fun t237 => (if t237 < 0 then (none) else (if t237 = t224 then (some true) else (none))))) else (none))) = some r := H
                    have A35 := Aside0.mk A350
                    clear A350
                    replace H := Option.bind_eq_some_iff.mp H
                    obtain ⟨t236, A360, H⟩ := H
                    replace H : (if t236 = true then (if (t235 != t206) = true then (none) else ((laws_heldOfferS.f k t225 1).bind fun t237 => (if t237 < 0 then (none) else (if t237 = t224 then (some true) else (none))))) else (none)) = some r := H
                    have A36 := Aside0.mk A360
                    clear A360
                    by_cases c37 : t236 = true
                    · subst c37
                      have H1 : (if (t235 != t206) = true then (none) else ((laws_heldOfferS.f k t225 1).bind fun t237 => (if t237 < 0 then (none) else (if t237 = t224 then (some true) else (none))))) = some r := by rw [if_pos rfl] at H; exact H
                      clear H
                      have H := H1
                      clear H1
                      by_cases c38 : (t235 != t206) = true
                      · rw [if_pos c38] at H
                        exact absurd H (by simp)
                      · rw [if_neg c38] at H
                        have c38b0 : (t235 != t206) = false := by simpa using c38
                        (try (have c38b1 : decide (t235 = t206) = true := by simpa using c38))
                        (try (have c38b2 : (t235 == t206) = true := by simpa using c38))
                        clear c38
                        replace H := Option.bind_eq_some_iff.mp H
                        obtain ⟨t237, A390, H⟩ := H
                        replace H : (if t237 < 0 then (none) else (if t237 = t224 then (some true) else (none))) = some r := H
                        have A39 := Aside0.mk A390
                        clear A390
                        by_cases c40 : t237 < 0
                        · rw [if_pos c40] at H
                          exact absurd H (by simp)
                        · rw [if_neg c40] at H
                          have c40b0 : decide (t237 < 0) = false := decide_eq_false c40
                          clear c40
                          by_cases c41 : t237 = t224
                          · rw [if_pos c41] at H
                            have c41b0 : (t237 == t224) = true := beq_iff_eq.mpr c41
                            have c41b1 : (t237 != t224) = false := bne_eq_false_iff_eq.mpr c41
                            clear c41
                            obtain rfl := Option.some.inj H
                            go_enter Try.func11, Try.ntmps11
                            try go_wp2_with (first | ((with_reducible refine gate_dst (N := 3) rfl ?_); refine box_event ?hg (N := 3) ?hd (cs := #[.int .i64 a1_0, .string a1_1]) (t := 63) ?hr ?_; (case hd => rfl); (case hg => rfl); (case hr => first | (go_simp; done) | (go_simp; rfl)); intro gb195 hg w42 hbox hb; have n0_ := Aside0.mk (below_step (by repeat (first | (with_reducible first | exact HB.out | apply below_alloc | apply pw_below_drewN | apply below_drew1) | exact HB.out)) hb); have n1_ := Aside0.mk (hbox); have n2_ := Aside0.mk ((by rw [hg]; exact (below_size (by repeat (first | (with_reducible first | exact HB.out | apply below_alloc | apply pw_below_drewN | apply below_drew1) | exact HB.out))) : w.heap.size ≤ gb195)); have n3_ := Aside0.mk ((by rw [hg]; exact (below_size (by repeat (first | (with_reducible first | exact HB.out | apply below_alloc | apply pw_below_drewN | apply below_drew1) | exact HB.out))) : w.heap.size ≤ gb195)); clear HB; have HB := n0_; have BK195 := n1_; have GW195 := n2_; have GE195 := n3_; clear n0_ n1_ n2_ n3_; clear hb hbox hg) | ((with_reducible refine gate_callee (f := 27) rfl ?_); refine goesL_ (some 18) rfl rfl Try.func27 (by kernel_rfl) rfl #[.slice A0 l0.length c0, .int .i64 1048576] rfl (by (try simp only [List.map_toArray, List.map_cons, List.map_nil]); first | done | rfl | (simp only [List.length_drop, List.length_take]; rfl)) ?_; (with_reducible refine (laws_szOfferS.calls k _ _ l0 1048576 t196 _ ?side1 ?side2 A3.out).mono ?_); (case side1 => repeat (first | exact (Kd.C_below HR0.out HB.out) | (with_reducible refine Kd.C_alloc ?_ _) | (with_reducible refine Kd.C_drewN ?_ _) | (with_reducible refine Kd.C_drew ?_))); (case side2 => exact HC0.out); rintro e w43 ⟨rfl, hb⟩; refine ⟨_, rfl, ?_⟩; have n0_ := Aside0.mk (blk_below (g := gb195) (o := .cells #[.int .i64 a1_0, .string a1_1] 63 (0, 0)) (by (with_reducible repeat (first | refine blk_drewN ?_ _ | refine blk_drew ?_ | refine blk_alloc ?_ _)); exact BK195.out) hb); have n1_ := Aside0.mk (below_step (by repeat (first | (with_reducible first | exact HB.out | apply below_alloc | apply pw_below_drewN | apply below_drew1 | refine below_set ?_ GE195.out) | exact HB.out)) hb); clear BK195; clear HB; have BK195 := n0_; have HB := n1_; clear n0_ n1_; (try clear hb); (try clear hb2); (try clear hk); (try clear hi); have hcz44_0 : w43.cell? ⟨gb195, 0, none⟩ = some (.int .i64 a1_0) := (blk_cell BK195.out 0).trans rfl; have hcz44_1 : w43.cell? ⟨gb195, 1, none⟩ = some (.string a1_1) := (blk_cell BK195.out 1).trans rfl; have hfz44_0 := blk_frozen BK195.out 0; have hfz44_1 := blk_frozen BK195.out 1) | ((with_reducible refine gate_callee (f := 43) rfl ?_); refine goesL_ (some 23) rfl rfl Try.func43 (by kernel_rfl) rfl #[.agg #[.int .i64 a1_0, .string a1_1], .int .i64 t196] rfl (by (try simp only [List.map_toArray, List.map_cons, List.map_nil]); first | done | rfl | (simp only [List.length_drop, List.length_take]; rfl)) ?_; (with_reducible refine (laws_szOffer.calls a1_0 a1_1 t196 t197 _ A7.out).mono ?_); rintro e w45 ⟨rfl, hb⟩; refine ⟨_, rfl, ?_⟩; have n0_ := Aside0.mk (blk_below (g := gb195) (o := .cells #[.int .i64 a1_0, .string a1_1] 63 (0, 0)) (by (with_reducible repeat (first | refine blk_drewN ?_ _ | refine blk_drew ?_ | refine blk_alloc ?_ _)); exact BK195.out) hb); have n1_ := Aside0.mk (below_step (by repeat (first | (with_reducible first | exact HB.out | apply below_alloc | apply pw_below_drewN | apply below_drew1 | refine below_set ?_ GE195.out) | exact HB.out)) hb); clear BK195; clear HB; have BK195 := n0_; have HB := n1_; clear n0_ n1_; (try clear hb); (try clear hb2); (try clear hk); (try clear hi)))
                            have n0_ := Aside0.mk (blk_drew BK195.out)
                            have n1_ := Aside0.mk (below_drew1 HB.out)
                            clear BK195
                            clear HB
                            have BK195 := n0_
                            have HB := n1_
                            clear n0_ n1_
                            refine start_ (n := 10) (S := fun w' => w'.cell? ⟨gb195, 0, none⟩ = some (.int .i64 a1_0) ∧ w'.cell? ⟨gb195, 1, none⟩ = some (.string a1_1)) (ds := []) #[false, false, false, false, false, false, false, false, false, false] (by kernel_rfl) rfl rfl ⟨(blk_cell BK195.out 0).trans rfl, (blk_cell BK195.out 1).trans rfl⟩ (fun hHeld => ?_); refine with_tabW laws_FnExactOffered.tab8 laws_FnExactOffered.bits8 (fun HT_ HW_ => ?_)
                            generalize w45.drew = w46 at BK195 HB hHeld ⊢
                            refine pure_ (i := 0) (N := some 27) (v := ?_) (a' := ?_) #[true, false, false, false, false, false, false, false, false, false] rfl rfl (any_of HT_.out (by kernel_rfl)) (fun _ _ _ h => h) (Or.inl ⟨by rfl, ?_⟩) ?_ ?_
                            rotate_left
                            · intro w'
                              go_simp
                              with_reducible rfl
                            rotate_left
                            · simp only [Act.put, List.setIfInBounds_toArray, List.set_cons_zero, List.set_cons_succ, i64_w, i32_w]
                              rfl
                            refine take_ (i := 2) (N := some 29) (v := ?_) (a' := ?_) #[true, false, true, false, false, false, false, false, false, false] rfl rfl (take_ofW HT_.out HW_.out (by kernel_rfl)) (fun _ _ _ h => h) (Or.inl ⟨by rfl, ?_⟩) hHeld ?_ ?_
                            rotate_left
                            · rintro w' ⟨s0, s1⟩
                              go_simp
                              with_reducible rfl
                            rotate_left
                            · simp only [Act.put, List.setIfInBounds_toArray, List.set_cons_zero, List.set_cons_succ, i64_w, i32_w]
                              rfl
                            refine one_ (i := 1) (N := some 28) #[true, true, true, false, false, false, false, false, false, false] rfl rfl (one_of HT_.out (by kernel_rfl)) (by decide) (fun K hK => ?_)
                            refine goes_ Try.func29 (by kernel_rfl) rfl #[.slice A0 l0.length c0] (by rfl) rfl rfl (by (try simp only [List.map_toArray, List.map_cons, List.map_nil]); first | done | rfl | (simp only [List.length_drop, List.length_take]; rfl)) ?_
                            with_reducible refine (laws_toOfferS.calls k _ _ l0 t198 _ ?side1 ?side2 A13.out).mono ?_
                            (case side1 => repeat (first | exact (Kd.C_below HR0.out HB.out) | (with_reducible refine Kd.C_alloc ?_ _) | (with_reducible refine Kd.C_drewN ?_ _) | (with_reducible refine Kd.C_drew ?_)))
                            (case side2 => exact HC0.out)
                            rintro e w47 ⟨v199, rfl, ho0, hb⟩
                            refine ⟨_, rfl, ?_⟩
                            have n0_ := Aside0.mk (Kd.R_lower ho0 (below_size (by repeat (first | (with_reducible first | exact HB.out | apply below_alloc | apply pw_below_drewN | apply below_drew1 | refine below_set ?_ GE195.out) | exact HB.out))))
                            have n1_ := Aside0.mk (blk_below (g := gb195) (o := .cells #[.int .i64 a1_0, .string a1_1] 63 (0, 0)) (by (with_reducible repeat (first | refine blk_drewN ?_ _ | refine blk_drew ?_ | refine blk_alloc ?_ _)); exact BK195.out) hb)
                            have n2_ := Aside0.mk (below_step (by repeat (first | (with_reducible first | exact HB.out | apply below_alloc | apply pw_below_drewN | apply below_drew1 | refine below_set ?_ GE195.out) | exact HB.out)) hb)
                            clear BK195
                            clear HB
                            have HO200 := n0_
                            have BK195 := n1_
                            have HB := n2_
                            clear n0_ n1_ n2_
                            (try clear hb)
                            (try clear hb2)
                            (try clear hk)
                            (try clear hi)
                            (try clear ho0)
                            refine hK.out _ _ ⟨(blk_cell BK195.out 0).trans rfl, (blk_cell BK195.out 1).trans rfl⟩ (fun hHeld => ?_)
                            clear hK K
                            refine norm_ (a' := ?_) ?_ ?_
                            rotate_left
                            · show Act.put _ (some 28) _ = _
                              simp only [Act.put, List.setIfInBounds_toArray, List.set_cons_zero, List.set_cons_succ, i64_w, i32_w]
                              rfl
                            refine one_ (i := 3) (N := some 30) #[true, true, true, true, false, false, false, false, false, false] rfl rfl (one_of HT_.out (by kernel_rfl)) (by decide) (fun K hK => ?_)
                            refine goes_ Try.func45 (by kernel_rfl) rfl #[.agg #[.int .i64 a1_0, .string a1_1]] (by rfl) rfl rfl (by (try simp only [List.map_toArray, List.map_cons, List.map_nil]); first | done | rfl | (simp only [List.length_drop, List.length_take]; rfl)) ?_
                            with_reducible refine (laws_toOffer.calls a1_0 a1_1 t201 t202 _ A14.out).mono ?_
                            rintro e w48 ⟨rfl, hb⟩
                            refine ⟨_, rfl, ?_⟩
                            have n0_ := Aside0.mk (Kd.R_below (by (with_reducible repeat (first | apply Kd.R_alloc | apply Kd.R_drewN | apply Kd.R_drew)); exact HO200.out) hb)
                            have n1_ := Aside0.mk (blk_below (g := gb195) (o := .cells #[.int .i64 a1_0, .string a1_1] 63 (0, 0)) (by (with_reducible repeat (first | refine blk_drewN ?_ _ | refine blk_drew ?_ | refine blk_alloc ?_ _)); exact BK195.out) hb)
                            have n2_ := Aside0.mk (below_step (by repeat (first | (with_reducible first | exact HB.out | apply below_alloc | apply pw_below_drewN | apply below_drew1 | refine below_set ?_ GE195.out) | exact HB.out)) hb)
                            clear HO200
                            clear BK195
                            clear HB
                            have HO200 := n0_
                            have BK195 := n1_
                            have HB := n2_
                            clear n0_ n1_ n2_
                            (try clear hb)
                            (try clear hb2)
                            (try clear hk)
                            (try clear hi)
                            obtain ⟨Ao49, co49, eo49⟩ := Kd.R_slice HO200.out
                            (first | subst eo49 | (injection eo49 with f1_ f2_ f3_; have f4_ := f1_.symm; have f5_ := f3_.symm; clear f1_ f2_ f3_; subst f4_; subst f5_))
                            refine hK.out _ _ ⟨(blk_cell BK195.out 0).trans rfl, (blk_cell BK195.out 1).trans rfl⟩ (fun hHeld => ?_)
                            clear hK K
                            refine norm_ (a' := ?_) ?_ ?_
                            rotate_left
                            · show Act.put _ (some 30) _ = _
                              simp only [Act.put, List.setIfInBounds_toArray, List.set_cons_zero, List.set_cons_succ, i64_w, i32_w]
                              rfl
                            refine one_ (i := 4) (N := some 31) #[true, true, true, true, true, false, false, false, false, false] rfl rfl (one_of HT_.out (by kernel_rfl)) (by decide) (fun K hK => ?_)
                            refine goes_ Try.func44 (by kernel_rfl) rfl #[.slice Ao49 t198.length co49, .agg #[.int .i64 t201, .string t202]] (by rfl) rfl rfl (by (try simp only [List.map_toArray, List.map_cons, List.map_nil]); first | done | rfl | (simp only [List.length_drop, List.length_take]; rfl)) ?_
                            with_reducible refine (spec_Offered.calls k _ _ t198 t201 t202 t203 t206 _ ?side1 ?side2 A15.out).mono ?_
                            (case side1 => repeat (first | exact (Kd.R_reads' HO200.out).2.2 | (with_reducible refine Kd.C_alloc ?_ _) | (with_reducible refine Kd.C_drewN ?_ _) | (with_reducible refine Kd.C_drew ?_)))
                            (case side2 => exact (Kd.R_reads' HO200.out).2.1)
                            rintro e w50 ⟨v204, rfl, ho0, hb⟩
                            refine ⟨_, rfl, ?_⟩
                            have n0_ := Aside0.mk (Kd.R_elder' (by (with_reducible repeat (first | apply Kd.R_alloc | apply Kd.R_drewN | apply Kd.R_drew)); exact HO200.out) (Kd.R_base ho0) hb)
                            have n1_ := Aside0.mk (Kd.R_lower (Kd.R_new' ho0 (Kd.R_lt (by (with_reducible repeat (first | apply Kd.R_alloc | apply Kd.R_drewN | apply Kd.R_drew)); exact HO200.out))) (below_size (by repeat (first | (with_reducible first | exact HB.out | apply below_alloc | apply pw_below_drewN | apply below_drew1 | refine below_set ?_ GE195.out) | exact HB.out))))
                            have n2_ := Aside0.mk (blk_below (g := gb195) (o := .cells #[.int .i64 a1_0, .string a1_1] 63 (0, 0)) (by (with_reducible repeat (first | refine blk_drewN ?_ _ | refine blk_drew ?_ | refine blk_alloc ?_ _)); exact BK195.out) hb)
                            have n3_ := Aside0.mk (below_step (by repeat (first | (with_reducible first | exact HB.out | apply below_alloc | apply pw_below_drewN | apply below_drew1 | refine below_set ?_ GE195.out) | exact HB.out)) hb)
                            clear HO200
                            clear BK195
                            clear HB
                            have HO200 := n0_
                            have HO205 := n1_
                            have BK195 := n2_
                            have HB := n3_
                            clear n0_ n1_ n2_ n3_
                            (try clear hb)
                            (try clear hb2)
                            (try clear hk)
                            (try clear hi)
                            (try clear ho0)
                            refine hK.out _ _ ⟨(blk_cell BK195.out 0).trans rfl, (blk_cell BK195.out 1).trans rfl⟩ (fun hHeld => ?_)
                            clear hK K
                            refine norm_ (a' := ?_) ?_ ?_
                            rotate_left
                            · show Act.put _ (some 31) _ = _
                              simp only [Act.put, List.setIfInBounds_toArray, List.set_cons_zero, List.set_cons_succ, i64_w, i32_w]
                              rfl
                            refine pure_ (i := 5) (N := some 26) (v := ?_) (a' := ?_) #[true, true, true, true, true, true, false, false, false, false] rfl rfl (any_of HT_.out (by kernel_rfl)) (fun _ _ _ h => h) (Or.inl ⟨by rfl, ?_⟩) ?_ ?_
                            rotate_left
                            · intro w'
                              go_simp
                              with_reducible rfl
                            rotate_left
                            · simp only [Act.put, List.setIfInBounds_toArray, List.set_cons_zero, List.set_cons_succ, i64_w, i32_w]
                              rfl
                            refine pure_ (i := 6) (N := some 32) (v := ?_) (a' := ?_) #[true, true, true, true, true, true, true, false, false, false] rfl rfl (any_of HT_.out (by kernel_rfl)) (fun _ _ _ h => h) (Or.inl ⟨by rfl, ?_⟩) ?_ ?_
                            rotate_left
                            · intro w'
                              go_simp
                              with_reducible rfl
                            rotate_left
                            · simp only [Act.put, List.setIfInBounds_toArray, List.set_cons_zero, List.set_cons_succ, i64_w, i32_w]
                              rfl
                            refine pure_ (i := 7) (N := some 33) (v := ?_) (a' := ?_) #[true, true, true, true, true, true, true, true, false, false] rfl rfl (any_of HT_.out (by kernel_rfl)) (fun _ _ _ h => h) (Or.inl ⟨by rfl, ?_⟩) ?_ ?_
                            rotate_left
                            · intro w'
                              go_simp
                              with_reducible rfl
                            rotate_left
                            · simp only [Act.put, List.setIfInBounds_toArray, List.set_cons_zero, List.set_cons_succ, i64_w, i32_w]
                              rfl
                            refine pure_ (i := 8) (N := some 6) (v := ?_) (a' := ?_) #[true, true, true, true, true, true, true, true, true, false] rfl rfl (any_of HT_.out (by kernel_rfl)) (fun _ _ _ h => h) (Or.inl ⟨by rfl, ?_⟩) ?_ ?_
                            rotate_left
                            · intro w'
                              go_simp
                              with_reducible rfl
                            rotate_left
                            · simp only [Act.put, List.setIfInBounds_toArray, List.set_cons_zero, List.set_cons_succ, i64_w, i32_w]
                              rfl
                            refine pure_ (i := 9) (N := some 7) (v := ?_) (a' := ?_) #[true, true, true, true, true, true, true, true, true, true] rfl rfl (any_of HT_.out (by kernel_rfl)) (fun _ _ _ h => h) (Or.inl ⟨by rfl, ?_⟩) ?_ ?_
                            rotate_left
                            · intro w'
                              go_simp
                              with_reducible rfl
                            rotate_left
                            · simp only [Act.put, List.setIfInBounds_toArray, List.set_cons_zero, List.set_cons_succ, i64_w, i32_w]
                              rfl
                            refine done_ (done_of HT_.out (by kernel_rfl)) ?_
                            try go_wp2_with (first | ((with_reducible refine gate_callee (f := 29) rfl ?_); refine goesL_ (some 35) rfl rfl Try.func29 (by kernel_rfl) rfl #[.slice A0 l0.length c0] rfl (by (try simp only [List.map_toArray, List.map_cons, List.map_nil]); first | done | rfl | (simp only [List.length_drop, List.length_take]; rfl)) ?_; (with_reducible refine (laws_toOfferS.calls k _ _ l0 t207 _ ?side1 ?side2 A16.out).mono ?_); (case side1 => repeat (first | exact (Kd.C_below HR0.out HB.out) | (with_reducible refine Kd.C_alloc ?_ _) | (with_reducible refine Kd.C_drewN ?_ _) | (with_reducible refine Kd.C_drew ?_))); (case side2 => exact HC0.out); rintro e w51 ⟨v208, rfl, ho0, hb⟩; refine ⟨_, rfl, ?_⟩; have n0_ := Aside0.mk (Kd.R_elder' (by (with_reducible repeat (first | apply Kd.R_alloc | apply Kd.R_drewN | apply Kd.R_drew)); exact HO200.out) (Kd.R_base ho0) hb); have n1_ := Aside0.mk (Kd.R_elder' (by (with_reducible repeat (first | apply Kd.R_alloc | apply Kd.R_drewN | apply Kd.R_drew)); exact HO205.out) (Kd.R_base ho0) hb); have n2_ := Aside0.mk (Kd.R_lower (Kd.R_new' (Kd.R_new' ho0 (Kd.R_lt (by (with_reducible repeat (first | apply Kd.R_alloc | apply Kd.R_drewN | apply Kd.R_drew)); exact HO200.out))) (Kd.R_lt (by (with_reducible repeat (first | apply Kd.R_alloc | apply Kd.R_drewN | apply Kd.R_drew)); exact HO205.out))) (below_size (by repeat (first | (with_reducible first | exact HB.out | apply below_alloc | apply pw_below_drewN | apply below_drew1 | refine below_set ?_ GE195.out) | exact HB.out)))); have n3_ := Aside0.mk (blk_below (g := gb195) (o := .cells #[.int .i64 a1_0, .string a1_1] 63 (0, 0)) (by (with_reducible repeat (first | refine blk_drewN ?_ _ | refine blk_drew ?_ | refine blk_alloc ?_ _)); exact BK195.out) hb); have n4_ := Aside0.mk (below_step (by repeat (first | (with_reducible first | exact HB.out | apply below_alloc | apply pw_below_drewN | apply below_drew1 | refine below_set ?_ GE195.out) | exact HB.out)) hb); clear HO200; clear HO205; clear BK195; clear HB; have HO200 := n0_; have HO205 := n1_; have HO209 := n2_; have BK195 := n3_; have HB := n4_; clear n0_ n1_ n2_ n3_ n4_; (try clear hb); (try clear hb2); (try clear hk); (try clear hi); (try clear ho0); have hcz52_0 : w51.cell? ⟨gb195, 0, none⟩ = some (.int .i64 a1_0) := (blk_cell BK195.out 0).trans rfl; have hcz52_1 : w51.cell? ⟨gb195, 1, none⟩ = some (.string a1_1) := (blk_cell BK195.out 1).trans rfl; have hfz52_0 := blk_frozen BK195.out 0; have hfz52_1 := blk_frozen BK195.out 1) | ((with_reducible refine gate_callee (f := 45) rfl ?_); refine goesL_ (some 39) rfl rfl Try.func45 (by kernel_rfl) rfl #[.agg #[.int .i64 a1_0, .string a1_1]] rfl (by (try simp only [List.map_toArray, List.map_cons, List.map_nil]); first | done | rfl | (simp only [List.length_drop, List.length_take]; rfl)) ?_; (with_reducible refine (laws_toOffer.calls a1_0 a1_1 t210 t211 _ A17.out).mono ?_); rintro e w53 ⟨rfl, hb⟩; refine ⟨_, rfl, ?_⟩; have n0_ := Aside0.mk (Kd.R_below (by (with_reducible repeat (first | apply Kd.R_alloc | apply Kd.R_drewN | apply Kd.R_drew)); exact HO200.out) hb); have n1_ := Aside0.mk (Kd.R_below (by (with_reducible repeat (first | apply Kd.R_alloc | apply Kd.R_drewN | apply Kd.R_drew)); exact HO205.out) hb); have n2_ := Aside0.mk (Kd.R_below (by (with_reducible repeat (first | apply Kd.R_alloc | apply Kd.R_drewN | apply Kd.R_drew)); exact HO209.out) hb); have n3_ := Aside0.mk (blk_below (g := gb195) (o := .cells #[.int .i64 a1_0, .string a1_1] 63 (0, 0)) (by (with_reducible repeat (first | refine blk_drewN ?_ _ | refine blk_drew ?_ | refine blk_alloc ?_ _)); exact BK195.out) hb); have n4_ := Aside0.mk (below_step (by repeat (first | (with_reducible first | exact HB.out | apply below_alloc | apply pw_below_drewN | apply below_drew1 | refine below_set ?_ GE195.out) | exact HB.out)) hb); clear HO200; clear HO205; clear HO209; clear BK195; clear HB; have HO200 := n0_; have HO205 := n1_; have HO209 := n2_; have BK195 := n3_; have HB := n4_; clear n0_ n1_ n2_ n3_ n4_; (try clear hb); (try clear hb2); (try clear hk); (try clear hi); obtain ⟨Ao54, co54, eo54⟩ := Kd.R_slice HO209.out; subst eo54) | ((with_reducible refine gate_callee (f := 46) rfl ?_); refine goesL_ (some 40) rfl rfl Try.func46 (by kernel_rfl) rfl #[.slice Ao54 t207.length co54, .agg #[.int .i64 t210, .string t211]] rfl (by (try simp only [List.map_toArray, List.map_cons, List.map_nil]); first | done | rfl | (simp only [List.length_drop, List.length_take]; rfl)) ?_; (with_reducible refine (impl_Offered.calls k _ _ t207 t210 t211 t212 t215 _ ?side1 ?side2 A18.out).mono ?_); (case side1 => repeat (first | exact (Kd.R_reads' HO209.out).2.2 | (with_reducible refine Kd.C_alloc ?_ _) | (with_reducible refine Kd.C_drewN ?_ _) | (with_reducible refine Kd.C_drew ?_))); (case side2 => exact (Kd.R_reads' HO209.out).2.1); rintro e w55 ⟨v213, rfl, ho0, hb⟩; refine ⟨_, rfl, ?_⟩; have n0_ := Aside0.mk (Kd.R_elder' (by (with_reducible repeat (first | apply Kd.R_alloc | apply Kd.R_drewN | apply Kd.R_drew)); exact HO200.out) (Kd.R_base ho0) hb); have n1_ := Aside0.mk (Kd.R_elder' (by (with_reducible repeat (first | apply Kd.R_alloc | apply Kd.R_drewN | apply Kd.R_drew)); exact HO205.out) (Kd.R_base ho0) hb); have n2_ := Aside0.mk (Kd.R_elder' (by (with_reducible repeat (first | apply Kd.R_alloc | apply Kd.R_drewN | apply Kd.R_drew)); exact HO209.out) (Kd.R_base ho0) hb); have n3_ := Aside0.mk (Kd.R_lower (Kd.R_new' (Kd.R_new' (Kd.R_new' ho0 (Kd.R_lt (by (with_reducible repeat (first | apply Kd.R_alloc | apply Kd.R_drewN | apply Kd.R_drew)); exact HO200.out))) (Kd.R_lt (by (with_reducible repeat (first | apply Kd.R_alloc | apply Kd.R_drewN | apply Kd.R_drew)); exact HO205.out))) (Kd.R_lt (by (with_reducible repeat (first | apply Kd.R_alloc | apply Kd.R_drewN | apply Kd.R_drew)); exact HO209.out))) (below_size (by repeat (first | (with_reducible first | exact HB.out | apply below_alloc | apply pw_below_drewN | apply below_drew1 | refine below_set ?_ GE195.out) | exact HB.out)))); have n4_ := Aside0.mk (blk_below (g := gb195) (o := .cells #[.int .i64 a1_0, .string a1_1] 63 (0, 0)) (by (with_reducible repeat (first | refine blk_drewN ?_ _ | refine blk_drew ?_ | refine blk_alloc ?_ _)); exact BK195.out) hb); have n5_ := Aside0.mk (below_step (by repeat (first | (with_reducible first | exact HB.out | apply below_alloc | apply pw_below_drewN | apply below_drew1 | refine below_set ?_ GE195.out) | exact HB.out)) hb); clear HO200; clear HO205; clear HO209; clear BK195; clear HB; have HO200 := n0_; have HO205 := n1_; have HO209 := n2_; have HO214 := n3_; have BK195 := n4_; have HB := n5_; clear n0_ n1_ n2_ n3_ n4_ n5_; (try clear hb); (try clear hb2); (try clear hk); (try clear hi); (try clear ho0); obtain ⟨Ao56, co56, eo56⟩ := Kd.R_slice HO214.out; subst eo56; obtain ⟨Ao57, co57, eo57⟩ := Kd.R_slice HO205.out; subst eo57) | ((with_reducible refine gate_callee (f := 31) rfl ?_); refine goesL_ (some 45) rfl rfl Try.func31 (by kernel_rfl) rfl #[.slice Ao56 t212.length co56, .slice Ao57 t203.length co57] rfl (by (try simp only [List.map_toArray, List.map_cons, List.map_nil]); first | done | rfl | (simp only [List.length_drop, List.length_take]; rfl)) ?_; (with_reducible refine (laws_eqOfferS.calls k _ _ t212 _ _ t203 true _ ?side1 ?side2 ?side3 ?side4 A19.out).mono ?_); (case side1 => repeat (first | exact (Kd.R_reads' HO214.out).2.2 | (with_reducible refine Kd.C_alloc ?_ _) | (with_reducible refine Kd.C_drewN ?_ _) | (with_reducible refine Kd.C_drew ?_))); (case side2 => exact (Kd.R_reads' HO214.out).2.1); (case side3 => repeat (first | exact (Kd.R_reads' HO205.out).2.2 | (with_reducible refine Kd.C_alloc ?_ _) | (with_reducible refine Kd.C_drewN ?_ _) | (with_reducible refine Kd.C_drew ?_))); (case side4 => exact (Kd.R_reads' HO205.out).2.1); rintro e w58 ⟨rfl, hb⟩; refine ⟨_, rfl, ?_⟩; have n0_ := Aside0.mk (Kd.R_below (by (with_reducible repeat (first | apply Kd.R_alloc | apply Kd.R_drewN | apply Kd.R_drew)); exact HO200.out) hb); have n1_ := Aside0.mk (Kd.R_below (by (with_reducible repeat (first | apply Kd.R_alloc | apply Kd.R_drewN | apply Kd.R_drew)); exact HO205.out) hb); have n2_ := Aside0.mk (Kd.R_below (by (with_reducible repeat (first | apply Kd.R_alloc | apply Kd.R_drewN | apply Kd.R_drew)); exact HO209.out) hb); have n3_ := Aside0.mk (Kd.R_below (by (with_reducible repeat (first | apply Kd.R_alloc | apply Kd.R_drewN | apply Kd.R_drew)); exact HO214.out) hb); have n4_ := Aside0.mk (blk_below (g := gb195) (o := .cells #[.int .i64 a1_0, .string a1_1] 63 (0, 0)) (by (with_reducible repeat (first | refine blk_drewN ?_ _ | refine blk_drew ?_ | refine blk_alloc ?_ _)); exact BK195.out) hb); have n5_ := Aside0.mk (below_step (by repeat (first | (with_reducible first | exact HB.out | apply below_alloc | apply pw_below_drewN | apply below_drew1 | refine below_set ?_ GE195.out) | exact HB.out)) hb); clear HO200; clear HO205; clear HO209; clear HO214; clear BK195; clear HB; have HO200 := n0_; have HO205 := n1_; have HO209 := n2_; have HO214 := n3_; have BK195 := n4_; have HB := n5_; clear n0_ n1_ n2_ n3_ n4_ n5_; (try clear hb); (try clear hb2); (try clear hk); (try clear hi)) | ((with_reducible refine gate_callee (f := 29) rfl ?_); refine goesL_ (some 54) rfl rfl Try.func29 (by kernel_rfl) rfl #[.slice A0 l0.length c0] rfl (by (try simp only [List.map_toArray, List.map_cons, List.map_nil]); first | done | rfl | (simp only [List.length_drop, List.length_take]; rfl)) ?_; (with_reducible refine (laws_toOfferS.calls k _ _ l0 t217 _ ?side1 ?side2 A22.out).mono ?_); (case side1 => repeat (first | exact (Kd.C_below HR0.out HB.out) | (with_reducible refine Kd.C_alloc ?_ _) | (with_reducible refine Kd.C_drewN ?_ _) | (with_reducible refine Kd.C_drew ?_))); (case side2 => exact HC0.out); rintro e w59 ⟨v218, rfl, ho0, hb⟩; refine ⟨_, rfl, ?_⟩; have n0_ := Aside0.mk (Kd.R_elder' (by (with_reducible repeat (first | apply Kd.R_alloc | apply Kd.R_drewN | apply Kd.R_drew)); exact HO200.out) (Kd.R_base ho0) hb); have n1_ := Aside0.mk (Kd.R_elder' (by (with_reducible repeat (first | apply Kd.R_alloc | apply Kd.R_drewN | apply Kd.R_drew)); exact HO205.out) (Kd.R_base ho0) hb); have n2_ := Aside0.mk (Kd.R_elder' (by (with_reducible repeat (first | apply Kd.R_alloc | apply Kd.R_drewN | apply Kd.R_drew)); exact HO209.out) (Kd.R_base ho0) hb); have n3_ := Aside0.mk (Kd.R_elder' (by (with_reducible repeat (first | apply Kd.R_alloc | apply Kd.R_drewN | apply Kd.R_drew)); exact HO214.out) (Kd.R_base ho0) hb); have n4_ := Aside0.mk (Kd.R_lower (Kd.R_new' (Kd.R_new' (Kd.R_new' (Kd.R_new' ho0 (Kd.R_lt (by (with_reducible repeat (first | apply Kd.R_alloc | apply Kd.R_drewN | apply Kd.R_drew)); exact HO200.out))) (Kd.R_lt (by (with_reducible repeat (first | apply Kd.R_alloc | apply Kd.R_drewN | apply Kd.R_drew)); exact HO205.out))) (Kd.R_lt (by (with_reducible repeat (first | apply Kd.R_alloc | apply Kd.R_drewN | apply Kd.R_drew)); exact HO209.out))) (Kd.R_lt (by (with_reducible repeat (first | apply Kd.R_alloc | apply Kd.R_drewN | apply Kd.R_drew)); exact HO214.out))) (below_size (by repeat (first | (with_reducible first | exact HB.out | apply below_alloc | apply pw_below_drewN | apply below_drew1 | refine below_set ?_ GE195.out) | exact HB.out)))); have n5_ := Aside0.mk (blk_below (g := gb195) (o := .cells #[.int .i64 a1_0, .string a1_1] 63 (0, 0)) (by (with_reducible repeat (first | refine blk_drewN ?_ _ | refine blk_drew ?_ | refine blk_alloc ?_ _)); exact BK195.out) hb); have n6_ := Aside0.mk (below_step (by repeat (first | (with_reducible first | exact HB.out | apply below_alloc | apply pw_below_drewN | apply below_drew1 | refine below_set ?_ GE195.out) | exact HB.out)) hb); clear HO200; clear HO205; clear HO209; clear HO214; clear BK195; clear HB; have HO200 := n0_; have HO205 := n1_; have HO209 := n2_; have HO214 := n3_; have HO219 := n4_; have BK195 := n5_; have HB := n6_; clear n0_ n1_ n2_ n3_ n4_ n5_ n6_; (try clear hb); (try clear hb2); (try clear hk); (try clear hi); (try clear ho0); obtain ⟨Ao60, co60, eo60⟩ := Kd.R_slice HO219.out; subst eo60) | ((with_reducible refine gate_callee (f := 31) rfl ?_); refine goesL_ (some 55) rfl rfl Try.func31 (by kernel_rfl) rfl #[.slice Ao54 t207.length co54, .slice Ao60 t217.length co60] rfl (by (try simp only [List.map_toArray, List.map_cons, List.map_nil]); first | done | rfl | (simp only [List.length_drop, List.length_take]; rfl)) ?_; (with_reducible refine (laws_eqOfferS.calls k _ _ t207 _ _ t217 true _ ?side1 ?side2 ?side3 ?side4 A23.out).mono ?_); (case side1 => repeat (first | exact (Kd.R_reads' HO209.out).2.2 | (with_reducible refine Kd.C_alloc ?_ _) | (with_reducible refine Kd.C_drewN ?_ _) | (with_reducible refine Kd.C_drew ?_))); (case side2 => exact (Kd.R_reads' HO209.out).2.1); (case side3 => repeat (first | exact (Kd.R_reads' HO219.out).2.2 | (with_reducible refine Kd.C_alloc ?_ _) | (with_reducible refine Kd.C_drewN ?_ _) | (with_reducible refine Kd.C_drew ?_))); (case side4 => exact (Kd.R_reads' HO219.out).2.1); rintro e w61 ⟨rfl, hb⟩; refine ⟨_, rfl, ?_⟩; have n0_ := Aside0.mk (Kd.R_below (by (with_reducible repeat (first | apply Kd.R_alloc | apply Kd.R_drewN | apply Kd.R_drew)); exact HO200.out) hb); have n1_ := Aside0.mk (Kd.R_below (by (with_reducible repeat (first | apply Kd.R_alloc | apply Kd.R_drewN | apply Kd.R_drew)); exact HO205.out) hb); have n2_ := Aside0.mk (Kd.R_below (by (with_reducible repeat (first | apply Kd.R_alloc | apply Kd.R_drewN | apply Kd.R_drew)); exact HO209.out) hb); have n3_ := Aside0.mk (Kd.R_below (by (with_reducible repeat (first | apply Kd.R_alloc | apply Kd.R_drewN | apply Kd.R_drew)); exact HO214.out) hb); have n4_ := Aside0.mk (Kd.R_below (by (with_reducible repeat (first | apply Kd.R_alloc | apply Kd.R_drewN | apply Kd.R_drew)); exact HO219.out) hb); have n5_ := Aside0.mk (blk_below (g := gb195) (o := .cells #[.int .i64 a1_0, .string a1_1] 63 (0, 0)) (by (with_reducible repeat (first | refine blk_drewN ?_ _ | refine blk_drew ?_ | refine blk_alloc ?_ _)); exact BK195.out) hb); have n6_ := Aside0.mk (below_step (by repeat (first | (with_reducible first | exact HB.out | apply below_alloc | apply pw_below_drewN | apply below_drew1 | refine below_set ?_ GE195.out) | exact HB.out)) hb); clear HO200; clear HO205; clear HO209; clear HO214; clear HO219; clear BK195; clear HB; have HO200 := n0_; have HO205 := n1_; have HO209 := n2_; have HO214 := n3_; have HO219 := n4_; have BK195 := n5_; have HB := n6_; clear n0_ n1_ n2_ n3_ n4_ n5_ n6_; (try clear hb); (try clear hb2); (try clear hk); (try clear hi)) | ((with_reducible refine gate_callee (f := 47) rfl ?_); refine goesL_ (some 59) rfl rfl Try.func47 (by kernel_rfl) rfl #[.slice Ao54 t207.length co54, .int .i64 1] rfl (by (try simp only [List.map_toArray, List.map_cons, List.map_nil]); first | done | rfl | (simp only [List.length_drop, List.length_take]; rfl)) ?_; (with_reducible refine (laws_markOfferS.calls k (fun k_ => some k_ = (.slice Ao54 t207.length co54 : Value).ownBlock) (.slice Ao54 t207.length co54) t207 1 t221 t222 w _ ?side1 ?side2 A25.out).mono ?_); (case side1 => repeat (first | (with_reducible first | exact HB.out | apply below_alloc | apply pw_below_drewN | apply below_drew1 | refine below_set ?_ GE195.out) | exact HB.out)); (case side2 => exact Kd.R_tight rfl HO209.out); rintro e w62 ⟨rfl, hy0, hb, hkp⟩; refine ⟨_, rfl, ?_⟩; have n0_ := Aside0.mk (blk_kept (by (with_reducible repeat (first | refine blk_drewN ?_ _ | refine blk_drew ?_ | refine blk_alloc ?_ _)); exact BK195.out) hkp (fun hs_ => (fun e_ => (Kd.R_ne HO209.out BK195.out (by decide)) e_) hs_)); have n1_ := Aside0.mk (Kd.R_mono (ok' := fun k_ => some k_ ≠ (.slice Ao57 t203.length co57 : Value).ownBlock ∧ some k_ ≠ (.slice Ao54 t207.length co54 : Value).ownBlock ∧ some k_ ≠ (.slice Ao56 t212.length co56 : Value).ownBlock ∧ some k_ ≠ (.slice Ao60 t217.length co60 : Value).ownBlock) (Kd.R_keptB (HO200.out) hkp (fun k_ hk_ hs_ => (hk_.1.1.2) hs_)) (fun k_ hk_ => ⟨hk_.1.1.1.1.2, hk_.1.1.1.2, hk_.1.1.2, hk_.1.2⟩)); have n2_ := Aside0.mk (Kd.R_mono (ok' := fun k_ => some k_ ≠ (.slice Ao49 t198.length co49 : Value).ownBlock ∧ some k_ ≠ (.slice Ao54 t207.length co54 : Value).ownBlock ∧ some k_ ≠ (.slice Ao56 t212.length co56 : Value).ownBlock ∧ some k_ ≠ (.slice Ao60 t217.length co60 : Value).ownBlock) (Kd.R_keptB (HO205.out) hkp (fun k_ hk_ hs_ => (hk_.1.1.2) hs_)) (fun k_ hk_ => ⟨hk_.1.1.1.1.2, hk_.1.1.1.2, hk_.1.1.2, hk_.1.2⟩)); have n3_ := Aside0.mk (Kd.R_reok rfl hy0 (fun k_ e_ => HO209.out.1 k_ e_)); have n4_ := Aside0.mk (Kd.R_mono (ok' := fun k_ => some k_ ≠ (.slice Ao49 t198.length co49 : Value).ownBlock ∧ some k_ ≠ (.slice Ao57 t203.length co57 : Value).ownBlock ∧ some k_ ≠ (.slice Ao54 t207.length co54 : Value).ownBlock ∧ some k_ ≠ (.slice Ao60 t217.length co60 : Value).ownBlock) (Kd.R_keptB (HO214.out) hkp (fun k_ hk_ hs_ => (hk_.1.2) hs_)) (fun k_ hk_ => ⟨hk_.1.1.1.1.2, hk_.1.1.1.2, hk_.1.1.2, hk_.1.2⟩)); have n5_ := Aside0.mk (Kd.R_mono (ok' := fun k_ => some k_ ≠ (.slice Ao49 t198.length co49 : Value).ownBlock ∧ some k_ ≠ (.slice Ao57 t203.length co57 : Value).ownBlock ∧ some k_ ≠ (.slice Ao54 t207.length co54 : Value).ownBlock ∧ some k_ ≠ (.slice Ao56 t212.length co56 : Value).ownBlock) (Kd.R_keptB (HO219.out) hkp (fun k_ hk_ hs_ => (hk_.1.2) hs_)) (fun k_ hk_ => ⟨hk_.1.1.1.1.2, hk_.1.1.1.2, hk_.1.1.2, hk_.1.2⟩)); have n6_ := Aside0.mk (hb); clear BK195; clear HO200; clear HO205; clear HO209; clear HO214; clear HO219; clear HB; have BK195 := n0_; have HO200 := n1_; have HO205 := n2_; have HO209 := n3_; have HO214 := n4_; have HO219 := n5_; have HB := n6_; clear n0_ n1_ n2_ n3_ n4_ n5_ n6_; (try clear hb); (try clear hkp); (try clear hy0)) | (go_at_call 31; (with_reducible refine (laws_eqOfferS.calls k _ _ t212 _ _ t203 true _ ?side1 ?side2 ?side3 ?side4 A27.out).mono ?_); (case side1 => repeat (first | exact (Kd.R_reads' HO214.out).2.2 | (with_reducible refine Kd.C_alloc ?_ _) | (with_reducible refine Kd.C_drewN ?_ _) | (with_reducible refine Kd.C_drew ?_))); (case side2 => exact (Kd.R_reads' HO214.out).2.1); (case side3 => repeat (first | exact (Kd.R_reads' HO205.out).2.2 | (with_reducible refine Kd.C_alloc ?_ _) | (with_reducible refine Kd.C_drewN ?_ _) | (with_reducible refine Kd.C_drew ?_))); (case side4 => exact (Kd.R_reads' HO205.out).2.1); rintro e w63 ⟨rfl, hb⟩; have n0_ := Aside0.mk (Kd.R_below (by (with_reducible repeat (first | apply Kd.R_alloc | apply Kd.R_drewN | apply Kd.R_drew)); exact HO200.out) hb); have n1_ := Aside0.mk (Kd.R_below (by (with_reducible repeat (first | apply Kd.R_alloc | apply Kd.R_drewN | apply Kd.R_drew)); exact HO205.out) hb); have n2_ := Aside0.mk (Kd.R_below (by (with_reducible repeat (first | apply Kd.R_alloc | apply Kd.R_drewN | apply Kd.R_drew)); exact HO209.out) hb); have n3_ := Aside0.mk (Kd.R_below (by (with_reducible repeat (first | apply Kd.R_alloc | apply Kd.R_drewN | apply Kd.R_drew)); exact HO214.out) hb); have n4_ := Aside0.mk (Kd.R_below (by (with_reducible repeat (first | apply Kd.R_alloc | apply Kd.R_drewN | apply Kd.R_drew)); exact HO219.out) hb); have n5_ := Aside0.mk (blk_below (g := gb195) (o := .cells #[.int .i64 a1_0, .string a1_1] 63 (0, 0)) (by (with_reducible repeat (first | refine blk_drewN ?_ _ | refine blk_drew ?_ | refine blk_alloc ?_ _)); exact BK195.out) hb); have n6_ := Aside0.mk (below_step (by repeat (first | (with_reducible first | exact HB.out | apply below_alloc | apply pw_below_drewN | apply below_drew1 | refine below_set ?_ GE195.out) | exact HB.out)) hb); clear HO200; clear HO205; clear HO209; clear HO214; clear HO219; clear BK195; clear HB; have HO200 := n0_; have HO205 := n1_; have HO209 := n2_; have HO214 := n3_; have HO219 := n4_; have BK195 := n5_; have HB := n6_; clear n0_ n1_ n2_ n3_ n4_ n5_ n6_; (try clear hb); (try clear hb2); (try clear hk); (try clear hi)) | ((with_reducible refine gate_callee (f := 47) rfl ?_); refine goesL_ (some 75) rfl rfl Try.func47 (by kernel_rfl) rfl #[.slice Ao56 t212.length co56, .int .i64 1] rfl (by (try simp only [List.map_toArray, List.map_cons, List.map_nil]); first | done | rfl | (simp only [List.length_drop, List.length_take]; rfl)) ?_; (with_reducible refine (laws_markOfferS.calls k (fun k_ => some k_ = (.slice Ao56 t212.length co56 : Value).ownBlock) (.slice Ao56 t212.length co56) t212 1 t224 t225 w _ ?side1 ?side2 A29.out).mono ?_); (case side1 => repeat (first | (with_reducible first | exact HB.out | apply below_alloc | apply pw_below_drewN | apply below_drew1 | refine below_set ?_ GE195.out) | exact HB.out)); (case side2 => exact Kd.R_tight rfl HO214.out); rintro e w64 ⟨rfl, hy0, hb, hkp⟩; refine ⟨_, rfl, ?_⟩; have n0_ := Aside0.mk (blk_kept (by (with_reducible repeat (first | refine blk_drewN ?_ _ | refine blk_drew ?_ | refine blk_alloc ?_ _)); exact BK195.out) hkp (fun hs_ => (fun e_ => (Kd.R_ne HO214.out BK195.out (by decide)) e_) hs_)); have n1_ := Aside0.mk (Kd.R_mono (ok' := fun k_ => some k_ ≠ (.slice Ao57 t203.length co57 : Value).ownBlock ∧ some k_ ≠ (.slice Ao54 t207.length co54 : Value).ownBlock ∧ some k_ ≠ (.slice Ao56 t212.length co56 : Value).ownBlock ∧ some k_ ≠ (.slice Ao60 t217.length co60 : Value).ownBlock) (Kd.R_keptB (HO200.out) hkp (fun k_ hk_ hs_ => (hk_.2.2.1) hs_)) (fun k_ hk_ => ⟨hk_.1.1, hk_.1.2.1, hk_.1.2.2.1, hk_.1.2.2.2⟩)); have n2_ := Aside0.mk (Kd.R_mono (ok' := fun k_ => some k_ ≠ (.slice Ao49 t198.length co49 : Value).ownBlock ∧ some k_ ≠ (.slice Ao54 t207.length co54 : Value).ownBlock ∧ some k_ ≠ (.slice Ao56 t212.length co56 : Value).ownBlock ∧ some k_ ≠ (.slice Ao60 t217.length co60 : Value).ownBlock) (Kd.R_keptB (HO205.out) hkp (fun k_ hk_ hs_ => (hk_.2.2.1) hs_)) (fun k_ hk_ => ⟨hk_.1.1, hk_.1.2.1, hk_.1.2.2.1, hk_.1.2.2.2⟩)); have n3_ := Aside0.mk (Kd.R_mono (ok' := fun k_ => some k_ ≠ (.slice Ao49 t198.length co49 : Value).ownBlock ∧ some k_ ≠ (.slice Ao57 t203.length co57 : Value).ownBlock ∧ some k_ ≠ (.slice Ao56 t212.length co56 : Value).ownBlock ∧ some k_ ≠ (.slice Ao60 t217.length co60 : Value).ownBlock) (Kd.R_keptB (HO209.out) hkp (fun k_ hk_ hs_ => (hk_.1.2) hs_)) (fun k_ hk_ => ⟨hk_.1.1.1.1.2, hk_.1.1.1.2, hk_.1.1.2, hk_.1.2⟩)); have n4_ := Aside0.mk (Kd.R_reok rfl hy0 (fun k_ e_ => HO214.out.1 k_ e_)); have n5_ := Aside0.mk (Kd.R_mono (ok' := fun k_ => some k_ ≠ (.slice Ao49 t198.length co49 : Value).ownBlock ∧ some k_ ≠ (.slice Ao57 t203.length co57 : Value).ownBlock ∧ some k_ ≠ (.slice Ao54 t207.length co54 : Value).ownBlock ∧ some k_ ≠ (.slice Ao56 t212.length co56 : Value).ownBlock) (Kd.R_keptB (HO219.out) hkp (fun k_ hk_ hs_ => (hk_.2.2.2) hs_)) (fun k_ hk_ => ⟨hk_.1.1, hk_.1.2.1, hk_.1.2.2.1, hk_.1.2.2.2⟩)); have n6_ := Aside0.mk (hb); clear BK195; clear HO200; clear HO205; clear HO209; clear HO214; clear HO219; clear HB; have BK195 := n0_; have HO200 := n1_; have HO205 := n2_; have HO209 := n3_; have HO214 := n4_; have HO219 := n5_; have HB := n6_; clear n0_ n1_ n2_ n3_ n4_ n5_ n6_; (try clear hb); (try clear hkp); (try clear hy0)) | ((with_reducible refine gate_callee (f := 48) rfl ?_); refine goesL_ (some 78) rfl rfl Try.func48 (by kernel_rfl) rfl #[.slice Ao56 t225.length co56, .int .i64 1] rfl (by (try simp only [List.map_toArray, List.map_cons, List.map_nil]); first | done | (rw [show t225.length = t212.length from (Kd.R_reads' HO214.out).1.symm] <;> rfl) | rfl | (simp only [List.length_drop, List.length_take]; rfl)) ?_; (with_reducible refine (laws_heldOfferS.calls k _ _ t225 1 t226 _ ?side1 ?side2 A30.out).mono ?_); (case side1 => repeat (first | exact (Kd.R_reads' HO214.out).2.2 | (with_reducible refine Kd.C_alloc ?_ _) | (with_reducible refine Kd.C_drewN ?_ _) | (with_reducible refine Kd.C_drew ?_))); (case side2 => rw [show t225.length = t212.length from (Kd.R_reads' HO214.out).1.symm]; exact (Kd.R_reads' HO214.out).2.1); rintro e w65 ⟨rfl, hb⟩; refine ⟨_, rfl, ?_⟩; have n0_ := Aside0.mk (Kd.R_below (by (with_reducible repeat (first | apply Kd.R_alloc | apply Kd.R_drewN | apply Kd.R_drew)); exact HO200.out) hb); have n1_ := Aside0.mk (Kd.R_below (by (with_reducible repeat (first | apply Kd.R_alloc | apply Kd.R_drewN | apply Kd.R_drew)); exact HO205.out) hb); have n2_ := Aside0.mk (Kd.R_below (by (with_reducible repeat (first | apply Kd.R_alloc | apply Kd.R_drewN | apply Kd.R_drew)); exact HO209.out) hb); have n3_ := Aside0.mk (Kd.R_below (by (with_reducible repeat (first | apply Kd.R_alloc | apply Kd.R_drewN | apply Kd.R_drew)); exact HO214.out) hb); have n4_ := Aside0.mk (Kd.R_below (by (with_reducible repeat (first | apply Kd.R_alloc | apply Kd.R_drewN | apply Kd.R_drew)); exact HO219.out) hb); have n5_ := Aside0.mk (blk_below (g := gb195) (o := .cells #[.int .i64 a1_0, .string a1_1] 63 (0, 0)) (by (with_reducible repeat (first | refine blk_drewN ?_ _ | refine blk_drew ?_ | refine blk_alloc ?_ _)); exact BK195.out) hb); have n6_ := Aside0.mk (below_step (by repeat (first | (with_reducible first | exact HB.out | apply below_alloc | apply pw_below_drewN | apply below_drew1 | refine below_set ?_ GE195.out) | exact HB.out)) hb); clear HO200; clear HO205; clear HO209; clear HO214; clear HO219; clear BK195; clear HB; have HO200 := n0_; have HO205 := n1_; have HO209 := n2_; have HO214 := n3_; have HO219 := n4_; have BK195 := n5_; have HB := n6_; clear n0_ n1_ n2_ n3_ n4_ n5_ n6_; (try clear hb); (try clear hb2); (try clear hk); (try clear hi)))
                            have n0_ := Aside0.mk (Kd.R_drew HO200.out)
                            have n1_ := Aside0.mk (Kd.R_drew HO205.out)
                            have n2_ := Aside0.mk (Kd.R_drew HO209.out)
                            have n3_ := Aside0.mk (Kd.R_drew HO214.out)
                            have n4_ := Aside0.mk (Kd.R_drew HO219.out)
                            have n5_ := Aside0.mk (blk_drew BK195.out)
                            have n6_ := Aside0.mk (below_drew1 HB.out)
                            clear HO200
                            clear HO205
                            clear HO209
                            clear HO214
                            clear HO219
                            clear BK195
                            clear HB
                            have HO200 := n0_
                            have HO205 := n1_
                            have HO209 := n2_
                            have HO214 := n3_
                            have HO219 := n4_
                            have BK195 := n5_
                            have HB := n6_
                            clear n0_ n1_ n2_ n3_ n4_ n5_ n6_
                            refine start_ (n := 10) (S := fun w' => w'.cell? ⟨gb195, 0, none⟩ = some (.int .i64 a1_0) ∧ w'.cell? ⟨gb195, 1, none⟩ = some (.string a1_1)) (ds := []) #[false, false, false, false, false, false, false, false, false, false] (by kernel_rfl) rfl rfl ⟨(blk_cell BK195.out 0).trans rfl, (blk_cell BK195.out 1).trans rfl⟩ (fun hHeld => ?_); refine with_tabW laws_FnExactOffered.tab27 laws_FnExactOffered.bits27 (fun HT_ HW_ => ?_)
                            generalize w65.drew = w66 at HO200 HO205 HO209 HO214 HO219 BK195 HB hHeld ⊢
                            refine pure_ (i := 0) (N := some 85) (v := ?_) (a' := ?_) #[true, false, false, false, false, false, false, false, false, false] rfl rfl (any_of HT_.out (by kernel_rfl)) (fun _ _ _ h => h) (Or.inl ⟨by rfl, ?_⟩) ?_ ?_
                            rotate_left
                            · intro w'
                              go_simp
                              with_reducible rfl
                            rotate_left
                            · simp only [Act.put, List.setIfInBounds_toArray, List.set_cons_zero, List.set_cons_succ, i64_w, i32_w]
                              rfl
                            refine take_ (i := 2) (N := some 87) (v := ?_) (a' := ?_) #[true, false, true, false, false, false, false, false, false, false] rfl rfl (take_ofW HT_.out HW_.out (by kernel_rfl)) (fun _ _ _ h => h) (Or.inl ⟨by rfl, ?_⟩) hHeld ?_ ?_
                            rotate_left
                            · rintro w' ⟨s0, s1⟩
                              go_simp
                              with_reducible rfl
                            rotate_left
                            · simp only [Act.put, List.setIfInBounds_toArray, List.set_cons_zero, List.set_cons_succ, i64_w, i32_w]
                              rfl
                            refine one_ (i := 1) (N := some 86) #[true, true, true, false, false, false, false, false, false, false] rfl rfl (one_of HT_.out (by kernel_rfl)) (by decide) (fun K hK => ?_)
                            refine goes_ Try.func29 (by kernel_rfl) rfl #[.slice A0 l0.length c0] (by rfl) rfl rfl (by (try simp only [List.map_toArray, List.map_cons, List.map_nil]); first | done | rfl | (simp only [List.length_drop, List.length_take]; rfl)) ?_
                            with_reducible refine (laws_toOfferS.calls k _ _ l0 t227 _ ?side1 ?side2 A33.out).mono ?_
                            (case side1 => repeat (first | exact (Kd.C_below HR0.out HB.out) | (with_reducible refine Kd.C_alloc ?_ _) | (with_reducible refine Kd.C_drewN ?_ _) | (with_reducible refine Kd.C_drew ?_)))
                            (case side2 => exact HC0.out)
                            rintro e w67 ⟨v228, rfl, ho0, hb⟩
                            refine ⟨_, rfl, ?_⟩
                            have n0_ := Aside0.mk (Kd.R_elder' (by (with_reducible repeat (first | apply Kd.R_alloc | apply Kd.R_drewN | apply Kd.R_drew)); exact HO200.out) (Kd.R_base ho0) hb)
                            have n1_ := Aside0.mk (Kd.R_elder' (by (with_reducible repeat (first | apply Kd.R_alloc | apply Kd.R_drewN | apply Kd.R_drew)); exact HO205.out) (Kd.R_base ho0) hb)
                            have n2_ := Aside0.mk (Kd.R_elder' (by (with_reducible repeat (first | apply Kd.R_alloc | apply Kd.R_drewN | apply Kd.R_drew)); exact HO209.out) (Kd.R_base ho0) hb)
                            have n3_ := Aside0.mk (Kd.R_elder' (by (with_reducible repeat (first | apply Kd.R_alloc | apply Kd.R_drewN | apply Kd.R_drew)); exact HO214.out) (Kd.R_base ho0) hb)
                            have n4_ := Aside0.mk (Kd.R_elder' (by (with_reducible repeat (first | apply Kd.R_alloc | apply Kd.R_drewN | apply Kd.R_drew)); exact HO219.out) (Kd.R_base ho0) hb)
                            have n5_ := Aside0.mk (Kd.R_lower (Kd.R_new' (Kd.R_new' (Kd.R_new' (Kd.R_new' (Kd.R_new' ho0 (Kd.R_lt (by (with_reducible repeat (first | apply Kd.R_alloc | apply Kd.R_drewN | apply Kd.R_drew)); exact HO200.out))) (Kd.R_lt (by (with_reducible repeat (first | apply Kd.R_alloc | apply Kd.R_drewN | apply Kd.R_drew)); exact HO205.out))) (Kd.R_lt (by (with_reducible repeat (first | apply Kd.R_alloc | apply Kd.R_drewN | apply Kd.R_drew)); exact HO209.out))) (Kd.R_lt (by (with_reducible repeat (first | apply Kd.R_alloc | apply Kd.R_drewN | apply Kd.R_drew)); exact HO214.out))) (Kd.R_lt (by (with_reducible repeat (first | apply Kd.R_alloc | apply Kd.R_drewN | apply Kd.R_drew)); exact HO219.out))) (below_size (by repeat (first | (with_reducible first | exact HB.out | apply below_alloc | apply pw_below_drewN | apply below_drew1 | refine below_set ?_ GE195.out) | exact HB.out))))
                            have n6_ := Aside0.mk (blk_below (g := gb195) (o := .cells #[.int .i64 a1_0, .string a1_1] 63 (0, 0)) (by (with_reducible repeat (first | refine blk_drewN ?_ _ | refine blk_drew ?_ | refine blk_alloc ?_ _)); exact BK195.out) hb)
                            have n7_ := Aside0.mk (below_step (by repeat (first | (with_reducible first | exact HB.out | apply below_alloc | apply pw_below_drewN | apply below_drew1 | refine below_set ?_ GE195.out) | exact HB.out)) hb)
                            clear HO200
                            clear HO205
                            clear HO209
                            clear HO214
                            clear HO219
                            clear BK195
                            clear HB
                            have HO200 := n0_
                            have HO205 := n1_
                            have HO209 := n2_
                            have HO214 := n3_
                            have HO219 := n4_
                            have HO229 := n5_
                            have BK195 := n6_
                            have HB := n7_
                            clear n0_ n1_ n2_ n3_ n4_ n5_ n6_ n7_
                            (try clear hb)
                            (try clear hb2)
                            (try clear hk)
                            (try clear hi)
                            (try clear ho0)
                            refine hK.out _ _ ⟨(blk_cell BK195.out 0).trans rfl, (blk_cell BK195.out 1).trans rfl⟩ (fun hHeld => ?_)
                            clear hK K
                            refine norm_ (a' := ?_) ?_ ?_
                            rotate_left
                            · show Act.put _ (some 86) _ = _
                              simp only [Act.put, List.setIfInBounds_toArray, List.set_cons_zero, List.set_cons_succ, i64_w, i32_w]
                              rfl
                            refine one_ (i := 3) (N := some 88) #[true, true, true, true, false, false, false, false, false, false] rfl rfl (one_of HT_.out (by kernel_rfl)) (by decide) (fun K hK => ?_)
                            refine goes_ Try.func45 (by kernel_rfl) rfl #[.agg #[.int .i64 a1_0, .string a1_1]] (by rfl) rfl rfl (by (try simp only [List.map_toArray, List.map_cons, List.map_nil]); first | done | rfl | (simp only [List.length_drop, List.length_take]; rfl)) ?_
                            with_reducible refine (laws_toOffer.calls a1_0 a1_1 t230 t231 _ A34.out).mono ?_
                            rintro e w68 ⟨rfl, hb⟩
                            refine ⟨_, rfl, ?_⟩
                            have n0_ := Aside0.mk (Kd.R_below (by (with_reducible repeat (first | apply Kd.R_alloc | apply Kd.R_drewN | apply Kd.R_drew)); exact HO200.out) hb)
                            have n1_ := Aside0.mk (Kd.R_below (by (with_reducible repeat (first | apply Kd.R_alloc | apply Kd.R_drewN | apply Kd.R_drew)); exact HO205.out) hb)
                            have n2_ := Aside0.mk (Kd.R_below (by (with_reducible repeat (first | apply Kd.R_alloc | apply Kd.R_drewN | apply Kd.R_drew)); exact HO209.out) hb)
                            have n3_ := Aside0.mk (Kd.R_below (by (with_reducible repeat (first | apply Kd.R_alloc | apply Kd.R_drewN | apply Kd.R_drew)); exact HO214.out) hb)
                            have n4_ := Aside0.mk (Kd.R_below (by (with_reducible repeat (first | apply Kd.R_alloc | apply Kd.R_drewN | apply Kd.R_drew)); exact HO219.out) hb)
                            have n5_ := Aside0.mk (Kd.R_below (by (with_reducible repeat (first | apply Kd.R_alloc | apply Kd.R_drewN | apply Kd.R_drew)); exact HO229.out) hb)
                            have n6_ := Aside0.mk (blk_below (g := gb195) (o := .cells #[.int .i64 a1_0, .string a1_1] 63 (0, 0)) (by (with_reducible repeat (first | refine blk_drewN ?_ _ | refine blk_drew ?_ | refine blk_alloc ?_ _)); exact BK195.out) hb)
                            have n7_ := Aside0.mk (below_step (by repeat (first | (with_reducible first | exact HB.out | apply below_alloc | apply pw_below_drewN | apply below_drew1 | refine below_set ?_ GE195.out) | exact HB.out)) hb)
                            clear HO200
                            clear HO205
                            clear HO209
                            clear HO214
                            clear HO219
                            clear HO229
                            clear BK195
                            clear HB
                            have HO200 := n0_
                            have HO205 := n1_
                            have HO209 := n2_
                            have HO214 := n3_
                            have HO219 := n4_
                            have HO229 := n5_
                            have BK195 := n6_
                            have HB := n7_
                            clear n0_ n1_ n2_ n3_ n4_ n5_ n6_ n7_
                            (try clear hb)
                            (try clear hb2)
                            (try clear hk)
                            (try clear hi)
                            obtain ⟨Ao69, co69, eo69⟩ := Kd.R_slice HO229.out
                            (first | subst eo69 | (injection eo69 with f1_ f2_ f3_; have f4_ := f1_.symm; have f5_ := f3_.symm; clear f1_ f2_ f3_; subst f4_; subst f5_))
                            refine hK.out _ _ ⟨(blk_cell BK195.out 0).trans rfl, (blk_cell BK195.out 1).trans rfl⟩ (fun hHeld => ?_)
                            clear hK K
                            refine norm_ (a' := ?_) ?_ ?_
                            rotate_left
                            · show Act.put _ (some 88) _ = _
                              simp only [Act.put, List.setIfInBounds_toArray, List.set_cons_zero, List.set_cons_succ, i64_w, i32_w]
                              rfl
                            refine one_ (i := 4) (N := some 89) #[true, true, true, true, true, false, false, false, false, false] rfl rfl (one_of HT_.out (by kernel_rfl)) (by decide) (fun K hK => ?_)
                            refine goes_ Try.func46 (by kernel_rfl) rfl #[.slice Ao69 t227.length co69, .agg #[.int .i64 t230, .string t231]] (by rfl) rfl rfl (by (try simp only [List.map_toArray, List.map_cons, List.map_nil]); first | done | rfl | (simp only [List.length_drop, List.length_take]; rfl)) ?_
                            with_reducible refine (impl_Offered.calls k _ _ t227 t230 t231 t232 t235 _ ?side1 ?side2 A35.out).mono ?_
                            (case side1 => repeat (first | exact (Kd.R_reads' HO229.out).2.2 | (with_reducible refine Kd.C_alloc ?_ _) | (with_reducible refine Kd.C_drewN ?_ _) | (with_reducible refine Kd.C_drew ?_)))
                            (case side2 => exact (Kd.R_reads' HO229.out).2.1)
                            rintro e w70 ⟨v233, rfl, ho0, hb⟩
                            refine ⟨_, rfl, ?_⟩
                            have n0_ := Aside0.mk (Kd.R_elder' (by (with_reducible repeat (first | apply Kd.R_alloc | apply Kd.R_drewN | apply Kd.R_drew)); exact HO200.out) (Kd.R_base ho0) hb)
                            have n1_ := Aside0.mk (Kd.R_elder' (by (with_reducible repeat (first | apply Kd.R_alloc | apply Kd.R_drewN | apply Kd.R_drew)); exact HO205.out) (Kd.R_base ho0) hb)
                            have n2_ := Aside0.mk (Kd.R_elder' (by (with_reducible repeat (first | apply Kd.R_alloc | apply Kd.R_drewN | apply Kd.R_drew)); exact HO209.out) (Kd.R_base ho0) hb)
                            have n3_ := Aside0.mk (Kd.R_elder' (by (with_reducible repeat (first | apply Kd.R_alloc | apply Kd.R_drewN | apply Kd.R_drew)); exact HO214.out) (Kd.R_base ho0) hb)
                            have n4_ := Aside0.mk (Kd.R_elder' (by (with_reducible repeat (first | apply Kd.R_alloc | apply Kd.R_drewN | apply Kd.R_drew)); exact HO219.out) (Kd.R_base ho0) hb)
                            have n5_ := Aside0.mk (Kd.R_elder' (by (with_reducible repeat (first | apply Kd.R_alloc | apply Kd.R_drewN | apply Kd.R_drew)); exact HO229.out) (Kd.R_base ho0) hb)
                            have n6_ := Aside0.mk (Kd.R_lower (Kd.R_new' (Kd.R_new' (Kd.R_new' (Kd.R_new' (Kd.R_new' (Kd.R_new' ho0 (Kd.R_lt (by (with_reducible repeat (first | apply Kd.R_alloc | apply Kd.R_drewN | apply Kd.R_drew)); exact HO200.out))) (Kd.R_lt (by (with_reducible repeat (first | apply Kd.R_alloc | apply Kd.R_drewN | apply Kd.R_drew)); exact HO205.out))) (Kd.R_lt (by (with_reducible repeat (first | apply Kd.R_alloc | apply Kd.R_drewN | apply Kd.R_drew)); exact HO209.out))) (Kd.R_lt (by (with_reducible repeat (first | apply Kd.R_alloc | apply Kd.R_drewN | apply Kd.R_drew)); exact HO214.out))) (Kd.R_lt (by (with_reducible repeat (first | apply Kd.R_alloc | apply Kd.R_drewN | apply Kd.R_drew)); exact HO219.out))) (Kd.R_lt (by (with_reducible repeat (first | apply Kd.R_alloc | apply Kd.R_drewN | apply Kd.R_drew)); exact HO229.out))) (below_size (by repeat (first | (with_reducible first | exact HB.out | apply below_alloc | apply pw_below_drewN | apply below_drew1 | refine below_set ?_ GE195.out) | exact HB.out))))
                            have n7_ := Aside0.mk (blk_below (g := gb195) (o := .cells #[.int .i64 a1_0, .string a1_1] 63 (0, 0)) (by (with_reducible repeat (first | refine blk_drewN ?_ _ | refine blk_drew ?_ | refine blk_alloc ?_ _)); exact BK195.out) hb)
                            have n8_ := Aside0.mk (below_step (by repeat (first | (with_reducible first | exact HB.out | apply below_alloc | apply pw_below_drewN | apply below_drew1 | refine below_set ?_ GE195.out) | exact HB.out)) hb)
                            clear HO200
                            clear HO205
                            clear HO209
                            clear HO214
                            clear HO219
                            clear HO229
                            clear BK195
                            clear HB
                            have HO200 := n0_
                            have HO205 := n1_
                            have HO209 := n2_
                            have HO214 := n3_
                            have HO219 := n4_
                            have HO229 := n5_
                            have HO234 := n6_
                            have BK195 := n7_
                            have HB := n8_
                            clear n0_ n1_ n2_ n3_ n4_ n5_ n6_ n7_ n8_
                            (try clear hb)
                            (try clear hb2)
                            (try clear hk)
                            (try clear hi)
                            (try clear ho0)
                            refine hK.out _ _ ⟨(blk_cell BK195.out 0).trans rfl, (blk_cell BK195.out 1).trans rfl⟩ (fun hHeld => ?_)
                            clear hK K
                            refine norm_ (a' := ?_) ?_ ?_
                            rotate_left
                            · show Act.put _ (some 89) _ = _
                              simp only [Act.put, List.setIfInBounds_toArray, List.set_cons_zero, List.set_cons_succ, i64_w, i32_w]
                              rfl
                            refine pure_ (i := 5) (N := some 84) (v := ?_) (a' := ?_) #[true, true, true, true, true, true, false, false, false, false] rfl rfl (any_of HT_.out (by kernel_rfl)) (fun _ _ _ h => h) (Or.inl ⟨by rfl, ?_⟩) ?_ ?_
                            rotate_left
                            · intro w'
                              go_simp
                              with_reducible rfl
                            rotate_left
                            · simp only [Act.put, List.setIfInBounds_toArray, List.set_cons_zero, List.set_cons_succ, i64_w, i32_w]
                              rfl
                            refine pure_ (i := 6) (N := some 90) (v := ?_) (a' := ?_) #[true, true, true, true, true, true, true, false, false, false] rfl rfl (any_of HT_.out (by kernel_rfl)) (fun _ _ _ h => h) (Or.inl ⟨by rfl, ?_⟩) ?_ ?_
                            rotate_left
                            · intro w'
                              go_simp
                              with_reducible rfl
                            rotate_left
                            · simp only [Act.put, List.setIfInBounds_toArray, List.set_cons_zero, List.set_cons_succ, i64_w, i32_w]
                              rfl
                            refine pure_ (i := 7) (N := some 91) (v := ?_) (a' := ?_) #[true, true, true, true, true, true, true, true, false, false] rfl rfl (any_of HT_.out (by kernel_rfl)) (fun _ _ _ h => h) (Or.inl ⟨by rfl, ?_⟩) ?_ ?_
                            rotate_left
                            · intro w'
                              go_simp
                              with_reducible rfl
                            rotate_left
                            · simp only [Act.put, List.setIfInBounds_toArray, List.set_cons_zero, List.set_cons_succ, i64_w, i32_w]
                              rfl
                            refine pure_ (i := 8) (N := some 14) (v := ?_) (a' := ?_) #[true, true, true, true, true, true, true, true, true, false] rfl rfl (any_of HT_.out (by kernel_rfl)) (fun _ _ _ h => h) (Or.inl ⟨by rfl, ?_⟩) ?_ ?_
                            rotate_left
                            · intro w'
                              go_simp
                              with_reducible rfl
                            rotate_left
                            · simp only [Act.put, List.setIfInBounds_toArray, List.set_cons_zero, List.set_cons_succ, i64_w, i32_w]
                              rfl
                            refine pure_ (i := 9) (N := some 15) (v := ?_) (a' := ?_) #[true, true, true, true, true, true, true, true, true, true] rfl rfl (any_of HT_.out (by kernel_rfl)) (fun _ _ _ h => h) (Or.inl ⟨by rfl, ?_⟩) ?_ ?_
                            rotate_left
                            · intro w'
                              go_simp
                              with_reducible rfl
                            rotate_left
                            · simp only [Act.put, List.setIfInBounds_toArray, List.set_cons_zero, List.set_cons_succ, i64_w, i32_w]
                              rfl
                            refine done_ (done_of HT_.out (by kernel_rfl)) ?_
                            obtain ⟨Ao71, co71, eo71⟩ := Kd.R_slice HO234.out
                            subst eo71
                            try go_wp2_with (first | ((with_reducible refine gate_callee (f := 31) rfl ?_); refine goesL_ (some 94) rfl rfl Try.func31 (by kernel_rfl) rfl #[.slice Ao71 t232.length co71, .slice Ao57 t203.length co57] rfl (by (try simp only [List.map_toArray, List.map_cons, List.map_nil]); first | done | rfl | (simp only [List.length_drop, List.length_take]; rfl)) ?_; (with_reducible refine (laws_eqOfferS.calls k _ _ t232 _ _ t203 true _ ?side1 ?side2 ?side3 ?side4 A36.out).mono ?_); (case side1 => repeat (first | exact (Kd.R_reads' HO234.out).2.2 | (with_reducible refine Kd.C_alloc ?_ _) | (with_reducible refine Kd.C_drewN ?_ _) | (with_reducible refine Kd.C_drew ?_))); (case side2 => exact (Kd.R_reads' HO234.out).2.1); (case side3 => repeat (first | exact (Kd.R_reads' HO205.out).2.2 | (with_reducible refine Kd.C_alloc ?_ _) | (with_reducible refine Kd.C_drewN ?_ _) | (with_reducible refine Kd.C_drew ?_))); (case side4 => exact (Kd.R_reads' HO205.out).2.1); rintro e w72 ⟨rfl, hb⟩; refine ⟨_, rfl, ?_⟩; have n0_ := Aside0.mk (Kd.R_below (by (with_reducible repeat (first | apply Kd.R_alloc | apply Kd.R_drewN | apply Kd.R_drew)); exact HO200.out) hb); have n1_ := Aside0.mk (Kd.R_below (by (with_reducible repeat (first | apply Kd.R_alloc | apply Kd.R_drewN | apply Kd.R_drew)); exact HO205.out) hb); have n2_ := Aside0.mk (Kd.R_below (by (with_reducible repeat (first | apply Kd.R_alloc | apply Kd.R_drewN | apply Kd.R_drew)); exact HO209.out) hb); have n3_ := Aside0.mk (Kd.R_below (by (with_reducible repeat (first | apply Kd.R_alloc | apply Kd.R_drewN | apply Kd.R_drew)); exact HO214.out) hb); have n4_ := Aside0.mk (Kd.R_below (by (with_reducible repeat (first | apply Kd.R_alloc | apply Kd.R_drewN | apply Kd.R_drew)); exact HO219.out) hb); have n5_ := Aside0.mk (Kd.R_below (by (with_reducible repeat (first | apply Kd.R_alloc | apply Kd.R_drewN | apply Kd.R_drew)); exact HO229.out) hb); have n6_ := Aside0.mk (Kd.R_below (by (with_reducible repeat (first | apply Kd.R_alloc | apply Kd.R_drewN | apply Kd.R_drew)); exact HO234.out) hb); have n7_ := Aside0.mk (blk_below (g := gb195) (o := .cells #[.int .i64 a1_0, .string a1_1] 63 (0, 0)) (by (with_reducible repeat (first | refine blk_drewN ?_ _ | refine blk_drew ?_ | refine blk_alloc ?_ _)); exact BK195.out) hb); have n8_ := Aside0.mk (below_step (by repeat (first | (with_reducible first | exact HB.out | apply below_alloc | apply pw_below_drewN | apply below_drew1 | refine below_set ?_ GE195.out) | exact HB.out)) hb); clear HO200; clear HO205; clear HO209; clear HO214; clear HO219; clear HO229; clear HO234; clear BK195; clear HB; have HO200 := n0_; have HO205 := n1_; have HO209 := n2_; have HO214 := n3_; have HO219 := n4_; have HO229 := n5_; have HO234 := n6_; have BK195 := n7_; have HB := n8_; clear n0_ n1_ n2_ n3_ n4_ n5_ n6_ n7_ n8_; (try clear hb); (try clear hb2); (try clear hk); (try clear hi)) | ((with_reducible refine gate_callee (f := 48) rfl ?_); refine goesL_ (some 103) rfl rfl Try.func48 (by kernel_rfl) rfl #[.slice Ao56 t225.length co56, .int .i64 1] rfl (by (try simp only [List.map_toArray, List.map_cons, List.map_nil]); first | done | (rw [show t225.length = t212.length from (Kd.R_reads' HO214.out).1.symm] <;> rfl) | rfl | (simp only [List.length_drop, List.length_take]; rfl)) ?_; (with_reducible refine (laws_heldOfferS.calls k _ _ t225 1 t237 _ ?side1 ?side2 A39.out).mono ?_); (case side1 => repeat (first | exact (Kd.R_reads' HO214.out).2.2 | (with_reducible refine Kd.C_alloc ?_ _) | (with_reducible refine Kd.C_drewN ?_ _) | (with_reducible refine Kd.C_drew ?_))); (case side2 => rw [show t225.length = t212.length from (Kd.R_reads' HO214.out).1.symm]; exact (Kd.R_reads' HO214.out).2.1); rintro e w73 ⟨rfl, hb⟩; refine ⟨_, rfl, ?_⟩; have n0_ := Aside0.mk (Kd.R_below (by (with_reducible repeat (first | apply Kd.R_alloc | apply Kd.R_drewN | apply Kd.R_drew)); exact HO214.out) hb); have n1_ := Aside0.mk (below_step (by repeat (first | (with_reducible first | exact HB.out | apply below_alloc | apply pw_below_drewN | apply below_drew1) | exact HB.out)) hb); clear HO214; clear HB; have HO214 := n0_; have HB := n1_; clear n0_ n1_; (try clear hb); (try clear hb2); (try clear hk); (try clear hi)))
                            go_ret
                            exact ⟨by first | rfl | (simp [errW_none, errW_some] <;> rfl) | (simp [*, errW_none, errW_some] <;> rfl), by repeat (first | (with_reducible first | exact HB.out | apply below_alloc | apply pw_below_drewN | apply below_drew1) | exact HB.out)⟩
                          · rw [if_neg c41] at H
                            exact absurd H (by simp)
                    · replace c37 := Bool.eq_false_iff.mpr c37
                      subst c37
                      have H1 : (none) = some r := by rw [if_neg (show ¬ (false = true) by decide)] at H; exact H
                      clear H
                      have H := H1
                      clear H1
                      exact absurd H (by simp)
                  · rw [if_neg c32] at H
                    exact absurd H (by simp)
              · replace c28 := Bool.eq_false_iff.mpr c28
                subst c28
                have H1 : (none) = some r := by rw [if_neg (show ¬ (false = true) by decide)] at H; exact H
                clear H
                have H := H1
                clear H1
                exact absurd H (by simp)
          · replace c24 := Bool.eq_false_iff.mpr c24
            subst c24
            have H1 : (none) = some r := by rw [if_neg (show ¬ (false = true) by decide)] at H; exact H
            clear H
            have H := H1
            clear H1
            exact absurd H (by simp)
      · replace c20 := Bool.eq_false_iff.mpr c20
        subst c20
        have H1 : (none) = some r := by rw [if_neg (show ¬ (false = true) by decide)] at H; exact H
        clear H
        have H := H1
        clear H1
        exact absurd H (by simp)

end Go.Proofs.Ytgpofolfflfgiaa.PFnExactOffered
