-- Written by a program of this session (wip/tools/pp.py over the kit's print).
import Derived.Test.YtokhjhkkncbjeaaDoorVFnBlocks
import Derived.Test.YtokhjhkkncbjeaaDoorPFnBlocksx0
import Derived.Test.YtokhjhkkncbjeaaDoorPFnBlocksx18
import Derived.Test.YtokhjhkkncbjeaaDoorPFnBlocksx20
import Derived.Test.YtokhjhkkncbjeaaDoorPFnBlocksx21
namespace Go.Proofs.YtokhjhkkncbjeaaDoor.PFnBlocks
open Go.RowKit Go.Proofs.YtokhjhkkncbjeaaDoorW.PrintWords Go.Proofs.YtokhjhkkncbjeaaDoorW.PrintLast Go.Proofs.YtokhjhkkncbjeaaDoorW.PrintMore
attribute [local go_sem] max2_int min2_int max_two min_two max_three min_three max_four min_four
attribute [local go_sem high] str_gtr str_leq str_geq
set_option linter.unusedVariables false
set_option linter.unusedSimpArgs false

/-! ### impl_BlockOk: function 15 -/
def impl_BlockOk.f (k : Nat) (a0_0 : Int) (a0_1 : Int) (a0_2 : Int) (a0_3 : Int) (l0_4 : List Int) (l0_5 : List Int) (l0_6 : List ByteArray) (a0_7 : Int) (a1 : Int) : Option (Bool) := (impl_ProofOk.f k a0_2 a0_3 l0_4 l0_5 a1).bind fun t641 => (if t641 = true then ((impl_isView.f a0_0).bind fun t642 => (if t642 = true then (if a0_2 < a0_0 then (if a0_1 = a0_3 then (if a1 = 0 then (none) else (if a0_7 = (Int.tmod a0_0 a1) then (if (l0_6.length : Int) ≤ 10 then ((slices_ContainsFunc_string_string.f l0_6).bind fun t643 => (some (!t643))) else (some false)) else (some false))) else (some false)) else (some false)) else (some false))) else (some false))
theorem impl_BlockOk.mono : ∀ a0 a1 a2 a3 a4 a5 a6 a7 a8 k, LeO (impl_BlockOk.f k a0 a1 a2 a3 a4 a5 a6 a7 a8) (impl_BlockOk.f (k + 1) a0 a1 a2 a3 a4 a5 a6 a7 a8) := by
 intro a0 a1 a2 a3 a4 a5 a6 a7 a8 k
 unfold impl_BlockOk.f
 repeat' with_reducible first
   | exact impl_ProofOk.mono _ _ _ _ _ _
   | exact LeO.refl _
   | exact LeO.none _
   | refine LeO.ite ?_ ?_
   | refine LeO.bind ?_ (fun _ => ?_)
def impl_BlockOk.T1 : Bool × List (List Nat × List Nat) := (true, [([], []), ([0], [0]), ([], []), ([1, 2], [1, 2]), ([3, 3], [3]), ([4], [4]), ([5, 4], [4, 5]), ([6, 4, 4], [4, 6]), ([4, 7], [4, 7]), ([8, 7], [8]), ([9], [9]), ([10, 9], [9, 10]), ([11, 9], [9, 11]), ([9], [9]), ([13, 9], [9, 13]), ([12, 14, 9], [9, 12, 14]), ([9, 15], [9, 15]), ([16, 9], [16]), ([17], [17]), ([18, 17], [17, 18]), ([17], [17]), ([20, 17], [17, 20]), ([21, 17], [17, 21]), ([19, 22, 17], [17, 19, 22]), ([17, 23], [17, 23]), ([24, 17], [24]), ([25], [25]), ([26, 25], [25, 26]), ([25], [25]), ([28, 25], [25, 28]), ([25], [25]), ([29, 30, 25], [25, 29, 30]), ([27, 31, 25], [25, 27, 31]), ([25, 32], [25, 32]), ([33, 25], [33]), ([34], [34]), ([35, 34], [34, 35]), ([36, 34], [34, 36]), ([37, 34], [34, 37]), ([34, 38], [34, 38]), ([39, 34], [39]), ([40], [40]), ([41, 40], [40, 41]), ([42, 40, 40], [40, 42]), ([43, 40], [40, 43]), ([40, 44], [40, 44]), ([45, 43, 0, 1, 2, 3, 4, 5, 6, 7, 8, 9, 10, 11, 12, 13, 14, 15, 16, 17, 18, 19, 20, 21, 22, 23, 24, 25, 26, 27, 28, 29, 30, 31, 32, 33, 34, 35, 36, 37, 38, 39, 40, 41, 42, 43, 44, 45], [45])])
def impl_BlockOk.B1 : List Nat := [0, 1, 0, 7, 15, 31, 63, 127, 255, 511, 1023, 2047, 4095, 1023, 9215, 32767, 65535, 131071, 262143, 524287, 262143, 1310719, 3407871, 8388607, 16777215, 33554431, 67108863, 134217727, 67108863, 335544319, 67108863, 1946157055, 4294967295, 8589934591, 17179869183, 34359738367, 68719476735, 137438953471, 274877906943, 549755813887, 1099511627775, 2199023255551, 4398046511103, 8796093022207, 17592186044415, 35184372088831, 70368744177663]
theorem impl_BlockOk.tab1 : rtab .any (opsOf Tryd.f15 1) = impl_BlockOk.T1 := by kernel_rfl
theorem impl_BlockOk.bits1 : waitsOk impl_BlockOk.T1.2 impl_BlockOk.B1 = true := by kernel_rfl
set_option maxHeartbeats 8000000 in
set_option maxRecDepth 100000 in
theorem impl_BlockOk.calls (k : Nat) (a0_0 : Int) (a0_1 : Int) (a0_2 : Int) (a0_3 : Int) (A0_4 : Option Addr) (c0_4 : Nat) (l0_4 : List Int) (A0_5 : Option Addr) (c0_5 : Nat) (l0_5 : List Int) (A0_6 : Option Addr) (c0_6 : Nat) (l0_6 : List ByteArray) (a0_7 : Int) (a1 : Int) (r : Bool) (w : World) (hr0_4 : Kd.C (Kd.int .i64) w A0_4 l0_4.length l0_4) (hc0_4 : l0_4.length ≤ c0_4) (hr0_5 : Kd.C (Kd.int .i64) w A0_5 l0_5.length l0_5) (hc0_5 : l0_5.length ≤ c0_5) (hr0_6 : Kd.C Kd.string w A0_6 l0_6.length l0_6) (hc0_6 : l0_6.length ≤ c0_6) (h : impl_BlockOk.f k a0_0 a0_1 a0_2 a0_3 l0_4 l0_5 l0_6 a0_7 a1 = some r) (hT : TabOk w) :
  Calls Tryd.prog 15 #[.agg #[.int .i64 a0_0, .int .i64 a0_1, .int .i64 a0_2, .int .i64 a0_3, .slice A0_4 l0_4.length c0_4, .slice A0_5 l0_5.length c0_5, .slice A0_6 l0_6.length c0_6, .int .i64 a0_7], .int .i64 a1] w fun e w' => e = .returned (.bool r) ∧ Below w.heap.size w w' := by
 have HT := Aside0.mk hT
 clear hT
 have hu29 := Tryd.underlying29
 have hu26 := Tryd.underlying26
 have HR0_4 := Aside0.mk hr0_4
 have HC0_4 := Aside0.mk hc0_4
 clear hr0_4 hc0_4
 have HR0_5 := Aside0.mk hr0_5
 have HC0_5 := Aside0.mk hc0_5
 clear hr0_5 hc0_5
 have HR0_6 := Aside0.mk hr0_6
 have HC0_6 := Aside0.mk hc0_6
 clear hr0_6 hc0_6
 have HB := Aside0.mk (Below.refl w.heap.size w)
 have H : ((impl_ProofOk.f k a0_2 a0_3 l0_4 l0_5 a1).bind fun t641 => (if t641 = true then ((impl_isView.f a0_0).bind fun t642 => (if t642 = true then (if a0_2 < a0_0 then (if a0_1 = a0_3 then (if a1 = 0 then (none) else (if a0_7 = (Int.tmod a0_0 a1) then (if (l0_6.length : Int) ≤ 10 then ((slices_ContainsFunc_string_string.f l0_6).bind fun t643 => (some (!t643))) else (some false)) else (some false))) else (some false)) else (some false)) else (some false))) else (some false))) = some r := h
 clear h
 replace H := Option.bind_eq_some_iff.mp H
 obtain ⟨t641, A30, H⟩ := H
 try dsimp only at H
 have A3 := Aside0.mk A30
 clear A30
 by_cases c4 : t641 = true
 ·subst c4
  have H1 : ((impl_isView.f a0_0).bind fun t642 => (if t642 = true then (if a0_2 < a0_0 then (if a0_1 = a0_3 then (if a1 = 0 then (none) else (if a0_7 = (Int.tmod a0_0 a1) then (if (l0_6.length : Int) ≤ 10 then ((slices_ContainsFunc_string_string.f l0_6).bind fun t643 => (some (!t643))) else (some false)) else (some false))) else (some false)) else (some false)) else (some false))) = some r := by rw [if_pos rfl] at H; exact H
  clear H
  have H := H1
  clear H1
  replace H := Option.bind_eq_some_iff.mp H
  obtain ⟨t642, A50, H⟩ := H
  try dsimp only at H
  have A5 := Aside0.mk A50
  clear A50
  by_cases c6 : t642 = true
  ·subst c6
   have H1 : (if a0_2 < a0_0 then (if a0_1 = a0_3 then (if a1 = 0 then (none) else (if a0_7 = (Int.tmod a0_0 a1) then (if (l0_6.length : Int) ≤ 10 then ((slices_ContainsFunc_string_string.f l0_6).bind fun t643 => (some (!t643))) else (some false)) else (some false))) else (some false)) else (some false)) = some r := by rw [if_pos rfl] at H; exact H
   clear H
   have H := H1
   clear H1
   by_cases c7 : a0_2 < a0_0
   ·rw [if_pos c7] at H
    have c7b0 : decide (a0_2 < a0_0) = true := decide_eq_true c7
    clear c7
    by_cases c8 : a0_1 = a0_3
    ·rw [if_pos c8] at H
     have c8b0 : (a0_1 == a0_3) = true := beq_iff_eq.mpr c8
     have c8b1 : (a0_1 != a0_3) = false := bne_eq_false_iff_eq.mpr c8
     clear c8
     by_cases c9 : a1 = 0
     ·rw [if_pos c9] at H
      exact absurd H (by simp)
     ·rw [if_neg c9] at H
      have c9b0 : (a1 == 0) = false := beq_eq_false_iff_ne.mpr c9
      have c9b1 : (a1 != 0) = true := bne_iff_ne.mpr c9
      by_cases c10 : a0_7 = (Int.tmod a0_0 a1)
      ·rw [if_pos c10] at H
       have c10b0 : (a0_7 == (Int.tmod a0_0 a1)) = true := beq_iff_eq.mpr c10
       have c10b1 : (a0_7 != (Int.tmod a0_0 a1)) = false := bne_eq_false_iff_eq.mpr c10
       clear c10
       by_cases c11 : (l0_6.length : Int) ≤ 10
       ·rw [if_pos c11] at H
        have c11b0 : decide ((l0_6.length : Int) ≤ 10) = true := decide_eq_true c11
        have c11b1 : decide (l0_6.length ≤ 10) = true := decide_eq_true (by omega)
        clear c11
        replace H := Option.bind_eq_some_iff.mp H
        obtain ⟨t643, A120, H⟩ := H
        replace H : (some (!t643)) = some r := H
        have A12 := Aside0.mk A120
        clear A120
        obtain rfl := Option.some.inj H
        go_enter Tryd.func15, Tryd.ntmps15
        try go_wp2_with (first | ((with_reducible refine gate_dst (N := 2) rfl ?_); (try (refine gate_guard (by rfl) ?_; dsimp only)); refine box_event ?hg (N := 2) ?hd (cs := #[.int .i64 a0_0, .int .i64 a0_1, .int .i64 a0_2, .int .i64 a0_3, .slice A0_4 l0_4.length c0_4, .slice A0_5 l0_5.length c0_5, .slice A0_6 l0_6.length c0_6, .int .i64 a0_7]) (t := 29) ?hr ?_; (case hd => rfl); (case hg => rfl); (case hr => first | (go_simp; done) | (go_simp; rfl)); intro gb640 hg w13 hbox hb; have BK640 := Aside0.mk (hbox); have GW640 := Aside0.mk ((by rw [hg]; exact (below_size Z0) : w.heap.size ≤ gb640)); have GE640 := Aside0.mk ((by rw [hg]; exact (below_size Z0) : w.heap.size ≤ gb640)); replace HB := Aside0.mk (below_step Z0 hb); clear hb hbox hg))
        replace BK640 := Aside0.mk (blk_drew BK640.out)
        replace HB := Aside0.mk (below_drew1 HB.out)
        refine wp_quiet_below (by kernel_rfl) (by kernel_rfl) ?_
        generalize w13.drew = w14 at BK640 HB ⊢
        have sq0_ : ∀ p_ : Bw w14, p_.W.cell? ⟨gb640, 0, none⟩ = some (.int .i64 a0_0) := fun p_ => p_.cell ((blk_cell BK640.out 0).trans rfl)
        have sq1_ : ∀ p_ : Bw w14, p_.W.cell? ⟨gb640, 1, none⟩ = some (.int .i64 a0_1) := fun p_ => p_.cell ((blk_cell BK640.out 1).trans rfl)
        have sq2_ : ∀ p_ : Bw w14, p_.W.cell? ⟨gb640, 2, none⟩ = some (.int .i64 a0_2) := fun p_ => p_.cell ((blk_cell BK640.out 2).trans rfl)
        have sq3_ : ∀ p_ : Bw w14, p_.W.cell? ⟨gb640, 3, none⟩ = some (.int .i64 a0_3) := fun p_ => p_.cell ((blk_cell BK640.out 3).trans rfl)
        have sq4_ : ∀ p_ : Bw w14, p_.W.cell? ⟨gb640, 4, none⟩ = some (.slice A0_4 l0_4.length c0_4) := fun p_ => p_.cell ((blk_cell BK640.out 4).trans rfl)
        have sq5_ : ∀ p_ : Bw w14, p_.W.cell? ⟨gb640, 5, none⟩ = some (.slice A0_5 l0_5.length c0_5) := fun p_ => p_.cell ((blk_cell BK640.out 5).trans rfl)
        have sq6_ : ∀ p_ : Bw w14, p_.W.cell? ⟨gb640, 6, none⟩ = some (.slice A0_6 l0_6.length c0_6) := fun p_ => p_.cell ((blk_cell BK640.out 6).trans rfl)
        have sq7_ : ∀ p_ : Bw w14, p_.W.cell? ⟨gb640, 7, none⟩ = some (.int .i64 a0_7) := fun p_ => p_.cell ((blk_cell BK640.out 7).trans rfl)
        have eq37_ : ∀ args w, (callFunc 37 args).run Tryd.prog w = .ok (.enter 37 args) w := enters_ Tryd.func37 (by kernel_rfl) rfl
        have eq38_ : ∀ args w, (callFunc 38 args).run Tryd.prog w = .ok (.enter 38 args) w := enters_ Tryd.func38 (by kernel_rfl) rfl
        have eq39_ : ∀ args w, (callFunc 39 args).run Tryd.prog w = .ok (.enter 39 args) w := enters_ Tryd.func39 (by kernel_rfl) rfl
        repeat (go_big_quiet_step ((rename_i p_; have hb := p_.h; have n0_ := Aside0.mk (blk_below (g := gb640) (o := .cells #[.int .i64 a0_0, .int .i64 a0_1, .int .i64 a0_2, .int .i64 a0_3, .slice A0_4 l0_4.length c0_4, .slice A0_5 l0_5.length c0_5, .slice A0_6 l0_6.length c0_6, .int .i64 a0_7] 29 (0, 0)) Z14 hb); have n1_ := Aside0.mk (below_step Z11 hb); have BK640 := n0_; have HB := n1_; first | (go_at_fn 37; with_reducible refine Calls.bw (impl_ProofOk.calls k a0_2 a0_3 _ _ l0_4 _ _ l0_5 a1 true _ ?side1 ?side2 ?side3 ?side4 A3.out (tab_at HT.out Z8)); (case side1 => exact J9); (case side2 => exact HC0_4.out); (case side3 => exact J10); (case side4 => exact HC0_5.out)) | (go_at_fn 38; with_reducible exact Calls.bw0 (impl_isView.calls a0_0 true _ A5.out)) | (go_at_fn 39; with_reducible refine Calls.bw (slices_ContainsFunc_string_string.calls _ _ l0_6 t643 _ ?side1 ?side2 A12.out); (case side1 => exact (by repeat (first | exact (Kd.C_below HR0_6.out Z11) | (with_reducible refine Kd.C_alloc ?_ _) | (with_reducible refine Kd.C_drewN ?_ _) | (with_reducible refine Kd.C_drew ?_)))); (case side2 => exact HC0_6.out)))))
        refine wpQuiet_nil ?_
        clear sq0_ sq1_ sq2_ sq3_ sq4_ sq5_ sq6_ sq7_ eq37_ eq38_ eq39_
        rintro w16 ⟨q_, hq_⟩
        have hb := q_.h
        rw [← hq_] at hb
        clear hq_ q_
        replace BK640 := Aside0.mk (blk_below (g := gb640) (o := .cells #[.int .i64 a0_0, .int .i64 a0_1, .int .i64 a0_2, .int .i64 a0_3, .slice A0_4 l0_4.length c0_4, .slice A0_5 l0_5.length c0_5, .slice A0_6 l0_6.length c0_6, .int .i64 a0_7] 29 (0, 0)) Z14 hb)
        replace HB := Aside0.mk (below_step Z11 hb)
        (try clear hb)
        (try clear hb2)
        (try clear hk)
        (try clear hi)
        try go_wp2
        go_ret
        exact ⟨J0, J17⟩
       ·rw [if_neg c11] at H
        have c11b0 : decide ((l0_6.length : Int) ≤ 10) = false := decide_eq_false c11
        have c11b1 : decide (l0_6.length ≤ 10) = false := decide_eq_false (by omega)
        clear c11
        obtain rfl := Option.some.inj H
        go_enter Tryd.func15, Tryd.ntmps15
        try go_wp2_with (first | ((with_reducible refine gate_dst (N := 2) rfl ?_); (try (refine gate_guard (by rfl) ?_; dsimp only)); refine box_event ?hg (N := 2) ?hd (cs := #[.int .i64 a0_0, .int .i64 a0_1, .int .i64 a0_2, .int .i64 a0_3, .slice A0_4 l0_4.length c0_4, .slice A0_5 l0_5.length c0_5, .slice A0_6 l0_6.length c0_6, .int .i64 a0_7]) (t := 29) ?hr ?_; (case hd => rfl); (case hg => rfl); (case hr => first | (go_simp; done) | (go_simp; rfl)); intro gb640 hg w17 hbox hb; have BK640 := Aside0.mk (hbox); have GW640 := Aside0.mk ((by rw [hg]; exact (below_size Z0) : w.heap.size ≤ gb640)); have GE640 := Aside0.mk ((by rw [hg]; exact (below_size Z0) : w.heap.size ≤ gb640)); replace HB := Aside0.mk (below_step Z0 hb); clear hb hbox hg))
        replace BK640 := Aside0.mk (blk_drew BK640.out)
        replace HB := Aside0.mk (below_drew1 HB.out)
        refine wp_quiet_below (by kernel_rfl) (by kernel_rfl) ?_
        generalize w17.drew = w18 at BK640 HB ⊢
        have sq0_ : ∀ p_ : Bw w18, p_.W.cell? ⟨gb640, 0, none⟩ = some (.int .i64 a0_0) := fun p_ => p_.cell ((blk_cell BK640.out 0).trans rfl)
        have sq1_ : ∀ p_ : Bw w18, p_.W.cell? ⟨gb640, 1, none⟩ = some (.int .i64 a0_1) := fun p_ => p_.cell ((blk_cell BK640.out 1).trans rfl)
        have sq2_ : ∀ p_ : Bw w18, p_.W.cell? ⟨gb640, 2, none⟩ = some (.int .i64 a0_2) := fun p_ => p_.cell ((blk_cell BK640.out 2).trans rfl)
        have sq3_ : ∀ p_ : Bw w18, p_.W.cell? ⟨gb640, 3, none⟩ = some (.int .i64 a0_3) := fun p_ => p_.cell ((blk_cell BK640.out 3).trans rfl)
        have sq4_ : ∀ p_ : Bw w18, p_.W.cell? ⟨gb640, 4, none⟩ = some (.slice A0_4 l0_4.length c0_4) := fun p_ => p_.cell ((blk_cell BK640.out 4).trans rfl)
        have sq5_ : ∀ p_ : Bw w18, p_.W.cell? ⟨gb640, 5, none⟩ = some (.slice A0_5 l0_5.length c0_5) := fun p_ => p_.cell ((blk_cell BK640.out 5).trans rfl)
        have sq6_ : ∀ p_ : Bw w18, p_.W.cell? ⟨gb640, 6, none⟩ = some (.slice A0_6 l0_6.length c0_6) := fun p_ => p_.cell ((blk_cell BK640.out 6).trans rfl)
        have sq7_ : ∀ p_ : Bw w18, p_.W.cell? ⟨gb640, 7, none⟩ = some (.int .i64 a0_7) := fun p_ => p_.cell ((blk_cell BK640.out 7).trans rfl)
        have eq37_ : ∀ args w, (callFunc 37 args).run Tryd.prog w = .ok (.enter 37 args) w := enters_ Tryd.func37 (by kernel_rfl) rfl
        have eq38_ : ∀ args w, (callFunc 38 args).run Tryd.prog w = .ok (.enter 38 args) w := enters_ Tryd.func38 (by kernel_rfl) rfl
        repeat (go_big_quiet_step ((rename_i p_; have hb := p_.h; have n0_ := Aside0.mk (blk_below (g := gb640) (o := .cells #[.int .i64 a0_0, .int .i64 a0_1, .int .i64 a0_2, .int .i64 a0_3, .slice A0_4 l0_4.length c0_4, .slice A0_5 l0_5.length c0_5, .slice A0_6 l0_6.length c0_6, .int .i64 a0_7] 29 (0, 0)) Z14 hb); have n1_ := Aside0.mk (below_step Z11 hb); have BK640 := n0_; have HB := n1_; first | (go_at_fn 37; with_reducible refine Calls.bw (impl_ProofOk.calls k a0_2 a0_3 _ _ l0_4 _ _ l0_5 a1 true _ ?side1 ?side2 ?side3 ?side4 A3.out (tab_at HT.out Z8)); (case side1 => exact J9); (case side2 => exact HC0_4.out); (case side3 => exact J10); (case side4 => exact HC0_5.out)) | (go_at_fn 38; with_reducible exact Calls.bw0 (impl_isView.calls a0_0 true _ A5.out)))))
        refine wpQuiet_nil ?_
        clear sq0_ sq1_ sq2_ sq3_ sq4_ sq5_ sq6_ sq7_ eq37_ eq38_
        rintro w19 ⟨q_, hq_⟩
        have hb := q_.h
        rw [← hq_] at hb
        clear hq_ q_
        replace BK640 := Aside0.mk (blk_below (g := gb640) (o := .cells #[.int .i64 a0_0, .int .i64 a0_1, .int .i64 a0_2, .int .i64 a0_3, .slice A0_4 l0_4.length c0_4, .slice A0_5 l0_5.length c0_5, .slice A0_6 l0_6.length c0_6, .int .i64 a0_7] 29 (0, 0)) Z14 hb)
        replace HB := Aside0.mk (below_step Z11 hb)
        (try clear hb)
        (try clear hb2)
        (try clear hk)
        (try clear hi)
        try go_wp2
        go_ret
        exact ⟨J0, J17⟩
      ·rw [if_neg c10] at H
       have c10b0 : (a0_7 == (Int.tmod a0_0 a1)) = false := beq_eq_false_iff_ne.mpr c10
       have c10b1 : (a0_7 != (Int.tmod a0_0 a1)) = true := bne_iff_ne.mpr c10
       obtain rfl := Option.some.inj H
       go_enter Tryd.func15, Tryd.ntmps15
       try go_wp2_with (first | ((with_reducible refine gate_dst (N := 2) rfl ?_); (try (refine gate_guard (by rfl) ?_; dsimp only)); refine box_event ?hg (N := 2) ?hd (cs := #[.int .i64 a0_0, .int .i64 a0_1, .int .i64 a0_2, .int .i64 a0_3, .slice A0_4 l0_4.length c0_4, .slice A0_5 l0_5.length c0_5, .slice A0_6 l0_6.length c0_6, .int .i64 a0_7]) (t := 29) ?hr ?_; (case hd => rfl); (case hg => rfl); (case hr => first | (go_simp; done) | (go_simp; rfl)); intro gb640 hg w20 hbox hb; have BK640 := Aside0.mk (hbox); have GW640 := Aside0.mk ((by rw [hg]; exact (below_size Z0) : w.heap.size ≤ gb640)); have GE640 := Aside0.mk ((by rw [hg]; exact (below_size Z0) : w.heap.size ≤ gb640)); replace HB := Aside0.mk (below_step Z0 hb); clear hb hbox hg))
       replace BK640 := Aside0.mk (blk_drew BK640.out)
       replace HB := Aside0.mk (below_drew1 HB.out)
       refine wp_quiet_below (by kernel_rfl) (by kernel_rfl) ?_
       generalize w20.drew = w21 at BK640 HB ⊢
       have sq0_ : ∀ p_ : Bw w21, p_.W.cell? ⟨gb640, 0, none⟩ = some (.int .i64 a0_0) := fun p_ => p_.cell ((blk_cell BK640.out 0).trans rfl)
       have sq1_ : ∀ p_ : Bw w21, p_.W.cell? ⟨gb640, 1, none⟩ = some (.int .i64 a0_1) := fun p_ => p_.cell ((blk_cell BK640.out 1).trans rfl)
       have sq2_ : ∀ p_ : Bw w21, p_.W.cell? ⟨gb640, 2, none⟩ = some (.int .i64 a0_2) := fun p_ => p_.cell ((blk_cell BK640.out 2).trans rfl)
       have sq3_ : ∀ p_ : Bw w21, p_.W.cell? ⟨gb640, 3, none⟩ = some (.int .i64 a0_3) := fun p_ => p_.cell ((blk_cell BK640.out 3).trans rfl)
       have sq4_ : ∀ p_ : Bw w21, p_.W.cell? ⟨gb640, 4, none⟩ = some (.slice A0_4 l0_4.length c0_4) := fun p_ => p_.cell ((blk_cell BK640.out 4).trans rfl)
       have sq5_ : ∀ p_ : Bw w21, p_.W.cell? ⟨gb640, 5, none⟩ = some (.slice A0_5 l0_5.length c0_5) := fun p_ => p_.cell ((blk_cell BK640.out 5).trans rfl)
       have sq6_ : ∀ p_ : Bw w21, p_.W.cell? ⟨gb640, 6, none⟩ = some (.slice A0_6 l0_6.length c0_6) := fun p_ => p_.cell ((blk_cell BK640.out 6).trans rfl)
       have sq7_ : ∀ p_ : Bw w21, p_.W.cell? ⟨gb640, 7, none⟩ = some (.int .i64 a0_7) := fun p_ => p_.cell ((blk_cell BK640.out 7).trans rfl)
       have eq37_ : ∀ args w, (callFunc 37 args).run Tryd.prog w = .ok (.enter 37 args) w := enters_ Tryd.func37 (by kernel_rfl) rfl
       have eq38_ : ∀ args w, (callFunc 38 args).run Tryd.prog w = .ok (.enter 38 args) w := enters_ Tryd.func38 (by kernel_rfl) rfl
       repeat (go_big_quiet_step ((rename_i p_; have hb := p_.h; have n0_ := Aside0.mk (blk_below (g := gb640) (o := .cells #[.int .i64 a0_0, .int .i64 a0_1, .int .i64 a0_2, .int .i64 a0_3, .slice A0_4 l0_4.length c0_4, .slice A0_5 l0_5.length c0_5, .slice A0_6 l0_6.length c0_6, .int .i64 a0_7] 29 (0, 0)) Z14 hb); have n1_ := Aside0.mk (below_step Z11 hb); have BK640 := n0_; have HB := n1_; first | (go_at_fn 37; with_reducible refine Calls.bw (impl_ProofOk.calls k a0_2 a0_3 _ _ l0_4 _ _ l0_5 a1 true _ ?side1 ?side2 ?side3 ?side4 A3.out (tab_at HT.out Z8)); (case side1 => exact J9); (case side2 => exact HC0_4.out); (case side3 => exact J10); (case side4 => exact HC0_5.out)) | (go_at_fn 38; with_reducible exact Calls.bw0 (impl_isView.calls a0_0 true _ A5.out)))))
       refine wpQuiet_nil ?_
       clear sq0_ sq1_ sq2_ sq3_ sq4_ sq5_ sq6_ sq7_ eq37_ eq38_
       rintro w22 ⟨q_, hq_⟩
       have hb := q_.h
       rw [← hq_] at hb
       clear hq_ q_
       replace BK640 := Aside0.mk (blk_below (g := gb640) (o := .cells #[.int .i64 a0_0, .int .i64 a0_1, .int .i64 a0_2, .int .i64 a0_3, .slice A0_4 l0_4.length c0_4, .slice A0_5 l0_5.length c0_5, .slice A0_6 l0_6.length c0_6, .int .i64 a0_7] 29 (0, 0)) Z14 hb)
       replace HB := Aside0.mk (below_step Z11 hb)
       (try clear hb)
       (try clear hb2)
       (try clear hk)
       (try clear hi)
       try go_wp2
       go_ret
       exact ⟨J0, J17⟩
    ·rw [if_neg c8] at H
     have c8b0 : (a0_1 == a0_3) = false := beq_eq_false_iff_ne.mpr c8
     have c8b1 : (a0_1 != a0_3) = true := bne_iff_ne.mpr c8
     obtain rfl := Option.some.inj H
     go_enter Tryd.func15, Tryd.ntmps15
     try go_wp2_with (first | ((with_reducible refine gate_dst (N := 2) rfl ?_); (try (refine gate_guard (by rfl) ?_; dsimp only)); refine box_event ?hg (N := 2) ?hd (cs := #[.int .i64 a0_0, .int .i64 a0_1, .int .i64 a0_2, .int .i64 a0_3, .slice A0_4 l0_4.length c0_4, .slice A0_5 l0_5.length c0_5, .slice A0_6 l0_6.length c0_6, .int .i64 a0_7]) (t := 29) ?hr ?_; (case hd => rfl); (case hg => rfl); (case hr => first | (go_simp; done) | (go_simp; rfl)); intro gb640 hg w23 hbox hb; have BK640 := Aside0.mk (hbox); have GW640 := Aside0.mk ((by rw [hg]; exact (below_size Z0) : w.heap.size ≤ gb640)); have GE640 := Aside0.mk ((by rw [hg]; exact (below_size Z0) : w.heap.size ≤ gb640)); replace HB := Aside0.mk (below_step Z0 hb); clear hb hbox hg))
     replace BK640 := Aside0.mk (blk_drew BK640.out)
     replace HB := Aside0.mk (below_drew1 HB.out)
     refine wp_quiet_below (by kernel_rfl) (by kernel_rfl) ?_
     generalize w23.drew = w24 at BK640 HB ⊢
     have sq0_ : ∀ p_ : Bw w24, p_.W.cell? ⟨gb640, 0, none⟩ = some (.int .i64 a0_0) := fun p_ => p_.cell ((blk_cell BK640.out 0).trans rfl)
     have sq1_ : ∀ p_ : Bw w24, p_.W.cell? ⟨gb640, 1, none⟩ = some (.int .i64 a0_1) := fun p_ => p_.cell ((blk_cell BK640.out 1).trans rfl)
     have sq2_ : ∀ p_ : Bw w24, p_.W.cell? ⟨gb640, 2, none⟩ = some (.int .i64 a0_2) := fun p_ => p_.cell ((blk_cell BK640.out 2).trans rfl)
     have sq3_ : ∀ p_ : Bw w24, p_.W.cell? ⟨gb640, 3, none⟩ = some (.int .i64 a0_3) := fun p_ => p_.cell ((blk_cell BK640.out 3).trans rfl)
     have sq4_ : ∀ p_ : Bw w24, p_.W.cell? ⟨gb640, 4, none⟩ = some (.slice A0_4 l0_4.length c0_4) := fun p_ => p_.cell ((blk_cell BK640.out 4).trans rfl)
     have sq5_ : ∀ p_ : Bw w24, p_.W.cell? ⟨gb640, 5, none⟩ = some (.slice A0_5 l0_5.length c0_5) := fun p_ => p_.cell ((blk_cell BK640.out 5).trans rfl)
     have sq6_ : ∀ p_ : Bw w24, p_.W.cell? ⟨gb640, 6, none⟩ = some (.slice A0_6 l0_6.length c0_6) := fun p_ => p_.cell ((blk_cell BK640.out 6).trans rfl)
     have sq7_ : ∀ p_ : Bw w24, p_.W.cell? ⟨gb640, 7, none⟩ = some (.int .i64 a0_7) := fun p_ => p_.cell ((blk_cell BK640.out 7).trans rfl)
     have eq37_ : ∀ args w, (callFunc 37 args).run Tryd.prog w = .ok (.enter 37 args) w := enters_ Tryd.func37 (by kernel_rfl) rfl
     have eq38_ : ∀ args w, (callFunc 38 args).run Tryd.prog w = .ok (.enter 38 args) w := enters_ Tryd.func38 (by kernel_rfl) rfl
     repeat (go_big_quiet_step ((rename_i p_; have hb := p_.h; have n0_ := Aside0.mk (blk_below (g := gb640) (o := .cells #[.int .i64 a0_0, .int .i64 a0_1, .int .i64 a0_2, .int .i64 a0_3, .slice A0_4 l0_4.length c0_4, .slice A0_5 l0_5.length c0_5, .slice A0_6 l0_6.length c0_6, .int .i64 a0_7] 29 (0, 0)) Z14 hb); have n1_ := Aside0.mk (below_step Z11 hb); have BK640 := n0_; have HB := n1_; first | (go_at_fn 37; with_reducible refine Calls.bw (impl_ProofOk.calls k a0_2 a0_3 _ _ l0_4 _ _ l0_5 a1 true _ ?side1 ?side2 ?side3 ?side4 A3.out (tab_at HT.out Z8)); (case side1 => exact J9); (case side2 => exact HC0_4.out); (case side3 => exact J10); (case side4 => exact HC0_5.out)) | (go_at_fn 38; with_reducible exact Calls.bw0 (impl_isView.calls a0_0 true _ A5.out)))))
     refine wpQuiet_nil ?_
     clear sq0_ sq1_ sq2_ sq3_ sq4_ sq5_ sq6_ sq7_ eq37_ eq38_
     rintro w25 ⟨q_, hq_⟩
     have hb := q_.h
     rw [← hq_] at hb
     clear hq_ q_
     replace BK640 := Aside0.mk (blk_below (g := gb640) (o := .cells #[.int .i64 a0_0, .int .i64 a0_1, .int .i64 a0_2, .int .i64 a0_3, .slice A0_4 l0_4.length c0_4, .slice A0_5 l0_5.length c0_5, .slice A0_6 l0_6.length c0_6, .int .i64 a0_7] 29 (0, 0)) Z14 hb)
     replace HB := Aside0.mk (below_step Z11 hb)
     (try clear hb)
     (try clear hb2)
     (try clear hk)
     (try clear hi)
     try go_wp2
     go_ret
     exact ⟨J0, J17⟩
   ·rw [if_neg c7] at H
    have c7b0 : decide (a0_2 < a0_0) = false := decide_eq_false c7
    clear c7
    obtain rfl := Option.some.inj H
    go_enter Tryd.func15, Tryd.ntmps15
    try go_wp2_with (first | ((with_reducible refine gate_dst (N := 2) rfl ?_); (try (refine gate_guard (by rfl) ?_; dsimp only)); refine box_event ?hg (N := 2) ?hd (cs := #[.int .i64 a0_0, .int .i64 a0_1, .int .i64 a0_2, .int .i64 a0_3, .slice A0_4 l0_4.length c0_4, .slice A0_5 l0_5.length c0_5, .slice A0_6 l0_6.length c0_6, .int .i64 a0_7]) (t := 29) ?hr ?_; (case hd => rfl); (case hg => rfl); (case hr => first | (go_simp; done) | (go_simp; rfl)); intro gb640 hg w26 hbox hb; have BK640 := Aside0.mk (hbox); have GW640 := Aside0.mk ((by rw [hg]; exact (below_size Z0) : w.heap.size ≤ gb640)); have GE640 := Aside0.mk ((by rw [hg]; exact (below_size Z0) : w.heap.size ≤ gb640)); replace HB := Aside0.mk (below_step Z0 hb); clear hb hbox hg))
    replace BK640 := Aside0.mk (blk_drew BK640.out)
    replace HB := Aside0.mk (below_drew1 HB.out)
    refine wp_quiet_below (by kernel_rfl) (by kernel_rfl) ?_
    generalize w26.drew = w27 at BK640 HB ⊢
    have sq0_ : ∀ p_ : Bw w27, p_.W.cell? ⟨gb640, 0, none⟩ = some (.int .i64 a0_0) := fun p_ => p_.cell ((blk_cell BK640.out 0).trans rfl)
    have sq1_ : ∀ p_ : Bw w27, p_.W.cell? ⟨gb640, 1, none⟩ = some (.int .i64 a0_1) := fun p_ => p_.cell ((blk_cell BK640.out 1).trans rfl)
    have sq2_ : ∀ p_ : Bw w27, p_.W.cell? ⟨gb640, 2, none⟩ = some (.int .i64 a0_2) := fun p_ => p_.cell ((blk_cell BK640.out 2).trans rfl)
    have sq3_ : ∀ p_ : Bw w27, p_.W.cell? ⟨gb640, 3, none⟩ = some (.int .i64 a0_3) := fun p_ => p_.cell ((blk_cell BK640.out 3).trans rfl)
    have sq4_ : ∀ p_ : Bw w27, p_.W.cell? ⟨gb640, 4, none⟩ = some (.slice A0_4 l0_4.length c0_4) := fun p_ => p_.cell ((blk_cell BK640.out 4).trans rfl)
    have sq5_ : ∀ p_ : Bw w27, p_.W.cell? ⟨gb640, 5, none⟩ = some (.slice A0_5 l0_5.length c0_5) := fun p_ => p_.cell ((blk_cell BK640.out 5).trans rfl)
    have sq6_ : ∀ p_ : Bw w27, p_.W.cell? ⟨gb640, 6, none⟩ = some (.slice A0_6 l0_6.length c0_6) := fun p_ => p_.cell ((blk_cell BK640.out 6).trans rfl)
    have sq7_ : ∀ p_ : Bw w27, p_.W.cell? ⟨gb640, 7, none⟩ = some (.int .i64 a0_7) := fun p_ => p_.cell ((blk_cell BK640.out 7).trans rfl)
    have eq37_ : ∀ args w, (callFunc 37 args).run Tryd.prog w = .ok (.enter 37 args) w := enters_ Tryd.func37 (by kernel_rfl) rfl
    have eq38_ : ∀ args w, (callFunc 38 args).run Tryd.prog w = .ok (.enter 38 args) w := enters_ Tryd.func38 (by kernel_rfl) rfl
    repeat (go_big_quiet_step ((rename_i p_; have hb := p_.h; have n0_ := Aside0.mk (blk_below (g := gb640) (o := .cells #[.int .i64 a0_0, .int .i64 a0_1, .int .i64 a0_2, .int .i64 a0_3, .slice A0_4 l0_4.length c0_4, .slice A0_5 l0_5.length c0_5, .slice A0_6 l0_6.length c0_6, .int .i64 a0_7] 29 (0, 0)) Z14 hb); have n1_ := Aside0.mk (below_step Z11 hb); have BK640 := n0_; have HB := n1_; first | (go_at_fn 37; with_reducible refine Calls.bw (impl_ProofOk.calls k a0_2 a0_3 _ _ l0_4 _ _ l0_5 a1 true _ ?side1 ?side2 ?side3 ?side4 A3.out (tab_at HT.out Z8)); (case side1 => exact J9); (case side2 => exact HC0_4.out); (case side3 => exact J10); (case side4 => exact HC0_5.out)) | (go_at_fn 38; with_reducible exact Calls.bw0 (impl_isView.calls a0_0 true _ A5.out)))))
    refine wpQuiet_nil ?_
    clear sq0_ sq1_ sq2_ sq3_ sq4_ sq5_ sq6_ sq7_ eq37_ eq38_
    rintro w28 ⟨q_, hq_⟩
    have hb := q_.h
    rw [← hq_] at hb
    clear hq_ q_
    replace BK640 := Aside0.mk (blk_below (g := gb640) (o := .cells #[.int .i64 a0_0, .int .i64 a0_1, .int .i64 a0_2, .int .i64 a0_3, .slice A0_4 l0_4.length c0_4, .slice A0_5 l0_5.length c0_5, .slice A0_6 l0_6.length c0_6, .int .i64 a0_7] 29 (0, 0)) Z14 hb)
    replace HB := Aside0.mk (below_step Z11 hb)
    (try clear hb)
    (try clear hb2)
    (try clear hk)
    (try clear hi)
    try go_wp2
    go_ret
    exact ⟨J0, J17⟩
  ·replace c6 := Bool.eq_false_iff.mpr c6
   subst c6
   have H1 : (some false) = some r := by rw [if_neg (show ¬ (false = true) by decide)] at H; exact H
   clear H
   have H := H1
   clear H1
   obtain rfl := Option.some.inj H
   go_enter Tryd.func15, Tryd.ntmps15
   try go_wp2_with (first | ((with_reducible refine gate_dst (N := 2) rfl ?_); (try (refine gate_guard (by rfl) ?_; dsimp only)); refine box_event ?hg (N := 2) ?hd (cs := #[.int .i64 a0_0, .int .i64 a0_1, .int .i64 a0_2, .int .i64 a0_3, .slice A0_4 l0_4.length c0_4, .slice A0_5 l0_5.length c0_5, .slice A0_6 l0_6.length c0_6, .int .i64 a0_7]) (t := 29) ?hr ?_; (case hd => rfl); (case hg => rfl); (case hr => first | (go_simp; done) | (go_simp; rfl)); intro gb640 hg w29 hbox hb; have BK640 := Aside0.mk (hbox); have GW640 := Aside0.mk ((by rw [hg]; exact (below_size Z0) : w.heap.size ≤ gb640)); have GE640 := Aside0.mk ((by rw [hg]; exact (below_size Z0) : w.heap.size ≤ gb640)); replace HB := Aside0.mk (below_step Z0 hb); clear hb hbox hg))
   replace BK640 := Aside0.mk (blk_drew BK640.out)
   replace HB := Aside0.mk (below_drew1 HB.out)
   refine wp_quiet_below (by kernel_rfl) (by kernel_rfl) ?_
   generalize w29.drew = w30 at BK640 HB ⊢
   have sq0_ : ∀ p_ : Bw w30, p_.W.cell? ⟨gb640, 0, none⟩ = some (.int .i64 a0_0) := fun p_ => p_.cell ((blk_cell BK640.out 0).trans rfl)
   have sq1_ : ∀ p_ : Bw w30, p_.W.cell? ⟨gb640, 1, none⟩ = some (.int .i64 a0_1) := fun p_ => p_.cell ((blk_cell BK640.out 1).trans rfl)
   have sq2_ : ∀ p_ : Bw w30, p_.W.cell? ⟨gb640, 2, none⟩ = some (.int .i64 a0_2) := fun p_ => p_.cell ((blk_cell BK640.out 2).trans rfl)
   have sq3_ : ∀ p_ : Bw w30, p_.W.cell? ⟨gb640, 3, none⟩ = some (.int .i64 a0_3) := fun p_ => p_.cell ((blk_cell BK640.out 3).trans rfl)
   have sq4_ : ∀ p_ : Bw w30, p_.W.cell? ⟨gb640, 4, none⟩ = some (.slice A0_4 l0_4.length c0_4) := fun p_ => p_.cell ((blk_cell BK640.out 4).trans rfl)
   have sq5_ : ∀ p_ : Bw w30, p_.W.cell? ⟨gb640, 5, none⟩ = some (.slice A0_5 l0_5.length c0_5) := fun p_ => p_.cell ((blk_cell BK640.out 5).trans rfl)
   have sq6_ : ∀ p_ : Bw w30, p_.W.cell? ⟨gb640, 6, none⟩ = some (.slice A0_6 l0_6.length c0_6) := fun p_ => p_.cell ((blk_cell BK640.out 6).trans rfl)
   have sq7_ : ∀ p_ : Bw w30, p_.W.cell? ⟨gb640, 7, none⟩ = some (.int .i64 a0_7) := fun p_ => p_.cell ((blk_cell BK640.out 7).trans rfl)
   have eq37_ : ∀ args w, (callFunc 37 args).run Tryd.prog w = .ok (.enter 37 args) w := enters_ Tryd.func37 (by kernel_rfl) rfl
   have eq38_ : ∀ args w, (callFunc 38 args).run Tryd.prog w = .ok (.enter 38 args) w := enters_ Tryd.func38 (by kernel_rfl) rfl
   repeat (go_big_quiet_step ((rename_i p_; have hb := p_.h; have n0_ := Aside0.mk (blk_below (g := gb640) (o := .cells #[.int .i64 a0_0, .int .i64 a0_1, .int .i64 a0_2, .int .i64 a0_3, .slice A0_4 l0_4.length c0_4, .slice A0_5 l0_5.length c0_5, .slice A0_6 l0_6.length c0_6, .int .i64 a0_7] 29 (0, 0)) Z14 hb); have n1_ := Aside0.mk (below_step Z11 hb); have BK640 := n0_; have HB := n1_; first | (go_at_fn 37; with_reducible refine Calls.bw (impl_ProofOk.calls k a0_2 a0_3 _ _ l0_4 _ _ l0_5 a1 true _ ?side1 ?side2 ?side3 ?side4 A3.out (tab_at HT.out Z8)); (case side1 => exact J9); (case side2 => exact HC0_4.out); (case side3 => exact J10); (case side4 => exact HC0_5.out)) | (go_at_fn 38; with_reducible exact Calls.bw0 (impl_isView.calls a0_0 false _ A5.out)))))
   refine wpQuiet_nil ?_
   clear sq0_ sq1_ sq2_ sq3_ sq4_ sq5_ sq6_ sq7_ eq37_ eq38_
   rintro w31 ⟨q_, hq_⟩
   have hb := q_.h
   rw [← hq_] at hb
   clear hq_ q_
   replace BK640 := Aside0.mk (blk_below (g := gb640) (o := .cells #[.int .i64 a0_0, .int .i64 a0_1, .int .i64 a0_2, .int .i64 a0_3, .slice A0_4 l0_4.length c0_4, .slice A0_5 l0_5.length c0_5, .slice A0_6 l0_6.length c0_6, .int .i64 a0_7] 29 (0, 0)) Z14 hb)
   replace HB := Aside0.mk (below_step Z11 hb)
   (try clear hb)
   (try clear hb2)
   (try clear hk)
   (try clear hi)
   try go_wp2
   go_ret
   exact ⟨J0, J17⟩
 ·replace c4 := Bool.eq_false_iff.mpr c4
  subst c4
  have H1 : (some false) = some r := by rw [if_neg (show ¬ (false = true) by decide)] at H; exact H
  clear H
  have H := H1
  clear H1
  obtain rfl := Option.some.inj H
  go_enter Tryd.func15, Tryd.ntmps15
  try go_wp2_with (first | ((with_reducible refine gate_dst (N := 2) rfl ?_); (try (refine gate_guard (by rfl) ?_; dsimp only)); refine box_event ?hg (N := 2) ?hd (cs := #[.int .i64 a0_0, .int .i64 a0_1, .int .i64 a0_2, .int .i64 a0_3, .slice A0_4 l0_4.length c0_4, .slice A0_5 l0_5.length c0_5, .slice A0_6 l0_6.length c0_6, .int .i64 a0_7]) (t := 29) ?hr ?_; (case hd => rfl); (case hg => rfl); (case hr => first | (go_simp; done) | (go_simp; rfl)); intro gb640 hg w32 hbox hb; have BK640 := Aside0.mk (hbox); have GW640 := Aside0.mk ((by rw [hg]; exact (below_size Z0) : w.heap.size ≤ gb640)); have GE640 := Aside0.mk ((by rw [hg]; exact (below_size Z0) : w.heap.size ≤ gb640)); replace HB := Aside0.mk (below_step Z0 hb); clear hb hbox hg))
  replace BK640 := Aside0.mk (blk_drew BK640.out)
  replace HB := Aside0.mk (below_drew1 HB.out)
  refine wp_quiet_below (by kernel_rfl) (by kernel_rfl) ?_
  generalize w32.drew = w33 at BK640 HB ⊢
  have sq0_ : ∀ p_ : Bw w33, p_.W.cell? ⟨gb640, 0, none⟩ = some (.int .i64 a0_0) := fun p_ => p_.cell ((blk_cell BK640.out 0).trans rfl)
  have sq1_ : ∀ p_ : Bw w33, p_.W.cell? ⟨gb640, 1, none⟩ = some (.int .i64 a0_1) := fun p_ => p_.cell ((blk_cell BK640.out 1).trans rfl)
  have sq2_ : ∀ p_ : Bw w33, p_.W.cell? ⟨gb640, 2, none⟩ = some (.int .i64 a0_2) := fun p_ => p_.cell ((blk_cell BK640.out 2).trans rfl)
  have sq3_ : ∀ p_ : Bw w33, p_.W.cell? ⟨gb640, 3, none⟩ = some (.int .i64 a0_3) := fun p_ => p_.cell ((blk_cell BK640.out 3).trans rfl)
  have sq4_ : ∀ p_ : Bw w33, p_.W.cell? ⟨gb640, 4, none⟩ = some (.slice A0_4 l0_4.length c0_4) := fun p_ => p_.cell ((blk_cell BK640.out 4).trans rfl)
  have sq5_ : ∀ p_ : Bw w33, p_.W.cell? ⟨gb640, 5, none⟩ = some (.slice A0_5 l0_5.length c0_5) := fun p_ => p_.cell ((blk_cell BK640.out 5).trans rfl)
  have sq6_ : ∀ p_ : Bw w33, p_.W.cell? ⟨gb640, 6, none⟩ = some (.slice A0_6 l0_6.length c0_6) := fun p_ => p_.cell ((blk_cell BK640.out 6).trans rfl)
  have sq7_ : ∀ p_ : Bw w33, p_.W.cell? ⟨gb640, 7, none⟩ = some (.int .i64 a0_7) := fun p_ => p_.cell ((blk_cell BK640.out 7).trans rfl)
  have eq37_ : ∀ args w, (callFunc 37 args).run Tryd.prog w = .ok (.enter 37 args) w := enters_ Tryd.func37 (by kernel_rfl) rfl
  repeat (go_big_quiet_step ((rename_i p_; have hb := p_.h; have n0_ := Aside0.mk (blk_below (g := gb640) (o := .cells #[.int .i64 a0_0, .int .i64 a0_1, .int .i64 a0_2, .int .i64 a0_3, .slice A0_4 l0_4.length c0_4, .slice A0_5 l0_5.length c0_5, .slice A0_6 l0_6.length c0_6, .int .i64 a0_7] 29 (0, 0)) Z14 hb); have n1_ := Aside0.mk (below_step Z11 hb); have BK640 := n0_; have HB := n1_; go_at_fn 37; with_reducible refine Calls.bw (impl_ProofOk.calls k a0_2 a0_3 _ _ l0_4 _ _ l0_5 a1 false _ ?side1 ?side2 ?side3 ?side4 A3.out (tab_at HT.out Z8)); (case side1 => exact J9); (case side2 => exact HC0_4.out); (case side3 => exact J10); (case side4 => exact HC0_5.out))))
  refine wpQuiet_nil ?_
  clear sq0_ sq1_ sq2_ sq3_ sq4_ sq5_ sq6_ sq7_ eq37_
  rintro w34 ⟨q_, hq_⟩
  have hb := q_.h
  rw [← hq_] at hb
  clear hq_ q_
  replace BK640 := Aside0.mk (blk_below (g := gb640) (o := .cells #[.int .i64 a0_0, .int .i64 a0_1, .int .i64 a0_2, .int .i64 a0_3, .slice A0_4 l0_4.length c0_4, .slice A0_5 l0_5.length c0_5, .slice A0_6 l0_6.length c0_6, .int .i64 a0_7] 29 (0, 0)) Z14 hb)
  replace HB := Aside0.mk (below_step Z11 hb)
  (try clear hb)
  (try clear hb2)
  (try clear hk)
  (try clear hi)
  try go_wp2
  go_ret
  exact ⟨J0, J17⟩

end Go.Proofs.YtokhjhkkncbjeaaDoor.PFnBlocks
