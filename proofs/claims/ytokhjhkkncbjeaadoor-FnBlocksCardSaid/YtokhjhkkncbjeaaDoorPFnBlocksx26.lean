-- Written by a program of this session (wip/tools/pp.py over the kit's print).
import Derived.Test.YtokhjhkkncbjeaaDoorVFnBlocks
import Derived.Test.YtokhjhkkncbjeaaDoorPFnBlocksx0
import Derived.Test.YtokhjhkkncbjeaaDoorPFnBlocksx2
import Derived.Test.YtokhjhkkncbjeaaDoorPFnBlocksx3
import Derived.Test.YtokhjhkkncbjeaaDoorPFnBlocksx24
import Derived.Test.YtokhjhkkncbjeaaDoorPFnBlocksx25
namespace Go.Proofs.YtokhjhkkncbjeaaDoor.PFnBlocks
open Go.RowKit Go.Proofs.YtokhjhkkncbjeaaDoorW.PrintWords Go.Proofs.YtokhjhkkncbjeaaDoorW.PrintLast Go.Proofs.YtokhjhkkncbjeaaDoorW.PrintMore
attribute [local go_sem] max2_int min2_int max_two min_two max_three min_three max_four min_four
attribute [local go_sem high] str_gtr str_leq str_geq
set_option linter.unusedVariables false
set_option linter.unusedSimpArgs false

/-! ### spec_BlockOk: function 16 -/
def spec_BlockOk.f (k : Nat) (a0_0 : Int) (a0_1 : Int) (a0_2 : Int) (a0_3 : Int) (l0_4 : List Int) (l0_5 : List Int) (l0_6 : List ByteArray) (a0_7 : Int) (a1 : Int) : Option (Bool) := (spec_l15Servers.f a1).bind fun t658 => (if t658 = true then ((spec_l1In.f a0_0 1 100000).bind fun t659 => (if t659 = true then (if a1 = 0 then (none) else (if a0_7 = (Int.tmod a0_0 a1) then ((spec_ProofOk.f k a0_2 a0_3 l0_4 l0_5 a1).bind fun t660 => (if t660 = true then (if a0_2 < a0_0 then (if a0_1 = a0_3 then ((spec_l15Moves.f k l0_6).bind fun t661 => (some t661)) else (some false)) else (some false)) else (some false))) else (some false))) else (some false))) else (some false))
theorem spec_BlockOk.mono : ∀ a0 a1 a2 a3 a4 a5 a6 a7 a8 k, LeO (spec_BlockOk.f k a0 a1 a2 a3 a4 a5 a6 a7 a8) (spec_BlockOk.f (k + 1) a0 a1 a2 a3 a4 a5 a6 a7 a8) := by
 intro a0 a1 a2 a3 a4 a5 a6 a7 a8 k
 unfold spec_BlockOk.f
 repeat' with_reducible first
   | exact spec_ProofOk.mono _ _ _ _ _ _
   | exact spec_l15Moves.mono _ _
   | exact LeO.refl _
   | exact LeO.none _
   | refine LeO.ite ?_ ?_
   | refine LeO.bind ?_ (fun _ => ?_)
def spec_BlockOk.T1 : Bool × List (List Nat × List Nat) := (true, [([], []), ([0], [0]), ([1, 1], [1]), ([2], [2]), ([3, 2], [2, 3]), ([4, 2, 2], [2, 4]), ([2, 5], [2, 5]), ([6, 5], [6]), ([7], [7]), ([8, 7], [7, 8]), ([7], [7]), ([10, 7], [7, 10]), ([7], [7]), ([11, 12, 7], [7, 11, 12]), ([9, 13, 7], [7, 9, 13]), ([7, 14], [7, 14]), ([15, 7], [15]), ([16], [16]), ([17, 16], [16, 17]), ([16], [16]), ([18, 19, 16, 16], [16, 18, 19]), ([16, 20], [16, 20]), ([21, 20], [21]), ([22], [22]), ([23, 22], [22, 23]), ([24, 22], [22, 24]), ([22], [22]), ([26, 22], [22, 26]), ([25, 27, 22], [22, 25, 27]), ([22, 28], [22, 28]), ([29, 22], [29]), ([30], [30]), ([31, 30], [30, 31]), ([30], [30]), ([33, 30], [30, 33]), ([34, 30], [30, 34]), ([32, 35, 30], [30, 32, 35]), ([30, 36], [30, 36]), ([37, 30], [37]), ([38], [38]), ([39, 38], [38, 39]), ([40, 38, 38], [38, 40]), ([38, 41], [38, 41]), ([42, 41, 0, 1, 2, 3, 4, 5, 6, 7, 8, 9, 10, 11, 12, 13, 14, 15, 16, 17, 18, 19, 20, 21, 22, 23, 24, 25, 26, 27, 28, 29, 30, 31, 32, 33, 34, 35, 36, 37, 38, 39, 40, 41, 42], [42])])
def spec_BlockOk.B1 : List Nat := [0, 1, 3, 7, 15, 31, 63, 127, 255, 511, 255, 1279, 255, 7423, 16383, 32767, 65535, 131071, 262143, 131071, 1048575, 2097151, 4194303, 8388607, 16777215, 33554431, 8388607, 75497471, 268435455, 536870911, 1073741823, 2147483647, 4294967295, 2147483647, 10737418239, 27917287423, 68719476735, 137438953471, 274877906943, 549755813887, 1099511627775, 2199023255551, 4398046511103, 8796093022207]
theorem spec_BlockOk.tab1 : rtab .any (opsOf Tryd.f16 1) = spec_BlockOk.T1 := by kernel_rfl
theorem spec_BlockOk.bits1 : waitsOk spec_BlockOk.T1.2 spec_BlockOk.B1 = true := by kernel_rfl
set_option maxHeartbeats 8000000 in
set_option maxRecDepth 100000 in
theorem spec_BlockOk.calls (k : Nat) (a0_0 : Int) (a0_1 : Int) (a0_2 : Int) (a0_3 : Int) (A0_4 : Option Addr) (c0_4 : Nat) (l0_4 : List Int) (A0_5 : Option Addr) (c0_5 : Nat) (l0_5 : List Int) (A0_6 : Option Addr) (c0_6 : Nat) (l0_6 : List ByteArray) (a0_7 : Int) (a1 : Int) (r : Bool) (w : World) (hr0_4 : Kd.C (Kd.int .i64) w A0_4 l0_4.length l0_4) (hc0_4 : l0_4.length ≤ c0_4) (hr0_5 : Kd.C (Kd.int .i64) w A0_5 l0_5.length l0_5) (hc0_5 : l0_5.length ≤ c0_5) (hr0_6 : Kd.C Kd.string w A0_6 l0_6.length l0_6) (hc0_6 : l0_6.length ≤ c0_6) (h : spec_BlockOk.f k a0_0 a0_1 a0_2 a0_3 l0_4 l0_5 l0_6 a0_7 a1 = some r) :
  Calls Tryd.prog 16 #[.agg #[.int .i64 a0_0, .int .i64 a0_1, .int .i64 a0_2, .int .i64 a0_3, .slice A0_4 l0_4.length c0_4, .slice A0_5 l0_5.length c0_5, .slice A0_6 l0_6.length c0_6, .int .i64 a0_7], .int .i64 a1] w fun e w' => e = .returned (.bool r) ∧ Below w.heap.size w w' := by
 have hu29 := Tryd.underlying29
 have hu26 := Tryd.underlying26
 have HR0_4 := Aside0.mk hr0_4
 have HC0_4 := Aside0.mk hc0_4
 clear hr0_4 hc0_4
 have HR0_5 := Aside0.mk hr0_5
 have HC0_5 := Aside0.mk hc0_5
 clear hr0_5 hc0_5
 have HR0_6 := Aside0.mk hr0_6
 have HC0_6 := Aside0.mk hc0_6
 clear hr0_6 hc0_6
 have HB := Aside0.mk (Below.refl w.heap.size w)
 have H : ((spec_l15Servers.f a1).bind fun t658 => (if t658 = true then ((spec_l1In.f a0_0 1 100000).bind fun t659 => (if t659 = true then (if a1 = 0 then (none) else (if a0_7 = (Int.tmod a0_0 a1) then ((spec_ProofOk.f k a0_2 a0_3 l0_4 l0_5 a1).bind fun t660 => (if t660 = true then (if a0_2 < a0_0 then (if a0_1 = a0_3 then ((spec_l15Moves.f k l0_6).bind fun t661 => (some t661)) else (some false)) else (some false)) else (some false))) else (some false))) else (some false))) else (some false))) = some r := h
 clear h
 replace H := Option.bind_eq_some_iff.mp H
 obtain ⟨t658, A30, H⟩ := H
 try dsimp only at H
 have A3 := Aside0.mk A30
 clear A30
 by_cases c4 : t658 = true
 ·subst c4
  have H1 : ((spec_l1In.f a0_0 1 100000).bind fun t659 => (if t659 = true then (if a1 = 0 then (none) else (if a0_7 = (Int.tmod a0_0 a1) then ((spec_ProofOk.f k a0_2 a0_3 l0_4 l0_5 a1).bind fun t660 => (if t660 = true then (if a0_2 < a0_0 then (if a0_1 = a0_3 then ((spec_l15Moves.f k l0_6).bind fun t661 => (some t661)) else (some false)) else (some false)) else (some false))) else (some false))) else (some false))) = some r := by rw [if_pos rfl] at H; exact H
  clear H
  have H := H1
  clear H1
  replace H := Option.bind_eq_some_iff.mp H
  obtain ⟨t659, A50, H⟩ := H
  try dsimp only at H
  have A5 := Aside0.mk A50
  clear A50
  by_cases c6 : t659 = true
  ·subst c6
   have H1 : (if a1 = 0 then (none) else (if a0_7 = (Int.tmod a0_0 a1) then ((spec_ProofOk.f k a0_2 a0_3 l0_4 l0_5 a1).bind fun t660 => (if t660 = true then (if a0_2 < a0_0 then (if a0_1 = a0_3 then ((spec_l15Moves.f k l0_6).bind fun t661 => (some t661)) else (some false)) else (some false)) else (some false))) else (some false))) = some r := by rw [if_pos rfl] at H; exact H
   clear H
   have H := H1
   clear H1
   by_cases c7 : a1 = 0
   ·rw [if_pos c7] at H
    exact absurd H (by simp)
   ·rw [if_neg c7] at H
    have c7b0 : (a1 == 0) = false := beq_eq_false_iff_ne.mpr c7
    have c7b1 : (a1 != 0) = true := bne_iff_ne.mpr c7
    by_cases c8 : a0_7 = (Int.tmod a0_0 a1)
    ·rw [if_pos c8] at H
     have c8b0 : (a0_7 == (Int.tmod a0_0 a1)) = true := beq_iff_eq.mpr c8
     have c8b1 : (a0_7 != (Int.tmod a0_0 a1)) = false := bne_eq_false_iff_eq.mpr c8
     clear c8
     replace H := Option.bind_eq_some_iff.mp H
     obtain ⟨t660, A90, H⟩ := H
     try dsimp only at H
     have A9 := Aside0.mk A90
     clear A90
     by_cases c10 : t660 = true
     ·subst c10
      have H1 : (if a0_2 < a0_0 then (if a0_1 = a0_3 then ((spec_l15Moves.f k l0_6).bind fun t661 => (some t661)) else (some false)) else (some false)) = some r := by rw [if_pos rfl] at H; exact H
      clear H
      have H := H1
      clear H1
      by_cases c11 : a0_2 < a0_0
      ·rw [if_pos c11] at H
       have c11b0 : decide (a0_2 < a0_0) = true := decide_eq_true c11
       clear c11
       by_cases c12 : a0_1 = a0_3
       ·rw [if_pos c12] at H
        have c12b0 : (a0_1 == a0_3) = true := beq_iff_eq.mpr c12
        have c12b1 : (a0_1 != a0_3) = false := bne_eq_false_iff_eq.mpr c12
        clear c12
        replace H := Option.bind_eq_some_iff.mp H
        obtain ⟨t661, A130, H⟩ := H
        replace H : (some t661) = some r := H
        have A13 := Aside0.mk A130
        clear A130
        obtain rfl := Option.some.inj H
        go_enter Tryd.func16, Tryd.ntmps16
        try go_wp2_with (first | ((with_reducible refine gate_dst (N := 2) rfl ?_); refine box_event ?hg (N := 2) ?hd (cs := #[.int .i64 a0_0, .int .i64 a0_1, .int .i64 a0_2, .int .i64 a0_3, .slice A0_4 l0_4.length c0_4, .slice A0_5 l0_5.length c0_5, .slice A0_6 l0_6.length c0_6, .int .i64 a0_7]) (t := 29) ?hr ?_; (case hd => rfl); (case hg => rfl); (case hr => first | (go_simp; done) | (go_simp; rfl)); intro gb657 hg w14 hbox hb; have BK657 := Aside0.mk (hbox); have GW657 := Aside0.mk ((by rw [hg]; exact (below_size Z0) : w.heap.size ≤ gb657)); have GE657 := Aside0.mk ((by rw [hg]; exact (below_size Z0) : w.heap.size ≤ gb657)); replace HB := Aside0.mk (below_step Z0 hb); clear hb hbox hg))
        replace BK657 := Aside0.mk (blk_drew BK657.out)
        replace HB := Aside0.mk (below_drew1 HB.out)
        refine wp_quiet_below (by kernel_rfl) (by kernel_rfl) ?_
        generalize w14.drew = w15 at BK657 HB ⊢
        have sq0_ : ∀ p_ : Bw w15, p_.W.cell? ⟨gb657, 0, none⟩ = some (.int .i64 a0_0) := fun p_ => p_.cell ((blk_cell BK657.out 0).trans rfl)
        have sq1_ : ∀ p_ : Bw w15, p_.W.cell? ⟨gb657, 1, none⟩ = some (.int .i64 a0_1) := fun p_ => p_.cell ((blk_cell BK657.out 1).trans rfl)
        have sq2_ : ∀ p_ : Bw w15, p_.W.cell? ⟨gb657, 2, none⟩ = some (.int .i64 a0_2) := fun p_ => p_.cell ((blk_cell BK657.out 2).trans rfl)
        have sq3_ : ∀ p_ : Bw w15, p_.W.cell? ⟨gb657, 3, none⟩ = some (.int .i64 a0_3) := fun p_ => p_.cell ((blk_cell BK657.out 3).trans rfl)
        have sq4_ : ∀ p_ : Bw w15, p_.W.cell? ⟨gb657, 4, none⟩ = some (.slice A0_4 l0_4.length c0_4) := fun p_ => p_.cell ((blk_cell BK657.out 4).trans rfl)
        have sq5_ : ∀ p_ : Bw w15, p_.W.cell? ⟨gb657, 5, none⟩ = some (.slice A0_5 l0_5.length c0_5) := fun p_ => p_.cell ((blk_cell BK657.out 5).trans rfl)
        have sq6_ : ∀ p_ : Bw w15, p_.W.cell? ⟨gb657, 6, none⟩ = some (.slice A0_6 l0_6.length c0_6) := fun p_ => p_.cell ((blk_cell BK657.out 6).trans rfl)
        have sq7_ : ∀ p_ : Bw w15, p_.W.cell? ⟨gb657, 7, none⟩ = some (.int .i64 a0_7) := fun p_ => p_.cell ((blk_cell BK657.out 7).trans rfl)
        have eq32_ : ∀ args w, (callFunc 32 args).run Tryd.prog w = .ok (.enter 32 args) w := enters_ Tryd.func32 (by kernel_rfl) rfl
        have eq41_ : ∀ args w, (callFunc 41 args).run Tryd.prog w = .ok (.enter 41 args) w := enters_ Tryd.func41 (by kernel_rfl) rfl
        have eq42_ : ∀ args w, (callFunc 42 args).run Tryd.prog w = .ok (.enter 42 args) w := enters_ Tryd.func42 (by kernel_rfl) rfl
        have eq43_ : ∀ args w, (callFunc 43 args).run Tryd.prog w = .ok (.enter 43 args) w := enters_ Tryd.func43 (by kernel_rfl) rfl
        repeat (go_big_quiet_step ((rename_i p_; have hb := p_.h; have n0_ := Aside0.mk (blk_below (g := gb657) (o := .cells #[.int .i64 a0_0, .int .i64 a0_1, .int .i64 a0_2, .int .i64 a0_3, .slice A0_4 l0_4.length c0_4, .slice A0_5 l0_5.length c0_5, .slice A0_6 l0_6.length c0_6, .int .i64 a0_7] 29 (0, 0)) Z22 hb); have n1_ := Aside0.mk (below_step Z10 hb); have BK657 := n0_; have HB := n1_; first | (go_at_fn 41; with_reducible exact Calls.bw0 (spec_l15Servers.calls a1 true _ A3.out)) | (go_at_fn 32; with_reducible exact Calls.bw0 (spec_l1In.calls a0_0 1 100000 true _ A5.out)) | (go_at_fn 42; with_reducible refine Calls.bw (spec_ProofOk.calls k a0_2 a0_3 _ _ l0_4 _ _ l0_5 a1 true _ ?side1 ?side2 ?side3 ?side4 A9.out); (case side1 => exact J29); (case side2 => exact HC0_4.out); (case side3 => exact J30); (case side4 => exact HC0_5.out)) | (go_at_fn 43; with_reducible refine Calls.bw0 (spec_l15Moves.calls k _ _ l0_6 t661 _ ?side1 ?side2 A13.out); (case side1 => exact J15); (case side2 => exact HC0_6.out)))))
        refine wpQuiet_nil ?_
        clear sq0_ sq1_ sq2_ sq3_ sq4_ sq5_ sq6_ sq7_ eq32_ eq41_ eq42_ eq43_
        rintro w16 ⟨q_, hq_⟩
        have hb := q_.h
        rw [← hq_] at hb
        clear hq_ q_
        replace BK657 := Aside0.mk (blk_below (g := gb657) (o := .cells #[.int .i64 a0_0, .int .i64 a0_1, .int .i64 a0_2, .int .i64 a0_3, .slice A0_4 l0_4.length c0_4, .slice A0_5 l0_5.length c0_5, .slice A0_6 l0_6.length c0_6, .int .i64 a0_7] 29 (0, 0)) Z22 hb)
        replace HB := Aside0.mk (below_step Z10 hb)
        (try clear hb)
        (try clear hb2)
        (try clear hk)
        (try clear hi)
        try go_wp2
        go_ret
        exact ⟨J0, J18⟩
       ·rw [if_neg c12] at H
        have c12b0 : (a0_1 == a0_3) = false := beq_eq_false_iff_ne.mpr c12
        have c12b1 : (a0_1 != a0_3) = true := bne_iff_ne.mpr c12
        obtain rfl := Option.some.inj H
        go_enter Tryd.func16, Tryd.ntmps16
        try go_wp2_with (first | ((with_reducible refine gate_dst (N := 2) rfl ?_); refine box_event ?hg (N := 2) ?hd (cs := #[.int .i64 a0_0, .int .i64 a0_1, .int .i64 a0_2, .int .i64 a0_3, .slice A0_4 l0_4.length c0_4, .slice A0_5 l0_5.length c0_5, .slice A0_6 l0_6.length c0_6, .int .i64 a0_7]) (t := 29) ?hr ?_; (case hd => rfl); (case hg => rfl); (case hr => first | (go_simp; done) | (go_simp; rfl)); intro gb657 hg w17 hbox hb; have BK657 := Aside0.mk (hbox); have GW657 := Aside0.mk ((by rw [hg]; exact (below_size Z0) : w.heap.size ≤ gb657)); have GE657 := Aside0.mk ((by rw [hg]; exact (below_size Z0) : w.heap.size ≤ gb657)); replace HB := Aside0.mk (below_step Z0 hb); clear hb hbox hg))
        replace BK657 := Aside0.mk (blk_drew BK657.out)
        replace HB := Aside0.mk (below_drew1 HB.out)
        refine wp_quiet_below (by kernel_rfl) (by kernel_rfl) ?_
        generalize w17.drew = w18 at BK657 HB ⊢
        have sq0_ : ∀ p_ : Bw w18, p_.W.cell? ⟨gb657, 0, none⟩ = some (.int .i64 a0_0) := fun p_ => p_.cell ((blk_cell BK657.out 0).trans rfl)
        have sq1_ : ∀ p_ : Bw w18, p_.W.cell? ⟨gb657, 1, none⟩ = some (.int .i64 a0_1) := fun p_ => p_.cell ((blk_cell BK657.out 1).trans rfl)
        have sq2_ : ∀ p_ : Bw w18, p_.W.cell? ⟨gb657, 2, none⟩ = some (.int .i64 a0_2) := fun p_ => p_.cell ((blk_cell BK657.out 2).trans rfl)
        have sq3_ : ∀ p_ : Bw w18, p_.W.cell? ⟨gb657, 3, none⟩ = some (.int .i64 a0_3) := fun p_ => p_.cell ((blk_cell BK657.out 3).trans rfl)
        have sq4_ : ∀ p_ : Bw w18, p_.W.cell? ⟨gb657, 4, none⟩ = some (.slice A0_4 l0_4.length c0_4) := fun p_ => p_.cell ((blk_cell BK657.out 4).trans rfl)
        have sq5_ : ∀ p_ : Bw w18, p_.W.cell? ⟨gb657, 5, none⟩ = some (.slice A0_5 l0_5.length c0_5) := fun p_ => p_.cell ((blk_cell BK657.out 5).trans rfl)
        have sq6_ : ∀ p_ : Bw w18, p_.W.cell? ⟨gb657, 6, none⟩ = some (.slice A0_6 l0_6.length c0_6) := fun p_ => p_.cell ((blk_cell BK657.out 6).trans rfl)
        have sq7_ : ∀ p_ : Bw w18, p_.W.cell? ⟨gb657, 7, none⟩ = some (.int .i64 a0_7) := fun p_ => p_.cell ((blk_cell BK657.out 7).trans rfl)
        have eq32_ : ∀ args w, (callFunc 32 args).run Tryd.prog w = .ok (.enter 32 args) w := enters_ Tryd.func32 (by kernel_rfl) rfl
        have eq41_ : ∀ args w, (callFunc 41 args).run Tryd.prog w = .ok (.enter 41 args) w := enters_ Tryd.func41 (by kernel_rfl) rfl
        have eq42_ : ∀ args w, (callFunc 42 args).run Tryd.prog w = .ok (.enter 42 args) w := enters_ Tryd.func42 (by kernel_rfl) rfl
        repeat (go_big_quiet_step ((rename_i p_; have hb := p_.h; have n0_ := Aside0.mk (blk_below (g := gb657) (o := .cells #[.int .i64 a0_0, .int .i64 a0_1, .int .i64 a0_2, .int .i64 a0_3, .slice A0_4 l0_4.length c0_4, .slice A0_5 l0_5.length c0_5, .slice A0_6 l0_6.length c0_6, .int .i64 a0_7] 29 (0, 0)) Z22 hb); have n1_ := Aside0.mk (below_step Z10 hb); have BK657 := n0_; have HB := n1_; first | (go_at_fn 41; with_reducible exact Calls.bw0 (spec_l15Servers.calls a1 true _ A3.out)) | (go_at_fn 32; with_reducible exact Calls.bw0 (spec_l1In.calls a0_0 1 100000 true _ A5.out)) | (go_at_fn 42; with_reducible refine Calls.bw (spec_ProofOk.calls k a0_2 a0_3 _ _ l0_4 _ _ l0_5 a1 true _ ?side1 ?side2 ?side3 ?side4 A9.out); (case side1 => exact J29); (case side2 => exact HC0_4.out); (case side3 => exact J30); (case side4 => exact HC0_5.out)))))
        refine wpQuiet_nil ?_
        clear sq0_ sq1_ sq2_ sq3_ sq4_ sq5_ sq6_ sq7_ eq32_ eq41_ eq42_
        rintro w19 ⟨q_, hq_⟩
        have hb := q_.h
        rw [← hq_] at hb
        clear hq_ q_
        replace BK657 := Aside0.mk (blk_below (g := gb657) (o := .cells #[.int .i64 a0_0, .int .i64 a0_1, .int .i64 a0_2, .int .i64 a0_3, .slice A0_4 l0_4.length c0_4, .slice A0_5 l0_5.length c0_5, .slice A0_6 l0_6.length c0_6, .int .i64 a0_7] 29 (0, 0)) Z22 hb)
        replace HB := Aside0.mk (below_step Z10 hb)
        (try clear hb)
        (try clear hb2)
        (try clear hk)
        (try clear hi)
        try go_wp2
        go_ret
        exact ⟨J0, J18⟩
      ·rw [if_neg c11] at H
       have c11b0 : decide (a0_2 < a0_0) = false := decide_eq_false c11
       clear c11
       obtain rfl := Option.some.inj H
       go_enter Tryd.func16, Tryd.ntmps16
       try go_wp2_with (first | ((with_reducible refine gate_dst (N := 2) rfl ?_); refine box_event ?hg (N := 2) ?hd (cs := #[.int .i64 a0_0, .int .i64 a0_1, .int .i64 a0_2, .int .i64 a0_3, .slice A0_4 l0_4.length c0_4, .slice A0_5 l0_5.length c0_5, .slice A0_6 l0_6.length c0_6, .int .i64 a0_7]) (t := 29) ?hr ?_; (case hd => rfl); (case hg => rfl); (case hr => first | (go_simp; done) | (go_simp; rfl)); intro gb657 hg w20 hbox hb; have BK657 := Aside0.mk (hbox); have GW657 := Aside0.mk ((by rw [hg]; exact (below_size Z0) : w.heap.size ≤ gb657)); have GE657 := Aside0.mk ((by rw [hg]; exact (below_size Z0) : w.heap.size ≤ gb657)); replace HB := Aside0.mk (below_step Z0 hb); clear hb hbox hg))
       replace BK657 := Aside0.mk (blk_drew BK657.out)
       replace HB := Aside0.mk (below_drew1 HB.out)
       refine wp_quiet_below (by kernel_rfl) (by kernel_rfl) ?_
       generalize w20.drew = w21 at BK657 HB ⊢
       have sq0_ : ∀ p_ : Bw w21, p_.W.cell? ⟨gb657, 0, none⟩ = some (.int .i64 a0_0) := fun p_ => p_.cell ((blk_cell BK657.out 0).trans rfl)
       have sq1_ : ∀ p_ : Bw w21, p_.W.cell? ⟨gb657, 1, none⟩ = some (.int .i64 a0_1) := fun p_ => p_.cell ((blk_cell BK657.out 1).trans rfl)
       have sq2_ : ∀ p_ : Bw w21, p_.W.cell? ⟨gb657, 2, none⟩ = some (.int .i64 a0_2) := fun p_ => p_.cell ((blk_cell BK657.out 2).trans rfl)
       have sq3_ : ∀ p_ : Bw w21, p_.W.cell? ⟨gb657, 3, none⟩ = some (.int .i64 a0_3) := fun p_ => p_.cell ((blk_cell BK657.out 3).trans rfl)
       have sq4_ : ∀ p_ : Bw w21, p_.W.cell? ⟨gb657, 4, none⟩ = some (.slice A0_4 l0_4.length c0_4) := fun p_ => p_.cell ((blk_cell BK657.out 4).trans rfl)
       have sq5_ : ∀ p_ : Bw w21, p_.W.cell? ⟨gb657, 5, none⟩ = some (.slice A0_5 l0_5.length c0_5) := fun p_ => p_.cell ((blk_cell BK657.out 5).trans rfl)
       have sq6_ : ∀ p_ : Bw w21, p_.W.cell? ⟨gb657, 6, none⟩ = some (.slice A0_6 l0_6.length c0_6) := fun p_ => p_.cell ((blk_cell BK657.out 6).trans rfl)
       have sq7_ : ∀ p_ : Bw w21, p_.W.cell? ⟨gb657, 7, none⟩ = some (.int .i64 a0_7) := fun p_ => p_.cell ((blk_cell BK657.out 7).trans rfl)
       have eq32_ : ∀ args w, (callFunc 32 args).run Tryd.prog w = .ok (.enter 32 args) w := enters_ Tryd.func32 (by kernel_rfl) rfl
       have eq41_ : ∀ args w, (callFunc 41 args).run Tryd.prog w = .ok (.enter 41 args) w := enters_ Tryd.func41 (by kernel_rfl) rfl
       have eq42_ : ∀ args w, (callFunc 42 args).run Tryd.prog w = .ok (.enter 42 args) w := enters_ Tryd.func42 (by kernel_rfl) rfl
       repeat (go_big_quiet_step ((rename_i p_; have hb := p_.h; have n0_ := Aside0.mk (blk_below (g := gb657) (o := .cells #[.int .i64 a0_0, .int .i64 a0_1, .int .i64 a0_2, .int .i64 a0_3, .slice A0_4 l0_4.length c0_4, .slice A0_5 l0_5.length c0_5, .slice A0_6 l0_6.length c0_6, .int .i64 a0_7] 29 (0, 0)) Z22 hb); have n1_ := Aside0.mk (below_step Z10 hb); have BK657 := n0_; have HB := n1_; first | (go_at_fn 41; with_reducible exact Calls.bw0 (spec_l15Servers.calls a1 true _ A3.out)) | (go_at_fn 32; with_reducible exact Calls.bw0 (spec_l1In.calls a0_0 1 100000 true _ A5.out)) | (go_at_fn 42; with_reducible refine Calls.bw (spec_ProofOk.calls k a0_2 a0_3 _ _ l0_4 _ _ l0_5 a1 true _ ?side1 ?side2 ?side3 ?side4 A9.out); (case side1 => exact J29); (case side2 => exact HC0_4.out); (case side3 => exact J30); (case side4 => exact HC0_5.out)))))
       refine wpQuiet_nil ?_
       clear sq0_ sq1_ sq2_ sq3_ sq4_ sq5_ sq6_ sq7_ eq32_ eq41_ eq42_
       rintro w22 ⟨q_, hq_⟩
       have hb := q_.h
       rw [← hq_] at hb
       clear hq_ q_
       replace BK657 := Aside0.mk (blk_below (g := gb657) (o := .cells #[.int .i64 a0_0, .int .i64 a0_1, .int .i64 a0_2, .int .i64 a0_3, .slice A0_4 l0_4.length c0_4, .slice A0_5 l0_5.length c0_5, .slice A0_6 l0_6.length c0_6, .int .i64 a0_7] 29 (0, 0)) Z22 hb)
       replace HB := Aside0.mk (below_step Z10 hb)
       (try clear hb)
       (try clear hb2)
       (try clear hk)
       (try clear hi)
       try go_wp2
       go_ret
       exact ⟨J0, J18⟩
     ·replace c10 := Bool.eq_false_iff.mpr c10
      subst c10
      have H1 : (some false) = some r := by rw [if_neg (show ¬ (false = true) by decide)] at H; exact H
      clear H
      have H := H1
      clear H1
      obtain rfl := Option.some.inj H
      go_enter Tryd.func16, Tryd.ntmps16
      try go_wp2_with (first | ((with_reducible refine gate_dst (N := 2) rfl ?_); refine box_event ?hg (N := 2) ?hd (cs := #[.int .i64 a0_0, .int .i64 a0_1, .int .i64 a0_2, .int .i64 a0_3, .slice A0_4 l0_4.length c0_4, .slice A0_5 l0_5.length c0_5, .slice A0_6 l0_6.length c0_6, .int .i64 a0_7]) (t := 29) ?hr ?_; (case hd => rfl); (case hg => rfl); (case hr => first | (go_simp; done) | (go_simp; rfl)); intro gb657 hg w23 hbox hb; have BK657 := Aside0.mk (hbox); have GW657 := Aside0.mk ((by rw [hg]; exact (below_size Z0) : w.heap.size ≤ gb657)); have GE657 := Aside0.mk ((by rw [hg]; exact (below_size Z0) : w.heap.size ≤ gb657)); replace HB := Aside0.mk (below_step Z0 hb); clear hb hbox hg))
      replace BK657 := Aside0.mk (blk_drew BK657.out)
      replace HB := Aside0.mk (below_drew1 HB.out)
      refine wp_quiet_below (by kernel_rfl) (by kernel_rfl) ?_
      generalize w23.drew = w24 at BK657 HB ⊢
      have sq0_ : ∀ p_ : Bw w24, p_.W.cell? ⟨gb657, 0, none⟩ = some (.int .i64 a0_0) := fun p_ => p_.cell ((blk_cell BK657.out 0).trans rfl)
      have sq1_ : ∀ p_ : Bw w24, p_.W.cell? ⟨gb657, 1, none⟩ = some (.int .i64 a0_1) := fun p_ => p_.cell ((blk_cell BK657.out 1).trans rfl)
      have sq2_ : ∀ p_ : Bw w24, p_.W.cell? ⟨gb657, 2, none⟩ = some (.int .i64 a0_2) := fun p_ => p_.cell ((blk_cell BK657.out 2).trans rfl)
      have sq3_ : ∀ p_ : Bw w24, p_.W.cell? ⟨gb657, 3, none⟩ = some (.int .i64 a0_3) := fun p_ => p_.cell ((blk_cell BK657.out 3).trans rfl)
      have sq4_ : ∀ p_ : Bw w24, p_.W.cell? ⟨gb657, 4, none⟩ = some (.slice A0_4 l0_4.length c0_4) := fun p_ => p_.cell ((blk_cell BK657.out 4).trans rfl)
      have sq5_ : ∀ p_ : Bw w24, p_.W.cell? ⟨gb657, 5, none⟩ = some (.slice A0_5 l0_5.length c0_5) := fun p_ => p_.cell ((blk_cell BK657.out 5).trans rfl)
      have sq6_ : ∀ p_ : Bw w24, p_.W.cell? ⟨gb657, 6, none⟩ = some (.slice A0_6 l0_6.length c0_6) := fun p_ => p_.cell ((blk_cell BK657.out 6).trans rfl)
      have sq7_ : ∀ p_ : Bw w24, p_.W.cell? ⟨gb657, 7, none⟩ = some (.int .i64 a0_7) := fun p_ => p_.cell ((blk_cell BK657.out 7).trans rfl)
      have eq32_ : ∀ args w, (callFunc 32 args).run Tryd.prog w = .ok (.enter 32 args) w := enters_ Tryd.func32 (by kernel_rfl) rfl
      have eq41_ : ∀ args w, (callFunc 41 args).run Tryd.prog w = .ok (.enter 41 args) w := enters_ Tryd.func41 (by kernel_rfl) rfl
      have eq42_ : ∀ args w, (callFunc 42 args).run Tryd.prog w = .ok (.enter 42 args) w := enters_ Tryd.func42 (by kernel_rfl) rfl
      repeat (go_big_quiet_step ((rename_i p_; have hb := p_.h; have n0_ := Aside0.mk (blk_below (g := gb657) (o := .cells #[.int .i64 a0_0, .int .i64 a0_1, .int .i64 a0_2, .int .i64 a0_3, .slice A0_4 l0_4.length c0_4, .slice A0_5 l0_5.length c0_5, .slice A0_6 l0_6.length c0_6, .int .i64 a0_7] 29 (0, 0)) Z22 hb); have n1_ := Aside0.mk (below_step Z10 hb); have BK657 := n0_; have HB := n1_; first | (go_at_fn 41; with_reducible exact Calls.bw0 (spec_l15Servers.calls a1 true _ A3.out)) | (go_at_fn 32; with_reducible exact Calls.bw0 (spec_l1In.calls a0_0 1 100000 true _ A5.out)) | (go_at_fn 42; with_reducible refine Calls.bw (spec_ProofOk.calls k a0_2 a0_3 _ _ l0_4 _ _ l0_5 a1 false _ ?side1 ?side2 ?side3 ?side4 A9.out); (case side1 => exact J29); (case side2 => exact HC0_4.out); (case side3 => exact J30); (case side4 => exact HC0_5.out)))))
      refine wpQuiet_nil ?_
      clear sq0_ sq1_ sq2_ sq3_ sq4_ sq5_ sq6_ sq7_ eq32_ eq41_ eq42_
      rintro w25 ⟨q_, hq_⟩
      have hb := q_.h
      rw [← hq_] at hb
      clear hq_ q_
      replace BK657 := Aside0.mk (blk_below (g := gb657) (o := .cells #[.int .i64 a0_0, .int .i64 a0_1, .int .i64 a0_2, .int .i64 a0_3, .slice A0_4 l0_4.length c0_4, .slice A0_5 l0_5.length c0_5, .slice A0_6 l0_6.length c0_6, .int .i64 a0_7] 29 (0, 0)) Z22 hb)
      replace HB := Aside0.mk (below_step Z10 hb)
      (try clear hb)
      (try clear hb2)
      (try clear hk)
      (try clear hi)
      try go_wp2
      go_ret
      exact ⟨J0, J18⟩
    ·rw [if_neg c8] at H
     have c8b0 : (a0_7 == (Int.tmod a0_0 a1)) = false := beq_eq_false_iff_ne.mpr c8
     have c8b1 : (a0_7 != (Int.tmod a0_0 a1)) = true := bne_iff_ne.mpr c8
     obtain rfl := Option.some.inj H
     go_enter Tryd.func16, Tryd.ntmps16
     try go_wp2_with (first | ((with_reducible refine gate_dst (N := 2) rfl ?_); refine box_event ?hg (N := 2) ?hd (cs := #[.int .i64 a0_0, .int .i64 a0_1, .int .i64 a0_2, .int .i64 a0_3, .slice A0_4 l0_4.length c0_4, .slice A0_5 l0_5.length c0_5, .slice A0_6 l0_6.length c0_6, .int .i64 a0_7]) (t := 29) ?hr ?_; (case hd => rfl); (case hg => rfl); (case hr => first | (go_simp; done) | (go_simp; rfl)); intro gb657 hg w26 hbox hb; have BK657 := Aside0.mk (hbox); have GW657 := Aside0.mk ((by rw [hg]; exact (below_size Z0) : w.heap.size ≤ gb657)); have GE657 := Aside0.mk ((by rw [hg]; exact (below_size Z0) : w.heap.size ≤ gb657)); replace HB := Aside0.mk (below_step Z0 hb); clear hb hbox hg))
     replace BK657 := Aside0.mk (blk_drew BK657.out)
     replace HB := Aside0.mk (below_drew1 HB.out)
     refine wp_quiet_drawn (by kernel_rfl) (by kernel_rfl) ?_
     generalize w26.drew = w27 at BK657 HB ⊢
     have sq0_ : ∀ p_ : Bd w27, (w27.drewN p_.n).cell? ⟨gb657, 0, none⟩ = some (.int .i64 a0_0) := fun p_ => p_.cell ((blk_cell BK657.out 0).trans rfl)
     have sq1_ : ∀ p_ : Bd w27, (w27.drewN p_.n).cell? ⟨gb657, 1, none⟩ = some (.int .i64 a0_1) := fun p_ => p_.cell ((blk_cell BK657.out 1).trans rfl)
     have sq2_ : ∀ p_ : Bd w27, (w27.drewN p_.n).cell? ⟨gb657, 2, none⟩ = some (.int .i64 a0_2) := fun p_ => p_.cell ((blk_cell BK657.out 2).trans rfl)
     have sq3_ : ∀ p_ : Bd w27, (w27.drewN p_.n).cell? ⟨gb657, 3, none⟩ = some (.int .i64 a0_3) := fun p_ => p_.cell ((blk_cell BK657.out 3).trans rfl)
     have sq4_ : ∀ p_ : Bd w27, (w27.drewN p_.n).cell? ⟨gb657, 4, none⟩ = some (.slice A0_4 l0_4.length c0_4) := fun p_ => p_.cell ((blk_cell BK657.out 4).trans rfl)
     have sq5_ : ∀ p_ : Bd w27, (w27.drewN p_.n).cell? ⟨gb657, 5, none⟩ = some (.slice A0_5 l0_5.length c0_5) := fun p_ => p_.cell ((blk_cell BK657.out 5).trans rfl)
     have sq6_ : ∀ p_ : Bd w27, (w27.drewN p_.n).cell? ⟨gb657, 6, none⟩ = some (.slice A0_6 l0_6.length c0_6) := fun p_ => p_.cell ((blk_cell BK657.out 6).trans rfl)
     have sq7_ : ∀ p_ : Bd w27, (w27.drewN p_.n).cell? ⟨gb657, 7, none⟩ = some (.int .i64 a0_7) := fun p_ => p_.cell ((blk_cell BK657.out 7).trans rfl)
     have eq32_ : ∀ args w, (callFunc 32 args).run Tryd.prog w = .ok (.enter 32 args) w := enters_ Tryd.func32 (by kernel_rfl) rfl
     have eq41_ : ∀ args w, (callFunc 41 args).run Tryd.prog w = .ok (.enter 41 args) w := enters_ Tryd.func41 (by kernel_rfl) rfl
     repeat (go_big_quiet_step ((rename_i p_; first | (go_at_fn 41; with_reducible exact Calls.bd (spec_l15Servers.calls a1 true _ A3.out)) | (go_at_fn 32; with_reducible exact Calls.bd (spec_l1In.calls a0_0 1 100000 true _ A5.out)))))
     refine wpQuiet_nil ?_
     clear sq0_ sq1_ sq2_ sq3_ sq4_ sq5_ sq6_ sq7_ eq32_ eq41_
     rintro _ ⟨⟨nd⟩, rfl⟩
     try go_wp2
     go_ret
     exact ⟨J0, J18⟩
  ·replace c6 := Bool.eq_false_iff.mpr c6
   subst c6
   have H1 : (some false) = some r := by rw [if_neg (show ¬ (false = true) by decide)] at H; exact H
   clear H
   have H := H1
   clear H1
   obtain rfl := Option.some.inj H
   go_enter Tryd.func16, Tryd.ntmps16
   try go_wp2_with (first | ((with_reducible refine gate_dst (N := 2) rfl ?_); refine box_event ?hg (N := 2) ?hd (cs := #[.int .i64 a0_0, .int .i64 a0_1, .int .i64 a0_2, .int .i64 a0_3, .slice A0_4 l0_4.length c0_4, .slice A0_5 l0_5.length c0_5, .slice A0_6 l0_6.length c0_6, .int .i64 a0_7]) (t := 29) ?hr ?_; (case hd => rfl); (case hg => rfl); (case hr => first | (go_simp; done) | (go_simp; rfl)); intro gb657 hg w28 hbox hb; have BK657 := Aside0.mk (hbox); have GW657 := Aside0.mk ((by rw [hg]; exact (below_size Z0) : w.heap.size ≤ gb657)); have GE657 := Aside0.mk ((by rw [hg]; exact (below_size Z0) : w.heap.size ≤ gb657)); replace HB := Aside0.mk (below_step Z0 hb); clear hb hbox hg))
   replace BK657 := Aside0.mk (blk_drew BK657.out)
   replace HB := Aside0.mk (below_drew1 HB.out)
   refine wp_quiet_drawn (by kernel_rfl) (by kernel_rfl) ?_
   generalize w28.drew = w29 at BK657 HB ⊢
   have sq0_ : ∀ p_ : Bd w29, (w29.drewN p_.n).cell? ⟨gb657, 0, none⟩ = some (.int .i64 a0_0) := fun p_ => p_.cell ((blk_cell BK657.out 0).trans rfl)
   have sq1_ : ∀ p_ : Bd w29, (w29.drewN p_.n).cell? ⟨gb657, 1, none⟩ = some (.int .i64 a0_1) := fun p_ => p_.cell ((blk_cell BK657.out 1).trans rfl)
   have sq2_ : ∀ p_ : Bd w29, (w29.drewN p_.n).cell? ⟨gb657, 2, none⟩ = some (.int .i64 a0_2) := fun p_ => p_.cell ((blk_cell BK657.out 2).trans rfl)
   have sq3_ : ∀ p_ : Bd w29, (w29.drewN p_.n).cell? ⟨gb657, 3, none⟩ = some (.int .i64 a0_3) := fun p_ => p_.cell ((blk_cell BK657.out 3).trans rfl)
   have sq4_ : ∀ p_ : Bd w29, (w29.drewN p_.n).cell? ⟨gb657, 4, none⟩ = some (.slice A0_4 l0_4.length c0_4) := fun p_ => p_.cell ((blk_cell BK657.out 4).trans rfl)
   have sq5_ : ∀ p_ : Bd w29, (w29.drewN p_.n).cell? ⟨gb657, 5, none⟩ = some (.slice A0_5 l0_5.length c0_5) := fun p_ => p_.cell ((blk_cell BK657.out 5).trans rfl)
   have sq6_ : ∀ p_ : Bd w29, (w29.drewN p_.n).cell? ⟨gb657, 6, none⟩ = some (.slice A0_6 l0_6.length c0_6) := fun p_ => p_.cell ((blk_cell BK657.out 6).trans rfl)
   have sq7_ : ∀ p_ : Bd w29, (w29.drewN p_.n).cell? ⟨gb657, 7, none⟩ = some (.int .i64 a0_7) := fun p_ => p_.cell ((blk_cell BK657.out 7).trans rfl)
   have eq32_ : ∀ args w, (callFunc 32 args).run Tryd.prog w = .ok (.enter 32 args) w := enters_ Tryd.func32 (by kernel_rfl) rfl
   have eq41_ : ∀ args w, (callFunc 41 args).run Tryd.prog w = .ok (.enter 41 args) w := enters_ Tryd.func41 (by kernel_rfl) rfl
   repeat (go_big_quiet_step ((rename_i p_; first | (go_at_fn 41; with_reducible exact Calls.bd (spec_l15Servers.calls a1 true _ A3.out)) | (go_at_fn 32; with_reducible exact Calls.bd (spec_l1In.calls a0_0 1 100000 false _ A5.out)))))
   refine wpQuiet_nil ?_
   clear sq0_ sq1_ sq2_ sq3_ sq4_ sq5_ sq6_ sq7_ eq32_ eq41_
   rintro _ ⟨⟨nd⟩, rfl⟩
   try go_wp2
   go_ret
   exact ⟨J0, J18⟩
 ·replace c4 := Bool.eq_false_iff.mpr c4
  subst c4
  have H1 : (some false) = some r := by rw [if_neg (show ¬ (false = true) by decide)] at H; exact H
  clear H
  have H := H1
  clear H1
  obtain rfl := Option.some.inj H
  go_enter Tryd.func16, Tryd.ntmps16
  try go_wp2_with (first | ((with_reducible refine gate_dst (N := 2) rfl ?_); refine box_event ?hg (N := 2) ?hd (cs := #[.int .i64 a0_0, .int .i64 a0_1, .int .i64 a0_2, .int .i64 a0_3, .slice A0_4 l0_4.length c0_4, .slice A0_5 l0_5.length c0_5, .slice A0_6 l0_6.length c0_6, .int .i64 a0_7]) (t := 29) ?hr ?_; (case hd => rfl); (case hg => rfl); (case hr => first | (go_simp; done) | (go_simp; rfl)); intro gb657 hg w30 hbox hb; have BK657 := Aside0.mk (hbox); have GW657 := Aside0.mk ((by rw [hg]; exact (below_size Z0) : w.heap.size ≤ gb657)); have GE657 := Aside0.mk ((by rw [hg]; exact (below_size Z0) : w.heap.size ≤ gb657)); replace HB := Aside0.mk (below_step Z0 hb); clear hb hbox hg))
  replace BK657 := Aside0.mk (blk_drew BK657.out)
  replace HB := Aside0.mk (below_drew1 HB.out)
  refine wp_quiet_drawn (by kernel_rfl) (by kernel_rfl) ?_
  generalize w30.drew = w31 at BK657 HB ⊢
  have eq41_ : ∀ args w, (callFunc 41 args).run Tryd.prog w = .ok (.enter 41 args) w := enters_ Tryd.func41 (by kernel_rfl) rfl
  repeat (go_big_quiet_step ((rename_i p_; go_at_fn 41; with_reducible exact Calls.bd (spec_l15Servers.calls a1 false _ A3.out))))
  refine wpQuiet_nil ?_
  clear eq41_
  rintro _ ⟨⟨nd⟩, rfl⟩
  try go_wp2
  go_ret
  exact ⟨J0, J18⟩

end Go.Proofs.YtokhjhkkncbjeaaDoor.PFnBlocks
